import Derived.Test.YtpkgdoapdijmeaaLkA
import Derived.Test.YtpkgdoapdijmeaaPm2
import Derived.Test.YtpkgdoapdijmeaaPm4

set_option linter.unusedVariables false
namespace Go.TFnOutcome
open Go Go.RowKit Go.Vs Go.Tv

@[reducible] def oo (d : Nat) (k : KT) : AOpT := ⟨some d, k, none, []⟩
@[reducible] def op (d : Nat) (k : KT) (f : List Nat) : AOpT := ⟨some d, k, none, f⟩
@[reducible] def on (k : KT) (f : List Nat) : AOpT := ⟨none, k, none, f⟩
@[reducible] def og (d : Option Nat) (k : KT) (i : Nat) (b : Bool) (f : List Nat) : AOpT := ⟨d, k, some (i, b), f⟩
@[reducible] def tt (i : Nat) : OpT := .tmp i
@[reducible] def nn (i : Int) : OpT := .const (.int .i64 i)
@[reducible] def rr (l : List AOpT) : ACT := .region false l
noncomputable def p100 : ProcT := { kind := .fn, ins := [0], bins := [], res := [.tmp 2], code := (.seq (rr [oo 2 (.mv (.const (.con .nilp)))])
 (.seq (.seq (rr [oo 3 (.mv (tt 0)),
oo 4 (.len (tt 3)),
oo 5 (.bin .gtr (tt 4) (nn 2000))])
 (.cond (tt 5) (rr [oo 6 (.mv (tt 0)),
oo 7 (.slc 1 (tt 6) none (some (nn 2000)) none),
oo 0 (.mv (.take 7))]) .skip))
 (.seq (rr [oo 8 (.mv (tt 0)),
oo 9 (.build [.sl (.own false) .u8 [], .int .i64 0] [(0, 1, tt 8)]),
oo 10 (.box 100 (tt 9)),
oo 2 (.mv (tt 10))])
 .ret))) }
noncomputable def p200 : ProcT := { kind := .fn, ins := [0, 1], bins := [0], res := [.tmp 4], code := (.seq (rr [oo 4 (.mv (nn 0))])
 (.seq (rr [oo 7 (.mv (tt 0)),
oo 8 (.mv (tt 0)),
oo 9 (.nilck (tt 8)),
oo 10 (.fadr 1 (tt 9)),
oo 11 (.load 1 false false (tt 10)),
oo 12 (.bin .add (tt 11) (nn 1)),
oo 13 (.nilck (tt 7)),
oo 14 (.fadr 1 (tt 13)),
on (.store 1 (tt 14) (tt 12)) []])
 (.seq (.seq (rr [oo 15 (.mv (tt 1)),
oo 16 (.bin .lss (tt 15) (nn 1)),
oo 17 (.mv (tt 16)),
og (some 18) (.mv (tt 0)) 17 false [],
og (some 19) (.nilck (tt 18)) 17 false [],
og (some 20) (.fadr 0 (tt 19)) 17 false [],
og (some 21) (.load 1 false false (tt 20)) 17 false [],
og (some 22) (.len (tt 21)) 17 false [],
og (some 23) (.bin .eql (tt 22) (nn 0)) 17 false [],
oo 24 (.pick (tt 17) (.const (.bool true)) (tt 23))])
 (.cond (tt 24) (.seq (rr [oo 4 (.mv (nn 0))])
 .ret) .skip))
 (.seq (rr [oo 25 (.mv (tt 0)),
oo 26 (.nilck (tt 25)),
oo 27 (.fadr 1 (tt 26)),
oo 28 (.load 1 false false (tt 27)),
oo 29 (.bin .sub (tt 28) (nn 1)),
oo 5 (.mv (tt 29))])
 (.seq (.seq (rr [oo 30 (.mv (tt 5)),
oo 31 (.mv (tt 0)),
oo 32 (.nilck (tt 31)),
oo 33 (.fadr 0 (tt 32)),
oo 34 (.load 1 false false (tt 33)),
oo 35 (.len (tt 34)),
oo 36 (.bin .lss (tt 30) (tt 35))])
 (.cond (tt 36) (.seq (rr [oo 37 (.mv (tt 0)),
oo 38 (.nilck (tt 37)),
oo 39 (.fadr 0 (tt 38)),
oo 40 (.load 1 false false (tt 39)),
oo 41 (.mv (tt 5)),
oo 42 (.iadr 1 (tt 40) (tt 41)),
oo 43 (.load 1 false false (tt 42)),
oo 44 (.conv (.int .i64) (tt 43)),
oo 45 (.mv (tt 1)),
oo 46 (.bin .rem (tt 44) (tt 45)),
oo 4 (.mv (tt 46))])
 .ret) .skip))
 (.seq (.region true [oo 47 (.mv (tt 0)),
op 48 (.nilck (tt 47)) [0],
op 49 (.fadr 0 (tt 48)) [0],
op 50 (.load 1 false false (tt 49)) [0],
oo 51 (.mv (tt 5)),
oo 52 (.mv (tt 0)),
op 53 (.nilck (tt 52)) [0],
op 54 (.fadr 0 (tt 53)) [0],
op 55 (.load 1 false false (tt 54)) [0],
oo 56 (.len (tt 55)),
oo 57 (.bin .rem (tt 51) (tt 56)),
oo 58 (.iadr 1 (tt 50) (tt 57)),
oo 59 (.load 1 false false (tt 58)),
oo 60 (.conv (.int .i64) (tt 59)),
oo 61 (.bin .mul (tt 60) (nn 131)),
oo 62 (.mv (tt 0)),
op 63 (.nilck (tt 62)) [0],
op 64 (.fadr 0 (tt 63)) [0],
op 65 (.load 1 false false (tt 64)) [0],
oo 66 (.mv (tt 5)),
oo 67 (.bin .mul (tt 66) (nn 7)),
oo 68 (.bin .add (tt 67) (nn 3)),
oo 69 (.mv (tt 0)),
op 70 (.nilck (tt 69)) [0],
op 71 (.fadr 0 (tt 70)) [0],
op 72 (.load 1 false false (tt 71)) [0],
oo 73 (.len (tt 72)),
oo 74 (.bin .rem (tt 68) (tt 73)),
oo 75 (.iadr 1 (tt 65) (tt 74)),
oo 76 (.load 1 false false (tt 75)),
oo 77 (.conv (.int .i64) (tt 76)),
oo 78 (.bin .mul (tt 77) (nn 1117)),
oo 79 (.bin .add (tt 61) (tt 78)),
oo 80 (.mv (tt 5)),
oo 81 (.bin .mul (tt 80) (nn 29)),
oo 82 (.bin .add (tt 79) (tt 81)),
oo 83 (.mv (tt 5)),
oo 84 (.mv (tt 0)),
op 85 (.nilck (tt 84)) [0],
op 86 (.fadr 0 (tt 85)) [0],
op 87 (.load 1 false false (tt 86)) [0],
oo 88 (.len (tt 87)),
oo 89 (.bin .quo (tt 83) (tt 88)),
oo 90 (.bin .mul (tt 89) (nn 53)),
oo 91 (.bin .add (tt 82) (tt 90)),
oo 6 (.mv (tt 91))])
 (.seq (rr [oo 92 (.mv (tt 6)),
oo 93 (.mv (tt 6)),
oo 94 (.bin .quo (tt 93) (nn 64)),
oo 95 (.bin .xor (tt 92) (tt 94)),
oo 6 (.mv (tt 95))])
 (.seq (rr [oo 96 (.mv (tt 6)),
oo 97 (.mv (tt 1)),
oo 98 (.bin .rem (tt 96) (tt 97)),
oo 4 (.mv (tt 98))])
 .ret)))))))) }
noncomputable def p300 : ProcT := { kind := .fn, ins := [0, 1], bins := [], res := [.keep 4 3], code := (.seq (rr [oo 4 (.alloc 100 [.int .i64 0, .int .i64 0, .sl (.own false) .exp []])])
 (.seq (rr [oo 5 (.mv (tt 0)),
oo 6 (.mv (tt 1)),
oo 7 (.buildS (.own false) .exp []),
oo 8 (.build [.int .i64 0, .int .i64 0, .sl (.own false) .exp []] [(0, 1, tt 5), (1, 1, tt 6), (2, 1, tt 7)]),
on (.store 3 (tt 4) (tt 8)) []])
 .ret)) }
noncomputable def p400 : ProcT := { kind := .fn, ins := [0], bins := [0], res := [.keep 2 3], code := (.seq (rr [oo 2 (.alloc 100 [.int .i64 0, .int .i64 0, .sl (.own false) .exp []])])
 (.seq (.seq (rr [oo 3 (.mv (tt 0)),
oo 4 (.call 200 0 [tt 3, nn 4])])
 (.block 0 (.seq (rr [oo 6 (.bin .eql (tt 4) (nn 0)),
oo 5 (.mv (tt 6))])
 (.cond (tt 5) (.seq (rr [oo 7 (.mv (tt 0)),
oo 8 (.call 200 0 [tt 7, nn 4]),
oo 9 (.call 300 0 [nn 0, tt 8]),
on (.store 3 (tt 2) (tt 9)) []])
 .ret) (.seq (rr [oo 11 (.bin .eql (tt 4) (nn 1)),
oo 10 (.mv (tt 11))])
 (.cond (tt 10) (.seq (rr [oo 12 (.buildS .full .int [nn 5, nn 31, nn 32, nn 100, nn 2047, nn 2048, nn 65536, nn 99999]),
oo 13 (.mv (tt 0)),
oo 14 (.call 200 0 [tt 13, nn 8]),
oo 15 (.iadr 1 (tt 12) (tt 14)),
oo 16 (.load 1 false false (tt 15)),
oo 17 (.call 300 0 [nn 0, tt 16]),
on (.store 3 (tt 2) (tt 17)) []])
 .ret) .skip))))))
 (.seq (rr [oo 18 (.mv (tt 0)),
oo 19 (.call 200 0 [tt 18, nn 4]),
oo 20 (.call 300 0 [nn 13, tt 19]),
on (.store 3 (tt 2) (tt 20)) []])
 .ret))) }
noncomputable def p500 : ProcT := { kind := .fn, ins := [0, 1, 2], bins := [], res := [.keep 6 3], code := (.seq (rr [oo 4 (.box 100 (tt 1)),
oo 5 (.box 101 (tt 2)),
oo 6 (.alloc 102 [.int .i64 0, .int .i64 0, .sl (.own false) .exp []])])
 (.seq (rr [oo 7 (.mv (tt 0)),
oo 8 (.load 3 true false (tt 4)),
oo 9 (.load 3 true false (tt 5)),
oo 10 (.buildS .full .exp [tt 8, tt 9]),
oo 11 (.build [.int .i64 0, .int .i64 0, .sl (.own false) .exp []] [(0, 1, tt 7), (2, 1, tt 10)]),
on (.store 3 (tt 6) (tt 11)) []])
 .ret)) }
noncomputable def p600 : ProcT := { kind := .fn, ins := [0], bins := [0], res := [.tmp 2], code := (.seq (rr [oo 2 (.mv (nn 0))])
 (.seq (rr [oo 3 (.mv (tt 0)),
oo 4 (.call 200 0 [tt 3, nn 12]),
oo 5 (.bin .add (nn 1) (tt 4)),
oo 2 (.mv (tt 5))])
 .ret)) }
noncomputable def p700 : ProcT := { kind := .fn, ins := [0, 1], bins := [0], res := [.keep 4 3], code := (.seq (rr [oo 4 (.alloc 100 [.int .i64 0, .int .i64 0, .sl (.own false) .exp []])])
 (.seq (.seq (rr [oo 7 (.mv (tt 1)),
oo 8 (.bin .lss (tt 7) (nn 2)),
oo 9 (.mv (tt 8)),
og (some 10) (.mv (tt 0)) 9 false [],
og (some 11) (.call 200 0 [tt 10, nn 3]) 9 false [],
og (some 12) (.bin .eql (tt 11) (nn 0)) 9 false [],
oo 13 (.pick (tt 9) (.const (.bool true)) (tt 12))])
 (.cond (tt 13) (.seq (rr [oo 14 (.mv (tt 0)),
oo 15 (.call 400 0 [tt 14]),
on (.store 3 (tt 4) (tt 15)) []])
 .ret) .skip))
 (.seq (rr [oo 16 (.mv (tt 0)),
oo 17 (.call 600 0 [tt 16]),
oo 5 (.mv (tt 17))])
 (.seq (rr [oo 18 (.mv (tt 0)),
oo 19 (.mv (tt 1)),
oo 20 (.bin .sub (tt 19) (nn 1)),
oo 21 (.call 700 0 [tt 18, tt 20]),
oo 6 (.alloc 101 [.int .i64 0, .int .i64 0, .sl (.own false) .exp []]),
on (.store 3 (tt 6) (tt 21)) []])
 (.seq (.region true [oo 22 (.mv (tt 5)),
op 23 (.load 3 true false (tt 6)) [101],
oo 24 (.mv (tt 0)),
oo 25 (.mv (tt 1)),
oo 26 (.bin .sub (tt 25) (nn 1)),
op 27 (.call 700 0 [tt 24, tt 26]) [0],
oo 28 (.call 500 0 [tt 22, tt 23, tt 27]),
on (.store 3 (tt 4) (tt 28)) [100]])
 .ret))))) }
noncomputable def p1000 : ProcT := { kind := .fn, ins := [0], bins := [], res := [.tmp 2], code := (.seq (rr [oo 2 (.mv (.const (.bool false)))])
 (.seq (rr [oo 3 (.mv (tt 0)),
oo 4 (.bin .geq (tt 3) (nn 1)),
oo 5 (.mv (tt 4)),
og (some 6) (.mv (tt 0)) 5 true [],
og (some 7) (.bin .leq (tt 6) (nn 12)) 5 true [],
oo 8 (.pick (tt 5) (tt 7) (.const (.bool false))),
oo 2 (.mv (tt 8))])
 .ret)) }
noncomputable def p1100 : ProcT := { kind := .fn, ins := [0, 1], bins := [], res := [.tmp 4], code := (.seq (rr [oo 2 (.box 100 (tt 0)),
oo 4 (.mv (.const (.bool false)))])
 (.seq (.block 0 (.seq (rr [oo 6 (.fadr 0 (tt 2)),
oo 7 (.load 1 false false (tt 6)),
oo 8 (.bin .eql (tt 7) (nn 0)),
oo 5 (.mv (tt 8))])
 (.cond (tt 5) (.seq (rr [oo 9 (.fadr 1 (tt 2)),
oo 10 (.load 1 false false (tt 9)),
oo 11 (.bin .geq (tt 10) (nn 0)),
oo 12 (.mv (tt 11)),
og (some 13) (.fadr 1 (tt 2)) 12 true [],
og (some 14) (.load 1 false false (tt 13)) 12 true [],
og (some 15) (.bin .leq (tt 14) (nn 99999)) 12 true [],
oo 16 (.pick (tt 12) (tt 15) (.const (.bool false))),
oo 17 (.mv (tt 16)),
og (some 18) (.fadr 2 (tt 2)) 17 true [],
og (some 19) (.load 1 false false (tt 18)) 17 true [],
og (some 20) (.len (tt 19)) 17 true [],
og (some 21) (.bin .eql (tt 20) (nn 0)) 17 true [],
oo 22 (.pick (tt 17) (tt 21) (.const (.bool false))),
oo 23 (.mv (tt 22)),
og (some 24) (.mv (tt 1)) 23 true [],
og (some 25) (.bin .gtr (tt 24) (nn 0)) 23 true [],
oo 26 (.pick (tt 23) (tt 25) (.const (.bool false))),
oo 4 (.mv (tt 26))])
 .ret) (.seq (rr [oo 28 (.fadr 0 (tt 2)),
oo 29 (.load 1 false false (tt 28)),
oo 30 (.bin .eql (tt 29) (nn 13)),
oo 27 (.mv (tt 30))])
 (.cond (tt 27) (.seq (rr [oo 31 (.fadr 1 (tt 2)),
oo 32 (.load 1 false false (tt 31)),
oo 33 (.bin .geq (tt 32) (nn 0)),
oo 34 (.mv (tt 33)),
og (some 35) (.fadr 1 (tt 2)) 34 true [],
og (some 36) (.load 1 false false (tt 35)) 34 true [],
og (some 37) (.bin .lss (tt 36) (nn 4)) 34 true [],
oo 38 (.pick (tt 34) (tt 37) (.const (.bool false))),
oo 39 (.mv (tt 38)),
og (some 40) (.fadr 2 (tt 2)) 39 true [],
og (some 41) (.load 1 false false (tt 40)) 39 true [],
og (some 42) (.len (tt 41)) 39 true [],
og (some 43) (.bin .eql (tt 42) (nn 0)) 39 true [],
oo 44 (.pick (tt 39) (tt 43) (.const (.bool false))),
oo 45 (.mv (tt 44)),
og (some 46) (.mv (tt 1)) 45 true [],
og (some 47) (.bin .gtr (tt 46) (nn 0)) 45 true [],
oo 48 (.pick (tt 45) (tt 47) (.const (.bool false))),
oo 4 (.mv (tt 48))])
 .ret) .skip)))))
 (.seq (rr [oo 49 (.fadr 0 (tt 2)),
oo 50 (.load 1 false false (tt 49)),
oo 51 (.call 1000 0 [tt 50]),
oo 52 (.mv (tt 51)),
og (some 53) (.fadr 1 (tt 2)) 52 true [],
og (some 54) (.load 1 false false (tt 53)) 52 true [],
og (some 55) (.bin .eql (tt 54) (nn 0)) 52 true [],
oo 56 (.pick (tt 52) (tt 55) (.const (.bool false))),
oo 57 (.mv (tt 56)),
og (some 58) (.fadr 2 (tt 2)) 57 true [],
og (some 59) (.load 1 false false (tt 58)) 57 true [],
og (some 60) (.len (tt 59)) 57 true [],
og (some 61) (.bin .eql (tt 60) (nn 2)) 57 true [],
oo 62 (.pick (tt 57) (tt 61) (.const (.bool false))),
oo 63 (.mv (tt 62)),
og (some 64) (.mv (tt 1)) 63 true [],
og (some 65) (.bin .gtr (tt 64) (nn 1)) 63 true [],
oo 66 (.pick (tt 63) (tt 65) (.const (.bool false))),
oo 67 (.mv (tt 66)),
og (some 68) (.fadr 2 (tt 2)) 67 true [],
og (some 69) (.load 1 false false (tt 68)) 67 true [],
og (some 70) (.iadr 3 (tt 69) (nn 0)) 67 true [],
og (some 71) (.load 3 true false (tt 70)) 67 true [],
og (some 72) (.mv (tt 1)) 67 true [],
og (some 73) (.bin .sub (tt 72) (nn 1)) 67 true [],
og (some 74) (.call 1100 0 [tt 71, tt 73]) 67 true [],
oo 75 (.pick (tt 67) (tt 74) (.const (.bool false))),
oo 76 (.mv (tt 75)),
og (some 77) (.fadr 2 (tt 2)) 76 true [],
og (some 78) (.load 1 false false (tt 77)) 76 true [],
og (some 79) (.iadr 3 (tt 78) (nn 1)) 76 true [],
og (some 80) (.load 3 true false (tt 79)) 76 true [],
og (some 81) (.mv (tt 1)) 76 true [],
og (some 82) (.bin .sub (tt 81) (nn 1)) 76 true [],
og (some 83) (.call 1100 0 [tt 80, tt 82]) 76 true [],
oo 84 (.pick (tt 76) (tt 83) (.const (.bool false))),
oo 4 (.mv (tt 84))])
 .ret))) }
noncomputable def p1200 : ProcT := { kind := .fn, ins := [0], bins := [], res := [.tmp 2], code := (.seq (rr [oo 1 (.box 100 (tt 0)),
oo 2 (.mv (.const (.bool false)))])
 (.seq (rr [oo 3 (.load 3 true false (tt 1)),
oo 4 (.call 1100 0 [tt 3, nn 5]),
oo 2 (.mv (tt 4))])
 .ret)) }
noncomputable def p1600 : ProcT := { kind := .fn, ins := [0, 1, 2], bins := [], res := [.tmp 6], code := (.seq (rr [oo 6 (.mv (.const (.bool false)))])
 (.seq (rr [oo 7 (.mv (tt 0)),
oo 8 (.mv (tt 1)),
oo 9 (.bin .geq (tt 7) (tt 8)),
oo 10 (.mv (tt 9)),
og (some 11) (.mv (tt 0)) 10 true [],
og (some 12) (.mv (tt 2)) 10 true [],
og (some 13) (.bin .leq (tt 11) (tt 12)) 10 true [],
oo 14 (.pick (tt 10) (tt 13) (.const (.bool false))),
oo 6 (.mv (tt 14))])
 .ret)) }
noncomputable def p1700 : ProcT := { kind := .fn, ins := [0], bins := [], res := [.tmp 2], code := (.seq (rr [oo 2 (.mv (.const (.bool false)))])
 (.seq (rr [oo 3 (.mv (tt 0)),
oo 4 (.call 1600 0 [tt 3, nn 1, nn 12]),
oo 2 (.mv (tt 4))])
 .ret)) }
noncomputable def p1800 : ProcT := { kind := .fn, ins := [0, 1], bins := [], res := [.tmp 4], code := (.seq (rr [oo 2 (.box 100 (tt 0)),
oo 4 (.mv (.const (.bool false)))])
 (.seq (.seq (rr [oo 5 (.mv (tt 1)),
oo 6 (.bin .lss (tt 5) (nn 1))])
 (.cond (tt 6) (.seq (rr [oo 4 (.mv (.const (.bool false)))])
 .ret) .skip))
 (.seq (.seq (rr [oo 7 (.fadr 0 (tt 2)),
oo 8 (.load 1 false false (tt 7)),
oo 9 (.bin .eql (tt 8) (nn 0))])
 (.cond (tt 9) (.seq (rr [oo 10 (.fadr 1 (tt 2)),
oo 11 (.load 1 false false (tt 10)),
oo 12 (.call 1600 0 [tt 11, nn 0, nn 99999]),
oo 13 (.mv (tt 12)),
og (some 14) (.fadr 2 (tt 2)) 13 true [],
og (some 15) (.load 1 false false (tt 14)) 13 true [],
og (some 16) (.len (tt 15)) 13 true [],
og (some 17) (.bin .eql (tt 16) (nn 0)) 13 true [],
oo 18 (.pick (tt 13) (tt 17) (.const (.bool false))),
oo 4 (.mv (tt 18))])
 .ret) .skip))
 (.seq (.seq (rr [oo 19 (.fadr 0 (tt 2)),
oo 20 (.load 1 false false (tt 19)),
oo 21 (.bin .eql (tt 20) (nn 13))])
 (.cond (tt 21) (.seq (rr [oo 22 (.fadr 1 (tt 2)),
oo 23 (.load 1 false false (tt 22)),
oo 24 (.call 1600 0 [tt 23, nn 0, nn 3]),
oo 25 (.mv (tt 24)),
og (some 26) (.fadr 2 (tt 2)) 25 true [],
og (some 27) (.load 1 false false (tt 26)) 25 true [],
og (some 28) (.len (tt 27)) 25 true [],
og (some 29) (.bin .eql (tt 28) (nn 0)) 25 true [],
oo 30 (.pick (tt 25) (tt 29) (.const (.bool false))),
oo 4 (.mv (tt 30))])
 .ret) .skip))
 (.seq (rr [oo 31 (.fadr 0 (tt 2)),
oo 32 (.load 1 false false (tt 31)),
oo 33 (.call 1700 0 [tt 32]),
oo 34 (.mv (tt 33)),
og (some 35) (.fadr 1 (tt 2)) 34 true [],
og (some 36) (.load 1 false false (tt 35)) 34 true [],
og (some 37) (.bin .eql (tt 36) (nn 0)) 34 true [],
oo 38 (.pick (tt 34) (tt 37) (.const (.bool false))),
oo 39 (.mv (tt 38)),
og (some 40) (.fadr 2 (tt 2)) 39 true [],
og (some 41) (.load 1 false false (tt 40)) 39 true [],
og (some 42) (.len (tt 41)) 39 true [],
og (some 43) (.bin .eql (tt 42) (nn 2)) 39 true [],
oo 44 (.pick (tt 39) (tt 43) (.const (.bool false))),
oo 45 (.mv (tt 44)),
og (some 46) (.fadr 2 (tt 2)) 45 true [],
og (some 47) (.load 1 false false (tt 46)) 45 true [],
og (some 48) (.iadr 3 (tt 47) (nn 0)) 45 true [],
og (some 49) (.load 3 true false (tt 48)) 45 true [],
og (some 50) (.mv (tt 1)) 45 true [],
og (some 51) (.bin .sub (tt 50) (nn 1)) 45 true [],
og (some 52) (.call 1800 0 [tt 49, tt 51]) 45 true [],
oo 53 (.pick (tt 45) (tt 52) (.const (.bool false))),
oo 54 (.mv (tt 53)),
og (some 55) (.fadr 2 (tt 2)) 54 true [],
og (some 56) (.load 1 false false (tt 55)) 54 true [],
og (some 57) (.iadr 3 (tt 56) (nn 1)) 54 true [],
og (some 58) (.load 3 true false (tt 57)) 54 true [],
og (some 59) (.mv (tt 1)) 54 true [],
og (some 60) (.bin .sub (tt 59) (nn 1)) 54 true [],
og (some 61) (.call 1800 0 [tt 58, tt 60]) 54 true [],
oo 62 (.pick (tt 54) (tt 61) (.const (.bool false))),
oo 4 (.mv (tt 62))])
 .ret))))) }
noncomputable def p1900 : ProcT := { kind := .fn, ins := [0], bins := [], res := [.tmp 2], code := (.seq (rr [oo 1 (.box 100 (tt 0)),
oo 2 (.mv (.const (.bool false)))])
 (.seq (rr [oo 3 (.load 3 true false (tt 1)),
oo 4 (.call 1800 0 [tt 3, nn 5]),
oo 2 (.mv (tt 4))])
 .ret)) }
noncomputable def p3700 : ProcT := { kind := .fn, ins := [0], bins := [], res := [.tmp 2], code := (.seq (rr [oo 2 (.mv (nn 0))])
 (.seq (rr [oo 4 (.mv (tt 0)),
oo 5 (.bin .rem (tt 4) (nn 4294967296)),
oo 3 (.mv (tt 5))])
 (.seq (.seq (rr [oo 6 (.mv (tt 3)),
oo 7 (.bin .gtr (tt 6) (nn 2147483647))])
 (.cond (tt 7) (.seq (rr [oo 8 (.mv (tt 3)),
oo 9 (.bin .sub (tt 8) (nn 4294967296)),
oo 2 (.mv (tt 9))])
 .ret) .skip))
 (.seq (.seq (rr [oo 10 (.mv (tt 3)),
oo 11 (.bin .lss (tt 10) (nn (-2147483648)))])
 (.cond (tt 11) (.seq (rr [oo 12 (.mv (tt 3)),
oo 13 (.bin .add (tt 12) (nn 4294967296)),
oo 2 (.mv (tt 13))])
 .ret) .skip))
 (.seq (rr [oo 14 (.mv (tt 3)),
oo 2 (.mv (tt 14))])
 .ret))))) }
noncomputable def p4000 : ProcT := { kind := .fn, ins := [0], bins := [], res := [.tmp 2], code := (.seq (rr [oo 2 (.mv (nn 0))])
 (.seq (rr [oo 3 (.mv (nn 0))])
 (.seq (.seq (rr [oo 4 (.mv (nn 0))])
 (.block 0 (.label 4001)))
 (.seq (rr [oo 27 (.mv (tt 3)),
oo 2 (.mv (tt 27))])
 .ret)))) }
noncomputable def p4001 : ProcT := { kind := .loop, ins := [0, 3, 4], bins := [], outs := [2, 3], bouts := [], code := (.seq (.seq (rr [oo 5 (.mv (tt 4)),
oo 6 (.mv (tt 0)),
oo 7 (.len (tt 6)),
oo 8 (.bin .lss (tt 5) (tt 7))])
 (.cond (tt 8) .skip (.exit 0)))
 (.seq (.block 1 (.region true [oo 11 (.mv (tt 3)),
oo 12 (.bin .add (tt 11) (nn 1)),
oo 13 (.mv (tt 0)),
oo 14 (.mv (tt 4)),
oo 15 (.iadr 8 (tt 13) (tt 14)),
oo 16 (.fadr 6 (tt 15)),
oo 17 (.load 1 false false (tt 16)),
oo 18 (.call 4000 0 [tt 17]),
oo 19 (.bin .add (tt 12) (tt 18)),
oo 20 (.mv (tt 0)),
oo 21 (.mv (tt 4)),
oo 22 (.iadr 8 (tt 20) (tt 21)),
oo 23 (.fadr 7 (tt 22)),
oo 24 (.load 1 false false (tt 23)),
oo 25 (.call 4000 0 [tt 24]),
oo 26 (.bin .add (tt 19) (tt 25)),
oo 3 (.mv (tt 26))]))
 (rr [oo 9 (.mv (tt 4)),
oo 10 (.bin .add (tt 9) (nn 1)),
oo 4 (.mv (tt 10))]))) }
noncomputable def p4100 : ProcT := { kind := .fn, ins := [0, 1, 2, 3], bins := [0], res := [.cell 8 8 true], code := (.seq (rr [oo 8 (.alloc 100 [.int .i64 0, .int .i64 0, .int .i64 0, .int .i64 0, .int .i64 0, .sl (.own false) .exp [], .sl (.own false) .stm [], .sl (.own false) .stm []])])
 (.seq (rr [oo 11 (.mv (tt 0)),
oo 12 (.mv (tt 0)),
oo 13 (.call 200 0 [tt 12, nn 2]),
oo 14 (.bin .add (nn 1) (tt 13)),
oo 15 (.call 700 0 [tt 11, tt 14]),
oo 9 (.alloc 101 [.int .i64 0, .int .i64 0, .sl (.own false) .exp []]),
on (.store 3 (tt 9) (tt 15)) []])
 (.seq (rr [oo 16 (.mv (tt 0)),
oo 17 (.mv (tt 1)),
oo 18 (.mv (tt 2)),
oo 19 (.bin .sub (tt 18) (nn 1)),
oo 20 (.mv (tt 0)),
oo 21 (.call 200 0 [tt 20, nn 3]),
oo 22 (.mv (tt 3)),
oo 23 (.call 4600 0 [tt 16, tt 17, tt 19, tt 21, tt 22]),
oo 10 (.mv (.take 23))])
 (.seq (.region true [op 24 (.load 3 true false (tt 9)) [101],
oo 25 (.mv (tt 10)),
oo 26 (.mv (tt 0)),
oo 27 (.mv (tt 1)),
oo 28 (.mv (tt 2)),
oo 29 (.bin .sub (tt 28) (nn 1)),
oo 30 (.mv (tt 0)),
op 31 (.call 200 0 [tt 30, nn 3]) [0],
oo 32 (.mv (tt 3)),
op 33 (.call 4600 0 [tt 26, tt 27, tt 29, tt 31, tt 32]) [0],
oo 34 (.build [.int .i64 0, .int .i64 0, .int .i64 0, .int .i64 0, .int .i64 0, .sl (.own false) .exp [], .sl (.own false) .stm [], .sl (.own false) .stm []] [(0, 1, nn 2), (3, 3, tt 24), (6, 1, tt 25), (7, 1, tt 33)]),
on (.store 8 (tt 8) (tt 34)) [100]])
 .ret)))) }
noncomputable def p4200 : ProcT := { kind := .fn, ins := [0], bins := [0], res := [.cell 2 8 true], code := (.seq (rr [oo 2 (.alloc 100 [.int .i64 0, .int .i64 0, .int .i64 0, .int .i64 0, .int .i64 0, .sl (.own false) .exp [], .sl (.own false) .stm [], .sl (.own false) .stm []])])
 (.seq (rr [oo 4 (.mv (tt 0)),
oo 5 (.call 200 0 [tt 4, nn 3]),
oo 3 (.mv (tt 5))])
 (.seq (rr [oo 6 (.mv (tt 3)),
oo 7 (.mv (tt 0)),
oo 8 (.mv (tt 0)),
oo 9 (.call 200 0 [tt 8, nn 3]),
oo 10 (.bin .add (nn 1) (tt 9)),
oo 11 (.call 700 0 [tt 7, tt 10]),
oo 12 (.build [.int .i64 0, .int .i64 0, .int .i64 0, .int .i64 0, .int .i64 0, .sl (.own false) .exp [], .sl (.own false) .stm [], .sl (.own false) .stm []] [(0, 1, nn 1), (1, 1, tt 6), (3, 3, tt 11)]),
on (.store 8 (tt 2) (tt 12)) []])
 .ret))) }
noncomputable def p4300 : ProcT := { kind := .fn, ins := [0, 1, 2], bins := [0], res := [.tmp 6], code := (.seq (rr [oo 6 (.mv (.const (.sl (.own false) .stm [])))])
 (.seq (rr [oo 7 (.mv (nn 3))])
 (.seq (rr [oo 11 (.mv (tt 0)),
oo 12 (.mv (tt 1)),
oo 13 (.mv (tt 2)),
oo 14 (.bin .sub (tt 13) (nn 1)),
oo 15 (.mv (tt 0)),
oo 16 (.call 200 0 [tt 15, nn 3]),
oo 17 (.call 4600 0 [tt 11, tt 12, tt 14, tt 16, .const (.bool false)]),
oo 8 (.mv (.take 17))])
 (.seq (rr [oo 18 (.mv (tt 7)),
oo 19 (.mv (tt 7)),
oo 20 (.call 300 0 [nn 13, tt 19]),
oo 21 (.call 300 0 [nn 0, nn 1]),
oo 22 (.call 500 0 [nn 8, tt 20, tt 21]),
oo 23 (.build [.int .i64 0, .int .i64 0, .int .i64 0, .int .i64 0, .int .i64 0, .sl (.own false) .exp [], .sl (.own false) .stm [], .sl (.own false) .stm []] [(0, 1, nn 1), (1, 1, tt 18), (3, 3, tt 22)]),
oo 9 (.alloc 100 [.int .i64 0, .int .i64 0, .int .i64 0, .int .i64 0, .int .i64 0, .sl (.own false) .exp [], .sl (.own false) .stm [], .sl (.own false) .stm []]),
on (.store 8 (tt 9) (tt 23)) []])
 (.seq (.region true [oo 24 (.mv (tt 7)),
oo 25 (.call 300 0 [nn 13, tt 24]),
oo 26 (.mv (tt 0)),
op 27 (.call 200 0 [tt 26, nn 3]) [0],
oo 28 (.bin .add (nn 1) (tt 27)),
oo 29 (.call 300 0 [nn 0, tt 28]),
oo 30 (.call 500 0 [nn 5, tt 25, tt 29]),
oo 31 (.mv (.take 8)),
op 32 (.load 8 true false (tt 9)) [100],
oo 33 (.buildS .full .stm [tt 32]),
oo 34 (.app 8 (.take 31) (tt 33)),
oo 35 (.build [.int .i64 0, .int .i64 0, .int .i64 0, .int .i64 0, .int .i64 0, .sl (.own false) .exp [], .sl (.own false) .stm [], .sl (.own false) .stm []] [(0, 1, nn 3), (3, 3, tt 30), (6, 1, tt 34)]),
op 10 (.alloc 101 [.int .i64 0, .int .i64 0, .int .i64 0, .int .i64 0, .int .i64 0, .sl (.own false) .exp [], .sl (.own false) .stm [], .sl (.own false) .stm []]) [101],
on (.store 8 (tt 10) (tt 35)) [101]])
 (.seq (.region true [oo 36 (.mv (tt 7)),
oo 37 (.call 300 0 [nn 0, nn 0]),
oo 38 (.build [.int .i64 0, .int .i64 0, .int .i64 0, .int .i64 0, .int .i64 0, .sl (.own false) .exp [], .sl (.own false) .stm [], .sl (.own false) .stm []] [(0, 1, nn 1), (1, 1, tt 36), (3, 3, tt 37)]),
op 39 (.load 8 true false (tt 10)) [101],
oo 40 (.buildS (.own true) .stm [tt 38, tt 39]),
oo 6 (.mv (.take 40))])
 .ret)))))) }
noncomputable def p4400 : ProcT := { kind := .fn, ins := [0, 1], bins := [0], res := [.cell 4 8 true], code := (.seq (rr [oo 4 (.alloc 100 [.int .i64 0, .int .i64 0, .int .i64 0, .int .i64 0, .int .i64 0, .sl (.own false) .exp [], .sl (.own false) .stm [], .sl (.own false) .stm []])])
 (.seq (.seq (rr [oo 6 (.mv (tt 1)),
oo 7 (.bin .lss (tt 6) (nn 1))])
 (.cond (tt 7) (.seq (rr [oo 8 (.mv (tt 0)),
oo 9 (.call 4200 0 [tt 8]),
on (.store 8 (tt 4) (tt 9)) []])
 .ret) .skip))
 (.seq (rr [oo 10 (.mv (tt 0)),
oo 11 (.mv (tt 1)),
oo 12 (.call 200 0 [tt 10, tt 11]),
oo 5 (.mv (tt 12))])
 (.seq (.seq (rr [oo 13 (.mv (tt 0)),
oo 14 (.call 200 0 [tt 13, nn 2]),
oo 15 (.bin .eql (tt 14) (nn 0))])
 (.cond (tt 15) (.seq (rr [oo 16 (.mv (tt 5)),
oo 17 (.mv (tt 0)),
oo 18 (.mv (tt 0)),
oo 19 (.call 200 0 [tt 18, nn 3]),
oo 20 (.bin .add (nn 1) (tt 19)),
oo 21 (.call 700 0 [tt 17, tt 20]),
oo 22 (.build [.int .i64 0, .int .i64 0, .int .i64 0, .int .i64 0, .int .i64 0, .sl (.own false) .exp [], .sl (.own false) .stm [], .sl (.own false) .stm []] [(0, 1, nn 4), (2, 1, tt 16), (3, 3, tt 21)]),
on (.store 8 (tt 4) (tt 22)) []])
 .ret) .skip))
 (.seq (rr [oo 23 (.mv (tt 5)),
oo 24 (.mv (tt 0)),
oo 25 (.call 200 0 [tt 24, nn 3]),
oo 26 (.build [.int .i64 0, .int .i64 0, .int .i64 0, .int .i64 0, .int .i64 0, .sl (.own false) .exp [], .sl (.own false) .stm [], .sl (.own false) .stm []] [(0, 1, nn 5), (2, 1, tt 23), (1, 1, tt 25)]),
on (.store 8 (tt 4) (tt 26)) []])
 .ret))))) }
noncomputable def p4500 : ProcT := { kind := .fn, ins := [0, 1, 2, 3], bins := [0], res := [.tmp 8], code := (.seq (rr [oo 8 (.mv (.const (.sl (.own false) .stm [])))])
 (.seq (.seq (rr [oo 9 (.mv (tt 0)),
oo 10 (.call 200 0 [tt 9, nn 10])])
 (.block 0 (.seq (.seq (rr [oo 12 (.bin .eql (tt 10) (nn 0)),
oo 11 (.mv (tt 12))])
 (.cond (tt 11) .skip (rr [oo 13 (.bin .eql (tt 10) (nn 1)),
oo 11 (.mv (tt 13))])))
 (.cond (tt 11) (.seq (rr [oo 14 (.mv (tt 0)),
oo 15 (.call 4200 0 [tt 14]),
oo 16 (.buildS (.own true) .stm [tt 15]),
oo 8 (.mv (.take 16))])
 .ret) (.seq (rr [oo 18 (.bin .eql (tt 10) (nn 2)),
oo 17 (.mv (tt 18))])
 (.cond (tt 17) (.seq (rr [oo 19 (.mv (tt 2)),
oo 20 (.bin .gtr (tt 19) (nn 0))])
 (.cond (tt 20) (.seq (rr [oo 21 (.mv (tt 0)),
oo 22 (.mv (tt 1)),
oo 23 (.mv (tt 2)),
oo 24 (.mv (tt 3)),
oo 25 (.call 4100 0 [tt 21, tt 22, tt 23, tt 24]),
oo 26 (.buildS (.own true) .stm [tt 25]),
oo 8 (.mv (.take 26))])
 .ret) .skip)) (.seq (rr [oo 28 (.bin .eql (tt 10) (nn 3)),
oo 27 (.mv (tt 28))])
 (.cond (tt 27) (.seq (rr [oo 29 (.mv (tt 2)),
oo 30 (.bin .gtr (tt 29) (nn 0)),
oo 31 (.mv (tt 30)),
og (some 32) (.mv (tt 3)) 31 true [],
oo 33 (.pick (tt 31) (tt 32) (.const (.bool false)))])
 (.cond (tt 33) (.seq (rr [oo 34 (.mv (tt 0)),
oo 35 (.mv (tt 1)),
oo 36 (.mv (tt 2)),
oo 37 (.call 4300 0 [tt 34, tt 35, tt 36]),
oo 8 (.mv (.take 37))])
 .ret) .skip)) (.seq (.seq (rr [oo 39 (.bin .eql (tt 10) (nn 4)),
oo 38 (.mv (tt 39))])
 (.cond (tt 38) .skip (.seq (rr [oo 40 (.bin .eql (tt 10) (nn 5)),
oo 38 (.mv (tt 40))])
 (.cond (tt 38) .skip (rr [oo 41 (.bin .eql (tt 10) (nn 6)),
oo 38 (.mv (tt 41))])))))
 (.cond (tt 38) (.seq (rr [oo 42 (.mv (tt 0)),
oo 43 (.mv (tt 1)),
oo 44 (.call 4400 0 [tt 42, tt 43]),
oo 45 (.buildS (.own true) .stm [tt 44]),
oo 8 (.mv (.take 45))])
 .ret) (.seq (rr [oo 47 (.bin .eql (tt 10) (nn 7)),
oo 46 (.mv (tt 47))])
 (.cond (tt 46) (.seq (rr [oo 48 (.build [.int .i64 0, .int .i64 0, .int .i64 0, .int .i64 0, .int .i64 0, .sl (.own false) .exp [], .sl (.own false) .stm [], .sl (.own false) .stm []] [(0, 1, nn 6)]),
oo 49 (.buildS (.own true) .stm [tt 48]),
oo 8 (.mv (.take 49))])
 .ret) .skip))))))))))))
 (.seq (rr [oo 50 (.mv (tt 0)),
oo 51 (.mv (tt 0)),
oo 52 (.call 200 0 [tt 51, nn 3]),
oo 53 (.bin .add (nn 1) (tt 52)),
oo 54 (.call 700 0 [tt 50, tt 53]),
oo 55 (.build [.int .i64 0, .int .i64 0, .int .i64 0, .int .i64 0, .int .i64 0, .sl (.own false) .exp [], .sl (.own false) .stm [], .sl (.own false) .stm []] [(0, 1, nn 7), (3, 3, tt 54)]),
oo 56 (.buildS (.own true) .stm [tt 55]),
oo 8 (.mv (.take 56))])
 .ret))) }
noncomputable def p4600 : ProcT := { kind := .fn, ins := [0, 1, 2, 3, 4], bins := [0], res := [.tmp 10], code := (.seq (rr [oo 10 (.mv (.const (.sl (.own false) .stm [])))])
 (.seq (rr [oo 13 (.buildS (.own true) .stm []),
oo 11 (.mv (.take 13))])
 (.seq (.seq (rr [oo 12 (.mv (nn 0))])
 (.block 0 (.label 4601)))
 (.seq (rr [oo 26 (.mv (.take 11)),
oo 10 (.mv (.take 26))])
 .ret)))) }
noncomputable def p4601 : ProcT := { kind := .loop, ins := [0, 1, 2, 3, 4, 11, 12], bins := [0], outs := [0, 10, 11], bouts := [0], code := (.seq (.seq (rr [oo 14 (.mv (tt 12)),
oo 15 (.mv (tt 3)),
oo 16 (.bin .lss (tt 14) (tt 15))])
 (.cond (tt 16) .skip (.exit 0)))
 (.seq (.block 1 (rr [oo 19 (.mv (.take 11)),
oo 20 (.mv (tt 0)),
oo 21 (.mv (tt 1)),
oo 22 (.mv (tt 2)),
oo 23 (.mv (tt 4)),
oo 24 (.call 4500 0 [tt 20, tt 21, tt 22, tt 23]),
oo 25 (.app 8 (.take 19) (tt 24)),
oo 11 (.mv (.take 25))]))
 (rr [oo 17 (.mv (tt 12)),
oo 18 (.bin .add (tt 17) (nn 1)),
oo 12 (.mv (tt 18))]))) }
noncomputable def p4700 : ProcT := { kind := .fn, ins := [0, 1], bins := [0], res := [.tmp 4], code := (.seq (rr [oo 4 (.mv (.const (.sl (.own false) .stm [])))])
 (.seq (rr [oo 6 (.mv (tt 0)),
oo 7 (.mv (tt 1)),
oo 8 (.mv (tt 0)),
oo 9 (.call 200 0 [tt 8, nn 6]),
oo 10 (.bin .add (nn 1) (tt 9)),
oo 11 (.call 4600 0 [tt 6, tt 7, nn 3, tt 10, .const (.bool true)]),
oo 5 (.mv (.take 11))])
 (.seq (.block 0 (.label 4701))
 (.seq (rr [oo 20 (.mv (.take 5)),
oo 4 (.mv (.take 20))])
 .ret)))) }
noncomputable def p4701 : ProcT := { kind := .loop, ins := [0, 5], bins := [0], outs := [0, 4, 5], bouts := [0], code := (.seq (.seq (rr [oo 12 (.mv (tt 5)),
oo 13 (.call 4000 0 [tt 12]),
oo 14 (.bin .gtr (tt 13) (nn 16))])
 (.cond (tt 14) .skip (.exit 0)))
 (.block 1 (rr [oo 15 (.mv (tt 5)),
oo 16 (.mv (tt 5)),
oo 17 (.len (tt 16)),
oo 18 (.bin .sub (tt 17) (nn 1)),
oo 19 (.slc 8 (tt 15) none (some (tt 18)) none),
oo 5 (.mv (.take 19))]))) }
noncomputable def p5000 : ProcT := { kind := .fn, ins := [0], bins := [], res := [.tmp 2], code := (.seq (rr [oo 2 (.mv (.const (.bool false)))])
 (.seq (rr [oo 3 (.mv (tt 0)),
oo 4 (.bin .geq (tt 3) (nn (-2147483648))),
oo 5 (.mv (tt 4)),
og (some 6) (.mv (tt 0)) 5 true [],
og (some 7) (.bin .leq (tt 6) (nn 2147483647)) 5 true [],
oo 8 (.pick (tt 5) (tt 7) (.const (.bool false))),
oo 2 (.mv (tt 8))])
 .ret)) }
noncomputable def p5100 : ProcT := { kind := .fn, ins := [0], bins := [], res := [.tmp 2], code := (.seq (rr [oo 2 (.mv (.const (.bool false)))])
 (.seq (.seq (rr [oo 5 (.mv (tt 0)),
oo 6 (.len (tt 5)),
oo 7 (.mv (nn 0))])
 (.block 0 (.label 5101)))
 (.seq (rr [oo 2 (.mv (.const (.bool true)))])
 .ret))) }
noncomputable def p5101 : ProcT := { kind := .loop, ins := [5, 6, 7], bins := [], outs := [2], bouts := [], code := (.seq (rr [oo 8 (.bin .lss (tt 7) (tt 6))])
 (.seq (.cond (tt 8) .skip (.exit 0))
 (.seq (.block 1 (.seq (rr [oo 9 (.iadr 1 (tt 5) (tt 7)),
oo 10 (.load 1 false false (tt 9)),
oo 4 (.mv (tt 10))])
 (.seq (rr [oo 11 (.mv (tt 4)),
oo 12 (.call 5000 0 [tt 11]),
oo 13 (.un .not (tt 12))])
 (.cond (tt 13) (.seq (rr [oo 2 (.mv (.const (.bool false)))])
 .ret) .skip))))
 (rr [oo 14 (.bin .add (tt 7) (nn 1)),
oo 7 (.mv (tt 14))])))) }
noncomputable def p5200 : ProcT := { kind := .fn, ins := [0, 1], bins := [], res := [.tmp 4], code := (.seq (rr [oo 4 (.mv (.const (.bool false)))])
 (.seq (rr [oo 5 (.alloc 100 [.bool false, .bool false, .bool false, .bool false, .bool false])])
 (.seq (.seq (rr [oo 7 (.mv (tt 0)),
oo 8 (.nilck (tt 7)),
oo 9 (.fadr 0 (tt 8)),
oo 10 (.load 1 false false (tt 9))])
 (.block 0 (.seq (rr [oo 12 (.bin .eql (tt 10) (nn 1)),
oo 11 (.mv (tt 12))])
 (.cond (tt 11) (rr [oo 13 (.fadr 0 (tt 5)),
on (.store 1 (tt 13) (.const (.bool true))) [],
oo 14 (.fadr 2 (tt 5)),
on (.store 1 (tt 14) (.const (.bool true))) []]) (.seq (rr [oo 16 (.bin .eql (tt 10) (nn 2)),
oo 15 (.mv (tt 16))])
 (.cond (tt 15) (rr [oo 17 (.fadr 2 (tt 5)),
on (.store 1 (tt 17) (.const (.bool true))) [],
oo 18 (.fadr 3 (tt 5)),
on (.store 1 (tt 18) (.const (.bool true))) [],
oo 19 (.fadr 4 (tt 5)),
on (.store 1 (tt 19) (.const (.bool true))) []]) (.seq (rr [oo 21 (.bin .eql (tt 10) (nn 3)),
oo 20 (.mv (tt 21))])
 (.cond (tt 20) (rr [oo 22 (.fadr 2 (tt 5)),
on (.store 1 (tt 22) (.const (.bool true))) [],
oo 23 (.fadr 3 (tt 5)),
on (.store 1 (tt 23) (.const (.bool true))) []]) (.seq (rr [oo 25 (.bin .eql (tt 10) (nn 4)),
oo 24 (.mv (tt 25))])
 (.cond (tt 24) (rr [oo 26 (.fadr 1 (tt 5)),
on (.store 1 (tt 26) (.const (.bool true))) [],
oo 27 (.fadr 2 (tt 5)),
on (.store 1 (tt 27) (.const (.bool true))) []]) (.seq (rr [oo 29 (.bin .eql (tt 10) (nn 5)),
oo 28 (.mv (tt 29))])
 (.cond (tt 28) (rr [oo 30 (.fadr 1 (tt 5)),
on (.store 1 (tt 30) (.const (.bool true))) [],
oo 31 (.fadr 0 (tt 5)),
on (.store 1 (tt 31) (.const (.bool true))) []]) (.seq (rr [oo 33 (.bin .eql (tt 10) (nn 7)),
oo 32 (.mv (tt 33))])
 (.cond (tt 32) (rr [oo 34 (.fadr 2 (tt 5)),
on (.store 1 (tt 34) (.const (.bool true))) []]) (.seq (rr [oo 36 (.bin .eql (tt 10) (nn 6)),
oo 35 (.mv (tt 36))])
 (.cond (tt 35) .skip (.seq (rr [oo 4 (.mv (.const (.bool false)))])
 .ret)))))))))))))))))
 (.seq (rr [oo 6 (.mv (.func 11100))])
 (.seq (.seq (.region true [oo 37 (.mv (tt 6)),
oo 38 (.mv (tt 0)),
oo 39 (.nilck (tt 38)),
oo 40 (.fadr 1 (tt 39)),
oo 41 (.load 1 false false (tt 40)),
op 42 (.fadr 0 (tt 5)) [100],
op 43 (.load 1 false false (tt 42)) [100],
oo 44 (.callv (tt 37) [tt 41, nn 4, tt 43]),
oo 45 (.un .not (tt 44)),
oo 46 (.mv (tt 45)),
og (some 47) (.mv (tt 6)) 46 false [],
og (some 48) (.mv (tt 0)) 46 false [],
og (some 49) (.nilck (tt 48)) 46 false [],
og (some 50) (.fadr 2 (tt 49)) 46 false [],
og (some 51) (.load 1 false false (tt 50)) 46 false [],
og (some 52) (.mv (tt 1)) 46 false [],
og (some 53) (.fadr 1 (tt 5)) 46 false [100],
og (some 54) (.load 1 false false (tt 53)) 46 false [100],
og (some 55) (.callv (tt 47) [tt 51, tt 52, tt 54]) 46 false [],
og (some 56) (.un .not (tt 55)) 46 false [],
oo 57 (.pick (tt 46) (.const (.bool true)) (tt 56)),
oo 58 (.mv (tt 57)),
og (some 59) (.fadr 1 (tt 5)) 58 false [100],
og (some 60) (.load 1 false false (tt 59)) 58 false [100],
og (some 61) (.mv (tt 60)) 58 false [],
og (some 62) (.mv (tt 0)) 61 true [],
og (some 63) (.nilck (tt 62)) 61 true [],
og (some 64) (.fadr 2 (tt 63)) 61 true [],
og (some 65) (.load 1 false false (tt 64)) 61 true [],
og (some 66) (.mv (tt 1)) 61 true [],
og (some 67) (.bin .geq (tt 65) (tt 66)) 61 true [],
og (some 68) (.pick (tt 61) (tt 67) (.const (.bool false))) 58 false [],
oo 69 (.pick (tt 58) (.const (.bool true)) (tt 68))])
 (.cond (tt 69) (.seq (rr [oo 4 (.mv (.const (.bool false)))])
 .ret) .skip))
 (.seq (.seq (rr [oo 70 (.fadr 2 (tt 5)),
oo 71 (.load 1 false false (tt 70)),
oo 72 (.mv (tt 71)),
og (some 73) (.mv (tt 0)) 72 true [],
og (some 74) (.nilck (tt 73)) 72 true [],
og (some 75) (.fadr 3 (tt 74)) 72 true [],
og (some 76) (.load 3 true false (tt 75)) 72 true [],
og (some 77) (.call 1200 0 [tt 76]) 72 true [],
og (some 78) (.un .not (tt 77)) 72 true [],
oo 79 (.pick (tt 72) (tt 78) (.const (.bool false))),
oo 80 (.mv (tt 79)),
og (some 81) (.fadr 2 (tt 5)) 80 false [],
og (some 82) (.load 1 false false (tt 81)) 80 false [],
og (some 83) (.un .not (tt 82)) 80 false [],
og (some 84) (.mv (tt 83)) 80 false [],
og (some 85) (.mv (tt 0)) 84 true [],
og (some 86) (.nilck (tt 85)) 84 true [],
og (some 87) (.fadr 3 (tt 86)) 84 true [],
og (some 88) (.fadr 0 (tt 87)) 84 true [],
og (some 89) (.load 1 false false (tt 88)) 84 true [],
og (some 90) (.bin .neq (tt 89) (nn 0)) 84 true [],
og (some 91) (.mv (tt 90)) 84 true [],
og (some 92) (.mv (tt 0)) 91 false [],
og (some 93) (.nilck (tt 92)) 91 false [],
og (some 94) (.fadr 3 (tt 93)) 91 false [],
og (some 95) (.fadr 1 (tt 94)) 91 false [],
og (some 96) (.load 1 false false (tt 95)) 91 false [],
og (some 97) (.bin .neq (tt 96) (nn 0)) 91 false [],
og (some 98) (.pick (tt 91) (.const (.bool true)) (tt 97)) 84 true [],
og (some 99) (.mv (tt 98)) 84 true [],
og (some 100) (.mv (tt 0)) 99 false [],
og (some 101) (.nilck (tt 100)) 99 false [],
og (some 102) (.fadr 3 (tt 101)) 99 false [],
og (some 103) (.fadr 2 (tt 102)) 99 false [],
og (some 104) (.load 1 false false (tt 103)) 99 false [],
og (some 105) (.len (tt 104)) 99 false [],
og (some 106) (.bin .gtr (tt 105) (nn 0)) 99 false [],
og (some 107) (.pick (tt 99) (.const (.bool true)) (tt 106)) 84 true [],
og (some 108) (.pick (tt 84) (tt 107) (.const (.bool false))) 80 false [],
oo 109 (.pick (tt 80) (.const (.bool true)) (tt 108))])
 (.cond (tt 109) (.seq (rr [oo 4 (.mv (.const (.bool false)))])
 .ret) .skip))
 (.seq (rr [oo 110 (.fadr 3 (tt 5)),
oo 111 (.load 1 false false (tt 110)),
oo 112 (.mv (tt 111)),
og (some 113) (.mv (tt 0)) 112 false [],
og (some 114) (.nilck (tt 113)) 112 false [],
og (some 115) (.fadr 6 (tt 114)) 112 false [],
og (some 116) (.load 1 false false (tt 115)) 112 false [],
og (some 117) (.len (tt 116)) 112 false [],
og (some 118) (.bin .eql (tt 117) (nn 0)) 112 false [],
oo 119 (.pick (tt 112) (.const (.bool true)) (tt 118)),
oo 120 (.mv (tt 119)),
og (some 121) (.fadr 4 (tt 5)) 120 true [],
og (some 122) (.load 1 false false (tt 121)) 120 true [],
og (some 123) (.mv (tt 122)) 120 true [],
og (some 124) (.mv (tt 0)) 123 false [],
og (some 125) (.nilck (tt 124)) 123 false [],
og (some 126) (.fadr 7 (tt 125)) 123 false [],
og (some 127) (.load 1 false false (tt 126)) 123 false [],
og (some 128) (.len (tt 127)) 123 false [],
og (some 129) (.bin .eql (tt 128) (nn 0)) 123 false [],
og (some 130) (.pick (tt 123) (.const (.bool true)) (tt 129)) 120 true [],
oo 131 (.pick (tt 120) (tt 130) (.const (.bool false))),
oo 4 (.mv (tt 131))])
 .ret))))))) }
noncomputable def p5300 : ProcT := { kind := .fn, ins := [0, 1, 2, 3], bins := [0], res := [.tmp 8], code := (.seq (rr [oo 8 (.mv (.const (.bool false)))])
 (.seq (rr [oo 11 (.mv (tt 3)),
oo 12 (.nilck (tt 11)),
oo 13 (.load 1 false false (tt 12)),
oo 14 (.mv (tt 0)),
oo 15 (.len (tt 14)),
oo 16 (.bin .add (tt 13) (tt 15)),
oo 17 (.nilck (tt 11)),
on (.store 1 (tt 17) (tt 16)) []])
 (.seq (.seq (rr [oo 18 (.mv (tt 3)),
oo 19 (.nilck (tt 18)),
oo 20 (.load 1 false false (tt 19)),
oo 21 (.bin .gtr (tt 20) (nn 16))])
 (.cond (tt 21) (.seq (rr [oo 8 (.mv (.const (.bool false)))])
 .ret) .skip))
 (.seq (.seq (rr [oo 22 (.mv (tt 0)),
oo 23 (.len (tt 22)),
oo 24 (.mv (nn 0))])
 (.block 0 (.label 5301)))
 (.seq (rr [oo 8 (.mv (.const (.bool true)))])
 .ret))))) }
noncomputable def p5301 : ProcT := { kind := .loop, ins := [0, 1, 2, 3, 23, 24], bins := [0], outs := [3, 8], bouts := [0], code := (.seq (rr [oo 25 (.bin .lss (tt 24) (tt 23))])
 (.seq (.cond (tt 25) .skip (.exit 0))
 (.seq (.block 1 (.seq (rr [oo 26 (.mv (tt 24)),
oo 9 (.mv (tt 26))])
 (.seq (rr [oo 27 (.mv (tt 0)),
oo 28 (.mv (tt 9)),
oo 29 (.iadr 8 (tt 27) (tt 28)),
oo 10 (.mv (tt 29))])
 (.seq (.seq (rr [oo 30 (.mv (tt 10)),
oo 31 (.mv (tt 1)),
oo 32 (.call 5200 0 [tt 30, tt 31]),
oo 33 (.un .not (tt 32)),
oo 34 (.mv (tt 33)),
og (some 35) (.mv (tt 2)) 34 false [],
og (some 36) (.bin .gtr (tt 35) (nn 3)) 34 false [],
oo 37 (.pick (tt 34) (.const (.bool true)) (tt 36))])
 (.cond (tt 37) (.seq (rr [oo 8 (.mv (.const (.bool false)))])
 .ret) .skip))
 (.seq (.seq (rr [oo 38 (.mv (tt 10)),
oo 39 (.nilck (tt 38)),
oo 40 (.fadr 0 (tt 39)),
oo 41 (.load 1 false false (tt 40)),
oo 42 (.bin .neq (tt 41) (nn 2)),
oo 43 (.mv (tt 42)),
og (some 44) (.mv (tt 10)) 43 true [],
og (some 45) (.nilck (tt 44)) 43 true [],
og (some 46) (.fadr 0 (tt 45)) 43 true [],
og (some 47) (.load 1 false false (tt 46)) 43 true [],
og (some 48) (.bin .neq (tt 47) (nn 3)) 43 true [],
oo 49 (.pick (tt 43) (tt 48) (.const (.bool false)))])
 (.cond (tt 49) (.exit 1) .skip))
 (.seq (rr [oo 50 (.mv (tt 2)),
oo 51 (.bin .geq (tt 50) (nn 3)),
oo 52 (.mv (tt 51)),
og (some 53) (.mv (tt 10)) 52 false [],
og (some 54) (.nilck (tt 53)) 52 false [],
og (some 55) (.fadr 6 (tt 54)) 52 false [],
og (some 56) (.load 1 false false (tt 55)) 52 false [],
og (some 57) (.mv (tt 1)) 52 false [],
og (some 58) (.mv (tt 2)) 52 false [],
og (some 59) (.bin .add (tt 58) (nn 1)) 52 false [],
og (some 60) (.mv (tt 3)) 52 false [],
og (some 61) (.call 5300 0 [tt 56, tt 57, tt 59, tt 60]) 52 false [],
og (some 62) (.un .not (tt 61)) 52 false [],
oo 63 (.pick (tt 52) (.const (.bool true)) (tt 62)),
oo 64 (.mv (tt 63)),
og (some 65) (.mv (tt 10)) 64 false [],
og (some 66) (.nilck (tt 65)) 64 false [],
og (some 67) (.fadr 7 (tt 66)) 64 false [],
og (some 68) (.load 1 false false (tt 67)) 64 false [],
og (some 69) (.mv (tt 1)) 64 false [],
og (some 70) (.mv (tt 2)) 64 false [],
og (some 71) (.bin .add (tt 70) (nn 1)) 64 false [],
og (some 72) (.mv (tt 3)) 64 false [],
og (some 73) (.call 5300 0 [tt 68, tt 69, tt 71, tt 72]) 64 false [],
og (some 74) (.un .not (tt 73)) 64 false [],
oo 75 (.pick (tt 64) (.const (.bool true)) (tt 74))])
 (.cond (tt 75) (.seq (rr [oo 8 (.mv (.const (.bool false)))])
 .ret) .skip)))))))
 (rr [oo 76 (.bin .add (tt 24) (nn 1)),
oo 24 (.mv (tt 76))])))) }
noncomputable def p5400 : ProcT := { kind := .fn, ins := [0, 1], bins := [], res := [.tmp 4], code := (.seq (rr [oo 4 (.mv (.const (.bool false)))])
 (.seq (rr [oo 5 (.alloc 100 [.int .i64 0]),
on (.store 1 (tt 5) (nn 0)) []])
 (.seq (rr [oo 6 (.mv (tt 0)),
oo 7 (.mv (tt 1)),
oo 8 (.call 5300 0 [tt 6, tt 7, nn 0, tt 5]),
oo 4 (.mv (tt 8))])
 .ret))) }
noncomputable def p5500 : ProcT := { kind := .fn, ins := [0, 1], bins := [], res := [.tmp 4], code := (.seq (rr [oo 2 (.box 100 (tt 0)),
oo 4 (.mv (.const (.bool false)))])
 (.seq (.seq (rr [oo 6 (.fadr 0 (tt 2)),
oo 7 (.load 1 false false (tt 6)),
oo 8 (.len (tt 7)),
oo 9 (.bin .neq (tt 8) (nn 4)),
oo 10 (.mv (tt 9)),
og (some 11) (.fadr 0 (tt 2)) 10 false [],
og (some 12) (.load 1 false false (tt 11)) 10 false [],
og (some 13) (.call 5100 0 [tt 12]) 10 false [],
og (some 14) (.un .not (tt 13)) 10 false [],
oo 15 (.pick (tt 10) (.const (.bool true)) (tt 14))])
 (.cond (tt 15) (.seq (rr [oo 4 (.mv (.const (.bool false)))])
 .ret) .skip))
 (.seq (.seq (rr [oo 16 (.fadr 1 (tt 2)),
oo 17 (.load 1 false false (tt 16)),
oo 18 (.len (tt 17)),
oo 19 (.mv (nn 0))])
 (.block 0 (.label 5501)))
 (.seq (rr [oo 4 (.mv (.const (.bool true)))])
 .ret)))) }
noncomputable def p5501 : ProcT := { kind := .loop, ins := [1, 2, 18, 19], bins := [100], outs := [4], bouts := [], code := (.seq (rr [oo 20 (.bin .lss (tt 19) (tt 18))])
 (.seq (.cond (tt 20) .skip (.exit 0))
 (.seq (.block 1 (.seq (rr [oo 21 (.mv (tt 19)),
oo 5 (.mv (tt 21))])
 (.seq (rr [oo 22 (.fadr 1 (tt 2)),
oo 23 (.load 1 false false (tt 22)),
oo 24 (.mv (tt 5)),
oo 25 (.mv (tt 5)),
oo 26 (.bin .add (tt 25) (nn 1)),
oo 27 (.slc 8 (tt 23) (some (tt 24)) (some (tt 26)) none),
oo 28 (.mv (tt 1)),
oo 29 (.call 5400 0 [tt 27, tt 28]),
oo 30 (.un .not (tt 29))])
 (.cond (tt 30) (.seq (rr [oo 4 (.mv (.const (.bool false)))])
 .ret) .skip))))
 (rr [oo 31 (.bin .add (tt 19) (nn 1)),
oo 19 (.mv (tt 31))])))) }
noncomputable def p5700 : ProcT := { kind := .fn, ins := [0, 1], bins := [], res := [.tmp 4], code := (.seq (rr [oo 2 (.box 100 (tt 0)),
oo 4 (.mv (.const (.bool false)))])
 (.seq (.seq (rr [oo 5 (.mv (tt 1))])
 (.cond (tt 5) (.seq (rr [oo 6 (.fadr 1 (tt 2)),
oo 7 (.load 1 false false (tt 6)),
oo 8 (.call 1600 0 [tt 7, nn 0, nn 3]),
oo 4 (.mv (tt 8))])
 .ret) .skip))
 (.seq (rr [oo 9 (.fadr 1 (tt 2)),
oo 10 (.load 1 false false (tt 9)),
oo 11 (.bin .eql (tt 10) (nn 0)),
oo 4 (.mv (tt 11))])
 .ret))) }
noncomputable def p5800 : ProcT := { kind := .fn, ins := [0, 1], bins := [], res := [.tmp 4], code := (.seq (rr [oo 2 (.box 100 (tt 0)),
oo 4 (.mv (.const (.bool false)))])
 (.seq (.seq (rr [oo 5 (.mv (tt 1))])
 (.cond (tt 5) (.seq (rr [oo 6 (.fadr 2 (tt 2)),
oo 7 (.load 1 false false (tt 6)),
oo 8 (.call 1600 0 [tt 7, nn 0, nn 2]),
oo 4 (.mv (tt 8))])
 .ret) .skip))
 (.seq (rr [oo 9 (.fadr 2 (tt 2)),
oo 10 (.load 1 false false (tt 9)),
oo 11 (.bin .eql (tt 10) (nn 0)),
oo 4 (.mv (tt 11))])
 .ret))) }
noncomputable def p5900 : ProcT := { kind := .fn, ins := [0], bins := [], res := [.tmp 2], code := (.seq (rr [oo 1 (.box 100 (tt 0)),
oo 2 (.mv (.const (.bool false)))])
 (.seq (rr [oo 3 (.fadr 0 (tt 1)),
oo 4 (.load 1 false false (tt 3)),
oo 5 (.bin .eql (tt 4) (nn 0)),
oo 6 (.mv (tt 5)),
og (some 7) (.fadr 1 (tt 1)) 6 true [],
og (some 8) (.load 1 false false (tt 7)) 6 true [],
og (some 9) (.bin .eql (tt 8) (nn 0)) 6 true [],
oo 10 (.pick (tt 6) (tt 9) (.const (.bool false))),
oo 11 (.mv (tt 10)),
og (some 12) (.fadr 2 (tt 1)) 11 true [],
og (some 13) (.load 1 false false (tt 12)) 11 true [],
og (some 14) (.len (tt 13)) 11 true [],
og (some 15) (.bin .eql (tt 14) (nn 0)) 11 true [],
oo 16 (.pick (tt 11) (tt 15) (.const (.bool false))),
oo 2 (.mv (tt 16))])
 .ret)) }
noncomputable def p6000 : ProcT := { kind := .fn, ins := [0], bins := [], res := [.tmp 2], code := (.seq (rr [oo 1 (.box 100 (tt 0)),
oo 2 (.mv (.const (.bool false)))])
 (.seq (.seq (rr [oo 3 (.fadr 6 (tt 1)),
oo 4 (.load 1 false false (tt 3)),
oo 5 (.len (tt 4)),
oo 6 (.bin .gtr (tt 5) (nn 0)),
oo 7 (.mv (tt 6)),
og (some 8) (.fadr 7 (tt 1)) 7 false [],
og (some 9) (.load 1 false false (tt 8)) 7 false [],
og (some 10) (.len (tt 9)) 7 false [],
og (some 11) (.bin .gtr (tt 10) (nn 0)) 7 false [],
oo 12 (.pick (tt 7) (.const (.bool true)) (tt 11))])
 (.cond (tt 12) (.seq (rr [oo 2 (.mv (.const (.bool false)))])
 .ret) .skip))
 (.seq (.seq (rr [oo 13 (.fadr 0 (tt 1)),
oo 14 (.load 1 false false (tt 13))])
 (.block 0 (.seq (rr [oo 16 (.bin .eql (tt 14) (nn 1)),
oo 15 (.mv (tt 16))])
 (.cond (tt 15) (.seq (rr [oo 17 (.load 8 true false (tt 1)),
oo 18 (.call 5700 0 [tt 17, .const (.bool true)]),
oo 19 (.mv (tt 18)),
og (some 20) (.load 8 true false (tt 1)) 19 true [],
og (some 21) (.call 5800 0 [tt 20, .const (.bool false)]) 19 true [],
oo 22 (.pick (tt 19) (tt 21) (.const (.bool false))),
oo 23 (.mv (tt 22)),
og (some 24) (.fadr 3 (tt 1)) 23 true [],
og (some 25) (.load 3 true false (tt 24)) 23 true [],
og (some 26) (.call 1900 0 [tt 25]) 23 true [],
oo 27 (.pick (tt 23) (tt 26) (.const (.bool false))),
oo 2 (.mv (tt 27))])
 .ret) (.seq (rr [oo 29 (.bin .eql (tt 14) (nn 4)),
oo 28 (.mv (tt 29))])
 (.cond (tt 28) (.seq (rr [oo 30 (.load 8 true false (tt 1)),
oo 31 (.call 5700 0 [tt 30, .const (.bool false)]),
oo 32 (.mv (tt 31)),
og (some 33) (.load 8 true false (tt 1)) 32 true [],
og (some 34) (.call 5800 0 [tt 33, .const (.bool true)]) 32 true [],
oo 35 (.pick (tt 32) (tt 34) (.const (.bool false))),
oo 36 (.mv (tt 35)),
og (some 37) (.fadr 3 (tt 1)) 36 true [],
og (some 38) (.load 3 true false (tt 37)) 36 true [],
og (some 39) (.call 1900 0 [tt 38]) 36 true [],
oo 40 (.pick (tt 36) (tt 39) (.const (.bool false))),
oo 2 (.mv (tt 40))])
 .ret) (.seq (rr [oo 42 (.bin .eql (tt 14) (nn 5)),
oo 41 (.mv (tt 42))])
 (.cond (tt 41) (.seq (rr [oo 43 (.load 8 true false (tt 1)),
oo 44 (.call 5700 0 [tt 43, .const (.bool true)]),
oo 45 (.mv (tt 44)),
og (some 46) (.load 8 true false (tt 1)) 45 true [],
og (some 47) (.call 5800 0 [tt 46, .const (.bool true)]) 45 true [],
oo 48 (.pick (tt 45) (tt 47) (.const (.bool false))),
oo 49 (.mv (tt 48)),
og (some 50) (.fadr 3 (tt 1)) 49 true [],
og (some 51) (.load 3 true false (tt 50)) 49 true [],
og (some 52) (.call 5900 0 [tt 51]) 49 true [],
oo 53 (.pick (tt 49) (tt 52) (.const (.bool false))),
oo 2 (.mv (tt 53))])
 .ret) (.seq (rr [oo 55 (.bin .eql (tt 14) (nn 6)),
oo 54 (.mv (tt 55))])
 (.cond (tt 54) (.seq (rr [oo 56 (.load 8 true false (tt 1)),
oo 57 (.call 5700 0 [tt 56, .const (.bool false)]),
oo 58 (.mv (tt 57)),
og (some 59) (.load 8 true false (tt 1)) 58 true [],
og (some 60) (.call 5800 0 [tt 59, .const (.bool false)]) 58 true [],
oo 61 (.pick (tt 58) (tt 60) (.const (.bool false))),
oo 62 (.mv (tt 61)),
og (some 63) (.fadr 3 (tt 1)) 62 true [],
og (some 64) (.load 3 true false (tt 63)) 62 true [],
og (some 65) (.call 5900 0 [tt 64]) 62 true [],
oo 66 (.pick (tt 62) (tt 65) (.const (.bool false))),
oo 2 (.mv (tt 66))])
 .ret) (.seq (rr [oo 68 (.bin .eql (tt 14) (nn 7)),
oo 67 (.mv (tt 68))])
 (.cond (tt 67) (.seq (rr [oo 69 (.load 8 true false (tt 1)),
oo 70 (.call 5700 0 [tt 69, .const (.bool false)]),
oo 71 (.mv (tt 70)),
og (some 72) (.load 8 true false (tt 1)) 71 true [],
og (some 73) (.call 5800 0 [tt 72, .const (.bool false)]) 71 true [],
oo 74 (.pick (tt 71) (tt 73) (.const (.bool false))),
oo 75 (.mv (tt 74)),
og (some 76) (.fadr 3 (tt 1)) 75 true [],
og (some 77) (.load 3 true false (tt 76)) 75 true [],
og (some 78) (.call 1900 0 [tt 77]) 75 true [],
oo 79 (.pick (tt 75) (tt 78) (.const (.bool false))),
oo 2 (.mv (tt 79))])
 .ret) .skip))))))))))))
 (.seq (rr [oo 2 (.mv (.const (.bool false)))])
 .ret)))) }
noncomputable def p6100 : ProcT := { kind := .fn, ins := [0, 1], bins := [], res := [.tmp 4], code := (.seq (rr [oo 2 (.box 100 (tt 0)),
oo 4 (.mv (.const (.bool false)))])
 (.seq (.seq (rr [oo 5 (.fadr 0 (tt 2)),
oo 6 (.load 1 false false (tt 5)),
oo 7 (.bin .neq (tt 6) (nn 2)),
oo 8 (.mv (tt 7)),
og (some 9) (.fadr 0 (tt 2)) 8 true [],
og (some 10) (.load 1 false false (tt 9)) 8 true [],
og (some 11) (.bin .neq (tt 10) (nn 3)) 8 true [],
oo 12 (.pick (tt 8) (tt 11) (.const (.bool false)))])
 (.cond (tt 12) (.seq (rr [oo 13 (.load 8 true false (tt 2)),
oo 14 (.call 6000 0 [tt 13]),
oo 4 (.mv (tt 14))])
 .ret) .skip))
 (.seq (.seq (rr [oo 15 (.mv (tt 1)),
oo 16 (.bin .lss (tt 15) (nn 1)),
oo 17 (.mv (tt 16)),
og (some 18) (.fadr 0 (tt 2)) 17 false [],
og (some 19) (.load 1 false false (tt 18)) 17 false [],
og (some 20) (.bin .eql (tt 19) (nn 3)) 17 false [],
og (some 21) (.mv (tt 20)) 17 false [],
og (some 22) (.fadr 7 (tt 2)) 21 true [],
og (some 23) (.load 1 false false (tt 22)) 21 true [],
og (some 24) (.len (tt 23)) 21 true [],
og (some 25) (.bin .gtr (tt 24) (nn 0)) 21 true [],
og (some 26) (.pick (tt 21) (tt 25) (.const (.bool false))) 17 false [],
oo 27 (.pick (tt 17) (.const (.bool true)) (tt 26))])
 (.cond (tt 27) (.seq (rr [oo 4 (.mv (.const (.bool false)))])
 .ret) .skip))
 (.seq (rr [oo 28 (.load 8 true false (tt 2)),
oo 29 (.call 5700 0 [tt 28, .const (.bool false)]),
oo 30 (.mv (tt 29)),
og (some 31) (.load 8 true false (tt 2)) 30 true [],
og (some 32) (.call 5800 0 [tt 31, .const (.bool false)]) 30 true [],
oo 33 (.pick (tt 30) (tt 32) (.const (.bool false))),
oo 34 (.mv (tt 33)),
og (some 35) (.fadr 3 (tt 2)) 34 true [],
og (some 36) (.load 3 true false (tt 35)) 34 true [],
og (some 37) (.call 1900 0 [tt 36]) 34 true [],
oo 38 (.pick (tt 34) (tt 37) (.const (.bool false))),
oo 39 (.mv (tt 38)),
og (some 40) (.fadr 6 (tt 2)) 39 true [],
og (some 41) (.load 1 false false (tt 40)) 39 true [],
og (some 42) (.mv (tt 1)) 39 true [],
og (some 43) (.bin .sub (tt 42) (nn 1)) 39 true [],
og (some 44) (.call 6200 0 [tt 41, tt 43]) 39 true [],
oo 45 (.pick (tt 39) (tt 44) (.const (.bool false))),
oo 46 (.mv (tt 45)),
og (some 47) (.fadr 7 (tt 2)) 46 true [],
og (some 48) (.load 1 false false (tt 47)) 46 true [],
og (some 49) (.mv (tt 1)) 46 true [],
og (some 50) (.bin .sub (tt 49) (nn 1)) 46 true [],
og (some 51) (.call 6200 0 [tt 48, tt 50]) 46 true [],
oo 52 (.pick (tt 46) (tt 51) (.const (.bool false))),
oo 4 (.mv (tt 52))])
 .ret)))) }
noncomputable def p6200 : ProcT := { kind := .fn, ins := [0, 1], bins := [], res := [.tmp 4], code := (.seq (rr [oo 4 (.mv (.const (.bool false)))])
 (.seq (.seq (rr [oo 5 (.mv (nn 0))])
 (.block 0 (.label 6201)))
 (.seq (rr [oo 4 (.mv (.const (.bool true)))])
 .ret))) }
noncomputable def p6201 : ProcT := { kind := .loop, ins := [0, 1, 5], bins := [], outs := [4], bouts := [], code := (.seq (.seq (rr [oo 6 (.mv (tt 5)),
oo 7 (.mv (tt 0)),
oo 8 (.len (tt 7)),
oo 9 (.bin .lss (tt 6) (tt 8))])
 (.cond (tt 9) .skip (.exit 0)))
 (.seq (.block 1 (.seq (rr [oo 12 (.mv (tt 0)),
oo 13 (.mv (tt 5)),
oo 14 (.iadr 8 (tt 12) (tt 13)),
oo 15 (.load 8 true false (tt 14)),
oo 16 (.mv (tt 1)),
oo 17 (.call 6100 0 [tt 15, tt 16]),
oo 18 (.un .not (tt 17))])
 (.cond (tt 18) (.seq (rr [oo 4 (.mv (.const (.bool false)))])
 .ret) .skip)))
 (rr [oo 10 (.mv (tt 5)),
oo 11 (.bin .add (tt 10) (nn 1)),
oo 5 (.mv (tt 11))]))) }
noncomputable def p6300 : ProcT := { kind := .fn, ins := [0], bins := [], res := [.tmp 2], code := (.seq (rr [oo 2 (.mv (.const (.bool false)))])
 (.seq (rr [oo 3 (.mv (tt 0)),
oo 4 (.call 6200 0 [tt 3, nn 3]),
oo 5 (.mv (tt 4)),
og (some 6) (.mv (tt 0)) 5 true [],
og (some 7) (.call 4000 0 [tt 6]) 5 true [],
og (some 8) (.bin .leq (tt 7) (nn 16)) 5 true [],
oo 9 (.pick (tt 5) (tt 8) (.const (.bool false))),
oo 2 (.mv (tt 9))])
 .ret)) }
noncomputable def p6400 : ProcT := { kind := .fn, ins := [0], bins := [], res := [.tmp 2], code := (.seq (rr [oo 2 (.mv (.const (.bool false)))])
 (.seq (rr [oo 3 (.mv (tt 0)),
oo 4 (.call 1600 0 [tt 3, nn (-2147483648), nn 2147483647]),
oo 2 (.mv (tt 4))])
 .ret)) }
noncomputable def p6500 : ProcT := { kind := .fn, ins := [0, 1], bins := [], res := [.tmp 4], code := (.seq (rr [oo 4 (.mv (.const (.bool false)))])
 (.seq (.seq (rr [oo 6 (.mv (tt 0)),
oo 7 (.len (tt 6)),
oo 8 (.mv (tt 1)),
oo 9 (.bin .neq (tt 7) (tt 8))])
 (.cond (tt 9) (.seq (rr [oo 4 (.mv (.const (.bool false)))])
 .ret) .skip))
 (.seq (.seq (rr [oo 5 (.mv (nn 0))])
 (.block 0 (.label 6501)))
 (.seq (rr [oo 4 (.mv (.const (.bool true)))])
 .ret)))) }
noncomputable def p6501 : ProcT := { kind := .loop, ins := [0, 5], bins := [], outs := [4], bouts := [], code := (.seq (.seq (rr [oo 10 (.mv (tt 5)),
oo 11 (.mv (tt 0)),
oo 12 (.len (tt 11)),
oo 13 (.bin .lss (tt 10) (tt 12))])
 (.cond (tt 13) .skip (.exit 0)))
 (.seq (.block 1 (.seq (rr [oo 16 (.mv (tt 0)),
oo 17 (.mv (tt 5)),
oo 18 (.iadr 1 (tt 16) (tt 17)),
oo 19 (.load 1 false false (tt 18)),
oo 20 (.call 6400 0 [tt 19]),
oo 21 (.un .not (tt 20))])
 (.cond (tt 21) (.seq (rr [oo 4 (.mv (.const (.bool false)))])
 .ret) .skip)))
 (rr [oo 14 (.mv (tt 5)),
oo 15 (.bin .add (tt 14) (nn 1)),
oo 5 (.mv (tt 15))]))) }
noncomputable def p6600 : ProcT := { kind := .fn, ins := [0], bins := [], res := [.tmp 2], code := (.seq (rr [oo 1 (.box 100 (tt 0)),
oo 2 (.mv (.const (.bool false)))])
 (.seq (.seq (rr [oo 3 (.mv (nn 0))])
 (.block 0 (.label 6601)))
 (.seq (rr [oo 19 (.fadr 0 (tt 1)),
oo 20 (.load 1 false false (tt 19)),
oo 21 (.call 6500 0 [tt 20, nn 4]),
oo 2 (.mv (tt 21))])
 .ret))) }
noncomputable def p6601 : ProcT := { kind := .loop, ins := [1, 3], bins := [100], outs := [1, 2], bouts := [100], code := (.seq (.seq (rr [oo 4 (.mv (tt 3)),
oo 5 (.fadr 1 (tt 1)),
oo 6 (.load 1 false false (tt 5)),
oo 7 (.len (tt 6)),
oo 8 (.bin .lss (tt 4) (tt 7))])
 (.cond (tt 8) .skip (.exit 0)))
 (.seq (.block 1 (.seq (rr [oo 11 (.fadr 1 (tt 1)),
oo 12 (.load 1 false false (tt 11)),
oo 13 (.mv (tt 3)),
oo 14 (.mv (tt 3)),
oo 15 (.bin .add (tt 14) (nn 1)),
oo 16 (.slc 8 (tt 12) (some (tt 13)) (some (tt 15)) none),
oo 17 (.call 6300 0 [tt 16]),
oo 18 (.un .not (tt 17))])
 (.cond (tt 18) (.seq (rr [oo 2 (.mv (.const (.bool false)))])
 .ret) .skip)))
 (rr [oo 9 (.mv (tt 3)),
oo 10 (.bin .add (tt 9) (nn 1)),
oo 3 (.mv (tt 10))]))) }
noncomputable def p8700 : ProcT := { kind := .fn, ins := [0], bins := [0], res := [.cell 2 8 true], code := (.seq (rr [oo 2 (.alloc 100 [.int .i64 0, .int .i64 0, .int .i64 0, .int .i64 0, .int .i64 0, .sl (.own false) .exp [], .sl (.own false) .stm [], .sl (.own false) .stm []])])
 (.seq (rr [oo 3 (.call 300 0 [nn 0, nn 1]),
oo 4 (.mv (tt 0)),
oo 5 (.mv (tt 0)),
oo 6 (.call 200 0 [tt 5, nn 2]),
oo 7 (.call 4600 0 [tt 4, nn 0, nn 1, tt 6, .const (.bool false)]),
oo 8 (.build [.int .i64 0, .int .i64 0, .int .i64 0, .int .i64 0, .int .i64 0, .sl (.own false) .exp [], .sl (.own false) .stm [], .sl (.own false) .stm []] [(0, 1, nn 3), (3, 3, tt 3), (6, 1, tt 7)]),
on (.store 8 (tt 2) (tt 8)) []])
 .ret)) }
noncomputable def p9400 : ProcT := { kind := .fn, ins := [0], bins := [], res := [.cell 2 3 true], code := (.seq (rr [oo 1 (.box 100 (tt 0)),
oo 2 (.alloc 101 [.int .i64 0, .int .i64 0, .sl (.own false) .exp []])])
 (.seq (.seq (rr [oo 3 (.fadr 2 (tt 1)),
oo 4 (.load 1 false false (tt 3)),
oo 5 (.len (tt 4)),
oo 6 (.bin .eql (tt 5) (nn 0))])
 (.cond (tt 6) (.seq (rr [oo 7 (.fadr 0 (tt 1)),
oo 8 (.load 1 false false (tt 7)),
oo 9 (.fadr 1 (tt 1)),
oo 10 (.load 1 false false (tt 9)),
oo 11 (.call 300 0 [tt 8, tt 10]),
on (.store 3 (tt 2) (tt 11)) []])
 .ret) .skip))
 (.seq (.region true [op 12 (.fadr 0 (tt 1)) [100],
op 13 (.load 1 false false (tt 12)) [100],
op 14 (.fadr 2 (tt 1)) [100],
op 15 (.load 1 false false (tt 14)) [100],
oo 16 (.iadr 3 (tt 15) (nn 0)),
oo 17 (.load 3 true false (tt 16)),
oo 18 (.call 9400 0 [tt 17]),
op 19 (.fadr 2 (tt 1)) [100],
op 20 (.load 1 false false (tt 19)) [100],
oo 21 (.iadr 3 (tt 20) (nn 1)),
oo 22 (.load 3 true false (tt 21)),
oo 23 (.call 9400 0 [tt 22]),
oo 24 (.call 500 0 [tt 13, tt 18, tt 23]),
on (.store 3 (tt 2) (tt 24)) [101]])
 .ret))) }
noncomputable def p9500 : ProcT := { kind := .fn, ins := [0], bins := [], res := [.tmp 2], code := (.seq (rr [oo 2 (.mv (.const (.sl (.own false) .stm [])))])
 (.seq (rr [oo 6 (.buildS (.own true) .stm []),
oo 3 (.mv (.take 6))])
 (.seq (.seq (rr [oo 4 (.mv (nn 0))])
 (.block 0 (.label 9501)))
 (.seq (rr [oo 33 (.mv (.take 3)),
oo 2 (.mv (.take 33))])
 .ret)))) }
noncomputable def p9501 : ProcT := { kind := .loop, ins := [0, 3, 4], bins := [], outs := [2, 3], bouts := [], code := (.seq (.seq (rr [oo 7 (.mv (tt 4)),
oo 8 (.mv (tt 0)),
oo 9 (.len (tt 8)),
oo 10 (.bin .lss (tt 7) (tt 9))])
 (.cond (tt 10) .skip (.exit 0)))
 (.seq (.block 1 (.seq (rr [oo 13 (.mv (tt 0)),
oo 14 (.mv (tt 4)),
oo 15 (.iadr 8 (tt 13) (tt 14)),
oo 16 (.load 8 true false (tt 15)),
oo 5 (.alloc 100 [.int .i64 0, .int .i64 0, .int .i64 0, .int .i64 0, .int .i64 0, .sl (.own false) .exp [], .sl (.own false) .stm [], .sl (.own false) .stm []]),
on (.store 8 (tt 5) (tt 16)) []])
 (.seq (rr [oo 17 (.fadr 3 (tt 5)),
oo 18 (.load 3 true false (tt 17)),
oo 19 (.call 9400 0 [tt 18]),
oo 20 (.fadr 3 (tt 5)),
on (.store 3 (tt 20) (tt 19)) []])
 (.seq (rr [oo 21 (.fadr 6 (tt 5)),
oo 22 (.load 1 false false (tt 21)),
oo 23 (.call 9500 0 [tt 22]),
oo 24 (.fadr 6 (tt 5)),
on (.store 1 (tt 24) (.take 23)) []])
 (.seq (rr [oo 25 (.fadr 7 (tt 5)),
oo 26 (.load 1 false false (tt 25)),
oo 27 (.call 9500 0 [tt 26]),
oo 28 (.fadr 7 (tt 5)),
on (.store 1 (tt 28) (.take 27)) []])
 (rr [oo 29 (.mv (.take 3)),
oo 30 (.load 8 true false (tt 5)),
oo 31 (.buildS .full .stm [tt 30]),
oo 32 (.app 8 (.take 29) (tt 31)),
oo 3 (.mv (.take 32))]))))))
 (rr [oo 11 (.mv (tt 4)),
oo 12 (.bin .add (tt 11) (nn 1)),
oo 4 (.mv (tt 12))]))) }
noncomputable def p9600 : ProcT := { kind := .fn, ins := [0], bins := [], res := [.cell 2 2 true, .tmp 3], code := (.seq (rr [oo 2 (.alloc 100 [.sl (.own false) .int [], .sl (.own false) .stm []]),
oo 3 (.mv (.const (.bool false)))])
 (.seq (.seq (rr [oo 4 (.mv (tt 0)),
oo 5 (.call 6300 0 [tt 4]),
oo 6 (.un .not (tt 5))])
 (.cond (tt 6) (.seq (rr [oo 7 (.build [.sl (.own false) .int [], .sl (.own false) .stm []] []),
on (.store 2 (tt 2) (tt 7)) [],
oo 3 (.mv (.const (.bool false)))])
 .ret) .skip))
 (.seq (.region true [oo 8 (.mkz .int (nn 4) (nn 4)),
oo 9 (.mv (tt 0)),
oo 10 (.call 9500 0 [tt 9]),
oo 11 (.build [.sl (.own false) .int [], .sl (.own false) .stm []] [(0, 1, tt 8), (1, 1, tt 10)]),
on (.store 2 (tt 2) (tt 11)) [100],
oo 3 (.mv (.const (.bool true)))])
 .ret))) }
noncomputable def p9700 : ProcT := { kind := .fn, ins := [0, 1], bins := [], res := [.tmp 4], code := (.seq (rr [oo 4 (.mv (.const (.bool false)))])
 (.seq (.seq (rr [oo 6 (.mv (tt 0)),
oo 7 (.len (tt 6)),
oo 8 (.mv (tt 1)),
oo 9 (.len (tt 8)),
oo 10 (.bin .neq (tt 7) (tt 9))])
 (.cond (tt 10) (.seq (rr [oo 4 (.mv (.const (.bool false)))])
 .ret) .skip))
 (.seq (.seq (rr [oo 5 (.mv (nn 0))])
 (.block 0 (.label 9701)))
 (.seq (rr [oo 4 (.mv (.const (.bool true)))])
 .ret)))) }
noncomputable def p9701 : ProcT := { kind := .loop, ins := [0, 1, 5], bins := [], outs := [4], bouts := [], code := (.seq (.seq (rr [oo 11 (.mv (tt 5)),
oo 12 (.mv (tt 0)),
oo 13 (.len (tt 12)),
oo 14 (.bin .lss (tt 11) (tt 13))])
 (.cond (tt 14) .skip (.exit 0)))
 (.seq (.block 1 (.seq (.region true [oo 17 (.mv (tt 0)),
oo 18 (.mv (tt 5)),
oo 19 (.iadr 1 (tt 17) (tt 18)),
oo 20 (.load 1 false false (tt 19)),
oo 21 (.mv (tt 1)),
oo 22 (.mv (tt 5)),
oo 23 (.iadr 1 (tt 21) (tt 22)),
oo 24 (.load 1 false false (tt 23)),
oo 25 (.bin .neq (tt 20) (tt 24))])
 (.cond (tt 25) (.seq (rr [oo 4 (.mv (.const (.bool false)))])
 .ret) .skip)))
 (rr [oo 15 (.mv (tt 5)),
oo 16 (.bin .add (tt 15) (nn 1)),
oo 5 (.mv (tt 16))]))) }
noncomputable def p11100 : ProcT := { kind := .fn, ins := [0, 1, 2], bins := [], res := [.tmp 6], code := (.seq (rr [oo 6 (.mv (.const (.bool false)))])
 (.seq (rr [oo 7 (.mv (tt 0)),
oo 8 (.bin .eql (tt 7) (nn 0)),
oo 9 (.mv (tt 8)),
og (some 10) (.mv (tt 2)) 9 false [],
og (some 11) (.mv (tt 10)) 9 false [],
og (some 12) (.mv (tt 0)) 11 true [],
og (some 13) (.bin .gtr (tt 12) (nn 0)) 11 true [],
og (some 14) (.pick (tt 11) (tt 13) (.const (.bool false))) 9 false [],
og (some 15) (.mv (tt 14)) 9 false [],
og (some 16) (.mv (tt 0)) 15 true [],
og (some 17) (.mv (tt 1)) 15 true [],
og (some 18) (.bin .lss (tt 16) (tt 17)) 15 true [],
og (some 19) (.pick (tt 15) (tt 18) (.const (.bool false))) 9 false [],
oo 20 (.pick (tt 9) (.const (.bool true)) (tt 19)),
oo 6 (.mv (tt 20))])
 .ret)) }
noncomputable def p11200 : ProcT := { kind := .fn, ins := [0, 1, 2, 3], bins := [], res := [.tmp 8, .tmp 9, .tmp 10], code := (.seq (rr [oo 8 (.mv (nn 0)),
oo 9 (.mv (nn 0)),
oo 10 (.mv (.const (.bool false)))])
 (.seq (.seq (rr [oo 11 (.mv (tt 0)),
oo 12 (.call 1600 0 [tt 11, nn 1, nn 3]),
oo 13 (.un .not (tt 12)),
oo 14 (.mv (tt 13)),
og (some 15) (.mv (tt 1)) 14 false [],
og (some 16) (.mv (tt 0)) 14 false [],
og (some 17) (.bin .sub (tt 16) (nn 1)) 14 false [],
og (some 18) (.call 1600 0 [tt 15, nn 0, tt 17]) 14 false [],
og (some 19) (.un .not (tt 18)) 14 false [],
oo 20 (.pick (tt 14) (.const (.bool true)) (tt 19)),
oo 21 (.mv (tt 20)),
og (some 22) (.mv (tt 2)) 21 false [],
og (some 23) (.mv (tt 0)) 21 false [],
og (some 24) (.bin .sub (tt 23) (nn 1)) 21 false [],
og (some 25) (.call 1600 0 [tt 22, nn 0, tt 24]) 21 false [],
og (some 26) (.un .not (tt 25)) 21 false [],
oo 27 (.pick (tt 21) (.const (.bool true)) (tt 26))])
 (.cond (tt 27) (.seq (rr [oo 8 (.mv (nn 0)),
oo 9 (.mv (nn 0)),
oo 10 (.mv (.const (.bool false)))])
 .ret) .skip))
 (.seq (.seq (rr [oo 28 (.mv (tt 3))])
 (.block 0 (.seq (rr [oo 30 (.bin .eql (tt 28) (nn 1)),
oo 29 (.mv (tt 30))])
 (.cond (tt 29) (.seq (rr [oo 31 (.mv (tt 1)),
oo 8 (.mv (tt 31)),
oo 9 (.mv (nn 0)),
oo 10 (.mv (.const (.bool true)))])
 .ret) (.seq (rr [oo 33 (.bin .eql (tt 28) (nn 2)),
oo 32 (.mv (tt 33))])
 (.cond (tt 32) (.seq (rr [oo 34 (.mv (tt 1)),
oo 35 (.bin .add (tt 34) (nn 1)),
oo 36 (.mv (tt 0)),
oo 37 (.bin .rem (tt 35) (tt 36)),
oo 8 (.mv (tt 37)),
oo 9 (.mv (nn 0)),
oo 10 (.mv (.const (.bool true)))])
 .ret) (.seq (.seq (rr [oo 39 (.bin .eql (tt 28) (nn 3)),
oo 38 (.mv (tt 39))])
 (.cond (tt 38) .skip (rr [oo 40 (.bin .eql (tt 28) (nn 4)),
oo 38 (.mv (tt 40))])))
 (.cond (tt 38) (.seq (rr [oo 41 (.mv (tt 1)),
oo 42 (.bin .add (tt 41) (nn 1)),
oo 43 (.mv (tt 0)),
oo 44 (.bin .rem (tt 42) (tt 43)),
oo 45 (.mv (tt 2)),
oo 46 (.bin .add (tt 45) (nn 1)),
oo 8 (.mv (tt 44)),
oo 9 (.mv (tt 46)),
oo 10 (.mv (.const (.bool true)))])
 .ret) .skip))))))))
 (.seq (rr [oo 8 (.mv (nn 0)),
oo 9 (.mv (nn 0)),
oo 10 (.mv (.const (.bool false)))])
 .ret)))) }
noncomputable def p17600 : ProcT := { kind := .fn, ins := [0], bins := [], res := [.tmp 2], code := (.seq (rr [oo 1 (.box 100 (tt 0)),
oo 2 (.mv (.const (.bool false)))])
 (.seq (rr [oo 3 (.fadr 0 (tt 1)),
oo 4 (.load 1 false false (tt 3)),
oo 5 (.bin .geq (tt 4) (nn 1)),
oo 6 (.mv (tt 5)),
og (some 7) (.fadr 0 (tt 1)) 6 true [],
og (some 8) (.load 1 false false (tt 7)) 6 true [],
og (some 9) (.bin .leq (tt 8) (nn 4)) 6 true [],
oo 10 (.pick (tt 6) (tt 9) (.const (.bool false))),
oo 11 (.mv (tt 10)),
og (some 12) (.fadr 1 (tt 1)) 11 true [],
og (some 13) (.load 1 false false (tt 12)) 11 true [],
og (some 14) (.len (tt 13)) 11 true [],
og (some 15) (.fadr 0 (tt 1)) 11 true [],
og (some 16) (.load 1 false false (tt 15)) 11 true [],
og (some 17) (.bin .leq (tt 14) (tt 16)) 11 true [],
oo 18 (.pick (tt 11) (tt 17) (.const (.bool false))),
oo 19 (.mv (tt 18)),
og (some 20) (.fadr 1 (tt 1)) 19 true [],
og (some 21) (.load 1 false false (tt 20)) 19 true [],
og (some 22) (.call 5100 0 [tt 21]) 19 true [],
oo 23 (.pick (tt 19) (tt 22) (.const (.bool false))),
oo 2 (.mv (tt 23))])
 .ret)) }
noncomputable def p17800 : ProcT := { kind := .fn, ins := [0], bins := [], res := [.tmp 2], code := (.seq (rr [oo 1 (.box 100 (tt 0)),
oo 2 (.mv (.const (.bool false)))])
 (.seq (rr [oo 3 (.fadr 0 (tt 1)),
oo 4 (.load 1 false false (tt 3)),
oo 5 (.call 1600 0 [tt 4, nn 1, nn 4]),
oo 6 (.mv (tt 5)),
og (some 7) (.fadr 1 (tt 1)) 6 true [],
og (some 8) (.load 1 false false (tt 7)) 6 true [],
og (some 9) (.len (tt 8)) 6 true [],
og (some 10) (.fadr 0 (tt 1)) 6 true [],
og (some 11) (.load 1 false false (tt 10)) 6 true [],
og (some 12) (.bin .leq (tt 9) (tt 11)) 6 true [],
oo 13 (.pick (tt 6) (tt 12) (.const (.bool false))),
oo 14 (.mv (tt 13)),
og (some 15) (.fadr 1 (tt 1)) 14 true [],
og (some 16) (.load 1 false false (tt 15)) 14 true [],
og (some 17) (.fadr 1 (tt 1)) 14 true [],
og (some 18) (.load 1 false false (tt 17)) 14 true [],
og (some 19) (.len (tt 18)) 14 true [],
og (some 20) (.call 6500 0 [tt 16, tt 19]) 14 true [],
oo 21 (.pick (tt 14) (tt 20) (.const (.bool false))),
oo 2 (.mv (tt 21))])
 .ret)) }
noncomputable def p17900 : ProcT := { kind := .fn, ins := [0], bins := [], res := [.cell 2 2 true, .tmp 3, .tmp 4], code := (.seq (rr [oo 1 (.box 100 (tt 0)),
oo 2 (.alloc 101 [.int .i64 0, .sl (.own false) .int []]),
oo 3 (.mv (nn 0)),
oo 4 (.mv (.const (.bool false)))])
 (.seq (.seq (rr [oo 5 (.load 2 true false (tt 1)),
oo 6 (.call 17800 0 [tt 5]),
oo 7 (.un .not (tt 6)),
oo 8 (.mv (tt 7)),
og (some 9) (.fadr 1 (tt 1)) 8 false [],
og (some 10) (.load 1 false false (tt 9)) 8 false [],
og (some 11) (.len (tt 10)) 8 false [],
og (some 12) (.bin .eql (tt 11) (nn 0)) 8 false [],
oo 13 (.pick (tt 8) (.const (.bool true)) (tt 12))])
 (.cond (tt 13) (.seq (rr [oo 14 (.build [.int .i64 0, .sl (.own false) .int []] []),
on (.store 2 (tt 2) (tt 14)) [],
oo 3 (.mv (nn 0)),
oo 4 (.mv (.const (.bool false)))])
 .ret) .skip))
 (.seq (.region true [op 15 (.fadr 0 (tt 1)) [100],
op 16 (.load 1 false false (tt 15)) [100],
oo 17 (.buildS (.own true) .int []),
op 18 (.fadr 1 (tt 1)) [100],
op 19 (.load 1 false false (tt 18)) [100],
oo 20 (.slc 1 (tt 19) (some (nn 1)) none none),
oo 21 (.app 1 (.take 17) (tt 20)),
oo 22 (.build [.int .i64 0, .sl (.own false) .int []] [(0, 1, tt 16), (1, 1, tt 21)]),
op 23 (.fadr 1 (tt 1)) [100],
op 24 (.load 1 false false (tt 23)) [100],
oo 25 (.iadr 1 (tt 24) (nn 0)),
oo 26 (.load 1 false false (tt 25)),
on (.store 2 (tt 2) (tt 22)) [101],
oo 3 (.mv (tt 26)),
oo 4 (.mv (.const (.bool true)))])
 .ret))) }
noncomputable def p18500 : ProcT := { kind := .fn, ins := [0, 1], bins := [], res := [.cell 4 2 true, .tmp 5], code := (.seq (rr [oo 2 (.box 100 (tt 0)),
oo 4 (.alloc 101 [.int .i64 0, .sl (.own false) .int []]),
oo 5 (.mv (.const (.bool false)))])
 (.seq (.seq (rr [oo 6 (.load 2 true false (tt 2)),
oo 7 (.call 17800 0 [tt 6]),
oo 8 (.un .not (tt 7)),
oo 9 (.mv (tt 8)),
og (some 10) (.mv (tt 1)) 9 false [],
og (some 11) (.call 6400 0 [tt 10]) 9 false [],
og (some 12) (.un .not (tt 11)) 9 false [],
oo 13 (.pick (tt 9) (.const (.bool true)) (tt 12)),
oo 14 (.mv (tt 13)),
og (some 15) (.fadr 1 (tt 2)) 14 false [],
og (some 16) (.load 1 false false (tt 15)) 14 false [],
og (some 17) (.len (tt 16)) 14 false [],
og (some 18) (.fadr 0 (tt 2)) 14 false [],
og (some 19) (.load 1 false false (tt 18)) 14 false [],
og (some 20) (.bin .geq (tt 17) (tt 19)) 14 false [],
oo 21 (.pick (tt 14) (.const (.bool true)) (tt 20))])
 (.cond (tt 21) (.seq (rr [oo 22 (.build [.int .i64 0, .sl (.own false) .int []] []),
on (.store 2 (tt 4) (tt 22)) [],
oo 5 (.mv (.const (.bool false)))])
 .ret) .skip))
 (.seq (.region true [op 23 (.fadr 0 (tt 2)) [100],
op 24 (.load 1 false false (tt 23)) [100],
oo 25 (.buildS (.own true) .int []),
op 26 (.fadr 1 (tt 2)) [100],
op 27 (.load 1 false false (tt 26)) [100],
oo 28 (.app 1 (.take 25) (tt 27)),
oo 29 (.mv (tt 1)),
oo 30 (.buildS .full .int [tt 29]),
oo 31 (.app 1 (.take 28) (tt 30)),
oo 32 (.build [.int .i64 0, .sl (.own false) .int []] [(0, 1, tt 24), (1, 1, tt 31)]),
on (.store 2 (tt 4) (tt 32)) [101],
oo 5 (.mv (.const (.bool true)))])
 .ret))) }
noncomputable def p22300 : ProcT := { kind := .fn, ins := [0], bins := [0], res := [.tmp 2], code := (.seq (rr [oo 2 (.mv (.const (.sl (.own false) .int [])))])
 (.seq (rr [oo 6 (.buildS (.own true) .int []),
oo 3 (.mv (.take 6))])
 (.seq (rr [oo 7 (.buildS .full .int [nn 0, nn 1, nn 1, nn 2, nn 2, nn 3]),
oo 8 (.mv (tt 0)),
oo 9 (.call 200 0 [tt 8, nn 6]),
oo 10 (.iadr 1 (tt 7) (tt 9)),
oo 11 (.load 1 false false (tt 10)),
oo 4 (.mv (tt 11))])
 (.seq (.seq (rr [oo 5 (.mv (nn 0))])
 (.block 0 (.label 22301)))
 (.seq (rr [oo 25 (.mv (.take 3)),
oo 2 (.mv (.take 25))])
 .ret))))) }
noncomputable def p22301 : ProcT := { kind := .loop, ins := [0, 3, 4, 5], bins := [0], outs := [0, 2, 3], bouts := [0], code := (.seq (.seq (rr [oo 12 (.mv (tt 5)),
oo 13 (.mv (tt 4)),
oo 14 (.bin .lss (tt 12) (tt 13))])
 (.cond (tt 14) .skip (.exit 0)))
 (.seq (.block 1 (rr [oo 17 (.mv (.take 3)),
oo 18 (.buildS .full .int [nn 1, nn 1, nn 2, nn 3, nn 4]),
oo 19 (.mv (tt 0)),
oo 20 (.call 200 0 [tt 19, nn 5]),
oo 21 (.iadr 1 (tt 18) (tt 20)),
oo 22 (.load 1 false false (tt 21)),
oo 23 (.buildS .full .int [tt 22]),
oo 24 (.app 1 (.take 17) (tt 23)),
oo 3 (.mv (.take 24))]))
 (rr [oo 15 (.mv (tt 5)),
oo 16 (.bin .add (tt 15) (nn 1)),
oo 5 (.mv (tt 16))]))) }
noncomputable def p22400 : ProcT := { kind := .fn, ins := [0], bins := [0], res := [.cell 2 2 true], loc := true, code := (.seq (rr [oo 2 (.alloc 100 [.sl (.own false) .int [], .tr .stms none 0])])
 (.seq (rr [oo 6 (.mv (tt 0)),
oo 7 (.call 22300 0 [tt 6]),
oo 8 (.tr (.lit .stms [])),
oo 9 (.build [.sl (.own false) .int [], .tr .stms none 0] [(0, 1, tt 7), (1, 1, tt 8)]),
oo 3 (.alloc 101 [.sl (.own false) .int [], .tr .stms none 0]),
on (.store 2 (tt 3) (tt 9)) []])
 (.seq (rr [oo 10 (.mv (tt 0)),
oo 11 (.call 200 0 [tt 10, nn 3]),
oo 12 (.bin .add (nn 1) (tt 11)),
oo 4 (.mv (tt 12))])
 (.seq (.seq (rr [oo 5 (.mv (nn 0))])
 (.block 0 (.label 22401)))
 (.seq (.seq (rr [oo 28 (.mv (tt 0)),
oo 29 (.call 200 0 [tt 28, nn 16]),
oo 30 (.bin .eql (tt 29) (nn 0))])
 (.cond (tt 30) (.region true [op 31 (.fadr 1 (tt 3)) [101],
op 32 (.load 1 false false (tt 31)) [101],
oo 33 (.mv (tt 0)),
op 34 (.call 8700 0 [tt 33]) [0],
oo 35 (.buildS .full .stm [tt 34]),
oo 36 (.tr (.iadr 1 (tt 32) (nn 0))),
on (.tr (.store 1 (tt 36) (tt 35))) [99]]) .skip))
 (.seq (rr [oo 37 (.load 2 true false (tt 3)),
on (.store 2 (tt 2) (tt 37)) []])
 .ret)))))) }
noncomputable def p22401 : ProcT := { kind := .loop, ins := [0, 2, 3, 4, 5], bins := [0, 100, 101, 99], outs := [0, 2, 3], bouts := [0, 100, 101, 99], code := (.seq (.seq (rr [oo 13 (.mv (tt 5)),
oo 14 (.mv (tt 4)),
oo 15 (.bin .lss (tt 13) (tt 14))])
 (.cond (tt 15) .skip (.exit 0)))
 (.seq (.block 1 (.region true [op 18 (.fadr 1 (tt 3)) [101],
op 19 (.load 1 false false (tt 18)) [101],
oo 20 (.mv (tt 0)),
op 21 (.fadr 0 (tt 3)) [101],
op 22 (.load 1 false false (tt 21)) [101],
oo 23 (.len (tt 22)),
op 24 (.call 4700 0 [tt 20, tt 23]) [0],
oo 25 (.buildS .full .stms [tt 24]),
op 26 (.tr (.app 1 (tt 19) (tt 25))) [99],
op 27 (.fadr 1 (tt 3)) [101],
on (.store 1 (tt 27) (tt 26)) [101]]))
 (rr [oo 16 (.mv (tt 5)),
oo 17 (.bin .add (tt 16) (nn 1)),
oo 5 (.mv (tt 17))]))) }
noncomputable def p23100 : ProcT := { kind := .fn, ins := [0, 1], bins := [], res := [.tmp 4], code := (.seq (rr [oo 4 (.mv (.const (.bool false)))])
 (.seq (.seq (rr [oo 5 (.mv (nn 0))])
 (.block 0 (.label 23101)))
 (.seq (rr [oo 4 (.mv (.const (.bool true)))])
 .ret))) }
noncomputable def p23101 : ProcT := { kind := .loop, ins := [0, 1, 5], bins := [], outs := [4], bouts := [], code := (.seq (.seq (rr [oo 7 (.mv (tt 5)),
oo 8 (.mv (tt 0)),
oo 9 (.len (tt 8)),
oo 10 (.bin .lss (tt 7) (tt 9))])
 (.cond (tt 10) .skip (.exit 0)))
 (.seq (.block 1 (.seq (rr [oo 13 (.mv (tt 0)),
oo 14 (.mv (tt 5)),
oo 15 (.iadr 8 (tt 13) (tt 14)),
oo 16 (.load 8 true false (tt 15)),
oo 6 (.alloc 100 [.int .i64 0, .int .i64 0, .int .i64 0, .int .i64 0, .int .i64 0, .sl (.own false) .exp [], .sl (.own false) .stm [], .sl (.own false) .stm []]),
on (.store 8 (tt 6) (tt 16)) []])
 (.seq (.seq (rr [oo 17 (.fadr 0 (tt 6)),
oo 18 (.load 1 false false (tt 17)),
oo 19 (.bin .eql (tt 18) (nn 4)),
oo 20 (.mv (tt 19)),
og (some 21) (.fadr 0 (tt 6)) 20 false [],
og (some 22) (.load 1 false false (tt 21)) 20 false [],
og (some 23) (.bin .eql (tt 22) (nn 5)) 20 false [],
oo 24 (.pick (tt 20) (.const (.bool true)) (tt 23)),
oo 25 (.mv (tt 24)),
og (some 26) (.fadr 2 (tt 6)) 25 true [],
og (some 27) (.load 1 false false (tt 26)) 25 true [],
og (some 28) (.mv (tt 1)) 25 true [],
og (some 29) (.bin .geq (tt 27) (tt 28)) 25 true [],
oo 30 (.pick (tt 25) (tt 29) (.const (.bool false)))])
 (.cond (tt 30) (.seq (rr [oo 4 (.mv (.const (.bool false)))])
 .ret) .skip))
 (.seq (rr [oo 31 (.fadr 6 (tt 6)),
oo 32 (.load 1 false false (tt 31)),
oo 33 (.mv (tt 1)),
oo 34 (.call 23100 0 [tt 32, tt 33]),
oo 35 (.un .not (tt 34)),
oo 36 (.mv (tt 35)),
og (some 37) (.fadr 7 (tt 6)) 36 false [],
og (some 38) (.load 1 false false (tt 37)) 36 false [],
og (some 39) (.mv (tt 1)) 36 false [],
og (some 40) (.call 23100 0 [tt 38, tt 39]) 36 false [],
og (some 41) (.un .not (tt 40)) 36 false [],
oo 42 (.pick (tt 36) (.const (.bool true)) (tt 41))])
 (.cond (tt 42) (.seq (rr [oo 4 (.mv (.const (.bool false)))])
 .ret) .skip)))))
 (rr [oo 11 (.mv (tt 5)),
oo 12 (.bin .add (tt 11) (nn 1)),
oo 5 (.mv (tt 12))]))) }
noncomputable def p23200 : ProcT := { kind := .fn, ins := [0], bins := [], res := [.tmp 2], code := (.seq (rr [oo 2 (.mv (.const (.bool false)))])
 (.seq (.seq (rr [oo 3 (.mv (nn 0))])
 (.block 0 (.label 23201)))
 (.seq (rr [oo 16 (.mv (tt 0)),
oo 17 (.len (tt 16)),
oo 18 (.bin .leq (tt 17) (nn 3)),
oo 2 (.mv (tt 18))])
 .ret))) }
noncomputable def p23201 : ProcT := { kind := .loop, ins := [0, 3], bins := [], outs := [0, 2], bouts := [], code := (.seq (.seq (rr [oo 4 (.mv (tt 3)),
oo 5 (.mv (tt 0)),
oo 6 (.len (tt 5)),
oo 7 (.bin .lss (tt 4) (tt 6))])
 (.cond (tt 7) .skip (.exit 0)))
 (.seq (.block 1 (.seq (rr [oo 10 (.mv (tt 0)),
oo 11 (.mv (tt 3)),
oo 12 (.iadr 1 (tt 10) (tt 11)),
oo 13 (.load 1 false false (tt 12)),
oo 14 (.call 1600 0 [tt 13, nn 1, nn 4]),
oo 15 (.un .not (tt 14))])
 (.cond (tt 15) (.seq (rr [oo 2 (.mv (.const (.bool false)))])
 .ret) .skip)))
 (rr [oo 8 (.mv (tt 3)),
oo 9 (.bin .add (tt 8) (nn 1)),
oo 3 (.mv (tt 9))]))) }
noncomputable def p23300 : ProcT := { kind := .fn, ins := [0], bins := [], res := [.tmp 2], code := (.seq (rr [oo 1 (.box 100 (tt 0)),
oo 2 (.mv (.const (.bool false)))])
 (.seq (.seq (rr [oo 4 (.fadr 0 (tt 1)),
oo 5 (.load 1 false false (tt 4)),
oo 6 (.call 23200 0 [tt 5]),
oo 7 (.un .not (tt 6)),
oo 8 (.mv (tt 7)),
og (some 9) (.fadr 1 (tt 1)) 8 false [],
og (some 10) (.load 1 false false (tt 9)) 8 false [],
og (some 11) (.len (tt 10)) 8 false [],
og (some 12) (.call 1600 0 [tt 11, nn 1, nn 3]) 8 false [],
og (some 13) (.un .not (tt 12)) 8 false [],
oo 14 (.pick (tt 8) (.const (.bool true)) (tt 13))])
 (.cond (tt 14) (.seq (rr [oo 2 (.mv (.const (.bool false)))])
 .ret) .skip))
 (.seq (.seq (rr [oo 3 (.mv (nn 0))])
 (.block 0 (.label 23301)))
 (.seq (rr [oo 2 (.mv (.const (.bool true)))])
 .ret)))) }
noncomputable def p23301 : ProcT := { kind := .loop, ins := [1, 3], bins := [100], outs := [2], bouts := [], code := (.seq (.seq (rr [oo 15 (.mv (tt 3)),
oo 16 (.fadr 1 (tt 1)),
oo 17 (.load 1 false false (tt 16)),
oo 18 (.len (tt 17)),
oo 19 (.bin .lss (tt 15) (tt 18))])
 (.cond (tt 19) .skip (.exit 0)))
 (.seq (.block 1 (.seq (.region true [op 22 (.fadr 1 (tt 1)) [100],
op 23 (.load 1 false false (tt 22)) [100],
oo 24 (.mv (tt 3)),
oo 25 (.iadr 1 (tt 23) (tt 24)),
oo 26 (.load 1 false false (tt 25)),
oo 27 (.call 6300 0 [tt 26]),
oo 28 (.un .not (tt 27)),
oo 29 (.mv (tt 28)),
og (some 30) (.fadr 1 (tt 1)) 29 false [100],
og (some 31) (.load 1 false false (tt 30)) 29 false [100],
og (some 32) (.mv (tt 3)) 29 false [],
og (some 33) (.iadr 1 (tt 31) (tt 32)) 29 false [],
og (some 34) (.load 1 false false (tt 33)) 29 false [],
og (some 35) (.fadr 0 (tt 1)) 29 false [100],
og (some 36) (.load 1 false false (tt 35)) 29 false [100],
og (some 37) (.len (tt 36)) 29 false [],
og (some 38) (.call 23100 0 [tt 34, tt 37]) 29 false [],
og (some 39) (.un .not (tt 38)) 29 false [],
oo 40 (.pick (tt 29) (.const (.bool true)) (tt 39))])
 (.cond (tt 40) (.seq (rr [oo 2 (.mv (.const (.bool false)))])
 .ret) .skip)))
 (rr [oo 20 (.mv (tt 3)),
oo 21 (.bin .add (tt 20) (nn 1)),
oo 3 (.mv (tt 21))]))) }
noncomputable def p23400 : ProcT := { kind := .fn, ins := [0], bins := [], res := [.tmp 2], code := (.seq (rr [oo 2 (.mv (.const (.sl (.own false) .bx [])))])
 (.seq (rr [oo 5 (.buildS (.own true) .bx []),
oo 3 (.mv (.take 5))])
 (.seq (.seq (rr [oo 4 (.mv (nn 0))])
 (.block 0 (.label 23401)))
 (.seq (rr [oo 21 (.mv (.take 3)),
oo 2 (.mv (.take 21))])
 .ret)))) }
noncomputable def p23401 : ProcT := { kind := .loop, ins := [0, 3, 4], bins := [], outs := [2, 3], bouts := [], code := (.seq (.seq (rr [oo 6 (.mv (tt 4)),
oo 7 (.mv (tt 0)),
oo 8 (.len (tt 7)),
oo 9 (.bin .lss (tt 6) (tt 8))])
 (.cond (tt 9) .skip (.exit 0)))
 (.seq (.block 1 (rr [oo 12 (.mv (.take 3)),
oo 13 (.mv (tt 0)),
oo 14 (.mv (tt 4)),
oo 15 (.iadr 1 (tt 13) (tt 14)),
oo 16 (.load 1 false false (tt 15)),
oo 17 (.buildS (.own false) .int []),
oo 18 (.build [.int .i64 0, .sl (.own false) .int []] [(0, 1, tt 16), (1, 1, tt 17)]),
oo 19 (.buildS .full .bx [tt 18]),
oo 20 (.app 2 (.take 12) (tt 19)),
oo 3 (.mv (.take 20))]))
 (rr [oo 10 (.mv (tt 4)),
oo 11 (.bin .add (tt 10) (nn 1)),
oo 4 (.mv (tt 11))]))) }
noncomputable def p23500 : ProcT := { kind := .fn, ins := [0], bins := [], res := [.cell 2 5 true, .tmp 3], code := (.seq (rr [oo 1 (.box 100 (tt 0)),
oo 2 (.alloc 101 [.sl (.own false) .tk [], .sl (.own false) .bx [], .int .i64 0, .int .i64 0, .sl (.own false) .int []]),
oo 3 (.mv (.const (.bool false)))])
 (.seq (.seq (rr [oo 8 (.load 2 true false (tt 1)),
oo 9 (.call 23300 0 [tt 8]),
oo 10 (.un .not (tt 9))])
 (.cond (tt 10) (.seq (rr [oo 11 (.build [.sl (.own false) .tk [], .sl (.own false) .bx [], .int .i64 0, .int .i64 0, .sl (.own false) .int []] []),
on (.store 5 (tt 2) (tt 11)) [],
oo 3 (.mv (.const (.bool false)))])
 .ret) .skip))
 (.seq (rr [oo 12 (.buildS (.own false) .tk []),
oo 13 (.fadr 0 (tt 1)),
oo 14 (.load 1 false false (tt 13)),
oo 15 (.call 23400 0 [tt 14]),
oo 16 (.buildS (.own false) .int []),
oo 17 (.build [.sl (.own false) .tk [], .sl (.own false) .bx [], .int .i64 0, .int .i64 0, .sl (.own false) .int []] [(0, 1, tt 12), (1, 1, tt 15), (4, 1, tt 16)]),
oo 4 (.alloc 102 [.sl (.own false) .tk [], .sl (.own false) .bx [], .int .i64 0, .int .i64 0, .sl (.own false) .int []]),
on (.store 5 (tt 4) (tt 17)) []])
 (.seq (.seq (rr [oo 5 (.mv (nn 0))])
 (.block 0 (.label 23501)))
 (.seq (rr [oo 40 (.load 5 true false (tt 4)),
on (.store 5 (tt 2) (tt 40)) [],
oo 3 (.mv (.const (.bool true)))])
 .ret))))) }
noncomputable def p23501 : ProcT := { kind := .loop, ins := [1, 2, 4, 5], bins := [100, 101, 102], outs := [2, 3, 4], bouts := [101, 102], code := (.seq (.seq (rr [oo 18 (.mv (tt 5)),
oo 19 (.fadr 1 (tt 1)),
oo 20 (.load 1 false false (tt 19)),
oo 21 (.len (tt 20)),
oo 22 (.bin .lss (tt 18) (tt 21))])
 (.cond (tt 22) .skip (.exit 0)))
 (.seq (.block 1 (.seq (rr [oo 26 (.fadr 1 (tt 1)),
oo 27 (.load 1 false false (tt 26)),
oo 28 (.mv (tt 5)),
oo 29 (.iadr 1 (tt 27) (tt 28)),
oo 30 (.load 1 false false (tt 29)),
oo 31 (.call 9600 0 [tt 30]),
oo 25 (.mv (tt 31)),
oo 32 (.ext 0 (tt 25)),
oo 33 (.ext 1 (tt 25)),
oo 6 (.alloc 103 [.sl (.own false) .int [], .sl (.own false) .stm []]),
on (.store 2 (tt 6) (tt 32)) [],
oo 7 (.mv (tt 33))])
 (rr [oo 34 (.fadr 0 (tt 4)),
oo 35 (.load 1 false true (tt 34)),
oo 36 (.load 2 true false (tt 6)),
oo 37 (.buildS .full .tk [tt 36]),
oo 38 (.app 2 (.take 35) (tt 37)),
oo 39 (.fadr 0 (tt 4)),
on (.store 1 (tt 39) (.take 38)) []])))
 (rr [oo 23 (.mv (tt 5)),
oo 24 (.bin .add (tt 23) (nn 1)),
oo 5 (.mv (tt 24))]))) }
noncomputable def p23800 : ProcT := { kind := .fn, ins := [0, 1, 2, 3], bins := [], res := [.tmp 8], code := (.seq (rr [oo 8 (.mv (.const (.bool false)))])
 (.seq (rr [oo 9 (.mv (tt 0)),
oo 10 (.bin .geq (tt 9) (nn 1)),
oo 11 (.mv (tt 10)),
og (some 12) (.mv (tt 0)) 11 true [],
og (some 13) (.bin .leq (tt 12) (nn 3)) 11 true [],
oo 14 (.pick (tt 11) (tt 13) (.const (.bool false))),
oo 15 (.mv (tt 14)),
og (some 16) (.mv (tt 1)) 15 true [],
og (some 17) (.bin .geq (tt 16) (nn 0)) 15 true [],
oo 18 (.pick (tt 15) (tt 17) (.const (.bool false))),
oo 19 (.mv (tt 18)),
og (some 20) (.mv (tt 1)) 19 true [],
og (some 21) (.mv (tt 0)) 19 true [],
og (some 22) (.bin .lss (tt 20) (tt 21)) 19 true [],
oo 23 (.pick (tt 19) (tt 22) (.const (.bool false))),
oo 24 (.mv (tt 23)),
og (some 25) (.mv (tt 2)) 24 true [],
og (some 26) (.bin .geq (tt 25) (nn 0)) 24 true [],
oo 27 (.pick (tt 24) (tt 26) (.const (.bool false))),
oo 28 (.mv (tt 27)),
og (some 29) (.mv (tt 2)) 28 true [],
og (some 30) (.mv (tt 0)) 28 true [],
og (some 31) (.bin .leq (tt 29) (tt 30)) 28 true [],
oo 32 (.pick (tt 28) (tt 31) (.const (.bool false))),
oo 33 (.mv (tt 32)),
og (some 34) (.mv (tt 3)) 33 true [],
og (some 35) (.call 5100 0 [tt 34]) 33 true [],
oo 36 (.pick (tt 33) (tt 35) (.const (.bool false))),
oo 8 (.mv (tt 36))])
 .ret)) }
noncomputable def p23900 : ProcT := { kind := .fn, ins := [0], bins := [], res := [.tmp 2], code := (.seq (rr [oo 2 (.mv (.const (.bool false)))])
 (.seq (.seq (rr [oo 5 (.mv (tt 0)),
oo 6 (.len (tt 5)),
oo 7 (.mv (nn 0))])
 (.block 0 (.label 23901)))
 (.seq (rr [oo 15 (.mv (tt 0)),
oo 16 (.len (tt 15)),
oo 17 (.bin .leq (tt 16) (nn 3)),
oo 2 (.mv (tt 17))])
 .ret))) }
noncomputable def p23901 : ProcT := { kind := .loop, ins := [0, 5, 6, 7], bins := [], outs := [0, 2], bouts := [], code := (.seq (rr [oo 8 (.bin .lss (tt 7) (tt 6))])
 (.seq (.cond (tt 8) .skip (.exit 0))
 (.seq (.block 1 (.seq (rr [oo 9 (.iadr 2 (tt 5) (tt 7)),
oo 10 (.load 2 true false (tt 9)),
oo 4 (.alloc 100 [.int .i64 0, .sl (.own false) .int []]),
on (.store 2 (tt 4) (tt 10)) []])
 (.seq (rr [oo 11 (.load 2 true false (tt 4)),
oo 12 (.call 17600 0 [tt 11]),
oo 13 (.un .not (tt 12))])
 (.cond (tt 13) (.seq (rr [oo 2 (.mv (.const (.bool false)))])
 .ret) .skip))))
 (rr [oo 14 (.bin .add (tt 7) (nn 1)),
oo 7 (.mv (tt 14))])))) }
noncomputable def p24000 : ProcT := { kind := .fn, ins := [0], bins := [], res := [.tmp 2], code := (.seq (rr [oo 1 (.box 100 (tt 0)),
oo 2 (.mv (.const (.bool false)))])
 (.seq (.seq (rr [oo 5 (.fadr 0 (tt 1)),
oo 6 (.load 1 false false (tt 5)),
oo 7 (.len (tt 6)),
oo 8 (.fadr 2 (tt 1)),
oo 9 (.load 1 false false (tt 8)),
oo 10 (.fadr 3 (tt 1)),
oo 11 (.load 1 false false (tt 10)),
oo 12 (.fadr 4 (tt 1)),
oo 13 (.load 1 false false (tt 12)),
oo 14 (.call 23800 0 [tt 7, tt 9, tt 11, tt 13]),
oo 15 (.un .not (tt 14)),
oo 16 (.mv (tt 15)),
og (some 17) (.fadr 1 (tt 1)) 16 false [],
og (some 18) (.load 1 false false (tt 17)) 16 false [],
og (some 19) (.call 23900 0 [tt 18]) 16 false [],
og (some 20) (.un .not (tt 19)) 16 false [],
oo 21 (.pick (tt 16) (.const (.bool true)) (tt 20))])
 (.cond (tt 21) (.seq (rr [oo 2 (.mv (.const (.bool false)))])
 .ret) .skip))
 (.seq (.seq (rr [oo 22 (.fadr 0 (tt 1)),
oo 23 (.load 1 false false (tt 22)),
oo 24 (.len (tt 23)),
oo 25 (.mv (nn 0))])
 (.block 0 (.label 24001)))
 (.seq (rr [oo 2 (.mv (.const (.bool true)))])
 .ret)))) }
noncomputable def p24001 : ProcT := { kind := .loop, ins := [1, 23, 24, 25], bins := [100], outs := [2], bouts := [], code := (.seq (rr [oo 26 (.bin .lss (tt 25) (tt 24))])
 (.seq (.cond (tt 26) .skip (.exit 0))
 (.seq (.block 1 (.seq (rr [oo 27 (.iadr 2 (tt 23) (tt 25)),
oo 28 (.load 2 true false (tt 27)),
oo 4 (.alloc 101 [.sl (.own false) .int [], .sl (.own false) .stm []]),
on (.store 2 (tt 4) (tt 28)) []])
 (.seq (rr [oo 29 (.load 2 true false (tt 4)),
oo 30 (.fadr 1 (tt 1)),
oo 31 (.load 1 false false (tt 30)),
oo 32 (.len (tt 31)),
oo 33 (.call 5500 0 [tt 29, tt 32]),
oo 34 (.un .not (tt 33))])
 (.cond (tt 34) (.seq (rr [oo 2 (.mv (.const (.bool false)))])
 .ret) .skip))))
 (rr [oo 35 (.bin .add (tt 25) (nn 1)),
oo 25 (.mv (tt 35))])))) }
noncomputable def p24600 : ProcT := { kind := .fn, ins := [0], bins := [], res := [.tmp 2], code := (.seq (rr [oo 2 (.mv (.const (.bool false)))])
 (.seq (.seq (rr [oo 3 (.mv (nn 0))])
 (.block 0 (.label 24601)))
 (.seq (rr [oo 16 (.mv (tt 0)),
oo 17 (.len (tt 16)),
oo 18 (.bin .leq (tt 17) (nn 3)),
oo 2 (.mv (tt 18))])
 .ret))) }
noncomputable def p24601 : ProcT := { kind := .loop, ins := [0, 3], bins := [], outs := [0, 2], bouts := [], code := (.seq (.seq (rr [oo 4 (.mv (tt 3)),
oo 5 (.mv (tt 0)),
oo 6 (.len (tt 5)),
oo 7 (.bin .lss (tt 4) (tt 6))])
 (.cond (tt 7) .skip (.exit 0)))
 (.seq (.block 1 (.seq (rr [oo 10 (.mv (tt 0)),
oo 11 (.mv (tt 3)),
oo 12 (.iadr 2 (tt 10) (tt 11)),
oo 13 (.load 2 true false (tt 12)),
oo 14 (.call 17800 0 [tt 13]),
oo 15 (.un .not (tt 14))])
 (.cond (tt 15) (.seq (rr [oo 2 (.mv (.const (.bool false)))])
 .ret) .skip)))
 (rr [oo 8 (.mv (tt 3)),
oo 9 (.bin .add (tt 8) (nn 1)),
oo 3 (.mv (tt 9))]))) }
noncomputable def p24700 : ProcT := { kind := .fn, ins := [0], bins := [], res := [.tmp 2], code := (.seq (rr [oo 1 (.box 100 (tt 0)),
oo 2 (.mv (.const (.bool false)))])
 (.seq (rr [oo 5 (.fadr 0 (tt 1)),
oo 6 (.load 1 false false (tt 5)),
oo 7 (.len (tt 6)),
oo 3 (.mv (tt 7))])
 (.seq (.seq (rr [oo 8 (.mv (tt 3)),
oo 9 (.call 1600 0 [tt 8, nn 1, nn 3]),
oo 10 (.un .not (tt 9)),
oo 11 (.mv (tt 10)),
og (some 12) (.fadr 1 (tt 1)) 11 false [],
og (some 13) (.load 1 false false (tt 12)) 11 false [],
og (some 14) (.call 24600 0 [tt 13]) 11 false [],
og (some 15) (.un .not (tt 14)) 11 false [],
oo 16 (.pick (tt 11) (.const (.bool true)) (tt 15)),
oo 17 (.mv (tt 16)),
og (some 18) (.fadr 2 (tt 1)) 17 false [],
og (some 19) (.load 1 false false (tt 18)) 17 false [],
og (some 20) (.mv (tt 3)) 17 false [],
og (some 21) (.bin .sub (tt 20) (nn 1)) 17 false [],
og (some 22) (.call 1600 0 [tt 19, nn 0, tt 21]) 17 false [],
og (some 23) (.un .not (tt 22)) 17 false [],
oo 24 (.pick (tt 17) (.const (.bool true)) (tt 23)),
oo 25 (.mv (tt 24)),
og (some 26) (.fadr 3 (tt 1)) 25 false [],
og (some 27) (.load 1 false false (tt 26)) 25 false [],
og (some 28) (.mv (tt 3)) 25 false [],
og (some 29) (.call 1600 0 [tt 27, nn 0, tt 28]) 25 false [],
og (some 30) (.un .not (tt 29)) 25 false [],
oo 31 (.pick (tt 25) (.const (.bool true)) (tt 30))])
 (.cond (tt 31) (.seq (rr [oo 2 (.mv (.const (.bool false)))])
 .ret) .skip))
 (.seq (.seq (rr [oo 4 (.mv (nn 0))])
 (.block 0 (.label 24701)))
 (.seq (rr [oo 57 (.fadr 4 (tt 1)),
oo 58 (.load 1 false false (tt 57)),
oo 59 (.fadr 4 (tt 1)),
oo 60 (.load 1 false false (tt 59)),
oo 61 (.len (tt 60)),
oo 62 (.call 6500 0 [tt 58, tt 61]),
oo 2 (.mv (tt 62))])
 .ret))))) }
noncomputable def p24701 : ProcT := { kind := .loop, ins := [1, 3, 4], bins := [100], outs := [1, 2], bouts := [100], code := (.seq (.seq (rr [oo 32 (.mv (tt 4)),
oo 33 (.mv (tt 3)),
oo 34 (.bin .lss (tt 32) (tt 33))])
 (.cond (tt 34) .skip (.exit 0)))
 (.seq (.block 1 (.seq (.region true [op 37 (.fadr 0 (tt 1)) [100],
op 38 (.load 1 false false (tt 37)) [100],
oo 39 (.mv (tt 4)),
oo 40 (.iadr 2 (tt 38) (tt 39)),
oo 41 (.load 2 true false (tt 40)),
oo 42 (.call 6600 0 [tt 41]),
oo 43 (.un .not (tt 42)),
oo 44 (.mv (tt 43)),
og (some 45) (.fadr 0 (tt 1)) 44 false [100],
og (some 46) (.load 1 false false (tt 45)) 44 false [100],
og (some 47) (.mv (tt 4)) 44 false [],
og (some 48) (.iadr 2 (tt 46) (tt 47)) 44 false [],
og (some 49) (.fadr 1 (tt 48)) 44 false [],
og (some 50) (.load 1 false false (tt 49)) 44 false [],
og (some 51) (.fadr 1 (tt 1)) 44 false [100],
og (some 52) (.load 1 false false (tt 51)) 44 false [100],
og (some 53) (.len (tt 52)) 44 false [],
og (some 54) (.call 23100 0 [tt 50, tt 53]) 44 false [],
og (some 55) (.un .not (tt 54)) 44 false [],
oo 56 (.pick (tt 44) (.const (.bool true)) (tt 55))])
 (.cond (tt 56) (.seq (rr [oo 2 (.mv (.const (.bool false)))])
 .ret) .skip)))
 (rr [oo 35 (.mv (tt 4)),
oo 36 (.bin .add (tt 35) (nn 1)),
oo 4 (.mv (tt 36))]))) }
noncomputable def p25600 : ProcT := { kind := .fn, ins := [0], bins := [], res := [.tmp 2], code := (.seq (rr [oo 2 (.mv (.const (.sl (.own false) .bx [])))])
 (.seq (rr [oo 5 (.buildS (.own true) .bx []),
oo 3 (.mv (.take 5))])
 (.seq (.seq (rr [oo 4 (.mv (nn 0))])
 (.block 0 (.label 25601)))
 (.seq (rr [oo 28 (.mv (.take 3)),
oo 2 (.mv (.take 28))])
 .ret)))) }
noncomputable def p25601 : ProcT := { kind := .loop, ins := [0, 3, 4], bins := [], outs := [2, 3], bouts := [], code := (.seq (.seq (rr [oo 6 (.mv (tt 4)),
oo 7 (.mv (tt 0)),
oo 8 (.len (tt 7)),
oo 9 (.bin .lss (tt 6) (tt 8))])
 (.cond (tt 9) .skip (.exit 0)))
 (.seq (.block 1 (.region true [oo 12 (.mv (.take 3)),
oo 13 (.mv (tt 0)),
oo 14 (.mv (tt 4)),
oo 15 (.iadr 2 (tt 13) (tt 14)),
oo 16 (.fadr 0 (tt 15)),
oo 17 (.load 1 false false (tt 16)),
oo 18 (.buildS (.own true) .int []),
oo 19 (.mv (tt 0)),
oo 20 (.mv (tt 4)),
oo 21 (.iadr 2 (tt 19) (tt 20)),
oo 22 (.fadr 1 (tt 21)),
oo 23 (.load 1 false false (tt 22)),
oo 24 (.app 1 (.take 18) (tt 23)),
oo 25 (.build [.int .i64 0, .sl (.own false) .int []] [(0, 1, tt 17), (1, 1, tt 24)]),
oo 26 (.buildS .full .bx [tt 25]),
oo 27 (.app 2 (.take 12) (tt 26)),
oo 3 (.mv (.take 27))]))
 (rr [oo 10 (.mv (tt 4)),
oo 11 (.bin .add (tt 10) (nn 1)),
oo 4 (.mv (tt 11))]))) }
noncomputable def p25700 : ProcT := { kind := .fn, ins := [0], bins := [], res := [.cell 2 2 true], code := (.seq (rr [oo 1 (.box 100 (tt 0)),
oo 2 (.alloc 101 [.sl (.own false) .int [], .sl (.own false) .stm []])])
 (.seq (.region true [oo 3 (.buildS (.own true) .int []),
op 4 (.fadr 0 (tt 1)) [100],
op 5 (.load 1 false false (tt 4)) [100],
oo 6 (.app 1 (.take 3) (tt 5)),
op 7 (.fadr 1 (tt 1)) [100],
op 8 (.load 1 false false (tt 7)) [100],
oo 9 (.call 9500 0 [tt 8]),
oo 10 (.build [.sl (.own false) .int [], .sl (.own false) .stm []] [(0, 1, tt 6), (1, 1, tt 9)]),
on (.store 2 (tt 2) (tt 10)) [101]])
 .ret)) }
noncomputable def p25900 : ProcT := { kind := .fn, ins := [0], bins := [], res := [.tmp 2], code := (.seq (rr [oo 2 (.mv (nn 0))])
 (.seq (.seq (rr [oo 3 (.mv (tt 0))])
 (.cond (tt 3) (.seq (rr [oo 2 (.mv (nn 1))])
 .ret) .skip))
 (.seq (rr [oo 2 (.mv (nn 0))])
 .ret))) }
noncomputable def p26000 : ProcT := { kind := .fn, ins := [0, 1, 2], bins := [], res := [.tmp 6], code := (.seq (rr [oo 6 (.mv (nn 0))])
 (.seq (.seq (rr [oo 7 (.mv (tt 2))])
 (.cond (tt 7) (.seq (rr [oo 8 (.mv (tt 0)),
oo 9 (.mv (tt 1)),
oo 10 (.bin .and (tt 9) (nn 31)),
oo 11 (.bin .shr (tt 8) (tt 10)),
oo 6 (.mv (tt 11))])
 .ret) .skip))
 (.seq (rr [oo 12 (.mv (tt 0)),
oo 13 (.mv (tt 1)),
oo 14 (.bin .and (tt 13) (nn 31)),
oo 15 (.bin .shl (tt 12) (tt 14)),
oo 16 (.call 3700 0 [tt 15]),
oo 6 (.mv (tt 16))])
 .ret))) }
noncomputable def p26100 : ProcT := { kind := .fn, ins := [0, 1], bins := [], res := [.tmp 4], code := (.seq (rr [oo 4 (.mv (nn 0))])
 (.seq (.seq (rr [oo 5 (.mv (tt 1)),
oo 6 (.bin .eql (tt 5) (nn 0))])
 (.cond (tt 6) (.seq (rr [oo 4 (.mv (nn (-1)))])
 .ret) .skip))
 (.seq (rr [oo 7 (.mv (tt 0)),
oo 8 (.mv (tt 1)),
oo 9 (.bin .quo (tt 7) (tt 8)),
oo 10 (.call 3700 0 [tt 9]),
oo 4 (.mv (tt 10))])
 .ret))) }
noncomputable def p26200 : ProcT := { kind := .fn, ins := [0, 1], bins := [], res := [.tmp 4], code := (.seq (rr [oo 4 (.mv (nn 0))])
 (.seq (.seq (rr [oo 5 (.mv (tt 1)),
oo 6 (.bin .eql (tt 5) (nn 0))])
 (.cond (tt 6) (.seq (rr [oo 7 (.mv (tt 0)),
oo 4 (.mv (tt 7))])
 .ret) .skip))
 (.seq (rr [oo 8 (.mv (tt 0)),
oo 9 (.mv (tt 1)),
oo 10 (.bin .rem (tt 8) (tt 9)),
oo 4 (.mv (tt 10))])
 .ret))) }
noncomputable def p26300 : ProcT := { kind := .fn, ins := [0, 1, 2], bins := [], res := [.tmp 6, .tmp 7], code := (.seq (rr [oo 6 (.mv (nn 0)),
oo 7 (.mv (.const (.bool false)))])
 (.seq (.seq (rr [oo 8 (.mv (tt 0)),
oo 9 (.call 1700 0 [tt 8]),
oo 10 (.un .not (tt 9)),
oo 11 (.mv (tt 10)),
og (some 12) (.mv (tt 1)) 11 false [],
og (some 13) (.call 6400 0 [tt 12]) 11 false [],
og (some 14) (.un .not (tt 13)) 11 false [],
oo 15 (.pick (tt 11) (.const (.bool true)) (tt 14)),
oo 16 (.mv (tt 15)),
og (some 17) (.mv (tt 2)) 16 false [],
og (some 18) (.call 6400 0 [tt 17]) 16 false [],
og (some 19) (.un .not (tt 18)) 16 false [],
oo 20 (.pick (tt 16) (.const (.bool true)) (tt 19))])
 (.cond (tt 20) (.seq (rr [oo 6 (.mv (nn 0)),
oo 7 (.mv (.const (.bool false)))])
 .ret) .skip))
 (.seq (.seq (rr [oo 21 (.mv (tt 0))])
 (.block 0 (.seq (rr [oo 23 (.bin .eql (tt 21) (nn 1)),
oo 22 (.mv (tt 23))])
 (.cond (tt 22) (.seq (rr [oo 24 (.mv (tt 1)),
oo 25 (.mv (tt 2)),
oo 26 (.bin .or (tt 24) (tt 25)),
oo 6 (.mv (tt 26)),
oo 7 (.mv (.const (.bool true)))])
 .ret) (.seq (rr [oo 28 (.bin .eql (tt 21) (nn 2)),
oo 27 (.mv (tt 28))])
 (.cond (tt 27) (.seq (rr [oo 29 (.mv (tt 1)),
oo 30 (.mv (tt 2)),
oo 31 (.bin .xor (tt 29) (tt 30)),
oo 6 (.mv (tt 31)),
oo 7 (.mv (.const (.bool true)))])
 .ret) (.seq (rr [oo 33 (.bin .eql (tt 21) (nn 3)),
oo 32 (.mv (tt 33))])
 (.cond (tt 32) (.seq (rr [oo 34 (.mv (tt 1)),
oo 35 (.mv (tt 2)),
oo 36 (.bin .and (tt 34) (tt 35)),
oo 6 (.mv (tt 36)),
oo 7 (.mv (.const (.bool true)))])
 .ret) (.seq (rr [oo 38 (.bin .eql (tt 21) (nn 4)),
oo 37 (.mv (tt 38))])
 (.cond (tt 37) (.seq (rr [oo 39 (.mv (tt 1)),
oo 40 (.mv (tt 2)),
oo 41 (.bin .eql (tt 39) (tt 40)),
oo 42 (.call 25900 0 [tt 41]),
oo 6 (.mv (tt 42)),
oo 7 (.mv (.const (.bool true)))])
 .ret) (.seq (rr [oo 44 (.bin .eql (tt 21) (nn 5)),
oo 43 (.mv (tt 44))])
 (.cond (tt 43) (.seq (rr [oo 45 (.mv (tt 1)),
oo 46 (.mv (tt 2)),
oo 47 (.bin .lss (tt 45) (tt 46)),
oo 48 (.call 25900 0 [tt 47]),
oo 6 (.mv (tt 48)),
oo 7 (.mv (.const (.bool true)))])
 .ret) (.seq (rr [oo 50 (.bin .eql (tt 21) (nn 6)),
oo 49 (.mv (tt 50))])
 (.cond (tt 49) (.seq (rr [oo 51 (.mv (tt 1)),
oo 52 (.mv (tt 2)),
oo 53 (.call 26000 0 [tt 51, tt 52, .const (.bool false)]),
oo 6 (.mv (tt 53)),
oo 7 (.mv (.const (.bool true)))])
 .ret) (.seq (rr [oo 55 (.bin .eql (tt 21) (nn 7)),
oo 54 (.mv (tt 55))])
 (.cond (tt 54) (.seq (rr [oo 56 (.mv (tt 1)),
oo 57 (.mv (tt 2)),
oo 58 (.call 26000 0 [tt 56, tt 57, .const (.bool true)]),
oo 6 (.mv (tt 58)),
oo 7 (.mv (.const (.bool true)))])
 .ret) (.seq (rr [oo 60 (.bin .eql (tt 21) (nn 8)),
oo 59 (.mv (tt 60))])
 (.cond (tt 59) (.seq (rr [oo 61 (.mv (tt 1)),
oo 62 (.mv (tt 2)),
oo 63 (.bin .add (tt 61) (tt 62)),
oo 64 (.call 3700 0 [tt 63]),
oo 6 (.mv (tt 64)),
oo 7 (.mv (.const (.bool true)))])
 .ret) (.seq (rr [oo 66 (.bin .eql (tt 21) (nn 9)),
oo 65 (.mv (tt 66))])
 (.cond (tt 65) (.seq (rr [oo 67 (.mv (tt 1)),
oo 68 (.mv (tt 2)),
oo 69 (.bin .sub (tt 67) (tt 68)),
oo 70 (.call 3700 0 [tt 69]),
oo 6 (.mv (tt 70)),
oo 7 (.mv (.const (.bool true)))])
 .ret) (.seq (rr [oo 72 (.bin .eql (tt 21) (nn 10)),
oo 71 (.mv (tt 72))])
 (.cond (tt 71) (.seq (rr [oo 73 (.mv (tt 1)),
oo 74 (.mv (tt 2)),
oo 75 (.bin .mul (tt 73) (tt 74)),
oo 76 (.call 3700 0 [tt 75]),
oo 6 (.mv (tt 76)),
oo 7 (.mv (.const (.bool true)))])
 .ret) (.seq (rr [oo 78 (.bin .eql (tt 21) (nn 11)),
oo 77 (.mv (tt 78))])
 (.cond (tt 77) (.seq (rr [oo 79 (.mv (tt 1)),
oo 80 (.mv (tt 2)),
oo 81 (.call 26100 0 [tt 79, tt 80]),
oo 6 (.mv (tt 81)),
oo 7 (.mv (.const (.bool true)))])
 .ret) .skip))))))))))))))))))))))))
 (.seq (rr [oo 82 (.mv (tt 1)),
oo 83 (.mv (tt 2)),
oo 84 (.call 26200 0 [tt 82, tt 83]),
oo 6 (.mv (tt 84)),
oo 7 (.mv (.const (.bool true)))])
 .ret)))) }
noncomputable def p26400 : ProcT := { kind := .fn, ins := [0, 1], bins := [], res := [.tmp 4], code := (.seq (rr [oo 2 (.box 100 (tt 0)),
oo 4 (.mv (nn 0))])
 (.seq (.seq (rr [oo 7 (.fadr 0 (tt 2)),
oo 8 (.load 1 false false (tt 7)),
oo 9 (.bin .eql (tt 8) (nn 0))])
 (.cond (tt 9) (.seq (rr [oo 10 (.fadr 1 (tt 2)),
oo 11 (.load 1 false false (tt 10)),
oo 4 (.mv (tt 11))])
 .ret) .skip))
 (.seq (.seq (rr [oo 12 (.fadr 0 (tt 2)),
oo 13 (.load 1 false false (tt 12)),
oo 14 (.bin .eql (tt 13) (nn 13))])
 (.cond (tt 14) (.seq (rr [oo 15 (.mv (tt 1)),
oo 16 (.fadr 1 (tt 2)),
oo 17 (.load 1 false false (tt 16)),
oo 18 (.iadr 1 (tt 15) (tt 17)),
oo 19 (.load 1 false false (tt 18)),
oo 4 (.mv (tt 19))])
 .ret) .skip))
 (.seq (.region true [op 21 (.fadr 0 (tt 2)) [100],
op 22 (.load 1 false false (tt 21)) [100],
op 23 (.fadr 2 (tt 2)) [100],
op 24 (.load 1 false false (tt 23)) [100],
oo 25 (.iadr 3 (tt 24) (nn 0)),
oo 26 (.load 3 true false (tt 25)),
oo 27 (.mv (tt 1)),
oo 28 (.call 26400 0 [tt 26, tt 27]),
op 29 (.fadr 2 (tt 2)) [100],
op 30 (.load 1 false false (tt 29)) [100],
oo 31 (.iadr 3 (tt 30) (nn 1)),
oo 32 (.load 3 true false (tt 31)),
oo 33 (.mv (tt 1)),
oo 34 (.call 26400 0 [tt 32, tt 33]),
oo 35 (.call 26300 0 [tt 22, tt 28, tt 34]),
oo 20 (.mv (tt 35)),
oo 36 (.ext 0 (tt 20)),
oo 37 (.ext 1 (tt 20)),
oo 5 (.mv (tt 36)),
oo 6 (.mv (tt 37))])
 (.seq (rr [oo 38 (.mv (tt 5)),
oo 4 (.mv (tt 38))])
 .ret))))) }
noncomputable def p26500 : ProcT := { kind := .fn, ins := [0, 1], bins := [], res := [.tmp 4], code := (.seq (rr [oo 2 (.box 100 (tt 0)),
oo 4 (.mv (.const (.bool false)))])
 (.seq (.seq (rr [oo 6 (.fadr 1 (tt 2)),
oo 7 (.load 1 false false (tt 6)),
oo 8 (.len (tt 7)),
oo 9 (.bin .eql (tt 8) (nn 0))])
 (.cond (tt 9) (.seq (rr [oo 4 (.mv (.const (.bool true)))])
 .ret) .skip))
 (.seq (rr [oo 10 (.fadr 1 (tt 2)),
oo 11 (.load 1 false false (tt 10)),
oo 12 (.iadr 8 (tt 11) (nn 0)),
oo 13 (.load 8 true false (tt 12)),
oo 5 (.alloc 101 [.int .i64 0, .int .i64 0, .int .i64 0, .int .i64 0, .int .i64 0, .sl (.own false) .exp [], .sl (.own false) .stm [], .sl (.own false) .stm []]),
on (.store 8 (tt 5) (tt 13)) []])
 (.seq (rr [oo 14 (.fadr 0 (tt 5)),
oo 15 (.load 1 false false (tt 14)),
oo 16 (.bin .neq (tt 15) (nn 4)),
oo 17 (.mv (tt 16)),
og (some 18) (.fadr 0 (tt 5)) 17 true [],
og (some 19) (.load 1 false false (tt 18)) 17 true [],
og (some 20) (.bin .neq (tt 19) (nn 5)) 17 true [],
oo 21 (.pick (tt 17) (tt 20) (.const (.bool false))),
oo 22 (.mv (tt 21)),
og (some 23) (.fadr 2 (tt 5)) 22 false [],
og (some 24) (.load 1 false false (tt 23)) 22 false [],
og (some 25) (.mv (tt 1)) 22 false [],
og (some 26) (.len (tt 25)) 22 false [],
og (some 27) (.bin .lss (tt 24) (tt 26)) 22 false [],
oo 28 (.pick (tt 22) (.const (.bool true)) (tt 27)),
oo 4 (.mv (tt 28))])
 .ret)))) }
noncomputable def p26600 : ProcT := { kind := .fn, ins := [0, 1, 2], bins := [], res := [.cell 6 2 true], loc := true, code := (.seq (rr [oo 3 (.box 100 (tt 0)),
oo 6 (.alloc 101 [.tr .int none 0, .sl (.own false) .stm []])])
 (.seq (.region true [op 8 (.tr (.lit .int [])) [99],
op 9 (.fadr 0 (tt 3)) [100],
op 10 (.load 1 false false (tt 9)) [100],
op 11 (.tr (.app 1 (tt 8) (tt 10))) [99],
op 12 (.fadr 1 (tt 3)) [100],
op 13 (.load 1 false false (tt 12)) [100],
oo 14 (.slc 8 (tt 13) (some (nn 1)) none none),
oo 15 (.call 9500 0 [tt 14]),
oo 16 (.build [.tr .int none 0, .sl (.own false) .stm []] [(0, 1, tt 11), (1, 1, tt 15)]),
op 7 (.alloc 102 [.tr .int none 0, .sl (.own false) .stm []]) [102],
on (.store 2 (tt 7) (tt 16)) [102]])
 (.seq (rr [oo 17 (.fadr 0 (tt 7)),
oo 18 (.load 1 false false (tt 17)),
oo 19 (.mv (tt 1)),
oo 20 (.mv (tt 2)),
oo 21 (.tr (.iadr 1 (tt 18) (tt 19))),
on (.tr (.store 1 (tt 21) (tt 20))) []])
 (.seq (rr [oo 22 (.load 2 true false (tt 7)),
on (.store 2 (tt 6) (tt 22)) []])
 .ret)))) }
noncomputable def p26700 : ProcT := { kind := .fn, ins := [0, 1], bins := [], res := [.cell 4 2 true, .tmp 5, .tmp 6], loc := true, code := (.seq (rr [oo 2 (.box 100 (tt 0)),
oo 4 (.alloc 101 [.sl (.own false) .int [], .sl (.own false) .stm []]),
oo 5 (.mv (.const (.tr .bx none 0))),
oo 6 (.mv (nn 0))])
 (.seq (rr [oo 14 (.fadr 1 (tt 2)),
oo 15 (.load 1 false false (tt 14)),
oo 16 (.iadr 8 (tt 15) (nn 0)),
oo 17 (.load 8 true false (tt 16)),
oo 7 (.alloc 102 [.int .i64 0, .int .i64 0, .int .i64 0, .int .i64 0, .int .i64 0, .sl (.own false) .exp [], .sl (.own false) .stm [], .sl (.own false) .stm []]),
on (.store 8 (tt 7) (tt 17)) []])
 (.seq (rr [oo 18 (.mv (tt 1)),
oo 19 (.tr (.call .pass 40600 [tt 18])),
oo 8 (.mv (tt 19))])
 (.seq (.seq (rr [oo 20 (.fadr 0 (tt 7)),
oo 21 (.load 1 false false (tt 20)),
oo 22 (.bin .eql (tt 21) (nn 4))])
 (.cond (tt 22) (.seq (.region true [oo 24 (.mv (tt 1)),
op 25 (.fadr 2 (tt 7)) [102],
op 26 (.load 1 false false (tt 25)) [102],
oo 27 (.iadr 2 (tt 24) (tt 26)),
oo 28 (.load 2 true false (tt 27)),
op 29 (.fadr 3 (tt 7)) [102],
op 30 (.load 3 true false (tt 29)) [102],
op 31 (.fadr 0 (tt 2)) [100],
op 32 (.load 1 false false (tt 31)) [100],
oo 33 (.call 26400 0 [tt 30, tt 32]),
oo 34 (.call 18500 0 [tt 28, tt 33]),
oo 23 (.mv (tt 34)),
oo 35 (.ext 0 (tt 23)),
oo 36 (.ext 1 (tt 23)),
op 9 (.alloc 103 [.int .i64 0, .sl (.own false) .int []]) [103],
on (.store 2 (tt 9) (tt 35)) [103],
oo 10 (.mv (tt 36))])
 (.seq (.seq (rr [oo 37 (.mv (tt 10)),
oo 38 (.un .not (tt 37))])
 (.cond (tt 38) (.seq (rr [oo 39 (.load 2 true false (tt 2)),
oo 40 (.call 25700 0 [tt 39]),
oo 41 (.mv (tt 8)),
on (.store 2 (tt 4) (tt 40)) [],
oo 5 (.mv (tt 41)),
oo 6 (.mv (nn 3))])
 .ret) .skip))
 (.seq (rr [oo 42 (.mv (tt 8)),
oo 43 (.fadr 2 (tt 7)),
oo 44 (.load 1 false false (tt 43)),
oo 45 (.load 2 true false (tt 9)),
oo 46 (.tr (.iadr 2 (tt 42) (tt 44))),
on (.tr (.store 2 (tt 46) (tt 45))) []])
 (.seq (.region true [oo 47 (.buildS (.own true) .int []),
op 48 (.fadr 0 (tt 2)) [100],
op 49 (.load 1 false false (tt 48)) [100],
oo 50 (.app 1 (.take 47) (tt 49)),
op 51 (.fadr 1 (tt 2)) [100],
op 52 (.load 1 false false (tt 51)) [100],
oo 53 (.slc 8 (tt 52) (some (nn 1)) none none),
oo 54 (.call 9500 0 [tt 53]),
oo 55 (.build [.sl (.own false) .int [], .sl (.own false) .stm []] [(0, 1, tt 50), (1, 1, tt 54)]),
oo 56 (.mv (tt 8)),
on (.store 2 (tt 4) (tt 55)) [101],
oo 5 (.mv (tt 56)),
oo 6 (.mv (nn 1))])
 .ret)))) .skip))
 (.seq (rr [oo 58 (.mv (tt 1)),
oo 59 (.fadr 2 (tt 7)),
oo 60 (.load 1 false false (tt 59)),
oo 61 (.iadr 2 (tt 58) (tt 60)),
oo 62 (.load 2 true false (tt 61)),
oo 63 (.call 17900 0 [tt 62]),
oo 57 (.mv (tt 63)),
oo 64 (.ext 0 (tt 57)),
oo 65 (.ext 1 (tt 57)),
oo 66 (.ext 2 (tt 57)),
oo 11 (.alloc 104 [.int .i64 0, .sl (.own false) .int []]),
on (.store 2 (tt 11) (tt 64)) [],
oo 12 (.mv (tt 65)),
oo 13 (.mv (tt 66))])
 (.seq (.seq (rr [oo 67 (.mv (tt 13)),
oo 68 (.un .not (tt 67))])
 (.cond (tt 68) (.seq (rr [oo 69 (.load 2 true false (tt 2)),
oo 70 (.call 25700 0 [tt 69]),
oo 71 (.mv (tt 8)),
on (.store 2 (tt 4) (tt 70)) [],
oo 5 (.mv (tt 71)),
oo 6 (.mv (nn 3))])
 .ret) .skip))
 (.seq (rr [oo 72 (.mv (tt 8)),
oo 73 (.fadr 2 (tt 7)),
oo 74 (.load 1 false false (tt 73)),
oo 75 (.load 2 true false (tt 11)),
oo 76 (.tr (.iadr 2 (tt 72) (tt 74))),
on (.tr (.store 2 (tt 76) (tt 75))) []])
 (.seq (rr [oo 77 (.load 2 true false (tt 2)),
oo 78 (.fadr 1 (tt 7)),
oo 79 (.load 1 false false (tt 78)),
oo 80 (.mv (tt 12)),
oo 81 (.call 26600 0 [tt 77, tt 79, tt 80]),
oo 82 (.mv (tt 8)),
on (.store 2 (tt 4) (tt 81)) [],
oo 5 (.mv (tt 82)),
oo 6 (.mv (nn 1))])
 .ret)))))))) }
noncomputable def p26800 : ProcT := { kind := .fn, ins := [0, 1], bins := [], res := [.tmp 4], code := (.seq (rr [oo 4 (.mv (.const (.sl (.own false) .stm [])))])
 (.seq (rr [oo 5 (.mv (tt 0)),
oo 6 (.call 9500 0 [tt 5]),
oo 7 (.mv (tt 1)),
oo 8 (.call 9500 0 [tt 7]),
oo 9 (.app 8 (.take 6) (tt 8)),
oo 4 (.mv (.take 9))])
 .ret)) }
noncomputable def p26900 : ProcT := { kind := .fn, ins := [0], bins := [], res := [.cell 2 2 true], code := (.seq (rr [oo 1 (.box 100 (tt 0)),
oo 2 (.alloc 101 [.sl (.own false) .int [], .sl (.own false) .stm []])])
 (.seq (rr [oo 6 (.fadr 1 (tt 1)),
oo 7 (.load 1 false false (tt 6)),
oo 8 (.iadr 8 (tt 7) (nn 0)),
oo 9 (.load 8 true false (tt 8)),
oo 3 (.alloc 102 [.int .i64 0, .int .i64 0, .int .i64 0, .int .i64 0, .int .i64 0, .sl (.own false) .exp [], .sl (.own false) .stm [], .sl (.own false) .stm []]),
on (.store 8 (tt 3) (tt 9)) []])
 (.seq (rr [oo 10 (.buildS (.own true) .int []),
oo 11 (.fadr 0 (tt 1)),
oo 12 (.load 1 false false (tt 11)),
oo 13 (.app 1 (.take 10) (tt 12)),
oo 14 (.build [.sl (.own false) .int [], .sl (.own false) .stm []] [(0, 1, tt 13)]),
oo 4 (.alloc 103 [.sl (.own false) .int [], .sl (.own false) .stm []]),
on (.store 2 (tt 4) (tt 14)) []])
 (.seq (rr [oo 15 (.fadr 3 (tt 3)),
oo 16 (.load 3 true false (tt 15)),
oo 17 (.fadr 0 (tt 1)),
oo 18 (.load 1 false false (tt 17)),
oo 19 (.call 26400 0 [tt 16, tt 18]),
oo 20 (.bin .neq (tt 19) (nn 0)),
oo 5 (.mv (tt 20))])
 (.seq (.block 0 (.seq (rr [oo 27 (.fadr 0 (tt 3)),
oo 28 (.load 1 false false (tt 27)),
oo 29 (.bin .eql (tt 28) (nn 2)),
oo 30 (.mv (tt 29)),
og (some 31) (.mv (tt 5)) 30 true [],
oo 32 (.pick (tt 30) (tt 31) (.const (.bool false))),
oo 26 (.mv (tt 32))])
 (.cond (tt 26) (.region true [op 33 (.fadr 6 (tt 3)) [102],
op 34 (.load 1 false false (tt 33)) [102],
op 35 (.fadr 1 (tt 1)) [100],
op 36 (.load 1 false false (tt 35)) [100],
oo 37 (.slc 8 (tt 36) (some (nn 1)) none none),
oo 38 (.call 26800 0 [tt 34, tt 37]),
op 39 (.fadr 1 (tt 4)) [103],
on (.store 1 (tt 39) (.take 38)) [103]]) (.seq (rr [oo 41 (.fadr 0 (tt 3)),
oo 42 (.load 1 false false (tt 41)),
oo 43 (.bin .eql (tt 42) (nn 2)),
oo 40 (.mv (tt 43))])
 (.cond (tt 40) (.region true [op 44 (.fadr 7 (tt 3)) [102],
op 45 (.load 1 false false (tt 44)) [102],
op 46 (.fadr 1 (tt 1)) [100],
op 47 (.load 1 false false (tt 46)) [100],
oo 48 (.slc 8 (tt 47) (some (nn 1)) none none),
oo 49 (.call 26800 0 [tt 45, tt 48]),
op 50 (.fadr 1 (tt 4)) [103],
on (.store 1 (tt 50) (.take 49)) [103]]) (.seq (rr [oo 52 (.mv (tt 5)),
oo 51 (.mv (tt 52))])
 (.cond (tt 51) (rr [oo 53 (.fadr 6 (tt 3)),
oo 54 (.load 1 false false (tt 53)),
oo 55 (.fadr 1 (tt 1)),
oo 56 (.load 1 false false (tt 55)),
oo 57 (.call 26800 0 [tt 54, tt 56]),
oo 58 (.fadr 1 (tt 4)),
on (.store 1 (tt 58) (.take 57)) []]) (rr [oo 21 (.fadr 1 (tt 1)),
oo 22 (.load 1 false false (tt 21)),
oo 23 (.slc 8 (tt 22) (some (nn 1)) none none),
oo 24 (.call 9500 0 [tt 23]),
oo 25 (.fadr 1 (tt 4)),
on (.store 1 (tt 25) (.take 24)) []]))))))))
 (.seq (rr [oo 59 (.load 2 true false (tt 4)),
on (.store 2 (tt 2) (tt 59)) []])
 .ret)))))) }
noncomputable def p27000 : ProcT := { kind := .fn, ins := [0, 1], bins := [], res := [.cell 4 2 true, .tmp 5, .tmp 6, .tmp 7], code := (.seq (rr [oo 2 (.box 100 (tt 0)),
oo 4 (.alloc 101 [.sl (.own false) .int [], .sl (.own false) .stm []]),
oo 5 (.mv (.const (.sl (.own false) .bx []))),
oo 6 (.mv (.const (.sl (.own false) .int []))),
oo 7 (.mv (nn 0))])
 (.seq (.seq (rr [oo 13 (.load 2 true false (tt 2)),
oo 14 (.call 6600 0 [tt 13]),
oo 15 (.un .not (tt 14)),
oo 16 (.mv (tt 15)),
og (some 17) (.mv (tt 1)) 16 false [],
og (some 18) (.call 24600 0 [tt 17]) 16 false [],
og (some 19) (.un .not (tt 18)) 16 false [],
oo 20 (.pick (tt 16) (.const (.bool true)) (tt 19)),
oo 21 (.mv (tt 20)),
og (some 22) (.load 2 true false (tt 2)) 21 false [],
og (some 23) (.mv (tt 1)) 21 false [],
og (some 24) (.call 26500 0 [tt 22, tt 23]) 21 false [],
og (some 25) (.un .not (tt 24)) 21 false [],
oo 26 (.pick (tt 21) (.const (.bool true)) (tt 25))])
 (.cond (tt 26) (.seq (rr [oo 27 (.build [.sl (.own false) .int [], .sl (.own false) .stm []] []),
oo 28 (.buildS (.own false) .bx []),
oo 29 (.buildS (.own false) .int []),
on (.store 2 (tt 4) (tt 27)) [],
oo 5 (.mv (.take 28)),
oo 6 (.mv (.take 29)),
oo 7 (.mv (nn 0))])
 .ret) .skip))
 (.seq (.seq (rr [oo 30 (.fadr 1 (tt 2)),
oo 31 (.load 1 false false (tt 30)),
oo 32 (.len (tt 31)),
oo 33 (.bin .eql (tt 32) (nn 0))])
 (.cond (tt 33) (.seq (rr [oo 34 (.load 2 true false (tt 2)),
oo 35 (.call 25700 0 [tt 34]),
oo 36 (.mv (tt 1)),
oo 37 (.call 25600 0 [tt 36]),
oo 38 (.buildS (.own false) .int []),
on (.store 2 (tt 4) (tt 35)) [],
oo 5 (.mv (.take 37)),
oo 6 (.mv (.take 38)),
oo 7 (.mv (nn 4))])
 .ret) .skip))
 (.seq (rr [oo 39 (.fadr 1 (tt 2)),
oo 40 (.load 1 false false (tt 39)),
oo 41 (.iadr 8 (tt 40) (nn 0)),
oo 42 (.load 8 true false (tt 41)),
oo 8 (.alloc 102 [.int .i64 0, .int .i64 0, .int .i64 0, .int .i64 0, .int .i64 0, .sl (.own false) .exp [], .sl (.own false) .stm [], .sl (.own false) .stm []]),
on (.store 8 (tt 8) (tt 42)) []])
 (.seq (.seq (rr [oo 43 (.fadr 0 (tt 8)),
oo 44 (.load 1 false false (tt 43))])
 (.block 0 (.seq (.seq (rr [oo 46 (.bin .eql (tt 44) (nn 4)),
oo 45 (.mv (tt 46))])
 (.cond (tt 45) .skip (rr [oo 47 (.bin .eql (tt 44) (nn 5)),
oo 45 (.mv (tt 47))])))
 (.cond (tt 45) (.seq (rr [oo 49 (.load 2 true false (tt 2)),
oo 50 (.mv (tt 1)),
oo 51 (.call 26700 0 [tt 49, tt 50]),
oo 48 (.mv (tt 51)),
oo 52 (.ext 0 (tt 48)),
oo 53 (.ext 1 (tt 48)),
oo 54 (.ext 2 (tt 48)),
oo 9 (.alloc 103 [.sl (.own false) .int [], .sl (.own false) .stm []]),
on (.store 2 (tt 9) (tt 52)) [],
oo 10 (.mv (.take 53)),
oo 11 (.mv (tt 54))])
 (.seq (rr [oo 55 (.load 2 true false (tt 9)),
oo 56 (.mv (tt 10)),
oo 57 (.buildS (.own false) .int []),
oo 58 (.mv (tt 11)),
on (.store 2 (tt 4) (tt 55)) [],
oo 5 (.mv (.take 56)),
oo 6 (.mv (.take 57)),
oo 7 (.mv (tt 58))])
 .ret)) (.seq (.seq (rr [oo 60 (.bin .eql (tt 44) (nn 2)),
oo 59 (.mv (tt 60))])
 (.cond (tt 59) .skip (rr [oo 61 (.bin .eql (tt 44) (nn 3)),
oo 59 (.mv (tt 61))])))
 (.cond (tt 59) (.seq (rr [oo 62 (.load 2 true false (tt 2)),
oo 63 (.call 26900 0 [tt 62]),
oo 64 (.mv (tt 1)),
oo 65 (.call 25600 0 [tt 64]),
oo 66 (.buildS (.own false) .int []),
on (.store 2 (tt 4) (tt 63)) [],
oo 5 (.mv (.take 65)),
oo 6 (.mv (.take 66)),
oo 7 (.mv (nn 1))])
 .ret) (.seq (rr [oo 68 (.bin .eql (tt 44) (nn 1)),
oo 67 (.mv (tt 68))])
 (.cond (tt 67) (.seq (.region true [op 69 (.load 2 true false (tt 2)) [100],
op 70 (.fadr 1 (tt 8)) [102],
op 71 (.load 1 false false (tt 70)) [102],
op 72 (.fadr 3 (tt 8)) [102],
op 73 (.load 3 true false (tt 72)) [102],
op 74 (.fadr 0 (tt 2)) [100],
op 75 (.load 1 false false (tt 74)) [100],
oo 76 (.call 26400 0 [tt 73, tt 75]),
oo 77 (.call 26600 0 [tt 69, tt 71, tt 76]),
oo 78 (.mv (tt 1)),
oo 79 (.call 25600 0 [tt 78]),
oo 80 (.buildS (.own false) .int []),
on (.store 2 (tt 4) (tt 77)) [101],
oo 5 (.mv (.take 79)),
oo 6 (.mv (.take 80)),
oo 7 (.mv (nn 1))])
 .ret) .skip))))))))
 (.seq (.region true [oo 81 (.buildS (.own true) .int []),
op 82 (.fadr 0 (tt 2)) [100],
op 83 (.load 1 false false (tt 82)) [100],
oo 84 (.app 1 (.take 81) (tt 83)),
op 85 (.fadr 1 (tt 2)) [100],
op 86 (.load 1 false false (tt 85)) [100],
oo 87 (.slc 8 (tt 86) (some (nn 1)) none none),
oo 88 (.call 9500 0 [tt 87]),
oo 89 (.build [.sl (.own false) .int [], .sl (.own false) .stm []] [(0, 1, tt 84), (1, 1, tt 88)]),
op 12 (.alloc 104 [.sl (.own false) .int [], .sl (.own false) .stm []]) [104],
on (.store 2 (tt 12) (tt 89)) [104]])
 (.seq (.seq (rr [oo 90 (.fadr 0 (tt 8)),
oo 91 (.load 1 false false (tt 90)),
oo 92 (.bin .eql (tt 91) (nn 6))])
 (.cond (tt 92) (.seq (.region true [op 93 (.load 2 true false (tt 12)) [104],
oo 94 (.mv (tt 1)),
oo 95 (.call 25600 0 [tt 94]),
oo 96 (.buildS (.own false) .int []),
on (.store 2 (tt 4) (tt 93)) [101],
oo 5 (.mv (.take 95)),
oo 6 (.mv (.take 96)),
oo 7 (.mv (nn 2))])
 .ret) .skip))
 (.seq (.region true [op 97 (.load 2 true false (tt 12)) [104],
oo 98 (.mv (tt 1)),
oo 99 (.call 25600 0 [tt 98]),
op 100 (.fadr 3 (tt 8)) [102],
op 101 (.load 3 true false (tt 100)) [102],
op 102 (.fadr 0 (tt 2)) [100],
op 103 (.load 1 false false (tt 102)) [100],
oo 104 (.call 26400 0 [tt 101, tt 103]),
oo 105 (.buildS .full .int [tt 104]),
on (.store 2 (tt 4) (tt 97)) [101],
oo 5 (.mv (.take 99)),
oo 6 (.mv (.take 105)),
oo 7 (.mv (nn 1))])
 .ret)))))))) }
noncomputable def p28100 : ProcT := { kind := .fn, ins := [0], bins := [0], res := [.cell 2 5 true], loc := true, code := (.seq (rr [oo 2 (.alloc 100 [.sl (.own false) .tk [], .sl (.own false) .bx [], .int .i64 0, .int .i64 0, .tr .int none 0])])
 (.seq (rr [oo 8 (.mv (tt 0)),
oo 9 (.call 22400 0 [tt 8]),
oo 10 (.call 23500 0 [tt 9]),
oo 7 (.mv (tt 10)),
oo 11 (.ext 0 (tt 7)),
oo 12 (.ext 1 (tt 7)),
oo 3 (.alloc 101 [.sl (.own false) .tk [], .sl (.own false) .bx [], .int .i64 0, .int .i64 0, .tr .int none 0]),
on (.store 5 (tt 3) (tt 11)) [],
oo 4 (.mv (tt 12))])
 (.seq (.region true [op 14 (.load 5 true false (tt 3)) [101],
oo 15 (.mv (tt 0)),
op 16 (.call 200 0 [tt 15, nn 30]) [0],
op 17 (.tr (.call .pass 40100 [tt 14, tt 16])) [99],
oo 13 (.mv (tt 17)),
oo 18 (.ext 0 (tt 13)),
oo 19 (.ext 1 (tt 13)),
op 5 (.alloc 102 [.sl (.own false) .tk [], .sl (.own false) .bx [], .int .i64 0, .int .i64 0, .tr .int none 0]) [102],
on (.store 5 (tt 5) (tt 18)) [102],
oo 6 (.mv (tt 19))])
 (.seq (.seq (rr [oo 20 (.mv (tt 0)),
oo 21 (.call 200 0 [tt 20, nn 40])])
 (.block 0 (.seq (rr [oo 23 (.bin .eql (tt 21) (nn 0)),
oo 22 (.mv (tt 23))])
 (.cond (tt 22) (rr [oo 24 (.fadr 0 (tt 5)),
oo 25 (.load 1 false false (tt 24)),
oo 26 (.len (tt 25)),
oo 27 (.fadr 2 (tt 5)),
on (.store 1 (tt 27) (tt 26)) []]) (.seq (rr [oo 29 (.bin .eql (tt 21) (nn 1)),
oo 28 (.mv (tt 29))])
 (.cond (tt 28) (.region true [op 30 (.fadr 0 (tt 5)) [102],
op 31 (.load 1 false false (tt 30)) [102],
oo 32 (.len (tt 31)),
oo 33 (.bin .add (tt 32) (nn 1)),
oo 34 (.buildS .full .int [nn (-1), tt 33]),
oo 35 (.mv (tt 0)),
op 36 (.call 200 0 [tt 35, nn 2]) [0],
oo 37 (.iadr 1 (tt 34) (tt 36)),
oo 38 (.load 1 false false (tt 37)),
op 39 (.fadr 3 (tt 5)) [102],
on (.store 1 (tt 39) (tt 38)) [102]]) (.seq (rr [oo 41 (.bin .eql (tt 21) (nn 2)),
oo 40 (.mv (tt 41))])
 (.cond (tt 40) (rr [oo 42 (.buildS (.own false) .bx []),
oo 43 (.fadr 1 (tt 5)),
on (.store 1 (tt 43) (.take 42)) []]) (.seq (rr [oo 45 (.bin .eql (tt 21) (nn 3)),
oo 44 (.mv (tt 45))])
 (.cond (tt 44) (rr [oo 46 (.fadr 4 (tt 5)),
oo 47 (.load 1 false false (tt 46)),
oo 48 (.buildS .full .int [nn (-2147483649)]),
oo 49 (.tr (.app 1 (tt 47) (tt 48))),
oo 50 (.fadr 4 (tt 5)),
on (.store 1 (tt 50) (tt 49)) []]) .skip))))))))))
 (.seq (rr [oo 51 (.load 5 true false (tt 5)),
on (.store 5 (tt 2) (tt 51)) []])
 .ret))))) }
noncomputable def p29900 : ProcT := { kind := .fn, ins := [0], bins := [], res := [.cell 2 5 true], code := (.seq (rr [oo 2 (.alloc 100 [.sl (.own false) .tk [], .sl (.own false) .bx [], .int .i64 0, .int .i64 0, .sl (.own false) .int []])])
 (.seq (rr [oo 3 (.mv (tt 0)),
oo 4 (.call 100 101 [tt 3]),
oo 5 (.call 28100 0 [tt 4]),
on (.store 5 (tt 2) (tt 5)) []])
 .ret)) }
noncomputable def p30100 : ProcT := { kind := .fn, ins := [0], bins := [], res := [.cell 2 4 true], loc := true, code := (.seq (rr [oo 1 (.box 100 (tt 0)),
oo 2 (.alloc 101 [.sl (.own false) .int [], .sl (.own false) .ints [], .tr .bool none 0, .bool false])])
 (.seq (.seq (rr [oo 6 (.load 5 true false (tt 1)),
oo 7 (.call 24000 0 [tt 6]),
oo 8 (.un .not (tt 7))])
 (.cond (tt 8) (.seq (rr [oo 9 (.build [.sl (.own false) .int [], .sl (.own false) .ints [], .tr .bool none 0, .bool false] []),
on (.store 4 (tt 2) (tt 9)) []])
 .ret) .skip))
 (.seq (rr [oo 10 (.fadr 4 (tt 1)),
oo 11 (.load 1 false false (tt 10)),
oo 12 (.fadr 1 (tt 1)),
oo 13 (.load 1 false false (tt 12)),
oo 14 (.fadr 3 (tt 1)),
oo 15 (.load 1 false false (tt 14)),
oo 16 (.fadr 0 (tt 1)),
oo 17 (.load 1 false false (tt 16)),
oo 18 (.len (tt 17)),
oo 19 (.bin .eql (tt 15) (tt 18)),
oo 20 (.tr (.call .pass 39800 [tt 11, tt 13, tt 19])),
oo 3 (.alloc 102 [.sl (.own false) .int [], .sl (.own false) .ints [], .tr .bool none 0, .bool false]),
on (.store 4 (tt 3) (tt 20)) []])
 (.seq (.seq (rr [oo 21 (.fadr 0 (tt 1)),
oo 22 (.load 1 false false (tt 21)),
oo 23 (.len (tt 22)),
oo 24 (.mv (nn 0))])
 (.block 0 (.label 30101)))
 (.seq (rr [oo 38 (.load 4 true false (tt 3)),
on (.store 4 (tt 2) (tt 38)) []])
 .ret))))) }
noncomputable def p30101 : ProcT := { kind := .loop, ins := [2, 3, 22, 23, 24], bins := [101, 102, 99], outs := [2, 3], bouts := [101, 102, 99], code := (.seq (rr [oo 25 (.bin .lss (tt 24) (tt 23))])
 (.seq (.cond (tt 25) .skip (.exit 0))
 (.seq (.block 1 (.seq (rr [oo 26 (.iadr 2 (tt 22) (tt 24)),
oo 27 (.load 2 true false (tt 26)),
oo 5 (.alloc 103 [.sl (.own false) .int [], .sl (.own false) .stm []]),
on (.store 2 (tt 5) (tt 27)) []])
 (rr [oo 28 (.fadr 2 (tt 3)),
oo 29 (.load 1 false false (tt 28)),
oo 30 (.fadr 1 (tt 5)),
oo 31 (.load 1 false false (tt 30)),
oo 32 (.len (tt 31)),
oo 33 (.bin .eql (tt 32) (nn 0)),
oo 34 (.buildS .full .bool [tt 33]),
oo 35 (.tr (.app 1 (tt 29) (tt 34))),
oo 36 (.fadr 2 (tt 3)),
on (.store 1 (tt 36) (tt 35)) []])))
 (rr [oo 37 (.bin .add (tt 24) (nn 1)),
oo 24 (.mv (tt 37))])))) }
noncomputable def p30200 : ProcT := { kind := .fn, ins := [0], bins := [], res := [.tmp 2], code := (.seq (rr [oo 2 (.mv (.const (.sl (.own false) .ints [])))])
 (.seq (rr [oo 5 (.buildS (.own true) .ints []),
oo 3 (.mv (.take 5))])
 (.seq (.seq (rr [oo 4 (.mv (nn 0))])
 (.block 0 (.label 30201)))
 (.seq (rr [oo 22 (.mv (.take 3)),
oo 2 (.mv (.take 22))])
 .ret)))) }
noncomputable def p30201 : ProcT := { kind := .loop, ins := [0, 3, 4], bins := [], outs := [2, 3], bouts := [], code := (.seq (.seq (rr [oo 6 (.mv (tt 4)),
oo 7 (.mv (tt 0)),
oo 8 (.len (tt 7)),
oo 9 (.bin .lss (tt 6) (tt 8))])
 (.cond (tt 9) .skip (.exit 0)))
 (.seq (.block 1 (rr [oo 12 (.mv (.take 3)),
oo 13 (.buildS (.own true) .int []),
oo 14 (.mv (tt 0)),
oo 15 (.mv (tt 4)),
oo 16 (.iadr 2 (tt 14) (tt 15)),
oo 17 (.fadr 1 (tt 16)),
oo 18 (.load 1 false false (tt 17)),
oo 19 (.app 1 (.take 13) (tt 18)),
oo 20 (.buildS .full .ints [tt 19]),
oo 21 (.app 1 (.take 12) (tt 20)),
oo 3 (.mv (.take 21))]))
 (rr [oo 10 (.mv (tt 4)),
oo 11 (.bin .add (tt 10) (nn 1)),
oo 4 (.mv (tt 11))]))) }
noncomputable def p30300 : ProcT := { kind := .fn, ins := [0], bins := [], res := [.cell 2 4 true], code := (.seq (rr [oo 1 (.box 100 (tt 0)),
oo 2 (.alloc 101 [.sl (.own false) .int [], .sl (.own false) .ints [], .sl (.own false) .bool [], .bool false])])
 (.seq (.seq (rr [oo 5 (.load 5 true false (tt 1)),
oo 6 (.call 24700 0 [tt 5]),
oo 7 (.un .not (tt 6))])
 (.cond (tt 7) (.seq (rr [oo 8 (.build [.sl (.own false) .int [], .sl (.own false) .ints [], .sl (.own false) .bool [], .bool false] []),
on (.store 4 (tt 2) (tt 8)) []])
 .ret) .skip))
 (.seq (.region true [oo 9 (.buildS (.own true) .int []),
op 10 (.fadr 4 (tt 1)) [100],
op 11 (.load 1 false false (tt 10)) [100],
oo 12 (.app 1 (.take 9) (tt 11)),
op 13 (.fadr 1 (tt 1)) [100],
op 14 (.load 1 false false (tt 13)) [100],
oo 15 (.call 30200 0 [tt 14]),
oo 16 (.buildS (.own false) .bool []),
op 17 (.fadr 3 (tt 1)) [100],
op 18 (.load 1 false false (tt 17)) [100],
op 19 (.fadr 0 (tt 1)) [100],
op 20 (.load 1 false false (tt 19)) [100],
oo 21 (.len (tt 20)),
oo 22 (.bin .eql (tt 18) (tt 21)),
oo 23 (.build [.sl (.own false) .int [], .sl (.own false) .ints [], .sl (.own false) .bool [], .bool false] [(0, 1, tt 12), (1, 1, tt 15), (2, 1, tt 16), (3, 1, tt 22)]),
op 3 (.alloc 102 [.sl (.own false) .int [], .sl (.own false) .ints [], .sl (.own false) .bool [], .bool false]) [102],
on (.store 4 (tt 3) (tt 23)) [102]])
 (.seq (.seq (rr [oo 4 (.mv (nn 0))])
 (.block 0 (.label 30301)))
 (.seq (rr [oo 44 (.load 4 true false (tt 3)),
on (.store 4 (tt 2) (tt 44)) []])
 .ret))))) }
noncomputable def p30301 : ProcT := { kind := .loop, ins := [1, 2, 3, 4], bins := [100, 101, 102], outs := [2, 3], bouts := [101, 102], code := (.seq (.seq (rr [oo 24 (.mv (tt 4)),
oo 25 (.fadr 0 (tt 1)),
oo 26 (.load 1 false false (tt 25)),
oo 27 (.len (tt 26)),
oo 28 (.bin .lss (tt 24) (tt 27))])
 (.cond (tt 28) .skip (.exit 0)))
 (.seq (.block 1 (.region true [op 31 (.fadr 2 (tt 3)) [102],
op 32 (.load 1 false true (tt 31)) [102],
op 33 (.fadr 0 (tt 1)) [100],
op 34 (.load 1 false false (tt 33)) [100],
oo 35 (.mv (tt 4)),
oo 36 (.iadr 2 (tt 34) (tt 35)),
oo 37 (.fadr 1 (tt 36)),
oo 38 (.load 1 false false (tt 37)),
oo 39 (.len (tt 38)),
oo 40 (.bin .eql (tt 39) (nn 0)),
oo 41 (.buildS .full .bool [tt 40]),
oo 42 (.app 1 (.take 32) (tt 41)),
op 43 (.fadr 2 (tt 3)) [102],
on (.store 1 (tt 43) (.take 42)) [102]]))
 (rr [oo 29 (.mv (tt 4)),
oo 30 (.bin .add (tt 29) (nn 1)),
oo 4 (.mv (tt 30))]))) }
noncomputable def p30400 : ProcT := { kind := .fn, ins := [0, 1], bins := [], res := [.tmp 4], code := (.seq (rr [oo 4 (.mv (.const (.bool false)))])
 (.seq (.seq (rr [oo 6 (.mv (tt 0)),
oo 7 (.len (tt 6)),
oo 8 (.mv (tt 1)),
oo 9 (.len (tt 8)),
oo 10 (.bin .neq (tt 7) (tt 9))])
 (.cond (tt 10) (.seq (rr [oo 4 (.mv (.const (.bool false)))])
 .ret) .skip))
 (.seq (.seq (rr [oo 5 (.mv (nn 0))])
 (.block 0 (.label 30401)))
 (.seq (rr [oo 4 (.mv (.const (.bool true)))])
 .ret)))) }
noncomputable def p30401 : ProcT := { kind := .loop, ins := [0, 1, 5], bins := [], outs := [4], bouts := [], code := (.seq (.seq (rr [oo 11 (.mv (tt 5)),
oo 12 (.mv (tt 0)),
oo 13 (.len (tt 12)),
oo 14 (.bin .lss (tt 11) (tt 13))])
 (.cond (tt 14) .skip (.exit 0)))
 (.seq (.block 1 (.seq (.region true [oo 17 (.mv (tt 0)),
oo 18 (.mv (tt 5)),
oo 19 (.iadr 1 (tt 17) (tt 18)),
oo 20 (.load 1 false false (tt 19)),
oo 21 (.mv (tt 1)),
oo 22 (.mv (tt 5)),
oo 23 (.iadr 1 (tt 21) (tt 22)),
oo 24 (.load 1 false false (tt 23)),
oo 25 (.call 9700 0 [tt 20, tt 24]),
oo 26 (.un .not (tt 25))])
 (.cond (tt 26) (.seq (rr [oo 4 (.mv (.const (.bool false)))])
 .ret) .skip)))
 (rr [oo 15 (.mv (tt 5)),
oo 16 (.bin .add (tt 15) (nn 1)),
oo 5 (.mv (tt 16))]))) }
noncomputable def p30500 : ProcT := { kind := .fn, ins := [0, 1], bins := [], res := [.tmp 4], code := (.seq (rr [oo 4 (.mv (.const (.bool false)))])
 (.seq (.seq (rr [oo 6 (.mv (tt 0)),
oo 7 (.len (tt 6)),
oo 8 (.mv (tt 1)),
oo 9 (.len (tt 8)),
oo 10 (.bin .neq (tt 7) (tt 9))])
 (.cond (tt 10) (.seq (rr [oo 4 (.mv (.const (.bool false)))])
 .ret) .skip))
 (.seq (.seq (rr [oo 5 (.mv (nn 0))])
 (.block 0 (.label 30501)))
 (.seq (rr [oo 4 (.mv (.const (.bool true)))])
 .ret)))) }
noncomputable def p30501 : ProcT := { kind := .loop, ins := [0, 1, 5], bins := [], outs := [4], bouts := [], code := (.seq (.seq (rr [oo 11 (.mv (tt 5)),
oo 12 (.mv (tt 0)),
oo 13 (.len (tt 12)),
oo 14 (.bin .lss (tt 11) (tt 13))])
 (.cond (tt 14) .skip (.exit 0)))
 (.seq (.block 1 (.seq (.region true [oo 17 (.mv (tt 0)),
oo 18 (.mv (tt 5)),
oo 19 (.iadr 1 (tt 17) (tt 18)),
oo 20 (.load 1 false false (tt 19)),
oo 21 (.mv (tt 1)),
oo 22 (.mv (tt 5)),
oo 23 (.iadr 1 (tt 21) (tt 22)),
oo 24 (.load 1 false false (tt 23)),
oo 25 (.eqb true (tt 20) (tt 24))])
 (.cond (tt 25) (.seq (rr [oo 4 (.mv (.const (.bool false)))])
 .ret) .skip)))
 (rr [oo 15 (.mv (tt 5)),
oo 16 (.bin .add (tt 15) (nn 1)),
oo 5 (.mv (tt 16))]))) }
noncomputable def p30600 : ProcT := { kind := .fn, ins := [0, 1], bins := [], res := [.tmp 4], code := (.seq (rr [oo 2 (.box 100 (tt 0)),
oo 3 (.box 101 (tt 1)),
oo 4 (.mv (.const (.bool false)))])
 (.seq (rr [oo 5 (.fadr 0 (tt 2)),
oo 6 (.load 1 false false (tt 5)),
oo 7 (.fadr 0 (tt 3)),
oo 8 (.load 1 false false (tt 7)),
oo 9 (.call 9700 0 [tt 6, tt 8]),
oo 10 (.mv (tt 9)),
og (some 11) (.fadr 1 (tt 2)) 10 true [],
og (some 12) (.load 1 false false (tt 11)) 10 true [],
og (some 13) (.fadr 1 (tt 3)) 10 true [],
og (some 14) (.load 1 false false (tt 13)) 10 true [],
og (some 15) (.call 30400 0 [tt 12, tt 14]) 10 true [],
oo 16 (.pick (tt 10) (tt 15) (.const (.bool false))),
oo 17 (.mv (tt 16)),
og (some 18) (.fadr 2 (tt 2)) 17 true [],
og (some 19) (.load 1 false false (tt 18)) 17 true [],
og (some 20) (.fadr 2 (tt 3)) 17 true [],
og (some 21) (.load 1 false false (tt 20)) 17 true [],
og (some 22) (.call 30500 0 [tt 19, tt 21]) 17 true [],
oo 23 (.pick (tt 17) (tt 22) (.const (.bool false))),
oo 24 (.mv (tt 23)),
og (some 25) (.fadr 3 (tt 2)) 24 true [],
og (some 26) (.load 1 false false (tt 25)) 24 true [],
og (some 27) (.fadr 3 (tt 3)) 24 true [],
og (some 28) (.load 1 false false (tt 27)) 24 true [],
og (some 29) (.eqb false (tt 26) (tt 28)) 24 true [],
oo 30 (.pick (tt 24) (tt 29) (.const (.bool false))),
oo 4 (.mv (tt 30))])
 .ret)) }
noncomputable def p30700 : ProcT := { kind := .fn, ins := [0], bins := [], res := [.tmp 2], code := (.seq (rr [oo 2 (.mv (.const (.bool false)))])
 (.seq (.seq (rr [oo 8 (.mv (tt 0)),
oo 9 (.len (tt 8)),
oo 10 (.bin .gtr (tt 9) (nn 1048576))])
 (.cond (tt 10) (.seq (rr [oo 2 (.mv (.const (.bool true)))])
 .ret) .skip))
 (.seq (rr [oo 11 (.mv (tt 0)),
oo 12 (.call 29900 0 [tt 11]),
oo 3 (.alloc 100 [.sl (.own false) .tk [], .sl (.own false) .bx [], .int .i64 0, .int .i64 0, .sl (.own false) .int []]),
on (.store 5 (tt 3) (tt 12)) []])
 (.seq (rr [oo 13 (.load 5 true false (tt 3)),
oo 14 (.call 30100 0 [tt 13]),
oo 4 (.alloc 101 [.sl (.own false) .int [], .sl (.own false) .ints [], .sl (.own false) .bool [], .bool false]),
on (.store 4 (tt 4) (tt 14)) []])
 (.seq (rr [oo 15 (.load 5 true false (tt 3)),
oo 16 (.call 30300 0 [tt 15]),
oo 5 (.alloc 102 [.sl (.own false) .int [], .sl (.own false) .ints [], .sl (.own false) .bool [], .bool false]),
on (.store 4 (tt 5) (tt 16)) []])
 (.seq (.seq (rr [oo 17 (.load 4 true false (tt 4)),
oo 18 (.load 4 true false (tt 5)),
oo 19 (.call 30600 0 [tt 17, tt 18]),
oo 20 (.un .not (tt 19)),
oo 21 (.mv (tt 20)),
og (some 22) (.fadr 2 (tt 4)) 21 false [],
og (some 23) (.load 1 false false (tt 22)) 21 false [],
og (some 24) (.len (tt 23)) 21 false [],
og (some 25) (.bin .eql (tt 24) (nn 0)) 21 false [],
oo 26 (.pick (tt 21) (.const (.bool true)) (tt 25))])
 (.cond (tt 26) (.seq (rr [oo 27 (.load 4 true false (tt 4)),
oo 28 (.load 4 true false (tt 5)),
oo 29 (.call 30600 0 [tt 27, tt 28]),
oo 2 (.mv (tt 29))])
 .ret) .skip))
 (.seq (.seq (rr [oo 6 (.mv (nn 0))])
 (.block 0 (.label 30701)))
 (.seq (.seq (rr [oo 7 (.mv (nn 0))])
 (.block 2 (.label 30702)))
 (.seq (rr [oo 71 (.fadr 0 (tt 4)),
oo 72 (.load 1 false false (tt 71)),
oo 73 (.fadr 4 (tt 3)),
oo 74 (.load 1 false false (tt 73)),
oo 75 (.call 9700 0 [tt 72, tt 74]),
oo 76 (.mv (tt 75)),
og (some 77) (.fadr 1 (tt 4)) 76 true [],
og (some 78) (.load 1 false false (tt 77)) 76 true [],
og (some 79) (.len (tt 78)) 76 true [],
og (some 80) (.fadr 1 (tt 3)) 76 true [],
og (some 81) (.load 1 false false (tt 80)) 76 true [],
og (some 82) (.len (tt 81)) 76 true [],
og (some 83) (.bin .eql (tt 79) (tt 82)) 76 true [],
oo 84 (.pick (tt 76) (tt 83) (.const (.bool false))),
oo 85 (.mv (tt 84)),
og (some 86) (.fadr 2 (tt 4)) 85 true [],
og (some 87) (.load 1 false false (tt 86)) 85 true [],
og (some 88) (.len (tt 87)) 85 true [],
og (some 89) (.fadr 0 (tt 3)) 85 true [],
og (some 90) (.load 1 false false (tt 89)) 85 true [],
og (some 91) (.len (tt 90)) 85 true [],
og (some 92) (.bin .eql (tt 88) (tt 91)) 85 true [],
oo 93 (.pick (tt 85) (tt 92) (.const (.bool false))),
oo 94 (.mv (tt 93)),
og (some 95) (.fadr 3 (tt 4)) 94 true [],
og (some 96) (.load 1 false false (tt 95)) 94 true [],
og (some 97) (.fadr 3 (tt 3)) 94 true [],
og (some 98) (.load 1 false false (tt 97)) 94 true [],
og (some 99) (.fadr 0 (tt 3)) 94 true [],
og (some 100) (.load 1 false false (tt 99)) 94 true [],
og (some 101) (.len (tt 100)) 94 true [],
og (some 102) (.bin .eql (tt 98) (tt 101)) 94 true [],
og (some 103) (.eqb false (tt 96) (tt 102)) 94 true [],
oo 104 (.pick (tt 94) (tt 103) (.const (.bool false))),
oo 2 (.mv (tt 104))])
 .ret))))))))) }
noncomputable def p30701 : ProcT := { kind := .loop, ins := [3, 4, 6], bins := [100, 101], outs := [2, 3, 4], bouts := [100, 101], code := (.seq (.seq (rr [oo 30 (.mv (tt 6)),
oo 31 (.fadr 0 (tt 3)),
oo 32 (.load 1 false false (tt 31)),
oo 33 (.len (tt 32)),
oo 34 (.bin .lss (tt 30) (tt 33))])
 (.cond (tt 34) .skip (.exit 0)))
 (.seq (.block 1 (.seq (.region true [op 37 (.fadr 2 (tt 4)) [101],
op 38 (.load 1 false false (tt 37)) [101],
oo 39 (.mv (tt 6)),
oo 40 (.iadr 1 (tt 38) (tt 39)),
oo 41 (.load 1 false false (tt 40)),
op 42 (.fadr 0 (tt 3)) [100],
op 43 (.load 1 false false (tt 42)) [100],
oo 44 (.mv (tt 6)),
oo 45 (.iadr 2 (tt 43) (tt 44)),
oo 46 (.fadr 1 (tt 45)),
oo 47 (.load 1 false false (tt 46)),
oo 48 (.len (tt 47)),
oo 49 (.bin .eql (tt 48) (nn 0)),
oo 50 (.eqb true (tt 41) (tt 49))])
 (.cond (tt 50) (.seq (rr [oo 2 (.mv (.const (.bool false)))])
 .ret) .skip)))
 (rr [oo 35 (.mv (tt 6)),
oo 36 (.bin .add (tt 35) (nn 1)),
oo 6 (.mv (tt 36))]))) }
noncomputable def p30702 : ProcT := { kind := .loop, ins := [3, 4, 7], bins := [100, 101], outs := [2, 3, 4], bouts := [100, 101], code := (.seq (.seq (rr [oo 51 (.mv (tt 7)),
oo 52 (.fadr 1 (tt 3)),
oo 53 (.load 1 false false (tt 52)),
oo 54 (.len (tt 53)),
oo 55 (.bin .lss (tt 51) (tt 54))])
 (.cond (tt 55) .skip (.exit 2)))
 (.seq (.block 3 (.seq (.region true [op 58 (.fadr 1 (tt 4)) [101],
op 59 (.load 1 false false (tt 58)) [101],
oo 60 (.mv (tt 7)),
oo 61 (.iadr 1 (tt 59) (tt 60)),
oo 62 (.load 1 false false (tt 61)),
op 63 (.fadr 1 (tt 3)) [100],
op 64 (.load 1 false false (tt 63)) [100],
oo 65 (.mv (tt 7)),
oo 66 (.iadr 2 (tt 64) (tt 65)),
oo 67 (.fadr 1 (tt 66)),
oo 68 (.load 1 false false (tt 67)),
oo 69 (.call 9700 0 [tt 62, tt 68]),
oo 70 (.un .not (tt 69))])
 (.cond (tt 70) (.seq (rr [oo 2 (.mv (.const (.bool false)))])
 .ret) .skip)))
 (rr [oo 56 (.mv (tt 7)),
oo 57 (.bin .add (tt 56) (nn 1)),
oo 7 (.mv (tt 57))]))) }
noncomputable def p39800 : ProcT := { kind := .fn, ins := [0, 1, 2], bins := [99], res := [.cell 6 4 true], code := (.seq (rr [oo 6 (.alloc 100 [.sl (.own false) .int [], .sl (.own false) .ints [], .tr .bool none 0, .bool false])])
 (.seq (rr [oo 10 (.mv (tt 0)),
oo 11 (.call 16700 0 [tt 10]),
oo 12 (.mv (tt 2)),
oo 13 (.build [.sl (.own false) .int [], .sl (.own false) .ints [], .tr .bool none 0, .bool false] [(0, 1, tt 11), (3, 1, tt 12)]),
oo 7 (.alloc 101 [.sl (.own false) .int [], .sl (.own false) .ints [], .tr .bool none 0, .bool false]),
on (.store 4 (tt 7) (tt 13)) []])
 (.seq (.seq (rr [oo 14 (.mv (tt 1)),
oo 15 (.len (tt 14)),
oo 16 (.mv (nn 0))])
 (.block 0 (.label 39801)))
 (.seq (rr [oo 29 (.load 4 true false (tt 7)),
on (.store 4 (tt 6) (tt 29)) []])
 .ret)))) }
noncomputable def p39801 : ProcT := { kind := .loop, ins := [6, 7, 14, 15, 16], bins := [100, 101, 99], outs := [6, 7], bouts := [100, 101, 99], code := (.seq (rr [oo 17 (.bin .lss (tt 16) (tt 15))])
 (.seq (.cond (tt 17) .skip (.exit 0))
 (.seq (.block 1 (.seq (rr [oo 18 (.iadr 2 (tt 14) (tt 16)),
oo 19 (.load 2 true false (tt 18)),
oo 9 (.alloc 102 [.int .i64 0, .sl (.own false) .int []]),
on (.store 2 (tt 9) (tt 19)) []])
 (.region true [op 20 (.fadr 1 (tt 7)) [101],
op 21 (.load 1 false true (tt 20)) [101],
op 22 (.fadr 1 (tt 9)) [102],
op 23 (.load 1 false false (tt 22)) [102],
oo 24 (.call 16700 0 [tt 23]),
oo 25 (.buildS .full .ints [tt 24]),
oo 26 (.app 1 (.take 21) (tt 25)),
op 27 (.fadr 1 (tt 7)) [101],
on (.store 1 (tt 27) (.take 26)) [101]])))
 (rr [oo 28 (.bin .add (tt 16) (nn 1)),
oo 16 (.mv (tt 28))])))) }
noncomputable def p40100 : ProcT := { kind := .fn, ins := [0, 1], bins := [99], res := [.cell 4 5 true, .tmp 5], code := (.seq (rr [oo 2 (.box 100 (tt 0)),
oo 4 (.alloc 101 [.sl (.own false) .tk [], .sl (.own false) .bx [], .int .i64 0, .int .i64 0, .tr .int none 0]),
oo 5 (.mv (.const (.bool false)))])
 (.seq (.seq (rr [oo 8 (.load 5 true false (tt 2)),
oo 9 (.call 24700 0 [tt 8]),
oo 10 (.un .not (tt 9)),
oo 11 (.mv (tt 10)),
og (some 12) (.mv (tt 1)) 11 false [],
og (some 13) (.call 1600 0 [tt 12, nn 0, nn 100000]) 11 false [],
og (some 14) (.un .not (tt 13)) 11 false [],
oo 15 (.pick (tt 11) (.const (.bool true)) (tt 14))])
 (.cond (tt 15) (.seq (rr [oo 16 (.build [.sl (.own false) .tk [], .sl (.own false) .bx [], .int .i64 0, .int .i64 0, .tr .int none 0] []),
on (.store 5 (tt 4) (tt 16)) [],
oo 5 (.mv (.const (.bool false)))])
 .ret) .skip))
 (.seq (rr [oo 17 (.load 5 true false (tt 2)),
oo 18 (.tr (.call .pass 40400 [tt 17])),
oo 6 (.alloc 102 [.sl (.own false) .tk [], .sl (.own false) .bx [], .int .i64 0, .int .i64 0, .tr .int none 0]),
on (.store 5 (tt 6) (tt 18)) []])
 (.seq (.seq (rr [oo 7 (.mv (nn 0))])
 (.block 0 (.label 40101)))
 (.seq (rr [oo 34 (.load 5 true false (tt 6)),
on (.store 5 (tt 4) (tt 34)) [],
oo 5 (.mv (.const (.bool true)))])
 .ret))))) }
noncomputable def p40101 : ProcT := { kind := .loop, ins := [1, 4, 6, 7], bins := [101, 102, 99], outs := [4, 5, 6], bouts := [101, 102, 99], code := (.seq (.seq (rr [oo 19 (.mv (tt 7)),
oo 20 (.mv (tt 1)),
oo 21 (.bin .lss (tt 19) (tt 20)),
oo 22 (.mv (tt 21)),
og (some 23) (.fadr 3 (tt 6)) 22 true [],
og (some 24) (.load 1 false false (tt 23)) 22 true [],
og (some 25) (.fadr 0 (tt 6)) 22 true [],
og (some 26) (.load 1 false false (tt 25)) 22 true [],
og (some 27) (.len (tt 26)) 22 true [],
og (some 28) (.bin .lss (tt 24) (tt 27)) 22 true [],
oo 29 (.pick (tt 22) (tt 28) (.const (.bool false)))])
 (.cond (tt 29) .skip (.exit 0)))
 (.seq (.block 1 (rr [oo 32 (.load 5 true false (tt 6)),
oo 33 (.tr (.call .pseal 40500 [tt 32])),
on (.store 5 (tt 6) (tt 33)) []]))
 (rr [oo 30 (.mv (tt 7)),
oo 31 (.bin .add (tt 30) (nn 1)),
oo 7 (.mv (tt 31))]))) }
noncomputable def p40300 : ProcT := { kind := .fn, ins := [0], bins := [99], res := [.cell 2 5 true], code := (.seq (rr [oo 1 (.box 100 (tt 0)),
oo 2 (.alloc 101 [.tr .tk none 0, .sl (.own false) .bx [], .int .i64 0, .int .i64 0, .tr .int none 0])])
 (.seq (.region true [oo 5 (.tr (.nil .tk)),
op 6 (.fadr 1 (tt 1)) [100],
op 7 (.load 1 false false (tt 6)) [100],
oo 8 (.call 25600 0 [tt 7]),
op 9 (.fadr 2 (tt 1)) [100],
op 10 (.load 1 false false (tt 9)) [100],
op 11 (.fadr 3 (tt 1)) [100],
op 12 (.load 1 false false (tt 11)) [100],
oo 13 (.tr (.nil .int)),
op 14 (.fadr 4 (tt 1)) [100],
op 15 (.load 1 false false (tt 14)) [100],
op 16 (.tr (.app 1 (tt 13) (tt 15))) [99],
oo 17 (.build [.tr .tk none 0, .sl (.own false) .bx [], .int .i64 0, .int .i64 0, .tr .int none 0] [(0, 1, tt 5), (1, 1, tt 8), (2, 1, tt 10), (3, 1, tt 12), (4, 1, tt 16)]),
op 3 (.alloc 102 [.tr .tk none 0, .sl (.own false) .bx [], .int .i64 0, .int .i64 0, .tr .int none 0]) [102],
on (.store 5 (tt 3) (tt 17)) [102]])
 (.seq (.seq (rr [oo 4 (.mv (nn 0))])
 (.block 0 (.label 40301)))
 (.seq (rr [oo 36 (.load 5 true false (tt 3)),
on (.store 5 (tt 2) (tt 36)) []])
 .ret)))) }
noncomputable def p40301 : ProcT := { kind := .loop, ins := [1, 2, 3, 4], bins := [100, 101, 102, 99], outs := [2, 3], bouts := [101, 102, 99], code := (.seq (.seq (rr [oo 18 (.mv (tt 4)),
oo 19 (.fadr 0 (tt 1)),
oo 20 (.load 1 false false (tt 19)),
oo 21 (.len (tt 20)),
oo 22 (.bin .lss (tt 18) (tt 21))])
 (.cond (tt 22) .skip (.exit 0)))
 (.seq (.block 1 (.region true [op 25 (.fadr 0 (tt 3)) [102],
op 26 (.load 1 false false (tt 25)) [102],
op 27 (.fadr 0 (tt 1)) [100],
op 28 (.load 1 false false (tt 27)) [100],
oo 29 (.mv (tt 4)),
oo 30 (.iadr 2 (tt 28) (tt 29)),
oo 31 (.load 2 true false (tt 30)),
oo 32 (.call 25700 0 [tt 31]),
oo 33 (.buildS .full .tk [tt 32]),
op 34 (.tr (.app 2 (tt 26) (tt 33))) [99],
op 35 (.fadr 0 (tt 3)) [102],
on (.store 1 (tt 35) (tt 34)) [102]]))
 (rr [oo 23 (.mv (tt 4)),
oo 24 (.bin .add (tt 23) (nn 1)),
oo 4 (.mv (tt 24))]))) }
noncomputable def p40400 : ProcT := { kind := .fn, ins := [0], bins := [99], res := [.cell 2 5 true], code := (.seq (rr [oo 1 (.box 100 (tt 0)),
oo 2 (.alloc 101 [.sl (.own false) .tk [], .sl (.own false) .bx [], .int .i64 0, .int .i64 0, .tr .int none 0])])
 (.seq (.region true [oo 5 (.buildS (.own false) .tk []),
op 6 (.fadr 1 (tt 1)) [100],
op 7 (.load 1 false false (tt 6)) [100],
oo 8 (.call 25600 0 [tt 7]),
op 9 (.fadr 2 (tt 1)) [100],
op 10 (.load 1 false false (tt 9)) [100],
op 11 (.fadr 3 (tt 1)) [100],
op 12 (.load 1 false false (tt 11)) [100],
op 13 (.tr (.lit .int [])) [99],
op 14 (.fadr 4 (tt 1)) [100],
op 15 (.load 1 false false (tt 14)) [100],
op 16 (.tr (.app 1 (tt 13) (tt 15))) [99],
oo 17 (.build [.sl (.own false) .tk [], .sl (.own false) .bx [], .int .i64 0, .int .i64 0, .tr .int none 0] [(0, 1, tt 5), (1, 1, tt 8), (2, 1, tt 10), (3, 1, tt 12), (4, 1, tt 16)]),
op 3 (.alloc 102 [.sl (.own false) .tk [], .sl (.own false) .bx [], .int .i64 0, .int .i64 0, .tr .int none 0]) [102],
on (.store 5 (tt 3) (tt 17)) [102]])
 (.seq (.seq (rr [oo 4 (.mv (nn 0))])
 (.block 0 (.label 40401)))
 (.seq (rr [oo 36 (.load 5 true false (tt 3)),
on (.store 5 (tt 2) (tt 36)) []])
 .ret)))) }
noncomputable def p40401 : ProcT := { kind := .loop, ins := [1, 2, 3, 4], bins := [100, 101, 102, 99], outs := [2, 3], bouts := [101, 102, 99], code := (.seq (.seq (rr [oo 18 (.mv (tt 4)),
oo 19 (.fadr 0 (tt 1)),
oo 20 (.load 1 false false (tt 19)),
oo 21 (.len (tt 20)),
oo 22 (.bin .lss (tt 18) (tt 21))])
 (.cond (tt 22) .skip (.exit 0)))
 (.seq (.block 1 (.region true [op 25 (.fadr 0 (tt 3)) [102],
op 26 (.load 1 false true (tt 25)) [102],
op 27 (.fadr 0 (tt 1)) [100],
op 28 (.load 1 false false (tt 27)) [100],
oo 29 (.mv (tt 4)),
oo 30 (.iadr 2 (tt 28) (tt 29)),
oo 31 (.load 2 true false (tt 30)),
oo 32 (.call 25700 0 [tt 31]),
oo 33 (.buildS .full .tk [tt 32]),
oo 34 (.app 2 (.take 26) (tt 33)),
op 35 (.fadr 0 (tt 3)) [102],
on (.store 1 (tt 35) (.take 34)) [102]]))
 (rr [oo 23 (.mv (tt 4)),
oo 24 (.bin .add (tt 23) (nn 1)),
oo 4 (.mv (tt 24))]))) }
noncomputable def p40500 : ProcT := { kind := .fn, ins := [0], bins := [99], res := [.cell 2 5 true], sl := [true], code := (.seq (rr [oo 1 (.box 100 (tt 0)),
oo 2 (.alloc 101 [.tr .tk none 0, .sl (.own false) .bx [], .int .i64 0, .int .i64 0, .tr .int none 0])])
 (.seq (rr [oo 11 (.load 5 true false (tt 1)),
oo 12 (.tr (.call .pass 40300 [tt 11])),
oo 3 (.alloc 102 [.tr .tk none 0, .sl (.own false) .bx [], .int .i64 0, .int .i64 0, .tr .int none 0]),
on (.store 5 (tt 3) (tt 12)) []])
 (.seq (.region true [op 14 (.fadr 0 (tt 1)) [100],
op 15 (.load 1 false false (tt 14)) [100],
op 16 (.fadr 2 (tt 1)) [100],
op 17 (.load 1 false false (tt 16)) [100],
oo 18 (.iadr 2 (tt 15) (tt 17)),
oo 19 (.load 2 true false (tt 18)),
op 20 (.fadr 1 (tt 1)) [100],
op 21 (.load 1 false false (tt 20)) [100],
oo 22 (.call 27000 0 [tt 19, tt 21]),
oo 13 (.mv (tt 22)),
oo 23 (.ext 0 (tt 13)),
oo 24 (.ext 1 (tt 13)),
oo 25 (.ext 2 (tt 13)),
oo 26 (.ext 3 (tt 13)),
op 4 (.alloc 103 [.sl (.own false) .int [], .sl (.own false) .stm []]) [103],
on (.store 2 (tt 4) (tt 23)) [103],
oo 5 (.mv (.take 24)),
oo 6 (.mv (.take 25)),
oo 7 (.mv (tt 26))])
 (.seq (rr [oo 27 (.fadr 0 (tt 3)),
oo 28 (.load 1 false false (tt 27)),
oo 29 (.fadr 2 (tt 1)),
oo 30 (.load 1 false false (tt 29)),
oo 31 (.load 2 true false (tt 4)),
oo 32 (.tr (.iadr 2 (tt 28) (tt 30))),
on (.tr (.store 2 (tt 32) (tt 31))) []])
 (.seq (rr [oo 33 (.mv (tt 5)),
oo 34 (.fadr 1 (tt 3)),
on (.store 1 (tt 34) (.take 33)) []])
 (.seq (rr [oo 35 (.fadr 4 (tt 3)),
oo 36 (.load 1 false false (tt 35)),
oo 37 (.mv (tt 6)),
oo 38 (.tr (.app 1 (tt 36) (tt 37))),
oo 39 (.fadr 4 (tt 3)),
on (.store 1 (tt 39) (tt 38)) []])
 (.seq (rr [oo 41 (.fadr 0 (tt 1)),
oo 42 (.load 1 false false (tt 41)),
oo 43 (.len (tt 42)),
oo 44 (.fadr 2 (tt 1)),
oo 45 (.load 1 false false (tt 44)),
oo 46 (.fadr 3 (tt 1)),
oo 47 (.load 1 false false (tt 46)),
oo 48 (.mv (tt 7)),
oo 49 (.call 11200 0 [tt 43, tt 45, tt 47, tt 48]),
oo 40 (.mv (tt 49)),
oo 50 (.ext 0 (tt 40)),
oo 51 (.ext 1 (tt 40)),
oo 52 (.ext 2 (tt 40)),
oo 8 (.mv (tt 50)),
oo 9 (.mv (tt 51)),
oo 10 (.mv (tt 52))])
 (.seq (rr [oo 53 (.mv (tt 8)),
oo 54 (.fadr 2 (tt 3)),
on (.store 1 (tt 54) (tt 53)) []])
 (.seq (rr [oo 55 (.mv (tt 9)),
oo 56 (.fadr 3 (tt 3)),
on (.store 1 (tt 56) (tt 55)) []])
 (.seq (rr [oo 57 (.load 5 true false (tt 3)),
on (.store 5 (tt 2) (tt 57)) []])
 .ret)))))))))) }
noncomputable def p40600 : ProcT := { kind := .fn, ins := [0], bins := [99], res := [.tmp 2], code := (.seq (rr [oo 2 (.mv (.const (.tr .bx none 0)))])
 (.seq (rr [oo 5 (.tr (.lit .bx [])),
oo 3 (.mv (tt 5))])
 (.seq (.seq (rr [oo 4 (.mv (nn 0))])
 (.block 0 (.label 40601)))
 (.seq (rr [oo 28 (.mv (tt 3)),
oo 2 (.mv (tt 28))])
 .ret)))) }
noncomputable def p40601 : ProcT := { kind := .loop, ins := [0, 3, 4], bins := [99], outs := [2, 3], bouts := [99], code := (.seq (.seq (rr [oo 6 (.mv (tt 4)),
oo 7 (.mv (tt 0)),
oo 8 (.len (tt 7)),
oo 9 (.bin .lss (tt 6) (tt 8))])
 (.cond (tt 9) .skip (.exit 0)))
 (.seq (.block 1 (.region true [oo 12 (.mv (tt 3)),
oo 13 (.mv (tt 0)),
oo 14 (.mv (tt 4)),
oo 15 (.iadr 2 (tt 13) (tt 14)),
oo 16 (.fadr 0 (tt 15)),
oo 17 (.load 1 false false (tt 16)),
oo 18 (.buildS (.own true) .int []),
oo 19 (.mv (tt 0)),
oo 20 (.mv (tt 4)),
oo 21 (.iadr 2 (tt 19) (tt 20)),
oo 22 (.fadr 1 (tt 21)),
oo 23 (.load 1 false false (tt 22)),
oo 24 (.app 1 (.take 18) (tt 23)),
oo 25 (.build [.int .i64 0, .sl (.own false) .int []] [(0, 1, tt 17), (1, 1, tt 24)]),
oo 26 (.buildS .full .bx [tt 25]),
op 27 (.tr (.app 2 (tt 12) (tt 26))) [99],
oo 3 (.mv (tt 27))]))
 (rr [oo 10 (.mv (tt 4)),
oo 11 (.bin .add (tt 10) (nn 1)),
oo 4 (.mv (tt 11))]))) }
noncomputable def p16700 : ProcT := { kind := .prim, ins := [], bins := [], code := .skip, pf := Vs.cloneF, pa := Vs.cloneA }
noncomputable def tab : List (Nat × ProcT) := [(100, p100), (200, p200), (300, p300), (400, p400), (500, p500), (600, p600), (700, p700), (1000, p1000), (1100, p1100), (1200, p1200), (1600, p1600), (1700, p1700), (1800, p1800), (1900, p1900), (3700, p3700), (4000, p4000), (4001, p4001), (4100, p4100), (4200, p4200), (4300, p4300), (4400, p4400), (4500, p4500), (4600, p4600), (4601, p4601), (4700, p4700), (4701, p4701), (5000, p5000), (5100, p5100), (5101, p5101), (5200, p5200), (5300, p5300), (5301, p5301), (5400, p5400), (5500, p5500), (5501, p5501), (5700, p5700), (5800, p5800), (5900, p5900), (6000, p6000), (6100, p6100), (6200, p6200), (6201, p6201), (6300, p6300), (6400, p6400), (6500, p6500), (6501, p6501), (6600, p6600), (6601, p6601), (8700, p8700), (9400, p9400), (9500, p9500), (9501, p9501), (9600, p9600), (9700, p9700), (9701, p9701), (11100, p11100), (11200, p11200), (16700, p16700), (17600, p17600), (17800, p17800), (17900, p17900), (18500, p18500), (22300, p22300), (22301, p22301), (22400, p22400), (22401, p22401), (23100, p23100), (23101, p23101), (23200, p23200), (23201, p23201), (23300, p23300), (23301, p23301), (23400, p23400), (23401, p23401), (23500, p23500), (23501, p23501), (23800, p23800), (23900, p23900), (23901, p23901), (24000, p24000), (24001, p24001), (24600, p24600), (24601, p24601), (24700, p24700), (24701, p24701), (25600, p25600), (25601, p25601), (25700, p25700), (25900, p25900), (26000, p26000), (26100, p26100), (26200, p26200), (26300, p26300), (26400, p26400), (26500, p26500), (26600, p26600), (26700, p26700), (26800, p26800), (26900, p26900), (27000, p27000), (28100, p28100), (29900, p29900), (30100, p30100), (30101, p30101), (30200, p30200), (30201, p30201), (30300, p30300), (30301, p30301), (30400, p30400), (30401, p30401), (30500, p30500), (30501, p30501), (30600, p30600), (30700, p30700), (30701, p30701), (30702, p30702), (39800, p39800), (39801, p39801), (40100, p40100), (40101, p40101), (40300, p40300), (40301, p40301), (40400, p40400), (40401, p40401), (40500, p40500), (40600, p40600), (40601, p40601)]
noncomputable abbrev Tb : Nat → Option ProcT := (Vs.look · tab)
@[reducible] def s100 : Sig := [⟨.ret, [.np 2], [], [.h (.sl .u8), .h (.int .i64)]⟩]
@[reducible] def s200 : Sig := [⟨.ret, [.one], [.var 2], [.h (.int .i64), .h (.sl .u8), .h (.int .i64)]⟩]
@[reducible] def s300 : Sig := [⟨.ret, [.agg 3], [], [.h (.int .i64), .h (.int .i64), .h (.slm .exp)]⟩]
@[reducible] def s400 : Sig := [⟨.ret, [.agg 3], [.var 2], [.h (.int .i64), .h (.int .i64), .h (.slm .exp), .h (.sl .u8), .h (.int .i64)]⟩]
@[reducible] def s500 : Sig := [⟨.ret, [.agg 3], [], [.h (.int .i64), .h (.int .i64), .h (.slm .exp)]⟩]
@[reducible] def s600 : Sig := [⟨.ret, [.one], [.var 2], [.h (.int .i64), .h (.sl .u8), .h (.int .i64)]⟩]
@[reducible] def s700 : Sig := [⟨.ret, [.agg 3], [.var 2], [.h (.int .i64), .h (.int .i64), .h (.slm .exp), .h (.sl .u8), .h (.int .i64)]⟩]
@[reducible] def s1000 : Sig := [⟨.ret, [.one], [], [.h (.bool)]⟩]
@[reducible] def s1100 : Sig := [⟨.ret, [.one], [], [.h (.bool)]⟩]
@[reducible] def s1200 : Sig := [⟨.ret, [.one], [], [.h (.bool)]⟩]
@[reducible] def s1600 : Sig := [⟨.ret, [.one], [], [.h (.bool)]⟩]
@[reducible] def s1700 : Sig := [⟨.ret, [.one], [], [.h (.bool)]⟩]
@[reducible] def s1800 : Sig := [⟨.ret, [.one], [], [.h (.bool)]⟩]
@[reducible] def s1900 : Sig := [⟨.ret, [.one], [], [.h (.bool)]⟩]
@[reducible] def s3700 : Sig := [⟨.ret, [.one], [], [.h (.int .i64)]⟩]
@[reducible] def s4000 : Sig := [⟨.ret, [.one], [], [.h (.int .i64)]⟩]
@[reducible] def s4001 : Sig := [⟨.exit 0, [.one, .one], [], [.undef, .h (.int .i64)]⟩]
@[reducible] def s4100 : Sig := [⟨.ret, [.one], [.var 2], [.h (.agg .stm), .h (.sl .u8), .h (.int .i64)]⟩]
@[reducible] def s4200 : Sig := [⟨.ret, [.one], [.var 2], [.h (.agg .stm), .h (.sl .u8), .h (.int .i64)]⟩]
@[reducible] def s4300 : Sig := [⟨.ret, [.one], [.var 2], [.h (.own .stm), .h (.sl .u8), .h (.int .i64)]⟩]
@[reducible] def s4400 : Sig := [⟨.ret, [.one], [.var 2], [.h (.agg .stm), .h (.sl .u8), .h (.int .i64)]⟩]
@[reducible] def s4500 : Sig := [⟨.ret, [.one], [.var 2], [.h (.own .stm), .h (.sl .u8), .h (.int .i64)]⟩]
@[reducible] def s4600 : Sig := [⟨.ret, [.one], [.var 2], [.h (.own .stm), .h (.sl .u8), .h (.int .i64)]⟩]
@[reducible] def s4601 : Sig := [⟨.exit 0, [.one, .one, .one], [.var 2], [.bp 0 0, .undef, .h (.ownb .stm), .h (.sl .u8), .h (.int .i64)]⟩]
@[reducible] def s4700 : Sig := [⟨.ret, [.one], [.var 2], [.h (.slm .stm), .h (.sl .u8), .h (.int .i64)]⟩]
@[reducible] def s4701 : Sig := [⟨.exit 0, [.one, .one, .one], [.var 2], [.bp 0 0, .undef, .h (.slm .stm), .h (.sl .u8), .h (.int .i64)]⟩]
@[reducible] def s5000 : Sig := [⟨.ret, [.one], [], [.h (.bool)]⟩]
@[reducible] def s5100 : Sig := [⟨.ret, [.one], [], [.h (.bool)]⟩]
@[reducible] def s5101 : Sig := [⟨.exit 0, [.one], [], [.undef]⟩, ⟨.ret, [.one], [], [.h (.bool)]⟩]
@[reducible] def s5200 : Sig := [⟨.ret, [.one], [], [.h (.bool)]⟩]
@[reducible] def s5300 : Sig := [⟨.ret, [.one], [.var 1], [.h (.bool), .h (.int .i64)]⟩]
@[reducible] def s5301 : Sig := [⟨.exit 0, [.one, .one], [.var 1], [.bp 0 0, .undef, .h (.int .i64)]⟩, ⟨.ret, [.one, .one], [.var 1], [.bp 0 0, .h (.bool), .h (.int .i64)]⟩]
@[reducible] def s5400 : Sig := [⟨.ret, [.one], [], [.h (.bool)]⟩]
@[reducible] def s5500 : Sig := [⟨.ret, [.one], [], [.h (.bool)]⟩]
@[reducible] def s5501 : Sig := [⟨.exit 0, [.one], [], [.undef]⟩, ⟨.ret, [.one], [], [.h (.bool)]⟩]
@[reducible] def s5700 : Sig := [⟨.ret, [.one], [], [.h (.bool)]⟩]
@[reducible] def s5800 : Sig := [⟨.ret, [.one], [], [.h (.bool)]⟩]
@[reducible] def s5900 : Sig := [⟨.ret, [.one], [], [.h (.bool)]⟩]
@[reducible] def s6000 : Sig := [⟨.ret, [.one], [], [.h (.bool)]⟩]
@[reducible] def s6100 : Sig := [⟨.ret, [.one], [], [.h (.bool)]⟩]
@[reducible] def s6200 : Sig := [⟨.ret, [.one], [], [.h (.bool)]⟩]
@[reducible] def s6201 : Sig := [⟨.exit 0, [.one], [], [.undef]⟩, ⟨.ret, [.one], [], [.h (.bool)]⟩]
@[reducible] def s6300 : Sig := [⟨.ret, [.one], [], [.h (.bool)]⟩]
@[reducible] def s6400 : Sig := [⟨.ret, [.one], [], [.h (.bool)]⟩]
@[reducible] def s6500 : Sig := [⟨.ret, [.one], [], [.h (.bool)]⟩]
@[reducible] def s6501 : Sig := [⟨.exit 0, [.one], [], [.undef]⟩, ⟨.ret, [.one], [], [.h (.bool)]⟩]
@[reducible] def s6600 : Sig := [⟨.ret, [.one], [], [.h (.bool)]⟩]
@[reducible] def s6601 : Sig := [⟨.exit 0, [.one, .one], [.var 2], [.bp 100 0, .undef, .h (.sl .int), .h (.sl .stm)]⟩, ⟨.ret, [.one, .one], [.var 2], [.bp 100 0, .h (.bool), .h (.sl .int), .h (.sl .stm)]⟩]
@[reducible] def s8700 : Sig := [⟨.ret, [.one], [.var 2], [.h (.agg .stm), .h (.sl .u8), .h (.int .i64)]⟩]
@[reducible] def s9400 : Sig := [⟨.ret, [.one], [], [.h (.agg .exp)]⟩]
@[reducible] def s9500 : Sig := [⟨.ret, [.one], [], [.h (.own .stm)]⟩]
@[reducible] def s9501 : Sig := [⟨.exit 0, [.one, .one], [], [.undef, .h (.ownb .stm)]⟩]
@[reducible] def s9600 : Sig := [⟨.ret, [.tup 2], [], [.h (.agg .tk), .h (.bool)]⟩]
@[reducible] def s9700 : Sig := [⟨.ret, [.one], [], [.h (.bool)]⟩]
@[reducible] def s9701 : Sig := [⟨.exit 0, [.one], [], [.undef]⟩, ⟨.ret, [.one], [], [.h (.bool)]⟩]
@[reducible] def s11100 : Sig := [⟨.ret, [.one], [], [.h (.bool)]⟩]
@[reducible] def s11200 : Sig := [⟨.ret, [.tup 3], [], [.h (.int .i64), .h (.int .i64), .h (.bool)]⟩]
@[reducible] def s16700 : Sig := [⟨.ret, [.one], [], [.h (.own .int)]⟩]
@[reducible] def s17600 : Sig := [⟨.ret, [.one], [], [.h (.bool)]⟩]
@[reducible] def s17800 : Sig := [⟨.ret, [.one], [], [.h (.bool)]⟩]
@[reducible] def s17900 : Sig := [⟨.ret, [.tup 3], [], [.h (.agg .bx), .h (.int .i64), .h (.bool)]⟩]
@[reducible] def s18500 : Sig := [⟨.ret, [.tup 2], [], [.h (.agg .bx), .h (.bool)]⟩]
@[reducible] def s22300 : Sig := [⟨.ret, [.one], [.var 2], [.h (.own .int), .h (.sl .u8), .h (.int .i64)]⟩]
@[reducible] def s22301 : Sig := [⟨.exit 0, [.one, .one, .one], [.var 2], [.bp 0 0, .undef, .h (.ownb .int), .h (.sl .u8), .h (.int .i64)]⟩]
@[reducible] def s22400 : Sig := [⟨.ret, [.one], [.var 2], [.h (.agg .prg), .h (.sl .u8), .h (.int .i64)]⟩]
@[reducible] def s22401 : Sig := [⟨.exit 0, [.one, .one, .one], [.var 2, .var 2, .var 2, .ar], [.bp 0 0, .bp 100 0, .bp 101 0, .h (.sl .u8), .h (.int .i64), .h (.ownb .int), .h (.tr .stms), .h (.sl .int), .h (.tr .stms), .h (.ar)]⟩]
@[reducible] def s23100 : Sig := [⟨.ret, [.one], [], [.h (.bool)]⟩]
@[reducible] def s23101 : Sig := [⟨.exit 0, [.one], [], [.undef]⟩, ⟨.ret, [.one], [], [.h (.bool)]⟩]
@[reducible] def s23200 : Sig := [⟨.ret, [.one], [], [.h (.bool)]⟩]
@[reducible] def s23201 : Sig := [⟨.exit 0, [.one, .one], [], [.h (.sl .int), .undef]⟩, ⟨.ret, [.one, .one], [], [.h (.sl .int), .h (.bool)]⟩]
@[reducible] def s23300 : Sig := [⟨.ret, [.one], [], [.h (.bool)]⟩]
@[reducible] def s23301 : Sig := [⟨.exit 0, [.one], [], [.undef]⟩, ⟨.ret, [.one], [], [.h (.bool)]⟩]
@[reducible] def s23400 : Sig := [⟨.ret, [.one], [], [.h (.own .bx)]⟩]
@[reducible] def s23401 : Sig := [⟨.exit 0, [.one, .one], [], [.undef, .h (.ownb .bx)]⟩]
@[reducible] def s23500 : Sig := [⟨.ret, [.tup 2], [], [.h (.agg .wld), .h (.bool)]⟩]
@[reducible] def s23501 : Sig := [⟨.exit 0, [.one, .one, .one], [.var 5, .var 5], [.bp 101 0, .undef, .bp 102 0, .h (.ownb .tk), .h (.ownb .bx), .h (.int .i64), .h (.int .i64), .h (.ownb .int), .h (.ownb .tk), .h (.sl .bx), .h (.int .i64), .h (.int .i64), .h (.ownb .int)]⟩]
@[reducible] def s23800 : Sig := [⟨.ret, [.one], [], [.h (.bool)]⟩]
@[reducible] def s23900 : Sig := [⟨.ret, [.one], [], [.h (.bool)]⟩]
@[reducible] def s23901 : Sig := [⟨.exit 0, [.one, .one], [], [.h (.sl .bx), .undef]⟩, ⟨.ret, [.one, .one], [], [.h (.sl .bx), .h (.bool)]⟩]
@[reducible] def s24000 : Sig := [⟨.ret, [.one], [], [.h (.bool)]⟩]
@[reducible] def s24001 : Sig := [⟨.exit 0, [.one], [], [.undef]⟩, ⟨.ret, [.one], [], [.h (.bool)]⟩]
@[reducible] def s24600 : Sig := [⟨.ret, [.one], [], [.h (.bool)]⟩]
@[reducible] def s24601 : Sig := [⟨.exit 0, [.one, .one], [], [.h (.sl .bx), .undef]⟩, ⟨.ret, [.one, .one], [], [.h (.sl .bx), .h (.bool)]⟩]
@[reducible] def s24700 : Sig := [⟨.ret, [.one], [], [.h (.bool)]⟩]
@[reducible] def s24701 : Sig := [⟨.exit 0, [.one, .one], [.var 5], [.bp 100 0, .undef, .h (.sl .tk), .h (.sl .bx), .h (.int .i64), .h (.int .i64), .h (.sl .int)]⟩, ⟨.ret, [.one, .one], [.var 5], [.bp 100 0, .h (.bool), .h (.sl .tk), .h (.sl .bx), .h (.int .i64), .h (.int .i64), .h (.sl .int)]⟩]
@[reducible] def s25600 : Sig := [⟨.ret, [.one], [], [.h (.own .bx)]⟩]
@[reducible] def s25601 : Sig := [⟨.exit 0, [.one, .one], [], [.undef, .h (.ownb .bx)]⟩]
@[reducible] def s25700 : Sig := [⟨.ret, [.one], [], [.h (.agg .tk)]⟩]
@[reducible] def s25900 : Sig := [⟨.ret, [.one], [], [.h (.int .i64)]⟩]
@[reducible] def s26000 : Sig := [⟨.ret, [.one], [], [.h (.int .i64)]⟩]
@[reducible] def s26100 : Sig := [⟨.ret, [.one], [], [.h (.int .i64)]⟩]
@[reducible] def s26200 : Sig := [⟨.ret, [.one], [], [.h (.int .i64)]⟩]
@[reducible] def s26300 : Sig := [⟨.ret, [.tup 2], [], [.h (.int .i64), .h (.bool)]⟩]
@[reducible] def s26400 : Sig := [⟨.ret, [.one], [], [.h (.int .i64)]⟩]
@[reducible] def s26500 : Sig := [⟨.ret, [.one], [], [.h (.bool)]⟩]
@[reducible] def s26600 : Sig := [⟨.ret, [.one], [], [.h (.agg .tk)]⟩]
@[reducible] def s26700 : Sig := [⟨.ret, [.tup 3], [], [.h (.agg .tk), .h (.sl .bx), .h (.int .i64)]⟩]
@[reducible] def s26800 : Sig := [⟨.ret, [.one], [], [.h (.own .stm)]⟩]
@[reducible] def s26900 : Sig := [⟨.ret, [.one], [], [.h (.agg .tk)]⟩]
@[reducible] def s27000 : Sig := [⟨.ret, [.tup 4], [], [.h (.agg .tk), .h (.sl .bx), .h (.sl .int), .h (.int .i64)]⟩]
@[reducible] def s28100 : Sig := [⟨.ret, [.one], [.var 2], [.h (.agg .wld), .h (.sl .u8), .h (.int .i64)]⟩]
@[reducible] def s29900 : Sig := [⟨.ret, [.one], [], [.h (.agg .wld)]⟩]
@[reducible] def s30100 : Sig := [⟨.ret, [.one], [], [.h (.agg .otc)]⟩]
@[reducible] def s30101 : Sig := [⟨.exit 0, [.one, .one], [.var 4, .var 4, .ar], [.bp 101 0, .bp 102 0, .h (.ownb .int), .h (.ownb .ints), .h (.tr .bool), .h (.bool), .h (.sl .int), .h (.sl .ints), .h (.tr .bool), .h (.bool), .h (.ar)]⟩]
@[reducible] def s30200 : Sig := [⟨.ret, [.one], [], [.h (.own .ints)]⟩]
@[reducible] def s30201 : Sig := [⟨.exit 0, [.one, .one], [], [.undef, .h (.ownb .ints)]⟩]
@[reducible] def s30300 : Sig := [⟨.ret, [.one], [], [.h (.agg .otc)]⟩]
@[reducible] def s30301 : Sig := [⟨.exit 0, [.one, .one], [.var 4, .var 4], [.bp 101 0, .bp 102 0, .h (.ownb .int), .h (.ownb .ints), .h (.ownb .bool), .h (.bool), .h (.sl .int), .h (.sl .ints), .h (.ownb .bool), .h (.bool)]⟩]
@[reducible] def s30400 : Sig := [⟨.ret, [.one], [], [.h (.bool)]⟩]
@[reducible] def s30401 : Sig := [⟨.exit 0, [.one], [], [.undef]⟩, ⟨.ret, [.one], [], [.h (.bool)]⟩]
@[reducible] def s30500 : Sig := [⟨.ret, [.one], [], [.h (.bool)]⟩]
@[reducible] def s30501 : Sig := [⟨.exit 0, [.one], [], [.undef]⟩, ⟨.ret, [.one], [], [.h (.bool)]⟩]
@[reducible] def s30600 : Sig := [⟨.ret, [.one], [], [.h (.bool)]⟩]
@[reducible] def s30700 : Sig := [⟨.ret, [.one], [], [.h (.bool)]⟩]
@[reducible] def s30701 : Sig := [⟨.exit 0, [.one, .one, .one], [.var 5, .var 4], [.undef, .bp 100 0, .bp 101 0, .h (.sl .tk), .h (.sl .bx), .h (.int .i64), .h (.int .i64), .h (.sl .int), .h (.sl .int), .h (.sl .ints), .h (.sl .bool), .h (.bool)]⟩, ⟨.ret, [.one, .one, .one], [.var 5, .var 4], [.h (.bool), .bp 100 0, .bp 101 0, .h (.sl .tk), .h (.sl .bx), .h (.int .i64), .h (.int .i64), .h (.sl .int), .h (.sl .int), .h (.sl .ints), .h (.sl .bool), .h (.bool)]⟩]
@[reducible] def s30702 : Sig := [⟨.exit 2, [.one, .one, .one], [.var 5, .var 4], [.undef, .bp 100 0, .bp 101 0, .h (.sl .tk), .h (.sl .bx), .h (.int .i64), .h (.int .i64), .h (.sl .int), .h (.sl .int), .h (.sl .ints), .h (.sl .bool), .h (.bool)]⟩, ⟨.ret, [.one, .one, .one], [.var 5, .var 4], [.h (.bool), .bp 100 0, .bp 101 0, .h (.sl .tk), .h (.sl .bx), .h (.int .i64), .h (.int .i64), .h (.sl .int), .h (.sl .int), .h (.sl .ints), .h (.sl .bool), .h (.bool)]⟩]
@[reducible] def s39800 : Sig := [⟨.ret, [.agg 4], [.ar], [.h (.sl .int), .h (.sl .ints), .h (.tr .bool), .h (.bool), .h (.ar)]⟩]
@[reducible] def s39801 : Sig := [⟨.exit 0, [.one, .one], [.var 4, .var 4, .ar], [.bp 100 0, .bp 101 0, .h (.ownb .int), .h (.ownb .ints), .h (.tr .bool), .h (.bool), .h (.sl .int), .h (.ownb .ints), .h (.tr .bool), .h (.bool), .h (.ar)]⟩]
@[reducible] def s40100 : Sig := [⟨.ret, [.tup 2], [.ar], [.h (.agg .wldO), .h (.bool), .h (.ar)]⟩]
@[reducible] def s40101 : Sig := [⟨.exit 0, [.one, .one, .one], [.var 5, .var 5, .ar], [.bp 101 0, .undef, .bp 102 0, .h (.ownb .tk), .h (.ownb .bx), .h (.int .i64), .h (.int .i64), .h (.tr .int), .h (.sl .tk), .h (.sl .bx), .h (.int .i64), .h (.int .i64), .h (.tr .int), .h (.ar)]⟩]
@[reducible] def s40300 : Sig := [⟨.ret, [.agg 5], [.ar], [.h (.tr .tk), .h (.sl .bx), .h (.int .i64), .h (.int .i64), .h (.tr .int), .h (.ar)]⟩]
@[reducible] def s40301 : Sig := [⟨.exit 0, [.one, .one], [.var 5, .var 5, .ar], [.bp 101 0, .bp 102 0, .h (.tr .tk), .h (.ownb .bx), .h (.int .i64), .h (.int .i64), .h (.tr .int), .h (.tr .tk), .h (.sl .bx), .h (.int .i64), .h (.int .i64), .h (.tr .int), .h (.ar)]⟩]
@[reducible] def s40400 : Sig := [⟨.ret, [.one], [.ar], [.h (.agg .wldO), .h (.ar)]⟩]
@[reducible] def s40401 : Sig := [⟨.exit 0, [.one, .one], [.var 5, .var 5, .ar], [.bp 101 0, .bp 102 0, .h (.ownb .tk), .h (.ownb .bx), .h (.int .i64), .h (.int .i64), .h (.tr .int), .h (.ownb .tk), .h (.sl .bx), .h (.int .i64), .h (.int .i64), .h (.tr .int), .h (.ar)]⟩]
@[reducible] def s40500 : Sig := [⟨.ret, [.one], [.ar], [.h (.agg .wldO), .h (.ar)]⟩]
@[reducible] def s40600 : Sig := [⟨.ret, [.one], [.ar], [.h (.tr .bx), .h (.ar)]⟩]
@[reducible] def s40601 : Sig := [⟨.exit 0, [.one, .one], [.ar], [.undef, .h (.tr .bx), .h (.ar)]⟩]
def sgs : List (Nat × Sig) := [(100, s100), (200, s200), (300, s300), (400, s400), (500, s500), (600, s600), (700, s700), (1000, s1000), (1100, s1100), (1200, s1200), (1600, s1600), (1700, s1700), (1800, s1800), (1900, s1900), (3700, s3700), (4000, s4000), (4001, s4001), (4100, s4100), (4200, s4200), (4300, s4300), (4400, s4400), (4500, s4500), (4600, s4600), (4601, s4601), (4700, s4700), (4701, s4701), (5000, s5000), (5100, s5100), (5101, s5101), (5200, s5200), (5300, s5300), (5301, s5301), (5400, s5400), (5500, s5500), (5501, s5501), (5700, s5700), (5800, s5800), (5900, s5900), (6000, s6000), (6100, s6100), (6200, s6200), (6201, s6201), (6300, s6300), (6400, s6400), (6500, s6500), (6501, s6501), (6600, s6600), (6601, s6601), (8700, s8700), (9400, s9400), (9500, s9500), (9501, s9501), (9600, s9600), (9700, s9700), (9701, s9701), (11100, s11100), (11200, s11200), (16700, s16700), (17600, s17600), (17800, s17800), (17900, s17900), (18500, s18500), (22300, s22300), (22301, s22301), (22400, s22400), (22401, s22401), (23100, s23100), (23101, s23101), (23200, s23200), (23201, s23201), (23300, s23300), (23301, s23301), (23400, s23400), (23401, s23401), (23500, s23500), (23501, s23501), (23800, s23800), (23900, s23900), (23901, s23901), (24000, s24000), (24001, s24001), (24600, s24600), (24601, s24601), (24700, s24700), (24701, s24701), (25600, s25600), (25601, s25601), (25700, s25700), (25900, s25900), (26000, s26000), (26100, s26100), (26200, s26200), (26300, s26300), (26400, s26400), (26500, s26500), (26600, s26600), (26700, s26700), (26800, s26800), (26900, s26900), (27000, s27000), (28100, s28100), (29900, s29900), (30100, s30100), (30101, s30101), (30200, s30200), (30201, s30201), (30300, s30300), (30301, s30301), (30400, s30400), (30401, s30401), (30500, s30500), (30501, s30501), (30600, s30600), (30700, s30700), (30701, s30701), (30702, s30702), (39800, s39800), (39801, s39801), (40100, s40100), (40101, s40101), (40300, s40300), (40301, s40301), (40400, s40400), (40401, s40401), (40500, s40500), (40600, s40600), (40601, s40601)]
def sg (g : Nat) : Sig := (Vs.look g sgs).getD []
def GT (i : Nat) : List TV := []
noncomputable def laws_FnOutcome (a0 : List Int) : Option (Bool) := callTy Tb GT s30700 30700 [.sl .share .u8 a0] []
noncomputable def spec_DrawWorldOutcome (a0 : List Int) : Option (Wld) := callTy Tb GT s29900 29900 [.sl .share .u8 a0] []
noncomputable def impl_WorldOutcome (a0 : Wld) : Option (Otc) := callTy Tb GT s30100 30100 [.agg (rowT .wld a0)] []
noncomputable def spec_WorldOutcome (a0 : Wld) : Option (Otc) := callTy Tb GT s30300 30300 [.agg (rowT .wld a0)] []
noncomputable def laws_sameOutcome (a0 : Otc) (a1 : Otc) : Option (Bool) := callTy Tb GT s30600 30600 [.agg (rowT .otc a0), .agg (rowT .otc a1)] []
noncomputable def laws_FnOutcome_l1 (t6 : Int) (b100_0 : List Tk) (b100_1 : List Bx) (b100_2 : Int) (b100_3 : Int) (b100_4 : List Int) (b101_0 : List Int) (b101_1 : List (List Int)) (b101_2 : List Bool) (b101_3 : Bool) : Option ((List Tk × List Bx × Int × Int × List Int × List Int × List (List Int) × List Bool × Bool) ⊕ (Bool × List Tk × List Bx × Int × Int × List Int × List Int × List (List Int) × List Bool × Bool)) := callTy Tb GT s30701 30701 [.bp 100 0, .bp 101 0, .int .i64 t6] [.var [.sl .share .tk b100_0, .sl .share .bx b100_1, .int .i64 b100_2, .int .i64 b100_3, .sl .share .int b100_4], .var [.sl .share .int b101_0, .sl .share .ints b101_1, .sl .share .bool b101_2, .bool b101_3]]
noncomputable def laws_sameInts (a0 : List Int) (a1 : List Int) : Option (Bool) := callTy Tb GT s9700 9700 [.sl .share .int a0, .sl .share .int a1] []
noncomputable def laws_FnOutcome_l2 (t7 : Int) (b100_0 : List Tk) (b100_1 : List Bx) (b100_2 : Int) (b100_3 : Int) (b100_4 : List Int) (b101_0 : List Int) (b101_1 : List (List Int)) (b101_2 : List Bool) (b101_3 : Bool) : Option ((List Tk × List Bx × Int × Int × List Int × List Int × List (List Int) × List Bool × Bool) ⊕ (Bool × List Tk × List Bx × Int × Int × List Int × List Int × List (List Int) × List Bool × Bool)) := callTy Tb GT s30702 30702 [.bp 100 0, .bp 101 0, .int .i64 t7] [.var [.sl .share .tk b100_0, .sl .share .bx b100_1, .int .i64 b100_2, .int .i64 b100_3, .sl .share .int b100_4], .var [.sl .share .int b101_0, .sl .share .ints b101_1, .sl .share .bool b101_2, .bool b101_3]]
noncomputable def spec_l6Open (a0 : List Int) : Option (List Int × Int) := callTy Tb GT s100 100 [.sl .share .u8 a0] []
noncomputable def spec_l92World (a0b : List Int) (a0p : Int) : Option (Wld × List Int × Int) := callTy Tb GT s28100 28100 [.bp 0 0] [.var [.sl .share .u8 a0b, .int .i64 a0p]]
noncomputable def impl_WorldValid (a0 : Wld) : Option (Bool) := callTy Tb GT s24000 24000 [.agg (rowT .wld a0)] []
noncomputable def impl_outcomeOf_o (a0 : List Int) (a1 : List Bx) (a2 : Bool) (A : List Ent) : Option (List Int × List (List Int) × Hd × Bool × List Ent) := callTy Tb GT s39800 39800 [.sl .share .int a0, .sl .share .bx a1, .bool a2] [.ar A]
noncomputable def impl_WorldOutcome_l1 (t22 : List Tk) (t23 : Int) (t24 : Int) (b101_0b : Bool) (b101_0 : List Int) (b101_1b : Bool) (b101_1 : List (List Int)) (b101_2 : Hd) (b101_3 : Bool) (b102_0 : List Int) (b102_1 : List (List Int)) (b102_2 : Hd) (b102_3 : Bool) (b99 : List Ent) : Option ((Bool × List Int) × (Bool × List (List Int)) × Hd × Bool × List Int × List (List Int) × Hd × Bool × List Ent) := callTy Tb GT s30101 30101 [.bp 101 0, .bp 102 0, .sl .share .tk t22, .int .i64 t23, .int .i64 t24] [.var [.sl (.own b101_0b) .int b101_0, .sl (.own b101_1b) .ints b101_1, .tr .bool b101_2.id b101_2.n, .bool b101_3], .var [.sl .share .int b102_0, .sl .share .ints b102_1, .tr .bool b102_2.id b102_2.n, .bool b102_3], .ar b99]
noncomputable def spec_WorldValid (a0 : Wld) : Option (Bool) := callTy Tb GT s24700 24700 [.agg (rowT .wld a0)] []
noncomputable def spec_l16Items (a0 : List Bx) : Option (List (List Int)) := callTy Tb GT s30200 30200 [.sl .share .bx a0] []
noncomputable def spec_WorldOutcome_l1 (t4 : Int) (b100_0 : List Tk) (b100_1 : List Bx) (b100_2 : Int) (b100_3 : Int) (b100_4 : List Int) (b101_0b : Bool) (b101_0 : List Int) (b101_1b : Bool) (b101_1 : List (List Int)) (b101_2b : Bool) (b101_2 : List Bool) (b101_3 : Bool) (b102_0 : List Int) (b102_1 : List (List Int)) (b102_2b : Bool) (b102_2 : List Bool) (b102_3 : Bool) : Option ((Bool × List Int) × (Bool × List (List Int)) × (Bool × List Bool) × Bool × List Int × List (List Int) × (Bool × List Bool) × Bool) := callTy Tb GT s30301 30301 [.bp 100 0, .bp 101 0, .bp 102 0, .int .i64 t4] [.var [.sl .share .tk b100_0, .sl .share .bx b100_1, .int .i64 b100_2, .int .i64 b100_3, .sl .share .int b100_4], .var [.sl (.own b101_0b) .int b101_0, .sl (.own b101_1b) .ints b101_1, .sl (.own b101_2b) .bool b101_2, .bool b101_3], .var [.sl .share .int b102_0, .sl .share .ints b102_1, .sl (.own b102_2b) .bool b102_2, .bool b102_3]]
noncomputable def laws_sameLists (a0 : List (List Int)) (a1 : List (List Int)) : Option (Bool) := callTy Tb GT s30400 30400 [.sl .share .ints a0, .sl .share .ints a1] []
noncomputable def laws_sameFlags (a0 : List Bool) (a1 : List Bool) : Option (Bool) := callTy Tb GT s30500 30500 [.sl .share .bool a0, .sl .share .bool a1] []
noncomputable def laws_sameInts_l1 (t0 : List Int) (t1 : List Int) (t5 : Int) : Option (Unit ⊕ Bool) := callTy Tb GT s9701 9701 [.sl .share .int t0, .sl .share .int t1, .int .i64 t5] []
noncomputable def spec_l92Program (a0b : List Int) (a0p : Int) : Option (Prg × List Int × Int) := callTy Tb GT s22400 22400 [.bp 0 0] [.var [.sl .share .u8 a0b, .int .i64 a0p]]
noncomputable def spec_WorldNew (a0 : Prg) : Option (Wld × Bool) := callTy Tb GT s23500 23500 [.agg (rowT .prg a0)] []
noncomputable def spec_l6Rd_pick (a1 : Int) (a0b : List Int) (a0p : Int) : Option (Int × List Int × Int) := callTy Tb GT s200 200 [.bp 0 0, .int .i64 a1] [.var [.sl .share .u8 a0b, .int .i64 a0p]]
noncomputable def spec_WorldRun_o (a0 : Wld) (a1 : Int) (A : List Ent) : Option (WldO × Bool × List Ent) := callTy Tb GT s40100 40100 [.agg (rowT .wld a0), .int .i64 a1] [.ar A]
noncomputable def impl_turnsValid (a0 : Int) (a1 : Int) (a2 : Int) (a3 : List Int) : Option (Bool) := callTy Tb GT s23800 23800 [.int .i64 a0, .int .i64 a1, .int .i64 a2, .sl .share .int a3] []
noncomputable def impl_boxesValid (a0 : List Bx) : Option (Bool) := callTy Tb GT s23900 23900 [.sl .share .bx a0] []
noncomputable def impl_taskValid (a0 : Tk) (a1 : Int) : Option (Bool) := callTy Tb GT s5500 5500 [.agg (rowT .tk a0), .int .i64 a1] []
noncomputable def impl_WorldValid_l1 (t23 : List Tk) (t24 : Int) (t25 : Int) (b100_0 : List Tk) (b100_1 : List Bx) (b100_2 : Int) (b100_3 : Int) (b100_4 : List Int) : Option (Unit ⊕ Bool) := callTy Tb GT s24001 24001 [.bp 100 0, .sl .share .tk t23, .int .i64 t24, .int .i64 t25] [.var [.sl .share .tk b100_0, .sl .share .bx b100_1, .int .i64 b100_2, .int .i64 b100_3, .sl .share .int b100_4]]
noncomputable def slices_Clone___int_int_ (a0 : List Int) : Option (List Int) := callTy Tb GT s16700 16700 [.sl .share .int a0] []
noncomputable def impl_outcomeOf_o_l1 (t14 : List Bx) (t15 : Int) (t16 : Int) (b100_0b : Bool) (b100_0 : List Int) (b100_1b : Bool) (b100_1 : List (List Int)) (b100_2 : Hd) (b100_3 : Bool) (b101_0 : List Int) (b101_1b : Bool) (b101_1 : List (List Int)) (b101_2 : Hd) (b101_3 : Bool) (b99 : List Ent) : Option ((Bool × List Int) × (Bool × List (List Int)) × Hd × Bool × List Int × (Bool × List (List Int)) × Hd × Bool × List Ent) := callTy Tb GT s39801 39801 [.bp 100 0, .bp 101 0, .sl .share .bx t14, .int .i64 t15, .int .i64 t16] [.var [.sl (.own b100_0b) .int b100_0, .sl (.own b100_1b) .ints b100_1, .tr .bool b100_2.id b100_2.n, .bool b100_3], .var [.sl .share .int b101_0, .sl (.own b101_1b) .ints b101_1, .tr .bool b101_2.id b101_2.n, .bool b101_3], .ar b99]
noncomputable def spec_l6In (a0 : Int) (a1 : Int) (a2 : Int) : Option (Bool) := callTy Tb GT s1600 1600 [.int .i64 a0, .int .i64 a1, .int .i64 a2] []
noncomputable def spec_l15Boxes (a0 : List Bx) : Option (Bool) := callTy Tb GT s24600 24600 [.sl .share .bx a0] []
noncomputable def spec_TaskValid (a0 : Tk) : Option (Bool) := callTy Tb GT s6600 6600 [.agg (rowT .tk a0)] []
noncomputable def spec_l12Boxes (a0 : List Stm) (a1 : Int) : Option (Bool) := callTy Tb GT s23100 23100 [.sl .share .stm a0, .int .i64 a1] []
noncomputable def spec_WorldValid_l1 (t3 : Int) (t4 : Int) (b100_0 : List Tk) (b100_1 : List Bx) (b100_2 : Int) (b100_3 : Int) (b100_4 : List Int) : Option ((List Tk × List Bx × Int × Int × List Int) ⊕ (Bool × List Tk × List Bx × Int × Int × List Int)) := callTy Tb GT s24701 24701 [.bp 100 0, .int .i64 t3, .int .i64 t4] [.var [.sl .share .tk b100_0, .sl .share .bx b100_1, .int .i64 b100_2, .int .i64 b100_3, .sl .share .int b100_4]]
noncomputable def spec_l4Words (a0 : List Int) (a1 : Int) : Option (Bool) := callTy Tb GT s6500 6500 [.sl .share .int a0, .int .i64 a1] []
noncomputable def spec_l16Items_l1 (t0 : List Bx) (t3b : Bool) (t3 : List (List Int)) (t4 : Int) : Option ((Bool × List (List Int))) := callTy Tb GT s30201 30201 [.sl .share .bx t0, .sl (.own t3b) .ints t3, .int .i64 t4] []
noncomputable def laws_sameLists_l1 (t0 : List (List Int)) (t1 : List (List Int)) (t5 : Int) : Option (Unit ⊕ Bool) := callTy Tb GT s30401 30401 [.sl .share .ints t0, .sl .share .ints t1, .int .i64 t5] []
noncomputable def laws_sameFlags_l1 (t0 : List Bool) (t1 : List Bool) (t5 : Int) : Option (Unit ⊕ Bool) := callTy Tb GT s30501 30501 [.sl .share .bool t0, .sl .share .bool t1, .int .i64 t5] []
noncomputable def spec_l92Rooms (a0b : List Int) (a0p : Int) : Option (List Int × List Int × Int) := callTy Tb GT s22300 22300 [.bp 0 0] [.var [.sl .share .u8 a0b, .int .i64 a0p]]
noncomputable def spec_l92Stmts (a1 : Int) (a0b : List Int) (a0p : Int) : Option ((Md × List Stm) × List Int × Int) := callTy Tb GT s4700 4700 [.bp 0 0, .int .i64 a1] [.var [.sl .share .u8 a0b, .int .i64 a0p]]
noncomputable def spec_l92Program_l1 (t4 : Int) (t5 : Int) (b0_0 : List Int) (b0_1 : Int) (b100_0b : Bool) (b100_0 : List Int) (b100_1 : Hd) (b101_0 : List Int) (b101_1 : Hd) (b99 : List Ent) : Option (List Int × Int × (Bool × List Int) × Hd × List Int × Hd × List Ent) := callTy Tb GT s22401 22401 [.bp 0 0, .bp 100 0, .bp 101 0, .int .i64 t4, .int .i64 t5] [.var [.sl .share .u8 b0_0, .int .i64 b0_1], .var [.sl (.own b100_0b) .int b100_0, .tr .stms b100_1.id b100_1.n], .var [.sl .share .int b101_0, .tr .stms b101_1.id b101_1.n], .ar b99]
noncomputable def spec_l92Endless (a0b : List Int) (a0p : Int) : Option (Stm × List Int × Int) := callTy Tb GT s8700 8700 [.bp 0 0] [.var [.sl .share .u8 a0b, .int .i64 a0p]]
noncomputable def spec_ProgramValid (a0 : Prg) : Option (Bool) := callTy Tb GT s23300 23300 [.agg (rowT .prg a0)] []
noncomputable def spec_l16Empty (a0 : List Int) : Option (List Bx) := callTy Tb GT s23400 23400 [.sl .share .int a0] []
noncomputable def spec_TaskNew (a0 : List Stm) : Option (Tk × Bool) := callTy Tb GT s9600 9600 [.sl .share .stm a0] []
noncomputable def spec_WorldNew_l1 (t5 : Int) (b100_0 : List Int) (b100_1 : List (List Stm)) (b101_0b : Bool) (b101_0 : List Tk) (b101_1b : Bool) (b101_1 : List Bx) (b101_2 : Int) (b101_3 : Int) (b101_4b : Bool) (b101_4 : List Int) (b102_0b : Bool) (b102_0 : List Tk) (b102_1 : List Bx) (b102_2 : Int) (b102_3 : Int) (b102_4b : Bool) (b102_4 : List Int) : Option ((Bool × List Tk) × (Bool × List Bx) × Int × Int × (Bool × List Int) × (Bool × List Tk) × List Bx × Int × Int × (Bool × List Int)) := callTy Tb GT s23501 23501 [.bp 100 0, .bp 101 0, .bp 102 0, .int .i64 t5] [.var [.sl .share .int b100_0, .sl .share .stms b100_1], .var [.sl (.own b101_0b) .tk b101_0, .sl (.own b101_1b) .bx b101_1, .int .i64 b101_2, .int .i64 b101_3, .sl (.own b101_4b) .int b101_4], .var [.sl (.own b102_0b) .tk b102_0, .sl .share .bx b102_1, .int .i64 b102_2, .int .i64 b102_3, .sl (.own b102_4b) .int b102_4]]
noncomputable def spec_l16Copy_o (a0 : Wld) (A : List Ent) : Option (WldO × List Ent) := callTy Tb GT s40400 40400 [.agg (rowT .wld a0)] [.ar A]
noncomputable def spec_l16Step_o (a0 : Wld) (A : List Ent) : Option (WldO × List Ent) := callTy Tb GT s40500 40500 [.agg (rowT .wld a0)] [.ar A]
noncomputable def spec_WorldRun_o_l1 (t1 : Int) (t7 : Int) (b101_0b : Bool) (b101_0 : List Tk) (b101_1b : Bool) (b101_1 : List Bx) (b101_2 : Int) (b101_3 : Int) (b101_4 : Hd) (b102_0 : List Tk) (b102_1 : List Bx) (b102_2 : Int) (b102_3 : Int) (b102_4 : Hd) (b99 : List Ent) : Option ((Bool × List Tk) × (Bool × List Bx) × Int × Int × Hd × List Tk × List Bx × Int × Int × Hd × List Ent) := callTy Tb GT s40101 40101 [.int .i64 t1, .bp 101 0, .bp 102 0, .int .i64 t7] [.var [.sl (.own b101_0b) .tk b101_0, .sl (.own b101_1b) .bx b101_1, .int .i64 b101_2, .int .i64 b101_3, .tr .int b101_4.id b101_4.n], .var [.sl .share .tk b102_0, .sl .share .bx b102_1, .int .i64 b102_2, .int .i64 b102_3, .tr .int b102_4.id b102_4.n], .ar b99]
noncomputable def impl_areWords (a0 : List Int) : Option (Bool) := callTy Tb GT s5100 5100 [.sl .share .int a0] []
noncomputable def impl_BoxValid (a0 : Bx) : Option (Bool) := callTy Tb GT s17600 17600 [.agg (rowT .bx a0)] []
noncomputable def impl_boxesValid_l1 (t0 : List Bx) (t5 : List Bx) (t6 : Int) (t7 : Int) : Option (List Bx ⊕ (List Bx × Bool)) := callTy Tb GT s23901 23901 [.sl .share .bx t0, .sl .share .bx t5, .int .i64 t6, .int .i64 t7] []
noncomputable def impl_stmtsValid (a0 : List Stm) (a1 : Int) : Option (Bool) := callTy Tb GT s5400 5400 [.sl .share .stm a0, .int .i64 a1] []
noncomputable def impl_taskValid_l1 (t1 : Int) (t18 : Int) (t19 : Int) (b100_0 : List Int) (b100_1 : List Stm) : Option (Unit ⊕ Bool) := callTy Tb GT s5501 5501 [.int .i64 t1, .bp 100 0, .int .i64 t18, .int .i64 t19] [.var [.sl .share .int b100_0, .sl .share .stm b100_1]]
noncomputable def spec_BoxValid (a0 : Bx) : Option (Bool) := callTy Tb GT s17800 17800 [.agg (rowT .bx a0)] []
noncomputable def spec_l15Boxes_l1 (t0 : List Bx) (t3 : Int) : Option (List Bx ⊕ (List Bx × Bool)) := callTy Tb GT s24601 24601 [.sl .share .bx t0, .int .i64 t3] []
noncomputable def spec_StmtsValid (a0 : List Stm) : Option (Bool) := callTy Tb GT s6300 6300 [.sl .share .stm a0] []
noncomputable def spec_TaskValid_l1 (t3 : Int) (b100_0 : List Int) (b100_1 : List Stm) : Option ((List Int × List Stm) ⊕ (Bool × List Int × List Stm)) := callTy Tb GT s6601 6601 [.bp 100 0, .int .i64 t3] [.var [.sl .share .int b100_0, .sl .share .stm b100_1]]
noncomputable def spec_l12Boxes_l1 (t0 : List Stm) (t1 : Int) (t5 : Int) : Option (Unit ⊕ Bool) := callTy Tb GT s23101 23101 [.sl .share .stm t0, .int .i64 t1, .int .i64 t5] []
noncomputable def spec_WordValid (a0 : Int) : Option (Bool) := callTy Tb GT s6400 6400 [.int .i64 a0] []
noncomputable def spec_l4Words_l1 (t0 : List Int) (t5 : Int) : Option (Unit ⊕ Bool) := callTy Tb GT s6501 6501 [.sl .share .int t0, .int .i64 t5] []
noncomputable def spec_l92Rooms_l1 (t3b : Bool) (t3 : List Int) (t4 : Int) (t5 : Int) (b0_0 : List Int) (b0_1 : Int) : Option ((Bool × List Int) × List Int × Int) := callTy Tb GT s22301 22301 [.bp 0 0, .sl (.own t3b) .int t3, .int .i64 t4, .int .i64 t5] [.var [.sl .share .u8 b0_0, .int .i64 b0_1]]
noncomputable def spec_l92Block (a1 : Int) (a2 : Int) (a3 : Int) (a4 : Bool) (a0b : List Int) (a0p : Int) : Option (List Stm × List Int × Int) := callTy Tb GT s4600 4600 [.bp 0 0, .int .i64 a1, .int .i64 a2, .int .i64 a3, .bool a4] [.var [.sl .share .u8 a0b, .int .i64 a0p]]
noncomputable def spec_l11Count (a0 : List Stm) : Option (Int) := callTy Tb GT s4000 4000 [.sl .share .stm a0] []
noncomputable def spec_l92Stmts_l1 (t5m : Md) (t5 : List Stm) (b0_0 : List Int) (b0_1 : Int) : Option ((Md × List Stm) × List Int × Int) := callTy Tb GT s4701 4701 [.bp 0 0, .sl t5m .stm t5] [.var [.sl .share .u8 b0_0, .int .i64 b0_1]]
noncomputable def spec_l4Leaf (a0 : Int) (a1 : Int) : Option (Int × Int × (Md × List Exp)) := callTy Tb GT s300 300 [.int .i64 a0, .int .i64 a1] []
noncomputable def spec_l12Rooms (a0 : List Int) : Option (Bool) := callTy Tb GT s23200 23200 [.sl .share .int a0] []
noncomputable def spec_ProgramValid_l1 (t3 : Int) (b100_0 : List Int) (b100_1 : List (List Stm)) : Option (Unit ⊕ Bool) := callTy Tb GT s23301 23301 [.bp 100 0, .int .i64 t3] [.var [.sl .share .int b100_0, .sl .share .stms b100_1]]
noncomputable def spec_l16Empty_l1 (t0 : List Int) (t3b : Bool) (t3 : List Bx) (t4 : Int) : Option ((Bool × List Bx)) := callTy Tb GT s23401 23401 [.sl .share .int t0, .sl (.own t3b) .bx t3, .int .i64 t4] []
noncomputable def spec_l11Copy (a0 : List Stm) : Option (List Stm) := callTy Tb GT s9500 9500 [.sl .share .stm a0] []
noncomputable def spec_l15BoxesCopy (a0 : List Bx) : Option (List Bx) := callTy Tb GT s25600 25600 [.sl .share .bx a0] []
noncomputable def spec_l15Copy (a0 : Tk) : Option (Tk) := callTy Tb GT s25700 25700 [.agg (rowT .tk a0)] []
noncomputable def spec_l16Copy_o_l1 (t4 : Int) (b100_0 : List Tk) (b100_1 : List Bx) (b100_2 : Int) (b100_3 : Int) (b100_4 : List Int) (b101_0b : Bool) (b101_0 : List Tk) (b101_1b : Bool) (b101_1 : List Bx) (b101_2 : Int) (b101_3 : Int) (b101_4 : Hd) (b102_0b : Bool) (b102_0 : List Tk) (b102_1 : List Bx) (b102_2 : Int) (b102_3 : Int) (b102_4 : Hd) (b99 : List Ent) : Option ((Bool × List Tk) × (Bool × List Bx) × Int × Int × Hd × (Bool × List Tk) × List Bx × Int × Int × Hd × List Ent) := callTy Tb GT s40401 40401 [.bp 100 0, .bp 101 0, .bp 102 0, .int .i64 t4] [.var [.sl .share .tk b100_0, .sl .share .bx b100_1, .int .i64 b100_2, .int .i64 b100_3, .sl .share .int b100_4], .var [.sl (.own b101_0b) .tk b101_0, .sl (.own b101_1b) .bx b101_1, .int .i64 b101_2, .int .i64 b101_3, .tr .int b101_4.id b101_4.n], .var [.sl (.own b102_0b) .tk b102_0, .sl .share .bx b102_1, .int .i64 b102_2, .int .i64 b102_3, .tr .int b102_4.id b102_4.n], .ar b99]
noncomputable def spec_l16Copy_t (a0 : Wld) (A : List Ent) : Option (Hd × List Bx × Int × Int × Hd × List Ent) := callTy Tb GT s40300 40300 [.agg (rowT .wld a0)] [.ar A]
noncomputable def spec_TaskStep (a0 : Tk) (a1 : List Bx) : Option (Tk × List Bx × List Int × Int) := callTy Tb GT s27000 27000 [.agg (rowT .tk a0), .sl .share .bx a1] []
noncomputable def spec_NextTurn (a0 : Int) (a1 : Int) (a2 : Int) (a3 : Int) : Option (Int × Int × Bool) := callTy Tb GT s11200 11200 [.int .i64 a0, .int .i64 a1, .int .i64 a2, .int .i64 a3] []
noncomputable def impl_WordValid (a0 : Int) : Option (Bool) := callTy Tb GT s5000 5000 [.int .i64 a0] []
noncomputable def impl_areWords_l1 (t5 : List Int) (t6 : Int) (t7 : Int) : Option (Unit ⊕ Bool) := callTy Tb GT s5101 5101 [.sl .share .int t5, .int .i64 t6, .int .i64 t7] []
noncomputable def impl_blockValid (a0 : List Stm) (a1 : Int) (a2 : Int) (a3 : Int) : Option (Bool × Int) := callTy Tb GT s5300 5300 [.sl .share .stm a0, .int .i64 a1, .int .i64 a2, .bp 0 0] [.var [.int .i64 a3]]
noncomputable def spec_l11Blocks (a0 : List Stm) (a1 : Int) : Option (Bool) := callTy Tb GT s6200 6200 [.sl .share .stm a0, .int .i64 a1] []
noncomputable def spec_l92Stmt (a1 : Int) (a2 : Int) (a3 : Bool) (a0b : List Int) (a0p : Int) : Option (List Stm × List Int × Int) := callTy Tb GT s4500 4500 [.bp 0 0, .int .i64 a1, .int .i64 a2, .bool a3] [.var [.sl .share .u8 a0b, .int .i64 a0p]]
noncomputable def spec_l92Block_l1 (t1 : Int) (t2 : Int) (t3 : Int) (t4 : Bool) (t11b : Bool) (t11 : List Stm) (t12 : Int) (b0_0 : List Int) (b0_1 : Int) : Option ((Bool × List Stm) × List Int × Int) := callTy Tb GT s4601 4601 [.bp 0 0, .int .i64 t1, .int .i64 t2, .int .i64 t3, .bool t4, .sl (.own t11b) .stm t11, .int .i64 t12] [.var [.sl .share .u8 b0_0, .int .i64 b0_1]]
noncomputable def spec_l11Count_l1 (t0 : List Stm) (t3 : Int) (t4 : Int) : Option (Int) := callTy Tb GT s4001 4001 [.sl .share .stm t0, .int .i64 t3, .int .i64 t4] []
noncomputable def spec_l12Rooms_l1 (t0 : List Int) (t3 : Int) : Option (List Int ⊕ (List Int × Bool)) := callTy Tb GT s23201 23201 [.sl .share .int t0, .int .i64 t3] []
noncomputable def spec_l4Copy (a0 : Exp) : Option (Exp) := callTy Tb GT s9400 9400 [.agg (rowT .exp a0)] []
noncomputable def spec_l11Copy_l1 (t0 : List Stm) (t3b : Bool) (t3 : List Stm) (t4 : Int) : Option ((Bool × List Stm)) := callTy Tb GT s9501 9501 [.sl .share .stm t0, .sl (.own t3b) .stm t3, .int .i64 t4] []
noncomputable def spec_l15BoxesCopy_l1 (t0 : List Bx) (t3b : Bool) (t3 : List Bx) (t4 : Int) : Option ((Bool × List Bx)) := callTy Tb GT s25601 25601 [.sl .share .bx t0, .sl (.own t3b) .bx t3, .int .i64 t4] []
noncomputable def spec_l16Copy_t_l1 (t4 : Int) (b100_0 : List Tk) (b100_1 : List Bx) (b100_2 : Int) (b100_3 : Int) (b100_4 : List Int) (b101_0 : Hd) (b101_1b : Bool) (b101_1 : List Bx) (b101_2 : Int) (b101_3 : Int) (b101_4 : Hd) (b102_0 : Hd) (b102_1 : List Bx) (b102_2 : Int) (b102_3 : Int) (b102_4 : Hd) (b99 : List Ent) : Option (Hd × (Bool × List Bx) × Int × Int × Hd × Hd × List Bx × Int × Int × Hd × List Ent) := callTy Tb GT s40301 40301 [.bp 100 0, .bp 101 0, .bp 102 0, .int .i64 t4] [.var [.sl .share .tk b100_0, .sl .share .bx b100_1, .int .i64 b100_2, .int .i64 b100_3, .sl .share .int b100_4], .var [.tr .tk b101_0.id b101_0.n, .sl (.own b101_1b) .bx b101_1, .int .i64 b101_2, .int .i64 b101_3, .tr .int b101_4.id b101_4.n], .var [.tr .tk b102_0.id b102_0.n, .sl .share .bx b102_1, .int .i64 b102_2, .int .i64 b102_3, .tr .int b102_4.id b102_4.n], .ar b99]
noncomputable def spec_l15Ready (a0 : Tk) (a1 : List Bx) : Option (Bool) := callTy Tb GT s26500 26500 [.agg (rowT .tk a0), .sl .share .bx a1] []
noncomputable def spec_l15Talk (a0 : Tk) (a1 : List Bx) : Option (Tk × List Bx × Int) := callTy Tb GT s26700 26700 [.agg (rowT .tk a0), .sl .share .bx a1] []
noncomputable def spec_l15Block (a0 : Tk) : Option (Tk) := callTy Tb GT s26900 26900 [.agg (rowT .tk a0)] []
noncomputable def spec_l4Eval (a0 : Exp) (a1 : List Int) : Option (Int) := callTy Tb GT s26400 26400 [.agg (rowT .exp a0), .sl .share .int a1] []
noncomputable def spec_l15Set (a0 : Tk) (a1 : Int) (a2 : Int) : Option (Tk) := callTy Tb GT s26600 26600 [.agg (rowT .tk a0), .int .i64 a1, .int .i64 a2] []
noncomputable def impl_stmtValid (a0 : Stm) (a1 : Int) : Option (Bool) := callTy Tb GT s5200 5200 [.rp (rowT .stm a0) 0, .int .i64 a1] []
noncomputable def impl_blockValid_l1 (t0 : List Stm) (t1 : Int) (t2 : Int) (t23 : Int) (t24 : Int) (b0_0 : Int) : Option (Int ⊕ (Bool × Int)) := callTy Tb GT s5301 5301 [.sl .share .stm t0, .int .i64 t1, .int .i64 t2, .bp 0 0, .int .i64 t23, .int .i64 t24] [.var [.int .i64 b0_0]]
noncomputable def spec_l11Ok (a0 : Stm) (a1 : Int) : Option (Bool) := callTy Tb GT s6100 6100 [.agg (rowT .stm a0), .int .i64 a1] []
noncomputable def spec_l11Blocks_l1 (t0 : List Stm) (t1 : Int) (t5 : Int) : Option (Unit ⊕ Bool) := callTy Tb GT s6201 6201 [.sl .share .stm t0, .int .i64 t1, .int .i64 t5] []
noncomputable def spec_l92Set (a0b : List Int) (a0p : Int) : Option (Stm × List Int × Int) := callTy Tb GT s4200 4200 [.bp 0 0] [.var [.sl .share .u8 a0b, .int .i64 a0p]]
noncomputable def spec_l92If (a1 : Int) (a2 : Int) (a3 : Bool) (a0b : List Int) (a0p : Int) : Option (Stm × List Int × Int) := callTy Tb GT s4100 4100 [.bp 0 0, .int .i64 a1, .int .i64 a2, .bool a3] [.var [.sl .share .u8 a0b, .int .i64 a0p]]
noncomputable def spec_l91Expr (a1 : Int) (a0b : List Int) (a0p : Int) : Option (Int × Int × (Md × List Exp) × List Int × Int) := callTy Tb GT s700 700 [.bp 0 0, .int .i64 a1] [.var [.sl .share .u8 a0b, .int .i64 a0p]]
noncomputable def spec_l92Loop (a1 : Int) (a2 : Int) (a0b : List Int) (a0p : Int) : Option (List Stm × List Int × Int) := callTy Tb GT s4300 4300 [.bp 0 0, .int .i64 a1, .int .i64 a2] [.var [.sl .share .u8 a0b, .int .i64 a0p]]
noncomputable def spec_l92Talk (a1 : Int) (a0b : List Int) (a0p : Int) : Option (Stm × List Int × Int) := callTy Tb GT s4400 4400 [.bp 0 0, .int .i64 a1] [.var [.sl .share .u8 a0b, .int .i64 a0p]]
noncomputable def spec_l4Both (a0 : Int) (a1 : Exp) (a2 : Exp) : Option (Int × Int × (Md × List Exp)) := callTy Tb GT s500 500 [.int .i64 a0, .agg (rowT .exp a1), .agg (rowT .exp a2)] []
noncomputable def spec_l15BoxesCopy_p (a0 : List Bx) (A : List Ent) : Option (Hd × List Ent) := callTy Tb GT s40600 40600 [.sl .share .bx a0] [.ar A]
noncomputable def spec_BoxPut (a0 : Bx) (a1 : Int) : Option (Bx × Bool) := callTy Tb GT s18500 18500 [.agg (rowT .bx a0), .int .i64 a1] []
noncomputable def spec_BoxTake (a0 : Bx) : Option (Bx × Int × Bool) := callTy Tb GT s17900 17900 [.agg (rowT .bx a0)] []
noncomputable def spec_l15Ahead (a0 : List Stm) (a1 : List Stm) : Option (List Stm) := callTy Tb GT s26800 26800 [.sl .share .stm a0, .sl .share .stm a1] []
noncomputable def spec_Apply (a0 : Int) (a1 : Int) (a2 : Int) : Option (Int × Bool) := callTy Tb GT s26300 26300 [.int .i64 a0, .int .i64 a1, .int .i64 a2] []
noncomputable def impl_stmtValid_1 (a0 : Int) (a1 : Int) (a2 : Bool) : Option (Bool) := callTy Tb GT s11100 11100 [.int .i64 a0, .int .i64 a1, .bool a2] []
noncomputable def impl_ExprValid (a0 : Exp) : Option (Bool) := callTy Tb GT s1200 1200 [.agg (rowT .exp a0)] []
noncomputable def spec_l11Simple (a0 : Stm) : Option (Bool) := callTy Tb GT s6000 6000 [.agg (rowT .stm a0)] []
noncomputable def spec_l11Var (a0 : Stm) (a1 : Bool) : Option (Bool) := callTy Tb GT s5700 5700 [.agg (rowT .stm a0), .bool a1] []
noncomputable def spec_l11Box (a0 : Stm) (a1 : Bool) : Option (Bool) := callTy Tb GT s5800 5800 [.agg (rowT .stm a0), .bool a1] []
noncomputable def spec_ExprValid (a0 : Exp) : Option (Bool) := callTy Tb GT s1900 1900 [.agg (rowT .exp a0)] []
noncomputable def spec_l91Leaf (a0b : List Int) (a0p : Int) : Option (Int × Int × (Md × List Exp) × List Int × Int) := callTy Tb GT s400 400 [.bp 0 0] [.var [.sl .share .u8 a0b, .int .i64 a0p]]
noncomputable def spec_l91Op (a0b : List Int) (a0p : Int) : Option (Int × List Int × Int) := callTy Tb GT s600 600 [.bp 0 0] [.var [.sl .share .u8 a0b, .int .i64 a0p]]
noncomputable def spec_l15BoxesCopy_p_l1 (t0 : List Bx) (t3 : Hd) (t4 : Int) (b99 : List Ent) : Option (Hd × List Ent) := callTy Tb GT s40601 40601 [.sl .share .bx t0, .tr .bx t3.id t3.n, .int .i64 t4] [.ar b99]
noncomputable def spec_OpValid (a0 : Int) : Option (Bool) := callTy Tb GT s1700 1700 [.int .i64 a0] []
noncomputable def spec_l2Flag (a0 : Bool) : Option (Int) := callTy Tb GT s25900 25900 [.bool a0] []
noncomputable def spec_l2Shift (a0 : Int) (a1 : Int) (a2 : Bool) : Option (Int) := callTy Tb GT s26000 26000 [.int .i64 a0, .int .i64 a1, .bool a2] []
noncomputable def spec_Wrap (a0 : Int) : Option (Int) := callTy Tb GT s3700 3700 [.int .i64 a0] []
noncomputable def spec_l2Divide (a0 : Int) (a1 : Int) : Option (Int) := callTy Tb GT s26100 26100 [.int .i64 a0, .int .i64 a1] []
noncomputable def spec_l2Remain (a0 : Int) (a1 : Int) : Option (Int) := callTy Tb GT s26200 26200 [.int .i64 a0, .int .i64 a1] []
noncomputable def impl_exprValid (a0 : Exp) (a1 : Int) : Option (Bool) := callTy Tb GT s1100 1100 [.agg (rowT .exp a0), .int .i64 a1] []
noncomputable def spec_l11Plain (a0 : Exp) : Option (Bool) := callTy Tb GT s5900 5900 [.agg (rowT .exp a0)] []
noncomputable def spec_l4Ok (a0 : Exp) (a1 : Int) : Option (Bool) := callTy Tb GT s1800 1800 [.agg (rowT .exp a0), .int .i64 a1] []
noncomputable def impl_OpValid (a0 : Int) : Option (Bool) := callTy Tb GT s1000 1000 [.int .i64 a0] []
end Go.TFnOutcome
