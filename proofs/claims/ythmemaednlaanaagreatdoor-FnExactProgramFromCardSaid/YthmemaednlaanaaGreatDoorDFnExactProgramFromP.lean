import Derived.Test.YthmemaednlaanaaGreatDoorLkA
import Derived.Test.YthmemaednlaanaaGreatDoorPm2
import Derived.Test.YthmemaednlaanaaGreatDoorPm4
import Derived.KernelRfl
noncomputable section
set_option linter.unusedVariables false
namespace Go.TFnExactProgramFrom
open Go Go.RowKit Go.Vs Go.Tv
@[reducible] def oo (d : Nat) (k : KT) : AOpT := ⟨some d, k, none, []⟩
@[reducible] def op (d : Nat) (k : KT) (f : List Nat) : AOpT := ⟨some d, k, none, f⟩
@[reducible] def on (k : KT) (f : List Nat) : AOpT := ⟨none, k, none, f⟩
@[reducible] def og (d : Option Nat) (k : KT) (i : Nat) (b : Bool) (f : List Nat) : AOpT := ⟨d, k, some (i, b), f⟩
@[reducible] def tt (i : Nat) : OpT := .tmp i
@[reducible] def nn (i : Int) : OpT := .const (.int .i64 i)
@[reducible] def rr (l : List AOpT) : ACT := .region false l
@[reducible] def zl (d a : Nat) : AOpT := ⟨some d, .load 1 false false (.tmp a), none, []⟩
@[reducible] def zL (d a i : Nat) : AOpT := ⟨some d, .load 1 false false (.tmp a), some (i, true), []⟩
@[reducible] def zm (d a : Nat) : AOpT := ⟨some d, .mv (.tmp a), none, []⟩
@[reducible] def zM (d a i : Nat) : AOpT := ⟨some d, .mv (.tmp a), some (i, true), []⟩
@[reducible] def zf (d k a : Nat) : AOpT := ⟨some d, .fadr k (.tmp a), none, []⟩
@[reducible] def zF (d k a i : Nat) : AOpT := ⟨some d, .fadr k (.tmp a), some (i, true), []⟩
@[reducible] def zp (d a b : Nat) : AOpT := ⟨some d, .pick (.tmp a) (.tmp b) (.const (.bool false)), none, []⟩
@[reducible] def zq (d a b : Nat) : AOpT := ⟨some d, .pick (.tmp a) (.const (.bool true)) (.tmp b), none, []⟩
@[reducible] def zb (d : Nat) (o : BinOp) (a : Nat) (k : Int) : AOpT := ⟨some d, .bin o (.tmp a) (.const (.int .i64 k)), none, []⟩
@[reducible] def zt (d : Nat) (o : BinOp) (a b : Nat) : AOpT := ⟨some d, .bin o (.tmp a) (.tmp b), none, []⟩
@[reducible] def zn (d : Nat) (o : BinOp) (a : Nat) (k : Int) (i : Nat) : AOpT := ⟨some d, .bin o (.tmp a) (.const (.int .i64 k)), some (i, true), []⟩
@[reducible] def zg (d : Nat) (o : BinOp) (a b i : Nat) : AOpT := ⟨some d, .bin o (.tmp a) (.tmp b), some (i, true), []⟩
@[reducible] def zc (d a : Nat) : AOpT := ⟨some d, .len (.tmp a), none, []⟩
@[reducible] def yF (d k a i : Nat) : AOpT := ⟨some d, .fadr k (.tmp a), some (i, false), []⟩
@[reducible] def yM (d a i : Nat) : AOpT := ⟨some d, .mv (.tmp a), some (i, false), []⟩
@[reducible] def yL (d a i : Nat) : AOpT := ⟨some d, .load 1 false false (.tmp a), some (i, false), []⟩
@[reducible] def yi (d n a b : Nat) : AOpT := ⟨some d, .iadr n (.tmp a) (.tmp b), none, []⟩
@[reducible] def yI (d n a b i : Nat) : AOpT := ⟨some d, .iadr n (.tmp a) (.tmp b), some (i, true), []⟩
@[reducible] def yl (d n a : Nat) : AOpT := ⟨some d, .load n true false (.tmp a), none, []⟩
@[reducible] def ya (d n g a : Nat) : AOpT := ⟨some d, .call n g [.tmp a], none, []⟩
@[reducible] def yb (d n g a b : Nat) : AOpT := ⟨some d, .call n g [.tmp a, .tmp b], none, []⟩
@[reducible] def ye (d n a : Nat) : AOpT := ⟨some d, .ext n (.tmp a), none, []⟩
@[reducible] def yt (d a : Nat) : AOpT := ⟨some d, .mv (.take a), none, []⟩
@[reducible] def yn (d : Nat) (k : Int) : AOpT := ⟨some d, .mv (.const (.int .i64 k)), none, []⟩
@[reducible] def yc (d a : Nat) : AOpT := ⟨some d, .nilck (.tmp a), none, []⟩
@[reducible] def ys (n a b : Nat) (f : List Nat) : AOpT := ⟨none, .store n (.tmp a) (.tmp b), none, f⟩
@[reducible] def yx (d a : Nat) (f : List Nat) : AOpT := ⟨some d, .nilck (.tmp a), none, f⟩
@[reducible] def yf (d k a : Nat) (f : List Nat) : AOpT := ⟨some d, .fadr k (.tmp a), none, f⟩
@[reducible] def yd (d a : Nat) (f : List Nat) : AOpT := ⟨some d, .load 1 false false (.tmp a), none, f⟩
@[reducible] def yo (d : Nat) (b : Bool) : AOpT := ⟨some d, .mv (.const (.bool b)), none, []⟩
@[reducible] def yr (l : List AOpT) (c : ACT) : ACT := .seq (.region false l) c
@[reducible] def yw (i : Nat) (a b : ACT) : ACT := .cond (.tmp i) a b
@[reducible] def pF (a b : List Nat) (r : List RS) (c : ACT) : ProcT := { kind := .fn, ins := a, bins := b, res := r, code := c }
@[reducible] def pL (a b : List Nat) (c : ACT) : ProcT := { kind := .loop, ins := a, bins := b, code := c }
@[reducible] def zG (d : Nat) (k : KT) (i : Nat) : AOpT := ⟨some d, k, some (i, true), []⟩
def p300 : ProcT := pF [0, 1] [] [.keep 4 3] (yr [oo 4 (.alloc 100 [.int .i64 0, .int .i64 0, .sl (.own false) .exp []])]
 (yr [zm 5 0,
zm 6 1,
oo 7 (.buildS (.own false) .exp []),
oo 8 (.build [.int .i64 0, .int .i64 0, .sl (.own false) .exp []] [(0, 1, tt 5), (1, 1, tt 6), (2, 1, tt 7)]),
ys 3 4 8 []]
 .ret))
def p500 : ProcT := pF [0, 1, 2] [] [.keep 6 3] (yr [oo 4 (.box 100 (tt 1)),
oo 5 (.box 101 (tt 2)),
oo 6 (.alloc 102 [.int .i64 0, .int .i64 0, .sl (.own false) .exp []])]
 (yr [zm 7 0,
yl 8 3 4,
yl 9 3 5,
oo 10 (.buildS .full .exp [tt 8, tt 9]),
oo 11 (.build [.int .i64 0, .int .i64 0, .sl (.own false) .exp []] [(0, 1, tt 7), (2, 1, tt 10)]),
ys 3 6 11 []]
 .ret))
def p1000 : ProcT := pF [0] [] [.tmp 2] (yr [yo 2 false]
 (yr [zm 3 0,
zb 4 .geq 3 1,
zm 5 4,
zM 6 0 5,
zn 7 .leq 6 12 5,
zp 8 5 7,
zm 2 8]
 .ret))
def p1100 : ProcT := pF [0, 1] [] [.tmp 4] (yr [oo 2 (.box 100 (tt 0)),
yo 4 false]
 (.seq (.block 0 (yr [zf 6 0 2,
zl 7 6,
zb 8 .eql 7 0,
zm 5 8]
 (yw 5 (yr [zf 9 1 2,
zl 10 9,
zb 11 .geq 10 0,
zm 12 11,
zF 13 1 2 12,
zL 14 13 12,
zn 15 .leq 14 99999 12,
zp 16 12 15,
zm 17 16,
zF 18 2 2 17,
zL 19 18 17,
zG 20 (.len (tt 19)) 17,
zn 21 .eql 20 0 17,
zp 22 17 21,
zm 23 22,
zM 24 1 23,
zn 25 .gtr 24 0 23,
zp 26 23 25,
zm 4 26]
 .ret) (yr [zf 28 0 2,
zl 29 28,
zb 30 .eql 29 13,
zm 27 30]
 (yw 27 (yr [zf 31 1 2,
zl 32 31,
zb 33 .geq 32 0,
zm 34 33,
zF 35 1 2 34,
zL 36 35 34,
zn 37 .lss 36 4 34,
zp 38 34 37,
zm 39 38,
zF 40 2 2 39,
zL 41 40 39,
zG 42 (.len (tt 41)) 39,
zn 43 .eql 42 0 39,
zp 44 39 43,
zm 45 44,
zM 46 1 45,
zn 47 .gtr 46 0 45,
zp 48 45 47,
zm 4 48]
 .ret) .skip)))))
 (yr [zf 49 0 2,
zl 50 49,
ya 51 1000 0 50,
zm 52 51,
zF 53 1 2 52,
zL 54 53 52,
zn 55 .eql 54 0 52,
zp 56 52 55,
zm 57 56,
zF 58 2 2 57,
zL 59 58 57,
zG 60 (.len (tt 59)) 57,
zn 61 .eql 60 2 57,
zp 62 57 61,
zm 63 62,
zM 64 1 63,
zn 65 .gtr 64 1 63,
zp 66 63 65,
zm 67 66,
zF 68 2 2 67,
zL 69 68 67,
zG 70 (.iadr 3 (tt 69) (nn 0)) 67,
zG 71 (.load 3 true false (tt 70)) 67,
zM 72 1 67,
zn 73 .sub 72 1 67,
zG 74 (.call 1100 0 [tt 71, tt 73]) 67,
zp 75 67 74,
zm 76 75,
zF 77 2 2 76,
zL 78 77 76,
zG 79 (.iadr 3 (tt 78) (nn 1)) 76,
zG 80 (.load 3 true false (tt 79)) 76,
zM 81 1 76,
zn 82 .sub 81 1 76,
zG 83 (.call 1100 0 [tt 80, tt 82]) 76,
zp 84 76 83,
zm 4 84]
 .ret)))
def p1200 : ProcT := pF [0] [] [.tmp 2] (yr [oo 1 (.box 100 (tt 0)),
yo 2 false]
 (yr [yl 3 3 1,
oo 4 (.call 1100 0 [tt 3, nn 5]),
zm 2 4]
 .ret))
def p1600 : ProcT := pF [0, 1, 2] [] [.tmp 6] (yr [yo 6 false]
 (yr [zm 7 0,
zm 8 1,
zt 9 .geq 7 8,
zm 10 9,
zM 11 0 10,
zM 12 2 10,
zg 13 .leq 11 12 10,
zp 14 10 13,
zm 6 14]
 .ret))
def p1700 : ProcT := pF [0] [] [.tmp 2] (yr [yo 2 false]
 (yr [zm 3 0,
oo 4 (.call 1600 0 [tt 3, nn 1, nn 12]),
zm 2 4]
 .ret))
def p1800 : ProcT := pF [0, 1] [] [.tmp 4] (yr [oo 2 (.box 100 (tt 0)),
yo 4 false]
 (.seq (yr [zm 5 1,
zb 6 .lss 5 1]
 (yw 6 (yr [yo 4 false]
 .ret) .skip))
 (.seq (yr [zf 7 0 2,
zl 8 7,
zb 9 .eql 8 0]
 (yw 9 (yr [zf 10 1 2,
zl 11 10,
oo 12 (.call 1600 0 [tt 11, nn 0, nn 99999]),
zm 13 12,
zF 14 2 2 13,
zL 15 14 13,
zG 16 (.len (tt 15)) 13,
zn 17 .eql 16 0 13,
zp 18 13 17,
zm 4 18]
 .ret) .skip))
 (.seq (yr [zf 19 0 2,
zl 20 19,
zb 21 .eql 20 13]
 (yw 21 (yr [zf 22 1 2,
zl 23 22,
oo 24 (.call 1600 0 [tt 23, nn 0, nn 3]),
zm 25 24,
zF 26 2 2 25,
zL 27 26 25,
zG 28 (.len (tt 27)) 25,
zn 29 .eql 28 0 25,
zp 30 25 29,
zm 4 30]
 .ret) .skip))
 (yr [zf 31 0 2,
zl 32 31,
ya 33 1700 0 32,
zm 34 33,
zF 35 1 2 34,
zL 36 35 34,
zn 37 .eql 36 0 34,
zp 38 34 37,
zm 39 38,
zF 40 2 2 39,
zL 41 40 39,
zG 42 (.len (tt 41)) 39,
zn 43 .eql 42 2 39,
zp 44 39 43,
zm 45 44,
zF 46 2 2 45,
zL 47 46 45,
zG 48 (.iadr 3 (tt 47) (nn 0)) 45,
zG 49 (.load 3 true false (tt 48)) 45,
zM 50 1 45,
zn 51 .sub 50 1 45,
zG 52 (.call 1800 0 [tt 49, tt 51]) 45,
zp 53 45 52,
zm 54 53,
zF 55 2 2 54,
zL 56 55 54,
zG 57 (.iadr 3 (tt 56) (nn 1)) 54,
zG 58 (.load 3 true false (tt 57)) 54,
zM 59 1 54,
zn 60 .sub 59 1 54,
zG 61 (.call 1800 0 [tt 58, tt 60]) 54,
zp 62 54 61,
zm 4 62]
 .ret)))))
def p1900 : ProcT := pF [0] [] [.tmp 2] (yr [oo 1 (.box 100 (tt 0)),
yo 2 false]
 (yr [yl 3 3 1,
oo 4 (.call 1800 0 [tt 3, nn 5]),
zm 2 4]
 .ret))
def p4000 : ProcT := pF [0] [] [.tmp 2] (yr [yn 2 0]
 (yr [yn 3 0]
 (.seq (yr [yn 4 0]
 (.block 0 (.label 4001)))
 (yr [zm 27 3,
zm 2 27]
 .ret))))
def p4001 : ProcT := { kind := .loop, ins := [0, 3, 4], bins := [], outs := [2, 3], bouts := [], code := (.seq (yr [zm 5 4,
zm 6 0,
zc 7 6,
zt 8 .lss 5 7]
 (yw 8 .skip (.exit 0)))
 (.seq (.block 1 (.region true [zm 11 3,
zb 12 .add 11 1,
zm 13 0,
zm 14 4,
yi 15 8 13 14,
zf 16 6 15,
zl 17 16,
ya 18 4000 0 17,
zt 19 .add 12 18,
zm 20 0,
zm 21 4,
yi 22 8 20 21,
zf 23 7 22,
zl 24 23,
ya 25 4000 0 24,
zt 26 .add 19 25,
zm 3 26]))
 (rr [zm 9 4,
zb 10 .add 9 1,
zm 4 10]))) }
def p5200 : ProcT := pF [0, 1] [] [.tmp 4] (yr [yo 4 false]
 (yr [oo 5 (.alloc 100 [.bool false, .bool false, .bool false, .bool false, .bool false])]
 (.seq (yr [zm 7 0,
yc 8 7,
zf 9 0 8,
zl 10 9]
 (.block 0 (yr [zb 12 .eql 10 1,
zm 11 12]
 (yw 11 (rr [zf 13 0 5,
on (.store 1 (tt 13) (.const (.bool true))) [],
zf 14 2 5,
on (.store 1 (tt 14) (.const (.bool true))) []]) (yr [zb 16 .eql 10 2,
zm 15 16]
 (yw 15 (rr [zf 17 2 5,
on (.store 1 (tt 17) (.const (.bool true))) [],
zf 18 3 5,
on (.store 1 (tt 18) (.const (.bool true))) [],
zf 19 4 5,
on (.store 1 (tt 19) (.const (.bool true))) []]) (yr [zb 21 .eql 10 3,
zm 20 21]
 (yw 20 (rr [zf 22 2 5,
on (.store 1 (tt 22) (.const (.bool true))) [],
zf 23 3 5,
on (.store 1 (tt 23) (.const (.bool true))) []]) (yr [zb 25 .eql 10 4,
zm 24 25]
 (yw 24 (rr [zf 26 1 5,
on (.store 1 (tt 26) (.const (.bool true))) [],
zf 27 2 5,
on (.store 1 (tt 27) (.const (.bool true))) []]) (yr [zb 29 .eql 10 5,
zm 28 29]
 (yw 28 (rr [zf 30 1 5,
on (.store 1 (tt 30) (.const (.bool true))) [],
zf 31 0 5,
on (.store 1 (tt 31) (.const (.bool true))) []]) (yr [zb 33 .eql 10 7,
zm 32 33]
 (yw 32 (rr [zf 34 2 5,
on (.store 1 (tt 34) (.const (.bool true))) []]) (yr [zb 36 .eql 10 6,
zm 35 36]
 (yw 35 .skip (yr [yo 4 false]
 .ret)))))))))))))))))
 (yr [oo 6 (.mv (.func 11100))]
 (.seq (.seq (.region true [zm 37 6,
zm 38 0,
yc 39 38,
zf 40 1 39,
zl 41 40,
yf 42 0 5 [100],
yd 43 42 [100],
oo 44 (.callv (tt 37) [tt 41, nn 4, tt 43]),
oo 45 (.un .not (tt 44)),
zm 46 45,
yM 47 6 46,
yM 48 0 46,
og (some 49) (.nilck (tt 48)) 46 false [],
yF 50 2 49 46,
yL 51 50 46,
yM 52 1 46,
og (some 53) (.fadr 1 (tt 5)) 46 false [100],
og (some 54) (.load 1 false false (tt 53)) 46 false [100],
og (some 55) (.callv (tt 47) [tt 51, tt 52, tt 54]) 46 false [],
og (some 56) (.un .not (tt 55)) 46 false [],
zq 57 46 56,
zm 58 57,
og (some 59) (.fadr 1 (tt 5)) 58 false [100],
og (some 60) (.load 1 false false (tt 59)) 58 false [100],
yM 61 60 58,
zM 62 0 61,
zG 63 (.nilck (tt 62)) 61,
zF 64 2 63 61,
zL 65 64 61,
zM 66 1 61,
zg 67 .geq 65 66 61,
og (some 68) (.pick (tt 61) (tt 67) (.const (.bool false))) 58 false [],
zq 69 58 68])
 (yw 69 (yr [yo 4 false]
 .ret) .skip))
 (.seq (yr [zf 70 2 5,
zl 71 70,
zm 72 71,
zM 73 0 72,
zG 74 (.nilck (tt 73)) 72,
zF 75 3 74 72,
zG 76 (.load 3 true false (tt 75)) 72,
zG 77 (.call 1200 0 [tt 76]) 72,
zG 78 (.un .not (tt 77)) 72,
zp 79 72 78,
zm 80 79,
yF 81 2 5 80,
yL 82 81 80,
og (some 83) (.un .not (tt 82)) 80 false [],
yM 84 83 80,
zM 85 0 84,
zG 86 (.nilck (tt 85)) 84,
zF 87 3 86 84,
zF 88 0 87 84,
zL 89 88 84,
zn 90 .neq 89 0 84,
zM 91 90 84,
yM 92 0 91,
og (some 93) (.nilck (tt 92)) 91 false [],
yF 94 3 93 91,
yF 95 1 94 91,
yL 96 95 91,
og (some 97) (.bin .neq (tt 96) (nn 0)) 91 false [],
zG 98 (.pick (tt 91) (.const (.bool true)) (tt 97)) 84,
zM 99 98 84,
yM 100 0 99,
og (some 101) (.nilck (tt 100)) 99 false [],
yF 102 3 101 99,
yF 103 2 102 99,
yL 104 103 99,
og (some 105) (.len (tt 104)) 99 false [],
og (some 106) (.bin .gtr (tt 105) (nn 0)) 99 false [],
zG 107 (.pick (tt 99) (.const (.bool true)) (tt 106)) 84,
og (some 108) (.pick (tt 84) (tt 107) (.const (.bool false))) 80 false [],
zq 109 80 108]
 (yw 109 (yr [yo 4 false]
 .ret) .skip))
 (yr [zf 110 3 5,
zl 111 110,
zm 112 111,
yM 113 0 112,
og (some 114) (.nilck (tt 113)) 112 false [],
yF 115 6 114 112,
yL 116 115 112,
og (some 117) (.len (tt 116)) 112 false [],
og (some 118) (.bin .eql (tt 117) (nn 0)) 112 false [],
zq 119 112 118,
zm 120 119,
zF 121 4 5 120,
zL 122 121 120,
zM 123 122 120,
yM 124 0 123,
og (some 125) (.nilck (tt 124)) 123 false [],
yF 126 7 125 123,
yL 127 126 123,
og (some 128) (.len (tt 127)) 123 false [],
og (some 129) (.bin .eql (tt 128) (nn 0)) 123 false [],
zG 130 (.pick (tt 123) (.const (.bool true)) (tt 129)) 120,
zp 131 120 130,
zm 4 131]
 .ret)))))))
def p5300 : ProcT := pF [0, 1, 2, 3] [0] [.tmp 8] (yr [yo 8 false]
 (yr [zm 11 3,
yc 12 11,
zl 13 12,
zm 14 0,
zc 15 14,
zt 16 .add 13 15,
yc 17 11,
ys 1 17 16 []]
 (.seq (yr [zm 18 3,
yc 19 18,
zl 20 19,
zb 21 .gtr 20 16]
 (yw 21 (yr [yo 8 false]
 .ret) .skip))
 (.seq (yr [zm 22 0,
zc 23 22,
yn 24 0]
 (.block 0 (.label 5301)))
 (yr [yo 8 true]
 .ret)))))
def p5301 : ProcT := { kind := .loop, ins := [0, 1, 2, 3, 23, 24], bins := [0], outs := [3, 8], bouts := [0], code := (yr [zt 25 .lss 24 23]
 (.seq (yw 25 .skip (.exit 0))
 (.seq (.block 1 (yr [zm 26 24,
zm 9 26]
 (yr [zm 27 0,
zm 28 9,
yi 29 8 27 28,
zm 10 29]
 (.seq (yr [zm 30 10,
zm 31 1,
yb 32 5200 0 30 31,
oo 33 (.un .not (tt 32)),
zm 34 33,
yM 35 2 34,
og (some 36) (.bin .gtr (tt 35) (nn 3)) 34 false [],
zq 37 34 36]
 (yw 37 (yr [yo 8 false]
 .ret) .skip))
 (.seq (yr [zm 38 10,
yc 39 38,
zf 40 0 39,
zl 41 40,
zb 42 .neq 41 2,
zm 43 42,
zM 44 10 43,
zG 45 (.nilck (tt 44)) 43,
zF 46 0 45 43,
zL 47 46 43,
zn 48 .neq 47 3 43,
zp 49 43 48]
 (yw 49 (.exit 1) .skip))
 (yr [zm 50 2,
zb 51 .geq 50 3,
zm 52 51,
yM 53 10 52,
og (some 54) (.nilck (tt 53)) 52 false [],
yF 55 6 54 52,
yL 56 55 52,
yM 57 1 52,
yM 58 2 52,
og (some 59) (.bin .add (tt 58) (nn 1)) 52 false [],
yM 60 3 52,
og (some 61) (.call 5300 0 [tt 56, tt 57, tt 59, tt 60]) 52 false [],
og (some 62) (.un .not (tt 61)) 52 false [],
zq 63 52 62,
zm 64 63,
yM 65 10 64,
og (some 66) (.nilck (tt 65)) 64 false [],
yF 67 7 66 64,
yL 68 67 64,
yM 69 1 64,
yM 70 2 64,
og (some 71) (.bin .add (tt 70) (nn 1)) 64 false [],
yM 72 3 64,
og (some 73) (.call 5300 0 [tt 68, tt 69, tt 71, tt 72]) 64 false [],
og (some 74) (.un .not (tt 73)) 64 false [],
zq 75 64 74]
 (yw 75 (yr [yo 8 false]
 .ret) .skip)))))))
 (rr [zb 76 .add 24 1,
zm 24 76])))) }
def p5400 : ProcT := pF [0, 1] [] [.tmp 4] (yr [yo 4 false]
 (yr [oo 5 (.alloc 100 [.int .i64 0]),
on (.store 1 (tt 5) (nn 0)) []]
 (yr [zm 6 0,
zm 7 1,
oo 8 (.call 5300 0 [tt 6, tt 7, nn 0, tt 5]),
zm 4 8]
 .ret)))
def p5700 : ProcT := pF [0, 1] [] [.tmp 4] (yr [oo 2 (.box 100 (tt 0)),
yo 4 false]
 (.seq (yr [zm 5 1]
 (yw 5 (yr [zf 6 1 2,
zl 7 6,
oo 8 (.call 1600 0 [tt 7, nn 0, nn 3]),
zm 4 8]
 .ret) .skip))
 (yr [zf 9 1 2,
zl 10 9,
zb 11 .eql 10 0,
zm 4 11]
 .ret)))
def p5800 : ProcT := pF [0, 1] [] [.tmp 4] (yr [oo 2 (.box 100 (tt 0)),
yo 4 false]
 (.seq (yr [zm 5 1]
 (yw 5 (yr [zf 6 2 2,
zl 7 6,
oo 8 (.call 1600 0 [tt 7, nn 0, nn 2]),
zm 4 8]
 .ret) .skip))
 (yr [zf 9 2 2,
zl 10 9,
zb 11 .eql 10 0,
zm 4 11]
 .ret)))
def p5900 : ProcT := pF [0] [] [.tmp 2] (yr [oo 1 (.box 100 (tt 0)),
yo 2 false]
 (yr [zf 3 0 1,
zl 4 3,
zb 5 .eql 4 0,
zm 6 5,
zF 7 1 1 6,
zL 8 7 6,
zn 9 .eql 8 0 6,
zp 10 6 9,
zm 11 10,
zF 12 2 1 11,
zL 13 12 11,
zG 14 (.len (tt 13)) 11,
zn 15 .eql 14 0 11,
zp 16 11 15,
zm 2 16]
 .ret))
def p6000 : ProcT := pF [0] [] [.tmp 2] (yr [oo 1 (.box 100 (tt 0)),
yo 2 false]
 (.seq (yr [zf 3 6 1,
zl 4 3,
zc 5 4,
zb 6 .gtr 5 0,
zm 7 6,
yF 8 7 1 7,
yL 9 8 7,
og (some 10) (.len (tt 9)) 7 false [],
og (some 11) (.bin .gtr (tt 10) (nn 0)) 7 false [],
zq 12 7 11]
 (yw 12 (yr [yo 2 false]
 .ret) .skip))
 (.seq (yr [zf 13 0 1,
zl 14 13]
 (.block 0 (yr [zb 16 .eql 14 1,
zm 15 16]
 (yw 15 (yr [yl 17 8 1,
oo 18 (.call 5700 0 [tt 17, .const (.bool true)]),
zm 19 18,
zG 20 (.load 8 true false (tt 1)) 19,
zG 21 (.call 5800 0 [tt 20, .const (.bool false)]) 19,
zp 22 19 21,
zm 23 22,
zF 24 3 1 23,
zG 25 (.load 3 true false (tt 24)) 23,
zG 26 (.call 1900 0 [tt 25]) 23,
zp 27 23 26,
zm 2 27]
 .ret) (yr [zb 29 .eql 14 4,
zm 28 29]
 (yw 28 (yr [yl 30 8 1,
oo 31 (.call 5700 0 [tt 30, .const (.bool false)]),
zm 32 31,
zG 33 (.load 8 true false (tt 1)) 32,
zG 34 (.call 5800 0 [tt 33, .const (.bool true)]) 32,
zp 35 32 34,
zm 36 35,
zF 37 3 1 36,
zG 38 (.load 3 true false (tt 37)) 36,
zG 39 (.call 1900 0 [tt 38]) 36,
zp 40 36 39,
zm 2 40]
 .ret) (yr [zb 42 .eql 14 5,
zm 41 42]
 (yw 41 (yr [yl 43 8 1,
oo 44 (.call 5700 0 [tt 43, .const (.bool true)]),
zm 45 44,
zG 46 (.load 8 true false (tt 1)) 45,
zG 47 (.call 5800 0 [tt 46, .const (.bool true)]) 45,
zp 48 45 47,
zm 49 48,
zF 50 3 1 49,
zG 51 (.load 3 true false (tt 50)) 49,
zG 52 (.call 5900 0 [tt 51]) 49,
zp 53 49 52,
zm 2 53]
 .ret) (yr [zb 55 .eql 14 6,
zm 54 55]
 (yw 54 (yr [yl 56 8 1,
oo 57 (.call 5700 0 [tt 56, .const (.bool false)]),
zm 58 57,
zG 59 (.load 8 true false (tt 1)) 58,
zG 60 (.call 5800 0 [tt 59, .const (.bool false)]) 58,
zp 61 58 60,
zm 62 61,
zF 63 3 1 62,
zG 64 (.load 3 true false (tt 63)) 62,
zG 65 (.call 5900 0 [tt 64]) 62,
zp 66 62 65,
zm 2 66]
 .ret) (yr [zb 68 .eql 14 7,
zm 67 68]
 (yw 67 (yr [yl 69 8 1,
oo 70 (.call 5700 0 [tt 69, .const (.bool false)]),
zm 71 70,
zG 72 (.load 8 true false (tt 1)) 71,
zG 73 (.call 5800 0 [tt 72, .const (.bool false)]) 71,
zp 74 71 73,
zm 75 74,
zF 76 3 1 75,
zG 77 (.load 3 true false (tt 76)) 75,
zG 78 (.call 1900 0 [tt 77]) 75,
zp 79 75 78,
zm 2 79]
 .ret) .skip))))))))))))
 (yr [yo 2 false]
 .ret))))
def p6100 : ProcT := pF [0, 1] [] [.tmp 4] (yr [oo 2 (.box 100 (tt 0)),
yo 4 false]
 (.seq (yr [zf 5 0 2,
zl 6 5,
zb 7 .neq 6 2,
zm 8 7,
zF 9 0 2 8,
zL 10 9 8,
zn 11 .neq 10 3 8,
zp 12 8 11]
 (yw 12 (yr [yl 13 8 2,
ya 14 6000 0 13,
zm 4 14]
 .ret) .skip))
 (.seq (yr [zm 15 1,
zb 16 .lss 15 1,
zm 17 16,
yF 18 0 2 17,
yL 19 18 17,
og (some 20) (.bin .eql (tt 19) (nn 3)) 17 false [],
yM 21 20 17,
zF 22 7 2 21,
zL 23 22 21,
zG 24 (.len (tt 23)) 21,
zn 25 .gtr 24 0 21,
og (some 26) (.pick (tt 21) (tt 25) (.const (.bool false))) 17 false [],
zq 27 17 26]
 (yw 27 (yr [yo 4 false]
 .ret) .skip))
 (yr [yl 28 8 2,
oo 29 (.call 5700 0 [tt 28, .const (.bool false)]),
zm 30 29,
zG 31 (.load 8 true false (tt 2)) 30,
zG 32 (.call 5800 0 [tt 31, .const (.bool false)]) 30,
zp 33 30 32,
zm 34 33,
zF 35 3 2 34,
zG 36 (.load 3 true false (tt 35)) 34,
zG 37 (.call 1900 0 [tt 36]) 34,
zp 38 34 37,
zm 39 38,
zF 40 6 2 39,
zL 41 40 39,
zM 42 1 39,
zn 43 .sub 42 1 39,
zG 44 (.call 6200 0 [tt 41, tt 43]) 39,
zp 45 39 44,
zm 46 45,
zF 47 7 2 46,
zL 48 47 46,
zM 49 1 46,
zn 50 .sub 49 1 46,
zG 51 (.call 6200 0 [tt 48, tt 50]) 46,
zp 52 46 51,
zm 4 52]
 .ret))))
def p6200 : ProcT := pF [0, 1] [] [.tmp 4] (yr [yo 4 false]
 (.seq (yr [yn 5 0]
 (.block 0 (.label 6201)))
 (yr [yo 4 true]
 .ret)))
def p6201 : ProcT := { kind := .loop, ins := [0, 1, 5], bins := [], outs := [4], bouts := [], code := (.seq (yr [zm 6 5,
zm 7 0,
zc 8 7,
zt 9 .lss 6 8]
 (yw 9 .skip (.exit 0)))
 (.seq (.block 1 (yr [zm 12 0,
zm 13 5,
yi 14 8 12 13,
yl 15 8 14,
zm 16 1,
yb 17 6100 0 15 16,
oo 18 (.un .not (tt 17))]
 (yw 18 (yr [yo 4 false]
 .ret) .skip)))
 (rr [zm 10 5,
zb 11 .add 10 1,
zm 5 11]))) }
def p6300 : ProcT := pF [0] [] [.tmp 2] (yr [yo 2 false]
 (yr [zm 3 0,
oo 4 (.call 6200 0 [tt 3, nn 3]),
zm 5 4,
zM 6 0 5,
zG 7 (.call 4000 0 [tt 6]) 5,
zn 8 .leq 7 16 5,
zp 9 5 8,
zm 2 9]
 .ret))
def p8000 : ProcT := pF [0, 1] [] [.tmp 4] (yr [yo 4 false]
 (.seq (yr [zm 6 0,
zc 7 6,
zm 8 1,
zc 9 8,
zt 10 .neq 7 9]
 (yw 10 (yr [yo 4 false]
 .ret) .skip))
 (.seq (yr [yn 5 0]
 (.block 0 (.label 8001)))
 (yr [yo 4 true]
 .ret))))
def p8001 : ProcT := { kind := .loop, ins := [0, 1, 5], bins := [], outs := [4], bouts := [], code := (.seq (yr [zm 11 5,
zm 12 0,
zc 13 12,
zt 14 .lss 11 13]
 (yw 14 .skip (.exit 0)))
 (.seq (.block 1 (.seq (.region true [zm 17 0,
zm 18 5,
yi 19 3 17 18,
yl 20 3 19,
zm 21 1,
zm 22 5,
yi 23 3 21 22,
yl 24 3 23,
yb 25 8100 0 20 24,
oo 26 (.un .not (tt 25))])
 (yw 26 (yr [yo 4 false]
 .ret) .skip)))
 (rr [zm 15 5,
zb 16 .add 15 1,
zm 5 16]))) }
def p8100 : ProcT := pF [0, 1] [] [.tmp 4] (yr [oo 2 (.box 100 (tt 0)),
oo 3 (.box 101 (tt 1)),
yo 4 false]
 (.seq (yr [zf 5 0 2,
zl 6 5,
zf 7 0 3,
zl 8 7,
zt 9 .neq 6 8]
 (yw 9 (yr [yo 4 false]
 .ret) .skip))
 (.seq (yr [zf 10 1 2,
zl 11 10,
zf 12 1 3,
zl 13 12,
zt 14 .neq 11 13]
 (yw 14 (yr [yo 4 false]
 .ret) .skip))
 (.seq (yr [zf 15 2 2,
zl 16 15,
zf 17 2 3,
zl 18 17,
yb 19 8000 0 16 18,
oo 20 (.un .not (tt 19))]
 (yw 20 (yr [yo 4 false]
 .ret) .skip))
 (yr [yo 4 true]
 .ret)))))
def p8200 : ProcT := pF [0, 1] [] [.tmp 4] (yr [oo 2 (.box 100 (tt 0)),
oo 3 (.box 101 (tt 1)),
yo 4 false]
 (.seq (yr [zf 5 0 2,
zl 6 5,
zf 7 0 3,
zl 8 7,
zt 9 .neq 6 8]
 (yw 9 (yr [yo 4 false]
 .ret) .skip))
 (.seq (yr [zf 10 1 2,
zl 11 10,
zf 12 1 3,
zl 13 12,
zt 14 .neq 11 13]
 (yw 14 (yr [yo 4 false]
 .ret) .skip))
 (.seq (yr [zf 15 2 2,
zl 16 15,
zf 17 2 3,
zl 18 17,
zt 19 .neq 16 18]
 (yw 19 (yr [yo 4 false]
 .ret) .skip))
 (.seq (yr [zf 20 3 2,
yl 21 3 20,
zf 22 3 3,
yl 23 3 22,
yb 24 8100 0 21 23,
oo 25 (.un .not (tt 24))]
 (yw 25 (yr [yo 4 false]
 .ret) .skip))
 (.seq (yr [zf 26 6 2,
zl 27 26,
zf 28 6 3,
zl 29 28,
yb 30 8300 0 27 29,
oo 31 (.un .not (tt 30))]
 (yw 31 (yr [yo 4 false]
 .ret) .skip))
 (.seq (yr [zf 32 7 2,
zl 33 32,
zf 34 7 3,
zl 35 34,
yb 36 8300 0 33 35,
oo 37 (.un .not (tt 36))]
 (yw 37 (yr [yo 4 false]
 .ret) .skip))
 (yr [yo 4 true]
 .ret))))))))
def p8300 : ProcT := pF [0, 1] [] [.tmp 4] (yr [yo 4 false]
 (.seq (yr [zm 6 0,
zc 7 6,
zm 8 1,
zc 9 8,
zt 10 .neq 7 9]
 (yw 10 (yr [yo 4 false]
 .ret) .skip))
 (.seq (yr [yn 5 0]
 (.block 0 (.label 8301)))
 (yr [yo 4 true]
 .ret))))
def p8301 : ProcT := { kind := .loop, ins := [0, 1, 5], bins := [], outs := [4], bouts := [], code := (.seq (yr [zm 11 5,
zm 12 0,
zc 13 12,
zt 14 .lss 11 13]
 (yw 14 .skip (.exit 0)))
 (.seq (.block 1 (.seq (.region true [zm 17 0,
zm 18 5,
yi 19 8 17 18,
yl 20 8 19,
zm 21 1,
zm 22 5,
yi 23 8 21 22,
yl 24 8 23,
yb 25 8200 0 20 24,
oo 26 (.un .not (tt 25))])
 (yw 26 (yr [yo 4 false]
 .ret) .skip)))
 (rr [zm 15 5,
zb 16 .add 15 1,
zm 5 16]))) }
def p8400 : ProcT := pF [0, 1] [] [.tmp 4] (yr [yo 4 false]
 (.seq (yr [zm 6 0,
zc 7 6,
zm 8 1,
zc 9 8,
zt 10 .neq 7 9]
 (yw 10 (yr [yo 4 false]
 .ret) .skip))
 (.seq (yr [yn 5 0]
 (.block 0 (.label 8401)))
 (yr [yo 4 true]
 .ret))))
def p8401 : ProcT := { kind := .loop, ins := [0, 1, 5], bins := [], outs := [4], bouts := [], code := (.seq (yr [zm 11 5,
zm 12 0,
zc 13 12,
zt 14 .lss 11 13]
 (yw 14 .skip (.exit 0)))
 (.seq (.block 1 (.seq (.region true [zm 17 0,
zm 18 5,
yi 19 1 17 18,
zl 20 19,
zm 21 1,
zm 22 5,
yi 23 1 21 22,
zl 24 23,
zt 25 .neq 20 24])
 (yw 25 (yr [yo 4 false]
 .ret) .skip)))
 (rr [zm 15 5,
zb 16 .add 15 1,
zm 5 16]))) }
def p10600 : ProcT := pF [0, 1] [] [.tmp 4] (yr [yn 4 0]
 (.seq (yr [yn 5 0]
 (.block 0 (.label 10601)))
 (yr [zm 20 1,
zm 4 20]
 .ret)))
def p10601 : ProcT := { kind := .loop, ins := [0, 1, 5], bins := [], outs := [1, 4], bouts := [], code := (.seq (yr [zm 6 5,
zm 7 0,
zc 8 7,
zt 9 .lss 6 8]
 (yw 9 .skip (.exit 0)))
 (.seq (.block 1 (.seq (yr [zm 12 0,
zm 13 5,
yi 14 1 12 13,
zl 15 14,
zm 16 1,
zt 17 .neq 15 16]
 (yw 17 (yr [oo 4 (.mv (nn (-1)))]
 .ret) .skip))
 (rr [zm 18 1,
zb 19 .add 18 1,
zm 1 19])))
 (rr [zm 10 5,
zb 11 .add 10 1,
zm 5 11]))) }
def p10700 : ProcT := pF [0, 1] [] [.tmp 4] (yr [yn 4 0]
 (.seq (yr [yn 5 0]
 (.block 0 (.label 10701)))
 (yr [zm 39 1,
zm 4 39]
 .ret)))
def p10701 : ProcT := { kind := .loop, ins := [0, 1, 5], bins := [], outs := [1, 4], bouts := [], code := (.seq (yr [zm 6 5,
zm 7 0,
zc 8 7,
zt 9 .lss 6 8]
 (yw 9 .skip (.exit 0)))
 (.seq (.block 1 (.seq (yr [zm 12 0,
zm 13 5,
yi 14 3 12 13,
zf 15 0 14,
zl 16 15,
zm 17 1,
zt 18 .neq 16 17]
 (yw 18 (yr [oo 4 (.mv (nn (-1)))]
 .ret) .skip))
 (yr [zm 19 1,
zb 20 .add 19 1,
zm 1 20]
 (.seq (yr [zm 21 0,
zm 22 5,
yi 23 3 21 22,
zf 24 1 23,
zl 25 24,
zm 26 1,
zt 27 .neq 25 26]
 (yw 27 (yr [oo 4 (.mv (nn (-1)))]
 .ret) .skip))
 (yr [zm 28 1,
zb 29 .add 28 1,
zm 1 29]
 (yr [zm 30 0,
zm 31 5,
yi 32 3 30 31,
zf 33 2 32,
zl 34 33,
zm 35 1,
yb 36 10700 0 34 35,
zm 1 36]
 (yr [zm 37 1,
zb 38 .lss 37 0]
 (yw 38 (yr [oo 4 (.mv (nn (-1)))]
 .ret) .skip))))))))
 (rr [zm 10 5,
zb 11 .add 10 1,
zm 5 11]))) }
def p10800 : ProcT := pF [0, 1] [] [.tmp 4] (yr [yn 4 0]
 (.seq (yr [yn 5 0]
 (.block 0 (.label 10801)))
 (yr [zm 87 1,
zm 4 87]
 .ret)))
def p10801 : ProcT := { kind := .loop, ins := [0, 1, 5], bins := [], outs := [1, 4], bouts := [], code := (.seq (yr [zm 6 5,
zm 7 0,
zc 8 7,
zt 9 .lss 6 8]
 (yw 9 .skip (.exit 0)))
 (.seq (.block 1 (.seq (yr [zm 12 0,
zm 13 5,
yi 14 8 12 13,
zf 15 0 14,
zl 16 15,
zm 17 1,
zt 18 .neq 16 17]
 (yw 18 (yr [oo 4 (.mv (nn (-1)))]
 .ret) .skip))
 (yr [zm 19 1,
zb 20 .add 19 1,
zm 1 20]
 (.seq (yr [zm 21 0,
zm 22 5,
yi 23 8 21 22,
zf 24 1 23,
zl 25 24,
zm 26 1,
zt 27 .neq 25 26]
 (yw 27 (yr [oo 4 (.mv (nn (-1)))]
 .ret) .skip))
 (yr [zm 28 1,
zb 29 .add 28 1,
zm 1 29]
 (.seq (yr [zm 30 0,
zm 31 5,
yi 32 8 30 31,
zf 33 2 32,
zl 34 33,
zm 35 1,
zt 36 .neq 34 35]
 (yw 36 (yr [oo 4 (.mv (nn (-1)))]
 .ret) .skip))
 (yr [zm 37 1,
zb 38 .add 37 1,
zm 1 38]
 (.seq (yr [zm 39 0,
zm 40 5,
yi 41 8 39 40,
zf 42 3 41,
zf 43 0 42,
zl 44 43,
zm 45 1,
zt 46 .neq 44 45]
 (yw 46 (yr [oo 4 (.mv (nn (-1)))]
 .ret) .skip))
 (yr [zm 47 1,
zb 48 .add 47 1,
zm 1 48]
 (.seq (yr [zm 49 0,
zm 50 5,
yi 51 8 49 50,
zf 52 3 51,
zf 53 1 52,
zl 54 53,
zm 55 1,
zt 56 .neq 54 55]
 (yw 56 (yr [oo 4 (.mv (nn (-1)))]
 .ret) .skip))
 (yr [zm 57 1,
zb 58 .add 57 1,
zm 1 58]
 (yr [zm 59 0,
zm 60 5,
yi 61 8 59 60,
zf 62 3 61,
zf 63 2 62,
zl 64 63,
zm 65 1,
yb 66 10700 0 64 65,
zm 1 66]
 (.seq (yr [zm 67 1,
zb 68 .lss 67 0]
 (yw 68 (yr [oo 4 (.mv (nn (-1)))]
 .ret) .skip))
 (yr [zm 69 0,
zm 70 5,
yi 71 8 69 70,
zf 72 6 71,
zl 73 72,
zm 74 1,
yb 75 10800 0 73 74,
zm 1 75]
 (.seq (yr [zm 76 1,
zb 77 .lss 76 0]
 (yw 77 (yr [oo 4 (.mv (nn (-1)))]
 .ret) .skip))
 (yr [zm 78 0,
zm 79 5,
yi 80 8 78 79,
zf 81 7 80,
zl 82 81,
zm 83 1,
yb 84 10800 0 82 83,
zm 1 84]
 (yr [zm 85 1,
zb 86 .lss 85 0]
 (yw 86 (yr [oo 4 (.mv (nn (-1)))]
 .ret) .skip))))))))))))))))))
 (rr [zm 10 5,
zb 11 .add 10 1,
zm 5 11]))) }
def p11100 : ProcT := pF [0, 1, 2] [] [.tmp 6] (yr [yo 6 false]
 (yr [zm 7 0,
zb 8 .eql 7 0,
zm 9 8,
yM 10 2 9,
yM 11 10 9,
zM 12 0 11,
zn 13 .gtr 12 0 11,
og (some 14) (.pick (tt 11) (tt 13) (.const (.bool false))) 9 false [],
yM 15 14 9,
zM 16 0 15,
zM 17 1 15,
zg 18 .lss 16 17 15,
og (some 19) (.pick (tt 15) (tt 18) (.const (.bool false))) 9 false [],
zq 20 9 19,
zm 6 20]
 .ret))
def p20700 : ProcT := pF [0] [] [.tmp 2] (yr [oo 2 (.mv (.const (.str [])))]
 (.seq (yr [zm 3 0,
ya 4 1700 0 3,
oo 5 (.un .not (tt 4))]
 (yw 5 (yr [oo 2 (.mv (.const (.str [])))]
 .ret) .skip))
 (yr [oo 6 (.buildS .full .str [.const (.str [124]), .const (.str [94]), .const (.str [38]), .const (.str ([61, 61])), .const (.str [60]), .const (.str ([60, 60])), .const (.str ([62, 62])), .const (.str [43]), .const (.str [45]), .const (.str [42]), .const (.str [47]), .const (.str [37])]),
zm 7 0,
zb 8 .sub 7 1,
yi 9 1 6 8,
zl 10 9,
zm 2 10]
 .ret)))
def p22700 : ProcT := pF [0] [] [.tmp 2] (yr [yo 2 false]
 (.seq (yr [zm 5 0,
zc 6 5,
yn 7 0]
 (.block 0 (.label 22701)))
 (yr [zm 18 0,
zc 19 18,
zb 20 .leq 19 3,
zm 2 20]
 .ret)))
def p22701 : ProcT := { kind := .loop, ins := [0, 5, 6, 7], bins := [], outs := [0, 2], bouts := [], code := (yr [zt 8 .lss 7 6]
 (.seq (yw 8 .skip (.exit 0))
 (.seq (.block 1 (yr [yi 9 1 5 7,
zl 10 9,
zm 4 10]
 (yr [zm 11 4,
zb 12 .lss 11 1,
zm 13 12,
yM 14 4 13,
og (some 15) (.bin .gtr (tt 14) (nn 4)) 13 false [],
zq 16 13 15]
 (yw 16 (yr [yo 2 false]
 .ret) .skip))))
 (rr [zb 17 .add 7 1,
zm 7 17])))) }
def p22800 : ProcT := pF [0] [] [.tmp 2] (yr [oo 1 (.box 100 (tt 0)),
yo 2 false]
 (.seq (yr [zf 5 0 1,
zl 6 5,
ya 7 22700 0 6,
oo 8 (.un .not (tt 7)),
zm 9 8,
yF 10 1 1 9,
yL 11 10 9,
og (some 12) (.len (tt 11)) 9 false [],
og (some 13) (.bin .lss (tt 12) (nn 1)) 9 false [],
zq 14 9 13,
zm 15 14,
yF 16 1 1 15,
yL 17 16 15,
og (some 18) (.len (tt 17)) 15 false [],
og (some 19) (.bin .gtr (tt 18) (nn 3)) 15 false [],
zq 20 15 19]
 (yw 20 (yr [yo 2 false]
 .ret) .skip))
 (.seq (yr [zf 21 1 1,
zl 22 21,
zc 23 22,
yn 24 0]
 (.block 0 (.label 22801)))
 (yr [yo 2 true]
 .ret))))
def p22801 : ProcT := { kind := .loop, ins := [1, 22, 23, 24], bins := [100], outs := [2], bouts := [], code := (yr [zt 25 .lss 24 23]
 (.seq (yw 25 .skip (.exit 0))
 (.seq (.block 1 (yr [yi 26 1 22 24,
zl 27 26,
yt 4 27]
 (yr [zm 28 4,
zf 29 0 1,
zl 30 29,
zc 31 30,
yb 32 5400 0 28 31,
oo 33 (.un .not (tt 32))]
 (yw 33 (yr [yo 2 false]
 .ret) .skip))))
 (rr [zb 34 .add 24 1,
zm 24 34])))) }
def p23100 : ProcT := pF [0, 1] [] [.tmp 4] (yr [yo 4 false]
 (.seq (yr [yn 5 0]
 (.block 0 (.label 23101)))
 (yr [yo 4 true]
 .ret)))
def p23101 : ProcT := { kind := .loop, ins := [0, 1, 5], bins := [], outs := [4], bouts := [], code := (.seq (yr [zm 7 5,
zm 8 0,
zc 9 8,
zt 10 .lss 7 9]
 (yw 10 .skip (.exit 0)))
 (.seq (.block 1 (yr [zm 13 0,
zm 14 5,
yi 15 8 13 14,
yl 16 8 15,
oo 6 (.alloc 100 [.int .i64 0, .int .i64 0, .int .i64 0, .int .i64 0, .int .i64 0, .sl (.own false) .exp [], .sl (.own false) .stm [], .sl (.own false) .stm []]),
ys 8 6 16 []]
 (.seq (yr [zf 17 0 6,
zl 18 17,
zb 19 .eql 18 4,
zm 20 19,
yF 21 0 6 20,
yL 22 21 20,
og (some 23) (.bin .eql (tt 22) (nn 5)) 20 false [],
zq 24 20 23,
zm 25 24,
zF 26 2 6 25,
zL 27 26 25,
zM 28 1 25,
zg 29 .geq 27 28 25,
zp 30 25 29]
 (yw 30 (yr [yo 4 false]
 .ret) .skip))
 (yr [zf 31 6 6,
zl 32 31,
zm 33 1,
yb 34 23100 0 32 33,
oo 35 (.un .not (tt 34)),
zm 36 35,
yF 37 7 6 36,
yL 38 37 36,
yM 39 1 36,
og (some 40) (.call 23100 0 [tt 38, tt 39]) 36 false [],
og (some 41) (.un .not (tt 40)) 36 false [],
zq 42 36 41]
 (yw 42 (yr [yo 4 false]
 .ret) .skip)))))
 (rr [zm 11 5,
zb 12 .add 11 1,
zm 5 12]))) }
def p23200 : ProcT := pF [0] [] [.tmp 2] (yr [yo 2 false]
 (.seq (yr [yn 3 0]
 (.block 0 (.label 23201)))
 (yr [zm 16 0,
zc 17 16,
zb 18 .leq 17 3,
zm 2 18]
 .ret)))
def p23201 : ProcT := { kind := .loop, ins := [0, 3], bins := [], outs := [0, 2], bouts := [], code := (.seq (yr [zm 4 3,
zm 5 0,
zc 6 5,
zt 7 .lss 4 6]
 (yw 7 .skip (.exit 0)))
 (.seq (.block 1 (yr [zm 10 0,
zm 11 3,
yi 12 1 10 11,
zl 13 12,
oo 14 (.call 1600 0 [tt 13, nn 1, nn 4]),
oo 15 (.un .not (tt 14))]
 (yw 15 (yr [yo 2 false]
 .ret) .skip)))
 (rr [zm 8 3,
zb 9 .add 8 1,
zm 3 9]))) }
def p23300 : ProcT := pF [0] [] [.tmp 2] (yr [oo 1 (.box 100 (tt 0)),
yo 2 false]
 (.seq (yr [zf 4 0 1,
zl 5 4,
ya 6 23200 0 5,
oo 7 (.un .not (tt 6)),
zm 8 7,
yF 9 1 1 8,
yL 10 9 8,
og (some 11) (.len (tt 10)) 8 false [],
og (some 12) (.call 1600 0 [tt 11, nn 1, nn 3]) 8 false [],
og (some 13) (.un .not (tt 12)) 8 false [],
zq 14 8 13]
 (yw 14 (yr [yo 2 false]
 .ret) .skip))
 (.seq (yr [yn 3 0]
 (.block 0 (.label 23301)))
 (yr [yo 2 true]
 .ret))))
def p23301 : ProcT := { kind := .loop, ins := [1, 3], bins := [100], outs := [2], bouts := [], code := (.seq (yr [zm 15 3,
zf 16 1 1,
zl 17 16,
zc 18 17,
zt 19 .lss 15 18]
 (yw 19 .skip (.exit 0)))
 (.seq (.block 1 (.seq (.region true [yf 22 1 1 [100],
yd 23 22 [100],
zm 24 3,
yi 25 1 23 24,
zl 26 25,
ya 27 6300 0 26,
oo 28 (.un .not (tt 27)),
zm 29 28,
og (some 30) (.fadr 1 (tt 1)) 29 false [100],
og (some 31) (.load 1 false false (tt 30)) 29 false [100],
yM 32 3 29,
og (some 33) (.iadr 1 (tt 31) (tt 32)) 29 false [],
yL 34 33 29,
og (some 35) (.fadr 0 (tt 1)) 29 false [100],
og (some 36) (.load 1 false false (tt 35)) 29 false [100],
og (some 37) (.len (tt 36)) 29 false [],
og (some 38) (.call 23100 0 [tt 34, tt 37]) 29 false [],
og (some 39) (.un .not (tt 38)) 29 false [],
zq 40 29 39])
 (yw 40 (yr [yo 2 false]
 .ret) .skip)))
 (rr [zm 20 3,
zb 21 .add 20 1,
zm 3 21]))) }
def p28800 : ProcT := pF [0, 1] [] [.tmp 4] (yr [yo 4 false]
 (.seq (yr [zm 6 0,
zc 7 6,
zm 8 1,
zc 9 8,
zt 10 .neq 7 9]
 (yw 10 (yr [yo 4 false]
 .ret) .skip))
 (.seq (yr [yn 5 0]
 (.block 0 (.label 28801)))
 (yr [yo 4 true]
 .ret))))
def p28801 : ProcT := { kind := .loop, ins := [0, 1, 5], bins := [], outs := [4], bouts := [], code := (.seq (yr [zm 11 5,
zm 12 0,
zc 13 12,
zt 14 .lss 11 13]
 (yw 14 .skip (.exit 0)))
 (.seq (.block 1 (.seq (.region true [zm 17 0,
zm 18 5,
yi 19 1 17 18,
zl 20 19,
zm 21 1,
zm 22 5,
yi 23 1 21 22,
zl 24 23,
yb 25 8300 0 20 24,
oo 26 (.un .not (tt 25))])
 (yw 26 (yr [yo 4 false]
 .ret) .skip)))
 (rr [zm 15 5,
zb 16 .add 15 1,
zm 5 16]))) }
def p28900 : ProcT := pF [0, 1] [] [.tmp 4] (yr [oo 2 (.box 100 (tt 0)),
oo 3 (.box 101 (tt 1)),
yo 4 false]
 (.seq (yr [zf 5 0 2,
zl 6 5,
zf 7 0 3,
zl 8 7,
yb 9 8400 0 6 8,
oo 10 (.un .not (tt 9))]
 (yw 10 (yr [yo 4 false]
 .ret) .skip))
 (.seq (yr [zf 11 1 2,
zl 12 11,
zf 13 1 3,
zl 14 13,
yb 15 28800 0 12 14,
oo 16 (.un .not (tt 15))]
 (yw 16 (yr [yo 4 false]
 .ret) .skip))
 (yr [yo 4 true]
 .ret))))
def p31800 : ProcT := pF [0] [] [.tmp 2] (yr [yn 2 0]
 (.seq (.block 0 (yr [zm 6 0,
oo 7 (.bin .geq (tt 6) (.const (.int .u8 48))),
zm 8 7,
zM 9 0 8,
zG 10 (.bin .leq (tt 9) (.const (.int .u8 57))) 8,
zp 11 8 10,
zm 5 11]
 (yw 5 (yr [yn 2 1]
 .ret) (yr [zm 13 0,
oo 14 (.bin .geq (tt 13) (.const (.int .u8 97))),
zm 15 14,
zM 16 0 15,
zG 17 (.bin .leq (tt 16) (.const (.int .u8 122))) 15,
zp 18 15 17,
zm 12 18]
 (yw 12 (yr [yn 2 2]
 .ret) (yr [zm 20 0,
oo 21 (.bin .eql (tt 20) (.const (.int .u8 32))),
zm 22 21,
yM 23 0 22,
og (some 24) (.bin .eql (tt 23) (.const (.int .u8 10))) 22 false [],
zq 25 22 24,
zm 19 25]
 (yw 19 (yr [yn 2 3]
 .ret) .skip)))))))
 (yr [oo 3 (.mv (.const (.str ([43, 45, 42, 47, 37, 38, 124, 94, 60, 62, 40, 41, 123, 125, 61, 59]))))]
 (.seq (yr [yn 4 0]
 (.block 1 (.label 31801)))
 (yr [yn 2 0]
 .ret)))))
def p31801 : ProcT := { kind := .loop, ins := [0, 3, 4], bins := [], outs := [2], bouts := [], code := (.seq (yr [zm 26 4,
zm 27 3,
oo 28 (.lenS (tt 27)),
zt 29 .lss 26 28]
 (yw 29 .skip (.exit 1)))
 (.seq (.block 2 (yr [zm 32 3,
zm 33 4,
oo 34 (.idxS (tt 32) (tt 33)),
zm 35 0,
zt 36 .eql 34 35]
 (yw 36 (yr [yn 2 4]
 .ret) .skip)))
 (rr [zm 30 4,
zb 31 .add 30 1,
zm 4 31]))) }
def p31900 : ProcT := pF [0, 1] [] [.tmp 4] (yr [yn 4 0]
 (yr [zm 6 1,
zm 5 6]
 (.seq (.block 0 (.label 31901))
 (yr [zm 24 5,
zm 4 24]
 .ret))))
def p31901 : ProcT := { kind := .loop, ins := [0, 1, 5], bins := [], outs := [4, 5], bouts := [], code := (.seq (.seq (.region true [zm 7 5,
zm 8 0,
oo 9 (.lenS (tt 8)),
zt 10 .lss 7 9,
zm 11 10,
zM 12 0 11,
zM 13 5 11,
zG 14 (.idxS (tt 12) (tt 13)) 11,
zG 15 (.call 31800 0 [tt 14]) 11,
zM 16 0 11,
zM 17 1 11,
zG 18 (.idxS (tt 16) (tt 17)) 11,
zG 19 (.call 31800 0 [tt 18]) 11,
zg 20 .eql 15 19 11,
zp 21 11 20])
 (yw 21 .skip (.exit 0)))
 (.block 1 (rr [zm 22 5,
zb 23 .add 22 1,
zm 5 23]))) }
def p32000 : ProcT := pF [0] [] [.tmp 2] (yr [yo 2 false]
 (yr [zm 3 0,
oo 4 (.bin .eql (tt 3) (.const (.str ([60, 60])))),
zm 5 4,
yM 6 0 5,
og (some 7) (.bin .eql (tt 6) (.const (.str ([62, 62])))) 5 false [],
zq 8 5 7,
zm 9 8,
yM 10 0 9,
og (some 11) (.bin .eql (tt 10) (.const (.str ([61, 61])))) 9 false [],
zq 12 9 11,
zm 2 12]
 .ret))
def p32100 : ProcT := pF [0, 1] [] [.tmp 4] (yr [yn 4 0]
 (yr [zm 6 0,
zm 7 1,
oo 8 (.idxS (tt 6) (tt 7)),
ya 9 31800 0 8,
zm 5 9]
 (.seq (yr [zm 10 5,
zb 11 .eql 10 1,
zm 12 11,
yM 13 5 12,
og (some 14) (.bin .eql (tt 13) (nn 2)) 12 false [],
zq 15 12 14]
 (yw 15 (yr [zm 16 0,
zm 17 1,
yb 18 31900 0 16 17,
zm 4 18]
 .ret) .skip))
 (.seq (yr [zm 19 5,
zb 20 .neq 19 4]
 (yw 20 (yr [oo 4 (.mv (nn (-1)))]
 .ret) .skip))
 (.seq (yr [zm 21 1,
zb 22 .add 21 2,
zm 23 0,
oo 24 (.lenS (tt 23)),
zt 25 .leq 22 24,
zm 26 25,
zM 27 0 26,
zM 28 1 26,
zM 29 1 26,
zn 30 .add 29 2 26,
zG 31 (.slcS (tt 27) (some (tt 28)) (some (tt 30))) 26,
zG 32 (.call 32000 0 [tt 31]) 26,
zp 33 26 32]
 (yw 33 (yr [zm 34 1,
zb 35 .add 34 2,
zm 4 35]
 .ret) .skip))
 (.seq (yr [zm 36 0,
zm 37 1,
oo 38 (.idxS (tt 36) (tt 37)),
oo 39 (.bin .eql (tt 38) (.const (.int .u8 62)))]
 (yw 39 (yr [oo 4 (.mv (nn (-1)))]
 .ret) .skip))
 (yr [zm 40 1,
zb 41 .add 40 1,
zm 4 41]
 .ret)))))))
def p32200 : ProcT := pF [0] [] [.tmp 2, .tmp 3] (yr [oo 2 (.mv (.const (.sl (.own false) .str []))),
yo 3 false]
 (yr [oo 7 (.buildS (.own true) .str []),
yt 4 7]
 (.seq (yr [zm 8 0,
oo 9 (.lenS (tt 8)),
zb 10 .gtr 9 20000]
 (yw 10 (yr [zm 11 4,
yt 2 11,
yo 3 false]
 .ret) .skip))
 (yr [yn 5 0]
 (.seq (.block 0 (.label 32201))
 (yr [zm 37 4,
yt 2 37,
yo 3 true]
 .ret))))))
def p32201 : ProcT := { kind := .loop, ins := [0, 4, 5], bins := [], outs := [2, 3, 4], bouts := [], code := (.seq (yr [zm 12 5,
zm 13 0,
oo 14 (.lenS (tt 13)),
zt 15 .lss 12 14]
 (yw 15 .skip (.exit 0)))
 (.block 1 (.seq (yr [zm 16 0,
zm 17 5,
oo 18 (.idxS (tt 16) (tt 17)),
ya 19 31800 0 18,
zb 20 .eql 19 3]
 (yw 20 (yr [zm 21 5,
zb 22 .add 21 1,
zm 5 22]
 (.exit 1)) .skip))
 (yr [zm 23 0,
zm 24 5,
yb 25 32100 0 23 24,
zm 6 25]
 (.seq (yr [zm 26 6,
zb 27 .lss 26 0]
 (yw 27 (yr [oo 28 (.buildS (.own false) .str []),
yt 2 28,
yo 3 false]
 .ret) .skip))
 (yr [yt 29 4,
zm 30 0,
zm 31 5,
zm 32 6,
oo 33 (.slcS (tt 30) (some (tt 31)) (some (tt 32))),
oo 34 (.buildS .full .str [tt 33]),
oo 35 (.app 1 (.take 29) (tt 34)),
yt 4 35]
 (rr [zm 36 6,
zm 5 36]))))))) }
def p32300 : ProcT := pF [0] [] [.tmp 2] (yr [yn 2 0]
 (.seq (yr [zm 5 0,
oo 6 (.lenS (tt 5)),
oo 7 (.call 1600 0 [tt 6, nn 1, nn 5]),
oo 8 (.un .not (tt 7))]
 (yw 8 (yr [oo 2 (.mv (nn (-1)))]
 .ret) .skip))
 (yr [yn 3 0]
 (.seq (yr [yn 4 0]
 (.block 0 (.label 32301)))
 (yr [zm 33 3,
zm 2 33]
 .ret)))))
def p32301 : ProcT := { kind := .loop, ins := [0, 3, 4], bins := [], outs := [2, 3], bouts := [], code := (.seq (yr [zm 9 4,
zm 10 0,
oo 11 (.lenS (tt 10)),
zt 12 .lss 9 11]
 (yw 12 .skip (.exit 0)))
 (.seq (.block 1 (.seq (yr [zm 15 0,
zm 16 4,
oo 17 (.idxS (tt 15) (tt 16)),
oo 18 (.bin .lss (tt 17) (.const (.int .u8 48))),
zm 19 18,
yM 20 0 19,
yM 21 4 19,
og (some 22) (.idxS (tt 20) (tt 21)) 19 false [],
og (some 23) (.bin .gtr (tt 22) (.const (.int .u8 57))) 19 false [],
zq 24 19 23]
 (yw 24 (yr [oo 2 (.mv (nn (-1)))]
 .ret) .skip))
 (rr [zm 25 3,
oo 26 (.bin .mul (nn 10) (tt 25)),
zm 27 0,
zm 28 4,
oo 29 (.idxS (tt 27) (tt 28)),
oo 30 (.bin .sub (tt 29) (.const (.int .u8 48))),
oo 31 (.conv (.int .i64) (tt 30)),
zt 32 .add 26 31,
zm 3 32])))
 (rr [zm 13 4,
zb 14 .add 13 1,
zm 4 14]))) }
def p32400 : ProcT := pF [0] [] [.tmp 2] (yr [oo 2 (.mv (.const (.str [])))]
 (yr [zm 3 0,
oo 4 (.bin .add (nn 97) (tt 3)),
oo 5 (.conv (.int .u8) (tt 4)),
oo 6 (.buildS .full .u8 [tt 5]),
oo 7 (.conv .bytesStr (tt 6)),
zm 2 7]
 .ret))
def p32500 : ProcT := pF [0] [] [.tmp 2] (yr [yn 2 0]
 (.seq (yr [yn 3 0]
 (.block 0 (.label 32501)))
 (yr [oo 2 (.mv (nn (-1)))]
 .ret)))
def p32501 : ProcT := { kind := .loop, ins := [0, 3], bins := [], outs := [2], bouts := [], code := (.seq (yr [zm 4 3,
zb 5 .lss 4 4]
 (yw 5 .skip (.exit 0)))
 (.seq (.block 1 (yr [zm 8 0,
zm 9 3,
ya 10 32400 0 9,
zt 11 .eql 8 10]
 (yw 11 (yr [zm 12 3,
zm 2 12]
 .ret) .skip)))
 (rr [zm 6 3,
zb 7 .add 6 1,
zm 3 7]))) }
def p32600 : ProcT := pF [0, 1] [] [.cell 4 3 true, .tmp 5] (yr [oo 4 (.alloc 100 [.int .i64 0, .int .i64 0, .sl (.own false) .exp []]),
yn 5 0]
 (.seq (yr [zm 8 1,
zm 9 0,
zc 10 9,
zt 11 .geq 8 10]
 (yw 11 (yr [oo 12 (.build [.int .i64 0, .int .i64 0, .sl (.own false) .exp []] []),
ys 3 4 12 [],
oo 5 (.mv (nn (-1)))]
 .ret) .skip))
 (.seq (yr [zm 13 0,
zm 14 1,
yi 15 1 13 14,
zl 16 15,
oo 17 (.bin .eql (tt 16) (.const (.str [40])))]
 (yw 17 (yr [zm 19 0,
zm 20 1,
zb 21 .add 20 1,
oo 22 (.call 32900 0 [tt 19, tt 21, nn 1]),
zm 18 22,
ye 23 0 18,
ye 24 1 18,
oo 6 (.alloc 101 [.int .i64 0, .int .i64 0, .sl (.own false) .exp []]),
ys 3 6 23 [],
zm 7 24]
 (.seq (yr [zm 25 7,
zb 26 .lss 25 0,
zm 27 26,
yM 28 7 27,
yM 29 0 27,
og (some 30) (.len (tt 29)) 27 false [],
og (some 31) (.bin .geq (tt 28) (tt 30)) 27 false [],
zq 32 27 31,
zm 33 32,
yM 34 0 33,
yM 35 7 33,
og (some 36) (.iadr 1 (tt 34) (tt 35)) 33 false [],
yL 37 36 33,
og (some 38) (.bin .neq (tt 37) (.const (.str [41]))) 33 false [],
zq 39 33 38]
 (yw 39 (yr [oo 40 (.build [.int .i64 0, .int .i64 0, .sl (.own false) .exp []] []),
ys 3 4 40 [],
oo 5 (.mv (nn (-1)))]
 .ret) .skip))
 (yr [yl 41 3 6,
zm 42 7,
zb 43 .add 42 1,
ys 3 4 41 [],
zm 5 43]
 .ret))) .skip))
 (.seq (yr [zm 44 0,
zm 45 1,
yi 46 1 44 45,
zl 47 46,
ya 48 32300 0 47,
zb 49 .geq 48 0]
 (yw 49 (yr [zm 50 0,
zm 51 1,
yi 52 1 50 51,
zl 53 52,
ya 54 32300 0 53,
oo 55 (.call 300 0 [nn 0, tt 54]),
zm 56 1,
zb 57 .add 56 1,
ys 3 4 55 [],
zm 5 57]
 .ret) .skip))
 (.seq (yr [zm 58 0,
zm 59 1,
yi 60 1 58 59,
zl 61 60,
ya 62 32500 0 61,
zb 63 .geq 62 0]
 (yw 63 (yr [zm 64 0,
zm 65 1,
yi 66 1 64 65,
zl 67 66,
ya 68 32500 0 67,
oo 69 (.call 300 0 [nn 13, tt 68]),
zm 70 1,
zb 71 .add 70 1,
ys 3 4 69 [],
zm 5 71]
 .ret) .skip))
 (yr [oo 72 (.build [.int .i64 0, .int .i64 0, .sl (.own false) .exp []] []),
ys 3 4 72 [],
oo 5 (.mv (nn (-1)))]
 .ret))))))
def p32700 : ProcT := pF [0] [] [.tmp 2] (yr [yn 2 0]
 (.seq (yr [zm 3 0,
ya 4 1700 0 3,
oo 5 (.un .not (tt 4))]
 (yw 5 (yr [yn 2 0]
 .ret) .skip))
 (yr [oo 6 (.buildS .full .int [nn 1, nn 2, nn 3, nn 4, nn 5, nn 6, nn 6, nn 7, nn 7, nn 8, nn 8, nn 8]),
zm 7 0,
zb 8 .sub 7 1,
yi 9 1 6 8,
zl 10 9,
zm 2 10]
 .ret)))
def p32800 : ProcT := pF [0] [] [.tmp 2] (yr [yn 2 0]
 (.seq (yr [yn 3 1]
 (.block 0 (.label 32801)))
 (yr [yn 2 0]
 .ret)))
def p32801 : ProcT := { kind := .loop, ins := [0, 3], bins := [], outs := [2], bouts := [], code := (.seq (yr [zm 4 3,
zb 5 .leq 4 12]
 (yw 5 .skip (.exit 0)))
 (.seq (.block 1 (yr [zm 8 0,
zm 9 3,
ya 10 20700 0 9,
zt 11 .eql 8 10]
 (yw 11 (yr [zm 12 3,
zm 2 12]
 .ret) .skip)))
 (rr [zm 6 3,
zb 7 .add 6 1,
zm 3 7]))) }
def p32900 : ProcT := pF [0, 1, 2] [] [.cell 6 3 true, .tmp 7] (yr [oo 6 (.alloc 100 [.int .i64 0, .int .i64 0, .sl (.own false) .exp []]),
yn 7 0]
 (.seq (yr [zm 13 2,
zb 14 .gtr 13 8]
 (yw 14 (yr [zm 15 0,
zm 16 1,
yb 17 32600 0 15 16,
ye 18 0 17,
ye 19 1 17,
ys 3 6 18 [],
zm 7 19]
 .ret) .skip))
 (yr [zm 21 0,
zm 22 1,
zm 23 2,
zb 24 .add 23 1,
oo 25 (.call 32900 0 [tt 21, tt 22, tt 24]),
zm 20 25,
ye 26 0 20,
ye 27 1 20,
oo 8 (.alloc 101 [.int .i64 0, .int .i64 0, .sl (.own false) .exp []]),
ys 3 8 26 [],
zm 9 27]
 (.seq (.block 0 (.label 32901))
 (yr [yl 65 3 8,
zm 66 9,
ys 3 6 65 [],
zm 7 66]
 .ret)))))
def p32901 : ProcT := { kind := .loop, ins := [0, 2, 6, 8, 9], bins := [100, 101], outs := [6, 7, 8, 9], bouts := [100, 101], code := (.seq (yr [zm 28 9,
zb 29 .geq 28 0,
zm 30 29,
zM 31 9 30,
zM 32 0 30,
zG 33 (.len (tt 32)) 30,
zg 34 .lss 31 33 30,
zp 35 30 34,
zm 36 35,
zM 37 0 36,
zM 38 9 36,
yI 39 1 37 38 36,
zL 40 39 36,
zG 41 (.call 32800 0 [tt 40]) 36,
zG 42 (.call 32700 0 [tt 41]) 36,
zM 43 2 36,
zg 44 .eql 42 43 36,
zp 45 36 44]
 (yw 45 .skip (.exit 0)))
 (.block 1 (yr [zm 46 0,
zm 47 9,
yi 48 1 46 47,
zl 49 48,
ya 50 32800 0 49,
zm 10 50]
 (yr [zm 52 0,
zm 53 9,
zb 54 .add 53 1,
zm 55 2,
zb 56 .add 55 1,
oo 57 (.call 32900 0 [tt 52, tt 54, tt 56]),
zm 51 57,
ye 58 0 51,
ye 59 1 51,
oo 11 (.alloc 102 [.int .i64 0, .int .i64 0, .sl (.own false) .exp []]),
ys 3 11 58 [],
zm 12 59]
 (yr [zm 60 10,
yl 61 3 8,
yl 62 3 11,
oo 63 (.call 500 0 [tt 60, tt 61, tt 62]),
ys 3 8 63 []]
 (rr [zm 64 12,
zm 9 64])))))) }
def p33100 : ProcT := pF [0] [] [.tmp 2] (yr [yo 2 false]
 (yr [zm 3 0,
oo 4 (.bin .geq (tt 3) (.const (.int .u8 48))),
zm 5 4,
zM 6 0 5,
zG 7 (.bin .leq (tt 6) (.const (.int .u8 57))) 5,
zp 8 5 7,
zm 2 8]
 .ret))
def p33200 : ProcT := pF [0] [] [.tmp 2] (yr [yo 2 false]
 (yr [zm 3 0,
oo 4 (.bin .geq (tt 3) (.const (.int .u8 97))),
zm 5 4,
zM 6 0 5,
zG 7 (.bin .leq (tt 6) (.const (.int .u8 122))) 5,
zp 8 5 7,
zm 2 8]
 .ret))
def p33300 : ProcT := pF [0] [] [.tmp 2] (yr [yn 2 0]
 (.seq (yr [oo 8 (.buildS .full .fn [.func 33100, .func 33200]),
zc 9 8,
yn 10 0]
 (.block 0 (.label 33301)))
 (.seq (yr [oo 31 (.buildS .full .str [.const (.str ([61, 61])), .const (.str ([60, 60])), .const (.str ([62, 62]))]),
zc 32 31,
yn 33 0]
 (.block 4 (.label 33303)))
 (.seq (yr [zm 41 0,
oo 42 (.bin .neq (tt 41) (.const (.str []))),
zm 43 42,
zM 44 0 43,
zG 45 (.idxS (tt 44) (nn 0)) 43,
zG 46 (.call 37600 0 [.const (.str ([124, 94, 38, 60, 43, 45, 42, 47, 37, 40, 41, 123, 125, 61, 59])), tt 45]) 43,
zn 47 .geq 46 0 43,
zp 48 43 47]
 (yw 48 (yr [yn 2 1]
 .ret) .skip))
 (yr [yn 2 0]
 .ret)))))
def p33301 : ProcT := { kind := .loop, ins := [0, 8, 9, 10], bins := [], outs := [0, 2], bouts := [], code := (yr [zt 11 .lss 10 9]
 (.seq (yw 11 .skip (.exit 0))
 (.seq (.block 1 (yr [yi 12 1 8 10,
zl 13 12,
zm 4 13]
 (yr [yn 5 0]
 (.seq (.block 2 (.label 33302))
 (yr [zm 27 5,
zb 28 .gtr 27 0]
 (yw 28 (yr [zm 29 5,
zm 2 29]
 .ret) .skip))))))
 (rr [zb 30 .add 10 1,
zm 10 30])))) }
def p33302 : ProcT := { kind := .loop, ins := [0, 4, 5, 8, 9, 10], bins := [], outs := [0, 2, 5, 8, 9, 10], bouts := [], code := (.seq (yr [zm 14 5,
zm 15 0,
oo 16 (.lenS (tt 15)),
zt 17 .lss 14 16,
zm 18 17,
zM 19 4 18,
zM 20 0 18,
zM 21 5 18,
zG 22 (.idxS (tt 20) (tt 21)) 18,
zG 23 (.callv (tt 19) [tt 22]) 18,
zp 24 18 23]
 (yw 24 .skip (.exit 2)))
 (.block 3 (rr [zm 25 5,
zb 26 .add 25 1,
zm 5 26]))) }
def p33303 : ProcT := { kind := .loop, ins := [0, 31, 32, 33], bins := [], outs := [0, 2], bouts := [], code := (yr [zt 34 .lss 33 32]
 (.seq (yw 34 .skip (.exit 4))
 (.seq (.block 5 (yr [yi 35 1 31 33,
zl 36 35,
zm 7 36]
 (yr [zm 37 0,
zm 38 7,
yb 39 37500 0 37 38]
 (yw 39 (yr [yn 2 2]
 .ret) .skip))))
 (rr [zb 40 .add 33 1,
zm 33 40])))) }
def p33400 : ProcT := pF [0] [] [.tmp 2, .tmp 3] (yr [oo 2 (.mv (.const (.sl (.own false) .str []))),
yo 3 false]
 (.seq (yr [zm 7 0,
oo 8 (.lenS (tt 7)),
zb 9 .gtr 8 20000]
 (yw 9 (yr [oo 2 (.mv (.const (.sl (.own false) .str []))),
yo 3 false]
 .ret) .skip))
 (yr [oo 4 (.mv (.const (.sl (.own false) .str [])))]
 (.seq (yr [yn 5 0]
 (.block 0 (.label 33401)))
 (yr [zm 44 4,
yt 2 44,
yo 3 true]
 .ret)))))
def p33401 : ProcT := { kind := .loop, ins := [0, 4, 5], bins := [], outs := [2, 3, 4], bouts := [], code := (.seq (yr [zm 10 5,
zm 11 0,
oo 12 (.lenS (tt 11)),
zt 13 .lss 10 12]
 (yw 13 .skip (.exit 0)))
 (.block 1 (.seq (yr [zm 14 0,
zm 15 5,
oo 16 (.idxS (tt 14) (tt 15)),
oo 17 (.bin .eql (tt 16) (.const (.int .u8 32))),
zm 18 17,
yM 19 0 18,
yM 20 5 18,
og (some 21) (.idxS (tt 19) (tt 20)) 18 false [],
og (some 22) (.bin .eql (tt 21) (.const (.int .u8 10))) 18 false [],
zq 23 18 22]
 (yw 23 (yr [zm 24 5,
zb 25 .add 24 1,
zm 5 25]
 (.exit 1)) .skip))
 (yr [zm 26 0,
zm 27 5,
oo 28 (.slcS (tt 26) (some (tt 27)) none),
ya 29 33300 0 28,
zm 6 29]
 (.seq (yr [zm 30 6,
zb 31 .eql 30 0]
 (yw 31 (yr [oo 2 (.mv (.const (.sl (.own false) .str []))),
yo 3 false]
 .ret) .skip))
 (yr [yt 32 4,
zm 33 0,
zm 34 5,
zm 35 5,
zm 36 6,
zt 37 .add 35 36,
oo 38 (.slcS (tt 33) (some (tt 34)) (some (tt 37))),
oo 39 (.buildS .full .str [tt 38]),
oo 40 (.app 1 (.take 32) (tt 39)),
yt 4 40]
 (rr [zm 41 5,
zm 42 6,
zt 43 .add 41 42,
zm 5 43]))))))) }
def p33500 : ProcT := pF [0] [0] [.tmp 2] (yr [oo 2 (.mv (.const (.str [])))]
 (.seq (.seq (.region true [zm 3 0,
yx 4 3 [0],
yf 5 1 4 [0],
yd 6 5 [0],
zm 7 0,
yx 8 7 [0],
yf 9 0 8 [0],
yd 10 9 [0],
zc 11 10,
zt 12 .lss 6 11,
zm 13 12,
zM 14 0 13,
og (some 15) (.nilck (tt 14)) 13 true [0],
og (some 16) (.fadr 2 (tt 15)) 13 true [0],
og (some 17) (.load 1 false false (tt 16)) 13 true [0],
zG 18 (.un .not (tt 17)) 13,
zp 19 13 18])
 (yw 19 (.seq (.region true [zm 20 0,
yx 21 20 [0],
yf 22 0 21 [0],
yd 23 22 [0],
zm 24 0,
yx 25 24 [0],
yf 26 1 25 [0],
yd 27 26 [0],
yi 28 1 23 27,
zl 29 28,
zm 2 29])
 .ret) .skip))
 (yr [oo 2 (.mv (.const (.str [])))]
 .ret)))
def p33600 : ProcT := pF [0, 1] [0] [.tmp 4] (yr [yo 4 false]
 (.seq (yr [zm 5 0,
ya 6 33500 0 5,
zm 7 1,
zt 8 .neq 6 7]
 (yw 8 (yr [yo 4 false]
 .ret) .skip))
 (yr [zm 9 0,
yc 10 9,
zf 11 1 10,
zl 12 11,
zb 13 .add 12 1,
yc 14 9,
zf 15 1 14,
ys 1 15 13 []]
 (yr [yo 4 true]
 .ret))))
def p33700 : ProcT := pF [0, 1] [0] [] (yr [zm 4 0,
zm 5 1,
yb 6 33600 0 4 5,
oo 7 (.un .not (tt 6))]
 (yw 7 (rr [zm 8 0,
yc 9 8,
zf 10 2 9,
on (.store 1 (tt 10) (.const (.bool true))) []]) .skip))
def p33800 : ProcT := pF [0] [0] [.tmp 2] (yr [oo 2 (.mv (.const (.str [])))]
 (yr [zm 4 0,
ya 5 33500 0 4,
zm 3 5]
 (.seq (yr [zm 6 3,
oo 7 (.bin .eql (tt 6) (.const (.str [])))]
 (yw 7 (rr [zm 8 0,
yc 9 8,
zf 10 2 9,
on (.store 1 (tt 10) (.const (.bool true))) []]) .skip))
 (yr [zm 11 0,
yc 12 11,
zf 13 1 12,
zl 14 13,
zb 15 .add 14 1,
yc 16 11,
zf 17 1 16,
ys 1 17 15 []]
 (yr [zm 18 3,
zm 2 18]
 .ret)))))
def p33900 : ProcT := pF [0] [0] [.tmp 2] (yr [yn 2 0]
 (yr [zm 6 0,
ya 7 33800 0 6,
zm 3 7]
 (.seq (yr [zm 8 3,
oo 9 (.bin .eql (tt 8) (.const (.str []))),
zm 10 9,
yM 11 3 10,
og (some 12) (.lenS (tt 11)) 10 false [],
og (some 13) (.bin .gtr (tt 12) (nn 5)) 10 false [],
zq 14 10 13,
zm 15 14,
yM 16 3 15,
og (some 17) (.idxS (tt 16) (nn 0)) 15 false [],
og (some 18) (.call 33100 0 [tt 17]) 15 false [],
og (some 19) (.un .not (tt 18)) 15 false [],
zq 20 15 19]
 (yw 20 (yr [zm 21 0,
yc 22 21,
zf 23 2 22,
on (.store 1 (tt 23) (.const (.bool true))) []]
 (yr [yn 2 0]
 .ret)) .skip))
 (yr [zm 25 3,
ya 26 37700 0 25,
zm 24 26,
ye 27 0 24,
ye 28 1 24,
zm 4 27,
zm 5 28]
 (yr [zm 29 4,
zm 2 29]
 .ret)))))
def p34000 : ProcT := pF [0] [0] [.tmp 2] (yr [yn 2 0]
 (yr [zm 4 0,
ya 5 33800 0 4,
zm 3 5]
 (.seq (yr [zm 6 3,
oo 7 (.lenS (tt 6)),
zb 8 .neq 7 1,
zm 9 8,
yM 10 3 9,
og (some 11) (.idxS (tt 10) (nn 0)) 9 false [],
og (some 12) (.bin .lss (tt 11) (.const (.int .u8 97))) 9 false [],
zq 13 9 12,
zm 14 13,
yM 15 3 14,
og (some 16) (.idxS (tt 15) (nn 0)) 14 false [],
og (some 17) (.bin .geq (tt 16) (.const (.int .u8 101))) 14 false [],
zq 18 14 17]
 (yw 18 (yr [zm 19 0,
yc 20 19,
zf 21 2 20,
on (.store 1 (tt 21) (.const (.bool true))) []]
 (yr [yn 2 0]
 .ret)) .skip))
 (yr [zm 22 3,
oo 23 (.idxS (tt 22) (nn 0)),
oo 24 (.bin .sub (tt 23) (.const (.int .u8 97))),
oo 25 (.conv (.int .i64) (tt 24)),
zm 2 25]
 .ret))))
def p34100 : ProcT := pF [0] [0] [.cell 2 3 true] (yr [oo 2 (.alloc 100 [.int .i64 0, .int .i64 0, .sl (.own false) .exp []])]
 (yr [zm 5 0,
ya 6 33500 0 5,
zm 3 6]
 (.seq (.block 0 (yr [zm 8 3,
oo 9 (.bin .eql (tt 8) (.const (.str [40]))),
zm 7 9]
 (yw 7 (yr [zm 10 0,
yc 11 10,
zf 12 1 11,
zl 13 12,
zb 14 .add 13 1,
yc 15 10,
zf 16 1 15,
ys 1 16 14 []]
 (yr [zm 17 0,
oo 18 (.call 34400 0 [tt 17, nn 1]),
oo 4 (.alloc 101 [.int .i64 0, .int .i64 0, .sl (.own false) .exp []]),
ys 3 4 18 []]
 (yr [zm 19 0,
oo 20 (.call 33700 0 [tt 19, .const (.str [41])])]
 (yr [yl 21 3 4,
ys 3 2 21 []]
 .ret)))) (yr [zm 23 3,
oo 24 (.bin .neq (tt 23) (.const (.str []))),
zm 25 24,
zM 26 3 25,
zG 27 (.idxS (tt 26) (nn 0)) 25,
zG 28 (.call 33100 0 [tt 27]) 25,
zp 29 25 28,
zm 22 29]
 (yw 22 (yr [zm 30 0,
ya 31 33900 0 30,
oo 32 (.build [.int .i64 0, .int .i64 0, .sl (.own false) .exp []] [(0, 1, nn 0), (1, 1, tt 31)]),
ys 3 2 32 []]
 .ret) .skip)))))
 (yr [zm 33 0,
ya 34 34000 0 33,
oo 35 (.build [.int .i64 0, .int .i64 0, .sl (.own false) .exp []] [(0, 1, nn 13), (1, 1, tt 34)]),
ys 3 2 35 []]
 .ret))))
def p34200 : ProcT := pF [0] [] [.tmp 2] (yr [yn 2 0]
 (.seq (yr [oo 5 (.load 12 true false (.glob 0)),
yn 6 0]
 (.block 0 (.label 34201)))
 (yr [yn 2 0]
 .ret)))
def p34201 : ProcT := { kind := .loop, ins := [0, 5, 6], bins := [], outs := [2], bouts := [], code := (yr [zb 7 .lss 6 12]
 (.seq (yw 7 .skip (.exit 0))
 (.seq (.block 1 (yr [zm 8 6,
oo 9 (.idxA 1 12 1 false (tt 5) (tt 6)),
zm 3 8,
zm 4 9]
 (yr [zm 10 4,
zm 11 0,
zt 12 .eql 10 11]
 (yw 12 (yr [zm 13 3,
oo 14 (.bin .add (nn 1) (tt 13)),
zm 2 14]
 .ret) .skip))))
 (rr [zb 15 .add 6 1,
zm 6 15])))) }
def p34300 : ProcT := pF [0] [] [.tmp 2] (yr [yn 2 0]
 (.seq (yr [zm 3 0]
 (.block 0 (yr [zb 5 .eql 3 1,
zm 4 5]
 (yw 4 (yr [yn 2 1]
 .ret) (yr [zb 7 .eql 3 2,
zm 6 7]
 (yw 6 (yr [yn 2 2]
 .ret) (yr [zb 9 .eql 3 3,
zm 8 9]
 (yw 8 (yr [yn 2 3]
 .ret) (yr [zb 11 .eql 3 4,
zm 10 11]
 (yw 10 (yr [yn 2 4]
 .ret) (yr [zb 13 .eql 3 5,
zm 12 13]
 (yw 12 (yr [yn 2 5]
 .ret) (.seq (yr [zb 15 .eql 3 6,
zm 14 15]
 (yw 14 .skip (rr [zb 16 .eql 3 7,
zm 14 16])))
 (yw 14 (yr [yn 2 6]
 .ret) (.seq (yr [zb 18 .eql 3 8,
zm 17 18]
 (yw 17 .skip (rr [zb 19 .eql 3 9,
zm 17 19])))
 (yw 17 (yr [yn 2 7]
 .ret) (.seq (yr [zb 21 .eql 3 10,
zm 20 21]
 (yw 20 .skip (yr [zb 22 .eql 3 11,
zm 20 22]
 (yw 20 .skip (rr [zb 23 .eql 3 12,
zm 20 23])))))
 (yw 20 (yr [yn 2 8]
 .ret) .skip))))))))))))))))))
 (yr [yn 2 0]
 .ret)))
def p34400 : ProcT := pF [0, 1] [0] [.cell 4 3 true] (yr [oo 4 (.alloc 100 [.int .i64 0, .int .i64 0, .sl (.own false) .exp []])]
 (yr [zm 7 0,
ya 8 34100 0 7,
oo 5 (.alloc 101 [.int .i64 0, .int .i64 0, .sl (.own false) .exp []]),
ys 3 5 8 []]
 (.seq (.block 0 (.label 34401))
 (yr [yl 41 3 5,
ys 3 4 41 []]
 .ret))))
def p34401 : ProcT := { kind := .loop, ins := [0, 1, 4, 5], bins := [0, 100, 101], outs := [0, 4, 5], bouts := [0, 100, 101], code := (.seq (yr [zm 9 0,
yc 10 9,
zf 11 2 10,
zl 12 11,
oo 13 (.un .not (tt 12))]
 (yw 13 .skip (.exit 0)))
 (.block 1 (yr [zm 14 0,
ya 15 33500 0 14,
ya 16 34200 0 15,
zm 6 16]
 (.seq (yr [zm 17 6,
zb 18 .eql 17 0,
zm 19 18,
yM 20 6 19,
og (some 21) (.call 34300 0 [tt 20]) 19 false [],
yM 22 1 19,
og (some 23) (.bin .lss (tt 21) (tt 22)) 19 false [],
zq 24 19 23]
 (yw 24 (.exit 0) .skip))
 (yr [zm 25 0,
yc 26 25,
zf 27 1 26,
zl 28 27,
zb 29 .add 28 1,
yc 30 25,
zf 31 1 30,
ys 1 31 29 []]
 (.region true [zm 32 6,
op 33 (.load 3 true false (tt 5)) [101],
zm 34 0,
zm 35 6,
ya 36 34300 0 35,
zb 37 .add 36 1,
op 38 (.call 34400 0 [tt 34, tt 37]) [0],
oo 39 (.buildS .full .exp [tt 33, tt 38]),
oo 40 (.build [.int .i64 0, .int .i64 0, .sl (.own false) .exp []] [(0, 1, tt 32), (2, 1, tt 39)]),
ys 3 5 40 [101]])))))) }
def p38700 : ProcT := pF [0, 1] [99] [.tmp 4] (yr [yn 4 0]
 (.seq (yr [yn 5 0]
 (.block 0 (.label 38701)))
 (yr [zm 18 1,
zm 4 18]
 .ret)))
def p38701 : ProcT := { kind := .loop, ins := [0, 1, 5], bins := [99], outs := [1, 4], bouts := [99], code := (.seq (yr [zm 6 5,
zm 7 0,
oo 8 (.tr (.len (tt 7))),
zt 9 .lss 6 8]
 (yw 9 .skip (.exit 0)))
 (.seq (.block 1 (yr [zm 12 0,
zm 13 5,
zm 14 1,
oo 15 (.tr (.iadr 1 (tt 12) (tt 13))),
on (.tr (.store 1 (tt 15) (tt 14))) []]
 (rr [zm 16 1,
zb 17 .add 16 1,
zm 1 17])))
 (rr [zm 10 5,
zb 11 .add 10 1,
zm 5 11]))) }
def p40900 : ProcT := pF [0, 1] [99] [.tmp 4] (yr [yn 4 0]
 (.seq (yr [yn 5 0]
 (.block 0 (.label 40901)))
 (yr [zm 71 1,
zm 4 71]
 .ret)))
def p40901 : ProcT := { kind := .loop, ins := [0, 1, 5], bins := [99], outs := [1, 4], bouts := [99], code := (.seq (yr [zm 6 5,
zm 7 0,
oo 8 (.tr (.len (tt 7))),
zt 9 .lss 6 8]
 (yw 9 .skip (.exit 0)))
 (.seq (.block 1 (yr [zm 12 0,
zm 13 5,
zm 14 1,
oo 15 (.tr (.iadr 8 (tt 12) (tt 13))),
oo 16 (.tr (.fadr 0 (tt 15))),
on (.tr (.store 1 (tt 16) (tt 14))) []]
 (yr [zm 17 1,
zb 18 .add 17 1,
zm 1 18]
 (yr [zm 19 0,
zm 20 5,
zm 21 1,
oo 22 (.tr (.iadr 8 (tt 19) (tt 20))),
oo 23 (.tr (.fadr 1 (tt 22))),
on (.tr (.store 1 (tt 23) (tt 21))) []]
 (yr [zm 24 1,
zb 25 .add 24 1,
zm 1 25]
 (yr [zm 26 0,
zm 27 5,
zm 28 1,
oo 29 (.tr (.iadr 8 (tt 26) (tt 27))),
oo 30 (.tr (.fadr 2 (tt 29))),
on (.tr (.store 1 (tt 30) (tt 28))) []]
 (yr [zm 31 1,
zb 32 .add 31 1,
zm 1 32]
 (yr [zm 33 0,
zm 34 5,
zm 35 1,
oo 36 (.tr (.iadr 8 (tt 33) (tt 34))),
oo 37 (.tr (.fadr 3 (tt 36))),
oo 38 (.tr (.fadr 0 (tt 37))),
on (.tr (.store 1 (tt 38) (tt 35))) []]
 (yr [zm 39 1,
zb 40 .add 39 1,
zm 1 40]
 (yr [zm 41 0,
zm 42 5,
zm 43 1,
oo 44 (.tr (.iadr 8 (tt 41) (tt 42))),
oo 45 (.tr (.fadr 3 (tt 44))),
oo 46 (.tr (.fadr 1 (tt 45))),
on (.tr (.store 1 (tt 46) (tt 43))) []]
 (yr [zm 47 1,
zb 48 .add 47 1,
zm 1 48]
 (yr [zm 49 0,
zm 50 5,
oo 51 (.tr (.iadr 8 (tt 49) (tt 50))),
oo 52 (.tr (.fadr 3 (tt 51))),
oo 53 (.tr (.fadr 2 (tt 52))),
oo 54 (.tr (.load 1 false (tt 53))),
zm 55 1,
oo 56 (.tr (.call .pass 41300 [tt 54, tt 55])),
zm 1 56]
 (yr [zm 57 0,
zm 58 5,
oo 59 (.tr (.iadr 8 (tt 57) (tt 58))),
oo 60 (.tr (.fadr 6 (tt 59))),
oo 61 (.tr (.load 1 false (tt 60))),
zm 62 1,
oo 63 (.tr (.call .pass 40900 [tt 61, tt 62])),
zm 1 63]
 (rr [zm 64 0,
zm 65 5,
oo 66 (.tr (.iadr 8 (tt 64) (tt 65))),
oo 67 (.tr (.fadr 7 (tt 66))),
oo 68 (.tr (.load 1 false (tt 67))),
zm 69 1,
oo 70 (.tr (.call .pass 40900 [tt 68, tt 69])),
zm 1 70]))))))))))))))
 (rr [zm 10 5,
zb 11 .add 10 1,
zm 5 11]))) }
def p41300 : ProcT := pF [0, 1] [99] [.tmp 4] (yr [yn 4 0]
 (.seq (yr [yn 5 0]
 (.block 0 (.label 41301)))
 (yr [zm 33 1,
zm 4 33]
 .ret)))
def p41301 : ProcT := { kind := .loop, ins := [0, 1, 5], bins := [99], outs := [1, 4], bouts := [99], code := (.seq (yr [zm 6 5,
zm 7 0,
oo 8 (.tr (.len (tt 7))),
zt 9 .lss 6 8]
 (yw 9 .skip (.exit 0)))
 (.seq (.block 1 (yr [zm 12 0,
zm 13 5,
zm 14 1,
oo 15 (.tr (.iadr 3 (tt 12) (tt 13))),
oo 16 (.tr (.fadr 0 (tt 15))),
on (.tr (.store 1 (tt 16) (tt 14))) []]
 (yr [zm 17 1,
zb 18 .add 17 1,
zm 1 18]
 (yr [zm 19 0,
zm 20 5,
zm 21 1,
oo 22 (.tr (.iadr 3 (tt 19) (tt 20))),
oo 23 (.tr (.fadr 1 (tt 22))),
on (.tr (.store 1 (tt 23) (tt 21))) []]
 (yr [zm 24 1,
zb 25 .add 24 1,
zm 1 25]
 (rr [zm 26 0,
zm 27 5,
oo 28 (.tr (.iadr 3 (tt 26) (tt 27))),
oo 29 (.tr (.fadr 2 (tt 28))),
oo 30 (.tr (.load 1 false (tt 29))),
zm 31 1,
oo 32 (.tr (.call .pass 41300 [tt 30, tt 31])),
zm 1 32]))))))
 (rr [zm 10 5,
zb 11 .add 10 1,
zm 5 11]))) }
def p42100 : ProcT := pF [0, 1] [99] [.tmp 4] (yr [oo 2 (.box 100 (tt 0)),
yn 4 0]
 (yr [zf 5 0 2,
zl 6 5,
zm 7 1,
oo 8 (.tr (.call .pass 38700 [tt 6, tt 7])),
zm 1 8]
 (yr [zf 9 1 2,
zl 10 9,
zm 11 1,
oo 12 (.tr (.call .pass 42900 [tt 10, tt 11])),
zm 1 12]
 (yr [zm 13 1,
zm 4 13]
 .ret))))
def p42900 : ProcT := pF [0, 1] [99] [.tmp 4] (yr [yn 4 0]
 (.seq (yr [yn 5 0]
 (.block 0 (.label 42901)))
 (yr [zm 18 1,
zm 4 18]
 .ret)))
def p42901 : ProcT := { kind := .loop, ins := [0, 1, 5], bins := [99], outs := [1, 4], bouts := [99], code := (.seq (yr [zm 6 5,
zm 7 0,
oo 8 (.tr (.len (tt 7))),
zt 9 .lss 6 8]
 (yw 9 .skip (.exit 0)))
 (.seq (.block 1 (rr [zm 12 0,
zm 13 5,
oo 14 (.tr (.iadr 1 (tt 12) (tt 13))),
oo 15 (.tr (.load 1 false (tt 14))),
zm 16 1,
oo 17 (.tr (.call .pass 40900 [tt 15, tt 16])),
zm 1 17]))
 (rr [zm 10 5,
zb 11 .add 10 1,
zm 5 11]))) }
def p43800 : ProcT := pF [0, 1] [0, 99] [.cell 4 3 true] (yr [oo 4 (.alloc 100 [.int .i64 0, .int .i64 0, .tr .expH none 0])]
 (yr [zm 7 0,
oo 8 (.tr (.call .pass 43900 [tt 7])),
oo 5 (.alloc 101 [.int .i64 0, .int .i64 0, .tr .expH none 0]),
ys 3 5 8 []]
 (.seq (.block 0 (.label 43801))
 (yr [yl 41 3 5,
ys 3 4 41 []]
 .ret))))
def p43801 : ProcT := { kind := .loop, ins := [0, 1, 4, 5], bins := [0, 100, 101, 99], outs := [0, 4, 5], bouts := [0, 100, 101, 99], code := (.seq (yr [zm 9 0,
yc 10 9,
zf 11 2 10,
zl 12 11,
oo 13 (.un .not (tt 12))]
 (yw 13 .skip (.exit 0)))
 (.block 1 (yr [zm 14 0,
ya 15 33500 0 14,
ya 16 34200 0 15,
zm 6 16]
 (.seq (yr [zm 17 6,
zb 18 .eql 17 0,
zm 19 18,
yM 20 6 19,
og (some 21) (.call 34300 0 [tt 20]) 19 false [],
yM 22 1 19,
og (some 23) (.bin .lss (tt 21) (tt 22)) 19 false [],
zq 24 19 23]
 (yw 24 (.exit 0) .skip))
 (yr [zm 25 0,
yc 26 25,
zf 27 1 26,
zl 28 27,
zb 29 .add 28 1,
yc 30 25,
zf 31 1 30,
ys 1 31 29 []]
 (.region true [zm 32 6,
op 33 (.load 3 true false (tt 5)) [101],
zm 34 0,
zm 35 6,
ya 36 34300 0 35,
zb 37 .add 36 1,
op 38 (.tr (.call .pass 43800 [tt 34, tt 37])) [0, 99],
op 39 (.tr (.lit .expH [tt 33, tt 38])) [99],
oo 40 (.build [.int .i64 0, .int .i64 0, .tr .expH none 0] [(0, 1, tt 32), (2, 1, tt 39)]),
ys 3 5 40 [101]])))))) }
def p43900 : ProcT := pF [0] [0, 99] [.cell 2 3 true] (yr [oo 2 (.alloc 100 [.int .i64 0, .int .i64 0, .tr .expH none 0])]
 (yr [zm 5 0,
ya 6 33500 0 5,
zm 3 6]
 (.seq (.block 0 (yr [zm 8 3,
oo 9 (.bin .eql (tt 8) (.const (.str [40]))),
zm 7 9]
 (yw 7 (yr [zm 10 0,
yc 11 10,
zf 12 1 11,
zl 13 12,
zb 14 .add 13 1,
yc 15 10,
zf 16 1 15,
ys 1 16 14 []]
 (yr [zm 17 0,
oo 18 (.tr (.call .pass 43800 [tt 17, nn 1])),
oo 4 (.alloc 101 [.int .i64 0, .int .i64 0, .tr .expH none 0]),
ys 3 4 18 []]
 (yr [zm 19 0,
oo 20 (.call 33700 0 [tt 19, .const (.str [41])])]
 (yr [yl 21 3 4,
ys 3 2 21 []]
 .ret)))) (yr [zm 23 3,
oo 24 (.bin .neq (tt 23) (.const (.str []))),
zm 25 24,
zM 26 3 25,
zG 27 (.idxS (tt 26) (nn 0)) 25,
zG 28 (.call 33100 0 [tt 27]) 25,
zp 29 25 28,
zm 22 29]
 (yw 22 (yr [zm 30 0,
ya 31 33900 0 30,
oo 32 (.build [.int .i64 0, .int .i64 0, .tr .expH none 0] [(0, 1, nn 0), (1, 1, tt 31)]),
ys 3 2 32 []]
 .ret) .skip)))))
 (yr [zm 33 0,
ya 34 34000 0 33,
oo 35 (.build [.int .i64 0, .int .i64 0, .tr .expH none 0] [(0, 1, nn 13), (1, 1, tt 34)]),
ys 3 2 35 []]
 .ret))))
def p44000 : ProcT := { kind := .fn, ins := [0], bins := [], res := [.tmp 2], loc := true, code := (yr [yo 2 false]
 (.seq (yr [zm 11 0,
oo 12 (.lenS (tt 11)),
zb 13 .gtr 12 1048576]
 (yw 13 (yr [yo 2 true]
 .ret) .skip))
 (yr [zm 15 0,
ya 16 44300 0 15,
zm 14 16,
ye 17 0 14,
ye 18 1 14,
oo 3 (.alloc 100 [.sl (.own false) .int [], .sl (.own false) .stms []]),
ys 2 3 17 [],
zm 4 18]
 (yr [zm 20 0,
oo 21 (.tr (.call .pview 44500 [tt 20])),
zm 19 21,
ye 22 0 19,
ye 23 1 19,
oo 5 (.alloc 101 [.sl (.own false) .int [], .sl (.own false) .stms []]),
ys 2 5 22 [],
zm 6 23]
 (.seq (yr [yl 24 2 5,
yl 25 2 3,
oo 26 (.tr (.call .view 28900 [tt 24, tt 25])),
oo 27 (.un .not (tt 26)),
zm 28 27,
yM 29 6 28,
yM 30 4 28,
og (some 31) (.eqb true (tt 29) (tt 30)) 28 false [],
zq 32 28 31]
 (yw 32 (yr [yo 2 false]
 .ret) .skip))
 (yr [yn 7 1]
 (yr [yl 33 2 5,
zm 34 7,
oo 35 (.tr (.call .pass 42100 [tt 33, tt 34])),
zm 7 35]
 (yr [yn 8 1]
 (yr [yl 36 2 5,
zm 37 8,
oo 38 (.tr (.call .view 44600 [tt 36, tt 37])),
zm 8 38]
 (.seq (yr [zm 39 8,
zb 40 .lss 39 0]
 (yw 40 (yr [yo 2 false]
 .ret) .skip))
 (.seq (yr [zm 41 8,
zm 42 7,
zt 43 .neq 41 42]
 (yw 43 (yr [yo 2 false]
 .ret) .skip))
 (yr [zm 45 0,
ya 46 44400 0 45,
zm 44 46,
ye 47 0 44,
ye 48 1 44,
oo 9 (.alloc 102 [.sl (.own false) .int [], .sl (.own false) .stms []]),
ys 2 9 47 [],
zm 10 48]
 (.seq (yr [yl 49 2 9,
yl 50 2 3,
yb 51 28900 0 49 50,
oo 52 (.un .not (tt 51)),
zm 53 52,
yM 54 10 53,
yM 55 4 53,
og (some 56) (.eqb true (tt 54) (tt 55)) 53 false [],
zq 57 53 56]
 (yw 57 (yr [yo 2 false]
 .ret) .skip))
 (yr [yn 8 1]
 (yr [yl 58 2 5,
zm 59 8,
oo 60 (.tr (.call .view 44600 [tt 58, tt 59])),
zm 8 60]
 (.seq (yr [zm 61 8,
zb 62 .lss 61 0]
 (yw 62 (yr [yo 2 false]
 .ret) .skip))
 (.seq (yr [zm 63 8,
zm 64 7,
zt 65 .neq 63 64]
 (yw 65 (yr [yo 2 false]
 .ret) .skip))
 (yr [yo 2 true]
 .ret)))))))))))))))))) }
def p44300 : ProcT := pF [0] [] [.cell 2 2 true, .tmp 3] (yr [oo 2 (.alloc 100 [.sl (.own false) .int [], .sl (.own false) .stms []]),
yo 3 false]
 (yr [oo 11 (.build [.sl (.own false) .int [], .sl (.own false) .stms []] []),
oo 4 (.alloc 101 [.sl (.own false) .int [], .sl (.own false) .stms []]),
ys 2 4 11 []]
 (yr [zm 13 0,
ya 14 32200 0 13,
zm 12 14,
ye 15 0 12,
ye 16 1 12,
yt 5 15,
zm 6 16]
 (.seq (yr [zm 17 6,
oo 18 (.un .not (tt 17))]
 (yw 18 (yr [yl 19 2 4,
ys 2 2 19 [],
yo 3 false]
 .ret) .skip))
 (yr [oo 20 (.buildS (.own false) .int []),
oo 21 (.buildS (.own false) .stms []),
oo 22 (.build [.sl (.own false) .int [], .sl (.own false) .stms []] [(0, 1, tt 20), (1, 1, tt 21)]),
oo 7 (.alloc 102 [.sl (.own false) .int [], .sl (.own false) .stms []]),
ys 2 7 22 []]
 (yr [yn 8 0]
 (.seq (.block 0 (.label 44301))
 (.seq (.block 2 (.label 44302))
 (.seq (yr [zm 67 8,
zm 68 5,
zc 69 68,
zt 70 .neq 67 69,
zm 71 70,
og (some 72) (.load 2 true false (tt 7)) 71 false [],
og (some 73) (.call 23300 0 [tt 72]) 71 false [],
og (some 74) (.un .not (tt 73)) 71 false [],
zq 75 71 74]
 (yw 75 (yr [yl 76 2 4,
ys 2 2 76 [],
yo 3 false]
 .ret) .skip))
 (yr [yl 77 2 7,
ys 2 2 77 [],
yo 3 true]
 .ret))))))))))
def p44301 : ProcT := { kind := .loop, ins := [2, 4, 5, 7, 8], bins := [100, 101, 102], outs := [2, 3, 4, 5, 7, 8], bouts := [100, 101, 102], code := (.seq (yr [zm 23 5,
zm 24 8,
oo 25 (.call 45200 0 [tt 23, tt 24, .const (.str ([98, 111, 120]))]),
zm 26 25,
zM 27 5 26,
zM 28 8 26,
zn 29 .add 28 1 26,
zG 30 (.call 45300 0 [tt 27, tt 29]) 26,
zn 31 .geq 30 0 26,
zp 32 26 31,
zm 33 32,
zM 34 5 33,
zM 35 8 33,
zn 36 .add 35 2 33,
zG 37 (.call 45200 0 [tt 34, tt 36, .const (.str [59])]) 33,
zp 38 33 37]
 (yw 38 .skip (.exit 0)))
 (.block 1 (.seq (.region true [yf 39 0 7 [102],
op 40 (.load 1 false true (tt 39)) [102],
zm 41 5,
zm 42 8,
zb 43 .add 42 1,
yb 44 45300 0 41 43,
oo 45 (.buildS .full .int [tt 44]),
oo 46 (.app 1 (.take 40) (tt 45)),
yf 47 0 7 [102],
on (.store 1 (tt 47) (.take 46)) [102]])
 (rr [zm 48 8,
zb 49 .add 48 3,
zm 8 49])))) }
def p44302 : ProcT := { kind := .loop, ins := [2, 4, 5, 7, 8], bins := [100, 101, 102], outs := [2, 3, 4, 5, 7, 8], bouts := [100, 101, 102], code := (.seq (yr [zm 50 5,
zm 51 8,
oo 52 (.call 45200 0 [tt 50, tt 51, .const (.str ([116, 97, 115, 107]))])]
 (yw 52 .skip (.exit 2)))
 (.block 3 (yr [zm 54 5,
zm 55 8,
zb 56 .add 55 1,
yb 57 45400 0 54 56,
zm 53 57,
ye 58 0 53,
ye 59 1 53,
yt 9 58,
zm 10 59]
 (yr [zf 60 1 7,
oo 61 (.load 1 false true (tt 60)),
zm 62 9,
oo 63 (.buildS .full .stms [tt 62]),
oo 64 (.app 1 (.take 61) (tt 63)),
zf 65 1 7,
on (.store 1 (tt 65) (.take 64)) []]
 (rr [zm 66 10,
zm 8 66]))))) }
def p44400 : ProcT := pF [0] [] [.cell 2 2 true, .tmp 3] (yr [oo 2 (.alloc 100 [.sl (.own false) .int [], .sl (.own false) .stms []]),
yo 3 false]
 (yr [zm 9 0,
ya 10 33400 0 9,
zm 8 10,
ye 11 0 8,
ye 12 1 8,
yt 4 11,
zm 5 12]
 (.seq (yr [zm 13 5,
oo 14 (.un .not (tt 13))]
 (yw 14 (yr [oo 15 (.build [.sl (.own false) .int [], .sl (.own false) .stms []] []),
ys 2 2 15 [],
yo 3 false]
 .ret) .skip))
 (yr [zm 16 4,
oo 17 (.build [.sl (.own false) .str [], .int .i64 0, .bool false] [(0, 1, tt 16)]),
oo 6 (.alloc 101 [.sl (.own false) .str [], .int .i64 0, .bool false]),
ys 3 6 17 []]
 (yr [oo 7 (.alloc 102 [.sl (.own false) .int [], .sl (.own false) .stms []])]
 (.seq (.block 0 (.label 44401))
 (.seq (.block 2 (.label 44402))
 (.seq (yr [zf 33 2 6,
zl 34 33,
zm 35 34,
yF 36 1 6 35,
yL 37 36 35,
yM 38 4 35,
og (some 39) (.len (tt 38)) 35 false [],
og (some 40) (.bin .neq (tt 37) (tt 39)) 35 false [],
zq 41 35 40,
zm 42 41,
og (some 43) (.load 2 true false (tt 7)) 42 false [],
og (some 44) (.call 22800 0 [tt 43]) 42 false [],
og (some 45) (.un .not (tt 44)) 42 false [],
zq 46 42 45]
 (yw 46 (yr [oo 47 (.build [.sl (.own false) .int [], .sl (.own false) .stms []] []),
ys 2 2 47 [],
yo 3 false]
 .ret) .skip))
 (yr [yl 48 2 7,
ys 2 2 48 [],
yo 3 true]
 .ret)))))))))
def p44401 : ProcT := { kind := .loop, ins := [2, 4, 6, 7], bins := [100, 101, 102], outs := [2, 3, 4, 6, 7], bouts := [100, 101, 102], code := (.seq (yr [oo 18 (.call 33600 0 [tt 6, .const (.str ([98, 111, 120]))])]
 (yw 18 .skip (.exit 0)))
 (.block 1 (.seq (.region true [yf 19 0 7 [102],
op 20 (.load 1 false true (tt 19)) [102],
op 21 (.call 33900 0 [tt 6]) [101],
oo 22 (.buildS .full .int [tt 21]),
oo 23 (.app 1 (.take 20) (tt 22)),
yf 24 0 7 [102],
on (.store 1 (tt 24) (.take 23)) [102]])
 (rr [oo 25 (.call 33700 0 [tt 6, .const (.str [59])])])))) }
def p44402 : ProcT := { kind := .loop, ins := [2, 4, 6, 7], bins := [100, 101, 102], outs := [2, 3, 4, 6, 7], bouts := [100, 101, 102], code := (.seq (yr [oo 26 (.call 33600 0 [tt 6, .const (.str ([116, 97, 115, 107]))])]
 (yw 26 .skip (.exit 2)))
 (.block 3 (.region true [yf 27 1 7 [102],
op 28 (.load 1 false true (tt 27)) [102],
op 29 (.call 45500 0 [tt 6]) [101],
oo 30 (.buildS .full .stms [tt 29]),
oo 31 (.app 1 (.take 28) (tt 30)),
yf 32 1 7 [102],
on (.store 1 (tt 32) (.take 31)) [102]]))) }
def p44500 : ProcT := pF [0] [99] [.cell 2 2 true, .tmp 3] (yr [oo 2 (.alloc 100 [.tr .int none 0, .tr .stmsHH none 0]),
yo 3 false]
 (yr [zm 9 0,
ya 10 33400 0 9,
zm 8 10,
ye 11 0 8,
ye 12 1 8,
yt 4 11,
zm 5 12]
 (.seq (yr [zm 13 5,
oo 14 (.un .not (tt 13))]
 (yw 14 (yr [oo 15 (.build [.tr .int none 0, .tr .stmsHH none 0] []),
ys 2 2 15 [],
yo 3 false]
 .ret) .skip))
 (yr [zm 16 4,
oo 17 (.build [.sl (.own false) .str [], .int .i64 0, .bool false] [(0, 1, tt 16)]),
oo 6 (.alloc 101 [.sl (.own false) .str [], .int .i64 0, .bool false]),
ys 3 6 17 []]
 (yr [oo 7 (.alloc 102 [.tr .int none 0, .tr .stmsHH none 0])]
 (.seq (.block 0 (.label 44501))
 (.seq (.block 2 (.label 44502))
 (.seq (yr [zf 33 2 6,
zl 34 33,
zm 35 34,
yF 36 1 6 35,
yL 37 36 35,
yM 38 4 35,
og (some 39) (.len (tt 38)) 35 false [],
og (some 40) (.bin .neq (tt 37) (tt 39)) 35 false [],
zq 41 35 40,
zm 42 41,
og (some 43) (.load 2 true false (tt 7)) 42 false [],
og (some 44) (.tr (.call .view 22800 [tt 43])) 42 false [],
og (some 45) (.un .not (tt 44)) 42 false [],
zq 46 42 45]
 (yw 46 (yr [oo 47 (.build [.tr .int none 0, .tr .stmsHH none 0] []),
ys 2 2 47 [],
yo 3 false]
 .ret) .skip))
 (yr [yl 48 2 7,
ys 2 2 48 [],
yo 3 true]
 .ret)))))))))
def p44501 : ProcT := { kind := .loop, ins := [2, 4, 6, 7], bins := [100, 101, 102, 99], outs := [2, 3, 4, 6, 7], bouts := [100, 101, 102, 99], code := (.seq (yr [oo 18 (.call 33600 0 [tt 6, .const (.str ([98, 111, 120]))])]
 (yw 18 .skip (.exit 0)))
 (.block 1 (.seq (.region true [yf 19 0 7 [102],
yd 20 19 [102],
op 21 (.call 33900 0 [tt 6]) [101],
oo 22 (.buildS .full .int [tt 21]),
op 23 (.tr (.app 1 (tt 20) (tt 22))) [99],
yf 24 0 7 [102],
ys 1 24 23 [102]])
 (rr [oo 25 (.call 33700 0 [tt 6, .const (.str [59])])])))) }
def p44502 : ProcT := { kind := .loop, ins := [2, 4, 6, 7], bins := [100, 101, 102, 99], outs := [2, 3, 4, 6, 7], bouts := [100, 101, 102, 99], code := (.seq (yr [oo 26 (.call 33600 0 [tt 6, .const (.str ([116, 97, 115, 107]))])]
 (yw 26 .skip (.exit 2)))
 (.block 3 (.region true [yf 27 1 7 [102],
yd 28 27 [102],
op 29 (.tr (.call .pass 45600 [tt 6])) [101, 99],
oo 30 (.buildS .full .stmsHH [tt 29]),
op 31 (.tr (.app 1 (tt 28) (tt 30))) [99],
yf 32 1 7 [102],
ys 1 32 31 [102]]))) }
def p44600 : ProcT := pF [0, 1] [] [.tmp 4] (yr [oo 2 (.box 100 (tt 0)),
yn 4 0]
 (yr [zf 5 0 2,
zl 6 5,
zm 7 1,
yb 8 10600 0 6 7,
zm 1 8]
 (.seq (yr [zm 9 1,
zb 10 .lss 9 0]
 (yw 10 (yr [oo 4 (.mv (nn (-1)))]
 .ret) .skip))
 (yr [zf 11 1 2,
zl 12 11,
zm 13 1,
yb 14 45700 0 12 13,
zm 1 14]
 (.seq (yr [zm 15 1,
zb 16 .lss 15 0]
 (yw 16 (yr [oo 4 (.mv (nn (-1)))]
 .ret) .skip))
 (yr [zm 17 1,
zm 4 17]
 .ret))))))
def p45200 : ProcT := pF [0, 1, 2] [] [.tmp 6] (yr [yo 6 false]
 (yr [zm 7 1,
zb 8 .geq 7 0,
zm 9 8,
zM 10 1 9,
zM 11 0 9,
zG 12 (.len (tt 11)) 9,
zg 13 .lss 10 12 9,
zp 14 9 13,
zm 15 14,
zM 16 0 15,
zM 17 1 15,
yI 18 1 16 17 15,
zL 19 18 15,
zM 20 2 15,
zg 21 .eql 19 20 15,
zp 22 15 21,
zm 6 22]
 .ret))
def p45300 : ProcT := pF [0, 1] [] [.tmp 4] (yr [yn 4 0]
 (.seq (yr [zm 5 1,
zm 6 0,
zc 7 6,
zt 8 .geq 5 7]
 (yw 8 (yr [oo 4 (.mv (nn (-1)))]
 .ret) .skip))
 (yr [zm 9 0,
zm 10 1,
yi 11 1 9 10,
zl 12 11,
ya 13 32300 0 12,
zm 4 13]
 .ret)))
def p45400 : ProcT := pF [0, 1] [] [.tmp 4, .tmp 5] (yr [oo 4 (.mv (.const (.sl (.own false) .stm []))),
yn 5 0]
 (yr [oo 9 (.buildS (.own true) .stm []),
yt 6 9]
 (.seq (yr [zm 10 0,
zm 11 1,
oo 12 (.call 45200 0 [tt 10, tt 11, .const (.str [123])]),
oo 13 (.un .not (tt 12))]
 (yw 13 (yr [zm 14 6,
yt 4 14,
oo 5 (.mv (nn (-1)))]
 .ret) .skip))
 (yr [zm 15 1,
zb 16 .add 15 1,
zm 1 16]
 (.seq (.block 0 (.label 45401))
 (.seq (yr [zm 43 0,
zm 44 1,
oo 45 (.call 45200 0 [tt 43, tt 44, .const (.str [125])]),
oo 46 (.un .not (tt 45))]
 (yw 46 (yr [oo 47 (.buildS (.own false) .stm []),
yt 4 47,
oo 5 (.mv (nn (-1)))]
 .ret) .skip))
 (yr [zm 48 6,
zm 49 1,
zb 50 .add 49 1,
yt 4 48,
zm 5 50]
 .ret)))))))
def p45401 : ProcT := { kind := .loop, ins := [0, 1, 6], bins := [], outs := [0, 1, 4, 5, 6], bouts := [], code := (.seq (yr [zm 17 1,
zb 18 .geq 17 0,
zm 19 18,
zM 20 1 19,
zM 21 0 19,
zG 22 (.len (tt 21)) 19,
zg 23 .lss 20 22 19,
zp 24 19 23,
zm 25 24,
zM 26 0 25,
zM 27 1 25,
yI 28 1 26 27 25,
zL 29 28 25,
zG 30 (.bin .neq (tt 29) (.const (.str [125]))) 25,
zp 31 25 30]
 (yw 31 .skip (.exit 0)))
 (.block 1 (yr [zm 33 0,
zm 34 1,
yb 35 46000 0 33 34,
zm 32 35,
ye 36 0 32,
ye 37 1 32,
oo 7 (.alloc 100 [.int .i64 0, .int .i64 0, .int .i64 0, .int .i64 0, .int .i64 0, .sl (.own false) .exp [], .sl (.own false) .stm [], .sl (.own false) .stm []]),
ys 8 7 36 [],
zm 8 37]
 (yr [yt 38 6,
yl 39 8 7,
oo 40 (.buildS .full .stm [tt 39]),
oo 41 (.app 8 (.take 38) (tt 40)),
yt 6 41]
 (rr [zm 42 8,
zm 1 42]))))) }
def p45500 : ProcT := pF [0] [0] [.tmp 2] (yr [oo 2 (.mv (.const (.sl (.own false) .stm [])))]
 (yr [oo 3 (.mv (.const (.sl (.own false) .stm [])))]
 (yr [zm 4 0,
oo 5 (.call 33700 0 [tt 4, .const (.str [123])])]
 (.seq (.block 0 (.label 45501))
 (yr [yt 21 3,
yt 2 21]
 .ret)))))
def p45501 : ProcT := { kind := .loop, ins := [0, 3], bins := [0], outs := [0, 2, 3], bouts := [0], code := (.seq (yr [zm 6 0,
yc 7 6,
zf 8 2 7,
zl 9 8,
oo 10 (.un .not (tt 9)),
zm 11 10,
zM 12 0 11,
zG 13 (.call 33600 0 [tt 12, .const (.str [125])]) 11,
zG 14 (.un .not (tt 13)) 11,
zp 15 11 14]
 (yw 15 .skip (.exit 0)))
 (.block 1 (rr [yt 16 3,
zm 17 0,
ya 18 46100 0 17,
oo 19 (.buildS .full .stm [tt 18]),
oo 20 (.app 8 (.take 16) (tt 19)),
yt 3 20]))) }
def p45600 : ProcT := pF [0] [0, 99] [.tmp 2] (yr [oo 2 (.mv (.const (.tr .stmH none 0)))]
 (yr [oo 3 (.mv (.const (.tr .stmH none 0)))]
 (yr [zm 4 0,
oo 5 (.call 33700 0 [tt 4, .const (.str [123])])]
 (.seq (.block 0 (.label 45601))
 (yr [zm 21 3,
zm 2 21]
 .ret)))))
def p45601 : ProcT := { kind := .loop, ins := [0, 3], bins := [0, 99], outs := [0, 2, 3], bouts := [0, 99], code := (.seq (yr [zm 6 0,
yc 7 6,
zf 8 2 7,
zl 9 8,
oo 10 (.un .not (tt 9)),
zm 11 10,
zM 12 0 11,
zG 13 (.call 33600 0 [tt 12, .const (.str [125])]) 11,
zG 14 (.un .not (tt 13)) 11,
zp 15 11 14]
 (yw 15 .skip (.exit 0)))
 (.block 1 (rr [zm 16 3,
zm 17 0,
oo 18 (.tr (.call .pass 46200 [tt 17])),
oo 19 (.buildS .full .stmH [tt 18]),
oo 20 (.tr (.app 8 (tt 16) (tt 19))),
zm 3 20]))) }
def p45700 : ProcT := pF [0, 1] [] [.tmp 4] (yr [yn 4 0]
 (.seq (yr [yn 5 0]
 (.block 0 (.label 45701)))
 (yr [zm 20 1,
zm 4 20]
 .ret)))
def p45701 : ProcT := { kind := .loop, ins := [0, 1, 5], bins := [], outs := [1, 4], bouts := [], code := (.seq (yr [zm 6 5,
zm 7 0,
zc 8 7,
zt 9 .lss 6 8]
 (yw 9 .skip (.exit 0)))
 (.seq (.block 1 (yr [zm 12 0,
zm 13 5,
yi 14 1 12 13,
zl 15 14,
zm 16 1,
yb 17 10800 0 15 16,
zm 1 17]
 (yr [zm 18 1,
zb 19 .lss 18 0]
 (yw 19 (yr [oo 4 (.mv (nn (-1)))]
 .ret) .skip))))
 (rr [zm 10 5,
zb 11 .add 10 1,
zm 5 11]))) }
def p46000 : ProcT := pF [0, 1] [] [.cell 4 8 true, .tmp 5] (yr [oo 4 (.alloc 100 [.int .i64 0, .int .i64 0, .int .i64 0, .int .i64 0, .int .i64 0, .sl (.own false) .exp [], .sl (.own false) .stm [], .sl (.own false) .stm []]),
yn 5 0]
 (yr [oo 13 (.build [.int .i64 0, .int .i64 0, .int .i64 0, .int .i64 0, .int .i64 0, .sl (.own false) .exp [], .sl (.own false) .stm [], .sl (.own false) .stm []] []),
oo 6 (.alloc 101 [.int .i64 0, .int .i64 0, .int .i64 0, .int .i64 0, .int .i64 0, .sl (.own false) .exp [], .sl (.own false) .stm [], .sl (.own false) .stm []]),
ys 8 6 13 []]
 (.seq (.block 0 (yr [zm 15 0,
zm 16 1,
oo 17 (.call 45200 0 [tt 15, tt 16, .const (.str ([105, 102]))]),
zm 14 17]
 (yw 14 (yr [zm 18 0,
zm 19 1,
zb 20 .add 19 1,
oo 21 (.call 46500 0 [tt 18, tt 20, nn 2]),
ye 22 0 21,
ye 23 1 21,
ys 8 4 22 [],
zm 5 23]
 .ret) (yr [zm 25 0,
zm 26 1,
oo 27 (.call 45200 0 [tt 25, tt 26, .const (.str ([119, 104, 105, 108, 101]))]),
zm 24 27]
 (yw 24 (yr [zm 28 0,
zm 29 1,
zb 30 .add 29 1,
oo 31 (.call 46500 0 [tt 28, tt 30, nn 3]),
ye 32 0 31,
ye 33 1 31,
ys 8 4 32 [],
zm 5 33]
 .ret) (yr [zm 35 0,
zm 36 1,
oo 37 (.call 45200 0 [tt 35, tt 36, .const (.str ([121, 105, 101, 108, 100]))]),
zm 38 37,
zM 39 0 38,
zM 40 1 38,
zn 41 .add 40 1 38,
zG 42 (.call 45200 0 [tt 39, tt 41, .const (.str [59])]) 38,
zp 43 38 42,
zm 34 43]
 (yw 34 (yr [oo 44 (.build [.int .i64 0, .int .i64 0, .int .i64 0, .int .i64 0, .int .i64 0, .sl (.own false) .exp [], .sl (.own false) .stm [], .sl (.own false) .stm []] [(0, 1, nn 6)]),
zm 45 1,
zb 46 .add 45 2,
ys 8 4 44 [],
zm 5 46]
 .ret) (yr [zm 48 0,
zm 49 1,
oo 50 (.call 45200 0 [tt 48, tt 49, .const (.str ([112, 114, 105, 110, 116]))]),
zm 47 50]
 (yw 47 (yr [zm 52 0,
zm 53 1,
zb 54 .add 53 1,
yb 55 46600 0 52 54,
zm 51 55,
ye 56 0 51,
ye 57 1 51,
oo 7 (.alloc 102 [.int .i64 0, .int .i64 0, .sl (.own false) .exp []]),
ys 3 7 56 [],
zm 8 57]
 (yr [yl 58 3 7,
oo 59 (.build [.int .i64 0, .int .i64 0, .int .i64 0, .int .i64 0, .int .i64 0, .sl (.own false) .exp [], .sl (.own false) .stm [], .sl (.own false) .stm []] [(0, 1, nn 7), (3, 3, tt 58)]),
zm 60 8,
ys 8 4 59 [],
zm 5 60]
 .ret)) (yr [zm 62 0,
zm 63 1,
oo 64 (.call 45200 0 [tt 62, tt 63, .const (.str ([115, 101, 110, 100]))]),
zm 65 64,
zM 66 0 65,
zM 67 1 65,
zn 68 .add 67 1 65,
zG 69 (.call 45300 0 [tt 66, tt 68]) 65,
zn 70 .geq 69 0 65,
zp 71 65 70,
zm 61 71]
 (yw 61 (yr [zm 73 0,
zm 74 1,
zb 75 .add 74 2,
yb 76 46600 0 73 75,
zm 72 76,
ye 77 0 72,
ye 78 1 72,
oo 9 (.alloc 103 [.int .i64 0, .int .i64 0, .sl (.own false) .exp []]),
ys 3 9 77 [],
zm 10 78]
 (.seq (.region true [zm 79 0,
zm 80 1,
zb 81 .add 80 1,
yb 82 45300 0 79 81,
op 83 (.load 3 true false (tt 9)) [103],
oo 84 (.build [.int .i64 0, .int .i64 0, .int .i64 0, .int .i64 0, .int .i64 0, .sl (.own false) .exp [], .sl (.own false) .stm [], .sl (.own false) .stm []] [(0, 1, nn 4), (2, 1, tt 82), (3, 3, tt 83)]),
zm 85 10,
ys 8 4 84 [100],
zm 5 85])
 .ret)) (yr [zm 87 0,
zm 88 1,
oo 89 (.call 45200 0 [tt 87, tt 88, .const (.str ([114, 101, 99, 118]))]),
zm 90 89,
zM 91 0 90,
zM 92 1 90,
zn 93 .add 92 1 90,
zG 94 (.call 45300 0 [tt 91, tt 93]) 90,
zn 95 .geq 94 0 90,
zp 96 90 95,
zm 97 96,
zM 98 0 97,
zM 99 1 97,
zn 100 .add 99 3 97,
zG 101 (.call 45200 0 [tt 98, tt 100, .const (.str [59])]) 97,
zp 102 97 101,
zm 86 102]
 (yw 86 (.seq (yr [zm 103 0,
zm 104 1,
zb 105 .add 104 2,
yi 106 1 103 105,
zl 107 106,
ya 108 32500 0 107,
zb 109 .lss 108 0]
 (yw 109 (yr [yl 110 8 6,
ys 8 4 110 [],
oo 5 (.mv (nn (-1)))]
 .ret) .skip))
 (.seq (.region true [zm 111 0,
zm 112 1,
zb 113 .add 112 1,
yb 114 45300 0 111 113,
zm 115 0,
zm 116 1,
zb 117 .add 116 2,
yi 118 1 115 117,
zl 119 118,
ya 120 32500 0 119,
oo 121 (.build [.int .i64 0, .int .i64 0, .int .i64 0, .int .i64 0, .int .i64 0, .sl (.own false) .exp [], .sl (.own false) .stm [], .sl (.own false) .stm []] [(0, 1, nn 5), (2, 1, tt 114), (1, 1, tt 120)]),
zm 122 1,
zb 123 .add 122 4,
ys 8 4 121 [100],
zm 5 123])
 .ret)) (yr [zm 125 1,
zm 126 0,
zc 127 126,
zt 128 .lss 125 127,
zm 129 128,
zM 130 0 129,
zM 131 1 129,
yI 132 1 130 131 129,
zL 133 132 129,
zG 134 (.call 32500 0 [tt 133]) 129,
zn 135 .geq 134 0 129,
zp 136 129 135,
zm 137 136,
zM 138 0 137,
zM 139 1 137,
zn 140 .add 139 1 137,
zG 141 (.call 45200 0 [tt 138, tt 140, .const (.str [61])]) 137,
zp 142 137 141,
zm 124 142]
 (yw 124 (yr [zm 144 0,
zm 145 1,
zb 146 .add 145 2,
yb 147 46600 0 144 146,
zm 143 147,
ye 148 0 143,
ye 149 1 143,
oo 11 (.alloc 104 [.int .i64 0, .int .i64 0, .sl (.own false) .exp []]),
ys 3 11 148 [],
zm 12 149]
 (.seq (.region true [zm 150 0,
zm 151 1,
yi 152 1 150 151,
zl 153 152,
ya 154 32500 0 153,
op 155 (.load 3 true false (tt 11)) [104],
oo 156 (.build [.int .i64 0, .int .i64 0, .int .i64 0, .int .i64 0, .int .i64 0, .sl (.own false) .exp [], .sl (.own false) .stm [], .sl (.own false) .stm []] [(0, 1, nn 1), (1, 1, tt 154), (3, 3, tt 155)]),
zm 157 12,
ys 8 4 156 [100],
zm 5 157])
 .ret)) .skip)))))))))))))))
 (yr [yl 158 8 6,
ys 8 4 158 [],
oo 5 (.mv (nn (-1)))]
 .ret))))
def p46100 : ProcT := pF [0] [0] [.cell 2 8 true] (yr [oo 2 (.alloc 100 [.int .i64 0, .int .i64 0, .int .i64 0, .int .i64 0, .int .i64 0, .sl (.own false) .exp [], .sl (.own false) .stm [], .sl (.own false) .stm []])]
 (yr [oo 3 (.alloc 101 [.int .i64 0, .int .i64 0, .int .i64 0, .int .i64 0, .int .i64 0, .sl (.own false) .exp [], .sl (.own false) .stm [], .sl (.own false) .stm []])]
 (.seq (.block 0 (yr [zm 13 0,
oo 14 (.call 33600 0 [tt 13, .const (.str ([105, 102]))]),
zm 12 14]
 (yw 12 (yr [zm 15 0,
oo 16 (.call 34400 0 [tt 15, nn 1]),
oo 17 (.build [.int .i64 0, .int .i64 0, .int .i64 0, .int .i64 0, .int .i64 0, .sl (.own false) .exp [], .sl (.own false) .stm [], .sl (.own false) .stm []] [(0, 1, nn 2), (3, 3, tt 16)]),
ys 8 3 17 []]
 (yr [zm 18 0,
ya 19 45500 0 18,
zf 20 6 3,
on (.store 1 (tt 20) (.take 19)) []]
 (.seq (yr [zm 21 0,
oo 22 (.call 33600 0 [tt 21, .const (.str ([101, 108, 115, 101]))])]
 (yw 22 (rr [zm 23 0,
ya 24 45500 0 23,
zf 25 7 3,
on (.store 1 (tt 25) (.take 24)) []]) .skip))
 (yr [yl 26 8 3,
ys 8 2 26 []]
 .ret)))) (yr [zm 28 0,
oo 29 (.call 33600 0 [tt 28, .const (.str ([119, 104, 105, 108, 101]))]),
zm 27 29]
 (yw 27 (yr [zm 30 0,
oo 31 (.call 34400 0 [tt 30, nn 1]),
oo 32 (.build [.int .i64 0, .int .i64 0, .int .i64 0, .int .i64 0, .int .i64 0, .sl (.own false) .exp [], .sl (.own false) .stm [], .sl (.own false) .stm []] [(0, 1, nn 3), (3, 3, tt 31)]),
ys 8 3 32 []]
 (yr [zm 33 0,
ya 34 45500 0 33,
zf 35 6 3,
on (.store 1 (tt 35) (.take 34)) []]
 (yr [yl 36 8 3,
ys 8 2 36 []]
 .ret))) (yr [zm 38 0,
oo 39 (.call 33600 0 [tt 38, .const (.str ([115, 101, 110, 100]))]),
zm 37 39]
 (yw 37 (yr [zm 40 0,
ya 41 33900 0 40,
oo 42 (.build [.int .i64 0, .int .i64 0, .int .i64 0, .int .i64 0, .int .i64 0, .sl (.own false) .exp [], .sl (.own false) .stm [], .sl (.own false) .stm []] [(0, 1, nn 4), (2, 1, tt 41)]),
ys 8 3 42 []]
 (rr [zm 43 0,
oo 44 (.call 34400 0 [tt 43, nn 1]),
zf 45 3 3,
ys 3 45 44 []])) (yr [zm 47 0,
oo 48 (.call 33600 0 [tt 47, .const (.str ([114, 101, 99, 118]))]),
zm 46 48]
 (yw 46 (yr [zm 49 0,
ya 50 33900 0 49,
oo 51 (.build [.int .i64 0, .int .i64 0, .int .i64 0, .int .i64 0, .int .i64 0, .sl (.own false) .exp [], .sl (.own false) .stm [], .sl (.own false) .stm []] [(0, 1, nn 5), (2, 1, tt 50)]),
ys 8 3 51 []]
 (rr [zm 52 0,
ya 53 34000 0 52,
zf 54 1 3,
ys 1 54 53 []])) (yr [zm 56 0,
oo 57 (.call 33600 0 [tt 56, .const (.str ([121, 105, 101, 108, 100]))]),
zm 55 57]
 (yw 55 (rr [oo 58 (.build [.int .i64 0, .int .i64 0, .int .i64 0, .int .i64 0, .int .i64 0, .sl (.own false) .exp [], .sl (.own false) .stm [], .sl (.own false) .stm []] [(0, 1, nn 6)]),
ys 8 3 58 []]) (yr [zm 60 0,
oo 61 (.call 33600 0 [tt 60, .const (.str ([112, 114, 105, 110, 116]))]),
zm 59 61]
 (yw 59 (rr [zm 62 0,
oo 63 (.call 34400 0 [tt 62, nn 1]),
oo 64 (.build [.int .i64 0, .int .i64 0, .int .i64 0, .int .i64 0, .int .i64 0, .sl (.own false) .exp [], .sl (.own false) .stm [], .sl (.own false) .stm []] [(0, 1, nn 7), (3, 3, tt 63)]),
ys 8 3 64 []]) (yr [zm 4 0,
ya 5 34000 0 4,
oo 6 (.build [.int .i64 0, .int .i64 0, .int .i64 0, .int .i64 0, .int .i64 0, .sl (.own false) .exp [], .sl (.own false) .stm [], .sl (.own false) .stm []] [(0, 1, nn 1), (1, 1, tt 5)]),
ys 8 3 6 []]
 (yr [zm 7 0,
oo 8 (.call 33700 0 [tt 7, .const (.str [61])])]
 (rr [zm 9 0,
oo 10 (.call 34400 0 [tt 9, nn 1]),
zf 11 3 3,
ys 3 11 10 []]))))))))))))))))
 (yr [zm 65 0,
oo 66 (.call 33700 0 [tt 65, .const (.str [59])])]
 (yr [yl 67 8 3,
ys 8 2 67 []]
 .ret)))))
def p46200 : ProcT := pF [0] [0, 99] [.cell 2 8 true] (yr [oo 2 (.alloc 100 [.int .i64 0, .int .i64 0, .int .i64 0, .int .i64 0, .int .i64 0, .tr .expH none 0, .tr .stmH none 0, .tr .stmH none 0])]
 (yr [oo 3 (.alloc 101 [.int .i64 0, .int .i64 0, .int .i64 0, .int .i64 0, .int .i64 0, .tr .expH none 0, .tr .stmH none 0, .tr .stmH none 0])]
 (.seq (.block 0 (yr [zm 13 0,
oo 14 (.call 33600 0 [tt 13, .const (.str ([105, 102]))]),
zm 12 14]
 (yw 12 (yr [zm 15 0,
oo 16 (.tr (.call .pass 43800 [tt 15, nn 1])),
oo 17 (.build [.int .i64 0, .int .i64 0, .int .i64 0, .int .i64 0, .int .i64 0, .tr .expH none 0, .tr .stmH none 0, .tr .stmH none 0] [(0, 1, nn 2), (3, 3, tt 16)]),
ys 8 3 17 []]
 (yr [zm 18 0,
oo 19 (.tr (.call .pass 45600 [tt 18])),
zf 20 6 3,
ys 1 20 19 []]
 (.seq (yr [zm 21 0,
oo 22 (.call 33600 0 [tt 21, .const (.str ([101, 108, 115, 101]))])]
 (yw 22 (rr [zm 23 0,
oo 24 (.tr (.call .pass 45600 [tt 23])),
zf 25 7 3,
ys 1 25 24 []]) .skip))
 (yr [yl 26 8 3,
ys 8 2 26 []]
 .ret)))) (yr [zm 28 0,
oo 29 (.call 33600 0 [tt 28, .const (.str ([119, 104, 105, 108, 101]))]),
zm 27 29]
 (yw 27 (yr [zm 30 0,
oo 31 (.tr (.call .pass 43800 [tt 30, nn 1])),
oo 32 (.build [.int .i64 0, .int .i64 0, .int .i64 0, .int .i64 0, .int .i64 0, .tr .expH none 0, .tr .stmH none 0, .tr .stmH none 0] [(0, 1, nn 3), (3, 3, tt 31)]),
ys 8 3 32 []]
 (yr [zm 33 0,
oo 34 (.tr (.call .pass 45600 [tt 33])),
zf 35 6 3,
ys 1 35 34 []]
 (yr [yl 36 8 3,
ys 8 2 36 []]
 .ret))) (yr [zm 38 0,
oo 39 (.call 33600 0 [tt 38, .const (.str ([115, 101, 110, 100]))]),
zm 37 39]
 (yw 37 (yr [zm 40 0,
ya 41 33900 0 40,
oo 42 (.build [.int .i64 0, .int .i64 0, .int .i64 0, .int .i64 0, .int .i64 0, .tr .expH none 0, .tr .stmH none 0, .tr .stmH none 0] [(0, 1, nn 4), (2, 1, tt 41)]),
ys 8 3 42 []]
 (rr [zm 43 0,
oo 44 (.tr (.call .pass 43800 [tt 43, nn 1])),
zf 45 3 3,
ys 3 45 44 []])) (yr [zm 47 0,
oo 48 (.call 33600 0 [tt 47, .const (.str ([114, 101, 99, 118]))]),
zm 46 48]
 (yw 46 (yr [zm 49 0,
ya 50 33900 0 49,
oo 51 (.build [.int .i64 0, .int .i64 0, .int .i64 0, .int .i64 0, .int .i64 0, .tr .expH none 0, .tr .stmH none 0, .tr .stmH none 0] [(0, 1, nn 5), (2, 1, tt 50)]),
ys 8 3 51 []]
 (rr [zm 52 0,
ya 53 34000 0 52,
zf 54 1 3,
ys 1 54 53 []])) (yr [zm 56 0,
oo 57 (.call 33600 0 [tt 56, .const (.str ([121, 105, 101, 108, 100]))]),
zm 55 57]
 (yw 55 (rr [oo 58 (.build [.int .i64 0, .int .i64 0, .int .i64 0, .int .i64 0, .int .i64 0, .tr .expH none 0, .tr .stmH none 0, .tr .stmH none 0] [(0, 1, nn 6)]),
ys 8 3 58 []]) (yr [zm 60 0,
oo 61 (.call 33600 0 [tt 60, .const (.str ([112, 114, 105, 110, 116]))]),
zm 59 61]
 (yw 59 (rr [zm 62 0,
oo 63 (.tr (.call .pass 43800 [tt 62, nn 1])),
oo 64 (.build [.int .i64 0, .int .i64 0, .int .i64 0, .int .i64 0, .int .i64 0, .tr .expH none 0, .tr .stmH none 0, .tr .stmH none 0] [(0, 1, nn 7), (3, 3, tt 63)]),
ys 8 3 64 []]) (yr [zm 4 0,
ya 5 34000 0 4,
oo 6 (.build [.int .i64 0, .int .i64 0, .int .i64 0, .int .i64 0, .int .i64 0, .tr .expH none 0, .tr .stmH none 0, .tr .stmH none 0] [(0, 1, nn 1), (1, 1, tt 5)]),
ys 8 3 6 []]
 (yr [zm 7 0,
oo 8 (.call 33700 0 [tt 7, .const (.str [61])])]
 (rr [zm 9 0,
oo 10 (.tr (.call .pass 43800 [tt 9, nn 1])),
zf 11 3 3,
ys 3 11 10 []]))))))))))))))))
 (yr [zm 65 0,
oo 66 (.call 33700 0 [tt 65, .const (.str [59])])]
 (yr [yl 67 8 3,
ys 8 2 67 []]
 .ret)))))
def p46500 : ProcT := pF [0, 1, 2] [] [.cell 6 8 true, .tmp 7] (yr [oo 6 (.alloc 100 [.int .i64 0, .int .i64 0, .int .i64 0, .int .i64 0, .int .i64 0, .sl (.own false) .exp [], .sl (.own false) .stm [], .sl (.own false) .stm []]),
yn 7 0]
 (yr [zm 16 0,
zm 17 1,
oo 18 (.call 32900 0 [tt 16, tt 17, nn 1]),
zm 15 18,
ye 19 0 15,
ye 20 1 15,
oo 8 (.alloc 101 [.int .i64 0, .int .i64 0, .sl (.own false) .exp []]),
ys 3 8 19 [],
zm 9 20]
 (.seq (yr [zm 21 9,
zb 22 .lss 21 0]
 (yw 22 (yr [oo 23 (.build [.int .i64 0, .int .i64 0, .int .i64 0, .int .i64 0, .int .i64 0, .sl (.own false) .exp [], .sl (.own false) .stm [], .sl (.own false) .stm []] []),
ys 8 6 23 [],
oo 7 (.mv (nn (-1)))]
 .ret) .skip))
 (yr [zm 25 0,
zm 26 9,
yb 27 45400 0 25 26,
zm 24 27,
ye 28 0 24,
ye 29 1 24,
yt 10 28,
zm 11 29]
 (yr [zm 30 2,
yl 31 3 8,
zm 32 10,
oo 33 (.buildS (.own false) .stm []),
oo 34 (.build [.int .i64 0, .int .i64 0, .int .i64 0, .int .i64 0, .int .i64 0, .sl (.own false) .exp [], .sl (.own false) .stm [], .sl (.own false) .stm []] [(0, 1, tt 30), (3, 3, tt 31), (6, 1, tt 32), (7, 1, tt 33)]),
oo 12 (.alloc 102 [.int .i64 0, .int .i64 0, .int .i64 0, .int .i64 0, .int .i64 0, .sl (.own false) .exp [], .sl (.own false) .stm [], .sl (.own false) .stm []]),
ys 8 12 34 []]
 (.seq (yr [zm 35 2,
zb 36 .eql 35 2,
zm 37 36,
zM 38 0 37,
zM 39 11 37,
zG 40 (.call 45200 0 [tt 38, tt 39, .const (.str ([101, 108, 115, 101]))]) 37,
zp 41 37 40]
 (yw 41 (yr [zm 43 0,
zm 44 11,
zb 45 .add 44 1,
yb 46 45400 0 43 45,
zm 42 46,
ye 47 0 42,
ye 48 1 42,
yt 13 47,
zm 14 48]
 (yr [zm 49 13,
zf 50 7 12,
on (.store 1 (tt 50) (.take 49)) []]
 (yr [yl 51 8 12,
zm 52 14,
ys 8 6 51 [],
zm 7 52]
 .ret))) .skip))
 (yr [yl 53 8 12,
zm 54 11,
ys 8 6 53 [],
zm 7 54]
 .ret)))))))
def p46600 : ProcT := pF [0, 1] [] [.cell 4 3 true, .tmp 5] (yr [oo 4 (.alloc 100 [.int .i64 0, .int .i64 0, .sl (.own false) .exp []]),
yn 5 0]
 (yr [zm 9 0,
zm 10 1,
oo 11 (.call 32900 0 [tt 9, tt 10, nn 1]),
zm 8 11,
ye 12 0 8,
ye 13 1 8,
oo 6 (.alloc 101 [.int .i64 0, .int .i64 0, .sl (.own false) .exp []]),
ys 3 6 12 [],
zm 7 13]
 (.seq (yr [zm 14 0,
zm 15 7,
oo 16 (.call 45200 0 [tt 14, tt 15, .const (.str [59])]),
oo 17 (.un .not (tt 16))]
 (yw 17 (yr [oo 18 (.build [.int .i64 0, .int .i64 0, .sl (.own false) .exp []] []),
ys 3 4 18 [],
oo 5 (.mv (nn (-1)))]
 .ret) .skip))
 (yr [yl 19 3 6,
zm 20 7,
zb 21 .add 20 1,
ys 3 4 19 [],
zm 5 21]
 .ret))))
def p37500 : ProcT := { kind := .prim, ins := [], bins := [], code := .skip, pf := Vs.Qoj }
def p37600 : ProcT := { kind := .prim, ins := [], bins := [], code := .skip, pf := Vs.Qsj }
def p37700 : ProcT := { kind := .prim, ins := [], bins := [], code := .skip, pf := Vs.Qxa }
def tab : List (Nat × ProcT) := [(300, p300), (500, p500), (1000, p1000), (1100, p1100), (1200, p1200), (1600, p1600), (1700, p1700), (1800, p1800), (1900, p1900), (4000, p4000), (4001, p4001), (5200, p5200), (5300, p5300), (5301, p5301), (5400, p5400), (5700, p5700), (5800, p5800), (5900, p5900), (6000, p6000), (6100, p6100), (6200, p6200), (6201, p6201), (6300, p6300), (8000, p8000), (8001, p8001), (8100, p8100), (8200, p8200), (8300, p8300), (8301, p8301), (8400, p8400), (8401, p8401), (10600, p10600), (10601, p10601), (10700, p10700), (10701, p10701), (10800, p10800), (10801, p10801), (11100, p11100), (20700, p20700), (22700, p22700), (22701, p22701), (22800, p22800), (22801, p22801), (23100, p23100), (23101, p23101), (23200, p23200), (23201, p23201), (23300, p23300), (23301, p23301), (28800, p28800), (28801, p28801), (28900, p28900), (31800, p31800), (31801, p31801), (31900, p31900), (31901, p31901), (32000, p32000), (32100, p32100), (32200, p32200), (32201, p32201), (32300, p32300), (32301, p32301), (32400, p32400), (32500, p32500), (32501, p32501), (32600, p32600), (32700, p32700), (32800, p32800), (32801, p32801), (32900, p32900), (32901, p32901), (33100, p33100), (33200, p33200), (33300, p33300), (33301, p33301), (33302, p33302), (33303, p33303), (33400, p33400), (33401, p33401), (33500, p33500), (33600, p33600), (33700, p33700), (33800, p33800), (33900, p33900), (34000, p34000), (34100, p34100), (34200, p34200), (34201, p34201), (34300, p34300), (34400, p34400), (34401, p34401), (37500, p37500), (37600, p37600), (37700, p37700), (38700, p38700), (38701, p38701), (40900, p40900), (40901, p40901), (41300, p41300), (41301, p41301), (42100, p42100), (42900, p42900), (42901, p42901), (43800, p43800), (43801, p43801), (43900, p43900), (44000, p44000), (44300, p44300), (44301, p44301), (44302, p44302), (44400, p44400), (44401, p44401), (44402, p44402), (44500, p44500), (44501, p44501), (44502, p44502), (44600, p44600), (45200, p45200), (45300, p45300), (45400, p45400), (45401, p45401), (45500, p45500), (45501, p45501), (45600, p45600), (45601, p45601), (45700, p45700), (45701, p45701), (46000, p46000), (46100, p46100), (46200, p46200), (46500, p46500), (46600, p46600)]
abbrev Tb : Nat → Option ProcT := (Vs.look · tab)
@[reducible] def s300 : Sig := [⟨.ret, [.agg 3], [], [.h (.int .i64), .h (.int .i64), .h (.slm .exp)]⟩]
@[reducible] def Rk : Sig := [⟨.ret, [.one], [], [.h (.bool)]⟩]
@[reducible] def Rbi : Sig := [⟨.ret, [.one], [], [.h (.int .i64)]⟩]
@[reducible] def Rtt : Sig := [⟨.exit 0, [.one, .one], [], [.undef, .h (.int .i64)]⟩]
@[reducible] def s5300 : Sig := [⟨.ret, [.one], [.var 1], [.h (.bool), .h (.int .i64)]⟩]
@[reducible] def s5301 : Sig := [⟨.exit 0, [.one, .one], [.var 1], [.bp 0 0, .undef, .h (.int .i64)]⟩, ⟨.ret, [.one, .one], [.var 1], [.bp 0 0, .h (.bool), .h (.int .i64)]⟩]
@[reducible] def Rgs : Sig := [⟨.exit 0, [.one], [], [.undef]⟩, ⟨.ret, [.one], [], [.h (.bool)]⟩]
@[reducible] def Riz : Sig := [⟨.exit 0, [.one, .one], [], [.h (.int .i64), .undef]⟩, ⟨.ret, [.one, .one], [], [.h (.int .i64), .h (.int .i64)]⟩]
@[reducible] def Rpl : Sig := [⟨.ret, [.one], [], [.h (.str)]⟩]
@[reducible] def Rpm : Sig := [⟨.exit 0, [.one, .one], [], [.h (.sl .int), .undef]⟩, ⟨.ret, [.one, .one], [], [.h (.sl .int), .h (.bool)]⟩]
@[reducible] def Run : Sig := [⟨.exit 1, [.one], [], [.undef]⟩, ⟨.ret, [.one], [], [.h (.int .i64)]⟩]
@[reducible] def Rpn : Sig := [⟨.ret, [.tup 2], [], [.h (.sl .str), .h (.bool)]⟩]
@[reducible] def Rpo : Sig := [⟨.exit 0, [.one, .one, .one], [], [.undef, .undef, .h (.ownb .str)]⟩, ⟨.ret, [.one, .one, .one], [], [.h (.ownb .str), .h (.bool), .h (.ownb .str)]⟩]
@[reducible] def Ruo : Sig := [⟨.exit 0, [.one, .one], [], [.undef, .h (.int .i64)]⟩, ⟨.ret, [.one, .one], [], [.h (.int .i64), .h (.int .i64)]⟩]
@[reducible] def Rlk : Sig := [⟨.exit 0, [.one], [], [.undef]⟩, ⟨.ret, [.one], [], [.h (.int .i64)]⟩]
@[reducible] def Rll : Sig := [⟨.ret, [.tup 2], [], [.h (.agg .exp), .h (.int .i64)]⟩]
@[reducible] def Rup : Sig := [⟨.exit 0, [.one, .one, .one, .one], [.var 3, .var 3], [.bp 100 0, .undef, .bp 101 0, .h (.int .i64), .h (.int .i64), .h (.int .i64), .h (.ownb .exp), .h (.int .i64), .h (.int .i64), .h (.slm .exp)]⟩]
@[reducible] def Ruq : Sig := [⟨.exit 0, [.one, .one], [], [.h (.str), .undef]⟩, ⟨.ret, [.one, .one], [], [.h (.str), .h (.int .i64)]⟩]
@[reducible] def Rrh : Sig := [⟨.exit 2, [.one, .one, .one, .one, .one, .one], [], [.h (.str), .undef, .h (.int .i64), .fnl ([33100, 33200] : List Nat), .h (.int .i64), .h (.int .i64)]⟩]
@[reducible] def Rur : Sig := [⟨.exit 4, [.one, .one], [], [.h (.str), .undef]⟩, ⟨.ret, [.one, .one], [], [.h (.str), .h (.int .i64)]⟩]
@[reducible] def Rpp : Sig := [⟨.ret, [.one], [.var 3], [.h (.str), .h (.sl .str), .h (.int .i64), .h (.bool)]⟩]
@[reducible] def Rus : Sig := [⟨.ret, [.one], [.var 3], [.h (.bool), .h (.sl .str), .h (.int .i64), .h (.bool)]⟩]
@[reducible] def Rut : Sig := [⟨.ret, [.tup 0], [.var 3], [.h (.sl .str), .h (.int .i64), .h (.bool)]⟩]
@[reducible] def Rpq : Sig := [⟨.ret, [.one], [.var 3], [.h (.int .i64), .h (.sl .str), .h (.int .i64), .h (.bool)]⟩]
@[reducible] def Rpr : Sig := [⟨.ret, [.one], [.var 3], [.h (.agg .exp), .h (.sl .str), .h (.int .i64), .h (.bool)]⟩]
@[reducible] def Ruu : Sig := [⟨.exit 0, [.one, .one, .one], [.var 3, .var 3, .var 3], [.bp 0 0, .bp 100 0, .bp 101 0, .h (.sl .str), .h (.int .i64), .h (.bool), .h (.int .i64), .h (.int .i64), .h (.ownb .exp), .h (.int .i64), .h (.int .i64), .h (.slm .exp)]⟩]
@[reducible] def Ruv : Sig := [⟨.ret, [.tup 2], [], [.h (.int .i64), .undef]⟩]
@[reducible] def Rhf : Sig := [⟨.ret, [.one], [.ar], [.h (.int .i64), .h (.ar)]⟩]
@[reducible] def Rja : Sig := [⟨.exit 0, [.one, .one], [.ar], [.h (.int .i64), .undef, .h (.ar)]⟩]
@[reducible] def Rps : Sig := [⟨.ret, [.one], [.var 3, .ar], [.h (.agg .expH), .h (.sl .str), .h (.int .i64), .h (.bool), .h (.ar)]⟩]
@[reducible] def Ruw : Sig := [⟨.exit 0, [.one, .one, .one], [.var 3, .var 3, .var 3, .ar], [.bp 0 0, .bp 100 0, .bp 101 0, .h (.sl .str), .h (.int .i64), .h (.bool), .h (.int .i64), .h (.int .i64), .h (.tr .expH), .h (.int .i64), .h (.int .i64), .h (.tr .expH), .h (.ar)]⟩]
@[reducible] def Rpt : Sig := [⟨.ret, [.tup 2], [], [.h (.agg .prg), .h (.bool)]⟩]
@[reducible] def Rux : Sig := [⟨.exit 0, [.one, .one, .one, .one, .one, .one], [.var 2, .var 2, .var 2], [.bp 100 0, .undef, .bp 101 0, .h (.sl .str), .bp 102 0, .h (.int .i64), .h (.ownb .int), .h (.ownb .stms), .h (.ownb .int), .h (.ownb .stms), .h (.ownb .int), .h (.ownb .stms)]⟩]
@[reducible] def Ruy : Sig := [⟨.exit 2, [.one, .one, .one, .one, .one, .one], [.var 2, .var 2, .var 2], [.bp 100 0, .undef, .bp 101 0, .h (.sl .str), .bp 102 0, .h (.int .i64), .h (.ownb .int), .h (.ownb .stms), .h (.ownb .int), .h (.ownb .stms), .h (.ownb .int), .h (.ownb .stms)]⟩]
@[reducible] def Ruz : Sig := [⟨.exit 0, [.one, .one, .one, .one, .one], [.var 2, .var 3, .var 2], [.bp 100 0, .undef, .h (.sl .str), .bp 101 0, .bp 102 0, .h (.ownb .int), .h (.ownb .stms), .h (.sl .str), .h (.int .i64), .h (.bool), .h (.ownb .int), .h (.ownb .stms)]⟩]
@[reducible] def Rva : Sig := [⟨.exit 2, [.one, .one, .one, .one, .one], [.var 2, .var 3, .var 2], [.bp 100 0, .undef, .h (.sl .str), .bp 101 0, .bp 102 0, .h (.ownb .int), .h (.ownb .stms), .h (.sl .str), .h (.int .i64), .h (.bool), .h (.ownb .int), .h (.ownb .stms)]⟩]
@[reducible] def Rvb : Sig := [⟨.ret, [.tup 2], [.ar], [.h (.agg .prgH), .h (.bool), .h (.ar)]⟩]
@[reducible] def Rvc : Sig := [⟨.exit 0, [.one, .one, .one, .one, .one], [.var 2, .var 3, .var 2, .ar], [.bp 100 0, .undef, .h (.sl .str), .bp 101 0, .bp 102 0, .h (.tr .int), .h (.tr .stmsHH), .h (.sl .str), .h (.int .i64), .h (.bool), .h (.tr .int), .h (.tr .stmsHH), .h (.ar)]⟩]
@[reducible] def Rvd : Sig := [⟨.exit 2, [.one, .one, .one, .one, .one], [.var 2, .var 3, .var 2, .ar], [.bp 100 0, .undef, .h (.sl .str), .bp 101 0, .bp 102 0, .h (.tr .int), .h (.tr .stmsHH), .h (.sl .str), .h (.int .i64), .h (.bool), .h (.tr .int), .h (.tr .stmsHH), .h (.ar)]⟩]
@[reducible] def Rve : Sig := [⟨.ret, [.tup 2], [], [.h (.sl .stm), .h (.int .i64)]⟩]
@[reducible] def Rvf : Sig := [⟨.exit 0, [.one, .one, .one, .one, .one], [], [.h (.sl .str), .h (.int .i64), .undef, .undef, .h (.ownb .stm)]⟩]
@[reducible] def Rvg : Sig := [⟨.ret, [.one], [.var 3], [.h (.own .stm), .h (.sl .str), .h (.int .i64), .h (.bool)]⟩]
@[reducible] def Rvh : Sig := [⟨.exit 0, [.one, .one, .one], [.var 3], [.bp 0 0, .undef, .h (.ownb .stm), .h (.sl .str), .h (.int .i64), .h (.bool)]⟩]
@[reducible] def Rvi : Sig := [⟨.ret, [.one], [.var 3, .ar], [.h (.tr .stmH), .h (.sl .str), .h (.int .i64), .h (.bool), .h (.ar)]⟩]
@[reducible] def Rvj : Sig := [⟨.exit 0, [.one, .one, .one], [.var 3, .ar], [.bp 0 0, .undef, .h (.tr .stmH), .h (.sl .str), .h (.int .i64), .h (.bool), .h (.ar)]⟩]
@[reducible] def Rpu : Sig := [⟨.ret, [.tup 2], [], [.h (.agg .stm), .h (.int .i64)]⟩]
@[reducible] def Rvk : Sig := [⟨.ret, [.one], [.var 3], [.h (.agg .stm), .h (.sl .str), .h (.int .i64), .h (.bool)]⟩]
@[reducible] def Rvl : Sig := [⟨.ret, [.one], [.var 3, .ar], [.h (.agg .stmH), .h (.sl .str), .h (.int .i64), .h (.bool), .h (.ar)]⟩]
def sgs : List (Nat × Sig) := [(300, s300), (500, s300), (1000, Rk), (1100, Rk), (1200, Rk), (1600, Rk), (1700, Rk), (1800, Rk), (1900, Rk), (4000, Rbi), (4001, Rtt), (5200, Rk), (5300, s5300), (5301, s5301), (5400, Rk), (5700, Rk), (5800, Rk), (5900, Rk), (6000, Rk), (6100, Rk), (6200, Rk), (6201, Rgs), (6300, Rk), (8000, Rk), (8001, Rgs), (8100, Rk), (8200, Rk), (8300, Rk), (8301, Rgs), (8400, Rk), (8401, Rgs), (10600, Rbi), (10601, Riz), (10700, Rbi), (10701, Riz), (10800, Rbi), (10801, Riz), (11100, Rk), (20700, Rpl), (22700, Rk), (22701, Rpm), (22800, Rk), (22801, Rgs), (23100, Rk), (23101, Rgs), (23200, Rk), (23201, Rpm), (23300, Rk), (23301, Rgs), (28800, Rk), (28801, Rgs), (28900, Rk), (31800, Rbi), (31801, Run), (31900, Rbi), (31901, Rtt), (32000, Rk), (32100, Rbi), (32200, Rpn), (32201, Rpo), (32300, Rbi), (32301, Ruo), (32400, Rpl), (32500, Rbi), (32501, Rlk), (32600, Rll), (32700, Rbi), (32800, Rbi), (32801, Rlk), (32900, Rll), (32901, Rup), (33100, Rk), (33200, Rk), (33300, Rbi), (33301, Ruq), (33302, Rrh), (33303, Rur), (33400, Rpn), (33401, Rpo), (33500, Rpp), (33600, Rus), (33700, Rut), (33800, Rpp), (33900, Rpq), (34000, Rpq), (34100, Rpr), (34200, Rbi), (34201, Rlk), (34300, Rbi), (34400, Rpr), (34401, Ruu), (37500, Rk), (37600, Rbi), (37700, Ruv), (38700, Rhf), (38701, Rja), (40900, Rhf), (40901, Rja), (41300, Rhf), (41301, Rja), (42100, Rhf), (42900, Rhf), (42901, Rja), (43800, Rps), (43801, Ruw), (43900, Rps), (44000, Rk), (44300, Rpt), (44301, Rux), (44302, Ruy), (44400, Rpt), (44401, Ruz), (44402, Rva), (44500, Rvb), (44501, Rvc), (44502, Rvd), (44600, Rbi), (45200, Rk), (45300, Rbi), (45400, Rve), (45401, Rvf), (45500, Rvg), (45501, Rvh), (45600, Rvi), (45601, Rvj), (45700, Rbi), (45701, Riz), (46000, Rpu), (46100, Rvk), (46200, Rvl), (46500, Rpu), (46600, Rll)]
def sg (g : Nat) : Sig := (Vs.look g sgs).getD []
def GT (i : Nat) : List TV := if i = 0 then [.str [124], .str [94], .str [38], .str ([61, 61]), .str [60], .str ([60, 60]), .str ([62, 62]), .str [43], .str [45], .str [42], .str [47], .str [37]] else []
def laws_FnExactProgramFrom (a0 : List UInt8) : Option (Bool) := Qcw Tb GT Rk 44000 [.str a0] []
def Rbt (a0 : List UInt8) : Option (Prg × Bool) := Qcw Tb GT Rpt 44300 [.str a0] []
def Rfc (a0 : List UInt8) (A : List Ent) : Option (PrgH × Bool × List Ent) := Qcw Tb GT Rvb 44500 [.str a0] [.ar A]
def Reh (a0 : Prg) (a1 : Prg) : Option (Bool) := Qcw Tb GT Rk 28900 [.agg (rowT .prg a0), .agg (rowT .prg a1)] []
def Rfj (a0 : PrgH) (a1 : Int) (A : List Ent) : Option (Int × List Ent) := Qcw Tb GT Rhf 42100 [.agg (rowT .prgH a0), .int .i64 a1] [.ar A]
def Rdm (a0 : Prg) (a1 : Int) : Option (Int) := Qcw Tb GT Rbi 44600 [.agg (rowT .prg a0), .int .i64 a1] []
def Rbs (a0 : List UInt8) : Option (Prg × Bool) := Qcw Tb GT Rpt 44400 [.str a0] []
def Rku (a0 : List UInt8) : Option (List (List UInt8) × Bool) := Qcw Tb GT Rpn 32200 [.str a0] []
def Ra (a0 : List (List UInt8)) (a1 : Int) (a2 : List UInt8) : Option (Bool) := Qcw Tb GT Rk 45200 [.sl .share .str a0, .int .i64 a1, .str a2] []
def Rr (a0 : List (List UInt8)) (a1 : Int) : Option (Int) := Qcw Tb GT Rbi 45300 [.sl .share .str a0, .int .i64 a1] []
def Rv (t5 : List (List UInt8)) (t8 : Int) (b100_0b : Bool) (b100_0 : List Int) (b100_1b : Bool) (b100_1 : List (List Stm)) (b101_0b : Bool) (b101_0 : List Int) (b101_1b : Bool) (b101_1 : List (List Stm)) (b102_0b : Bool) (b102_0 : List Int) (b102_1b : Bool) (b102_1 : List (List Stm)) : Option (List (List UInt8) × Int × (Bool × List Int) × (Bool × List (List Stm)) × (Bool × List Int) × (Bool × List (List Stm)) × (Bool × List Int) × (Bool × List (List Stm))) := Qcw Tb GT Rux 44301 [.bp 100 0, .bp 101 0, .sl .share .str t5, .bp 102 0, .int .i64 t8] [.var [.sl (.own b100_0b) .int b100_0, .sl (.own b100_1b) .stms b100_1], .var [.sl (.own b101_0b) .int b101_0, .sl (.own b101_1b) .stms b101_1], .var [.sl (.own b102_0b) .int b102_0, .sl (.own b102_1b) .stms b102_1]]
def Rbm (a0 : List (List UInt8)) (a1 : Int) : Option (List Stm × Int) := Qcw Tb GT Rve 45400 [.sl .share .str a0, .int .i64 a1] []
def Rx (t5 : List (List UInt8)) (t8 : Int) (b100_0b : Bool) (b100_0 : List Int) (b100_1b : Bool) (b100_1 : List (List Stm)) (b101_0b : Bool) (b101_0 : List Int) (b101_1b : Bool) (b101_1 : List (List Stm)) (b102_0b : Bool) (b102_0 : List Int) (b102_1b : Bool) (b102_1 : List (List Stm)) : Option (List (List UInt8) × Int × (Bool × List Int) × (Bool × List (List Stm)) × (Bool × List Int) × (Bool × List (List Stm)) × (Bool × List Int) × (Bool × List (List Stm))) := Qcw Tb GT Ruy 44302 [.bp 100 0, .bp 101 0, .sl .share .str t5, .bp 102 0, .int .i64 t8] [.var [.sl (.own b100_0b) .int b100_0, .sl (.own b100_1b) .stms b100_1], .var [.sl (.own b101_0b) .int b101_0, .sl (.own b101_1b) .stms b101_1], .var [.sl (.own b102_0b) .int b102_0, .sl (.own b102_1b) .stms b102_1]]
def Rca (a0 : Prg) : Option (Bool) := Qcw Tb GT Rk 23300 [.agg (rowT .prg a0)] []
def Rim (a0 : List UInt8) : Option (List (List UInt8) × Bool) := Qcw Tb GT Rpn 33400 [.str a0] []
def Rb (a1 : List UInt8) (a0tokens : List (List UInt8)) (a0at : Int) (a0failed : Bool) : Option (Bool × List (List UInt8) × Int × Bool) := Qcw Tb GT Rus 33600 [.bp 0 0, .str a1] [.var [.sl .share .str a0tokens, .int .i64 a0at, .bool a0failed]]
def Rl (a0tokens : List (List UInt8)) (a0at : Int) (a0failed : Bool) : Option (Int × List (List UInt8) × Int × Bool) := Qcw Tb GT Rpq 33900 [.bp 0 0] [.var [.sl .share .str a0tokens, .int .i64 a0at, .bool a0failed]]
def Rc (a1 : List UInt8) (a0tokens : List (List UInt8)) (a0at : Int) (a0failed : Bool) : Option (List (List UInt8) × Int × Bool) := Qcw Tb GT Rut 33700 [.bp 0 0, .str a1] [.var [.sl .share .str a0tokens, .int .i64 a0at, .bool a0failed]]
def Rj (t4 : List (List UInt8)) (b100_0 : Hd) (b100_1 : Hd) (b101_0 : List (List UInt8)) (b101_1 : Int) (b101_2 : Bool) (b102_0 : Hd) (b102_1 : Hd) (b99 : List Ent) : Option (List (List UInt8) × Hd × Hd × List (List UInt8) × Int × Bool × Hd × Hd × List Ent) := Qcw Tb GT Rvc 44501 [.bp 100 0, .sl .share .str t4, .bp 101 0, .bp 102 0] [.var [.tr .int b100_0.id b100_0.n, .tr .stmsHH b100_1.id b100_1.n], .var [.sl .share .str b101_0, .int .i64 b101_1, .bool b101_2], .var [.tr .int b102_0.id b102_0.n, .tr .stmsHH b102_1.id b102_1.n], .ar b99]
def Rax (a0tokens : List (List UInt8)) (a0at : Int) (a0failed : Bool) (A : List Ent) : Option (Hd × List (List UInt8) × Int × Bool × List Ent) := Qcw Tb GT Rvi 45600 [.bp 0 0] [.var [.sl .share .str a0tokens, .int .i64 a0at, .bool a0failed], .ar A]
def Rac (t4 : List (List UInt8)) (b100_0 : Hd) (b100_1 : Hd) (b101_0 : List (List UInt8)) (b101_1 : Int) (b101_2 : Bool) (b102_0 : Hd) (b102_1 : Hd) (b99 : List Ent) : Option (List (List UInt8) × Hd × Hd × List (List UInt8) × Int × Bool × Hd × Hd × List Ent) := Qcw Tb GT Rvd 44502 [.bp 100 0, .sl .share .str t4, .bp 101 0, .bp 102 0] [.var [.tr .int b100_0.id b100_0.n, .tr .stmsHH b100_1.id b100_1.n], .var [.sl .share .str b101_0, .int .i64 b101_1, .bool b101_2], .var [.tr .int b102_0.id b102_0.n, .tr .stmsHH b102_1.id b102_1.n], .ar b99]
def Raz (a0 : Prg) : Option (Bool) := Qcw Tb GT Rk 22800 [.agg (rowT .prg a0)] []
def Rkn (a0 : List Int) (a1 : List Int) : Option (Bool) := Qcw Tb GT Rk 8400 [.sl .share .int a0, .sl .share .int a1] []
def Riq (a0 : List (List Stm)) (a1 : List (List Stm)) : Option (Bool) := Qcw Tb GT Rk 28800 [.sl .share .stms a0, .sl .share .stms a1] []
def Rfi (a0 : Hd) (a1 : Int) (A : List Ent) : Option (Int × List Ent) := Qcw Tb GT Rhf 38700 [.tr .int a0.id a0.n, .int .i64 a1] [.ar A]
def Rfv (a0 : Hd) (a1 : Int) (A : List Ent) : Option (Int × List Ent) := Qcw Tb GT Rhf 42900 [.tr .stmsHH a0.id a0.n, .int .i64 a1] [.ar A]
def Rir (a0 : List Int) (a1 : Int) : Option (Int) := Qcw Tb GT Rbi 10600 [.sl .share .int a0, .int .i64 a1] []
def Rhb (a0 : List (List Stm)) (a1 : Int) : Option (Int) := Qcw Tb GT Rbi 45700 [.sl .share .stms a0, .int .i64 a1] []
def Rn (t4 : List (List UInt8)) (b100_0b : Bool) (b100_0 : List Int) (b100_1b : Bool) (b100_1 : List (List Stm)) (b101_0 : List (List UInt8)) (b101_1 : Int) (b101_2 : Bool) (b102_0b : Bool) (b102_0 : List Int) (b102_1b : Bool) (b102_1 : List (List Stm)) : Option (List (List UInt8) × (Bool × List Int) × (Bool × List (List Stm)) × List (List UInt8) × Int × Bool × (Bool × List Int) × (Bool × List (List Stm))) := Qcw Tb GT Ruz 44401 [.bp 100 0, .sl .share .str t4, .bp 101 0, .bp 102 0] [.var [.sl (.own b100_0b) .int b100_0, .sl (.own b100_1b) .stms b100_1], .var [.sl .share .str b101_0, .int .i64 b101_1, .bool b101_2], .var [.sl (.own b102_0b) .int b102_0, .sl (.own b102_1b) .stms b102_1]]
def Rbb (a0tokens : List (List UInt8)) (a0at : Int) (a0failed : Bool) : Option (List Stm × List (List UInt8) × Int × Bool) := Qcw Tb GT Rvg 45500 [.bp 0 0] [.var [.sl .share .str a0tokens, .int .i64 a0at, .bool a0failed]]
def Ru (t4 : List (List UInt8)) (b100_0b : Bool) (b100_0 : List Int) (b100_1b : Bool) (b100_1 : List (List Stm)) (b101_0 : List (List UInt8)) (b101_1 : Int) (b101_2 : Bool) (b102_0b : Bool) (b102_0 : List Int) (b102_1b : Bool) (b102_1 : List (List Stm)) : Option (List (List UInt8) × (Bool × List Int) × (Bool × List (List Stm)) × List (List UInt8) × Int × Bool × (Bool × List Int) × (Bool × List (List Stm))) := Qcw Tb GT Rva 44402 [.bp 100 0, .sl .share .str t4, .bp 101 0, .bp 102 0] [.var [.sl (.own b100_0b) .int b100_0, .sl (.own b100_1b) .stms b100_1], .var [.sl .share .str b101_0, .int .i64 b101_1, .bool b101_2], .var [.sl (.own b102_0b) .int b102_0, .sl (.own b102_1b) .stms b102_1]]
def Rfz (a0 : Int) : Option (Int) := Qcw Tb GT Rbi 31800 [.int .u8 a0] []
def Rjw (a0 : List UInt8) (a1 : Int) : Option (Int) := Qcw Tb GT Rbi 32100 [.str a0, .int .i64 a1] []
def Rar (t0 : List UInt8) (t4b : Bool) (t4 : List (List UInt8)) (t5 : Int) : Option (((Bool × List (List UInt8))) ⊕ ((Bool × List (List UInt8)) × Bool × (Bool × List (List UInt8)))) := Qcw Tb GT Rpo 32201 [.str t0, .sl (.own t4b) .str t4, .int .i64 t5] []
def Rfn (a0 : List UInt8) : Option (Int) := Qcw Tb GT Rbi 32300 [.str a0] []
def Rdv (a0 : List (List UInt8)) (a1 : Int) : Option (Stm × Int) := Qcw Tb GT Rpu 46000 [.sl .share .str a0, .int .i64 a1] []
def Rbn (t0 : List (List UInt8)) (t1 : Int) (t6b : Bool) (t6 : List Stm) : Option (List (List UInt8) × Int × (Bool × List Stm)) := Qcw Tb GT Rvf 45401 [.sl .share .str t0, .int .i64 t1, .sl (.own t6b) .stm t6] []
def Riv (a0 : List Int) : Option (Bool) := Qcw Tb GT Rk 23200 [.sl .share .int a0] []
def Rej (a0 : Int) (a1 : Int) (a2 : Int) : Option (Bool) := Qcw Tb GT Rk 1600 [.int .i64 a0, .int .i64 a1, .int .i64 a2] []
def Rhh (a0 : List Stm) : Option (Bool) := Qcw Tb GT Rk 6300 [.sl .share .stm a0] []
def Raa (a0 : List Stm) (a1 : Int) : Option (Bool) := Qcw Tb GT Rk 23100 [.sl .share .stm a0, .int .i64 a1] []
def Rbv (t3 : Int) (b100_0 : List Int) (b100_1 : List (List Stm)) : Option (Unit ⊕ Bool) := Qcw Tb GT Rgs 23301 [.bp 100 0, .int .i64 t3] [.var [.sl .share .int b100_0, .sl .share .stms b100_1]]
def Rek (a0 : List UInt8) : Option (Int) := Qcw Tb GT Rbi 33300 [.str a0] []
def Rag (t0 : List UInt8) (t4b : Bool) (t4 : List (List UInt8)) (t5 : Int) : Option (((Bool × List (List UInt8))) ⊕ ((Bool × List (List UInt8)) × Bool × (Bool × List (List UInt8)))) := Qcw Tb GT Rpo 33401 [.str t0, .sl (.own t4b) .str t4, .int .i64 t5] []
def Raq (a0tokens : List (List UInt8)) (a0at : Int) (a0failed : Bool) : Option (List UInt8 × List (List UInt8) × Int × Bool) := Qcw Tb GT Rpp 33500 [.bp 0 0] [.var [.sl .share .str a0tokens, .int .i64 a0at, .bool a0failed]]
def Rcl (a0tokens : List (List UInt8)) (a0at : Int) (a0failed : Bool) : Option (List UInt8 × List (List UInt8) × Int × Bool) := Qcw Tb GT Rpp 33800 [.bp 0 0] [.var [.sl .share .str a0tokens, .int .i64 a0at, .bool a0failed]]
def Rex (a0 : Int) : Option (Bool) := Qcw Tb GT Rk 33100 [.int .u8 a0] []
def strconv_Atoi (a0 : List UInt8) : Option (Int) := Qcw Tb GT Ruv 37700 [.str a0] []
def Rbr (a0tokens : List (List UInt8)) (a0at : Int) (a0failed : Bool) (A : List Ent) : Option (StmH × List (List UInt8) × Int × Bool × List Ent) := Qcw Tb GT Rvl 46200 [.bp 0 0] [.var [.sl .share .str a0tokens, .int .i64 a0at, .bool a0failed], .ar A]
def Rai (t3 : Hd) (b0_0 : List (List UInt8)) (b0_1 : Int) (b0_2 : Bool) (b99 : List Ent) : Option (Hd × List (List UInt8) × Int × Bool × List Ent) := Qcw Tb GT Rvj 45601 [.bp 0 0, .tr .stmH t3.id t3.n] [.var [.sl .share .str b0_0, .int .i64 b0_1, .bool b0_2], .ar b99]
def Rgw (a0 : List Int) : Option (Bool) := Qcw Tb GT Rk 22700 [.sl .share .int a0] []
def Rgx (a0 : List Stm) (a1 : Int) : Option (Bool) := Qcw Tb GT Rk 5400 [.sl .share .stm a0, .int .i64 a1] []
def Rbu (t22 : List (List Stm)) (t23 : Int) (t24 : Int) (b100_0 : List Int) (b100_1 : List (List Stm)) : Option (Unit ⊕ Bool) := Qcw Tb GT Rgs 22801 [.bp 100 0, .sl .share .stms t22, .int .i64 t23, .int .i64 t24] [.var [.sl .share .int b100_0, .sl .share .stms b100_1]]
def Rgb (t0 : List Int) (t1 : List Int) (t5 : Int) : Option (Unit ⊕ Bool) := Qcw Tb GT Rgs 8401 [.sl .share .int t0, .sl .share .int t1, .int .i64 t5] []
def Rdf (a0 : List Stm) (a1 : List Stm) : Option (Bool) := Qcw Tb GT Rk 8300 [.sl .share .stm a0, .sl .share .stm a1] []
def Rel (t0 : List (List Stm)) (t1 : List (List Stm)) (t5 : Int) : Option (Unit ⊕ Bool) := Qcw Tb GT Rgs 28801 [.sl .share .stms t0, .sl .share .stms t1, .int .i64 t5] []
def Rdu (t0 : Hd) (t1 : Int) (t5 : Int) (b99 : List Ent) : Option (Int × List Ent) := Qcw Tb GT Rja 38701 [.tr .int t0.id t0.n, .int .i64 t1, .int .i64 t5] [.ar b99]
def Rdn (a0 : Hd) (a1 : Int) (A : List Ent) : Option (Int × List Ent) := Qcw Tb GT Rhf 40900 [.tr .stmH a0.id a0.n, .int .i64 a1] [.ar A]
def Rcz (t0 : Hd) (t1 : Int) (t5 : Int) (b99 : List Ent) : Option (Int × List Ent) := Qcw Tb GT Rja 42901 [.tr .stmsHH t0.id t0.n, .int .i64 t1, .int .i64 t5] [.ar b99]
def Rdl (t0 : List Int) (t1 : Int) (t5 : Int) : Option (Int ⊕ (Int × Int)) := Qcw Tb GT Riz 10601 [.sl .share .int t0, .int .i64 t1, .int .i64 t5] []
def Rei (a0 : List Stm) (a1 : Int) : Option (Int) := Qcw Tb GT Rbi 10800 [.sl .share .stm a0, .int .i64 a1] []
def Rcs (t0 : List (List Stm)) (t1 : Int) (t5 : Int) : Option (Int ⊕ (Int × Int)) := Qcw Tb GT Riz 45701 [.sl .share .stms t0, .int .i64 t1, .int .i64 t5] []
def Rck (a0tokens : List (List UInt8)) (a0at : Int) (a0failed : Bool) : Option (Stm × List (List UInt8) × Int × Bool) := Qcw Tb GT Rvk 46100 [.bp 0 0] [.var [.sl .share .str a0tokens, .int .i64 a0at, .bool a0failed]]
def Rah (t3b : Bool) (t3 : List Stm) (b0_0 : List (List UInt8)) (b0_1 : Int) (b0_2 : Bool) : Option ((Bool × List Stm) × List (List UInt8) × Int × Bool) := Qcw Tb GT Rvh 45501 [.bp 0 0, .sl (.own t3b) .stm t3] [.var [.sl .share .str b0_0, .int .i64 b0_1, .bool b0_2]]
def Rbx (t0 : Int) (t3 : List UInt8) (t4 : Int) : Option (Unit ⊕ Int) := Qcw Tb GT Run 31801 [.int .u8 t0, .str t3, .int .i64 t4] []
def Rij (a0 : List UInt8) (a1 : Int) : Option (Int) := Qcw Tb GT Rbi 31900 [.str a0, .int .i64 a1] []
def Rmn (a0 : List UInt8) : Option (Bool) := Qcw Tb GT Rk 32000 [.str a0] []
def Rdp (t0 : List UInt8) (t3 : Int) (t4 : Int) : Option (Int ⊕ (Int × Int)) := Qcw Tb GT Ruo 32301 [.str t0, .int .i64 t3, .int .i64 t4] []
def Ras (a0 : List (List UInt8)) (a1 : Int) (a2 : Int) : Option (Stm × Int) := Qcw Tb GT Rpu 46500 [.sl .share .str a0, .int .i64 a1, .int .i64 a2] []
def Rm (a0 : List (List UInt8)) (a1 : Int) : Option (Exp × Int) := Qcw Tb GT Rll 46600 [.sl .share .str a0, .int .i64 a1] []
def Rf (a0 : List UInt8) : Option (Int) := Qcw Tb GT Rbi 32500 [.str a0] []
def Rdo (t0 : List Int) (t3 : Int) : Option (List Int ⊕ (List Int × Bool)) := Qcw Tb GT Rpm 23201 [.sl .share .int t0, .int .i64 t3] []
def Rab (a0 : List Stm) (a1 : Int) : Option (Bool) := Qcw Tb GT Rk 6200 [.sl .share .stm a0, .int .i64 a1] []
def Raw (a0 : List Stm) : Option (Int) := Qcw Tb GT Rbi 4000 [.sl .share .stm a0] []
def Rcn (t0 : List Stm) (t1 : Int) (t5 : Int) : Option (Unit ⊕ Bool) := Qcw Tb GT Rgs 23101 [.sl .share .stm t0, .int .i64 t1, .int .i64 t5] []
def Raj (t0 : List UInt8) (t5 : Int) (t9 : Int) (t10 : Int) : Option (List UInt8 × Int × Int × Int) := Qcw Tb GT Rrh 33302 [.str t0, .fn 33100 [], .int .i64 t5, .sl .full .fn ([33100, 33200] : List Nat), .int .i64 t9, .int .i64 t10] []
def Rio (a0 : Int) : Option (Bool) := Qcw Tb GT Rk 33200 [.int .u8 a0] []
def Rak (t0 : List UInt8) (t5 : Int) (t9 : Int) (t10 : Int) : Option (List UInt8 × Int × Int × Int) := Qcw Tb GT Rrh 33302 [.str t0, .fn 33200 [], .int .i64 t5, .sl .full .fn ([33100, 33200] : List Nat), .int .i64 t9, .int .i64 t10] []
def Rcb (t0 : List UInt8) (t9 : Int) (t10 : Int) : Option (List UInt8 ⊕ (List UInt8 × Int)) := Qcw Tb GT Ruq 33301 [.str t0, .sl .full .fn ([33100, 33200] : List Nat), .int .i64 t9, .int .i64 t10] []
def strings_HasPrefix (a0 : List UInt8) (a1 : List UInt8) : Option (Bool) := Qcw Tb GT Rk 37500 [.str a0, .str a1] []
def Rcc (t0 : List UInt8) (t31m : Md) (t31 : List (List UInt8)) (t32 : Int) (t33 : Int) : Option (List UInt8 ⊕ (List UInt8 × Int)) := Qcw Tb GT Rur 33303 [.str t0, .sl t31m .str t31, .int .i64 t32, .int .i64 t33] []
def strings_IndexByte (a0 : List UInt8) (a1 : Int) : Option (Int) := Qcw Tb GT Rbi 37600 [.str a0, .int .u8 a1] []
def Ri (a1 : Int) (a0tokens : List (List UInt8)) (a0at : Int) (a0failed : Bool) (A : List Ent) : Option (ExpH × List (List UInt8) × Int × Bool × List Ent) := Qcw Tb GT Rps 43800 [.bp 0 0, .int .i64 a1] [.var [.sl .share .str a0tokens, .int .i64 a0at, .bool a0failed], .ar A]
def Re (a0tokens : List (List UInt8)) (a0at : Int) (a0failed : Bool) : Option (Int × List (List UInt8) × Int × Bool) := Qcw Tb GT Rpq 34000 [.bp 0 0] [.var [.sl .share .str a0tokens, .int .i64 a0at, .bool a0failed]]
def Rcr (t0 : List Int) (t5 : List Int) (t6 : Int) (t7 : Int) : Option (List Int ⊕ (List Int × Bool)) := Qcw Tb GT Rpm 22701 [.sl .share .int t0, .sl .share .int t5, .int .i64 t6, .int .i64 t7] []
def Rbl (a0 : List Stm) (a1 : Int) (a2 : Int) (a3 : Int) : Option (Bool × Int) := Qcw Tb GT s5300 5300 [.sl .share .stm a0, .int .i64 a1, .int .i64 a2, .bp 0 0] [.var [.int .i64 a3]]
def Rgy (a0 : Stm) (a1 : Stm) : Option (Bool) := Qcw Tb GT Rk 8200 [.agg (rowT .stm a0), .agg (rowT .stm a1)] []
def Rfg (t0 : List Stm) (t1 : List Stm) (t5 : Int) : Option (Unit ⊕ Bool) := Qcw Tb GT Rgs 8301 [.sl .share .stm t0, .sl .share .stm t1, .int .i64 t5] []
def Rem (a0 : Hd) (a1 : Int) (A : List Ent) : Option (Int × List Ent) := Qcw Tb GT Rhf 41300 [.tr .expH a0.id a0.n, .int .i64 a1] [.ar A]
def Rdk (t0 : Hd) (t1 : Int) (t5 : Int) (b99 : List Ent) : Option (Int × List Ent) := Qcw Tb GT Rja 40901 [.tr .stmH t0.id t0.n, .int .i64 t1, .int .i64 t5] [.ar b99]
def Rgc (a0 : List Exp) (a1 : Int) : Option (Int) := Qcw Tb GT Rbi 10700 [.sl .share .exp a0, .int .i64 a1] []
def Rbz (t0 : List Stm) (t1 : Int) (t5 : Int) : Option (Int ⊕ (Int × Int)) := Qcw Tb GT Riz 10801 [.sl .share .stm t0, .int .i64 t1, .int .i64 t5] []
def Rg (a1 : Int) (a0tokens : List (List UInt8)) (a0at : Int) (a0failed : Bool) : Option (Exp × List (List UInt8) × Int × Bool) := Qcw Tb GT Rpr 34400 [.bp 0 0, .int .i64 a1] [.var [.sl .share .str a0tokens, .int .i64 a0at, .bool a0failed]]
def Rgu (t0 : List UInt8) (t1 : Int) (t5 : Int) : Option (Int) := Qcw Tb GT Rtt 31901 [.str t0, .int .i64 t1, .int .i64 t5] []
def Rae (a0 : List (List UInt8)) (a1 : Int) (a2 : Int) : Option (Exp × Int) := Qcw Tb GT Rll 32900 [.sl .share .str a0, .int .i64 a1, .int .i64 a2] []
def Rkw (a0 : Int) : Option (List UInt8) := Qcw Tb GT Rpl 32400 [.int .i64 a0] []
def Rfp (t0 : List UInt8) (t3 : Int) : Option (Unit ⊕ Int) := Qcw Tb GT Rlk 32501 [.str t0, .int .i64 t3] []
def Rig (a0 : Stm) (a1 : Int) : Option (Bool) := Qcw Tb GT Rk 6100 [.agg (rowT .stm a0), .int .i64 a1] []
def Rdz (t0 : List Stm) (t1 : Int) (t5 : Int) : Option (Unit ⊕ Bool) := Qcw Tb GT Rgs 6201 [.sl .share .stm t0, .int .i64 t1, .int .i64 t5] []
def Ren (t0 : List Stm) (t3 : Int) (t4 : Int) : Option (Int) := Qcw Tb GT Rtt 4001 [.sl .share .stm t0, .int .i64 t3, .int .i64 t4] []
def Rcq (a0tokens : List (List UInt8)) (a0at : Int) (a0failed : Bool) (A : List Ent) : Option (ExpH × List (List UInt8) × Int × Bool × List Ent) := Qcw Tb GT Rps 43900 [.bp 0 0] [.var [.sl .share .str a0tokens, .int .i64 a0at, .bool a0failed], .ar A]
def Rip (a0 : List UInt8) : Option (Int) := Qcw Tb GT Rbi 34200 [.str a0] []
def Rew (a0 : Int) : Option (Int) := Qcw Tb GT Rbi 34300 [.int .i64 a0] []
def Rad (t1 : Int) (b0_0 : List (List UInt8)) (b0_1 : Int) (b0_2 : Bool) (b100_0 : Int) (b100_1 : Int) (b100_2 : Hd) (b101_0 : Int) (b101_1 : Int) (b101_2 : Hd) (b99 : List Ent) : Option (List (List UInt8) × Int × Bool × Int × Int × Hd × Int × Int × Hd × List Ent) := Qcw Tb GT Ruw 43801 [.bp 0 0, .int .i64 t1, .bp 100 0, .bp 101 0] [.var [.sl .share .str b0_0, .int .i64 b0_1, .bool b0_2], .var [.int .i64 b100_0, .int .i64 b100_1, .tr .expH b100_2.id b100_2.n], .var [.int .i64 b101_0, .int .i64 b101_1, .tr .expH b101_2.id b101_2.n], .ar b99]
def Rhv (a0 : Stm) (a1 : Int) : Option (Bool) := Qcw Tb GT Rk 5200 [.rp (rowT .stm a0) 0, .int .i64 a1] []
def Rbq (t0 : List Stm) (t1 : Int) (t2 : Int) (t23 : Int) (t24 : Int) (b0_0 : Int) : Option (Int ⊕ (Bool × Int)) := Qcw Tb GT s5301 5301 [.sl .share .stm t0, .int .i64 t1, .int .i64 t2, .bp 0 0, .int .i64 t23, .int .i64 t24] [.var [.int .i64 b0_0]]
def Rfu (a0 : Exp) (a1 : Exp) : Option (Bool) := Qcw Tb GT Rk 8100 [.agg (rowT .exp a0), .agg (rowT .exp a1)] []
def Rdj (t0 : Hd) (t1 : Int) (t5 : Int) (b99 : List Ent) : Option (Int × List Ent) := Qcw Tb GT Rja 41301 [.tr .expH t0.id t0.n, .int .i64 t1, .int .i64 t5] [.ar b99]
def Rby (t0 : List Exp) (t1 : Int) (t5 : Int) : Option (Int ⊕ (Int × Int)) := Qcw Tb GT Riz 10701 [.sl .share .exp t0, .int .i64 t1, .int .i64 t5] []
def Rao (a0tokens : List (List UInt8)) (a0at : Int) (a0failed : Bool) : Option (Exp × List (List UInt8) × Int × Bool) := Qcw Tb GT Rpr 34100 [.bp 0 0] [.var [.sl .share .str a0tokens, .int .i64 a0at, .bool a0failed]]
def Ran (t1 : Int) (b0_0 : List (List UInt8)) (b0_1 : Int) (b0_2 : Bool) (b100_0 : Int) (b100_1 : Int) (b100_2b : Bool) (b100_2 : List Exp) (b101_0 : Int) (b101_1 : Int) (b101_2m : Md) (b101_2 : List Exp) : Option (List (List UInt8) × Int × Bool × Int × Int × (Bool × List Exp) × Int × Int × (Md × List Exp)) := Qcw Tb GT Ruu 34401 [.bp 0 0, .int .i64 t1, .bp 100 0, .bp 101 0] [.var [.sl .share .str b0_0, .int .i64 b0_1, .bool b0_2], .var [.int .i64 b100_0, .int .i64 b100_1, .sl (.own b100_2b) .exp b100_2], .var [.int .i64 b101_0, .int .i64 b101_1, .sl b101_2m .exp b101_2]]
def Rez (a0 : List (List UInt8)) (a1 : Int) : Option (Exp × Int) := Qcw Tb GT Rll 32600 [.sl .share .str a0, .int .i64 a1] []
def Rlr (a0 : List UInt8) : Option (Int) := Qcw Tb GT Rbi 32800 [.str a0] []
def Rjn (a0 : Int) : Option (Int) := Qcw Tb GT Rbi 32700 [.int .i64 a0] []
def Rkv (a0 : Int) (a1 : Exp) (a2 : Exp) : Option (Int × Int × (Md × List Exp)) := Qcw Tb GT s300 500 [.int .i64 a0, .agg (rowT .exp a1), .agg (rowT .exp a2)] []
def Rbo (t0 : List (List UInt8)) (t2 : Int) (t9 : Int) (b100_0 : Int) (b100_1 : Int) (b100_2b : Bool) (b100_2 : List Exp) (b101_0 : Int) (b101_1 : Int) (b101_2m : Md) (b101_2 : List Exp) : Option (Int × Int × Int × (Bool × List Exp) × Int × Int × (Md × List Exp)) := Qcw Tb GT Rup 32901 [.sl .share .str t0, .int .i64 t2, .bp 100 0, .bp 101 0, .int .i64 t9] [.var [.int .i64 b100_0, .int .i64 b100_1, .sl (.own b100_2b) .exp b100_2], .var [.int .i64 b101_0, .int .i64 b101_1, .sl b101_2m .exp b101_2]]
def Rgd (a0 : Stm) : Option (Bool) := Qcw Tb GT Rk 6000 [.agg (rowT .stm a0)] []
def Rce (a0 : Stm) (a1 : Bool) : Option (Bool) := Qcw Tb GT Rk 5700 [.agg (rowT .stm a0), .bool a1] []
def Rcd (a0 : Stm) (a1 : Bool) : Option (Bool) := Qcw Tb GT Rk 5800 [.agg (rowT .stm a0), .bool a1] []
def Rbj (a0 : Exp) : Option (Bool) := Qcw Tb GT Rk 1900 [.agg (rowT .exp a0)] []
def Reg (t0 : List UInt8) (t6 : Int) : Option (Unit ⊕ Int) := Qcw Tb GT Rlk 34201 [.str t0, .agg [.str [124], .str [94], .str [38], .str ([61, 61]), .str [60], .str ([60, 60]), .str ([62, 62]), .str [43], .str [45], .str [42], .str [47], .str [37]], .int .i64 t6] []
def Rh (a0 : Int) (a1 : Int) (a2 : Bool) : Option (Bool) := Qcw Tb GT Rk 11100 [.int .i64 a0, .int .i64 a1, .bool a2] []
def Rcx (a0 : Exp) : Option (Bool) := Qcw Tb GT Rk 1200 [.agg (rowT .exp a0)] []
def Rjh (a0 : List Exp) (a1 : List Exp) : Option (Bool) := Qcw Tb GT Rk 8000 [.sl .share .exp a0, .sl .share .exp a1] []
def Rix (a0 : Int) (a1 : Int) : Option (Int × Int × (Md × List Exp)) := Qcw Tb GT s300 300 [.int .i64 a0, .int .i64 a1] []
def Rkt (a0 : Int) : Option (List UInt8) := Qcw Tb GT Rpl 20700 [.int .i64 a0] []
def Rgk (t0 : List UInt8) (t3 : Int) : Option (Unit ⊕ Int) := Qcw Tb GT Rlk 32801 [.str t0, .int .i64 t3] []
def Rgj (a0 : Int) : Option (Bool) := Qcw Tb GT Rk 1700 [.int .i64 a0] []
def Rgt (a0 : Exp) : Option (Bool) := Qcw Tb GT Rk 5900 [.agg (rowT .exp a0)] []
def Rjp (a0 : Exp) (a1 : Int) : Option (Bool) := Qcw Tb GT Rk 1800 [.agg (rowT .exp a0), .int .i64 a1] []
def Ref (a0 : Exp) (a1 : Int) : Option (Bool) := Qcw Tb GT Rk 1100 [.agg (rowT .exp a0), .int .i64 a1] []
def Rff (t0 : List Exp) (t1 : List Exp) (t5 : Int) : Option (Unit ⊕ Bool) := Qcw Tb GT Rgs 8001 [.sl .share .exp t0, .sl .share .exp t1, .int .i64 t5] []
def Rje (a0 : Int) : Option (Bool) := Qcw Tb GT Rk 1000 [.int .i64 a0] []
theorem fE (sig : Sig) (p : ProcT) {g : Nat} {tv : List TV} {bv : List BT} {x : SumT sig} {t : Option (SumT sig)} (h : t = some x) (hr : runC (phi Tb GT sg) Tb GT p.code (Qeh p (mkST p.ins tv p.bins bv)) (finT p sig) = t := by kernel_rfl) (hs : (sg g, Tb g, p.kind, tv.length, bv.length, Qei p tv bv, p.two) = (sig, some p, .fn, p.ins.length, p.bins.length, true, false) := by kernel_rfl) : Qcw Tb GT sig g tv bv = some x := by
 simp only [Zm] at hs
 exact fn_le' (F := Tb) (G := GT) (sg := sg) hs.1 hs.2.1 hs.2.2.1 hs.2.2.2.1 hs.2.2.2.2.1 hs.2.2.2.2.2.1 hs.2.2.2.2.2.2 (hr.trans h)
theorem lE (sig : Sig) (p : ProcT) {g : Nat} {tv : List TV} {bv : List BT} {x : SumT sig} {t : Option (SumT sig)} (h : t = some x) (hr : runC (phi Tb GT sg) Tb GT p.code (mkST p.ins tv p.bins bv) (finL Tb GT g p sig) = t := by kernel_rfl) (hs : (sg g, Tb g, p.kind, tv.length, bv.length) = (sig, some p, .loop, p.ins.length, p.bins.length) := by kernel_rfl) : Qcw Tb GT sig g tv bv = some x := by
 simp only [Zm] at hs
 exact loop_le' (F := Tb) (G := GT) (sg := sg) hs.1 hs.2.1 hs.2.2.1 hs.2.2.2.1 hs.2.2.2.2 (hr.trans h)
end Go.TFnExactProgramFrom
end