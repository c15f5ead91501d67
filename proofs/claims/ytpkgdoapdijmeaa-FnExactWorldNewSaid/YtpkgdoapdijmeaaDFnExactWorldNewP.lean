import Derived.Test.YtpkgdoapdijmeaaLkA
import Derived.KernelRfl
noncomputable section
set_option linter.unusedVariables false
namespace Go.TFnExactWorldNew
open Go Go.RowKit Go.Vs Go.Tv
@[reducible] def oo (d : Nat) (k : KT) : AOpT := ⟨some d, k, none, []⟩
@[reducible] def op (d : Nat) (k : KT) (f : List Nat) : AOpT := ⟨some d, k, none, f⟩
@[reducible] def on (k : KT) (f : List Nat) : AOpT := ⟨none, k, none, f⟩
@[reducible] def og (d : Option Nat) (k : KT) (i : Nat) (b : Bool) (f : List Nat) : AOpT := ⟨d, k, some (i, b), f⟩
@[reducible] def tt (i : Nat) : OpT := .tmp i
@[reducible] def nn (i : Int) : OpT := .const (.int .i64 i)
@[reducible] def rr (l : List AOpT) : ACT := .region false l
@[reducible] def zl (d a : Nat) : AOpT := ⟨some d, .load 1 false false (.tmp a), none, []⟩
@[reducible] def zL (d a i : Nat) : AOpT := ⟨some d, .load 1 false false (.tmp a), some (i, true), []⟩
@[reducible] def zm (d a : Nat) : AOpT := ⟨some d, .mv (.tmp a), none, []⟩
@[reducible] def zM (d a i : Nat) : AOpT := ⟨some d, .mv (.tmp a), some (i, true), []⟩
@[reducible] def zf (d k a : Nat) : AOpT := ⟨some d, .fadr k (.tmp a), none, []⟩
@[reducible] def zF (d k a i : Nat) : AOpT := ⟨some d, .fadr k (.tmp a), some (i, true), []⟩
@[reducible] def zp (d a b : Nat) : AOpT := ⟨some d, .pick (.tmp a) (.tmp b) (.const (.bool false)), none, []⟩
@[reducible] def zq (d a b : Nat) : AOpT := ⟨some d, .pick (.tmp a) (.const (.bool true)) (.tmp b), none, []⟩
@[reducible] def zb (d : Nat) (o : BinOp) (a : Nat) (k : Int) : AOpT := ⟨some d, .bin o (.tmp a) (.const (.int .i64 k)), none, []⟩
@[reducible] def zt (d : Nat) (o : BinOp) (a b : Nat) : AOpT := ⟨some d, .bin o (.tmp a) (.tmp b), none, []⟩
@[reducible] def zn (d : Nat) (o : BinOp) (a : Nat) (k : Int) (i : Nat) : AOpT := ⟨some d, .bin o (.tmp a) (.const (.int .i64 k)), some (i, true), []⟩
@[reducible] def zg (d : Nat) (o : BinOp) (a b i : Nat) : AOpT := ⟨some d, .bin o (.tmp a) (.tmp b), some (i, true), []⟩
@[reducible] def zc (d a : Nat) : AOpT := ⟨some d, .len (.tmp a), none, []⟩
@[reducible] def yF (d k a i : Nat) : AOpT := ⟨some d, .fadr k (.tmp a), some (i, false), []⟩
@[reducible] def yM (d a i : Nat) : AOpT := ⟨some d, .mv (.tmp a), some (i, false), []⟩
@[reducible] def yL (d a i : Nat) : AOpT := ⟨some d, .load 1 false false (.tmp a), some (i, false), []⟩
@[reducible] def yi (d n a b : Nat) : AOpT := ⟨some d, .iadr n (.tmp a) (.tmp b), none, []⟩
@[reducible] def yI (d n a b i : Nat) : AOpT := ⟨some d, .iadr n (.tmp a) (.tmp b), some (i, true), []⟩
@[reducible] def yl (d n a : Nat) : AOpT := ⟨some d, .load n true false (.tmp a), none, []⟩
@[reducible] def ya (d n g a : Nat) : AOpT := ⟨some d, .call n g [.tmp a], none, []⟩
@[reducible] def yb (d n g a b : Nat) : AOpT := ⟨some d, .call n g [.tmp a, .tmp b], none, []⟩
@[reducible] def ye (d n a : Nat) : AOpT := ⟨some d, .ext n (.tmp a), none, []⟩
@[reducible] def yt (d a : Nat) : AOpT := ⟨some d, .mv (.take a), none, []⟩
@[reducible] def yn (d : Nat) (k : Int) : AOpT := ⟨some d, .mv (.const (.int .i64 k)), none, []⟩
@[reducible] def yc (d a : Nat) : AOpT := ⟨some d, .nilck (.tmp a), none, []⟩
@[reducible] def ys (n a b : Nat) (f : List Nat) : AOpT := ⟨none, .store n (.tmp a) (.tmp b), none, f⟩
@[reducible] def yx (d a : Nat) (f : List Nat) : AOpT := ⟨some d, .nilck (.tmp a), none, f⟩
@[reducible] def yf (d k a : Nat) (f : List Nat) : AOpT := ⟨some d, .fadr k (.tmp a), none, f⟩
@[reducible] def yd (d a : Nat) (f : List Nat) : AOpT := ⟨some d, .load 1 false false (.tmp a), none, f⟩
@[reducible] def yo (d : Nat) (b : Bool) : AOpT := ⟨some d, .mv (.const (.bool b)), none, []⟩
@[reducible] def yr (l : List AOpT) (c : ACT) : ACT := .seq (.region false l) c
@[reducible] def yw (i : Nat) (a b : ACT) : ACT := .cond (.tmp i) a b
@[reducible] def pF (a b : List Nat) (r : List RS) (c : ACT) : ProcT := { kind := .fn, ins := a, bins := b, res := r, code := c }
@[reducible] def pL (a b : List Nat) (c : ACT) : ProcT := { kind := .loop, ins := a, bins := b, code := c }
@[reducible] def zG (d : Nat) (k : KT) (i : Nat) : AOpT := ⟨some d, k, some (i, true), []⟩
def p300 : ProcT := pF [0, 1] [] [.keep 4 3] (yr [oo 4 (.alloc 100 [.int .i64 0, .int .i64 0, .sl (.own false) .exp []])]
 (yr [zm 5 0,
zm 6 1,
oo 7 (.buildS (.own false) .exp []),
oo 8 (.build [.int .i64 0, .int .i64 0, .sl (.own false) .exp []] [(0, 1, tt 5), (1, 1, tt 6), (2, 1, tt 7)]),
ys 3 4 8 []]
 .ret))
def p500 : ProcT := pF [0, 1, 2] [] [.keep 6 3] (yr [oo 4 (.box 100 (tt 1)),
oo 5 (.box 101 (tt 2)),
oo 6 (.alloc 102 [.int .i64 0, .int .i64 0, .sl (.own false) .exp []])]
 (yr [zm 7 0,
yl 8 3 4,
yl 9 3 5,
oo 10 (.buildS .full .exp [tt 8, tt 9]),
oo 11 (.build [.int .i64 0, .int .i64 0, .sl (.own false) .exp []] [(0, 1, tt 7), (2, 1, tt 10)]),
ys 3 6 11 []]
 .ret))
def p1000 : ProcT := pF [0] [] [.tmp 2] (yr [yo 2 false]
 (yr [zm 3 0,
zb 4 .geq 3 1,
zm 5 4,
zM 6 0 5,
zn 7 .leq 6 12 5,
zp 8 5 7,
zm 2 8]
 .ret))
def p1100 : ProcT := pF [0, 1] [] [.tmp 4] (yr [oo 2 (.box 100 (tt 0)),
yo 4 false]
 (.seq (.block 0 (yr [zf 6 0 2,
zl 7 6,
zb 8 .eql 7 0,
zm 5 8]
 (yw 5 (yr [zf 9 1 2,
zl 10 9,
zb 11 .geq 10 0,
zm 12 11,
zF 13 1 2 12,
zL 14 13 12,
zn 15 .leq 14 99999 12,
zp 16 12 15,
zm 17 16,
zF 18 2 2 17,
zL 19 18 17,
zG 20 (.len (tt 19)) 17,
zn 21 .eql 20 0 17,
zp 22 17 21,
zm 23 22,
zM 24 1 23,
zn 25 .gtr 24 0 23,
zp 26 23 25,
zm 4 26]
 .ret) (yr [zf 28 0 2,
zl 29 28,
zb 30 .eql 29 13,
zm 27 30]
 (yw 27 (yr [zf 31 1 2,
zl 32 31,
zb 33 .geq 32 0,
zm 34 33,
zF 35 1 2 34,
zL 36 35 34,
zn 37 .lss 36 4 34,
zp 38 34 37,
zm 39 38,
zF 40 2 2 39,
zL 41 40 39,
zG 42 (.len (tt 41)) 39,
zn 43 .eql 42 0 39,
zp 44 39 43,
zm 45 44,
zM 46 1 45,
zn 47 .gtr 46 0 45,
zp 48 45 47,
zm 4 48]
 .ret) .skip)))))
 (yr [zf 49 0 2,
zl 50 49,
ya 51 1000 0 50,
zm 52 51,
zF 53 1 2 52,
zL 54 53 52,
zn 55 .eql 54 0 52,
zp 56 52 55,
zm 57 56,
zF 58 2 2 57,
zL 59 58 57,
zG 60 (.len (tt 59)) 57,
zn 61 .eql 60 2 57,
zp 62 57 61,
zm 63 62,
zM 64 1 63,
zn 65 .gtr 64 1 63,
zp 66 63 65,
zm 67 66,
zF 68 2 2 67,
zL 69 68 67,
zG 70 (.iadr 3 (tt 69) (nn 0)) 67,
zG 71 (.load 3 true false (tt 70)) 67,
zM 72 1 67,
zn 73 .sub 72 1 67,
zG 74 (.call 1100 0 [tt 71, tt 73]) 67,
zp 75 67 74,
zm 76 75,
zF 77 2 2 76,
zL 78 77 76,
zG 79 (.iadr 3 (tt 78) (nn 1)) 76,
zG 80 (.load 3 true false (tt 79)) 76,
zM 81 1 76,
zn 82 .sub 81 1 76,
zG 83 (.call 1100 0 [tt 80, tt 82]) 76,
zp 84 76 83,
zm 4 84]
 .ret)))
def p1200 : ProcT := pF [0] [] [.tmp 2] (yr [oo 1 (.box 100 (tt 0)),
yo 2 false]
 (yr [yl 3 3 1,
oo 4 (.call 1100 0 [tt 3, nn 5]),
zm 2 4]
 .ret))
def p1600 : ProcT := pF [0, 1, 2] [] [.tmp 6] (yr [yo 6 false]
 (yr [zm 7 0,
zm 8 1,
zt 9 .geq 7 8,
zm 10 9,
zM 11 0 10,
zM 12 2 10,
zg 13 .leq 11 12 10,
zp 14 10 13,
zm 6 14]
 .ret))
def p1700 : ProcT := pF [0] [] [.tmp 2] (yr [yo 2 false]
 (yr [zm 3 0,
oo 4 (.call 1600 0 [tt 3, nn 1, nn 12]),
zm 2 4]
 .ret))
def p1800 : ProcT := pF [0, 1] [] [.tmp 4] (yr [oo 2 (.box 100 (tt 0)),
yo 4 false]
 (.seq (yr [zm 5 1,
zb 6 .lss 5 1]
 (yw 6 (yr [yo 4 false]
 .ret) .skip))
 (.seq (yr [zf 7 0 2,
zl 8 7,
zb 9 .eql 8 0]
 (yw 9 (yr [zf 10 1 2,
zl 11 10,
oo 12 (.call 1600 0 [tt 11, nn 0, nn 99999]),
zm 13 12,
zF 14 2 2 13,
zL 15 14 13,
zG 16 (.len (tt 15)) 13,
zn 17 .eql 16 0 13,
zp 18 13 17,
zm 4 18]
 .ret) .skip))
 (.seq (yr [zf 19 0 2,
zl 20 19,
zb 21 .eql 20 13]
 (yw 21 (yr [zf 22 1 2,
zl 23 22,
oo 24 (.call 1600 0 [tt 23, nn 0, nn 3]),
zm 25 24,
zF 26 2 2 25,
zL 27 26 25,
zG 28 (.len (tt 27)) 25,
zn 29 .eql 28 0 25,
zp 30 25 29,
zm 4 30]
 .ret) .skip))
 (yr [zf 31 0 2,
zl 32 31,
ya 33 1700 0 32,
zm 34 33,
zF 35 1 2 34,
zL 36 35 34,
zn 37 .eql 36 0 34,
zp 38 34 37,
zm 39 38,
zF 40 2 2 39,
zL 41 40 39,
zG 42 (.len (tt 41)) 39,
zn 43 .eql 42 2 39,
zp 44 39 43,
zm 45 44,
zF 46 2 2 45,
zL 47 46 45,
zG 48 (.iadr 3 (tt 47) (nn 0)) 45,
zG 49 (.load 3 true false (tt 48)) 45,
zM 50 1 45,
zn 51 .sub 50 1 45,
zG 52 (.call 1800 0 [tt 49, tt 51]) 45,
zp 53 45 52,
zm 54 53,
zF 55 2 2 54,
zL 56 55 54,
zG 57 (.iadr 3 (tt 56) (nn 1)) 54,
zG 58 (.load 3 true false (tt 57)) 54,
zM 59 1 54,
zn 60 .sub 59 1 54,
zG 61 (.call 1800 0 [tt 58, tt 60]) 54,
zp 62 54 61,
zm 4 62]
 .ret)))))
def p1900 : ProcT := pF [0] [] [.tmp 2] (yr [oo 1 (.box 100 (tt 0)),
yo 2 false]
 (yr [yl 3 3 1,
oo 4 (.call 1800 0 [tt 3, nn 5]),
zm 2 4]
 .ret))
def p4000 : ProcT := pF [0] [] [.tmp 2] (yr [yn 2 0]
 (yr [yn 3 0]
 (.seq (yr [yn 4 0]
 (.block 0 (.label 4001)))
 (yr [zm 27 3,
zm 2 27]
 .ret))))
def p4001 : ProcT := { kind := .loop, ins := [0, 3, 4], bins := [], outs := [2, 3], bouts := [], code := (.seq (yr [zm 5 4,
zm 6 0,
zc 7 6,
zt 8 .lss 5 7]
 (yw 8 .skip (.exit 0)))
 (.seq (.block 1 (.region true [zm 11 3,
zb 12 .add 11 1,
zm 13 0,
zm 14 4,
yi 15 8 13 14,
zf 16 6 15,
zl 17 16,
ya 18 4000 0 17,
zt 19 .add 12 18,
zm 20 0,
zm 21 4,
yi 22 8 20 21,
zf 23 7 22,
zl 24 23,
ya 25 4000 0 24,
zt 26 .add 19 25,
zm 3 26]))
 (rr [zm 9 4,
zb 10 .add 9 1,
zm 4 10]))) }
def p5200 : ProcT := pF [0, 1] [] [.tmp 4] (yr [yo 4 false]
 (yr [oo 5 (.alloc 100 [.bool false, .bool false, .bool false, .bool false, .bool false])]
 (.seq (yr [zm 7 0,
yc 8 7,
zf 9 0 8,
zl 10 9]
 (.block 0 (yr [zb 12 .eql 10 1,
zm 11 12]
 (yw 11 (rr [zf 13 0 5,
on (.store 1 (tt 13) (.const (.bool true))) [],
zf 14 2 5,
on (.store 1 (tt 14) (.const (.bool true))) []]) (yr [zb 16 .eql 10 2,
zm 15 16]
 (yw 15 (rr [zf 17 2 5,
on (.store 1 (tt 17) (.const (.bool true))) [],
zf 18 3 5,
on (.store 1 (tt 18) (.const (.bool true))) [],
zf 19 4 5,
on (.store 1 (tt 19) (.const (.bool true))) []]) (yr [zb 21 .eql 10 3,
zm 20 21]
 (yw 20 (rr [zf 22 2 5,
on (.store 1 (tt 22) (.const (.bool true))) [],
zf 23 3 5,
on (.store 1 (tt 23) (.const (.bool true))) []]) (yr [zb 25 .eql 10 4,
zm 24 25]
 (yw 24 (rr [zf 26 1 5,
on (.store 1 (tt 26) (.const (.bool true))) [],
zf 27 2 5,
on (.store 1 (tt 27) (.const (.bool true))) []]) (yr [zb 29 .eql 10 5,
zm 28 29]
 (yw 28 (rr [zf 30 1 5,
on (.store 1 (tt 30) (.const (.bool true))) [],
zf 31 0 5,
on (.store 1 (tt 31) (.const (.bool true))) []]) (yr [zb 33 .eql 10 7,
zm 32 33]
 (yw 32 (rr [zf 34 2 5,
on (.store 1 (tt 34) (.const (.bool true))) []]) (yr [zb 36 .eql 10 6,
zm 35 36]
 (yw 35 .skip (yr [yo 4 false]
 .ret)))))))))))))))))
 (yr [oo 6 (.mv (.func 11100))]
 (.seq (.seq (.region true [zm 37 6,
zm 38 0,
yc 39 38,
zf 40 1 39,
zl 41 40,
yf 42 0 5 [100],
yd 43 42 [100],
oo 44 (.callv (tt 37) [tt 41, nn 4, tt 43]),
oo 45 (.un .not (tt 44)),
zm 46 45,
yM 47 6 46,
yM 48 0 46,
og (some 49) (.nilck (tt 48)) 46 false [],
yF 50 2 49 46,
yL 51 50 46,
yM 52 1 46,
og (some 53) (.fadr 1 (tt 5)) 46 false [100],
og (some 54) (.load 1 false false (tt 53)) 46 false [100],
og (some 55) (.callv (tt 47) [tt 51, tt 52, tt 54]) 46 false [],
og (some 56) (.un .not (tt 55)) 46 false [],
zq 57 46 56,
zm 58 57,
og (some 59) (.fadr 1 (tt 5)) 58 false [100],
og (some 60) (.load 1 false false (tt 59)) 58 false [100],
yM 61 60 58,
zM 62 0 61,
zG 63 (.nilck (tt 62)) 61,
zF 64 2 63 61,
zL 65 64 61,
zM 66 1 61,
zg 67 .geq 65 66 61,
og (some 68) (.pick (tt 61) (tt 67) (.const (.bool false))) 58 false [],
zq 69 58 68])
 (yw 69 (yr [yo 4 false]
 .ret) .skip))
 (.seq (yr [zf 70 2 5,
zl 71 70,
zm 72 71,
zM 73 0 72,
zG 74 (.nilck (tt 73)) 72,
zF 75 3 74 72,
zG 76 (.load 3 true false (tt 75)) 72,
zG 77 (.call 1200 0 [tt 76]) 72,
zG 78 (.un .not (tt 77)) 72,
zp 79 72 78,
zm 80 79,
yF 81 2 5 80,
yL 82 81 80,
og (some 83) (.un .not (tt 82)) 80 false [],
yM 84 83 80,
zM 85 0 84,
zG 86 (.nilck (tt 85)) 84,
zF 87 3 86 84,
zF 88 0 87 84,
zL 89 88 84,
zn 90 .neq 89 0 84,
zM 91 90 84,
yM 92 0 91,
og (some 93) (.nilck (tt 92)) 91 false [],
yF 94 3 93 91,
yF 95 1 94 91,
yL 96 95 91,
og (some 97) (.bin .neq (tt 96) (nn 0)) 91 false [],
zG 98 (.pick (tt 91) (.const (.bool true)) (tt 97)) 84,
zM 99 98 84,
yM 100 0 99,
og (some 101) (.nilck (tt 100)) 99 false [],
yF 102 3 101 99,
yF 103 2 102 99,
yL 104 103 99,
og (some 105) (.len (tt 104)) 99 false [],
og (some 106) (.bin .gtr (tt 105) (nn 0)) 99 false [],
zG 107 (.pick (tt 99) (.const (.bool true)) (tt 106)) 84,
og (some 108) (.pick (tt 84) (tt 107) (.const (.bool false))) 80 false [],
zq 109 80 108]
 (yw 109 (yr [yo 4 false]
 .ret) .skip))
 (yr [zf 110 3 5,
zl 111 110,
zm 112 111,
yM 113 0 112,
og (some 114) (.nilck (tt 113)) 112 false [],
yF 115 6 114 112,
yL 116 115 112,
og (some 117) (.len (tt 116)) 112 false [],
og (some 118) (.bin .eql (tt 117) (nn 0)) 112 false [],
zq 119 112 118,
zm 120 119,
zF 121 4 5 120,
zL 122 121 120,
zM 123 122 120,
yM 124 0 123,
og (some 125) (.nilck (tt 124)) 123 false [],
yF 126 7 125 123,
yL 127 126 123,
og (some 128) (.len (tt 127)) 123 false [],
og (some 129) (.bin .eql (tt 128) (nn 0)) 123 false [],
zG 130 (.pick (tt 123) (.const (.bool true)) (tt 129)) 120,
zp 131 120 130,
zm 4 131]
 .ret)))))))
def p5300 : ProcT := pF [0, 1, 2, 3] [0] [.tmp 8] (yr [yo 8 false]
 (yr [zm 11 3,
yc 12 11,
zl 13 12,
zm 14 0,
zc 15 14,
zt 16 .add 13 15,
yc 17 11,
ys 1 17 16 []]
 (.seq (yr [zm 18 3,
yc 19 18,
zl 20 19,
zb 21 .gtr 20 16]
 (yw 21 (yr [yo 8 false]
 .ret) .skip))
 (.seq (yr [zm 22 0,
zc 23 22,
yn 24 0]
 (.block 0 (.label 5301)))
 (yr [yo 8 true]
 .ret)))))
def p5301 : ProcT := { kind := .loop, ins := [0, 1, 2, 3, 23, 24], bins := [0], outs := [3, 8], bouts := [0], code := (yr [zt 25 .lss 24 23]
 (.seq (yw 25 .skip (.exit 0))
 (.seq (.block 1 (yr [zm 26 24,
zm 9 26]
 (yr [zm 27 0,
zm 28 9,
yi 29 8 27 28,
zm 10 29]
 (.seq (yr [zm 30 10,
zm 31 1,
yb 32 5200 0 30 31,
oo 33 (.un .not (tt 32)),
zm 34 33,
yM 35 2 34,
og (some 36) (.bin .gtr (tt 35) (nn 3)) 34 false [],
zq 37 34 36]
 (yw 37 (yr [yo 8 false]
 .ret) .skip))
 (.seq (yr [zm 38 10,
yc 39 38,
zf 40 0 39,
zl 41 40,
zb 42 .neq 41 2,
zm 43 42,
zM 44 10 43,
zG 45 (.nilck (tt 44)) 43,
zF 46 0 45 43,
zL 47 46 43,
zn 48 .neq 47 3 43,
zp 49 43 48]
 (yw 49 (.exit 1) .skip))
 (yr [zm 50 2,
zb 51 .geq 50 3,
zm 52 51,
yM 53 10 52,
og (some 54) (.nilck (tt 53)) 52 false [],
yF 55 6 54 52,
yL 56 55 52,
yM 57 1 52,
yM 58 2 52,
og (some 59) (.bin .add (tt 58) (nn 1)) 52 false [],
yM 60 3 52,
og (some 61) (.call 5300 0 [tt 56, tt 57, tt 59, tt 60]) 52 false [],
og (some 62) (.un .not (tt 61)) 52 false [],
zq 63 52 62,
zm 64 63,
yM 65 10 64,
og (some 66) (.nilck (tt 65)) 64 false [],
yF 67 7 66 64,
yL 68 67 64,
yM 69 1 64,
yM 70 2 64,
og (some 71) (.bin .add (tt 70) (nn 1)) 64 false [],
yM 72 3 64,
og (some 73) (.call 5300 0 [tt 68, tt 69, tt 71, tt 72]) 64 false [],
og (some 74) (.un .not (tt 73)) 64 false [],
zq 75 64 74]
 (yw 75 (yr [yo 8 false]
 .ret) .skip)))))))
 (rr [zb 76 .add 24 1,
zm 24 76])))) }
def p5400 : ProcT := pF [0, 1] [] [.tmp 4] (yr [yo 4 false]
 (yr [oo 5 (.alloc 100 [.int .i64 0]),
on (.store 1 (tt 5) (nn 0)) []]
 (yr [zm 6 0,
zm 7 1,
oo 8 (.call 5300 0 [tt 6, tt 7, nn 0, tt 5]),
zm 4 8]
 .ret)))
def p5700 : ProcT := pF [0, 1] [] [.tmp 4] (yr [oo 2 (.box 100 (tt 0)),
yo 4 false]
 (.seq (yr [zm 5 1]
 (yw 5 (yr [zf 6 1 2,
zl 7 6,
oo 8 (.call 1600 0 [tt 7, nn 0, nn 3]),
zm 4 8]
 .ret) .skip))
 (yr [zf 9 1 2,
zl 10 9,
zb 11 .eql 10 0,
zm 4 11]
 .ret)))
def p5800 : ProcT := pF [0, 1] [] [.tmp 4] (yr [oo 2 (.box 100 (tt 0)),
yo 4 false]
 (.seq (yr [zm 5 1]
 (yw 5 (yr [zf 6 2 2,
zl 7 6,
oo 8 (.call 1600 0 [tt 7, nn 0, nn 2]),
zm 4 8]
 .ret) .skip))
 (yr [zf 9 2 2,
zl 10 9,
zb 11 .eql 10 0,
zm 4 11]
 .ret)))
def p5900 : ProcT := pF [0] [] [.tmp 2] (yr [oo 1 (.box 100 (tt 0)),
yo 2 false]
 (yr [zf 3 0 1,
zl 4 3,
zb 5 .eql 4 0,
zm 6 5,
zF 7 1 1 6,
zL 8 7 6,
zn 9 .eql 8 0 6,
zp 10 6 9,
zm 11 10,
zF 12 2 1 11,
zL 13 12 11,
zG 14 (.len (tt 13)) 11,
zn 15 .eql 14 0 11,
zp 16 11 15,
zm 2 16]
 .ret))
def p6000 : ProcT := pF [0] [] [.tmp 2] (yr [oo 1 (.box 100 (tt 0)),
yo 2 false]
 (.seq (yr [zf 3 6 1,
zl 4 3,
zc 5 4,
zb 6 .gtr 5 0,
zm 7 6,
yF 8 7 1 7,
yL 9 8 7,
og (some 10) (.len (tt 9)) 7 false [],
og (some 11) (.bin .gtr (tt 10) (nn 0)) 7 false [],
zq 12 7 11]
 (yw 12 (yr [yo 2 false]
 .ret) .skip))
 (.seq (yr [zf 13 0 1,
zl 14 13]
 (.block 0 (yr [zb 16 .eql 14 1,
zm 15 16]
 (yw 15 (yr [yl 17 8 1,
oo 18 (.call 5700 0 [tt 17, .const (.bool true)]),
zm 19 18,
zG 20 (.load 8 true false (tt 1)) 19,
zG 21 (.call 5800 0 [tt 20, .const (.bool false)]) 19,
zp 22 19 21,
zm 23 22,
zF 24 3 1 23,
zG 25 (.load 3 true false (tt 24)) 23,
zG 26 (.call 1900 0 [tt 25]) 23,
zp 27 23 26,
zm 2 27]
 .ret) (yr [zb 29 .eql 14 4,
zm 28 29]
 (yw 28 (yr [yl 30 8 1,
oo 31 (.call 5700 0 [tt 30, .const (.bool false)]),
zm 32 31,
zG 33 (.load 8 true false (tt 1)) 32,
zG 34 (.call 5800 0 [tt 33, .const (.bool true)]) 32,
zp 35 32 34,
zm 36 35,
zF 37 3 1 36,
zG 38 (.load 3 true false (tt 37)) 36,
zG 39 (.call 1900 0 [tt 38]) 36,
zp 40 36 39,
zm 2 40]
 .ret) (yr [zb 42 .eql 14 5,
zm 41 42]
 (yw 41 (yr [yl 43 8 1,
oo 44 (.call 5700 0 [tt 43, .const (.bool true)]),
zm 45 44,
zG 46 (.load 8 true false (tt 1)) 45,
zG 47 (.call 5800 0 [tt 46, .const (.bool true)]) 45,
zp 48 45 47,
zm 49 48,
zF 50 3 1 49,
zG 51 (.load 3 true false (tt 50)) 49,
zG 52 (.call 5900 0 [tt 51]) 49,
zp 53 49 52,
zm 2 53]
 .ret) (yr [zb 55 .eql 14 6,
zm 54 55]
 (yw 54 (yr [yl 56 8 1,
oo 57 (.call 5700 0 [tt 56, .const (.bool false)]),
zm 58 57,
zG 59 (.load 8 true false (tt 1)) 58,
zG 60 (.call 5800 0 [tt 59, .const (.bool false)]) 58,
zp 61 58 60,
zm 62 61,
zF 63 3 1 62,
zG 64 (.load 3 true false (tt 63)) 62,
zG 65 (.call 5900 0 [tt 64]) 62,
zp 66 62 65,
zm 2 66]
 .ret) (yr [zb 68 .eql 14 7,
zm 67 68]
 (yw 67 (yr [yl 69 8 1,
oo 70 (.call 5700 0 [tt 69, .const (.bool false)]),
zm 71 70,
zG 72 (.load 8 true false (tt 1)) 71,
zG 73 (.call 5800 0 [tt 72, .const (.bool false)]) 71,
zp 74 71 73,
zm 75 74,
zF 76 3 1 75,
zG 77 (.load 3 true false (tt 76)) 75,
zG 78 (.call 1900 0 [tt 77]) 75,
zp 79 75 78,
zm 2 79]
 .ret) .skip))))))))))))
 (yr [yo 2 false]
 .ret))))
def p6100 : ProcT := pF [0, 1] [] [.tmp 4] (yr [oo 2 (.box 100 (tt 0)),
yo 4 false]
 (.seq (yr [zf 5 0 2,
zl 6 5,
zb 7 .neq 6 2,
zm 8 7,
zF 9 0 2 8,
zL 10 9 8,
zn 11 .neq 10 3 8,
zp 12 8 11]
 (yw 12 (yr [yl 13 8 2,
ya 14 6000 0 13,
zm 4 14]
 .ret) .skip))
 (.seq (yr [zm 15 1,
zb 16 .lss 15 1,
zm 17 16,
yF 18 0 2 17,
yL 19 18 17,
og (some 20) (.bin .eql (tt 19) (nn 3)) 17 false [],
yM 21 20 17,
zF 22 7 2 21,
zL 23 22 21,
zG 24 (.len (tt 23)) 21,
zn 25 .gtr 24 0 21,
og (some 26) (.pick (tt 21) (tt 25) (.const (.bool false))) 17 false [],
zq 27 17 26]
 (yw 27 (yr [yo 4 false]
 .ret) .skip))
 (yr [yl 28 8 2,
oo 29 (.call 5700 0 [tt 28, .const (.bool false)]),
zm 30 29,
zG 31 (.load 8 true false (tt 2)) 30,
zG 32 (.call 5800 0 [tt 31, .const (.bool false)]) 30,
zp 33 30 32,
zm 34 33,
zF 35 3 2 34,
zG 36 (.load 3 true false (tt 35)) 34,
zG 37 (.call 1900 0 [tt 36]) 34,
zp 38 34 37,
zm 39 38,
zF 40 6 2 39,
zL 41 40 39,
zM 42 1 39,
zn 43 .sub 42 1 39,
zG 44 (.call 6200 0 [tt 41, tt 43]) 39,
zp 45 39 44,
zm 46 45,
zF 47 7 2 46,
zL 48 47 46,
zM 49 1 46,
zn 50 .sub 49 1 46,
zG 51 (.call 6200 0 [tt 48, tt 50]) 46,
zp 52 46 51,
zm 4 52]
 .ret))))
def p6200 : ProcT := pF [0, 1] [] [.tmp 4] (yr [yo 4 false]
 (.seq (yr [yn 5 0]
 (.block 0 (.label 6201)))
 (yr [yo 4 true]
 .ret)))
def p6201 : ProcT := { kind := .loop, ins := [0, 1, 5], bins := [], outs := [4], bouts := [], code := (.seq (yr [zm 6 5,
zm 7 0,
zc 8 7,
zt 9 .lss 6 8]
 (yw 9 .skip (.exit 0)))
 (.seq (.block 1 (yr [zm 12 0,
zm 13 5,
yi 14 8 12 13,
yl 15 8 14,
zm 16 1,
yb 17 6100 0 15 16,
oo 18 (.un .not (tt 17))]
 (yw 18 (yr [yo 4 false]
 .ret) .skip)))
 (rr [zm 10 5,
zb 11 .add 10 1,
zm 5 11]))) }
def p6300 : ProcT := pF [0] [] [.tmp 2] (yr [yo 2 false]
 (yr [zm 3 0,
oo 4 (.call 6200 0 [tt 3, nn 3]),
zm 5 4,
zM 6 0 5,
zG 7 (.call 4000 0 [tt 6]) 5,
zn 8 .leq 7 16 5,
zp 9 5 8,
zm 2 9]
 .ret))
def p6800 : ProcT := pF [0, 1] [] [.tmp 4] (yr [yn 4 0]
 (yr [zm 6 1,
zm 7 0,
zc 8 7,
zt 9 .sub 6 8,
zm 1 9]
 (.seq (yr [zm 10 1,
zb 11 .lss 10 0]
 (yw 11 (yr [oo 4 (.mv (nn (-1)))]
 .ret) .skip))
 (.seq (yr [yn 5 0]
 (.block 0 (.label 6801)))
 (yr [zm 26 1,
zm 4 26]
 .ret)))))
def p6801 : ProcT := { kind := .loop, ins := [0, 1, 5], bins := [], outs := [1, 4], bouts := [], code := (.seq (yr [zm 12 5,
zm 13 0,
zc 14 13,
zt 15 .lss 12 14]
 (yw 15 .skip (.exit 0)))
 (.seq (.block 1 (yr [zm 18 0,
zm 19 5,
yi 20 3 18 19,
yl 21 3 20,
zm 22 1,
yb 23 6900 0 21 22,
zm 1 23]
 (yr [zm 24 1,
zb 25 .lss 24 0]
 (yw 25 (yr [oo 4 (.mv (nn (-1)))]
 .ret) .skip))))
 (rr [zm 16 5,
zb 17 .add 16 1,
zm 5 17]))) }
def p6900 : ProcT := pF [0, 1] [] [.tmp 4] (yr [oo 2 (.box 100 (tt 0)),
yn 4 0]
 (yr [zf 5 2 2,
zl 6 5,
zm 7 1,
yb 8 6800 0 6 7,
zm 1 8]
 (.seq (yr [zm 9 1,
zb 10 .lss 9 0]
 (yw 10 (yr [oo 4 (.mv (nn (-1)))]
 .ret) .skip))
 (yr [zm 11 1,
zm 4 11]
 .ret))))
def p7000 : ProcT := pF [0, 1] [] [.tmp 4] (yr [oo 2 (.box 100 (tt 0)),
yn 4 0]
 (yr [zf 5 3 2,
yl 6 3 5,
zm 7 1,
yb 8 6900 0 6 7,
zm 1 8]
 (.seq (yr [zm 9 1,
zb 10 .lss 9 0]
 (yw 10 (yr [oo 4 (.mv (nn (-1)))]
 .ret) .skip))
 (yr [zf 11 6 2,
zl 12 11,
zm 13 1,
yb 14 7100 0 12 13,
zm 1 14]
 (.seq (yr [zm 15 1,
zb 16 .lss 15 0]
 (yw 16 (yr [oo 4 (.mv (nn (-1)))]
 .ret) .skip))
 (yr [zf 17 7 2,
zl 18 17,
zm 19 1,
yb 20 7100 0 18 19,
zm 1 20]
 (.seq (yr [zm 21 1,
zb 22 .lss 21 0]
 (yw 22 (yr [oo 4 (.mv (nn (-1)))]
 .ret) .skip))
 (yr [zm 23 1,
zm 4 23]
 .ret))))))))
def p7100 : ProcT := pF [0, 1] [] [.tmp 4] (yr [yn 4 0]
 (yr [zm 6 1,
zm 7 0,
zc 8 7,
zt 9 .sub 6 8,
zm 1 9]
 (.seq (yr [zm 10 1,
zb 11 .lss 10 0]
 (yw 11 (yr [oo 4 (.mv (nn (-1)))]
 .ret) .skip))
 (.seq (yr [yn 5 0]
 (.block 0 (.label 7101)))
 (yr [zm 26 1,
zm 4 26]
 .ret)))))
def p7101 : ProcT := { kind := .loop, ins := [0, 1, 5], bins := [], outs := [1, 4], bouts := [], code := (.seq (yr [zm 12 5,
zm 13 0,
zc 14 13,
zt 15 .lss 12 14]
 (yw 15 .skip (.exit 0)))
 (.seq (.block 1 (yr [zm 18 0,
zm 19 5,
yi 20 8 18 19,
yl 21 8 20,
zm 22 1,
yb 23 7000 0 21 22,
zm 1 23]
 (yr [zm 24 1,
zb 25 .lss 24 0]
 (yw 25 (yr [oo 4 (.mv (nn (-1)))]
 .ret) .skip))))
 (rr [zm 16 5,
zb 17 .add 16 1,
zm 5 17]))) }
def p7200 : ProcT := pF [0, 1] [] [.tmp 4] (yr [yn 4 0]
 (yr [zm 5 1,
zm 6 0,
zc 7 6,
zt 8 .sub 5 7,
zm 1 8]
 (.seq (yr [zm 9 1,
zb 10 .lss 9 0]
 (yw 10 (yr [oo 4 (.mv (nn (-1)))]
 .ret) .skip))
 (yr [zm 11 1,
zm 4 11]
 .ret))))
def p7400 : ProcT := pF [0] [] [.tmp 2] (yr [oo 2 (.mv (.const (.sl (.own false) .exp [])))]
 (yr [zm 5 0,
zc 6 5,
oo 7 (.mksl 100 .exp (tt 6) (tt 6)),
yt 3 7]
 (.seq (yr [yn 4 0]
 (.block 0 (.label 7401)))
 (yr [yt 22 3,
yt 2 22]
 .ret))))
def p7401 : ProcT := { kind := .loop, ins := [0, 3, 4], bins := [100], outs := [2, 3], bouts := [100], code := (.seq (yr [zm 8 4,
zm 9 0,
zc 10 9,
zt 11 .lss 8 10]
 (yw 11 .skip (.exit 0)))
 (.seq (.block 1 (rr [zm 14 3,
zm 15 4,
zm 16 0,
zm 17 4,
yi 18 3 16 17,
yl 19 3 18,
ya 20 7500 0 19,
yi 21 3 14 15,
ys 3 21 20 []]))
 (rr [zm 12 4,
zb 13 .add 12 1,
zm 4 13]))) }
def p7500 : ProcT := pF [0] [] [.cell 2 3 true] (yr [oo 1 (.box 100 (tt 0)),
oo 2 (.alloc 101 [.int .i64 0, .int .i64 0, .sl (.own false) .exp []])]
 (yr [oo 3 (.alloc 102 [.int .i64 0, .int .i64 0, .sl (.own false) .exp []])]
 (yr [zf 4 0 1,
zl 5 4,
zf 6 0 3,
ys 1 6 5 []]
 (yr [zf 7 1 1,
zl 8 7,
zf 9 1 3,
ys 1 9 8 []]
 (yr [zf 10 2 1,
zl 11 10,
ya 12 7400 0 11,
zf 13 2 3,
on (.store 1 (tt 13) (.take 12)) []]
 (yr [yl 14 3 3,
ys 3 2 14 []]
 .ret))))))
def p7600 : ProcT := pF [0] [] [.cell 2 8 true] (yr [oo 1 (.box 100 (tt 0)),
oo 2 (.alloc 101 [.int .i64 0, .int .i64 0, .int .i64 0, .int .i64 0, .int .i64 0, .sl (.own false) .exp [], .sl (.own false) .stm [], .sl (.own false) .stm []])]
 (yr [oo 3 (.alloc 102 [.int .i64 0, .int .i64 0, .int .i64 0, .int .i64 0, .int .i64 0, .sl (.own false) .exp [], .sl (.own false) .stm [], .sl (.own false) .stm []])]
 (yr [zf 4 0 1,
zl 5 4,
zf 6 0 3,
ys 1 6 5 []]
 (yr [zf 7 1 1,
zl 8 7,
zf 9 1 3,
ys 1 9 8 []]
 (yr [zf 10 2 1,
zl 11 10,
zf 12 2 3,
ys 1 12 11 []]
 (yr [zf 13 3 1,
yl 14 3 13,
ya 15 7500 0 14,
zf 16 3 3,
ys 3 16 15 []]
 (yr [zf 17 6 1,
zl 18 17,
ya 19 7700 0 18,
zf 20 6 3,
on (.store 1 (tt 20) (.take 19)) []]
 (yr [zf 21 7 1,
zl 22 21,
ya 23 7700 0 22,
zf 24 7 3,
on (.store 1 (tt 24) (.take 23)) []]
 (yr [yl 25 8 3,
ys 8 2 25 []]
 .ret)))))))))
def p7700 : ProcT := pF [0] [] [.tmp 2] (yr [oo 2 (.mv (.const (.sl (.own false) .stm [])))]
 (yr [zm 5 0,
zc 6 5,
oo 7 (.mksl 100 .stm (tt 6) (tt 6)),
yt 3 7]
 (.seq (yr [yn 4 0]
 (.block 0 (.label 7701)))
 (yr [yt 22 3,
yt 2 22]
 .ret))))
def p7701 : ProcT := { kind := .loop, ins := [0, 3, 4], bins := [100], outs := [2, 3], bouts := [100], code := (.seq (yr [zm 8 4,
zm 9 0,
zc 10 9,
zt 11 .lss 8 10]
 (yw 11 .skip (.exit 0)))
 (.seq (.block 1 (rr [zm 14 3,
zm 15 4,
zm 16 0,
zm 17 4,
yi 18 8 16 17,
yl 19 8 18,
ya 20 7600 0 19,
yi 21 8 14 15,
ys 8 21 20 []]))
 (rr [zm 12 4,
zb 13 .add 12 1,
zm 4 13]))) }
def p7800 : ProcT := pF [0] [] [.tmp 2] (yr [oo 2 (.mv (.const (.sl (.own false) .int [])))]
 (yr [zm 5 0,
zc 6 5,
oo 7 (.mksl 100 .int (tt 6) (tt 6)),
yt 3 7]
 (.seq (yr [yn 4 0]
 (.block 0 (.label 7801)))
 (yr [yt 21 3,
yt 2 21]
 .ret))))
def p7801 : ProcT := { kind := .loop, ins := [0, 3, 4], bins := [100], outs := [2, 3], bouts := [100], code := (.seq (yr [zm 8 4,
zm 9 0,
zc 10 9,
zt 11 .lss 8 10]
 (yw 11 .skip (.exit 0)))
 (.seq (.block 1 (rr [zm 14 3,
zm 15 4,
zm 16 0,
zm 17 4,
yi 18 1 16 17,
zl 19 18,
yi 20 1 14 15,
ys 1 20 19 []]))
 (rr [zm 12 4,
zb 13 .add 12 1,
zm 4 13]))) }
def p8000 : ProcT := pF [0, 1] [] [.tmp 4] (yr [yo 4 false]
 (.seq (yr [zm 6 0,
zc 7 6,
zm 8 1,
zc 9 8,
zt 10 .neq 7 9]
 (yw 10 (yr [yo 4 false]
 .ret) .skip))
 (.seq (yr [yn 5 0]
 (.block 0 (.label 8001)))
 (yr [yo 4 true]
 .ret))))
def p8001 : ProcT := { kind := .loop, ins := [0, 1, 5], bins := [], outs := [4], bouts := [], code := (.seq (yr [zm 11 5,
zm 12 0,
zc 13 12,
zt 14 .lss 11 13]
 (yw 14 .skip (.exit 0)))
 (.seq (.block 1 (.seq (.region true [zm 17 0,
zm 18 5,
yi 19 3 17 18,
yl 20 3 19,
zm 21 1,
zm 22 5,
yi 23 3 21 22,
yl 24 3 23,
yb 25 8100 0 20 24,
oo 26 (.un .not (tt 25))])
 (yw 26 (yr [yo 4 false]
 .ret) .skip)))
 (rr [zm 15 5,
zb 16 .add 15 1,
zm 5 16]))) }
def p8100 : ProcT := pF [0, 1] [] [.tmp 4] (yr [oo 2 (.box 100 (tt 0)),
oo 3 (.box 101 (tt 1)),
yo 4 false]
 (.seq (yr [zf 5 0 2,
zl 6 5,
zf 7 0 3,
zl 8 7,
zt 9 .neq 6 8]
 (yw 9 (yr [yo 4 false]
 .ret) .skip))
 (.seq (yr [zf 10 1 2,
zl 11 10,
zf 12 1 3,
zl 13 12,
zt 14 .neq 11 13]
 (yw 14 (yr [yo 4 false]
 .ret) .skip))
 (.seq (yr [zf 15 2 2,
zl 16 15,
zf 17 2 3,
zl 18 17,
yb 19 8000 0 16 18,
oo 20 (.un .not (tt 19))]
 (yw 20 (yr [yo 4 false]
 .ret) .skip))
 (yr [yo 4 true]
 .ret)))))
def p8200 : ProcT := pF [0, 1] [] [.tmp 4] (yr [oo 2 (.box 100 (tt 0)),
oo 3 (.box 101 (tt 1)),
yo 4 false]
 (.seq (yr [zf 5 0 2,
zl 6 5,
zf 7 0 3,
zl 8 7,
zt 9 .neq 6 8]
 (yw 9 (yr [yo 4 false]
 .ret) .skip))
 (.seq (yr [zf 10 1 2,
zl 11 10,
zf 12 1 3,
zl 13 12,
zt 14 .neq 11 13]
 (yw 14 (yr [yo 4 false]
 .ret) .skip))
 (.seq (yr [zf 15 2 2,
zl 16 15,
zf 17 2 3,
zl 18 17,
zt 19 .neq 16 18]
 (yw 19 (yr [yo 4 false]
 .ret) .skip))
 (.seq (yr [zf 20 3 2,
yl 21 3 20,
zf 22 3 3,
yl 23 3 22,
yb 24 8100 0 21 23,
oo 25 (.un .not (tt 24))]
 (yw 25 (yr [yo 4 false]
 .ret) .skip))
 (.seq (yr [zf 26 6 2,
zl 27 26,
zf 28 6 3,
zl 29 28,
yb 30 8300 0 27 29,
oo 31 (.un .not (tt 30))]
 (yw 31 (yr [yo 4 false]
 .ret) .skip))
 (.seq (yr [zf 32 7 2,
zl 33 32,
zf 34 7 3,
zl 35 34,
yb 36 8300 0 33 35,
oo 37 (.un .not (tt 36))]
 (yw 37 (yr [yo 4 false]
 .ret) .skip))
 (yr [yo 4 true]
 .ret))))))))
def p8300 : ProcT := pF [0, 1] [] [.tmp 4] (yr [yo 4 false]
 (.seq (yr [zm 6 0,
zc 7 6,
zm 8 1,
zc 9 8,
zt 10 .neq 7 9]
 (yw 10 (yr [yo 4 false]
 .ret) .skip))
 (.seq (yr [yn 5 0]
 (.block 0 (.label 8301)))
 (yr [yo 4 true]
 .ret))))
def p8301 : ProcT := { kind := .loop, ins := [0, 1, 5], bins := [], outs := [4], bouts := [], code := (.seq (yr [zm 11 5,
zm 12 0,
zc 13 12,
zt 14 .lss 11 13]
 (yw 14 .skip (.exit 0)))
 (.seq (.block 1 (.seq (.region true [zm 17 0,
zm 18 5,
yi 19 8 17 18,
yl 20 8 19,
zm 21 1,
zm 22 5,
yi 23 8 21 22,
yl 24 8 23,
yb 25 8200 0 20 24,
oo 26 (.un .not (tt 25))])
 (yw 26 (yr [yo 4 false]
 .ret) .skip)))
 (rr [zm 15 5,
zb 16 .add 15 1,
zm 5 16]))) }
def p8400 : ProcT := pF [0, 1] [] [.tmp 4] (yr [yo 4 false]
 (.seq (yr [zm 6 0,
zc 7 6,
zm 8 1,
zc 9 8,
zt 10 .neq 7 9]
 (yw 10 (yr [yo 4 false]
 .ret) .skip))
 (.seq (yr [yn 5 0]
 (.block 0 (.label 8401)))
 (yr [yo 4 true]
 .ret))))
def p8401 : ProcT := { kind := .loop, ins := [0, 1, 5], bins := [], outs := [4], bouts := [], code := (.seq (yr [zm 11 5,
zm 12 0,
zc 13 12,
zt 14 .lss 11 13]
 (yw 14 .skip (.exit 0)))
 (.seq (.block 1 (.seq (.region true [zm 17 0,
zm 18 5,
yi 19 1 17 18,
zl 20 19,
zm 21 1,
zm 22 5,
yi 23 1 21 22,
zl 24 23,
zt 25 .neq 20 24])
 (yw 25 (yr [yo 4 false]
 .ret) .skip)))
 (rr [zm 15 5,
zb 16 .add 15 1,
zm 5 16]))) }
def p8500 : ProcT := pF [0, 1] [] [.tmp 4] (yr [oo 2 (.box 100 (tt 0)),
oo 3 (.box 101 (tt 1)),
yo 4 false]
 (.seq (yr [zf 5 0 2,
zl 6 5,
zf 7 0 3,
zl 8 7,
yb 9 8400 0 6 8,
oo 10 (.un .not (tt 9))]
 (yw 10 (yr [yo 4 false]
 .ret) .skip))
 (.seq (yr [zf 11 1 2,
zl 12 11,
zf 13 1 3,
zl 14 13,
yb 15 8300 0 12 14,
oo 16 (.un .not (tt 15))]
 (yw 16 (yr [yo 4 false]
 .ret) .skip))
 (yr [yo 4 true]
 .ret))))
def p9000 : ProcT := pF [0] [] [.tmp 2] (yr [yo 2 false]
 (yr [zm 3 0,
oo 4 (.call 5400 0 [tt 3, nn 3]),
zm 2 4]
 .ret))
def p9100 : ProcT := pF [0] [] [.cell 2 3 true] (yr [oo 1 (.box 100 (tt 0)),
oo 2 (.alloc 101 [.int .i64 0, .int .i64 0, .sl (.own false) .exp []])]
 (yr [zf 6 0 1,
zl 7 6,
zf 8 1 1,
zl 9 8,
oo 10 (.build [.int .i64 0, .int .i64 0, .sl (.own false) .exp []] [(0, 1, tt 7), (1, 1, tt 9)]),
oo 3 (.alloc 102 [.int .i64 0, .int .i64 0, .sl (.own false) .exp []]),
ys 3 3 10 []]
 (.seq (yr [zf 11 2 1,
zl 12 11,
zc 13 12,
yn 14 0]
 (.block 0 (.label 9101)))
 (yr [yl 26 3 3,
ys 3 2 26 []]
 .ret))))
def p9101 : ProcT := { kind := .loop, ins := [2, 3, 12, 13, 14], bins := [101, 102], outs := [2, 3], bouts := [101, 102], code := (yr [zt 15 .lss 14 13]
 (.seq (yw 15 .skip (.exit 0))
 (.seq (.block 1 (yr [yi 16 3 12 14,
yl 17 3 16,
oo 5 (.alloc 103 [.int .i64 0, .int .i64 0, .sl (.own false) .exp []]),
ys 3 5 17 []]
 (.region true [yf 18 2 3 [102],
op 19 (.load 1 false true (tt 18)) [102],
op 20 (.load 3 true false (tt 5)) [103],
ya 21 9100 0 20,
oo 22 (.buildS .full .exp [tt 21]),
oo 23 (.app 3 (.take 19) (tt 22)),
yf 24 2 3 [102],
on (.store 1 (tt 24) (.take 23)) [102]])))
 (rr [zb 25 .add 14 1,
zm 14 25])))) }
def p9200 : ProcT := pF [0] [] [.tmp 2] (yr [oo 2 (.mv (.const (.sl (.own false) .stm [])))]
 (yr [oo 3 (.mv (.const (.sl (.own false) .stm [])))]
 (.seq (yr [zm 6 0,
zc 7 6,
yn 8 0]
 (.block 0 (.label 9201)))
 (yr [yt 29 3,
yt 2 29]
 .ret))))
def p9201 : ProcT := { kind := .loop, ins := [3, 6, 7, 8], bins := [], outs := [2, 3], bouts := [], code := (yr [zt 9 .lss 8 7]
 (.seq (yw 9 .skip (.exit 0))
 (.seq (.block 1 (yr [yi 10 8 6 8,
yl 11 8 10,
oo 5 (.alloc 100 [.int .i64 0, .int .i64 0, .int .i64 0, .int .i64 0, .int .i64 0, .sl (.own false) .exp [], .sl (.own false) .stm [], .sl (.own false) .stm []]),
ys 8 5 11 []]
 (.seq (.region true [yf 12 6 5 [100],
yd 13 12 [100],
ya 14 9200 0 13,
yf 15 7 5 [100],
yd 16 15 [100],
ya 17 9200 0 16,
yf 18 3 5 [100],
op 19 (.load 3 true false (tt 18)) [100],
ya 20 9100 0 19,
yf 21 6 5 [100],
on (.store 1 (tt 21) (.take 14)) [100],
yf 22 7 5 [100],
on (.store 1 (tt 22) (.take 17)) [100],
yf 23 3 5 [100],
ys 3 23 20 [100]])
 (rr [yt 24 3,
yl 25 8 5,
oo 26 (.buildS .full .stm [tt 25]),
oo 27 (.app 8 (.take 24) (tt 26)),
yt 3 27]))))
 (rr [zb 28 .add 8 1,
zm 8 28])))) }
def p9300 : ProcT := pF [0] [] [.cell 2 2 true, .tmp 3] (yr [oo 2 (.alloc 100 [.sl (.own false) .int [], .sl (.own false) .stm []]),
yo 3 false]
 (.seq (yr [zm 4 0,
ya 5 9000 0 4,
oo 6 (.un .not (tt 5))]
 (yw 6 (yr [oo 7 (.build [.sl (.own false) .int [], .sl (.own false) .stm []] []),
ys 2 2 7 [],
yo 3 false]
 .ret) .skip))
 (.seq (.region true [oo 8 (.mkz .int (nn 4) (nn 4)),
zm 9 0,
ya 10 9200 0 9,
oo 11 (.build [.sl (.own false) .int [], .sl (.own false) .stm []] [(0, 1, tt 8), (1, 1, tt 10)]),
ys 2 2 11 [100],
yo 3 true])
 .ret)))
def p9400 : ProcT := pF [0] [] [.cell 2 3 true] (yr [oo 1 (.box 100 (tt 0)),
oo 2 (.alloc 101 [.int .i64 0, .int .i64 0, .sl (.own false) .exp []])]
 (.seq (yr [zf 3 2 1,
zl 4 3,
zc 5 4,
zb 6 .eql 5 0]
 (yw 6 (yr [zf 7 0 1,
zl 8 7,
zf 9 1 1,
zl 10 9,
yb 11 300 0 8 10,
ys 3 2 11 []]
 .ret) .skip))
 (.seq (.region true [yf 12 0 1 [100],
yd 13 12 [100],
yf 14 2 1 [100],
yd 15 14 [100],
oo 16 (.iadr 3 (tt 15) (nn 0)),
yl 17 3 16,
ya 18 9400 0 17,
yf 19 2 1 [100],
yd 20 19 [100],
oo 21 (.iadr 3 (tt 20) (nn 1)),
yl 22 3 21,
ya 23 9400 0 22,
oo 24 (.call 500 0 [tt 13, tt 18, tt 23]),
ys 3 2 24 [101]])
 .ret)))
def p9500 : ProcT := pF [0] [] [.tmp 2] (yr [oo 2 (.mv (.const (.sl (.own false) .stm [])))]
 (yr [oo 6 (.buildS (.own true) .stm []),
yt 3 6]
 (.seq (yr [yn 4 0]
 (.block 0 (.label 9501)))
 (yr [yt 33 3,
yt 2 33]
 .ret))))
def p9501 : ProcT := { kind := .loop, ins := [0, 3, 4], bins := [], outs := [2, 3], bouts := [], code := (.seq (yr [zm 7 4,
zm 8 0,
zc 9 8,
zt 10 .lss 7 9]
 (yw 10 .skip (.exit 0)))
 (.seq (.block 1 (yr [zm 13 0,
zm 14 4,
yi 15 8 13 14,
yl 16 8 15,
oo 5 (.alloc 100 [.int .i64 0, .int .i64 0, .int .i64 0, .int .i64 0, .int .i64 0, .sl (.own false) .exp [], .sl (.own false) .stm [], .sl (.own false) .stm []]),
ys 8 5 16 []]
 (yr [zf 17 3 5,
yl 18 3 17,
ya 19 9400 0 18,
zf 20 3 5,
ys 3 20 19 []]
 (yr [zf 21 6 5,
zl 22 21,
ya 23 9500 0 22,
zf 24 6 5,
on (.store 1 (tt 24) (.take 23)) []]
 (yr [zf 25 7 5,
zl 26 25,
ya 27 9500 0 26,
zf 28 7 5,
on (.store 1 (tt 28) (.take 27)) []]
 (rr [yt 29 3,
yl 30 8 5,
oo 31 (.buildS .full .stm [tt 30]),
oo 32 (.app 8 (.take 29) (tt 31)),
yt 3 32]))))))
 (rr [zm 11 4,
zb 12 .add 11 1,
zm 4 12]))) }
def p9600 : ProcT := pF [0] [] [.cell 2 2 true, .tmp 3] (yr [oo 2 (.alloc 100 [.sl (.own false) .int [], .sl (.own false) .stm []]),
yo 3 false]
 (.seq (yr [zm 4 0,
ya 5 6300 0 4,
oo 6 (.un .not (tt 5))]
 (yw 6 (yr [oo 7 (.build [.sl (.own false) .int [], .sl (.own false) .stm []] []),
ys 2 2 7 [],
yo 3 false]
 .ret) .skip))
 (.seq (.region true [oo 8 (.mkz .int (nn 4) (nn 4)),
zm 9 0,
ya 10 9500 0 9,
oo 11 (.build [.sl (.own false) .int [], .sl (.own false) .stm []] [(0, 1, tt 8), (1, 1, tt 10)]),
ys 2 2 11 [100],
yo 3 true])
 .ret)))
def p10600 : ProcT := pF [0, 1] [] [.tmp 4] (yr [yn 4 0]
 (.seq (yr [yn 5 0]
 (.block 0 (.label 10601)))
 (yr [zm 20 1,
zm 4 20]
 .ret)))
def p10601 : ProcT := { kind := .loop, ins := [0, 1, 5], bins := [], outs := [1, 4], bouts := [], code := (.seq (yr [zm 6 5,
zm 7 0,
zc 8 7,
zt 9 .lss 6 8]
 (yw 9 .skip (.exit 0)))
 (.seq (.block 1 (.seq (yr [zm 12 0,
zm 13 5,
yi 14 1 12 13,
zl 15 14,
zm 16 1,
zt 17 .neq 15 16]
 (yw 17 (yr [oo 4 (.mv (nn (-1)))]
 .ret) .skip))
 (rr [zm 18 1,
zb 19 .add 18 1,
zm 1 19])))
 (rr [zm 10 5,
zb 11 .add 10 1,
zm 5 11]))) }
def p10700 : ProcT := pF [0, 1] [] [.tmp 4] (yr [yn 4 0]
 (.seq (yr [yn 5 0]
 (.block 0 (.label 10701)))
 (yr [zm 39 1,
zm 4 39]
 .ret)))
def p10701 : ProcT := { kind := .loop, ins := [0, 1, 5], bins := [], outs := [1, 4], bouts := [], code := (.seq (yr [zm 6 5,
zm 7 0,
zc 8 7,
zt 9 .lss 6 8]
 (yw 9 .skip (.exit 0)))
 (.seq (.block 1 (.seq (yr [zm 12 0,
zm 13 5,
yi 14 3 12 13,
zf 15 0 14,
zl 16 15,
zm 17 1,
zt 18 .neq 16 17]
 (yw 18 (yr [oo 4 (.mv (nn (-1)))]
 .ret) .skip))
 (yr [zm 19 1,
zb 20 .add 19 1,
zm 1 20]
 (.seq (yr [zm 21 0,
zm 22 5,
yi 23 3 21 22,
zf 24 1 23,
zl 25 24,
zm 26 1,
zt 27 .neq 25 26]
 (yw 27 (yr [oo 4 (.mv (nn (-1)))]
 .ret) .skip))
 (yr [zm 28 1,
zb 29 .add 28 1,
zm 1 29]
 (yr [zm 30 0,
zm 31 5,
yi 32 3 30 31,
zf 33 2 32,
zl 34 33,
zm 35 1,
yb 36 10700 0 34 35,
zm 1 36]
 (yr [zm 37 1,
zb 38 .lss 37 0]
 (yw 38 (yr [oo 4 (.mv (nn (-1)))]
 .ret) .skip))))))))
 (rr [zm 10 5,
zb 11 .add 10 1,
zm 5 11]))) }
def p10800 : ProcT := pF [0, 1] [] [.tmp 4] (yr [yn 4 0]
 (.seq (yr [yn 5 0]
 (.block 0 (.label 10801)))
 (yr [zm 87 1,
zm 4 87]
 .ret)))
def p10801 : ProcT := { kind := .loop, ins := [0, 1, 5], bins := [], outs := [1, 4], bouts := [], code := (.seq (yr [zm 6 5,
zm 7 0,
zc 8 7,
zt 9 .lss 6 8]
 (yw 9 .skip (.exit 0)))
 (.seq (.block 1 (.seq (yr [zm 12 0,
zm 13 5,
yi 14 8 12 13,
zf 15 0 14,
zl 16 15,
zm 17 1,
zt 18 .neq 16 17]
 (yw 18 (yr [oo 4 (.mv (nn (-1)))]
 .ret) .skip))
 (yr [zm 19 1,
zb 20 .add 19 1,
zm 1 20]
 (.seq (yr [zm 21 0,
zm 22 5,
yi 23 8 21 22,
zf 24 1 23,
zl 25 24,
zm 26 1,
zt 27 .neq 25 26]
 (yw 27 (yr [oo 4 (.mv (nn (-1)))]
 .ret) .skip))
 (yr [zm 28 1,
zb 29 .add 28 1,
zm 1 29]
 (.seq (yr [zm 30 0,
zm 31 5,
yi 32 8 30 31,
zf 33 2 32,
zl 34 33,
zm 35 1,
zt 36 .neq 34 35]
 (yw 36 (yr [oo 4 (.mv (nn (-1)))]
 .ret) .skip))
 (yr [zm 37 1,
zb 38 .add 37 1,
zm 1 38]
 (.seq (yr [zm 39 0,
zm 40 5,
yi 41 8 39 40,
zf 42 3 41,
zf 43 0 42,
zl 44 43,
zm 45 1,
zt 46 .neq 44 45]
 (yw 46 (yr [oo 4 (.mv (nn (-1)))]
 .ret) .skip))
 (yr [zm 47 1,
zb 48 .add 47 1,
zm 1 48]
 (.seq (yr [zm 49 0,
zm 50 5,
yi 51 8 49 50,
zf 52 3 51,
zf 53 1 52,
zl 54 53,
zm 55 1,
zt 56 .neq 54 55]
 (yw 56 (yr [oo 4 (.mv (nn (-1)))]
 .ret) .skip))
 (yr [zm 57 1,
zb 58 .add 57 1,
zm 1 58]
 (yr [zm 59 0,
zm 60 5,
yi 61 8 59 60,
zf 62 3 61,
zf 63 2 62,
zl 64 63,
zm 65 1,
yb 66 10700 0 64 65,
zm 1 66]
 (.seq (yr [zm 67 1,
zb 68 .lss 67 0]
 (yw 68 (yr [oo 4 (.mv (nn (-1)))]
 .ret) .skip))
 (yr [zm 69 0,
zm 70 5,
yi 71 8 69 70,
zf 72 6 71,
zl 73 72,
zm 74 1,
yb 75 10800 0 73 74,
zm 1 75]
 (.seq (yr [zm 76 1,
zb 77 .lss 76 0]
 (yw 77 (yr [oo 4 (.mv (nn (-1)))]
 .ret) .skip))
 (yr [zm 78 0,
zm 79 5,
yi 80 8 78 79,
zf 81 7 80,
zl 82 81,
zm 83 1,
yb 84 10800 0 82 83,
zm 1 84]
 (yr [zm 85 1,
zb 86 .lss 85 0]
 (yw 86 (yr [oo 4 (.mv (nn (-1)))]
 .ret) .skip))))))))))))))))))
 (rr [zm 10 5,
zb 11 .add 10 1,
zm 5 11]))) }
def p11100 : ProcT := pF [0, 1, 2] [] [.tmp 6] (yr [yo 6 false]
 (yr [zm 7 0,
zb 8 .eql 7 0,
zm 9 8,
yM 10 2 9,
yM 11 10 9,
zM 12 0 11,
zn 13 .gtr 12 0 11,
og (some 14) (.pick (tt 11) (tt 13) (.const (.bool false))) 9 false [],
yM 15 14 9,
zM 16 0 15,
zM 17 1 15,
zg 18 .lss 16 17 15,
og (some 19) (.pick (tt 15) (tt 18) (.const (.bool false))) 9 false [],
zq 20 9 19,
zm 6 20]
 .ret))
def p19000 : ProcT := pF [0, 1] [] [.tmp 4] (yr [oo 2 (.box 100 (tt 0)),
oo 3 (.box 101 (tt 1)),
yo 4 false]
 (.seq (yr [zf 5 0 2,
zl 6 5,
zf 7 0 3,
zl 8 7,
zt 9 .neq 6 8]
 (yw 9 (yr [yo 4 false]
 .ret) .skip))
 (.seq (yr [zf 10 1 2,
zl 11 10,
zf 12 1 3,
zl 13 12,
yb 14 8400 0 11 13,
oo 15 (.un .not (tt 14))]
 (yw 15 (yr [yo 4 false]
 .ret) .skip))
 (yr [yo 4 true]
 .ret))))
def p22700 : ProcT := pF [0] [] [.tmp 2] (yr [yo 2 false]
 (.seq (yr [zm 5 0,
zc 6 5,
yn 7 0]
 (.block 0 (.label 22701)))
 (yr [zm 18 0,
zc 19 18,
zb 20 .leq 19 3,
zm 2 20]
 .ret)))
def p22701 : ProcT := { kind := .loop, ins := [0, 5, 6, 7], bins := [], outs := [0, 2], bouts := [], code := (yr [zt 8 .lss 7 6]
 (.seq (yw 8 .skip (.exit 0))
 (.seq (.block 1 (yr [yi 9 1 5 7,
zl 10 9,
zm 4 10]
 (yr [zm 11 4,
zb 12 .lss 11 1,
zm 13 12,
yM 14 4 13,
og (some 15) (.bin .gtr (tt 14) (nn 4)) 13 false [],
zq 16 13 15]
 (yw 16 (yr [yo 2 false]
 .ret) .skip))))
 (rr [zb 17 .add 7 1,
zm 7 17])))) }
def p22800 : ProcT := pF [0] [] [.tmp 2] (yr [oo 1 (.box 100 (tt 0)),
yo 2 false]
 (.seq (yr [zf 5 0 1,
zl 6 5,
ya 7 22700 0 6,
oo 8 (.un .not (tt 7)),
zm 9 8,
yF 10 1 1 9,
yL 11 10 9,
og (some 12) (.len (tt 11)) 9 false [],
og (some 13) (.bin .lss (tt 12) (nn 1)) 9 false [],
zq 14 9 13,
zm 15 14,
yF 16 1 1 15,
yL 17 16 15,
og (some 18) (.len (tt 17)) 15 false [],
og (some 19) (.bin .gtr (tt 18) (nn 3)) 15 false [],
zq 20 15 19]
 (yw 20 (yr [yo 2 false]
 .ret) .skip))
 (.seq (yr [zf 21 1 1,
zl 22 21,
zc 23 22,
yn 24 0]
 (.block 0 (.label 22801)))
 (yr [yo 2 true]
 .ret))))
def p22801 : ProcT := { kind := .loop, ins := [1, 22, 23, 24], bins := [100], outs := [2], bouts := [], code := (yr [zt 25 .lss 24 23]
 (.seq (yw 25 .skip (.exit 0))
 (.seq (.block 1 (yr [yi 26 1 22 24,
zl 27 26,
yt 4 27]
 (yr [zm 28 4,
zf 29 0 1,
zl 30 29,
zc 31 30,
yb 32 5400 0 28 31,
oo 33 (.un .not (tt 32))]
 (yw 33 (yr [yo 2 false]
 .ret) .skip))))
 (rr [zb 34 .add 24 1,
zm 24 34])))) }
def p22900 : ProcT := pF [0] [] [.tmp 2] (yr [oo 2 (.mv (.const (.sl (.own false) .bx [])))]
 (yr [oo 3 (.mv (.const (.sl (.own false) .bx [])))]
 (.seq (yr [zm 6 0,
zc 7 6,
yn 8 0]
 (.block 0 (.label 22901)))
 (yr [yt 18 3,
yt 2 18]
 .ret))))
def p22901 : ProcT := { kind := .loop, ins := [3, 6, 7, 8], bins := [], outs := [2, 3], bouts := [], code := (yr [zt 9 .lss 8 7]
 (.seq (yw 9 .skip (.exit 0))
 (.seq (.block 1 (yr [yi 10 1 6 8,
zl 11 10,
zm 5 11]
 (rr [yt 12 3,
zm 13 5,
oo 14 (.build [.int .i64 0, .sl (.own false) .int []] [(0, 1, tt 13)]),
oo 15 (.buildS .full .bx [tt 14]),
oo 16 (.app 2 (.take 12) (tt 15)),
yt 3 16])))
 (rr [zb 17 .add 8 1,
zm 8 17])))) }
def p23000 : ProcT := pF [0] [] [.cell 2 5 true, .tmp 3] (yr [oo 1 (.box 100 (tt 0)),
oo 2 (.alloc 101 [.sl (.own false) .tk [], .sl (.own false) .bx [], .int .i64 0, .int .i64 0, .sl (.own false) .int []]),
yo 3 false]
 (.seq (yr [yl 9 2 1,
ya 10 22800 0 9,
oo 11 (.un .not (tt 10))]
 (yw 11 (yr [oo 12 (.build [.sl (.own false) .tk [], .sl (.own false) .bx [], .int .i64 0, .int .i64 0, .sl (.own false) .int []] []),
ys 5 2 12 [],
yo 3 false]
 .ret) .skip))
 (yr [zf 13 0 1,
zl 14 13,
ya 15 22900 0 14,
oo 16 (.build [.sl (.own false) .tk [], .sl (.own false) .bx [], .int .i64 0, .int .i64 0, .sl (.own false) .int []] [(1, 1, tt 15)]),
oo 4 (.alloc 102 [.sl (.own false) .tk [], .sl (.own false) .bx [], .int .i64 0, .int .i64 0, .sl (.own false) .int []]),
ys 5 4 16 []]
 (.seq (yr [zf 17 1 1,
zl 18 17,
zc 19 18,
yn 20 0]
 (.block 0 (.label 23001)))
 (yr [yl 36 5 4,
ys 5 2 36 [],
yo 3 true]
 .ret)))))
def p23001 : ProcT := { kind := .loop, ins := [2, 4, 18, 19, 20], bins := [101, 102], outs := [2, 3, 4], bouts := [101, 102], code := (yr [zt 21 .lss 20 19]
 (.seq (yw 21 .skip (.exit 0))
 (.seq (.block 1 (yr [yi 22 1 18 20,
zl 23 22,
yt 6 23]
 (yr [zm 25 6,
ya 26 9300 0 25,
zm 24 26,
ye 27 0 24,
ye 28 1 24,
oo 7 (.alloc 103 [.sl (.own false) .int [], .sl (.own false) .stm []]),
ys 2 7 27 [],
zm 8 28]
 (rr [zf 29 0 4,
oo 30 (.load 1 false true (tt 29)),
yl 31 2 7,
oo 32 (.buildS .full .tk [tt 31]),
oo 33 (.app 2 (.take 30) (tt 32)),
zf 34 0 4,
on (.store 1 (tt 34) (.take 33)) []]))))
 (rr [zb 35 .add 20 1,
zm 20 35])))) }
def p23100 : ProcT := pF [0, 1] [] [.tmp 4] (yr [yo 4 false]
 (.seq (yr [yn 5 0]
 (.block 0 (.label 23101)))
 (yr [yo 4 true]
 .ret)))
def p23101 : ProcT := { kind := .loop, ins := [0, 1, 5], bins := [], outs := [4], bouts := [], code := (.seq (yr [zm 7 5,
zm 8 0,
zc 9 8,
zt 10 .lss 7 9]
 (yw 10 .skip (.exit 0)))
 (.seq (.block 1 (yr [zm 13 0,
zm 14 5,
yi 15 8 13 14,
yl 16 8 15,
oo 6 (.alloc 100 [.int .i64 0, .int .i64 0, .int .i64 0, .int .i64 0, .int .i64 0, .sl (.own false) .exp [], .sl (.own false) .stm [], .sl (.own false) .stm []]),
ys 8 6 16 []]
 (.seq (yr [zf 17 0 6,
zl 18 17,
zb 19 .eql 18 4,
zm 20 19,
yF 21 0 6 20,
yL 22 21 20,
og (some 23) (.bin .eql (tt 22) (nn 5)) 20 false [],
zq 24 20 23,
zm 25 24,
zF 26 2 6 25,
zL 27 26 25,
zM 28 1 25,
zg 29 .geq 27 28 25,
zp 30 25 29]
 (yw 30 (yr [yo 4 false]
 .ret) .skip))
 (yr [zf 31 6 6,
zl 32 31,
zm 33 1,
yb 34 23100 0 32 33,
oo 35 (.un .not (tt 34)),
zm 36 35,
yF 37 7 6 36,
yL 38 37 36,
yM 39 1 36,
og (some 40) (.call 23100 0 [tt 38, tt 39]) 36 false [],
og (some 41) (.un .not (tt 40)) 36 false [],
zq 42 36 41]
 (yw 42 (yr [yo 4 false]
 .ret) .skip)))))
 (rr [zm 11 5,
zb 12 .add 11 1,
zm 5 12]))) }
def p23200 : ProcT := pF [0] [] [.tmp 2] (yr [yo 2 false]
 (.seq (yr [yn 3 0]
 (.block 0 (.label 23201)))
 (yr [zm 16 0,
zc 17 16,
zb 18 .leq 17 3,
zm 2 18]
 .ret)))
def p23201 : ProcT := { kind := .loop, ins := [0, 3], bins := [], outs := [0, 2], bouts := [], code := (.seq (yr [zm 4 3,
zm 5 0,
zc 6 5,
zt 7 .lss 4 6]
 (yw 7 .skip (.exit 0)))
 (.seq (.block 1 (yr [zm 10 0,
zm 11 3,
yi 12 1 10 11,
zl 13 12,
oo 14 (.call 1600 0 [tt 13, nn 1, nn 4]),
oo 15 (.un .not (tt 14))]
 (yw 15 (yr [yo 2 false]
 .ret) .skip)))
 (rr [zm 8 3,
zb 9 .add 8 1,
zm 3 9]))) }
def p23300 : ProcT := pF [0] [] [.tmp 2] (yr [oo 1 (.box 100 (tt 0)),
yo 2 false]
 (.seq (yr [zf 4 0 1,
zl 5 4,
ya 6 23200 0 5,
oo 7 (.un .not (tt 6)),
zm 8 7,
yF 9 1 1 8,
yL 10 9 8,
og (some 11) (.len (tt 10)) 8 false [],
og (some 12) (.call 1600 0 [tt 11, nn 1, nn 3]) 8 false [],
og (some 13) (.un .not (tt 12)) 8 false [],
zq 14 8 13]
 (yw 14 (yr [yo 2 false]
 .ret) .skip))
 (.seq (yr [yn 3 0]
 (.block 0 (.label 23301)))
 (yr [yo 2 true]
 .ret))))
def p23301 : ProcT := { kind := .loop, ins := [1, 3], bins := [100], outs := [2], bouts := [], code := (.seq (yr [zm 15 3,
zf 16 1 1,
zl 17 16,
zc 18 17,
zt 19 .lss 15 18]
 (yw 19 .skip (.exit 0)))
 (.seq (.block 1 (.seq (.region true [yf 22 1 1 [100],
yd 23 22 [100],
zm 24 3,
yi 25 1 23 24,
zl 26 25,
ya 27 6300 0 26,
oo 28 (.un .not (tt 27)),
zm 29 28,
og (some 30) (.fadr 1 (tt 1)) 29 false [100],
og (some 31) (.load 1 false false (tt 30)) 29 false [100],
yM 32 3 29,
og (some 33) (.iadr 1 (tt 31) (tt 32)) 29 false [],
yL 34 33 29,
og (some 35) (.fadr 0 (tt 1)) 29 false [100],
og (some 36) (.load 1 false false (tt 35)) 29 false [100],
og (some 37) (.len (tt 36)) 29 false [],
og (some 38) (.call 23100 0 [tt 34, tt 37]) 29 false [],
og (some 39) (.un .not (tt 38)) 29 false [],
zq 40 29 39])
 (yw 40 (yr [yo 2 false]
 .ret) .skip)))
 (rr [zm 20 3,
zb 21 .add 20 1,
zm 3 21]))) }
def p23400 : ProcT := pF [0] [] [.tmp 2] (yr [oo 2 (.mv (.const (.sl (.own false) .bx [])))]
 (yr [oo 5 (.buildS (.own true) .bx []),
yt 3 5]
 (.seq (yr [yn 4 0]
 (.block 0 (.label 23401)))
 (yr [yt 21 3,
yt 2 21]
 .ret))))
def p23401 : ProcT := { kind := .loop, ins := [0, 3, 4], bins := [], outs := [2, 3], bouts := [], code := (.seq (yr [zm 6 4,
zm 7 0,
zc 8 7,
zt 9 .lss 6 8]
 (yw 9 .skip (.exit 0)))
 (.seq (.block 1 (rr [yt 12 3,
zm 13 0,
zm 14 4,
yi 15 1 13 14,
zl 16 15,
oo 17 (.buildS (.own false) .int []),
oo 18 (.build [.int .i64 0, .sl (.own false) .int []] [(0, 1, tt 16), (1, 1, tt 17)]),
oo 19 (.buildS .full .bx [tt 18]),
oo 20 (.app 2 (.take 12) (tt 19)),
yt 3 20]))
 (rr [zm 10 4,
zb 11 .add 10 1,
zm 4 11]))) }
def p23500 : ProcT := pF [0] [] [.cell 2 5 true, .tmp 3] (yr [oo 1 (.box 100 (tt 0)),
oo 2 (.alloc 101 [.sl (.own false) .tk [], .sl (.own false) .bx [], .int .i64 0, .int .i64 0, .sl (.own false) .int []]),
yo 3 false]
 (.seq (yr [yl 8 2 1,
ya 9 23300 0 8,
oo 10 (.un .not (tt 9))]
 (yw 10 (yr [oo 11 (.build [.sl (.own false) .tk [], .sl (.own false) .bx [], .int .i64 0, .int .i64 0, .sl (.own false) .int []] []),
ys 5 2 11 [],
yo 3 false]
 .ret) .skip))
 (yr [oo 12 (.buildS (.own false) .tk []),
zf 13 0 1,
zl 14 13,
ya 15 23400 0 14,
oo 16 (.buildS (.own false) .int []),
oo 17 (.build [.sl (.own false) .tk [], .sl (.own false) .bx [], .int .i64 0, .int .i64 0, .sl (.own false) .int []] [(0, 1, tt 12), (1, 1, tt 15), (4, 1, tt 16)]),
oo 4 (.alloc 102 [.sl (.own false) .tk [], .sl (.own false) .bx [], .int .i64 0, .int .i64 0, .sl (.own false) .int []]),
ys 5 4 17 []]
 (.seq (yr [yn 5 0]
 (.block 0 (.label 23501)))
 (yr [yl 40 5 4,
ys 5 2 40 [],
yo 3 true]
 .ret)))))
def p23501 : ProcT := { kind := .loop, ins := [1, 2, 4, 5], bins := [100, 101, 102], outs := [2, 3, 4], bouts := [101, 102], code := (.seq (yr [zm 18 5,
zf 19 1 1,
zl 20 19,
zc 21 20,
zt 22 .lss 18 21]
 (yw 22 .skip (.exit 0)))
 (.seq (.block 1 (yr [zf 26 1 1,
zl 27 26,
zm 28 5,
yi 29 1 27 28,
zl 30 29,
ya 31 9600 0 30,
zm 25 31,
ye 32 0 25,
ye 33 1 25,
oo 6 (.alloc 103 [.sl (.own false) .int [], .sl (.own false) .stm []]),
ys 2 6 32 [],
zm 7 33]
 (rr [zf 34 0 4,
oo 35 (.load 1 false true (tt 34)),
yl 36 2 6,
oo 37 (.buildS .full .tk [tt 36]),
oo 38 (.app 2 (.take 35) (tt 37)),
zf 39 0 4,
on (.store 1 (tt 39) (.take 38)) []])))
 (rr [zm 23 5,
zb 24 .add 23 1,
zm 5 24]))) }
def p25200 : ProcT := pF [0, 1] [] [.tmp 4] (yr [yo 4 false]
 (.seq (yr [zm 6 0,
zc 7 6,
zm 8 1,
zc 9 8,
zt 10 .neq 7 9]
 (yw 10 (yr [yo 4 false]
 .ret) .skip))
 (.seq (yr [yn 5 0]
 (.block 0 (.label 25201)))
 (yr [yo 4 true]
 .ret))))
def p25201 : ProcT := { kind := .loop, ins := [0, 1, 5], bins := [], outs := [4], bouts := [], code := (.seq (yr [zm 11 5,
zm 12 0,
zc 13 12,
zt 14 .lss 11 13]
 (yw 14 .skip (.exit 0)))
 (.seq (.block 1 (.seq (.region true [zm 17 0,
zm 18 5,
yi 19 2 17 18,
yl 20 2 19,
zm 21 1,
zm 22 5,
yi 23 2 21 22,
yl 24 2 23,
yb 25 8500 0 20 24,
oo 26 (.un .not (tt 25))])
 (yw 26 (yr [yo 4 false]
 .ret) .skip)))
 (rr [zm 15 5,
zb 16 .add 15 1,
zm 5 16]))) }
def p25300 : ProcT := pF [0, 1] [] [.tmp 4] (yr [yo 4 false]
 (.seq (yr [zm 6 0,
zc 7 6,
zm 8 1,
zc 9 8,
zt 10 .neq 7 9]
 (yw 10 (yr [yo 4 false]
 .ret) .skip))
 (.seq (yr [yn 5 0]
 (.block 0 (.label 25301)))
 (yr [yo 4 true]
 .ret))))
def p25301 : ProcT := { kind := .loop, ins := [0, 1, 5], bins := [], outs := [4], bouts := [], code := (.seq (yr [zm 11 5,
zm 12 0,
zc 13 12,
zt 14 .lss 11 13]
 (yw 14 .skip (.exit 0)))
 (.seq (.block 1 (.seq (.region true [zm 17 0,
zm 18 5,
yi 19 2 17 18,
yl 20 2 19,
zm 21 1,
zm 22 5,
yi 23 2 21 22,
yl 24 2 23,
yb 25 19000 0 20 24,
oo 26 (.un .not (tt 25))])
 (yw 26 (yr [yo 4 false]
 .ret) .skip)))
 (rr [zm 15 5,
zb 16 .add 15 1,
zm 5 16]))) }
def p25400 : ProcT := pF [0, 1] [] [.tmp 4] (yr [oo 2 (.box 100 (tt 0)),
oo 3 (.box 101 (tt 1)),
yo 4 false]
 (.seq (yr [zf 5 0 2,
zl 6 5,
zf 7 0 3,
zl 8 7,
yb 9 25200 0 6 8,
oo 10 (.un .not (tt 9))]
 (yw 10 (yr [yo 4 false]
 .ret) .skip))
 (.seq (yr [zf 11 1 2,
zl 12 11,
zf 13 1 3,
zl 14 13,
yb 15 25300 0 12 14,
oo 16 (.un .not (tt 15))]
 (yw 16 (yr [yo 4 false]
 .ret) .skip))
 (.seq (yr [zf 17 2 2,
zl 18 17,
zf 19 2 3,
zl 20 19,
zt 21 .neq 18 20]
 (yw 21 (yr [yo 4 false]
 .ret) .skip))
 (.seq (yr [zf 22 3 2,
zl 23 22,
zf 24 3 3,
zl 25 24,
zt 26 .neq 23 25]
 (yw 26 (yr [yo 4 false]
 .ret) .skip))
 (.seq (yr [zf 27 4 2,
zl 28 27,
zf 29 4 3,
zl 30 29,
yb 31 8400 0 28 30,
oo 32 (.un .not (tt 31))]
 (yw 32 (yr [yo 4 false]
 .ret) .skip))
 (yr [yo 4 true]
 .ret)))))))
def p28400 : ProcT := pF [0, 1] [] [.tmp 4] (yr [yn 4 0]
 (yr [zm 6 1,
zm 7 0,
zc 8 7,
zt 9 .sub 6 8,
zm 1 9]
 (.seq (yr [zm 10 1,
zb 11 .lss 10 0]
 (yw 11 (yr [oo 4 (.mv (nn (-1)))]
 .ret) .skip))
 (.seq (yr [yn 5 0]
 (.block 0 (.label 28401)))
 (yr [zm 26 1,
zm 4 26]
 .ret)))))
def p28401 : ProcT := { kind := .loop, ins := [0, 1, 5], bins := [], outs := [1, 4], bouts := [], code := (.seq (yr [zm 12 5,
zm 13 0,
zc 14 13,
zt 15 .lss 12 14]
 (yw 15 .skip (.exit 0)))
 (.seq (.block 1 (yr [zm 18 0,
zm 19 5,
yi 20 1 18 19,
zl 21 20,
zm 22 1,
yb 23 7100 0 21 22,
zm 1 23]
 (yr [zm 24 1,
zb 25 .lss 24 0]
 (yw 25 (yr [oo 4 (.mv (nn (-1)))]
 .ret) .skip))))
 (rr [zm 16 5,
zb 17 .add 16 1,
zm 5 17]))) }
def p28500 : ProcT := pF [0, 1] [] [.tmp 4] (yr [oo 2 (.box 100 (tt 0)),
yn 4 0]
 (yr [zf 5 0 2,
zl 6 5,
zm 7 1,
yb 8 7200 0 6 7,
zm 1 8]
 (.seq (yr [zm 9 1,
zb 10 .lss 9 0]
 (yw 10 (yr [oo 4 (.mv (nn (-1)))]
 .ret) .skip))
 (yr [zf 11 1 2,
zl 12 11,
zm 13 1,
yb 14 28400 0 12 13,
zm 1 14]
 (.seq (yr [zm 15 1,
zb 16 .lss 15 0]
 (yw 16 (yr [oo 4 (.mv (nn (-1)))]
 .ret) .skip))
 (yr [zm 17 1,
zm 4 17]
 .ret))))))
def p28600 : ProcT := pF [0] [] [.tmp 2] (yr [oo 2 (.mv (.const (.sl (.own false) .stms [])))]
 (yr [zm 5 0,
zc 6 5,
oo 7 (.mksl 100 .stms (tt 6) (tt 6)),
yt 3 7]
 (.seq (yr [yn 4 0]
 (.block 0 (.label 28601)))
 (yr [yt 22 3,
yt 2 22]
 .ret))))
def p28601 : ProcT := { kind := .loop, ins := [0, 3, 4], bins := [100], outs := [2, 3], bouts := [100], code := (.seq (yr [zm 8 4,
zm 9 0,
zc 10 9,
zt 11 .lss 8 10]
 (yw 11 .skip (.exit 0)))
 (.seq (.block 1 (rr [zm 14 3,
zm 15 4,
zm 16 0,
zm 17 4,
yi 18 1 16 17,
zl 19 18,
ya 20 7700 0 19,
yi 21 1 14 15,
on (.store 1 (tt 21) (.take 20)) []]))
 (rr [zm 12 4,
zb 13 .add 12 1,
zm 4 13]))) }
def p28700 : ProcT := pF [0] [] [.cell 2 2 true] (yr [oo 1 (.box 100 (tt 0)),
oo 2 (.alloc 101 [.sl (.own false) .int [], .sl (.own false) .stms []])]
 (yr [oo 3 (.alloc 102 [.sl (.own false) .int [], .sl (.own false) .stms []])]
 (yr [zf 4 0 1,
zl 5 4,
ya 6 7800 0 5,
zf 7 0 3,
on (.store 1 (tt 7) (.take 6)) []]
 (yr [zf 8 1 1,
zl 9 8,
ya 10 28600 0 9,
zf 11 1 3,
on (.store 1 (tt 11) (.take 10)) []]
 (yr [yl 12 2 3,
ys 2 2 12 []]
 .ret)))))
def p28800 : ProcT := pF [0, 1] [] [.tmp 4] (yr [yo 4 false]
 (.seq (yr [zm 6 0,
zc 7 6,
zm 8 1,
zc 9 8,
zt 10 .neq 7 9]
 (yw 10 (yr [yo 4 false]
 .ret) .skip))
 (.seq (yr [yn 5 0]
 (.block 0 (.label 28801)))
 (yr [yo 4 true]
 .ret))))
def p28801 : ProcT := { kind := .loop, ins := [0, 1, 5], bins := [], outs := [4], bouts := [], code := (.seq (yr [zm 11 5,
zm 12 0,
zc 13 12,
zt 14 .lss 11 13]
 (yw 14 .skip (.exit 0)))
 (.seq (.block 1 (.seq (.region true [zm 17 0,
zm 18 5,
yi 19 1 17 18,
zl 20 19,
zm 21 1,
zm 22 5,
yi 23 1 21 22,
zl 24 23,
yb 25 8300 0 20 24,
oo 26 (.un .not (tt 25))])
 (yw 26 (yr [yo 4 false]
 .ret) .skip)))
 (rr [zm 15 5,
zb 16 .add 15 1,
zm 5 16]))) }
def p28900 : ProcT := pF [0, 1] [] [.tmp 4] (yr [oo 2 (.box 100 (tt 0)),
oo 3 (.box 101 (tt 1)),
yo 4 false]
 (.seq (yr [zf 5 0 2,
zl 6 5,
zf 7 0 3,
zl 8 7,
yb 9 8400 0 6 8,
oo 10 (.un .not (tt 9))]
 (yw 10 (yr [yo 4 false]
 .ret) .skip))
 (.seq (yr [zf 11 1 2,
zl 12 11,
zf 13 1 3,
zl 14 13,
yb 15 28800 0 12 14,
oo 16 (.un .not (tt 15))]
 (yw 16 (yr [yo 4 false]
 .ret) .skip))
 (yr [yo 4 true]
 .ret))))
def p29500 : ProcT := pF [0, 1] [] [.tmp 4] (yr [yn 4 0]
 (.seq (yr [yn 5 0]
 (.block 0 (.label 29501)))
 (yr [zm 30 1,
zm 4 30]
 .ret)))
def p29501 : ProcT := { kind := .loop, ins := [0, 1, 5], bins := [], outs := [1, 4], bouts := [], code := (.seq (yr [zm 6 5,
zm 7 0,
zc 8 7,
zt 9 .lss 6 8]
 (yw 9 .skip (.exit 0)))
 (.seq (.block 1 (yr [zm 12 0,
zm 13 5,
yi 14 2 12 13,
zf 15 0 14,
zl 16 15,
zm 17 1,
yb 18 10600 0 16 17,
zm 1 18]
 (.seq (yr [zm 19 1,
zb 20 .lss 19 0]
 (yw 20 (yr [oo 4 (.mv (nn (-1)))]
 .ret) .skip))
 (yr [zm 21 0,
zm 22 5,
yi 23 2 21 22,
zf 24 1 23,
zl 25 24,
zm 26 1,
yb 27 10800 0 25 26,
zm 1 27]
 (yr [zm 28 1,
zb 29 .lss 28 0]
 (yw 29 (yr [oo 4 (.mv (nn (-1)))]
 .ret) .skip))))))
 (rr [zm 10 5,
zb 11 .add 10 1,
zm 5 11]))) }
def p29600 : ProcT := pF [0, 1] [] [.tmp 4] (yr [yn 4 0]
 (.seq (yr [yn 5 0]
 (.block 0 (.label 29601)))
 (yr [zm 30 1,
zm 4 30]
 .ret)))
def p29601 : ProcT := { kind := .loop, ins := [0, 1, 5], bins := [], outs := [1, 4], bouts := [], code := (.seq (yr [zm 6 5,
zm 7 0,
zc 8 7,
zt 9 .lss 6 8]
 (yw 9 .skip (.exit 0)))
 (.seq (.block 1 (.seq (yr [zm 12 0,
zm 13 5,
yi 14 2 12 13,
zf 15 0 14,
zl 16 15,
zm 17 1,
zt 18 .neq 16 17]
 (yw 18 (yr [oo 4 (.mv (nn (-1)))]
 .ret) .skip))
 (yr [zm 19 1,
zb 20 .add 19 1,
zm 1 20]
 (yr [zm 21 0,
zm 22 5,
yi 23 2 21 22,
zf 24 1 23,
zl 25 24,
zm 26 1,
yb 27 10600 0 25 26,
zm 1 27]
 (yr [zm 28 1,
zb 29 .lss 28 0]
 (yw 29 (yr [oo 4 (.mv (nn (-1)))]
 .ret) .skip))))))
 (rr [zm 10 5,
zb 11 .add 10 1,
zm 5 11]))) }
def p29700 : ProcT := pF [0, 1] [] [.tmp 4] (yr [oo 2 (.box 100 (tt 0)),
yn 4 0]
 (yr [zf 5 0 2,
zl 6 5,
zm 7 1,
yb 8 29500 0 6 7,
zm 1 8]
 (.seq (yr [zm 9 1,
zb 10 .lss 9 0]
 (yw 10 (yr [oo 4 (.mv (nn (-1)))]
 .ret) .skip))
 (yr [zf 11 1 2,
zl 12 11,
zm 13 1,
yb 14 29600 0 12 13,
zm 1 14]
 (.seq (yr [zm 15 1,
zb 16 .lss 15 0]
 (yw 16 (yr [oo 4 (.mv (nn (-1)))]
 .ret) .skip))
 (yr [zf 17 4 2,
zl 18 17,
zm 19 1,
yb 20 10600 0 18 19,
zm 1 20]
 (.seq (yr [zm 21 1,
zb 22 .lss 21 0]
 (yw 22 (yr [oo 4 (.mv (nn (-1)))]
 .ret) .skip))
 (yr [zm 23 1,
zm 4 23]
 .ret))))))))
def p29800 : ProcT := { kind := .fn, ins := [0], bins := [], res := [.tmp 2], loc := true, code := (yr [oo 1 (.box 100 (tt 0)),
yo 2 false]
 (yr [yn 3 1048576]
 (yr [yl 14 2 1,
zm 15 3,
yb 16 28500 0 14 15,
zm 3 16]
 (.seq (yr [zm 17 3,
zb 18 .lss 17 0]
 (yw 18 (yr [yo 2 true]
 .ret) .skip))
 (yr [yl 20 2 1,
ya 21 28700 0 20,
ya 22 23500 0 21,
zm 19 22,
ye 23 0 19,
ye 24 1 19,
oo 4 (.alloc 101 [.sl (.own false) .tk [], .sl (.own false) .bx [], .int .i64 0, .int .i64 0, .sl (.own false) .int []]),
ys 5 4 23 [],
zm 5 24]
 (yr [yl 25 2 1,
oo 26 (.tr (.call .pass 42000 [tt 25])),
oo 6 (.alloc 102 [.sl (.own false) .int [], .sl (.own false) .stms []]),
ys 2 6 26 []]
 (yr [yl 28 2 6,
oo 29 (.tr (.call .pview 41800 [tt 28])),
zm 27 29,
ye 30 0 27,
ye 31 1 27,
oo 7 (.alloc 103 [.sl (.own false) .tk [], .sl (.own false) .bx [], .int .i64 0, .int .i64 0, .sl (.own false) .int []]),
ys 5 7 30 [],
zm 8 31]
 (.seq (yr [yl 32 5 7,
yl 33 5 4,
oo 34 (.tr (.call .view 25400 [tt 32, tt 33])),
oo 35 (.un .not (tt 34)),
zm 36 35,
yM 37 8 36,
yM 38 5 36,
og (some 39) (.eqb true (tt 37) (tt 38)) 36 false [],
zq 40 36 39]
 (yw 40 (yr [yo 2 false]
 .ret) .skip))
 (.seq (.seq (.region true [op 41 (.load 2 true false (tt 6)) [102],
op 42 (.load 2 true false (tt 1)) [100],
ya 43 28700 0 42,
op 44 (.tr (.call .view 28900 [tt 41, tt 43])) [99],
oo 45 (.un .not (tt 44))])
 (yw 45 (yr [yo 2 false]
 .ret) .skip))
 (yr [yn 9 1]
 (yr [yl 46 2 6,
zm 47 9,
oo 48 (.tr (.call .pass 42100 [tt 46, tt 47])),
zm 9 48]
 (.seq (yr [zm 49 9,
zb 50 .lss 49 0,
zm 51 50,
og (some 52) (.load 5 true false (tt 7)) 51 false [],
og (some 53) (.load 5 true false (tt 4)) 51 false [],
og (some 54) (.tr (.call .view 25400 [tt 52, tt 53])) 51 false [],
og (some 55) (.un .not (tt 54)) 51 false [],
zq 56 51 55,
zm 57 56,
yM 58 8 57,
yM 59 5 57,
og (some 60) (.eqb true (tt 58) (tt 59)) 57 false [],
zq 61 57 60]
 (yw 61 (yr [yo 2 false]
 .ret) .skip))
 (yr [yn 10 1]
 (yr [yl 62 5 7,
zm 63 10,
oo 64 (.tr (.call .pass 42200 [tt 62, tt 63])),
zm 10 64]
 (yr [yn 11 1]
 (yr [yl 65 5 7,
zm 66 11,
oo 67 (.tr (.call .view 29700 [tt 65, tt 66])),
zm 11 67]
 (.seq (yr [zm 68 11,
zb 69 .lss 68 0]
 (yw 69 (yr [yo 2 false]
 .ret) .skip))
 (.seq (yr [zm 70 11,
zm 71 10,
zt 72 .neq 70 71]
 (yw 72 (yr [yo 2 false]
 .ret) .skip))
 (yr [yl 74 2 1,
ya 75 28700 0 74,
ya 76 23000 0 75,
zm 73 76,
ye 77 0 73,
ye 78 1 73,
oo 12 (.alloc 104 [.sl (.own false) .tk [], .sl (.own false) .bx [], .int .i64 0, .int .i64 0, .sl (.own false) .int []]),
ys 5 12 77 [],
zm 13 78]
 (.seq (yr [yl 79 5 12,
yl 80 5 4,
yb 81 25400 0 79 80,
oo 82 (.un .not (tt 81)),
zm 83 82,
yM 84 13 83,
yM 85 5 83,
og (some 86) (.eqb true (tt 84) (tt 85)) 83 false [],
zq 87 83 86]
 (yw 87 (yr [yo 2 false]
 .ret) .skip))
 (yr [yn 11 1]
 (yr [yl 88 5 7,
zm 89 11,
oo 90 (.tr (.call .view 29700 [tt 88, tt 89])),
zm 11 90]
 (.seq (yr [zm 91 11,
zb 92 .lss 91 0]
 (yw 92 (yr [yo 2 false]
 .ret) .skip))
 (.seq (yr [zm 93 11,
zm 94 10,
zt 95 .neq 93 94]
 (yw 95 (yr [yo 2 false]
 .ret) .skip))
 (yr [yo 2 true]
 .ret))))))))))))))))))))))))) }
def p38700 : ProcT := pF [0, 1] [99] [.tmp 4] (yr [yn 4 0]
 (.seq (yr [yn 5 0]
 (.block 0 (.label 38701)))
 (yr [zm 18 1,
zm 4 18]
 .ret)))
def p38701 : ProcT := { kind := .loop, ins := [0, 1, 5], bins := [99], outs := [1, 4], bouts := [99], code := (.seq (yr [zm 6 5,
zm 7 0,
oo 8 (.tr (.len (tt 7))),
zt 9 .lss 6 8]
 (yw 9 .skip (.exit 0)))
 (.seq (.block 1 (yr [zm 12 0,
zm 13 5,
zm 14 1,
oo 15 (.tr (.iadr 1 (tt 12) (tt 13))),
on (.tr (.store 1 (tt 15) (tt 14))) []]
 (rr [zm 16 1,
zb 17 .add 16 1,
zm 1 17])))
 (rr [zm 10 5,
zb 11 .add 10 1,
zm 5 11]))) }
def p39600 : ProcT := pF [0] [99] [.tmp 2] (yr [oo 2 (.mv (.const (.tr .int none 0)))]
 (yr [zm 5 0,
zc 6 5,
oo 7 (.tr (.mk .int (tt 6) (tt 6))),
zm 3 7]
 (.seq (yr [yn 4 0]
 (.block 0 (.label 39601)))
 (yr [zm 21 3,
zm 2 21]
 .ret))))
def p39601 : ProcT := { kind := .loop, ins := [0, 3, 4], bins := [99], outs := [2, 3], bouts := [99], code := (.seq (yr [zm 8 4,
zm 9 0,
zc 10 9,
zt 11 .lss 8 10]
 (yw 11 .skip (.exit 0)))
 (.seq (.block 1 (rr [zm 14 3,
zm 15 4,
zm 16 0,
zm 17 4,
yi 18 1 16 17,
zl 19 18,
oo 20 (.tr (.iadr 1 (tt 14) (tt 15))),
on (.tr (.store 1 (tt 20) (tt 19))) []]))
 (rr [zm 12 4,
zb 13 .add 12 1,
zm 4 13]))) }
def p40700 : ProcT := pF [0] [99] [.cell 2 2 true, .tmp 3] (yr [oo 2 (.alloc 100 [.tr .int none 0, .tr .stmH none 0]),
yo 3 false]
 (.seq (yr [zm 4 0,
ya 5 9000 0 4,
oo 6 (.un .not (tt 5))]
 (yw 6 (yr [oo 7 (.build [.tr .int none 0, .tr .stmH none 0] []),
ys 2 2 7 [],
yo 3 false]
 .ret) .skip))
 (.seq (.region true [op 8 (.mksl 100000 .int (nn 4) (nn 4)) [100000],
zm 9 0,
op 10 (.tr (.call .pass 41100 [tt 9])) [99],
op 11 (.tr (.bld 100000 [.tr .int none 0, .tr .stmH none 0] [(0, 1, tt 8), (1, 1, tt 10)])) [100000, 99],
ys 2 2 11 [100],
yo 3 true])
 .ret)))
def p40800 : ProcT := pF [0] [99] [.tmp 2] (yr [oo 2 (.mv (.const (.tr .stmH none 0)))]
 (yr [zm 5 0,
zc 6 5,
oo 7 (.tr (.mk .stmH (tt 6) (tt 6))),
zm 3 7]
 (.seq (yr [yn 4 0]
 (.block 0 (.label 40801)))
 (yr [zm 22 3,
zm 2 22]
 .ret))))
def p40801 : ProcT := { kind := .loop, ins := [0, 3, 4], bins := [99], outs := [2, 3], bouts := [99], code := (.seq (yr [zm 8 4,
zm 9 0,
zc 10 9,
zt 11 .lss 8 10]
 (yw 11 .skip (.exit 0)))
 (.seq (.block 1 (rr [zm 14 3,
zm 15 4,
zm 16 0,
zm 17 4,
yi 18 8 16 17,
yl 19 8 18,
oo 20 (.tr (.call .pass 41200 [tt 19])),
oo 21 (.tr (.iadr 8 (tt 14) (tt 15))),
on (.tr (.store 8 (tt 21) (tt 20))) []]))
 (rr [zm 12 4,
zb 13 .add 12 1,
zm 4 13]))) }
def p40900 : ProcT := pF [0, 1] [99] [.tmp 4] (yr [yn 4 0]
 (.seq (yr [yn 5 0]
 (.block 0 (.label 40901)))
 (yr [zm 71 1,
zm 4 71]
 .ret)))
def p40901 : ProcT := { kind := .loop, ins := [0, 1, 5], bins := [99], outs := [1, 4], bouts := [99], code := (.seq (yr [zm 6 5,
zm 7 0,
oo 8 (.tr (.len (tt 7))),
zt 9 .lss 6 8]
 (yw 9 .skip (.exit 0)))
 (.seq (.block 1 (yr [zm 12 0,
zm 13 5,
zm 14 1,
oo 15 (.tr (.iadr 8 (tt 12) (tt 13))),
oo 16 (.tr (.fadr 0 (tt 15))),
on (.tr (.store 1 (tt 16) (tt 14))) []]
 (yr [zm 17 1,
zb 18 .add 17 1,
zm 1 18]
 (yr [zm 19 0,
zm 20 5,
zm 21 1,
oo 22 (.tr (.iadr 8 (tt 19) (tt 20))),
oo 23 (.tr (.fadr 1 (tt 22))),
on (.tr (.store 1 (tt 23) (tt 21))) []]
 (yr [zm 24 1,
zb 25 .add 24 1,
zm 1 25]
 (yr [zm 26 0,
zm 27 5,
zm 28 1,
oo 29 (.tr (.iadr 8 (tt 26) (tt 27))),
oo 30 (.tr (.fadr 2 (tt 29))),
on (.tr (.store 1 (tt 30) (tt 28))) []]
 (yr [zm 31 1,
zb 32 .add 31 1,
zm 1 32]
 (yr [zm 33 0,
zm 34 5,
zm 35 1,
oo 36 (.tr (.iadr 8 (tt 33) (tt 34))),
oo 37 (.tr (.fadr 3 (tt 36))),
oo 38 (.tr (.fadr 0 (tt 37))),
on (.tr (.store 1 (tt 38) (tt 35))) []]
 (yr [zm 39 1,
zb 40 .add 39 1,
zm 1 40]
 (yr [zm 41 0,
zm 42 5,
zm 43 1,
oo 44 (.tr (.iadr 8 (tt 41) (tt 42))),
oo 45 (.tr (.fadr 3 (tt 44))),
oo 46 (.tr (.fadr 1 (tt 45))),
on (.tr (.store 1 (tt 46) (tt 43))) []]
 (yr [zm 47 1,
zb 48 .add 47 1,
zm 1 48]
 (yr [zm 49 0,
zm 50 5,
oo 51 (.tr (.iadr 8 (tt 49) (tt 50))),
oo 52 (.tr (.fadr 3 (tt 51))),
oo 53 (.tr (.fadr 2 (tt 52))),
oo 54 (.tr (.load 1 false (tt 53))),
zm 55 1,
oo 56 (.tr (.call .pass 41300 [tt 54, tt 55])),
zm 1 56]
 (yr [zm 57 0,
zm 58 5,
oo 59 (.tr (.iadr 8 (tt 57) (tt 58))),
oo 60 (.tr (.fadr 6 (tt 59))),
oo 61 (.tr (.load 1 false (tt 60))),
zm 62 1,
oo 63 (.tr (.call .pass 40900 [tt 61, tt 62])),
zm 1 63]
 (rr [zm 64 0,
zm 65 5,
oo 66 (.tr (.iadr 8 (tt 64) (tt 65))),
oo 67 (.tr (.fadr 7 (tt 66))),
oo 68 (.tr (.load 1 false (tt 67))),
zm 69 1,
oo 70 (.tr (.call .pass 40900 [tt 68, tt 69])),
zm 1 70]))))))))))))))
 (rr [zm 10 5,
zb 11 .add 10 1,
zm 5 11]))) }
def p41100 : ProcT := pF [0] [99] [.tmp 2] (yr [oo 2 (.mv (.const (.tr .stmH none 0)))]
 (yr [oo 3 (.mv (.const (.tr .stmH none 0)))]
 (.seq (yr [zm 6 0,
zc 7 6,
yn 8 0]
 (.block 0 (.label 41101)))
 (yr [zm 29 3,
zm 2 29]
 .ret))))
def p41101 : ProcT := { kind := .loop, ins := [3, 6, 7, 8], bins := [99], outs := [2, 3], bouts := [99], code := (yr [zt 9 .lss 8 7]
 (.seq (yw 9 .skip (.exit 0))
 (.seq (.block 1 (yr [yi 10 8 6 8,
yl 11 8 10,
oo 5 (.alloc 100 [.int .i64 0, .int .i64 0, .int .i64 0, .int .i64 0, .int .i64 0, .tr .expH none 0, .tr .stmH none 0, .tr .stmH none 0]),
ys 8 5 11 []]
 (.seq (.region true [yf 12 6 5 [100],
yd 13 12 [100],
op 14 (.tr (.call .pass 41100 [tt 13])) [99],
yf 15 7 5 [100],
yd 16 15 [100],
op 17 (.tr (.call .pass 41100 [tt 16])) [99],
yf 18 3 5 [100],
op 19 (.load 3 true false (tt 18)) [100],
op 20 (.tr (.call .pass 41400 [tt 19])) [99],
yf 21 6 5 [100],
ys 1 21 14 [100],
yf 22 7 5 [100],
ys 1 22 17 [100],
yf 23 3 5 [100],
ys 3 23 20 [100]])
 (rr [zm 24 3,
yl 25 8 5,
oo 26 (.buildS .full .stmH [tt 25]),
oo 27 (.tr (.app 8 (tt 24) (tt 26))),
zm 3 27]))))
 (rr [zb 28 .add 8 1,
zm 8 28])))) }
def p41200 : ProcT := pF [0] [99] [.cell 2 8 true] (yr [oo 1 (.box 100 (tt 0)),
oo 2 (.alloc 101 [.int .i64 0, .int .i64 0, .int .i64 0, .int .i64 0, .int .i64 0, .tr .expH none 0, .tr .stmH none 0, .tr .stmH none 0])]
 (yr [oo 3 (.alloc 102 [.int .i64 0, .int .i64 0, .int .i64 0, .int .i64 0, .int .i64 0, .tr .expH none 0, .tr .stmH none 0, .tr .stmH none 0])]
 (yr [zf 4 0 1,
zl 5 4,
zf 6 0 3,
ys 1 6 5 []]
 (yr [zf 7 1 1,
zl 8 7,
zf 9 1 3,
ys 1 9 8 []]
 (yr [zf 10 2 1,
zl 11 10,
zf 12 2 3,
ys 1 12 11 []]
 (yr [zf 13 3 1,
yl 14 3 13,
oo 15 (.tr (.call .pass 41500 [tt 14])),
zf 16 3 3,
ys 3 16 15 []]
 (yr [zf 17 6 1,
zl 18 17,
oo 19 (.tr (.call .pass 40800 [tt 18])),
zf 20 6 3,
ys 1 20 19 []]
 (yr [zf 21 7 1,
zl 22 21,
oo 23 (.tr (.call .pass 40800 [tt 22])),
zf 24 7 3,
ys 1 24 23 []]
 (yr [yl 25 8 3,
ys 8 2 25 []]
 .ret)))))))))
def p41300 : ProcT := pF [0, 1] [99] [.tmp 4] (yr [yn 4 0]
 (.seq (yr [yn 5 0]
 (.block 0 (.label 41301)))
 (yr [zm 33 1,
zm 4 33]
 .ret)))
def p41301 : ProcT := { kind := .loop, ins := [0, 1, 5], bins := [99], outs := [1, 4], bouts := [99], code := (.seq (yr [zm 6 5,
zm 7 0,
oo 8 (.tr (.len (tt 7))),
zt 9 .lss 6 8]
 (yw 9 .skip (.exit 0)))
 (.seq (.block 1 (yr [zm 12 0,
zm 13 5,
zm 14 1,
oo 15 (.tr (.iadr 3 (tt 12) (tt 13))),
oo 16 (.tr (.fadr 0 (tt 15))),
on (.tr (.store 1 (tt 16) (tt 14))) []]
 (yr [zm 17 1,
zb 18 .add 17 1,
zm 1 18]
 (yr [zm 19 0,
zm 20 5,
zm 21 1,
oo 22 (.tr (.iadr 3 (tt 19) (tt 20))),
oo 23 (.tr (.fadr 1 (tt 22))),
on (.tr (.store 1 (tt 23) (tt 21))) []]
 (yr [zm 24 1,
zb 25 .add 24 1,
zm 1 25]
 (rr [zm 26 0,
zm 27 5,
oo 28 (.tr (.iadr 3 (tt 26) (tt 27))),
oo 29 (.tr (.fadr 2 (tt 28))),
oo 30 (.tr (.load 1 false (tt 29))),
zm 31 1,
oo 32 (.tr (.call .pass 41300 [tt 30, tt 31])),
zm 1 32]))))))
 (rr [zm 10 5,
zb 11 .add 10 1,
zm 5 11]))) }
def p41400 : ProcT := pF [0] [99] [.cell 2 3 true] (yr [oo 1 (.box 100 (tt 0)),
oo 2 (.alloc 101 [.int .i64 0, .int .i64 0, .tr .expH none 0])]
 (yr [zf 6 0 1,
zl 7 6,
zf 8 1 1,
zl 9 8,
oo 10 (.build [.int .i64 0, .int .i64 0, .tr .expH none 0] [(0, 1, tt 7), (1, 1, tt 9)]),
oo 3 (.alloc 102 [.int .i64 0, .int .i64 0, .tr .expH none 0]),
ys 3 3 10 []]
 (.seq (yr [zf 11 2 1,
zl 12 11,
zc 13 12,
yn 14 0]
 (.block 0 (.label 41401)))
 (yr [yl 26 3 3,
ys 3 2 26 []]
 .ret))))
def p41401 : ProcT := { kind := .loop, ins := [2, 3, 12, 13, 14], bins := [101, 102, 99], outs := [2, 3], bouts := [101, 102, 99], code := (yr [zt 15 .lss 14 13]
 (.seq (yw 15 .skip (.exit 0))
 (.seq (.block 1 (yr [yi 16 3 12 14,
yl 17 3 16,
oo 5 (.alloc 103 [.int .i64 0, .int .i64 0, .tr .expH none 0]),
ys 3 5 17 []]
 (.region true [yf 18 2 3 [102],
yd 19 18 [102],
op 20 (.load 3 true false (tt 5)) [103],
op 21 (.tr (.call .pass 41400 [tt 20])) [99],
oo 22 (.buildS .full .expH [tt 21]),
op 23 (.tr (.app 3 (tt 19) (tt 22))) [99],
yf 24 2 3 [102],
ys 1 24 23 [102]])))
 (rr [zb 25 .add 14 1,
zm 14 25])))) }
def p41500 : ProcT := pF [0] [99] [.cell 2 3 true] (yr [oo 1 (.box 100 (tt 0)),
oo 2 (.alloc 101 [.int .i64 0, .int .i64 0, .tr .expH none 0])]
 (yr [oo 3 (.alloc 102 [.int .i64 0, .int .i64 0, .tr .expH none 0])]
 (yr [zf 4 0 1,
zl 5 4,
zf 6 0 3,
ys 1 6 5 []]
 (yr [zf 7 1 1,
zl 8 7,
zf 9 1 3,
ys 1 9 8 []]
 (yr [zf 10 2 1,
zl 11 10,
oo 12 (.tr (.call .pass 41600 [tt 11])),
zf 13 2 3,
ys 1 13 12 []]
 (yr [yl 14 3 3,
ys 3 2 14 []]
 .ret))))))
def p41600 : ProcT := pF [0] [99] [.tmp 2] (yr [oo 2 (.mv (.const (.tr .expH none 0)))]
 (yr [zm 5 0,
zc 6 5,
oo 7 (.tr (.mk .expH (tt 6) (tt 6))),
zm 3 7]
 (.seq (yr [yn 4 0]
 (.block 0 (.label 41601)))
 (yr [zm 22 3,
zm 2 22]
 .ret))))
def p41601 : ProcT := { kind := .loop, ins := [0, 3, 4], bins := [99], outs := [2, 3], bouts := [99], code := (.seq (yr [zm 8 4,
zm 9 0,
zc 10 9,
zt 11 .lss 8 10]
 (yw 11 .skip (.exit 0)))
 (.seq (.block 1 (rr [zm 14 3,
zm 15 4,
zm 16 0,
zm 17 4,
yi 18 3 16 17,
yl 19 3 18,
oo 20 (.tr (.call .pass 41500 [tt 19])),
oo 21 (.tr (.iadr 3 (tt 14) (tt 15))),
on (.tr (.store 3 (tt 21) (tt 20))) []]))
 (rr [zm 12 4,
zb 13 .add 12 1,
zm 4 13]))) }
def p41800 : ProcT := pF [0] [99] [.cell 2 5 true, .tmp 3] (yr [oo 1 (.box 100 (tt 0)),
oo 2 (.alloc 101 [.tr .tkH none 0, .tr .bxH none 0, .int .i64 0, .int .i64 0, .tr .int none 0]),
yo 3 false]
 (.seq (yr [yl 9 2 1,
ya 10 22800 0 9,
oo 11 (.un .not (tt 10))]
 (yw 11 (yr [oo 12 (.build [.tr .tkH none 0, .tr .bxH none 0, .int .i64 0, .int .i64 0, .tr .int none 0] []),
ys 5 2 12 [],
yo 3 false]
 .ret) .skip))
 (yr [zf 13 0 1,
zl 14 13,
oo 15 (.tr (.call .pass 42500 [tt 14])),
oo 16 (.build [.tr .tkH none 0, .tr .bxH none 0, .int .i64 0, .int .i64 0, .tr .int none 0] [(1, 1, tt 15)]),
oo 4 (.alloc 102 [.tr .tkH none 0, .tr .bxH none 0, .int .i64 0, .int .i64 0, .tr .int none 0]),
ys 5 4 16 []]
 (.seq (yr [zf 17 1 1,
zl 18 17,
zc 19 18,
yn 20 0]
 (.block 0 (.label 41801)))
 (yr [yl 36 5 4,
ys 5 2 36 [],
yo 3 true]
 .ret)))))
def p41801 : ProcT := { kind := .loop, ins := [2, 4, 18, 19, 20], bins := [101, 102, 99], outs := [2, 3, 4], bouts := [101, 102, 99], code := (yr [zt 21 .lss 20 19]
 (.seq (yw 21 .skip (.exit 0))
 (.seq (.block 1 (yr [yi 22 1 18 20,
zl 23 22,
yt 6 23]
 (yr [zm 25 6,
oo 26 (.tr (.call .pass 40700 [tt 25])),
zm 24 26,
ye 27 0 24,
ye 28 1 24,
oo 7 (.alloc 103 [.tr .int none 0, .tr .stmH none 0]),
ys 2 7 27 [],
zm 8 28]
 (rr [zf 29 0 4,
zl 30 29,
yl 31 2 7,
oo 32 (.buildS .full .tkH [tt 31]),
oo 33 (.tr (.app 2 (tt 30) (tt 32))),
zf 34 0 4,
ys 1 34 33 []]))))
 (rr [zb 35 .add 20 1,
zm 20 35])))) }
def p42000 : ProcT := pF [0] [99] [.cell 2 2 true] (yr [oo 1 (.box 100 (tt 0)),
oo 2 (.alloc 101 [.tr .int none 0, .tr .stmsHH none 0])]
 (yr [oo 3 (.alloc 102 [.tr .int none 0, .tr .stmsHH none 0])]
 (yr [zf 4 0 1,
zl 5 4,
oo 6 (.tr (.call .pass 39600 [tt 5])),
zf 7 0 3,
ys 1 7 6 []]
 (yr [zf 8 1 1,
zl 9 8,
oo 10 (.tr (.call .pass 42800 [tt 9])),
zf 11 1 3,
ys 1 11 10 []]
 (yr [yl 12 2 3,
ys 2 2 12 []]
 .ret)))))
def p42100 : ProcT := pF [0, 1] [99] [.tmp 4] (yr [oo 2 (.box 100 (tt 0)),
yn 4 0]
 (yr [zf 5 0 2,
zl 6 5,
zm 7 1,
oo 8 (.tr (.call .pass 38700 [tt 6, tt 7])),
zm 1 8]
 (yr [zf 9 1 2,
zl 10 9,
zm 11 1,
oo 12 (.tr (.call .pass 42900 [tt 10, tt 11])),
zm 1 12]
 (yr [zm 13 1,
zm 4 13]
 .ret))))
def p42200 : ProcT := pF [0, 1] [99] [.tmp 4] (yr [oo 2 (.box 100 (tt 0)),
yn 4 0]
 (yr [zf 5 0 2,
zl 6 5,
zm 7 1,
oo 8 (.tr (.call .pass 43000 [tt 6, tt 7])),
zm 1 8]
 (yr [zf 9 1 2,
zl 10 9,
zm 11 1,
oo 12 (.tr (.call .pass 43100 [tt 10, tt 11])),
zm 1 12]
 (yr [zf 13 4 2,
zl 14 13,
zm 15 1,
oo 16 (.tr (.call .pass 38700 [tt 14, tt 15])),
zm 1 16]
 (yr [zm 17 1,
zm 4 17]
 .ret)))))
def p42500 : ProcT := pF [0] [99] [.tmp 2] (yr [oo 2 (.mv (.const (.tr .bxH none 0)))]
 (yr [oo 3 (.mv (.const (.tr .bxH none 0)))]
 (.seq (yr [zm 6 0,
zc 7 6,
yn 8 0]
 (.block 0 (.label 42501)))
 (yr [zm 18 3,
zm 2 18]
 .ret))))
def p42501 : ProcT := { kind := .loop, ins := [3, 6, 7, 8], bins := [99], outs := [2, 3], bouts := [99], code := (yr [zt 9 .lss 8 7]
 (.seq (yw 9 .skip (.exit 0))
 (.seq (.block 1 (yr [yi 10 1 6 8,
zl 11 10,
zm 5 11]
 (rr [zm 12 3,
zm 13 5,
oo 14 (.build [.int .i64 0, .tr .int none 0] [(0, 1, tt 13)]),
oo 15 (.buildS .full .bxH [tt 14]),
oo 16 (.tr (.app 2 (tt 12) (tt 15))),
zm 3 16])))
 (rr [zb 17 .add 8 1,
zm 8 17])))) }
def p42800 : ProcT := pF [0] [99] [.tmp 2] (yr [oo 2 (.mv (.const (.tr .stmsHH none 0)))]
 (yr [zm 5 0,
zc 6 5,
oo 7 (.tr (.mk .stmsHH (tt 6) (tt 6))),
zm 3 7]
 (.seq (yr [yn 4 0]
 (.block 0 (.label 42801)))
 (yr [zm 22 3,
zm 2 22]
 .ret))))
def p42801 : ProcT := { kind := .loop, ins := [0, 3, 4], bins := [99], outs := [2, 3], bouts := [99], code := (.seq (yr [zm 8 4,
zm 9 0,
zc 10 9,
zt 11 .lss 8 10]
 (yw 11 .skip (.exit 0)))
 (.seq (.block 1 (rr [zm 14 3,
zm 15 4,
zm 16 0,
zm 17 4,
yi 18 1 16 17,
zl 19 18,
oo 20 (.tr (.call .pass 40800 [tt 19])),
oo 21 (.tr (.iadr 1 (tt 14) (tt 15))),
on (.tr (.store 1 (tt 21) (tt 20))) []]))
 (rr [zm 12 4,
zb 13 .add 12 1,
zm 4 13]))) }
def p42900 : ProcT := pF [0, 1] [99] [.tmp 4] (yr [yn 4 0]
 (.seq (yr [yn 5 0]
 (.block 0 (.label 42901)))
 (yr [zm 18 1,
zm 4 18]
 .ret)))
def p42901 : ProcT := { kind := .loop, ins := [0, 1, 5], bins := [99], outs := [1, 4], bouts := [99], code := (.seq (yr [zm 6 5,
zm 7 0,
oo 8 (.tr (.len (tt 7))),
zt 9 .lss 6 8]
 (yw 9 .skip (.exit 0)))
 (.seq (.block 1 (rr [zm 12 0,
zm 13 5,
oo 14 (.tr (.iadr 1 (tt 12) (tt 13))),
oo 15 (.tr (.load 1 false (tt 14))),
zm 16 1,
oo 17 (.tr (.call .pass 40900 [tt 15, tt 16])),
zm 1 17]))
 (rr [zm 10 5,
zb 11 .add 10 1,
zm 5 11]))) }
def p43000 : ProcT := pF [0, 1] [99] [.tmp 4] (yr [yn 4 0]
 (.seq (yr [yn 5 0]
 (.block 0 (.label 43001)))
 (yr [zm 26 1,
zm 4 26]
 .ret)))
def p43001 : ProcT := { kind := .loop, ins := [0, 1, 5], bins := [99], outs := [1, 4], bouts := [99], code := (.seq (yr [zm 6 5,
zm 7 0,
oo 8 (.tr (.len (tt 7))),
zt 9 .lss 6 8]
 (yw 9 .skip (.exit 0)))
 (.seq (.block 1 (yr [zm 12 0,
zm 13 5,
oo 14 (.tr (.iadr 2 (tt 12) (tt 13))),
oo 15 (.tr (.fadr 0 (tt 14))),
oo 16 (.tr (.load 1 false (tt 15))),
zm 17 1,
oo 18 (.tr (.call .pass 38700 [tt 16, tt 17])),
zm 1 18]
 (rr [zm 19 0,
zm 20 5,
oo 21 (.tr (.iadr 2 (tt 19) (tt 20))),
oo 22 (.tr (.fadr 1 (tt 21))),
oo 23 (.tr (.load 1 false (tt 22))),
zm 24 1,
oo 25 (.tr (.call .pass 40900 [tt 23, tt 24])),
zm 1 25])))
 (rr [zm 10 5,
zb 11 .add 10 1,
zm 5 11]))) }
def p43100 : ProcT := pF [0, 1] [99] [.tmp 4] (yr [yn 4 0]
 (.seq (yr [yn 5 0]
 (.block 0 (.label 43101)))
 (yr [zm 26 1,
zm 4 26]
 .ret)))
def p43101 : ProcT := { kind := .loop, ins := [0, 1, 5], bins := [99], outs := [1, 4], bouts := [99], code := (.seq (yr [zm 6 5,
zm 7 0,
oo 8 (.tr (.len (tt 7))),
zt 9 .lss 6 8]
 (yw 9 .skip (.exit 0)))
 (.seq (.block 1 (yr [zm 12 0,
zm 13 5,
zm 14 1,
oo 15 (.tr (.iadr 2 (tt 12) (tt 13))),
oo 16 (.tr (.fadr 0 (tt 15))),
on (.tr (.store 1 (tt 16) (tt 14))) []]
 (yr [zm 17 1,
zb 18 .add 17 1,
zm 1 18]
 (rr [zm 19 0,
zm 20 5,
oo 21 (.tr (.iadr 2 (tt 19) (tt 20))),
oo 22 (.tr (.fadr 1 (tt 21))),
oo 23 (.tr (.load 1 false (tt 22))),
zm 24 1,
oo 25 (.tr (.call .pass 38700 [tt 23, tt 24])),
zm 1 25]))))
 (rr [zm 10 5,
zb 11 .add 10 1,
zm 5 11]))) }
def tab : List (Nat × ProcT) := [(300, p300), (500, p500), (1000, p1000), (1100, p1100), (1200, p1200), (1600, p1600), (1700, p1700), (1800, p1800), (1900, p1900), (4000, p4000), (4001, p4001), (5200, p5200), (5300, p5300), (5301, p5301), (5400, p5400), (5700, p5700), (5800, p5800), (5900, p5900), (6000, p6000), (6100, p6100), (6200, p6200), (6201, p6201), (6300, p6300), (6800, p6800), (6801, p6801), (6900, p6900), (7000, p7000), (7100, p7100), (7101, p7101), (7200, p7200), (7400, p7400), (7401, p7401), (7500, p7500), (7600, p7600), (7700, p7700), (7701, p7701), (7800, p7800), (7801, p7801), (8000, p8000), (8001, p8001), (8100, p8100), (8200, p8200), (8300, p8300), (8301, p8301), (8400, p8400), (8401, p8401), (8500, p8500), (9000, p9000), (9100, p9100), (9101, p9101), (9200, p9200), (9201, p9201), (9300, p9300), (9400, p9400), (9500, p9500), (9501, p9501), (9600, p9600), (10600, p10600), (10601, p10601), (10700, p10700), (10701, p10701), (10800, p10800), (10801, p10801), (11100, p11100), (19000, p19000), (22700, p22700), (22701, p22701), (22800, p22800), (22801, p22801), (22900, p22900), (22901, p22901), (23000, p23000), (23001, p23001), (23100, p23100), (23101, p23101), (23200, p23200), (23201, p23201), (23300, p23300), (23301, p23301), (23400, p23400), (23401, p23401), (23500, p23500), (23501, p23501), (25200, p25200), (25201, p25201), (25300, p25300), (25301, p25301), (25400, p25400), (28400, p28400), (28401, p28401), (28500, p28500), (28600, p28600), (28601, p28601), (28700, p28700), (28800, p28800), (28801, p28801), (28900, p28900), (29500, p29500), (29501, p29501), (29600, p29600), (29601, p29601), (29700, p29700), (29800, p29800), (38700, p38700), (38701, p38701), (39600, p39600), (39601, p39601), (40700, p40700), (40800, p40800), (40801, p40801), (40900, p40900), (40901, p40901), (41100, p41100), (41101, p41101), (41200, p41200), (41300, p41300), (41301, p41301), (41400, p41400), (41401, p41401), (41500, p41500), (41600, p41600), (41601, p41601), (41800, p41800), (41801, p41801), (42000, p42000), (42100, p42100), (42200, p42200), (42500, p42500), (42501, p42501), (42800, p42800), (42801, p42801), (42900, p42900), (42901, p42901), (43000, p43000), (43001, p43001), (43100, p43100), (43101, p43101)]
abbrev Tb : Nat → Option ProcT := (Vs.look · tab)
@[reducible] def s300 : Sig := [⟨.ret, [.agg 3], [], [.h (.int .i64), .h (.int .i64), .h (.slm .exp)]⟩]
@[reducible] def Re : Sig := [⟨.ret, [.one], [], [.h (.bool)]⟩]
@[reducible] def Rak : Sig := [⟨.ret, [.one], [], [.h (.int .i64)]⟩]
@[reducible] def s4001 : Sig := [⟨.exit 0, [.one, .one], [], [.undef, .h (.int .i64)]⟩]
@[reducible] def s5300 : Sig := [⟨.ret, [.one], [.var 1], [.h (.bool), .h (.int .i64)]⟩]
@[reducible] def s5301 : Sig := [⟨.exit 0, [.one, .one], [.var 1], [.bp 0 0, .undef, .h (.int .i64)]⟩, ⟨.ret, [.one, .one], [.var 1], [.bp 0 0, .h (.bool), .h (.int .i64)]⟩]
@[reducible] def Rcm : Sig := [⟨.exit 0, [.one], [], [.undef]⟩, ⟨.ret, [.one], [], [.h (.bool)]⟩]
@[reducible] def Rfb : Sig := [⟨.exit 0, [.one, .one], [], [.h (.int .i64), .undef]⟩, ⟨.ret, [.one, .one], [], [.h (.int .i64), .h (.int .i64)]⟩]
@[reducible] def s7400 : Sig := [⟨.ret, [.one], [], [.h (.sl .exp)]⟩]
@[reducible] def s7401 : Sig := [⟨.exit 0, [.one, .one], [.rows], [.undef, .bs 100, .h (.sl .exp)]⟩]
@[reducible] def Rqm : Sig := [⟨.ret, [.one], [], [.h (.agg .exp)]⟩]
@[reducible] def s7600 : Sig := [⟨.ret, [.one], [], [.h (.agg .stm)]⟩]
@[reducible] def s7700 : Sig := [⟨.ret, [.one], [], [.h (.sl .stm)]⟩]
@[reducible] def s7701 : Sig := [⟨.exit 0, [.one, .one], [.rows], [.undef, .bs 100, .h (.sl .stm)]⟩]
@[reducible] def s7800 : Sig := [⟨.ret, [.one], [], [.h (.sl .int)]⟩]
@[reducible] def s7801 : Sig := [⟨.exit 0, [.one, .one], [.rows], [.undef, .bs 100, .h (.sl .int)]⟩]
@[reducible] def s9101 : Sig := [⟨.exit 0, [.one, .one], [.var 3, .var 3], [.bp 101 0, .bp 102 0, .h (.int .i64), .h (.int .i64), .h (.ownb .exp), .h (.int .i64), .h (.int .i64), .h (.ownb .exp)]⟩]
@[reducible] def Rse : Sig := [⟨.ret, [.one], [], [.h (.own .stm)]⟩]
@[reducible] def Rsf : Sig := [⟨.exit 0, [.one, .one], [], [.undef, .h (.ownb .stm)]⟩]
@[reducible] def Rsg : Sig := [⟨.ret, [.tup 2], [], [.h (.agg .tk), .h (.bool)]⟩]
@[reducible] def Rpt : Sig := [⟨.exit 0, [.one, .one], [], [.h (.sl .int), .undef]⟩, ⟨.ret, [.one, .one], [], [.h (.sl .int), .h (.bool)]⟩]
@[reducible] def Rpu : Sig := [⟨.ret, [.one], [], [.h (.own .bx)]⟩]
@[reducible] def Rpv : Sig := [⟨.exit 0, [.one, .one], [], [.undef, .h (.ownb .bx)]⟩]
@[reducible] def Rpw : Sig := [⟨.ret, [.tup 2], [], [.h (.agg .wld), .h (.bool)]⟩]
@[reducible] def Rpx : Sig := [⟨.exit 0, [.one, .one, .one], [.var 5, .var 5], [.bp 101 0, .undef, .bp 102 0, .h (.ownb .tk), .h (.ownb .bx), .h (.int .i64), .h (.int .i64), .h (.ownb .int), .h (.ownb .tk), .h (.sl .bx), .h (.int .i64), .h (.int .i64), .h (.ownb .int)]⟩]
@[reducible] def Rsz : Sig := [⟨.ret, [.one], [], [.h (.sl .stms)]⟩]
@[reducible] def Rta : Sig := [⟨.exit 0, [.one, .one], [.rows], [.undef, .bs 100, .h (.sl .stms)]⟩]
@[reducible] def Rtb : Sig := [⟨.ret, [.one], [], [.h (.agg .prg)]⟩]
@[reducible] def Rbj : Sig := [⟨.ret, [.one], [.ar], [.h (.int .i64), .h (.ar)]⟩]
@[reducible] def Rdl : Sig := [⟨.exit 0, [.one, .one], [.ar], [.h (.int .i64), .undef, .h (.ar)]⟩]
@[reducible] def Rtc : Sig := [⟨.ret, [.one], [.ar], [.h (.tr .int), .h (.ar)]⟩]
@[reducible] def Rtd : Sig := [⟨.exit 0, [.one, .one], [.ar], [.undef, .h (.tr .int), .h (.ar)]⟩]
@[reducible] def Rte : Sig := [⟨.ret, [.tup 2], [.ar], [.h (.agg .tkH), .h (.bool), .h (.ar)]⟩]
@[reducible] def Rpy : Sig := [⟨.ret, [.one], [.ar], [.h (.tr .stmH), .h (.ar)]⟩]
@[reducible] def Rpz : Sig := [⟨.exit 0, [.one, .one], [.ar], [.undef, .h (.tr .stmH), .h (.ar)]⟩]
@[reducible] def Rtf : Sig := [⟨.ret, [.one], [.ar], [.h (.agg .stmH), .h (.ar)]⟩]
@[reducible] def Rqa : Sig := [⟨.ret, [.one], [.ar], [.h (.agg .expH), .h (.ar)]⟩]
@[reducible] def Rtg : Sig := [⟨.exit 0, [.one, .one], [.var 3, .var 3, .ar], [.bp 101 0, .bp 102 0, .h (.int .i64), .h (.int .i64), .h (.tr .expH), .h (.int .i64), .h (.int .i64), .h (.tr .expH), .h (.ar)]⟩]
@[reducible] def Rth : Sig := [⟨.ret, [.one], [.ar], [.h (.tr .expH), .h (.ar)]⟩]
@[reducible] def Rti : Sig := [⟨.exit 0, [.one, .one], [.ar], [.undef, .h (.tr .expH), .h (.ar)]⟩]
@[reducible] def Rtj : Sig := [⟨.ret, [.tup 2], [.ar], [.h (.agg .wldH), .h (.bool), .h (.ar)]⟩]
@[reducible] def Rtk : Sig := [⟨.exit 0, [.one, .one, .one], [.var 5, .var 5, .ar], [.bp 101 0, .undef, .bp 102 0, .h (.tr .tkH), .h (.tr .bxH), .h (.int .i64), .h (.int .i64), .h (.tr .int), .h (.tr .tkH), .h (.tr .bxH), .h (.int .i64), .h (.int .i64), .h (.tr .int), .h (.ar)]⟩]
@[reducible] def Rtl : Sig := [⟨.ret, [.one], [.ar], [.h (.agg .prgH), .h (.ar)]⟩]
@[reducible] def Rtm : Sig := [⟨.ret, [.one], [.ar], [.h (.tr .bxH), .h (.ar)]⟩]
@[reducible] def Rtn : Sig := [⟨.exit 0, [.one, .one], [.ar], [.undef, .h (.tr .bxH), .h (.ar)]⟩]
@[reducible] def Rto : Sig := [⟨.ret, [.one], [.ar], [.h (.tr .stmsHH), .h (.ar)]⟩]
@[reducible] def Rtp : Sig := [⟨.exit 0, [.one, .one], [.ar], [.undef, .h (.tr .stmsHH), .h (.ar)]⟩]
def sgs : List (Nat × Sig) := [(300, s300), (500, s300), (1000, Re), (1100, Re), (1200, Re), (1600, Re), (1700, Re), (1800, Re), (1900, Re), (4000, Rak), (4001, s4001), (5200, Re), (5300, s5300), (5301, s5301), (5400, Re), (5700, Re), (5800, Re), (5900, Re), (6000, Re), (6100, Re), (6200, Re), (6201, Rcm), (6300, Re), (6800, Rak), (6801, Rfb), (6900, Rak), (7000, Rak), (7100, Rak), (7101, Rfb), (7200, Rak), (7400, s7400), (7401, s7401), (7500, Rqm), (7600, s7600), (7700, s7700), (7701, s7701), (7800, s7800), (7801, s7801), (8000, Re), (8001, Rcm), (8100, Re), (8200, Re), (8300, Re), (8301, Rcm), (8400, Re), (8401, Rcm), (8500, Re), (9000, Re), (9100, Rqm), (9101, s9101), (9200, Rse), (9201, Rsf), (9300, Rsg), (9400, Rqm), (9500, Rse), (9501, Rsf), (9600, Rsg), (10600, Rak), (10601, Rfb), (10700, Rak), (10701, Rfb), (10800, Rak), (10801, Rfb), (11100, Re), (19000, Re), (22700, Re), (22701, Rpt), (22800, Re), (22801, Rcm), (22900, Rpu), (22901, Rpv), (23000, Rpw), (23001, Rpx), (23100, Re), (23101, Rcm), (23200, Re), (23201, Rpt), (23300, Re), (23301, Rcm), (23400, Rpu), (23401, Rpv), (23500, Rpw), (23501, Rpx), (25200, Re), (25201, Rcm), (25300, Re), (25301, Rcm), (25400, Re), (28400, Rak), (28401, Rfb), (28500, Rak), (28600, Rsz), (28601, Rta), (28700, Rtb), (28800, Re), (28801, Rcm), (28900, Re), (29500, Rak), (29501, Rfb), (29600, Rak), (29601, Rfb), (29700, Rak), (29800, Re), (38700, Rbj), (38701, Rdl), (39600, Rtc), (39601, Rtd), (40700, Rte), (40800, Rpy), (40801, Rpz), (40900, Rbj), (40901, Rdl), (41100, Rpy), (41101, Rpz), (41200, Rtf), (41300, Rbj), (41301, Rdl), (41400, Rqa), (41401, Rtg), (41500, Rqa), (41600, Rth), (41601, Rti), (41800, Rtj), (41801, Rtk), (42000, Rtl), (42100, Rbj), (42200, Rbj), (42500, Rtm), (42501, Rtn), (42800, Rto), (42801, Rtp), (42900, Rbj), (42901, Rdl), (43000, Rbj), (43001, Rdl), (43100, Rbj), (43101, Rdl)]
def sg (g : Nat) : Sig := (Vs.look g sgs).getD []
def GT (i : Nat) : List TV := []
def laws_FnExactWorldNew (a0 : Prg) : Option (Bool) := Qen Tb GT Re 29800 [.agg (rowT .prg a0)] []
def Rgv (a0 : Prg) (a1 : Int) : Option (Int) := Qen Tb GT Rak 28500 [.agg (rowT .prg a0), .int .i64 a1] []
def Rbx (a0 : Prg) : Option (Prg) := Qen Tb GT Rtb 28700 [.agg (rowT .prg a0)] []
def Rhu (a0 : Prg) : Option (Wld × Bool) := Qen Tb GT Rpw 23500 [.agg (rowT .prg a0)] []
def Rep (a0 : Prg) (A : List Ent) : Option (PrgH × List Ent) := Qen Tb GT Rtl 42000 [.agg (rowT .prg a0)] [.ar A]
def Rfg (a0 : Prg) (A : List Ent) : Option (WldH × Bool × List Ent) := Qen Tb GT Rtj 41800 [.agg (rowT .prg a0)] [.ar A]
def Rck (a0 : Wld) (a1 : Wld) : Option (Bool) := Qen Tb GT Re 25400 [.agg (rowT .wld a0), .agg (rowT .wld a1)] []
def Rgt (a0 : Prg) (a1 : Prg) : Option (Bool) := Qen Tb GT Re 28900 [.agg (rowT .prg a0), .agg (rowT .prg a1)] []
def Rcu (a0 : PrgH) (a1 : Int) (A : List Ent) : Option (Int × List Ent) := Qen Tb GT Rbj 42100 [.agg (rowT .prgH a0), .int .i64 a1] [.ar A]
def Reo (a0 : WldH) (a1 : Int) (A : List Ent) : Option (Int × List Ent) := Qen Tb GT Rbj 42200 [.agg (rowT .wldH a0), .int .i64 a1] [.ar A]
def Reb (a0 : Wld) (a1 : Int) : Option (Int) := Qen Tb GT Rak 29700 [.agg (rowT .wld a0), .int .i64 a1] []
def Rhl (a0 : Prg) : Option (Wld × Bool) := Qen Tb GT Rpw 23000 [.agg (rowT .prg a0)] []
def Rjm (a0 : List Int) (a1 : Int) : Option (Int) := Qen Tb GT Rak 7200 [.sl .share .int a0, .int .i64 a1] []
def Rhq (a0 : List (List Stm)) (a1 : Int) : Option (Int) := Qen Tb GT Rak 28400 [.sl .share .stms a0, .int .i64 a1] []
def Rjn (a0 : List Int) : Option (List Int) := Qen Tb GT s7800 7800 [.sl .share .int a0] []
def Rhr (a0 : List (List Stm)) : Option (List (List Stm)) := Qen Tb GT Rsz 28600 [.sl .share .stms a0] []
def Rdu (a0 : Prg) : Option (Bool) := Qen Tb GT Re 23300 [.agg (rowT .prg a0)] []
def Rhx (a0 : List Int) : Option (List Bx) := Qen Tb GT Rpu 23400 [.sl .share .int a0] []
def Rir (a0 : List Stm) : Option (Tk × Bool) := Qen Tb GT Rsg 9600 [.sl .share .stm a0] []
def Rba (t5 : Int) (b100_0 : List Int) (b100_1 : List (List Stm)) (b101_0b : Bool) (b101_0 : List Tk) (b101_1b : Bool) (b101_1 : List Bx) (b101_2 : Int) (b101_3 : Int) (b101_4b : Bool) (b101_4 : List Int) (b102_0b : Bool) (b102_0 : List Tk) (b102_1 : List Bx) (b102_2 : Int) (b102_3 : Int) (b102_4b : Bool) (b102_4 : List Int) : Option ((Bool × List Tk) × (Bool × List Bx) × Int × Int × (Bool × List Int) × (Bool × List Tk) × List Bx × Int × Int × (Bool × List Int)) := Qen Tb GT Rpx 23501 [.bp 100 0, .bp 101 0, .bp 102 0, .int .i64 t5] [.var [.sl .share .int b100_0, .sl .share .stms b100_1], .var [.sl (.own b101_0b) .tk b101_0, .sl (.own b101_1b) .bx b101_1, .int .i64 b101_2, .int .i64 b101_3, .sl (.own b101_4b) .int b101_4], .var [.sl (.own b102_0b) .tk b102_0, .sl .share .bx b102_1, .int .i64 b102_2, .int .i64 b102_3, .sl (.own b102_4b) .int b102_4]]
def Rfa (a0 : List Int) (A : List Ent) : Option (Hd × List Ent) := Qen Tb GT Rtc 39600 [.sl .share .int a0] [.ar A]
def Rfz (a0 : List (List Stm)) (A : List Ent) : Option (Hd × List Ent) := Qen Tb GT Rto 42800 [.sl .share .stms a0] [.ar A]
def Rbq (a0 : Prg) : Option (Bool) := Qen Tb GT Re 22800 [.agg (rowT .prg a0)] []
def Rfi (a0 : List Int) (A : List Ent) : Option (Hd × List Ent) := Qen Tb GT Rtm 42500 [.sl .share .int a0] [.ar A]
def Rgs (a0 : List Stm) (A : List Ent) : Option (TkH × Bool × List Ent) := Qen Tb GT Rte 40700 [.sl .share .stm a0] [.ar A]
def Rbd (t18 : List (List Stm)) (t19 : Int) (t20 : Int) (b101_0 : Hd) (b101_1 : Hd) (b101_2 : Int) (b101_3 : Int) (b101_4 : Hd) (b102_0 : Hd) (b102_1 : Hd) (b102_2 : Int) (b102_3 : Int) (b102_4 : Hd) (b99 : List Ent) : Option (Hd × Hd × Int × Int × Hd × Hd × Hd × Int × Int × Hd × List Ent) := Qen Tb GT Rtk 41801 [.bp 101 0, .bp 102 0, .sl .share .stms t18, .int .i64 t19, .int .i64 t20] [.var [.tr .tkH b101_0.id b101_0.n, .tr .bxH b101_1.id b101_1.n, .int .i64 b101_2, .int .i64 b101_3, .tr .int b101_4.id b101_4.n], .var [.tr .tkH b102_0.id b102_0.n, .tr .bxH b102_1.id b102_1.n, .int .i64 b102_2, .int .i64 b102_3, .tr .int b102_4.id b102_4.n], .ar b99]
def Rij (a0 : List Tk) (a1 : List Tk) : Option (Bool) := Qen Tb GT Re 25200 [.sl .share .tk a0, .sl .share .tk a1] []
def Rjf (a0 : List Bx) (a1 : List Bx) : Option (Bool) := Qen Tb GT Re 25300 [.sl .share .bx a0, .sl .share .bx a1] []
def Rdo (a0 : List Int) (a1 : List Int) : Option (Bool) := Qen Tb GT Re 8400 [.sl .share .int a0, .sl .share .int a1] []
def Rho (a0 : List (List Stm)) (a1 : List (List Stm)) : Option (Bool) := Qen Tb GT Re 28800 [.sl .share .stms a0, .sl .share .stms a1] []
def Rv (a0 : Hd) (a1 : Int) (A : List Ent) : Option (Int × List Ent) := Qen Tb GT Rbj 38700 [.tr .int a0.id a0.n, .int .i64 a1] [.ar A]
def Rdp (a0 : Hd) (a1 : Int) (A : List Ent) : Option (Int × List Ent) := Qen Tb GT Rbj 42900 [.tr .stmsHH a0.id a0.n, .int .i64 a1] [.ar A]
def Ren (a0 : Hd) (a1 : Int) (A : List Ent) : Option (Int × List Ent) := Qen Tb GT Rbj 43000 [.tr .tkH a0.id a0.n, .int .i64 a1] [.ar A]
def Rfq (a0 : Hd) (a1 : Int) (A : List Ent) : Option (Int × List Ent) := Qen Tb GT Rbj 43100 [.tr .bxH a0.id a0.n, .int .i64 a1] [.ar A]
def Rgu (a0 : List Tk) (a1 : Int) : Option (Int) := Qen Tb GT Rak 29500 [.sl .share .tk a0, .int .i64 a1] []
def Rhp (a0 : List Bx) (a1 : Int) : Option (Int) := Qen Tb GT Rak 29600 [.sl .share .bx a0, .int .i64 a1] []
def Rct (a0 : List Int) (a1 : Int) : Option (Int) := Qen Tb GT Rak 10600 [.sl .share .int a0, .int .i64 a1] []
def Rhm (a0 : List Int) : Option (List Bx) := Qen Tb GT Rpu 22900 [.sl .share .int a0] []
def Rie (a0 : List Stm) : Option (Tk × Bool) := Qen Tb GT Rsg 9300 [.sl .share .stm a0] []
def Rau (t18 : List (List Stm)) (t19 : Int) (t20 : Int) (b101_0b : Bool) (b101_0 : List Tk) (b101_1b : Bool) (b101_1 : List Bx) (b101_2 : Int) (b101_3 : Int) (b101_4b : Bool) (b101_4 : List Int) (b102_0b : Bool) (b102_0 : List Tk) (b102_1 : List Bx) (b102_2 : Int) (b102_3 : Int) (b102_4b : Bool) (b102_4 : List Int) : Option ((Bool × List Tk) × (Bool × List Bx) × Int × Int × (Bool × List Int) × (Bool × List Tk) × List Bx × Int × Int × (Bool × List Int)) := Qen Tb GT Rpx 23001 [.bp 101 0, .bp 102 0, .sl .share .stms t18, .int .i64 t19, .int .i64 t20] [.var [.sl (.own b101_0b) .tk b101_0, .sl (.own b101_1b) .bx b101_1, .int .i64 b101_2, .int .i64 b101_3, .sl (.own b101_4b) .int b101_4], .var [.sl (.own b102_0b) .tk b102_0, .sl .share .bx b102_1, .int .i64 b102_2, .int .i64 b102_3, .sl (.own b102_4b) .int b102_4]]
def Rbn (a0 : List Stm) (a1 : Int) : Option (Int) := Qen Tb GT Rak 7100 [.sl .share .stm a0, .int .i64 a1] []
def Rcc (t0 : List (List Stm)) (t1 : Int) (t5 : Int) : Option (Int ⊕ (Int × Int)) := Qen Tb GT Rfb 28401 [.sl .share .stms t0, .int .i64 t1, .int .i64 t5] []
def Rec (t0 : List Int) (t4 : Int) (b100 : List Int) : Option (List Int) := Qen Tb GT s7801 7801 [.sl .share .int t0, .bs 100, .int .i64 t4] [.rows .int b100]
def Rap (a0 : List Stm) : Option (List Stm) := Qen Tb GT s7700 7700 [.sl .share .stm a0] []
def Rce (t0 : List (List Stm)) (t4 : Int) (b100 : List (List Stm)) : Option (List (List Stm)) := Qen Tb GT Rta 28601 [.sl .share .stms t0, .bs 100, .int .i64 t4] [.rows .stms b100]
def Rhw (a0 : List Int) : Option (Bool) := Qen Tb GT Re 23200 [.sl .share .int a0] []
def Rdg (a0 : Int) (a1 : Int) (a2 : Int) : Option (Bool) := Qen Tb GT Re 1600 [.int .i64 a0, .int .i64 a1, .int .i64 a2] []
def Rde (a0 : List Stm) : Option (Bool) := Qen Tb GT Re 6300 [.sl .share .stm a0] []
def Rf (a0 : List Stm) (a1 : Int) : Option (Bool) := Qen Tb GT Re 23100 [.sl .share .stm a0, .int .i64 a1] []
def Rq (t3 : Int) (b100_0 : List Int) (b100_1 : List (List Stm)) : Option (Unit ⊕ Bool) := Qen Tb GT Rcm 23301 [.bp 100 0, .int .i64 t3] [.var [.sl .share .int b100_0, .sl .share .stms b100_1]]
def Rbc (t0 : List Int) (t3b : Bool) (t3 : List Bx) (t4 : Int) : Option ((Bool × List Bx)) := Qen Tb GT Rpv 23401 [.sl .share .int t0, .sl (.own t3b) .bx t3, .int .i64 t4] []
def Rm (a0 : List Stm) : Option (List Stm) := Qen Tb GT Rse 9500 [.sl .share .stm a0] []
def Rcd (t0 : List Int) (t3 : Hd) (t4 : Int) (b99 : List Ent) : Option (Hd × List Ent) := Qen Tb GT Rtd 39601 [.sl .share .int t0, .tr .int t3.id t3.n, .int .i64 t4] [.ar b99]
def Rai (a0 : List Stm) (A : List Ent) : Option (Hd × List Ent) := Qen Tb GT Rpy 40800 [.sl .share .stm a0] [.ar A]
def Rbi (t0 : List (List Stm)) (t3 : Hd) (t4 : Int) (b99 : List Ent) : Option (Hd × List Ent) := Qen Tb GT Rtp 42801 [.sl .share .stms t0, .tr .stmsHH t3.id t3.n, .int .i64 t4] [.ar b99]
def Rfk (a0 : List Int) : Option (Bool) := Qen Tb GT Re 22700 [.sl .share .int a0] []
def Rbm (a0 : List Stm) (a1 : Int) : Option (Bool) := Qen Tb GT Re 5400 [.sl .share .stm a0, .int .i64 a1] []
def Rp (t22 : List (List Stm)) (t23 : Int) (t24 : Int) (b100_0 : List Int) (b100_1 : List (List Stm)) : Option (Unit ⊕ Bool) := Qen Tb GT Rcm 22801 [.bp 100 0, .sl .share .stms t22, .int .i64 t23, .int .i64 t24] [.var [.sl .share .int b100_0, .sl .share .stms b100_1]]
def Rbe (t3 : Hd) (t6 : List Int) (t7 : Int) (t8 : Int) (b99 : List Ent) : Option (Hd × List Ent) := Qen Tb GT Rtn 42501 [.tr .bxH t3.id t3.n, .sl .share .int t6, .int .i64 t7, .int .i64 t8] [.ar b99]
def Rbl (a0 : List Stm) : Option (Bool) := Qen Tb GT Re 9000 [.sl .share .stm a0] []
def Rax (a0 : List Stm) (A : List Ent) : Option (Hd × List Ent) := Qen Tb GT Rpy 41100 [.sl .share .stm a0] [.ar A]
def Rfn (a0 : Tk) (a1 : Tk) : Option (Bool) := Qen Tb GT Re 8500 [.agg (rowT .tk a0), .agg (rowT .tk a1)] []
def Rcs (t0 : List Tk) (t1 : List Tk) (t5 : Int) : Option (Unit ⊕ Bool) := Qen Tb GT Rcm 25201 [.sl .share .tk t0, .sl .share .tk t1, .int .i64 t5] []
def Rhb (a0 : Bx) (a1 : Bx) : Option (Bool) := Qen Tb GT Re 19000 [.agg (rowT .bx a0), .agg (rowT .bx a1)] []
def Rdy (t0 : List Bx) (t1 : List Bx) (t5 : Int) : Option (Unit ⊕ Bool) := Qen Tb GT Rcm 25301 [.sl .share .bx t0, .sl .share .bx t1, .int .i64 t5] []
def Rdz (t0 : List Int) (t1 : List Int) (t5 : Int) : Option (Unit ⊕ Bool) := Qen Tb GT Rcm 8401 [.sl .share .int t0, .sl .share .int t1, .int .i64 t5] []
def Rag (a0 : List Stm) (a1 : List Stm) : Option (Bool) := Qen Tb GT Re 8300 [.sl .share .stm a0, .sl .share .stm a1] []
def Rca (t0 : List (List Stm)) (t1 : List (List Stm)) (t5 : Int) : Option (Unit ⊕ Bool) := Qen Tb GT Rcm 28801 [.sl .share .stms t0, .sl .share .stms t1, .int .i64 t5] []
def Rbh (t0 : Hd) (t1 : Int) (t5 : Int) (b99 : List Ent) : Option (Int × List Ent) := Qen Tb GT Rdl 38701 [.tr .int t0.id t0.n, .int .i64 t1, .int .i64 t5] [.ar b99]
def Rac (a0 : Hd) (a1 : Int) (A : List Ent) : Option (Int × List Ent) := Qen Tb GT Rbj 40900 [.tr .stmH a0.id a0.n, .int .i64 a1] [.ar A]
def Ral (t0 : Hd) (t1 : Int) (t5 : Int) (b99 : List Ent) : Option (Int × List Ent) := Qen Tb GT Rdl 42901 [.tr .stmsHH t0.id t0.n, .int .i64 t1, .int .i64 t5] [.ar b99]
def Rat (t0 : Hd) (t1 : Int) (t5 : Int) (b99 : List Ent) : Option (Int × List Ent) := Qen Tb GT Rdl 43001 [.tr .tkH t0.id t0.n, .int .i64 t1, .int .i64 t5] [.ar b99]
def Rbg (t0 : Hd) (t1 : Int) (t5 : Int) (b99 : List Ent) : Option (Int × List Ent) := Qen Tb GT Rdl 43101 [.tr .bxH t0.id t0.n, .int .i64 t1, .int .i64 t5] [.ar b99]
def Rbw (a0 : List Stm) (a1 : Int) : Option (Int) := Qen Tb GT Rak 10800 [.sl .share .stm a0, .int .i64 a1] []
def Rao (t0 : List Tk) (t1 : Int) (t5 : Int) : Option (Int ⊕ (Int × Int)) := Qen Tb GT Rfb 29501 [.sl .share .tk t0, .int .i64 t1, .int .i64 t5] []
def Ray (t0 : List Bx) (t1 : Int) (t5 : Int) : Option (Int ⊕ (Int × Int)) := Qen Tb GT Rfb 29601 [.sl .share .bx t0, .int .i64 t1, .int .i64 t5] []
def Raz (t0 : List Int) (t1 : Int) (t5 : Int) : Option (Int ⊕ (Int × Int)) := Qen Tb GT Rfb 10601 [.sl .share .int t0, .int .i64 t1, .int .i64 t5] []
def Rav (t3b : Bool) (t3 : List Bx) (t6 : List Int) (t7 : Int) (t8 : Int) : Option ((Bool × List Bx)) := Qen Tb GT Rpv 22901 [.sl (.own t3b) .bx t3, .sl .share .int t6, .int .i64 t7, .int .i64 t8] []
def Rh (a0 : List Stm) : Option (List Stm) := Qen Tb GT Rse 9200 [.sl .share .stm a0] []
def Rfu (a0 : Stm) (a1 : Int) : Option (Int) := Qen Tb GT Rak 7000 [.agg (rowT .stm a0), .int .i64 a1] []
def Rcy (t0 : List Stm) (t1 : Int) (t5 : Int) : Option (Int ⊕ (Int × Int)) := Qen Tb GT Rfb 7101 [.sl .share .stm t0, .int .i64 t1, .int .i64 t5] []
def Rfx (a0 : Stm) : Option (Stm) := Qen Tb GT s7600 7600 [.agg (rowT .stm a0)] []
def Rdb (t0 : List Stm) (t4 : Int) (b100 : List Stm) : Option (List Stm) := Qen Tb GT s7701 7701 [.sl .share .stm t0, .bs 100, .int .i64 t4] [.rows .stm b100]
def Rbb (t0 : List Int) (t3 : Int) : Option (List Int ⊕ (List Int × Bool)) := Qen Tb GT Rpt 23201 [.sl .share .int t0, .int .i64 t3] []
def Rg (a0 : List Stm) (a1 : Int) : Option (Bool) := Qen Tb GT Re 6200 [.sl .share .stm a0, .int .i64 a1] []
def Rk (a0 : List Stm) : Option (Int) := Qen Tb GT Rak 4000 [.sl .share .stm a0] []
def Rad (t0 : List Stm) (t1 : Int) (t5 : Int) : Option (Unit ⊕ Bool) := Qen Tb GT Rcm 23101 [.sl .share .stm t0, .int .i64 t1, .int .i64 t5] []
def Rbp (a0 : Exp) : Option (Exp) := Qen Tb GT Rqm 9400 [.agg (rowT .exp a0)] []
def Rbo (t0 : List Stm) (t3b : Bool) (t3 : List Stm) (t4 : Int) : Option ((Bool × List Stm)) := Qen Tb GT Rsf 9501 [.sl .share .stm t0, .sl (.own t3b) .stm t3, .int .i64 t4] []
def Rhs (a0 : Stm) (A : List Ent) : Option (StmH × List Ent) := Qen Tb GT Rtf 41200 [.agg (rowT .stm a0)] [.ar A]
def Rbs (t0 : List Stm) (t3 : Hd) (t4 : Int) (b99 : List Ent) : Option (Hd × List Ent) := Qen Tb GT Rpz 40801 [.sl .share .stm t0, .tr .stmH t3.id t3.n, .int .i64 t4] [.ar b99]
def Raf (t0 : List Int) (t5 : List Int) (t6 : Int) (t7 : Int) : Option (List Int ⊕ (List Int × Bool)) := Qen Tb GT Rpt 22701 [.sl .share .int t0, .sl .share .int t5, .int .i64 t6, .int .i64 t7] []
def Rj (a0 : List Stm) (a1 : Int) (a2 : Int) (a3 : Int) : Option (Bool × Int) := Qen Tb GT s5300 5300 [.sl .share .stm a0, .int .i64 a1, .int .i64 a2, .bp 0 0] [.var [.int .i64 a3]]
def Rco (a0 : Exp) (A : List Ent) : Option (ExpH × List Ent) := Qen Tb GT Rqa 41400 [.agg (rowT .exp a0)] [.ar A]
def Raq (t3 : Hd) (t6 : List Stm) (t7 : Int) (t8 : Int) (b99 : List Ent) : Option (Hd × List Ent) := Qen Tb GT Rpz 41101 [.tr .stmH t3.id t3.n, .sl .share .stm t6, .int .i64 t7, .int .i64 t8] [.ar b99]
def Rfl (a0 : Stm) (a1 : Stm) : Option (Bool) := Qen Tb GT Re 8200 [.agg (rowT .stm a0), .agg (rowT .stm a1)] []
def Rcq (t0 : List Stm) (t1 : List Stm) (t5 : Int) : Option (Unit ⊕ Bool) := Qen Tb GT Rcm 8301 [.sl .share .stm t0, .sl .share .stm t1, .int .i64 t5] []
def Rcb (a0 : Hd) (a1 : Int) (A : List Ent) : Option (Int × List Ent) := Qen Tb GT Rbj 41300 [.tr .expH a0.id a0.n, .int .i64 a1] [.ar A]
def Ras (t0 : Hd) (t1 : Int) (t5 : Int) (b99 : List Ent) : Option (Int × List Ent) := Qen Tb GT Rdl 40901 [.tr .stmH t0.id t0.n, .int .i64 t1, .int .i64 t5] [.ar b99]
def Rea (a0 : List Exp) (a1 : Int) : Option (Int) := Qen Tb GT Rak 10700 [.sl .share .exp a0, .int .i64 a1] []
def Rt (t0 : List Stm) (t1 : Int) (t5 : Int) : Option (Int ⊕ (Int × Int)) := Qen Tb GT Rfb 10801 [.sl .share .stm t0, .int .i64 t1, .int .i64 t5] []
def Rae (a0 : Exp) : Option (Exp) := Qen Tb GT Rqm 9100 [.agg (rowT .exp a0)] []
def Ran (t3b : Bool) (t3 : List Stm) (t6 : List Stm) (t7 : Int) (t8 : Int) : Option ((Bool × List Stm)) := Qen Tb GT Rsf 9201 [.sl (.own t3b) .stm t3, .sl .share .stm t6, .int .i64 t7, .int .i64 t8] []
def Rdq (a0 : Exp) (a1 : Int) : Option (Int) := Qen Tb GT Rak 6900 [.agg (rowT .exp a0), .int .i64 a1] []
def Rdr (a0 : Exp) : Option (Exp) := Qen Tb GT Rqm 7500 [.agg (rowT .exp a0)] []
def Rhj (a0 : Stm) (a1 : Int) : Option (Bool) := Qen Tb GT Re 6100 [.agg (rowT .stm a0), .int .i64 a1] []
def Rbt (t0 : List Stm) (t1 : Int) (t5 : Int) : Option (Unit ⊕ Bool) := Qen Tb GT Rcm 6201 [.sl .share .stm t0, .int .i64 t1, .int .i64 t5] []
def Rcf (t0 : List Stm) (t3 : Int) (t4 : Int) : Option (Int) := Qen Tb GT s4001 4001 [.sl .share .stm t0, .int .i64 t3, .int .i64 t4] []
def Rjr (a0 : Int) (a1 : Int) : Option (Int × Int × (Md × List Exp)) := Qen Tb GT s300 300 [.int .i64 a0, .int .i64 a1] []
def Rjq (a0 : Int) (a1 : Exp) (a2 : Exp) : Option (Int × Int × (Md × List Exp)) := Qen Tb GT s300 500 [.int .i64 a0, .agg (rowT .exp a1), .agg (rowT .exp a2)] []
def Rez (a0 : Exp) (A : List Ent) : Option (ExpH × List Ent) := Qen Tb GT Rqa 41500 [.agg (rowT .exp a0)] [.ar A]
def Rdx (a0 : Stm) (a1 : Int) : Option (Bool) := Qen Tb GT Re 5200 [.rp (rowT .stm a0) 0, .int .i64 a1] []
def Rl (t0 : List Stm) (t1 : Int) (t2 : Int) (t23 : Int) (t24 : Int) (b0_0 : Int) : Option (Int ⊕ (Bool × Int)) := Qen Tb GT s5301 5301 [.sl .share .stm t0, .int .i64 t1, .int .i64 t2, .bp 0 0, .int .i64 t23, .int .i64 t24] [.var [.int .i64 b0_0]]
def Rbf (t12 : List Exp) (t13 : Int) (t14 : Int) (b101_0 : Int) (b101_1 : Int) (b101_2 : Hd) (b102_0 : Int) (b102_1 : Int) (b102_2 : Hd) (b99 : List Ent) : Option (Int × Int × Hd × Int × Int × Hd × List Ent) := Qen Tb GT Rtg 41401 [.bp 101 0, .bp 102 0, .sl .share .exp t12, .int .i64 t13, .int .i64 t14] [.var [.int .i64 b101_0, .int .i64 b101_1, .tr .expH b101_2.id b101_2.n], .var [.int .i64 b102_0, .int .i64 b102_1, .tr .expH b102_2.id b102_2.n], .ar b99]
def Rdn (a0 : Exp) (a1 : Exp) : Option (Bool) := Qen Tb GT Re 8100 [.agg (rowT .exp a0), .agg (rowT .exp a1)] []
def Rar (t0 : Hd) (t1 : Int) (t5 : Int) (b99 : List Ent) : Option (Int × List Ent) := Qen Tb GT Rdl 41301 [.tr .expH t0.id t0.n, .int .i64 t1, .int .i64 t5] [.ar b99]
def Rs (t0 : List Exp) (t1 : Int) (t5 : Int) : Option (Int ⊕ (Int × Int)) := Qen Tb GT Rfb 10701 [.sl .share .exp t0, .int .i64 t1, .int .i64 t5] []
def Raw (t12 : List Exp) (t13 : Int) (t14 : Int) (b101_0 : Int) (b101_1 : Int) (b101_2b : Bool) (b101_2 : List Exp) (b102_0 : Int) (b102_1 : Int) (b102_2b : Bool) (b102_2 : List Exp) : Option (Int × Int × (Bool × List Exp) × Int × Int × (Bool × List Exp)) := Qen Tb GT s9101 9101 [.bp 101 0, .bp 102 0, .sl .share .exp t12, .int .i64 t13, .int .i64 t14] [.var [.int .i64 b101_0, .int .i64 b101_1, .sl (.own b101_2b) .exp b101_2], .var [.int .i64 b102_0, .int .i64 b102_1, .sl (.own b102_2b) .exp b102_2]]
def Rim (a0 : List Exp) (a1 : Int) : Option (Int) := Qen Tb GT Rak 6800 [.sl .share .exp a0, .int .i64 a1] []
def Rin (a0 : List Exp) : Option (List Exp) := Qen Tb GT s7400 7400 [.sl .share .exp a0] []
def Ree (a0 : Stm) : Option (Bool) := Qen Tb GT Re 6000 [.agg (rowT .stm a0)] []
def Rz (a0 : Stm) (a1 : Bool) : Option (Bool) := Qen Tb GT Re 5700 [.agg (rowT .stm a0), .bool a1] []
def Ry (a0 : Stm) (a1 : Bool) : Option (Bool) := Qen Tb GT Re 5800 [.agg (rowT .stm a0), .bool a1] []
def Rn (a0 : Exp) : Option (Bool) := Qen Tb GT Re 1900 [.agg (rowT .exp a0)] []
def Rgw (a0 : List Exp) (A : List Ent) : Option (Hd × List Ent) := Qen Tb GT Rth 41600 [.sl .share .exp a0] [.ar A]
def Rd (a0 : Int) (a1 : Int) (a2 : Bool) : Option (Bool) := Qen Tb GT Re 11100 [.int .i64 a0, .int .i64 a1, .bool a2] []
def Rah (a0 : Exp) : Option (Bool) := Qen Tb GT Re 1200 [.agg (rowT .exp a0)] []
def Rii (a0 : List Exp) (a1 : List Exp) : Option (Bool) := Qen Tb GT Re 8000 [.sl .share .exp a0, .sl .share .exp a1] []
def Rcw (t0 : List Exp) (t1 : Int) (t5 : Int) : Option (Int ⊕ (Int × Int)) := Qen Tb GT Rfb 6801 [.sl .share .exp t0, .int .i64 t1, .int .i64 t5] []
def Rda (t0 : List Exp) (t4 : Int) (b100 : List Exp) : Option (List Exp) := Qen Tb GT s7401 7401 [.sl .share .exp t0, .bs 100, .int .i64 t4] [.rows .exp b100]
def Rfc (a0 : Exp) : Option (Bool) := Qen Tb GT Re 5900 [.agg (rowT .exp a0)] []
def Riu (a0 : Exp) (a1 : Int) : Option (Bool) := Qen Tb GT Re 1800 [.agg (rowT .exp a0), .int .i64 a1] []
def Rbr (t0 : List Exp) (t3 : Hd) (t4 : Int) (b99 : List Ent) : Option (Hd × List Ent) := Qen Tb GT Rti 41601 [.sl .share .exp t0, .tr .expH t3.id t3.n, .int .i64 t4] [.ar b99]
def Rbv (a0 : Exp) (a1 : Int) : Option (Bool) := Qen Tb GT Re 1100 [.agg (rowT .exp a0), .int .i64 a1] []
def Rcp (t0 : List Exp) (t1 : List Exp) (t5 : Int) : Option (Unit ⊕ Bool) := Qen Tb GT Rcm 8001 [.sl .share .exp t0, .sl .share .exp t1, .int .i64 t5] []
def Riq (a0 : Int) : Option (Bool) := Qen Tb GT Re 1700 [.int .i64 a0] []
def Rid (a0 : Int) : Option (Bool) := Qen Tb GT Re 1000 [.int .i64 a0] []
theorem fE (sig : Sig) (p : ProcT) {g : Nat} {tv : List TV} {bv : List BT} {x : SumT sig} {t : Option (SumT sig)} (h : t = some x) (hr : runC (phi Tb GT sg) Tb GT p.code (Qlj p (mkST p.ins tv p.bins bv)) (finT p sig) = t := by kernel_rfl) (hs : (sg g, Tb g, p.kind, tv.length, bv.length, Qhr p tv bv, p.two) = (sig, some p, .fn, p.ins.length, p.bins.length, true, false) := by kernel_rfl) : Qen Tb GT sig g tv bv = some x := by
 simp only [Zm] at hs
 exact fn_le' (F := Tb) (G := GT) (sg := sg) hs.1 hs.2.1 hs.2.2.1 hs.2.2.2.1 hs.2.2.2.2.1 hs.2.2.2.2.2.1 hs.2.2.2.2.2.2 (hr.trans h)
theorem lE (sig : Sig) (p : ProcT) {g : Nat} {tv : List TV} {bv : List BT} {x : SumT sig} {t : Option (SumT sig)} (h : t = some x) (hr : runC (phi Tb GT sg) Tb GT p.code (mkST p.ins tv p.bins bv) (finL Tb GT g p sig) = t := by kernel_rfl) (hs : (sg g, Tb g, p.kind, tv.length, bv.length) = (sig, some p, .loop, p.ins.length, p.bins.length) := by kernel_rfl) : Qen Tb GT sig g tv bv = some x := by
 simp only [Zm] at hs
 exact loop_le' (F := Tb) (G := GT) (sg := sg) hs.1 hs.2.1 hs.2.2.1 hs.2.2.2.1 hs.2.2.2.2 (hr.trans h)
end Go.TFnExactWorldNew
end