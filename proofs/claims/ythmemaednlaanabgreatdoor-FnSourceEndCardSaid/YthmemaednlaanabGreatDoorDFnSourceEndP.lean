import Derived.Test.YthmemaednlaanabGreatDoorLkA
import Derived.Test.YthmemaednlaanabGreatDoorPm2
import Derived.Test.YthmemaednlaanabGreatDoorPm4
import Derived.KernelRfl
noncomputable section
set_option linter.unusedVariables false
namespace Go.TFnSourceEnd
open Go Go.RowKit Go.Vs Go.Tv
@[reducible] def oo (d : Nat) (k : KT) : AOpT := ⟨some d, k, none, []⟩
@[reducible] def op (d : Nat) (k : KT) (f : List Nat) : AOpT := ⟨some d, k, none, f⟩
@[reducible] def on (k : KT) (f : List Nat) : AOpT := ⟨none, k, none, f⟩
@[reducible] def og (d : Option Nat) (k : KT) (i : Nat) (b : Bool) (f : List Nat) : AOpT := ⟨d, k, some (i, b), f⟩
@[reducible] def tt (i : Nat) : OpT := .tmp i
@[reducible] def nn (i : Int) : OpT := .const (.int .i64 i)
@[reducible] def rr (l : List AOpT) : ACT := .region false l
@[reducible] def zl (d a : Nat) : AOpT := ⟨some d, .load 1 false false (.tmp a), none, []⟩
@[reducible] def zL (d a i : Nat) : AOpT := ⟨some d, .load 1 false false (.tmp a), some (i, true), []⟩
@[reducible] def zm (d a : Nat) : AOpT := ⟨some d, .mv (.tmp a), none, []⟩
@[reducible] def zM (d a i : Nat) : AOpT := ⟨some d, .mv (.tmp a), some (i, true), []⟩
@[reducible] def zf (d k a : Nat) : AOpT := ⟨some d, .fadr k (.tmp a), none, []⟩
@[reducible] def zF (d k a i : Nat) : AOpT := ⟨some d, .fadr k (.tmp a), some (i, true), []⟩
@[reducible] def zp (d a b : Nat) : AOpT := ⟨some d, .pick (.tmp a) (.tmp b) (.const (.bool false)), none, []⟩
@[reducible] def zq (d a b : Nat) : AOpT := ⟨some d, .pick (.tmp a) (.const (.bool true)) (.tmp b), none, []⟩
@[reducible] def zb (d : Nat) (o : BinOp) (a : Nat) (k : Int) : AOpT := ⟨some d, .bin o (.tmp a) (.const (.int .i64 k)), none, []⟩
@[reducible] def zt (d : Nat) (o : BinOp) (a b : Nat) : AOpT := ⟨some d, .bin o (.tmp a) (.tmp b), none, []⟩
@[reducible] def zn (d : Nat) (o : BinOp) (a : Nat) (k : Int) (i : Nat) : AOpT := ⟨some d, .bin o (.tmp a) (.const (.int .i64 k)), some (i, true), []⟩
@[reducible] def zg (d : Nat) (o : BinOp) (a b i : Nat) : AOpT := ⟨some d, .bin o (.tmp a) (.tmp b), some (i, true), []⟩
@[reducible] def zc (d a : Nat) : AOpT := ⟨some d, .len (.tmp a), none, []⟩
@[reducible] def yF (d k a i : Nat) : AOpT := ⟨some d, .fadr k (.tmp a), some (i, false), []⟩
@[reducible] def yM (d a i : Nat) : AOpT := ⟨some d, .mv (.tmp a), some (i, false), []⟩
@[reducible] def yL (d a i : Nat) : AOpT := ⟨some d, .load 1 false false (.tmp a), some (i, false), []⟩
@[reducible] def yi (d n a b : Nat) : AOpT := ⟨some d, .iadr n (.tmp a) (.tmp b), none, []⟩
@[reducible] def yI (d n a b i : Nat) : AOpT := ⟨some d, .iadr n (.tmp a) (.tmp b), some (i, true), []⟩
@[reducible] def yl (d n a : Nat) : AOpT := ⟨some d, .load n true false (.tmp a), none, []⟩
@[reducible] def ya (d n g a : Nat) : AOpT := ⟨some d, .call n g [.tmp a], none, []⟩
@[reducible] def yb (d n g a b : Nat) : AOpT := ⟨some d, .call n g [.tmp a, .tmp b], none, []⟩
@[reducible] def ye (d n a : Nat) : AOpT := ⟨some d, .ext n (.tmp a), none, []⟩
@[reducible] def yt (d a : Nat) : AOpT := ⟨some d, .mv (.take a), none, []⟩
@[reducible] def yn (d : Nat) (k : Int) : AOpT := ⟨some d, .mv (.const (.int .i64 k)), none, []⟩
@[reducible] def yc (d a : Nat) : AOpT := ⟨some d, .nilck (.tmp a), none, []⟩
@[reducible] def ys (n a b : Nat) (f : List Nat) : AOpT := ⟨none, .store n (.tmp a) (.tmp b), none, f⟩
@[reducible] def yx (d a : Nat) (f : List Nat) : AOpT := ⟨some d, .nilck (.tmp a), none, f⟩
@[reducible] def yf (d k a : Nat) (f : List Nat) : AOpT := ⟨some d, .fadr k (.tmp a), none, f⟩
@[reducible] def yd (d a : Nat) (f : List Nat) : AOpT := ⟨some d, .load 1 false false (.tmp a), none, f⟩
@[reducible] def yo (d : Nat) (b : Bool) : AOpT := ⟨some d, .mv (.const (.bool b)), none, []⟩
@[reducible] def yr (l : List AOpT) (c : ACT) : ACT := .seq (.region false l) c
@[reducible] def yw (i : Nat) (a b : ACT) : ACT := .cond (.tmp i) a b
@[reducible] def pF (a b : List Nat) (r : List RS) (c : ACT) : ProcT := { kind := .fn, ins := a, bins := b, res := r, code := c }
@[reducible] def pL (a b : List Nat) (c : ACT) : ProcT := { kind := .loop, ins := a, bins := b, code := c }
@[reducible] def zG (d : Nat) (k : KT) (i : Nat) : AOpT := ⟨some d, k, some (i, true), []⟩
def p100 : ProcT := pF [0] [] [.tmp 2] (yr [oo 2 (.mv (.const (.con .nilp)))]
 (.seq (yr [zm 3 0,
zc 4 3,
zb 5 .gtr 4 2000]
 (yw 5 (rr [zm 6 0,
oo 7 (.slc 1 (tt 6) none (some (nn 2000)) none),
yt 0 7]) .skip))
 (yr [zm 8 0,
oo 9 (.build [.sl (.own false) .u8 [], .int .i64 0] [(0, 1, tt 8)]),
oo 10 (.box 100 (tt 9)),
zm 2 10]
 .ret)))
def p200 : ProcT := pF [0, 1] [0] [.tmp 4] (yr [yn 4 0]
 (yr [zm 7 0,
zm 8 0,
yc 9 8,
zf 10 1 9,
zl 11 10,
zb 12 .add 11 1,
yc 13 7,
zf 14 1 13,
ys 1 14 12 []]
 (.seq (yr [zm 15 1,
zb 16 .lss 15 1,
zm 17 16,
yM 18 0 17,
og (some 19) (.nilck (tt 18)) 17 false [],
yF 20 0 19 17,
yL 21 20 17,
og (some 22) (.len (tt 21)) 17 false [],
og (some 23) (.bin .eql (tt 22) (nn 0)) 17 false [],
zq 24 17 23]
 (yw 24 (yr [yn 4 0]
 .ret) .skip))
 (yr [zm 25 0,
yc 26 25,
zf 27 1 26,
zl 28 27,
zb 29 .sub 28 1,
zm 5 29]
 (.seq (yr [zm 30 5,
zm 31 0,
yc 32 31,
zf 33 0 32,
zl 34 33,
zc 35 34,
zt 36 .lss 30 35]
 (yw 36 (yr [zm 37 0,
yc 38 37,
zf 39 0 38,
zl 40 39,
zm 41 5,
yi 42 1 40 41,
zl 43 42,
oo 44 (.conv (.int .i64) (tt 43)),
zm 45 1,
zt 46 .rem 44 45,
zm 4 46]
 .ret) .skip))
 (.seq (.region true [zm 47 0,
yx 48 47 [0],
yf 49 0 48 [0],
yd 50 49 [0],
zm 51 5,
zm 52 0,
yx 53 52 [0],
yf 54 0 53 [0],
yd 55 54 [0],
zc 56 55,
zt 57 .rem 51 56,
yi 58 1 50 57,
zl 59 58,
oo 60 (.conv (.int .i64) (tt 59)),
zb 61 .mul 60 131,
zm 62 0,
yx 63 62 [0],
yf 64 0 63 [0],
yd 65 64 [0],
zm 66 5,
zb 67 .mul 66 7,
zb 68 .add 67 3,
zm 69 0,
yx 70 69 [0],
yf 71 0 70 [0],
yd 72 71 [0],
zc 73 72,
zt 74 .rem 68 73,
yi 75 1 65 74,
zl 76 75,
oo 77 (.conv (.int .i64) (tt 76)),
zb 78 .mul 77 1117,
zt 79 .add 61 78,
zm 80 5,
zb 81 .mul 80 29,
zt 82 .add 79 81,
zm 83 5,
zm 84 0,
yx 85 84 [0],
yf 86 0 85 [0],
yd 87 86 [0],
zc 88 87,
zt 89 .quo 83 88,
zb 90 .mul 89 53,
zt 91 .add 82 90,
zm 6 91])
 (yr [zm 92 6,
zm 93 6,
zb 94 .quo 93 64,
zt 95 .xor 92 94,
zm 6 95]
 (yr [zm 96 6,
zm 97 1,
zt 98 .rem 96 97,
zm 4 98]
 .ret))))))))
def p300 : ProcT := pF [0, 1] [] [.keep 4 3] (yr [oo 4 (.alloc 100 [.int .i64 0, .int .i64 0, .sl (.own false) .exp []])]
 (yr [zm 5 0,
zm 6 1,
oo 7 (.buildS (.own false) .exp []),
oo 8 (.build [.int .i64 0, .int .i64 0, .sl (.own false) .exp []] [(0, 1, tt 5), (1, 1, tt 6), (2, 1, tt 7)]),
ys 3 4 8 []]
 .ret))
def p400 : ProcT := pF [0] [0] [.keep 2 3] (yr [oo 2 (.alloc 100 [.int .i64 0, .int .i64 0, .sl (.own false) .exp []])]
 (.seq (yr [zm 3 0,
oo 4 (.call 200 0 [tt 3, nn 4])]
 (.block 0 (yr [zb 6 .eql 4 0,
zm 5 6]
 (yw 5 (yr [zm 7 0,
oo 8 (.call 200 0 [tt 7, nn 4]),
oo 9 (.call 300 0 [nn 0, tt 8]),
ys 3 2 9 []]
 .ret) (yr [zb 11 .eql 4 1,
zm 10 11]
 (yw 10 (yr [oo 12 (.buildS .full .int [nn 5, nn 31, nn 32, nn 100, nn 2047, nn 2048, nn 65536, nn 99999]),
zm 13 0,
oo 14 (.call 200 0 [tt 13, nn 8]),
yi 15 1 12 14,
zl 16 15,
oo 17 (.call 300 0 [nn 0, tt 16]),
ys 3 2 17 []]
 .ret) .skip))))))
 (yr [zm 18 0,
oo 19 (.call 200 0 [tt 18, nn 4]),
oo 20 (.call 300 0 [nn 13, tt 19]),
ys 3 2 20 []]
 .ret)))
def p500 : ProcT := pF [0, 1, 2] [] [.keep 6 3] (yr [oo 4 (.box 100 (tt 1)),
oo 5 (.box 101 (tt 2)),
oo 6 (.alloc 102 [.int .i64 0, .int .i64 0, .sl (.own false) .exp []])]
 (yr [zm 7 0,
yl 8 3 4,
yl 9 3 5,
oo 10 (.buildS .full .exp [tt 8, tt 9]),
oo 11 (.build [.int .i64 0, .int .i64 0, .sl (.own false) .exp []] [(0, 1, tt 7), (2, 1, tt 10)]),
ys 3 6 11 []]
 .ret))
def p600 : ProcT := pF [0] [0] [.tmp 2] (yr [yn 2 0]
 (yr [zm 3 0,
oo 4 (.call 200 0 [tt 3, nn 12]),
oo 5 (.bin .add (nn 1) (tt 4)),
zm 2 5]
 .ret))
def p700 : ProcT := pF [0, 1] [0] [.keep 4 3] (yr [oo 4 (.alloc 100 [.int .i64 0, .int .i64 0, .sl (.own false) .exp []])]
 (.seq (yr [zm 7 1,
zb 8 .lss 7 2,
zm 9 8,
yM 10 0 9,
og (some 11) (.call 200 0 [tt 10, nn 3]) 9 false [],
og (some 12) (.bin .eql (tt 11) (nn 0)) 9 false [],
zq 13 9 12]
 (yw 13 (yr [zm 14 0,
ya 15 400 0 14,
ys 3 4 15 []]
 .ret) .skip))
 (yr [zm 16 0,
ya 17 600 0 16,
zm 5 17]
 (yr [zm 18 0,
zm 19 1,
zb 20 .sub 19 1,
yb 21 700 0 18 20,
oo 6 (.alloc 101 [.int .i64 0, .int .i64 0, .sl (.own false) .exp []]),
ys 3 6 21 []]
 (.seq (.region true [zm 22 5,
op 23 (.load 3 true false (tt 6)) [101],
zm 24 0,
zm 25 1,
zb 26 .sub 25 1,
op 27 (.call 700 0 [tt 24, tt 26]) [0],
oo 28 (.call 500 0 [tt 22, tt 23, tt 27]),
ys 3 4 28 [100]])
 .ret)))))
def p1000 : ProcT := pF [0] [] [.tmp 2] (yr [yo 2 false]
 (yr [zm 3 0,
zb 4 .geq 3 1,
zm 5 4,
zM 6 0 5,
zn 7 .leq 6 12 5,
zp 8 5 7,
zm 2 8]
 .ret))
def p1100 : ProcT := pF [0, 1] [] [.tmp 4] (yr [oo 2 (.box 100 (tt 0)),
yo 4 false]
 (.seq (.block 0 (yr [zf 6 0 2,
zl 7 6,
zb 8 .eql 7 0,
zm 5 8]
 (yw 5 (yr [zf 9 1 2,
zl 10 9,
zb 11 .geq 10 0,
zm 12 11,
zF 13 1 2 12,
zL 14 13 12,
zn 15 .leq 14 99999 12,
zp 16 12 15,
zm 17 16,
zF 18 2 2 17,
zL 19 18 17,
zG 20 (.len (tt 19)) 17,
zn 21 .eql 20 0 17,
zp 22 17 21,
zm 23 22,
zM 24 1 23,
zn 25 .gtr 24 0 23,
zp 26 23 25,
zm 4 26]
 .ret) (yr [zf 28 0 2,
zl 29 28,
zb 30 .eql 29 13,
zm 27 30]
 (yw 27 (yr [zf 31 1 2,
zl 32 31,
zb 33 .geq 32 0,
zm 34 33,
zF 35 1 2 34,
zL 36 35 34,
zn 37 .lss 36 4 34,
zp 38 34 37,
zm 39 38,
zF 40 2 2 39,
zL 41 40 39,
zG 42 (.len (tt 41)) 39,
zn 43 .eql 42 0 39,
zp 44 39 43,
zm 45 44,
zM 46 1 45,
zn 47 .gtr 46 0 45,
zp 48 45 47,
zm 4 48]
 .ret) .skip)))))
 (yr [zf 49 0 2,
zl 50 49,
ya 51 1000 0 50,
zm 52 51,
zF 53 1 2 52,
zL 54 53 52,
zn 55 .eql 54 0 52,
zp 56 52 55,
zm 57 56,
zF 58 2 2 57,
zL 59 58 57,
zG 60 (.len (tt 59)) 57,
zn 61 .eql 60 2 57,
zp 62 57 61,
zm 63 62,
zM 64 1 63,
zn 65 .gtr 64 1 63,
zp 66 63 65,
zm 67 66,
zF 68 2 2 67,
zL 69 68 67,
zG 70 (.iadr 3 (tt 69) (nn 0)) 67,
zG 71 (.load 3 true false (tt 70)) 67,
zM 72 1 67,
zn 73 .sub 72 1 67,
zG 74 (.call 1100 0 [tt 71, tt 73]) 67,
zp 75 67 74,
zm 76 75,
zF 77 2 2 76,
zL 78 77 76,
zG 79 (.iadr 3 (tt 78) (nn 1)) 76,
zG 80 (.load 3 true false (tt 79)) 76,
zM 81 1 76,
zn 82 .sub 81 1 76,
zG 83 (.call 1100 0 [tt 80, tt 82]) 76,
zp 84 76 83,
zm 4 84]
 .ret)))
def p1200 : ProcT := pF [0] [] [.tmp 2] (yr [oo 1 (.box 100 (tt 0)),
yo 2 false]
 (yr [yl 3 3 1,
oo 4 (.call 1100 0 [tt 3, nn 5]),
zm 2 4]
 .ret))
def p1600 : ProcT := pF [0, 1, 2] [] [.tmp 6] (yr [yo 6 false]
 (yr [zm 7 0,
zm 8 1,
zt 9 .geq 7 8,
zm 10 9,
zM 11 0 10,
zM 12 2 10,
zg 13 .leq 11 12 10,
zp 14 10 13,
zm 6 14]
 .ret))
def p1700 : ProcT := pF [0] [] [.tmp 2] (yr [yo 2 false]
 (yr [zm 3 0,
oo 4 (.call 1600 0 [tt 3, nn 1, nn 12]),
zm 2 4]
 .ret))
def p1800 : ProcT := pF [0, 1] [] [.tmp 4] (yr [oo 2 (.box 100 (tt 0)),
yo 4 false]
 (.seq (yr [zm 5 1,
zb 6 .lss 5 1]
 (yw 6 (yr [yo 4 false]
 .ret) .skip))
 (.seq (yr [zf 7 0 2,
zl 8 7,
zb 9 .eql 8 0]
 (yw 9 (yr [zf 10 1 2,
zl 11 10,
oo 12 (.call 1600 0 [tt 11, nn 0, nn 99999]),
zm 13 12,
zF 14 2 2 13,
zL 15 14 13,
zG 16 (.len (tt 15)) 13,
zn 17 .eql 16 0 13,
zp 18 13 17,
zm 4 18]
 .ret) .skip))
 (.seq (yr [zf 19 0 2,
zl 20 19,
zb 21 .eql 20 13]
 (yw 21 (yr [zf 22 1 2,
zl 23 22,
oo 24 (.call 1600 0 [tt 23, nn 0, nn 3]),
zm 25 24,
zF 26 2 2 25,
zL 27 26 25,
zG 28 (.len (tt 27)) 25,
zn 29 .eql 28 0 25,
zp 30 25 29,
zm 4 30]
 .ret) .skip))
 (yr [zf 31 0 2,
zl 32 31,
ya 33 1700 0 32,
zm 34 33,
zF 35 1 2 34,
zL 36 35 34,
zn 37 .eql 36 0 34,
zp 38 34 37,
zm 39 38,
zF 40 2 2 39,
zL 41 40 39,
zG 42 (.len (tt 41)) 39,
zn 43 .eql 42 2 39,
zp 44 39 43,
zm 45 44,
zF 46 2 2 45,
zL 47 46 45,
zG 48 (.iadr 3 (tt 47) (nn 0)) 45,
zG 49 (.load 3 true false (tt 48)) 45,
zM 50 1 45,
zn 51 .sub 50 1 45,
zG 52 (.call 1800 0 [tt 49, tt 51]) 45,
zp 53 45 52,
zm 54 53,
zF 55 2 2 54,
zL 56 55 54,
zG 57 (.iadr 3 (tt 56) (nn 1)) 54,
zG 58 (.load 3 true false (tt 57)) 54,
zM 59 1 54,
zn 60 .sub 59 1 54,
zG 61 (.call 1800 0 [tt 58, tt 60]) 54,
zp 62 54 61,
zm 4 62]
 .ret)))))
def p1900 : ProcT := pF [0] [] [.tmp 2] (yr [oo 1 (.box 100 (tt 0)),
yo 2 false]
 (yr [yl 3 3 1,
oo 4 (.call 1800 0 [tt 3, nn 5]),
zm 2 4]
 .ret))
def p4000 : ProcT := pF [0] [] [.tmp 2] (yr [yn 2 0]
 (yr [yn 3 0]
 (.seq (yr [yn 4 0]
 (.block 0 (.label 4001)))
 (yr [zm 27 3,
zm 2 27]
 .ret))))
def p4001 : ProcT := { kind := .loop, ins := [0, 3, 4], bins := [], outs := [2, 3], bouts := [], code := (.seq (yr [zm 5 4,
zm 6 0,
zc 7 6,
zt 8 .lss 5 7]
 (yw 8 .skip (.exit 0)))
 (.seq (.block 1 (.region true [zm 11 3,
zb 12 .add 11 1,
zm 13 0,
zm 14 4,
yi 15 8 13 14,
zf 16 6 15,
zl 17 16,
ya 18 4000 0 17,
zt 19 .add 12 18,
zm 20 0,
zm 21 4,
yi 22 8 20 21,
zf 23 7 22,
zl 24 23,
ya 25 4000 0 24,
zt 26 .add 19 25,
zm 3 26]))
 (rr [zm 9 4,
zb 10 .add 9 1,
zm 4 10]))) }
def p4100 : ProcT := pF [0, 1, 2, 3] [0] [.cell 8 8 true] (yr [oo 8 (.alloc 100 [.int .i64 0, .int .i64 0, .int .i64 0, .int .i64 0, .int .i64 0, .sl (.own false) .exp [], .sl (.own false) .stm [], .sl (.own false) .stm []])]
 (yr [zm 11 0,
zm 12 0,
oo 13 (.call 200 0 [tt 12, nn 2]),
oo 14 (.bin .add (nn 1) (tt 13)),
yb 15 700 0 11 14,
oo 9 (.alloc 101 [.int .i64 0, .int .i64 0, .sl (.own false) .exp []]),
ys 3 9 15 []]
 (yr [zm 16 0,
zm 17 1,
zm 18 2,
zb 19 .sub 18 1,
zm 20 0,
oo 21 (.call 200 0 [tt 20, nn 3]),
zm 22 3,
oo 23 (.call 4600 0 [tt 16, tt 17, tt 19, tt 21, tt 22]),
yt 10 23]
 (.seq (.region true [op 24 (.load 3 true false (tt 9)) [101],
zm 25 10,
zm 26 0,
zm 27 1,
zm 28 2,
zb 29 .sub 28 1,
zm 30 0,
op 31 (.call 200 0 [tt 30, nn 3]) [0],
zm 32 3,
op 33 (.call 4600 0 [tt 26, tt 27, tt 29, tt 31, tt 32]) [0],
oo 34 (.build [.int .i64 0, .int .i64 0, .int .i64 0, .int .i64 0, .int .i64 0, .sl (.own false) .exp [], .sl (.own false) .stm [], .sl (.own false) .stm []] [(0, 1, nn 2), (3, 3, tt 24), (6, 1, tt 25), (7, 1, tt 33)]),
ys 8 8 34 [100]])
 .ret))))
def p4200 : ProcT := pF [0] [0] [.cell 2 8 true] (yr [oo 2 (.alloc 100 [.int .i64 0, .int .i64 0, .int .i64 0, .int .i64 0, .int .i64 0, .sl (.own false) .exp [], .sl (.own false) .stm [], .sl (.own false) .stm []])]
 (yr [zm 4 0,
oo 5 (.call 200 0 [tt 4, nn 3]),
zm 3 5]
 (yr [zm 6 3,
zm 7 0,
zm 8 0,
oo 9 (.call 200 0 [tt 8, nn 3]),
oo 10 (.bin .add (nn 1) (tt 9)),
yb 11 700 0 7 10,
oo 12 (.build [.int .i64 0, .int .i64 0, .int .i64 0, .int .i64 0, .int .i64 0, .sl (.own false) .exp [], .sl (.own false) .stm [], .sl (.own false) .stm []] [(0, 1, nn 1), (1, 1, tt 6), (3, 3, tt 11)]),
ys 8 2 12 []]
 .ret)))
def p4300 : ProcT := pF [0, 1, 2] [0] [.tmp 6] (yr [oo 6 (.mv (.const (.sl (.own false) .stm [])))]
 (yr [yn 7 3]
 (yr [zm 11 0,
zm 12 1,
zm 13 2,
zb 14 .sub 13 1,
zm 15 0,
oo 16 (.call 200 0 [tt 15, nn 3]),
oo 17 (.call 4600 0 [tt 11, tt 12, tt 14, tt 16, .const (.bool false)]),
yt 8 17]
 (yr [zm 18 7,
zm 19 7,
oo 20 (.call 300 0 [nn 13, tt 19]),
oo 21 (.call 300 0 [nn 0, nn 1]),
oo 22 (.call 500 0 [nn 8, tt 20, tt 21]),
oo 23 (.build [.int .i64 0, .int .i64 0, .int .i64 0, .int .i64 0, .int .i64 0, .sl (.own false) .exp [], .sl (.own false) .stm [], .sl (.own false) .stm []] [(0, 1, nn 1), (1, 1, tt 18), (3, 3, tt 22)]),
oo 9 (.alloc 100 [.int .i64 0, .int .i64 0, .int .i64 0, .int .i64 0, .int .i64 0, .sl (.own false) .exp [], .sl (.own false) .stm [], .sl (.own false) .stm []]),
ys 8 9 23 []]
 (.seq (.region true [zm 24 7,
oo 25 (.call 300 0 [nn 13, tt 24]),
zm 26 0,
op 27 (.call 200 0 [tt 26, nn 3]) [0],
oo 28 (.bin .add (nn 1) (tt 27)),
oo 29 (.call 300 0 [nn 0, tt 28]),
oo 30 (.call 500 0 [nn 5, tt 25, tt 29]),
yt 31 8,
op 32 (.load 8 true false (tt 9)) [100],
oo 33 (.buildS .full .stm [tt 32]),
oo 34 (.app 8 (.take 31) (tt 33)),
oo 35 (.build [.int .i64 0, .int .i64 0, .int .i64 0, .int .i64 0, .int .i64 0, .sl (.own false) .exp [], .sl (.own false) .stm [], .sl (.own false) .stm []] [(0, 1, nn 3), (3, 3, tt 30), (6, 1, tt 34)]),
op 10 (.alloc 101 [.int .i64 0, .int .i64 0, .int .i64 0, .int .i64 0, .int .i64 0, .sl (.own false) .exp [], .sl (.own false) .stm [], .sl (.own false) .stm []]) [101],
ys 8 10 35 [101]])
 (.seq (.region true [zm 36 7,
oo 37 (.call 300 0 [nn 0, nn 0]),
oo 38 (.build [.int .i64 0, .int .i64 0, .int .i64 0, .int .i64 0, .int .i64 0, .sl (.own false) .exp [], .sl (.own false) .stm [], .sl (.own false) .stm []] [(0, 1, nn 1), (1, 1, tt 36), (3, 3, tt 37)]),
op 39 (.load 8 true false (tt 10)) [101],
oo 40 (.buildS (.own true) .stm [tt 38, tt 39]),
yt 6 40])
 .ret))))))
def p4400 : ProcT := pF [0, 1] [0] [.cell 4 8 true] (yr [oo 4 (.alloc 100 [.int .i64 0, .int .i64 0, .int .i64 0, .int .i64 0, .int .i64 0, .sl (.own false) .exp [], .sl (.own false) .stm [], .sl (.own false) .stm []])]
 (.seq (yr [zm 6 1,
zb 7 .lss 6 1]
 (yw 7 (yr [zm 8 0,
ya 9 4200 0 8,
ys 8 4 9 []]
 .ret) .skip))
 (yr [zm 10 0,
zm 11 1,
yb 12 200 0 10 11,
zm 5 12]
 (.seq (yr [zm 13 0,
oo 14 (.call 200 0 [tt 13, nn 2]),
zb 15 .eql 14 0]
 (yw 15 (yr [zm 16 5,
zm 17 0,
zm 18 0,
oo 19 (.call 200 0 [tt 18, nn 3]),
oo 20 (.bin .add (nn 1) (tt 19)),
yb 21 700 0 17 20,
oo 22 (.build [.int .i64 0, .int .i64 0, .int .i64 0, .int .i64 0, .int .i64 0, .sl (.own false) .exp [], .sl (.own false) .stm [], .sl (.own false) .stm []] [(0, 1, nn 4), (2, 1, tt 16), (3, 3, tt 21)]),
ys 8 4 22 []]
 .ret) .skip))
 (yr [zm 23 5,
zm 24 0,
oo 25 (.call 200 0 [tt 24, nn 3]),
oo 26 (.build [.int .i64 0, .int .i64 0, .int .i64 0, .int .i64 0, .int .i64 0, .sl (.own false) .exp [], .sl (.own false) .stm [], .sl (.own false) .stm []] [(0, 1, nn 5), (2, 1, tt 23), (1, 1, tt 25)]),
ys 8 4 26 []]
 .ret)))))
def p4500 : ProcT := pF [0, 1, 2, 3] [0] [.tmp 8] (yr [oo 8 (.mv (.const (.sl (.own false) .stm [])))]
 (.seq (yr [zm 9 0,
oo 10 (.call 200 0 [tt 9, nn 10])]
 (.block 0 (.seq (yr [zb 12 .eql 10 0,
zm 11 12]
 (yw 11 .skip (rr [zb 13 .eql 10 1,
zm 11 13])))
 (yw 11 (yr [zm 14 0,
ya 15 4200 0 14,
oo 16 (.buildS (.own true) .stm [tt 15]),
yt 8 16]
 .ret) (yr [zb 18 .eql 10 2,
zm 17 18]
 (yw 17 (yr [zm 19 2,
zb 20 .gtr 19 0]
 (yw 20 (yr [zm 21 0,
zm 22 1,
zm 23 2,
zm 24 3,
oo 25 (.call 4100 0 [tt 21, tt 22, tt 23, tt 24]),
oo 26 (.buildS (.own true) .stm [tt 25]),
yt 8 26]
 .ret) .skip)) (yr [zb 28 .eql 10 3,
zm 27 28]
 (yw 27 (yr [zm 29 2,
zb 30 .gtr 29 0,
zm 31 30,
zM 32 3 31,
zp 33 31 32]
 (yw 33 (yr [zm 34 0,
zm 35 1,
zm 36 2,
oo 37 (.call 4300 0 [tt 34, tt 35, tt 36]),
yt 8 37]
 .ret) .skip)) (.seq (yr [zb 39 .eql 10 4,
zm 38 39]
 (yw 38 .skip (yr [zb 40 .eql 10 5,
zm 38 40]
 (yw 38 .skip (rr [zb 41 .eql 10 6,
zm 38 41])))))
 (yw 38 (yr [zm 42 0,
zm 43 1,
yb 44 4400 0 42 43,
oo 45 (.buildS (.own true) .stm [tt 44]),
yt 8 45]
 .ret) (yr [zb 47 .eql 10 7,
zm 46 47]
 (yw 46 (yr [oo 48 (.build [.int .i64 0, .int .i64 0, .int .i64 0, .int .i64 0, .int .i64 0, .sl (.own false) .exp [], .sl (.own false) .stm [], .sl (.own false) .stm []] [(0, 1, nn 6)]),
oo 49 (.buildS (.own true) .stm [tt 48]),
yt 8 49]
 .ret) .skip))))))))))))
 (yr [zm 50 0,
zm 51 0,
oo 52 (.call 200 0 [tt 51, nn 3]),
oo 53 (.bin .add (nn 1) (tt 52)),
yb 54 700 0 50 53,
oo 55 (.build [.int .i64 0, .int .i64 0, .int .i64 0, .int .i64 0, .int .i64 0, .sl (.own false) .exp [], .sl (.own false) .stm [], .sl (.own false) .stm []] [(0, 1, nn 7), (3, 3, tt 54)]),
oo 56 (.buildS (.own true) .stm [tt 55]),
yt 8 56]
 .ret)))
def p4600 : ProcT := pF [0, 1, 2, 3, 4] [0] [.tmp 10] (yr [oo 10 (.mv (.const (.sl (.own false) .stm [])))]
 (yr [oo 13 (.buildS (.own true) .stm []),
yt 11 13]
 (.seq (yr [yn 12 0]
 (.block 0 (.label 4601)))
 (yr [yt 26 11,
yt 10 26]
 .ret))))
def p4601 : ProcT := { kind := .loop, ins := [0, 1, 2, 3, 4, 11, 12], bins := [0], outs := [0, 10, 11], bouts := [0], code := (.seq (yr [zm 14 12,
zm 15 3,
zt 16 .lss 14 15]
 (yw 16 .skip (.exit 0)))
 (.seq (.block 1 (rr [yt 19 11,
zm 20 0,
zm 21 1,
zm 22 2,
zm 23 4,
oo 24 (.call 4500 0 [tt 20, tt 21, tt 22, tt 23]),
oo 25 (.app 8 (.take 19) (tt 24)),
yt 11 25]))
 (rr [zm 17 12,
zb 18 .add 17 1,
zm 12 18]))) }
def p4700 : ProcT := pF [0, 1] [0] [.tmp 4] (yr [oo 4 (.mv (.const (.sl (.own false) .stm [])))]
 (yr [zm 6 0,
zm 7 1,
zm 8 0,
oo 9 (.call 200 0 [tt 8, nn 6]),
oo 10 (.bin .add (nn 1) (tt 9)),
oo 11 (.call 4600 0 [tt 6, tt 7, nn 3, tt 10, .const (.bool true)]),
yt 5 11]
 (.seq (.block 0 (.label 4701))
 (yr [yt 20 5,
yt 4 20]
 .ret))))
def p4701 : ProcT := { kind := .loop, ins := [0, 5], bins := [0], outs := [0, 4, 5], bouts := [0], code := (.seq (yr [zm 12 5,
ya 13 4000 0 12,
zb 14 .gtr 13 16]
 (yw 14 .skip (.exit 0)))
 (.block 1 (rr [zm 15 5,
zm 16 5,
zc 17 16,
zb 18 .sub 17 1,
oo 19 (.slc 8 (tt 15) none (some (tt 18)) none),
yt 5 19]))) }
def p5200 : ProcT := pF [0, 1] [] [.tmp 4] (yr [yo 4 false]
 (yr [oo 5 (.alloc 100 [.bool false, .bool false, .bool false, .bool false, .bool false])]
 (.seq (yr [zm 7 0,
yc 8 7,
zf 9 0 8,
zl 10 9]
 (.block 0 (yr [zb 12 .eql 10 1,
zm 11 12]
 (yw 11 (rr [zf 13 0 5,
on (.store 1 (tt 13) (.const (.bool true))) [],
zf 14 2 5,
on (.store 1 (tt 14) (.const (.bool true))) []]) (yr [zb 16 .eql 10 2,
zm 15 16]
 (yw 15 (rr [zf 17 2 5,
on (.store 1 (tt 17) (.const (.bool true))) [],
zf 18 3 5,
on (.store 1 (tt 18) (.const (.bool true))) [],
zf 19 4 5,
on (.store 1 (tt 19) (.const (.bool true))) []]) (yr [zb 21 .eql 10 3,
zm 20 21]
 (yw 20 (rr [zf 22 2 5,
on (.store 1 (tt 22) (.const (.bool true))) [],
zf 23 3 5,
on (.store 1 (tt 23) (.const (.bool true))) []]) (yr [zb 25 .eql 10 4,
zm 24 25]
 (yw 24 (rr [zf 26 1 5,
on (.store 1 (tt 26) (.const (.bool true))) [],
zf 27 2 5,
on (.store 1 (tt 27) (.const (.bool true))) []]) (yr [zb 29 .eql 10 5,
zm 28 29]
 (yw 28 (rr [zf 30 1 5,
on (.store 1 (tt 30) (.const (.bool true))) [],
zf 31 0 5,
on (.store 1 (tt 31) (.const (.bool true))) []]) (yr [zb 33 .eql 10 7,
zm 32 33]
 (yw 32 (rr [zf 34 2 5,
on (.store 1 (tt 34) (.const (.bool true))) []]) (yr [zb 36 .eql 10 6,
zm 35 36]
 (yw 35 .skip (yr [yo 4 false]
 .ret)))))))))))))))))
 (yr [oo 6 (.mv (.func 11100))]
 (.seq (.seq (.region true [zm 37 6,
zm 38 0,
yc 39 38,
zf 40 1 39,
zl 41 40,
yf 42 0 5 [100],
yd 43 42 [100],
oo 44 (.callv (tt 37) [tt 41, nn 4, tt 43]),
oo 45 (.un .not (tt 44)),
zm 46 45,
yM 47 6 46,
yM 48 0 46,
og (some 49) (.nilck (tt 48)) 46 false [],
yF 50 2 49 46,
yL 51 50 46,
yM 52 1 46,
og (some 53) (.fadr 1 (tt 5)) 46 false [100],
og (some 54) (.load 1 false false (tt 53)) 46 false [100],
og (some 55) (.callv (tt 47) [tt 51, tt 52, tt 54]) 46 false [],
og (some 56) (.un .not (tt 55)) 46 false [],
zq 57 46 56,
zm 58 57,
og (some 59) (.fadr 1 (tt 5)) 58 false [100],
og (some 60) (.load 1 false false (tt 59)) 58 false [100],
yM 61 60 58,
zM 62 0 61,
zG 63 (.nilck (tt 62)) 61,
zF 64 2 63 61,
zL 65 64 61,
zM 66 1 61,
zg 67 .geq 65 66 61,
og (some 68) (.pick (tt 61) (tt 67) (.const (.bool false))) 58 false [],
zq 69 58 68])
 (yw 69 (yr [yo 4 false]
 .ret) .skip))
 (.seq (yr [zf 70 2 5,
zl 71 70,
zm 72 71,
zM 73 0 72,
zG 74 (.nilck (tt 73)) 72,
zF 75 3 74 72,
zG 76 (.load 3 true false (tt 75)) 72,
zG 77 (.call 1200 0 [tt 76]) 72,
zG 78 (.un .not (tt 77)) 72,
zp 79 72 78,
zm 80 79,
yF 81 2 5 80,
yL 82 81 80,
og (some 83) (.un .not (tt 82)) 80 false [],
yM 84 83 80,
zM 85 0 84,
zG 86 (.nilck (tt 85)) 84,
zF 87 3 86 84,
zF 88 0 87 84,
zL 89 88 84,
zn 90 .neq 89 0 84,
zM 91 90 84,
yM 92 0 91,
og (some 93) (.nilck (tt 92)) 91 false [],
yF 94 3 93 91,
yF 95 1 94 91,
yL 96 95 91,
og (some 97) (.bin .neq (tt 96) (nn 0)) 91 false [],
zG 98 (.pick (tt 91) (.const (.bool true)) (tt 97)) 84,
zM 99 98 84,
yM 100 0 99,
og (some 101) (.nilck (tt 100)) 99 false [],
yF 102 3 101 99,
yF 103 2 102 99,
yL 104 103 99,
og (some 105) (.len (tt 104)) 99 false [],
og (some 106) (.bin .gtr (tt 105) (nn 0)) 99 false [],
zG 107 (.pick (tt 99) (.const (.bool true)) (tt 106)) 84,
og (some 108) (.pick (tt 84) (tt 107) (.const (.bool false))) 80 false [],
zq 109 80 108]
 (yw 109 (yr [yo 4 false]
 .ret) .skip))
 (yr [zf 110 3 5,
zl 111 110,
zm 112 111,
yM 113 0 112,
og (some 114) (.nilck (tt 113)) 112 false [],
yF 115 6 114 112,
yL 116 115 112,
og (some 117) (.len (tt 116)) 112 false [],
og (some 118) (.bin .eql (tt 117) (nn 0)) 112 false [],
zq 119 112 118,
zm 120 119,
zF 121 4 5 120,
zL 122 121 120,
zM 123 122 120,
yM 124 0 123,
og (some 125) (.nilck (tt 124)) 123 false [],
yF 126 7 125 123,
yL 127 126 123,
og (some 128) (.len (tt 127)) 123 false [],
og (some 129) (.bin .eql (tt 128) (nn 0)) 123 false [],
zG 130 (.pick (tt 123) (.const (.bool true)) (tt 129)) 120,
zp 131 120 130,
zm 4 131]
 .ret)))))))
def p5300 : ProcT := pF [0, 1, 2, 3] [0] [.tmp 8] (yr [yo 8 false]
 (yr [zm 11 3,
yc 12 11,
zl 13 12,
zm 14 0,
zc 15 14,
zt 16 .add 13 15,
yc 17 11,
ys 1 17 16 []]
 (.seq (yr [zm 18 3,
yc 19 18,
zl 20 19,
zb 21 .gtr 20 16]
 (yw 21 (yr [yo 8 false]
 .ret) .skip))
 (.seq (yr [zm 22 0,
zc 23 22,
yn 24 0]
 (.block 0 (.label 5301)))
 (yr [yo 8 true]
 .ret)))))
def p5301 : ProcT := { kind := .loop, ins := [0, 1, 2, 3, 23, 24], bins := [0], outs := [3, 8], bouts := [0], code := (yr [zt 25 .lss 24 23]
 (.seq (yw 25 .skip (.exit 0))
 (.seq (.block 1 (yr [zm 26 24,
zm 9 26]
 (yr [zm 27 0,
zm 28 9,
yi 29 8 27 28,
zm 10 29]
 (.seq (yr [zm 30 10,
zm 31 1,
yb 32 5200 0 30 31,
oo 33 (.un .not (tt 32)),
zm 34 33,
yM 35 2 34,
og (some 36) (.bin .gtr (tt 35) (nn 3)) 34 false [],
zq 37 34 36]
 (yw 37 (yr [yo 8 false]
 .ret) .skip))
 (.seq (yr [zm 38 10,
yc 39 38,
zf 40 0 39,
zl 41 40,
zb 42 .neq 41 2,
zm 43 42,
zM 44 10 43,
zG 45 (.nilck (tt 44)) 43,
zF 46 0 45 43,
zL 47 46 43,
zn 48 .neq 47 3 43,
zp 49 43 48]
 (yw 49 (.exit 1) .skip))
 (yr [zm 50 2,
zb 51 .geq 50 3,
zm 52 51,
yM 53 10 52,
og (some 54) (.nilck (tt 53)) 52 false [],
yF 55 6 54 52,
yL 56 55 52,
yM 57 1 52,
yM 58 2 52,
og (some 59) (.bin .add (tt 58) (nn 1)) 52 false [],
yM 60 3 52,
og (some 61) (.call 5300 0 [tt 56, tt 57, tt 59, tt 60]) 52 false [],
og (some 62) (.un .not (tt 61)) 52 false [],
zq 63 52 62,
zm 64 63,
yM 65 10 64,
og (some 66) (.nilck (tt 65)) 64 false [],
yF 67 7 66 64,
yL 68 67 64,
yM 69 1 64,
yM 70 2 64,
og (some 71) (.bin .add (tt 70) (nn 1)) 64 false [],
yM 72 3 64,
og (some 73) (.call 5300 0 [tt 68, tt 69, tt 71, tt 72]) 64 false [],
og (some 74) (.un .not (tt 73)) 64 false [],
zq 75 64 74]
 (yw 75 (yr [yo 8 false]
 .ret) .skip)))))))
 (rr [zb 76 .add 24 1,
zm 24 76])))) }
def p5400 : ProcT := pF [0, 1] [] [.tmp 4] (yr [yo 4 false]
 (yr [oo 5 (.alloc 100 [.int .i64 0]),
on (.store 1 (tt 5) (nn 0)) []]
 (yr [zm 6 0,
zm 7 1,
oo 8 (.call 5300 0 [tt 6, tt 7, nn 0, tt 5]),
zm 4 8]
 .ret)))
def p5700 : ProcT := pF [0, 1] [] [.tmp 4] (yr [oo 2 (.box 100 (tt 0)),
yo 4 false]
 (.seq (yr [zm 5 1]
 (yw 5 (yr [zf 6 1 2,
zl 7 6,
oo 8 (.call 1600 0 [tt 7, nn 0, nn 3]),
zm 4 8]
 .ret) .skip))
 (yr [zf 9 1 2,
zl 10 9,
zb 11 .eql 10 0,
zm 4 11]
 .ret)))
def p5800 : ProcT := pF [0, 1] [] [.tmp 4] (yr [oo 2 (.box 100 (tt 0)),
yo 4 false]
 (.seq (yr [zm 5 1]
 (yw 5 (yr [zf 6 2 2,
zl 7 6,
oo 8 (.call 1600 0 [tt 7, nn 0, nn 2]),
zm 4 8]
 .ret) .skip))
 (yr [zf 9 2 2,
zl 10 9,
zb 11 .eql 10 0,
zm 4 11]
 .ret)))
def p5900 : ProcT := pF [0] [] [.tmp 2] (yr [oo 1 (.box 100 (tt 0)),
yo 2 false]
 (yr [zf 3 0 1,
zl 4 3,
zb 5 .eql 4 0,
zm 6 5,
zF 7 1 1 6,
zL 8 7 6,
zn 9 .eql 8 0 6,
zp 10 6 9,
zm 11 10,
zF 12 2 1 11,
zL 13 12 11,
zG 14 (.len (tt 13)) 11,
zn 15 .eql 14 0 11,
zp 16 11 15,
zm 2 16]
 .ret))
def p6000 : ProcT := pF [0] [] [.tmp 2] (yr [oo 1 (.box 100 (tt 0)),
yo 2 false]
 (.seq (yr [zf 3 6 1,
zl 4 3,
zc 5 4,
zb 6 .gtr 5 0,
zm 7 6,
yF 8 7 1 7,
yL 9 8 7,
og (some 10) (.len (tt 9)) 7 false [],
og (some 11) (.bin .gtr (tt 10) (nn 0)) 7 false [],
zq 12 7 11]
 (yw 12 (yr [yo 2 false]
 .ret) .skip))
 (.seq (yr [zf 13 0 1,
zl 14 13]
 (.block 0 (yr [zb 16 .eql 14 1,
zm 15 16]
 (yw 15 (yr [yl 17 8 1,
oo 18 (.call 5700 0 [tt 17, .const (.bool true)]),
zm 19 18,
zG 20 (.load 8 true false (tt 1)) 19,
zG 21 (.call 5800 0 [tt 20, .const (.bool false)]) 19,
zp 22 19 21,
zm 23 22,
zF 24 3 1 23,
zG 25 (.load 3 true false (tt 24)) 23,
zG 26 (.call 1900 0 [tt 25]) 23,
zp 27 23 26,
zm 2 27]
 .ret) (yr [zb 29 .eql 14 4,
zm 28 29]
 (yw 28 (yr [yl 30 8 1,
oo 31 (.call 5700 0 [tt 30, .const (.bool false)]),
zm 32 31,
zG 33 (.load 8 true false (tt 1)) 32,
zG 34 (.call 5800 0 [tt 33, .const (.bool true)]) 32,
zp 35 32 34,
zm 36 35,
zF 37 3 1 36,
zG 38 (.load 3 true false (tt 37)) 36,
zG 39 (.call 1900 0 [tt 38]) 36,
zp 40 36 39,
zm 2 40]
 .ret) (yr [zb 42 .eql 14 5,
zm 41 42]
 (yw 41 (yr [yl 43 8 1,
oo 44 (.call 5700 0 [tt 43, .const (.bool true)]),
zm 45 44,
zG 46 (.load 8 true false (tt 1)) 45,
zG 47 (.call 5800 0 [tt 46, .const (.bool true)]) 45,
zp 48 45 47,
zm 49 48,
zF 50 3 1 49,
zG 51 (.load 3 true false (tt 50)) 49,
zG 52 (.call 5900 0 [tt 51]) 49,
zp 53 49 52,
zm 2 53]
 .ret) (yr [zb 55 .eql 14 6,
zm 54 55]
 (yw 54 (yr [yl 56 8 1,
oo 57 (.call 5700 0 [tt 56, .const (.bool false)]),
zm 58 57,
zG 59 (.load 8 true false (tt 1)) 58,
zG 60 (.call 5800 0 [tt 59, .const (.bool false)]) 58,
zp 61 58 60,
zm 62 61,
zF 63 3 1 62,
zG 64 (.load 3 true false (tt 63)) 62,
zG 65 (.call 5900 0 [tt 64]) 62,
zp 66 62 65,
zm 2 66]
 .ret) (yr [zb 68 .eql 14 7,
zm 67 68]
 (yw 67 (yr [yl 69 8 1,
oo 70 (.call 5700 0 [tt 69, .const (.bool false)]),
zm 71 70,
zG 72 (.load 8 true false (tt 1)) 71,
zG 73 (.call 5800 0 [tt 72, .const (.bool false)]) 71,
zp 74 71 73,
zm 75 74,
zF 76 3 1 75,
zG 77 (.load 3 true false (tt 76)) 75,
zG 78 (.call 1900 0 [tt 77]) 75,
zp 79 75 78,
zm 2 79]
 .ret) .skip))))))))))))
 (yr [yo 2 false]
 .ret))))
def p6100 : ProcT := pF [0, 1] [] [.tmp 4] (yr [oo 2 (.box 100 (tt 0)),
yo 4 false]
 (.seq (yr [zf 5 0 2,
zl 6 5,
zb 7 .neq 6 2,
zm 8 7,
zF 9 0 2 8,
zL 10 9 8,
zn 11 .neq 10 3 8,
zp 12 8 11]
 (yw 12 (yr [yl 13 8 2,
ya 14 6000 0 13,
zm 4 14]
 .ret) .skip))
 (.seq (yr [zm 15 1,
zb 16 .lss 15 1,
zm 17 16,
yF 18 0 2 17,
yL 19 18 17,
og (some 20) (.bin .eql (tt 19) (nn 3)) 17 false [],
yM 21 20 17,
zF 22 7 2 21,
zL 23 22 21,
zG 24 (.len (tt 23)) 21,
zn 25 .gtr 24 0 21,
og (some 26) (.pick (tt 21) (tt 25) (.const (.bool false))) 17 false [],
zq 27 17 26]
 (yw 27 (yr [yo 4 false]
 .ret) .skip))
 (yr [yl 28 8 2,
oo 29 (.call 5700 0 [tt 28, .const (.bool false)]),
zm 30 29,
zG 31 (.load 8 true false (tt 2)) 30,
zG 32 (.call 5800 0 [tt 31, .const (.bool false)]) 30,
zp 33 30 32,
zm 34 33,
zF 35 3 2 34,
zG 36 (.load 3 true false (tt 35)) 34,
zG 37 (.call 1900 0 [tt 36]) 34,
zp 38 34 37,
zm 39 38,
zF 40 6 2 39,
zL 41 40 39,
zM 42 1 39,
zn 43 .sub 42 1 39,
zG 44 (.call 6200 0 [tt 41, tt 43]) 39,
zp 45 39 44,
zm 46 45,
zF 47 7 2 46,
zL 48 47 46,
zM 49 1 46,
zn 50 .sub 49 1 46,
zG 51 (.call 6200 0 [tt 48, tt 50]) 46,
zp 52 46 51,
zm 4 52]
 .ret))))
def p6200 : ProcT := pF [0, 1] [] [.tmp 4] (yr [yo 4 false]
 (.seq (yr [yn 5 0]
 (.block 0 (.label 6201)))
 (yr [yo 4 true]
 .ret)))
def p6201 : ProcT := { kind := .loop, ins := [0, 1, 5], bins := [], outs := [4], bouts := [], code := (.seq (yr [zm 6 5,
zm 7 0,
zc 8 7,
zt 9 .lss 6 8]
 (yw 9 .skip (.exit 0)))
 (.seq (.block 1 (yr [zm 12 0,
zm 13 5,
yi 14 8 12 13,
yl 15 8 14,
zm 16 1,
yb 17 6100 0 15 16,
oo 18 (.un .not (tt 17))]
 (yw 18 (yr [yo 4 false]
 .ret) .skip)))
 (rr [zm 10 5,
zb 11 .add 10 1,
zm 5 11]))) }
def p6300 : ProcT := pF [0] [] [.tmp 2] (yr [yo 2 false]
 (yr [zm 3 0,
oo 4 (.call 6200 0 [tt 3, nn 3]),
zm 5 4,
zM 6 0 5,
zG 7 (.call 4000 0 [tt 6]) 5,
zn 8 .leq 7 16 5,
zp 9 5 8,
zm 2 9]
 .ret))
def p8700 : ProcT := pF [0] [0] [.cell 2 8 true] (yr [oo 2 (.alloc 100 [.int .i64 0, .int .i64 0, .int .i64 0, .int .i64 0, .int .i64 0, .sl (.own false) .exp [], .sl (.own false) .stm [], .sl (.own false) .stm []])]
 (yr [oo 3 (.call 300 0 [nn 0, nn 1]),
zm 4 0,
zm 5 0,
oo 6 (.call 200 0 [tt 5, nn 2]),
oo 7 (.call 4600 0 [tt 4, nn 0, nn 1, tt 6, .const (.bool false)]),
oo 8 (.build [.int .i64 0, .int .i64 0, .int .i64 0, .int .i64 0, .int .i64 0, .sl (.own false) .exp [], .sl (.own false) .stm [], .sl (.own false) .stm []] [(0, 1, nn 3), (3, 3, tt 3), (6, 1, tt 7)]),
ys 8 2 8 []]
 .ret))
def p9700 : ProcT := pF [0, 1] [] [.tmp 4] (yr [yo 4 false]
 (.seq (yr [zm 6 0,
zc 7 6,
zm 8 1,
zc 9 8,
zt 10 .neq 7 9]
 (yw 10 (yr [yo 4 false]
 .ret) .skip))
 (.seq (yr [yn 5 0]
 (.block 0 (.label 9701)))
 (yr [yo 4 true]
 .ret))))
def p9701 : ProcT := { kind := .loop, ins := [0, 1, 5], bins := [], outs := [4], bouts := [], code := (.seq (yr [zm 11 5,
zm 12 0,
zc 13 12,
zt 14 .lss 11 13]
 (yw 14 .skip (.exit 0)))
 (.seq (.block 1 (.seq (.region true [zm 17 0,
zm 18 5,
yi 19 1 17 18,
zl 20 19,
zm 21 1,
zm 22 5,
yi 23 1 21 22,
zl 24 23,
zt 25 .neq 20 24])
 (yw 25 (yr [yo 4 false]
 .ret) .skip)))
 (rr [zm 15 5,
zb 16 .add 15 1,
zm 5 16]))) }
def p9800 : ProcT := pF [0, 1] [] [.tmp 4] (yr [oo 2 (.box 100 (tt 0)),
oo 3 (.box 101 (tt 1)),
yo 4 false]
 (.seq (yr [zf 6 0 2,
zl 7 6,
zf 8 0 3,
zl 9 8,
zt 10 .neq 7 9,
zm 11 10,
yF 12 1 2 11,
yL 13 12 11,
yF 14 1 3 11,
yL 15 14 11,
og (some 16) (.bin .neq (tt 13) (tt 15)) 11 false [],
zq 17 11 16,
zm 18 17,
yF 19 2 2 18,
yL 20 19 18,
og (some 21) (.len (tt 20)) 18 false [],
yF 22 2 3 18,
yL 23 22 18,
og (some 24) (.len (tt 23)) 18 false [],
og (some 25) (.bin .neq (tt 21) (tt 24)) 18 false [],
zq 26 18 25]
 (yw 26 (yr [yo 4 false]
 .ret) .skip))
 (.seq (yr [yn 5 0]
 (.block 0 (.label 9801)))
 (yr [yo 4 true]
 .ret))))
def p9801 : ProcT := { kind := .loop, ins := [2, 3, 5], bins := [100, 101], outs := [4], bouts := [], code := (.seq (yr [zm 27 5,
zf 28 2 2,
zl 29 28,
zc 30 29,
zt 31 .lss 27 30]
 (yw 31 .skip (.exit 0)))
 (.seq (.block 1 (.seq (.region true [yf 34 2 2 [100],
yd 35 34 [100],
zm 36 5,
yi 37 3 35 36,
yl 38 3 37,
yf 39 2 3 [101],
yd 40 39 [101],
zm 41 5,
yi 42 3 40 41,
yl 43 3 42,
yb 44 9800 0 38 43,
oo 45 (.un .not (tt 44))])
 (yw 45 (yr [yo 4 false]
 .ret) .skip)))
 (rr [zm 32 5,
zb 33 .add 32 1,
zm 5 33]))) }
def p9900 : ProcT := pF [0, 1] [] [.tmp 4] (yr [yo 4 false]
 (.seq (yr [zm 8 0,
zc 9 8,
zm 10 1,
zc 11 10,
zt 12 .neq 9 11]
 (yw 12 (yr [yo 4 false]
 .ret) .skip))
 (.seq (yr [yn 5 0]
 (.block 0 (.label 9901)))
 (yr [yo 4 true]
 .ret))))
def p9901 : ProcT := { kind := .loop, ins := [0, 1, 5], bins := [], outs := [4], bouts := [], code := (.seq (yr [zm 13 5,
zm 14 0,
zc 15 14,
zt 16 .lss 13 15]
 (yw 16 .skip (.exit 0)))
 (.seq (.block 1 (yr [zm 19 0,
zm 20 5,
yi 21 8 19 20,
yl 22 8 21,
oo 6 (.alloc 100 [.int .i64 0, .int .i64 0, .int .i64 0, .int .i64 0, .int .i64 0, .sl (.own false) .exp [], .sl (.own false) .stm [], .sl (.own false) .stm []]),
ys 8 6 22 []]
 (yr [zm 23 1,
zm 24 5,
yi 25 8 23 24,
yl 26 8 25,
oo 7 (.alloc 101 [.int .i64 0, .int .i64 0, .int .i64 0, .int .i64 0, .int .i64 0, .sl (.own false) .exp [], .sl (.own false) .stm [], .sl (.own false) .stm []]),
ys 8 7 26 []]
 (.seq (yr [zf 27 0 6,
zl 28 27,
zf 29 0 7,
zl 30 29,
zt 31 .neq 28 30,
zm 32 31,
yF 33 1 6 32,
yL 34 33 32,
yF 35 1 7 32,
yL 36 35 32,
og (some 37) (.bin .neq (tt 34) (tt 36)) 32 false [],
zq 38 32 37,
zm 39 38,
yF 40 2 6 39,
yL 41 40 39,
yF 42 2 7 39,
yL 43 42 39,
og (some 44) (.bin .neq (tt 41) (tt 43)) 39 false [],
zq 45 39 44,
zm 46 45,
yF 47 3 6 46,
og (some 48) (.load 3 true false (tt 47)) 46 false [],
yF 49 3 7 46,
og (some 50) (.load 3 true false (tt 49)) 46 false [],
og (some 51) (.call 9800 0 [tt 48, tt 50]) 46 false [],
og (some 52) (.un .not (tt 51)) 46 false [],
zq 53 46 52]
 (yw 53 (yr [yo 4 false]
 .ret) .skip))
 (yr [zf 54 6 6,
zl 55 54,
zf 56 6 7,
zl 57 56,
yb 58 9900 0 55 57,
oo 59 (.un .not (tt 58)),
zm 60 59,
yF 61 7 6 60,
yL 62 61 60,
yF 63 7 7 60,
yL 64 63 60,
og (some 65) (.call 9900 0 [tt 62, tt 64]) 60 false [],
og (some 66) (.un .not (tt 65)) 60 false [],
zq 67 60 66]
 (yw 67 (yr [yo 4 false]
 .ret) .skip))))))
 (rr [zm 17 5,
zb 18 .add 17 1,
zm 5 18]))) }
def p11100 : ProcT := pF [0, 1, 2] [] [.tmp 6] (yr [yo 6 false]
 (yr [zm 7 0,
zb 8 .eql 7 0,
zm 9 8,
yM 10 2 9,
yM 11 10 9,
zM 12 0 11,
zn 13 .gtr 12 0 11,
og (some 14) (.pick (tt 11) (tt 13) (.const (.bool false))) 9 false [],
yM 15 14 9,
zM 16 0 15,
zM 17 1 15,
zg 18 .lss 16 17 15,
og (some 19) (.pick (tt 15) (tt 18) (.const (.bool false))) 9 false [],
zq 20 9 19,
zm 6 20]
 .ret))
def p20500 : ProcT := pF [0] [] [.tmp 2] (yr [oo 2 (.mv (.const (.str [])))]
 (.seq (yr [zm 3 0,
oo 4 (.bin .lss (tt 3) (nn (-9223372036854775807)))]
 (yw 4 (yr [oo 2 (.mv (.const (.str ([45, 57, 50, 50, 51, 51, 55, 50, 48, 51, 54, 56, 53, 52, 55, 55, 53, 56, 48, 56]))))]
 .ret) .skip))
 (.seq (yr [zm 5 0,
zb 6 .lss 5 0]
 (yw 6 (yr [zm 7 0,
oo 8 (.un .neg (tt 7)),
ya 9 20500 0 8,
oo 10 (.bin .add (.const (.str [45])) (tt 9)),
zm 2 10]
 .ret) .skip))
 (.seq (yr [zm 11 0,
zb 12 .lss 11 10]
 (yw 12 (yr [zm 13 0,
oo 14 (.bin .add (nn 48) (tt 13)),
oo 15 (.conv (.int .u8) (tt 14)),
oo 16 (.buildS .full .u8 [tt 15]),
oo 17 (.conv .bytesStr (tt 16)),
zm 2 17]
 .ret) .skip))
 (.seq (.region true [zm 18 0,
zb 19 .quo 18 10,
ya 20 20500 0 19,
zm 21 0,
zb 22 .rem 21 10,
oo 23 (.bin .add (nn 48) (tt 22)),
oo 24 (.conv (.int .u8) (tt 23)),
oo 25 (.buildS .full .u8 [tt 24]),
oo 26 (.conv .bytesStr (tt 25)),
zt 27 .add 20 26,
zm 2 27])
 .ret)))))
def p20700 : ProcT := pF [0] [] [.tmp 2] (yr [oo 2 (.mv (.const (.str [])))]
 (.seq (yr [zm 3 0,
ya 4 1700 0 3,
oo 5 (.un .not (tt 4))]
 (yw 5 (yr [oo 2 (.mv (.const (.str [])))]
 .ret) .skip))
 (yr [oo 6 (.buildS .full .str [.const (.str [124]), .const (.str [94]), .const (.str [38]), .const (.str ([61, 61])), .const (.str [60]), .const (.str ([60, 60])), .const (.str ([62, 62])), .const (.str [43]), .const (.str [45]), .const (.str [42]), .const (.str [47]), .const (.str [37])]),
zm 7 0,
zb 8 .sub 7 1,
yi 9 1 6 8,
zl 10 9,
zm 2 10]
 .ret)))
def p22300 : ProcT := pF [0] [0] [.tmp 2] (yr [oo 2 (.mv (.const (.sl (.own false) .int [])))]
 (yr [oo 6 (.buildS (.own true) .int []),
yt 3 6]
 (yr [oo 7 (.buildS .full .int [nn 0, nn 1, nn 1, nn 2, nn 2, nn 3]),
zm 8 0,
oo 9 (.call 200 0 [tt 8, nn 6]),
yi 10 1 7 9,
zl 11 10,
zm 4 11]
 (.seq (yr [yn 5 0]
 (.block 0 (.label 22301)))
 (yr [yt 25 3,
yt 2 25]
 .ret)))))
def p22301 : ProcT := { kind := .loop, ins := [0, 3, 4, 5], bins := [0], outs := [0, 2, 3], bouts := [0], code := (.seq (yr [zm 12 5,
zm 13 4,
zt 14 .lss 12 13]
 (yw 14 .skip (.exit 0)))
 (.seq (.block 1 (rr [yt 17 3,
oo 18 (.buildS .full .int [nn 1, nn 1, nn 2, nn 3, nn 4]),
zm 19 0,
oo 20 (.call 200 0 [tt 19, nn 5]),
yi 21 1 18 20,
zl 22 21,
oo 23 (.buildS .full .int [tt 22]),
oo 24 (.app 1 (.take 17) (tt 23)),
yt 3 24]))
 (rr [zm 15 5,
zb 16 .add 15 1,
zm 5 16]))) }
def p22400 : ProcT := { kind := .fn, ins := [0], bins := [0], res := [.cell 2 2 true], loc := true, code := (yr [oo 2 (.alloc 100 [.sl (.own false) .int [], .tr .stms none 0])]
 (yr [zm 6 0,
ya 7 22300 0 6,
oo 8 (.tr (.lit .stms [])),
oo 9 (.build [.sl (.own false) .int [], .tr .stms none 0] [(0, 1, tt 7), (1, 1, tt 8)]),
oo 3 (.alloc 101 [.sl (.own false) .int [], .tr .stms none 0]),
ys 2 3 9 []]
 (yr [zm 10 0,
oo 11 (.call 200 0 [tt 10, nn 3]),
oo 12 (.bin .add (nn 1) (tt 11)),
zm 4 12]
 (.seq (yr [yn 5 0]
 (.block 0 (.label 22401)))
 (.seq (yr [zm 28 0,
oo 29 (.call 200 0 [tt 28, nn 16]),
zb 30 .eql 29 0]
 (yw 30 (.region true [yf 31 1 3 [101],
yd 32 31 [101],
zm 33 0,
op 34 (.call 8700 0 [tt 33]) [0],
oo 35 (.buildS .full .stm [tt 34]),
oo 36 (.tr (.iadr 1 (tt 32) (nn 0))),
on (.tr (.store 1 (tt 36) (tt 35))) [99]]) .skip))
 (yr [yl 37 2 3,
ys 2 2 37 []]
 .ret)))))) }
def p22401 : ProcT := { kind := .loop, ins := [0, 2, 3, 4, 5], bins := [0, 100, 101, 99], outs := [0, 2, 3], bouts := [0, 100, 101, 99], code := (.seq (yr [zm 13 5,
zm 14 4,
zt 15 .lss 13 14]
 (yw 15 .skip (.exit 0)))
 (.seq (.block 1 (.region true [yf 18 1 3 [101],
yd 19 18 [101],
zm 20 0,
yf 21 0 3 [101],
yd 22 21 [101],
zc 23 22,
op 24 (.call 4700 0 [tt 20, tt 23]) [0],
oo 25 (.buildS .full .stms [tt 24]),
op 26 (.tr (.app 1 (tt 19) (tt 25))) [99],
yf 27 1 3 [101],
ys 1 27 26 [101]]))
 (rr [zm 16 5,
zb 17 .add 16 1,
zm 5 17]))) }
def p22700 : ProcT := pF [0] [] [.tmp 2] (yr [yo 2 false]
 (.seq (yr [zm 5 0,
zc 6 5,
yn 7 0]
 (.block 0 (.label 22701)))
 (yr [zm 18 0,
zc 19 18,
zb 20 .leq 19 3,
zm 2 20]
 .ret)))
def p22701 : ProcT := { kind := .loop, ins := [0, 5, 6, 7], bins := [], outs := [0, 2], bouts := [], code := (yr [zt 8 .lss 7 6]
 (.seq (yw 8 .skip (.exit 0))
 (.seq (.block 1 (yr [yi 9 1 5 7,
zl 10 9,
zm 4 10]
 (yr [zm 11 4,
zb 12 .lss 11 1,
zm 13 12,
yM 14 4 13,
og (some 15) (.bin .gtr (tt 14) (nn 4)) 13 false [],
zq 16 13 15]
 (yw 16 (yr [yo 2 false]
 .ret) .skip))))
 (rr [zb 17 .add 7 1,
zm 7 17])))) }
def p22800 : ProcT := pF [0] [] [.tmp 2] (yr [oo 1 (.box 100 (tt 0)),
yo 2 false]
 (.seq (yr [zf 5 0 1,
zl 6 5,
ya 7 22700 0 6,
oo 8 (.un .not (tt 7)),
zm 9 8,
yF 10 1 1 9,
yL 11 10 9,
og (some 12) (.len (tt 11)) 9 false [],
og (some 13) (.bin .lss (tt 12) (nn 1)) 9 false [],
zq 14 9 13,
zm 15 14,
yF 16 1 1 15,
yL 17 16 15,
og (some 18) (.len (tt 17)) 15 false [],
og (some 19) (.bin .gtr (tt 18) (nn 3)) 15 false [],
zq 20 15 19]
 (yw 20 (yr [yo 2 false]
 .ret) .skip))
 (.seq (yr [zf 21 1 1,
zl 22 21,
zc 23 22,
yn 24 0]
 (.block 0 (.label 22801)))
 (yr [yo 2 true]
 .ret))))
def p22801 : ProcT := { kind := .loop, ins := [1, 22, 23, 24], bins := [100], outs := [2], bouts := [], code := (yr [zt 25 .lss 24 23]
 (.seq (yw 25 .skip (.exit 0))
 (.seq (.block 1 (yr [yi 26 1 22 24,
zl 27 26,
yt 4 27]
 (yr [zm 28 4,
zf 29 0 1,
zl 30 29,
zc 31 30,
yb 32 5400 0 28 31,
oo 33 (.un .not (tt 32))]
 (yw 33 (yr [yo 2 false]
 .ret) .skip))))
 (rr [zb 34 .add 24 1,
zm 24 34])))) }
def p23100 : ProcT := pF [0, 1] [] [.tmp 4] (yr [yo 4 false]
 (.seq (yr [yn 5 0]
 (.block 0 (.label 23101)))
 (yr [yo 4 true]
 .ret)))
def p23101 : ProcT := { kind := .loop, ins := [0, 1, 5], bins := [], outs := [4], bouts := [], code := (.seq (yr [zm 7 5,
zm 8 0,
zc 9 8,
zt 10 .lss 7 9]
 (yw 10 .skip (.exit 0)))
 (.seq (.block 1 (yr [zm 13 0,
zm 14 5,
yi 15 8 13 14,
yl 16 8 15,
oo 6 (.alloc 100 [.int .i64 0, .int .i64 0, .int .i64 0, .int .i64 0, .int .i64 0, .sl (.own false) .exp [], .sl (.own false) .stm [], .sl (.own false) .stm []]),
ys 8 6 16 []]
 (.seq (yr [zf 17 0 6,
zl 18 17,
zb 19 .eql 18 4,
zm 20 19,
yF 21 0 6 20,
yL 22 21 20,
og (some 23) (.bin .eql (tt 22) (nn 5)) 20 false [],
zq 24 20 23,
zm 25 24,
zF 26 2 6 25,
zL 27 26 25,
zM 28 1 25,
zg 29 .geq 27 28 25,
zp 30 25 29]
 (yw 30 (yr [yo 4 false]
 .ret) .skip))
 (yr [zf 31 6 6,
zl 32 31,
zm 33 1,
yb 34 23100 0 32 33,
oo 35 (.un .not (tt 34)),
zm 36 35,
yF 37 7 6 36,
yL 38 37 36,
yM 39 1 36,
og (some 40) (.call 23100 0 [tt 38, tt 39]) 36 false [],
og (some 41) (.un .not (tt 40)) 36 false [],
zq 42 36 41]
 (yw 42 (yr [yo 4 false]
 .ret) .skip)))))
 (rr [zm 11 5,
zb 12 .add 11 1,
zm 5 12]))) }
def p23200 : ProcT := pF [0] [] [.tmp 2] (yr [yo 2 false]
 (.seq (yr [yn 3 0]
 (.block 0 (.label 23201)))
 (yr [zm 16 0,
zc 17 16,
zb 18 .leq 17 3,
zm 2 18]
 .ret)))
def p23201 : ProcT := { kind := .loop, ins := [0, 3], bins := [], outs := [0, 2], bouts := [], code := (.seq (yr [zm 4 3,
zm 5 0,
zc 6 5,
zt 7 .lss 4 6]
 (yw 7 .skip (.exit 0)))
 (.seq (.block 1 (yr [zm 10 0,
zm 11 3,
yi 12 1 10 11,
zl 13 12,
oo 14 (.call 1600 0 [tt 13, nn 1, nn 4]),
oo 15 (.un .not (tt 14))]
 (yw 15 (yr [yo 2 false]
 .ret) .skip)))
 (rr [zm 8 3,
zb 9 .add 8 1,
zm 3 9]))) }
def p23300 : ProcT := pF [0] [] [.tmp 2] (yr [oo 1 (.box 100 (tt 0)),
yo 2 false]
 (.seq (yr [zf 4 0 1,
zl 5 4,
ya 6 23200 0 5,
oo 7 (.un .not (tt 6)),
zm 8 7,
yF 9 1 1 8,
yL 10 9 8,
og (some 11) (.len (tt 10)) 8 false [],
og (some 12) (.call 1600 0 [tt 11, nn 1, nn 3]) 8 false [],
og (some 13) (.un .not (tt 12)) 8 false [],
zq 14 8 13]
 (yw 14 (yr [yo 2 false]
 .ret) .skip))
 (.seq (yr [yn 3 0]
 (.block 0 (.label 23301)))
 (yr [yo 2 true]
 .ret))))
def p23301 : ProcT := { kind := .loop, ins := [1, 3], bins := [100], outs := [2], bouts := [], code := (.seq (yr [zm 15 3,
zf 16 1 1,
zl 17 16,
zc 18 17,
zt 19 .lss 15 18]
 (yw 19 .skip (.exit 0)))
 (.seq (.block 1 (.seq (.region true [yf 22 1 1 [100],
yd 23 22 [100],
zm 24 3,
yi 25 1 23 24,
zl 26 25,
ya 27 6300 0 26,
oo 28 (.un .not (tt 27)),
zm 29 28,
og (some 30) (.fadr 1 (tt 1)) 29 false [100],
og (some 31) (.load 1 false false (tt 30)) 29 false [100],
yM 32 3 29,
og (some 33) (.iadr 1 (tt 31) (tt 32)) 29 false [],
yL 34 33 29,
og (some 35) (.fadr 0 (tt 1)) 29 false [100],
og (some 36) (.load 1 false false (tt 35)) 29 false [100],
og (some 37) (.len (tt 36)) 29 false [],
og (some 38) (.call 23100 0 [tt 34, tt 37]) 29 false [],
og (some 39) (.un .not (tt 38)) 29 false [],
zq 40 29 39])
 (yw 40 (yr [yo 2 false]
 .ret) .skip)))
 (rr [zm 20 3,
zb 21 .add 20 1,
zm 3 21]))) }
def p31800 : ProcT := pF [0] [] [.tmp 2] (yr [yn 2 0]
 (.seq (.block 0 (yr [zm 6 0,
oo 7 (.bin .geq (tt 6) (.const (.int .u8 48))),
zm 8 7,
zM 9 0 8,
zG 10 (.bin .leq (tt 9) (.const (.int .u8 57))) 8,
zp 11 8 10,
zm 5 11]
 (yw 5 (yr [yn 2 1]
 .ret) (yr [zm 13 0,
oo 14 (.bin .geq (tt 13) (.const (.int .u8 97))),
zm 15 14,
zM 16 0 15,
zG 17 (.bin .leq (tt 16) (.const (.int .u8 122))) 15,
zp 18 15 17,
zm 12 18]
 (yw 12 (yr [yn 2 2]
 .ret) (yr [zm 20 0,
oo 21 (.bin .eql (tt 20) (.const (.int .u8 32))),
zm 22 21,
yM 23 0 22,
og (some 24) (.bin .eql (tt 23) (.const (.int .u8 10))) 22 false [],
zq 25 22 24,
zm 19 25]
 (yw 19 (yr [yn 2 3]
 .ret) .skip)))))))
 (yr [oo 3 (.mv (.const (.str ([43, 45, 42, 47, 37, 38, 124, 94, 60, 62, 40, 41, 123, 125, 61, 59]))))]
 (.seq (yr [yn 4 0]
 (.block 1 (.label 31801)))
 (yr [yn 2 0]
 .ret)))))
def p31801 : ProcT := { kind := .loop, ins := [0, 3, 4], bins := [], outs := [2], bouts := [], code := (.seq (yr [zm 26 4,
zm 27 3,
oo 28 (.lenS (tt 27)),
zt 29 .lss 26 28]
 (yw 29 .skip (.exit 1)))
 (.seq (.block 2 (yr [zm 32 3,
zm 33 4,
oo 34 (.idxS (tt 32) (tt 33)),
zm 35 0,
zt 36 .eql 34 35]
 (yw 36 (yr [yn 2 4]
 .ret) .skip)))
 (rr [zm 30 4,
zb 31 .add 30 1,
zm 4 31]))) }
def p31900 : ProcT := pF [0, 1] [] [.tmp 4] (yr [yn 4 0]
 (yr [zm 6 1,
zm 5 6]
 (.seq (.block 0 (.label 31901))
 (yr [zm 24 5,
zm 4 24]
 .ret))))
def p31901 : ProcT := { kind := .loop, ins := [0, 1, 5], bins := [], outs := [4, 5], bouts := [], code := (.seq (.seq (.region true [zm 7 5,
zm 8 0,
oo 9 (.lenS (tt 8)),
zt 10 .lss 7 9,
zm 11 10,
zM 12 0 11,
zM 13 5 11,
zG 14 (.idxS (tt 12) (tt 13)) 11,
zG 15 (.call 31800 0 [tt 14]) 11,
zM 16 0 11,
zM 17 1 11,
zG 18 (.idxS (tt 16) (tt 17)) 11,
zG 19 (.call 31800 0 [tt 18]) 11,
zg 20 .eql 15 19 11,
zp 21 11 20])
 (yw 21 .skip (.exit 0)))
 (.block 1 (rr [zm 22 5,
zb 23 .add 22 1,
zm 5 23]))) }
def p32000 : ProcT := pF [0] [] [.tmp 2] (yr [yo 2 false]
 (yr [zm 3 0,
oo 4 (.bin .eql (tt 3) (.const (.str ([60, 60])))),
zm 5 4,
yM 6 0 5,
og (some 7) (.bin .eql (tt 6) (.const (.str ([62, 62])))) 5 false [],
zq 8 5 7,
zm 9 8,
yM 10 0 9,
og (some 11) (.bin .eql (tt 10) (.const (.str ([61, 61])))) 9 false [],
zq 12 9 11,
zm 2 12]
 .ret))
def p32100 : ProcT := pF [0, 1] [] [.tmp 4] (yr [yn 4 0]
 (yr [zm 6 0,
zm 7 1,
oo 8 (.idxS (tt 6) (tt 7)),
ya 9 31800 0 8,
zm 5 9]
 (.seq (yr [zm 10 5,
zb 11 .eql 10 1,
zm 12 11,
yM 13 5 12,
og (some 14) (.bin .eql (tt 13) (nn 2)) 12 false [],
zq 15 12 14]
 (yw 15 (yr [zm 16 0,
zm 17 1,
yb 18 31900 0 16 17,
zm 4 18]
 .ret) .skip))
 (.seq (yr [zm 19 5,
zb 20 .neq 19 4]
 (yw 20 (yr [oo 4 (.mv (nn (-1)))]
 .ret) .skip))
 (.seq (yr [zm 21 1,
zb 22 .add 21 2,
zm 23 0,
oo 24 (.lenS (tt 23)),
zt 25 .leq 22 24,
zm 26 25,
zM 27 0 26,
zM 28 1 26,
zM 29 1 26,
zn 30 .add 29 2 26,
zG 31 (.slcS (tt 27) (some (tt 28)) (some (tt 30))) 26,
zG 32 (.call 32000 0 [tt 31]) 26,
zp 33 26 32]
 (yw 33 (yr [zm 34 1,
zb 35 .add 34 2,
zm 4 35]
 .ret) .skip))
 (.seq (yr [zm 36 0,
zm 37 1,
oo 38 (.idxS (tt 36) (tt 37)),
oo 39 (.bin .eql (tt 38) (.const (.int .u8 62)))]
 (yw 39 (yr [oo 4 (.mv (nn (-1)))]
 .ret) .skip))
 (yr [zm 40 1,
zb 41 .add 40 1,
zm 4 41]
 .ret)))))))
def p32200 : ProcT := pF [0] [] [.tmp 2, .tmp 3] (yr [oo 2 (.mv (.const (.sl (.own false) .str []))),
yo 3 false]
 (yr [oo 7 (.buildS (.own true) .str []),
yt 4 7]
 (.seq (yr [zm 8 0,
oo 9 (.lenS (tt 8)),
zb 10 .gtr 9 20000]
 (yw 10 (yr [zm 11 4,
yt 2 11,
yo 3 false]
 .ret) .skip))
 (yr [yn 5 0]
 (.seq (.block 0 (.label 32201))
 (yr [zm 37 4,
yt 2 37,
yo 3 true]
 .ret))))))
def p32201 : ProcT := { kind := .loop, ins := [0, 4, 5], bins := [], outs := [2, 3, 4], bouts := [], code := (.seq (yr [zm 12 5,
zm 13 0,
oo 14 (.lenS (tt 13)),
zt 15 .lss 12 14]
 (yw 15 .skip (.exit 0)))
 (.block 1 (.seq (yr [zm 16 0,
zm 17 5,
oo 18 (.idxS (tt 16) (tt 17)),
ya 19 31800 0 18,
zb 20 .eql 19 3]
 (yw 20 (yr [zm 21 5,
zb 22 .add 21 1,
zm 5 22]
 (.exit 1)) .skip))
 (yr [zm 23 0,
zm 24 5,
yb 25 32100 0 23 24,
zm 6 25]
 (.seq (yr [zm 26 6,
zb 27 .lss 26 0]
 (yw 27 (yr [oo 28 (.buildS (.own false) .str []),
yt 2 28,
yo 3 false]
 .ret) .skip))
 (yr [yt 29 4,
zm 30 0,
zm 31 5,
zm 32 6,
oo 33 (.slcS (tt 30) (some (tt 31)) (some (tt 32))),
oo 34 (.buildS .full .str [tt 33]),
oo 35 (.app 1 (.take 29) (tt 34)),
yt 4 35]
 (rr [zm 36 6,
zm 5 36]))))))) }
def p32300 : ProcT := pF [0] [] [.tmp 2] (yr [yn 2 0]
 (.seq (yr [zm 5 0,
oo 6 (.lenS (tt 5)),
oo 7 (.call 1600 0 [tt 6, nn 1, nn 5]),
oo 8 (.un .not (tt 7))]
 (yw 8 (yr [oo 2 (.mv (nn (-1)))]
 .ret) .skip))
 (yr [yn 3 0]
 (.seq (yr [yn 4 0]
 (.block 0 (.label 32301)))
 (yr [zm 33 3,
zm 2 33]
 .ret)))))
def p32301 : ProcT := { kind := .loop, ins := [0, 3, 4], bins := [], outs := [2, 3], bouts := [], code := (.seq (yr [zm 9 4,
zm 10 0,
oo 11 (.lenS (tt 10)),
zt 12 .lss 9 11]
 (yw 12 .skip (.exit 0)))
 (.seq (.block 1 (.seq (yr [zm 15 0,
zm 16 4,
oo 17 (.idxS (tt 15) (tt 16)),
oo 18 (.bin .lss (tt 17) (.const (.int .u8 48))),
zm 19 18,
yM 20 0 19,
yM 21 4 19,
og (some 22) (.idxS (tt 20) (tt 21)) 19 false [],
og (some 23) (.bin .gtr (tt 22) (.const (.int .u8 57))) 19 false [],
zq 24 19 23]
 (yw 24 (yr [oo 2 (.mv (nn (-1)))]
 .ret) .skip))
 (rr [zm 25 3,
oo 26 (.bin .mul (nn 10) (tt 25)),
zm 27 0,
zm 28 4,
oo 29 (.idxS (tt 27) (tt 28)),
oo 30 (.bin .sub (tt 29) (.const (.int .u8 48))),
oo 31 (.conv (.int .i64) (tt 30)),
zt 32 .add 26 31,
zm 3 32])))
 (rr [zm 13 4,
zb 14 .add 13 1,
zm 4 14]))) }
def p32400 : ProcT := pF [0] [] [.tmp 2] (yr [oo 2 (.mv (.const (.str [])))]
 (yr [zm 3 0,
oo 4 (.bin .add (nn 97) (tt 3)),
oo 5 (.conv (.int .u8) (tt 4)),
oo 6 (.buildS .full .u8 [tt 5]),
oo 7 (.conv .bytesStr (tt 6)),
zm 2 7]
 .ret))
def p32500 : ProcT := pF [0] [] [.tmp 2] (yr [yn 2 0]
 (.seq (yr [yn 3 0]
 (.block 0 (.label 32501)))
 (yr [oo 2 (.mv (nn (-1)))]
 .ret)))
def p32501 : ProcT := { kind := .loop, ins := [0, 3], bins := [], outs := [2], bouts := [], code := (.seq (yr [zm 4 3,
zb 5 .lss 4 4]
 (yw 5 .skip (.exit 0)))
 (.seq (.block 1 (yr [zm 8 0,
zm 9 3,
ya 10 32400 0 9,
zt 11 .eql 8 10]
 (yw 11 (yr [zm 12 3,
zm 2 12]
 .ret) .skip)))
 (rr [zm 6 3,
zb 7 .add 6 1,
zm 3 7]))) }
def p32600 : ProcT := pF [0, 1] [] [.cell 4 3 true, .tmp 5] (yr [oo 4 (.alloc 100 [.int .i64 0, .int .i64 0, .sl (.own false) .exp []]),
yn 5 0]
 (.seq (yr [zm 8 1,
zm 9 0,
zc 10 9,
zt 11 .geq 8 10]
 (yw 11 (yr [oo 12 (.build [.int .i64 0, .int .i64 0, .sl (.own false) .exp []] []),
ys 3 4 12 [],
oo 5 (.mv (nn (-1)))]
 .ret) .skip))
 (.seq (yr [zm 13 0,
zm 14 1,
yi 15 1 13 14,
zl 16 15,
oo 17 (.bin .eql (tt 16) (.const (.str [40])))]
 (yw 17 (yr [zm 19 0,
zm 20 1,
zb 21 .add 20 1,
oo 22 (.call 32900 0 [tt 19, tt 21, nn 1]),
zm 18 22,
ye 23 0 18,
ye 24 1 18,
oo 6 (.alloc 101 [.int .i64 0, .int .i64 0, .sl (.own false) .exp []]),
ys 3 6 23 [],
zm 7 24]
 (.seq (yr [zm 25 7,
zb 26 .lss 25 0,
zm 27 26,
yM 28 7 27,
yM 29 0 27,
og (some 30) (.len (tt 29)) 27 false [],
og (some 31) (.bin .geq (tt 28) (tt 30)) 27 false [],
zq 32 27 31,
zm 33 32,
yM 34 0 33,
yM 35 7 33,
og (some 36) (.iadr 1 (tt 34) (tt 35)) 33 false [],
yL 37 36 33,
og (some 38) (.bin .neq (tt 37) (.const (.str [41]))) 33 false [],
zq 39 33 38]
 (yw 39 (yr [oo 40 (.build [.int .i64 0, .int .i64 0, .sl (.own false) .exp []] []),
ys 3 4 40 [],
oo 5 (.mv (nn (-1)))]
 .ret) .skip))
 (yr [yl 41 3 6,
zm 42 7,
zb 43 .add 42 1,
ys 3 4 41 [],
zm 5 43]
 .ret))) .skip))
 (.seq (yr [zm 44 0,
zm 45 1,
yi 46 1 44 45,
zl 47 46,
ya 48 32300 0 47,
zb 49 .geq 48 0]
 (yw 49 (yr [zm 50 0,
zm 51 1,
yi 52 1 50 51,
zl 53 52,
ya 54 32300 0 53,
oo 55 (.call 300 0 [nn 0, tt 54]),
zm 56 1,
zb 57 .add 56 1,
ys 3 4 55 [],
zm 5 57]
 .ret) .skip))
 (.seq (yr [zm 58 0,
zm 59 1,
yi 60 1 58 59,
zl 61 60,
ya 62 32500 0 61,
zb 63 .geq 62 0]
 (yw 63 (yr [zm 64 0,
zm 65 1,
yi 66 1 64 65,
zl 67 66,
ya 68 32500 0 67,
oo 69 (.call 300 0 [nn 13, tt 68]),
zm 70 1,
zb 71 .add 70 1,
ys 3 4 69 [],
zm 5 71]
 .ret) .skip))
 (yr [oo 72 (.build [.int .i64 0, .int .i64 0, .sl (.own false) .exp []] []),
ys 3 4 72 [],
oo 5 (.mv (nn (-1)))]
 .ret))))))
def p32700 : ProcT := pF [0] [] [.tmp 2] (yr [yn 2 0]
 (.seq (yr [zm 3 0,
ya 4 1700 0 3,
oo 5 (.un .not (tt 4))]
 (yw 5 (yr [yn 2 0]
 .ret) .skip))
 (yr [oo 6 (.buildS .full .int [nn 1, nn 2, nn 3, nn 4, nn 5, nn 6, nn 6, nn 7, nn 7, nn 8, nn 8, nn 8]),
zm 7 0,
zb 8 .sub 7 1,
yi 9 1 6 8,
zl 10 9,
zm 2 10]
 .ret)))
def p32800 : ProcT := pF [0] [] [.tmp 2] (yr [yn 2 0]
 (.seq (yr [yn 3 1]
 (.block 0 (.label 32801)))
 (yr [yn 2 0]
 .ret)))
def p32801 : ProcT := { kind := .loop, ins := [0, 3], bins := [], outs := [2], bouts := [], code := (.seq (yr [zm 4 3,
zb 5 .leq 4 12]
 (yw 5 .skip (.exit 0)))
 (.seq (.block 1 (yr [zm 8 0,
zm 9 3,
ya 10 20700 0 9,
zt 11 .eql 8 10]
 (yw 11 (yr [zm 12 3,
zm 2 12]
 .ret) .skip)))
 (rr [zm 6 3,
zb 7 .add 6 1,
zm 3 7]))) }
def p32900 : ProcT := pF [0, 1, 2] [] [.cell 6 3 true, .tmp 7] (yr [oo 6 (.alloc 100 [.int .i64 0, .int .i64 0, .sl (.own false) .exp []]),
yn 7 0]
 (.seq (yr [zm 13 2,
zb 14 .gtr 13 8]
 (yw 14 (yr [zm 15 0,
zm 16 1,
yb 17 32600 0 15 16,
ye 18 0 17,
ye 19 1 17,
ys 3 6 18 [],
zm 7 19]
 .ret) .skip))
 (yr [zm 21 0,
zm 22 1,
zm 23 2,
zb 24 .add 23 1,
oo 25 (.call 32900 0 [tt 21, tt 22, tt 24]),
zm 20 25,
ye 26 0 20,
ye 27 1 20,
oo 8 (.alloc 101 [.int .i64 0, .int .i64 0, .sl (.own false) .exp []]),
ys 3 8 26 [],
zm 9 27]
 (.seq (.block 0 (.label 32901))
 (yr [yl 65 3 8,
zm 66 9,
ys 3 6 65 [],
zm 7 66]
 .ret)))))
def p32901 : ProcT := { kind := .loop, ins := [0, 2, 6, 8, 9], bins := [100, 101], outs := [6, 7, 8, 9], bouts := [100, 101], code := (.seq (yr [zm 28 9,
zb 29 .geq 28 0,
zm 30 29,
zM 31 9 30,
zM 32 0 30,
zG 33 (.len (tt 32)) 30,
zg 34 .lss 31 33 30,
zp 35 30 34,
zm 36 35,
zM 37 0 36,
zM 38 9 36,
yI 39 1 37 38 36,
zL 40 39 36,
zG 41 (.call 32800 0 [tt 40]) 36,
zG 42 (.call 32700 0 [tt 41]) 36,
zM 43 2 36,
zg 44 .eql 42 43 36,
zp 45 36 44]
 (yw 45 .skip (.exit 0)))
 (.block 1 (yr [zm 46 0,
zm 47 9,
yi 48 1 46 47,
zl 49 48,
ya 50 32800 0 49,
zm 10 50]
 (yr [zm 52 0,
zm 53 9,
zb 54 .add 53 1,
zm 55 2,
zb 56 .add 55 1,
oo 57 (.call 32900 0 [tt 52, tt 54, tt 56]),
zm 51 57,
ye 58 0 51,
ye 59 1 51,
oo 11 (.alloc 102 [.int .i64 0, .int .i64 0, .sl (.own false) .exp []]),
ys 3 11 58 [],
zm 12 59]
 (yr [zm 60 10,
yl 61 3 8,
yl 62 3 11,
oo 63 (.call 500 0 [tt 60, tt 61, tt 62]),
ys 3 8 63 []]
 (rr [zm 64 12,
zm 9 64])))))) }
def p33100 : ProcT := pF [0] [] [.tmp 2] (yr [yo 2 false]
 (yr [zm 3 0,
oo 4 (.bin .geq (tt 3) (.const (.int .u8 48))),
zm 5 4,
zM 6 0 5,
zG 7 (.bin .leq (tt 6) (.const (.int .u8 57))) 5,
zp 8 5 7,
zm 2 8]
 .ret))
def p33200 : ProcT := pF [0] [] [.tmp 2] (yr [yo 2 false]
 (yr [zm 3 0,
oo 4 (.bin .geq (tt 3) (.const (.int .u8 97))),
zm 5 4,
zM 6 0 5,
zG 7 (.bin .leq (tt 6) (.const (.int .u8 122))) 5,
zp 8 5 7,
zm 2 8]
 .ret))
def p33300 : ProcT := pF [0] [] [.tmp 2] (yr [yn 2 0]
 (.seq (yr [oo 8 (.buildS .full .fn [.func 33100, .func 33200]),
zc 9 8,
yn 10 0]
 (.block 0 (.label 33301)))
 (.seq (yr [oo 31 (.buildS .full .str [.const (.str ([61, 61])), .const (.str ([60, 60])), .const (.str ([62, 62]))]),
zc 32 31,
yn 33 0]
 (.block 4 (.label 33303)))
 (.seq (yr [zm 41 0,
oo 42 (.bin .neq (tt 41) (.const (.str []))),
zm 43 42,
zM 44 0 43,
zG 45 (.idxS (tt 44) (nn 0)) 43,
zG 46 (.call 37600 0 [.const (.str ([124, 94, 38, 60, 43, 45, 42, 47, 37, 40, 41, 123, 125, 61, 59])), tt 45]) 43,
zn 47 .geq 46 0 43,
zp 48 43 47]
 (yw 48 (yr [yn 2 1]
 .ret) .skip))
 (yr [yn 2 0]
 .ret)))))
def p33301 : ProcT := { kind := .loop, ins := [0, 8, 9, 10], bins := [], outs := [0, 2], bouts := [], code := (yr [zt 11 .lss 10 9]
 (.seq (yw 11 .skip (.exit 0))
 (.seq (.block 1 (yr [yi 12 1 8 10,
zl 13 12,
zm 4 13]
 (yr [yn 5 0]
 (.seq (.block 2 (.label 33302))
 (yr [zm 27 5,
zb 28 .gtr 27 0]
 (yw 28 (yr [zm 29 5,
zm 2 29]
 .ret) .skip))))))
 (rr [zb 30 .add 10 1,
zm 10 30])))) }
def p33302 : ProcT := { kind := .loop, ins := [0, 4, 5, 8, 9, 10], bins := [], outs := [0, 2, 5, 8, 9, 10], bouts := [], code := (.seq (yr [zm 14 5,
zm 15 0,
oo 16 (.lenS (tt 15)),
zt 17 .lss 14 16,
zm 18 17,
zM 19 4 18,
zM 20 0 18,
zM 21 5 18,
zG 22 (.idxS (tt 20) (tt 21)) 18,
zG 23 (.callv (tt 19) [tt 22]) 18,
zp 24 18 23]
 (yw 24 .skip (.exit 2)))
 (.block 3 (rr [zm 25 5,
zb 26 .add 25 1,
zm 5 26]))) }
def p33303 : ProcT := { kind := .loop, ins := [0, 31, 32, 33], bins := [], outs := [0, 2], bouts := [], code := (yr [zt 34 .lss 33 32]
 (.seq (yw 34 .skip (.exit 4))
 (.seq (.block 5 (yr [yi 35 1 31 33,
zl 36 35,
zm 7 36]
 (yr [zm 37 0,
zm 38 7,
yb 39 37500 0 37 38]
 (yw 39 (yr [yn 2 2]
 .ret) .skip))))
 (rr [zb 40 .add 33 1,
zm 33 40])))) }
def p33400 : ProcT := pF [0] [] [.tmp 2, .tmp 3] (yr [oo 2 (.mv (.const (.sl (.own false) .str []))),
yo 3 false]
 (.seq (yr [zm 7 0,
oo 8 (.lenS (tt 7)),
zb 9 .gtr 8 20000]
 (yw 9 (yr [oo 2 (.mv (.const (.sl (.own false) .str []))),
yo 3 false]
 .ret) .skip))
 (yr [oo 4 (.mv (.const (.sl (.own false) .str [])))]
 (.seq (yr [yn 5 0]
 (.block 0 (.label 33401)))
 (yr [zm 44 4,
yt 2 44,
yo 3 true]
 .ret)))))
def p33401 : ProcT := { kind := .loop, ins := [0, 4, 5], bins := [], outs := [2, 3, 4], bouts := [], code := (.seq (yr [zm 10 5,
zm 11 0,
oo 12 (.lenS (tt 11)),
zt 13 .lss 10 12]
 (yw 13 .skip (.exit 0)))
 (.block 1 (.seq (yr [zm 14 0,
zm 15 5,
oo 16 (.idxS (tt 14) (tt 15)),
oo 17 (.bin .eql (tt 16) (.const (.int .u8 32))),
zm 18 17,
yM 19 0 18,
yM 20 5 18,
og (some 21) (.idxS (tt 19) (tt 20)) 18 false [],
og (some 22) (.bin .eql (tt 21) (.const (.int .u8 10))) 18 false [],
zq 23 18 22]
 (yw 23 (yr [zm 24 5,
zb 25 .add 24 1,
zm 5 25]
 (.exit 1)) .skip))
 (yr [zm 26 0,
zm 27 5,
oo 28 (.slcS (tt 26) (some (tt 27)) none),
ya 29 33300 0 28,
zm 6 29]
 (.seq (yr [zm 30 6,
zb 31 .eql 30 0]
 (yw 31 (yr [oo 2 (.mv (.const (.sl (.own false) .str []))),
yo 3 false]
 .ret) .skip))
 (yr [yt 32 4,
zm 33 0,
zm 34 5,
zm 35 5,
zm 36 6,
zt 37 .add 35 36,
oo 38 (.slcS (tt 33) (some (tt 34)) (some (tt 37))),
oo 39 (.buildS .full .str [tt 38]),
oo 40 (.app 1 (.take 32) (tt 39)),
yt 4 40]
 (rr [zm 41 5,
zm 42 6,
zt 43 .add 41 42,
zm 5 43]))))))) }
def p33500 : ProcT := pF [0] [0] [.tmp 2] (yr [oo 2 (.mv (.const (.str [])))]
 (.seq (.seq (.region true [zm 3 0,
yx 4 3 [0],
yf 5 1 4 [0],
yd 6 5 [0],
zm 7 0,
yx 8 7 [0],
yf 9 0 8 [0],
yd 10 9 [0],
zc 11 10,
zt 12 .lss 6 11,
zm 13 12,
zM 14 0 13,
og (some 15) (.nilck (tt 14)) 13 true [0],
og (some 16) (.fadr 2 (tt 15)) 13 true [0],
og (some 17) (.load 1 false false (tt 16)) 13 true [0],
zG 18 (.un .not (tt 17)) 13,
zp 19 13 18])
 (yw 19 (.seq (.region true [zm 20 0,
yx 21 20 [0],
yf 22 0 21 [0],
yd 23 22 [0],
zm 24 0,
yx 25 24 [0],
yf 26 1 25 [0],
yd 27 26 [0],
yi 28 1 23 27,
zl 29 28,
zm 2 29])
 .ret) .skip))
 (yr [oo 2 (.mv (.const (.str [])))]
 .ret)))
def p33600 : ProcT := pF [0, 1] [0] [.tmp 4] (yr [yo 4 false]
 (.seq (yr [zm 5 0,
ya 6 33500 0 5,
zm 7 1,
zt 8 .neq 6 7]
 (yw 8 (yr [yo 4 false]
 .ret) .skip))
 (yr [zm 9 0,
yc 10 9,
zf 11 1 10,
zl 12 11,
zb 13 .add 12 1,
yc 14 9,
zf 15 1 14,
ys 1 15 13 []]
 (yr [yo 4 true]
 .ret))))
def p33700 : ProcT := pF [0, 1] [0] [] (yr [zm 4 0,
zm 5 1,
yb 6 33600 0 4 5,
oo 7 (.un .not (tt 6))]
 (yw 7 (rr [zm 8 0,
yc 9 8,
zf 10 2 9,
on (.store 1 (tt 10) (.const (.bool true))) []]) .skip))
def p33800 : ProcT := pF [0] [0] [.tmp 2] (yr [oo 2 (.mv (.const (.str [])))]
 (yr [zm 4 0,
ya 5 33500 0 4,
zm 3 5]
 (.seq (yr [zm 6 3,
oo 7 (.bin .eql (tt 6) (.const (.str [])))]
 (yw 7 (rr [zm 8 0,
yc 9 8,
zf 10 2 9,
on (.store 1 (tt 10) (.const (.bool true))) []]) .skip))
 (yr [zm 11 0,
yc 12 11,
zf 13 1 12,
zl 14 13,
zb 15 .add 14 1,
yc 16 11,
zf 17 1 16,
ys 1 17 15 []]
 (yr [zm 18 3,
zm 2 18]
 .ret)))))
def p33900 : ProcT := pF [0] [0] [.tmp 2] (yr [yn 2 0]
 (yr [zm 6 0,
ya 7 33800 0 6,
zm 3 7]
 (.seq (yr [zm 8 3,
oo 9 (.bin .eql (tt 8) (.const (.str []))),
zm 10 9,
yM 11 3 10,
og (some 12) (.lenS (tt 11)) 10 false [],
og (some 13) (.bin .gtr (tt 12) (nn 5)) 10 false [],
zq 14 10 13,
zm 15 14,
yM 16 3 15,
og (some 17) (.idxS (tt 16) (nn 0)) 15 false [],
og (some 18) (.call 33100 0 [tt 17]) 15 false [],
og (some 19) (.un .not (tt 18)) 15 false [],
zq 20 15 19]
 (yw 20 (yr [zm 21 0,
yc 22 21,
zf 23 2 22,
on (.store 1 (tt 23) (.const (.bool true))) []]
 (yr [yn 2 0]
 .ret)) .skip))
 (yr [zm 25 3,
ya 26 37700 0 25,
zm 24 26,
ye 27 0 24,
ye 28 1 24,
zm 4 27,
zm 5 28]
 (yr [zm 29 4,
zm 2 29]
 .ret)))))
def p34000 : ProcT := pF [0] [0] [.tmp 2] (yr [yn 2 0]
 (yr [zm 4 0,
ya 5 33800 0 4,
zm 3 5]
 (.seq (yr [zm 6 3,
oo 7 (.lenS (tt 6)),
zb 8 .neq 7 1,
zm 9 8,
yM 10 3 9,
og (some 11) (.idxS (tt 10) (nn 0)) 9 false [],
og (some 12) (.bin .lss (tt 11) (.const (.int .u8 97))) 9 false [],
zq 13 9 12,
zm 14 13,
yM 15 3 14,
og (some 16) (.idxS (tt 15) (nn 0)) 14 false [],
og (some 17) (.bin .geq (tt 16) (.const (.int .u8 101))) 14 false [],
zq 18 14 17]
 (yw 18 (yr [zm 19 0,
yc 20 19,
zf 21 2 20,
on (.store 1 (tt 21) (.const (.bool true))) []]
 (yr [yn 2 0]
 .ret)) .skip))
 (yr [zm 22 3,
oo 23 (.idxS (tt 22) (nn 0)),
oo 24 (.bin .sub (tt 23) (.const (.int .u8 97))),
oo 25 (.conv (.int .i64) (tt 24)),
zm 2 25]
 .ret))))
def p34100 : ProcT := pF [0] [0] [.cell 2 3 true] (yr [oo 2 (.alloc 100 [.int .i64 0, .int .i64 0, .sl (.own false) .exp []])]
 (yr [zm 5 0,
ya 6 33500 0 5,
zm 3 6]
 (.seq (.block 0 (yr [zm 8 3,
oo 9 (.bin .eql (tt 8) (.const (.str [40]))),
zm 7 9]
 (yw 7 (yr [zm 10 0,
yc 11 10,
zf 12 1 11,
zl 13 12,
zb 14 .add 13 1,
yc 15 10,
zf 16 1 15,
ys 1 16 14 []]
 (yr [zm 17 0,
oo 18 (.call 34400 0 [tt 17, nn 1]),
oo 4 (.alloc 101 [.int .i64 0, .int .i64 0, .sl (.own false) .exp []]),
ys 3 4 18 []]
 (yr [zm 19 0,
oo 20 (.call 33700 0 [tt 19, .const (.str [41])])]
 (yr [yl 21 3 4,
ys 3 2 21 []]
 .ret)))) (yr [zm 23 3,
oo 24 (.bin .neq (tt 23) (.const (.str []))),
zm 25 24,
zM 26 3 25,
zG 27 (.idxS (tt 26) (nn 0)) 25,
zG 28 (.call 33100 0 [tt 27]) 25,
zp 29 25 28,
zm 22 29]
 (yw 22 (yr [zm 30 0,
ya 31 33900 0 30,
oo 32 (.build [.int .i64 0, .int .i64 0, .sl (.own false) .exp []] [(0, 1, nn 0), (1, 1, tt 31)]),
ys 3 2 32 []]
 .ret) .skip)))))
 (yr [zm 33 0,
ya 34 34000 0 33,
oo 35 (.build [.int .i64 0, .int .i64 0, .sl (.own false) .exp []] [(0, 1, nn 13), (1, 1, tt 34)]),
ys 3 2 35 []]
 .ret))))
def p34200 : ProcT := pF [0] [] [.tmp 2] (yr [yn 2 0]
 (.seq (yr [oo 5 (.load 12 true false (.glob 0)),
yn 6 0]
 (.block 0 (.label 34201)))
 (yr [yn 2 0]
 .ret)))
def p34201 : ProcT := { kind := .loop, ins := [0, 5, 6], bins := [], outs := [2], bouts := [], code := (yr [zb 7 .lss 6 12]
 (.seq (yw 7 .skip (.exit 0))
 (.seq (.block 1 (yr [zm 8 6,
oo 9 (.idxA 1 12 1 false (tt 5) (tt 6)),
zm 3 8,
zm 4 9]
 (yr [zm 10 4,
zm 11 0,
zt 12 .eql 10 11]
 (yw 12 (yr [zm 13 3,
oo 14 (.bin .add (nn 1) (tt 13)),
zm 2 14]
 .ret) .skip))))
 (rr [zb 15 .add 6 1,
zm 6 15])))) }
def p34300 : ProcT := pF [0] [] [.tmp 2] (yr [yn 2 0]
 (.seq (yr [zm 3 0]
 (.block 0 (yr [zb 5 .eql 3 1,
zm 4 5]
 (yw 4 (yr [yn 2 1]
 .ret) (yr [zb 7 .eql 3 2,
zm 6 7]
 (yw 6 (yr [yn 2 2]
 .ret) (yr [zb 9 .eql 3 3,
zm 8 9]
 (yw 8 (yr [yn 2 3]
 .ret) (yr [zb 11 .eql 3 4,
zm 10 11]
 (yw 10 (yr [yn 2 4]
 .ret) (yr [zb 13 .eql 3 5,
zm 12 13]
 (yw 12 (yr [yn 2 5]
 .ret) (.seq (yr [zb 15 .eql 3 6,
zm 14 15]
 (yw 14 .skip (rr [zb 16 .eql 3 7,
zm 14 16])))
 (yw 14 (yr [yn 2 6]
 .ret) (.seq (yr [zb 18 .eql 3 8,
zm 17 18]
 (yw 17 .skip (rr [zb 19 .eql 3 9,
zm 17 19])))
 (yw 17 (yr [yn 2 7]
 .ret) (.seq (yr [zb 21 .eql 3 10,
zm 20 21]
 (yw 20 .skip (yr [zb 22 .eql 3 11,
zm 20 22]
 (yw 20 .skip (rr [zb 23 .eql 3 12,
zm 20 23])))))
 (yw 20 (yr [yn 2 8]
 .ret) .skip))))))))))))))))))
 (yr [yn 2 0]
 .ret)))
def p34400 : ProcT := pF [0, 1] [0] [.cell 4 3 true] (yr [oo 4 (.alloc 100 [.int .i64 0, .int .i64 0, .sl (.own false) .exp []])]
 (yr [zm 7 0,
ya 8 34100 0 7,
oo 5 (.alloc 101 [.int .i64 0, .int .i64 0, .sl (.own false) .exp []]),
ys 3 5 8 []]
 (.seq (.block 0 (.label 34401))
 (yr [yl 41 3 5,
ys 3 4 41 []]
 .ret))))
def p34401 : ProcT := { kind := .loop, ins := [0, 1, 4, 5], bins := [0, 100, 101], outs := [0, 4, 5], bouts := [0, 100, 101], code := (.seq (yr [zm 9 0,
yc 10 9,
zf 11 2 10,
zl 12 11,
oo 13 (.un .not (tt 12))]
 (yw 13 .skip (.exit 0)))
 (.block 1 (yr [zm 14 0,
ya 15 33500 0 14,
ya 16 34200 0 15,
zm 6 16]
 (.seq (yr [zm 17 6,
zb 18 .eql 17 0,
zm 19 18,
yM 20 6 19,
og (some 21) (.call 34300 0 [tt 20]) 19 false [],
yM 22 1 19,
og (some 23) (.bin .lss (tt 21) (tt 22)) 19 false [],
zq 24 19 23]
 (yw 24 (.exit 0) .skip))
 (yr [zm 25 0,
yc 26 25,
zf 27 1 26,
zl 28 27,
zb 29 .add 28 1,
yc 30 25,
zf 31 1 30,
ys 1 31 29 []]
 (.region true [zm 32 6,
op 33 (.load 3 true false (tt 5)) [101],
zm 34 0,
zm 35 6,
ya 36 34300 0 35,
zb 37 .add 36 1,
op 38 (.call 34400 0 [tt 34, tt 37]) [0],
oo 39 (.buildS .full .exp [tt 33, tt 38]),
oo 40 (.build [.int .i64 0, .int .i64 0, .sl (.own false) .exp []] [(0, 1, tt 32), (2, 1, tt 39)]),
ys 3 5 40 [101]])))))) }
def p34900 : ProcT := pF [0] [] [.tmp 2] (yr [yo 2 false]
 (yr [zm 3 0,
oo 4 (.bin .neq (tt 3) (.const (.str []))),
zm 5 4,
zM 6 0 5,
zG 7 (.call 32100 0 [tt 6, nn 0]) 5,
zM 8 0 5,
zG 9 (.lenS (tt 8)) 5,
zg 10 .eql 7 9 5,
zp 11 5 10,
zm 2 11]
 .ret))
def p35000 : ProcT := pF [0] [] [.tmp 2] (yr [oo 2 (.mv (.const (.str [])))]
 (yr [oo 3 (.mv (.const (.str [])))]
 (.seq (yr [yn 4 0]
 (.block 0 (.label 35001)))
 (yr [zm 27 3,
zm 2 27]
 .ret))))
def p35001 : ProcT := { kind := .loop, ins := [0, 3, 4], bins := [], outs := [2, 3], bouts := [], code := (.seq (yr [zm 5 4,
zm 6 0,
zc 7 6,
zt 8 .lss 5 7]
 (yw 8 .skip (.exit 0)))
 (.seq (.block 1 (.seq (yr [zm 11 0,
zm 12 4,
yi 13 1 11 12,
zl 14 13,
ya 15 34900 0 14,
oo 16 (.un .not (tt 15))]
 (yw 16 (yr [oo 2 (.mv (.const (.str [])))]
 .ret) .skip))
 (.seq (yr [zm 17 4,
zb 18 .gtr 17 0]
 (yw 18 (rr [zm 19 3,
oo 20 (.bin .add (tt 19) (.const (.str [32]))),
zm 3 20]) .skip))
 (rr [zm 21 3,
zm 22 0,
zm 23 4,
yi 24 1 22 23,
zl 25 24,
zt 26 .add 21 25,
zm 3 26]))))
 (rr [zm 9 4,
zb 10 .add 9 1,
zm 4 10]))) }
def p35100 : ProcT := pF [0, 1] [] [.tmp 4] (yr [oo 4 (.mv (.const (.sl (.own false) .str [])))]
 (.seq (yr [zm 6 1,
oo 7 (.un .not (tt 6))]
 (yw 7 (yr [yt 8 0,
yt 4 8]
 .ret) .skip))
 (yr [oo 9 (.buildS (.own true) .str [.const (.str [40])]),
zm 10 0,
oo 11 (.app 1 (.take 9) (tt 10)),
yt 5 11]
 (yr [yt 12 5,
oo 13 (.buildS .full .str [.const (.str [41])]),
oo 14 (.app 1 (.take 12) (tt 13)),
yt 4 14]
 .ret))))
def p35200 : ProcT := pF [0] [] [.tmp 2] (yr [oo 1 (.box 100 (tt 0)),
yn 2 0]
 (.seq (yr [zf 3 2 1,
zl 4 3,
zc 5 4,
zb 6 .eql 5 0]
 (yw 6 (yr [yn 2 9]
 .ret) .skip))
 (yr [zf 7 0 1,
zl 8 7,
ya 9 32700 0 8,
zm 2 9]
 .ret)))
def p35300 : ProcT := pF [0] [] [.tmp 2] (yr [oo 1 (.box 100 (tt 0)),
oo 2 (.mv (.const (.sl (.own false) .str [])))]
 (.seq (yr [zf 5 0 1,
zl 6 5,
zb 7 .eql 6 0]
 (yw 7 (yr [zf 8 1 1,
zl 9 8,
ya 10 20500 0 9,
oo 11 (.buildS (.own true) .str [tt 10]),
yt 2 11]
 .ret) .skip))
 (.seq (yr [zf 12 0 1,
zl 13 12,
zb 14 .eql 13 13]
 (yw 14 (yr [zf 15 1 1,
zl 16 15,
ya 17 32400 0 16,
oo 18 (.buildS (.own true) .str [tt 17]),
yt 2 18]
 .ret) .skip))
 (yr [zf 19 0 1,
zl 20 19,
ya 21 32700 0 20,
zm 3 21]
 (.seq (.region true [yf 22 2 1 [100],
yd 23 22 [100],
oo 24 (.iadr 3 (tt 23) (nn 0)),
yl 25 3 24,
ya 26 35300 0 25,
yf 27 2 1 [100],
yd 28 27 [100],
oo 29 (.iadr 3 (tt 28) (nn 0)),
yl 30 3 29,
ya 31 35200 0 30,
zm 32 3,
zt 33 .lss 31 32,
oo 34 (.call 35100 0 [.take 26, tt 33]),
yt 4 34])
 (yr [yt 35 4,
zf 36 0 1,
zl 37 36,
ya 38 20700 0 37,
oo 39 (.buildS .full .str [tt 38]),
oo 40 (.app 1 (.take 35) (tt 39)),
yt 4 40]
 (.seq (.region true [yt 41 4,
yf 42 2 1 [100],
yd 43 42 [100],
oo 44 (.iadr 3 (tt 43) (nn 1)),
yl 45 3 44,
ya 46 35300 0 45,
yf 47 2 1 [100],
yd 48 47 [100],
oo 49 (.iadr 3 (tt 48) (nn 1)),
yl 50 3 49,
ya 51 35200 0 50,
zm 52 3,
zt 53 .leq 51 52,
oo 54 (.call 35100 0 [.take 46, tt 53]),
oo 55 (.app 1 (.take 41) (tt 54)),
yt 2 55])
 .ret)))))))
def p35500 : ProcT := pF [0, 1] [0] [.tmp 4] (yr [oo 4 (.mv (.const (.str [])))]
 (yr [zm 5 1,
zm 6 0,
zm 7 1,
zc 8 7,
yb 9 200 0 6 8,
yi 10 1 5 9,
zl 11 10,
zm 4 11]
 .ret))
def p36200 : ProcT := pF [0] [] [.tmp 2] (yr [yo 2 false]
 (yr [zm 3 0,
oo 4 (.bin .neq (tt 3) (.const (.str []))),
zm 5 4,
zM 6 0 5,
zG 7 (.call 33300 0 [tt 6]) 5,
zM 8 0 5,
zG 9 (.lenS (tt 8)) 5,
zg 10 .eql 7 9 5,
zp 11 5 10,
zm 2 11]
 .ret))
def p36300 : ProcT := pF [0] [] [.tmp 2] (yr [oo 2 (.mv (.const (.str [])))]
 (.seq (yr [zm 5 0,
zc 6 5,
yn 7 0]
 (.block 0 (.label 36301)))
 (yr [zm 15 0,
oo 16 (.call 37800 0 [tt 15, .const (.str [32])]),
zm 2 16]
 .ret)))
def p36301 : ProcT := { kind := .loop, ins := [0, 5, 6, 7], bins := [], outs := [0, 2], bouts := [], code := (yr [zt 8 .lss 7 6]
 (.seq (yw 8 .skip (.exit 0))
 (.seq (.block 1 (yr [yi 9 1 5 7,
zl 10 9,
zm 4 10]
 (yr [zm 11 4,
ya 12 36200 0 11,
oo 13 (.un .not (tt 12))]
 (yw 13 (yr [oo 2 (.mv (.const (.str [])))]
 .ret) .skip))))
 (rr [zb 14 .add 7 1,
zm 7 14])))) }
def p44300 : ProcT := pF [0] [] [.cell 2 2 true, .tmp 3] (yr [oo 2 (.alloc 100 [.sl (.own false) .int [], .sl (.own false) .stms []]),
yo 3 false]
 (yr [oo 11 (.build [.sl (.own false) .int [], .sl (.own false) .stms []] []),
oo 4 (.alloc 101 [.sl (.own false) .int [], .sl (.own false) .stms []]),
ys 2 4 11 []]
 (yr [zm 13 0,
ya 14 32200 0 13,
zm 12 14,
ye 15 0 12,
ye 16 1 12,
yt 5 15,
zm 6 16]
 (.seq (yr [zm 17 6,
oo 18 (.un .not (tt 17))]
 (yw 18 (yr [yl 19 2 4,
ys 2 2 19 [],
yo 3 false]
 .ret) .skip))
 (yr [oo 20 (.buildS (.own false) .int []),
oo 21 (.buildS (.own false) .stms []),
oo 22 (.build [.sl (.own false) .int [], .sl (.own false) .stms []] [(0, 1, tt 20), (1, 1, tt 21)]),
oo 7 (.alloc 102 [.sl (.own false) .int [], .sl (.own false) .stms []]),
ys 2 7 22 []]
 (yr [yn 8 0]
 (.seq (.block 0 (.label 44301))
 (.seq (.block 2 (.label 44302))
 (.seq (yr [zm 67 8,
zm 68 5,
zc 69 68,
zt 70 .neq 67 69,
zm 71 70,
og (some 72) (.load 2 true false (tt 7)) 71 false [],
og (some 73) (.call 23300 0 [tt 72]) 71 false [],
og (some 74) (.un .not (tt 73)) 71 false [],
zq 75 71 74]
 (yw 75 (yr [yl 76 2 4,
ys 2 2 76 [],
yo 3 false]
 .ret) .skip))
 (yr [yl 77 2 7,
ys 2 2 77 [],
yo 3 true]
 .ret))))))))))
def p44301 : ProcT := { kind := .loop, ins := [2, 4, 5, 7, 8], bins := [100, 101, 102], outs := [2, 3, 4, 5, 7, 8], bouts := [100, 101, 102], code := (.seq (yr [zm 23 5,
zm 24 8,
oo 25 (.call 45200 0 [tt 23, tt 24, .const (.str ([98, 111, 120]))]),
zm 26 25,
zM 27 5 26,
zM 28 8 26,
zn 29 .add 28 1 26,
zG 30 (.call 45300 0 [tt 27, tt 29]) 26,
zn 31 .geq 30 0 26,
zp 32 26 31,
zm 33 32,
zM 34 5 33,
zM 35 8 33,
zn 36 .add 35 2 33,
zG 37 (.call 45200 0 [tt 34, tt 36, .const (.str [59])]) 33,
zp 38 33 37]
 (yw 38 .skip (.exit 0)))
 (.block 1 (.seq (.region true [yf 39 0 7 [102],
op 40 (.load 1 false true (tt 39)) [102],
zm 41 5,
zm 42 8,
zb 43 .add 42 1,
yb 44 45300 0 41 43,
oo 45 (.buildS .full .int [tt 44]),
oo 46 (.app 1 (.take 40) (tt 45)),
yf 47 0 7 [102],
on (.store 1 (tt 47) (.take 46)) [102]])
 (rr [zm 48 8,
zb 49 .add 48 3,
zm 8 49])))) }
def p44302 : ProcT := { kind := .loop, ins := [2, 4, 5, 7, 8], bins := [100, 101, 102], outs := [2, 3, 4, 5, 7, 8], bouts := [100, 101, 102], code := (.seq (yr [zm 50 5,
zm 51 8,
oo 52 (.call 45200 0 [tt 50, tt 51, .const (.str ([116, 97, 115, 107]))])]
 (yw 52 .skip (.exit 2)))
 (.block 3 (yr [zm 54 5,
zm 55 8,
zb 56 .add 55 1,
yb 57 45400 0 54 56,
zm 53 57,
ye 58 0 53,
ye 59 1 53,
yt 9 58,
zm 10 59]
 (yr [zf 60 1 7,
oo 61 (.load 1 false true (tt 60)),
zm 62 9,
oo 63 (.buildS .full .stms [tt 62]),
oo 64 (.app 1 (.take 61) (tt 63)),
zf 65 1 7,
on (.store 1 (tt 65) (.take 64)) []]
 (rr [zm 66 10,
zm 8 66]))))) }
def p44400 : ProcT := pF [0] [] [.cell 2 2 true, .tmp 3] (yr [oo 2 (.alloc 100 [.sl (.own false) .int [], .sl (.own false) .stms []]),
yo 3 false]
 (yr [zm 9 0,
ya 10 33400 0 9,
zm 8 10,
ye 11 0 8,
ye 12 1 8,
yt 4 11,
zm 5 12]
 (.seq (yr [zm 13 5,
oo 14 (.un .not (tt 13))]
 (yw 14 (yr [oo 15 (.build [.sl (.own false) .int [], .sl (.own false) .stms []] []),
ys 2 2 15 [],
yo 3 false]
 .ret) .skip))
 (yr [zm 16 4,
oo 17 (.build [.sl (.own false) .str [], .int .i64 0, .bool false] [(0, 1, tt 16)]),
oo 6 (.alloc 101 [.sl (.own false) .str [], .int .i64 0, .bool false]),
ys 3 6 17 []]
 (yr [oo 7 (.alloc 102 [.sl (.own false) .int [], .sl (.own false) .stms []])]
 (.seq (.block 0 (.label 44401))
 (.seq (.block 2 (.label 44402))
 (.seq (yr [zf 33 2 6,
zl 34 33,
zm 35 34,
yF 36 1 6 35,
yL 37 36 35,
yM 38 4 35,
og (some 39) (.len (tt 38)) 35 false [],
og (some 40) (.bin .neq (tt 37) (tt 39)) 35 false [],
zq 41 35 40,
zm 42 41,
og (some 43) (.load 2 true false (tt 7)) 42 false [],
og (some 44) (.call 22800 0 [tt 43]) 42 false [],
og (some 45) (.un .not (tt 44)) 42 false [],
zq 46 42 45]
 (yw 46 (yr [oo 47 (.build [.sl (.own false) .int [], .sl (.own false) .stms []] []),
ys 2 2 47 [],
yo 3 false]
 .ret) .skip))
 (yr [yl 48 2 7,
ys 2 2 48 [],
yo 3 true]
 .ret)))))))))
def p44401 : ProcT := { kind := .loop, ins := [2, 4, 6, 7], bins := [100, 101, 102], outs := [2, 3, 4, 6, 7], bouts := [100, 101, 102], code := (.seq (yr [oo 18 (.call 33600 0 [tt 6, .const (.str ([98, 111, 120]))])]
 (yw 18 .skip (.exit 0)))
 (.block 1 (.seq (.region true [yf 19 0 7 [102],
op 20 (.load 1 false true (tt 19)) [102],
op 21 (.call 33900 0 [tt 6]) [101],
oo 22 (.buildS .full .int [tt 21]),
oo 23 (.app 1 (.take 20) (tt 22)),
yf 24 0 7 [102],
on (.store 1 (tt 24) (.take 23)) [102]])
 (rr [oo 25 (.call 33700 0 [tt 6, .const (.str [59])])])))) }
def p44402 : ProcT := { kind := .loop, ins := [2, 4, 6, 7], bins := [100, 101, 102], outs := [2, 3, 4, 6, 7], bouts := [100, 101, 102], code := (.seq (yr [oo 26 (.call 33600 0 [tt 6, .const (.str ([116, 97, 115, 107]))])]
 (yw 26 .skip (.exit 2)))
 (.block 3 (.region true [yf 27 1 7 [102],
op 28 (.load 1 false true (tt 27)) [102],
op 29 (.call 45500 0 [tt 6]) [101],
oo 30 (.buildS .full .stms [tt 29]),
oo 31 (.app 1 (.take 28) (tt 30)),
yf 32 1 7 [102],
on (.store 1 (tt 32) (.take 31)) [102]]))) }
def p44900 : ProcT := pF [0] [] [.tmp 2] (yr [oo 1 (.box 100 (tt 0)),
oo 2 (.mv (.const (.str [])))]
 (.seq (yr [yl 6 2 1,
ya 7 23300 0 6,
oo 8 (.un .not (tt 7))]
 (yw 8 (yr [oo 2 (.mv (.const (.str [])))]
 .ret) .skip))
 (yr [oo 9 (.buildS (.own true) .str []),
yt 3 9]
 (.seq (yr [yn 4 0]
 (.block 0 (.label 44901)))
 (.seq (yr [yn 5 0]
 (.block 2 (.label 44902)))
 (yr [zm 44 3,
ya 45 35000 0 44,
zm 2 45]
 .ret))))))
def p44901 : ProcT := { kind := .loop, ins := [1, 3, 4], bins := [100], outs := [1, 2, 3], bouts := [100], code := (.seq (yr [zm 10 4,
zf 11 0 1,
zl 12 11,
zc 13 12,
zt 14 .lss 10 13]
 (yw 14 .skip (.exit 0)))
 (.seq (.block 1 (rr [yt 17 3,
zf 18 0 1,
zl 19 18,
zm 20 4,
yi 21 1 19 20,
zl 22 21,
ya 23 20500 0 22,
oo 24 (.buildS .full .str [.const (.str ([98, 111, 120])), tt 23, .const (.str [59])]),
oo 25 (.app 1 (.take 17) (tt 24)),
yt 3 25]))
 (rr [zm 15 4,
zb 16 .add 15 1,
zm 4 16]))) }
def p44902 : ProcT := { kind := .loop, ins := [1, 3, 5], bins := [100], outs := [2, 3], bouts := [], code := (.seq (yr [zm 26 5,
zf 27 1 1,
zl 28 27,
zc 29 28,
zt 30 .lss 26 29]
 (yw 30 .skip (.exit 2)))
 (.seq (.block 3 (yr [yt 33 3,
oo 34 (.buildS .full .str [.const (.str ([116, 97, 115, 107]))]),
oo 35 (.app 1 (.take 33) (tt 34)),
yt 3 35]
 (rr [yt 36 3,
zf 37 1 1,
zl 38 37,
zm 39 5,
yi 40 1 38 39,
zl 41 40,
ya 42 45900 0 41,
oo 43 (.app 1 (.take 36) (tt 42)),
yt 3 43])))
 (rr [zm 31 5,
zb 32 .add 31 1,
zm 5 32]))) }
def p45000 : ProcT := pF [0, 1] [] [.tmp 4] (yr [oo 2 (.box 100 (tt 0)),
oo 3 (.box 101 (tt 1)),
yo 4 false]
 (.seq (yr [zf 6 0 2,
zl 7 6,
zf 8 0 3,
zl 9 8,
yb 10 9700 0 7 9,
oo 11 (.un .not (tt 10)),
zm 12 11,
yF 13 1 2 12,
yL 14 13 12,
og (some 15) (.len (tt 14)) 12 false [],
yF 16 1 3 12,
yL 17 16 12,
og (some 18) (.len (tt 17)) 12 false [],
og (some 19) (.bin .neq (tt 15) (tt 18)) 12 false [],
zq 20 12 19]
 (yw 20 (yr [yo 4 false]
 .ret) .skip))
 (.seq (yr [yn 5 0]
 (.block 0 (.label 45001)))
 (yr [yo 4 true]
 .ret))))
def p45001 : ProcT := { kind := .loop, ins := [2, 3, 5], bins := [100, 101], outs := [4], bouts := [], code := (.seq (yr [zm 21 5,
zf 22 1 2,
zl 23 22,
zc 24 23,
zt 25 .lss 21 24]
 (yw 25 .skip (.exit 0)))
 (.seq (.block 1 (.seq (.region true [yf 28 1 2 [100],
yd 29 28 [100],
zm 30 5,
yi 31 1 29 30,
zl 32 31,
yf 33 1 3 [101],
yd 34 33 [101],
zm 35 5,
yi 36 1 34 35,
zl 37 36,
yb 38 9900 0 32 37,
oo 39 (.un .not (tt 38))])
 (yw 39 (yr [yo 4 false]
 .ret) .skip)))
 (rr [zm 26 5,
zb 27 .add 26 1,
zm 5 27]))) }
def p45100 : ProcT := pF [0] [] [.tmp 2] (yr [oo 2 (.mv (.const (.str [])))]
 (yr [zm 5 0,
ya 6 100 100 5,
zm 3 6]
 (yr [zm 7 3,
ya 8 22400 0 7,
ya 9 44900 0 8,
zm 4 9]
 (.seq (yr [zm 10 3,
oo 11 (.call 200 0 [tt 10, nn 12])]
 (.block 0 (yr [zb 13 .eql 11 0,
zm 12 13]
 (yw 12 (yr [zm 14 4,
zm 15 3,
oo 16 (.buildS .full .str [.const (.str ([32, 116, 97, 115, 107, 32, 123, 32, 125])), .const (.str ([32, 125])), .const (.str [59]), .const (.str ([32, 116, 97, 115, 107, 32, 123])), .const (.str [10]), .const (.str ([32, 98, 111, 120, 32, 49, 32, 59]))]),
yb 17 35500 0 15 16,
zt 18 .add 14 17,
zm 2 18]
 .ret) (yr [zb 20 .eql 11 1,
zm 19 20]
 (yw 19 (yr [zm 21 4,
zm 22 3,
zm 23 4,
oo 24 (.lenS (tt 23)),
zb 25 .add 24 1,
yb 26 200 0 22 25,
oo 27 (.slcS (tt 21) none (some (tt 26))),
zm 2 27]
 .ret) (yr [zb 29 .eql 11 2,
zm 28 29]
 (yw 28 (yr [zm 30 3,
oo 31 (.buildS .full .str [.const (.str ([116, 97, 115, 107, 123, 125])), .const (.str ([116, 97, 115, 107, 123, 121, 105, 101, 108, 100, 59, 121, 105, 101, 108, 100, 59, 125])), .const (.str ([116, 97, 115, 107, 32, 123, 32, 115, 101, 110, 100, 32, 48, 32, 40, 97, 41, 32, 59, 32, 114, 101, 99, 118, 32, 48, 32, 98, 32, 59, 32, 125])), .const (.str ([116, 97, 115, 107, 32, 123, 32, 105, 102, 32, 97, 32, 123, 32, 125, 32, 101, 108, 115, 101, 32, 123, 32, 125, 32, 125])), .const (.str ([116, 97, 115, 107, 32, 123, 32, 112, 114, 105, 110, 116, 32, 51])), .const (.str ([116, 97, 115, 107, 32, 123, 32, 114, 101, 99, 118, 32, 49, 32, 97, 32, 59, 32, 125])), .const (.str ([116, 97, 115, 107, 32, 123, 32, 101, 32, 61, 32, 49, 32, 59, 32, 125]))]),
yb 32 35500 0 30 31,
oo 33 (.bin .add (.const (.str ([98, 111, 120, 32, 48, 50, 32, 59, 10, 10]))) (tt 32)),
zm 2 33]
 .ret) .skip))))))))
 (yr [zm 34 4,
zm 2 34]
 .ret)))))
def p45200 : ProcT := pF [0, 1, 2] [] [.tmp 6] (yr [yo 6 false]
 (yr [zm 7 1,
zb 8 .geq 7 0,
zm 9 8,
zM 10 1 9,
zM 11 0 9,
zG 12 (.len (tt 11)) 9,
zg 13 .lss 10 12 9,
zp 14 9 13,
zm 15 14,
zM 16 0 15,
zM 17 1 15,
yI 18 1 16 17 15,
zL 19 18 15,
zM 20 2 15,
zg 21 .eql 19 20 15,
zp 22 15 21,
zm 6 22]
 .ret))
def p45300 : ProcT := pF [0, 1] [] [.tmp 4] (yr [yn 4 0]
 (.seq (yr [zm 5 1,
zm 6 0,
zc 7 6,
zt 8 .geq 5 7]
 (yw 8 (yr [oo 4 (.mv (nn (-1)))]
 .ret) .skip))
 (yr [zm 9 0,
zm 10 1,
yi 11 1 9 10,
zl 12 11,
ya 13 32300 0 12,
zm 4 13]
 .ret)))
def p45400 : ProcT := pF [0, 1] [] [.tmp 4, .tmp 5] (yr [oo 4 (.mv (.const (.sl (.own false) .stm []))),
yn 5 0]
 (yr [oo 9 (.buildS (.own true) .stm []),
yt 6 9]
 (.seq (yr [zm 10 0,
zm 11 1,
oo 12 (.call 45200 0 [tt 10, tt 11, .const (.str [123])]),
oo 13 (.un .not (tt 12))]
 (yw 13 (yr [zm 14 6,
yt 4 14,
oo 5 (.mv (nn (-1)))]
 .ret) .skip))
 (yr [zm 15 1,
zb 16 .add 15 1,
zm 1 16]
 (.seq (.block 0 (.label 45401))
 (.seq (yr [zm 43 0,
zm 44 1,
oo 45 (.call 45200 0 [tt 43, tt 44, .const (.str [125])]),
oo 46 (.un .not (tt 45))]
 (yw 46 (yr [oo 47 (.buildS (.own false) .stm []),
yt 4 47,
oo 5 (.mv (nn (-1)))]
 .ret) .skip))
 (yr [zm 48 6,
zm 49 1,
zb 50 .add 49 1,
yt 4 48,
zm 5 50]
 .ret)))))))
def p45401 : ProcT := { kind := .loop, ins := [0, 1, 6], bins := [], outs := [0, 1, 4, 5, 6], bouts := [], code := (.seq (yr [zm 17 1,
zb 18 .geq 17 0,
zm 19 18,
zM 20 1 19,
zM 21 0 19,
zG 22 (.len (tt 21)) 19,
zg 23 .lss 20 22 19,
zp 24 19 23,
zm 25 24,
zM 26 0 25,
zM 27 1 25,
yI 28 1 26 27 25,
zL 29 28 25,
zG 30 (.bin .neq (tt 29) (.const (.str [125]))) 25,
zp 31 25 30]
 (yw 31 .skip (.exit 0)))
 (.block 1 (yr [zm 33 0,
zm 34 1,
yb 35 46000 0 33 34,
zm 32 35,
ye 36 0 32,
ye 37 1 32,
oo 7 (.alloc 100 [.int .i64 0, .int .i64 0, .int .i64 0, .int .i64 0, .int .i64 0, .sl (.own false) .exp [], .sl (.own false) .stm [], .sl (.own false) .stm []]),
ys 8 7 36 [],
zm 8 37]
 (yr [yt 38 6,
yl 39 8 7,
oo 40 (.buildS .full .stm [tt 39]),
oo 41 (.app 8 (.take 38) (tt 40)),
yt 6 41]
 (rr [zm 42 8,
zm 1 42]))))) }
def p45500 : ProcT := pF [0] [0] [.tmp 2] (yr [oo 2 (.mv (.const (.sl (.own false) .stm [])))]
 (yr [oo 3 (.mv (.const (.sl (.own false) .stm [])))]
 (yr [zm 4 0,
oo 5 (.call 33700 0 [tt 4, .const (.str [123])])]
 (.seq (.block 0 (.label 45501))
 (yr [yt 21 3,
yt 2 21]
 .ret)))))
def p45501 : ProcT := { kind := .loop, ins := [0, 3], bins := [0], outs := [0, 2, 3], bouts := [0], code := (.seq (yr [zm 6 0,
yc 7 6,
zf 8 2 7,
zl 9 8,
oo 10 (.un .not (tt 9)),
zm 11 10,
zM 12 0 11,
zG 13 (.call 33600 0 [tt 12, .const (.str [125])]) 11,
zG 14 (.un .not (tt 13)) 11,
zp 15 11 14]
 (yw 15 .skip (.exit 0)))
 (.block 1 (rr [yt 16 3,
zm 17 0,
ya 18 46100 0 17,
oo 19 (.buildS .full .stm [tt 18]),
oo 20 (.app 8 (.take 16) (tt 19)),
yt 3 20]))) }
def p45900 : ProcT := pF [0] [] [.tmp 2] (yr [oo 2 (.mv (.const (.sl (.own false) .str [])))]
 (yr [oo 5 (.buildS (.own true) .str [.const (.str [123])]),
yt 3 5]
 (.seq (yr [yn 4 0]
 (.block 0 (.label 45901)))
 (yr [yt 19 3,
oo 20 (.buildS .full .str [.const (.str [125])]),
oo 21 (.app 1 (.take 19) (tt 20)),
yt 2 21]
 .ret))))
def p45901 : ProcT := { kind := .loop, ins := [0, 3, 4], bins := [], outs := [2, 3], bouts := [], code := (.seq (yr [zm 6 4,
zm 7 0,
zc 8 7,
zt 9 .lss 6 8]
 (yw 9 .skip (.exit 0)))
 (.seq (.block 1 (rr [yt 12 3,
zm 13 0,
zm 14 4,
yi 15 8 13 14,
yl 16 8 15,
ya 17 46400 0 16,
oo 18 (.app 1 (.take 12) (tt 17)),
yt 3 18]))
 (rr [zm 10 4,
zb 11 .add 10 1,
zm 4 11]))) }
def p46000 : ProcT := pF [0, 1] [] [.cell 4 8 true, .tmp 5] (yr [oo 4 (.alloc 100 [.int .i64 0, .int .i64 0, .int .i64 0, .int .i64 0, .int .i64 0, .sl (.own false) .exp [], .sl (.own false) .stm [], .sl (.own false) .stm []]),
yn 5 0]
 (yr [oo 13 (.build [.int .i64 0, .int .i64 0, .int .i64 0, .int .i64 0, .int .i64 0, .sl (.own false) .exp [], .sl (.own false) .stm [], .sl (.own false) .stm []] []),
oo 6 (.alloc 101 [.int .i64 0, .int .i64 0, .int .i64 0, .int .i64 0, .int .i64 0, .sl (.own false) .exp [], .sl (.own false) .stm [], .sl (.own false) .stm []]),
ys 8 6 13 []]
 (.seq (.block 0 (yr [zm 15 0,
zm 16 1,
oo 17 (.call 45200 0 [tt 15, tt 16, .const (.str ([105, 102]))]),
zm 14 17]
 (yw 14 (yr [zm 18 0,
zm 19 1,
zb 20 .add 19 1,
oo 21 (.call 46500 0 [tt 18, tt 20, nn 2]),
ye 22 0 21,
ye 23 1 21,
ys 8 4 22 [],
zm 5 23]
 .ret) (yr [zm 25 0,
zm 26 1,
oo 27 (.call 45200 0 [tt 25, tt 26, .const (.str ([119, 104, 105, 108, 101]))]),
zm 24 27]
 (yw 24 (yr [zm 28 0,
zm 29 1,
zb 30 .add 29 1,
oo 31 (.call 46500 0 [tt 28, tt 30, nn 3]),
ye 32 0 31,
ye 33 1 31,
ys 8 4 32 [],
zm 5 33]
 .ret) (yr [zm 35 0,
zm 36 1,
oo 37 (.call 45200 0 [tt 35, tt 36, .const (.str ([121, 105, 101, 108, 100]))]),
zm 38 37,
zM 39 0 38,
zM 40 1 38,
zn 41 .add 40 1 38,
zG 42 (.call 45200 0 [tt 39, tt 41, .const (.str [59])]) 38,
zp 43 38 42,
zm 34 43]
 (yw 34 (yr [oo 44 (.build [.int .i64 0, .int .i64 0, .int .i64 0, .int .i64 0, .int .i64 0, .sl (.own false) .exp [], .sl (.own false) .stm [], .sl (.own false) .stm []] [(0, 1, nn 6)]),
zm 45 1,
zb 46 .add 45 2,
ys 8 4 44 [],
zm 5 46]
 .ret) (yr [zm 48 0,
zm 49 1,
oo 50 (.call 45200 0 [tt 48, tt 49, .const (.str ([112, 114, 105, 110, 116]))]),
zm 47 50]
 (yw 47 (yr [zm 52 0,
zm 53 1,
zb 54 .add 53 1,
yb 55 46600 0 52 54,
zm 51 55,
ye 56 0 51,
ye 57 1 51,
oo 7 (.alloc 102 [.int .i64 0, .int .i64 0, .sl (.own false) .exp []]),
ys 3 7 56 [],
zm 8 57]
 (yr [yl 58 3 7,
oo 59 (.build [.int .i64 0, .int .i64 0, .int .i64 0, .int .i64 0, .int .i64 0, .sl (.own false) .exp [], .sl (.own false) .stm [], .sl (.own false) .stm []] [(0, 1, nn 7), (3, 3, tt 58)]),
zm 60 8,
ys 8 4 59 [],
zm 5 60]
 .ret)) (yr [zm 62 0,
zm 63 1,
oo 64 (.call 45200 0 [tt 62, tt 63, .const (.str ([115, 101, 110, 100]))]),
zm 65 64,
zM 66 0 65,
zM 67 1 65,
zn 68 .add 67 1 65,
zG 69 (.call 45300 0 [tt 66, tt 68]) 65,
zn 70 .geq 69 0 65,
zp 71 65 70,
zm 61 71]
 (yw 61 (yr [zm 73 0,
zm 74 1,
zb 75 .add 74 2,
yb 76 46600 0 73 75,
zm 72 76,
ye 77 0 72,
ye 78 1 72,
oo 9 (.alloc 103 [.int .i64 0, .int .i64 0, .sl (.own false) .exp []]),
ys 3 9 77 [],
zm 10 78]
 (.seq (.region true [zm 79 0,
zm 80 1,
zb 81 .add 80 1,
yb 82 45300 0 79 81,
op 83 (.load 3 true false (tt 9)) [103],
oo 84 (.build [.int .i64 0, .int .i64 0, .int .i64 0, .int .i64 0, .int .i64 0, .sl (.own false) .exp [], .sl (.own false) .stm [], .sl (.own false) .stm []] [(0, 1, nn 4), (2, 1, tt 82), (3, 3, tt 83)]),
zm 85 10,
ys 8 4 84 [100],
zm 5 85])
 .ret)) (yr [zm 87 0,
zm 88 1,
oo 89 (.call 45200 0 [tt 87, tt 88, .const (.str ([114, 101, 99, 118]))]),
zm 90 89,
zM 91 0 90,
zM 92 1 90,
zn 93 .add 92 1 90,
zG 94 (.call 45300 0 [tt 91, tt 93]) 90,
zn 95 .geq 94 0 90,
zp 96 90 95,
zm 97 96,
zM 98 0 97,
zM 99 1 97,
zn 100 .add 99 3 97,
zG 101 (.call 45200 0 [tt 98, tt 100, .const (.str [59])]) 97,
zp 102 97 101,
zm 86 102]
 (yw 86 (.seq (yr [zm 103 0,
zm 104 1,
zb 105 .add 104 2,
yi 106 1 103 105,
zl 107 106,
ya 108 32500 0 107,
zb 109 .lss 108 0]
 (yw 109 (yr [yl 110 8 6,
ys 8 4 110 [],
oo 5 (.mv (nn (-1)))]
 .ret) .skip))
 (.seq (.region true [zm 111 0,
zm 112 1,
zb 113 .add 112 1,
yb 114 45300 0 111 113,
zm 115 0,
zm 116 1,
zb 117 .add 116 2,
yi 118 1 115 117,
zl 119 118,
ya 120 32500 0 119,
oo 121 (.build [.int .i64 0, .int .i64 0, .int .i64 0, .int .i64 0, .int .i64 0, .sl (.own false) .exp [], .sl (.own false) .stm [], .sl (.own false) .stm []] [(0, 1, nn 5), (2, 1, tt 114), (1, 1, tt 120)]),
zm 122 1,
zb 123 .add 122 4,
ys 8 4 121 [100],
zm 5 123])
 .ret)) (yr [zm 125 1,
zm 126 0,
zc 127 126,
zt 128 .lss 125 127,
zm 129 128,
zM 130 0 129,
zM 131 1 129,
yI 132 1 130 131 129,
zL 133 132 129,
zG 134 (.call 32500 0 [tt 133]) 129,
zn 135 .geq 134 0 129,
zp 136 129 135,
zm 137 136,
zM 138 0 137,
zM 139 1 137,
zn 140 .add 139 1 137,
zG 141 (.call 45200 0 [tt 138, tt 140, .const (.str [61])]) 137,
zp 142 137 141,
zm 124 142]
 (yw 124 (yr [zm 144 0,
zm 145 1,
zb 146 .add 145 2,
yb 147 46600 0 144 146,
zm 143 147,
ye 148 0 143,
ye 149 1 143,
oo 11 (.alloc 104 [.int .i64 0, .int .i64 0, .sl (.own false) .exp []]),
ys 3 11 148 [],
zm 12 149]
 (.seq (.region true [zm 150 0,
zm 151 1,
yi 152 1 150 151,
zl 153 152,
ya 154 32500 0 153,
op 155 (.load 3 true false (tt 11)) [104],
oo 156 (.build [.int .i64 0, .int .i64 0, .int .i64 0, .int .i64 0, .int .i64 0, .sl (.own false) .exp [], .sl (.own false) .stm [], .sl (.own false) .stm []] [(0, 1, nn 1), (1, 1, tt 154), (3, 3, tt 155)]),
zm 157 12,
ys 8 4 156 [100],
zm 5 157])
 .ret)) .skip)))))))))))))))
 (yr [yl 158 8 6,
ys 8 4 158 [],
oo 5 (.mv (nn (-1)))]
 .ret))))
def p46100 : ProcT := pF [0] [0] [.cell 2 8 true] (yr [oo 2 (.alloc 100 [.int .i64 0, .int .i64 0, .int .i64 0, .int .i64 0, .int .i64 0, .sl (.own false) .exp [], .sl (.own false) .stm [], .sl (.own false) .stm []])]
 (yr [oo 3 (.alloc 101 [.int .i64 0, .int .i64 0, .int .i64 0, .int .i64 0, .int .i64 0, .sl (.own false) .exp [], .sl (.own false) .stm [], .sl (.own false) .stm []])]
 (.seq (.block 0 (yr [zm 13 0,
oo 14 (.call 33600 0 [tt 13, .const (.str ([105, 102]))]),
zm 12 14]
 (yw 12 (yr [zm 15 0,
oo 16 (.call 34400 0 [tt 15, nn 1]),
oo 17 (.build [.int .i64 0, .int .i64 0, .int .i64 0, .int .i64 0, .int .i64 0, .sl (.own false) .exp [], .sl (.own false) .stm [], .sl (.own false) .stm []] [(0, 1, nn 2), (3, 3, tt 16)]),
ys 8 3 17 []]
 (yr [zm 18 0,
ya 19 45500 0 18,
zf 20 6 3,
on (.store 1 (tt 20) (.take 19)) []]
 (.seq (yr [zm 21 0,
oo 22 (.call 33600 0 [tt 21, .const (.str ([101, 108, 115, 101]))])]
 (yw 22 (rr [zm 23 0,
ya 24 45500 0 23,
zf 25 7 3,
on (.store 1 (tt 25) (.take 24)) []]) .skip))
 (yr [yl 26 8 3,
ys 8 2 26 []]
 .ret)))) (yr [zm 28 0,
oo 29 (.call 33600 0 [tt 28, .const (.str ([119, 104, 105, 108, 101]))]),
zm 27 29]
 (yw 27 (yr [zm 30 0,
oo 31 (.call 34400 0 [tt 30, nn 1]),
oo 32 (.build [.int .i64 0, .int .i64 0, .int .i64 0, .int .i64 0, .int .i64 0, .sl (.own false) .exp [], .sl (.own false) .stm [], .sl (.own false) .stm []] [(0, 1, nn 3), (3, 3, tt 31)]),
ys 8 3 32 []]
 (yr [zm 33 0,
ya 34 45500 0 33,
zf 35 6 3,
on (.store 1 (tt 35) (.take 34)) []]
 (yr [yl 36 8 3,
ys 8 2 36 []]
 .ret))) (yr [zm 38 0,
oo 39 (.call 33600 0 [tt 38, .const (.str ([115, 101, 110, 100]))]),
zm 37 39]
 (yw 37 (yr [zm 40 0,
ya 41 33900 0 40,
oo 42 (.build [.int .i64 0, .int .i64 0, .int .i64 0, .int .i64 0, .int .i64 0, .sl (.own false) .exp [], .sl (.own false) .stm [], .sl (.own false) .stm []] [(0, 1, nn 4), (2, 1, tt 41)]),
ys 8 3 42 []]
 (rr [zm 43 0,
oo 44 (.call 34400 0 [tt 43, nn 1]),
zf 45 3 3,
ys 3 45 44 []])) (yr [zm 47 0,
oo 48 (.call 33600 0 [tt 47, .const (.str ([114, 101, 99, 118]))]),
zm 46 48]
 (yw 46 (yr [zm 49 0,
ya 50 33900 0 49,
oo 51 (.build [.int .i64 0, .int .i64 0, .int .i64 0, .int .i64 0, .int .i64 0, .sl (.own false) .exp [], .sl (.own false) .stm [], .sl (.own false) .stm []] [(0, 1, nn 5), (2, 1, tt 50)]),
ys 8 3 51 []]
 (rr [zm 52 0,
ya 53 34000 0 52,
zf 54 1 3,
ys 1 54 53 []])) (yr [zm 56 0,
oo 57 (.call 33600 0 [tt 56, .const (.str ([121, 105, 101, 108, 100]))]),
zm 55 57]
 (yw 55 (rr [oo 58 (.build [.int .i64 0, .int .i64 0, .int .i64 0, .int .i64 0, .int .i64 0, .sl (.own false) .exp [], .sl (.own false) .stm [], .sl (.own false) .stm []] [(0, 1, nn 6)]),
ys 8 3 58 []]) (yr [zm 60 0,
oo 61 (.call 33600 0 [tt 60, .const (.str ([112, 114, 105, 110, 116]))]),
zm 59 61]
 (yw 59 (rr [zm 62 0,
oo 63 (.call 34400 0 [tt 62, nn 1]),
oo 64 (.build [.int .i64 0, .int .i64 0, .int .i64 0, .int .i64 0, .int .i64 0, .sl (.own false) .exp [], .sl (.own false) .stm [], .sl (.own false) .stm []] [(0, 1, nn 7), (3, 3, tt 63)]),
ys 8 3 64 []]) (yr [zm 4 0,
ya 5 34000 0 4,
oo 6 (.build [.int .i64 0, .int .i64 0, .int .i64 0, .int .i64 0, .int .i64 0, .sl (.own false) .exp [], .sl (.own false) .stm [], .sl (.own false) .stm []] [(0, 1, nn 1), (1, 1, tt 5)]),
ys 8 3 6 []]
 (yr [zm 7 0,
oo 8 (.call 33700 0 [tt 7, .const (.str [61])])]
 (rr [zm 9 0,
oo 10 (.call 34400 0 [tt 9, nn 1]),
zf 11 3 3,
ys 3 11 10 []]))))))))))))))))
 (yr [zm 65 0,
oo 66 (.call 33700 0 [tt 65, .const (.str [59])])]
 (yr [yl 67 8 3,
ys 8 2 67 []]
 .ret)))))
def p46400 : ProcT := pF [0] [] [.tmp 2] (yr [oo 1 (.box 100 (tt 0)),
oo 2 (.mv (.const (.sl (.own false) .str [])))]
 (.seq (yr [zf 5 0 1,
zl 6 5]
 (.block 0 (yr [zb 8 .eql 6 1,
zm 7 8]
 (yw 7 (.seq (.region true [yf 9 1 1 [100],
yd 10 9 [100],
ya 11 32400 0 10,
oo 12 (.buildS (.own true) .str [tt 11, .const (.str [61])]),
yf 13 3 1 [100],
op 14 (.load 3 true false (tt 13)) [100],
oo 15 (.call 46700 0 [.take 12, tt 14]),
yt 2 15])
 .ret) (yr [zb 17 .eql 6 4,
zm 16 17]
 (yw 16 (.seq (.region true [yf 18 2 1 [100],
yd 19 18 [100],
ya 20 20500 0 19,
oo 21 (.buildS (.own true) .str [.const (.str ([115, 101, 110, 100])), tt 20]),
yf 22 3 1 [100],
op 23 (.load 3 true false (tt 22)) [100],
oo 24 (.call 46700 0 [.take 21, tt 23]),
yt 2 24])
 .ret) (yr [zb 26 .eql 6 7,
zm 25 26]
 (yw 25 (yr [oo 27 (.buildS (.own true) .str [.const (.str ([112, 114, 105, 110, 116]))]),
zf 28 3 1,
yl 29 3 28,
oo 30 (.call 46700 0 [.take 27, tt 29]),
yt 2 30]
 .ret) (yr [zb 32 .eql 6 5,
zm 31 32]
 (yw 31 (.seq (.region true [yf 33 2 1 [100],
yd 34 33 [100],
ya 35 20500 0 34,
yf 36 1 1 [100],
yd 37 36 [100],
ya 38 32400 0 37,
oo 39 (.buildS (.own true) .str [.const (.str ([114, 101, 99, 118])), tt 35, tt 38, .const (.str [59])]),
yt 2 39])
 .ret) (yr [zb 41 .eql 6 6,
zm 40 41]
 (yw 40 (yr [oo 42 (.buildS (.own true) .str [.const (.str ([121, 105, 101, 108, 100])), .const (.str [59])]),
yt 2 42]
 .ret) (yr [zb 44 .eql 6 3,
zm 43 44]
 (yw 43 (yr [oo 45 (.buildS (.own true) .str [.const (.str ([119, 104, 105, 108, 101]))]),
zf 46 3 1,
yl 47 3 46,
ya 48 35300 0 47,
oo 49 (.app 1 (.take 45) (tt 48)),
yt 3 49]
 (yr [yt 50 3,
zf 51 6 1,
zl 52 51,
ya 53 45900 0 52,
oo 54 (.app 1 (.take 50) (tt 53)),
yt 2 54]
 .ret)) .skip))))))))))))))
 (yr [oo 55 (.buildS (.own true) .str [.const (.str ([105, 102]))]),
zf 56 3 1,
yl 57 3 56,
ya 58 35300 0 57,
oo 59 (.app 1 (.take 55) (tt 58)),
yt 4 59]
 (yr [yt 60 4,
zf 61 6 1,
zl 62 61,
ya 63 45900 0 62,
oo 64 (.app 1 (.take 60) (tt 63)),
yt 4 64]
 (.seq (yr [zf 65 7 1,
zl 66 65,
zc 67 66,
zb 68 .eql 67 0]
 (yw 68 (yr [yt 69 4,
yt 2 69]
 .ret) .skip))
 (yr [yt 70 4,
oo 71 (.buildS .full .str [.const (.str ([101, 108, 115, 101]))]),
oo 72 (.app 1 (.take 70) (tt 71)),
yt 4 72]
 (yr [yt 73 4,
zf 74 7 1,
zl 75 74,
ya 76 45900 0 75,
oo 77 (.app 1 (.take 73) (tt 76)),
yt 2 77]
 .ret)))))))
def p46500 : ProcT := pF [0, 1, 2] [] [.cell 6 8 true, .tmp 7] (yr [oo 6 (.alloc 100 [.int .i64 0, .int .i64 0, .int .i64 0, .int .i64 0, .int .i64 0, .sl (.own false) .exp [], .sl (.own false) .stm [], .sl (.own false) .stm []]),
yn 7 0]
 (yr [zm 16 0,
zm 17 1,
oo 18 (.call 32900 0 [tt 16, tt 17, nn 1]),
zm 15 18,
ye 19 0 15,
ye 20 1 15,
oo 8 (.alloc 101 [.int .i64 0, .int .i64 0, .sl (.own false) .exp []]),
ys 3 8 19 [],
zm 9 20]
 (.seq (yr [zm 21 9,
zb 22 .lss 21 0]
 (yw 22 (yr [oo 23 (.build [.int .i64 0, .int .i64 0, .int .i64 0, .int .i64 0, .int .i64 0, .sl (.own false) .exp [], .sl (.own false) .stm [], .sl (.own false) .stm []] []),
ys 8 6 23 [],
oo 7 (.mv (nn (-1)))]
 .ret) .skip))
 (yr [zm 25 0,
zm 26 9,
yb 27 45400 0 25 26,
zm 24 27,
ye 28 0 24,
ye 29 1 24,
yt 10 28,
zm 11 29]
 (yr [zm 30 2,
yl 31 3 8,
zm 32 10,
oo 33 (.buildS (.own false) .stm []),
oo 34 (.build [.int .i64 0, .int .i64 0, .int .i64 0, .int .i64 0, .int .i64 0, .sl (.own false) .exp [], .sl (.own false) .stm [], .sl (.own false) .stm []] [(0, 1, tt 30), (3, 3, tt 31), (6, 1, tt 32), (7, 1, tt 33)]),
oo 12 (.alloc 102 [.int .i64 0, .int .i64 0, .int .i64 0, .int .i64 0, .int .i64 0, .sl (.own false) .exp [], .sl (.own false) .stm [], .sl (.own false) .stm []]),
ys 8 12 34 []]
 (.seq (yr [zm 35 2,
zb 36 .eql 35 2,
zm 37 36,
zM 38 0 37,
zM 39 11 37,
zG 40 (.call 45200 0 [tt 38, tt 39, .const (.str ([101, 108, 115, 101]))]) 37,
zp 41 37 40]
 (yw 41 (yr [zm 43 0,
zm 44 11,
zb 45 .add 44 1,
yb 46 45400 0 43 45,
zm 42 46,
ye 47 0 42,
ye 48 1 42,
yt 13 47,
zm 14 48]
 (yr [zm 49 13,
zf 50 7 12,
on (.store 1 (tt 50) (.take 49)) []]
 (yr [yl 51 8 12,
zm 52 14,
ys 8 6 51 [],
zm 7 52]
 .ret))) .skip))
 (yr [yl 53 8 12,
zm 54 11,
ys 8 6 53 [],
zm 7 54]
 .ret)))))))
def p46600 : ProcT := pF [0, 1] [] [.cell 4 3 true, .tmp 5] (yr [oo 4 (.alloc 100 [.int .i64 0, .int .i64 0, .sl (.own false) .exp []]),
yn 5 0]
 (yr [zm 9 0,
zm 10 1,
oo 11 (.call 32900 0 [tt 9, tt 10, nn 1]),
zm 8 11,
ye 12 0 8,
ye 13 1 8,
oo 6 (.alloc 101 [.int .i64 0, .int .i64 0, .sl (.own false) .exp []]),
ys 3 6 12 [],
zm 7 13]
 (.seq (yr [zm 14 0,
zm 15 7,
oo 16 (.call 45200 0 [tt 14, tt 15, .const (.str [59])]),
oo 17 (.un .not (tt 16))]
 (yw 17 (yr [oo 18 (.build [.int .i64 0, .int .i64 0, .sl (.own false) .exp []] []),
ys 3 4 18 [],
oo 5 (.mv (nn (-1)))]
 .ret) .skip))
 (yr [yl 19 3 6,
zm 20 7,
zb 21 .add 20 1,
ys 3 4 19 [],
zm 5 21]
 .ret))))
def p46700 : ProcT := pF [0, 1] [] [.tmp 4] (yr [oo 3 (.box 100 (tt 1)),
oo 4 (.mv (.const (.sl (.own false) .str [])))]
 (yr [yt 6 0,
yl 7 3 3,
ya 8 35300 0 7,
oo 9 (.app 1 (.take 6) (tt 8)),
yt 5 9]
 (yr [yt 10 5,
oo 11 (.buildS .full .str [.const (.str [59])]),
oo 12 (.app 1 (.take 10) (tt 11)),
yt 4 12]
 .ret)))
def p47000 : ProcT := pF [0] [] [.tmp 2] (yr [yo 2 false]
 (.seq (yr [zm 14 0,
zc 15 14,
zb 16 .gtr 15 1048576]
 (yw 16 (yr [yo 2 true]
 .ret) .skip))
 (yr [zm 17 0,
ya 18 45100 0 17,
zm 3 18]
 (yr [zm 20 3,
ya 21 44400 0 20,
zm 19 21,
ye 22 0 19,
ye 23 1 19,
oo 4 (.alloc 100 [.sl (.own false) .int [], .sl (.own false) .stms []]),
ys 2 4 22 [],
zm 5 23]
 (yr [zm 25 3,
ya 26 44300 0 25,
zm 24 26,
ye 27 0 24,
ye 28 1 24,
oo 6 (.alloc 101 [.sl (.own false) .int [], .sl (.own false) .stms []]),
ys 2 6 27 [],
zm 7 28]
 (.seq (yr [zm 29 5,
zm 30 7,
oo 31 (.eqb true (tt 29) (tt 30)),
zm 32 31,
og (some 33) (.load 2 true false (tt 4)) 32 false [],
og (some 34) (.load 2 true false (tt 6)) 32 false [],
og (some 35) (.call 45000 0 [tt 33, tt 34]) 32 false [],
og (some 36) (.un .not (tt 35)) 32 false [],
zq 37 32 36,
zm 38 37,
yM 39 5 38,
og (some 40) (.un .not (tt 39)) 38 false [],
zq 41 38 40]
 (yw 41 (yr [zm 42 5,
zm 43 7,
oo 44 (.eqb false (tt 42) (tt 43)),
zm 45 44,
zG 46 (.load 2 true false (tt 4)) 45,
zG 47 (.load 2 true false (tt 6)) 45,
zG 48 (.call 45000 0 [tt 46, tt 47]) 45,
zp 49 45 48,
zm 2 49]
 .ret) .skip))
 (yr [zm 51 3,
ya 52 33400 0 51,
zm 50 52,
ye 53 0 50,
ye 54 1 50,
yt 8 53,
zm 9 54]
 (yr [zm 56 8,
zm 57 8,
zc 58 57,
zb 59 .sub 58 1,
oo 60 (.slc 1 (tt 56) none (some (tt 59)) none),
ya 61 36300 0 60,
ya 62 44400 0 61,
zm 55 62,
ye 63 0 55,
ye 64 1 55,
oo 10 (.alloc 102 [.sl (.own false) .int [], .sl (.own false) .stms []]),
ys 2 10 63 [],
zm 11 64]
 (yr [zm 66 3,
oo 67 (.bin .add (tt 66) (.const (.str ([32, 59])))),
ya 68 44400 0 67,
zm 65 68,
ye 69 0 65,
ye 70 1 65,
oo 12 (.alloc 103 [.sl (.own false) .int [], .sl (.own false) .stms []]),
ys 2 12 69 [],
zm 13 70]
 (yr [zm 71 9,
zm 72 71,
zM 73 11 72,
zG 74 (.un .not (tt 73)) 72,
zp 75 72 74,
zm 76 75,
zM 77 13 76,
zG 78 (.un .not (tt 77)) 76,
zp 79 76 78,
zm 2 79]
 .ret))))))))))
def p37500 : ProcT := { kind := .prim, ins := [], bins := [], code := .skip, pf := Vs.Qob }
def p37600 : ProcT := { kind := .prim, ins := [], bins := [], code := .skip, pf := Vs.Qsb }
def p37700 : ProcT := { kind := .prim, ins := [], bins := [], code := .skip, pf := Vs.Qww }
def p37800 : ProcT := { kind := .prim, ins := [], bins := [], code := .skip, pf := Vs.joinF }
def tab : List (Nat × ProcT) := [(100, p100), (200, p200), (300, p300), (400, p400), (500, p500), (600, p600), (700, p700), (1000, p1000), (1100, p1100), (1200, p1200), (1600, p1600), (1700, p1700), (1800, p1800), (1900, p1900), (4000, p4000), (4001, p4001), (4100, p4100), (4200, p4200), (4300, p4300), (4400, p4400), (4500, p4500), (4600, p4600), (4601, p4601), (4700, p4700), (4701, p4701), (5200, p5200), (5300, p5300), (5301, p5301), (5400, p5400), (5700, p5700), (5800, p5800), (5900, p5900), (6000, p6000), (6100, p6100), (6200, p6200), (6201, p6201), (6300, p6300), (8700, p8700), (9700, p9700), (9701, p9701), (9800, p9800), (9801, p9801), (9900, p9900), (9901, p9901), (11100, p11100), (20500, p20500), (20700, p20700), (22300, p22300), (22301, p22301), (22400, p22400), (22401, p22401), (22700, p22700), (22701, p22701), (22800, p22800), (22801, p22801), (23100, p23100), (23101, p23101), (23200, p23200), (23201, p23201), (23300, p23300), (23301, p23301), (31800, p31800), (31801, p31801), (31900, p31900), (31901, p31901), (32000, p32000), (32100, p32100), (32200, p32200), (32201, p32201), (32300, p32300), (32301, p32301), (32400, p32400), (32500, p32500), (32501, p32501), (32600, p32600), (32700, p32700), (32800, p32800), (32801, p32801), (32900, p32900), (32901, p32901), (33100, p33100), (33200, p33200), (33300, p33300), (33301, p33301), (33302, p33302), (33303, p33303), (33400, p33400), (33401, p33401), (33500, p33500), (33600, p33600), (33700, p33700), (33800, p33800), (33900, p33900), (34000, p34000), (34100, p34100), (34200, p34200), (34201, p34201), (34300, p34300), (34400, p34400), (34401, p34401), (34900, p34900), (35000, p35000), (35001, p35001), (35100, p35100), (35200, p35200), (35300, p35300), (35500, p35500), (36200, p36200), (36300, p36300), (36301, p36301), (37500, p37500), (37600, p37600), (37700, p37700), (37800, p37800), (44300, p44300), (44301, p44301), (44302, p44302), (44400, p44400), (44401, p44401), (44402, p44402), (44900, p44900), (44901, p44901), (44902, p44902), (45000, p45000), (45001, p45001), (45100, p45100), (45200, p45200), (45300, p45300), (45400, p45400), (45401, p45401), (45500, p45500), (45501, p45501), (45900, p45900), (45901, p45901), (46000, p46000), (46100, p46100), (46400, p46400), (46500, p46500), (46600, p46600), (46700, p46700), (47000, p47000)]
abbrev Tb : Nat → Option ProcT := (Vs.look · tab)
@[reducible] def s100 : Sig := [⟨.ret, [.np 2], [], [.h (.sl .u8), .h (.int .i64)]⟩]
@[reducible] def s200 : Sig := [⟨.ret, [.one], [.var 2], [.h (.int .i64), .h (.sl .u8), .h (.int .i64)]⟩]
@[reducible] def s300 : Sig := [⟨.ret, [.agg 3], [], [.h (.int .i64), .h (.int .i64), .h (.slm .exp)]⟩]
@[reducible] def s400 : Sig := [⟨.ret, [.agg 3], [.var 2], [.h (.int .i64), .h (.int .i64), .h (.slm .exp), .h (.sl .u8), .h (.int .i64)]⟩]
@[reducible] def Rn : Sig := [⟨.ret, [.one], [], [.h (.bool)]⟩]
@[reducible] def Rcs : Sig := [⟨.ret, [.one], [], [.h (.int .i64)]⟩]
@[reducible] def Rvv : Sig := [⟨.exit 0, [.one, .one], [], [.undef, .h (.int .i64)]⟩]
@[reducible] def Ros : Sig := [⟨.ret, [.one], [.var 2], [.h (.agg .stm), .h (.sl .u8), .h (.int .i64)]⟩]
@[reducible] def Rsu : Sig := [⟨.ret, [.one], [.var 2], [.h (.own .stm), .h (.sl .u8), .h (.int .i64)]⟩]
@[reducible] def s4601 : Sig := [⟨.exit 0, [.one, .one, .one], [.var 2], [.bp 0 0, .undef, .h (.ownb .stm), .h (.sl .u8), .h (.int .i64)]⟩]
@[reducible] def s4700 : Sig := [⟨.ret, [.one], [.var 2], [.h (.slm .stm), .h (.sl .u8), .h (.int .i64)]⟩]
@[reducible] def s4701 : Sig := [⟨.exit 0, [.one, .one, .one], [.var 2], [.bp 0 0, .undef, .h (.slm .stm), .h (.sl .u8), .h (.int .i64)]⟩]
@[reducible] def s5300 : Sig := [⟨.ret, [.one], [.var 1], [.h (.bool), .h (.int .i64)]⟩]
@[reducible] def s5301 : Sig := [⟨.exit 0, [.one, .one], [.var 1], [.bp 0 0, .undef, .h (.int .i64)]⟩, ⟨.ret, [.one, .one], [.var 1], [.bp 0 0, .h (.bool), .h (.int .i64)]⟩]
@[reducible] def Rgv : Sig := [⟨.exit 0, [.one], [], [.undef]⟩, ⟨.ret, [.one], [], [.h (.bool)]⟩]
@[reducible] def Rdo : Sig := [⟨.ret, [.one], [], [.h (.str)]⟩]
@[reducible] def Rxg : Sig := [⟨.ret, [.one], [.var 2], [.h (.own .int), .h (.sl .u8), .h (.int .i64)]⟩]
@[reducible] def Rxh : Sig := [⟨.exit 0, [.one, .one, .one], [.var 2], [.bp 0 0, .undef, .h (.ownb .int), .h (.sl .u8), .h (.int .i64)]⟩]
@[reducible] def Rxi : Sig := [⟨.ret, [.one], [.var 2], [.h (.agg .prg), .h (.sl .u8), .h (.int .i64)]⟩]
@[reducible] def Rxj : Sig := [⟨.exit 0, [.one, .one, .one], [.var 2, .var 2, .var 2, .ar], [.bp 0 0, .bp 100 0, .bp 101 0, .h (.sl .u8), .h (.int .i64), .h (.ownb .int), .h (.tr .stms), .h (.sl .int), .h (.tr .stms), .h (.ar)]⟩]
@[reducible] def Rrq : Sig := [⟨.exit 0, [.one, .one], [], [.h (.sl .int), .undef]⟩, ⟨.ret, [.one, .one], [], [.h (.sl .int), .h (.bool)]⟩]
@[reducible] def Rxk : Sig := [⟨.exit 1, [.one], [], [.undef]⟩, ⟨.ret, [.one], [], [.h (.int .i64)]⟩]
@[reducible] def Rrr : Sig := [⟨.ret, [.tup 2], [], [.h (.sl .str), .h (.bool)]⟩]
@[reducible] def Rrs : Sig := [⟨.exit 0, [.one, .one, .one], [], [.undef, .undef, .h (.ownb .str)]⟩, ⟨.ret, [.one, .one, .one], [], [.h (.ownb .str), .h (.bool), .h (.ownb .str)]⟩]
@[reducible] def Rxl : Sig := [⟨.exit 0, [.one, .one], [], [.undef, .h (.int .i64)]⟩, ⟨.ret, [.one, .one], [], [.h (.int .i64), .h (.int .i64)]⟩]
@[reducible] def Rme : Sig := [⟨.exit 0, [.one], [], [.undef]⟩, ⟨.ret, [.one], [], [.h (.int .i64)]⟩]
@[reducible] def Rmf : Sig := [⟨.ret, [.tup 2], [], [.h (.agg .exp), .h (.int .i64)]⟩]
@[reducible] def Rxm : Sig := [⟨.exit 0, [.one, .one, .one, .one], [.var 3, .var 3], [.bp 100 0, .undef, .bp 101 0, .h (.int .i64), .h (.int .i64), .h (.int .i64), .h (.ownb .exp), .h (.int .i64), .h (.int .i64), .h (.slm .exp)]⟩]
@[reducible] def Rxn : Sig := [⟨.exit 0, [.one, .one], [], [.h (.str), .undef]⟩, ⟨.ret, [.one, .one], [], [.h (.str), .h (.int .i64)]⟩]
@[reducible] def Rtp : Sig := [⟨.exit 2, [.one, .one, .one, .one, .one, .one], [], [.h (.str), .undef, .h (.int .i64), .fnl ([33100, 33200] : List Nat), .h (.int .i64), .h (.int .i64)]⟩]
@[reducible] def Rxo : Sig := [⟨.exit 4, [.one, .one], [], [.h (.str), .undef]⟩, ⟨.ret, [.one, .one], [], [.h (.str), .h (.int .i64)]⟩]
@[reducible] def Rrt : Sig := [⟨.ret, [.one], [.var 3], [.h (.str), .h (.sl .str), .h (.int .i64), .h (.bool)]⟩]
@[reducible] def Rxp : Sig := [⟨.ret, [.one], [.var 3], [.h (.bool), .h (.sl .str), .h (.int .i64), .h (.bool)]⟩]
@[reducible] def Rxq : Sig := [⟨.ret, [.tup 0], [.var 3], [.h (.sl .str), .h (.int .i64), .h (.bool)]⟩]
@[reducible] def Rru : Sig := [⟨.ret, [.one], [.var 3], [.h (.int .i64), .h (.sl .str), .h (.int .i64), .h (.bool)]⟩]
@[reducible] def Rrv : Sig := [⟨.ret, [.one], [.var 3], [.h (.agg .exp), .h (.sl .str), .h (.int .i64), .h (.bool)]⟩]
@[reducible] def Rxr : Sig := [⟨.exit 0, [.one, .one, .one], [.var 3, .var 3, .var 3], [.bp 0 0, .bp 100 0, .bp 101 0, .h (.sl .str), .h (.int .i64), .h (.bool), .h (.int .i64), .h (.int .i64), .h (.ownb .exp), .h (.int .i64), .h (.int .i64), .h (.slm .exp)]⟩]
@[reducible] def Rxs : Sig := [⟨.exit 0, [.one, .one], [], [.undef, .h (.str)]⟩, ⟨.ret, [.one, .one], [], [.h (.str), .h (.str)]⟩]
@[reducible] def Rhj : Sig := [⟨.ret, [.one], [], [.h (.own .str)]⟩]
@[reducible] def Rxt : Sig := [⟨.ret, [.one], [.var 2], [.h (.str), .h (.sl .u8), .h (.int .i64)]⟩]
@[reducible] def Rxu : Sig := [⟨.exit 0, [.one, .one], [], [.h (.sl .str), .undef]⟩, ⟨.ret, [.one, .one], [], [.h (.sl .str), .h (.str)]⟩]
@[reducible] def Rxv : Sig := [⟨.ret, [.tup 2], [], [.h (.int .i64), .undef]⟩]
@[reducible] def Rrw : Sig := [⟨.ret, [.tup 2], [], [.h (.agg .prg), .h (.bool)]⟩]
@[reducible] def Rxw : Sig := [⟨.exit 0, [.one, .one, .one, .one, .one, .one], [.var 2, .var 2, .var 2], [.bp 100 0, .undef, .bp 101 0, .h (.sl .str), .bp 102 0, .h (.int .i64), .h (.ownb .int), .h (.ownb .stms), .h (.ownb .int), .h (.ownb .stms), .h (.ownb .int), .h (.ownb .stms)]⟩]
@[reducible] def Rxx : Sig := [⟨.exit 2, [.one, .one, .one, .one, .one, .one], [.var 2, .var 2, .var 2], [.bp 100 0, .undef, .bp 101 0, .h (.sl .str), .bp 102 0, .h (.int .i64), .h (.ownb .int), .h (.ownb .stms), .h (.ownb .int), .h (.ownb .stms), .h (.ownb .int), .h (.ownb .stms)]⟩]
@[reducible] def Rxy : Sig := [⟨.exit 0, [.one, .one, .one, .one, .one], [.var 2, .var 3, .var 2], [.bp 100 0, .undef, .h (.sl .str), .bp 101 0, .bp 102 0, .h (.ownb .int), .h (.ownb .stms), .h (.sl .str), .h (.int .i64), .h (.bool), .h (.ownb .int), .h (.ownb .stms)]⟩]
@[reducible] def Rxz : Sig := [⟨.exit 2, [.one, .one, .one, .one, .one], [.var 2, .var 3, .var 2], [.bp 100 0, .undef, .h (.sl .str), .bp 101 0, .bp 102 0, .h (.ownb .int), .h (.ownb .stms), .h (.sl .str), .h (.int .i64), .h (.bool), .h (.ownb .int), .h (.ownb .stms)]⟩]
@[reducible] def Rya : Sig := [⟨.exit 0, [.one, .one, .one], [.var 2], [.bp 100 0, .undef, .h (.ownb .str), .h (.sl .int), .h (.sl .stms)]⟩]
@[reducible] def Ryb : Sig := [⟨.exit 2, [.one, .one], [], [.undef, .h (.ownb .str)]⟩]
@[reducible] def Ryc : Sig := [⟨.ret, [.tup 2], [], [.h (.sl .stm), .h (.int .i64)]⟩]
@[reducible] def Ryd : Sig := [⟨.exit 0, [.one, .one, .one, .one, .one], [], [.h (.sl .str), .h (.int .i64), .undef, .undef, .h (.ownb .stm)]⟩]
@[reducible] def Rye : Sig := [⟨.ret, [.one], [.var 3], [.h (.own .stm), .h (.sl .str), .h (.int .i64), .h (.bool)]⟩]
@[reducible] def Ryf : Sig := [⟨.exit 0, [.one, .one, .one], [.var 3], [.bp 0 0, .undef, .h (.ownb .stm), .h (.sl .str), .h (.int .i64), .h (.bool)]⟩]
@[reducible] def Ryg : Sig := [⟨.exit 0, [.one, .one], [], [.undef, .h (.ownb .str)]⟩]
@[reducible] def Rrx : Sig := [⟨.ret, [.tup 2], [], [.h (.agg .stm), .h (.int .i64)]⟩]
@[reducible] def Ryh : Sig := [⟨.ret, [.one], [.var 3], [.h (.agg .stm), .h (.sl .str), .h (.int .i64), .h (.bool)]⟩]
def sgs : List (Nat × Sig) := [(100, s100), (200, s200), (300, s300), (400, s400), (500, s300), (600, s200), (700, s400), (1000, Rn), (1100, Rn), (1200, Rn), (1600, Rn), (1700, Rn), (1800, Rn), (1900, Rn), (4000, Rcs), (4001, Rvv), (4100, Ros), (4200, Ros), (4300, Rsu), (4400, Ros), (4500, Rsu), (4600, Rsu), (4601, s4601), (4700, s4700), (4701, s4701), (5200, Rn), (5300, s5300), (5301, s5301), (5400, Rn), (5700, Rn), (5800, Rn), (5900, Rn), (6000, Rn), (6100, Rn), (6200, Rn), (6201, Rgv), (6300, Rn), (8700, Ros), (9700, Rn), (9701, Rgv), (9800, Rn), (9801, Rgv), (9900, Rn), (9901, Rgv), (11100, Rn), (20500, Rdo), (20700, Rdo), (22300, Rxg), (22301, Rxh), (22400, Rxi), (22401, Rxj), (22700, Rn), (22701, Rrq), (22800, Rn), (22801, Rgv), (23100, Rn), (23101, Rgv), (23200, Rn), (23201, Rrq), (23300, Rn), (23301, Rgv), (31800, Rcs), (31801, Rxk), (31900, Rcs), (31901, Rvv), (32000, Rn), (32100, Rcs), (32200, Rrr), (32201, Rrs), (32300, Rcs), (32301, Rxl), (32400, Rdo), (32500, Rcs), (32501, Rme), (32600, Rmf), (32700, Rcs), (32800, Rcs), (32801, Rme), (32900, Rmf), (32901, Rxm), (33100, Rn), (33200, Rn), (33300, Rcs), (33301, Rxn), (33302, Rtp), (33303, Rxo), (33400, Rrr), (33401, Rrs), (33500, Rrt), (33600, Rxp), (33700, Rxq), (33800, Rrt), (33900, Rru), (34000, Rru), (34100, Rrv), (34200, Rcs), (34201, Rme), (34300, Rcs), (34400, Rrv), (34401, Rxr), (34900, Rn), (35000, Rdo), (35001, Rxs), (35100, Rhj), (35200, Rcs), (35300, Rhj), (35500, Rxt), (36200, Rn), (36300, Rdo), (36301, Rxu), (37500, Rn), (37600, Rcs), (37700, Rxv), (37800, Rdo), (44300, Rrw), (44301, Rxw), (44302, Rxx), (44400, Rrw), (44401, Rxy), (44402, Rxz), (44900, Rdo), (44901, Rya), (44902, Ryb), (45000, Rn), (45001, Rgv), (45100, Rdo), (45200, Rn), (45300, Rcs), (45400, Ryc), (45401, Ryd), (45500, Rye), (45501, Ryf), (45900, Rhj), (45901, Ryg), (46000, Rrx), (46100, Ryh), (46400, Rhj), (46500, Rrx), (46600, Rmf), (46700, Rhj), (47000, Rn)]
def sg (g : Nat) : Sig := (Vs.look g sgs).getD []
def GT (i : Nat) : List TV := if i = 0 then [.str [124], .str [94], .str [38], .str ([61, 61]), .str [60], .str ([60, 60]), .str ([62, 62]), .str [43], .str [45], .str [42], .str [47], .str [37]] else []
def laws_FnSourceEnd (a0 : List Int) : Option (Bool) := Qdl Tb GT Rn 47000 [.sl .share .u8 a0] []
def Rct (a0 : List Int) : Option (List UInt8) := Qdl Tb GT Rdo 45100 [.sl .share .u8 a0] []
def Rj (a0 : List UInt8) : Option (Prg × Bool) := Qdl Tb GT Rrw 44400 [.str a0] []
def Rbk (a0 : List UInt8) : Option (Prg × Bool) := Qdl Tb GT Rrw 44300 [.str a0] []
def Raa (a0 : Prg) (a1 : Prg) : Option (Bool) := Qdl Tb GT Rn 45000 [.agg (rowT .prg a0), .agg (rowT .prg a1)] []
def Rhd (a0 : List UInt8) : Option (List (List UInt8) × Bool) := Qdl Tb GT Rrr 33400 [.str a0] []
def Rfa (a0 : List (List UInt8)) : Option (List UInt8) := Qdl Tb GT Rdo 36300 [.sl .share .str a0] []
def Rlg (a0 : List Int) : Option (List Int × Int) := Qdl Tb GT s100 100 [.sl .share .u8 a0] []
def Rhu (a0b : List Int) (a0p : Int) : Option (Prg × List Int × Int) := Qdl Tb GT Rxi 22400 [.bp 0 0] [.var [.sl .share .u8 a0b, .int .i64 a0p]]
def Rgk (a0 : Prg) : Option (List UInt8) := Qdl Tb GT Rdo 44900 [.agg (rowT .prg a0)] []
def Rb (a1 : Int) (a0b : List Int) (a0p : Int) : Option (Int × List Int × Int) := Qdl Tb GT s200 200 [.bp 0 0, .int .i64 a1] [.var [.sl .share .u8 a0b, .int .i64 a0p]]
def Rig (a1 : List (List UInt8)) (a0b : List Int) (a0p : Int) : Option (List UInt8 × List Int × Int) := Qdl Tb GT Rxt 35500 [.bp 0 0, .sl .share .str a1] [.var [.sl .share .u8 a0b, .int .i64 a0p]]
def Re (a1 : List UInt8) (a0tokens : List (List UInt8)) (a0at : Int) (a0failed : Bool) : Option (Bool × List (List UInt8) × Int × Bool) := Qdl Tb GT Rxp 33600 [.bp 0 0, .str a1] [.var [.sl .share .str a0tokens, .int .i64 a0at, .bool a0failed]]
def Rad (a0tokens : List (List UInt8)) (a0at : Int) (a0failed : Bool) : Option (Int × List (List UInt8) × Int × Bool) := Qdl Tb GT Rru 33900 [.bp 0 0] [.var [.sl .share .str a0tokens, .int .i64 a0at, .bool a0failed]]
def Rg (a1 : List UInt8) (a0tokens : List (List UInt8)) (a0at : Int) (a0failed : Bool) : Option (List (List UInt8) × Int × Bool) := Qdl Tb GT Rxq 33700 [.bp 0 0, .str a1] [.var [.sl .share .str a0tokens, .int .i64 a0at, .bool a0failed]]
def Ri (t4 : List (List UInt8)) (b100_0b : Bool) (b100_0 : List Int) (b100_1b : Bool) (b100_1 : List (List Stm)) (b101_0 : List (List UInt8)) (b101_1 : Int) (b101_2 : Bool) (b102_0b : Bool) (b102_0 : List Int) (b102_1b : Bool) (b102_1 : List (List Stm)) : Option (List (List UInt8) × (Bool × List Int) × (Bool × List (List Stm)) × List (List UInt8) × Int × Bool × (Bool × List Int) × (Bool × List (List Stm))) := Qdl Tb GT Rxy 44401 [.bp 100 0, .sl .share .str t4, .bp 101 0, .bp 102 0] [.var [.sl (.own b100_0b) .int b100_0, .sl (.own b100_1b) .stms b100_1], .var [.sl .share .str b101_0, .int .i64 b101_1, .bool b101_2], .var [.sl (.own b102_0b) .int b102_0, .sl (.own b102_1b) .stms b102_1]]
def Rat (a0tokens : List (List UInt8)) (a0at : Int) (a0failed : Bool) : Option (List Stm × List (List UInt8) × Int × Bool) := Qdl Tb GT Rye 45500 [.bp 0 0] [.var [.sl .share .str a0tokens, .int .i64 a0at, .bool a0failed]]
def Rl (t4 : List (List UInt8)) (b100_0b : Bool) (b100_0 : List Int) (b100_1b : Bool) (b100_1 : List (List Stm)) (b101_0 : List (List UInt8)) (b101_1 : Int) (b101_2 : Bool) (b102_0b : Bool) (b102_0 : List Int) (b102_1b : Bool) (b102_1 : List (List Stm)) : Option (List (List UInt8) × (Bool × List Int) × (Bool × List (List Stm)) × List (List UInt8) × Int × Bool × (Bool × List Int) × (Bool × List (List Stm))) := Qdl Tb GT Rxz 44402 [.bp 100 0, .sl .share .str t4, .bp 101 0, .bp 102 0] [.var [.sl (.own b100_0b) .int b100_0, .sl (.own b100_1b) .stms b100_1], .var [.sl .share .str b101_0, .int .i64 b101_1, .bool b101_2], .var [.sl (.own b102_0b) .int b102_0, .sl (.own b102_1b) .stms b102_1]]
def Ram (a0 : Prg) : Option (Bool) := Qdl Tb GT Rn 22800 [.agg (rowT .prg a0)] []
def Rlf (a0 : List UInt8) : Option (List (List UInt8) × Bool) := Qdl Tb GT Rrr 32200 [.str a0] []
def Ra (a0 : List (List UInt8)) (a1 : Int) (a2 : List UInt8) : Option (Bool) := Qdl Tb GT Rn 45200 [.sl .share .str a0, .int .i64 a1, .str a2] []
def Rr (a0 : List (List UInt8)) (a1 : Int) : Option (Int) := Qdl Tb GT Rcs 45300 [.sl .share .str a0, .int .i64 a1] []
def Rs (t5 : List (List UInt8)) (t8 : Int) (b100_0b : Bool) (b100_0 : List Int) (b100_1b : Bool) (b100_1 : List (List Stm)) (b101_0b : Bool) (b101_0 : List Int) (b101_1b : Bool) (b101_1 : List (List Stm)) (b102_0b : Bool) (b102_0 : List Int) (b102_1b : Bool) (b102_1 : List (List Stm)) : Option (List (List UInt8) × Int × (Bool × List Int) × (Bool × List (List Stm)) × (Bool × List Int) × (Bool × List (List Stm)) × (Bool × List Int) × (Bool × List (List Stm))) := Qdl Tb GT Rxw 44301 [.bp 100 0, .bp 101 0, .sl .share .str t5, .bp 102 0, .int .i64 t8] [.var [.sl (.own b100_0b) .int b100_0, .sl (.own b100_1b) .stms b100_1], .var [.sl (.own b101_0b) .int b101_0, .sl (.own b101_1b) .stms b101_1], .var [.sl (.own b102_0b) .int b102_0, .sl (.own b102_1b) .stms b102_1]]
def Rbf (a0 : List (List UInt8)) (a1 : Int) : Option (List Stm × Int) := Qdl Tb GT Ryc 45400 [.sl .share .str a0, .int .i64 a1] []
def Ru (t5 : List (List UInt8)) (t8 : Int) (b100_0b : Bool) (b100_0 : List Int) (b100_1b : Bool) (b100_1 : List (List Stm)) (b101_0b : Bool) (b101_0 : List Int) (b101_1b : Bool) (b101_1 : List (List Stm)) (b102_0b : Bool) (b102_0 : List Int) (b102_1b : Bool) (b102_1 : List (List Stm)) : Option (List (List UInt8) × Int × (Bool × List Int) × (Bool × List (List Stm)) × (Bool × List Int) × (Bool × List (List Stm)) × (Bool × List Int) × (Bool × List (List Stm))) := Qdl Tb GT Rxx 44302 [.bp 100 0, .bp 101 0, .sl .share .str t5, .bp 102 0, .int .i64 t8] [.var [.sl (.own b100_0b) .int b100_0, .sl (.own b100_1b) .stms b100_1], .var [.sl (.own b101_0b) .int b101_0, .sl (.own b101_1b) .stms b101_1], .var [.sl (.own b102_0b) .int b102_0, .sl (.own b102_1b) .stms b102_1]]
def Rba (a0 : Prg) : Option (Bool) := Qdl Tb GT Rn 23300 [.agg (rowT .prg a0)] []
def Rja (a0 : List Int) (a1 : List Int) : Option (Bool) := Qdl Tb GT Rn 9700 [.sl .share .int a0, .sl .share .int a1] []
def Raj (a0 : List Stm) (a1 : List Stm) : Option (Bool) := Qdl Tb GT Rn 9900 [.sl .share .stm a0, .sl .share .stm a1] []
def Rdc (t5 : Int) (b100_0 : List Int) (b100_1 : List (List Stm)) (b101_0 : List Int) (b101_1 : List (List Stm)) : Option (Unit ⊕ Bool) := Qdl Tb GT Rgv 45001 [.bp 100 0, .bp 101 0, .int .i64 t5] [.var [.sl .share .int b100_0, .sl .share .stms b100_1], .var [.sl .share .int b101_0, .sl .share .stms b101_1]]
def Rdd (a0 : List UInt8) : Option (Int) := Qdl Tb GT Rcs 33300 [.str a0] []
def Rab (t0 : List UInt8) (t4b : Bool) (t4 : List (List UInt8)) (t5 : Int) : Option (((Bool × List (List UInt8))) ⊕ ((Bool × List (List UInt8)) × Bool × (Bool × List (List UInt8)))) := Qdl Tb GT Rrs 33401 [.str t0, .sl (.own t4b) .str t4, .int .i64 t5] []
def Rhc (a0 : List UInt8) : Option (Bool) := Qdl Tb GT Rn 36200 [.str a0] []
def Rce (t0 : List (List UInt8)) (t5 : List (List UInt8)) (t6 : Int) (t7 : Int) : Option (List (List UInt8) ⊕ (List (List UInt8) × List UInt8)) := Qdl Tb GT Rxu 36301 [.sl .share .str t0, .sl .share .str t5, .int .i64 t6, .int .i64 t7] []
def strings_Join (a0 : List (List UInt8)) (a1 : List UInt8) : Option (List UInt8) := Qdl Tb GT Rdo 37800 [.sl .share .str a0, .str a1] []
def Rjk (a0b : List Int) (a0p : Int) : Option (List Int × List Int × Int) := Qdl Tb GT Rxg 22300 [.bp 0 0] [.var [.sl .share .u8 a0b, .int .i64 a0p]]
def Rjl (a1 : Int) (a0b : List Int) (a0p : Int) : Option ((Md × List Stm) × List Int × Int) := Qdl Tb GT s4700 4700 [.bp 0 0, .int .i64 a1] [.var [.sl .share .u8 a0b, .int .i64 a0p]]
def Rdp (t4 : Int) (t5 : Int) (b0_0 : List Int) (b0_1 : Int) (b100_0b : Bool) (b100_0 : List Int) (b100_1 : Hd) (b101_0 : List Int) (b101_1 : Hd) (b99 : List Ent) : Option (List Int × Int × (Bool × List Int) × Hd × List Int × Hd × List Ent) := Qdl Tb GT Rxj 22401 [.bp 0 0, .bp 100 0, .bp 101 0, .int .i64 t4, .int .i64 t5] [.var [.sl .share .u8 b0_0, .int .i64 b0_1], .var [.sl (.own b100_0b) .int b100_0, .tr .stms b100_1.id b100_1.n], .var [.sl .share .int b101_0, .tr .stms b101_1.id b101_1.n], .ar b99]
def Rht (a0b : List Int) (a0p : Int) : Option (Stm × List Int × Int) := Qdl Tb GT Ros 8700 [.bp 0 0] [.var [.sl .share .u8 a0b, .int .i64 a0p]]
def Rdj (a0 : Int) : Option (List UInt8) := Qdl Tb GT Rdo 20500 [.int .i64 a0] []
def Rbs (t3b : Bool) (t3 : List (List UInt8)) (t4 : Int) (b100_0 : List Int) (b100_1 : List (List Stm)) : Option ((Bool × List (List UInt8)) × List Int × List (List Stm)) := Qdl Tb GT Rya 44901 [.bp 100 0, .sl (.own t3b) .str t3, .int .i64 t4] [.var [.sl .share .int b100_0, .sl .share .stms b100_1]]
def Rcj (a0 : List Stm) : Option (List (List UInt8)) := Qdl Tb GT Rhj 45900 [.sl .share .stm a0] []
def Rbt (t3b : Bool) (t3 : List (List UInt8)) (t5 : Int) (b100_0 : List Int) (b100_1 : List (List Stm)) : Option ((Bool × List (List UInt8))) := Qdl Tb GT Ryb 44902 [.bp 100 0, .sl (.own t3b) .str t3, .int .i64 t5] [.var [.sl .share .int b100_0, .sl .share .stms b100_1]]
def Rhn (a0 : List (List UInt8)) : Option (List UInt8) := Qdl Tb GT Rdo 35000 [.sl .share .str a0] []
def Raw (a0tokens : List (List UInt8)) (a0at : Int) (a0failed : Bool) : Option (List UInt8 × List (List UInt8) × Int × Bool) := Qdl Tb GT Rrt 33500 [.bp 0 0] [.var [.sl .share .str a0tokens, .int .i64 a0at, .bool a0failed]]
def Rca (a0tokens : List (List UInt8)) (a0at : Int) (a0failed : Bool) : Option (List UInt8 × List (List UInt8) × Int × Bool) := Qdl Tb GT Rrt 33800 [.bp 0 0] [.var [.sl .share .str a0tokens, .int .i64 a0at, .bool a0failed]]
def Rfy (a0 : Int) : Option (Bool) := Qdl Tb GT Rn 33100 [.int .u8 a0] []
def strconv_Atoi (a0 : List UInt8) : Option (Int) := Qdl Tb GT Rxv 37700 [.str a0] []
def Rbz (a0tokens : List (List UInt8)) (a0at : Int) (a0failed : Bool) : Option (Stm × List (List UInt8) × Int × Bool) := Qdl Tb GT Ryh 46100 [.bp 0 0] [.var [.sl .share .str a0tokens, .int .i64 a0at, .bool a0failed]]
def Rac (t3b : Bool) (t3 : List Stm) (b0_0 : List (List UInt8)) (b0_1 : Int) (b0_2 : Bool) : Option ((Bool × List Stm) × List (List UInt8) × Int × Bool) := Qdl Tb GT Ryf 45501 [.bp 0 0, .sl (.own t3b) .stm t3] [.var [.sl .share .str b0_0, .int .i64 b0_1, .bool b0_2]]
def Rhe (a0 : List Int) : Option (Bool) := Qdl Tb GT Rn 22700 [.sl .share .int a0] []
def Rhf (a0 : List Stm) (a1 : Int) : Option (Bool) := Qdl Tb GT Rn 5400 [.sl .share .stm a0, .int .i64 a1] []
def Rbl (t22 : List (List Stm)) (t23 : Int) (t24 : Int) (b100_0 : List Int) (b100_1 : List (List Stm)) : Option (Unit ⊕ Bool) := Qdl Tb GT Rgv 22801 [.bp 100 0, .sl .share .stms t22, .int .i64 t23, .int .i64 t24] [.var [.sl .share .int b100_0, .sl .share .stms b100_1]]
def Rfr (a0 : Int) : Option (Int) := Qdl Tb GT Rcs 31800 [.int .u8 a0] []
def Rfq (a0 : List UInt8) (a1 : Int) : Option (Int) := Qdl Tb GT Rcs 32100 [.str a0, .int .i64 a1] []
def Rak (t0 : List UInt8) (t4b : Bool) (t4 : List (List UInt8)) (t5 : Int) : Option (((Bool × List (List UInt8))) ⊕ ((Bool × List (List UInt8)) × Bool × (Bool × List (List UInt8)))) := Qdl Tb GT Rrs 32201 [.str t0, .sl (.own t4b) .str t4, .int .i64 t5] []
def Rff (a0 : List UInt8) : Option (Int) := Qdl Tb GT Rcs 32300 [.str a0] []
def Rds (a0 : List (List UInt8)) (a1 : Int) : Option (Stm × Int) := Qdl Tb GT Rrx 46000 [.sl .share .str a0, .int .i64 a1] []
def Rbg (t0 : List (List UInt8)) (t1 : Int) (t6b : Bool) (t6 : List Stm) : Option (List (List UInt8) × Int × (Bool × List Stm)) := Qdl Tb GT Ryd 45401 [.sl .share .str t0, .int .i64 t1, .sl (.own t6b) .stm t6] []
def Rjh (a0 : List Int) : Option (Bool) := Qdl Tb GT Rn 23200 [.sl .share .int a0] []
def Red (a0 : Int) (a1 : Int) (a2 : Int) : Option (Bool) := Qdl Tb GT Rn 1600 [.int .i64 a0, .int .i64 a1, .int .i64 a2] []
def Rhl (a0 : List Stm) : Option (Bool) := Qdl Tb GT Rn 6300 [.sl .share .stm a0] []
def Rw (a0 : List Stm) (a1 : Int) : Option (Bool) := Qdl Tb GT Rn 23100 [.sl .share .stm a0, .int .i64 a1] []
def Rbm (t3 : Int) (b100_0 : List Int) (b100_1 : List (List Stm)) : Option (Unit ⊕ Bool) := Qdl Tb GT Rgv 23301 [.bp 100 0, .int .i64 t3] [.var [.sl .share .int b100_0, .sl .share .stms b100_1]]
def Ref (t0 : List Int) (t1 : List Int) (t5 : Int) : Option (Unit ⊕ Bool) := Qdl Tb GT Rgv 9701 [.sl .share .int t0, .sl .share .int t1, .int .i64 t5] []
def Rch (a0 : Exp) (a1 : Exp) : Option (Bool) := Qdl Tb GT Rn 9800 [.agg (rowT .exp a0), .agg (rowT .exp a1)] []
def Rcy (t0 : List Stm) (t1 : List Stm) (t5 : Int) : Option (Unit ⊕ Bool) := Qdl Tb GT Rgv 9901 [.sl .share .stm t0, .sl .share .stm t1, .int .i64 t5] []
def Rae (t0 : List UInt8) (t5 : Int) (t9 : Int) (t10 : Int) : Option (List UInt8 × Int × Int × Int) := Qdl Tb GT Rtp 33302 [.str t0, .fn 33100 [], .int .i64 t5, .sl .full .fn ([33100, 33200] : List Nat), .int .i64 t9, .int .i64 t10] []
def Riy (a0 : Int) : Option (Bool) := Qdl Tb GT Rn 33200 [.int .u8 a0] []
def Raf (t0 : List UInt8) (t5 : Int) (t9 : Int) (t10 : Int) : Option (List UInt8 × Int × Int × Int) := Qdl Tb GT Rtp 33302 [.str t0, .fn 33200 [], .int .i64 t5, .sl .full .fn ([33100, 33200] : List Nat), .int .i64 t9, .int .i64 t10] []
def Rbq (t0 : List UInt8) (t9 : Int) (t10 : Int) : Option (List UInt8 ⊕ (List UInt8 × Int)) := Qdl Tb GT Rxn 33301 [.str t0, .sl .full .fn ([33100, 33200] : List Nat), .int .i64 t9, .int .i64 t10] []
def strings_HasPrefix (a0 : List UInt8) (a1 : List UInt8) : Option (Bool) := Qdl Tb GT Rn 37500 [.str a0, .str a1] []
def Rbr (t0 : List UInt8) (t31m : Md) (t31 : List (List UInt8)) (t32 : Int) (t33 : Int) : Option (List UInt8 ⊕ (List UInt8 × Int)) := Qdl Tb GT Rxo 33303 [.str t0, .sl t31m .str t31, .int .i64 t32, .int .i64 t33] []
def strings_IndexByte (a0 : List UInt8) (a1 : Int) : Option (Int) := Qdl Tb GT Rcs 37600 [.str a0, .int .u8 a1] []
def Rei (t3b : Bool) (t3 : List Int) (t4 : Int) (t5 : Int) (b0_0 : List Int) (b0_1 : Int) : Option ((Bool × List Int) × List Int × Int) := Qdl Tb GT Rxh 22301 [.bp 0 0, .sl (.own t3b) .int t3, .int .i64 t4, .int .i64 t5] [.var [.sl .share .u8 b0_0, .int .i64 b0_1]]
def Rco (a1 : Int) (a2 : Int) (a3 : Int) (a4 : Bool) (a0b : List Int) (a0p : Int) : Option (List Stm × List Int × Int) := Qdl Tb GT Rsu 4600 [.bp 0 0, .int .i64 a1, .int .i64 a2, .int .i64 a3, .bool a4] [.var [.sl .share .u8 a0b, .int .i64 a0p]]
def Ran (a0 : List Stm) : Option (Int) := Qdl Tb GT Rcs 4000 [.sl .share .stm a0] []
def Rej (t5m : Md) (t5 : List Stm) (b0_0 : List Int) (b0_1 : Int) : Option ((Md × List Stm) × List Int × Int) := Qdl Tb GT s4701 4701 [.bp 0 0, .sl t5m .stm t5] [.var [.sl .share .u8 b0_0, .int .i64 b0_1]]
def Rbb (a0 : Int) (a1 : Int) : Option (Int × Int × (Md × List Exp)) := Qdl Tb GT s300 300 [.int .i64 a0, .int .i64 a1] []
def Rdt (a0 : Stm) : Option (List (List UInt8)) := Qdl Tb GT Rhj 46400 [.agg (rowT .stm a0)] []
def Rdh (t0 : List Stm) (t3b : Bool) (t3 : List (List UInt8)) (t4 : Int) : Option ((Bool × List (List UInt8))) := Qdl Tb GT Ryg 45901 [.sl .share .stm t0, .sl (.own t3b) .str t3, .int .i64 t4] []
def Rhm (a0 : List UInt8) : Option (Bool) := Qdl Tb GT Rn 34900 [.str a0] []
def Rbj (t0 : List (List UInt8)) (t3 : List UInt8) (t4 : Int) : Option (List UInt8 ⊕ (List UInt8 × List UInt8)) := Qdl Tb GT Rxs 35001 [.sl .share .str t0, .str t3, .int .i64 t4] []
def Rf (a1 : Int) (a0tokens : List (List UInt8)) (a0at : Int) (a0failed : Bool) : Option (Exp × List (List UInt8) × Int × Bool) := Qdl Tb GT Rrv 34400 [.bp 0 0, .int .i64 a1] [.var [.sl .share .str a0tokens, .int .i64 a0at, .bool a0failed]]
def Rk (a0tokens : List (List UInt8)) (a0at : Int) (a0failed : Bool) : Option (Int × List (List UInt8) × Int × Bool) := Qdl Tb GT Rru 34000 [.bp 0 0] [.var [.sl .share .str a0tokens, .int .i64 a0at, .bool a0failed]]
def Rcg (t0 : List Int) (t5 : List Int) (t6 : Int) (t7 : Int) : Option (List Int ⊕ (List Int × Bool)) := Qdl Tb GT Rrq 22701 [.sl .share .int t0, .sl .share .int t5, .int .i64 t6, .int .i64 t7] []
def Rbe (a0 : List Stm) (a1 : Int) (a2 : Int) (a3 : Int) : Option (Bool × Int) := Qdl Tb GT s5300 5300 [.sl .share .stm a0, .int .i64 a1, .int .i64 a2, .bp 0 0] [.var [.int .i64 a3]]
def Rbo (t0 : Int) (t3 : List UInt8) (t4 : Int) : Option (Unit ⊕ Int) := Qdl Tb GT Rxk 31801 [.int .u8 t0, .str t3, .int .i64 t4] []
def Riv (a0 : List UInt8) (a1 : Int) : Option (Int) := Qdl Tb GT Rcs 31900 [.str a0, .int .i64 a1] []
def Rnv (a0 : List UInt8) : Option (Bool) := Qdl Tb GT Rn 32000 [.str a0] []
def Rdi (t0 : List UInt8) (t3 : Int) (t4 : Int) : Option (Int ⊕ (Int × Int)) := Qdl Tb GT Rxl 32301 [.str t0, .int .i64 t3, .int .i64 t4] []
def Ral (a0 : List (List UInt8)) (a1 : Int) (a2 : Int) : Option (Stm × Int) := Qdl Tb GT Rrx 46500 [.sl .share .str a0, .int .i64 a1, .int .i64 a2] []
def Rp (a0 : List (List UInt8)) (a1 : Int) : Option (Exp × Int) := Qdl Tb GT Rmf 46600 [.sl .share .str a0, .int .i64 a1] []
def Rc (a0 : List UInt8) : Option (Int) := Qdl Tb GT Rcs 32500 [.str a0] []
def Rdg (t0 : List Int) (t3 : Int) : Option (List Int ⊕ (List Int × Bool)) := Qdl Tb GT Rrq 23201 [.sl .share .int t0, .int .i64 t3] []
def Rx (a0 : List Stm) (a1 : Int) : Option (Bool) := Qdl Tb GT Rn 6200 [.sl .share .stm a0, .int .i64 a1] []
def Rcc (t0 : List Stm) (t1 : Int) (t5 : Int) : Option (Unit ⊕ Bool) := Qdl Tb GT Rgv 23101 [.sl .share .stm t0, .int .i64 t1, .int .i64 t5] []
def Rde (t5 : Int) (b100_0 : Int) (b100_1 : Int) (b100_2 : List Exp) (b101_0 : Int) (b101_1 : Int) (b101_2 : List Exp) : Option (Unit ⊕ Bool) := Qdl Tb GT Rgv 9801 [.bp 100 0, .bp 101 0, .int .i64 t5] [.var [.int .i64 b100_0, .int .i64 b100_1, .sl .share .exp b100_2], .var [.int .i64 b101_0, .int .i64 b101_1, .sl .share .exp b101_2]]
def Rke (a1 : Int) (a2 : Int) (a3 : Bool) (a0b : List Int) (a0p : Int) : Option (List Stm × List Int × Int) := Qdl Tb GT Rsu 4500 [.bp 0 0, .int .i64 a1, .int .i64 a2, .bool a3] [.var [.sl .share .u8 a0b, .int .i64 a0p]]
def Reh (t1 : Int) (t2 : Int) (t3 : Int) (t4 : Bool) (t11b : Bool) (t11 : List Stm) (t12 : Int) (b0_0 : List Int) (b0_1 : Int) : Option ((Bool × List Stm) × List Int × Int) := Qdl Tb GT s4601 4601 [.bp 0 0, .int .i64 t1, .int .i64 t2, .int .i64 t3, .bool t4, .sl (.own t11b) .stm t11, .int .i64 t12] [.var [.sl .share .u8 b0_0, .int .i64 b0_1]]
def Reg (t0 : List Stm) (t3 : Int) (t4 : Int) : Option (Int) := Qdl Tb GT Rvv 4001 [.sl .share .stm t0, .int .i64 t3, .int .i64 t4] []
def Res (a0 : Int) : Option (List UInt8) := Qdl Tb GT Rdo 32400 [.int .i64 a0] []
def Rgd (a0 : List (List UInt8)) (a1 : Exp) : Option (List (List UInt8)) := Qdl Tb GT Rhj 46700 [.sl (.own true) .str a0, .agg (rowT .exp a1)] []
def Rcm (a0 : Exp) : Option (List (List UInt8)) := Qdl Tb GT Rhj 35300 [.agg (rowT .exp a0)] []
def Rai (a0tokens : List (List UInt8)) (a0at : Int) (a0failed : Bool) : Option (Exp × List (List UInt8) × Int × Bool) := Qdl Tb GT Rrv 34100 [.bp 0 0] [.var [.sl .share .str a0tokens, .int .i64 a0at, .bool a0failed]]
def Rkw (a0 : List UInt8) : Option (Int) := Qdl Tb GT Rcs 34200 [.str a0] []
def Rhy (a0 : Int) : Option (Int) := Qdl Tb GT Rcs 34300 [.int .i64 a0] []
def Rah (t1 : Int) (b0_0 : List (List UInt8)) (b0_1 : Int) (b0_2 : Bool) (b100_0 : Int) (b100_1 : Int) (b100_2b : Bool) (b100_2 : List Exp) (b101_0 : Int) (b101_1 : Int) (b101_2m : Md) (b101_2 : List Exp) : Option (List (List UInt8) × Int × Bool × Int × Int × (Bool × List Exp) × Int × Int × (Md × List Exp)) := Qdl Tb GT Rxr 34401 [.bp 0 0, .int .i64 t1, .bp 100 0, .bp 101 0] [.var [.sl .share .str b0_0, .int .i64 b0_1, .bool b0_2], .var [.int .i64 b100_0, .int .i64 b100_1, .sl (.own b100_2b) .exp b100_2], .var [.int .i64 b101_0, .int .i64 b101_1, .sl b101_2m .exp b101_2]]
def Rii (a0 : Stm) (a1 : Int) : Option (Bool) := Qdl Tb GT Rn 5200 [.rp (rowT .stm a0) 0, .int .i64 a1] []
def Rbi (t0 : List Stm) (t1 : Int) (t2 : Int) (t23 : Int) (t24 : Int) (b0_0 : Int) : Option (Int ⊕ (Bool × Int)) := Qdl Tb GT s5301 5301 [.sl .share .stm t0, .int .i64 t1, .int .i64 t2, .bp 0 0, .int .i64 t23, .int .i64 t24] [.var [.int .i64 b0_0]]
def Rgy (t0 : List UInt8) (t1 : Int) (t5 : Int) : Option (Int) := Qdl Tb GT Rvv 31901 [.str t0, .int .i64 t1, .int .i64 t5] []
def Ry (a0 : List (List UInt8)) (a1 : Int) (a2 : Int) : Option (Exp × Int) := Qdl Tb GT Rmf 32900 [.sl .share .str a0, .int .i64 a1, .int .i64 a2] []
def Rfh (t0 : List UInt8) (t3 : Int) : Option (Unit ⊕ Int) := Qdl Tb GT Rme 32501 [.str t0, .int .i64 t3] []
def Ris (a0 : Stm) (a1 : Int) : Option (Bool) := Qdl Tb GT Rn 6100 [.agg (rowT .stm a0), .int .i64 a1] []
def Rdx (t0 : List Stm) (t1 : Int) (t5 : Int) : Option (Unit ⊕ Bool) := Qdl Tb GT Rgv 6201 [.sl .share .stm t0, .int .i64 t1, .int .i64 t5] []
def Rhw (a0b : List Int) (a0p : Int) : Option (Stm × List Int × Int) := Qdl Tb GT Ros 4200 [.bp 0 0] [.var [.sl .share .u8 a0b, .int .i64 a0p]]
def Rny (a1 : Int) (a2 : Int) (a3 : Bool) (a0b : List Int) (a0p : Int) : Option (Stm × List Int × Int) := Qdl Tb GT Ros 4100 [.bp 0 0, .int .i64 a1, .int .i64 a2, .bool a3] [.var [.sl .share .u8 a0b, .int .i64 a0p]]
def Rap (a1 : Int) (a0b : List Int) (a0p : Int) : Option (Int × Int × (Md × List Exp) × List Int × Int) := Qdl Tb GT s400 700 [.bp 0 0, .int .i64 a1] [.var [.sl .share .u8 a0b, .int .i64 a0p]]
def Rkd (a1 : Int) (a2 : Int) (a0b : List Int) (a0p : Int) : Option (List Stm × List Int × Int) := Qdl Tb GT Rsu 4300 [.bp 0 0, .int .i64 a1, .int .i64 a2] [.var [.sl .share .u8 a0b, .int .i64 a0p]]
def Rgg (a1 : Int) (a0b : List Int) (a0p : Int) : Option (Stm × List Int × Int) := Qdl Tb GT Ros 4400 [.bp 0 0, .int .i64 a1] [.var [.sl .share .u8 a0b, .int .i64 a0p]]
def Rev (a0 : Int) : Option (Int) := Qdl Tb GT Rcs 32700 [.int .i64 a0] []
def Rif (a0 : Exp) : Option (Int) := Qdl Tb GT Rcs 35200 [.agg (rowT .exp a0)] []
def Rji (a0 : List (List UInt8)) (a1 : Bool) : Option (List (List UInt8)) := Qdl Tb GT Rhj 35100 [.sl (.own true) .str a0, .bool a1] []
def Rje (a0 : Int) : Option (List UInt8) := Qdl Tb GT Rdo 20700 [.int .i64 a0] []
def Rec (t0 : List UInt8) (t6 : Int) : Option (Unit ⊕ Int) := Qdl Tb GT Rme 34201 [.str t0, .agg [.str [124], .str [94], .str [38], .str ([61, 61]), .str [60], .str ([60, 60]), .str ([62, 62]), .str [43], .str [45], .str [42], .str [47], .str [37]], .int .i64 t6] []
def Rh (a0 : Int) (a1 : Int) (a2 : Bool) : Option (Bool) := Qdl Tb GT Rn 11100 [.int .i64 a0, .int .i64 a1, .bool a2] []
def Rcp (a0 : Exp) : Option (Bool) := Qdl Tb GT Rn 1200 [.agg (rowT .exp a0)] []
def Rew (a0 : List (List UInt8)) (a1 : Int) : Option (Exp × Int) := Qdl Tb GT Rmf 32600 [.sl .share .str a0, .int .i64 a1] []
def Rmp (a0 : List UInt8) : Option (Int) := Qdl Tb GT Rcs 32800 [.str a0] []
def Rfs (a0 : Int) (a1 : Exp) (a2 : Exp) : Option (Int × Int × (Md × List Exp)) := Qdl Tb GT s300 500 [.int .i64 a0, .agg (rowT .exp a1), .agg (rowT .exp a2)] []
def Rbh (t0 : List (List UInt8)) (t2 : Int) (t9 : Int) (b100_0 : Int) (b100_1 : Int) (b100_2b : Bool) (b100_2 : List Exp) (b101_0 : Int) (b101_1 : Int) (b101_2m : Md) (b101_2 : List Exp) : Option (Int × Int × Int × (Bool × List Exp) × Int × Int × (Md × List Exp)) := Qdl Tb GT Rxm 32901 [.sl .share .str t0, .int .i64 t2, .bp 100 0, .bp 101 0, .int .i64 t9] [.var [.int .i64 b100_0, .int .i64 b100_1, .sl (.own b100_2b) .exp b100_2], .var [.int .i64 b101_0, .int .i64 b101_1, .sl b101_2m .exp b101_2]]
def Rfv (a0 : Stm) : Option (Bool) := Qdl Tb GT Rn 6000 [.agg (rowT .stm a0)] []
def Rbv (a0 : Stm) (a1 : Bool) : Option (Bool) := Qdl Tb GT Rn 5700 [.agg (rowT .stm a0), .bool a1] []
def Rbu (a0 : Stm) (a1 : Bool) : Option (Bool) := Qdl Tb GT Rn 5800 [.agg (rowT .stm a0), .bool a1] []
def Rbc (a0 : Exp) : Option (Bool) := Qdl Tb GT Rn 1900 [.agg (rowT .exp a0)] []
def Rex (a0b : List Int) (a0p : Int) : Option (Int × Int × (Md × List Exp) × List Int × Int) := Qdl Tb GT s400 400 [.bp 0 0] [.var [.sl .share .u8 a0b, .int .i64 a0p]]
def Rnx (a0b : List Int) (a0p : Int) : Option (Int × List Int × Int) := Qdl Tb GT s200 600 [.bp 0 0] [.var [.sl .share .u8 a0b, .int .i64 a0p]]
def Rgc (a0 : Int) : Option (Bool) := Qdl Tb GT Rn 1700 [.int .i64 a0] []
def Reb (a0 : Exp) (a1 : Int) : Option (Bool) := Qdl Tb GT Rn 1100 [.agg (rowT .exp a0), .int .i64 a1] []
def Rge (t0 : List UInt8) (t3 : Int) : Option (Unit ⊕ Int) := Qdl Tb GT Rme 32801 [.str t0, .int .i64 t3] []
def Rgw (a0 : Exp) : Option (Bool) := Qdl Tb GT Rn 5900 [.agg (rowT .exp a0)] []
def Rjy (a0 : Exp) (a1 : Int) : Option (Bool) := Qdl Tb GT Rn 1800 [.agg (rowT .exp a0), .int .i64 a1] []
def Rjp (a0 : Int) : Option (Bool) := Qdl Tb GT Rn 1000 [.int .i64 a0] []
theorem fE (sig : Sig) (p : ProcT) {g : Nat} {tv : List TV} {bv : List BT} {x : SumT sig} {t : Option (SumT sig)} (h : t = some x) (hr : runC (phi Tb GT sg) Tb GT p.code (Qkz p (mkST p.ins tv p.bins bv)) (finT p sig) = t := by kernel_rfl) (hs : (sg g, Tb g, p.kind, tv.length, bv.length, Qhk p tv bv, p.two) = (sig, some p, .fn, p.ins.length, p.bins.length, true, false) := by kernel_rfl) : Qdl Tb GT sig g tv bv = some x := by
 simp only [Zm] at hs
 exact fn_le' (F := Tb) (G := GT) (sg := sg) hs.1 hs.2.1 hs.2.2.1 hs.2.2.2.1 hs.2.2.2.2.1 hs.2.2.2.2.2.1 hs.2.2.2.2.2.2 (hr.trans h)
theorem lE (sig : Sig) (p : ProcT) {g : Nat} {tv : List TV} {bv : List BT} {x : SumT sig} {t : Option (SumT sig)} (h : t = some x) (hr : runC (phi Tb GT sg) Tb GT p.code (mkST p.ins tv p.bins bv) (finL Tb GT g p sig) = t := by kernel_rfl) (hs : (sg g, Tb g, p.kind, tv.length, bv.length) = (sig, some p, .loop, p.ins.length, p.bins.length) := by kernel_rfl) : Qdl Tb GT sig g tv bv = some x := by
 simp only [Zm] at hs
 exact loop_le' (F := Tb) (G := GT) (sg := sg) hs.1 hs.2.1 hs.2.2.1 hs.2.2.2.1 hs.2.2.2.2 (hr.trans h)
end Go.TFnSourceEnd
end