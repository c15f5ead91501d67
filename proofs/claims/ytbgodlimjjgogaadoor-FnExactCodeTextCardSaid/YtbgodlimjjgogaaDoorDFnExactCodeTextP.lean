import Derived.Test.YtbgodlimjjgogaaDoorLkA
import Derived.Test.YtbgodlimjjgogaaDoorPm2
import Derived.Test.YtbgodlimjjgogaaDoorPm4
import Derived.Test.YtbgodlimjjgogaaDoorPm5
import Derived.Test.YtbgodlimjjgogaaDoorChecked
import Derived.KernelRfl
noncomputable section
set_option linter.unusedVariables false
namespace Go.TFnExactCodeText
open Go Go.RowKit Go.Vs Go.Tv
@[reducible] def oo (d : Nat) (k : KT) : AOpT := ⟨some d, k, none, []⟩
@[reducible] def op (d : Nat) (k : KT) (f : List Nat) : AOpT := ⟨some d, k, none, f⟩
@[reducible] def on (k : KT) (f : List Nat) : AOpT := ⟨none, k, none, f⟩
@[reducible] def og (d : Option Nat) (k : KT) (i : Nat) (b : Bool) (f : List Nat) : AOpT := ⟨d, k, some (i, b), f⟩
@[reducible] def tt (i : Nat) : OpT := .tmp i
@[reducible] def nn (i : Int) : OpT := .const (.int .i64 i)
@[reducible] def rr (l : List AOpT) : ACT := .region false l
@[reducible] def zl (d a : Nat) : AOpT := ⟨some d, .load 1 false false (.tmp a), none, []⟩
@[reducible] def zL (d a i : Nat) : AOpT := ⟨some d, .load 1 false false (.tmp a), some (i, true), []⟩
@[reducible] def zm (d a : Nat) : AOpT := ⟨some d, .mv (.tmp a), none, []⟩
@[reducible] def zM (d a i : Nat) : AOpT := ⟨some d, .mv (.tmp a), some (i, true), []⟩
@[reducible] def zf (d k a : Nat) : AOpT := ⟨some d, .fadr k (.tmp a), none, []⟩
@[reducible] def zF (d k a i : Nat) : AOpT := ⟨some d, .fadr k (.tmp a), some (i, true), []⟩
@[reducible] def zp (d a b : Nat) : AOpT := ⟨some d, .pick (.tmp a) (.tmp b) (.const (.bool false)), none, []⟩
@[reducible] def zq (d a b : Nat) : AOpT := ⟨some d, .pick (.tmp a) (.const (.bool true)) (.tmp b), none, []⟩
@[reducible] def zb (d : Nat) (o : BinOp) (a : Nat) (k : Int) : AOpT := ⟨some d, .bin o (.tmp a) (.const (.int .i64 k)), none, []⟩
@[reducible] def zt (d : Nat) (o : BinOp) (a b : Nat) : AOpT := ⟨some d, .bin o (.tmp a) (.tmp b), none, []⟩
@[reducible] def zn (d : Nat) (o : BinOp) (a : Nat) (k : Int) (i : Nat) : AOpT := ⟨some d, .bin o (.tmp a) (.const (.int .i64 k)), some (i, true), []⟩
@[reducible] def zg (d : Nat) (o : BinOp) (a b i : Nat) : AOpT := ⟨some d, .bin o (.tmp a) (.tmp b), some (i, true), []⟩
@[reducible] def zc (d a : Nat) : AOpT := ⟨some d, .len (.tmp a), none, []⟩
@[reducible] def yF (d k a i : Nat) : AOpT := ⟨some d, .fadr k (.tmp a), some (i, false), []⟩
@[reducible] def yM (d a i : Nat) : AOpT := ⟨some d, .mv (.tmp a), some (i, false), []⟩
@[reducible] def yL (d a i : Nat) : AOpT := ⟨some d, .load 1 false false (.tmp a), some (i, false), []⟩
@[reducible] def yi (d n a b : Nat) : AOpT := ⟨some d, .iadr n (.tmp a) (.tmp b), none, []⟩
@[reducible] def yI (d n a b i : Nat) : AOpT := ⟨some d, .iadr n (.tmp a) (.tmp b), some (i, true), []⟩
@[reducible] def yl (d n a : Nat) : AOpT := ⟨some d, .load n true false (.tmp a), none, []⟩
@[reducible] def ya (d n g a : Nat) : AOpT := ⟨some d, .call n g [.tmp a], none, []⟩
@[reducible] def yb (d n g a b : Nat) : AOpT := ⟨some d, .call n g [.tmp a, .tmp b], none, []⟩
@[reducible] def ye (d n a : Nat) : AOpT := ⟨some d, .ext n (.tmp a), none, []⟩
@[reducible] def yt (d a : Nat) : AOpT := ⟨some d, .mv (.take a), none, []⟩
@[reducible] def yn (d : Nat) (k : Int) : AOpT := ⟨some d, .mv (.const (.int .i64 k)), none, []⟩
@[reducible] def yc (d a : Nat) : AOpT := ⟨some d, .nilck (.tmp a), none, []⟩
@[reducible] def ys (n a b : Nat) (f : List Nat) : AOpT := ⟨none, .store n (.tmp a) (.tmp b), none, f⟩
@[reducible] def yx (d a : Nat) (f : List Nat) : AOpT := ⟨some d, .nilck (.tmp a), none, f⟩
@[reducible] def yf (d k a : Nat) (f : List Nat) : AOpT := ⟨some d, .fadr k (.tmp a), none, f⟩
@[reducible] def yd (d a : Nat) (f : List Nat) : AOpT := ⟨some d, .load 1 false false (.tmp a), none, f⟩
@[reducible] def yo (d : Nat) (b : Bool) : AOpT := ⟨some d, .mv (.const (.bool b)), none, []⟩
@[reducible] def yr (l : List AOpT) (c : ACT) : ACT := .seq (.region false l) c
@[reducible] def yw (i : Nat) (a b : ACT) : ACT := .cond (.tmp i) a b
@[reducible] def pF (a b : List Nat) (r : List RS) (c : ACT) : ProcT := { kind := .fn, ins := a, bins := b, res := r, code := c }
@[reducible] def pL (a b : List Nat) (c : ACT) : ProcT := { kind := .loop, ins := a, bins := b, code := c }
@[reducible] def zG (d : Nat) (k : KT) (i : Nat) : AOpT := ⟨some d, k, some (i, true), []⟩
def GT (i : Nat) : List TV := if i = 0 then [.str [124], .str [94], .str [38], .str ([61, 61]), .str [60], .str ([60, 60]), .str ([62, 62]), .str [43], .str [45], .str [42], .str [47], .str [37]] else []
def fids : List (Nat × Nat) := [(1000, 29), (1600, 38), (1700, 37), (5000, 28), (6400, 36), (11800, 43), (11900, 35), (12000, 18), (12100, 8), (12200, 27), (12300, 11), (14600, 13), (14700, 30), (14800, 15), (14900, 31), (15000, 34), (15100, 17), (20500, 20), (20600, 19), (20700, 21), (20800, 7), (20900, 22), (21000, 24), (21100, 9), (21700, 14), (21800, 16), (21900, 6), (22000, 23)]
noncomputable def ctx : Ctx := { P := Go.Proofs.Tryd.prog, fid := fun g => (Vs.look g fids).getD 0, gm := fun i => if i = 0 then 0 else 1000000, G := GA GT, fx := [(1, powFx)] }
def p1000 : ProcT := pF [0] [] [.tmp 2] (yr [yo 2 false]
 (yr [zm 3 0,
zb 4 .geq 3 1,
zm 5 4,
zM 6 0 5,
zn 7 .leq 6 12 5,
zp 8 5 7,
zm 2 8]
 .ret))
def p1600 : ProcT := pF [0, 1, 2] [] [.tmp 6] (yr [yo 6 false]
 (yr [zm 7 0,
zm 8 1,
zt 9 .geq 7 8,
zm 10 9,
zM 11 0 10,
zM 12 2 10,
zg 13 .leq 11 12 10,
zp 14 10 13,
zm 6 14]
 .ret))
def p1700 : ProcT := pF [0] [] [.tmp 2] (yr [yo 2 false]
 (yr [zm 3 0,
oo 4 (.call 1600 0 [tt 3, nn 1, nn 12]),
zm 2 4]
 .ret))
def p5000 : ProcT := pF [0] [] [.tmp 2] (yr [yo 2 false]
 (yr [zm 3 0,
oo 4 (.bin .geq (tt 3) (nn (-2147483648))),
zm 5 4,
zM 6 0 5,
zn 7 .leq 6 2147483647 5,
zp 8 5 7,
zm 2 8]
 .ret))
def p6400 : ProcT := pF [0] [] [.tmp 2] (yr [yo 2 false]
 (yr [zm 3 0,
oo 4 (.call 1600 0 [tt 3, nn (-2147483648), nn 2147483647]),
zm 2 4]
 .ret))
def p11800 : ProcT := pF [0, 1] [] [.tmp 4] (yr [yo 4 false]
 (.seq (yr [zm 5 1]
 (yw 5 (yr [zm 6 0,
oo 7 (.call 1600 0 [tt 6, nn 0, nn 11]),
zm 4 7]
 .ret) .skip))
 (yr [zm 8 0,
zb 9 .eql 8 0,
zm 4 9]
 .ret)))
def p11900 : ProcT := pF [0, 1, 2, 3] [] [.tmp 8] (yr [oo 4 (.box 100 (tt 0)),
yo 8 false]
 (yr [zf 9 1 4,
zl 10 9,
zm 11 1,
yb 12 11800 0 10 11,
zm 13 12,
zF 14 2 4 13,
zL 15 14 13,
zM 16 2 13,
zG 17 (.call 11800 0 [tt 15, tt 16]) 13,
zp 18 13 17,
zm 19 18,
zF 20 3 4 19,
zL 21 20 19,
zM 22 3 19,
zG 23 (.call 11800 0 [tt 21, tt 22]) 19,
zp 24 19 23,
zm 8 24]
 .ret))
def p12000 : ProcT := pF [0, 1] [] [.tmp 4] (yr [oo 2 (.box 100 (tt 0)),
yo 4 false]
 (.seq (yr [zf 5 0 2,
zl 6 5]
 (.block 0 (yr [zb 8 .eql 6 1,
zm 7 8]
 (yw 7 (yr [yl 9 5 2,
oo 10 (.call 11900 0 [tt 9, .const (.bool true), .const (.bool false), .const (.bool false)]),
zm 11 10,
zF 12 4 2 11,
zL 13 12 11,
zG 14 (.call 6400 0 [tt 13]) 11,
zp 15 11 14,
zm 4 15]
 .ret) (yr [zb 17 .eql 6 2,
zm 16 17]
 (yw 16 (yr [yl 18 5 2,
oo 19 (.call 11900 0 [tt 18, .const (.bool true), .const (.bool true), .const (.bool false)]),
zm 20 19,
zF 21 4 2 20,
zL 22 21 20,
zn 23 .eql 22 0 20,
zp 24 20 23,
zm 4 24]
 .ret) (yr [zb 26 .eql 6 3,
zm 25 26]
 (yw 25 (yr [yl 27 5 2,
oo 28 (.call 11900 0 [tt 27, .const (.bool true), .const (.bool true), .const (.bool true)]),
zm 29 28,
zF 30 4 2 29,
zL 31 30 29,
zG 32 (.call 1700 0 [tt 31]) 29,
zp 33 29 32,
zm 4 33]
 .ret) (yr [zb 35 .eql 6 4,
zm 34 35]
 (yw 34 (yr [yl 36 5 2,
oo 37 (.call 11900 0 [tt 36, .const (.bool false), .const (.bool false), .const (.bool false)]),
zm 38 37,
zF 39 4 2 38,
zL 40 39 38,
zn 41 .geq 40 0 38,
zp 42 38 41,
zm 43 42,
zF 44 4 2 43,
zL 45 44 43,
zM 46 1 43,
zg 47 .lss 45 46 43,
zp 48 43 47,
zm 4 48]
 .ret) (yr [zb 50 .eql 6 5,
zm 49 50]
 (yw 49 (yr [yl 51 5 2,
oo 52 (.call 11900 0 [tt 51, .const (.bool false), .const (.bool true), .const (.bool false)]),
zm 53 52,
zF 54 4 2 53,
zL 55 54 53,
zn 56 .geq 55 0 53,
zp 57 53 56,
zm 58 57,
zF 59 4 2 58,
zL 60 59 58,
zM 61 1 58,
zg 62 .lss 60 61 58,
zp 63 58 62,
zm 4 63]
 .ret) (yr [zb 65 .eql 6 6,
zm 64 65]
 (yw 64 (yr [yl 66 5 2,
oo 67 (.call 11900 0 [tt 66, .const (.bool false), .const (.bool true), .const (.bool false)]),
zm 68 67,
zF 69 4 2 68,
zL 70 69 68,
zG 71 (.call 1600 0 [tt 70, nn 0, nn 2]) 68,
zp 72 68 71,
zm 4 72]
 .ret) (yr [zb 74 .eql 6 7,
zm 73 74]
 (yw 73 (yr [yl 75 5 2,
oo 76 (.call 11900 0 [tt 75, .const (.bool true), .const (.bool false), .const (.bool false)]),
zm 77 76,
zF 78 4 2 77,
zL 79 78 77,
zG 80 (.call 1600 0 [tt 79, nn 0, nn 2]) 77,
zp 81 77 80,
zm 4 81]
 .ret) (yr [zb 83 .eql 6 9,
zm 82 83]
 (yw 82 (yr [yl 84 5 2,
oo 85 (.call 11900 0 [tt 84, .const (.bool false), .const (.bool true), .const (.bool false)]),
zm 86 85,
zF 87 4 2 86,
zL 88 87 86,
zn 89 .eql 88 0 86,
zp 90 86 89,
zm 4 90]
 .ret) (.seq (yr [zb 92 .eql 6 8,
zm 91 92]
 (yw 91 .skip (rr [zb 93 .eql 6 10,
zm 91 93])))
 (yw 91 (yr [yl 94 5 2,
oo 95 (.call 11900 0 [tt 94, .const (.bool false), .const (.bool false), .const (.bool false)]),
zm 96 95,
zF 97 4 2 96,
zL 98 97 96,
zn 99 .eql 98 0 96,
zp 100 96 99,
zm 4 100]
 .ret) .skip))))))))))))))))))))
 (yr [yo 4 false]
 .ret)))
def p12100 : ProcT := pF [0] [] [.cell 2 5 true] (yr [oo 1 (.box 100 (tt 0)),
oo 2 (.alloc 101 [.int .i64 0, .int .i64 0, .int .i64 0, .int .i64 0, .int .i64 0])]
 (yr [oo 3 (.alloc 102 [.int .i64 0, .int .i64 0, .int .i64 0, .int .i64 0, .int .i64 0])]
 (yr [zf 4 0 1,
zl 5 4,
zf 6 0 3,
ys 1 6 5 []]
 (yr [zf 7 1 1,
zl 8 7,
zf 9 1 3,
ys 1 9 8 []]
 (yr [zf 10 2 1,
zl 11 10,
zf 12 2 3,
ys 1 12 11 []]
 (yr [zf 13 3 1,
zl 14 13,
zf 15 3 3,
ys 1 15 14 []]
 (yr [zf 16 4 1,
zl 17 16,
zf 18 4 3,
ys 1 18 17 []]
 (yr [yl 19 5 3,
ys 5 2 19 []]
 .ret))))))))
def p12200 : ProcT := pF [0] [] [.tmp 2] (yr [yo 2 false]
 (yr [zm 3 0,
zb 4 .geq 3 0,
zm 5 4,
zM 6 0 5,
zn 7 .lss 6 12 5,
zp 8 5 7,
zm 2 8]
 .ret))
def p12300 : ProcT := pF [0, 1] [] [.tmp 4] (yr [oo 2 (.box 100 (tt 0)),
yo 4 false]
 (.seq (.region true [yf 9 1 2 [100],
yd 10 9 [100],
ya 11 12200 0 10,
yf 12 2 2 [100],
yd 13 12 [100],
ya 14 12200 0 13,
yf 15 3 2 [100],
yd 16 15 [100],
ya 17 12200 0 16,
yf 18 4 2 [100],
yd 19 18 [100],
zm 5 11,
zm 6 14,
zm 7 17,
zm 8 19])
 (.seq (yr [zf 20 0 2,
zl 21 20]
 (.block 0 (yr [zb 23 .eql 21 1,
zm 22 23]
 (yw 22 (yr [yl 24 5 2,
zf 25 1 2,
zl 26 25,
zm 27 8,
oo 28 (.build [.int .i64 0, .int .i64 0, .int .i64 0, .int .i64 0, .int .i64 0] [(0, 1, nn 1), (1, 1, tt 26), (4, 1, tt 27)]),
oo 29 (.eqs false 5 (tt 24) (tt 28)),
zm 30 29,
zM 31 5 30,
zp 32 30 31,
zm 33 32,
zM 34 8 33,
zG 35 (.call 5000 0 [tt 34]) 33,
zp 36 33 35,
zm 4 36]
 .ret) (yr [zb 38 .eql 21 2,
zm 37 38]
 (yw 37 (yr [yl 39 5 2,
zf 40 1 2,
zl 41 40,
zf 42 2 2,
zl 43 42,
oo 44 (.build [.int .i64 0, .int .i64 0, .int .i64 0, .int .i64 0, .int .i64 0] [(0, 1, nn 2), (1, 1, tt 41), (2, 1, tt 43)]),
oo 45 (.eqs false 5 (tt 39) (tt 44)),
zm 46 45,
zM 47 5 46,
zp 48 46 47,
zm 49 48,
zM 50 6 49,
zp 51 49 50,
zm 4 51]
 .ret) (yr [zb 53 .eql 21 3,
zm 52 53]
 (yw 52 (yr [zm 54 5,
zm 55 54,
zM 56 6 55,
zp 57 55 56,
zm 58 57,
zM 59 7 58,
zp 60 58 59,
zm 61 60,
zM 62 8 61,
zG 63 (.call 1000 0 [tt 62]) 61,
zp 64 61 63,
zm 4 64]
 .ret) (yr [zb 66 .eql 21 4,
zm 65 66]
 (yw 65 (yr [yl 67 5 2,
zm 68 8,
oo 69 (.build [.int .i64 0, .int .i64 0, .int .i64 0, .int .i64 0, .int .i64 0] [(0, 1, nn 4), (4, 1, tt 68)]),
oo 70 (.eqs false 5 (tt 67) (tt 69)),
zm 71 70,
zM 72 8 71,
zn 73 .geq 72 0 71,
zp 74 71 73,
zm 75 74,
zM 76 8 75,
zM 77 1 75,
zg 78 .lss 76 77 75,
zp 79 75 78,
zm 4 79]
 .ret) (yr [zb 81 .eql 21 5,
zm 80 81]
 (yw 80 (yr [yl 82 5 2,
zf 83 2 2,
zl 84 83,
zm 85 8,
oo 86 (.build [.int .i64 0, .int .i64 0, .int .i64 0, .int .i64 0, .int .i64 0] [(0, 1, nn 5), (2, 1, tt 84), (4, 1, tt 85)]),
oo 87 (.eqs false 5 (tt 82) (tt 86)),
zm 88 87,
zM 89 6 88,
zp 90 88 89,
zm 91 90,
zM 92 8 91,
zn 93 .geq 92 0 91,
zp 94 91 93,
zm 95 94,
zM 96 8 95,
zM 97 1 95,
zg 98 .lss 96 97 95,
zp 99 95 98,
zm 4 99]
 .ret) (yr [zb 101 .eql 21 6,
zm 100 101]
 (yw 100 (yr [yl 102 5 2,
zf 103 2 2,
zl 104 103,
zm 105 8,
oo 106 (.build [.int .i64 0, .int .i64 0, .int .i64 0, .int .i64 0, .int .i64 0] [(0, 1, nn 6), (2, 1, tt 104), (4, 1, tt 105)]),
oo 107 (.eqs false 5 (tt 102) (tt 106)),
zm 108 107,
zM 109 6 108,
zp 110 108 109,
zm 111 110,
zM 112 8 111,
zn 113 .geq 112 0 111,
zp 114 111 113,
zm 115 114,
zM 116 8 115,
zn 117 .lss 116 3 115,
zp 118 115 117,
zm 4 118]
 .ret) (yr [zb 120 .eql 21 7,
zm 119 120]
 (yw 119 (yr [yl 121 5 2,
zf 122 1 2,
zl 123 122,
zm 124 8,
oo 125 (.build [.int .i64 0, .int .i64 0, .int .i64 0, .int .i64 0, .int .i64 0] [(0, 1, nn 7), (1, 1, tt 123), (4, 1, tt 124)]),
oo 126 (.eqs false 5 (tt 121) (tt 125)),
zm 127 126,
zM 128 5 127,
zp 129 127 128,
zm 130 129,
zM 131 8 130,
zn 132 .geq 131 0 130,
zp 133 130 132,
zm 134 133,
zM 135 8 134,
zn 136 .lss 135 3 134,
zp 137 134 136,
zm 4 137]
 .ret) (yr [zb 139 .eql 21 9,
zm 138 139]
 (yw 138 (yr [yl 140 5 2,
zf 141 2 2,
zl 142 141,
oo 143 (.build [.int .i64 0, .int .i64 0, .int .i64 0, .int .i64 0, .int .i64 0] [(0, 1, nn 9), (2, 1, tt 142)]),
oo 144 (.eqs false 5 (tt 140) (tt 143)),
zm 145 144,
zM 146 6 145,
zp 147 145 146,
zm 4 147]
 .ret) (.seq (yr [zb 149 .eql 21 8,
zm 148 149]
 (yw 148 .skip (rr [zb 150 .eql 21 10,
zm 148 150])))
 (yw 148 (yr [yl 151 5 2,
zf 152 0 2,
zl 153 152,
oo 154 (.build [.int .i64 0, .int .i64 0, .int .i64 0, .int .i64 0, .int .i64 0] [(0, 1, tt 153)]),
oo 155 (.eqs false 5 (tt 151) (tt 154)),
zm 4 155]
 .ret) .skip))))))))))))))))))))
 (yr [yo 4 false]
 .ret))))
def p14600 : ProcT := pF [0, 1] [] [.tmp 4] (yr [yn 4 0]
 (yr [zm 5 1,
zm 6 0,
zc 7 6,
zt 8 .sub 5 7,
zm 1 8]
 (.seq (yr [zm 9 1,
zb 10 .lss 9 0]
 (yw 10 (yr [oo 4 (.mv (nn (-1)))]
 .ret) .skip))
 (yr [zm 11 1,
zm 4 11]
 .ret))))
def p14700 : ProcT := pF [0] [] [.tmp 2] (yr [yo 2 false]
 (yr [zm 5 0,
zc 6 5,
zm 3 6]
 (.seq (yr [zm 7 3,
oo 8 (.call 1600 0 [tt 7, nn 1, nn 600]),
oo 9 (.un .not (tt 8))]
 (yw 9 (yr [yo 2 false]
 .ret) .skip))
 (.seq (yr [yn 4 0]
 (.block 0 (.label 14701)))
 (yr [zm 22 0,
zm 23 3,
zb 24 .sub 23 1,
yi 25 5 22 24,
zf 26 0 25,
zl 27 26,
zb 28 .eql 27 10,
zm 29 28,
yM 30 0 29,
yM 31 3 29,
og (some 32) (.bin .sub (tt 31) (nn 1)) 29 false [],
og (some 33) (.iadr 5 (tt 30) (tt 32)) 29 false [],
yF 34 0 33 29,
yL 35 34 29,
og (some 36) (.bin .eql (tt 35) (nn 4)) 29 false [],
zq 37 29 36,
zm 2 37]
 .ret)))))
def p14701 : ProcT := { kind := .loop, ins := [0, 3, 4], bins := [], outs := [0, 2, 3], bouts := [], code := (.seq (yr [zm 10 4,
zm 11 3,
zt 12 .lss 10 11]
 (yw 12 .skip (.exit 0)))
 (.seq (.block 1 (yr [zm 15 0,
zm 16 4,
yi 17 5 15 16,
yl 18 5 17,
zm 19 3,
yb 20 12000 0 18 19,
oo 21 (.un .not (tt 20))]
 (yw 21 (yr [yo 2 false]
 .ret) .skip)))
 (rr [zm 13 4,
zb 14 .add 13 1,
zm 4 14]))) }
def p14800 : ProcT := pF [0] [] [.tmp 2] (yr [oo 2 (.mv (.const (.sl (.own false) .quad [])))]
 (yr [zm 5 0,
zc 6 5,
oo 7 (.mksl 100 .quad (tt 6) (tt 6)),
yt 3 7]
 (.seq (yr [yn 4 0]
 (.block 0 (.label 14801)))
 (yr [yt 22 3,
yt 2 22]
 .ret))))
def p14801 : ProcT := { kind := .loop, ins := [0, 3, 4], bins := [100], outs := [2, 3], bouts := [100], code := (.seq (yr [zm 8 4,
zm 9 0,
zc 10 9,
zt 11 .lss 8 10]
 (yw 11 .skip (.exit 0)))
 (.seq (.block 1 (rr [zm 14 3,
zm 15 4,
zm 16 0,
zm 17 4,
yi 18 5 16 17,
yl 19 5 18,
ya 20 12100 0 19,
yi 21 5 14 15,
ys 5 21 20 []]))
 (rr [zm 12 4,
zb 13 .add 12 1,
zm 4 13]))) }
def p14900 : ProcT := pF [0] [] [.tmp 2] (yr [yo 2 false]
 (.seq (yr [zm 6 0,
zc 7 6,
zb 8 .lss 7 1,
zm 9 8,
yM 10 0 9,
og (some 11) (.len (tt 10)) 9 false [],
og (some 12) (.bin .gtr (tt 11) (nn 600)) 9 false [],
zq 13 9 12]
 (yw 13 (yr [yo 2 false]
 .ret) .skip))
 (.seq (yr [zm 14 0,
zc 15 14,
yn 16 0]
 (.block 0 (.label 14901)))
 (yr [zm 26 0,
zm 27 0,
zc 28 27,
zb 29 .sub 28 1,
yi 30 5 26 29,
zf 31 0 30,
zl 32 31,
zm 5 32]
 (yr [zm 33 5,
zb 34 .eql 33 10,
zm 35 34,
yM 36 5 35,
og (some 37) (.bin .eql (tt 36) (nn 4)) 35 false [],
zq 38 35 37,
zm 2 38]
 .ret)))))
def p14901 : ProcT := { kind := .loop, ins := [0, 14, 15, 16], bins := [], outs := [0, 2], bouts := [], code := (yr [zt 17 .lss 16 15]
 (.seq (yw 17 .skip (.exit 0))
 (.seq (.block 1 (yr [yi 18 5 14 16,
yl 19 5 18,
oo 4 (.alloc 100 [.int .i64 0, .int .i64 0, .int .i64 0, .int .i64 0, .int .i64 0]),
ys 5 4 19 []]
 (yr [yl 20 5 4,
zm 21 0,
zc 22 21,
yb 23 12300 0 20 22,
oo 24 (.un .not (tt 23))]
 (yw 24 (yr [yo 2 false]
 .ret) .skip))))
 (rr [zb 25 .add 16 1,
zm 16 25])))) }
def p15000 : ProcT := pF [0, 1] [] [.tmp 4] (yr [oo 2 (.box 100 (tt 0)),
oo 3 (.box 101 (tt 1)),
yo 4 false]
 (.seq (yr [zf 5 0 2,
zl 6 5,
zf 7 0 3,
zl 8 7,
zt 9 .neq 6 8]
 (yw 9 (yr [yo 4 false]
 .ret) .skip))
 (.seq (yr [zf 10 1 2,
zl 11 10,
zf 12 1 3,
zl 13 12,
zt 14 .neq 11 13]
 (yw 14 (yr [yo 4 false]
 .ret) .skip))
 (.seq (yr [zf 15 2 2,
zl 16 15,
zf 17 2 3,
zl 18 17,
zt 19 .neq 16 18]
 (yw 19 (yr [yo 4 false]
 .ret) .skip))
 (.seq (yr [zf 20 3 2,
zl 21 20,
zf 22 3 3,
zl 23 22,
zt 24 .neq 21 23]
 (yw 24 (yr [yo 4 false]
 .ret) .skip))
 (.seq (yr [zf 25 4 2,
zl 26 25,
zf 27 4 3,
zl 28 27,
zt 29 .neq 26 28]
 (yw 29 (yr [yo 4 false]
 .ret) .skip))
 (yr [yo 4 true]
 .ret)))))))
def p15100 : ProcT := pF [0, 1] [] [.tmp 4] (yr [yo 4 false]
 (.seq (yr [zm 6 0,
zc 7 6,
zm 8 1,
zc 9 8,
zt 10 .neq 7 9]
 (yw 10 (yr [yo 4 false]
 .ret) .skip))
 (.seq (yr [yn 5 0]
 (.block 0 (.label 15101)))
 (yr [yo 4 true]
 .ret))))
def p15101 : ProcT := { kind := .loop, ins := [0, 1, 5], bins := [], outs := [4], bouts := [], code := (.seq (yr [zm 11 5,
zm 12 0,
zc 13 12,
zt 14 .lss 11 13]
 (yw 14 .skip (.exit 0)))
 (.seq (.block 1 (.seq (.region true [zm 17 0,
zm 18 5,
yi 19 5 17 18,
yl 20 5 19,
zm 21 1,
zm 22 5,
yi 23 5 21 22,
yl 24 5 23,
yb 25 15000 0 20 24,
oo 26 (.un .not (tt 25))])
 (yw 26 (yr [yo 4 false]
 .ret) .skip)))
 (rr [zm 15 5,
zb 16 .add 15 1,
zm 5 16]))) }
def p20500 : ProcT := pF [0] [] [.tmp 2] (yr [oo 2 (.mv (.const (.str [])))]
 (.seq (yr [zm 3 0,
oo 4 (.bin .lss (tt 3) (nn (-9223372036854775807)))]
 (yw 4 (yr [oo 2 (.mv (.const (.str ([45, 57, 50, 50, 51, 51, 55, 50, 48, 51, 54, 56, 53, 52, 55, 55, 53, 56, 48, 56]))))]
 .ret) .skip))
 (.seq (yr [zm 5 0,
zb 6 .lss 5 0]
 (yw 6 (yr [zm 7 0,
oo 8 (.un .neg (tt 7)),
ya 9 20500 0 8,
oo 10 (.bin .add (.const (.str [45])) (tt 9)),
zm 2 10]
 .ret) .skip))
 (.seq (yr [zm 11 0,
zb 12 .lss 11 10]
 (yw 12 (yr [zm 13 0,
oo 14 (.bin .add (nn 48) (tt 13)),
oo 15 (.conv (.int .u8) (tt 14)),
oo 16 (.buildS .full .u8 [tt 15]),
oo 17 (.conv .bytesStr (tt 16)),
zm 2 17]
 .ret) .skip))
 (.seq (.region true [zm 18 0,
zb 19 .quo 18 10,
ya 20 20500 0 19,
zm 21 0,
zb 22 .rem 21 10,
oo 23 (.bin .add (nn 48) (tt 22)),
oo 24 (.conv (.int .u8) (tt 23)),
oo 25 (.buildS .full .u8 [tt 24]),
oo 26 (.conv .bytesStr (tt 25)),
zt 27 .add 20 26,
zm 2 27])
 .ret)))))
def p20600 : ProcT := pF [0] [] [.tmp 2] (yr [oo 2 (.mv (.const (.str [])))]
 (yr [zm 3 0,
ya 4 20500 0 3,
oo 5 (.bin .add (.const (.str [114])) (tt 4)),
zm 2 5]
 .ret))
def p20700 : ProcT := pF [0] [] [.tmp 2] (yr [oo 2 (.mv (.const (.str [])))]
 (.seq (yr [zm 3 0,
ya 4 1700 0 3,
oo 5 (.un .not (tt 4))]
 (yw 5 (yr [oo 2 (.mv (.const (.str [])))]
 .ret) .skip))
 (yr [oo 6 (.buildS .full .str [.const (.str [124]), .const (.str [94]), .const (.str [38]), .const (.str ([61, 61])), .const (.str [60]), .const (.str ([60, 60])), .const (.str ([62, 62])), .const (.str [43]), .const (.str [45]), .const (.str [42]), .const (.str [47]), .const (.str [37])]),
zm 7 0,
zb 8 .sub 7 1,
yi 9 1 6 8,
zl 10 9,
zm 2 10]
 .ret)))
def p20800 : ProcT := pF [0] [] [.tmp 2] (yr [oo 1 (.box 100 (tt 0)),
oo 2 (.mv (.const (.str [])))]
 (.seq (yr [yl 3 5 1,
oo 4 (.call 12000 0 [tt 3, nn 600]),
oo 5 (.un .not (tt 4))]
 (yw 5 (yr [oo 2 (.mv (.const (.str [])))]
 .ret) .skip))
 (.seq (yr [zf 6 0 1,
zl 7 6]
 (.block 0 (yr [zb 9 .eql 7 1,
zm 8 9]
 (yw 8 (.seq (.region true [yf 10 1 1 [100],
yd 11 10 [100],
ya 12 20600 0 11,
oo 13 (.bin .add (tt 12) (.const (.str ([32, 61, 32])))),
yf 14 4 1 [100],
yd 15 14 [100],
ya 16 20500 0 15,
zt 17 .add 13 16,
zm 2 17])
 .ret) (yr [zb 19 .eql 7 2,
zm 18 19]
 (yw 18 (.seq (.region true [yf 20 1 1 [100],
yd 21 20 [100],
ya 22 20600 0 21,
oo 23 (.bin .add (tt 22) (.const (.str ([32, 61, 32])))),
yf 24 2 1 [100],
yd 25 24 [100],
ya 26 20600 0 25,
zt 27 .add 23 26,
zm 2 27])
 .ret) (yr [zb 29 .eql 7 3,
zm 28 29]
 (yw 28 (.seq (.region true [yf 30 1 1 [100],
yd 31 30 [100],
ya 32 20600 0 31,
oo 33 (.bin .add (tt 32) (.const (.str ([32, 61, 32])))),
yf 34 2 1 [100],
yd 35 34 [100],
ya 36 20600 0 35,
zt 37 .add 33 36,
oo 38 (.bin .add (tt 37) (.const (.str [32]))),
yf 39 4 1 [100],
yd 40 39 [100],
ya 41 20700 0 40,
zt 42 .add 38 41,
oo 43 (.bin .add (tt 42) (.const (.str [32]))),
yf 44 3 1 [100],
yd 45 44 [100],
ya 46 20600 0 45,
zt 47 .add 43 46,
zm 2 47])
 .ret) (yr [zb 49 .eql 7 4,
zm 48 49]
 (yw 48 (yr [zf 50 4 1,
zl 51 50,
ya 52 20500 0 51,
oo 53 (.bin .add (.const (.str ([106, 117, 109, 112, 32]))) (tt 52)),
zm 2 53]
 .ret) (yr [zb 55 .eql 7 5,
zm 54 55]
 (yw 54 (.seq (.region true [yf 56 2 1 [100],
yd 57 56 [100],
ya 58 20600 0 57,
oo 59 (.bin .add (.const (.str ([122, 101, 114, 111, 32]))) (tt 58)),
oo 60 (.bin .add (tt 59) (.const (.str [32]))),
yf 61 4 1 [100],
yd 62 61 [100],
ya 63 20500 0 62,
zt 64 .add 60 63,
zm 2 64])
 .ret) (yr [zb 66 .eql 7 6,
zm 65 66]
 (yw 65 (.seq (.region true [yf 67 4 1 [100],
yd 68 67 [100],
ya 69 20500 0 68,
oo 70 (.bin .add (.const (.str ([115, 101, 110, 100, 32]))) (tt 69)),
oo 71 (.bin .add (tt 70) (.const (.str [32]))),
yf 72 2 1 [100],
yd 73 72 [100],
ya 74 20600 0 73,
zt 75 .add 71 74,
zm 2 75])
 .ret) (yr [zb 77 .eql 7 7,
zm 76 77]
 (yw 76 (.seq (.region true [yf 78 1 1 [100],
yd 79 78 [100],
ya 80 20600 0 79,
oo 81 (.bin .add (tt 80) (.const (.str ([32, 61, 32, 114, 101, 99, 118, 32])))),
yf 82 4 1 [100],
yd 83 82 [100],
ya 84 20500 0 83,
zt 85 .add 81 84,
zm 2 85])
 .ret) (yr [zb 87 .eql 7 8,
zm 86 87]
 (yw 86 (yr [oo 2 (.mv (.const (.str ([121, 105, 101, 108, 100]))))]
 .ret) (yr [zb 89 .eql 7 9,
zm 88 89]
 (yw 88 (yr [zf 90 2 1,
zl 91 90,
ya 92 20600 0 91,
oo 93 (.bin .add (.const (.str ([112, 114, 105, 110, 116, 32]))) (tt 92)),
zm 2 93]
 .ret) .skip))))))))))))))))))))
 (yr [oo 2 (.mv (.const (.str ([104, 97, 108, 116]))))]
 .ret))))
def p20900 : ProcT := pF [0] [] [.tmp 2] (yr [oo 2 (.mv (.const (.str [])))]
 (yr [zm 3 0,
ya 4 22000 0 3,
oo 5 (.bin .add (.const (.str [114])) (tt 4)),
zm 2 5]
 .ret))
def p21000 : ProcT := pF [0] [] [.tmp 2] (yr [oo 2 (.mv (.const (.str [])))]
 (.seq (yr [zm 3 0,
ya 4 1000 0 3,
oo 5 (.un .not (tt 4))]
 (yw 5 (yr [oo 2 (.mv (.const (.str [])))]
 .ret) .skip))
 (yr [zm 6 0,
zb 7 .sub 6 1,
oo 8 (.iadrA 1 12 (.glob 0) (tt 7)),
zl 9 8,
zm 2 9]
 .ret)))
def p21100 : ProcT := pF [0] [] [.tmp 2] (yr [oo 1 (.box 100 (tt 0)),
oo 2 (.mv (.const (.str [])))]
 (.seq (yr [yl 6 5 1,
oo 7 (.call 12300 0 [tt 6, nn 600]),
oo 8 (.un .not (tt 7))]
 (yw 8 (yr [oo 2 (.mv (.const (.str [])))]
 .ret) .skip))
 (.seq (.region true [yf 9 1 1 [100],
yd 10 9 [100],
ya 11 20900 0 10,
yf 12 2 1 [100],
yd 13 12 [100],
ya 14 20900 0 13,
yf 15 4 1 [100],
yd 16 15 [100],
ya 17 22000 0 16,
zm 3 11,
zm 4 14,
zm 5 17])
 (.seq (yr [zf 18 0 1,
zl 19 18]
 (.block 0 (yr [zb 21 .eql 19 1,
zm 20 21]
 (yw 20 (yr [zm 22 3,
oo 23 (.bin .add (tt 22) (.const (.str ([32, 61, 32])))),
zm 24 5,
zt 25 .add 23 24,
zm 2 25]
 .ret) (yr [zb 27 .eql 19 2,
zm 26 27]
 (yw 26 (yr [zm 28 3,
oo 29 (.bin .add (tt 28) (.const (.str ([32, 61, 32])))),
zm 30 4,
zt 31 .add 29 30,
zm 2 31]
 .ret) (yr [zb 33 .eql 19 3,
zm 32 33]
 (yw 32 (.seq (.region true [zm 34 3,
oo 35 (.bin .add (tt 34) (.const (.str ([32, 61, 32])))),
zm 36 4,
zt 37 .add 35 36,
oo 38 (.bin .add (tt 37) (.const (.str [32]))),
yf 39 4 1 [100],
yd 40 39 [100],
ya 41 21000 0 40,
zt 42 .add 38 41,
oo 43 (.bin .add (tt 42) (.const (.str [32]))),
yf 44 3 1 [100],
yd 45 44 [100],
ya 46 20900 0 45,
zt 47 .add 43 46,
zm 2 47])
 .ret) (yr [zb 49 .eql 19 4,
zm 48 49]
 (yw 48 (yr [zm 50 5,
oo 51 (.bin .add (.const (.str ([106, 117, 109, 112, 32]))) (tt 50)),
zm 2 51]
 .ret) (yr [zb 53 .eql 19 5,
zm 52 53]
 (yw 52 (yr [zm 54 4,
oo 55 (.bin .add (.const (.str ([122, 101, 114, 111, 32]))) (tt 54)),
oo 56 (.bin .add (tt 55) (.const (.str [32]))),
zm 57 5,
zt 58 .add 56 57,
zm 2 58]
 .ret) (yr [zb 60 .eql 19 6,
zm 59 60]
 (yw 59 (yr [zm 61 5,
oo 62 (.bin .add (.const (.str ([115, 101, 110, 100, 32]))) (tt 61)),
oo 63 (.bin .add (tt 62) (.const (.str [32]))),
zm 64 4,
zt 65 .add 63 64,
zm 2 65]
 .ret) (yr [zb 67 .eql 19 7,
zm 66 67]
 (yw 66 (yr [zm 68 3,
oo 69 (.bin .add (tt 68) (.const (.str ([32, 61, 32, 114, 101, 99, 118, 32])))),
zm 70 5,
zt 71 .add 69 70,
zm 2 71]
 .ret) (yr [zb 73 .eql 19 8,
zm 72 73]
 (yw 72 (yr [oo 2 (.mv (.const (.str ([121, 105, 101, 108, 100]))))]
 .ret) (yr [zb 75 .eql 19 9,
zm 74 75]
 (yw 74 (yr [zm 76 4,
oo 77 (.bin .add (.const (.str ([112, 114, 105, 110, 116, 32]))) (tt 76)),
zm 2 77]
 .ret) .skip))))))))))))))))))))
 (yr [oo 2 (.mv (.const (.str ([104, 97, 108, 116]))))]
 .ret)))))
def p21700 : ProcT := pF [0] [] [.tmp 2] (yr [oo 2 (.mv (.const (.str [])))]
 (.seq (yr [zm 5 0,
ya 6 14700 0 5,
oo 7 (.un .not (tt 6))]
 (yw 7 (yr [oo 2 (.mv (.const (.str [])))]
 .ret) .skip))
 (yr [oo 3 (.mv (.const (.str [])))]
 (.seq (yr [yn 4 0]
 (.block 0 (.label 21701)))
 (yr [zm 26 3,
zm 2 26]
 .ret)))))
def p21701 : ProcT := { kind := .loop, ins := [0, 3, 4], bins := [], outs := [2, 3], bouts := [], code := (.seq (yr [zm 8 4,
zm 9 0,
zc 10 9,
zt 11 .lss 8 10]
 (yw 11 .skip (.exit 0)))
 (.seq (.block 1 (.region true [zm 14 3,
zm 15 4,
ya 16 20500 0 15,
zt 17 .add 14 16,
oo 18 (.bin .add (tt 17) (.const (.str ([58, 32])))),
zm 19 0,
zm 20 4,
yi 21 5 19 20,
yl 22 5 21,
ya 23 20800 0 22,
zt 24 .add 18 23,
oo 25 (.bin .add (tt 24) (.const (.str [10]))),
zm 3 25]))
 (rr [zm 12 4,
zb 13 .add 12 1,
zm 4 13]))) }
def p21900 : ProcT := pF [0] [] [.tmp 2] (yr [yo 2 false]
 (yr [yn 3 1048576]
 (yr [zm 7 0,
zm 8 3,
yb 9 14600 0 7 8,
zm 3 9]
 (.seq (yr [zm 10 3,
zb 11 .lss 10 0]
 (yw 11 (yr [yo 2 true]
 .ret) .skip))
 (yr [zm 12 0,
ya 13 14800 0 12,
ya 14 21700 0 13,
zm 4 14]
 (yr [zm 15 0,
ya 16 14800 0 15,
yt 5 16]
 (yr [zm 17 5,
ya 18 21800 0 17,
zm 6 18]
 (.seq (yr [zm 19 6,
zm 20 4,
zt 21 .neq 19 20]
 (yw 21 (yr [yo 2 false]
 .ret) .skip))
 (.seq (yr [zm 22 5,
zm 23 0,
ya 24 14800 0 23,
yb 25 15100 0 22 24,
oo 26 (.un .not (tt 25))]
 (yw 26 (yr [yo 2 false]
 .ret) .skip))
 (yr [yo 2 true]
 .ret))))))))))
def p21800 : ProcT := { kind := .prim, ins := [], bins := [], code := .skip, pf := Vs.Qzf ctx 21800 Go.Tx.ctK }
def p22000 : ProcT := { kind := .prim, ins := [], bins := [], code := .skip, pf := Vs.Qya }
def tab : List (Nat × ProcT) := [(1000, p1000), (1600, p1600), (1700, p1700), (5000, p5000), (6400, p6400), (11800, p11800), (11900, p11900), (12000, p12000), (12100, p12100), (12200, p12200), (12300, p12300), (14600, p14600), (14700, p14700), (14701, p14701), (14800, p14800), (14801, p14801), (14900, p14900), (14901, p14901), (15000, p15000), (15100, p15100), (15101, p15101), (20500, p20500), (20600, p20600), (20700, p20700), (20800, p20800), (20900, p20900), (21000, p21000), (21100, p21100), (21700, p21700), (21701, p21701), (21800, p21800), (21900, p21900), (22000, p22000)]
abbrev Tb : Nat → Option ProcT := (Vs.look · tab)
@[reducible] def Rd : Sig := [⟨.ret, [.one], [], [.h (.bool)]⟩]
@[reducible] def Rdi : Sig := [⟨.ret, [.one], [], [.h (.agg .quad)]⟩]
@[reducible] def Rdj : Sig := [⟨.ret, [.one], [], [.h (.int .i64)]⟩]
@[reducible] def Rdk : Sig := [⟨.exit 0, [.one, .one, .one], [], [.h (.sl .quad), .undef, .h (.int .i64)]⟩, ⟨.ret, [.one, .one, .one], [], [.h (.sl .quad), .h (.bool), .h (.int .i64)]⟩]
@[reducible] def Rdl : Sig := [⟨.ret, [.one], [], [.h (.sl .quad)]⟩]
@[reducible] def Rdm : Sig := [⟨.exit 0, [.one, .one], [.rows], [.undef, .bs 100, .h (.sl .quad)]⟩]
@[reducible] def Rdn : Sig := [⟨.exit 0, [.one, .one], [], [.h (.sl .quad), .undef]⟩, ⟨.ret, [.one, .one], [], [.h (.sl .quad), .h (.bool)]⟩]
@[reducible] def Rdo : Sig := [⟨.exit 0, [.one], [], [.undef]⟩, ⟨.ret, [.one], [], [.h (.bool)]⟩]
@[reducible] def Rc : Sig := [⟨.ret, [.one], [], [.h (.str)]⟩]
@[reducible] def Rdp : Sig := [⟨.exit 0, [.one, .one], [], [.undef, .h (.str)]⟩]
def sgs : List (Nat × Sig) := [(1000, Rd), (1600, Rd), (1700, Rd), (5000, Rd), (6400, Rd), (11800, Rd), (11900, Rd), (12000, Rd), (12100, Rdi), (12200, Rd), (12300, Rd), (14600, Rdj), (14700, Rd), (14701, Rdk), (14800, Rdl), (14801, Rdm), (14900, Rd), (14901, Rdn), (15000, Rd), (15100, Rd), (15101, Rdo), (20500, Rc), (20600, Rc), (20700, Rc), (20800, Rc), (20900, Rc), (21000, Rc), (21100, Rc), (21700, Rc), (21701, Rdp), (21800, Rc), (21900, Rd), (22000, Rc)]
def sg (g : Nat) : Sig := (Vs.look g sgs).getD []
def Rab (a0 : Int) : Option (Bool) := Qbq Tb GT Rd 1000 [.int .i64 a0] []
def Rag (a0 : Int) : Option (Bool) := Qbq Tb GT Rd 5000 [.int .i64 a0] []
def Ral (a0 : Int) : Option (Bool) := Qbq Tb GT Rd 12200 [.int .i64 a0] []
def Ro (a0 : Quad) (a1 : Int) : Option (Bool) := Qbq Tb GT Rd 12300 [.agg (rowT .quad a0), .int .i64 a1] []
def Rn (a0 : List Quad) : Option (Bool) := Qbq Tb GT Rd 14900 [.sl .share .quad a0] []
def Rr (a0 : Int) : Option (List UInt8) := Qbq Tb GT Rc 20900 [.int .i64 a0] []
def Rbd (a0 : Int) : Option (List UInt8) := Qbq Tb GT Rc 21000 [.int .i64 a0] []
def Ran (a0 : Quad) : Option (List UInt8) := Qbq Tb GT Rc 21100 [.agg (rowT .quad a0)] []
def laws_FnExactCodeText (a0 : List Quad) : Option (Bool) := Qbq Tb GT Rd 21900 [.sl .share .quad a0] []
def Ri (t0 : List Quad) (t14 : List Quad) (t15 : Int) (t16 : Int) : Option (List Quad ⊕ (List Quad × Bool)) := Qbq Tb GT Rdn 14901 [.sl .share .quad t0, .sl .share .quad t14, .int .i64 t15, .int .i64 t16] []
def strconv_Itoa (a0 : Int) : Option (List UInt8) := Qbq Tb GT Rc 22000 [.int .i64 a0] []
def Ray (a0 : List Quad) (a1 : Int) : Option (Int) := Qbq Tb GT Rdj 14600 [.sl .share .quad a0, .int .i64 a1] []
def Rs (a0 : List Quad) : Option (List Quad) := Qbq Tb GT Rdl 14800 [.sl .share .quad a0] []
def Rap (a0 : List Quad) : Option (List UInt8) := Qbq Tb GT Rc 21700 [.sl .share .quad a0] []
def impl_CodeText (a0 : List Quad) : Option (List UInt8) := Qbq Tb GT Rc 21800 [.sl .share .quad a0] []
def Rax (a0 : List Quad) (a1 : List Quad) : Option (Bool) := Qbq Tb GT Rd 15100 [.sl .share .quad a0, .sl .share .quad a1] []
def Rbf (a0 : Quad) : Option (Quad) := Qbq Tb GT Rdi 12100 [.agg (rowT .quad a0)] []
def Rm (t0 : List Quad) (t4 : Int) (b100 : List Quad) : Option (List Quad) := Qbq Tb GT Rdm 14801 [.sl .share .quad t0, .bs 100, .int .i64 t4] [.rows .quad b100]
def Rah (a0 : List Quad) : Option (Bool) := Qbq Tb GT Rd 14700 [.sl .share .quad a0] []
def Re (a0 : Int) : Option (List UInt8) := Qbq Tb GT Rc 20500 [.int .i64 a0] []
def Raq (a0 : Quad) : Option (List UInt8) := Qbq Tb GT Rc 20800 [.agg (rowT .quad a0)] []
def Rk (t0 : List Quad) (t3 : List UInt8) (t4 : Int) : Option (List UInt8) := Qbq Tb GT Rdp 21701 [.sl .share .quad t0, .str t3, .int .i64 t4] []
def Rbe (a0 : Quad) (a1 : Quad) : Option (Bool) := Qbq Tb GT Rd 15000 [.agg (rowT .quad a0), .agg (rowT .quad a1)] []
def Rl (t0 : List Quad) (t1 : List Quad) (t5 : Int) : Option (Unit ⊕ Bool) := Qbq Tb GT Rdo 15101 [.sl .share .quad t0, .sl .share .quad t1, .int .i64 t5] []
def Rt (a0 : Int) (a1 : Int) (a2 : Int) : Option (Bool) := Qbq Tb GT Rd 1600 [.int .i64 a0, .int .i64 a1, .int .i64 a2] []
def Rp (a0 : Quad) (a1 : Int) : Option (Bool) := Qbq Tb GT Rd 12000 [.agg (rowT .quad a0), .int .i64 a1] []
def Rj (t0 : List Quad) (t3 : Int) (t4 : Int) : Option ((List Quad × Int) ⊕ (List Quad × Bool × Int)) := Qbq Tb GT Rdk 14701 [.sl .share .quad t0, .int .i64 t3, .int .i64 t4] []
def Rg (a0 : Int) : Option (List UInt8) := Qbq Tb GT Rc 20600 [.int .i64 a0] []
def Rbg (a0 : Int) : Option (List UInt8) := Qbq Tb GT Rc 20700 [.int .i64 a0] []
def Rb (a0 : Quad) (a1 : Bool) (a2 : Bool) (a3 : Bool) : Option (Bool) := Qbq Tb GT Rd 11900 [.agg (rowT .quad a0), .bool a1, .bool a2, .bool a3] []
def Rai (a0 : Int) : Option (Bool) := Qbq Tb GT Rd 6400 [.int .i64 a0] []
def Raf (a0 : Int) : Option (Bool) := Qbq Tb GT Rd 1700 [.int .i64 a0] []
def Raa (a0 : Int) (a1 : Bool) : Option (Bool) := Qbq Tb GT Rd 11800 [.int .i64 a0, .bool a1] []
theorem fE (sig : Sig) (p : ProcT) {g : Nat} {tv : List TV} {bv : List BT} {x : SumT sig} {t : Option (SumT sig)} (h : t = some x) (hr : runC (phi Tb GT sg) Tb GT p.code (Qlf p (mkST p.ins tv p.bins bv)) (finT p sig) = t := by kernel_rfl) (hs : (sg g, Tb g, p.kind, tv.length, bv.length, Qhp p tv bv, p.two) = (sig, some p, .fn, p.ins.length, p.bins.length, true, false) := by kernel_rfl) : Qbq Tb GT sig g tv bv = some x := by
 simp only [Zm] at hs
 exact fn_le' (F := Tb) (G := GT) (sg := sg) hs.1 hs.2.1 hs.2.2.1 hs.2.2.2.1 hs.2.2.2.2.1 hs.2.2.2.2.2.1 hs.2.2.2.2.2.2 (hr.trans h)
theorem lE (sig : Sig) (p : ProcT) {g : Nat} {tv : List TV} {bv : List BT} {x : SumT sig} {t : Option (SumT sig)} (h : t = some x) (hr : runC (phi Tb GT sg) Tb GT p.code (mkST p.ins tv p.bins bv) (finL Tb GT g p sig) = t := by kernel_rfl) (hs : (sg g, Tb g, p.kind, tv.length, bv.length) = (sig, some p, .loop, p.ins.length, p.bins.length) := by kernel_rfl) : Qbq Tb GT sig g tv bv = some x := by
 simp only [Zm] at hs
 exact loop_le' (F := Tb) (G := GT) (sg := sg) hs.1 hs.2.1 hs.2.2.1 hs.2.2.2.1 hs.2.2.2.2 (hr.trans h)
end Go.TFnExactCodeText
end