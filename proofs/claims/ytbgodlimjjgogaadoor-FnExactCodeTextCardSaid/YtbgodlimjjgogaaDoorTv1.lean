/- Typed plain values: what the plain machine's values are where the rows of slices have types of Lean. -/
import Derived.Test.YtbgodlimjjgogaaDoorVs25
set_option linter.unusedVariables false
namespace Go.Tv
open Go Go.RowKit Go.Vs
structure Quad where (op dst a b n : Int)
structure Evt where (task kind box value : Int)
structure Exp where
 op : Int
 n : Int
 args : List Exp
structure Stm where
 kind : Int
 var : Int
 box : Int
 e : Exp
 body : List Stm
 els : List Stm
structure Bx where (room : Int) (items : List Int)
structure Tk where (vars : List Int) (rest : List Stm)
structure Rg where (room head len : Int) (slots : List Int)
structure Prg where (rooms : List Int) (tasks : List (List Stm))
structure Wld where (tasks : List Tk) (boxes : List Bx) (turn idle : Int) (out : List Int)
structure Otc where (out : List Int) (items : List (List Int)) (ended : List Bool) (rest : Bool)
structure Hd where
 id : Option Nat
 n : Nat
structure ExpH where
 op : Int
 n : Int
 args : Hd
structure StmH where (kind var box eop en : Int) (args body els : Hd)
structure BxH where (room : Int) (items : Hd)
structure TkH where (vars rest : Hd)
structure RgH where (room head len : Int) (slots : Hd)
structure PrgH where (rooms tasks : Hd)
structure WldH where (tasks boxes : Hd) (turn idle : Int) (out : Hd)
structure WldO where (tasks : List Tk) (boxes : List Bx) (turn idle : Int) (out : Hd)
structure OtcH where (out items ended : Hd) (rest : Bool)
inductive TC where
 | int | u8 | bool | str | quad | event | exp | stm | stms | bx | tk | ints | rg | prg | wld | otc | fn
 | intsH | stmsH | stmsHH | expH | stmH | bxH | tkH | rgH | prgH | wldH | otcH | wldO
 deriving DecidableEq
@[reducible] def Den : TC → Type
 | .int => Int | .u8 => Int | .bool => Bool | .str => List UInt8 | .quad => Quad | .event => Evt | .exp => Exp | .stm => Stm
 | .stms => List Stm | .bx => Bx | .tk => Tk | .ints => List Int | .rg => Rg | .prg => Prg | .wld => Wld | .otc => Otc | .fn => Nat
 | .intsH => Hd | .stmsH => Hd | .stmsHH => Hd | .expH => ExpH | .stmH => StmH | .bxH => BxH | .tkH => TkH | .rgH => RgH | .prgH => PrgH | .wldH => WldH | .otcH => OtcH | .wldO => WldO
def TC.sz : TC → Nat
 | .int | .u8 | .bool | .str | .stms | .ints | .fn | .intsH | .stmsH | .stmsHH => 1
 | .expH => 3 | .stmH => 8 | .bxH => 2 | .tkH => 2 | .rgH => 4 | .prgH => 2 | .wldH => 5 | .otcH => 4 | .wldO => 5
 | .quad => 5 | .event => 4 | .exp => 3 | .stm => 8 | .bx => 2 | .tk => 2 | .rg => 4 | .prg => 2 | .wld => 5 | .otc => 4
def TC.plain : TC → Bool
 | .intsH | .stmsH | .stmsHH | .expH | .stmH | .bxH | .tkH | .rgH | .prgH | .wldH | .otcH | .wldO => false
 | _ => true
@[reducible] def TC.seen : TC → TC
 | .intsH => .ints | .stmsH => .stms | .stmsHH => .stms | .expH => .exp | .stmH => .stm | .bxH => .bx | .tkH => .tk | .rgH => .rg | .prgH => .prg | .wldH => .wld | .otcH => .otc | .wldO => .wld
 | .int => .int | .u8 => .u8 | .bool => .bool | .str => .str | .quad => .quad | .event => .event | .exp => .exp | .stm => .stm | .stms => .stms | .bx => .bx | .tk => .tk | .ints => .ints
 | .rg => .rg | .prg => .prg | .wld => .wld | .otc => .otc | .fn => .fn
inductive Md where
 | share
 | own (b : Bool)
 | full
def Md.sm : Md → SM
 | .share => .share
 | .own true => .tip
 | .own false => .zero
 | .full => .full
inductive TV where
 | undef
 | int (k : IntKind) (n : Int)
 | bool (b : Bool)
 | str (l : List UInt8)
 | con (c : Con)
 | sl (m : Md) (c : TC) (l : List (Den c))
 | agg (cs : List TV)
 | bp (b off : Nat)
 | bs (b : Nat)
 | be (b i off : Nat)
 | rp (cs : List TV) (off : Nat)
 | rs (l : List (List UInt8)) (i : Nat)
 | fn (g : Nat) (cap : List TV)
 | tup (vs : List TV)
 | np (cs : List TV)
 | tr (c : TC) (h : Option Nat) (n : Nat)
 | trp (c : TC) (h : Option Nat) (i off : Nat)
 | arv (es : List Ent)
inductive BT where
 | var (cs : List TV)
 | rows (c : TC) (l : List (Den c))
 | ar (es : List Ent)
mutual
def Qkj : Exp → List AV
 | ⟨o, n, as⟩ => [.int .i64 o, .int .i64 n, .sl .share 3 (Qer as)]
def Qer : List Exp → List (List AV)
 | [] => []
 | e :: r => Qkj e :: Qer r
end
mutual
def Qlh : Stm → List AV
 | ⟨k, v, b, e, bd, el⟩ => [.int .i64 k, .int .i64 v, .int .i64 b, .int .i64 e.op, .int .i64 e.n, .sl .share 3 (Qer e.args), .sl .share 8 (Qct bd), .sl .share 8 (Qct el)]
def Qct : List Stm → List (List AV)
 | [] => []
 | e :: r => Qlh e :: Qct r
end
def Qao (l : List Int) : AV := .sl .share 1 (l.map fun n => [.int .i64 n])
def bxAV (b : Bx) : List AV := [.int .i64 b.room, Qao b.items]
def tkAV (b : Tk) : List AV := [Qao b.vars, .sl .share 8 (Qct b.rest)]
def Qe : (c : TC) → Den c → List AV
 | .int, n => [.int .i64 n]
 | .u8, n => [.int .u8 n]
 | .bool, b => [.bool b]
 | .str, s => [.str s]
 | .quad, q => [.int .i64 q.op, .int .i64 q.dst, .int .i64 q.a, .int .i64 q.b, .int .i64 q.n]
 | .event, q => [.int .i64 q.task, .int .i64 q.kind, .int .i64 q.box, .int .i64 q.value]
 | .exp, e => Qkj e
 | .stm, e => Qlh e
 | .stms, l => [.sl .share 8 (Qct l)]
 | .bx, b => bxAV b
 | .tk, t => tkAV t
 | .ints, l => [Qao l]
 | .rg, r => [.int .i64 r.room, .int .i64 r.head, .int .i64 r.len, Qao r.slots]
 | .prg, p => [Qao p.rooms, .sl .share 1 (p.tasks.map fun l => [.sl .share 8 (Qct l)])]
 | .wld, w => [.sl .share 2 (w.tasks.map tkAV), .sl .share 2 (w.boxes.map bxAV), .int .i64 w.turn, .int .i64 w.idle, Qao w.out]
 | .otc, o => [Qao o.out, .sl .share 1 (o.items.map fun l => [Qao l]), .sl .share 1 (o.ended.map fun b => [.bool b]), .bool o.rest]
 | .fn, g => [.fn g []]
 | .intsH, h => [.tr h.id 1 h.n]
 | .stmsH, h => [.tr h.id 8 h.n]
 | .stmsHH, h => [.tr h.id 8 h.n]
 | .expH, e => [.int .i64 e.op, .int .i64 e.n, .tr e.args.id 3 e.args.n]
 | .stmH, s => [.int .i64 s.kind, .int .i64 s.var, .int .i64 s.box, .int .i64 s.eop, .int .i64 s.en, .tr s.args.id 3 s.args.n, .tr s.body.id 8 s.body.n, .tr s.els.id 8 s.els.n]
 | .bxH, b => [.int .i64 b.room, .tr b.items.id 1 b.items.n]
 | .tkH, t => [.tr t.vars.id 1 t.vars.n, .tr t.rest.id 8 t.rest.n]
 | .rgH, r => [.int .i64 r.room, .int .i64 r.head, .int .i64 r.len, .tr r.slots.id 1 r.slots.n]
 | .prgH, p => [.tr p.rooms.id 1 p.rooms.n, .tr p.tasks.id 1 p.tasks.n]
 | .wldH, w => [.tr w.tasks.id 2 w.tasks.n, .tr w.boxes.id 2 w.boxes.n, .int .i64 w.turn, .int .i64 w.idle, .tr w.out.id 1 w.out.n]
 | .wldO, w => [.sl .share 2 (w.tasks.map tkAV), .sl .share 2 (w.boxes.map bxAV), .int .i64 w.turn, .int .i64 w.idle, .tr w.out.id 1 w.out.n]
 | .otcH, o => [.tr o.out.id 1 o.out.n, .tr o.items.id 1 o.items.n, .tr o.ended.id 1 o.ended.n, .bool o.rest]
def rowT : (c : TC) → Den c → List TV
 | .int, n => [.int .i64 n]
 | .u8, n => [.int .u8 n]
 | .bool, b => [.bool b]
 | .str, s => [.str s]
 | .quad, q => [.int .i64 q.op, .int .i64 q.dst, .int .i64 q.a, .int .i64 q.b, .int .i64 q.n]
 | .event, q => [.int .i64 q.task, .int .i64 q.kind, .int .i64 q.box, .int .i64 q.value]
 | .exp, e => [.int .i64 e.op, .int .i64 e.n, .sl .share .exp e.args]
 | .stm, s => [.int .i64 s.kind, .int .i64 s.var, .int .i64 s.box, .int .i64 s.e.op, .int .i64 s.e.n, .sl .share .exp s.e.args, .sl .share .stm s.body, .sl .share .stm s.els]
 | .stms, l => [.sl .share .stm l]
 | .bx, b => [.int .i64 b.room, .sl .share .int b.items]
 | .tk, t => [.sl .share .int t.vars, .sl .share .stm t.rest]
 | .ints, l => [.sl .share .int l]
 | .rg, r => [.int .i64 r.room, .int .i64 r.head, .int .i64 r.len, .sl .share .int r.slots]
 | .prg, p => [.sl .share .int p.rooms, .sl .share .stms p.tasks]
 | .wld, w => [.sl .share .tk w.tasks, .sl .share .bx w.boxes, .int .i64 w.turn, .int .i64 w.idle, .sl .share .int w.out]
 | .otc, o => [.sl .share .int o.out, .sl .share .ints o.items, .sl .share .bool o.ended, .bool o.rest]
 | .fn, g => [.fn g []]
 | .intsH, h => [.tr .int h.id h.n]
 | .stmsH, h => [.tr .stm h.id h.n]
 | .stmsHH, h => [.tr .stmH h.id h.n]
 | .expH, e => [.int .i64 e.op, .int .i64 e.n, .tr .expH e.args.id e.args.n]
 | .stmH, s => [.int .i64 s.kind, .int .i64 s.var, .int .i64 s.box, .int .i64 s.eop, .int .i64 s.en, .tr .expH s.args.id s.args.n, .tr .stmH s.body.id s.body.n, .tr .stmH s.els.id s.els.n]
 | .bxH, b => [.int .i64 b.room, .tr .int b.items.id b.items.n]
 | .tkH, t => [.tr .int t.vars.id t.vars.n, .tr .stmH t.rest.id t.rest.n]
 | .rgH, r => [.int .i64 r.room, .int .i64 r.head, .int .i64 r.len, .tr .int r.slots.id r.slots.n]
 | .prgH, p => [.tr .int p.rooms.id p.rooms.n, .tr .stmsHH p.tasks.id p.tasks.n]
 | .wldH, w => [.tr .tkH w.tasks.id w.tasks.n, .tr .bxH w.boxes.id w.boxes.n, .int .i64 w.turn, .int .i64 w.idle, .tr .int w.out.id w.out.n]
 | .wldO, w => [.sl .share .tk w.tasks, .sl .share .bx w.boxes, .int .i64 w.turn, .int .i64 w.idle, .tr .int w.out.id w.out.n]
 | .otcH, o => [.tr .int o.out.id o.out.n, .tr .intsH o.items.id o.items.n, .tr .bool o.ended.id o.ended.n, .bool o.rest]
def Qbv (c c' : TC) (l : List (Den c)) : Option (List (Den c')) := if h : c = c' then some (h ▸ l) else none
def Qir : (c : TC) → List TV → Option (Den c)
 | .int, [.int .i64 n] => some n
 | .u8, [.int .u8 n] => some n
 | .bool, [.bool b] => some b
 | .str, [.str s] => some s
 | .quad, [.int .i64 o, .int .i64 d, .int .i64 a, .int .i64 b, .int .i64 n] => some ⟨o, d, a, b, n⟩
 | .event, [.int .i64 o, .int .i64 d, .int .i64 a, .int .i64 b] => some ⟨o, d, a, b⟩
 | .exp, [.int .i64 o, .int .i64 n, .sl .share c as] => bnd (Qbv c .exp as) fun as => some ⟨o, n, as⟩
 | .stm, [.int .i64 k, .int .i64 v, .int .i64 b, .int .i64 o, .int .i64 n, .sl .share c as, .sl .share d bd, .sl .share d' el] =>
  bnd (Qbv c .exp as) fun as => bnd (Qbv d .stm bd) fun bd => bnd (Qbv d' .stm el) fun el => some ⟨k, v, b, ⟨o, n, as⟩, bd, el⟩
 | .stms, [.sl .share c l] => Qbv c .stm l
 | .bx, [.int .i64 r, .sl .share c l] => bnd (Qbv c .int l) fun l => some ⟨r, l⟩
 | .tk, [.sl .share c l, .sl .share d r] => bnd (Qbv c .int l) fun l => bnd (Qbv d .stm r) fun r => some ⟨l, r⟩
 | .ints, [.sl .share c l] => Qbv c .int l
 | .rg, [.int .i64 o, .int .i64 d, .int .i64 a, .sl .share c l] => bnd (Qbv c .int l) fun l => some ⟨o, d, a, l⟩
 | .prg, [.sl .share c l, .sl .share d r] => bnd (Qbv c .int l) fun l => bnd (Qbv d .stms r) fun r => some ⟨l, r⟩
 | .wld, [.sl .share c l, .sl .share d r, .int .i64 t, .int .i64 i, .sl .share e o] => bnd (Qbv c .tk l) fun l => bnd (Qbv d .bx r) fun r => bnd (Qbv e .int o) fun o => some ⟨l, r, t, i, o⟩
 | .otc, [.sl .share c l, .sl .share d r, .sl .share e o, .bool b] => bnd (Qbv c .int l) fun l => bnd (Qbv d .ints r) fun r => bnd (Qbv e .bool o) fun o => some ⟨l, r, o, b⟩
 | .fn, [.fn g []] => some g
 | .intsH, [.tr c h n] => if c = .int then some ⟨h, n⟩ else none
 | .stmsH, [.tr c h n] => if c = .stm then some ⟨h, n⟩ else none
 | .stmsHH, [.tr c h n] => if c = .stmH then some ⟨h, n⟩ else none
 | .expH, [.int .i64 o, .int .i64 n, .tr c h k] => if c = .expH then some ⟨o, n, ⟨h, k⟩⟩ else none
 | .stmH, [.int .i64 k, .int .i64 v, .int .i64 b, .int .i64 o, .int .i64 n, .tr c h i, .tr c' h' i', .tr c'' h'' i''] => if c = .expH ∧ c' = .stmH ∧ c'' = .stmH then some ⟨k, v, b, o, n, ⟨h, i⟩, ⟨h', i'⟩, ⟨h'', i''⟩⟩ else none
 | .bxH, [.int .i64 r, .tr c h n] => if c = .int then some ⟨r, ⟨h, n⟩⟩ else none
 | .tkH, [.tr c h n, .tr c' h' n'] => if c = .int ∧ c' = .stmH then some ⟨⟨h, n⟩, ⟨h', n'⟩⟩ else none
 | .rgH, [.int .i64 o, .int .i64 d, .int .i64 a, .tr c h n] => if c = .int then some ⟨o, d, a, ⟨h, n⟩⟩ else none
 | .prgH, [.tr c h n, .tr c' h' n'] => if c = .int ∧ c' = .stmsHH then some ⟨⟨h, n⟩, ⟨h', n'⟩⟩ else none
 | .wldH, [.tr c h n, .tr c' h' n', .int .i64 t, .int .i64 i, .tr c'' h'' n''] => if c = .tkH ∧ c' = .bxH ∧ c'' = .int then some ⟨⟨h, n⟩, ⟨h', n'⟩, t, i, ⟨h'', n''⟩⟩ else none
 | .wldO, [.sl .share c l, .sl .share d r, .int .i64 t, .int .i64 i, .tr e h n] => bnd (Qbv c .tk l) fun l => bnd (Qbv d .bx r) fun r => if e = .int then some ⟨l, r, t, i, ⟨h, n⟩⟩ else none
 | .otcH, [.tr c h n, .tr c' h' n', .tr c'' h'' n'', .bool b] => if c = .int ∧ c' = .intsH ∧ c'' = .bool then some ⟨⟨h, n⟩, ⟨h', n'⟩, ⟨h'', n''⟩, b⟩ else none
 | _, _ => none
def Qlq : (c : TC) → Den c
 | .int => (0 : Int) | .u8 => (0 : Int) | .bool => false | .str => []
 | .quad => ⟨0, 0, 0, 0, 0⟩ | .event => ⟨0, 0, 0, 0⟩ | .exp => ⟨0, 0, []⟩ | .stm => ⟨0, 0, 0, ⟨0, 0, []⟩, [], []⟩
 | .stms => [] | .bx => ⟨0, []⟩ | .tk => ⟨[], []⟩ | .ints => [] | .rg => ⟨0, 0, 0, []⟩ | .prg => ⟨[], []⟩ | .wld => ⟨[], [], 0, 0, []⟩ | .otc => ⟨[], [], [], false⟩ | .fn => (0 : Nat)
 | .intsH => ⟨none, 0⟩ | .stmsH => ⟨none, 0⟩ | .stmsHH => ⟨none, 0⟩ | .expH => ⟨0, 0, ⟨none, 0⟩⟩ | .stmH => ⟨0, 0, 0, 0, 0, ⟨none, 0⟩, ⟨none, 0⟩, ⟨none, 0⟩⟩ | .bxH => ⟨0, ⟨none, 0⟩⟩ | .tkH => ⟨⟨none, 0⟩, ⟨none, 0⟩⟩ | .rgH => ⟨0, 0, 0, ⟨none, 0⟩⟩ | .prgH => ⟨⟨none, 0⟩, ⟨none, 0⟩⟩ | .wldH => ⟨⟨none, 0⟩, ⟨none, 0⟩, 0, 0, ⟨none, 0⟩⟩ | .otcH => ⟨⟨none, 0⟩, ⟨none, 0⟩, ⟨none, 0⟩, false⟩ | .wldO => ⟨[], [], 0, 0, ⟨none, 0⟩⟩
def Qtf : Ent → AV
 | none => .undef
 | some (sz, xs) => .sl .share sz xs
mutual
def toAV : TV → AV
 | .undef => .undef
 | .int k n => .int k n
 | .bool b => .bool b
 | .str l => .str l
 | .con c => .con c
 | .sl m c l => .sl m.sm c.sz (l.map (Qe c))
 | .agg cs => .agg (Qbp cs)
 | .bp b off => .bp b off
 | .bs b => .bs b
 | .be b i off => .be b i off
 | .rp cs off => .rp (Qbp cs) off
 | .rs l i => .rp (l.map .str) i
 | .fn g cap => .fn g (Qbp cap)
 | .tup vs => .tup (Qbp vs)
 | .np cs => .np (Qbp cs)
 | .tr c h n => .tr h c.sz n
 | .trp c h i off => .trp h c.sz i off
 | .arv es => .tup (es.map Qtf)
def Qbp : List TV → List AV
 | [] => []
 | c :: cs => toAV c :: Qbp cs
end
def toBC : BT → BC
 | .var cs => .var (Qbp cs)
 | .rows c l => .rows c.sz (l.map (Qe c))
 | .ar es => .ar es
inductive OpT where
 | tmp (t : Nat)
 | take (t : Nat)
 | const (v : TV)
 | func (g : Nat)
 | glob (i : Nat)
inductive TKT where
 | mk (c : TC) (n k : OpT)
 | nil (c : TC)
 | lit (c : TC) (parts : List OpT)
 | app (sz : Nat) (x y : OpT)
 | cut (sz : Nat) (x hi : OpT)
 | len (x : OpT)
 | iadr (sz : Nat) (x i : OpT)
 | fadr (off : Nat) (x : OpT)
 | nilck (x : OpT)
 | load (n : Nat) (agg : Bool) (x : OpT)
 | store (n : Nat) (x v : OpT)
 | call (m : CM) (g : Nat) (args : List OpT)
 | bld (b : Nat) (zero : List TV) (parts : List (Nat × Nat × OpT))
inductive KT where
 | tr (k : TKT)
 | mv (x : OpT)
 | pick (c x y : OpT)
 | alloc (b : Nat) (zero : List TV)
 | box (b : Nat) (x : OpT)
 | build (zero : List TV) (parts : List (Nat × Nat × OpT))
 | buildS (m : Md) (c : TC) (parts : List OpT)
 | load (n : Nat) (agg : Bool) (take : Bool) (x : OpT)
 | store (n : Nat) (x v : OpT)
 | nilck (x : OpT)
 | bin (op : BinOp) (x y : OpT)
 | eqb (neq : Bool) (x y : OpT)
 | eqs (neq : Bool) (n : Nat) (x y : OpT)
 | un (op : UnOp) (x : OpT)
 | conv (c : CK) (x : OpT)
 | mkfn (g : Nat) (caps : List OpT)
 | mksl (b : Nat) (c : TC) (n k : OpT)
 | mkz (c : TC) (n k : OpT)
 | slc (sz : Nat) (x : OpT) (lo hi mx : Option OpT)
 | slcS (x : OpT) (lo hi : Option OpT)
 | fadr (off : Nat) (x : OpT)
 | fld (off n : Nat) (agg : Bool) (x : OpT)
 | iadr (sz : Nat) (x i : OpT)
 | iadrA (sz len : Nat) (x i : OpT)
 | idxS (x i : OpT)
 | idxA (sz len n : Nat) (agg : Bool) (x i : OpT)
 | len (x : OpT)
 | lenS (x : OpT)
 | app (sz : Nat) (x y : OpT)
 | ext (i : Nat) (x : OpT)
 | call (g : Nat) (site : Nat) (args : List OpT)
 | callv (f : OpT) (args : List OpT)
 | mx (args : List OpT)
 | mn (args : List OpT)
structure AOpT where
 d : Option Nat
 k : KT
 g : Option (Nat × Bool) := none
 fp : List Nat := []
inductive ACT where
 | skip
 | region (draw : Bool) (ops : List AOpT)
 | seq (a b : ACT)
 | cond (c : OpT) (x y : ACT)
 | block (id : Nat) (a : ACT)
 | exit (id : Nat)
 | ret
 | label (g : Nat)
 | flip (o : AOpT) (ps qs : List AOpT)
structure ProcT where
 kind : PK
 ins : List Nat
 bins : List Nat
 code : ACT
 outs : List Nat := []
 bouts : List Nat := []
 res : List RS := []
 pf : List AV → Option AV := fun _ => none
 loc : Bool := false
 sl : List Bool := []
 pa : List AV → List Ent → Option (AV × List Ent) := fun _ _ => none
 two : Bool := false
def OpT.er : OpT → Opnd
 | .tmp t => .tmp t
 | .take t => .take t
 | .const v => .const (toAV v)
 | .func g => .func g
 | .glob i => .glob i
def erO : Option OpT → Option Opnd
 | none => none
 | some x => some x.er
def TKT.er : TKT → TK
 | .mk c n k => .mk c.sz (Qe c (Qlq c)) n.er k.er
 | .nil c => .nil c.sz
 | .lit c ps => .lit c.sz (ps.map OpT.er)
 | .app sz x y => .app sz x.er y.er
 | .cut sz x y => .cut sz x.er y.er
 | .len x => .len x.er
 | .iadr sz x i => .iadr sz x.er i.er
 | .fadr o x => .fadr o x.er
 | .nilck x => .nilck x.er
 | .load n a x => .load n a x.er
 | .store n x v => .store n x.er v.er
 | .call m g ps => .call m g (ps.map OpT.er)
 | .bld b z ps => .bld b (Qbp z) (ps.map fun p => (p.1, p.2.1, p.2.2.er))
def KT.er : KT → K
 | .tr k => .tr k.er
 | .mv x => .mv x.er
 | .pick c x y => .pick c.er x.er y.er
 | .alloc b z => .alloc b (Qbp z)
 | .box b x => .box b x.er
 | .build z ps => .build (Qbp z) (ps.map fun p => (p.1, p.2.1, p.2.2.er))
 | .buildS m c ps => .buildS m.sm c.sz (ps.map OpT.er)
 | .load n a t x => .load n a t x.er
 | .store n x v => .store n x.er v.er
 | .nilck x => .nilck x.er
 | .bin op x y => .bin op x.er y.er
 | .eqb q x y => .eqb q x.er y.er
 | .eqs q n x y => .eqs q n x.er y.er
 | .un op x => .un op x.er
 | .conv c x => .conv c x.er
 | .mkfn g ps => .mkfn g (ps.map OpT.er)
 | .mksl b c n k => .mksl b c.sz (Qe c (Qlq c)) n.er k.er
 | .mkz c n k => .mkz c.sz (Qe c (Qlq c)) n.er k.er
 | .slc sz x l h m => .slc sz x.er (erO l) (erO h) (erO m)
 | .slcS x l h => .slcS x.er (erO l) (erO h)
 | .fadr o x => .fadr o x.er
 | .fld o n a x => .fld o n a x.er
 | .iadr sz x i => .iadr sz x.er i.er
 | .iadrA sz l x i => .iadrA sz l x.er i.er
 | .idxS x i => .idxS x.er i.er
 | .idxA sz l n a x i => .idxA sz l n a x.er i.er
 | .len x => .len x.er
 | .lenS x => .lenS x.er
 | .app sz x y => .app sz x.er y.er
 | .ext i x => .ext i x.er
 | .call g s ps => .call g s (ps.map OpT.er)
 | .callv f ps => .callv f.er (ps.map OpT.er)
 | .mx ps => .mx (ps.map OpT.er)
 | .mn ps => .mn (ps.map OpT.er)
def AOpT.er (o : AOpT) : AOp := ⟨o.d, o.k.er, o.g, o.fp⟩
def ACT.er : ACT → AC
 | .skip => .skip
 | .flip o ps qs => .flip o.er (ps.map AOpT.er) (qs.map AOpT.er)
 | .region d ops => .region d (ops.map AOpT.er)
 | .seq a b => .seq a.er b.er
 | .cond c x y => .cond c.er x.er y.er
 | .block i a => .block i a.er
 | .exit i => .exit i
 | .ret => .ret
 | .label g => .label g
def ACT.other : ACT → ACT
 | .flip o ps qs => .flip o qs ps
 | .seq a b => .seq a.other b.other
 | .cond c x y => .cond c x.other y.other
 | .block id a => .block id a.other
 | c => c
def ProcT.er (p : ProcT) : Proc := { kind := p.kind, ins := p.ins, bins := p.bins, code := p.code.er, outs := p.outs, bouts := p.bouts, res := p.res, pf := p.pf, loc := p.loc, sl := p.sl, pa := p.pa, two := p.two }
def Md.dem : Md → Md
 | .share => .share
 | .full => .full
 | .own b => bif b then .share else .own false
def Md.res : Md → Md
 | .own _ => .own true
 | _ => .share
def TV.dem : TV → TV
 | .sl m c l => .sl m.dem c l
 | v => v
def TV.shr : TV → TV
 | .sl _ c l => .sl .share c l
 | v => v
def TV.toTip : TV → TV
 | .sl (.own _) c l => .sl (.own true) c l
 | v => v
def TV.cells : TV → List TV
 | .agg cs => cs
 | v => [v]
def TV.scells : TV → List TV
 | .agg cs => cs.map TV.dem
 | v => [v]
def TV.one : TV → Bool
 | .int _ _ | .bool _ | .str _ | .sl _ _ _ | .rp _ _ | .rs _ _ | .fn _ _ | .con _ | .tr _ _ _ => true
 | _ => false
def TV.isP : TV → Bool
 | .bp _ _ | .bs _ | .be _ _ _ | .np _ => true
 | _ => false
def TV.okIn (bins : List Nat) : TV → Bool
 | .bp b _ | .bs b | .be b _ _ => bins.contains b
 | .np _ => false
 | _ => true
def Qpu (n : Nat) (agg : Bool) (cs : List TV) (off : Nat) : Option TV :=
 if agg then (if off + n ≤ cs.length then some (.agg (((cs.drop off).take n).map TV.dem)) else none)
 else (if n = 1 then (cs[off]?).map TV.dem else none)
def Qpt (cs : List TV) (off : Nat) (vs : List TV) : Option (List TV) :=
 if off + vs.length ≤ cs.length then some (cs.take off ++ vs ++ cs.drop (off + vs.length)) else none
def Qtm : List TV → List (Nat × Nat × TV) → Option (List TV)
 | cs, [] => some cs
 | cs, (off, n, v) :: r => if v.cells.length = n ∧ (v.cells.all TV.one) = true then bnd (Qpt cs off (v.cells.map TV.dem)) fun cs' => Qtm cs' r else none
def Qnp : List TV → List TV → Option Bool
 | [], [] => some true
 | .int k a :: xs, .int k' b :: ys => if k = k' then bnd (Qnp xs ys) fun r => some (decide (a = b) && r) else none
 | _, _ => none
def Qmy : List TV → Option (List (List UInt8))
 | [] => some []
 | .str s :: r => bnd (Qmy r) fun l => some (s :: l)
 | _ => none
def Qmk : List TV → Option (List Int)
 | [] => some []
 | .int .i64 n :: r => bnd (Qmk r) fun l => some (n :: l)
 | _ => none
def geti {α : Type} (l : List α) (n : Int) : Option α := if 0 ≤ n then l[n.toNat]? else none
def Qxn {ρ : Type} : List Nat → Int → (Nat → Option ρ) → Option ρ
 | [], _, _ => none
 | g :: r, n, k => bif decide (n = 0) then k g else Qxn r (n - 1) k
def pickR {ρ : Type} (c : TC) : List (Den c) → Int → (Den c → Option ρ) → Option ρ :=
 match c with
 | .fn => fun l n k => Qxn l n k
 | _ => fun l n k => bnd (geti l n) k
theorem Qsf {ρ : Type} {k : Nat → Option ρ} {r : ρ} : ∀ {l : List Nat} {n : Int}, Qxn l n k = some r → ∃ x, geti l n = some x ∧ k x = some r
 | [], n, h => by cases h
 | g :: l, n, h => by
  unfold Qxn at h
  by_cases h0 : n = 0
  ·subst h0
   exact ⟨g, rfl, h⟩
  ·simp only [h0, Zz, Zf] at h
   obtain ⟨x, h1, h2⟩ := Qsf h
   refine ⟨x, ?_, h2⟩
   unfold geti at h1 ⊢
   split at h1
   ·rename_i hn
    rw [if_pos (by omega), show n.toNat = (n - 1).toNat + 1 by omega]
    exact h1
   ·cases h1
theorem Qys {ρ : Type} {c : TC} {l : List (Den c)} {n : Int} {k : Den c → Option ρ} {r : ρ} (h : pickR c l n k = some r) : ∃ x, geti l n = some x ∧ k x = some r := by
 cases c <;> first | exact Qsf h | exact Qa.1 h
noncomputable def wrapC : Int → Int := (Classical.choice ⟨(⟨wrap64, rfl⟩ : { f : Int → Int // f = wrap64 })⟩).1
theorem Qzn : wrapC = wrap64 := (Classical.choice ⟨(⟨wrap64, rfl⟩ : { f : Int → Int // f = wrap64 })⟩).2
noncomputable def wrT : IntKind → Int → Int
 | .i64, n => wrapC n
 | k, n => wr k n
theorem Qqk (k : IntKind) (n : Int) : wrT k n = wr k n := by
 cases k <;> first | rfl | (simp only [wrT, wr, Qzn])
noncomputable def quoI (k : IntKind) (x y : Int) : Option Int := if y = 0 then none else some (wrT k (x.tdiv y))
def remI (x y : Int) : Option Int := if y = 0 then none else some (x.tmod y)
noncomputable def shlI (k : IntKind) (x y : Int) : Option Int := if y < 0 then none else some (wrT k (x * 2 ^ min y.toNat k.bits))
def shrI (k : IntKind) (x y : Int) : Option Int := if y < 0 then none else some (x.fdiv (2 ^ min y.toNat k.bits))
def catS (x y : List UInt8) : Option (List UInt8) := if x.length + y.length ≤ LIM then some (x ++ y) else none
def appL {α : Type} (x y : List α) : Option (List α) := if x.length + y.length ≤ 4294967296 then some (x ++ y) else none
def appM {α : Type} (m : Md) (x y : List α) : Option (List α) := match m with | .share => none | .own _ => appL x y | .full => match y with | [] => none | a :: r => appL x (a :: r)
def cutL {α : Type} (l : List α) (lo hi : Int) : Option (List α) :=
 if 0 ≤ lo ∧ lo ≤ hi ∧ hi ≤ l.length then some ((l.take hi.toNat).drop lo.toNat) else none
def made (n : Int) : Option Nat := if 0 ≤ n ∧ n ≤ 4294967296 then some n.toNat else none
def rune (n : Int) : Option (List UInt8) := if 0 ≤ n ∧ n < 128 then some [UInt8.ofNat n.toNat] else none
def bytes (l : List Int) : List UInt8 := l.map fun n => UInt8.ofNat n.toNat
def Qrr (l : List UInt8) : List Int := l.map fun c => (c.toNat : Int)
def selm {α β ρ : Type} (x : α ⊕ β) (f : α → Option ρ) (g : β → Option ρ) : Option ρ := match x with | .inl a => f a | .inr b => g b
structure TS where
 t : Nat → TV
 b : Nat → Option BT
 seen : Nat → Bool
def TS.live (s : TS) (b : Nat) : Bool := match s.b b with | some (.ar _) => false | some _ => true | none => false
abbrev CT (ρ : Type) := Nat → List TV → List BT → (Oc → List TV → List BT → Option ρ) → Option ρ
def TS.get (G : Nat → List TV) (s : TS) : OpT → TV
 | .tmp t => (s.t t).dem
 | .take t => s.t t
 | .const v => v
 | .func g => .fn g []
 | .glob i => .rp (G i) 0
def argV : TV → TV
 | .agg cs => .agg (cs.map TV.shr)
 | v => v.shr
def TS.getA (G : Nat → List TV) (s : TS) : OpT → TV
 | .tmp t => argV (s.t t)
 | .take t => (s.t t).toTip
 | .const v => v.toTip
 | .func g => .fn g []
 | .glob i => .rp (G i) 0
def TS.drop (s : TS) : OpT → TS
 | .take t => { s with t := upd s.t t (s.t t).dem }
 | _ => s
def TS.setT (s : TS) (t : Nat) (v : TV) : TS := { s with t := upd s.t t v }
def TS.put (s : TS) (d : Option Nat) (v : TV) : TS :=
 match d with
 | some d => { s with t := upd s.t d v }
 | none => s
def TS.setB (s : TS) (b : Nat) (c : BT) : TS := { s with b := upd s.b b (some c) }
def TS.newB (s : TS) (b : Nat) (c : BT) : Option TS := if b < 100 ∨ s.seen b = true then none else some { s with b := upd s.b b (some c), seen := upd s.seen b true }
def asTT : List Nat → List TV → Nat → TV
 | i :: is, v :: vs, j => if j = i then v else asTT is vs j
 | _, _, _ => .undef
def asBT : List Nat → List BT → Nat → Option BT
 | i :: is, v :: vs, j => if j = i then some v else asBT is vs j
 | _, _, _ => none
def mkST (ins : List Nat) (tv : List TV) (bins : List Nat) (bv : List BT) : TS :=
 { t := asTT ins tv, b := asBT bins bv, seen := fun b => bins.contains b }
def Qiq (s : TS) : List Nat → Option (List BT)
 | [] => some []
 | b :: bs => bnd (s.b b) fun c => bnd (Qiq s bs) fun r => some (c :: r)
section
variable {ρ : Type}
mutual
def Qit (v : TV) (k : TV → Option ρ) : Option ρ :=
 match v with
 | .undef => k .undef
 | .int a n => k (.int a n)
 | .bool b => k (.bool b)
 | .str l => k (.str l)
 | .con c => k (.con c)
 | .sl m c l => k (.sl m c l)
 | .agg cs => Qes cs fun cs => k (.agg cs)
 | .bp b o => k (.bp b o)
 | .bs b => k (.bs b)
 | .be b i o => k (.be b i o)
 | .rp cs o => Qes cs fun cs => k (.rp cs o)
 | .rs l i => k (.rs l i)
 | .fn g cap => Qes cap fun cap => k (.fn g cap)
 | .tup vs => Qes vs fun vs => k (.tup vs)
 | .np cs => Qes cs fun cs => k (.np cs)
 | .tr c h n => k (.tr c h n)
 | .trp c h i o => k (.trp c h i o)
 | .arv es => k (.arv es)
def Qes (l : List TV) (k : List TV → Option ρ) : Option ρ :=
 match l with
 | [] => k []
 | v :: r => Qit v fun v => Qes r fun r => k (v :: r)
end
def Qrb (n : Nat) (agg take : Bool) (s : TS) (p : TV) (k : TV → TS → Option ρ) : Option ρ :=
 match p with
 | .bp b off =>
  match s.b b with
  | some (.var cs) =>
   match take with
   | true => match agg with
    | true => none
    | false => if n = 1 then bnd (cs[off]?) fun v => match v.isP with | true => none | false => k v (s.setB b (.var (cs.set off v.dem))) else none
   | false => bnd (Qpu n agg cs off) fun v => k v s
  | _ => none
 | .be b i off =>
  match s.b b with
  | some (.rows c l) => match take with | true => none | false => bnd (l[i]?) fun x => bnd (Qpu n agg (rowT c x) off) fun v => k v s
  | _ => none
 | .rp cs off => match take with | true => none | false => bnd (Qpu n agg cs off) fun v => k v s
 | .rs l i => match take with | true => none | false => match agg with | true => none | false => if n = 1 then bnd (l[i]?) fun x => k (.str x) s else none
 | _ => none
def Qws (n : Nat) (s : TS) (p v : TV) (k : TS → Option ρ) : Option ρ :=
 if v.cells.length = n ∧ (v.cells.all TV.one) = true then
  match p with
  | .bp b off =>
   match s.b b with
   | some (.var cs) => bnd (Qpt cs off v.scells) fun cs' => Qes cs' fun cs' => k (s.setB b (.var cs'))
   | _ => none
  | .be b i off =>
   match s.b b with
   | some (.rows c l) => bnd (l[i]?) fun x => bnd (Qpt (rowT c x) off (v.cells.map TV.shr)) fun cs' => bnd (Qir c cs') fun y => k (s.setB b (.rows c (l.set i y)))
   | _ => none
  | _ => none
 else none
noncomputable def binT (op : BinOp) (x y : TV) (k : TV → Option ρ) : Option ρ :=
 match x, y with
 | .int kx a, .int ky b =>
  match op with
  | .shl => bnd (shlI kx a b) fun n => k (.int kx n)
  | .shr => bnd (shrI kx a b) fun n => k (.int kx n)
  | op => if kx = ky then
    match op with
    | .add => k (.int kx (wrT kx (a + b)))
    | .sub => k (.int kx (wrT kx (a - b)))
    | .mul => k (.int kx (wrT kx (a * b)))
    | .quo => bnd (quoI kx a b) fun n => k (.int kx n)
    | .rem => bnd (remI a b) fun n => k (.int kx n)
    | .and => k (.int kx (bits .and kx a b))
    | .or => k (.int kx (bits .or kx a b))
    | .xor => k (.int kx (bits .xor kx a b))
    | .eql => k (.bool (decide (a = b)))
    | .neq => k (.bool (!decide (a = b)))
    | .lss => k (.bool (decide (a < b)))
    | .leq => k (.bool (decide (a ≤ b)))
    | .gtr => k (.bool (decide (b < a)))
    | .geq => k (.bool (decide (b ≤ a)))
    | _ => none
   else none
 | .str a, .str b =>
  match op with
  | .add => bnd (catS a b) fun l => k (.str l)
  | .eql => k (.bool (a == b))
  | .neq => k (.bool (!(a == b)))
  | _ => none
 | _, _ => none
noncomputable def unT (op : UnOp) (x : TV) (k : TV → Option ρ) : Option ρ :=
 match op, x with
 | .neg, .int kx n => k (.int kx (wrT kx (0 - n)))
 | .not, .bool b => k (.bool (!b))
 | _, _ => none
def Qnv (s : TS) : List TV → Nat → Option (List TV × List BT × List Nat)
 | [], _ => some ([], [], [])
 | .bp b off :: r, j =>
  if off = 0 ∧ j < 99 then
   match s.b b with
   | some (.var cs) => bnd (Qnv s r (j + 1)) fun q => if q.2.2.contains b then none else some (.bp j 0 :: q.1, .var cs :: q.2.1, b :: q.2.2)
   | _ => none
  else none
 | v :: r, j => match v.isP with | true => none | false => bnd (Qnv s r j) fun q => some (v :: q.1, q.2.1, q.2.2)
def Qpl (s : TS) : List Nat → List BT → Option TS
 | [], [] => some s
 | b :: bs, c :: cs => Qpl (s.setB b c) bs cs
 | _, _ => none
def Qxm (Φ : CT ρ) (s : TS) (g : Nat) (site : Nat) (as : List TV) (k : TV → TS → Option ρ) : Option ρ :=
 bnd (Qnv s as 0) fun q => Φ g q.1 q.2.1 fun _ outs bv' => bnd (Qpl s q.2.2 bv') fun s' =>
  match outs with
  | [v] => match v with
   | .np cs => bnd (s'.newB site (.var cs)) fun s'' => k (.bp site 0) s''
   | v => match v.isP with | true => none | false => k v s'
  | _ => none
def Qdp : List OpT → Bool
 | [] => true
 | .take t :: r => (r.all fun | .take u => u != t | _ => true) && Qdp r
 | _ :: r => Qdp r
def Qpc (s : TS) : List TV → Option (List TV × TS)
 | [] => some ([], s)
 | .bp b off :: r =>
  if off = 0 then
   match s.b b with
   | some (.var cs) => bnd (Qpc { s with b := upd s.b b none } r) fun q => some (.rp (cs.map TV.shr) 0 :: q.1, q.2)
   | _ => none
  else none
 | v :: r => match v.isP with | true => none | false => bnd (Qpc s r) fun q => some (v.shr :: q.1, q.2)
noncomputable def convT (s : TS) (c : CK) (x : TV) (k : TV → TS → Option ρ) : Option ρ :=
 match c, x with
 | .int kk, .int _ n => k (.int kk (wrT kk n)) s
 | .strstr, .str l => k (.str l) s
 | .bytesStr, .sl _ .u8 l => k (.str (bytes l)) s
 | .bytesStr, .bs b =>
  match s.b b with
  | some (.rows .u8 l) => k (.str (bytes l)) s
  | _ => none
 | .strBytes b, .str l => bnd (s.newB b (.rows .u8 (Qrr l))) fun s' => k (.bs b) s'
 | .runeStr, .int _ n => bnd (rune n) fun l => k (.str l) s
 | _, _ => none
def Qrm : OpT → OpT → Bool
 | .tmp a, .tmp b => Nat.beq a b
 | .const (.int _ a), .const (.int _ b) => decide (a = b)
 | _, _ => false
def bndT (G : Nat → List TV) (s : TS) (x : Option OpT) (d : Int) : Option Int :=
 match x with
 | none => some d
 | some x => match s.get G x with | .int _ n => some n | _ => none
noncomputable def Qia (c : TC) (xs : List (List AV)) : Option (List (Den c)) := open Classical in if h : ∃ l : List (Den c), l.map (Qe c) = xs then some h.choose else none
noncomputable def Qai (es : List Ent) (c : TC) (h : Option Nat) : Option (List (Den c)) := bnd (Qbm es c.sz h) (Qia c)
def Qaj (es : List Ent) (c : TC) (l : List (Den c)) : List Ent := es ++ [some (c.sz, l.map (Qe c))]
noncomputable def Qlo (es : List Ent) (c : TC) (h : Option Nat) (i : Nat) : Option (Den c) := bnd (Qai es c h) fun l => l[i]?
def Qhv (es : List Ent) (c : TC) (h : Option Nat) (i : Nat) (x : Den c) : List Ent := setO es h (some (c.sz, ((Qbm es c.sz h).getD []).set i (Qe c x)))
noncomputable def Qnf (es : List Ent) (c : TC) (h : Option Nat) (n : Nat) (ys : List (Den c)) : Option (List Ent) :=
 if n + ys.length ≤ 4294967296 then bnd (Qai es c h) fun l => some (Qaj (killO es h) c (l ++ ys)) else none
noncomputable def Qur (es : List Ent) (c : TC) (h : Option Nat) (n : Nat) (i : Int) : Option (Nat × List Ent) :=
 if 0 ≤ i ∧ i ≤ n then bnd (Qai es c h) fun l => some (i.toNat, Qaj (killO es h) c (l.take i.toNat)) else none
def idxN (n : Nat) (i : Int) : Option Nat := if 0 ≤ i ∧ i < n then some i.toNat else none
def Qot (es es' : List Ent) : Option (List Ent) := if ((es'.drop es.length).all Qkl) = true ∧ es.length ≤ es'.length then some (es ++ es'.drop es.length) else none
def Qcn (f : (c : TC) → Option Nat → Option (List (Den c.seen))) : (c : TC) → Den c → Option (Den c.seen)
 | .intsH, x => f .int x.id
 | .stmsH, x => f .stm x.id
 | .stmsHH, x => f .stmH x.id
 | .expH, x => bnd (f .expH x.args.id) fun as => some ⟨x.op, x.n, as⟩
 | .stmH, x => bnd (f .expH x.args.id) fun as => bnd (f .stmH x.body.id) fun bd => bnd (f .stmH x.els.id) fun el => some ⟨x.kind, x.var, x.box, ⟨x.eop, x.en, as⟩, bd, el⟩
 | .bxH, x => bnd (f .int x.items.id) fun l => some ⟨x.room, l⟩
 | .tkH, x => bnd (f .int x.vars.id) fun l => bnd (f .stmH x.rest.id) fun r => some ⟨l, r⟩
 | .rgH, x => bnd (f .int x.slots.id) fun l => some ⟨x.room, x.head, x.len, l⟩
 | .prgH, x => bnd (f .int x.rooms.id) fun l => bnd (f .stmsHH x.tasks.id) fun r => some ⟨l, r⟩
 | .wldH, x => bnd (f .tkH x.tasks.id) fun l => bnd (f .bxH x.boxes.id) fun r => bnd (f .int x.out.id) fun o => some ⟨l, r, x.turn, x.idle, o⟩
 | .wldO, x => bnd (f .int x.out.id) fun o => some ⟨x.tasks, x.boxes, x.turn, x.idle, o⟩
 | .otcH, x => bnd (f .int x.out.id) fun l => bnd (f .intsH x.items.id) fun r => bnd (f .bool x.ended.id) fun o => some ⟨l, r, o, x.rest⟩
 | .int, x => some x
 | .u8, x => some x
 | .bool, x => some x
 | .str, x => some x
 | .quad, x => some x
 | .event, x => some x
 | .exp, x => some x
 | .stm, x => some x
 | .stms, x => some x
 | .bx, x => some x
 | .tk, x => some x
 | .ints, x => some x
 | .rg, x => some x
 | .prg, x => some x
 | .wld, x => some x
 | .otc, x => some x
 | .fn, x => some x
def mapB {α β : Type} (f : α → Option β) : List α → Option (List β)
 | [] => some []
 | x :: r => bnd (f x) fun y => bnd (mapB f r) fun l => some (y :: l)
noncomputable def Qol (es : List Ent) : Nat → (c : TC) → Option Nat → Option (List (Den c.seen))
 | 0, _, _ => none
 | k + 1, c, h => bnd (Qai es c h) fun l => mapB (Qcn (Qol es k) c) l
noncomputable def Qlx (es : List Ent) (c : TC) (h : Option Nat) : Option (List (Den c.seen)) := Qol es (es.length + 1) c h
mutual
def TV.noTr : TV → Bool
 | .undef => true
 | .int _ _ => true
 | .bool _ => true
 | .str _ => true
 | .con _ => true
 | .sl _ c _ => c.plain
 | .agg cs => Qge cs
 | .bp _ _ => true
 | .bs _ => true
 | .be _ _ _ => true
 | .rp cs _ => Qge cs
 | .rs _ _ => true
 | .fn _ cs => Qge cs
 | .tup cs => Qge cs
 | .np cs => Qge cs
 | .tr _ _ _ => false
 | .trp _ _ _ _ => false
 | .arv _ => false
def Qge : List TV → Bool
 | [] => true
 | c :: cs => c.noTr && Qge cs
end
def BT.noTr : BT → Bool
 | .var cs => Qge cs
 | .rows c _ => c.plain
 | .ar _ => false
def BT.isAr : BT → Bool
 | .ar _ => true
 | _ => false
mutual
def TV.flat : TV → Bool
 | .int _ _ => true
 | .bool _ => true
 | .str _ => true
 | .agg cs => Qpk cs
 | .tup cs => Qpk cs
 | _ => false
def Qpk : List TV → Bool
 | [] => true
 | c :: cs => c.flat && Qpk cs
end
mutual
def TV.flatT : TV → Bool
 | .int _ _ => true
 | .bool _ => true
 | .str _ => true
 | .tr _ _ _ => true
 | .agg cs => Qkm cs
 | .tup cs => Qkm cs
 | _ => false
def Qkm : List TV → Bool
 | [] => true
 | c :: cs => c.flatT && Qkm cs
end
def TV.calm : TV → Bool
 | .bp _ _ | .bs _ | .be _ _ _ | .np _ | .arv _ => false
 | .sl (.own true) _ _ => false
 | _ => true
noncomputable def Quj (es : List Ent) (v : TV) (k : TV → Option ρ) : Option ρ :=
 match v with
 | .tr c h n => bnd (Qlx es c h) fun l => k (.sl .share c.seen l)
 | v => match v.noTr with | true => k v | false => none
def Qll (f : TV → (TV → Option ρ) → Option ρ) : List TV → (List TV → Option ρ) → Option ρ
 | [], k => k []
 | v :: r, k => f v fun v => Qll f r fun r => k (v :: r)
noncomputable def Qzl (es : List Ent) (v : TV) (k : TV → Option ρ) : Option ρ :=
 match v with
 | .agg cs => Qll (Quj es) cs fun cs => k (.agg cs)
 | v => Quj es v k
noncomputable def viewT (es : List Ent) (v : TV) (k : TV → Option ρ) : Option ρ :=
 match v with
 | .agg cs => Qll (Quj es) cs fun cs => k (.agg cs)
 | .tup cs => Qll (Qzl es) cs fun cs => k (.tup cs)
 | v => Quj es v k
noncomputable def Qxa (es : List Ent) : List TV → (List TV → Option ρ) → Option ρ := Qll (Qzl es)
noncomputable def Qwn (es : List Ent) (v : TV) (k : TV → List Nat → Option ρ) : Option ρ :=
 match v with
 | .tr c h n => match c.plain with | true => bnd (Qlx es c h) fun l => k (.sl .share c.seen l) h.toList | false => none
 | v => match v.noTr with | true => k v [] | false => none
def Qqa (f : TV → (TV → List Nat → Option ρ) → Option ρ) : List TV → (List TV → List Nat → Option ρ) → Option ρ
 | [], k => k [] []
 | v :: r, k => f v fun v i => Qqa f r fun r j => k (v :: r) (i ++ j)
noncomputable def sealT (es : List Ent) (v : TV) (k : TV → List Nat → Option ρ) : Option ρ :=
 match v with
 | .agg cs => Qqa (Qwn es) cs fun cs ids => k (.agg cs) ids
 | v => Qwn es v k
noncomputable def Qzy (es : List Ent) : List TV → (List TV → List Nat → Option ρ) → Option ρ := Qqa (sealT es)
noncomputable def Qld (es : List Ent) : List Bool → List TV → (List TV → List Nat → Option ρ) → Option ρ
 | true :: bs, v :: cs, k => Qwn es v fun v i => Qld es bs cs fun r j => k (v :: r) (i ++ j)
 | false :: bs, v :: cs, k => Qld es bs cs fun r j => k (v :: r) j
 | [], cs, k => k cs []
 | _, [], k => k [] []
def TS.setA (s : TS) (es : List Ent) : TS := s.setB 99 (.ar es)
def Qho : List BT → Option (List BT × List Ent)
 | [] => none
 | [.ar es] => some ([], es)
 | c :: r => bnd (Qho r) fun q => some (c :: q.1, q.2)
def Qsd (Φ : CT ρ) (s : TS) (g : Nat) (as : List TV) (es : List Ent) (k : TV → TS → Option ρ) : Option ρ :=
 bnd (Qnv s as 0) fun q => Φ g q.1 (q.2.1 ++ [.ar es]) fun _ outs bv' => bnd (Qho bv') fun z => bnd (Qpl s q.2.2 z.1) fun s' =>
  match outs with
  | [v] => match v.isP with | true => none | false => k v (s'.setA z.2)
  | _ => none
noncomputable def Qki (Φ : CT ρ) (s : TS) (es : List Ent) (m : CM) (g : Nat) (as : List TV) (k : TV → TS → Option ρ) : Option ρ :=
 match m with
 | .pass => Qsd Φ s g as es k
 | .view => Qxa es as fun as => match as.all TV.calm with
  | true => Φ g as [] fun _ outs bv' => match outs, bv' with
   | [v], [] => match v.flat with | true => k v s | false => none
   | _, _ => none
  | false => none
 | .pview => Qxa es as fun as => match as.all TV.calm with
  | true => Φ g as [.ar (Go.Vs.Qec es)] fun _ outs bv' => match outs, bv' with
   | [v], [.ar es'] => match v.flatT with | true => bnd (Qot es es') fun es'' => k v (s.setA es'') | false => none
   | _, _ => none
  | false => none
 | .pseal => Qzy es as fun as ids => Qsd Φ s g as (Qev es ids) k
def ownT (b : Nat) (c : TC) (id n : Nat) : TV → TV
 | .bs b' => if b' = b then .tr c (some id) n else .bs b'
 | v => v
noncomputable def Qdb (Φ : CT ρ) (G : Nat → List TV) (s : TS) (op : TKT) (k : TV → TS → Option ρ) : Option ρ :=
 match op with
 | .mk c x y => match s.b 99 with
  | some (.ar es) => match s.get G x, s.get G y with
   | .int _ n, .int _ m => bnd (made n) fun a => match Qrm x y with | true => k (.tr c (some es.length) a) (s.setA (Qaj es c (List.replicate a (Qlq c)))) | false => none
   | _, _ => none
  | _ => none
 | .nil c => k (.tr c none 0) s
 | .lit c parts => match s.b 99 with
  | some (.ar es) => bnd (parts.mapM fun p => Qir c ((s.get G p).cells.map TV.shr)) fun l => k (.tr c (some es.length) parts.length) (s.setA (Qaj es c l))
  | _ => none
 | .app sz x y => match s.b 99 with
  | some (.ar es) => match s.get G x, s.get G y with
   | .tr c h n, .sl _ c' l' => if c.sz = sz then bnd (Qbv c' c l') fun l' => bnd (Qnf es c h n l') fun A => k (.tr c (some es.length) (n + l'.length)) (s.setA A) else none
   | .tr c h n, .tr c' h' _ => if c.sz = sz ∧ c' = c then bnd (Qai es c h') fun l' => bnd (Qnf es c h n l') fun A => k (.tr c (some es.length) (n + l'.length)) (s.setA A) else none
   | _, _ => none
  | _ => none
 | .cut sz x y => match s.b 99 with
  | some (.ar es) => match s.get G x, s.get G y with
   | .tr c h n, .int _ i => if c.sz = sz then bnd (Qur es c h n i) fun q => k (.tr c (some es.length) q.1) (s.setA q.2) else none
   | _, _ => none
  | _ => none
 | .len x => match s.get G x with | .tr _ _ n => k (.int .i64 (n : Int)) s | _ => none
 | .iadr sz x i =>
  match s.get G x, s.get G i with
  | .tr c h n, .int _ i => if c.sz = sz then bnd (idxN n i) fun j => k (.trp c h j 0) s else none
  | _, _ => none
 | .fadr off x => match s.get G x with | .trp c h i o => k (.trp c h i (o + off)) s | _ => none
 | .nilck x => match s.get G x with | .trp c h i o => k (.trp c h i o) s | _ => none
 | .load n agg x =>
  match s.get G x with
  | .trp c h i off => match s.b 99 with
   | some (.ar es) => bnd (Qlo es c h i) fun x => bnd (Qpu n agg (rowT c x) off) fun v => k v s
   | _ => none
  | _ => none
 | .store n x v =>
  if (s.get G v).cells.length = n ∧ ((s.get G v).cells.all TV.one) = true then
   match s.get G x with
   | .trp c h i off => match s.b 99 with
    | some (.ar es) => bnd (Qlo es c h i) fun x => bnd (Qpt (rowT c x) off ((s.get G v).cells.map TV.shr)) fun cs' => bnd (Qir c cs') fun y => k (.tup []) ((s.drop v).setA (Qhv es c h i y))
    | _ => none
   | _ => none
  else none
 | .call m g args => if Qdp args = true ∧ g % 100 = 0 then match s.b 99 with
  | some (.ar es) => Qki Φ (args.foldl TS.drop s) es m g (args.map (s.getA G)) k
  | _ => none else none
 | .bld b zero parts => match s.b 99 with
  | some (.ar es) => match s.b b with
   | some (.rows c l) => if 100000 ≤ b then
     bnd (Qtm zero (parts.map fun p => (p.1, p.2.1, ownT b c es.length l.length (s.get G p.2.2)))) fun cs => k (.agg cs) (({ s with b := upd s.b b none } : TS).setA (Qaj es c l)) else none
   | _ => none
  | _ => none
noncomputable def Qx (Φ : CT ρ) (G : Nat → List TV) (s : TS) (op : KT) (k : TV → TS → Option ρ) : Option ρ :=
 match op with
 | .tr op => Qdb Φ G s op k
 | .mv x => k (s.get G x) (s.drop x)
 | .pick c x y => match s.get G c with | .bool b => (match b with | true => k (s.get G x) (s.drop x) | false => k (s.get G y) (s.drop y)) | _ => none
 | .alloc b zero => Qes zero fun zero => bnd (s.newB b (.var zero)) fun s' => k (.bp b 0) s'
 | .box b x => if ((s.get G x).cells.all TV.one) = true then Qes ((s.get G x).cells.map TV.dem) fun cs => bnd (s.newB b (.var cs)) fun s' => k (.bp b 0) s' else none
 | .build zero parts => bnd (Qtm zero (parts.map fun p => (p.1, p.2.1, (s.get G p.2.2)))) fun cs => k (.agg cs) s
 | .buildS m c parts => bnd (parts.mapM fun p => Qir c ((s.get G p).cells.map TV.shr)) fun l => match m, parts with
  | .own false, _ :: _ => none
  | m, _ => k (.sl m c l) s
 | .load n agg take x => Qrb n agg take s (s.get G x) k
 | .store n x v => Qws n (s.drop v) (s.get G x) (s.get G v) fun s' => k (.tup []) s'
 | .nilck x =>
  match s.get G x with
  | .bp b o => if s.live b = true then k (.bp b o) s else none
  | .be b i o => if s.live b = true then k (.be b i o) s else none
  | .rp cs o => k (.rp cs o) s
  | .rs l i => k (.rs l i) s
  | .fn g c => k (.fn g c) s
  | _ => none
 | .bin op x y => binT op (s.get G x) (s.get G y) fun v => k v s
 | .eqb neq x y =>
  match s.get G x, s.get G y with
  | .bool a, .bool b => k (.bool (bif neq then !(a == b) else a == b)) s
  | _, _ => none
 | .eqs neq n x y =>
  match s.get G x, s.get G y with
  | .agg a, .agg b => if a.length = n ∧ b.length = n then bnd (Qnp a b) fun r => k (.bool (bif neq then !r else r)) s else none
  | _, _ => none
 | .un op x => unT op (s.get G x) fun v => k v s
 | .conv c x => convT s c (s.get G x) k
 | .mkfn g caps => bnd (Qpc s (caps.map (s.get G))) fun q => k (.fn g q.1) q.2
 | .mksl b c x y =>
  match s.get G x, s.get G y with
  | .int _ n, .int _ m => bnd (made n) fun a => match Qrm x y with | true => bnd (s.newB b (.rows c (List.replicate a (Qlq c)))) fun s' => k (.bs b) s' | false => none
  | _, _ => none
 | .mkz c x y =>
  match s.get G x, s.get G y with
  | .int _ n, .int _ m => bnd (made n) fun a => match Qrm x y with | true => k (.sl .full c (List.replicate a (Qlq c))) s | false => none
  | _, _ => none
 | .slcS x lo hi =>
  match s.get G x with
  | .str l => bnd (bndT G s lo 0) fun a => bnd (bndT G s hi l.length) fun b => bnd (cutL l a b) fun l' => k (.str l') s
  | _ => none
 | .slc sz x lo hi mx =>
  match mx with
  | some _ => none
  | none => match s.get G x with
   | .sl _ c l => if c.sz = sz then bnd (bndT G s lo 0) fun a => bnd (bndT G s hi l.length) fun b => bnd (cutL l a b) fun l' => k (.sl .share c l') s else none
   | _ => none
 | .fadr off x =>
  match s.get G x with
  | .bp b o => if s.live b = true then k (.bp b (o + off)) s else none
  | .be b i o => if s.live b = true then k (.be b i (o + off)) s else none
  | .rp cs o => k (.rp cs (o + off)) s
  | _ => none
 | .fld off n agg x =>
  match s.get G x with
  | .agg cs => bnd (Qpu n agg cs off) fun v => k v s
  | _ => none
 | .iadr sz x i =>
  match s.get G x with
  | .sl _ c l => if c.sz = sz then match s.get G i with | .int _ n => pickR c l n fun x => k (.rp (rowT c x) 0) s | _ => none else none
  | .bs b =>
   match s.b b with
   | some (.rows c l) => if c.sz = sz then match s.get G i with | .int _ n => bnd (geti l n) fun _ => k (.be b n.toNat 0) s | _ => none else none
   | _ => none
  | _ => none
 | .iadrA sz len x i =>
  match s.get G x with
  | .rp cs 0 => if sz = 1 ∧ cs.length = len then bnd (Qmy cs) fun l => match s.get G i with | .int _ n => bnd (geti l n) fun _ => k (.rs l n.toNat) s | _ => none else none
  | _ => none
 | .idxS x i =>
  match s.get G x, s.get G i with
  | .str l, .int _ n => bnd (geti l n) fun c => k (.int .u8 (c.toNat : Int)) s
  | _, _ => none
 | .idxA sz len n agg x i =>
  match s.get G x with
  | .agg cs => if sz = 1 ∧ n = 1 ∧ agg = false ∧ cs.length = len then bnd (Qmy cs) fun l => match s.get G i with | .int _ n => bnd (geti l n) fun x => k (.str x) s | _ => none else none
  | _ => none
 | .len x =>
  match s.get G x with
  | .sl _ _ l => k (.int .i64 (l.length : Int)) s
  | .bs b =>
   match s.b b with
   | some (.rows _ l) => k (.int .i64 (l.length : Int)) s
   | _ => none
  | _ => none
 | .lenS x => match s.get G x with | .str l => k (.int .i64 (l.length : Int)) s | _ => none
 | .app sz x y =>
  match s.get G x, s.get G y with
  | .sl m c l, .sl _ c' l' => if c.sz = sz then bnd (Qbv c' c l') fun l' => bnd (appM m l l') fun r => k (.sl (.own true) c r) (s.drop x) else none
  | _, _ => none
 | .ext i x =>
  match s.get G x with
  | .tup vs => bnd (vs[i]?) fun v => match v.isP with | true => none | false => k v.shr s
  | _ => none
 | .call g site args => if Qdp args = true then Qxm Φ (args.foldl TS.drop s) g site (args.map (s.getA G)) k else none
 | .callv f args =>
  match s.get G f with
  | .fn g cap => if Qdp args = true ∧ g % 100 = 0 then Qxm Φ (args.foldl TS.drop s) g 0 (args.map (s.getA G) ++ cap.map TV.shr) k else none
  | _ => none
 | .mx args => bnd (Qmk (args.map (s.get G))) fun l => match l with | [] => none | x :: r => k (.int .i64 (r.foldl (fun a b => if a < b then b else a) x)) s
 | .mn args => bnd (Qmk (args.map (s.get G))) fun l => match l with | [] => none | x :: r => k (.int .i64 (r.foldl (fun a b => if b < a then b else a) x)) s
def Qzu (s : TS) (g : Option (Nat × Bool)) (yes no : TS → Option ρ) : Option ρ :=
 match g with
 | none => yes s
 | some (t, want) =>
  match s.t t with
  | .bool b => match want with
   | true => (match b with | true => yes (s.setT t (.bool true)) | false => no (s.setT t (.bool false)))
   | false => (match b with | true => no (s.setT t (.bool true)) | false => yes (s.setT t (.bool false)))
  | .tup _ => no s
  | _ => none
def OpT.reads : List OpT → List Nat
 | [] => []
 | .tmp t :: r => t :: reads r
 | .take t :: r => t :: reads r
 | _ :: r => reads r
def TS.mask (s : TS) (ts bs : List Nat) : TS :=
 { t := fun t => if ts.contains t then s.t t else .undef, b := fun b => if bs.contains b then s.b b else none, seen := fun b => if bs.contains b then s.seen b else true }
def TS.merge (s : TS) (takes : List Nat) (mods : Bool) (fp : List Nat) (s' : TS) : TS :=
  { t := fun t => if takes.contains t then s'.t t else s.t t
    b := fun b => if mods && fp.contains b then s'.b b else s.b b
    seen := fun b => if mods && fp.contains b then s'.seen b else s.seen b }
noncomputable def stepT (Φ : CT ρ) (G : Nat → List TV) (draw : Bool) (s : TS) (o : AOpT) (k : TS → Option ρ) : Option ρ :=
 Qzu s o.g (fun s => match draw with
  | false => Qx Φ G s o.k fun v s' => Qit v fun v => k (s'.put o.d v)
  | true => Qx Φ G (s.mask o.er.reads o.fp) o.k fun v s' => Qit v fun v => k ((s.merge o.er.takes o.er.k.mods o.fp s').put o.d v)) fun s => k (s.put o.d (.tup []))
noncomputable def opsT (Φ : CT ρ) (G : Nat → List TV) (draw : Bool) : List AOpT → TS → (TS → Option ρ) → Option ρ
 | [], s, k => k s
 | o :: r, s, k => stepT Φ G draw s o fun s' => opsT Φ G draw r s' k
def Qwz (id : Nat) : Oc → Oc
 | .exit i => if i = id then .norm else .exit i
 | o => o
def Qyb (s : TS) : OpT → Bool → TS
 | .tmp t, b => s.setT t (.bool b)
 | _, _ => s
noncomputable def runC (Φ : CT ρ) (F : Nat → Option ProcT) (G : Nat → List TV) : ACT → TS → (Oc → TS → Option ρ) → Option ρ
 | .skip, s, k => k .norm s
 | .flip o ps _, s, k => opsT Φ G false (o :: ps) s fun s' => k .norm s'
 | .region draw ops, s, k => opsT Φ G draw ops s fun s' => k .norm s'
 | .seq a b, s, k => runC Φ F G a s fun oc s' => match oc with | .norm => runC Φ F G b s' k | o => k o s'
 | .cond c x y, s, k => match s.get G c with | .bool t => (match t with | true => runC Φ F G x (Qyb s c true) k | false => runC Φ F G y (Qyb s c false) k) | _ => none
 | .block id a, s, k => runC Φ F G a s fun oc s' => k (Qwz id oc) s'
 | .exit id, s, k => k (.exit id) s
 | .ret, s, k => k .ret s
 | .label g, s, k =>
  match F g with
  | some p =>
   if (p.kind = .join ∨ p.kind = .loop) ∧ ((p.ins.map s.t).all (TV.okIn p.bins)) = true then
    bnd (Qiq s p.bins) fun bv => Φ g (p.ins.map s.t) bv fun o tv bv' => k o (mkST p.outs tv p.bouts bv')
   else none
  | none => none
def Qri : TV → Option TV
 | .sl m c l => some (.sl m.res c l)
 | .agg cs => some (.agg (cs.map TV.shr))
 | .bs _ | .bp _ _ | .be _ _ _ | .np _ => none
 | v => some v
def resVT (s : TS) : TV → Option TV
 | .bs b => if 100 ≤ b then match s.b b with | some (.rows c l) => some (.sl .share c l) | _ => none else none
 | .bp b off => if off = 0 ∧ 100 ≤ b then match s.b b with | some (.var cs) => some (.np (cs.map TV.shr)) | _ => none else none
 | v => Qri v
def Qwi (s : TS) : RS → Option TV
 | .keep t n => Qrb n true false s (s.t t) fun v _ => match v with | .agg cs => some (.agg (cs.map TV.dem)) | _ => none
 | .tmp t => resVT s (s.t t)
 | .cell t n agg => Qrb n agg false s (s.t t) fun v _ => Qri v
def Qrh (s : TS) : RS → Option TV
 | .keep _ _ => none
 | .tmp t => Qri (s.t t)
 | .cell t n agg => Qrb n agg false s (s.t t) fun v _ => Qri v
def Qky (s : TS) : List RS → Option (List TV)
 | [] => some []
 | r :: rs => bnd (Qrh s r) fun v => bnd (Qky s rs) fun l => some (v.shr :: l)
def Qrj (s : TS) : List RS → Option TV
 | [r] => Qwi s r
 | rs => bnd (Qky s rs) fun l => some (.tup l)
end
end Go.Tv