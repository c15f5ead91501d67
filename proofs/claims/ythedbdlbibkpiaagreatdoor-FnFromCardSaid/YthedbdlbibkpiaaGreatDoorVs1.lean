/- The plain machine: values without memory, a code without types and places, what it answers, and how it is unfolded. -/
import Derived.WalkKit
import Derived.IntWalk
import Derived.Deep.AppendSrc
set_option linter.unusedVariables false
namespace Go.Vs
open Go Go.RowKit

/-- One step behind another. What follows is looked at only when the first is known. -/
def bnd {α β : Type} (x : Option α) (f : α → Option β) : Option β := match x with | some a => f a | none => none
theorem bnd_eq {α β : Type} (x : Option α) (f : α → Option β) : bnd x f = x.bind f := by cases x <;> rfl
@[congr] theorem bnd_congr {α β : Type} {x y : Option α} {f : α → Option β} (h : x = y) : bnd x f = bnd y f := by rw [h]
@[simp] theorem bnd_some {α β : Type} (a : α) (f : α → Option β) : bnd (some a) f = f a := rfl
@[simp] theorem bnd_none {α β : Type} (f : α → Option β) : bnd none f = none := rfl
theorem bnd_ite {α β : Type} (c : Prop) [Decidable c] (x y : Option α) (f : α → Option β) : bnd (if c then x else y) f = if c then bnd x f else bnd y f := by split <;> rfl
theorem bnd_bnd {α β γ : Type} (x : Option α) (f : α → Option β) (g : β → Option γ) : bnd (bnd x f) g = bnd x fun a => bnd (f a) g := by cases x <;> rfl

theorem bnd_is {α β : Type} {x : Option α} {f : α → Option β} {y : β} : bnd x f = some y ↔ ∃ a, x = some a ∧ f a = some y := by
  cases x <;> simp

/-- How a slice may be used: 'zero': its capacity is 0; 'tip': whoever holds it may append in place; 'share': it is only read; 'full': its capacity is its length. -/
inductive SM where
  | zero | tip | share | full
  deriving DecidableEq

/-- The constants nil of a pointer, a function, an interface. -/
inductive Con where
  | nilp | nilf | nili
def Con.val : Con → Value
  | .nilp => .pointer none
  | .nilf => .nilFunc
  | .nili => .nilIface

/-- A value by itself: what lies behind a slice is part of it. -/
inductive AV where
  | undef
  | int (k : IntKind) (n : Int)
  | bool (b : Bool)
  | str (l : List UInt8)
  | con (c : Con)
  | sl (m : SM) (sz : Nat) (xs : List (List AV))
  | agg (cs : List AV)
  | bp (b off : Nat)
  | bs (b : Nat)
  | be (b i off : Nat)
  | rp (cs : List AV) (off : Nat)
  | fn (g : Nat) (cap : List AV)
  | tup (vs : List AV)
  | np (cs : List AV)

/-- What a variable in memory holds: a value's cells, or the rows of a slice that was made. -/
inductive BC where
  | var (cs : List AV)
  | rows (sz : Nat) (xs : List (List AV))

/-- A copy: no copy may append in place. -/
def AV.dem : AV → AV
  | .sl .tip sz xs => .sl .share sz xs
  | v => v
/-- A value inside another: it is only read. -/
def AV.share : AV → AV
  | .sl _ sz xs => .sl .share sz xs
  | v => v
def AV.toTip : AV → AV
  | .sl .zero sz xs => .sl .tip sz xs
  | v => v

def upd {α : Type} (f : Nat → α) (i : Nat) (v : α) : Nat → α := fun j => if j = i then v else f j
theorem upd_at {α : Type} (f : Nat → α) (i : Nat) (v : α) (j : Nat) : upd f i v j = if j = i then v else f j := rfl
theorem upd_same {α : Type} (f : Nat → α) (i : Nat) (v : α) : upd f i v i = v := by simp [upd]
theorem upd_ne {α : Type} (f : Nat → α) {i j : Nat} (v : α) (h : j ≠ i) : upd f i v j = f j := by simp [upd, h]

structure S where
  t : Nat → AV
  b : Nat → Option BC
  seen : Nat → Bool

inductive Opnd where
  | tmp (t : Nat)
  | take (t : Nat)
  | const (v : AV)
  | func (g : Nat)
  | glob (i : Nat)

inductive CK where
  | int (k : IntKind)
  | strstr
  | bytesStr
  | strBytes (b : Nat)
  | runeStr

inductive K where
  | mv (x : Opnd)
  | pick (c x y : Opnd)
  | alloc (b : Nat) (zero : List AV)
  | box (b : Nat) (x : Opnd)
  | build (zero : List AV) (parts : List (Nat × Nat × Opnd))
  | buildS (m : SM) (sz : Nat) (parts : List Opnd)
  | load (n : Nat) (agg : Bool) (take : Bool) (x : Opnd)
  | store (n : Nat) (x v : Opnd)
  | nilck (x : Opnd)
  | bin (op : BinOp) (x y : Opnd)
  | eqb (neq : Bool) (x y : Opnd)
  | eqs (neq : Bool) (n : Nat) (x y : Opnd)
  | un (op : UnOp) (x : Opnd)
  | conv (c : CK) (x : Opnd)
  | mkfn (g : Nat) (caps : List Opnd)
  | mksl (b sz : Nat) (zero : List AV) (n c : Opnd)
  | mkz (sz : Nat) (zero : List AV) (n c : Opnd)
  | slc (sz : Nat) (x : Opnd) (lo hi mx : Option Opnd)
  | slcS (x : Opnd) (lo hi : Option Opnd)
  | fadr (off : Nat) (x : Opnd)
  | fld (off n : Nat) (agg : Bool) (x : Opnd)
  | iadr (sz : Nat) (x i : Opnd)
  | iadrA (sz len : Nat) (x i : Opnd)
  | idxS (x i : Opnd)
  | idxA (sz len n : Nat) (agg : Bool) (x i : Opnd)
  | len (x : Opnd)
  | lenS (x : Opnd)
  | app (sz : Nat) (x y : Opnd)
  | ext (i : Nat) (x : Opnd)
  | call (g : Nat) (site : Nat) (args : List Opnd)
  | callv (f : Opnd) (args : List Opnd)
  | mx (args : List Opnd)
  | mn (args : List Opnd)

/-- 'fp': where the order is drawn, the variables that the operation comes to. -/
structure AOp where
  d : Option Nat
  k : K
  g : Option (Nat × Bool) := none
  fp : List Nat := []

inductive AC where
  | skip
  | region (draw : Bool) (ops : List AOp)
  | seq (a b : AC)
  | cond (c : Opnd) (x y : AC)
  | block (id : Nat) (a : AC)
  | exit (id : Nat)
  | ret
  | label (g : Nat)

inductive Oc where
  | norm
  | exit (id : Nat)
  | ret

inductive RS where
  | keep (t n : Nat)
  | tmp (t : Nat)
  | cell (t : Nat) (n : Nat) (agg : Bool)

inductive PK where
  | fn
  | join
  | loop
  | prim
  deriving DecidableEq

structure Proc where
  kind : PK
  ins : List Nat
  bins : List Nat
  code : AC
  outs : List Nat := []
  bouts : List Nat := []
  res : List RS := []
  pf : List AV → Option AV := fun _ => none

abbrev Res := Oc × List AV × List BC
abbrev Call := Nat → List AV → List BC → Option Res

/-! ### Arithmetic, as the model has it -/
def wr : IntKind → Int → Int
  | .i64, n => wrap64 n
  | .i32, n => wrap32 n
  | .u8, n => n % 256
  | .u32, n => n % 4294967296
  | k, n => k.wrap n

def binI (op : BinOp) (k : IntKind) (x y : Int) : Option AV :=
  match op with
  | .add => some (.int k (wr k (x + y)))
  | .sub => some (.int k (wr k (x - y)))
  | .mul => some (.int k (wr k (x * y)))
  | .quo => if y = 0 then none else some (.int k (wr k (x.tdiv y)))
  | .rem => if y = 0 then none else some (.int k (x.tmod y))
  | .and => some (.int k (bits .and k x y))
  | .or => some (.int k (bits .or k x y))
  | .xor => some (.int k (bits .xor k x y))
  | .eql => some (.bool (decide (x = y)))
  | .neq => some (.bool (!decide (x = y)))
  | .lss => some (.bool (decide (x < y)))
  | .leq => some (.bool (decide (x ≤ y)))
  | .gtr => some (.bool (decide (y < x)))
  | .geq => some (.bool (decide (y ≤ x)))
  | _ => none

/-- No string or slice of the plain machine grows past this. -/
def LIM : Nat := 1099511627776

def binS (op : BinOp) (x y : List UInt8) : Option AV :=
  match op with
  | .add => if x.length + y.length ≤ LIM then some (.str (x ++ y)) else none
  | .eql => some (.bool (x == y))
  | .neq => some (.bool (!(x == y)))
  | _ => none

def shiftI (op : BinOp) (k : IntKind) (x y : Int) : Option AV :=
  if y < 0 then none else
  match op with
  | .shl => some (.int k (wr k (x * 2 ^ min y.toNat k.bits)))
  | .shr => some (.int k (x.fdiv (2 ^ min y.toNat k.bits)))
  | _ => none

def bin (op : BinOp) (x y : AV) : Option AV :=
  match x, y with
  | .int k a, .int k' b =>
    match op with
    | .shl => shiftI .shl k a b
    | .shr => shiftI .shr k a b
    | op => if k = k' then binI op k a b else none
  | .str a, .str b => binS op a b
  | _, _ => none

def un (op : UnOp) (x : AV) : Option AV :=
  match op, x with
  | .neg, .int k n => some (.int k (wr k (0 - n)))
  | .not, .bool b => some (.bool (!b))
  | _, _ => none

/-- Structs whose cells are all whole numbers: are they equal? -/
def eqInts : List AV → List AV → Option Bool
  | [], [] => some true
  | .int k a :: xs, .int k' b :: ys => if k = k' then bnd (eqInts xs ys) fun r => some (decide (a = b) && r) else none
  | _, _ => none

/-! ### Operands, boxes -/
def S.get (G : Nat → List AV) (s : S) : Opnd → AV
  | .tmp t => (s.t t).dem
  | .take t => s.t t
  | .const v => v
  | .func g => .fn g []
  | .glob i => .rp (G i) 0
/-- As an argument. -/
def S.getA (G : Nat → List AV) (s : S) : Opnd → AV
  | .tmp t => match s.t t with | .agg cs => .agg (cs.map AV.share) | v => v.share
  | .take t => (s.t t).toTip
  | .const v => v.toTip
  | .func g => .fn g []
  | .glob i => .rp (G i) 0
def S.drop (s : S) : Opnd → S
  | .take t => { s with t := upd s.t t (s.t t).dem }
  | _ => s
def S.put (s : S) (d : Option Nat) (v : AV) : S :=
  match d with
  | some d => { s with t := upd s.t d v }
  | none => s
def S.setB (s : S) (b : Nat) (c : BC) : S := { s with b := upd s.b b (some c) }
/-- A variable of the frame's own, made now; the numbers below 100 are the lent ones'. -/
def S.newB (s : S) (b : Nat) (c : BC) : Option S := if b < 100 ∨ s.seen b = true then none else some { s with b := upd s.b b (some c), seen := upd s.seen b true }

def AV.cells : AV → List AV
  | .agg cs => cs
  | v => [v]
/-- As it is stored: the right to append goes along only by itself. -/
def AV.scells : AV → List AV
  | .agg cs => cs.map AV.dem
  | v => [v]
/-- The cells from off on, n of them, as one value. -/
def part (n : Nat) (agg : Bool) (cs : List AV) (off : Nat) : Option AV :=
  if agg then (if off + n ≤ cs.length then some (.agg (((cs.drop off).take n).map AV.dem)) else none)
  else (if n = 1 then (cs[off]?).map AV.dem else none)

/-- The cells vs over those of cs, from off on. -/
def over (cs : List AV) (off : Nat) (vs : List AV) : Option (List AV) :=
  if off + vs.length ≤ cs.length then some (cs.take off ++ vs ++ cs.drop (off + vs.length)) else none

/-- The value of one cell. -/
def AV.one : AV → Bool
  | .int _ _ | .bool _ | .str _ | .sl _ _ _ | .rp _ _ | .fn _ _ | .con _ => true
  | _ => false
def fillP : List AV → List (Nat × Nat × AV) → Option (List AV)
  | cs, [] => some cs
  | cs, (off, n, v) :: r => if v.cells.length = n ∧ (v.cells.all AV.one) = true then bnd (over cs off (v.cells.map AV.dem)) fun cs' => fillP cs' r else none

/-- Is it a pointer to one of the frame's own variables? -/
def AV.isP : AV → Bool
  | .bp _ _ | .bs _ | .be _ _ _ | .np _ => true
  | _ => false
def AV.okIn (bins : List Nat) : AV → Bool
  | .bp b _ | .bs b | .be b _ _ => bins.contains b
  | .np _ => false
  | _ => true

def asT : List Nat → List AV → Nat → AV
  | i :: is, v :: vs, j => if j = i then v else asT is vs j
  | _, _, _ => .undef
def asB : List Nat → List BC → Nat → Option BC
  | i :: is, v :: vs, j => if j = i then some v else asB is vs j
  | _, _, _ => none
def mkS (ins : List Nat) (tv : List AV) (bins : List Nat) (bv : List BC) : S :=
  { t := asT ins tv, b := asB bins bv, seen := fun b => bins.contains b }
def boxesOf (s : S) : List Nat → Option (List BC)
  | [] => some []
  | b :: bs => bnd (s.b b) fun c => bnd (boxesOf s bs) fun r => some (c :: r)

def loadP (n : Nat) (agg take : Bool) (s : S) : AV → Option (AV × S)
  | .bp b off =>
    match s.b b with
    | some (.var cs) =>
      if take then
        (if agg then none else if n = 1 then
          bnd (cs[off]?) fun v => if v.isP then none else some (v, s.setB b (.var (cs.set off v.dem))) else none)
      else bnd (part n agg cs off) fun v => some ((v, s))
    | _ => none
  | .be b i off =>
    match s.b b with
    | some (.rows sz xs) => bnd (xs[i]?) fun cs => if take then none else bnd (part n agg cs off) fun v => some ((v, s))
    | _ => none
  | .rp cs off => if take then none else bnd (part n agg cs off) fun v => some ((v, s))
  | _ => none

def storeP (n : Nat) (s : S) (p v : AV) : Option S :=
  if v.cells.length = n ∧ (v.cells.all AV.one) = true then
    match p with
    | .bp b off =>
      match s.b b with
      | some (.var cs) => bnd (over cs off v.scells) fun cs' => some (s.setB b (.var cs'))
      | _ => none
    | .be b i off =>
      match s.b b with
      | some (.rows sz xs) => bnd (xs[i]?) fun cs => bnd (over cs off (v.cells.map AV.share)) fun cs' => some (s.setB b (.rows sz (xs.set i cs')))
      | _ => none
    | _ => none
  else none

def natOf : AV → Option Nat
  | .int _ n => if 0 ≤ n then some n.toNat else none
  | _ => none

/-- What is handed to a function: the pointers' variables are lent. -/
def lend (s : S) : List AV → Nat → Option (List AV × List BC × List Nat)
  | [], _ => some ([], [], [])
  | .bp b off :: r, j =>
    if off = 0 ∧ j < 100 then
      match s.b b with
      | some (.var cs) => bnd (lend s r (j + 1)) fun (tv, bv, ls) => if ls.contains b then none else some (.bp j 0 :: tv, .var cs :: bv, b :: ls)
      | _ => none
    else none
  | v :: r, j => if v.isP then none else bnd (lend s r j) fun (tv, bv, ls) => some ((v :: tv, bv, ls))
def giveBack (s : S) : List Nat → List BC → Option S
  | [], [] => some s
  | b :: bs, c :: cs => giveBack (s.setB b c) bs cs
  | _, _ => none

/-- A function's answer: the value, and the lent variables as they are now. -/
def callF (call : Call) (s : S) (g : Nat) (site : Nat) (as : List AV) : Option (AV × S) :=
  bnd (lend s as 0) fun (tv, bv, ls) =>
    bnd (call g tv bv) fun (_, outs, bv') =>
      bnd (giveBack s ls bv') fun s' =>
        match outs with
        | [.np cs] => bnd (s'.newB site (.var cs)) fun s'' => some ((.bp site 0, s''))
        | [v] => if v.isP then none else some (v, s')
        | _ => none

def argsOf (G : Nat → List AV) (s : S) (xs : List Opnd) : List AV := xs.map (s.getA G)
def dropAll (s : S) (xs : List Opnd) : S := xs.foldl S.drop s
/-- No variable is taken twice. -/
def takesOk : List Opnd → Bool
  | [] => true
  | .take t :: r => (r.all fun | .take u => u != t | _ => true) && takesOk r
  | _ :: r => takesOk r

def sliceStr (x : AV) (lo hi : Option Nat) : Option AV :=
  match x with
  | .str l => if lo.getD 0 ≤ hi.getD l.length ∧ hi.getD l.length ≤ l.length then some (.str ((l.take (hi.getD l.length)).drop (lo.getD 0))) else none
  | _ => none
def sliceOf (sz : Nat) (x : AV) (lo hi mx : Option Nat) : Option AV :=
  match x with
  | .sl _ sz' xs =>
    if sz' = sz ∧ lo.getD 0 ≤ hi.getD xs.length ∧ hi.getD xs.length ≤ xs.length then
      match mx with
      | none => some (.sl .share sz ((xs.take (hi.getD xs.length)).drop (lo.getD 0)))
      | some m => if hi.getD xs.length ≤ m ∧ m ≤ xs.length then some (.sl (if m = lo.getD 0 then .zero else .share) sz ((xs.take (hi.getD xs.length)).drop (lo.getD 0))) else none
    else none
  | _ => none
/-- A bound, if there is one. -/
def natO (G : Nat → List AV) (s : S) : Option Opnd → Option (Option Nat)
  | none => some none
  | some x => bnd (natOf (s.get G x)) fun n => some (some n)

/-- Behind which a captured variable is not written any more. -/
def capture (s : S) : List AV → Option (List AV × S)
  | [] => some ([], s)
  | .bp b off :: r =>
    if off = 0 then
      match s.b b with
      | some (.var cs) => bnd (capture { s with b := upd s.b b none } r) fun (vs, s') => some ((.rp (cs.map AV.share) 0 :: vs, s'))
      | _ => none
    else none
  | v :: r => if v.isP then none else bnd (capture s r) fun (vs, s') => some ((v.share :: vs, s'))

def asInts : List AV → Option (List Int)
  | [] => some []
  | .int .i64 n :: r => bnd (asInts r) fun l => some (n :: l)
  | _ => none
def bytesOfRows : List (List AV) → Option (List UInt8)
  | [] => some []
  | [.int .u8 n] :: r => bnd (bytesOfRows r) fun l => some (UInt8.ofNat n.toNat :: l)
  | _ => none

def convK (s : S) (c : CK) (x : AV) : Option (AV × S) :=
  match c, x with
  | .int k, .int _ n => some (.int k (wr k n), s)
  | .strstr, .str l => some (.str l, s)
  | .bytesStr, .sl _ 1 xs => bnd (bytesOfRows xs) fun l => some ((.str l, s))
  | .bytesStr, .bs b =>
    match s.b b with
    | some (.rows 1 xs) => bnd (bytesOfRows xs) fun l => some ((.str l, s))
    | _ => none
  | .strBytes b, .str l => bnd (s.newB b (.rows 1 (l.map fun c => [.int .u8 (c.toNat : Int)]))) fun s' => some ((.bs b, s'))
  | .runeStr, .int _ n => if 0 ≤ n ∧ n < 128 then some (.str [UInt8.ofNat n.toNat], s) else none
  | _, _ => none

def evalK (call : Call) (G : Nat → List AV) (s : S) : K → Option (AV × S)
  | .mv x => some (s.get G x, s.drop x)
  | .pick c x y => match s.get G c with | .bool b => if b then some (s.get G x, s.drop x) else some (s.get G y, s.drop y) | _ => none
  | .alloc b zero => bnd (s.newB b (.var zero)) fun s' => some ((.bp b 0, s'))
  | .box b x => if ((s.get G x).cells.all AV.one) = true then bnd (s.newB b (.var ((s.get G x).cells.map AV.dem))) fun s' => some (.bp b 0, s') else none
  | .build zero parts => bnd (fillP zero (parts.map fun p => (p.1, p.2.1, (s.get G p.2.2)))) fun cs => some (.agg cs, s)
  | .buildS m sz parts =>
    if (parts.all fun p => (s.get G p).cells.length == sz && (s.get G p).cells.all AV.one) = true ∧ (m = .zero → parts = []) then some (.sl m sz (parts.map fun p => (s.get G p).cells.map AV.share), s) else none
  | .load n agg take x => loadP n agg take s (s.get G x)
  | .store n x v => bnd (storeP n (s.drop v) (s.get G x) (s.get G v)) fun s' => some ((.tup [], s'))
  | .nilck x =>
    match s.get G x with
    | .bp b o => if (s.b b).isSome = true then some (.bp b o, s) else none
    | .be b i o => if (s.b b).isSome = true then some (.be b i o, s) else none
    | .rp cs o => some (.rp cs o, s)
    | .fn g c => some (.fn g c, s)
    | _ => none
  | .bin op x y => bnd (bin op (s.get G x) (s.get G y)) fun v => some ((v, s))
  | .eqb neq x y =>
    match s.get G x, s.get G y with
    | .bool a, .bool b => some (.bool (if neq then !(a == b) else a == b), s)
    | _, _ => none
  | .eqs neq n x y =>
    match s.get G x, s.get G y with
    | .agg a, .agg b => if a.length = n ∧ b.length = n then bnd (eqInts a b) fun r => some ((.bool (if neq then !r else r), s)) else none
    | _, _ => none
  | .un op x => bnd (un op (s.get G x)) fun v => some ((v, s))
  | .conv c x => convK s c (s.get G x)
  | .mkfn g caps => bnd (capture s (caps.map (s.get G))) fun (vs, s') => some ((.fn g vs, s'))
  | .mksl b sz zero n c =>
    match s.get G n, s.get G c with
    | .int _ n, .int _ c => if 0 ≤ n ∧ n = c ∧ n ≤ 4294967296 ∧ zero.length = sz then bnd (s.newB b (.rows sz (List.replicate n.toNat zero))) fun s' => some ((.bs b, s')) else none
    | _, _ => none
  | .mkz sz zero n c =>
    match s.get G n, s.get G c with
    | .int _ n, .int _ c => if 0 ≤ n ∧ n = c ∧ n ≤ 4294967296 ∧ zero.length = sz then some (.sl .full sz (List.replicate n.toNat (zero.map AV.share)), s) else none
    | _, _ => none
  | .slcS x lo hi => bnd (natO G s lo) fun lo => bnd (natO G s hi) fun hi => bnd (sliceStr (s.get G x) lo hi) fun v => some (v, s)
  | .slc sz x lo hi mx => if mx.isSome && hi.isNone then none else bnd (natO G s lo) fun lo => bnd (natO G s hi) fun hi => bnd (natO G s mx) fun mx => bnd (sliceOf sz (s.get G x) lo hi mx) fun v => some (v, s)
  | .fadr off x =>
    match s.get G x with
    | .bp b o => if (s.b b).isSome = true then some (.bp b (o + off), s) else none
    | .be b i o => if (s.b b).isSome = true then some (.be b i (o + off), s) else none
    | .rp cs o => some (.rp cs (o + off), s)
    | _ => none
  | .fld off n agg x =>
    match s.get G x with
    | .agg cs => bnd (part n agg cs off) fun v => some ((v, s))
    | _ => none
  | .iadr sz x i =>
    match s.get G x with
    | .sl _ sz' xs => if sz' = sz then bnd (natOf (s.get G i)) fun i => bnd (xs[i]?) fun cs => some ((.rp cs 0, s)) else none
    | .bs b =>
      match s.b b with
      | some (.rows sz' xs) => if sz' = sz then bnd (natOf (s.get G i)) fun i => if i < xs.length then some (.be b i 0, s) else none else none
      | _ => none
    | _ => none
  | .iadrA sz len x i =>
    match s.get G x with
    | .bp b o => if (s.b b).isSome = true then bnd (natOf (s.get G i)) fun i => if i < len then some (.bp b (o + i * sz), s) else none else none
    | .rp cs o => bnd (natOf (s.get G i)) fun i => if i < len then some (.rp cs (o + i * sz), s) else none
    | _ => none
  | .idxS x i =>
    match s.get G x with
    | .str l => bnd (natOf (s.get G i)) fun i => bnd (l[i]?) fun c => some ((.int .u8 (c.toNat : Int), s))
    | _ => none
  | .idxA sz len n agg x i =>
    match s.get G x with
    | .agg cs => bnd (natOf (s.get G i)) fun i => if i < len then bnd (part n agg cs (i * sz)) fun v => some ((v, s)) else none
    | _ => none
  | .len x =>
    match s.get G x with
    | .sl _ _ xs => some (.int .i64 (xs.length : Int), s)
    | .bs b =>
      match s.b b with
      | some (.rows _ xs) => some (.int .i64 (xs.length : Int), s)
      | _ => none
    | _ => none
  | .lenS x => match s.get G x with | .str l => some (.int .i64 (l.length : Int), s) | _ => none
  | .app sz x y =>
    match s.get G x, s.get G y with
    | .sl m sz' xs, .sl _ sz'' ys => if (m ≠ .share ∧ (m = .full → ys ≠ [])) ∧ sz' = sz ∧ sz'' = sz ∧ xs.length + ys.length ≤ 4294967296 then some (.sl .tip sz (xs ++ ys), s.drop x) else none
    | _, _ => none
  | .ext i x =>
    match s.get G x with
    | .tup vs => bnd (vs[i]?) fun v => if v.isP = true then none else some (v.share, s)
    | _ => none
  | .call g site args => if takesOk args = true then callF call (dropAll s args) g site (argsOf G s args) else none
  | .callv f args =>
    match s.get G f with
    | .fn g cap => if takesOk args = true ∧ g % 100 = 0 then callF call (dropAll s args) g 0 (argsOf G s args ++ cap.map AV.share) else none
    | _ => none
  | .mx args => bnd (asInts (args.map (s.get G))) fun l => match l with | [] => none | x :: r => some (.int .i64 (r.foldl (fun a b => if a < b then b else a) x), s)
  | .mn args => bnd (asInts (args.map (s.get G))) fun l => match l with | [] => none | x :: r => some (.int .i64 (r.foldl (fun a b => if b < a then b else a) x), s)

/-- Is the operation wanted? -/
def wantedA (s : S) : Option (Nat × Bool) → Option Bool
  | none => some true
  | some (t, want) => match s.t t with | .bool b => some (b == want) | .tup _ => some false | _ => none

def stepA (call : Call) (G : Nat → List AV) (s : S) (o : AOp) : Option S :=
  bnd (wantedA s o.g) fun w => if w then bnd (evalK call G s o.k) fun r => some (r.2.put o.d r.1) else some (s.put o.d (.tup []))

def opsA (call : Call) (G : Nat → List AV) : List AOp → S → Option S
  | [], s => some s
  | o :: r, s => bnd (stepA call G s o) fun s' => opsA call G r s'

/-! ### Where the order is drawn: each operation sees what it names alone -/
def K.opnds : K → List Opnd
  | .mv x | .box _ x | .load _ _ _ x | .nilck x | .un _ x | .conv _ x | .fadr _ x | .fld _ _ _ x | .len x | .lenS x | .ext _ x => [x]
  | .pick c x y => [c, x, y]
  | .alloc _ _ => []
  | .build _ ps => ps.map fun p => p.2.2
  | .buildS _ _ ps => ps
  | .store _ x y | .bin _ x y | .eqb _ x y | .eqs _ _ x y | .iadr _ x y | .iadrA _ _ x y | .idxS x y | .idxA _ _ _ _ x y | .app _ x y => [x, y]
  | .mksl _ _ _ x y => [x, y]
  | .mkz _ _ x y => [x, y]
  | .mkfn _ ps | .mx ps | .mn ps | .call _ _ ps => ps
  | .slc _ x l h m => x :: (l.toList ++ h.toList ++ m.toList)
  | .slcS x l h => x :: (l.toList ++ h.toList)
  | .callv f ps => f :: ps
/-- Does it change variables? -/
def K.mods : K → Bool
  | .alloc _ _ | .box _ _ | .store _ _ _ | .mkfn _ _ | .mksl _ _ _ _ _ | .call _ _ _ | .callv _ _ => true
  | .load _ _ t _ => t
  | .conv (.strBytes _) _ => true
  | _ => false
def AOp.reads (o : AOp) : List Nat := o.k.opnds.filterMap fun | .tmp t | .take t => some t | _ => none
def AOp.takes (o : AOp) : List Nat := o.k.opnds.filterMap fun | .take t => some t | _ => none
def S.mask (s : S) (ts bs : List Nat) : S :=
  { t := fun t => if ts.contains t then s.t t else .undef, b := fun b => if bs.contains b then s.b b else none, seen := fun b => if bs.contains b then s.seen b else true }
def S.merge (s : S) (o : AOp) (s' : S) : S :=
  { t := fun t => if o.takes.contains t then s'.t t else s.t t
    b := fun b => if o.k.mods && o.fp.contains b then s'.b b else s.b b
    seen := fun b => if o.k.mods && o.fp.contains b then s'.seen b else s.seen b }
def stepD (call : Call) (G : Nat → List AV) (s : S) (o : AOp) : Option S :=
  bnd (wantedA s o.g) fun w => if w then bnd (evalK call G (s.mask o.reads o.fp) o.k) fun r => some ((s.merge o r.2).put o.d r.1) else some (s.put o.d (.tup []))
def opsD (call : Call) (G : Nat → List AV) : List AOp → S → Option S
  | [], s => some s
  | o :: r, s => bnd (stepD call G s o) fun s' => opsD call G r s'

def evalC (call : Call) (F : Nat → Option Proc) (G : Nat → List AV) : AC → S → Option (Oc × S)
  | .skip, s => some (.norm, s)
  | .region draw ops, s => bnd (if draw then opsD call G ops s else opsA call G ops s) fun s' => some ((.norm, s'))
  | .seq a b, s => bnd (evalC call F G a s) fun r => match r.1 with | .norm => evalC call F G b r.2 | o => some (o, r.2)
  | .cond c x y, s => match s.get G c with | .bool t => if t then evalC call F G x s else evalC call F G y s | _ => none
  | .block id a, s => bnd (evalC call F G a s) fun r => some (match r.1 with | .exit i => (if i = id then .norm else .exit i, r.2) | o => (o, r.2))
  | .exit id, s => some (.exit id, s)
  | .ret, s => some (.ret, s)
  | .label g, s =>
    match F g with
    | some p =>
      if (p.kind = .join ∨ p.kind = .loop) ∧ ((p.ins.map s.t).all (AV.okIn p.bins)) = true then
        bnd (boxesOf s p.bins) fun bv => bnd (call g (p.ins.map s.t) bv) fun (o, tv, bv') => some (o, mkS p.outs tv p.bouts bv')
      else none
    | none => none

/-- A result as the caller sees it. -/
def resP : AV → Option AV
  | .sl m sz xs => some (.sl (if m = .share ∨ m = .full then .share else .tip) sz xs)
  | .agg cs => some (.agg (cs.map AV.share))
  | .bs _ | .bp _ _ | .be _ _ _ | .np _ => none
  | v => some v
/-- As it is, but for the right to append. -/
def resK : AV → Option AV
  | .agg cs => some (.agg (cs.map AV.dem))
  | _ => none
def resV (s : S) : AV → Option AV
  | .bs b => if 100 ≤ b then match s.b b with | some (.rows sz xs) => some (.sl .share sz xs) | _ => none else none
  | .bp b off => if off = 0 ∧ 100 ≤ b then match s.b b with | some (.var cs) => some (.np (cs.map AV.share)) | _ => none else none
  | v => resP v
def resOf (s : S) : RS → Option AV
  | .keep t n => bnd (loadP n true false s (s.t t)) fun r => resK r.1
  | .tmp t => resV s (s.t t)
  | .cell t n agg => bnd (loadP n agg false s (s.t t)) fun r => resP r.1
def resOf1 (s : S) : RS → Option AV
  | .keep _ _ => none
  | .tmp t => resP (s.t t)
  | .cell t n agg => bnd (loadP n agg false s (s.t t)) fun r => resP r.1
def resAll (s : S) : List RS → Option (List AV)
  | [] => some []
  | r :: rs => bnd (resOf1 s r) fun v => bnd (resAll s rs) fun l => some (v.share :: l)
def resultOf (s : S) : List RS → Option AV
  | [r] => resOf s r
  | rs => bnd (resAll s rs) fun l => some (.tup l)

/-- One procedure. -/
def procA (call : Call) (F : Nat → Option Proc) (G : Nat → List AV) (g : Nat) (p : Proc) (tv : List AV) (bv : List BC) : Option Res :=
  if p.kind = .prim then (if bv.isEmpty then bnd (p.pf tv) fun v => some ((.ret, [v], [])) else none) else
  if tv.length = p.ins.length ∧ bv.length = p.bins.length then
  bnd (evalC call F G p.code (mkS p.ins tv p.bins bv)) fun r =>
    match p.kind with
    | .fn =>
      match r.1 with
      | .exit _ => none
      | _ => bnd (resultOf r.2 p.res) fun v => bnd (boxesOf r.2 p.bins) fun bv' => some ((.ret, [v], bv'))
    | .join =>
      if ((p.outs.map r.2.t).all (AV.okIn p.bouts)) = true then bnd (boxesOf r.2 p.bouts) fun bv' => some ((r.1, p.outs.map r.2.t, bv')) else none
    | .prim => none
    | .loop =>
      match r.1 with
      | .norm => if ((p.ins.map r.2.t).all (AV.okIn p.bins)) = true then bnd (boxesOf r.2 p.bins) fun bv' => call g (p.ins.map r.2.t) bv' else none
      | o => if ((p.outs.map r.2.t).all (AV.okIn p.bouts)) = true then bnd (boxesOf r.2 p.bouts) fun bv' => some ((o, p.outs.map r.2.t, bv')) else none
  else none

def A (F : Nat → Option Proc) (G : Nat → List AV) : Nat → Call
  | 0 => fun _ _ _ => none
  | k + 1 => fun g tv bv => bnd (F g) fun p => procA (A F G k) F G g p tv bv

end Go.Vs
