/- The plain machine: values without memory, a code without types and places, what it answers, and how it is unfolded. -/
import Derived.WalkKit
import Derived.IntWalk
import Derived.Deep.AppendSrc
set_option linter.unusedVariables false
namespace Go.Vs
theorem Zf {α : Type _} {a b : α} : cond false a b = b := rfl
theorem Zt {α : Type _} {a b : α} : cond true a b = a := rfl
theorem Zc {α : Type _} {a : α} {as : List α} : (a :: as).length = as.length + 1 := rfl
theorem Zn {α : Type _} : ([] : List α).length = 0 := rfl
theorem Za {α : Type _} {as bs : List α} : (as ++ bs).length = as.length + bs.length := List.length_append
theorem Zy (h : Decidable True) : @decide True h = true := decide_true h
theorem Zz (h : Decidable False) : @decide False h = false := decide_false h
theorem Zp {p : Prop} [h : Decidable p] (hp : p) : decide p = true := decide_eq_true hp
theorem Zq {p : Prop} [h : Decidable p] (hp : ¬ p) : decide p = false := decide_eq_false hp
theorem Zi {α : Type _} (a b : α) : (some a = some b) = (a = b) := Option.some.injEq a b
theorem Zm {α β : Type _} (a : α) (b : β) (c : α) (d : β) : ((a, b) = (c, d)) = (a = c ∧ b = d) := Prod.mk.injEq a b c d
theorem Zw (a b : Bool) : ((a && b) = true) = (a = true ∧ b = true) := Bool.and_eq_true a b
theorem Ze {p : Prop} [h : Decidable p] : (decide p = true) = p := decide_eq_true_eq
theorem Zu {α : Type _} {a : α} {s t : List α} : a ∈ s ++ t ↔ a ∈ s ∨ a ∈ t := List.mem_append
theorem Zo {α : Type _} {a b : α} {l : List α} : a ∈ b :: l ↔ a = b ∨ a ∈ l := List.mem_cons
theorem Zv : (!true) = false := rfl
theorem Zx : (!false) = true := rfl
end Go.Vs
namespace Go.Vs
open Go Go.RowKit
def bnd {α β : Type} (x : Option α) (f : α → Option β) : Option β := match x with | some a => f a | none => none
@[congr] theorem bnd_congr {α β : Type} {x y : Option α} {f : α → Option β} (h : x = y) : bnd x f = bnd y f := by rw [h]
@[simp] theorem Qb {α β : Type} (a : α) (f : α → Option β) : bnd (some a) f = f a := rfl
@[simp] theorem Qxk {α β : Type} (f : α → Option β) : bnd none f = none := rfl
theorem bnd_ite {α β : Type} (c : Prop) [Decidable c] (x y : Option α) (f : α → Option β) : bnd (if c then x else y) f = if c then bnd x f else bnd y f := by split <;> rfl
theorem Qva {α β γ : Type} (x : Option α) (f : α → Option β) (g : β → Option γ) : bnd (bnd x f) g = bnd x fun a => bnd (f a) g := by cases x <;> rfl
theorem Qa {α β : Type} {x : Option α} {f : α → Option β} {y : β} : bnd x f = some y ↔ ∃ a, x = some a ∧ f a = some y := by
 cases x <;> simp
inductive SM where
 | zero | tip | share | full
 deriving DecidableEq
inductive Con where
 | nilp | nilf | nili
def Con.val : Con → Value
 | .nilp => .pointer none
 | .nilf => .nilFunc
 | .nili => .nilIface
inductive AV where
 | undef
 | int (k : IntKind) (n : Int)
 | bool (b : Bool)
 | str (l : List UInt8)
 | con (c : Con)
 | sl (m : SM) (sz : Nat) (xs : List (List AV))
 | agg (cs : List AV)
 | bp (b off : Nat)
 | bs (b : Nat)
 | be (b i off : Nat)
 | rp (cs : List AV) (off : Nat)
 | fn (g : Nat) (cap : List AV)
 | tup (vs : List AV)
 | np (cs : List AV)
 | tr (id : Option Nat) (sz n : Nat)
 | trp (id : Option Nat) (sz i off : Nat)
inductive BC where
 | var (cs : List AV)
 | rows (sz : Nat) (xs : List (List AV))
 | ar (es : List (Option (Nat × List (List AV))))
abbrev Ent := Option (Nat × List (List AV))
def BC.isAr : BC → Bool
 | .ar _ => true
 | _ => false
def AV.dem : AV → AV
 | .sl .tip sz xs => .sl .share sz xs
 | v => v
def AV.share : AV → AV
 | .sl _ sz xs => .sl .share sz xs
 | v => v
def AV.toTip : AV → AV
 | .sl .zero sz xs => .sl .tip sz xs
 | v => v
def upd {α : Type} (f : Nat → α) (i : Nat) (v : α) : Nat → α := fun j => if j = i then v else f j
theorem Qae {α : Type} (f : Nat → α) (i : Nat) (v : α) (j : Nat) : upd f i v j = if j = i then v else f j := rfl
theorem Qal {α : Type} (f : Nat → α) (i : Nat) (v : α) : upd f i v i = v := by simp [upd]
theorem Qab {α : Type} (f : Nat → α) {i j : Nat} (v : α) (h : j ≠ i) : upd f i v j = f j := by simp [upd, h]
structure S where
 t : Nat → AV
 b : Nat → Option BC
 seen : Nat → Bool
def S.live (s : S) (b : Nat) : Bool := match s.b b with | some c => !c.isAr | none => false
inductive Opnd where
 | tmp (t : Nat)
 | take (t : Nat)
 | const (v : AV)
 | func (g : Nat)
 | glob (i : Nat)
inductive CK where
 | int (k : IntKind)
 | strstr
 | bytesStr
 | strBytes (b : Nat)
 | runeStr
inductive CM where
 | view | pass | pview | pseal
 deriving DecidableEq
inductive TK where
 | mk (sz : Nat) (zero : List AV) (n c : Opnd)
 | nil (sz : Nat)
 | lit (sz : Nat) (parts : List Opnd)
 | app (sz : Nat) (x y : Opnd)
 | cut (sz : Nat) (x hi : Opnd)
 | len (x : Opnd)
 | iadr (sz : Nat) (x i : Opnd)
 | fadr (off : Nat) (x : Opnd)
 | nilck (x : Opnd)
 | load (n : Nat) (agg : Bool) (x : Opnd)
 | store (n : Nat) (x v : Opnd)
 | call (m : CM) (g : Nat) (args : List Opnd)
 | bld (b : Nat) (zero : List AV) (parts : List (Nat × Nat × Opnd))
inductive K where
 | tr (k : TK)
 | mv (x : Opnd)
 | pick (c x y : Opnd)
 | alloc (b : Nat) (zero : List AV)
 | box (b : Nat) (x : Opnd)
 | build (zero : List AV) (parts : List (Nat × Nat × Opnd))
 | buildS (m : SM) (sz : Nat) (parts : List Opnd)
 | load (n : Nat) (agg : Bool) (take : Bool) (x : Opnd)
 | store (n : Nat) (x v : Opnd)
 | nilck (x : Opnd)
 | bin (op : BinOp) (x y : Opnd)
 | eqb (neq : Bool) (x y : Opnd)
 | eqs (neq : Bool) (n : Nat) (x y : Opnd)
 | un (op : UnOp) (x : Opnd)
 | conv (c : CK) (x : Opnd)
 | mkfn (g : Nat) (caps : List Opnd)
 | mksl (b sz : Nat) (zero : List AV) (n c : Opnd)
 | mkz (sz : Nat) (zero : List AV) (n c : Opnd)
 | slc (sz : Nat) (x : Opnd) (lo hi mx : Option Opnd)
 | slcS (x : Opnd) (lo hi : Option Opnd)
 | fadr (off : Nat) (x : Opnd)
 | fld (off n : Nat) (agg : Bool) (x : Opnd)
 | iadr (sz : Nat) (x i : Opnd)
 | iadrA (sz len : Nat) (x i : Opnd)
 | idxS (x i : Opnd)
 | idxA (sz len n : Nat) (agg : Bool) (x i : Opnd)
 | len (x : Opnd)
 | lenS (x : Opnd)
 | app (sz : Nat) (x y : Opnd)
 | ext (i : Nat) (x : Opnd)
 | call (g : Nat) (site : Nat) (args : List Opnd)
 | callv (f : Opnd) (args : List Opnd)
 | mx (args : List Opnd)
 | mn (args : List Opnd)
structure AOp where
 d : Option Nat
 k : K
 g : Option (Nat × Bool) := none
 fp : List Nat := []
inductive AC where
 | skip
 | region (draw : Bool) (ops : List AOp)
 | seq (a b : AC)
 | cond (c : Opnd) (x y : AC)
 | block (id : Nat) (a : AC)
 | exit (id : Nat)
 | ret
 | label (g : Nat)
 | flip (o : AOp) (ps qs : List AOp)
inductive Oc where
 | norm
 | exit (id : Nat)
 | ret
inductive RS where
 | keep (t n : Nat)
 | tmp (t : Nat)
 | cell (t : Nat) (n : Nat) (agg : Bool)
inductive PK where
 | fn
 | join
 | loop
 | prim
 deriving DecidableEq
structure Proc where
 kind : PK
 ins : List Nat
 bins : List Nat
 code : AC
 outs : List Nat := []
 bouts : List Nat := []
 res : List RS := []
 pf : List AV → Option AV := fun _ => none
 loc : Bool := false
 sl : List Bool := []
 pa : List AV → List (Option (Nat × List (List AV))) → Option (AV × List (Option (Nat × List (List AV)))) := fun _ _ => none
 two : Bool := false
abbrev Res := Oc × List AV × List BC
abbrev Call := Nat → List AV → List BC → Option Res
def wr : IntKind → Int → Int
 | .i64, n => wrap64 n
 | .i32, n => wrap32 n
 | .u8, n => n % 256
 | .u32, n => n % 4294967296
 | k, n => k.wrap n
def binI (op : BinOp) (k : IntKind) (x y : Int) : Option AV :=
 match op with
 | .add => some (.int k (wr k (x + y)))
 | .sub => some (.int k (wr k (x - y)))
 | .mul => some (.int k (wr k (x * y)))
 | .quo => if y = 0 then none else some (.int k (wr k (x.tdiv y)))
 | .rem => if y = 0 then none else some (.int k (x.tmod y))
 | .and => some (.int k (bits .and k x y))
 | .or => some (.int k (bits .or k x y))
 | .xor => some (.int k (bits .xor k x y))
 | .eql => some (.bool (decide (x = y)))
 | .neq => some (.bool (!decide (x = y)))
 | .lss => some (.bool (decide (x < y)))
 | .leq => some (.bool (decide (x ≤ y)))
 | .gtr => some (.bool (decide (y < x)))
 | .geq => some (.bool (decide (y ≤ x)))
 | _ => none
def LIM : Nat := 1099511627776
def binS (op : BinOp) (x y : List UInt8) : Option AV :=
 match op with
 | .add => if x.length + y.length ≤ LIM then some (.str (x ++ y)) else none
 | .eql => some (.bool (x == y))
 | .neq => some (.bool (!(x == y)))
 | _ => none
def Qmu (op : BinOp) (k : IntKind) (x y : Int) : Option AV :=
 if y < 0 then none else
 match op with
 | .shl => some (.int k (wr k (x * 2 ^ min y.toNat k.bits)))
 | .shr => some (.int k (x.fdiv (2 ^ min y.toNat k.bits)))
 | _ => none
def bin (op : BinOp) (x y : AV) : Option AV :=
 match x, y with
 | .int k a, .int k' b =>
  match op with
  | .shl => Qmu .shl k a b
  | .shr => Qmu .shr k a b
  | op => if k = k' then binI op k a b else none
 | .str a, .str b => binS op a b
 | _, _ => none
def un (op : UnOp) (x : AV) : Option AV :=
 match op, x with
 | .neg, .int k n => some (.int k (wr k (0 - n)))
 | .not, .bool b => some (.bool (!b))
 | _, _ => none
def Qez : List AV → List AV → Option Bool
 | [], [] => some true
 | .int k a :: xs, .int k' b :: ys => if k = k' then bnd (Qez xs ys) fun r => some (decide (a = b) && r) else none
 | _, _ => none
def S.get (G : Nat → List AV) (s : S) : Opnd → AV
 | .tmp t => (s.t t).dem
 | .take t => s.t t
 | .const v => v
 | .func g => .fn g []
 | .glob i => .rp (G i) 0
def S.getA (G : Nat → List AV) (s : S) : Opnd → AV
 | .tmp t => match s.t t with | .agg cs => .agg (cs.map AV.share) | v => v.share
 | .take t => (s.t t).toTip
 | .const v => v.toTip
 | .func g => .fn g []
 | .glob i => .rp (G i) 0
def S.drop (s : S) : Opnd → S
 | .take t => { s with t := upd s.t t (s.t t).dem }
 | _ => s
def S.put (s : S) (d : Option Nat) (v : AV) : S :=
 match d with
 | some d => { s with t := upd s.t d v }
 | none => s
def S.setB (s : S) (b : Nat) (c : BC) : S := { s with b := upd s.b b (some c) }
def S.newB (s : S) (b : Nat) (c : BC) : Option S := if b < 100 ∨ s.seen b = true then none else some { s with b := upd s.b b (some c), seen := upd s.seen b true }
def AV.cells : AV → List AV
 | .agg cs => cs
 | v => [v]
def AV.scells : AV → List AV
 | .agg cs => cs.map AV.dem
 | v => [v]
def part (n : Nat) (agg : Bool) (cs : List AV) (off : Nat) : Option AV :=
 if agg then (if off + n ≤ cs.length then some (.agg (((cs.drop off).take n).map AV.dem)) else none)
 else (if n = 1 then (cs[off]?).map AV.dem else none)
def over (cs : List AV) (off : Nat) (vs : List AV) : Option (List AV) :=
 if off + vs.length ≤ cs.length then some (cs.take off ++ vs ++ cs.drop (off + vs.length)) else none
def AV.one : AV → Bool
 | .int _ _ | .bool _ | .str _ | .sl _ _ _ | .rp _ _ | .fn _ _ | .con _ | .tr _ _ _ => true
 | _ => false
def Qkk : List AV → List (Nat × Nat × AV) → Option (List AV)
 | cs, [] => some cs
 | cs, (off, n, v) :: r => if v.cells.length = n ∧ (v.cells.all AV.one) = true then bnd (over cs off (v.cells.map AV.dem)) fun cs' => Qkk cs' r else none
def AV.isP : AV → Bool
 | .bp _ _ | .bs _ | .be _ _ _ | .np _ => true
 | _ => false
def AV.okIn (bins : List Nat) : AV → Bool
 | .bp b _ | .bs b | .be b _ _ => bins.contains b
 | .np _ => false
 | _ => true
def asT : List Nat → List AV → Nat → AV
 | i :: is, v :: vs, j => if j = i then v else asT is vs j
 | _, _, _ => .undef
def asB : List Nat → List BC → Nat → Option BC
 | i :: is, v :: vs, j => if j = i then some v else asB is vs j
 | _, _, _ => none
def mkS (ins : List Nat) (tv : List AV) (bins : List Nat) (bv : List BC) : S :=
 { t := asT ins tv, b := asB bins bv, seen := fun b => bins.contains b }
def Qaf (s : S) : List Nat → Option (List BC)
 | [] => some []
 | b :: bs => bnd (s.b b) fun c => bnd (Qaf s bs) fun r => some (c :: r)
def loadP (n : Nat) (agg take : Bool) (s : S) : AV → Option (AV × S)
 | .bp b off =>
  match s.b b with
  | some (.var cs) =>
   if take then
    (if agg then none else if n = 1 then
     bnd (cs[off]?) fun v => if v.isP then none else some (v, s.setB b (.var (cs.set off v.dem))) else none)
   else bnd (part n agg cs off) fun v => some ((v, s))
  | _ => none
 | .be b i off =>
  match s.b b with
  | some (.rows sz xs) => bnd (xs[i]?) fun cs => if take then none else bnd (part n agg cs off) fun v => some ((v, s))
  | _ => none
 | .rp cs off => if take then none else bnd (part n agg cs off) fun v => some ((v, s))
 | _ => none
def storeP (n : Nat) (s : S) (p v : AV) : Option S :=
 if v.cells.length = n ∧ (v.cells.all AV.one) = true then
  match p with
  | .bp b off =>
   match s.b b with
   | some (.var cs) => bnd (over cs off v.scells) fun cs' => some (s.setB b (.var cs'))
   | _ => none
  | .be b i off =>
   match s.b b with
   | some (.rows sz xs) => bnd (xs[i]?) fun cs => bnd (over cs off (v.cells.map AV.share)) fun cs' => some (s.setB b (.rows sz (xs.set i cs')))
   | _ => none
  | _ => none
 else none
def Qcq : AV → Option Nat
 | .int _ n => if 0 ≤ n then some n.toNat else none
 | _ => none
def lend (s : S) : List AV → Nat → Option (List AV × List BC × List Nat)
 | [], _ => some ([], [], [])
 | .bp b off :: r, j =>
  if off = 0 ∧ j < 99 then
   match s.b b with
   | some (.var cs) => bnd (lend s r (j + 1)) fun (tv, bv, ls) => if ls.contains b then none else some (.bp j 0 :: tv, .var cs :: bv, b :: ls)
   | _ => none
  else none
 | v :: r, j => if v.isP then none else bnd (lend s r j) fun (tv, bv, ls) => some ((v :: tv, bv, ls))
def giveBack (s : S) : List Nat → List BC → Option S
 | [], [] => some s
 | b :: bs, c :: cs => giveBack (s.setB b c) bs cs
 | _, _ => none
def callF (call : Call) (s : S) (g : Nat) (site : Nat) (as : List AV) : Option (AV × S) :=
 bnd (lend s as 0) fun (tv, bv, ls) =>
  bnd (call g tv bv) fun (_, outs, bv') =>
   bnd (giveBack s ls bv') fun s' =>
    match outs with
    | [.np cs] => bnd (s'.newB site (.var cs)) fun s'' => some ((.bp site 0, s''))
    | [v] => if v.isP then none else some (v, s')
    | _ => none
def Qbk (G : Nat → List AV) (s : S) (xs : List Opnd) : List AV := xs.map (s.getA G)
def dropAll (s : S) (xs : List Opnd) : S := xs.foldl S.drop s
def Qcr : List Opnd → Bool
 | [] => true
 | .take t :: r => (r.all fun | .take u => u != t | _ => true) && Qcr r
 | _ :: r => Qcr r
def Qfw (x : AV) (lo hi : Option Nat) : Option AV :=
 match x with
 | .str l => if lo.getD 0 ≤ hi.getD l.length ∧ hi.getD l.length ≤ l.length then some (.str ((l.take (hi.getD l.length)).drop (lo.getD 0))) else none
 | _ => none
def Qin (sz : Nat) (x : AV) (lo hi mx : Option Nat) : Option AV :=
 match x with
 | .sl _ sz' xs =>
  if sz' = sz ∧ lo.getD 0 ≤ hi.getD xs.length ∧ hi.getD xs.length ≤ xs.length then
   match mx with
   | none => some (.sl .share sz ((xs.take (hi.getD xs.length)).drop (lo.getD 0)))
   | some m => if hi.getD xs.length ≤ m ∧ m ≤ xs.length then some (.sl (if m = lo.getD 0 then .zero else .share) sz ((xs.take (hi.getD xs.length)).drop (lo.getD 0))) else none
  else none
 | _ => none
def natO (G : Nat → List AV) (s : S) : Option Opnd → Option (Option Nat)
 | none => some none
 | some x => bnd (Qcq (s.get G x)) fun n => some (some n)
def capture (s : S) : List AV → Option (List AV × S)
 | [] => some ([], s)
 | .bp b off :: r =>
  if off = 0 then
   match s.b b with
   | some (.var cs) => bnd (capture { s with b := upd s.b b none } r) fun (vs, s') => some ((.rp (cs.map AV.share) 0 :: vs, s'))
   | _ => none
  else none
 | v :: r => if v.isP then none else bnd (capture s r) fun (vs, s') => some ((v.share :: vs, s'))
def Qdk : List AV → Option (List Int)
 | [] => some []
 | .int .i64 n :: r => bnd (Qdk r) fun l => some (n :: l)
 | _ => none
def Qat : List (List AV) → Option (List UInt8)
 | [] => some []
 | [.int .u8 n] :: r => bnd (Qat r) fun l => some (UInt8.ofNat n.toNat :: l)
 | _ => none
def convK (s : S) (c : CK) (x : AV) : Option (AV × S) :=
 match c, x with
 | .int k, .int _ n => some (.int k (wr k n), s)
 | .strstr, .str l => some (.str l, s)
 | .bytesStr, .sl _ 1 xs => bnd (Qat xs) fun l => some ((.str l, s))
 | .bytesStr, .bs b =>
  match s.b b with
  | some (.rows 1 xs) => bnd (Qat xs) fun l => some ((.str l, s))
  | _ => none
 | .strBytes b, .str l => bnd (s.newB b (.rows 1 (l.map fun c => [.int .u8 (c.toNat : Int)]))) fun s' => some ((.bs b, s'))
 | .runeStr, .int _ n => if 0 ≤ n ∧ n < 128 then some (.str [UInt8.ofNat n.toNat], s) else none
 | _, _ => none
mutual
def AV.noTr : AV → Bool
 | .tr _ _ _ => false
 | .trp _ _ _ _ => false
 | .sl _ _ xs => Qfy xs
 | .agg cs => Qas cs
 | .tup cs => Qas cs
 | .np cs => Qas cs
 | .rp cs _ => Qas cs
 | .fn _ cs => Qas cs
 | .undef => true
 | .int _ _ => true
 | .bool _ => true
 | .str _ => true
 | .con _ => true
 | .bp _ _ => true
 | .bs _ => true
 | .be _ _ _ => true
def Qas : List AV → Bool
 | [] => true
 | c :: cs => c.noTr && Qas cs
def Qfy : List (List AV) → Bool
 | [] => true
 | c :: cs => Qas c && Qfy cs
end
def BC.noTr : BC → Bool
 | .var cs => Qas cs
 | .rows _ xs => Qfy xs
 | .ar _ => false
mutual
def AV.flat : AV → Bool
 | .int _ _ => true
 | .bool _ => true
 | .str _ => true
 | .agg cs => Qra cs
 | .tup cs => Qra cs
 | _ => false
def Qra : List AV → Bool
 | [] => true
 | c :: cs => c.flat && Qra cs
end
mutual
def AV.flatT : AV → Bool
 | .int _ _ => true
 | .bool _ => true
 | .str _ => true
 | .tr _ _ _ => true
 | .agg cs => Qdw cs
 | .tup cs => Qdw cs
 | _ => false
def Qdw : List AV → Bool
 | [] => true
 | c :: cs => c.flatT && Qdw cs
end
def Qkl : Ent → Bool
 | none => true
 | some (_, xs) => xs.all Qdw
def Qan (f : AV → Option (AV × List Nat)) : List AV → Option (List AV × List Nat)
 | [] => some ([], [])
 | c :: cs => bnd (f c) fun r => bnd (Qan f cs) fun q => some (r.1 :: q.1, r.2 ++ q.2)
def Qgq (f : AV → Option (AV × List Nat)) : List (List AV) → Option (List (List AV) × List Nat)
 | [] => some ([], [])
 | c :: cs => bnd (Qan f c) fun r => bnd (Qgq f cs) fun q => some (r.1 :: q.1, r.2 ++ q.2)
def Qk (es : List Ent) : Nat → AV → Option (AV × List Nat)
 | 0, v => if v.noTr then some (v, []) else none
 | k + 1, .tr none sz n => some (.sl .share sz [], [])
 | k + 1, .tr (some id) sz n =>
  match es[id]? with
  | some (some (sz', xs)) => if sz' = sz then bnd (Qgq (Qk es k) xs) fun r => some (.sl .share sz r.1, id :: r.2) else none
  | _ => none
 | k + 1, .agg cs => bnd (Qan (Qk es k) cs) fun r => some (.agg r.1, r.2)
 | k + 1, .tup cs => bnd (Qan (Qk es k) cs) fun r => some (.tup r.1, r.2)
 | k + 1, v => if v.noTr then some (v, []) else none
def Qgb (es : List Ent) (v : AV) : Option (AV × List Nat) := Qk es (es.length + 3) v
def Qev (es : List Ent) (ids : List Nat) : List Ent := ids.foldl (fun es i => es.set i none) es
def killO (es : List Ent) : Option Nat → List Ent
 | none => es
 | some i => es.set i none
def setO (es : List Ent) (id : Option Nat) (x : Ent) : List Ent := match id with | none => es | some i => es.set i x
def Qec (es : List Ent) : List Ent := List.replicate es.length none
def Qbm (es : List Ent) (sz : Nat) : Option Nat → Option (List (List AV))
 | none => some []
 | some id => match es[id]? with
  | some (some (sz', xs)) => if sz' = sz then some xs else none
  | _ => none
def S.arr (s : S) : Option (List Ent) := match s.b 99 with | some (.ar es) => some es | _ => none
def S.setA (s : S) (es : List Ent) : S := s.setB 99 (.ar es)
def Qhn : List BC → Option (List BC × List Ent)
 | [] => none
 | [.ar es] => some ([], es)
 | c :: r => bnd (Qhn r) fun q => some (c :: q.1, q.2)
def AV.calm : AV → Bool
 | .bp _ _ | .bs _ | .be _ _ _ | .np _ => false
 | .sl .tip _ _ => false
 | _ => true
def callA (call : Call) (s : S) (g : Nat) (as : List AV) (es : List Ent) : Option (AV × S) :=
 bnd (lend s as 0) fun (tv, bv, ls) =>
  bnd (call g tv (bv ++ [.ar es])) fun (_, outs, bv') =>
   bnd (Qhn bv') fun (bv1, es') =>
    bnd (giveBack s ls bv1) fun s' =>
     match outs with
     | [v] => if v.isP then none else some (v, s'.setA es')
     | _ => none
def evalTC (call : Call) (s : S) (es : List Ent) (m : CM) (g : Nat) (as : List AV) : Option (AV × S) :=
 match m with
 | .pass => callA call s g as es
 | .view => bnd (Qan (Qgb es) as) fun r =>
   if (r.1.all AV.calm) = true then bnd (call g r.1 []) fun (_, outs, bv') =>
    match outs, bv' with
    | [v], [] => if v.flat = true then some (v, s) else none
    | _, _ => none
   else none
 | .pview => bnd (Qan (Qgb es) as) fun r =>
   if (r.1.all AV.calm) = true then bnd (call g r.1 [.ar (Qec es)]) fun (_, outs, bv') =>
    match outs, bv' with
    | [v], [.ar es'] => if v.flatT = true ∧ ((es'.drop es.length).all Qkl) = true ∧ es.length ≤ es'.length then some (v, s.setA (es ++ es'.drop es.length)) else none
    | _, _ => none
   else none
 | .pseal => bnd (Qan (Qgb es) as) fun r => callA call s g r.1 (Qev es r.2)
def srcR (es : List Ent) : AV → Option (Nat × List (List AV))
 | .sl _ sz ys => some (sz, ys)
 | .tr id sz m => bnd (Qbm es sz id) fun ys => some (sz, ys)
 | _ => none
def ownV (b id sz n : Nat) : AV → AV
 | .bs b' => if b' = b then .tr (some id) sz n else .bs b'
 | v => v
def evalTK (call : Call) (G : Nat → List AV) (s : S) : TK → Option (AV × S)
 | .bld b zero parts => bnd s.arr fun es =>
  match s.b b with
  | some (.rows sz xs) => if 100000 ≤ b then
    bnd (Qkk zero (parts.map fun p => (p.1, p.2.1, ownV b es.length sz xs.length (s.get G p.2.2)))) fun cs =>
     some (.agg cs, ({ s with b := upd s.b b none } : S).setA (es ++ [some (sz, xs)])) else none
  | _ => none
 | .mk sz zero n c => bnd s.arr fun es =>
  match s.get G n, s.get G c with
  | .int _ n, .int _ c => if 0 ≤ n ∧ n = c ∧ n ≤ 4294967296 ∧ zero.length = sz then some (.tr (some es.length) sz n.toNat, s.setA (es ++ [some (sz, List.replicate n.toNat (zero.map AV.share))])) else none
  | _, _ => none
 | .nil sz => some (.tr none sz 0, s)
 | .lit sz parts => bnd s.arr fun es =>
  if (parts.all fun p => (s.get G p).cells.length == sz && (s.get G p).cells.all AV.one) = true then
   some (.tr (some es.length) sz parts.length, s.setA (es ++ [some (sz, parts.map fun p => (s.get G p).cells.map AV.share)])) else none
 | .app sz x y => bnd s.arr fun es =>
  match s.get G x with
  | .tr id sz' n => bnd (srcR es (s.get G y)) fun q => if sz' = sz ∧ q.1 = sz ∧ n + q.2.length ≤ 4294967296 then bnd (Qbm es sz id) fun xs => some (.tr (some es.length) sz (n + q.2.length), s.setA (killO es id ++ [some (sz, xs ++ q.2)])) else none
  | _ => none
 | .cut sz x hi => bnd s.arr fun es =>
  match s.get G x with
  | .tr id sz' n => if sz' = sz then bnd (Qcq (s.get G hi)) fun k => if k ≤ n then bnd (Qbm es sz id) fun xs => some (.tr (some es.length) sz k, s.setA (killO es id ++ [some (sz, xs.take k)])) else none else none
  | _ => none
 | .len x => match s.get G x with | .tr _ _ n => some (.int .i64 (n : Int), s) | _ => none
 | .iadr sz x i =>
  match s.get G x with
  | .tr id sz' n => if sz' = sz then bnd (Qcq (s.get G i)) fun i => if i < n then some (.trp id sz i 0, s) else none else none
  | _ => none
 | .fadr off x => match s.get G x with | .trp id sz i o => some (.trp id sz i (o + off), s) | _ => none
 | .nilck x => match s.get G x with | .trp id sz i o => some (.trp id sz i o, s) | _ => none
 | .load n agg x =>
  match s.get G x with
  | .trp id sz i off => bnd s.arr fun es => bnd (Qbm es sz id) fun xs => bnd (xs[i]?) fun cs => bnd (part n agg cs off) fun v => some (v, s)
  | _ => none
 | .store n x v =>
  let c := s.get G v
  if c.cells.length = n ∧ (c.cells.all AV.one) = true then
   match s.get G x with
   | .trp id sz i off => bnd s.arr fun es => bnd (Qbm es sz id) fun xs => bnd (xs[i]?) fun cs => bnd (over cs off (c.cells.map AV.share)) fun cs' =>
     some (.tup [], (s.drop v).setA (setO es id (some (sz, xs.set i cs'))))
   | _ => none
  else none
 | .call m g args => if Qcr args = true ∧ g % 100 = 0 then bnd s.arr fun es => evalTC call (dropAll s args) es m g (Qbk G s args) else none
def evalK (call : Call) (G : Nat → List AV) (s : S) : K → Option (AV × S)
 | .tr k => evalTK call G s k
 | .mv x => some (s.get G x, s.drop x)
 | .pick c x y => match s.get G c with | .bool b => if b then some (s.get G x, s.drop x) else some (s.get G y, s.drop y) | _ => none
 | .alloc b zero => bnd (s.newB b (.var zero)) fun s' => some ((.bp b 0, s'))
 | .box b x => if ((s.get G x).cells.all AV.one) = true then bnd (s.newB b (.var ((s.get G x).cells.map AV.dem))) fun s' => some (.bp b 0, s') else none
 | .build zero parts => bnd (Qkk zero (parts.map fun p => (p.1, p.2.1, (s.get G p.2.2)))) fun cs => some (.agg cs, s)
 | .buildS m sz parts =>
  if (parts.all fun p => (s.get G p).cells.length == sz && (s.get G p).cells.all AV.one) = true ∧ (m = .zero → parts = []) then some (.sl m sz (parts.map fun p => (s.get G p).cells.map AV.share), s) else none
 | .load n agg take x => loadP n agg take s (s.get G x)
 | .store n x v => bnd (storeP n (s.drop v) (s.get G x) (s.get G v)) fun s' => some ((.tup [], s'))
 | .nilck x =>
  match s.get G x with
  | .bp b o => if s.live b = true then some (.bp b o, s) else none
  | .be b i o => if s.live b = true then some (.be b i o, s) else none
  | .rp cs o => some (.rp cs o, s)
  | .fn g c => some (.fn g c, s)
  | _ => none
 | .bin op x y => bnd (bin op (s.get G x) (s.get G y)) fun v => some ((v, s))
 | .eqb neq x y =>
  match s.get G x, s.get G y with
  | .bool a, .bool b => some (.bool (if neq then !(a == b) else a == b), s)
  | _, _ => none
 | .eqs neq n x y =>
  match s.get G x, s.get G y with
  | .agg a, .agg b => if a.length = n ∧ b.length = n then bnd (Qez a b) fun r => some ((.bool (if neq then !r else r), s)) else none
  | _, _ => none
 | .un op x => bnd (un op (s.get G x)) fun v => some ((v, s))
 | .conv c x => convK s c (s.get G x)
 | .mkfn g caps => bnd (capture s (caps.map (s.get G))) fun (vs, s') => some ((.fn g vs, s'))
 | .mksl b sz zero n c =>
  match s.get G n, s.get G c with
  | .int _ n, .int _ c => if 0 ≤ n ∧ n = c ∧ n ≤ 4294967296 ∧ zero.length = sz then bnd (s.newB b (.rows sz (List.replicate n.toNat zero))) fun s' => some ((.bs b, s')) else none
  | _, _ => none
 | .mkz sz zero n c =>
  match s.get G n, s.get G c with
  | .int _ n, .int _ c => if 0 ≤ n ∧ n = c ∧ n ≤ 4294967296 ∧ zero.length = sz then some (.sl .full sz (List.replicate n.toNat (zero.map AV.share)), s) else none
  | _, _ => none
 | .slcS x lo hi => bnd (natO G s lo) fun lo => bnd (natO G s hi) fun hi => bnd (Qfw (s.get G x) lo hi) fun v => some (v, s)
 | .slc sz x lo hi mx => if mx.isSome && hi.isNone then none else bnd (natO G s lo) fun lo => bnd (natO G s hi) fun hi => bnd (natO G s mx) fun mx => bnd (Qin sz (s.get G x) lo hi mx) fun v => some (v, s)
 | .fadr off x =>
  match s.get G x with
  | .bp b o => if s.live b = true then some (.bp b (o + off), s) else none
  | .be b i o => if s.live b = true then some (.be b i (o + off), s) else none
  | .rp cs o => some (.rp cs (o + off), s)
  | _ => none
 | .fld off n agg x =>
  match s.get G x with
  | .agg cs => bnd (part n agg cs off) fun v => some ((v, s))
  | _ => none
 | .iadr sz x i =>
  match s.get G x with
  | .sl _ sz' xs => if sz' = sz then bnd (Qcq (s.get G i)) fun i => bnd (xs[i]?) fun cs => some ((.rp cs 0, s)) else none
  | .bs b =>
   match s.b b with
   | some (.rows sz' xs) => if sz' = sz then bnd (Qcq (s.get G i)) fun i => if i < xs.length then some (.be b i 0, s) else none else none
   | _ => none
  | _ => none
 | .iadrA sz len x i =>
  match s.get G x with
  | .bp b o => if s.live b = true then bnd (Qcq (s.get G i)) fun i => if i < len then some (.bp b (o + i * sz), s) else none else none
  | .rp cs o => bnd (Qcq (s.get G i)) fun i => if i < len then some (.rp cs (o + i * sz), s) else none
  | _ => none
 | .idxS x i =>
  match s.get G x with
  | .str l => bnd (Qcq (s.get G i)) fun i => bnd (l[i]?) fun c => some ((.int .u8 (c.toNat : Int), s))
  | _ => none
 | .idxA sz len n agg x i =>
  match s.get G x with
  | .agg cs => bnd (Qcq (s.get G i)) fun i => if i < len then bnd (part n agg cs (i * sz)) fun v => some ((v, s)) else none
  | _ => none
 | .len x =>
  match s.get G x with
  | .sl _ _ xs => some (.int .i64 (xs.length : Int), s)
  | .bs b =>
   match s.b b with
   | some (.rows _ xs) => some (.int .i64 (xs.length : Int), s)
   | _ => none
  | _ => none
 | .lenS x => match s.get G x with | .str l => some (.int .i64 (l.length : Int), s) | _ => none
 | .app sz x y =>
  match s.get G x, s.get G y with
  | .sl m sz' xs, .sl _ sz'' ys => if (m ≠ .share ∧ (m = .full → ys ≠ [])) ∧ sz' = sz ∧ sz'' = sz ∧ xs.length + ys.length ≤ 4294967296 then some (.sl .tip sz (xs ++ ys), s.drop x) else none
  | _, _ => none
 | .ext i x =>
  match s.get G x with
  | .tup vs => bnd (vs[i]?) fun v => if v.isP = true then none else some (v.share, s)
  | _ => none
 | .call g site args => if Qcr args = true then callF call (dropAll s args) g site (Qbk G s args) else none
 | .callv f args =>
  match s.get G f with
  | .fn g cap => if Qcr args = true ∧ g % 100 = 0 then callF call (dropAll s args) g 0 (Qbk G s args ++ cap.map AV.share) else none
  | _ => none
 | .mx args => bnd (Qdk (args.map (s.get G))) fun l => match l with | [] => none | x :: r => some (.int .i64 (r.foldl (fun a b => if a < b then b else a) x), s)
 | .mn args => bnd (Qdk (args.map (s.get G))) fun l => match l with | [] => none | x :: r => some (.int .i64 (r.foldl (fun a b => if b < a then b else a) x), s)
def Qah (s : S) : Option (Nat × Bool) → Option Bool
 | none => some true
 | some (t, want) => match s.t t with | .bool b => some (b == want) | .tup _ => some false | _ => none
def Qio (call : Call) (G : Nat → List AV) (s : S) (o : AOp) : Option S :=
 bnd (Qah s o.g) fun w => if w then bnd (evalK call G s o.k) fun r => some (r.2.put o.d r.1) else some (s.put o.d (.tup []))
def opsA (call : Call) (G : Nat → List AV) : List AOp → S → Option S
 | [], s => some s
 | o :: r, s => bnd (Qio call G s o) fun s' => opsA call G r s'
def TK.opnds : TK → List Opnd
 | .mk _ _ x y | .app _ x y | .cut _ x y | .iadr _ x y | .store _ x y => [x, y]
 | .len x | .fadr _ x | .nilck x | .load _ _ x => [x]
 | .nil _ => []
 | .lit _ ps | .call _ _ ps => ps
 | .bld _ _ ps => ps.map fun p => p.2.2
def TK.mods : TK → Bool
 | .nil _ | .len _ | .iadr _ _ _ | .fadr _ _ | .nilck _ | .load _ _ _ => false
 | _ => true
def K.opnds : K → List Opnd
 | .tr k => k.opnds
 | .mv x | .box _ x | .load _ _ _ x | .nilck x | .un _ x | .conv _ x | .fadr _ x | .fld _ _ _ x | .len x | .lenS x | .ext _ x => [x]
 | .pick c x y => [c, x, y]
 | .alloc _ _ => []
 | .build _ ps => ps.map fun p => p.2.2
 | .buildS _ _ ps => ps
 | .store _ x y | .bin _ x y | .eqb _ x y | .eqs _ _ x y | .iadr _ x y | .iadrA _ _ x y | .idxS x y | .idxA _ _ _ _ x y | .app _ x y => [x, y]
 | .mksl _ _ _ x y => [x, y]
 | .mkz _ _ x y => [x, y]
 | .mkfn _ ps | .mx ps | .mn ps | .call _ _ ps => ps
 | .slc _ x l h m => x :: (l.toList ++ h.toList ++ m.toList)
 | .slcS x l h => x :: (l.toList ++ h.toList)
 | .callv f ps => f :: ps
def K.mods : K → Bool
 | .alloc _ _ | .box _ _ | .store _ _ _ | .mkfn _ _ | .mksl _ _ _ _ _ | .call _ _ _ | .callv _ _ => true
 | .load _ _ t _ => t
 | .conv (.strBytes _) _ => true
 | .tr k => k.mods
 | _ => false
def AOp.reads (o : AOp) : List Nat := o.k.opnds.filterMap fun | .tmp t | .take t => some t | _ => none
def AOp.takes (o : AOp) : List Nat := o.k.opnds.filterMap fun | .take t => some t | _ => none
def S.mask (s : S) (ts bs : List Nat) : S :=
 { t := fun t => if ts.contains t then s.t t else .undef, b := fun b => if bs.contains b then s.b b else none, seen := fun b => if bs.contains b then s.seen b else true }
def S.merge (s : S) (o : AOp) (s' : S) : S :=
  { t := fun t => if o.takes.contains t then s'.t t else s.t t
    b := fun b => if o.k.mods && o.fp.contains b then s'.b b else s.b b
    seen := fun b => if o.k.mods && o.fp.contains b then s'.seen b else s.seen b }
def Qfh (call : Call) (G : Nat → List AV) (s : S) (o : AOp) : Option S :=
 bnd (Qah s o.g) fun w => if w then bnd (evalK call G (s.mask o.reads o.fp) o.k) fun r => some ((s.merge o r.2).put o.d r.1) else some (s.put o.d (.tup []))
def opsD (call : Call) (G : Nat → List AV) : List AOp → S → Option S
 | [], s => some s
 | o :: r, s => bnd (Qfh call G s o) fun s' => opsD call G r s'
def Qam (call : Call) (F : Nat → Option Proc) (G : Nat → List AV) : AC → S → Option (Oc × S)
 | .skip, s => some (.norm, s)
 | .flip o ps _, s => bnd (opsA call G (o :: ps) s) fun s' => some ((.norm, s'))
 | .region draw ops, s => bnd (if draw then opsD call G ops s else opsA call G ops s) fun s' => some ((.norm, s'))
 | .seq a b, s => bnd (Qam call F G a s) fun r => match r.1 with | .norm => Qam call F G b r.2 | o => some (o, r.2)
 | .cond c x y, s => match s.get G c with | .bool t => if t then Qam call F G x s else Qam call F G y s | _ => none
 | .block id a, s => bnd (Qam call F G a s) fun r => some (match r.1 with | .exit i => (if i = id then .norm else .exit i, r.2) | o => (o, r.2))
 | .exit id, s => some (.exit id, s)
 | .ret, s => some (.ret, s)
 | .label g, s =>
  match F g with
  | some p =>
   if (p.kind = .join ∨ p.kind = .loop) ∧ ((p.ins.map s.t).all (AV.okIn p.bins)) = true then
    bnd (Qaf s p.bins) fun bv => bnd (call g (p.ins.map s.t) bv) fun (o, tv, bv') => some (o, mkS p.outs tv p.bouts bv')
   else none
  | none => none
def resP : AV → Option AV
 | .sl m sz xs => some (.sl (if m = .share ∨ m = .full then .share else .tip) sz xs)
 | .agg cs => some (.agg (cs.map AV.share))
 | .bs _ | .bp _ _ | .be _ _ _ | .np _ => none
 | v => some v
def resK : AV → Option AV
 | .agg cs => some (.agg (cs.map AV.dem))
 | _ => none
def resV (s : S) : AV → Option AV
 | .bs b => if 100 ≤ b then match s.b b with | some (.rows sz xs) => some (.sl .share sz xs) | _ => none else none
 | .bp b off => if off = 0 ∧ 100 ≤ b then match s.b b with | some (.var cs) => some (.np (cs.map AV.share)) | _ => none else none
 | v => resP v
def Qwh (s : S) : RS → Option AV
 | .keep t n => bnd (loadP n true false s (s.t t)) fun r => resK r.1
 | .tmp t => resV s (s.t t)
 | .cell t n agg => bnd (loadP n agg false s (s.t t)) fun r => resP r.1
def Qms (s : S) : RS → Option AV
 | .keep _ _ => none
 | .tmp t => resP (s.t t)
 | .cell t n agg => bnd (loadP n agg false s (s.t t)) fun r => resP r.1
def Qja (s : S) : List RS → Option (List AV)
 | [] => some []
 | r :: rs => bnd (Qms s r) fun v => bnd (Qja s rs) fun l => some (v.share :: l)
def Qca (s : S) : List RS → Option AV
 | [r] => Qwh s r
 | rs => bnd (Qja s rs) fun l => some (.tup l)
def Qga (es : List Ent) : List Bool → List AV → Option (List AV × List Nat)
 | true :: bs, c :: cs => bnd (Qgb es c) fun r => bnd (Qga es bs cs) fun q => some (r.1 :: q.1, r.2 ++ q.2)
 | false :: bs, c :: cs => bnd (Qga es bs cs) fun q => some (c :: q.1, q.2)
 | [], cs => some (cs, [])
 | _, [] => some ([], [])
def finR (loc : Bool) (sl : List Bool) (s : S) (v : AV) : Option (AV × S) :=
 if loc then bnd s.arr fun es => bnd (Qgb es v) fun r => if r.1.noTr then some (r.1, s) else none
 else match sl with
  | [] => some (v, s)
  | sl => bnd s.arr fun es =>
   match v with
   | .agg cs => bnd (Qga es sl cs) fun r => some (.agg r.1, s.setA (Qev es r.2))
   | .tup cs => bnd (Qga es sl cs) fun r => some (.tup r.1, s.setA (Qev es r.2))
   | _ => none
def Qqc (loc : Bool) (s : S) : S := if loc then { s with b := upd s.b 99 (some (.ar [])), seen := upd s.seen 99 true } else s
def Qfg (p : Proc) (s : S) : S := match p.kind with | .fn => Qqc p.loc s | _ => s
def arOk (bins : List Nat) (bv : List BC) : Bool := bv.map BC.isAr == bins.map (fun b => b == 99)
def Qgo (p : Proc) (tv : List AV) (bv : List BC) : Bool := match p.kind with | .fn => arOk p.bins bv && (!p.loc || (Qas tv && bv.all BC.noTr)) | _ => true
def Qnr (p : Proc) (s : S) (v : AV) : Option Res :=
 bnd (finR p.loc p.sl s v) fun q => bnd (Qaf q.2 p.bins) fun bv' =>
  if (arOk p.bins bv' && (!p.loc || bv'.all BC.noTr) && (!(p.loc || p.bins.contains 99) || !q.1.isP)) = true then some (.ret, [q.1], bv') else none
def Qrf (p : Proc) (tv : List AV) : List BC → Option Res
 | [] => bnd (p.pf tv) fun v => some (.ret, [v], [])
 | [.ar es] => bnd (p.pa tv es) fun q => some (.ret, [q.1], [.ar q.2])
 | _ => none
def AC.other : AC → AC
 | .flip o ps qs => .flip o qs ps
 | .seq a b => .seq a.other b.other
 | .cond c x y => .cond c x.other y.other
 | .block id a => .block id a.other
 | c => c
noncomputable def both {α : Type} (x y : Option α) : Option α := open Classical in if x = y then x else none
theorem Qhz {α : Type} {x y : Option α} {r : α} : both x y = some r ↔ x = some r ∧ y = some r := by
 unfold both
 split
 ·rename_i h; subst h; simp
 ·rename_i h
  constructor
  ·intro h'; cases h'
  ·rintro ⟨h1, h2⟩; exact absurd (h1.trans h2.symm) h
def finO (p : Proc) (o : Oc) (s : S) : Option Res :=
 match o with
 | .exit _ => none
 | _ => bnd (Qca s p.res) fun v => Qnr p s v
def Qfz (call : Call) (F : Nat → Option Proc) (G : Nat → List AV) (g : Nat) (p : Proc) (code : AC) (tv : List AV) (bv : List BC) : Option Res :=
 if p.kind = .prim then Qrf p tv bv else
 if tv.length = p.ins.length ∧ bv.length = p.bins.length ∧ Qgo p tv bv = true then
 bnd (Qam call F G code (Qfg p (mkS p.ins tv p.bins bv))) fun r =>
  match p.kind with
  | .fn => finO p r.1 r.2
  | .join =>
   if ((p.outs.map r.2.t).all (AV.okIn p.bouts)) = true then bnd (Qaf r.2 p.bouts) fun bv' => some ((r.1, p.outs.map r.2.t, bv')) else none
  | .prim => none
  | .loop =>
   match r.1 with
   | .norm => if ((p.ins.map r.2.t).all (AV.okIn p.bins)) = true then bnd (Qaf r.2 p.bins) fun bv' => call g (p.ins.map r.2.t) bv' else none
   | o => if ((p.outs.map r.2.t).all (AV.okIn p.bouts)) = true then bnd (Qaf r.2 p.bouts) fun bv' => some ((o, p.outs.map r.2.t, bv')) else none
 else none
noncomputable def Qlp (call : Call) (F : Nat → Option Proc) (G : Nat → List AV) (g : Nat) (p : Proc) (tv : List AV) (bv : List BC) : Option Res :=
 if p.two = true ∧ p.kind = .fn then both (Qfz call F G g p p.code tv bv) (Qfz call F G g p p.code.other tv bv) else Qfz call F G g p p.code tv bv
theorem Qdx {call : Call} {F : Nat → Option Proc} {G : Nat → List AV} {g : Nat} {p : Proc} {tv : List AV} {bv : List BC} (h : p.two = false ∨ p.kind ≠ .fn) : Qlp call F G g p tv bv = Qfz call F G g p p.code tv bv := by
 unfold Qlp
 rw [if_neg]
 rintro ⟨h1, h2⟩
 rcases h with h | h
 ·rw [h] at h1; cases h1
 ·exact h h2
theorem Qyt {call : Call} {F : Nat → Option Proc} {G : Nat → List AV} {g : Nat} {p : Proc} {tv : List AV} {bv : List BC} {r : Res} (h : Qlp call F G g p tv bv = some r) : Qfz call F G g p p.code tv bv = some r ∧ (p.two = true → p.kind = .fn → Qfz call F G g p p.code.other tv bv = some r) := by
 unfold Qlp at h
 split at h
 ·obtain ⟨h1, h2⟩ := Qhz.1 h
  exact ⟨h1, fun _ _ => h2⟩
 ·rename_i hn
  exact ⟨h, fun h1 h2 => absurd ⟨h1, h2⟩ hn⟩
noncomputable def A (F : Nat → Option Proc) (G : Nat → List AV) : Nat → Call
 | 0 => fun _ _ _ => none
 | k + 1 => fun g tv bv => bnd (F g) fun p => Qlp (A F G k) F G g p tv bv
end Go.Vs
namespace Go.Vs
open Go Go.RowKit
structure Mem where
 c : Nat → Nat → Option Value
 hd : Nat → Option Value
instance : CoeFun Mem (fun _ => Nat → Nat → Option Value) := ⟨Mem.c⟩
def Mem.le (σ τ : Mem) : Prop := (∀ B i v, σ B i = some v → τ B i = some v) ∧ ∀ id v, σ.hd id = some v → τ.hd id = some v
theorem Mem.le_refl (σ : Mem) : σ.le σ := ⟨fun _ _ _ h => h, fun _ _ h => h⟩
theorem Mem.le_trans {σ τ υ : Mem} (h : σ.le τ) (k : τ.le υ) : σ.le υ := ⟨fun B i v hv => k.1 B i v (h.1 B i v hv), fun i v hv => k.2 i v (h.2 i v hv)⟩
theorem Mem.le_c {σ : Mem} {f : Nat → Nat → Option Value} (h : ∀ B i v, σ B i = some v → f B i = some v) : σ.le { σ with c := f } := ⟨h, fun _ _ h => h⟩
def Mem.bare (σ : Mem) : Mem := { σ with hd := fun _ => none }
theorem Mem.bare_le (σ : Mem) : σ.bare.le σ := ⟨fun _ _ _ h => h, fun _ _ h => by cases h⟩
theorem Mem.bare_mono {σ τ : Mem} (h : σ.le τ) : σ.bare.le τ.bare := ⟨h.1, fun _ _ h => by cases h⟩
def RepH (σ : Mem) (id : Option Nat) (n : Nat) (v : Value) : Prop :=
 match id with
 | none => n = 0 ∧ ∃ a, v = .slice a 0 0
 | some id => σ.hd id = some v ∧ ∃ a cap, v = .slice a n cap ∧ (n = 0 ∨ ∃ B, a = some ⟨B, 0, none⟩)
def RepQ (σ : Mem) (id : Option Nat) (sz i off : Nat) (v : Value) : Prop :=
 ∃ k B n cap, id = some k ∧ σ.hd k = some (.slice (some ⟨B, 0, none⟩) n cap) ∧ v = .pointer (some ⟨B, i * sz + off, none⟩)
theorem Qun {σ τ : Mem} (h : σ.le τ) {id : Option Nat} {n : Nat} {v : Value} (hv : RepH σ id n v) : RepH τ id n v := by
 cases id with
 | none => exact hv
 | some id => exact ⟨h.2 _ _ hv.1, hv.2⟩
theorem Quo {σ τ : Mem} (h : σ.le τ) {id : Option Nat} {sz i off : Nat} {v : Value} (hv : RepQ σ id sz i off v) : RepQ τ id sz i off v := by
 obtain ⟨k, B, n, cap, h0, h1, h2⟩ := hv
 exact ⟨k, B, n, cap, h0, h.2 _ _ h1, h2⟩
mutual
def RepP (fid : Nat → Nat) (σ : Mem) : AV → Value → Prop
 | .undef, _ => True
 | .int k n, v => v = .int k n
 | .bool b, v => v = .bool b
 | .str l, v => v = .string ⟨l.toArray⟩
 | .con c, v => v = c.val
 | .sl m sz xs, v => ∃ a n cap, v = .slice a n cap ∧ n = xs.length ∧ n ≤ cap ∧ ((m = .zero → cap = 0) ∧ (m = .full → cap = n)) ∧ (n = 0 ∨ ∃ B o, a = some ⟨B, o, none⟩ ∧ RepR fid σ sz xs (fun i => σ B (o + i)))
 | .agg cs, v => ∃ vs, v = .agg vs ∧ vs.size = cs.length ∧ RepL fid σ cs (fun i => vs[i]?)
 | .rp cs off, v => ∃ B o, v = .pointer (some ⟨B, o + off, none⟩) ∧ RepL fid σ cs (fun i => σ B (o + i))
 | .fn g cap, v => ∃ vs, v = .func (.func (fid g)) #[] vs ∧ vs.size = cap.length ∧ RepL fid σ cap (fun i => vs[i]?)
 | .tup vs, v => ∃ ws, v = .tuple ws ∧ ws.size = vs.length ∧ RepL fid σ vs (fun i => ws[i]?)
 | .bp _ _, _ => False
 | .bs _, _ => False
 | .be _ _ _, _ => False
 | .np _, _ => False
 | .tr id _ n, v => RepH σ id n v
 | .trp id sz i off, v => RepQ σ id sz i off v
def RepL (fid : Nat → Nat) (σ : Mem) : List AV → (Nat → Option Value) → Prop
 | [], _ => True
 | c :: cs, f => (∃ v, f 0 = some v ∧ RepP fid σ c v) ∧ RepL fid σ cs (fun i => f (i + 1))
def RepR (fid : Nat → Nat) (σ : Mem) (sz : Nat) : List (List AV) → (Nat → Option Value) → Prop
 | [], _ => True
 | r :: rs, f => r.length = sz ∧ RepL fid σ r f ∧ RepR fid σ sz rs (fun i => f (sz + i))
end
section
variable {fid : Nat → Nat} {σ τ : Mem}
theorem Qi {cs : List AV} : ∀ {f : Nat → Option Value}, RepL fid σ cs f ↔ ∀ i c, cs[i]? = some c → ∃ v, f i = some v ∧ RepP fid σ c v := by
 induction cs with
 | nil => intro f; simp [RepL]
 | cons c cs ih =>
  intro f
  simp only [RepL, ih]
  constructor
  ·rintro ⟨h0, h⟩ i d hd
   cases i with
   | zero => simp at hd; subst hd; exact h0
   | succ i => exact h i d (by simpa using hd)
  ·intro h
   exact ⟨h 0 c (by simp), fun i d hd => h (i + 1) d (by simpa using hd)⟩
theorem Qn {sz : Nat} {xs : List (List AV)} : ∀ {f : Nat → Option Value}, RepR fid σ sz xs f ↔ ∀ i r, xs[i]? = some r → r.length = sz ∧ RepL fid σ r (fun j => f (i * sz + j)) := by
 induction xs with
 | nil => intro f; simp [RepR]
 | cons r rs ih =>
  intro f
  simp only [RepR, ih]
  constructor
  ·rintro ⟨h0, h1, h⟩ i d hd
   cases i with
   | zero => simp at hd; subst hd; exact ⟨h0, by simpa using h1⟩
   | succ i =>
    have := h i d (by simpa using hd)
    refine ⟨this.1, ?_⟩
    have e : (fun j => f ((i + 1) * sz + j)) = (fun j => f (sz + (i * sz + j))) := by
     funext j; congr 1; rw [Nat.add_mul]; omega
    rw [e]; exact this.2
  ·intro h
   refine ⟨(h 0 r (by simp)).1, by simpa using (h 0 r (by simp)).2, fun i d hd => ?_⟩
   have := h (i + 1) d (by simpa using hd)
   refine ⟨this.1, ?_⟩
   have e : (fun j => f ((i + 1) * sz + j)) = (fun j => f (sz + (i * sz + j))) := by
    funext j; congr 1; rw [Nat.add_mul]; omega
   rw [e] at this; exact this.2
mutual
theorem Qop (h : σ.le τ) : ∀ (c : AV) (v : Value), RepP fid σ c v → RepP fid τ c v
 | .undef, v, _ => by simp [RepP]
 | .int k n, v, hv => by simpa [RepP] using hv
 | .bool b, v, hv => by simpa [RepP] using hv
 | .str l, v, hv => by simpa [RepP] using hv
 | .con c, v, hv => by simpa [RepP] using hv
 | .sl m sz xs, v, hv => by
  simp only [RepP] at hv ⊢
  obtain ⟨a, n, cap, rfl, h1, h2, h3, h4⟩ := hv
  refine ⟨a, n, cap, rfl, h1, h2, h3, ?_⟩
  rcases h4 with h4 | ⟨B, o, h5, h6⟩
  ·exact .inl h4
  ·exact .inr ⟨B, o, h5, Qad h xs _ _ (fun i v hv => h.1 _ _ _ hv) h6⟩
 | .agg cs, v, hv => by
  simp only [RepP] at hv ⊢
  obtain ⟨vs, h1, h2, h3⟩ := hv
  exact ⟨vs, h1, h2, Qbb h cs _ _ (fun _ _ h => h) h3⟩
 | .rp cs off, v, hv => by
  simp only [RepP] at hv ⊢
  obtain ⟨B, o, h1, h3⟩ := hv
  exact ⟨B, o, h1, Qbb h cs _ _ (fun _ _ hv => h.1 _ _ _ hv) h3⟩
 | .fn g cs, v, hv => by
  simp only [RepP] at hv ⊢
  obtain ⟨vs, h1, h2, h3⟩ := hv
  exact ⟨vs, h1, h2, Qbb h cs _ _ (fun _ _ h => h) h3⟩
 | .tup cs, v, hv => by
  simp only [RepP] at hv ⊢
  obtain ⟨vs, h1, h2, h3⟩ := hv
  exact ⟨vs, h1, h2, Qbb h cs _ _ (fun _ _ h => h) h3⟩
 | .bp _ _, v, hv => by simp [RepP] at hv
 | .bs _, v, hv => by simp [RepP] at hv
 | .be _ _ _, v, hv => by simp [RepP] at hv
 | .np _, v, hv => by simp [RepP] at hv
 | .tr _ _ _, v, hv => by simp only [RepP] at hv ⊢; exact Qun h hv
 | .trp _ _ _ _, v, hv => by simp only [RepP] at hv ⊢; exact Quo h hv
theorem Qbb (h : σ.le τ) : ∀ (cs : List AV) (f g : Nat → Option Value), (∀ i v, f i = some v → g i = some v) → RepL fid σ cs f → RepL fid τ cs g
 | [], _, _, _, _ => by simp [RepL]
 | c :: cs, f, g, hfg, hv => by
  simp only [RepL] at hv ⊢
  obtain ⟨⟨v, h1, h2⟩, h3⟩ := hv
  exact ⟨⟨v, hfg _ _ h1, Qop h c v h2⟩, Qbb h cs _ _ (fun i v hv => hfg _ _ hv) h3⟩
theorem Qad (h : σ.le τ) {sz : Nat} : ∀ (xs : List (List AV)) (f g : Nat → Option Value), (∀ i v, f i = some v → g i = some v) → RepR fid σ sz xs f → RepR fid τ sz xs g
 | [], _, _, _, _ => by simp [RepR]
 | r :: rs, f, g, hfg, hv => by
  simp only [RepR] at hv ⊢
  exact ⟨hv.1, Qbb h r _ _ hfg hv.2.1, Qad h rs _ _ (fun i v hv => hfg _ _ hv) hv.2.2⟩
end
theorem RepP.mono {c : AV} {v : Value} (hv : RepP fid σ c v) (h : σ.le τ) : RepP fid τ c v := Qop h c v hv
theorem Qcl {c : AV} {v : Value} (h : RepP fid σ c v) : RepP fid σ c.dem v := by
 cases c with
 | sl m sz xs => cases m <;> first | exact h | (simp only [AV.dem, RepP] at h ⊢; obtain ⟨a, n, cap, h1, h2, h3, _, h5⟩ := h; exact ⟨a, n, cap, h1, h2, h3, by simp, h5⟩)
 | _ => exact h
theorem Qs {c : AV} {v : Value} (h : RepP fid σ c v) : RepP fid σ c.share v := by
 cases c with
 | sl m sz xs => simp only [AV.share, RepP] at h ⊢; obtain ⟨a, n, cap, h1, h2, h3, _, h5⟩ := h; exact ⟨a, n, cap, h1, h2, h3, by simp, h5⟩
 | _ => exact h
theorem Qlv {c : AV} {v : Value} (h : RepP fid σ c v) : RepP fid σ c.toTip v := by
 cases c with
 | sl m sz xs => cases m <;> first | exact h | (simp only [AV.toTip, RepP] at h ⊢; obtain ⟨a, n, cap, h1, h2, h3, _, h5⟩ := h; exact ⟨a, n, cap, h1, h2, h3, by simp, h5⟩)
 | _ => exact h
theorem Qba {cs : List AV} {f : Nat → Option Value} {m : AV → AV} (hm : ∀ c v, RepP fid σ c v → RepP fid σ (m c) v) (h : RepL fid σ cs f) : RepL fid σ (cs.map m) f := by
 rw [Qi] at h ⊢
 intro i c hc
 rw [List.getElem?_map] at hc
 cases hd : cs[i]? with
 | none => rw [hd] at hc; simp at hc
 | some d =>
  rw [hd] at hc
  simp at hc
  subst hc
  obtain ⟨v, h1, h2⟩ := h i d hd
  exact ⟨v, h1, hm _ _ h2⟩
theorem Qeb {sz : Nat} {xs ys : List (List AV)} {f : Nat → Option Value} : RepR fid σ sz (xs ++ ys) f ↔ RepR fid σ sz xs f ∧ RepR fid σ sz ys (fun i => f (xs.length * sz + i)) := by
 simp only [Qn]
 constructor
 ·intro h
  refine ⟨fun i c hc => h i c ?_, fun i c hc => ?_⟩
  ·rw [List.getElem?_append_left (List.getElem?_eq_some_iff.1 hc).1]; exact hc
  ·have := h (xs.length + i) c (by rw [List.getElem?_append_right (by omega)]; simpa using hc)
   refine ⟨this.1, ?_⟩
   have e : (fun j => f ((xs.length + i) * sz + j)) = (fun j => f (xs.length * sz + (i * sz + j))) := by
    funext j; congr 1; rw [Nat.add_mul]; omega
   rw [e] at this; exact this.2
 ·rintro ⟨h1, h2⟩ i c hc
  by_cases hi : i < xs.length
  ·rw [List.getElem?_append_left hi] at hc; exact h1 i c hc
  ·rw [List.getElem?_append_right (by omega)] at hc
   have := h2 (i - xs.length) c hc
   refine ⟨this.1, ?_⟩
   have e : (fun j => f (i * sz + j)) = (fun j => f (xs.length * sz + ((i - xs.length) * sz + j))) := by
    funext j; congr 1
    rw [← Nat.add_assoc, ← Nat.add_mul, show xs.length + (i - xs.length) = i by omega]
   rw [e]; exact this.2
end
end Go.Vs
namespace Go.Vs
open Go Go.RowKit
structure Env where
 w0 : World
 σ0 : Mem
 lent : Nat → Prop
 pbm : Nat → Option Nat
 n : Nat
 base : Nat := w0.heap.size
 hbase : base ≤ w0.heap.size := by exact Nat.le_refl _
 hd : Nat → Option Value := σ0.hd
 arn : Bool := false
def Env.own (e : Env) (B : Nat) : Prop := e.w0.heap.size ≤ B ∨ e.lent B
def Qum (vs : Array Value) (m : Nat × Nat) : Prop := ∀ i, i < vs.size → ¬ (m.1 ≤ i ∧ i < m.2)
def Ones (vs : Array Value) : Prop := ∀ v ∈ vs.toList, v.oneCell' = true
def BoxFz (vs : Array Value) (m : Nat × Nat) : Prop := Qum vs m ∧ Ones vs
theorem Ones.get {vs : Array Value} (h : Ones vs) {i : Nat} {v : Value} (hv : vs[i]? = some v) : v.oneCell' = true :=
 h v (by have := Array.mem_of_getElem? hv; simpa using this)
def Qsv (fid : Nat → Nat) (σ : Mem) (w : World) (B : Nat) : BC → Prop
 | .var cs => ∃ vs t m, w.heap[B]? = some (.cells vs t m) ∧ BoxFz vs m ∧ vs.size = cs.length ∧ RepL fid σ cs (fun i => vs[i]?)
 | .rows sz xs => ∃ vs t m, w.heap[B]? = some (.cells vs t m) ∧ BoxFz vs m ∧ xs.length * sz ≤ vs.size ∧ RepR fid σ sz xs (fun i => vs[i]?)
 | .ar _ => False
def CapOk (b n cap : Nat) : Prop := n ≤ cap ∧ (100000 ≤ b → cap = n)
def RepT (fid : Nat → Nat) (σ : Mem) (bm : Nat → Option Nat) (sb : Nat → Option BC) : AV → Value → Prop
 | .bp b off, v => ∀ B, bm b = some B → v = .pointer (some ⟨B, off, none⟩)
 | .bs b, v => ∀ B, bm b = some B → ∃ sz xs cap, sb b = some (.rows sz xs) ∧ CapOk b xs.length cap ∧ v = .slice (some ⟨B, 0, none⟩) xs.length cap
 | .be b i off, v => ∀ B, bm b = some B → ∃ sz xs, sb b = some (.rows sz xs) ∧ v = .pointer (some ⟨B, i * sz + off, none⟩)
 | c, v => RepP fid σ c v
def Qdq (e : Env) (σ : Mem) (bm : Nat → Option Nat) (w : World) (sz : Nat) (v : Value) : Prop :=
 ∃ a n cap, v = .slice a n cap ∧ (cap = 0 ∨ ∃ B o vs t m, a = some ⟨B, o, none⟩ ∧ w.heap[B]? = some (.cells vs t m) ∧ Qum vs m ∧ o + cap * sz ≤ vs.size ∧ (∀ i, o + n * sz ≤ i → σ B i = none) ∧ e.own B ∧ ∀ b, bm b ≠ some B)
def Qf : Value → Option Nat
 | .slice (some a) _ cap => if cap = 0 then none else some a.block
 | _ => none
inductive Pos where
 | t (t : Nat)
 | c (b i : Nat)
def AV.tipSz : AV → Option Nat
 | .sl .tip sz _ => some sz
 | _ => none
def Qd (s : S) : Pos → Option Nat
 | .t t => (s.t t).tipSz
 | .c b i => match s.b b with
  | some (.var cs) => (cs[i]?).bind AV.tipSz
  | _ => none
def Qg (a : Act) (w : World) (bm : Nat → Option Nat) : Pos → Value
 | .t t => a.tmps.getD t undef
 | .c b i => ((bm b).bind fun B => w.cell? ⟨B, i, none⟩).getD undef
def AV.ref : AV → Option Nat
 | .bp b _ | .bs b | .be b _ _ => some b
 | _ => none
structure RelX (fid : Nat → Nat) (e : Env) (σ : Mem) (bm : Nat → Option Nat) (s : S) (a : Act) (w : World) : Prop where
 defers : a.defers = []
 hds : σ.hd = e.hd
 size : a.tmps.size = e.n
 tmps : ∀ t, RepT fid σ bm s.b (s.t t) (a.tmps.getD t undef)
 boxes : ∀ b c, s.b b = some c → c.isAr = false → ∃ B, bm b = some B ∧ Qsv fid σ w B c ∧ e.own B ∧ ∀ i, σ B i = none
 dead : ∀ b, s.b b = none → bm b = none
 ar : ∀ b es, s.b b = some (.ar es) → b = 99 ∧ bm b = none
 inj : ∀ b b' B, bm b = some B → bm b' = some B → b = b'
 par : ∀ j B B', j < 100 → e.pbm j = some B → bm j = some B' → B' = B
 newb : ∀ b B, 100 ≤ b → bm b = some B → e.base ≤ B
 seenB : ∀ b, s.b b ≠ none → s.seen b = true
 seenT : ∀ t b, (s.t t).ref = some b → s.seen b = true
 mem : ∀ B i v, σ B i = some v → w.cell? ⟨B, i, none⟩ = some v
 one : ∀ B i v, σ B i = some v → v.oneCell' = true
 old : ∀ B, B < e.w0.heap.size → ¬ e.lent B → w.heap[B]? = e.w0.heap[B]?
 oldσ : ∀ B, B < e.w0.heap.size → ¬ e.lent B → σ B = e.σ0 B
 leσ : e.σ0.le σ
 grown : e.w0.heap.size ≤ w.heap.size
 os : w.os = e.w0.os
 tape : w.tape = e.w0.tape
 output : w.output = e.w0.output
 tip : ∀ p sz, Qd s p = some sz → Qdq e σ bm w sz (Qg a w bm p)
 dist : ∀ p q sz sz' B, Qd s p = some sz → Qd s q = some sz' → Qf (Qg a w bm p) = some B → Qf (Qg a w bm q) = some B → p = q
def Rel (fid : Nat → Nat) (e : Env) (s : S) (a : Act) (w : World) : Prop := ∃ σ bm, RelX fid e σ bm s a w
section
variable {fid : Nat → Nat} {e : Env} {σ τ : Mem} {bm bm' : Nat → Option Nat} {s s' : S} {a : Act} {w w' : World}
theorem RelX.nar (h : RelX fid e σ bm s a w) {b B : Nat} {c : BC} (hc : s.b b = some c) (hB : bm b = some B) : c.isAr = false := by
 cases c with
 | ar es => have := (h.ar b es hc).2; rw [hB] at this; cases this
 | _ => rfl
theorem Qu {sb : Nat → Option BC} {c : AV} {v : Value} (h : c.isP = false) : RepT fid σ bm sb c v ↔ RepP fid σ c v := by
 cases c <;> simp_all [AV.isP, RepT]
theorem Qew {sb : Nat → Option BC} {c : AV} {v : Value} (h : RepP fid σ c v) : RepT fid σ bm sb c v := by
 cases c <;> simp_all [RepT, RepP]
theorem Qcw {c : AV} (h : c.isP = false) : c.ref = none := by
 cases c <;> simp_all [AV.isP, AV.ref]
theorem Qnd {sb : Nat → Option BC} {c : AV} {v : Value} (h : RepT fid σ bm sb c v) : RepT fid σ bm sb c.dem v := by
 cases c with
 | sl m sz xs => exact Qew (Qcl (by simpa [RepT] using h))
 | _ => exact h
theorem Qbn (c : AV) : c.dem.tipSz = none := by
 cases c with
 | sl m sz xs => cases m <;> rfl
 | _ => rfl
theorem Qvg (c : AV) : c.dem.ref = c.ref := by
 cases c with
 | sl m sz xs => cases m <;> rfl
 | _ => rfl
theorem Qhm (c : AV) : c.share.tipSz = none := by cases c <;> rfl
theorem Qgs {sb : Nat → Option BC} {c : AV} {v : Value} (h : RepT fid σ bm sb c v) (hl : σ.le τ) : RepT fid τ bm sb c v := by
 cases c <;> first | exact h | exact RepP.mono h hl
theorem Qcx {B : Nat} {c : BC} (h : Qsv fid σ w B c) (hl : σ.le τ) (hw : w'.heap[B]? = w.heap[B]?) : Qsv fid τ w' B c := by
 cases c with
 | var cs =>
  obtain ⟨vs, t, m, h1, h2, h3, h4⟩ := h
  exact ⟨vs, t, m, hw.trans h1, h2, h3, Qbb hl cs _ _ (fun _ _ h => h) h4⟩
 | rows sz xs =>
  obtain ⟨vs, t, m, h1, h2, h3, h4⟩ := h
  exact ⟨vs, t, m, hw.trans h1, h2, h3, Qad hl xs _ _ (fun _ _ h => h) h4⟩
 | ar es => exact h.elim
theorem Qbc {B i : Nat} (h : w'.heap[B]? = w.heap[B]?) : w'.cell? ⟨B, i, none⟩ = w.cell? ⟨B, i, none⟩ := by
 simp only [World.cell?, h]
theorem Qag {B i : Nat} {vs : Array Value} {t : TypeId} {m : Nat × Nat} (h : w.heap[B]? = some (.cells vs t m)) : w.cell? ⟨B, i, none⟩ = vs[i]? := by
 simp [World.cell?, h]
theorem Qfb {B i : Nat} {vs : Array Value} {t : TypeId} {m : Nat × Nat} (h : w.heap[B]? = some (.cells vs t m)) (hn : Qum vs m) (hi : i < vs.size) : w.frozen? ⟨B, i, none⟩ = false := by
 obtain ⟨lo, hi'⟩ := m
 have := hn i hi
 simp only [World.frozen?, h]
 simp at this ⊢
 intro h1
 exact this h1
theorem Qar {B : Nat} {o : Obj} (h : w.heap[B]? = some o) : B < w.heap.size := (Array.getElem?_eq_some_iff.1 h).1
def Qz (s : S) (bm : Nat → Option Nat) (a : Act) (w : World) (B : Nat) : Prop :=
 (∃ b, bm b = some B) ∨ ∃ p sz, Qd s p = some sz ∧ Qf (Qg a w bm p) = some B
theorem RelX.world (h : RelX fid e σ bm s a w) (hl : σ.le τ) (hone : ∀ B i v, τ B i = some v → v.oneCell' = true) (hτ : ∀ B i, B < w.heap.size → τ B i = σ B i)
    (hmem : ∀ B i v, τ B i = some v → w'.cell? ⟨B, i, none⟩ = some v)
    (hkeep : ∀ B, B < w.heap.size → w'.heap[B]? = w.heap[B]?) (hgrown : w.heap.size ≤ w'.heap.size)
    (hos : w'.os = w.os) (htape : w'.tape = w.tape) (hout : w'.output = w.output) (hhd : τ.hd = σ.hd := by rfl) : RelX fid e τ bm s a w' := by
  have hval : ∀ p sz, Qd s p = some sz → Qg a w' bm p = Qg a w bm p := by
    intro p sz hp
    cases p with
    | t t => rfl
    | c b i =>
      simp only [Qd] at hp
      split at hp
      · rename_i cs hb
        obtain ⟨B, hB, ⟨vs, t, m, h1, _⟩, _⟩ := h.boxes b _ hb rfl
        simp only [Qg, hB, Option.bind_some, Qbc (hkeep B (Qar h1))]
      · cases hp
  refine { defers := h.defers, hds := hhd.trans h.hds, size := h.size, tmps := fun t => Qgs (h.tmps t) hl, boxes := fun b c hb har => ?_, dead := h.dead, ar := h.ar, inj := h.inj, par := h.par, newb := h.newb,
           seenB := h.seenB, seenT := h.seenT, mem := hmem, one := hone, old := fun B h1 h2 => ?_, oldσ := fun B h1 h2 => ?_, leσ := Mem.le_trans h.leσ hl, grown := Nat.le_trans h.grown hgrown,
           os := hos.trans h.os, tape := htape.trans h.tape, output := hout.trans h.output, tip := fun p sz hp => ?_, dist := fun p q sz sz' B hp hq h1 h2 => ?_ }
  · obtain ⟨B, h1, h2, h3, h4⟩ := h.boxes b c hb har
    have hlt : B < w.heap.size := by
      cases c <;> first | exact h2.elim | (obtain ⟨vs, t, m, k, _⟩ := h2; exact Qar k)
    exact ⟨B, h1, Qcx h2 hl (hkeep B hlt), h3, fun i => by rw [hτ B i hlt]; exact h4 i⟩
  · rw [hkeep B (Nat.lt_of_lt_of_le h1 h.grown)]; exact h.old B h1 h2
  · funext i
    rw [hτ B i (Nat.lt_of_lt_of_le h1 h.grown), h.oldσ B h1 h2]
  · rw [hval p sz hp]
    obtain ⟨A, n, cap, h1, h2⟩ := h.tip p sz hp
    refine ⟨A, n, cap, h1, h2.imp id ?_⟩
    rintro ⟨B, o, vs, t, m, k1, k2, k3, k4, k5, k6, k7⟩
    exact ⟨B, o, vs, t, m, k1, (hkeep B (Qar k2)).trans k2, k3, k4, fun i hi => by rw [hτ B i (Qar k2)]; exact k5 i hi, k6, k7⟩
  · rw [hval p sz hp] at h1
    rw [hval q sz' hq] at h2
    exact h.dist p q sz sz' B hp hq h1 h2
theorem Mem.le_of_world (h : RelX fid e σ bm s a w) : ∀ B i v, σ B i = some v → B < w.heap.size := by
 intro B i v hv
 exact World.block_lt_of_cell? w _ (h.mem B i v hv)
theorem RelX.drawn (h : RelX fid e σ bm s a w) (n : Nat) : RelX fid e σ bm s a { w with drawn := n } :=
 h.world (Mem.le_refl σ) h.one (fun _ _ _ => rfl) (fun B i v hv => h.mem B i v hv) (fun _ _ => rfl) (Nat.le_refl _) rfl rfl rfl
structure Less (s s' : S) : Prop where
 t : ∀ t, s'.t t = s.t t ∨ s'.t t = (s.t t).dem ∨ s'.t t = .undef
 b : ∀ b, s'.b b = s.b b ∨ s'.b b = none
 keepBs : ∀ t b, (s'.t t).ref = some b → s'.b b = none ∨ s'.b b = s.b b
 seenB : ∀ b, s'.b b ≠ none → s'.seen b = true
 seenT : ∀ t b, (s'.t t).ref = some b → s'.seen b = true
theorem RelX.less (h : RelX fid e σ bm s a w) (hl : Less s s') : RelX fid e σ (fun b => if (s'.b b).isSome then bm b else none) s' a w := by
  have hbm : ∀ b B, (if (s'.b b).isSome then bm b else none) = some B → (s'.b b).isSome = true ∧ s'.b b = s.b b ∧ bm b = some B := by
    intro b B hb
    split at hb
    · rename_i hs
      rcases hl.b b with h1 | h1
      · exact ⟨hs, h1, hb⟩
      · rw [h1] at hs; cases hs
    · cases hb
  have htip : ∀ p sz, Qd s' p = some sz → Qd s p = some sz ∧ Qg a w (fun b => if (s'.b b).isSome then bm b else none) p = Qg a w bm p := by
    intro p sz hp
    cases p with
    | t t =>
      refine ⟨?_, rfl⟩
      simp only [Qd] at hp ⊢
      rcases hl.t t with h1 | h1 | h1
      · rw [← h1]; exact hp
      · rw [h1, Qbn] at hp; cases hp
      · rw [h1] at hp; cases hp
    | c b i =>
      simp only [Qd] at hp ⊢
      split at hp
      · rename_i cs hb
        rcases hl.b b with h1 | h1
        · rw [hb] at h1
          simp only [← h1]
          exact ⟨hp, by simp [Qg, hb]⟩
        · rw [h1] at hb; cases hb
      · cases hp
  have hlar : ∀ b es, s'.b b = some (.ar es) → b = 99 ∧ (if (s'.b b).isSome then bm b else none) = none := by
    intro b es hb
    rcases hl.b b with h1 | h1
    · obtain ⟨k1, k2⟩ := h.ar b es (h1 ▸ hb)
      exact ⟨k1, by simp [k2]⟩
    · rw [h1] at hb; cases hb
  refine { defers := h.defers, hds := h.hds, size := h.size, tmps := fun t => ?_, boxes := fun b c hb har => ?_, dead := fun b hb => by simp [hb], ar := hlar, inj := fun b b' B h1 h2 => h.inj b b' B (hbm b B h1).2.2 (hbm b' B h2).2.2,
           par := fun j B B' hj h1 h2 => h.par j B B' hj h1 (hbm j B' h2).2.2, newb := fun b B hb h1 => h.newb b B hb (hbm b B h1).2.2, seenB := hl.seenB, seenT := hl.seenT, mem := h.mem, one := h.one, old := h.old, oldσ := h.oldσ, leσ := h.leσ, grown := h.grown,
           os := h.os, tape := h.tape, output := h.output, tip := fun p sz hp => ?_, dist := fun p q sz sz' B hp hq h1 h2 => ?_ }
  · have base : ∀ c, (c = s.t t ∨ c = (s.t t).dem) → RepT fid σ (fun b => if (s'.b b).isSome then bm b else none) s'.b c (a.tmps.getD t undef) := by
      intro c hc
      have hr : RepT fid σ bm s.b c (a.tmps.getD t undef) := by
        rcases hc with rfl | rfl
        · exact h.tmps t
        · exact Qnd (h.tmps t)
      cases c <;> first
        | exact hr
        | (intro B hB; exact hr B (hbm _ B hB).2.2)
        | (intro B hB; obtain ⟨_, h1, h2⟩ := hbm _ B hB; rw [h1]; exact hr B h2)
    rcases hl.t t with h1 | h1 | h1
    · rw [h1]; exact base _ (.inl rfl)
    · rw [h1]; exact base _ (.inr rfl)
    · rw [h1]; simp [RepT, RepP]
  · rcases hl.b b with h1 | h1
    · obtain ⟨B, k1, k2, k3, k4⟩ := h.boxes b c (h1 ▸ hb) har
      exact ⟨B, by simp [hb, k1], k2, k3, k4⟩
    · rw [h1] at hb; cases hb
  · obtain ⟨h1, h2⟩ := htip p sz hp
    rw [h2]
    obtain ⟨A, n, cap, h3, h4⟩ := h.tip p sz h1
    refine ⟨A, n, cap, h3, h4.imp id ?_⟩
    rintro ⟨B, o, vs, t, m, k1, k2, k3, k4, k5, k6, k7⟩
    exact ⟨B, o, vs, t, m, k1, k2, k3, k4, k5, k6, fun b hb => k7 b (hbm b B hb).2.2⟩
  · obtain ⟨k1, k2⟩ := htip p sz hp
    obtain ⟨k3, k4⟩ := htip q sz' hq
    rw [k2] at h1
    rw [k4] at h2
    exact h.dist p q sz sz' B k1 k3 h1 h2
theorem RelX.drop (h : RelX fid e σ bm s a w) (x : Opnd) : RelX fid e σ bm (s.drop x) a w := by
 cases x with
 | take t =>
  have hb : (s.drop (.take t)).b = s.b := rfl
  have ht : ∀ u, (s.drop (.take t)).t u = s.t u ∨ (s.drop (.take t)).t u = (s.t u).dem := by
   intro u
   simp only [S.drop, Qae]
   by_cases hu : u = t
   ·subst hu; simp
   ·simp [hu]
  have htip : ∀ p sz, Qd (s.drop (.take t)) p = some sz → Qd s p = some sz := by
   intro p sz hp
   cases p with
   | t u =>
    simp only [Qd] at hp ⊢
    rcases ht u with h1 | h1
    ·rw [← h1]; exact hp
    ·rw [h1, Qbn] at hp; cases hp
   | c b i => exact hp
  exact { h with
   tmps := fun u => by rcases ht u with h1 | h1 <;> rw [h1] <;> first | exact h.tmps u | exact Qnd (h.tmps u)
   seenT := fun u b hr => by rcases ht u with h1 | h1 <;> rw [h1] at hr <;> first | exact h.seenT u b hr | exact h.seenT u b (by rw [← Qvg]; exact hr)
   tip := fun p sz hp => h.tip p sz (htip p sz hp)
   dist := fun p q sz sz' B hp hq => h.dist p q sz sz' B (htip p sz hp) (htip q sz' hq) }
 | _ => exact h
theorem Qjg {a : Act} {d : Nat} {v : Value} (hd : d < a.tmps.size) (t : Nat) : (a.put (some d) v).tmps.getD t undef = if t = d then v else a.tmps.getD t undef := by
 simp only [Act.put, Array.getD_eq_getD_getElem?, Array.getElem?_setIfInBounds]
 by_cases h : t = d
 ·subst h; simp [hd]
 ·simp [h, Ne.symm h]
theorem RelX.put (h : RelX fid e σ bm s a w) (d : Option Nat) (hd : ∀ t, d = some t → t < e.n) {c : AV} {v : Value} (hr : RepT fid σ bm s.b c v) (hs : ∀ b, c.ref = some b → s.seen b = true)
    (ht : ∀ sz, c.tipSz = some sz → Qdq e σ bm w sz v ∧ ∀ p sz' B, Qd s p = some sz' → Qf v = some B → Qf (Qg a w bm p) ≠ some B) : RelX fid e σ bm (s.put d c) (a.put d v) w := by
  cases d with
  | none => exact h
  | some d =>
    have hlt : d < a.tmps.size := by rw [h.size]; exact hd d rfl
    have hT : ∀ u, (s.put (some d) c).t u = if u = d then c else s.t u := fun u => rfl
    have hval : ∀ p, Qg (a.put (some d) v) w bm p = match p with | .t u => if u = d then v else Qg a w bm (.t u) | p => Qg a w bm p := by
      intro p
      cases p with
      | t u => exact Qjg hlt u
      | c b i => rfl
    have hat : ∀ p sz, Qd (s.put (some d) c) p = some sz → (p = .t d ∧ c.tipSz = some sz) ∨ (p ≠ .t d ∧ Qd s p = some sz) := by
      intro p sz hp
      cases p with
      | t u =>
        simp only [Qd, hT] at hp
        by_cases hu : u = d
        · subst hu; simp at hp; exact .inl ⟨rfl, hp⟩
        · simp [hu] at hp; exact .inr ⟨fun e => hu (by injection e), hp⟩
      | c b i => exact .inr ⟨(fun e => by cases e), hp⟩
    have hv2 : ∀ p, p ≠ .t d → Qg (a.put (some d) v) w bm p = Qg a w bm p := by
      intro p hp
      rw [hval]
      cases p with
      | t u =>
        have : u ≠ d := fun e => hp (by rw [e])
        simp [this]
      | c b i => rfl
    have hv1 : Qg (a.put (some d) v) w bm (.t d) = v := by rw [hval]; simp
    refine { defers := h.defers, hds := h.hds, size := ?_, tmps := fun t => ?_, boxes := h.boxes, dead := h.dead, ar := h.ar, inj := h.inj, par := h.par, newb := h.newb, seenB := h.seenB, seenT := fun t b hb => ?_, mem := h.mem, one := h.one, old := h.old, oldσ := h.oldσ, leσ := h.leσ, grown := h.grown,
             os := h.os, tape := h.tape, output := h.output, tip := fun p sz hp => ?_, dist := fun p q sz sz' B hp hq h1 h2 => ?_ }
    · simp [Act.put, h.size]
    · rw [Qjg hlt t, hT]
      split
      · exact hr
      · exact h.tmps t
    · rw [hT] at hb
      split at hb
      · exact hs b hb
      · exact h.seenT t b hb
    · rcases hat p sz hp with ⟨rfl, hc⟩ | ⟨hp1, hp2⟩
      · rw [hv1]; exact (ht sz hc).1
      · rw [hv2 p hp1]; exact h.tip p sz hp2
    · rcases hat p sz hp with ⟨rfl, hc⟩ | ⟨hp1, hp2⟩
      · rcases hat q sz' hq with ⟨rfl, hc'⟩ | ⟨hq1, hq2⟩
        · rfl
        · rw [hv1] at h1
          rw [hv2 q hq1] at h2
          exact absurd h2 ((ht sz hc).2 q sz' B hq2 h1)
      · rcases hat q sz' hq with ⟨rfl, hc'⟩ | ⟨hq1, hq2⟩
        · rw [hv1] at h2
          rw [hv2 p hp1] at h1
          exact absurd h1 ((ht sz' hc').2 p sz B hp2 h2)
        · rw [hv2 p hp1] at h1
          rw [hv2 q hq1] at h2
          exact h.dist p q sz sz' B hp2 hq2 h1 h2
end
end Go.Vs
namespace Go.Vs
open Go Go.RowKit
structure Ctx where
 P : Program
 fid : Nat → Nat
 gm : Nat → Nat
 G : Nat → List AV
 fx : List (Nat × (Obj → Prop)) := []
def Qea (C : Ctx) (e : Env) : Prop := ∀ x ∈ C.fx, x.1 < e.w0.heap.size ∧ ¬ e.lent x.1 ∧ ∃ o, e.w0.heap[x.1]? = some o ∧ x.2 o
def GOk (C : Ctx) (σ : Mem) : Prop := ∀ i, RepL C.fid σ.bare (C.G i) (fun j => σ (C.gm i) j)
theorem GOk.mono {C : Ctx} {σ τ : Mem} (h : GOk C σ) (hl : σ.le τ) : GOk C τ := fun i => Qbb (Mem.bare_mono hl) _ _ _ (fun _ _ hv => hl.1 _ _ _ hv) (h i)
theorem GOk.rep {C : Ctx} {σ : Mem} (h : GOk C σ) (i : Nat) : RepL C.fid σ (C.G i) (fun j => σ (C.gm i) j) := Qbb σ.bare_le _ _ _ (fun _ _ hv => hv) (h i)
mutual
def okC : AV → Value → Bool
 | .int k n, .int k' m => decide (k = k') && decide (n = m)
 | .bool a, .bool b => a == b
 | .str l, .string s => l == s.data.toList
 | .con .nilp, .pointer none => true
 | .con .nilf, .nilFunc => true
 | .con .nili, .nilIface => true
 | .sl .zero _ [], .slice none 0 0 => true
 | .tr none _ 0, .slice none 0 0 => true
 | .sl .share _ [], .slice none 0 0 => true
 | .agg cs, .agg vs => okCs cs vs.toList
 | _, _ => false
def okCs : List AV → List Value → Bool
 | [], [] => true
 | c :: cs, v :: vs => okC c v && okCs cs vs
 | _, _ => false
end
theorem Qdn : ∀ {cs : List AV} {vs : List Value}, okCs cs vs = true → cs.length = vs.length
 | [], [], _ => rfl
 | [], _ :: _, h => by simp [okCs] at h
 | _ :: _, [], h => by simp [okCs] at h
 | c :: cs, v :: vs, h => by simp [okCs] at h; simp [Qdn h.2]
mutual
theorem Qkv {fid : Nat → Nat} {σ : Mem} : ∀ {c : AV} {v : Value}, okC c v = true → RepP fid σ c v
 | .int k n, v, h => by cases v <;> simp_all [okC, RepP]
 | .bool b, v, h => by cases v <;> simp_all [okC, RepP]
 | .str l, v, h => by
  cases v <;> simp_all [okC, RepP]
 | .con .nilp, v, h => by
  cases v with
  | pointer a => cases a <;> simp_all [okC, RepP, Con.val]
  | _ => simp [okC] at h
 | .con .nilf, v, h => by cases v <;> simp_all [okC, RepP, Con.val]
 | .con .nili, v, h => by cases v <;> simp_all [okC, RepP, Con.val]
 | .sl m sz xs, v, h => by
  cases m <;> first | (cases v <;> simp [okC] at h; done) | skip
  all_goals
   cases xs with
   | cons x xs => cases v <;> simp [okC] at h
   | nil =>
    cases v with
    | slice a n cap =>
     cases a with
     | some a => simp [okC] at h
     | none =>
      cases n with
      | succ n => simp [okC] at h
      | zero =>
       cases cap with
       | succ n => simp [okC] at h
       | zero => exact ⟨none, 0, 0, rfl, rfl, Nat.le_refl _, (by first | exact ⟨fun _ => rfl, fun _ => rfl⟩ | simp), .inl rfl⟩
    | _ => simp [okC] at h
 | .agg cs, v, h => by
  cases v with
  | agg vs =>
   simp only [okC] at h
   refine ⟨vs, rfl, ?_, ?_⟩
   ·simpa using (Qdn h).symm
   ·have := Qdo (fid := fid) (σ := σ) h
    simpa using this
  | _ => simp [okC] at h
 | .undef, v, h => by simp [RepP]
 | .rp _ _, v, h => by cases v <;> simp [okC] at h
 | .fn _ _, v, h => by cases v <;> simp [okC] at h
 | .tup _, v, h => by cases v <;> simp [okC] at h
 | .bp _ _, v, h => by cases v <;> simp [okC] at h
 | .bs _, v, h => by cases v <;> simp [okC] at h
 | .be _ _ _, v, h => by cases v <;> simp [okC] at h
 | .np _, v, h => by cases v <;> simp [okC] at h
 | .trp _ _ _ _, v, h => by cases v <;> simp [okC] at h
 | .tr none _ (n + 1), v, h => by cases v <;> simp [okC] at h
 | .tr (some _) _ _, v, h => by cases v <;> simp [okC] at h
 | .tr none _ 0, v, h => by
  cases v with
  | slice a n cap =>
   cases a with
   | some a => simp [okC] at h
   | none => cases n <;> cases cap <;> first | exact ⟨rfl, none, rfl⟩ | simp [okC] at h
  | _ => simp [okC] at h
theorem Qdo {fid : Nat → Nat} {σ : Mem} : ∀ {cs : List AV} {vs : List Value}, okCs cs vs = true → RepL fid σ cs (fun i => vs[i]?)
 | [], [], _ => by simp [RepL]
 | [], _ :: _, h => by simp [okCs] at h
 | _ :: _, [], h => by simp [okCs] at h
 | c :: cs, v :: vs, h => by
  simp only [okCs, Zw] at h
  simp only [RepL]
  exact ⟨⟨v, by simp, Qkv h.1⟩, by simpa using Qdo h.2⟩
end
end Go.Vs