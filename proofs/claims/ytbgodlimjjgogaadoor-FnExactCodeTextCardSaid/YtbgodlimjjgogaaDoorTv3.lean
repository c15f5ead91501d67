/- What a typed value is as a plain one. -/
import Derived.Test.YtbgodlimjjgogaaDoorTv1
set_option linter.unusedVariables false
set_option linter.unusedSimpArgs false
namespace Go.Tv
open Go Go.RowKit Go.Vs
theorem Qj (cs : List TV) : Qbp cs = cs.map toAV := by
 induction cs with
 | nil => rfl
 | cons c cs ih => simp [Qbp, ih]
theorem Qha (l : List Exp) : Qer l = l.map Qkj := by
 induction l with
 | nil => rfl
 | cons c cs ih => simp [Qer, ih]
theorem Qdg (l : List Stm) : Qct l = l.map Qlh := by
 induction l with
 | nil => rfl
 | cons c cs ih => simp [Qct, ih]
theorem Qpz : Qe .exp = Qkj := rfl
theorem Qla : Qe .stm = Qlh := rfl
theorem Qdh (m : Md) (c : TC) (l : List (Den c)) : toAV (.sl m c l) = .sl m.sm c.sz (l.map (Qe c)) := by simp only [toAV]
theorem Qdf : Qe .int = fun n => [.int .i64 n] := rfl
theorem Qua : Qe .bool = fun n => [.bool n] := rfl
theorem Qsr : Qe .bx = bxAV := rfl
theorem Qss : Qe .tk = tkAV := rfl
theorem Quc : Qe .stms = fun l => [.sl .share 8 (Qct l)] := rfl
theorem Qub : Qe .ints = fun l => [Qao l] := rfl
theorem Qcj : ∀ (c : TC) (x : Den c), (rowT c x).map toAV = Qe c x
 | .int, n | .u8, n | .bool, n | .str, n | .quad, n | .event, n => by simp [rowT, Qe, toAV]
 | .exp, e => by cases e; simp only [rowT, Qe, Qkj, List.map_cons, List.map_nil, Qdh, toAV, Qha, Qpz]; rfl
 | .stm, e => by cases e; simp only [rowT, Qe, Qlh, List.map_cons, List.map_nil, Qdh, toAV, Qha, Qdg, Qpz, Qla]; rfl
 | .stms, l => by simp only [rowT, Qe, List.map_cons, List.map_nil, Qdh, Qdg, Qla]; rfl
 | .bx, b => by simp only [rowT, Qe, bxAV, Qao, List.map_cons, List.map_nil, Qdh, toAV, Qdf]; rfl
 | .tk, b => by simp only [rowT, Qe, tkAV, Qao, List.map_cons, List.map_nil, Qdh, toAV, Qdf, Qdg, Qla]; rfl
 | .ints, b => by simp only [rowT, Qe, Qao, List.map_cons, List.map_nil, Qdh, Qdf]; rfl
 | .rg, b => by simp only [rowT, Qe, Qao, List.map_cons, List.map_nil, Qdh, toAV, Qdf]; rfl
 | .prg, b => by simp only [rowT, Qe, Qao, List.map_cons, List.map_nil, Qdh, toAV, Qdf, Quc]; rfl
 | .wld, b => by simp only [rowT, Qe, Qao, List.map_cons, List.map_nil, Qdh, toAV, Qdf, Qss, Qsr]; rfl
 | .otc, b => by simp only [rowT, Qe, Qao, List.map_cons, List.map_nil, Qdh, toAV, Qdf, Qub, Qua]; rfl
 | .fn, g => by simp [rowT, Qe, toAV, Qbp]
 | .intsH, g | .stmsH, g | .stmsHH, g | .expH, g | .stmH, g | .bxH, g | .tkH, g | .rgH, g | .prgH, g | .wldH, g | .otcH, g => by simp [rowT, Qe, toAV, TC.sz]
 | .wldO, g => by simp only [rowT, Qe, List.map_cons, List.map_nil, Qdh, toAV, Qss, Qsr]; rfl
theorem Qyz : ∀ (c : TC) (x : Den c), (rowT c x).length = c.sz
 | .int, _ | .u8, _ | .bool, _ | .str, _ | .quad, _ | .event, _ | .exp, _ | .stm, _ | .stms, _ | .bx, _ | .tk, _ | .ints, _ | .rg, _ | .prg, _ | .wld, _ | .otc, _ | .fn, _ | .intsH, _ | .stmsH, _ | .stmsHH, _ | .expH, _ | .stmH, _ | .bxH, _ | .tkH, _ | .rgH, _ | .prgH, _ | .wldH, _ | .otcH, _ | .wldO, _ => rfl
theorem Qdy (c : TC) (x : Den c) : (Qe c x).length = c.sz := by rw [← Qcj, List.length_map, Qyz]
theorem Qst : ∀ (c : TC) (x : Den c), (rowT c x).all TV.one = true
 | .int, _ | .u8, _ | .bool, _ | .str, _ | .quad, _ | .event, _ | .exp, _ | .stm, _ | .stms, _ | .bx, _ | .tk, _ | .ints, _ | .rg, _ | .prg, _ | .wld, _ | .otc, _ | .fn, _ | .intsH, _ | .stmsH, _ | .stmsHH, _ | .expH, _ | .stmH, _ | .bxH, _ | .tkH, _ | .rgH, _ | .prgH, _ | .wldH, _ | .otcH, _ | .wldO, _ => rfl
theorem Qaq {c c' : TC} {l : List (Den c)} {l' : List (Den c')} (h : Qbv c c' l = some l') : ∃ e : c = c', e ▸ l = l' := by
 unfold Qbv at h
 split at h
 ·rename_i e; injection h with h; exact ⟨e, h⟩
 ·cases h
theorem Qgw {c : TC} {cs : List TV} {x : Den c} (h : Qir c cs = some x) : cs = rowT c x := by
  unfold Qir at h
  split at h <;> first
    | (cases h; done)
    | (injection h with h; subst h; rfl)
    | (simp only [Qa] at h
       obtain ⟨a, h1, h2⟩ := h
       obtain ⟨rfl, rfl⟩ := Qaq h1
       injection h2 with h2; subst h2; rfl)
    | (obtain ⟨rfl, rfl⟩ := Qaq h; rfl)
    | (split at h
       · rename_i hc
         first | subst hc | (obtain ⟨rfl, rfl⟩ := hc) | (obtain ⟨rfl, rfl, rfl⟩ := hc)
         injection h with h; subst h; rfl
       · cases h)
    | (simp only [Qa] at h
       obtain ⟨a, h1, b, h2, h3⟩ := h
       obtain ⟨rfl, rfl⟩ := Qaq h1
       obtain ⟨rfl, rfl⟩ := Qaq h2
       injection h3 with h3; subst h3; rfl)
    | (simp only [Qa] at h
       obtain ⟨a, h1, b, h2, h3⟩ := h
       obtain ⟨rfl, rfl⟩ := Qaq h1
       obtain ⟨rfl, rfl⟩ := Qaq h2
       split at h3
       · rename_i hc
         subst hc
         injection h3 with h3; subst h3; rfl
       · cases h3)
    | (simp only [Qa] at h
       obtain ⟨a, h1, b, h2, c, h3, h4⟩ := h
       obtain ⟨rfl, rfl⟩ := Qaq h1
       obtain ⟨rfl, rfl⟩ := Qaq h2
       obtain ⟨rfl, rfl⟩ := Qaq h3
       injection h4 with h4; subst h4; rfl)
theorem Qjw (v : TV) : (toAV v).dem = toAV v.dem := by
 cases v with
 | sl m c l =>
  cases m with
  | share => simp [toAV, TV.dem, AV.dem, Md.dem, Md.sm]
  | full => simp [toAV, TV.dem, AV.dem, Md.dem, Md.sm]
  | own b => cases b <;> simp [toAV, TV.dem, AV.dem, Md.dem, Md.sm]
 | _ => simp [toAV, TV.dem, AV.dem]
theorem Qow (v : TV) : (toAV v).share = toAV v.shr := by cases v <;> simp [toAV, TV.shr, AV.share, Md.sm]
theorem Qzr (v : TV) : (toAV v).toTip = toAV v.toTip := by
 cases v with
 | sl m c l =>
  cases m with
  | share => simp [toAV, TV.toTip, AV.toTip, Md.sm]
  | full => simp [toAV, TV.toTip, AV.toTip, Md.sm]
  | own b => cases b <;> simp [toAV, TV.toTip, AV.toTip, Md.sm]
 | _ => simp [toAV, TV.toTip, AV.toTip]
theorem Qdl (v : TV) : (toAV v).cells = v.cells.map toAV := by cases v <;> simp [toAV, TV.cells, AV.cells, Qj]
theorem Qrc (cs : List TV) : (cs.map toAV).map AV.dem = (cs.map TV.dem).map toAV := by simp [Qjw]
theorem Qfd (cs : List TV) : (cs.map toAV).map AV.share = (cs.map TV.shr).map toAV := by simp [Qow]
theorem Quy (v : TV) : (toAV v).scells = v.scells.map toAV := by cases v <;> simp [toAV, TV.scells, AV.scells, Qj, Qjw]
theorem av_one (v : TV) : (toAV v).one = v.one := by cases v <;> simp [toAV, TV.one, AV.one]
theorem Qif (cs : List TV) : (cs.map toAV).all AV.one = cs.all TV.one := by simp [List.all_map, Function.comp_def, av_one]
theorem Qjx (v : TV) : (toAV v).isP = v.isP := by cases v <;> simp [toAV, TV.isP, AV.isP]
theorem av_okIn (bins : List Nat) (v : TV) : (toAV v).okIn bins = v.okIn bins := by cases v <;> simp [toAV, TV.okIn, AV.okIn]
theorem av_arg (v : TV) : (match toAV v with | .agg cs => .agg (cs.map AV.share) | v => v.share) = toAV (argV v) := by
 cases v with
 | agg cs => simp only [toAV, argV, Qj, Qfd]
 | _ => simp only [toAV, argV, AV.share, TV.shr, Md.sm]
theorem av_part (n : Nat) (agg : Bool) (cs : List TV) (off : Nat) : Vs.part n agg (cs.map toAV) off = (Qpu n agg cs off).map toAV := by
 unfold Vs.part Qpu
 cases agg
 ·simp only [Bool.false_eq_true, if_false]
  split
  ·rw [List.getElem?_map]; cases cs[off]? <;> simp [Qjw]
  ·rfl
 ·simp only [if_true, List.length_map]
  split
  ·have : (AV.dem ∘ toAV) = (toAV ∘ TV.dem) := by funext v; exact Qjw v
   simp [toAV, Qj, List.map_take, List.map_drop, this]
  ·rfl
theorem Qux (cs : List TV) (off : Nat) (vs : List TV) : Vs.over (cs.map toAV) off (vs.map toAV) = (Qpt cs off vs).map (List.map toAV) := by
 unfold Vs.over Qpt
 simp only [List.length_map]
 split
 ·simp [List.map_take, List.map_drop]
 ·rfl
theorem Qqp : ∀ (ps : List (Nat × Nat × TV)) (cs : List TV), Qkk (cs.map toAV) (ps.map fun p => (p.1, p.2.1, toAV p.2.2)) = (Qtm cs ps).map (List.map toAV)
 | [], cs => by simp [Qkk, Qtm]
 | (off, n, v) :: r, cs => by
  simp only [List.map_cons, Qkk, Qtm, Qdl, List.length_map, Qif, Qrc, Qux]
  split
  ·cases Qpt cs off (v.cells.map TV.dem) with
   | none => rfl
   | some cs' => simp only [Option.map_some, Qb]; exact Qqp r cs'
  ·rfl
theorem Qov : ∀ (a b : List TV), Qez (a.map toAV) (b.map toAV) = Qnp a b
 | [], [] => rfl
 | [], b :: bs => by cases b <;> rfl
 | a :: as, [] => by cases a <;> rfl
 | a :: as, b :: bs => by
  cases a <;> cases b <;> simp only [List.map_cons, toAV, Qez, Qnp, Qov as bs]
theorem Qjv : ∀ (a : List TV), Qdk (a.map toAV) = Qmk a
 | [] => rfl
 | a :: as => by
  cases a with
  | int k n => cases k <;> simp [toAV, Qdk, Qmk, Qjv as]
  | _ => simp [toAV, Qdk, Qmk]
theorem Qli : ∀ {cs : List TV} {l : List (List UInt8)}, Qmy cs = some l → cs = l.map .str
 | [], l, h => by simp [Qmy] at h; subst h; rfl
 | c :: cs, l, h => by
  cases c <;> simp [Qmy] at h
  rw [Qa] at h
  obtain ⟨a, h1, h2⟩ := h
  injection h2 with h2
  subst h2
  rw [Qli h1]; rfl
theorem Qrz (l : List Int) : Qat (l.map fun n => [.int .u8 n]) = some (bytes l) := by
 induction l with
 | nil => rfl
 | cons n l ih => simp [Qat, bytes] at ih ⊢; rw [ih]; rfl
theorem Qud : ∀ (c : TC) (x : Den c), (rowT c x).map TV.shr = rowT c x
 | .int, _ | .u8, _ | .bool, _ | .str, _ | .quad, _ | .event, _ | .exp, _ | .stm, _ | .stms, _ | .bx, _ | .tk, _ | .ints, _ | .rg, _ | .prg, _ | .wld, _ | .otc, _ | .fn, _ | .intsH, _ | .stmsH, _ | .stmsHH, _ | .expH, _ | .stmH, _ | .bxH, _ | .tkH, _ | .rgH, _ | .prgH, _ | .wldH, _ | .otcH, _ | .wldO, _ => rfl
theorem Qkz (c : TC) (x : Den c) : (Qe c x).map AV.share = Qe c x := by rw [← Qcj, Qfd, Qud]
def toS (s : TS) : S := { t := fun j => toAV (s.t j), b := fun j => (s.b j).map toBC, seen := s.seen }
def GA (G : Nat → List TV) : Nat → List AV := fun i => Qbp (G i)
theorem Qgp (s : TS) (b : Nat) : (toS s).b b = (s.b b).map toBC := rfl
theorem Qig {α β : Type} (g : α → β) (f : Nat → α) (i : Nat) (v : α) : (fun j => g (upd f i v j)) = upd (fun j => g (f j)) i (g v) := by
 funext j; unfold upd; split <;> rfl
theorem Qrq (s : TS) (d : Option Nat) (v : TV) : toS (s.put d v) = (toS s).put d (toAV v) := by
 cases d with
 | none => rfl
 | some d => simp only [toS, TS.put, S.put, Qig toAV]
theorem Qhs (s : TS) (b : Nat) (c : BT) : toS (s.setB b c) = (toS s).setB b (toBC c) := by
 have e : (fun j => (upd s.b b (some c) j).map toBC) = upd (fun j => (s.b j).map toBC) b (some (toBC c)) := Qig (Option.map toBC) s.b b (some c)
 simp only [toS, TS.setB, S.setB, e]
theorem Qzj (s : TS) (b : Nat) (c : BT) : (toS s).newB b (toBC c) = (s.newB b c).map toS := by
 have e : (fun j => (upd s.b b (some c) j).map toBC) = upd (fun j => (s.b j).map toBC) b (some (toBC c)) := Qig (Option.map toBC) s.b b (some c)
 unfold S.newB TS.newB
 have : (toS s).seen b = s.seen b := rfl
 rw [this]
 split
 ·rfl
 ·simp only [Option.map_some, toS, e]
theorem Qeo (s : TS) (x : OpT) : toS (s.drop x) = (toS s).drop x.er := by
 cases x with
 | take t => simp only [TS.drop, OpT.er, S.drop, toS, Qig toAV, Qjw]
 | _ => rfl
theorem Qlj (xs : List OpT) : ∀ s : TS, toS (xs.foldl TS.drop s) = dropAll (toS s) (xs.map OpT.er) := by
 induction xs with
 | nil => intro s; rfl
 | cons x xs ih => intro s; simp only [List.foldl_cons, ih, dropAll, List.map_cons, Qeo]
theorem Qh (G : Nat → List TV) (s : TS) (x : OpT) : (toS s).get (GA G) x.er = toAV (s.get G x) := by
 cases x with
 | tmp t => simp only [OpT.er, S.get, TS.get]; exact Qjw (s.t t)
 | _ => simp [OpT.er, S.get, TS.get, toS, toAV, GA, Qbp]
theorem Qzg (G : Nat → List TV) (s : TS) (x : OpT) : (toS s).getA (GA G) x.er = toAV (s.getA G x) := by
 cases x with
 | tmp t => simp only [OpT.er, S.getA, TS.getA]; exact av_arg (s.t t)
 | take t => simp only [OpT.er, S.getA, TS.getA]; exact Qzr (s.t t)
 | const v => simp only [OpT.er, S.getA, TS.getA]; exact Qzr v
 | _ => simp [OpT.er, S.getA, TS.getA, toS, toAV, GA, Qbp]
theorem Qok (G : Nat → List TV) (s : TS) (xs : List OpT) : (xs.map OpT.er).map ((toS s).get (GA G)) = (xs.map (s.get G)).map toAV := by
 simp [List.map_map, Function.comp_def, Qh]
theorem Qoj (G : Nat → List TV) (s : TS) (xs : List OpT) : Qbk (GA G) (toS s) (xs.map OpT.er) = (xs.map (s.getA G)).map toAV := by
 simp [Qbk, List.map_map, Function.comp_def, Qzg]
theorem Qwy (ins : List Nat) (tv : List TV) (bins : List Nat) (bv : List BT) : toS (mkST ins tv bins bv) = mkS ins (tv.map toAV) bins (bv.map toBC) := by
 have h1 : ∀ (ins : List Nat) (tv : List TV), (fun j => toAV (asTT ins tv j)) = asT ins (tv.map toAV) := by
  intro ins
  induction ins with
  | nil => intro tv; funext j; cases tv <;> rfl
  | cons i is ih =>
   intro tv; funext j
   cases tv with
   | nil => rfl
   | cons v vs => have := congrFun (ih vs) j; simp only [asTT, List.map_cons, asT]; split <;> first | rfl | exact this
 have h2 : ∀ (ins : List Nat) (tv : List BT), (fun j => (asBT ins tv j).map toBC) = asB ins (tv.map toBC) := by
  intro ins
  induction ins with
  | nil => intro tv; funext j; cases tv <;> rfl
  | cons i is ih =>
   intro tv; funext j
   cases tv with
   | nil => rfl
   | cons v vs => have := congrFun (ih vs) j; simp only [asBT, List.map_cons, asB]; split <;> first | rfl | exact this
 simp only [toS, mkST, mkS, h1, h2]
theorem Qex {s : TS} : ∀ {bs : List Nat} {r : List BT}, Qiq s bs = some r → Qaf (toS s) bs = some (r.map toBC)
 | [], r, h => by simp [Qiq] at h; subst h; rfl
 | b :: bs, r, h => by
  simp only [Qiq, Qa] at h
  obtain ⟨c, h1, l, h2, h3⟩ := h
  injection h3 with h3
  subst h3
  simp only [Qaf, Qgp, h1, Option.map_some, Qb, Qex h2, List.map_cons]
theorem Qzi (s : TS) (ts bs : List Nat) : toS (s.mask ts bs) = (toS s).mask ts bs := by
 simp only [toS, TS.mask, S.mask, S.mk.injEq]
 refine ⟨?_, ?_, trivial⟩
 ·funext j; split <;> simp [toAV]
 ·funext j; split <;> simp
theorem Qwx (s : TS) (o : AOp) (s' : TS) : toS (s.merge o.takes o.k.mods o.fp s') = (toS s).merge o (toS s') := by
 simp only [toS, TS.merge, S.merge, S.mk.injEq]
 refine ⟨?_, ?_, trivial⟩
 ·funext j; split <;> rfl
 ·funext j; split <;> rfl
theorem Qcb (s : TS) (es : List Ent) : toS (s.setA es) = (toS s).setA es := Qhs s 99 (.ar es)
theorem Qzh (s : TS) (b : Nat) : (toS s).live b = s.live b := by
 unfold S.live TS.live
 rw [Qgp]
 cases s.b b with
 | none => rfl
 | some c => cases c <;> rfl
theorem Qcs {s : TS} {es : List Ent} (h : s.b 99 = some (.ar es)) : (toS s).arr = some es := by
 unfold S.arr
 rw [Qgp, h]; rfl
theorem Qwb {l : List AV} : Qas l = l.all AV.noTr := by
 induction l with
 | nil => rfl
 | cons x l ih => simp only [Qas, List.all_cons, ih]
theorem Qwc {l : List (List AV)} : Qfy l = l.all Qas := by
 induction l with
 | nil => rfl
 | cons x l ih => simp only [Qfy, List.all_cons, ih]
mutual
theorem Qmg : ∀ (e : Exp), Qas (Qkj e) = true
 | ⟨o, n, as⟩ => by simp only [Qkj, Qas, AV.noTr, Qgh as, Bool.and_self]
theorem Qgh : ∀ (l : List Exp), Qfy (Qer l) = true
 | [] => rfl
 | e :: l => by simp only [Qer, Qfy, Qmg e, Qgh l, Bool.and_self]
end
mutual
theorem Qmx : ∀ (e : Stm), Qas (Qlh e) = true
 | ⟨k, v, b, e, bd, el⟩ => by simp only [Qlh, Qas, AV.noTr, Qgh e.args, Qck bd, Qck el, Bool.and_self]
theorem Qck : ∀ (l : List Stm), Qfy (Qct l) = true
 | [] => rfl
 | e :: l => by simp only [Qct, Qfy, Qmx e, Qck l, Bool.and_self]
end
theorem Qeg {α : Type} {f : α → List AV} (h : ∀ x, Qas (f x) = true) (l : List α) : Qfy (l.map f) = true := by
 rw [Qwc, List.all_map, List.all_eq_true]
 intro x _; exact h x
theorem Qbd (l : List Int) : (Qao l).noTr = true := by
 simp only [Qao, AV.noTr]
 exact Qeg (fun _ => rfl) l
theorem Qpa (b : Bx) : Qas (bxAV b) = true := by simp only [bxAV, Qas, Qbd, AV.noTr, Bool.and_self]
theorem Qqf (b : Tk) : Qas (tkAV b) = true := by simp only [tkAV, Qas, Qbd, AV.noTr, Qck, Bool.and_self]
theorem Qmt : ∀ (c : TC) (x : Den c), c.plain = true → Qas (Qe c x) = true
 | .int, _, _ | .u8, _, _ | .bool, _, _ | .str, _, _ | .quad, _, _ | .event, _, _ | .fn, _, _ => rfl
 | .exp, e, _ => Qmg e
 | .stm, e, _ => Qmx e
 | .stms, l, _ => by simp only [Qe, Qas, AV.noTr, Qck, Bool.and_self]
 | .bx, b, _ => Qpa b
 | .tk, b, _ => Qqf b
 | .ints, l, _ => by simp only [Qe, Qas, Qbd, Bool.and_self]
 | .rg, r, _ => by simp only [Qe, Qas, Qbd, AV.noTr, Bool.and_self]
 | .prg, p, _ => by
  simp only [Qe, Qas, Qbd, AV.noTr, Bool.true_and, Bool.and_true]
  exact Qeg (fun l => by simp only [Qas, AV.noTr, Qck, Bool.and_self]) _
 | .wld, w, _ => by
  simp only [Qe, Qas, Qbd, AV.noTr, Bool.true_and, Bool.and_true]
  rw [Qeg Qqf, Qeg Qpa]; rfl
 | .otc, o, _ => by
  simp only [Qe, Qas, Qbd, AV.noTr, Bool.true_and, Bool.and_true]
  rw [Qeg (fun l => by simp only [Qas, Qbd, Bool.and_self]), Qeg (fun _ => rfl)]; rfl
theorem Qej {c : TC} (h : c.plain = true) (l : List (Den c)) : Qfy (l.map (Qe c)) = true := Qeg (fun x => Qmt c x h) l
mutual
theorem Qhw : ∀ (v : TV), v.noTr = true → (toAV v).noTr = true
 | .undef, _ | .int _ _, _ | .bool _, _ | .str _, _ | .con _, _ | .bp _ _, _ | .bs _, _ | .be _ _ _, _ => by simp [toAV, AV.noTr]
 | .sl m c l, h => by simp only [toAV, AV.noTr]; exact Qej h l
 | .agg cs, h => by simp only [toAV, AV.noTr]; exact Qdm cs h
 | .rp cs off, h => by simp only [toAV, AV.noTr]; exact Qdm cs h
 | .rs l i, h => by
  simp only [toAV, AV.noTr, Qwb, List.all_map, List.all_eq_true]
  intro x _; rfl
 | .fn g cs, h => by simp only [toAV, AV.noTr]; exact Qdm cs h
 | .tup cs, h => by simp only [toAV, AV.noTr]; exact Qdm cs h
 | .np cs, h => by simp only [toAV, AV.noTr]; exact Qdm cs h
 | .tr _ _ _, h => by cases h
 | .trp _ _ _ _, h => by cases h
 | .arv _, h => by cases h
theorem Qdm : ∀ (cs : List TV), Qge cs = true → Qas (Qbp cs) = true
 | [], _ => rfl
 | c :: cs, h => by
  simp only [Qge, Zw] at h
  simp only [Qbp, Qas, Qhw c h.1, Qdm cs h.2, Bool.and_self]
end
mutual
theorem Quw : ∀ (v : TV), v.flat = true → (toAV v).flat = true
 | .int _ _, _ | .bool _, _ | .str _, _ => by simp [toAV, AV.flat]
 | .agg cs, h => by simp only [toAV, AV.flat]; exact Qni cs h
 | .tup cs, h => by simp only [toAV, AV.flat]; exact Qni cs h
 | .undef, h | .con _, h | .bp _ _, h | .bs _, h | .be _ _ _, h | .sl _ _ _, h | .rp _ _, h | .rs _ _, h | .fn _ _, h | .np _, h | .tr _ _ _, h | .trp _ _ _ _, h | .arv _, h => by cases h
theorem Qni : ∀ (cs : List TV), Qpk cs = true → Qra (Qbp cs) = true
 | [], _ => rfl
 | c :: cs, h => by
  simp only [Qpk, Zw] at h
  simp only [Qbp, Qra, Quw c h.1, Qni cs h.2, Bool.and_self]
end
mutual
theorem Qsa : ∀ (v : TV), v.flatT = true → (toAV v).flatT = true
 | .int _ _, _ | .bool _, _ | .str _, _ | .tr _ _ _, _ => by simp [toAV, AV.flatT]
 | .agg cs, h => by simp only [toAV, AV.flatT]; exact Qjy cs h
 | .tup cs, h => by simp only [toAV, AV.flatT]; exact Qjy cs h
 | .undef, h | .con _, h | .bp _ _, h | .bs _, h | .be _ _ _, h | .sl _ _ _, h | .rp _ _, h | .rs _ _, h | .fn _ _, h | .np _, h | .trp _ _ _ _, h | .arv _, h => by cases h
theorem Qjy : ∀ (cs : List TV), Qkm cs = true → Qdw (Qbp cs) = true
 | [], _ => rfl
 | c :: cs, h => by
  simp only [Qkm, Zw] at h
  simp only [Qbp, Qdw, Qsa c h.1, Qjy cs h.2, Bool.and_self]
end
theorem av_calm (v : TV) (h : v.calm = true) : (toAV v).calm = true := by
 cases v with
 | sl m c l =>
  cases m with
  | own b => cases b <;> first | (cases h; done) | simp [toAV, AV.calm, Md.sm]
  | share => simp [toAV, AV.calm, Md.sm]
  | full => simp [toAV, AV.calm, Md.sm]
 | _ => first | (cases h; done) | simp [toAV, AV.calm]
theorem Qwp (c : TC) : c.seen.sz = c.sz := by cases c <;> rfl
theorem bt_noTr (b : BT) (h : b.noTr = true) : (toBC b).noTr = true := by
 cases b with
 | var cs => exact Qdm cs h
 | rows c l => exact Qej h l
 | ar es => cases h
theorem bt_isAr (b : BT) : (toBC b).isAr = b.isAr := by cases b <;> rfl
theorem Qte {c : TC} {xs : List (List AV)} {l : List (Den c)} (h : Qia c xs = some l) : xs = l.map (Qe c) := by
 unfold Qia at h
 split at h
 ·rename_i hx; injection h with h; rw [← h]; exact hx.choose_spec.symm
 ·cases h
theorem Qbg {es : List Ent} {c : TC} {h : Option Nat} {l : List (Den c)} (hg : Qai es c h = some l) : Qbm es c.sz h = some (l.map (Qe c)) := by
 unfold Qai at hg
 obtain ⟨xs, h1, h2⟩ := Qa.1 hg
 rw [h1, Qte h2]
end Go.Tv
namespace Go.Tv
open Go Go.RowKit Go.Vs
variable {ρ : Type}
def Qnc (Φ : CT ρ) (call : Vs.Call) : Prop :=
 ∀ g tv bv k r, Φ g tv bv k = some r → ∃ o outs bv', call g (tv.map toAV) (bv.map toBC) = some (o, outs.map toAV, bv'.map toBC) ∧ k o outs bv' = some r
theorem Qgi {α : Type} {l : List α} {n : Int} {x : α} (h : geti l n = some x) : 0 ≤ n ∧ l[n.toNat]? = some x := by
 unfold geti at h; split at h
 ·exact ⟨‹_›, h⟩
 ·cases h
theorem Qhc {α : Type} {l : List α} {k : IntKind} {n : Int} {x : α} (h : geti l n = some x) : Qcq (.int k n) = some n.toNat := by
 simp [Qcq, (Qgi h).1]
theorem Qhi {n : Nat} {agg : Bool} {cs : List TV} {off : Nat} {v : TV} (h : Qpu n agg cs off = some v) : Vs.part n agg (cs.map toAV) off = some (toAV v) := by
 rw [av_part, h]; rfl
theorem Qod {cs vs r : List TV} {off : Nat} (h : Qpt cs off vs = some r) : Vs.over (cs.map toAV) off (vs.map toAV) = some (r.map toAV) := by rw [Qux, h]; rfl
theorem Qkt {s s' : TS} {b : Nat} {c : BT} (h : s.newB b c = some s') : (toS s).newB b (toBC c) = some (toS s') := by rw [Qzj, h]; rfl
theorem Qjn {s : TS} {b : Nat} (h : s.live b = true) : (toS s).live b = true := by rw [Qzh]; exact h
mutual
theorem Qkp : ∀ (v : TV) (k : TV → Option ρ), Qit v k = k v
 | .undef, k | .int a n, k | .bool b, k | .str l, k | .con c, k | .sl m c l, k | .bp b o, k | .bs b, k | .be b i o, k | .rs l i, k | .tr c h n, k | .trp c h i o, k | .arv es, k => by simp only [Qit]
 | .agg cs, k | .rp cs _, k | .fn _ cs, k | .tup cs, k | .np cs, k => by simp only [Qit, Qfa cs]
theorem Qfa : ∀ (l : List TV) (k : List TV → Option ρ), Qes l k = k l
 | [], k => by simp only [Qes]
 | v :: r, k => by simp only [Qes, Qkp v, Qfa r]
end
theorem Qnx {n : Nat} {agg take : Bool} {s : TS} {p : TV} {k : TV → TS → Option ρ} {r : ρ} (h : Qrb n agg take s p k = some r) : ∃ v s', loadP n agg take (toS s) (toAV p) = some (toAV v, toS s') ∧ k v s' = some r := by
 unfold Qrb at h
 split at h
 ·rename_i b off
  split at h
  ·rename_i cs hb
   split at h
   ·split at h
    ·cases h
    ·split at h
     ·rename_i hn
      rw [Qa] at h
      obtain ⟨v, h1, h2⟩ := h
      split at h2
      ·cases h2
      ·rename_i hp
       refine ⟨v, _, ?_, h2⟩
       simp only [toAV, loadP, Qgp, hb, Option.map_some, toBC, Qj, if_true, Bool.false_eq_true, if_false, hn, List.getElem?_map, h1, Qb, Qjx, hp, Qhs, List.map_set, Qjw]
     ·cases h
   ·rw [Qa] at h
    obtain ⟨v, h1, h2⟩ := h
    refine ⟨v, s, ?_, h2⟩
    simp only [toAV, loadP, Qgp, hb, Option.map_some, toBC, Qj, Bool.false_eq_true, if_false, Qhi h1, Qb]
  ·cases h
 ·rename_i b i off
  split at h
  ·rename_i c l hb
   split at h
   ·cases h
   ·rw [Qa] at h
    obtain ⟨x, h1, h⟩ := h
    rw [Qa] at h
    obtain ⟨v, h2, h3⟩ := h
    refine ⟨v, s, ?_, h3⟩
    have := Qhi h2
    rw [Qcj] at this
    simp only [toAV, loadP, Qgp, hb, Option.map_some, toBC, List.getElem?_map, h1, Qb, Bool.false_eq_true, if_false, this]
  ·cases h
 ·split at h
  ·cases h
  ·rw [Qa] at h
   obtain ⟨v, h2, h3⟩ := h
   refine ⟨v, s, ?_, h3⟩
   simp only [toAV, loadP, Qj, Bool.false_eq_true, if_false, Qhi h2, Qb]
 ·split at h
  ·cases h
  ·split at h
   ·cases h
   ·split at h
    ·rename_i hn
     rw [Qa] at h
     obtain ⟨v, h2, h3⟩ := h
     refine ⟨.str v, s, ?_, h3⟩
     simp only [toAV, loadP, Vs.part, Bool.false_eq_true, if_false, hn, if_true, List.getElem?_map, h2, Option.map_some, Qb, AV.dem]
    ·cases h
 ·cases h
theorem Qwt {n : Nat} {s : TS} {p v : TV} {k : TS → Option ρ} {r : ρ} (h : Qws n s p v k = some r) : ∃ s', storeP n (toS s) (toAV p) (toAV v) = some (toS s') ∧ k s' = some r := by
 unfold Qws at h
 split at h
 ·rename_i hc
  have hc' : (toAV v).cells.length = n ∧ (toAV v).cells.all AV.one = true := by rw [Qdl, List.length_map, Qif]; exact hc
  unfold storeP
  rw [if_pos hc']
  split at h
  ·rename_i b off
   split at h
   ·rename_i cs hb
    rw [Qa] at h
    obtain ⟨cs', h1, h2⟩ := h
    rw [Qfa] at h2
    refine ⟨_, ?_, h2⟩
    simp only [toAV, Qgp, hb, Option.map_some, toBC, Qj, Quy, Qod h1, Qb, Qhs]
   ·cases h
  ·rename_i b i off
   split at h
   ·rename_i c l hb
    simp only [Qa] at h
    obtain ⟨x, h1, cs', h2, y, h3, h4⟩ := h
    refine ⟨_, ?_, h4⟩
    have e := Qod h2
    rw [Qcj, ← Qfd, ← Qdl, Qgw h3, Qcj] at e
    simp only [toAV, Qgp, hb, Option.map_some, toBC, List.getElem?_map, h1, Qb, e, Qhs, List.map_set]
   ·cases h
  ·cases h
 ·cases h
theorem binT_is {op : BinOp} {x y : TV} {k : TV → Option ρ} {r : ρ} (h : binT op x y k = some r) : ∃ v, bin op (toAV x) (toAV y) = some (toAV v) ∧ k v = some r := by
  unfold binT at h
  split at h
  · rename_i kx a ky b
    split at h
    · rw [Qa] at h
      obtain ⟨n, h1, h2⟩ := h
      refine ⟨_, ?_, h2⟩
      unfold shlI at h1
      split at h1
      · cases h1
      · rename_i hb
        injection h1 with h1
        rw [Qqk] at h1
        simp [toAV, bin, Qmu, hb, h1]
    · rw [Qa] at h
      obtain ⟨n, h1, h2⟩ := h
      refine ⟨_, ?_, h2⟩
      unfold shrI at h1
      split at h1
      · cases h1
      · rename_i hb
        injection h1 with h1
        simp [toAV, bin, Qmu, hb, h1]
    · split at h
      · rename_i hk
        subst hk
        split at h <;> first
          | (cases h; done)
          | exact ⟨_, by simp [toAV, bin, binI, Qqk], h⟩
          | (rw [Qa] at h
             obtain ⟨n, h1, h2⟩ := h
             refine ⟨_, ?_, h2⟩
             unfold quoI at h1
             split at h1
             · cases h1
             · rename_i hb
               injection h1 with h1
               rw [Qqk] at h1
               simp [toAV, bin, binI, hb, h1])
          | (rw [Qa] at h
             obtain ⟨n, h1, h2⟩ := h
             refine ⟨_, ?_, h2⟩
             unfold remI at h1
             split at h1
             · cases h1
             · rename_i hb
               injection h1 with h1
               simp [toAV, bin, binI, hb, h1])
      · cases h
  · split at h
    · rw [Qa] at h
      obtain ⟨n, h1, h2⟩ := h
      refine ⟨_, ?_, h2⟩
      unfold catS at h1
      split at h1
      · rename_i hl
        injection h1 with h1
        simp [toAV, bin, binS, hl, h1]
      · cases h1
    · exact ⟨_, by simp [toAV, bin, binS], h⟩
    · exact ⟨_, by simp [toAV, bin, binS], h⟩
    · cases h
  · cases h
theorem Qjh {s : TS} : ∀ {as : List TV} {j : Nat} {q : List TV × List BT × List Nat}, Qnv s as j = some q → lend (toS s) (as.map toAV) j = some (q.1.map toAV, q.2.1.map toBC, q.2.2)
 | [], j, q, h => by simp [Qnv] at h; subst h; rfl
 | v :: r, j, q, h => by
  by_cases hv : ∃ b off, v = .bp b off
  ·obtain ⟨b, off, rfl⟩ := hv
   simp only [Qnv] at h
   split at h
   ·rename_i hc
    split at h
    ·rename_i cs hb
     rw [Qa] at h
     obtain ⟨q', h1, h2⟩ := h
     split at h2
     ·cases h2
     ·rename_i hn
      injection h2 with h2
      subst h2
      simp only [List.map_cons, toAV, lend, hc, and_self, if_true, Qgp, hb, Option.map_some, toBC, Qjh h1, Qb, hn, Bool.false_eq_true, if_false, Qj]
      try simp
    ·cases h
   ·cases h
  ·have h' : (match v.isP with | true => none | false => bnd (Qnv s r j) fun q => some (v :: q.1, q.2.1, q.2.2)) = some q := by
    cases v with
    | bp b off => exact absurd ⟨b, off, rfl⟩ hv
    | _ => simp only [Qnv] at h; exact h
   split at h'
   ·cases h'
   ·rename_i hp
    rw [Qa] at h'
    obtain ⟨q', h1, h2⟩ := h'
    injection h2 with h2
    subst h2
    have e : lend (toS s) (toAV v :: r.map toAV) j = (if (toAV v).isP then none else bnd (lend (toS s) (r.map toAV) j) fun (tv, bv, ls) => some ((toAV v :: tv, bv, ls))) := by
     cases v with
     | bp b off => exact absurd ⟨b, off, rfl⟩ hv
     | _ => simp only [toAV, lend]; rfl
    rw [List.map_cons, e, Qjx, hp, Qjh h1]
    simp
theorem Qns : ∀ {bs : List Nat} {cs : List BT} {s s' : TS}, Qpl s bs cs = some s' → giveBack (toS s) bs (cs.map toBC) = some (toS s')
 | [], [], s, s', h => by simp [Qpl] at h; subst h; rfl
 | [], c :: cs, s, s', h => by simp [Qpl] at h
 | b :: bs, [], s, s', h => by simp [Qpl] at h
 | b :: bs, c :: cs, s, s', h => by
  simp only [Qpl] at h
  simp only [List.map_cons, giveBack, ← Qhs]
  exact Qns h
theorem Qse {Φ : CT ρ} {call : Vs.Call} (hΦ : Qnc Φ call) {s : TS} {g site : Nat} {as : List TV} {k : TV → TS → Option ρ} {r : ρ} (h : Qxm Φ s g site as k = some r) :
  ∃ v s', callF call (toS s) g site (as.map toAV) = some (toAV v, toS s') ∧ k v s' = some r := by
 unfold Qxm at h
 rw [Qa] at h
 obtain ⟨q, h1, h⟩ := h
 obtain ⟨o, outs, bv', h2, h⟩ := hΦ _ _ _ _ _ h
 rw [Qa] at h
 obtain ⟨s1, h3, h⟩ := h
 unfold callF
 rw [Qjh h1, Qb]
 simp only []
 rw [h2, Qb]
 simp only []
 rw [Qns h3, Qb]
 split at h
 ·rename_i v
  split at h
  ·rename_i cs
   rw [Qa] at h
   obtain ⟨s2, h4, h5⟩ := h
   refine ⟨_, s2, ?_, h5⟩
   have := Qkt h4
   simp only [toBC] at this
   simp only [List.map_cons, List.map_nil, toAV, this, Qb]
  ·split at h
   ·cases h
   ·rename_i hnp _ hp
    refine ⟨v, s1, ?_, h⟩
    have hp' : (toAV v).isP = false := by rw [Qjx]; exact hp
    cases v with
    | np cs => exact absurd rfl (hnp cs)
    | _ => simp only [List.map_cons, List.map_nil, toAV] at hp' ⊢; simp [hp']
 ·cases h
theorem Qen : ∀ (xs : List OpT), Qcr (xs.map OpT.er) = Qdp xs
 | [] => rfl
 | x :: xs => by
  have e : ∀ (t : Nat), ((xs.map OpT.er).all fun x => match x with | .take u => u != t | _ => true) = (xs.all fun x => match x with | .take u => u != t | _ => true) := by
   intro t
   rw [List.all_map]
   congr 1
   funext y
   cases y <;> rfl
  cases x <;> simp only [List.map_cons, OpT.er, Qcr, Qdp, Qen xs]
  rename_i t
  exact congrArg (· && Qdp xs) (e t)
theorem Qnl : ∀ {vs : List TV} {s : TS} {q : List TV × TS}, Qpc s vs = some q → capture (toS s) (vs.map toAV) = some (q.1.map toAV, toS q.2)
 | [], s, q, h => by simp [Qpc] at h; subst h; rfl
 | v :: r, s, q, h => by
  by_cases hv : ∃ b off, v = .bp b off
  ·obtain ⟨b, off, rfl⟩ := hv
   simp only [Qpc] at h
   split at h
   ·rename_i hc
    split at h
    ·rename_i cs hb
     rw [Qa] at h
     obtain ⟨q', h1, h2⟩ := h
     injection h2 with h2
     subst h2
     have e : toS { s with b := upd s.b b none } = { toS s with b := upd (toS s).b b none } := by
      have e : (fun j => (upd s.b b none j).map toBC) = upd (fun j => (s.b j).map toBC) b none := Qig (Option.map toBC) s.b b none
      simp only [toS, e]
     have h3 := Qnl h1
     rw [e] at h3
     simp only [List.map_cons, toAV, capture, hc, if_true, Qgp, hb, Option.map_some, toBC, h3, Qb, Qj, Qfd]
    ·cases h
   ·cases h
  ·have h' : (match v.isP with | true => none | false => bnd (Qpc s r) fun q => some (v.shr :: q.1, q.2)) = some q := by
    cases v with
    | bp b off => exact absurd ⟨b, off, rfl⟩ hv
    | _ => simp only [Qpc] at h; exact h
   split at h'
   ·cases h'
   ·rename_i hp
    rw [Qa] at h'
    obtain ⟨q', h1, h2⟩ := h'
    injection h2 with h2
    subst h2
    have e : capture (toS s) (toAV v :: r.map toAV) = (if (toAV v).isP then none else bnd (capture (toS s) (r.map toAV)) fun (vs, s') => some (((toAV v).share :: vs, s'))) := by
     cases v with
     | bp b off => exact absurd ⟨b, off, rfl⟩ hv
     | _ => simp only [toAV, capture]; rfl
    rw [List.map_cons, e, Qjx, hp, Qnl h1]
    simp [Qow]
theorem Qxo {s : TS} {c : CK} {x : TV} {k : TV → TS → Option ρ} {r : ρ} (h : convT s c x k = some r) : ∃ v s', convK (toS s) c (toAV x) = some (toAV v, toS s') ∧ k v s' = some r := by
 unfold convT at h
 split at h
 ·exact ⟨_, _, by simp [convK, toAV, Qqk], h⟩
 ·exact ⟨_, _, by simp [convK, toAV], h⟩
 ·rename_i m l
  refine ⟨_, _, ?_, h⟩
  have : Qe .u8 = fun n => [.int .u8 n] := rfl
  simp only [convK, toAV, TC.sz, this, Qrz, Qb]
 ·rename_i b
  split at h
  ·rename_i l hb
   refine ⟨_, _, ?_, h⟩
   have : Qe .u8 = fun n => [.int .u8 n] := rfl
   simp only [convK, toAV, Qgp, hb, Option.map_some, toBC, TC.sz, this, Qrz, Qb]
  ·cases h
 ·rename_i b l
  rw [Qa] at h
  obtain ⟨s1, h1, h2⟩ := h
  refine ⟨_, _, ?_, h2⟩
  have := Qkt h1
  have e : (toBC (.rows .u8 (Qrr l))) = .rows 1 (l.map fun c => [.int .u8 (c.toNat : Int)]) := by
   simp only [toBC, Qrr, List.map_map]; rfl
  rw [e] at this
  simp only [convK, toAV, this, Qb]
 ·rename_i k' n
  rw [Qa] at h
  obtain ⟨l, h1, h2⟩ := h
  refine ⟨_, _, ?_, h2⟩
  unfold rune at h1
  split at h1
  ·rename_i hn
   injection h1 with h1
   subst h1
   simp [convK, toAV, hn]
  ·cases h1
 ·cases h
theorem Qks {c : TC} {G : Nat → List TV} {s : TS} : ∀ {ps : List OpT} {l : List (Den c)}, (ps.mapM fun p => Qir c ((s.get G p).cells.map TV.shr)) = some l →
  (ps.map fun p => (toAV (s.get G p)).cells.map AV.share) = l.map (Qe c) ∧ ∀ p ∈ ps, (toAV (s.get G p)).cells.length = c.sz ∧ (toAV (s.get G p)).cells.all AV.one = true
 | [], l, h => by simp at h; subst h; simp
 | p :: ps, l, h => by
  simp only [List.mapM_cons, bind, Option.bind_eq_some_iff, pure, Zi] at h
  obtain ⟨x, h1, l', h2, rfl⟩ := h
  obtain ⟨h3, h4⟩ := Qks h2
  have e := Qgw h1
  have e2 : (toAV (s.get G p)).cells.map AV.share = Qe c x := by rw [Qdl, Qfd, e, Qcj]
  refine ⟨by simp only [List.map_cons, e2, h3], fun q hq => ?_⟩
  rcases List.mem_cons.1 hq with rfl | hq
  ·constructor
   ·have := congrArg List.length e2
    rw [List.length_map, Qdy] at this
    exact this
   ·rw [Qdl, Qif]
    have h5 := Qst c x
    rw [← e, List.all_map] at h5
    rw [List.all_eq_true] at h5 ⊢
    intro v hv
    have := h5 v hv
    cases v <;> simp_all [TV.one, TV.shr]
  ·exact h4 q hq
end Go.Tv