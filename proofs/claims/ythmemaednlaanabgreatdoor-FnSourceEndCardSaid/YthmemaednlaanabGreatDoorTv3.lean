/- What a typed value is as a plain one. -/
import Derived.Test.YthmemaednlaanabGreatDoorTv1
set_option linter.unusedVariables false
set_option linter.unusedSimpArgs false
namespace Go.Tv
open Go Go.RowKit Go.Vs
theorem Qk (cs : List TV) : Qbr cs = cs.map toAV := by
 induction cs with
 | nil => rfl
 | cons c cs ih => simp [Qbr, ih]
theorem Qgv (l : List Exp) : Qel l = l.map Qkf := by
 induction l with
 | nil => rfl
 | cons c cs ih => simp [Qel, ih]
theorem Qcy (l : List Stm) : Qcn l = l.map Qlb := by
 induction l with
 | nil => rfl
 | cons c cs ih => simp [Qcn, ih]
theorem Qpt : Qe .exp = Qkf := rfl
theorem Qkv : Qe .stm = Qlb := rfl
theorem Qcz (m : Md) (c : TC) (l : List (Den c)) : toAV (.sl m c l) = .sl m.sm c.sz (l.map (Qe c)) := by simp only [toAV]
theorem Qcx : Qe .int = fun n => [.int .i64 n] := rfl
theorem Qtp : Qe .bool = fun n => [.bool n] := rfl
theorem Qsj : Qe .bx = bxAV := rfl
theorem Qsk : Qe .tk = tkAV := rfl
theorem Qtr : Qe .stms = fun l => [.sl .share 8 (Qcn l)] := rfl
theorem Qtq : Qe .ints = fun l => [Qan l] := rfl
theorem Qcl : ∀ (c : TC) (x : Den c), (rowT c x).map toAV = Qe c x
 | .int, n | .u8, n | .bool, n | .str, n | .quad, n | .event, n => by simp [rowT, Qe, toAV]
 | .exp, e => by cases e; simp only [rowT, Qe, Qkf, List.map_cons, List.map_nil, Qcz, toAV, Qgv, Qpt]; rfl
 | .stm, e => by cases e; simp only [rowT, Qe, Qlb, List.map_cons, List.map_nil, Qcz, toAV, Qgv, Qcy, Qpt, Qkv]; rfl
 | .stms, l => by simp only [rowT, Qe, List.map_cons, List.map_nil, Qcz, Qcy, Qkv]; rfl
 | .bx, b => by simp only [rowT, Qe, bxAV, Qan, List.map_cons, List.map_nil, Qcz, toAV, Qcx]; rfl
 | .tk, b => by simp only [rowT, Qe, tkAV, Qan, List.map_cons, List.map_nil, Qcz, toAV, Qcx, Qcy, Qkv]; rfl
 | .ints, b => by simp only [rowT, Qe, Qan, List.map_cons, List.map_nil, Qcz, Qcx]; rfl
 | .rg, b => by simp only [rowT, Qe, Qan, List.map_cons, List.map_nil, Qcz, toAV, Qcx]; rfl
 | .prg, b => by simp only [rowT, Qe, Qan, List.map_cons, List.map_nil, Qcz, toAV, Qcx, Qtr]; rfl
 | .wld, b => by simp only [rowT, Qe, Qan, List.map_cons, List.map_nil, Qcz, toAV, Qcx, Qsk, Qsj]; rfl
 | .otc, b => by simp only [rowT, Qe, Qan, List.map_cons, List.map_nil, Qcz, toAV, Qcx, Qtq, Qtp]; rfl
 | .fn, g => by simp [rowT, Qe, toAV, Qbr]
 | .intsH, g | .stmsH, g | .stmsHH, g | .expH, g | .stmH, g | .bxH, g | .tkH, g | .rgH, g | .prgH, g | .wldH, g | .otcH, g => by simp [rowT, Qe, toAV, TC.sz]
 | .wldO, g => by simp only [rowT, Qe, List.map_cons, List.map_nil, Qcz, toAV, Qsk, Qsj]; rfl
theorem Qyl : ∀ (c : TC) (x : Den c), (rowT c x).length = c.sz
 | .int, _ | .u8, _ | .bool, _ | .str, _ | .quad, _ | .event, _ | .exp, _ | .stm, _ | .stms, _ | .bx, _ | .tk, _ | .ints, _ | .rg, _ | .prg, _ | .wld, _ | .otc, _ | .fn, _ | .intsH, _ | .stmsH, _ | .stmsHH, _ | .expH, _ | .stmH, _ | .bxH, _ | .tkH, _ | .rgH, _ | .prgH, _ | .wldH, _ | .otcH, _ | .wldO, _ => rfl
theorem Qdr (c : TC) (x : Den c) : (Qe c x).length = c.sz := by rw [← Qcl, List.length_map, Qyl]
theorem Qsl : ∀ (c : TC) (x : Den c), (rowT c x).all TV.one = true
 | .int, _ | .u8, _ | .bool, _ | .str, _ | .quad, _ | .event, _ | .exp, _ | .stm, _ | .stms, _ | .bx, _ | .tk, _ | .ints, _ | .rg, _ | .prg, _ | .wld, _ | .otc, _ | .fn, _ | .intsH, _ | .stmsH, _ | .stmsHH, _ | .expH, _ | .stmH, _ | .bxH, _ | .tkH, _ | .rgH, _ | .prgH, _ | .wldH, _ | .otcH, _ | .wldO, _ => rfl
theorem Qap {c c' : TC} {l : List (Den c)} {l' : List (Den c')} (h : Qbs c c' l = some l') : ∃ e : c = c', e ▸ l = l' := by
 unfold Qbs at h
 split at h
 ·rename_i e; injection h with h; exact ⟨e, h⟩
 ·cases h
theorem Qgr {c : TC} {cs : List TV} {x : Den c} (h : Qim c cs = some x) : cs = rowT c x := by
  unfold Qim at h
  split at h <;> first
    | (cases h; done)
    | (injection h with h; subst h; rfl)
    | (simp only [Qa] at h
       obtain ⟨a, h1, h2⟩ := h
       obtain ⟨rfl, rfl⟩ := Qap h1
       injection h2 with h2; subst h2; rfl)
    | (obtain ⟨rfl, rfl⟩ := Qap h; rfl)
    | (split at h
       · rename_i hc
         first | subst hc | (obtain ⟨rfl, rfl⟩ := hc) | (obtain ⟨rfl, rfl, rfl⟩ := hc)
         injection h with h; subst h; rfl
       · cases h)
    | (simp only [Qa] at h
       obtain ⟨a, h1, b, h2, h3⟩ := h
       obtain ⟨rfl, rfl⟩ := Qap h1
       obtain ⟨rfl, rfl⟩ := Qap h2
       injection h3 with h3; subst h3; rfl)
    | (simp only [Qa] at h
       obtain ⟨a, h1, b, h2, h3⟩ := h
       obtain ⟨rfl, rfl⟩ := Qap h1
       obtain ⟨rfl, rfl⟩ := Qap h2
       split at h3
       · rename_i hc
         subst hc
         injection h3 with h3; subst h3; rfl
       · cases h3)
    | (simp only [Qa] at h
       obtain ⟨a, h1, b, h2, c, h3, h4⟩ := h
       obtain ⟨rfl, rfl⟩ := Qap h1
       obtain ⟨rfl, rfl⟩ := Qap h2
       obtain ⟨rfl, rfl⟩ := Qap h3
       injection h4 with h4; subst h4; rfl)
theorem Qjr (v : TV) : (toAV v).dem = toAV v.dem := by
 cases v with
 | sl m c l =>
  cases m with
  | share => simp [toAV, TV.dem, AV.dem, Md.dem, Md.sm]
  | full => simp [toAV, TV.dem, AV.dem, Md.dem, Md.sm]
  | own b => cases b <;> simp [toAV, TV.dem, AV.dem, Md.dem, Md.sm]
 | _ => simp [toAV, TV.dem, AV.dem]
theorem Qor (v : TV) : (toAV v).share = toAV v.shr := by cases v <;> simp [toAV, TV.shr, AV.share, Md.sm]
theorem Qzc (v : TV) : (toAV v).toTip = toAV v.toTip := by
 cases v with
 | sl m c l =>
  cases m with
  | share => simp [toAV, TV.toTip, AV.toTip, Md.sm]
  | full => simp [toAV, TV.toTip, AV.toTip, Md.sm]
  | own b => cases b <;> simp [toAV, TV.toTip, AV.toTip, Md.sm]
 | _ => simp [toAV, TV.toTip, AV.toTip]
theorem Qdf (v : TV) : (toAV v).cells = v.cells.map toAV := by cases v <;> simp [toAV, TV.cells, AV.cells, Qk]
theorem Qqv (cs : List TV) : (cs.map toAV).map AV.dem = (cs.map TV.dem).map toAV := by simp [Qjr]
theorem Qew (cs : List TV) : (cs.map toAV).map AV.share = (cs.map TV.shr).map toAV := by simp [Qor]
theorem Quq (v : TV) : (toAV v).scells = v.scells.map toAV := by cases v <;> simp [toAV, TV.scells, AV.scells, Qk, Qjr]
theorem av_one (v : TV) : (toAV v).one = v.one := by cases v <;> simp [toAV, TV.one, AV.one]
theorem Qia (cs : List TV) : (cs.map toAV).all AV.one = cs.all TV.one := by simp [List.all_map, Function.comp_def, av_one]
theorem Qjs (v : TV) : (toAV v).isP = v.isP := by cases v <;> simp [toAV, TV.isP, AV.isP]
theorem av_okIn (bins : List Nat) (v : TV) : (toAV v).okIn bins = v.okIn bins := by cases v <;> simp [toAV, TV.okIn, AV.okIn]
theorem av_arg (v : TV) : (match toAV v with | .agg cs => .agg (cs.map AV.share) | v => v.share) = toAV (argV v) := by
 cases v with
 | agg cs => simp only [toAV, argV, Qk, Qew]
 | _ => simp only [toAV, argV, AV.share, TV.shr, Md.sm]
theorem av_part (n : Nat) (agg : Bool) (cs : List TV) (off : Nat) : Vs.part n agg (cs.map toAV) off = (Qpo n agg cs off).map toAV := by
 unfold Vs.part Qpo
 cases agg
 ·simp only [Bool.false_eq_true, if_false]
  split
  ·rw [List.getElem?_map]; cases cs[off]? <;> simp [Qjr]
  ·rfl
 ·simp only [if_true, List.length_map]
  split
  ·have : (AV.dem ∘ toAV) = (toAV ∘ TV.dem) := by funext v; exact Qjr v
   simp [toAV, Qk, List.map_take, List.map_drop, this]
  ·rfl
theorem Qup (cs : List TV) (off : Nat) (vs : List TV) : Vs.over (cs.map toAV) off (vs.map toAV) = (Qpn cs off vs).map (List.map toAV) := by
 unfold Vs.over Qpn
 simp only [List.length_map]
 split
 ·simp [List.map_take, List.map_drop]
 ·rfl
theorem Qun : ∀ (ps : List (Nat × Nat × TV)) (cs : List TV), Qnl (cs.map toAV) (ps.map fun p => (p.1, p.2.1, toAV p.2.2)) = (Qvg cs ps).map (List.map toAV)
 | [], cs => by simp [Qnl, Qvg]
 | (off, n, v) :: r, cs => by
  simp only [List.map_cons, Qnl, Qvg, Qdf, List.length_map, Qia, Qqv, Qup]
  split
  ·cases Qpn cs off (v.cells.map TV.dem) with
   | none => rfl
   | some cs' => simp only [Option.map_some, Qb]; exact Qun r cs'
  ·rfl
theorem Qoq : ∀ (a b : List TV), Qes (a.map toAV) (b.map toAV) = Qni a b
 | [], [] => rfl
 | [], b :: bs => by cases b <;> rfl
 | a :: as, [] => by cases a <;> rfl
 | a :: as, b :: bs => by
  cases a <;> cases b <;> simp only [List.map_cons, toAV, Qes, Qni, Qoq as bs]
theorem Qjq : ∀ (a : List TV), Qde (a.map toAV) = Qmd a
 | [] => rfl
 | a :: as => by
  cases a with
  | int k n => cases k <;> simp [toAV, Qde, Qmd, Qjq as]
  | _ => simp [toAV, Qde, Qmd]
theorem Qlc : ∀ {cs : List TV} {l : List (List UInt8)}, Qms cs = some l → cs = l.map .str
 | [], l, h => by simp [Qms] at h; subst h; rfl
 | c :: cs, l, h => by
  cases c <;> simp [Qms] at h
  rw [Qa] at h
  obtain ⟨a, h1, h2⟩ := h
  injection h2 with h2
  subst h2
  rw [Qlc h1]; rfl
theorem Qrs (l : List Int) : Qas (l.map fun n => [.int .u8 n]) = some (bytes l) := by
 induction l with
 | nil => rfl
 | cons n l ih => simp [Qas, bytes] at ih ⊢; rw [ih]; rfl
theorem Qts : ∀ (c : TC) (x : Den c), (rowT c x).map TV.shr = rowT c x
 | .int, _ | .u8, _ | .bool, _ | .str, _ | .quad, _ | .event, _ | .exp, _ | .stm, _ | .stms, _ | .bx, _ | .tk, _ | .ints, _ | .rg, _ | .prg, _ | .wld, _ | .otc, _ | .fn, _ | .intsH, _ | .stmsH, _ | .stmsHH, _ | .expH, _ | .stmH, _ | .bxH, _ | .tkH, _ | .rgH, _ | .prgH, _ | .wldH, _ | .otcH, _ | .wldO, _ => rfl
theorem Qku (c : TC) (x : Den c) : (Qe c x).map AV.share = Qe c x := by rw [← Qcl, Qew, Qts]
def toS (s : TS) : S := { t := fun j => toAV (s.t j), b := fun j => (s.b j).map toBC, seen := s.seen }
def GA (G : Nat → List TV) : Nat → List AV := fun i => Qbr (G i)
theorem Qgm (s : TS) (b : Nat) : (toS s).b b = (s.b b).map toBC := rfl
theorem Qib {α β : Type} (g : α → β) (f : Nat → α) (i : Nat) (v : α) : (fun j => g (upd f i v j)) = upd (fun j => g (f j)) i (g v) := by
 funext j; unfold upd; split <;> rfl
theorem Qrj (s : TS) (d : Option Nat) (v : TV) : toS (s.put d v) = (toS s).put d (toAV v) := by
 cases d with
 | none => rfl
 | some d => simp only [toS, TS.put, S.put, Qib toAV]
theorem Qhn (s : TS) (b : Nat) (c : BT) : toS (s.setB b c) = (toS s).setB b (toBC c) := by
 have e : (fun j => (upd s.b b (some c) j).map toBC) = upd (fun j => (s.b j).map toBC) b (some (toBC c)) := Qib (Option.map toBC) s.b b (some c)
 simp only [toS, TS.setB, S.setB, e]
theorem Qyu (s : TS) (b : Nat) (c : BT) : (toS s).newB b (toBC c) = (s.newB b c).map toS := by
 have e : (fun j => (upd s.b b (some c) j).map toBC) = upd (fun j => (s.b j).map toBC) b (some (toBC c)) := Qib (Option.map toBC) s.b b (some c)
 unfold S.newB TS.newB
 have : (toS s).seen b = s.seen b := rfl
 rw [this]
 split
 ·rfl
 ·simp only [Option.map_some, toS, e]
theorem Qeh (s : TS) (x : OpT) : toS (s.drop x) = (toS s).drop x.er := by
 cases x with
 | take t => simp only [TS.drop, OpT.er, S.drop, toS, Qib toAV, Qjr]
 | _ => rfl
theorem Qld (xs : List OpT) : ∀ s : TS, toS (xs.foldl TS.drop s) = dropAll (toS s) (xs.map OpT.er) := by
 induction xs with
 | nil => intro s; rfl
 | cons x xs ih => intro s; simp only [List.foldl_cons, ih, dropAll, List.map_cons, Qeh]
theorem Qh (G : Nat → List TV) (s : TS) (x : OpT) : (toS s).get (GA G) x.er = toAV (s.get G x) := by
 cases x with
 | tmp t => simp only [OpT.er, S.get, TS.get]; exact Qjr (s.t t)
 | _ => simp [OpT.er, S.get, TS.get, toS, toAV, GA, Qbr]
theorem Qyr (G : Nat → List TV) (s : TS) (x : OpT) : (toS s).getA (GA G) x.er = toAV (s.getA G x) := by
 cases x with
 | tmp t => simp only [OpT.er, S.getA, TS.getA]; exact av_arg (s.t t)
 | take t => simp only [OpT.er, S.getA, TS.getA]; exact Qzc (s.t t)
 | const v => simp only [OpT.er, S.getA, TS.getA]; exact Qzc v
 | _ => simp [OpT.er, S.getA, TS.getA, toS, toAV, GA, Qbr]
theorem Qoh (G : Nat → List TV) (s : TS) (xs : List OpT) : (xs.map OpT.er).map ((toS s).get (GA G)) = (xs.map (s.get G)).map toAV := by
 simp [List.map_map, Function.comp_def, Qh]
theorem Qog (G : Nat → List TV) (s : TS) (xs : List OpT) : Qbk (GA G) (toS s) (xs.map OpT.er) = (xs.map (s.getA G)).map toAV := by
 simp [Qbk, List.map_map, Function.comp_def, Qyr]
theorem Qwo (ins : List Nat) (tv : List TV) (bins : List Nat) (bv : List BT) : toS (mkST ins tv bins bv) = mkS ins (tv.map toAV) bins (bv.map toBC) := by
 have h1 : ∀ (ins : List Nat) (tv : List TV), (fun j => toAV (asTT ins tv j)) = asT ins (tv.map toAV) := by
  intro ins
  induction ins with
  | nil => intro tv; funext j; cases tv <;> rfl
  | cons i is ih =>
   intro tv; funext j
   cases tv with
   | nil => rfl
   | cons v vs => have := congrFun (ih vs) j; simp only [asTT, List.map_cons, asT]; split <;> first | rfl | exact this
 have h2 : ∀ (ins : List Nat) (tv : List BT), (fun j => (asBT ins tv j).map toBC) = asB ins (tv.map toBC) := by
  intro ins
  induction ins with
  | nil => intro tv; funext j; cases tv <;> rfl
  | cons i is ih =>
   intro tv; funext j
   cases tv with
   | nil => rfl
   | cons v vs => have := congrFun (ih vs) j; simp only [asBT, List.map_cons, asB]; split <;> first | rfl | exact this
 simp only [toS, mkST, mkS, h1, h2]
theorem Qeq {s : TS} : ∀ {bs : List Nat} {r : List BT}, Qil s bs = some r → Qaf (toS s) bs = some (r.map toBC)
 | [], r, h => by simp [Qil] at h; subst h; rfl
 | b :: bs, r, h => by
  simp only [Qil, Qa] at h
  obtain ⟨c, h1, l, h2, h3⟩ := h
  injection h3 with h3
  subst h3
  simp only [Qaf, Qgm, h1, Option.map_some, Qb, Qeq h2, List.map_cons]
theorem Qyt (s : TS) (ts bs : List Nat) : toS (s.mask ts bs) = (toS s).mask ts bs := by
 simp only [toS, TS.mask, S.mask, S.mk.injEq]
 refine ⟨?_, ?_, trivial⟩
 ·funext j; split <;> simp [toAV]
 ·funext j; split <;> simp
theorem Qwn (s : TS) (o : AOp) (s' : TS) : toS (s.merge o.takes o.k.mods o.fp s') = (toS s).merge o (toS s') := by
 simp only [toS, TS.merge, S.merge, S.mk.injEq]
 refine ⟨?_, ?_, trivial⟩
 ·funext j; split <;> rfl
 ·funext j; split <;> rfl
theorem Qch (s : TS) (es : List Ent) : toS (s.setA es) = (toS s).setA es := Qhn s 99 (.ar es)
theorem Qys (s : TS) (b : Nat) : (toS s).live b = s.live b := by
 unfold S.live TS.live
 rw [Qgm]
 cases s.b b with
 | none => rfl
 | some c => cases c <;> rfl
theorem Qda {s : TS} {es : List Ent} (h : s.b 99 = some (.ar es)) : (toS s).arr = some es := by
 unfold S.arr
 rw [Qgm, h]; rfl
theorem Qvt {l : List AV} : Qar l = l.all AV.noTr := by
 induction l with
 | nil => rfl
 | cons x l ih => simp only [Qar, List.all_cons, ih]
theorem Qvu {l : List (List AV)} : Qgd l = l.all Qar := by
 induction l with
 | nil => rfl
 | cons x l ih => simp only [Qgd, List.all_cons, ih]
mutual
theorem Qlz : ∀ (e : Exp), Qar (Qkf e) = true
 | ⟨o, n, as⟩ => by simp only [Qkf, Qar, AV.noTr, Qgb as, Bool.and_self]
theorem Qgb : ∀ (l : List Exp), Qgd (Qel l) = true
 | [] => rfl
 | e :: l => by simp only [Qel, Qgd, Qlz e, Qgb l, Bool.and_self]
end
mutual
theorem Qmr : ∀ (e : Stm), Qar (Qlb e) = true
 | ⟨k, v, b, e, bd, el⟩ => by simp only [Qlb, Qar, AV.noTr, Qgb e.args, Qce bd, Qce el, Bool.and_self]
theorem Qce : ∀ (l : List Stm), Qgd (Qcn l) = true
 | [] => rfl
 | e :: l => by simp only [Qcn, Qgd, Qmr e, Qce l, Bool.and_self]
end
theorem Qdz {α : Type} {f : α → List AV} (h : ∀ x, Qar (f x) = true) (l : List α) : Qgd (l.map f) = true := by
 rw [Qvu, List.all_map, List.all_eq_true]
 intro x _; exact h x
theorem Qbc (l : List Int) : (Qan l).noTr = true := by
 simp only [Qan, AV.noTr]
 exact Qdz (fun _ => rfl) l
theorem Qov (b : Bx) : Qar (bxAV b) = true := by simp only [bxAV, Qar, Qbc, AV.noTr, Bool.and_self]
theorem Qpy (b : Tk) : Qar (tkAV b) = true := by simp only [tkAV, Qar, Qbc, AV.noTr, Qce, Bool.and_self]
theorem Qmm : ∀ (c : TC) (x : Den c), c.plain = true → Qar (Qe c x) = true
 | .int, _, _ | .u8, _, _ | .bool, _, _ | .str, _, _ | .quad, _, _ | .event, _, _ | .fn, _, _ => rfl
 | .exp, e, _ => Qlz e
 | .stm, e, _ => Qmr e
 | .stms, l, _ => by simp only [Qe, Qar, AV.noTr, Qce, Bool.and_self]
 | .bx, b, _ => Qov b
 | .tk, b, _ => Qpy b
 | .ints, l, _ => by simp only [Qe, Qar, Qbc, Bool.and_self]
 | .rg, r, _ => by simp only [Qe, Qar, Qbc, AV.noTr, Bool.and_self]
 | .prg, p, _ => by
  simp only [Qe, Qar, Qbc, AV.noTr, Bool.true_and, Bool.and_true]
  exact Qdz (fun l => by simp only [Qar, AV.noTr, Qce, Bool.and_self]) _
 | .wld, w, _ => by
  simp only [Qe, Qar, Qbc, AV.noTr, Bool.true_and, Bool.and_true]
  rw [Qdz Qpy, Qdz Qov]; rfl
 | .otc, o, _ => by
  simp only [Qe, Qar, Qbc, AV.noTr, Bool.true_and, Bool.and_true]
  rw [Qdz (fun l => by simp only [Qar, Qbc, Bool.and_self]), Qdz (fun _ => rfl)]; rfl
theorem Qgh {c : TC} (h : c.plain = true) (l : List (Den c)) : Qgd (l.map (Qe c)) = true := Qdz (fun x => Qmm c x h) l
mutual
theorem Qhr : ∀ (v : TV), v.noTr = true → (toAV v).noTr = true
 | .undef, _ | .int _ _, _ | .bool _, _ | .str _, _ | .con _, _ | .bp _ _, _ | .bs _, _ | .be _ _ _, _ => by simp [toAV, AV.noTr]
 | .sl m c l, h => by simp only [toAV, AV.noTr]; exact Qgh h l
 | .agg cs, h => by simp only [toAV, AV.noTr]; exact Qdg cs h
 | .rp cs off, h => by simp only [toAV, AV.noTr]; exact Qdg cs h
 | .rs l i, h => by
  simp only [toAV, AV.noTr, Qvt, List.all_map, List.all_eq_true]
  intro x _; rfl
 | .fn g cs, h => by simp only [toAV, AV.noTr]; exact Qdg cs h
 | .tup cs, h => by simp only [toAV, AV.noTr]; exact Qdg cs h
 | .np cs, h => by simp only [toAV, AV.noTr]; exact Qdg cs h
 | .tr _ _ _, h => by cases h
 | .trp _ _ _ _, h => by cases h
 | .arv _, h => by cases h
theorem Qdg : ∀ (cs : List TV), Qfy cs = true → Qar (Qbr cs) = true
 | [], _ => rfl
 | c :: cs, h => by
  simp only [Qfy, Zw] at h
  simp only [Qbr, Qar, Qhr c h.1, Qdg cs h.2, Bool.and_self]
end
mutual
theorem Quo : ∀ (v : TV), v.flat = true → (toAV v).flat = true
 | .int _ _, _ | .bool _, _ | .str _, _ => by simp [toAV, AV.flat]
 | .agg cs, h => by simp only [toAV, AV.flat]; exact Qnc cs h
 | .tup cs, h => by simp only [toAV, AV.flat]; exact Qnc cs h
 | .undef, h | .con _, h | .bp _ _, h | .bs _, h | .be _ _ _, h | .sl _ _ _, h | .rp _ _, h | .rs _ _, h | .fn _ _, h | .np _, h | .tr _ _ _, h | .trp _ _ _ _, h | .arv _, h => by cases h
theorem Qnc : ∀ (cs : List TV), Qpe cs = true → Qqt (Qbr cs) = true
 | [], _ => rfl
 | c :: cs, h => by
  simp only [Qpe, Zw] at h
  simp only [Qbr, Qqt, Quo c h.1, Qnc cs h.2, Bool.and_self]
end
mutual
theorem Qrt : ∀ (v : TV), v.flatT = true → (toAV v).flatT = true
 | .int _ _, _ | .bool _, _ | .str _, _ | .tr _ _ _, _ => by simp [toAV, AV.flatT]
 | .agg cs, h => by simp only [toAV, AV.flatT]; exact Qjt cs h
 | .tup cs, h => by simp only [toAV, AV.flatT]; exact Qjt cs h
 | .undef, h | .con _, h | .bp _ _, h | .bs _, h | .be _ _ _, h | .sl _ _ _, h | .rp _ _, h | .rs _ _, h | .fn _ _, h | .np _, h | .trp _ _ _ _, h | .arv _, h => by cases h
theorem Qjt : ∀ (cs : List TV), Qkh cs = true → Qdp (Qbr cs) = true
 | [], _ => rfl
 | c :: cs, h => by
  simp only [Qkh, Zw] at h
  simp only [Qbr, Qdp, Qrt c h.1, Qjt cs h.2, Bool.and_self]
end
theorem av_calm (v : TV) (h : v.calm = true) : (toAV v).calm = true := by
 cases v with
 | sl m c l =>
  cases m with
  | own b => cases b <;> first | (cases h; done) | simp [toAV, AV.calm, Md.sm]
  | share => simp [toAV, AV.calm, Md.sm]
  | full => simp [toAV, AV.calm, Md.sm]
 | _ => first | (cases h; done) | simp [toAV, AV.calm]
theorem Qwh (c : TC) : c.seen.sz = c.sz := by cases c <;> rfl
theorem bt_noTr (b : BT) (h : b.noTr = true) : (toBC b).noTr = true := by
 cases b with
 | var cs => exact Qdg cs h
 | rows c l => exact Qgh h l
 | ar es => cases h
theorem bt_isAr (b : BT) : (toBC b).isAr = b.isAr := by cases b <;> rfl
theorem Qsw {c : TC} {xs : List (List AV)} {l : List (Den c)} (h : Qhu c xs = some l) : xs = l.map (Qe c) := by
 unfold Qhu at h
 split at h
 ·rename_i hx; injection h with h; rw [← h]; exact hx.choose_spec.symm
 ·cases h
theorem Qbf {es : List Ent} {c : TC} {h : Option Nat} {l : List (Den c)} (hg : Qae es c h = some l) : Qbm es c.sz h = some (l.map (Qe c)) := by
 unfold Qae at hg
 obtain ⟨xs, h1, h2⟩ := Qa.1 hg
 rw [h1, Qsw h2]
end Go.Tv
namespace Go.Tv
open Go Go.RowKit Go.Vs
variable {ρ : Type}
def Qmx (Φ : CT ρ) (call : Vs.Call) : Prop :=
 ∀ g tv bv k r, Φ g tv bv k = some r → ∃ o outs bv', call g (tv.map toAV) (bv.map toBC) = some (o, outs.map toAV, bv'.map toBC) ∧ k o outs bv' = some r
theorem Qgc {α : Type} {l : List α} {n : Int} {x : α} (h : geti l n = some x) : 0 ≤ n ∧ l[n.toNat]? = some x := by
 unfold geti at h; split at h
 ·exact ⟨‹_›, h⟩
 ·cases h
theorem Qgx {α : Type} {l : List α} {k : IntKind} {n : Int} {x : α} (h : geti l n = some x) : Qck (.int k n) = some n.toNat := by
 simp [Qck, (Qgc h).1]
theorem Qhd {n : Nat} {agg : Bool} {cs : List TV} {off : Nat} {v : TV} (h : Qpo n agg cs off = some v) : Vs.part n agg (cs.map toAV) off = some (toAV v) := by
 rw [av_part, h]; rfl
theorem Qny {cs vs r : List TV} {off : Nat} (h : Qpn cs off vs = some r) : Vs.over (cs.map toAV) off (vs.map toAV) = some (r.map toAV) := by rw [Qup, h]; rfl
theorem Qkp {s s' : TS} {b : Nat} {c : BT} (h : s.newB b c = some s') : (toS s).newB b (toBC c) = some (toS s') := by rw [Qyu, h]; rfl
theorem Qjf {s : TS} {b : Nat} (h : s.live b = true) : (toS s).live b = true := by rw [Qys]; exact h
mutual
theorem Qkk : ∀ (v : TV) (k : TV → Option ρ), Qio v k = k v
 | .undef, k | .int a n, k | .bool b, k | .str l, k | .con c, k | .sl m c l, k | .bp b o, k | .bs b, k | .be b i o, k | .rs l i, k | .tr c h n, k | .trp c h i o, k | .arv es, k => by simp only [Qio]
 | .agg cs, k | .rp cs _, k | .fn _ cs, k | .tup cs, k | .np cs, k => by simp only [Qio, Qet cs]
theorem Qet : ∀ (l : List TV) (k : List TV → Option ρ), Qem l k = k l
 | [], k => by simp only [Qem]
 | v :: r, k => by simp only [Qem, Qkk v, Qet r]
end
theorem Qnr {n : Nat} {agg take : Bool} {s : TS} {p : TV} {k : TV → TS → Option ρ} {r : ρ} (h : Qqu n agg take s p k = some r) : ∃ v s', loadP n agg take (toS s) (toAV p) = some (toAV v, toS s') ∧ k v s' = some r := by
 unfold Qqu at h
 split at h
 ·rename_i b off
  split at h
  ·rename_i cs hb
   split at h
   ·split at h
    ·cases h
    ·split at h
     ·rename_i hn
      rw [Qa] at h
      obtain ⟨v, h1, h2⟩ := h
      split at h2
      ·cases h2
      ·rename_i hp
       refine ⟨v, _, ?_, h2⟩
       simp only [toAV, loadP, Qgm, hb, Option.map_some, toBC, Qk, if_true, Bool.false_eq_true, if_false, hn, List.getElem?_map, h1, Qb, Qjs, hp, Qhn, List.map_set, Qjr]
     ·cases h
   ·rw [Qa] at h
    obtain ⟨v, h1, h2⟩ := h
    refine ⟨v, s, ?_, h2⟩
    simp only [toAV, loadP, Qgm, hb, Option.map_some, toBC, Qk, Bool.false_eq_true, if_false, Qhd h1, Qb]
  ·cases h
 ·rename_i b i off
  split at h
  ·rename_i c l hb
   split at h
   ·cases h
   ·rw [Qa] at h
    obtain ⟨x, h1, h⟩ := h
    rw [Qa] at h
    obtain ⟨v, h2, h3⟩ := h
    refine ⟨v, s, ?_, h3⟩
    have := Qhd h2
    rw [Qcl] at this
    simp only [toAV, loadP, Qgm, hb, Option.map_some, toBC, List.getElem?_map, h1, Qb, Bool.false_eq_true, if_false, this]
  ·cases h
 ·split at h
  ·cases h
  ·rw [Qa] at h
   obtain ⟨v, h2, h3⟩ := h
   refine ⟨v, s, ?_, h3⟩
   simp only [toAV, loadP, Qk, Bool.false_eq_true, if_false, Qhd h2, Qb]
 ·split at h
  ·cases h
  ·split at h
   ·cases h
   ·split at h
    ·rename_i hn
     rw [Qa] at h
     obtain ⟨v, h2, h3⟩ := h
     refine ⟨.str v, s, ?_, h3⟩
     simp only [toAV, loadP, Vs.part, Bool.false_eq_true, if_false, hn, if_true, List.getElem?_map, h2, Option.map_some, Qb, AV.dem]
    ·cases h
 ·cases h
theorem Qwk {n : Nat} {s : TS} {p v : TV} {k : TS → Option ρ} {r : ρ} (h : Qwj n s p v k = some r) : ∃ s', storeP n (toS s) (toAV p) (toAV v) = some (toS s') ∧ k s' = some r := by
 unfold Qwj at h
 split at h
 ·rename_i hc
  have hc' : (toAV v).cells.length = n ∧ (toAV v).cells.all AV.one = true := by rw [Qdf, List.length_map, Qia]; exact hc
  unfold storeP
  rw [if_pos hc']
  split at h
  ·rename_i b off
   split at h
   ·rename_i cs hb
    rw [Qa] at h
    obtain ⟨cs', h1, h2⟩ := h
    rw [Qet] at h2
    refine ⟨_, ?_, h2⟩
    simp only [toAV, Qgm, hb, Option.map_some, toBC, Qk, Quq, Qny h1, Qb, Qhn]
   ·cases h
  ·rename_i b i off
   split at h
   ·rename_i c l hb
    simp only [Qa] at h
    obtain ⟨x, h1, cs', h2, y, h3, h4⟩ := h
    refine ⟨_, ?_, h4⟩
    have e := Qny h2
    rw [Qcl, ← Qew, ← Qdf, Qgr h3, Qcl] at e
    simp only [toAV, Qgm, hb, Option.map_some, toBC, List.getElem?_map, h1, Qb, e, Qhn, List.map_set]
   ·cases h
  ·cases h
 ·cases h
theorem binT_is {op : BinOp} {x y : TV} {k : TV → Option ρ} {r : ρ} (h : binT op x y k = some r) : ∃ v, bin op (toAV x) (toAV y) = some (toAV v) ∧ k v = some r := by
  unfold binT at h
  split at h
  · rename_i kx a ky b
    split at h
    · rw [Qa] at h
      obtain ⟨n, h1, h2⟩ := h
      refine ⟨_, ?_, h2⟩
      unfold shlI at h1
      split at h1
      · cases h1
      · rename_i hb
        injection h1 with h1
        rw [Qmw] at h1
        simp [toAV, bin, Qmo, hb, h1]
    · rw [Qa] at h
      obtain ⟨n, h1, h2⟩ := h
      refine ⟨_, ?_, h2⟩
      unfold shrI at h1
      split at h1
      · cases h1
      · rename_i hb
        injection h1 with h1
        simp [toAV, bin, Qmo, hb, h1]
    · split at h
      · rename_i hk
        subst hk
        split at h <;> first
          | (cases h; done)
          | exact ⟨_, by simp [toAV, bin, binI, Qmw], h⟩
          | (rw [Qa] at h
             obtain ⟨n, h1, h2⟩ := h
             refine ⟨_, ?_, h2⟩
             unfold quoI at h1
             split at h1
             · cases h1
             · rename_i hb
               injection h1 with h1
               rw [Qmw] at h1
               simp [toAV, bin, binI, hb, h1])
          | (rw [Qa] at h
             obtain ⟨n, h1, h2⟩ := h
             refine ⟨_, ?_, h2⟩
             unfold remI at h1
             split at h1
             · cases h1
             · rename_i hb
               injection h1 with h1
               simp [toAV, bin, binI, hb, h1])
      · cases h
  · split at h
    · rw [Qa] at h
      obtain ⟨n, h1, h2⟩ := h
      refine ⟨_, ?_, h2⟩
      unfold catS at h1
      split at h1
      · rename_i hl
        injection h1 with h1
        simp [toAV, bin, binS, hl, h1]
      · cases h1
    · exact ⟨_, by simp [toAV, bin, binS], h⟩
    · exact ⟨_, by simp [toAV, bin, binS], h⟩
    · cases h
  · cases h
theorem Qjb {s : TS} : ∀ {as : List TV} {j : Nat} {q : List TV × List BT × List Nat}, Qnp s as j = some q → lend (toS s) (as.map toAV) j = some (q.1.map toAV, q.2.1.map toBC, q.2.2)
 | [], j, q, h => by simp [Qnp] at h; subst h; rfl
 | v :: r, j, q, h => by
  by_cases hv : ∃ b off, v = .bp b off
  ·obtain ⟨b, off, rfl⟩ := hv
   simp only [Qnp] at h
   split at h
   ·rename_i hc
    split at h
    ·rename_i cs hb
     rw [Qa] at h
     obtain ⟨q', h1, h2⟩ := h
     split at h2
     ·cases h2
     ·rename_i hn
      injection h2 with h2
      subst h2
      simp only [List.map_cons, toAV, lend, hc, and_self, if_true, Qgm, hb, Option.map_some, toBC, Qjb h1, Qb, hn, Bool.false_eq_true, if_false, Qk]
      try simp
    ·cases h
   ·cases h
  ·have h' : (match v.isP with | true => none | false => bnd (Qnp s r j) fun q => some (v :: q.1, q.2.1, q.2.2)) = some q := by
    cases v with
    | bp b off => exact absurd ⟨b, off, rfl⟩ hv
    | _ => simp only [Qnp] at h; exact h
   split at h'
   ·cases h'
   ·rename_i hp
    rw [Qa] at h'
    obtain ⟨q', h1, h2⟩ := h'
    injection h2 with h2
    subst h2
    have e : lend (toS s) (toAV v :: r.map toAV) j = (if (toAV v).isP then none else bnd (lend (toS s) (r.map toAV) j) fun (tv, bv, ls) => some ((toAV v :: tv, bv, ls))) := by
     cases v with
     | bp b off => exact absurd ⟨b, off, rfl⟩ hv
     | _ => simp only [toAV, lend]; rfl
    rw [List.map_cons, e, Qjs, hp, Qjb h1]
    simp
theorem Qnm : ∀ {bs : List Nat} {cs : List BT} {s s' : TS}, Qpf s bs cs = some s' → giveBack (toS s) bs (cs.map toBC) = some (toS s')
 | [], [], s, s', h => by simp [Qpf] at h; subst h; rfl
 | [], c :: cs, s, s', h => by simp [Qpf] at h
 | b :: bs, [], s, s', h => by simp [Qpf] at h
 | b :: bs, c :: cs, s, s', h => by
  simp only [Qpf] at h
  simp only [List.map_cons, giveBack, ← Qhn]
  exact Qnm h
theorem Qrw {Φ : CT ρ} {call : Vs.Call} (hΦ : Qmx Φ call) {s : TS} {g site : Nat} {as : List TV} {k : TV → TS → Option ρ} {r : ρ} (h : Qxa Φ s g site as k = some r) :
  ∃ v s', callF call (toS s) g site (as.map toAV) = some (toAV v, toS s') ∧ k v s' = some r := by
 unfold Qxa at h
 rw [Qa] at h
 obtain ⟨q, h1, h⟩ := h
 obtain ⟨o, outs, bv', h2, h⟩ := hΦ _ _ _ _ _ h
 rw [Qa] at h
 obtain ⟨s1, h3, h⟩ := h
 unfold callF
 rw [Qjb h1, Qb]
 simp only []
 rw [h2, Qb]
 simp only []
 rw [Qnm h3, Qb]
 split at h
 ·rename_i v
  split at h
  ·rename_i cs
   rw [Qa] at h
   obtain ⟨s2, h4, h5⟩ := h
   refine ⟨_, s2, ?_, h5⟩
   have := Qkp h4
   simp only [toBC] at this
   simp only [List.map_cons, List.map_nil, toAV, this, Qb]
  ·split at h
   ·cases h
   ·rename_i hnp _ hp
    refine ⟨v, s1, ?_, h⟩
    have hp' : (toAV v).isP = false := by rw [Qjs]; exact hp
    cases v with
    | np cs => exact absurd rfl (hnp cs)
    | _ => simp only [List.map_cons, List.map_nil, toAV] at hp' ⊢; simp [hp']
 ·cases h
theorem Qeg : ∀ (xs : List OpT), Qcm (xs.map OpT.er) = Qdi xs
 | [] => rfl
 | x :: xs => by
  have e : ∀ (t : Nat), ((xs.map OpT.er).all fun x => match x with | .take u => u != t | _ => true) = (xs.all fun x => match x with | .take u => u != t | _ => true) := by
   intro t
   rw [List.all_map]
   congr 1
   funext y
   cases y <;> rfl
  cases x <;> simp only [List.map_cons, OpT.er, Qcm, Qdi, Qeg xs]
  rename_i t
  exact congrArg (· && Qdi xs) (e t)
theorem Qnf : ∀ {vs : List TV} {s : TS} {q : List TV × TS}, Qox s vs = some q → capture (toS s) (vs.map toAV) = some (q.1.map toAV, toS q.2)
 | [], s, q, h => by simp [Qox] at h; subst h; rfl
 | v :: r, s, q, h => by
  by_cases hv : ∃ b off, v = .bp b off
  ·obtain ⟨b, off, rfl⟩ := hv
   simp only [Qox] at h
   split at h
   ·rename_i hc
    split at h
    ·rename_i cs hb
     rw [Qa] at h
     obtain ⟨q', h1, h2⟩ := h
     injection h2 with h2
     subst h2
     have e : toS { s with b := upd s.b b none } = { toS s with b := upd (toS s).b b none } := by
      have e : (fun j => (upd s.b b none j).map toBC) = upd (fun j => (s.b j).map toBC) b none := Qib (Option.map toBC) s.b b none
      simp only [toS, e]
     have h3 := Qnf h1
     rw [e] at h3
     simp only [List.map_cons, toAV, capture, hc, if_true, Qgm, hb, Option.map_some, toBC, h3, Qb, Qk, Qew]
    ·cases h
   ·cases h
  ·have h' : (match v.isP with | true => none | false => bnd (Qox s r) fun q => some (v.shr :: q.1, q.2)) = some q := by
    cases v with
    | bp b off => exact absurd ⟨b, off, rfl⟩ hv
    | _ => simp only [Qox] at h; exact h
   split at h'
   ·cases h'
   ·rename_i hp
    rw [Qa] at h'
    obtain ⟨q', h1, h2⟩ := h'
    injection h2 with h2
    subst h2
    have e : capture (toS s) (toAV v :: r.map toAV) = (if (toAV v).isP then none else bnd (capture (toS s) (r.map toAV)) fun (vs, s') => some (((toAV v).share :: vs, s'))) := by
     cases v with
     | bp b off => exact absurd ⟨b, off, rfl⟩ hv
     | _ => simp only [toAV, capture]; rfl
    rw [List.map_cons, e, Qjs, hp, Qnf h1]
    simp [Qor]
theorem Qxc {s : TS} {c : CK} {x : TV} {k : TV → TS → Option ρ} {r : ρ} (h : convT s c x k = some r) : ∃ v s', convK (toS s) c (toAV x) = some (toAV v, toS s') ∧ k v s' = some r := by
 unfold convT at h
 split at h
 ·exact ⟨_, _, by simp [convK, toAV, Qmw], h⟩
 ·exact ⟨_, _, by simp [convK, toAV], h⟩
 ·rename_i m l
  refine ⟨_, _, ?_, h⟩
  have : Qe .u8 = fun n => [.int .u8 n] := rfl
  simp only [convK, toAV, TC.sz, this, Qrs, Qb]
 ·rename_i b
  split at h
  ·rename_i l hb
   refine ⟨_, _, ?_, h⟩
   have : Qe .u8 = fun n => [.int .u8 n] := rfl
   simp only [convK, toAV, Qgm, hb, Option.map_some, toBC, TC.sz, this, Qrs, Qb]
  ·cases h
 ·rename_i b l
  rw [Qa] at h
  obtain ⟨s1, h1, h2⟩ := h
  refine ⟨_, _, ?_, h2⟩
  have := Qkp h1
  have e : (toBC (.rows .u8 (Qrk l))) = .rows 1 (l.map fun c => [.int .u8 (c.toNat : Int)]) := by
   simp only [toBC, Qrk, List.map_map]; rfl
  rw [e] at this
  simp only [convK, toAV, this, Qb]
 ·rename_i k' n
  rw [Qa] at h
  obtain ⟨l, h1, h2⟩ := h
  refine ⟨_, _, ?_, h2⟩
  unfold rune at h1
  split at h1
  ·rename_i hn
   injection h1 with h1
   subst h1
   simp [convK, toAV, hn]
  ·cases h1
 ·cases h
theorem Qkn {c : TC} {G : Nat → List TV} {s : TS} : ∀ {ps : List OpT} {l : List (Den c)}, (ps.mapM fun p => Qim c ((s.get G p).cells.map TV.shr)) = some l →
  (ps.map fun p => (toAV (s.get G p)).cells.map AV.share) = l.map (Qe c) ∧ ∀ p ∈ ps, (toAV (s.get G p)).cells.length = c.sz ∧ (toAV (s.get G p)).cells.all AV.one = true
 | [], l, h => by simp at h; subst h; simp
 | p :: ps, l, h => by
  simp only [List.mapM_cons, bind, Option.bind_eq_some_iff, pure, Zi] at h
  obtain ⟨x, h1, l', h2, rfl⟩ := h
  obtain ⟨h3, h4⟩ := Qkn h2
  have e := Qgr h1
  have e2 : (toAV (s.get G p)).cells.map AV.share = Qe c x := by rw [Qdf, Qew, e, Qcl]
  refine ⟨by simp only [List.map_cons, e2, h3], fun q hq => ?_⟩
  rcases List.mem_cons.1 hq with rfl | hq
  ·constructor
   ·have := congrArg List.length e2
    rw [List.length_map, Qdr] at this
    exact this
   ·rw [Qdf, Qia]
    have h5 := Qsl c x
    rw [← e, List.all_map] at h5
    rw [List.all_eq_true] at h5 ⊢
    intro v hv
    have := h5 v hv
    cases v <;> simp_all [TV.one, TV.shr]
  ·exact h4 q hq
end Go.Tv