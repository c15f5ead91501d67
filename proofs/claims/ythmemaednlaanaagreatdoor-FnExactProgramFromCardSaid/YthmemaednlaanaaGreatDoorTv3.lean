/- What a typed value is as a plain one. -/
import Derived.Test.YthmemaednlaanaaGreatDoorTv1
set_option linter.unusedVariables false
set_option linter.unusedSimpArgs false
namespace Go.Tv
open Go Go.RowKit Go.Vs
theorem Qk (cs : List TV) : Qbt cs = cs.map toAV := by
 induction cs with
 | nil => rfl
 | cons c cs ih => simp [Qbt, ih]
theorem Qhf (l : List Exp) : Qeo l = l.map Qkn := by
 induction l with
 | nil => rfl
 | cons c cs ih => simp [Qeo, ih]
theorem Qcz (l : List Stm) : Qco l = l.map Qlk := by
 induction l with
 | nil => rfl
 | cons c cs ih => simp [Qco, ih]
theorem Qqd : Qe .exp = Qkn := rfl
theorem Qle : Qe .stm = Qlk := rfl
theorem Qda (m : Md) (c : TC) (l : List (Den c)) : toAV (.sl m c l) = .sl m.sm c.sz (l.map (Qe c)) := by simp only [toAV]
theorem Qcy : Qe .int = fun n => [.int .i64 n] := rfl
theorem Qtw : Qe .bool = fun n => [.bool n] := rfl
theorem Qsr : Qe .bx = bxAV := rfl
theorem Qss : Qe .tk = tkAV := rfl
theorem Qty : Qe .stms = fun l => [.sl .share 8 (Qco l)] := rfl
theorem Qtx : Qe .ints = fun l => [Qap l] := rfl
theorem Qcm : ∀ (c : TC) (x : Den c), (rowT c x).map toAV = Qe c x
 | .int, n | .u8, n | .bool, n | .str, n | .quad, n | .event, n => by simp [rowT, Qe, toAV]
 | .exp, e => by cases e; simp only [rowT, Qe, Qkn, List.map_cons, List.map_nil, Qda, toAV, Qhf, Qqd]; rfl
 | .stm, e => by cases e; simp only [rowT, Qe, Qlk, List.map_cons, List.map_nil, Qda, toAV, Qhf, Qcz, Qqd, Qle]; rfl
 | .stms, l => by simp only [rowT, Qe, List.map_cons, List.map_nil, Qda, Qcz, Qle]; rfl
 | .bx, b => by simp only [rowT, Qe, bxAV, Qap, List.map_cons, List.map_nil, Qda, toAV, Qcy]; rfl
 | .tk, b => by simp only [rowT, Qe, tkAV, Qap, List.map_cons, List.map_nil, Qda, toAV, Qcy, Qcz, Qle]; rfl
 | .ints, b => by simp only [rowT, Qe, Qap, List.map_cons, List.map_nil, Qda, Qcy]; rfl
 | .rg, b => by simp only [rowT, Qe, Qap, List.map_cons, List.map_nil, Qda, toAV, Qcy]; rfl
 | .prg, b => by simp only [rowT, Qe, Qap, List.map_cons, List.map_nil, Qda, toAV, Qcy, Qty]; rfl
 | .wld, b => by simp only [rowT, Qe, Qap, List.map_cons, List.map_nil, Qda, toAV, Qcy, Qss, Qsr]; rfl
 | .otc, b => by simp only [rowT, Qe, Qap, List.map_cons, List.map_nil, Qda, toAV, Qcy, Qtx, Qtw]; rfl
 | .fn, g => by simp [rowT, Qe, toAV, Qbt]
 | .intsH, g | .stmsH, g | .stmsHH, g | .expH, g | .stmH, g | .bxH, g | .tkH, g | .rgH, g | .prgH, g | .wldH, g | .otcH, g => by simp [rowT, Qe, toAV, TC.sz]
 | .wldO, g => by simp only [rowT, Qe, List.map_cons, List.map_nil, Qda, toAV, Qss, Qsr]; rfl
theorem Qyr : ∀ (c : TC) (x : Den c), (rowT c x).length = c.sz
 | .int, _ | .u8, _ | .bool, _ | .str, _ | .quad, _ | .event, _ | .exp, _ | .stm, _ | .stms, _ | .bx, _ | .tk, _ | .ints, _ | .rg, _ | .prg, _ | .wld, _ | .otc, _ | .fn, _ | .intsH, _ | .stmsH, _ | .stmsHH, _ | .expH, _ | .stmH, _ | .bxH, _ | .tkH, _ | .rgH, _ | .prgH, _ | .wldH, _ | .otcH, _ | .wldO, _ => rfl
theorem Qds (c : TC) (x : Den c) : (Qe c x).length = c.sz := by rw [← Qcm, List.length_map, Qyr]
theorem Qst : ∀ (c : TC) (x : Den c), (rowT c x).all TV.one = true
 | .int, _ | .u8, _ | .bool, _ | .str, _ | .quad, _ | .event, _ | .exp, _ | .stm, _ | .stms, _ | .bx, _ | .tk, _ | .ints, _ | .rg, _ | .prg, _ | .wld, _ | .otc, _ | .fn, _ | .intsH, _ | .stmsH, _ | .stmsHH, _ | .expH, _ | .stmH, _ | .bxH, _ | .tkH, _ | .rgH, _ | .prgH, _ | .wldH, _ | .otcH, _ | .wldO, _ => rfl
theorem Qar {c c' : TC} {l : List (Den c)} {l' : List (Den c')} (h : Qbu c c' l = some l') : ∃ e : c = c', e ▸ l = l' := by
 unfold Qbu at h
 split at h
 ·rename_i e; injection h with h; exact ⟨e, h⟩
 ·cases h
theorem Qhb {c : TC} {cs : List TV} {x : Den c} (h : Qiu c cs = some x) : cs = rowT c x := by
  unfold Qiu at h
  split at h <;> first
    | (cases h; done)
    | (injection h with h; subst h; rfl)
    | (simp only [Qa] at h
       obtain ⟨a, h1, h2⟩ := h
       obtain ⟨rfl, rfl⟩ := Qar h1
       injection h2 with h2; subst h2; rfl)
    | (obtain ⟨rfl, rfl⟩ := Qar h; rfl)
    | (split at h
       · rename_i hc
         first | subst hc | (obtain ⟨rfl, rfl⟩ := hc) | (obtain ⟨rfl, rfl, rfl⟩ := hc)
         injection h with h; subst h; rfl
       · cases h)
    | (simp only [Qa] at h
       obtain ⟨a, h1, b, h2, h3⟩ := h
       obtain ⟨rfl, rfl⟩ := Qar h1
       obtain ⟨rfl, rfl⟩ := Qar h2
       injection h3 with h3; subst h3; rfl)
    | (simp only [Qa] at h
       obtain ⟨a, h1, b, h2, h3⟩ := h
       obtain ⟨rfl, rfl⟩ := Qar h1
       obtain ⟨rfl, rfl⟩ := Qar h2
       split at h3
       · rename_i hc
         subst hc
         injection h3 with h3; subst h3; rfl
       · cases h3)
    | (simp only [Qa] at h
       obtain ⟨a, h1, b, h2, c, h3, h4⟩ := h
       obtain ⟨rfl, rfl⟩ := Qar h1
       obtain ⟨rfl, rfl⟩ := Qar h2
       obtain ⟨rfl, rfl⟩ := Qar h3
       injection h4 with h4; subst h4; rfl)
theorem Qjy (v : TV) : (toAV v).dem = toAV v.dem := by
 cases v with
 | sl m c l =>
  cases m with
  | share => simp [toAV, TV.dem, AV.dem, Md.dem, Md.sm]
  | full => simp [toAV, TV.dem, AV.dem, Md.dem, Md.sm]
  | own b => cases b <;> simp [toAV, TV.dem, AV.dem, Md.dem, Md.sm]
 | _ => simp [toAV, TV.dem, AV.dem]
theorem Qpa (v : TV) : (toAV v).share = toAV v.shr := by cases v <;> simp [toAV, TV.shr, AV.share, Md.sm]
theorem Qzj (v : TV) : (toAV v).toTip = toAV v.toTip := by
 cases v with
 | sl m c l =>
  cases m with
  | share => simp [toAV, TV.toTip, AV.toTip, Md.sm]
  | full => simp [toAV, TV.toTip, AV.toTip, Md.sm]
  | own b => cases b <;> simp [toAV, TV.toTip, AV.toTip, Md.sm]
 | _ => simp [toAV, TV.toTip, AV.toTip]
theorem Qdg (v : TV) : (toAV v).cells = v.cells.map toAV := by cases v <;> simp [toAV, TV.cells, AV.cells, Qk]
theorem Qrd (cs : List TV) : (cs.map toAV).map AV.dem = (cs.map TV.dem).map toAV := by simp [Qjy]
theorem Qfa (cs : List TV) : (cs.map toAV).map AV.share = (cs.map TV.shr).map toAV := by simp [Qpa]
theorem Qux (v : TV) : (toAV v).scells = v.scells.map toAV := by cases v <;> simp [toAV, TV.scells, AV.scells, Qk, Qjy]
theorem av_one (v : TV) : (toAV v).one = v.one := by cases v <;> simp [toAV, TV.one, AV.one]
theorem Qii (cs : List TV) : (cs.map toAV).all AV.one = cs.all TV.one := by simp [List.all_map, Function.comp_def, av_one]
theorem Qjz (v : TV) : (toAV v).isP = v.isP := by cases v <;> simp [toAV, TV.isP, AV.isP]
theorem av_okIn (bins : List Nat) (v : TV) : (toAV v).okIn bins = v.okIn bins := by cases v <;> simp [toAV, TV.okIn, AV.okIn]
theorem av_arg (v : TV) : (match toAV v with | .agg cs => .agg (cs.map AV.share) | v => v.share) = toAV (argV v) := by
 cases v with
 | agg cs => simp only [toAV, argV, Qk, Qfa]
 | _ => simp only [toAV, argV, AV.share, TV.shr, Md.sm]
theorem av_part (n : Nat) (agg : Bool) (cs : List TV) (off : Nat) : Vs.part n agg (cs.map toAV) off = (Qpy n agg cs off).map toAV := by
 unfold Vs.part Qpy
 cases agg
 ·simp only [Bool.false_eq_true, if_false]
  split
  ·rw [List.getElem?_map]; cases cs[off]? <;> simp [Qjy]
  ·rfl
 ·simp only [if_true, List.length_map]
  split
  ·have : (AV.dem ∘ toAV) = (toAV ∘ TV.dem) := by funext v; exact Qjy v
   simp [toAV, Qk, List.map_take, List.map_drop, this]
  ·rfl
theorem Quw (cs : List TV) (off : Nat) (vs : List TV) : Vs.over (cs.map toAV) off (vs.map toAV) = (Qpx cs off vs).map (List.map toAV) := by
 unfold Vs.over Qpx
 simp only [List.length_map]
 split
 ·simp [List.map_take, List.map_drop]
 ·rfl
theorem Quu : ∀ (ps : List (Nat × Nat × TV)) (cs : List TV), Qnt (cs.map toAV) (ps.map fun p => (p.1, p.2.1, toAV p.2.2)) = (Qvm cs ps).map (List.map toAV)
 | [], cs => by simp [Qnt, Qvm]
 | (off, n, v) :: r, cs => by
  simp only [List.map_cons, Qnt, Qvm, Qdg, List.length_map, Qii, Qrd, Quw]
  split
  ·cases Qpx cs off (v.cells.map TV.dem) with
   | none => rfl
   | some cs' => simp only [Option.map_some, Qb]; exact Quu r cs'
  ·rfl
theorem Qoz : ∀ (a b : List TV), Qew (a.map toAV) (b.map toAV) = Qnq a b
 | [], [] => rfl
 | [], b :: bs => by cases b <;> rfl
 | a :: as, [] => by cases a <;> rfl
 | a :: as, b :: bs => by
  cases a <;> cases b <;> simp only [List.map_cons, toAV, Qew, Qnq, Qoz as bs]
theorem Qjx : ∀ (a : List TV), Qdf (a.map toAV) = Qml a
 | [] => rfl
 | a :: as => by
  cases a with
  | int k n => cases k <;> simp [toAV, Qdf, Qml, Qjx as]
  | _ => simp [toAV, Qdf, Qml]
theorem Qll : ∀ {cs : List TV} {l : List (List UInt8)}, Qnb cs = some l → cs = l.map .str
 | [], l, h => by simp [Qnb] at h; subst h; rfl
 | c :: cs, l, h => by
  cases c <;> simp [Qnb] at h
  rw [Qa] at h
  obtain ⟨a, h1, h2⟩ := h
  injection h2 with h2
  subst h2
  rw [Qll h1]; rfl
theorem Qsa (l : List Int) : Qau (l.map fun n => [.int .u8 n]) = some (bytes l) := by
 induction l with
 | nil => rfl
 | cons n l ih => simp [Qau, bytes] at ih ⊢; rw [ih]; rfl
theorem Qtz : ∀ (c : TC) (x : Den c), (rowT c x).map TV.shr = rowT c x
 | .int, _ | .u8, _ | .bool, _ | .str, _ | .quad, _ | .event, _ | .exp, _ | .stm, _ | .stms, _ | .bx, _ | .tk, _ | .ints, _ | .rg, _ | .prg, _ | .wld, _ | .otc, _ | .fn, _ | .intsH, _ | .stmsH, _ | .stmsHH, _ | .expH, _ | .stmH, _ | .bxH, _ | .tkH, _ | .rgH, _ | .prgH, _ | .wldH, _ | .otcH, _ | .wldO, _ => rfl
theorem Qld (c : TC) (x : Den c) : (Qe c x).map AV.share = Qe c x := by rw [← Qcm, Qfa, Qtz]
def toS (s : TS) : S := { t := fun j => toAV (s.t j), b := fun j => (s.b j).map toBC, seen := s.seen }
def GA (G : Nat → List TV) : Nat → List AV := fun i => Qbt (G i)
theorem Qgt (s : TS) (b : Nat) : (toS s).b b = (s.b b).map toBC := rfl
theorem Qij {α β : Type} (g : α → β) (f : Nat → α) (i : Nat) (v : α) : (fun j => g (upd f i v j)) = upd (fun j => g (f j)) i (g v) := by
 funext j; unfold upd; split <;> rfl
theorem Qrr (s : TS) (d : Option Nat) (v : TV) : toS (s.put d v) = (toS s).put d (toAV v) := by
 cases d with
 | none => rfl
 | some d => simp only [toS, TS.put, S.put, Qij toAV]
theorem Qhx (s : TS) (b : Nat) (c : BT) : toS (s.setB b c) = (toS s).setB b (toBC c) := by
 have e : (fun j => (upd s.b b (some c) j).map toBC) = upd (fun j => (s.b j).map toBC) b (some (toBC c)) := Qij (Option.map toBC) s.b b (some c)
 simp only [toS, TS.setB, S.setB, e]
theorem Qza (s : TS) (b : Nat) (c : BT) : (toS s).newB b (toBC c) = (s.newB b c).map toS := by
 have e : (fun j => (upd s.b b (some c) j).map toBC) = upd (fun j => (s.b j).map toBC) b (some (toBC c)) := Qij (Option.map toBC) s.b b (some c)
 unfold S.newB TS.newB
 have : (toS s).seen b = s.seen b := rfl
 rw [this]
 split
 ·rfl
 ·simp only [Option.map_some, toS, e]
theorem Qek (s : TS) (x : OpT) : toS (s.drop x) = (toS s).drop x.er := by
 cases x with
 | take t => simp only [TS.drop, OpT.er, S.drop, toS, Qij toAV, Qjy]
 | _ => rfl
theorem Qlm (xs : List OpT) : ∀ s : TS, toS (xs.foldl TS.drop s) = dropAll (toS s) (xs.map OpT.er) := by
 induction xs with
 | nil => intro s; rfl
 | cons x xs ih => intro s; simp only [List.foldl_cons, ih, dropAll, List.map_cons, Qek]
theorem Qh (G : Nat → List TV) (s : TS) (x : OpT) : (toS s).get (GA G) x.er = toAV (s.get G x) := by
 cases x with
 | tmp t => simp only [OpT.er, S.get, TS.get]; exact Qjy (s.t t)
 | _ => simp [OpT.er, S.get, TS.get, toS, toAV, GA, Qbt]
theorem Qyx (G : Nat → List TV) (s : TS) (x : OpT) : (toS s).getA (GA G) x.er = toAV (s.getA G x) := by
 cases x with
 | tmp t => simp only [OpT.er, S.getA, TS.getA]; exact av_arg (s.t t)
 | take t => simp only [OpT.er, S.getA, TS.getA]; exact Qzj (s.t t)
 | const v => simp only [OpT.er, S.getA, TS.getA]; exact Qzj v
 | _ => simp [OpT.er, S.getA, TS.getA, toS, toAV, GA, Qbt]
theorem Qoq (G : Nat → List TV) (s : TS) (xs : List OpT) : (xs.map OpT.er).map ((toS s).get (GA G)) = (xs.map (s.get G)).map toAV := by
 simp [List.map_map, Function.comp_def, Qh]
theorem Qop (G : Nat → List TV) (s : TS) (xs : List OpT) : Qbl (GA G) (toS s) (xs.map OpT.er) = (xs.map (s.getA G)).map toAV := by
 simp [Qbl, List.map_map, Function.comp_def, Qyx]
theorem Qws (ins : List Nat) (tv : List TV) (bins : List Nat) (bv : List BT) : toS (mkST ins tv bins bv) = mkS ins (tv.map toAV) bins (bv.map toBC) := by
 have h1 : ∀ (ins : List Nat) (tv : List TV), (fun j => toAV (asTT ins tv j)) = asT ins (tv.map toAV) := by
  intro ins
  induction ins with
  | nil => intro tv; funext j; cases tv <;> rfl
  | cons i is ih =>
   intro tv; funext j
   cases tv with
   | nil => rfl
   | cons v vs => have := congrFun (ih vs) j; simp only [asTT, List.map_cons, asT]; split <;> first | rfl | exact this
 have h2 : ∀ (ins : List Nat) (tv : List BT), (fun j => (asBT ins tv j).map toBC) = asB ins (tv.map toBC) := by
  intro ins
  induction ins with
  | nil => intro tv; funext j; cases tv <;> rfl
  | cons i is ih =>
   intro tv; funext j
   cases tv with
   | nil => rfl
   | cons v vs => have := congrFun (ih vs) j; simp only [asBT, List.map_cons, asB]; split <;> first | rfl | exact this
 simp only [toS, mkST, mkS, h1, h2]
theorem Qeu {s : TS} : ∀ {bs : List Nat} {r : List BT}, Qit s bs = some r → Qah (toS s) bs = some (r.map toBC)
 | [], r, h => by simp [Qit] at h; subst h; rfl
 | b :: bs, r, h => by
  simp only [Qit, Qa] at h
  obtain ⟨c, h1, l, h2, h3⟩ := h
  injection h3 with h3
  subst h3
  simp only [Qah, Qgt, h1, Option.map_some, Qb, Qeu h2, List.map_cons]
theorem Qyz (s : TS) (ts bs : List Nat) : toS (s.mask ts bs) = (toS s).mask ts bs := by
 simp only [toS, TS.mask, S.mask, S.mk.injEq]
 refine ⟨?_, ?_, trivial⟩
 ·funext j; split <;> simp [toAV]
 ·funext j; split <;> simp
theorem Qwr (s : TS) (o : AOp) (s' : TS) : toS (s.merge o.takes o.k.mods o.fp s') = (toS s).merge o (toS s') := by
 simp only [toS, TS.merge, S.merge, S.mk.injEq]
 refine ⟨?_, ?_, trivial⟩
 ·funext j; split <;> rfl
 ·funext j; split <;> rfl
theorem Qci (s : TS) (es : List Ent) : toS (s.setA es) = (toS s).setA es := Qhx s 99 (.ar es)
theorem Qyy (s : TS) (b : Nat) : (toS s).live b = s.live b := by
 unfold S.live TS.live
 rw [Qgt]
 cases s.b b with
 | none => rfl
 | some c => cases c <;> rfl
theorem Qdb {s : TS} {es : List Ent} (h : s.b 99 = some (.ar es)) : (toS s).arr = some es := by
 unfold S.arr
 rw [Qgt, h]; rfl
theorem Qvx {l : List AV} : Qat l = l.all AV.noTr := by
 induction l with
 | nil => rfl
 | cons x l ih => simp only [Qat, List.all_cons, ih]
theorem Qvy {l : List (List AV)} : Qgk l = l.all Qat := by
 induction l with
 | nil => rfl
 | cons x l ih => simp only [Qgk, List.all_cons, ih]
mutual
theorem Qmh : ∀ (e : Exp), Qat (Qkn e) = true
 | ⟨o, n, as⟩ => by simp only [Qkn, Qat, AV.noTr, Qgi as, Bool.and_self]
theorem Qgi : ∀ (l : List Exp), Qgk (Qeo l) = true
 | [] => rfl
 | e :: l => by simp only [Qeo, Qgk, Qmh e, Qgi l, Bool.and_self]
end
mutual
theorem Qna : ∀ (e : Stm), Qat (Qlk e) = true
 | ⟨k, v, b, e, bd, el⟩ => by simp only [Qlk, Qat, AV.noTr, Qgi e.args, Qcf bd, Qcf el, Bool.and_self]
theorem Qcf : ∀ (l : List Stm), Qgk (Qco l) = true
 | [] => rfl
 | e :: l => by simp only [Qco, Qgk, Qna e, Qcf l, Bool.and_self]
end
theorem Qea {α : Type} {f : α → List AV} (h : ∀ x, Qat (f x) = true) (l : List α) : Qgk (l.map f) = true := by
 rw [Qvy, List.all_map, List.all_eq_true]
 intro x _; exact h x
theorem Qbd (l : List Int) : (Qap l).noTr = true := by
 simp only [Qap, AV.noTr]
 exact Qea (fun _ => rfl) l
theorem Qpe (b : Bx) : Qat (bxAV b) = true := by simp only [bxAV, Qat, Qbd, AV.noTr, Bool.and_self]
theorem Qqi (b : Tk) : Qat (tkAV b) = true := by simp only [tkAV, Qat, Qbd, AV.noTr, Qcf, Bool.and_self]
theorem Qmu : ∀ (c : TC) (x : Den c), c.plain = true → Qat (Qe c x) = true
 | .int, _, _ | .u8, _, _ | .bool, _, _ | .str, _, _ | .quad, _, _ | .event, _, _ | .fn, _, _ => rfl
 | .exp, e, _ => Qmh e
 | .stm, e, _ => Qna e
 | .stms, l, _ => by simp only [Qe, Qat, AV.noTr, Qcf, Bool.and_self]
 | .bx, b, _ => Qpe b
 | .tk, b, _ => Qqi b
 | .ints, l, _ => by simp only [Qe, Qat, Qbd, Bool.and_self]
 | .rg, r, _ => by simp only [Qe, Qat, Qbd, AV.noTr, Bool.and_self]
 | .prg, p, _ => by
  simp only [Qe, Qat, Qbd, AV.noTr, Bool.true_and, Bool.and_true]
  exact Qea (fun l => by simp only [Qat, AV.noTr, Qcf, Bool.and_self]) _
 | .wld, w, _ => by
  simp only [Qe, Qat, Qbd, AV.noTr, Bool.true_and, Bool.and_true]
  rw [Qea Qqi, Qea Qpe]; rfl
 | .otc, o, _ => by
  simp only [Qe, Qat, Qbd, AV.noTr, Bool.true_and, Bool.and_true]
  rw [Qea (fun l => by simp only [Qat, Qbd, Bool.and_self]), Qea (fun _ => rfl)]; rfl
theorem Qgo {c : TC} (h : c.plain = true) (l : List (Den c)) : Qgk (l.map (Qe c)) = true := Qea (fun x => Qmu c x h) l
mutual
theorem Qib : ∀ (v : TV), v.noTr = true → (toAV v).noTr = true
 | .undef, _ | .int _ _, _ | .bool _, _ | .str _, _ | .con _, _ | .bp _ _, _ | .bs _, _ | .be _ _ _, _ => by simp [toAV, AV.noTr]
 | .sl m c l, h => by simp only [toAV, AV.noTr]; exact Qgo h l
 | .agg cs, h => by simp only [toAV, AV.noTr]; exact Qdh cs h
 | .rp cs off, h => by simp only [toAV, AV.noTr]; exact Qdh cs h
 | .rs l i, h => by
  simp only [toAV, AV.noTr, Qvx, List.all_map, List.all_eq_true]
  intro x _; rfl
 | .fn g cs, h => by simp only [toAV, AV.noTr]; exact Qdh cs h
 | .tup cs, h => by simp only [toAV, AV.noTr]; exact Qdh cs h
 | .np cs, h => by simp only [toAV, AV.noTr]; exact Qdh cs h
 | .tr _ _ _, h => by cases h
 | .trp _ _ _ _, h => by cases h
 | .arv _, h => by cases h
theorem Qdh : ∀ (cs : List TV), Qge cs = true → Qat (Qbt cs) = true
 | [], _ => rfl
 | c :: cs, h => by
  simp only [Qge, Zw] at h
  simp only [Qbt, Qat, Qib c h.1, Qdh cs h.2, Bool.and_self]
end
mutual
theorem Quv : ∀ (v : TV), v.flat = true → (toAV v).flat = true
 | .int _ _, _ | .bool _, _ | .str _, _ => by simp [toAV, AV.flat]
 | .agg cs, h => by simp only [toAV, AV.flat]; exact Qnk cs h
 | .tup cs, h => by simp only [toAV, AV.flat]; exact Qnk cs h
 | .undef, h | .con _, h | .bp _ _, h | .bs _, h | .be _ _ _, h | .sl _ _ _, h | .rp _ _, h | .rs _ _, h | .fn _ _, h | .np _, h | .tr _ _ _, h | .trp _ _ _ _, h | .arv _, h => by cases h
theorem Qnk : ∀ (cs : List TV), Qpn cs = true → Qrb (Qbt cs) = true
 | [], _ => rfl
 | c :: cs, h => by
  simp only [Qpn, Zw] at h
  simp only [Qbt, Qrb, Quv c h.1, Qnk cs h.2, Bool.and_self]
end
mutual
theorem Qsb : ∀ (v : TV), v.flatT = true → (toAV v).flatT = true
 | .int _ _, _ | .bool _, _ | .str _, _ | .tr _ _ _, _ => by simp [toAV, AV.flatT]
 | .agg cs, h => by simp only [toAV, AV.flatT]; exact Qka cs h
 | .tup cs, h => by simp only [toAV, AV.flatT]; exact Qka cs h
 | .undef, h | .con _, h | .bp _ _, h | .bs _, h | .be _ _ _, h | .sl _ _ _, h | .rp _ _, h | .rs _ _, h | .fn _ _, h | .np _, h | .trp _ _ _ _, h | .arv _, h => by cases h
theorem Qka : ∀ (cs : List TV), Qkp cs = true → Qdq (Qbt cs) = true
 | [], _ => rfl
 | c :: cs, h => by
  simp only [Qkp, Zw] at h
  simp only [Qbt, Qdq, Qsb c h.1, Qka cs h.2, Bool.and_self]
end
theorem av_calm (v : TV) (h : v.calm = true) : (toAV v).calm = true := by
 cases v with
 | sl m c l =>
  cases m with
  | own b => cases b <;> first | (cases h; done) | simp [toAV, AV.calm, Md.sm]
  | share => simp [toAV, AV.calm, Md.sm]
  | full => simp [toAV, AV.calm, Md.sm]
 | _ => first | (cases h; done) | simp [toAV, AV.calm]
theorem Qwl (c : TC) : c.seen.sz = c.sz := by cases c <;> rfl
theorem bt_noTr (b : BT) (h : b.noTr = true) : (toBC b).noTr = true := by
 cases b with
 | var cs => exact Qdh cs h
 | rows c l => exact Qgo h l
 | ar es => cases h
theorem bt_isAr (b : BT) : (toBC b).isAr = b.isAr := by cases b <;> rfl
theorem Qte {c : TC} {xs : List (List AV)} {l : List (Den c)} (h : Qid c xs = some l) : xs = l.map (Qe c) := by
 unfold Qid at h
 split at h
 ·rename_i hx; injection h with h; rw [← h]; exact hx.choose_spec.symm
 ·cases h
theorem Qbg {es : List Ent} {c : TC} {h : Option Nat} {l : List (Den c)} (hg : Qs es c h = some l) : Qbn es c.sz h = some (l.map (Qe c)) := by
 unfold Qs at hg
 obtain ⟨xs, h1, h2⟩ := Qa.1 hg
 rw [h1, Qte h2]
end Go.Tv
namespace Go.Tv
open Go Go.RowKit Go.Vs
variable {ρ : Type}
def Qnh (Φ : CT ρ) (call : Vs.Call) : Prop :=
 ∀ g tv bv k r, Φ g tv bv k = some r → ∃ o outs bv', call g (tv.map toAV) (bv.map toBC) = some (o, outs.map toAV, bv'.map toBC) ∧ k o outs bv' = some r
theorem Qgj {α : Type} {l : List α} {n : Int} {x : α} (h : geti l n = some x) : 0 ≤ n ∧ l[n.toNat]? = some x := by
 unfold geti at h; split at h
 ·exact ⟨‹_›, h⟩
 ·cases h
theorem Qhh {α : Type} {l : List α} {k : IntKind} {n : Int} {x : α} (h : geti l n = some x) : Qcl (.int k n) = some n.toNat := by
 simp [Qcl, (Qgj h).1]
theorem Qhn {n : Nat} {agg : Bool} {cs : List TV} {off : Nat} {v : TV} (h : Qpy n agg cs off = some v) : Vs.part n agg (cs.map toAV) off = some (toAV v) := by
 rw [av_part, h]; rfl
theorem Qog {cs vs r : List TV} {off : Nat} (h : Qpx cs off vs = some r) : Vs.over (cs.map toAV) off (vs.map toAV) = some (r.map toAV) := by rw [Quw, h]; rfl
theorem Qky {s s' : TS} {b : Nat} {c : BT} (h : s.newB b c = some s') : (toS s).newB b (toBC c) = some (toS s') := by rw [Qza, h]; rfl
theorem Qjn {s : TS} {b : Nat} (h : s.live b = true) : (toS s).live b = true := by rw [Qyy]; exact h
mutual
theorem Qks : ∀ (v : TV) (k : TV → Option ρ), Qiw v k = k v
 | .undef, k | .int a n, k | .bool b, k | .str l, k | .con c, k | .sl m c l, k | .bp b o, k | .bs b, k | .be b i o, k | .rs l i, k | .tr c h n, k | .trp c h i o, k | .arv es, k => by simp only [Qiw]
 | .agg cs, k | .rp cs _, k | .fn _ cs, k | .tup cs, k | .np cs, k => by simp only [Qiw, Qex cs]
theorem Qex : ∀ (l : List TV) (k : List TV → Option ρ), Qep l k = k l
 | [], k => by simp only [Qep]
 | v :: r, k => by simp only [Qep, Qks v, Qex r]
end
theorem Qnz {n : Nat} {agg take : Bool} {s : TS} {p : TV} {k : TV → TS → Option ρ} {r : ρ} (h : Qrc n agg take s p k = some r) : ∃ v s', loadP n agg take (toS s) (toAV p) = some (toAV v, toS s') ∧ k v s' = some r := by
 unfold Qrc at h
 split at h
 ·rename_i b off
  split at h
  ·rename_i cs hb
   split at h
   ·split at h
    ·cases h
    ·split at h
     ·rename_i hn
      rw [Qa] at h
      obtain ⟨v, h1, h2⟩ := h
      split at h2
      ·cases h2
      ·rename_i hp
       refine ⟨v, _, ?_, h2⟩
       simp only [toAV, loadP, Qgt, hb, Option.map_some, toBC, Qk, if_true, Bool.false_eq_true, if_false, hn, List.getElem?_map, h1, Qb, Qjz, hp, Qhx, List.map_set, Qjy]
     ·cases h
   ·rw [Qa] at h
    obtain ⟨v, h1, h2⟩ := h
    refine ⟨v, s, ?_, h2⟩
    simp only [toAV, loadP, Qgt, hb, Option.map_some, toBC, Qk, Bool.false_eq_true, if_false, Qhn h1, Qb]
  ·cases h
 ·rename_i b i off
  split at h
  ·rename_i c l hb
   split at h
   ·cases h
   ·rw [Qa] at h
    obtain ⟨x, h1, h⟩ := h
    rw [Qa] at h
    obtain ⟨v, h2, h3⟩ := h
    refine ⟨v, s, ?_, h3⟩
    have := Qhn h2
    rw [Qcm] at this
    simp only [toAV, loadP, Qgt, hb, Option.map_some, toBC, List.getElem?_map, h1, Qb, Bool.false_eq_true, if_false, this]
  ·cases h
 ·split at h
  ·cases h
  ·rw [Qa] at h
   obtain ⟨v, h2, h3⟩ := h
   refine ⟨v, s, ?_, h3⟩
   simp only [toAV, loadP, Qk, Bool.false_eq_true, if_false, Qhn h2, Qb]
 ·split at h
  ·cases h
  ·split at h
   ·cases h
   ·split at h
    ·rename_i hn
     rw [Qa] at h
     obtain ⟨v, h2, h3⟩ := h
     refine ⟨.str v, s, ?_, h3⟩
     simp only [toAV, loadP, Vs.part, Bool.false_eq_true, if_false, hn, if_true, List.getElem?_map, h2, Option.map_some, Qb, AV.dem]
    ·cases h
 ·cases h
theorem Qwo {n : Nat} {s : TS} {p v : TV} {k : TS → Option ρ} {r : ρ} (h : Qwn n s p v k = some r) : ∃ s', storeP n (toS s) (toAV p) (toAV v) = some (toS s') ∧ k s' = some r := by
 unfold Qwn at h
 split at h
 ·rename_i hc
  have hc' : (toAV v).cells.length = n ∧ (toAV v).cells.all AV.one = true := by rw [Qdg, List.length_map, Qii]; exact hc
  unfold storeP
  rw [if_pos hc']
  split at h
  ·rename_i b off
   split at h
   ·rename_i cs hb
    rw [Qa] at h
    obtain ⟨cs', h1, h2⟩ := h
    rw [Qex] at h2
    refine ⟨_, ?_, h2⟩
    simp only [toAV, Qgt, hb, Option.map_some, toBC, Qk, Qux, Qog h1, Qb, Qhx]
   ·cases h
  ·rename_i b i off
   split at h
   ·rename_i c l hb
    simp only [Qa] at h
    obtain ⟨x, h1, cs', h2, y, h3, h4⟩ := h
    refine ⟨_, ?_, h4⟩
    have e := Qog h2
    rw [Qcm, ← Qfa, ← Qdg, Qhb h3, Qcm] at e
    simp only [toAV, Qgt, hb, Option.map_some, toBC, List.getElem?_map, h1, Qb, e, Qhx, List.map_set]
   ·cases h
  ·cases h
 ·cases h
theorem binT_is {op : BinOp} {x y : TV} {k : TV → Option ρ} {r : ρ} (h : binT op x y k = some r) : ∃ v, bin op (toAV x) (toAV y) = some (toAV v) ∧ k v = some r := by
  unfold binT at h
  split at h
  · rename_i kx a ky b
    split at h
    · rw [Qa] at h
      obtain ⟨n, h1, h2⟩ := h
      refine ⟨_, ?_, h2⟩
      unfold shlI at h1
      split at h1
      · cases h1
      · rename_i hb
        injection h1 with h1
        rw [Qnf] at h1
        simp [toAV, bin, Qmx, hb, h1]
    · rw [Qa] at h
      obtain ⟨n, h1, h2⟩ := h
      refine ⟨_, ?_, h2⟩
      unfold shrI at h1
      split at h1
      · cases h1
      · rename_i hb
        injection h1 with h1
        simp [toAV, bin, Qmx, hb, h1]
    · split at h
      · rename_i hk
        subst hk
        split at h <;> first
          | (cases h; done)
          | exact ⟨_, by simp [toAV, bin, binI, Qnf], h⟩
          | (rw [Qa] at h
             obtain ⟨n, h1, h2⟩ := h
             refine ⟨_, ?_, h2⟩
             unfold quoI at h1
             split at h1
             · cases h1
             · rename_i hb
               injection h1 with h1
               rw [Qnf] at h1
               simp [toAV, bin, binI, hb, h1])
          | (rw [Qa] at h
             obtain ⟨n, h1, h2⟩ := h
             refine ⟨_, ?_, h2⟩
             unfold remI at h1
             split at h1
             · cases h1
             · rename_i hb
               injection h1 with h1
               simp [toAV, bin, binI, hb, h1])
      · cases h
  · split at h
    · rw [Qa] at h
      obtain ⟨n, h1, h2⟩ := h
      refine ⟨_, ?_, h2⟩
      unfold catS at h1
      split at h1
      · rename_i hl
        injection h1 with h1
        simp [toAV, bin, binS, hl, h1]
      · cases h1
    · exact ⟨_, by simp [toAV, bin, binS], h⟩
    · exact ⟨_, by simp [toAV, bin, binS], h⟩
    · cases h
  · cases h
theorem Qjk {s : TS} : ∀ {as : List TV} {j : Nat} {q : List TV × List BT × List Nat}, Qnx s as j = some q → lend (toS s) (as.map toAV) j = some (q.1.map toAV, q.2.1.map toBC, q.2.2)
 | [], j, q, h => by simp [Qnx] at h; subst h; rfl
 | v :: r, j, q, h => by
  by_cases hv : ∃ b off, v = .bp b off
  ·obtain ⟨b, off, rfl⟩ := hv
   simp only [Qnx] at h
   split at h
   ·rename_i hc
    split at h
    ·rename_i cs hb
     rw [Qa] at h
     obtain ⟨q', h1, h2⟩ := h
     split at h2
     ·cases h2
     ·rename_i hn
      injection h2 with h2
      subst h2
      simp only [List.map_cons, toAV, lend, hc, and_self, if_true, Qgt, hb, Option.map_some, toBC, Qjk h1, Qb, hn, Bool.false_eq_true, if_false, Qk]
      try simp
    ·cases h
   ·cases h
  ·have h' : (match v.isP with | true => none | false => bnd (Qnx s r j) fun q => some (v :: q.1, q.2.1, q.2.2)) = some q := by
    cases v with
    | bp b off => exact absurd ⟨b, off, rfl⟩ hv
    | _ => simp only [Qnx] at h; exact h
   split at h'
   ·cases h'
   ·rename_i hp
    rw [Qa] at h'
    obtain ⟨q', h1, h2⟩ := h'
    injection h2 with h2
    subst h2
    have e : lend (toS s) (toAV v :: r.map toAV) j = (if (toAV v).isP then none else bnd (lend (toS s) (r.map toAV) j) fun (tv, bv, ls) => some ((toAV v :: tv, bv, ls))) := by
     cases v with
     | bp b off => exact absurd ⟨b, off, rfl⟩ hv
     | _ => simp only [toAV, lend]; rfl
    rw [List.map_cons, e, Qjz, hp, Qjk h1]
    simp
theorem Qnu : ∀ {bs : List Nat} {cs : List BT} {s s' : TS}, Qpo s bs cs = some s' → giveBack (toS s) bs (cs.map toBC) = some (toS s')
 | [], [], s, s', h => by simp [Qpo] at h; subst h; rfl
 | [], c :: cs, s, s', h => by simp [Qpo] at h
 | b :: bs, [], s, s', h => by simp [Qpo] at h
 | b :: bs, c :: cs, s, s', h => by
  simp only [Qpo] at h
  simp only [List.map_cons, giveBack, ← Qhx]
  exact Qnu h
theorem Qse {Φ : CT ρ} {call : Vs.Call} (hΦ : Qnh Φ call) {s : TS} {g site : Nat} {as : List TV} {k : TV → TS → Option ρ} {r : ρ} (h : Qxe Φ s g site as k = some r) :
  ∃ v s', callF call (toS s) g site (as.map toAV) = some (toAV v, toS s') ∧ k v s' = some r := by
 unfold Qxe at h
 rw [Qa] at h
 obtain ⟨q, h1, h⟩ := h
 obtain ⟨o, outs, bv', h2, h⟩ := hΦ _ _ _ _ _ h
 rw [Qa] at h
 obtain ⟨s1, h3, h⟩ := h
 unfold callF
 rw [Qjk h1, Qb]
 simp only []
 rw [h2, Qb]
 simp only []
 rw [Qnu h3, Qb]
 split at h
 ·rename_i v
  split at h
  ·rename_i cs
   rw [Qa] at h
   obtain ⟨s2, h4, h5⟩ := h
   refine ⟨_, s2, ?_, h5⟩
   have := Qky h4
   simp only [toBC] at this
   simp only [List.map_cons, List.map_nil, toAV, this, Qb]
  ·split at h
   ·cases h
   ·rename_i hnp _ hp
    refine ⟨v, s1, ?_, h⟩
    have hp' : (toAV v).isP = false := by rw [Qjz]; exact hp
    cases v with
    | np cs => exact absurd rfl (hnp cs)
    | _ => simp only [List.map_cons, List.map_nil, toAV] at hp' ⊢; simp [hp']
 ·cases h
theorem Qej : ∀ (xs : List OpT), Qcn (xs.map OpT.er) = Qdj xs
 | [] => rfl
 | x :: xs => by
  have e : ∀ (t : Nat), ((xs.map OpT.er).all fun x => match x with | .take u => u != t | _ => true) = (xs.all fun x => match x with | .take u => u != t | _ => true) := by
   intro t
   rw [List.all_map]
   congr 1
   funext y
   cases y <;> rfl
  cases x <;> simp only [List.map_cons, OpT.er, Qcn, Qdj, Qej xs]
  rename_i t
  exact congrArg (· && Qdj xs) (e t)
theorem Qnn : ∀ {vs : List TV} {s : TS} {q : List TV × TS}, Qpg s vs = some q → capture (toS s) (vs.map toAV) = some (q.1.map toAV, toS q.2)
 | [], s, q, h => by simp [Qpg] at h; subst h; rfl
 | v :: r, s, q, h => by
  by_cases hv : ∃ b off, v = .bp b off
  ·obtain ⟨b, off, rfl⟩ := hv
   simp only [Qpg] at h
   split at h
   ·rename_i hc
    split at h
    ·rename_i cs hb
     rw [Qa] at h
     obtain ⟨q', h1, h2⟩ := h
     injection h2 with h2
     subst h2
     have e : toS { s with b := upd s.b b none } = { toS s with b := upd (toS s).b b none } := by
      have e : (fun j => (upd s.b b none j).map toBC) = upd (fun j => (s.b j).map toBC) b none := Qij (Option.map toBC) s.b b none
      simp only [toS, e]
     have h3 := Qnn h1
     rw [e] at h3
     simp only [List.map_cons, toAV, capture, hc, if_true, Qgt, hb, Option.map_some, toBC, h3, Qb, Qk, Qfa]
    ·cases h
   ·cases h
  ·have h' : (match v.isP with | true => none | false => bnd (Qpg s r) fun q => some (v.shr :: q.1, q.2)) = some q := by
    cases v with
    | bp b off => exact absurd ⟨b, off, rfl⟩ hv
    | _ => simp only [Qpg] at h; exact h
   split at h'
   ·cases h'
   ·rename_i hp
    rw [Qa] at h'
    obtain ⟨q', h1, h2⟩ := h'
    injection h2 with h2
    subst h2
    have e : capture (toS s) (toAV v :: r.map toAV) = (if (toAV v).isP then none else bnd (capture (toS s) (r.map toAV)) fun (vs, s') => some (((toAV v).share :: vs, s'))) := by
     cases v with
     | bp b off => exact absurd ⟨b, off, rfl⟩ hv
     | _ => simp only [toAV, capture]; rfl
    rw [List.map_cons, e, Qjz, hp, Qnn h1]
    simp [Qpa]
theorem Qxg {s : TS} {c : CK} {x : TV} {k : TV → TS → Option ρ} {r : ρ} (h : convT s c x k = some r) : ∃ v s', convK (toS s) c (toAV x) = some (toAV v, toS s') ∧ k v s' = some r := by
 unfold convT at h
 split at h
 ·exact ⟨_, _, by simp [convK, toAV, Qnf], h⟩
 ·exact ⟨_, _, by simp [convK, toAV], h⟩
 ·rename_i m l
  refine ⟨_, _, ?_, h⟩
  have : Qe .u8 = fun n => [.int .u8 n] := rfl
  simp only [convK, toAV, TC.sz, this, Qsa, Qb]
 ·rename_i b
  split at h
  ·rename_i l hb
   refine ⟨_, _, ?_, h⟩
   have : Qe .u8 = fun n => [.int .u8 n] := rfl
   simp only [convK, toAV, Qgt, hb, Option.map_some, toBC, TC.sz, this, Qsa, Qb]
  ·cases h
 ·rename_i b l
  rw [Qa] at h
  obtain ⟨s1, h1, h2⟩ := h
  refine ⟨_, _, ?_, h2⟩
  have := Qky h1
  have e : (toBC (.rows .u8 (Qrs l))) = .rows 1 (l.map fun c => [.int .u8 (c.toNat : Int)]) := by
   simp only [toBC, Qrs, List.map_map]; rfl
  rw [e] at this
  simp only [convK, toAV, this, Qb]
 ·rename_i k' n
  rw [Qa] at h
  obtain ⟨l, h1, h2⟩ := h
  refine ⟨_, _, ?_, h2⟩
  unfold rune at h1
  split at h1
  ·rename_i hn
   injection h1 with h1
   subst h1
   simp [convK, toAV, hn]
  ·cases h1
 ·cases h
theorem Qkw {c : TC} {G : Nat → List TV} {s : TS} : ∀ {ps : List OpT} {l : List (Den c)}, (ps.mapM fun p => Qiu c ((s.get G p).cells.map TV.shr)) = some l →
  (ps.map fun p => (toAV (s.get G p)).cells.map AV.share) = l.map (Qe c) ∧ ∀ p ∈ ps, (toAV (s.get G p)).cells.length = c.sz ∧ (toAV (s.get G p)).cells.all AV.one = true
 | [], l, h => by simp at h; subst h; simp
 | p :: ps, l, h => by
  simp only [List.mapM_cons, bind, Option.bind_eq_some_iff, pure, Zi] at h
  obtain ⟨x, h1, l', h2, rfl⟩ := h
  obtain ⟨h3, h4⟩ := Qkw h2
  have e := Qhb h1
  have e2 : (toAV (s.get G p)).cells.map AV.share = Qe c x := by rw [Qdg, Qfa, e, Qcm]
  refine ⟨by simp only [List.map_cons, e2, h3], fun q hq => ?_⟩
  rcases List.mem_cons.1 hq with rfl | hq
  ·constructor
   ·have := congrArg List.length e2
    rw [List.length_map, Qds] at this
    exact this
   ·rw [Qdg, Qii]
    have h5 := Qst c x
    rw [← e, List.all_map] at h5
    rw [List.all_eq_true] at h5 ⊢
    intro v hv
    have := h5 v hv
    cases v <;> simp_all [TV.one, TV.shr]
  ·exact h4 q hq
end Go.Tv