/- The plain law: what the functions answer. -/
import Derived.Test.YthmemaednlaanaaGreatDoorGFnExactProgramFrom
import Derived.Test.YthmemaednlaanaaGreatDoorDFnExactProgramFromE0
import Derived.Test.YthmemaednlaanaaGreatDoorDFnExactProgramFromE1
import Derived.Test.YthmemaednlaanaaGreatDoorDFnExactProgramFromE2
import Derived.Test.YthmemaednlaanaaGreatDoorLkA
import Derived.Lib.ItoaLen
import Derived.Test.YthmemaednlaanaaGreatDoorLkU
set_option linter.unusedVariables false
set_option linter.unusedSimpArgs false
namespace Go.TFnExactProgramFrom
open Go Go.RowKit Go.Vs Go.Tv
def wsum {α : Type} (w : α → Nat) : List α → Nat
 | [] => 0
 | y :: r => w y + wsum w r
theorem Rrx {α : Type} {w : α → Nat} {mk : Int → α → α} : ∀ (k : Int) (l : List α), (mks w mk k l).length = l.length
 | _, [] => rfl
 | k, y :: r => by simp only [mks, Zc, Rrx]
theorem Rsg {α : Type} {w b : α → Nat} (h : ∀ y, w y ≤ b y) : ∀ l : List α, wsum w l ≤ wsum b l
 | [] => Nat.le_refl _
 | y :: r => by have := h y; have := Rsg h r; simp only [wsum]; omega
theorem Rra {c : TC} {h : Hd} {ids : List Nat} {A : List Ent} {w b : Den c.seen → Nat} {mk : Int → Den c.seen → Den c.seen} {Q : Den c.seen → Prop} {L : Int → Int → List Ent → Option (Int × List Ent)} (nd : ids.Nodup)
  (hend : ∀ (k i : Int) (B : List Ent), ¬ (i < ((h.n : Nat) : Int)) → L k i B = some (k, B))
  (hstep : ∀ (j : Nat) (k : Int) (B : List Ent) (y : Den c.seen) (l : List (Den c.seen)), Q y → (j : Int) < ((h.n : Nat) : Int) → ((h.n : Nat) : Int) ≤ 4611686018427387904 → ∀ M : Mid B c h l ids j y, 0 ≤ k → k + b y ≤ 4611686018427387904 →
   ∃ B' : List Ent, Only (M.i :: M.s) B B' ∧ Tr B' c h (l.set j (mk k y)) ids ∧ ∀ r, L (k + w y) ((j + 1 : Nat) : Int) B' = some r → L k j B = some r)
  (hwb : ∀ y, w y ≤ b y) (hb : ((h.n : Nat) : Int) ≤ 4611686018427387904) : ∀ (rest done : List (Den c.seen)) (k : Int) (B : List Ent), (∀ y ∈ rest, Q y) → Tr B c h (done ++ rest) ids → Only ids A B → 0 ≤ k → k + wsum b rest ≤ 4611686018427387904 →
  Ok (L k done.length B) fun r => r.1 = k + wsum w rest ∧ Tr r.2 c h (done ++ mks w mk k rest) ids ∧ Only ids A r.2
 | [], done, k, B, _, hT, ho, h0, hk => by
  have hn := hT.cnt
  simp only [Za, Zn] at hn
  rw [hend k _ B (by omega)]
  exact Ok.of ⟨by simp [wsum], hT, ho⟩
 | y :: rest, done, k, B, hq, hT, ho, h0, hk => by
  have hn := hT.cnt
  simp only [Za, Zc] at hn
  simp only [wsum] at hk
  have hwy := hwb y
  obtain ⟨M⟩ := hT.mid nd (j := done.length) (y := y) (Rjd done y rest)
  obtain ⟨B', o1, t1, hr⟩ := hstep done.length k B y _ (hq y List.mem_cons_self) (by omega) hb M h0 (by omega)
  rw [Rqi] at t1
  have ho2 : Only ids A B' := ho.trans (o1.mono fun n hn => by
   rcases List.mem_cons.1 hn with rfl | hn
   ·exact M.iin
   ·exact M.ins n hn)
  have ih := Rra nd hend hstep hwb hb rest (done ++ [mk k y]) (k + w y) B' (fun z hz => hq z (List.mem_cons_of_mem _ hz)) (by rw [List.append_assoc]; exact t1) ho2 (by omega) (by omega)
  simp only [Za, Zc, Zn, Nat.zero_add] at ih
  obtain ⟨q, e, q1, q2, q3⟩ := ih
  refine ⟨q, hr q e, ?_, ?_, q3⟩
  ·rw [q1]; simp only [wsum]; omega
  ·rw [List.append_assoc] at q2
   exact q2
theorem Rqs {α : Type} {w b : α → Nat} {mk : Int → α → α} {Q : α → Prop} {H : List α → Int → Int → Option (Int ⊕ (Int × Int))} {L : List α}
  (hend : ∀ (k i : Int), ¬ (i < (L.length : Int)) → H L k i = some (.inl k))
  (hstep : ∀ (j : Nat) (k : Int) (y : α), Q y → (j : Int) < (L.length : Int) → L[j]? = some (mk k y) → 0 ≤ k → k + b y ≤ 4611686018427387904 → ∀ r, H L (k + w y) ((j + 1 : Nat) : Int) = some r → H L k j = some r)
  (hwb : ∀ y, w y ≤ b y) : ∀ (rest done : List α) (k : Int), (∀ y ∈ rest, Q y) → L = done ++ mks w mk k rest → 0 ≤ k → k + wsum b rest ≤ 4611686018427387904 → H L k done.length = some (.inl (k + wsum w rest))
 | [], done, k, _, hl, h0, hk => by
  rw [hend k _ (by rw [hl]; simp [mks])]
  simp [wsum]
 | y :: rest, done, k, hq, hl, h0, hk => by
  simp only [wsum] at hk
  have hwy := hwb y
  have hlen : L.length = done.length + (rest.length + 1) := by rw [hl]; simp [Rrx]
  have ih := Rqs hend hstep hwb rest (done ++ [mk k y]) (k + w y) (fun z hz => hq z (List.mem_cons_of_mem _ hz)) (by rw [List.append_assoc]; exact hl) (by omega) (by omega)
  simp only [Za, Zc, Zn, Nat.zero_add] at ih
  rw [hstep done.length k y (hq y List.mem_cons_self) (by omega) (by rw [hl]; exact Rjd done _ _) h0 (by omega) _ ih]
  rw [show k + (w y : Int) + wsum w rest = k + ((w y + wsum w rest : Nat) : Int) by omega]
  rfl
theorem Rwg {D : List Ent} {c : TC} {h : Option Nat} {rows : List (Den c)} {j : Nat} {x : Den c} (hg : Qs D c h = some rows) (hx : rows[j]? = some x) : Qs D c h = some (rows.set j x) := by
 have hlt := (List.getElem?_eq_some_iff.1 hx).1
 have e : rows.set j x = rows := by
  have := (List.getElem?_eq_some_iff.1 hx).2
  rw [← this]
  exact List.set_getElem_self _
 rw [e]; exact hg
theorem Rka {l : List (List Stm)} {h : Hd} {ids : List Nat} {A : List Ent} {k : Int} (hT : Tr A .stmsHH h l ids) (nd : ids.Nodup) (h0 : 0 ≤ k) (hl : (l.length : Int) ≤ 4611686018427387904) (hk : k + wsum (fun y => 5 * mSs y) l ≤ 4611686018427387904) :
  Ok (Rfv h k A) fun r => r.1 = k + wsum nSs l ∧ Tr r.2 .stmsHH h (mks nSs mkSs k l) ids ∧ Only ids A r.2 := by
 apply Ok.le (Rjz _ _ _)
 have hc := hT.cnt
 have := Rra (c := .stmsHH) (h := h) (ids := ids) (A := A) (w := nSs) (b := fun y => 5 * mSs y) (mk := mkSs) (Q := fun _ => True) (L := fun k i B => Rcz h k i B) nd
  (fun k i B hi => by
   apply Rfk
   simp only [hi, Zz, Zf])
  (fun j k B y l _ hi hb M h0 hk => by
   obtain ⟨r, e, e1, t1, o1⟩ := Rks (l := y) M.x M.s B k (show Tr B .stmH M.x y M.s from M.row) M.nds h0 (by omega)
   have oB : Only (M.i :: M.s) B r.2 := o1.mono fun n hn => List.mem_cons_of_mem _ hn
   have g1 : Qs r.2 .stmsHH (some M.i) = some M.rows := Qnj (fun n hn => by injection hn with hn; rw [← hn]; exact o1.same _ M.out) M.get
   refine ⟨r.2, oB, M.back (x' := M.x) (y' := mkSs k y) (Rwg g1 M.at_) t1 oB, fun r' hr' => ?_⟩
   apply Rfk
   simp only [hi, Zy, Zt, idxN_eq (show 0 ≤ (j : Int) by omega) hi, Int.toNat_natCast, Qb, M.hid, Qrz M.get M.at_, e, e1, Rav (show (j : Int) < 9223372036854775807 by omega)]
   exact hr')
  Rjk (by rw [hc]; exact hl) l [] k A (fun _ _ => trivial) hT (Only.refl _ _) h0 hk
 exact Ok.bnd this fun r hr => Ok.of hr
theorem Rw.prg_view {A : List Ent} {x : PrgH} {y : Prg} {s : List Nat} (h : Rw A .prgH x y s) (hn : s.Nodup) : Qgb A .int x.rooms.id = some y.rooms ∧ Qgb A .stmsHH x.tasks.id = some y.tasks := by
 obtain ⟨l, r, s1, s2, h1, h2, rfl, rfl⟩ := (show ∃ l r s1 s2, Tr A .int x.rooms l s1 ∧ Tr A .stmsHH x.tasks r s2 ∧ y = ⟨l, r⟩ ∧ s = s1 ++ s2 from h)
 rw [List.nodup_append] at hn
 exact ⟨h1.view hn.1, h2.view hn.2.1⟩
def mkP (k : Int) (p : Prg) : Prg := ⟨mkI k p.rooms, mks nSs mkSs (k + p.rooms.length) p.tasks⟩
def nP (p : Prg) : Nat := p.rooms.length + wsum nSs p.tasks
structure SzP (p : Prg) : Prop where
 rooms : (p.rooms.length : Int) ≤ 4294967296
 tasks : (p.tasks.length : Int) ≤ 4611686018427387904
 sum : 1 + p.rooms.length + wsum (fun y => 5 * mSs y) p.tasks ≤ 4611686018427387904
theorem Rjj {A : List Ent} {x : PrgH} {y : Prg} {s : List Nat} (h : Rw A .prgH x y s) (hn : s.Nodup) (hs : SzP y) : Ok (Rfj x 1 A) fun r => r.1 = 1 + nP y ∧ Rw r.2 .prgH x (mkP 1 y) s ∧ Only s A r.2 := by
 apply Ok.le (Rji x 1 A)
 obtain ⟨l, r, s1, s2, h1, h2, rfl, rfl⟩ := (show ∃ l r s1 s2, Tr A .int x.rooms l s1 ∧ Tr A .stmsHH x.tasks r s2 ∧ y = ⟨l, r⟩ ∧ s = s1 ++ s2 from h)
 rw [List.nodup_append] at hn
 obtain ⟨n1, n2, d⟩ := hn
 have hsum := hs.sum
 have hr := hs.rooms
 have ht := hs.tasks
 dsimp only at hsum hr ht
 have hle := Rsg Rjk r
 refine Ok.bnd (Rwe (k := 1) h1 hr (by omega) (by omega)) fun q1 ⟨e3, t1, o1⟩ => ?_
 refine Ok.bnd (Rka (k := q1.1) (h2.only o1 fun n hn hm => d n hm n hn rfl) n2 (by omega) ht (by omega)) fun q2 ⟨e4, t2, o2⟩ => ?_
 rw [e3] at t2
 exact Ok.of ⟨by dsimp only [nP]; omega, ⟨_, _, s1, s2, t1.only o2 (fun n hn hm => d n hn n hm rfl), t2, rfl, rfl⟩, (o1.mono fun n hn => by simp [hn]).trans (o2.mono fun n hn => by simp [hn])⟩
theorem Rpj {a : List (List Stm)} (hl : (a.length : Int) ≤ 4294967296) (hp : ∀ e ∈ a, Rdf e e = some true) : ∀ (d i : Nat), i + d = a.length → Rel a a i = some (.inl ())
 | 0, i, hd => by
  apply Rgz
  have hi : ¬ ((i : Int) < a.length) := by omega
  simp [hi]
 | d + 1, i, hd => by
  apply Rgz
  have hi : i < a.length := by omega
  have hi' : (i : Int) < a.length := by omega
  rw [Rbk hi, Rav (by omega)]
  simp only [hi', Zy, Zt, Qb, hp _ (List.getElem_mem hi), Zv, Zf]
  exact Rpj hl hp d (i + 1) (by omega)
theorem Rld {a : List (List Stm)} (hl : (a.length : Int) ≤ 4294967296) (hp : ∀ e ∈ a, Rdf e e = some true) : Riq a a = some true := by
 apply Rne
 rw [show (0 : Int) = ((0 : Nat) : Int) by rfl, Rpj hl hp a.length 0 (by omega)]
 simp [selm]
def mLs : List (List Stm) → Nat
 | [] => 0
 | e :: r => 1 + mSs e + mLs r
theorem Ruh : ∀ l : List (List Stm), l.length ≤ mLs l
 | [] => Nat.le_refl _
 | e :: r => by have := Ruh r; simp only [mLs, Zc]; omega
theorem Rui : ∀ {l : List (List Stm)} {e : List Stm}, e ∈ l → mSs e < mLs l
 | [], e, h => by cases h
 | a :: r, e, h => by
  simp only [mLs]
  rcases List.mem_cons.1 h with rfl | h
  ·omega
  ·have := Rui h; omega
def mP (p : Prg) : Nat := p.rooms.length + mLs p.tasks
theorem Rtc {p : Prg} (h : mP p ≤ 4294960000) : (p.rooms.length : Int) ≤ 4294960000 ∧ (p.tasks.length : Int) ≤ 4294960000 ∧ ∀ x ∈ p.tasks, mSs x ≤ 4294960000 := by
 have h1 := Ruh p.tasks
 unfold mP at h
 exact ⟨by omega, by omega, fun x hx => by have := Rui hx; omega⟩
theorem Rko {p : Prg} (h : mP p ≤ 4294960000) : Reh p p = some true := by
 apply Rmf
 obtain ⟨h1, h2, h3⟩ := Rtc h
 rw [Rnd (by omega), Qb, Rld (by omega) (fun x hx => Rmg (by have := h3 x hx; omega))]
 rfl
theorem Rtq : ∀ l : List (List Stm), wsum (fun y => 5 * mSs y) l ≤ 5 * mLs l
 | [] => by simp [wsum, mLs]
 | x :: r => by have := Rtq r; simp only [wsum, mLs]; omega
theorem mP_szP {p : Prg} (h : mP p ≤ 1048576) : SzP p := by
 obtain ⟨h1, h2, h3⟩ := Rtc (p := p) (by omega)
 have := Rtq p.tasks
 unfold mP at h
 exact ⟨by omega, by omega, by omega⟩
theorem Rhr {A B : List Ent} {x : ExpH} {e : Exp} {s : List Nat} (h : MkR A .expH x e B s) : x.op = e.op ∧ x.n = e.n ∧ Mk A .expH e.args x.args B s := by
 obtain ⟨as, t, he⟩ := (show ∃ as, Tr B .expH x.args as s ∧ e = ⟨x.op, x.n, as⟩ from h.rw_)
 have h1 : e.op = x.op := by rw [he]
 have h2 : e.n = x.n := by rw [he]
 have h3 : e.args = as := by rw [he]
 subst h3
 exact ⟨h1.symm, h2.symm, t, h.nd, h.new, h.grow⟩
theorem Rwa (e : Exp) : (⟨e.op, e.n, e.args⟩ : Exp) = e := by cases e; rfl
theorem Rrb {A B : List Ent} {h : Hd} {e : Exp} {s : List Nat} (m : Mk A .expH e.args h B s) : MkR A .expH ⟨e.op, e.n, h⟩ e B s := by
 have := MkR.exp m e.op e.n
 rw [Rwa] at this
 exact this
theorem mk_two {A B D : List Ent} {c : TC} {x x2 : Den c} {y y2 : Den c.seen} {s s2 : List Nat} (hf : Qpm c) (r1 : MkR A c x y B s) (r2 : MkR B c x2 y2 D s2) : ∃ ids, Mk A c [y, y2] ⟨some D.length, 2⟩ (Qao D c [x, x2]) ids := by
 have g1 := r2.grow
 have hx : Grow D (Qao D c [x, x2]) := (Grow.refl D).push hf
 have q1 := (r1.keep g1).keep hx
 have q2 := r2.keep hx
 have T : Ls (Qao D c [x, x2]) c ⟨some D.length, 2⟩ [y, y2] [x, x2] [s, s2] := by
  refine ⟨Qbq, rfl, rfl, rfl, fun j a b t ha hb ht => ?_⟩
  match j, ha, hb, ht with
  | 0, ha, hb, ht =>
   simp at ha hb ht
   subst ha hb ht
   exact q1.rw_
  | 1, ha, hb, ht =>
   simp at ha hb ht
   subst ha hb ht
   exact q2.rw_
  | j + 2, ha, _, _ => simp at ha
 have l1 := r1.rw_.lt
 have l2 := r2.rw_.lt
 have hAB := r1.grow.len
 have hBD := g1.len
 refine ⟨_, T.tr, ?_, fun n hn => ?_, (r1.grow.trans g1).trans hx⟩
 ·simp only [Option.toList_some, List.flatten_cons, List.flatten_nil, List.append_nil]
  refine Qfb (by simp) (Qfb r1.nd r2.nd fun n hn hm => ?_) (fun n hn hm => ?_)
  ·have := l1 n hn
   have := r2.new n hm
   omega
  ·simp at hn
   subst hn
   rcases List.mem_append.1 hm with hm | hm
   ·have := l1 _ hm; omega
   ·have := l2 _ hm; omega
 ·simp only [Option.toList_some, List.flatten_cons, List.flatten_nil, List.append_nil] at hn
  rcases List.mem_append.1 hn with hn | hn
  ·simp at hn; omega
  ·rcases List.mem_append.1 hn with hn | hn
   ·exact r1.new n hn
   ·have := r2.new n hn; omega
def IAp (L : List Tok) (A : List Ent) (f : Option (ExpH × List Tok × Int × Bool × List Ent)) (o : Out) : Prop := match o with
 | some (e, r) => Ok f fun q => (∃ s, MkR A .expH q.1 e q.2.2.2.2 s) ∧ q.2.1 = L ∧ q.2.2.1 = (plc L r : Int) ∧ q.2.2.2.1 = false
 | none => Ok f fun q => q.2.1 = L ∧ q.2.2.2.1 = true ∧ Grow A q.2.2.2.2
def ILp (L : List Tok) (A : List Ent) (f : Option (List Tok × Int × Bool × Int × Int × Hd × Int × Int × Hd × List Ent)) (o : Out) : Prop := match o with
 | some (e, r) => Ok f fun q => q.1 = L ∧ q.2.1 = (plc L r : Int) ∧ q.2.2.1 = false ∧ q.2.2.2.2.2.2.1 = e.op ∧ q.2.2.2.2.2.2.2.1 = e.n ∧ ∃ ids, Mk A .expH e.args q.2.2.2.2.2.2.2.2.1 q.2.2.2.2.2.2.2.2.2 ids
 | none => Ok f fun q => q.1 = L ∧ q.2.2.1 = true ∧ Grow A q.2.2.2.2.2.2.2.2.2
theorem Rru (A : List Ent) (op n : Int) : MkR A .expH ⟨op, n, ⟨none, 0⟩⟩ ⟨op, n, []⟩ A [] := MkR.exp (Mk.nil .expH (Grow.refl A)) op n
theorem impl_Cp : ∀ {j : J} {l : List Tok} {o : Out}, C j l o → ∀ L : List Tok, L.length ≤ 20000 → (∀ t ∈ L, gt t) → Suf L l → match j with
  | .opd => ∀ A, IAp L A (Rcq L (plc L l) false A) o
  | .lev k => k ≤ 9 → 1 ≤ k → ∀ A, IAp L A (Ri (k : Int) L (plc L l) false A) o
  | .loop k e => k ≤ 9 → 1 ≤ k → ∀ A B hd ids, Mk A .expH e.args hd B ids → ILp L A (Rad (k : Int) L (plc L l) false 0 0 ⟨none, 0⟩ e.op e.n hd B) o := by
 intro j l o h
 induction h with
 | nil =>
  intro L hL hg hs A
  obtain ⟨p, hp⟩ := Rns L
  have hv : Re L (L.length : Int) false = some (0, L, p, true) := by
   apply Rbe
   rw [hp, Qb]
   simp
  refine Ok.le (Rp _ _ _ _) ?_
  rw [Rdc, Ris, Qb]
  simp only [show (([] : List UInt8) == [40]) = false from rfl, Zf, show (([] : List UInt8) == []) = true from rfl, Zv, hv, Qb]
  exact Ok.of ⟨rfl, rfl, Grow.refl A⟩
 | @atom t l e h1 h2 =>
  intro L hL hg hs A
  obtain ⟨c, r, rfl, hd⟩ := hg t hs.mem
  refine Ok.le (Rp _ _ _ _) ?_
  have hb : ((c :: r : Tok) == [40]) = false := by rw [beq_eq_false_iff_ne]; exact h1
  rw [Rap hs, Qb]
  simp only [hb, Zf, show ((c :: r : List UInt8) == []) = false from rfl, Zx, Zt, Rky, Qb, Rbc]
  cases hc : dg c
  ·have hn : ¬ 0 ≤ numV (c :: r) := fun h => by have := Rrz h c (List.mem_cons_self ..); rw [hc] at this; cases this
   obtain ⟨hv, he⟩ := Rjs h2 hn
   simp only [Zf, (Rea hL hs (by simp)).1 hv, Qb]
   rw [he]
   exact Ok.of ⟨⟨_, Rru A 13 _⟩, rfl, rfl, rfl⟩
  ·by_cases hn : 0 ≤ numV (c :: r)
   ·simp only [Zt, (Rfw hL hs (hd hc)).1 hn, Qb]
    rw [Rnr h2 hn]
    exact Ok.of ⟨⟨_, Rru A 0 _⟩, rfl, rfl, rfl⟩
   ·exfalso
    obtain ⟨hv, he⟩ := Rjs h2 hn
    have hcr := of_decide_eq_true hc
    unfold varV at hv
    split at hv
    ·rename_i c' heq
     injection heq with e1 e2; subst e1
     rw [if_neg (by omega)] at hv; omega
    ·omega
 | @bad t l h1 h2 =>
  intro L hL hg hs A
  obtain ⟨c, r, rfl, hd⟩ := hg t hs.mem
  unfold atom at h2
  have hn : ¬ 0 ≤ numV (c :: r) := by intro h; rw [if_pos h] at h2; cases h2
  rw [if_neg hn] at h2
  have hv : ¬ 0 ≤ varV (c :: r) := by intro h; rw [if_pos h] at h2; cases h2
  have hb : ((c :: r : Tok) == [40]) = false := by rw [beq_eq_false_iff_ne]; exact h1
  refine Ok.le (Rp _ _ _ _) ?_
  rw [Rap hs, Qb]
  cases hc : dg c
  ·simp only [hb, Zf, show ((c :: r : List UInt8) == []) = false from rfl, Zx, Zt, Rky, Qb, Rbc, hc, (Rea hL hs (by simp)).2 hv]
   exact Ok.of ⟨rfl, rfl, Grow.refl A⟩
  ·simp only [hb, Zf, show ((c :: r : List UInt8) == []) = false from rfl, Zx, Zt, Rky, Qb, Rbc, hc, (Rfw hL hs (hd hc)).2 hn]
   exact Ok.of ⟨rfl, rfl, Grow.refl A⟩
 | @par l r e h ih =>
  intro L hL hg hs A
  obtain ⟨hs2, hp, hlt, _⟩ := hs.tail
  have h1 := ih L hL hg hs2 (by omega) (Nat.le_refl 1) A
  have hs3 := hs2.trans (Rqo h _ _ rfl)
  refine Ok.le (Rp _ _ _ _) ?_
  rw [Rap hs, Qb]
  simp only [show (lp == [40]) = true from rfl, Zt]
  rw [w1n (by omega), hp]
  refine Ok.bnd h1 fun q ⟨⟨s, q1⟩, q2, q3, q4⟩ => ?_
  rw [q2, q3, q4, Rrd hL hs3, Qb]
  exact Ok.of ⟨⟨s, q1⟩, rfl, rfl, rfl⟩
 | @parN l h ih =>
  intro L hL hg hs A
  obtain ⟨hs2, hp, hlt, _⟩ := hs.tail
  have h1 := ih L hL hg hs2 (by omega) (Nat.le_refl 1) A
  refine Ok.le (Rp _ _ _ _) ?_
  rw [Rap hs, Qb]
  simp only [show (lp == [40]) = true from rfl, Zt]
  rw [w1n (by omega), hp]
  refine Ok.bnd h1 fun q ⟨q1, q2, q3⟩ => ?_
  rw [q1, q2, Rrc, Qb]
  exact Ok.of ⟨rfl, rfl, q3⟩
 | @parE l e h ih =>
  intro L hL hg hs A
  obtain ⟨hs2, hp, hlt, _⟩ := hs.tail
  have h1 := ih L hL hg hs2 (by omega) (Nat.le_refl 1) A
  refine Ok.le (Rp _ _ _ _) ?_
  rw [Rap hs, Qb]
  simp only [show (lp == [40]) = true from rfl, Zt]
  rw [w1n (by omega), hp]
  refine Ok.bnd h1 fun q ⟨⟨s, q1⟩, q2, q3, q4⟩ => ?_
  rw [q2, q3, q4, Rdc, Rte, Qb]
  exact Ok.of ⟨rfl, rfl, q1.grow⟩
 | @parB l r t e h hn ih =>
  intro L hL hg hs A
  obtain ⟨hs2, hp, hlt, _⟩ := hs.tail
  have h1 := ih L hL hg hs2 (by omega) (Nat.le_refl 1) A
  have hs3 := hs2.trans (Rqo h _ _ rfl)
  refine Ok.le (Rp _ _ _ _) ?_
  rw [Rap hs, Qb]
  simp only [show (lp == [40]) = true from rfl, Zt]
  rw [w1n (by omega), hp]
  refine Ok.bnd h1 fun q ⟨⟨s, q1⟩, q2, q3, q4⟩ => ?_
  rw [q2, q3, q4, Rtd hs3 hn, Qb]
  exact Ok.of ⟨rfl, rfl, q1.grow⟩
 | @exN k l h ih =>
  intro L hL hg hs k9 k1 A
  have h1 := ih L hL hg hs A
  refine Ok.le (Rco _ _ _ _ _) ?_
  refine Ok.bnd h1 fun q ⟨q1, q2, q3⟩ => ?_
  have hl : Rad (k : Int) q.2.1 q.2.2.1 q.2.2.2.1 0 0 ⟨none, 0⟩ q.1.op q.1.n q.1.args q.2.2.2.2 = some (q.2.1, q.2.2.1, q.2.2.2.1, 0, 0, ⟨none, 0⟩, q.1.op, q.1.n, q.1.args, q.2.2.2.2) := by
   apply Ral
   simp only [q2, Zv, Zf]
  rw [hl, Qb]
  exact Ok.of ⟨q1, q2, q3⟩
 | @ex k l r e o h1 h2 ih1 ih2 =>
  intro L hL hg hs k9 k1 A
  have e1 := ih1 L hL hg hs A
  have hs3 := hs.trans (Rqo h1 _ _ rfl)
  cases o with
  | none =>
   refine Ok.le (Rco _ _ _ _ _) ?_
   refine Ok.bnd e1 fun q ⟨⟨s, q1⟩, q2, q3, q4⟩ => ?_
   obtain ⟨o1, o2, om⟩ := Rhr q1
   have e2 := ih2 L hL hg hs3 k9 k1 A q.2.2.2.2 q.1.args s om
   rw [q2, q3, q4, o1, o2]
   exact Ok.bnd e2 fun w ⟨w1, w2, w3⟩ => Ok.of ⟨w1, w2, w3⟩
  | some q' =>
   refine Ok.le (Rco _ _ _ _ _) ?_
   refine Ok.bnd e1 fun q ⟨⟨s, q1⟩, q2, q3, q4⟩ => ?_
   obtain ⟨o1, o2, om⟩ := Rhr q1
   have e2 := ih2 L hL hg hs3 k9 k1 A q.2.2.2.2 q.1.args s om
   rw [q2, q3, q4, o1, o2]
   refine Ok.bnd e2 fun w ⟨w1, w2, w3, w4, w5, ids, w6⟩ => ?_
   refine Ok.of ⟨⟨ids, ?_⟩, w1, w2, w3⟩
   dsimp only
   rw [w4, w5]
   exact Rrb w6
 | @stop k e l hn =>
  intro L hL hg hs k9 k1 A B hd ids hm
  refine Ok.le (Ral _ _ _ _ _ _ _ _ _ _ _) ?_
  simp only [Zx, Zt]
  cases l with
  | nil =>
   rw [Rdc, Ris, Qb, Rbw, Rul, Qb]
   simp only [Int.ofNat_zero, Int.natCast_zero, Zy, Zt]
   exact Ok.of ⟨rfl, rfl, rfl, rfl, rfl, ids, hm⟩
  | cons t l =>
   rw [Rap hs, Qb, Rbw, Qb]
   by_cases h0 : opN t = 0
   ·simp only [h0, Int.ofNat_zero, Int.natCast_zero, Zy, Zt]
    exact Ok.of ⟨rfl, rfl, rfl, rfl, rfl, ids, hm⟩
   ·have c0 : ¬ ((opN t : Int) = 0) := by omega
    have c1 : ((levN (opN t) : Int) < (k : Int)) := by
     have : levN (opN t) < k := hn
     omega
    simp only [c0, Zz, Zf, Rcj (Rli t), Qb, c1, Zy, Zt]
    exact Ok.of ⟨rfl, rfl, rfl, rfl, rfl, ids, hm⟩
 | @step k e b t l r o hl h1 h2 ih1 ih2 =>
  intro L hL hg hs k9 k1 A B hd ids hm
  obtain ⟨hs2, hp, hlt, _⟩ := hs.tail
  have hs3 := hs2.trans (Rqo h1 _ _ rfl)
  have l8 := Roe (opN t)
  have e1 := ih1 L hL hg hs2 (by omega) (by omega) B
  have h0 : ¬ opN t = 0 := by intro h; rw [h] at hl; have : levN 0 = 0 := rfl; omega
  have c0 : ¬ ((opN t : Int) = 0) := by omega
  have c1 : ¬ ((levN (opN t) : Int) < (k : Int)) := by omega
  obtain ⟨q, eq, ⟨s, q1⟩, q2, q3, q4⟩ := e1
  obtain ⟨ids2, m2⟩ := mk_two flatC_expH (Rrb hm) q1
  have e2 := ih2 L hL hg hs3 k9 k1 A _ _ ids2 m2
  have step : ∀ y, Rad (k : Int) L (plc L r) false 0 0 ⟨none, 0⟩ (opN t : Int) 0 ⟨some q.2.2.2.2.length, 2⟩ (Qao q.2.2.2.2 .expH ([⟨e.op, e.n, hd⟩, q.1] : List ExpH)) = some y → Rad (k : Int) L (plc L (t :: l)) false 0 0 ⟨none, 0⟩ e.op e.n hd B = some y := by
   intro y hy
   apply Ral
   simp only [Zx, Zt]
   rw [Rap hs, Qb, Rbw, Qb]
   simp only [c0, Zz, Zf, Rcj (Rli t), Qb, c1]
   rw [w1n (n := levN (opN t)) (by omega), w1n (n := plc L (t :: l)) (by omega), hp, show Ri ((levN (opN t) + 1 : Nat) : Int) L (plc L l) false B = _ from eq, Qb, q2, q3, q4]
   exact hy
  cases o with
  | none =>
   obtain ⟨y, ey, py⟩ := e2
   exact ⟨y, step _ ey, py⟩
  | some q' =>
   obtain ⟨y, ey, py⟩ := e2
   exact ⟨y, step _ ey, py⟩
 | @stepN k e t l hl h ih =>
  intro L hL hg hs k9 k1 A B hd ids hm
  obtain ⟨hs2, hp, hlt, _⟩ := hs.tail
  have l8 := Roe (opN t)
  obtain ⟨q, eq, q1, q2, q3⟩ := ih L hL hg hs2 (by omega) (by omega) B
  have h0 : ¬ opN t = 0 := by intro h; rw [h] at hl; have : levN 0 = 0 := rfl; omega
  have c0 : ¬ ((opN t : Int) = 0) := by omega
  have c1 : ¬ ((levN (opN t) : Int) < (k : Int)) := by omega
  refine Ok.le (Ral _ _ _ _ _ _ _ _ _ _ _) ?_
  simp only [Zx, Zt]
  rw [Rap hs, Qb, Rbw, Qb]
  simp only [c0, Zz, Zf, Rcj (Rli t), Qb, c1]
  rw [w1n (n := levN (opN t)) (by omega), w1n (n := plc L (t :: l)) (by omega), hp, show Ri ((levN (opN t) + 1 : Nat) : Int) L (plc L l) false B = _ from eq, Qb]
  refine Ok.le (Ral _ _ _ _ _ _ _ _ _ _ _) ?_
  simp only [q2, Zv, Zf]
  exact Ok.of ⟨q1, rfl, (hm.grow.trans q3).push flatC_expH⟩
noncomputable def ex1 (l : List Tok) : Out := Classical.choose (Rlw (l.length + 1) (.lev 1) l (Nat.le_refl 1) (Nat.lt_succ_self _))
theorem Rtr (l : List Tok) : P (.lev 1) l (ex1 l) := Classical.choose_spec (Rlw (l.length + 1) (.lev 1) l (Nat.le_refl 1) (Nat.lt_succ_self _))
theorem Ril {l : List Tok} {e : Exp} {r : List Tok} (h : ex1 l = some (e, r)) : (∃ p, l = p ++ r) ∧ r.length < l.length := Rrk (h ▸ Rtr l) e r rfl
def kIf : Tok := [105, 102]
def Rde : Tok := [119, 104, 105, 108, 101]
def Rjy : Tok := [115, 101, 110, 100]
def Rlc : Tok := [114, 101, 99, 118]
def Riy : Tok := [121, 105, 101, 108, 100]
def Rkf : Tok := [112, 114, 105, 110, 116]
def Rmd : Tok := [101, 108, 115, 101]
def kBox : Tok := [98, 111, 120]
def Rkm : Tok := [116, 97, 115, 107]
def kL : Tok := [123]
def kR : Tok := [125]
def kS : Tok := [59]
def kE : Tok := [61]
def nd (k : Tok) : List Tok → Option (List Tok)
 | t :: l => if t = k then some l else none
 | [] => none
def nu : List Tok → Option (Int × List Tok)
 | t :: l => if 0 ≤ numV t then some (numV t, l) else none
 | [] => none
def va : List Tok → Option (Int × List Tok)
 | t :: l => if 0 ≤ varV t then some (varV t, l) else none
 | [] => none
noncomputable def en (l : List Tok) : Out := (ex1 l).bind fun p => (nd kS p.2).map fun r => (p.1, r)
abbrev GO := Option (List Stm × List Tok)
noncomputable def smp : List Tok → GO
 | [] => none
 | t :: l =>
  if t = Rjy then (nu l).bind fun p => (en p.2).map fun q => ([⟨4, 0, p.1, q.1, [], []⟩], q.2)
  else if t = Rlc then (nu l).bind fun p => (va p.2).bind fun q => (nd kS q.2).map fun r => ([⟨5, q.1, p.1, ⟨0, 0, []⟩, [], []⟩], r)
  else if t = Riy then (nd kS l).map fun r => ([⟨6, 0, 0, ⟨0, 0, []⟩, [], []⟩], r)
  else if t = Rkf then (en l).map fun q => ([⟨7, 0, 0, q.1, [], []⟩], q.2)
  else (va (t :: l)).bind fun p => (nd kE p.2).bind fun r => (en r).map fun q => ([⟨1, p.1, 0, q.1, [], []⟩], q.2)
inductive K where
 | st
 | bk
 | lp (acc : List Stm)
inductive G : K → List Tok → GO → Prop
 | bk0 {l : List Tok} : nd kL l = none → G .bk l none
 | bk {l : List Tok} {o : GO} : G (.lp []) l o → G .bk (kL :: l) o
 | lpE {a : List Stm} : G (.lp a) [] none
 | lpS {a : List Stm} {l : List Tok} : G (.lp a) (kR :: l) (some (a, l))
 | lpN {a : List Stm} {t : Tok} {l : List Tok} : t ≠ kR → G .st (t :: l) none → G (.lp a) (t :: l) none
 | lpC {a : List Stm} {t : Tok} {l r : List Tok} {s : Stm} {o : GO} : t ≠ kR → G .st (t :: l) (some ([s], r)) → G (.lp (a ++ [s])) r o → G (.lp a) (t :: l) o
 | smp {t : Tok} {l : List Tok} {o : GO} : t ≠ kIf → t ≠ Rde → smp (t :: l) = o → G .st (t :: l) o
 | ifN {l : List Tok} : ex1 l = none → G .st (kIf :: l) none
 | ifB {l r : List Tok} {e : Exp} : ex1 l = some (e, r) → G .bk r none → G .st (kIf :: l) none
 | if1 {l r r2 : List Tok} {e : Exp} {b : List Stm} : ex1 l = some (e, r) → G .bk r (some (b, r2)) → nd Rmd r2 = none → G .st (kIf :: l) (some ([⟨2, 0, 0, e, b, []⟩], r2))
 | if2 {l r r2 r3 : List Tok} {e : Exp} {b c : List Stm} : ex1 l = some (e, r) → G .bk r (some (b, Rmd :: r2)) → G .bk r2 (some (c, r3)) → G .st (kIf :: l) (some ([⟨2, 0, 0, e, b, c⟩], r3))
 | if3 {l r r2 : List Tok} {e : Exp} {b : List Stm} : ex1 l = some (e, r) → G .bk r (some (b, Rmd :: r2)) → G .bk r2 none → G .st (kIf :: l) none
 | whN {l : List Tok} : ex1 l = none → G .st (Rde :: l) none
 | whB {l r : List Tok} {e : Exp} : ex1 l = some (e, r) → G .bk r none → G .st (Rde :: l) none
 | wh {l r r2 : List Tok} {e : Exp} {b : List Stm} : ex1 l = some (e, r) → G .bk r (some (b, r2)) → G .st (Rde :: l) (some ([⟨3, 0, 0, e, b, []⟩], r2))
theorem Rcy {k : Tok} {l r : List Tok} (h : nd k l = some r) : l = k :: r := by
 cases l with
 | nil => cases h
 | cons t l =>
  simp only [nd] at h
  split at h
  ·rename_i hk; injection h with h; rw [hk, h]
  ·cases h
theorem Rjl {l r : List Tok} {n : Int} (h : nu l = some (n, r)) : ∃ t, l = t :: r ∧ 0 ≤ numV t ∧ n = numV t := by
 cases l with
 | nil => cases h
 | cons t l =>
  simp only [nu] at h
  split at h
  ·rename_i hk; injection h with h; injection h with a b; subst a b; exact ⟨t, rfl, hk, rfl⟩
  ·cases h
theorem Rsf {l r : List Tok} {n : Int} (h : va l = some (n, r)) : ∃ t, l = t :: r ∧ 0 ≤ varV t ∧ n = varV t := by
 cases l with
 | nil => cases h
 | cons t l =>
  simp only [va] at h
  split at h
  ·rename_i hk; injection h with h; injection h with a b; subst a b; exact ⟨t, rfl, hk, rfl⟩
  ·cases h
theorem Rrn {l r : List Tok} {e : Exp} (h : en l = some (e, r)) : ex1 l = some (e, kS :: r) := by
 unfold en at h
 cases hx : ex1 l with
 | none => rw [hx] at h; cases h
 | some p =>
  rw [hx] at h
  simp only [Option.bind_some, Option.map_eq_some_iff] at h
  obtain ⟨q, h1, h2⟩ := h
  injection h2 with a b
  subst a b
  have := Rcy h1
  rw [← this]
theorem Rqj {t : Tok} {l r : List Tok} {b : List Stm} (h : smp (t :: l) = some (b, r)) : ∃ s, b = [s] ∧
    ((∃ u e, t = Rjy ∧ 0 ≤ numV u ∧ (∃ r1, l = u :: r1 ∧ ex1 r1 = some (e, kS :: r)) ∧ s = ⟨4, 0, numV u, e, [], []⟩) ∨
     (∃ u w, t = Rlc ∧ 0 ≤ numV u ∧ 0 ≤ varV w ∧ l = u :: w :: kS :: r ∧ s = ⟨5, varV w, numV u, ⟨0, 0, []⟩, [], []⟩) ∨
     (t = Riy ∧ l = kS :: r ∧ s = ⟨6, 0, 0, ⟨0, 0, []⟩, [], []⟩) ∨
     (∃ e, t = Rkf ∧ ex1 l = some (e, kS :: r) ∧ s = ⟨7, 0, 0, e, [], []⟩) ∨
     (∃ e, t ≠ Rjy ∧ t ≠ Rlc ∧ t ≠ Riy ∧ t ≠ Rkf ∧ 0 ≤ varV t ∧ (∃ r1, l = kE :: r1 ∧ ex1 r1 = some (e, kS :: r)) ∧ s = ⟨1, varV t, 0, e, [], []⟩)) := by
  simp only [smp] at h
  split at h
  · rename_i hk
    cases h1 : nu l with
    | none => rw [h1] at h; cases h
    | some p =>
      obtain ⟨n, l1⟩ := p
      rw [h1] at h
      simp only [Option.bind_some, Option.map_eq_some_iff] at h
      obtain ⟨⟨e, r1⟩, h2, h3⟩ := h
      injection h3 with a b
      subst a b
      obtain ⟨u, rfl, hu, rfl⟩ := Rjl h1
      exact ⟨_, rfl, Or.inl ⟨u, e, hk, hu, ⟨_, rfl, Rrn h2⟩, rfl⟩⟩
  · split at h
    · rename_i hk
      cases h1 : nu l with
      | none => rw [h1] at h; cases h
      | some p =>
        obtain ⟨n, l1⟩ := p
        rw [h1] at h
        simp only [Option.bind_some] at h
        cases h2 : va l1 with
        | none => rw [h2] at h; cases h
        | some q =>
          obtain ⟨v, l2⟩ := q
          rw [h2] at h
          simp only [Option.bind_some, Option.map_eq_some_iff] at h
          obtain ⟨r1, h3, h4⟩ := h
          injection h4 with a b
          subst a b
          obtain ⟨u, rfl, hu, rfl⟩ := Rjl h1
          obtain ⟨w, rfl, hw, rfl⟩ := Rsf h2
          have := Rcy h3
          subst this
          exact ⟨_, rfl, Or.inr (Or.inl ⟨u, w, hk, hu, hw, rfl, rfl⟩)⟩
    · split at h
      · rename_i hk
        simp only [Option.map_eq_some_iff] at h
        obtain ⟨r1, h3, h4⟩ := h
        injection h4 with a b
        subst a b
        exact ⟨_, rfl, Or.inr (Or.inr (Or.inl ⟨hk, Rcy h3, rfl⟩))⟩
      · split at h
        · rename_i hk
          simp only [Option.map_eq_some_iff] at h
          obtain ⟨⟨e, r1⟩, h3, h4⟩ := h
          injection h4 with a b
          subst a b
          exact ⟨_, rfl, Or.inr (Or.inr (Or.inr (Or.inl ⟨e, hk, Rrn h3, rfl⟩)))⟩
        · rename_i k1 k2 k3 k4
          cases h1 : va (t :: l) with
          | none => rw [h1] at h; cases h
          | some p =>
            obtain ⟨v, l1⟩ := p
            rw [h1] at h
            simp only [Option.bind_some] at h
            cases h2 : nd kE l1 with
            | none => rw [h2] at h; cases h
            | some q =>
              rw [h2] at h
              simp only [Option.bind_some, Option.map_eq_some_iff] at h
              obtain ⟨⟨e, r1⟩, h3, h4⟩ := h
              injection h4 with a b
              subst a b
              obtain ⟨u, hu1, hu, rfl⟩ := Rsf h1
              injection hu1 with a b
              subst a b
              have := Rcy h2
              exact ⟨_, rfl, Or.inr (Or.inr (Or.inr (Or.inr ⟨e, k1, k2, k3, k4, hu, ⟨_, this, Rrn h3⟩, rfl⟩)))⟩
theorem Rq (k : Tok) (l : List Tok) : nd k (k :: l) = some l := by simp [nd]
theorem Rry {u : Tok} (h : 0 ≤ numV u) (l : List Tok) : nu (u :: l) = some (numV u, l) := by simp only [nu]; rw [if_pos h]
theorem Rse {u : Tok} (h : 0 ≤ varV u) (l : List Tok) : va (u :: l) = some (varV u, l) := by simp only [va]; rw [if_pos h]
theorem smp_suf {t : Tok} {l r : List Tok} {b : List Stm} (h : smp (t :: l) = some (b, r)) : (∃ p, t :: l = p ++ r) ∧ r.length < (t :: l).length := by
 obtain ⟨s, rfl, hh⟩ := Rqj h
 clear h
 rcases hh with ⟨u, e, rfl, hu, ⟨r1, rfl, h⟩, rfl⟩ | ⟨u, w, rfl, hu, hw, rfl, rfl⟩ | ⟨rfl, rfl, rfl⟩ | ⟨e, rfl, h, rfl⟩ | ⟨e, _, _, _, _, hv, ⟨r1, rfl, h⟩, rfl⟩
 ·obtain ⟨⟨p, hp⟩, hl⟩ := Ril h
  exact ⟨⟨Rjy :: u :: p ++ [kS], by rw [hp]; simp⟩, by simp only [Zc] at *; omega⟩
 ·exact ⟨⟨[Rlc, u, w, kS], rfl⟩, by simp only [Zc]; omega⟩
 ·exact ⟨⟨[Riy, kS], rfl⟩, by simp only [Zc]; omega⟩
 ·obtain ⟨⟨p, hp⟩, hl⟩ := Ril h
  exact ⟨⟨Rkf :: p ++ [kS], by rw [hp]; simp⟩, by simp only [Zc] at *; omega⟩
 ·obtain ⟨⟨p, hp⟩, hl⟩ := Ril h
  exact ⟨⟨t :: kE :: p ++ [kS], by rw [hp]; simp⟩, by simp only [Zc] at *; omega⟩
theorem Rik : ∀ {j : K} {l : List Tok} {o : GO}, G j l o → ∀ b r, o = some (b, r) → (∃ p, l = p ++ r) ∧ r.length < l.length := by
 intro j l o h
 induction h with
 | bk0 _ => intro b r ho; cases ho
 | bk h ih =>
  intro b r ho
  obtain ⟨⟨p, hp⟩, hl⟩ := ih b r ho
  exact ⟨⟨kL :: p, by rw [hp]; rfl⟩, by simp only [Zc]; omega⟩
 | lpE => intro b r ho; cases ho
 | lpS => intro b r ho; injection ho with ho; injection ho with a c; subst a c; exact ⟨⟨[kR], rfl⟩, by simp⟩
 | lpN _ _ _ => intro b r ho; cases ho
 | lpC _ _ _ ih1 ih2 =>
  intro b r ho
  obtain ⟨⟨p, hp⟩, hl⟩ := ih1 _ _ rfl
  obtain ⟨⟨q, hq⟩, hl2⟩ := ih2 b r ho
  exact ⟨⟨p ++ q, by rw [hp, hq, List.append_assoc]⟩, by omega⟩
 | smp _ _ h => intro b r ho; rw [ho] at h; exact smp_suf h
 | ifN _ => intro b r ho; cases ho
 | ifB _ _ _ => intro b r ho; cases ho
 | if1 h1 _ _ ih =>
  intro b r ho
  injection ho with ho; injection ho with a c; subst a c
  obtain ⟨⟨p, hp⟩, hl⟩ := Ril h1
  obtain ⟨⟨q, hq⟩, hl2⟩ := ih _ _ rfl
  exact ⟨⟨kIf :: p ++ q, by rw [hp, hq]; simp⟩, by simp only [Zc]; omega⟩
 | if2 h1 _ _ ih ih2 =>
  intro b r ho
  injection ho with ho; injection ho with a c; subst a c
  obtain ⟨⟨p, hp⟩, hl⟩ := Ril h1
  obtain ⟨⟨q, hq⟩, hl2⟩ := ih _ _ rfl
  obtain ⟨⟨q2, hq2⟩, hl3⟩ := ih2 _ _ rfl
  exact ⟨⟨kIf :: p ++ q ++ Rmd :: q2, by rw [hp, hq, hq2]; simp⟩, by simp only [Zc] at *; omega⟩
 | if3 _ _ _ _ _ => intro b r ho; cases ho
 | whN _ => intro b r ho; cases ho
 | whB _ _ _ => intro b r ho; cases ho
 | wh h1 _ ih =>
  intro b r ho
  injection ho with ho; injection ho with a c; subst a c
  obtain ⟨⟨p, hp⟩, hl⟩ := Ril h1
  obtain ⟨⟨q, hq⟩, hl2⟩ := ih _ _ rfl
  exact ⟨⟨Rde :: p ++ q, by rw [hp, hq]; simp⟩, by simp only [Zc]; omega⟩
theorem G_one : ∀ {j : K} {l : List Tok} {o : GO}, G j l o → j = .st → ∀ b r, o = some (b, r) → ∃ s, b = [s] := by
 intro j l o h
 cases h with
 | smp _ _ h =>
  intro _ b r ho
  rw [ho] at h
  obtain ⟨s, hs, _⟩ := Rqj h
  exact ⟨s, hs⟩
 | if1 _ _ _ => intro _ b r ho; injection ho with ho; injection ho with a c; exact ⟨_, a.symm⟩
 | if2 _ _ _ => intro _ b r ho; injection ho with ho; injection ho with a c; exact ⟨_, a.symm⟩
 | wh _ _ => intro _ b r ho; injection ho with ho; injection ho with a c; exact ⟨_, a.symm⟩
 | ifN _ => intro _ b r ho; cases ho
 | ifB _ _ => intro _ b r ho; cases ho
 | if3 _ _ _ => intro _ b r ho; cases ho
 | whN _ => intro _ b r ho; cases ho
 | whB _ _ => intro _ b r ho; cases ho
 | _ => intro hj; cases hj
theorem Rhs {k : Tok} {l : List Tok} : nd k (k :: l) ≠ none := by rw [Rq]; simp
theorem G_det : ∀ {j : K} {l : List Tok} {o : GO}, G j l o → ∀ o', G j l o' → o = o' := by
 intro j l o h
 induction h with
 | bk0 h => intro o' h'; cases h' with | bk0 _ => rfl | bk _ => exact absurd h Rhs
 | bk h ih => intro o' h'; cases h' with | bk0 h2 => exact absurd h2 Rhs | bk h2 => exact ih _ h2
 | lpE => intro o' h'; cases h'; rfl
 | lpS => intro o' h'; cases h' with | lpS => rfl | lpN h _ => exact absurd rfl h | lpC h _ _ => exact absurd rfl h
 | lpN h1 h2 ih =>
  intro o' h'
  cases h' with
  | lpS => exact absurd rfl h1
  | lpN _ _ => rfl
  | lpC _ h3 _ => have := ih _ h3; cases this
 | lpC h1 h2 h3 ih1 ih2 =>
  intro o' h'
  cases h' with
  | lpS => exact absurd rfl h1
  | lpN _ h4 => have := ih1 _ h4; cases this
  | lpC _ h4 h5 =>
   have := ih1 _ h4
   injection this with this; injection this with a b; injection a with a
   subst a b
   exact ih2 _ h5
 | smp h1 h2 h =>
  intro o' h'
  cases h' with
  | smp _ _ h3 => rw [← h, h3]
  | ifN _ => exact absurd rfl h1
  | ifB _ _ => exact absurd rfl h1
  | if1 _ _ _ => exact absurd rfl h1
  | if2 _ _ _ => exact absurd rfl h1
  | if3 _ _ _ => exact absurd rfl h1
  | whN _ => exact absurd rfl h2
  | whB _ _ => exact absurd rfl h2
  | wh _ _ => exact absurd rfl h2
 | ifN h =>
  intro o' h'
  cases h' with
  | smp h3 _ _ => exact absurd rfl h3
  | if1 h3 _ _ => rw [h] at h3; cases h3
  | if2 h3 _ _ => rw [h] at h3; cases h3
  | _ => rfl
 | ifB h hb ih =>
  intro o' h'
  cases h' with
  | smp h3 _ _ => exact absurd rfl h3
  | if1 h3 h4 _ => rw [h] at h3; injection h3 with h3; injection h3 with a b; subst a b; have := ih _ h4; cases this
  | if2 h3 h4 _ => rw [h] at h3; injection h3 with h3; injection h3 with a b; subst a b; have := ih _ h4; cases this
  | _ => rfl
 | if1 h hb hn ih =>
  intro o' h'
  cases h' with
  | smp h3 _ _ => exact absurd rfl h3
  | ifN h3 => rw [h] at h3; cases h3
  | ifB h3 h4 => rw [h] at h3; injection h3 with h3; injection h3 with a b; subst a b; have := ih _ h4; cases this
  | if1 h3 h4 _ => rw [h] at h3; injection h3 with h3; injection h3 with a b; subst a b; have := ih _ h4; injection this with this; injection this with a b; subst a b; rfl
  | if2 h3 h4 _ => rw [h] at h3; injection h3 with h3; injection h3 with a b; subst a b; have := ih _ h4; injection this with this; injection this with a b; subst a b; exact absurd hn Rhs
  | if3 h3 h4 _ => rw [h] at h3; injection h3 with h3; injection h3 with a b; subst a b; have := ih _ h4; injection this with this; injection this with a b; subst a b; exact absurd hn Rhs
 | if2 h hb hc ih ih2 =>
  intro o' h'
  cases h' with
  | smp h3 _ _ => exact absurd rfl h3
  | ifN h3 => rw [h] at h3; cases h3
  | ifB h3 h4 => rw [h] at h3; injection h3 with h3; injection h3 with a b; subst a b; have := ih _ h4; cases this
  | if1 h3 h4 hn => rw [h] at h3; injection h3 with h3; injection h3 with a b; subst a b; have := ih _ h4; injection this with this; injection this with a b; subst a b; exact absurd hn Rhs
  | if2 h3 h4 h5 =>
   rw [h] at h3; injection h3 with h3; injection h3 with a b; subst a b
   have := ih _ h4; injection this with this; injection this with a b; injection b with b c; subst a c
   have := ih2 _ h5; injection this with this; injection this with a b; subst a b; rfl
  | if3 h3 h4 h5 =>
   rw [h] at h3; injection h3 with h3; injection h3 with a b; subst a b
   have := ih _ h4; injection this with this; injection this with a b; injection b with b c; subst a c
   have := ih2 _ h5; cases this
 | if3 h hb hc ih ih2 =>
  intro o' h'
  cases h' with
  | smp h3 _ _ => exact absurd rfl h3
  | if1 h3 h4 hn => rw [h] at h3; injection h3 with h3; injection h3 with a b; subst a b; have := ih _ h4; injection this with this; injection this with a b; subst a b; exact absurd hn Rhs
  | if2 h3 h4 h5 =>
   rw [h] at h3; injection h3 with h3; injection h3 with a b; subst a b
   have := ih _ h4; injection this with this; injection this with a b; injection b with b c; subst a c
   have := ih2 _ h5; cases this
  | _ => rfl
 | whN h =>
  intro o' h'
  cases h' with
  | smp _ h3 _ => exact absurd rfl h3
  | wh h3 _ => rw [h] at h3; cases h3
  | _ => rfl
 | whB h hb ih =>
  intro o' h'
  cases h' with
  | smp _ h3 _ => exact absurd rfl h3
  | wh h3 h4 => rw [h] at h3; injection h3 with h3; injection h3 with a b; subst a b; have := ih _ h4; cases this
  | _ => rfl
 | wh h hb ih =>
  intro o' h'
  cases h' with
  | smp _ h3 _ => exact absurd rfl h3
  | whN h3 => rw [h] at h3; cases h3
  | whB h3 h4 => rw [h] at h3; injection h3 with h3; injection h3 with a b; subst a b; have := ih _ h4; cases this
  | wh h3 h4 => rw [h] at h3; injection h3 with h3; injection h3 with a b; subst a b; have := ih _ h4; injection this with this; injection this with a b; subst a b; rfl
theorem Rlv : ∀ (n : Nat) (l : List Tok), l.length < n → (∃ o, G .st l o ∨ l = []) ∧ (∃ o, G .bk l o) ∧ (∀ a, ∃ o, G (.lp a) l o)
 | 0, _, h => by omega
 | n + 1, l, hn => by
  have st : ∃ o, G .st l o ∨ l = [] := by
   cases l with
   | nil => exact ⟨none, Or.inr rfl⟩
   | cons t l =>
    simp only [Zc] at hn
    by_cases h1 : t = kIf
    ·subst h1
     cases hx : ex1 l with
     | none => exact ⟨_, Or.inl (.ifN hx)⟩
     | some p =>
      obtain ⟨e, r⟩ := p
      have hs := (Ril hx).2
      obtain ⟨o, ho⟩ := (Rlv n r (by omega)).2.1
      cases o with
      | none => exact ⟨_, Or.inl (.ifB hx ho)⟩
      | some q =>
       obtain ⟨b, r2⟩ := q
       have hs2 := (Rik ho b r2 rfl).2
       cases he : nd Rmd r2 with
       | none => exact ⟨_, Or.inl (.if1 hx ho he)⟩
       | some r3 =>
        have := Rcy he
        subst this
        simp only [Zc] at hs2
        obtain ⟨o2, ho2⟩ := (Rlv n r3 (by omega)).2.1
        cases o2 with
        | none => exact ⟨_, Or.inl (.if3 hx ho ho2)⟩
        | some q2 => exact ⟨_, Or.inl (.if2 hx ho ho2)⟩
    ·by_cases h2 : t = Rde
     ·subst h2
      cases hx : ex1 l with
      | none => exact ⟨_, Or.inl (.whN hx)⟩
      | some p =>
       obtain ⟨e, r⟩ := p
       have hs := (Ril hx).2
       obtain ⟨o, ho⟩ := (Rlv n r (by omega)).2.1
       cases o with
       | none => exact ⟨_, Or.inl (.whB hx ho)⟩
       | some q => exact ⟨_, Or.inl (.wh hx ho)⟩
     ·exact ⟨_, Or.inl (.smp h1 h2 rfl)⟩
  have lp : ∀ a, ∃ o, G (.lp a) l o := by
   intro a
   cases l with
   | nil => exact ⟨_, .lpE⟩
   | cons t l =>
    by_cases ht : t = kR
    ·subst ht; exact ⟨_, .lpS⟩
    ·obtain ⟨o, ho | h⟩ := st
     ·cases o with
      | none => exact ⟨_, .lpN ht ho⟩
      | some q =>
       obtain ⟨b, r⟩ := q
       obtain ⟨s, rfl⟩ := G_one ho rfl b r rfl
       have hs := (Rik ho _ _ rfl).2
       obtain ⟨o2, ho2⟩ := (Rlv n r (by omega)).2.2 (a ++ [s])
       exact ⟨o2, .lpC ht ho ho2⟩
     ·cases h
  refine ⟨st, ?_, lp⟩
  cases hk : nd kL l with
  | none => exact ⟨_, .bk0 hk⟩
  | some r =>
   have := Rcy hk
   subst this
   simp only [Zc] at hn
   obtain ⟨o, ho⟩ := (Rlv n r (by omega)).2.2 []
   exact ⟨o, .bk ho⟩
theorem Rd {k : Tok} (hk : k ≠ []) {L l : List Tok} (hL : L.length ≤ 20000) (h : Suf L l) : Rb k L (plc L l) false = some (match nd k l with | some r => (true, L, (plc L r : Int), false) | none => (false, L, (plc L l : Int), false)) := by
 apply Rba
 cases l with
 | nil =>
  have hb : (([] : Tok) == k) = false := by rw [beq_eq_false_iff_ne]; exact fun e => hk e.symm
  rw [Rdc, Ris, Qb]
  simp only [hb, Zx, Zt, nd, Rdc]
 | cons t l =>
  obtain ⟨hs2, hp, hlt, hg⟩ := h.tail
  rw [Rap h, Qb]
  by_cases ht : t = k
  ·subst ht
   have hb : (t == t) = true := beq_self_eq_true t
   simp only [hb, Zv, Zf, nd, if_true]
   rw [w1n (by omega), hp]
  ·have hb : (t == k) = false := by rw [beq_eq_false_iff_ne]; exact ht
   simp only [hb, Zx, Zt, nd, ht, if_false]
theorem Rdg {k : Tok} (hk : k ≠ []) (L : List Tok) (p : Int) : Rb k L p true = some (false, L, p, true) := by
 apply Rba
 have hb : (([] : Tok) == k) = false := by rw [beq_eq_false_iff_ne]; exact fun e => hk e.symm
 rw [Rjm, Qb]
 simp only [hb, Zx, Zt]
theorem Rdr {k : Tok} (hk : k ≠ []) {L l : List Tok} (hL : L.length ≤ 20000) (h : Suf L l) : Rc k L (plc L l) false = some (match nd k l with | some r => (L, (plc L r : Int), false) | none => (L, (plc L l : Int), true)) := by
 apply Rbh
 rw [Rd hk hL h, Qb]
 cases nd k l <;> rfl
theorem Rbf {k : Tok} (hk : k ≠ []) (L : List Tok) (p : Int) : Rc k L p true = some (L, p, true) := by
 apply Rbh
 rw [Rdg hk, Qb]; rfl
theorem Rvp (L : List Tok) (p : Int) : ∃ q, Rcl L p true = some ([], L, q, true) := by
 refine ⟨wrap64 (p + 1), ?_⟩
 apply Req
 rw [Rjm, Qb]; rfl
theorem Rgv (L : List Tok) (p : Int) : ∃ q, Re L p true = some (0, L, q, true) := by
 obtain ⟨q, hq⟩ := Rvp L p
 refine ⟨q, ?_⟩
 apply Rbe
 rw [hq, Qb]; rfl
theorem Rtz (L : List Tok) (p : Int) : ∃ x q, Rg 1 L p true = some (x, L, q, true) := by
 obtain ⟨q, hq⟩ := Rgv L p
 refine ⟨⟨13, 0, []⟩, q, ?_⟩
 apply Rdi
 have h1 : Rao L p true = some (⟨13, 0, []⟩, L, q, true) := by
  apply Ro
  rw [Rjm, Qb]
  simp only [show (([] : List UInt8) == [40]) = false from rfl, Zf, show (([] : List UInt8) == []) = true from rfl, Zv, hq, Qb]
 have hl : Ran 1 L q true 0 0 false [] 13 0 .share [] = some (L, q, true, 0, 0, (false, []), 13, 0, (.share, [])) := by
  apply Rat
  simp only [Zv, Zf]
 rw [h1, Qb]
 simp only [hl, Qb]
theorem Rjt (L : List Tok) (p : Int) (m : Bool) (a : List Stm) : Rah m a L p true = some ((m, a), L, p, true) := by
 apply Rbd
 simp only [Zv, Zf]
theorem Rpf (L : List Tok) (p : Int) : Rbb L p true = some ([], L, p, true) := by
 apply Rec
 rw [Rbf (by simp), Qb]
 simp only [Rjt, Qb]
theorem Rey {L l : List Tok} (hL : L.length ≤ 20000) (hg : ∀ t ∈ L, gt t) (h : Suf L l) : match nu l with
  | some (n, r) => Rl L (plc L l) false = some (n, L, (plc L r : Int), false)
  | none => ∃ q, Rl L (plc L l) false = some (0, L, q, true) := by
 cases l with
 | nil =>
  obtain ⟨q, hq⟩ := Rns L
  refine ⟨q, ?_⟩
  apply Rcp
  rw [Rdc, hq, Qb]; rfl
 | cons t l =>
  obtain ⟨c, r, rfl, hd⟩ := hg t h.mem
  cases hc : dg c
  ·have hn : ¬ 0 ≤ numV (c :: r) := fun h => by have := Rrz h c (List.mem_cons_self ..); rw [hc] at this; cases this
   simp only [nu, hn, if_false]
   refine ⟨(plc L l : Int), ?_⟩
   apply Rcp
   rw [Rls hL h (by simp), Qb]
   have hb : ((c :: r : Tok) == []) = false := rfl
   simp only [hb, Zf]
   by_cases h5 : (5 : Int) < ((c :: r : Tok).length : Int)
   ·simp only [h5, Zy, Zt]
   ·simp only [h5, Zz, Zf, Rky, Qb, Rbc, hc, Zx, Zt]
  ·by_cases hn : 0 ≤ numV (c :: r)
   ·simp only [nu, hn, if_true]
    exact (Rfw hL h (hd hc)).1 hn
   ·simp only [nu, hn, if_false]
    exact ⟨_, (Rfw hL h (hd hc)).2 hn⟩
theorem Rht {L l : List Tok} (hL : L.length ≤ 20000) (hg : ∀ t ∈ L, gt t) (h : Suf L l) : match va l with
  | some (n, r) => Re L (plc L l) false = some (n, L, (plc L r : Int), false)
  | none => ∃ q, Re L (plc L l) false = some (0, L, q, true) := by
 cases l with
 | nil =>
  obtain ⟨q, hq⟩ := Rns L
  refine ⟨q, ?_⟩
  apply Rbe
  rw [Rdc, hq, Qb]; rfl
 | cons t l =>
  obtain ⟨c, r, rfl, hd⟩ := hg t h.mem
  by_cases hn : 0 ≤ varV (c :: r)
  ·simp only [va, hn, if_true]
   exact (Rea hL h (by simp)).1 hn
  ·simp only [va, hn, if_false]
   exact ⟨_, (Rea hL h (by simp)).2 hn⟩
theorem Rgr {L l : List Tok} (hL : L.length ≤ 20000) (hg : ∀ t ∈ L, gt t) (h : Suf L l) : IA L (Rg 1 L (plc L l) false) (ex1 l) :=
 impl_C (P_C (Rtr l)) L hL hg h (by omega) (Nat.le_refl 1)
theorem Rkg {k : Tok} {L l r : List Tok} (hs : Suf L l) (h : nd k l = some r) : Suf L r := by rw [Rcy h] at hs; exact hs.tail.1
theorem Rmt {L l r : List Tok} {n : Int} (hs : Suf L l) (h : nu l = some (n, r)) : Suf L r := by obtain ⟨t, rfl, _⟩ := Rjl h; exact hs.tail.1
theorem Rtp {L l r : List Tok} {n : Int} (hs : Suf L l) (h : va l = some (n, r)) : Suf L r := by obtain ⟨t, rfl, _⟩ := Rsf h; exact hs.tail.1
theorem Red {L l r : List Tok} {e : Exp} (hs : Suf L l) (h : ex1 l = some (e, r)) : Suf L r := hs.trans (Ril h).1
def RS (L : List Tok) (f : Option (Stm × List Tok × Int × Bool)) (o : GO) : Prop := match o with
 | some (b, r) => ∃ s, b = [s] ∧ f = some (s, L, (plc L r : Int), false)
 | none => ∃ x p, f = some (x, L, p, true)
def RB (L : List Tok) (f : Option (List Stm × List Tok × Int × Bool)) (o : GO) : Prop := match o with
 | some (b, r) => f = some (b, L, (plc L r : Int), false)
 | none => ∃ x p, f = some (x, L, p, true)
def RL (L : List Tok) (f : Option ((Bool × List Stm) × List Tok × Int × Bool)) (o : GO) : Prop := match o with
 | some (b, r) => ∃ m, f = some ((m, b), L, (plc L r : Int), false)
 | none => ∃ x p, f = some (x, L, p, true)
theorem Rty {L l : List Tok} (hL : L.length ≤ 20000) (hg : ∀ t ∈ L, gt t) (h : Suf L l) (F : Exp → Stm) (F' : Exp → Stm) (hF : ∀ e, F' e = F e) :
  RS L (bnd (Rg 1 L (plc L l) false) fun r => bnd (Rc [59] r.2.1 r.2.2.1 r.2.2.2) fun q => some (F' r.1, q.1, q.2.1, q.2.2)) ((en l).map fun q => ([F q.1], q.2)) := by
 have h1 := Rgr hL hg h
 unfold en
 cases hx : ex1 l with
 | none =>
  rw [hx] at h1
  obtain ⟨x, p, h1⟩ := h1
  exact ⟨F' x, p, by rw [h1, Qb, Rbf (by simp), Qb]⟩
 | some q =>
  obtain ⟨e, r⟩ := q
  rw [hx] at h1
  have h1 : _ = _ := h1
  rw [h1, Qb]
  simp only [Option.bind_some]
  rw [Rdr (by simp) hL (Red h hx), Qb]
  change RS L _ ((Option.map _ (nd [59] r)).map _)
  cases nd [59] r with
  | none => exact ⟨_, _, rfl⟩
  | some r2 => exact ⟨_, rfl, by rw [hF]⟩
theorem Rqe (L : List Tok) (p : Int) (F : Exp → Stm) : ∃ x q, (bnd (Rg 1 L p true) fun r => bnd (Rc [59] r.2.1 r.2.2.1 r.2.2.2) fun q => some (F r.1, q.1, q.2.1, q.2.2)) = some (x, L, q, true) := by
 obtain ⟨x, q, h⟩ := Rtz L p
 exact ⟨F x, q, by rw [h, Qb, Rbf (by simp), Qb]⟩
theorem ndN {k t : Tok} {l : List Tok} (h : t ≠ k) : nd k (t :: l) = none := by simp only [nd]; rw [if_neg h]
theorem Rtm {L l : List Tok} (hL : L.length ≤ 20000) (hg : ∀ t ∈ L, gt t) (h : Suf L l) (h1 : nd kIf l = none) (h2 : nd Rde l = none) : RS L (Rck L (plc L l) false) (smp l) := by
 have main : ∀ f, RS L f (smp l) → (∀ v, f = some v → Rck L (plc L l) false = some v) → RS L (Rck L (plc L l) false) (smp l) := by
  intro f hf hv
  cases hs : smp l with
  | none => rw [hs] at hf; obtain ⟨x, p, hf⟩ := hf; exact ⟨x, p, hv _ hf⟩
  | some q =>
   obtain ⟨b, r⟩ := q
   rw [hs] at hf
   obtain ⟨s, hb, hf⟩ := hf
   exact ⟨s, hb, hv _ hf⟩
 refine main _ ?_ (fun v hv => Raf _ _ _ v hv)
 rw [Rd (k := [105, 102]) (by simp) hL h, show nd [105, 102] l = none from h1, Qb]
 simp only [Zf]
 rw [Rd (k := [119, 104, 105, 108, 101]) (by simp) hL h, show nd [119, 104, 105, 108, 101] l = none from h2, Qb]
 simp only [Zf]
 rw [Rd (k := [115, 101, 110, 100]) (by simp) hL h, Qb]
 cases h3 : nd [115, 101, 110, 100] l with
 | some l1 =>
  have hs1 := Rkg h h3
  have := Rcy h3
  subst this
  simp only [Zt]
  have hn := Rey hL hg hs1
  have hsm : smp (([115, 101, 110, 100] : Tok) :: l1) = (nu l1).bind fun p => (en p.2).map fun q => ([⟨4, 0, p.1, q.1, [], []⟩], q.2) := by
   simp only [smp, Rjy, if_true]
  rw [hsm]
  cases hu : nu l1 with
  | none =>
   rw [hu] at hn
   obtain ⟨q, hn⟩ := hn
   rw [hn, Qb]
   exact Rqe L q fun e => ⟨4, 0, 0, ⟨e.op, e.n, e.args⟩, [], []⟩
  | some p =>
   obtain ⟨n, r⟩ := p
   rw [hu] at hn
   have hn : _ = _ := hn
   rw [hn, Qb]
   exact Rty hL hg (Rmt hs1 hu) (fun e => ⟨4, 0, n, e, [], []⟩) (fun e => ⟨4, 0, n, ⟨e.op, e.n, e.args⟩, [], []⟩) (fun e => by rw [Rz])
 | none =>
  simp only [Zf]
  rw [Rd (k := [114, 101, 99, 118]) (by simp) hL h, Qb]
  cases h4 : nd [114, 101, 99, 118] l with
  | some l1 =>
   have hs1 := Rkg h h4
   have := Rcy h4
   subst this
   simp only [Zt]
   have hn := Rey hL hg hs1
   have hsm : smp (([114, 101, 99, 118] : Tok) :: l1) = (nu l1).bind fun p => (va p.2).bind fun q => (nd kS q.2).map fun r => ([⟨5, q.1, p.1, ⟨0, 0, []⟩, [], []⟩], r) := by
    simp only [smp, Rjy, Rlc, if_true]
    rw [if_neg (by decide)]
   rw [hsm]
   cases hu : nu l1 with
   | none =>
    rw [hu] at hn
    obtain ⟨q, hn⟩ := hn
    obtain ⟨q2, hv⟩ := Rgv L q
    exact ⟨_, q2, by rw [hn, Qb, hv, Qb, Rbf (by simp), Qb]⟩
   | some p =>
    obtain ⟨n, r⟩ := p
    rw [hu] at hn
    have hn : _ = _ := hn
    have hs2 := Rmt hs1 hu
    rw [hn, Qb]
    have hv := Rht hL hg hs2
    simp only [Option.bind_some]
    cases hw : va r with
    | none =>
     rw [hw] at hv
     obtain ⟨q, hv⟩ := hv
     exact ⟨_, q, by rw [hv, Qb, Rbf (by simp), Qb]⟩
    | some p2 =>
     obtain ⟨v, r2⟩ := p2
     rw [hw] at hv
     have hv : _ = _ := hv
     rw [hv, Qb, Rdr (by simp) hL (Rtp hs2 hw), Qb]
     simp only [Option.bind_some]
     change RS L _ (Option.map _ (nd [59] r2))
     cases nd [59] r2 with
     | none => exact ⟨_, _, rfl⟩
     | some r3 => exact ⟨_, rfl, rfl⟩
  | none =>
   simp only [Zf]
   rw [Rd (k := [121, 105, 101, 108, 100]) (by simp) hL h, Qb]
   cases h5 : nd [121, 105, 101, 108, 100] l with
   | some l1 =>
    have hs1 := Rkg h h5
    have := Rcy h5
    subst this
    simp only [Zt]
    have hsm : smp (([121, 105, 101, 108, 100] : Tok) :: l1) = (nd kS l1).map fun r => ([⟨6, 0, 0, ⟨0, 0, []⟩, [], []⟩], r) := by
     simp only [smp, Rjy, Rlc, Riy, if_true]
     rw [if_neg (by decide), if_neg (by decide)]
    rw [hsm, Rdr (by simp) hL hs1, Qb]
    change RS L _ (Option.map _ (nd [59] l1))
    cases nd [59] l1 with
    | none => exact ⟨_, _, rfl⟩
    | some r3 => exact ⟨_, rfl, rfl⟩
   | none =>
    simp only [Zf]
    rw [Rd (k := [112, 114, 105, 110, 116]) (by simp) hL h, Qb]
    cases h6 : nd [112, 114, 105, 110, 116] l with
    | some l1 =>
     have hs1 := Rkg h h6
     have := Rcy h6
     subst this
     simp only [Zt]
     have hsm : smp (([112, 114, 105, 110, 116] : Tok) :: l1) = (en l1).map fun q => ([⟨7, 0, 0, q.1, [], []⟩], q.2) := by
      simp only [smp, Rjy, Rlc, Riy, Rkf, if_true]
      rw [if_neg (by decide), if_neg (by decide), if_neg (by decide)]
     rw [hsm]
     exact Rty hL hg hs1 (fun e => ⟨7, 0, 0, e, [], []⟩) (fun e => ⟨7, 0, 0, ⟨e.op, e.n, e.args⟩, [], []⟩) (fun e => by rw [Rz])
    | none =>
     simp only [Zf]
     have hsm : smp l = (va l).bind fun p => (nd kE p.2).bind fun r => (en r).map fun q => ([⟨1, p.1, 0, q.1, [], []⟩], q.2) := by
      cases l with
      | nil => rfl
      | cons t l =>
       have ne : ∀ k, nd k (t :: l) = none → t ≠ k := by intro k hk e; rw [e, Rq] at hk; cases hk
       simp only [smp]
       rw [if_neg (ne Rjy h3), if_neg (ne Rlc h4), if_neg (ne Riy h5), if_neg (ne Rkf h6)]
     rw [hsm]
     have hv := Rht hL hg h
     cases hw : va l with
     | none =>
      rw [hw] at hv
      obtain ⟨q, hv⟩ := hv
      rw [hv, Qb, Rbf (by simp), Qb]
      exact Rqe L q fun e => ⟨1, 0, 0, ⟨e.op, e.n, e.args⟩, [], []⟩
     | some p =>
      obtain ⟨v, r⟩ := p
      rw [hw] at hv
      have hv : _ = _ := hv
      have hs2 := Rtp h hw
      rw [hv, Qb, Rdr (by simp) hL hs2, Qb]
      simp only [Option.bind_some]
      change RS L _ (Option.bind (nd [61] r) _)
      cases he : nd [61] r with
      | none => exact Rqe L _ fun e => ⟨1, v, 0, ⟨e.op, e.n, e.args⟩, [], []⟩
      | some r2 => exact Rty hL hg (Rkg hs2 he) (fun e => ⟨1, v, 0, e, [], []⟩) (fun e => ⟨1, v, 0, ⟨e.op, e.n, e.args⟩, [], []⟩) (fun e => by rw [Rz])
theorem Rwl : ∀ {j : K} {l : List Tok} {o : GO}, G j l o → ∀ L : List Tok, L.length ≤ 20000 → (∀ t ∈ L, gt t) → Suf L l → match j with
  | .st => RS L (Rck L (plc L l) false) o
  | .bk => RB L (Rbb L (plc L l) false) o
  | .lp a => a.length ≤ plc L l → ∀ m, RL L (Rah m a L (plc L l) false) o := by
 intro j l o h
 induction h with
 | @bk0 l h =>
  intro L hL hg hs
  refine ⟨[], (plc L l : Int), ?_⟩
  apply Rec
  rw [Rdr (by simp) hL hs, show nd [123] l = none from h, Qb]
  simp only [Rjt, Qb]
 | @bk l o h ih =>
  intro L hL hg hs
  obtain ⟨hs2, hp, hlt, _⟩ := hs.tail
  have h1 := ih L hL hg hs2 (Nat.zero_le _) false
  have st : ∀ v, (bnd (Rah false [] L (plc L l) false) fun r => some (r.1.2, r.2.1, r.2.2.1, r.2.2.2)) = some v → Rbb L (plc L (kL :: l)) false = some v := by
   intro v hv
   apply Rec
   rw [Rdr (by simp) hL hs, show nd [123] (kL :: l) = some l from Rq _ _, Qb]
   exact hv
  cases o with
  | none => obtain ⟨x, p, h1⟩ := h1; exact ⟨x.2, p, st _ (by rw [h1, Qb])⟩
  | some q =>
   obtain ⟨b, r⟩ := q
   obtain ⟨m, h1⟩ := h1
   exact st _ (by rw [h1, Qb])
 | @lpE a =>
  intro L hL hg hs ha m
  obtain ⟨x, p, h1⟩ := Rtm hL hg hs rfl rfl
  refine ⟨?_, p, ?_⟩
  rotate_left
  ·apply Rbd
   simp only [Zx, Zt]
   rw [Rd (by simp) hL hs, Qb]
   simp only [nd, Zx, Zt]
   rw [h1, Qb]
   simp only [Rdt]
   rw [Rdh (by rw [Rdc] at ha; omega), Qb, Rjt]
 | @lpS a l =>
  intro L hL hg hs ha m
  refine ⟨m, ?_⟩
  apply Rbd
  simp only [Zx, Zt]
  rw [Rd (by simp) hL hs, show nd [125] (kR :: l) = some l from Rq _ _, Qb]
  rfl
 | @lpN a t l ht h ih =>
  intro L hL hg hs ha m
  obtain ⟨hs2, hp, hlt, _⟩ := hs.tail
  obtain ⟨x, p, h1⟩ := ih L hL hg hs
  refine ⟨?_, p, ?_⟩
  rotate_left
  ·apply Rbd
   simp only [Zx, Zt]
   rw [Rd (by simp) hL hs, show nd [125] (t :: l) = none from ndN ht, Qb]
   simp only [Zx, Zt]
   rw [h1, Qb]
   simp only [Rdt]
   rw [Rdh (by omega), Qb, Rjt]
 | @lpC a t l r s o ht h1 h2 ih1 ih2 =>
  intro L hL hg hs ha m
  obtain ⟨hs2, hp, hlt, _⟩ := hs.tail
  obtain ⟨s', hb, e1⟩ := ih1 L hL hg hs
  injection hb with hb
  subst hb
  have hsf := Rik h1 _ _ rfl
  have hs3 := hs.trans hsf.1
  have hpl : plc L (t :: l) + 1 ≤ plc L r := by
   have h3 := hsf.2
   obtain ⟨p, hp2⟩ := hs
   have : L.length = p.length + (t :: l).length := by rw [hp2, Za]
   unfold plc; omega
  have e2 := ih2 L hL hg hs3 (by rw [Za]; simp only [Zc, Zn]; omega) true
  have st : ∀ v, Rah true (a ++ [s]) L (plc L r) false = some v → Rah m a L (plc L (t :: l)) false = some v := by
   intro v hv
   apply Rbd
   simp only [Zx, Zt]
   rw [Rd (by simp) hL hs, show nd [125] (t :: l) = none from ndN ht, Qb]
   simp only [Zx, Zt]
   rw [e1, Qb]
   simp only [Rdt]
   rw [Rdh (by omega), Qb]
   exact hv
  cases o with
  | none => obtain ⟨x, p, e2⟩ := e2; exact ⟨x, p, st _ e2⟩
  | some q => obtain ⟨b, r'⟩ := q; obtain ⟨m', e2⟩ := e2; exact ⟨m', st _ e2⟩
 | @smp t l o h1 h2 h =>
  intro L hL hg hs
  rw [← h]
  exact Rtm hL hg hs (ndN h1) (ndN h2)
 | @ifN l h =>
  intro L hL hg hs
  have hs2 := hs.tail.1
  have e1 := Rgr hL hg hs2
  rw [h] at e1
  obtain ⟨x, p, e1⟩ := e1
  refine ⟨?_, p, ?_⟩
  rotate_left
  ·apply Raf
   rw [Rd (k := [105, 102]) (by simp) hL hs, show nd [105, 102] (kIf :: l) = some l from Rq _ _, Qb]
   simp only [Zt]
   rw [e1, Qb, Rpf, Qb, Rdg (by simp), Qb]
   rfl
 | @ifB l r e h hb ih =>
  intro L hL hg hs
  have hs2 := hs.tail.1
  have e1 := Rgr hL hg hs2
  rw [h] at e1
  have e1 : _ = _ := e1
  obtain ⟨x, p, e2⟩ := ih L hL hg (Red hs2 h)
  refine ⟨?_, p, ?_⟩
  rotate_left
  ·apply Raf
   rw [Rd (k := [105, 102]) (by simp) hL hs, show nd [105, 102] (kIf :: l) = some l from Rq _ _, Qb]
   simp only [Zt]
   rw [e1, Qb, e2, Qb, Rdg (by simp), Qb]
   rfl
 | @if1 l r r2 e b h hb hn ih =>
  intro L hL hg hs
  have hs2 := hs.tail.1
  have e1 := Rgr hL hg hs2
  rw [h] at e1
  have e1 : _ = _ := e1
  have hs3 := Red hs2 h
  have e2 := ih L hL hg hs3
  have e2 : _ = _ := e2
  have hs4 := hs3.trans (Rik hb _ _ rfl).1
  refine ⟨_, rfl, ?_⟩
  apply Raf
  rw [Rd (k := [105, 102]) (by simp) hL hs, show nd [105, 102] (kIf :: l) = some l from Rq _ _, Qb]
  simp only [Zt]
  rw [e1, Qb, e2, Qb, Rd (by simp) hL hs4, show nd [101, 108, 115, 101] r2 = none from hn, Qb]
  simp only [Zf, Rz]
 | @if2 l r r2 r3 e b c h hb hc ih ih2 =>
  intro L hL hg hs
  have hs2 := hs.tail.1
  have e1 := Rgr hL hg hs2
  rw [h] at e1
  have e1 : _ = _ := e1
  have hs3 := Red hs2 h
  have e2 := ih L hL hg hs3
  have e2 : _ = _ := e2
  have hs4 := hs3.trans (Rik hb _ _ rfl).1
  have e3 := ih2 L hL hg hs4.tail.1
  have e3 : _ = _ := e3
  refine ⟨_, rfl, ?_⟩
  apply Raf
  rw [Rd (k := [105, 102]) (by simp) hL hs, show nd [105, 102] (kIf :: l) = some l from Rq _ _, Qb]
  simp only [Zt]
  rw [e1, Qb, e2, Qb, Rd (by simp) hL hs4, show nd [101, 108, 115, 101] (Rmd :: r2) = some r2 from Rq _ _, Qb]
  simp only [Zt]
  rw [e3, Qb]
  simp only [Rz]
 | @if3 l r r2 e b h hb hc ih ih2 =>
  intro L hL hg hs
  have hs2 := hs.tail.1
  have e1 := Rgr hL hg hs2
  rw [h] at e1
  have e1 : _ = _ := e1
  have hs3 := Red hs2 h
  have e2 := ih L hL hg hs3
  have e2 : _ = _ := e2
  have hs4 := hs3.trans (Rik hb _ _ rfl).1
  obtain ⟨x, p, e3⟩ := ih2 L hL hg hs4.tail.1
  refine ⟨?_, p, ?_⟩
  rotate_left
  ·apply Raf
   rw [Rd (k := [105, 102]) (by simp) hL hs, show nd [105, 102] (kIf :: l) = some l from Rq _ _, Qb]
   simp only [Zt]
   rw [e1, Qb, e2, Qb, Rd (by simp) hL hs4, show nd [101, 108, 115, 101] (Rmd :: r2) = some r2 from Rq _ _, Qb]
   simp only [Zt]
   rw [e3, Qb]
 | @whN l h =>
  intro L hL hg hs
  have hs2 := hs.tail.1
  have e1 := Rgr hL hg hs2
  rw [h] at e1
  obtain ⟨x, p, e1⟩ := e1
  refine ⟨?_, p, ?_⟩
  rotate_left
  ·apply Raf
   rw [Rd (k := [105, 102]) (by simp) hL hs, show nd [105, 102] (Rde :: l) = none from ndN (by decide), Qb]
   simp only [Zf]
   rw [Rd (k := [119, 104, 105, 108, 101]) (by simp) hL hs, show nd [119, 104, 105, 108, 101] (Rde :: l) = some l from Rq _ _, Qb]
   simp only [Zt]
   rw [e1, Qb, Rpf, Qb]
 | @whB l r e h hb ih =>
  intro L hL hg hs
  have hs2 := hs.tail.1
  have e1 := Rgr hL hg hs2
  rw [h] at e1
  have e1 : _ = _ := e1
  obtain ⟨x, p, e2⟩ := ih L hL hg (Red hs2 h)
  refine ⟨?_, p, ?_⟩
  rotate_left
  ·apply Raf
   rw [Rd (k := [105, 102]) (by simp) hL hs, show nd [105, 102] (Rde :: l) = none from ndN (by decide), Qb]
   simp only [Zf]
   rw [Rd (k := [119, 104, 105, 108, 101]) (by simp) hL hs, show nd [119, 104, 105, 108, 101] (Rde :: l) = some l from Rq _ _, Qb]
   simp only [Zt]
   rw [e1, Qb, e2, Qb]
 | @wh l r r2 e b h hb ih =>
  intro L hL hg hs
  have hs2 := hs.tail.1
  have e1 := Rgr hL hg hs2
  rw [h] at e1
  have e1 : _ = _ := e1
  have e2 := ih L hL hg (Red hs2 h)
  have e2 : _ = _ := e2
  refine ⟨_, rfl, ?_⟩
  apply Raf
  rw [Rd (k := [105, 102]) (by simp) hL hs, show nd [105, 102] (Rde :: l) = none from ndN (by decide), Qb]
  simp only [Zf]
  rw [Rd (k := [119, 104, 105, 108, 101]) (by simp) hL hs, show nd [119, 104, 105, 108, 101] (Rde :: l) = some l from Rq _ _, Qb]
  simp only [Zt]
  rw [e1, Qb, e2, Qb]
  simp only [Rz]
theorem Rwb {L : List Tok} (n : Nat) (k : Tok) : Ra L (n : Int) k = some (decide (L[n]? = some k)) := by
 apply Rlp
 have h0 : (0 : Int) ≤ (n : Int) := by omega
 simp only [h0, Zy, Zt]
 by_cases h : n < L.length
 ·have h1 : ((n : Int) < (L.length : Int)) := by omega
  simp only [h1, Zy, Zt, Rft h, Qb, List.getElem?_eq_getElem h, Zi]
  congr 1
  by_cases hk : L[n] = k
  ·simp [hk]
  ·rw [beq_eq_false_iff_ne.mpr hk, Zq hk]
 ·have h1 : ¬ ((n : Int) < (L.length : Int)) := by omega
  simp only [h1, Zz, Zf, List.getElem?_eq_none (Nat.le_of_not_lt h)]
  rfl
theorem Rta (L : List Tok) (k : Tok) : Ra L (-1) k = some false := by
 apply Rlp
 rfl
theorem Rtf {L : List Tok} (n : Nat) : Rr L (n : Int) = some (match L[n]? with | some t => numV t | none => -1) := by
 apply Roz
 by_cases h : n < L.length
 ·have h1 : ¬ ((L.length : Int) ≤ (n : Int)) := by omega
  simp only [h1, Zz, Zf, Rft h, Qb, List.getElem?_eq_getElem h, Rgm]
 ·have h1 : ((L.length : Int) ≤ (n : Int)) := by omega
  simp only [h1, Zy, Zt, List.getElem?_eq_none (Nat.le_of_not_lt h)]
theorem Suf.at {L l : List Tok} (h : Suf L l) (i : Nat) : L[plc L l + i]? = l[i]? := by
 obtain ⟨p, rfl⟩ := h
 have : plc (p ++ l) l = p.length := by unfold plc; rw [Za]; omega
 rw [this, List.getElem?_append_right (by omega)]
 congr 1; omega
theorem Rro {L l : List Tok} (hL : L.length ≤ 20000) (h : Suf L l) : Rm L (plc L l) = some (match en l with | some (e, r) => (e, (plc L r : Int)) | none => (⟨0, 0, []⟩, -1)) := by
 apply Rom
 have h1 : SA L (Rae L (plc L l) 1) (ex1 l) := Rwv (Rtr l) L hL h (Nat.le_refl 1) (by omega)
 unfold en
 cases hx : ex1 l with
 | none =>
  rw [hx] at h1
  obtain ⟨x, h1⟩ := h1
  rw [h1, Qb]
  simp only [Rta, Qb, Zx, Zt, Option.bind_none]
 | some q =>
  obtain ⟨e, r⟩ := q
  rw [hx] at h1
  have h1 : _ = _ := h1
  have hs := Red h hx
  rw [h1, Qb]
  simp only [Option.bind_some]
  rw [Rwb, Qb, show L[plc L r]? = r[0]? from hs.at 0]
  cases r with
  | nil => rfl
  | cons t r =>
   obtain ⟨hs2, hp, hlt, _⟩ := hs.tail
   by_cases ht : t = kS
   ·subst ht
    simp only [List.getElem?_cons_zero, kS, Zy, Zv, Zf, nd, if_true, Option.map_some]
    rw [Rz, show ([59] : Tok) :: r = kS :: r from rfl, w1n (by omega), hp]
   ·have hk : ¬ (some t = some ([59] : Tok)) := by intro hh; injection hh with hh; exact ht hh
    simp only [List.getElem?_cons_zero, hk, Zz, Zx, Zt, nd, ht, if_false, Option.map_none]
def SS (L : List Tok) (f : Option (Stm × Int)) (o : GO) : Prop := match o with
 | some (b, r) => ∃ s, b = [s] ∧ f = some (s, (plc L r : Int))
 | none => ∃ x, f = some (x, -1)
def SB (L : List Tok) (f : Option (List Stm × Int)) (o : GO) : Prop := match o with
 | some (b, r) => f = some (b, (plc L r : Int))
 | none => ∃ x, f = some (x, -1)
def SLp (L : List Tok) (f : Option (List Tok × Int × (Bool × List Stm))) (o : GO) : Prop := match o with
 | some (b, r) => ∃ m, f = some (L, (plc L (kR :: r) : Int), (m, b)) ∧ Suf L (kR :: r)
 | none => ∃ p x, f = some (L, p, x) ∧ Ra L p [125] = some false
abbrev z0 : Stm := ⟨0, 0, 0, ⟨0, 0, []⟩, [], []⟩
noncomputable def Vt (a0 : List Tok) (a1 : Int) : Option (Stm × Int) :=
 bif (decide (a1 < (a0.length : Int))) then
  bnd (geti a0 a1) fun e21 =>
  bnd (Rf e21) fun r22 =>
  (bif (decide (0 ≤ r22)) then
  bnd (Ra a0 (wrap64 (a1 + 1)) [61]) fun r23 =>
  (bif r23 then
  bnd (Rm a0 (wrap64 (a1 + 2))) fun r24 =>
  bnd (geti a0 a1) fun e25 =>
  bnd (Rf e25) fun r26 =>
  some (⟨1, r26, 0, ⟨r24.1.op, r24.1.n, r24.1.args⟩, [], []⟩, r24.2)
  else
  some (⟨0, 0, 0, ⟨0, 0, []⟩, [], []⟩, (-1)))
  else
  some (⟨0, 0, 0, ⟨0, 0, []⟩, [], []⟩, (-1)))
 else some (⟨0, 0, 0, ⟨0, 0, []⟩, [], []⟩, (-1))
noncomputable def Rt (a0 : List Tok) (a1 : Int) : Option (Stm × Int) :=
 bnd (Ra a0 a1 ([114, 101, 99, 118])) fun r13 =>
 (bif r13 then
 bnd (Rr a0 (wrap64 (a1 + 1))) fun r14 =>
 (bif (decide (0 ≤ r14)) then
 bnd (Ra a0 (wrap64 (a1 + 3)) [59]) fun r15 =>
 (bif r15 then
 bnd (geti a0 (wrap64 (a1 + 2))) fun e16 =>
 bnd (Rf e16) fun r17 =>
 (bif (decide (r17 < 0)) then
 some (⟨0, 0, 0, ⟨0, 0, []⟩, [], []⟩, (-1))
 else
 bnd (Rr a0 (wrap64 (a1 + 1))) fun r18 =>
 bnd (geti a0 (wrap64 (a1 + 2))) fun e19 =>
 bnd (Rf e19) fun r20 =>
 some (⟨5, r20, r18, ⟨0, 0, []⟩, [], []⟩, (wrap64 (a1 + 4))))
 else Vt a0 a1)
 else Vt a0 a1)
 else Vt a0 a1)
noncomputable def St (a0 : List Tok) (a1 : Int) : Option (Stm × Int) :=
 bnd (Ra a0 a1 ([115, 101, 110, 100])) fun r9 =>
 (bif r9 then
 bnd (Rr a0 (wrap64 (a1 + 1))) fun r10 =>
 (bif (decide (0 ≤ r10)) then
 bnd (Rm a0 (wrap64 (a1 + 2))) fun r11 =>
 bnd (Rr a0 (wrap64 (a1 + 1))) fun r12 =>
 some (⟨4, 0, r12, ⟨r11.1.op, r11.1.n, r11.1.args⟩, [], []⟩, r11.2)
 else Rt a0 a1)
 else Rt a0 a1)
noncomputable def Pt (a0 : List Tok) (a1 : Int) : Option (Stm × Int) :=
 bnd (Ra a0 a1 ([112, 114, 105, 110, 116])) fun r7 =>
 (bif r7 then
 bnd (Rm a0 (wrap64 (a1 + 1))) fun r8 =>
 some (⟨7, 0, 0, ⟨r8.1.op, r8.1.n, r8.1.args⟩, [], []⟩, r8.2)
 else St a0 a1)
noncomputable def Yt (a0 : List Tok) (a1 : Int) : Option (Stm × Int) :=
 bnd (Ra a0 a1 ([121, 105, 101, 108, 100])) fun r5 =>
 (bif r5 then
 bnd (Ra a0 (wrap64 (a1 + 1)) [59]) fun r6 =>
 (bif r6 then
 some (⟨6, 0, 0, ⟨0, 0, []⟩, [], []⟩, (wrap64 (a1 + 2)))
 else Pt a0 a1)
 else Pt a0 a1)
noncomputable def Ot (a0 : List Tok) (a1 : Int) : Option (Stm × Int) :=
 bnd (Ra a0 a1 ([105, 102])) fun r1 =>
 (bif r1 then
 bnd (Ras a0 (wrap64 (a1 + 1)) 2) fun r2 =>
 some (⟨r2.1.kind, r2.1.var, r2.1.box, ⟨r2.1.e.op, r2.1.e.n, r2.1.e.args⟩, r2.1.body, r2.1.els⟩, r2.2)
 else
 bnd (Ra a0 a1 ([119, 104, 105, 108, 101])) fun r3 =>
 (bif r3 then
 bnd (Ras a0 (wrap64 (a1 + 1)) 3) fun r4 =>
 some (⟨r4.1.kind, r4.1.var, r4.1.box, ⟨r4.1.e.op, r4.1.e.n, r4.1.e.args⟩, r4.1.body, r4.1.els⟩, r4.2)
 else Yt a0 a1))
theorem Rth {a0 : List Tok} {a1 : Int} {v : Stm × Int} (h : Ot a0 a1 = some v) : Rdv a0 a1 = some v := Rpa a0 a1 v h
theorem is_at {L : List Tok} {l : List Tok} {t : Tok} (h : Suf L (t :: l)) (k : Tok) : Ra L (plc L (t :: l) : Int) k = some (decide (t = k)) := by
 rw [Rwb, show L[plc L (t :: l)]? = some t from h.at 0]
 simp only [Zi]
theorem Rhn {L : List Tok} {l : List Tok} {t : Tok} (h : Suf L (t :: l)) : Ra L (plc L (t :: l) : Int) t = some true := by rw [is_at h, Zp rfl]
theorem Rrs {L : List Tok} {l : List Tok} {t : Tok} (h : Suf L (t :: l)) {k : Tok} (hk : t ≠ k) : Ra L (plc L (t :: l) : Int) k = some false := by rw [is_at h, Zq hk]
theorem Rob {L : List Tok} {l : List Tok} (h : Suf L l) (k : Tok) : Ra L (plc L l : Int) k = some (nd k l).isSome := by
 rw [Rwb, show L[plc L l]? = l[0]? from h.at 0]
 cases l with
 | nil => rfl
 | cons t l =>
  by_cases ht : t = k
  ·subst ht; rw [Rq]; simp
  ·rw [ndN ht]; simp [ht]
theorem Roi (L : List Tok) : Rr L (plc L [] : Int) = some (-1) := by
 rw [Rtf, Rdc, List.getElem?_eq_none (Nat.le_refl _)]
theorem Rjv {L : List Tok} {l : List Tok} {t : Tok} (h : Suf L (t :: l)) : Rr L (plc L (t :: l) : Int) = some (numV t) := by
 rw [Rtf, show L[plc L (t :: l)]? = some t from h.at 0]
theorem at1 {L : List Tok} {l : List Tok} {t : Tok} (hL : L.length ≤ 20000) (h : Suf L (t :: l)) : wrap64 ((plc L (t :: l) : Int) + 1) = (plc L l : Int) := by
 obtain ⟨hs2, hp, hlt, hg⟩ := h.tail
 rw [wrap_id (by omega) (by omega)]; omega
theorem at2 {L : List Tok} {l : List Tok} {t : Tok} {u : Tok} (hL : L.length ≤ 20000) (h : Suf L (t :: u :: l)) : wrap64 ((plc L (t :: u :: l) : Int) + 2) = (plc L l : Int) := by
 obtain ⟨hs2, hp, hlt, hg⟩ := h.tail
 obtain ⟨hs3, hp3, hlt3, hg3⟩ := hs2.tail
 rw [wrap_id (by omega) (by omega)]; omega
theorem at3 {L : List Tok} {l : List Tok} {t : Tok} {u w : Tok} (hL : L.length ≤ 20000) (h : Suf L (t :: u :: w :: l)) : wrap64 ((plc L (t :: u :: w :: l) : Int) + 3) = (plc L l : Int) := by
 obtain ⟨hs2, hp, hlt, hg⟩ := h.tail
 obtain ⟨hs3, hp3, hlt3, hg3⟩ := hs2.tail
 obtain ⟨hs4, hp4, hlt4, hg4⟩ := hs3.tail
 rw [wrap_id (by omega) (by omega)]; omega
theorem is3_no {L : List Tok} {l : List Tok} {t : Tok} (hL : L.length ≤ 20000) (h : Suf L (t :: l)) {k : Tok} (hn : l.length ≤ 2) : Ra L (wrap64 ((plc L (t :: l) : Int) + 3)) k = some false := by
 obtain ⟨hs2, hp, hlt, hg⟩ := h.tail
 have := h.at 3
 rw [show wrap64 ((plc L (t :: l) : Int) + 3) = ((plc L (t :: l) + 3 : Nat) : Int) by rw [wrap_id (by omega) (by omega)]; omega, Rwb, this, List.getElem?_eq_none (by simp only [Zc]; omega)]
 simp
theorem Rnu {L : List Tok} {l : List Tok} {t : Tok} (h : Suf L (t :: l)) (hv : ¬ 0 ≤ varV t) : Vt L (plc L (t :: l)) = some (z0, -1) := by
 obtain ⟨hs2, hp, hlt, hg⟩ := h.tail
 have hn : ((plc L (t :: l) : Int) < (L.length : Int)) := by omega
 unfold Vt
 rw [Zp hn, Zt, hg, Qb, Rcv, Qb, Zq hv, Zf]
theorem Vt_no {L : List Tok} {l : List Tok} {t : Tok} (hL : L.length ≤ 20000) (h : Suf L (t :: l)) (he : nd kE l = none) : Vt L (plc L (t :: l)) = some (z0, -1) := by
 by_cases hv : 0 ≤ varV t
 ·obtain ⟨hs2, hp, hlt, hg⟩ := h.tail
  have hn : ((plc L (t :: l) : Int) < (L.length : Int)) := by omega
  unfold Vt
  rw [Zp hn, Zt, hg, Qb, Rcv, Qb, Zp hv, Zt, at1 hL h, Rob hs2, show nd [61] l = none from he, Qb]
  rfl
 ·exact Rnu h hv
theorem Vt_set {L : List Tok} {l : List Tok} {t : Tok} (hL : L.length ≤ 20000) (h : Suf L (t :: kE :: l)) (hv : 0 ≤ varV t) : Vt L (plc L (t :: kE :: l)) = some (match en l with | some (e, r) => (⟨1, varV t, 0, e, [], []⟩, (plc L r : Int)) | none => (⟨1, varV t, 0, ⟨0, 0, []⟩, [], []⟩, -1)) := by
 obtain ⟨hs2, hp, hlt, hg⟩ := h.tail
 have hn : ((plc L (t :: kE :: l) : Int) < (L.length : Int)) := by omega
 unfold Vt
 rw [Zp hn, Zt, hg, Qb, Rcv, Qb, Zp hv, Zt, at1 hL h, show Ra L (plc L (kE :: l) : Int) [61] = some true from Rhn hs2, Qb, Zt, at2 hL h, Rro hL hs2.tail.1, Qb, Qb, Rcv, Qb]
 cases en l with
 | none => rfl
 | some q => simp only [Rz]
theorem Rpy {L : List Tok} {l : List Tok} {t : Tok} (h : Suf L (t :: l)) (hk : t ≠ Rlc) : Rt L (plc L (t :: l)) = Vt L (plc L (t :: l)) := by
 unfold Rt
 rw [show Ra L (plc L (t :: l) : Int) [114, 101, 99, 118] = some false from Rrs h hk, Qb, Zf]
theorem Rsl {L : List Tok} {l : List Tok} {t : Tok} (h : Suf L (t :: l)) (hk : t ≠ Rjy) : St L (plc L (t :: l)) = Rt L (plc L (t :: l)) := by
 unfold St
 rw [show Ra L (plc L (t :: l) : Int) [115, 101, 110, 100] = some false from Rrs h hk, Qb, Zf]
theorem Rsk {L : List Tok} {l : List Tok} {t : Tok} (h : Suf L (t :: l)) (hk : t ≠ Rkf) : Pt L (plc L (t :: l)) = St L (plc L (t :: l)) := by
 unfold Pt
 rw [show Ra L (plc L (t :: l) : Int) [112, 114, 105, 110, 116] = some false from Rrs h hk, Qb, Zf]
theorem Rvv {L : List Tok} {l : List Tok} {t : Tok} (h : Suf L (t :: l)) (hk : t ≠ Riy) : Yt L (plc L (t :: l)) = Pt L (plc L (t :: l)) := by
 unfold Yt
 rw [show Ra L (plc L (t :: l) : Int) [121, 105, 101, 108, 100] = some false from Rrs h hk, Qb, Zf]
theorem Rvu {L : List Tok} {l : List Tok} {t : Tok} (h : Suf L (t :: l)) (h1 : t ≠ kIf) (h2 : t ≠ Rde) : Ot L (plc L (t :: l)) = Yt L (plc L (t :: l)) := by
 unfold Ot
 rw [show Ra L (plc L (t :: l) : Int) [105, 102] = some false from Rrs h h1, Qb, Zf, show Ra L (plc L (t :: l) : Int) [119, 104, 105, 108, 101] = some false from Rrs h h2, Qb, Zf]
theorem SS_of {L : List Tok} {l : List Tok} {t : Tok} {f : Option (Stm × Int)} {o : GO} (h : SS L (Ot L (plc L (t :: l))) o) : SS L (Rdv L (plc L (t :: l))) o := by
 cases o with
 | none => obtain ⟨x, h⟩ := h; exact ⟨x, Rth h⟩
 | some q => obtain ⟨b, r⟩ := q; obtain ⟨s, hb, h⟩ := h; exact ⟨s, hb, Rth h⟩
theorem one_smp {L : List Tok} {l : List Tok} {t : Tok} (hL : L.length ≤ 20000) (h : Suf L (t :: l)) (h1 : t ≠ kIf) (h2 : t ≠ Rde) : SS L (Rdv L (plc L (t :: l))) (smp (t :: l)) := by
 refine SS_of (f := none) ?_
 obtain ⟨hs2, hp, hlt, hg⟩ := h.tail
 rw [Rvu h h1 h2]
 by_cases k3 : t = Riy
 ·have hsm : smp (t :: l) = (nd kS l).map fun r => ([⟨6, 0, 0, ⟨0, 0, []⟩, [], []⟩], r) := by
   simp only [smp, k3, if_true]
   rw [if_neg (by decide), if_neg (by decide)]
  rw [hsm]
  have e1 : Yt L (plc L (t :: l)) = bif (nd kS l).isSome then some (⟨6, 0, 0, ⟨0, 0, []⟩, [], []⟩, wrap64 ((plc L (t :: l) : Int) + 2)) else Pt L (plc L (t :: l)) := by
   unfold Yt
   rw [show ([121, 105, 101, 108, 100] : Tok) = t from k3.symm, Rhn h, Qb, Zt, at1 hL h, Rob hs2, Qb]
   rfl
  rw [e1]
  cases hn : nd kS l with
  | none =>
   simp only [Option.isSome_none, Zf]
   rw [Rsk h (by rw [k3]; decide), Rsl h (by rw [k3]; decide), Rpy h (by rw [k3]; decide)]
   exact ⟨_, Rnu h (by rw [k3]; decide)⟩
  | some r =>
   have := Rcy hn
   subst this
   refine ⟨_, rfl, ?_⟩
   simp only [Option.isSome_some, Zt]
   rw [at2 hL h]
 ·rw [Rvv h k3]
  by_cases k4 : t = Rkf
  ·have hsm : smp (t :: l) = (en l).map fun q => ([⟨7, 0, 0, q.1, [], []⟩], q.2) := by
    simp only [smp, k4, if_true]
    rw [if_neg (by decide), if_neg (by decide), if_neg (by decide)]
   rw [hsm]
   unfold Pt
   rw [show ([112, 114, 105, 110, 116] : Tok) = t from k4.symm, Rhn h, Qb, Zt, at1 hL h, Rro hL hs2, Qb]
   cases en l with
   | none => exact ⟨_, rfl⟩
   | some q => exact ⟨_, rfl, by simp only [Rz]⟩
  ·rw [Rsk h k4]
   by_cases k5 : t = Rjy
   ·have hsm : smp (t :: l) = (nu l).bind fun p => (en p.2).map fun q => ([⟨4, 0, p.1, q.1, [], []⟩], q.2) := by
     simp only [smp, k5, if_true]
    rw [hsm]
    have bad : Rt L (plc L (t :: l)) = some (z0, -1) := by rw [Rpy h (by rw [k5]; decide)]; exact Rnu h (by rw [k5]; decide)
    unfold St
    rw [show ([115, 101, 110, 100] : Tok) = t from k5.symm, Rhn h, Qb, Zt, at1 hL h]
    cases l with
    | nil =>
     rw [Roi, Qb]
     exact ⟨_, bad⟩
    | cons u l =>
     rw [Rjv hs2, Qb]
     by_cases hu : 0 ≤ numV u
     ·rw [Zp hu, Zt, at2 hL h, Rro hL hs2.tail.1, Qb, Qb, Rry hu]
      simp only [Option.bind_some]
      cases en l with
      | none => exact ⟨_, rfl⟩
      | some q => exact ⟨_, rfl, by simp only [Rz]⟩
     ·have : nu (u :: l) = none := by simp only [nu, hu, if_false]
      rw [this, Zq hu, Zf]
      exact ⟨_, bad⟩
   ·rw [Rsl h k5]
    by_cases k6 : t = Rlc
    ·have hsm : smp (t :: l) = (nu l).bind fun p => (va p.2).bind fun q => (nd kS q.2).map fun r => ([⟨5, q.1, p.1, ⟨0, 0, []⟩, [], []⟩], r) := by
      simp only [smp, k6, if_true]
      rw [if_neg (by decide)]
     rw [hsm]
     have bad : Vt L (plc L (t :: l)) = some (z0, -1) := Rnu h (by rw [k6]; decide)
     unfold Rt
     rw [show ([114, 101, 99, 118] : Tok) = t from k6.symm, Rhn h, Qb, Zt, at1 hL h]
     cases l with
     | nil =>
      rw [Roi, Qb]
      exact ⟨_, bad⟩
     | cons u l =>
      rw [Rjv hs2, Qb]
      by_cases hu : 0 ≤ numV u
      ·rw [Zp hu, Zt, Rry hu]
       simp only [Option.bind_some]
       cases l with
       | nil =>
        rw [is3_no hL h (by simp), Qb, Zf]
        exact ⟨_, bad⟩
       | cons w l =>
        rw [at2 hL h]
        cases hn : nd kS l with
        | none =>
         have hi : Ra L (wrap64 ((plc L (t :: u :: w :: l) : Int) + 3)) [59] = some false := by
          rw [at3 hL h, Rob hs2.tail.1.tail.1, show nd [59] l = none from hn]; rfl
         have hb : (va (w :: l)).bind (fun q => (nd kS q.2).map fun r => (([⟨5, q.1, numV u, ⟨0, 0, []⟩, [], []⟩] : List Stm), r)) = none := by
          by_cases hw : 0 ≤ varV w
          ·rw [Rse hw, Option.bind_some, hn]; rfl
          ·simp only [va, hw, if_false]; rfl
         rw [hi, Qb, Zf, hb]
         exact ⟨_, bad⟩
        | some r =>
         have := Rcy hn
         subst this
         have hi : Ra L (wrap64 ((plc L (t :: u :: w :: kS :: r) : Int) + 3)) [59] = some true := by
          rw [at3 hL h, Rob hs2.tail.1.tail.1, show nd [59] (kS :: r) = some r from Rq _ _]; rfl
         obtain ⟨hs4, hp4, hlt4, hg4⟩ := hs2.tail.1.tail
         obtain ⟨hs5, hp5, hlt5, hg5⟩ := hs4.tail
         rw [hi, Qb, Zt, hg4, Qb, Rcv, Qb]
         by_cases hw : 0 ≤ varV w
         ·rw [Zq (show ¬ varV w < 0 by omega), Zf, Qb, Qb, Rcv, Qb, Rse hw]
          simp only [Option.bind_some, Rq, Option.map_some]
          refine ⟨_, rfl, ?_⟩
          rw [show wrap64 ((plc L (t :: u :: w :: kS :: r) : Int) + 4) = (plc L r : Int) by
           obtain ⟨_, q1, _, _⟩ := h.tail
           obtain ⟨_, q2, _, _⟩ := hs2.tail
           rw [wrap_id (by omega) (by omega)]; omega]
         ·have : va (w :: kS :: r) = none := by simp only [va, hw, if_false]
          rw [Zp (show varV w < 0 by omega), Zt, this]
          exact ⟨_, rfl⟩
      ·have : nu (u :: l) = none := by simp only [nu, hu, if_false]
       rw [this, Zq hu, Zf]
       exact ⟨_, bad⟩
    ·rw [Rpy h k6]
     have hsm : smp (t :: l) = (va (t :: l)).bind fun p => (nd kE p.2).bind fun r => (en r).map fun q => ([⟨1, p.1, 0, q.1, [], []⟩], q.2) := by
      simp only [smp]
      rw [if_neg k5, if_neg k6, if_neg k3, if_neg k4]
     rw [hsm]
     by_cases hv : 0 ≤ varV t
     ·rw [Rse hv]
      simp only [Option.bind_some]
      cases hn : nd kE l with
      | none => exact ⟨_, Vt_no hL h hn⟩
      | some r =>
       have := Rcy hn
       subst this
       rw [Vt_set hL h hv]
       simp only [Option.bind_some]
       cases en r with
       | none => exact ⟨_, rfl⟩
       | some q => exact ⟨_, rfl, rfl⟩
     ·have : va (t :: l) = none := by simp only [va, hv, if_false]
      rw [this]
      exact ⟨_, Rnu h hv⟩
theorem Rlj {L l : List Tok} (hL : L.length ≤ 20000) (h : Suf L l) : SA L (Rae L (plc L l) 1) (ex1 l) := Rwv (Rtr l) L hL h (Nat.le_refl 1) (by omega)
theorem Rum (L : List Tok) (m : Bool) (a : List Stm) : Rbn L (-1) m a = some (L, -1, (m, a)) := by
 apply Rct
 rfl
theorem Rre {L l : List Tok} {s : Stm} {p : Int} (hL : L.length ≤ 20000) (h : Suf L (kIf :: l)) (hb : Ras L (plc L l) 2 = some (s, p)) : Rdv L (plc L (kIf :: l)) = some (s, p) := by
 apply Rth
 unfold Ot
 rw [show Ra L (plc L (kIf :: l) : Int) [105, 102] = some true from Rhn h, Qb, Zt, at1 hL h, hb, Qb]
 simp only [Rdt]
theorem Roj {L l : List Tok} {s : Stm} {p : Int} (hL : L.length ≤ 20000) (h : Suf L (Rde :: l)) (hb : Ras L (plc L l) 3 = some (s, p)) : Rdv L (plc L (Rde :: l)) = some (s, p) := by
 apply Rth
 unfold Ot
 rw [show Ra L (plc L (Rde :: l) : Int) [105, 102] = some false from Rrs h (by decide), Qb, Zf, show Ra L (plc L (Rde :: l) : Int) [119, 104, 105, 108, 101] = some true from Rhn h, Qb, Zt, at1 hL h, hb, Qb]
 simp only [Rdt]
theorem Rtw {L l : List Tok} {k : Int} (hL : L.length ≤ 20000) (h : Suf L l) (hx : ex1 l = none) : Ras L (plc L l) k = some (z0, -1) := by
 have h1 := Rlj hL h
 rw [hx] at h1
 obtain ⟨x, h1⟩ := h1
 apply Rdd
 rw [h1, Qb]
 rfl
theorem Rwj {L l r : List Tok} {k : Int} {e : Exp} {b : List Stm} (hL : L.length ≤ 20000) (h : Suf L l) (hx : ex1 l = some (e, r)) (hb : Rbm L (plc L r) = some (b, -1)) : ∃ s, Ras L (plc L l) k = some (s, -1) := by
 have h1 := Rlj hL h
 rw [hx] at h1
 have h1 : _ = _ := h1
 refine ⟨⟨k, 0, 0, e, b, []⟩, ?_⟩
 apply Rdd
 have hn : ¬ ((plc L r : Int) < 0) := by omega
 rw [h1, Qb]
 dsimp only
 rw [Zq hn, Zf, hb, Qb]
 dsimp only
 rw [Rta, Qb]
 simp only [Rz]
 cases decide (k = 2) <;> rfl
theorem Rvx {L l r r2 : List Tok} {e : Exp} {b : List Stm} (hL : L.length ≤ 20000) (h : Suf L l) (hx : ex1 l = some (e, r)) (hb : Rbm L (plc L r) = some (b, (plc L r2 : Int))) : Ras L (plc L l) 3 = some (⟨3, 0, 0, e, b, []⟩, (plc L r2 : Int)) := by
 have h1 := Rlj hL h
 rw [hx] at h1
 have h1 : _ = _ := h1
 apply Rdd
 have hn : ¬ ((plc L r : Int) < 0) := by omega
 rw [h1, Qb]
 dsimp only
 rw [Zq hn, Zf, hb, Qb, show decide ((3 : Int) = 2) = false from by decide, Zf]
 simp only [Rz]
theorem br_if1 {L l r r2 : List Tok} {e : Exp} {b : List Stm} (hL : L.length ≤ 20000) (h : Suf L l) (hx : ex1 l = some (e, r)) (hs : Suf L r2) (hb : Rbm L (plc L r) = some (b, (plc L r2 : Int))) (hn2 : nd Rmd r2 = none) : Ras L (plc L l) 2 = some (⟨2, 0, 0, e, b, []⟩, (plc L r2 : Int)) := by
 have h1 := Rlj hL h
 rw [hx] at h1
 have h1 : _ = _ := h1
 apply Rdd
 have hn : ¬ ((plc L r : Int) < 0) := by omega
 rw [h1, Qb]
 dsimp only
 rw [Zq hn, Zf, hb, Qb, show decide ((2 : Int) = 2) = true from by decide, Zt]
 dsimp only
 rw [Rob hs, show nd [101, 108, 115, 101] r2 = none from hn2, Qb]
 simp only [Option.isSome_none, Zf, Rz]
theorem Rwk {L l r r2 : List Tok} {e : Exp} {b c : List Stm} {p : Int} (hL : L.length ≤ 20000) (h : Suf L l) (hx : ex1 l = some (e, r)) (hs : Suf L (Rmd :: r2)) (hb : Rbm L (plc L r) = some (b, (plc L (Rmd :: r2) : Int))) (hc : Rbm L (plc L r2) = some (c, p)) : Ras L (plc L l) 2 = some (⟨2, 0, 0, e, b, c⟩, p) := by
 have h1 := Rlj hL h
 rw [hx] at h1
 have h1 : _ = _ := h1
 apply Rdd
 have hn : ¬ ((plc L r : Int) < 0) := by omega
 rw [h1, Qb]
 dsimp only
 rw [Zq hn, Zf, hb, Qb, show decide ((2 : Int) = 2) = true from by decide, Zt]
 dsimp only
 rw [Rob hs, show nd [101, 108, 115, 101] (Rmd :: r2) = some r2 from Rq _ _, Qb]
 simp only [Option.isSome_some, Zt]
 rw [at1 hL hs, hc, Qb]
 simp only [Rz]
theorem Rwu : ∀ {j : K} {l : List Tok} {o : GO}, G j l o → ∀ L : List Tok, L.length ≤ 20000 → Suf L l → match j with
  | .st => SS L (Rdv L (plc L l)) o
  | .bk => SB L (Rbm L (plc L l)) o
  | .lp a => a.length ≤ plc L l → ∀ m, SLp L (Rbn L (plc L l) m a) o := by
 intro j l o h
 induction h with
 | @bk0 l h =>
  intro L hL hs
  refine ⟨[], ?_⟩
  apply Rjo
  rw [Rob hs, show nd [123] l = none from h, Qb]
  rfl
 | @bk l o h ih =>
  intro L hL hs
  have h1 := ih L hL hs.tail.1 (Nat.zero_le _) true
  have st : ∀ v, (bnd (Rbn L (plc L l) true []) fun r2 => bnd (Ra r2.1 r2.2.1 [125]) fun r3 => bif (!r3) then some (([] : List Stm), (-1)) else some (r2.2.2.2, (wrap64 (r2.2.1 + 1)))) = some v → Rbm L (plc L (kL :: l)) = some v := by
   intro v hv
   apply Rjo
   rw [show Ra L (plc L (kL :: l) : Int) [123] = some true from Rhn hs, Qb]
   simp only [Zv, Zf]
   rw [at1 hL hs]
   exact hv
  cases o with
  | none =>
   obtain ⟨p, x, h1, h2⟩ := h1
   exact ⟨[], st _ (by rw [h1, Qb, h2, Qb]; rfl)⟩
  | some q =>
   obtain ⟨b, r⟩ := q
   obtain ⟨m, h1, h2⟩ := h1
   refine st _ ?_
   rw [h1, Qb]
   dsimp only
   rw [show Ra L (plc L (kR :: r) : Int) [125] = some true from Rhn h2, Qb]
   simp only [Zv, Zf]
   rw [at1 hL h2]
 | @lpE a =>
  intro L hL hs ha m
  refine ⟨(plc L [] : Int), (m, a), ?_, ?_⟩
  ·apply Rct
   have h1 : ¬ ((plc L [] : Int) < (L.length : Int)) := by rw [Rdc]; omega
   rw [Zp (show (0 : Int) ≤ (plc L [] : Int) by omega), Zt, Zq h1, Zf]
  ·rw [Rob hs]; rfl
 | @lpS a l =>
  intro L hL hs ha m
  obtain ⟨hs2, hp, hlt, hg⟩ := hs.tail
  refine ⟨m, ?_, hs⟩
  apply Rct
  have h1 : ((plc L (kR :: l) : Int) < (L.length : Int)) := by omega
  rw [Zp (show (0 : Int) ≤ (plc L (kR :: l) : Int) by omega), Zt, Zp h1, Zt, hg, Qb]
  rfl
 | @lpN a t l ht h ih =>
  intro L hL hs ha m
  obtain ⟨hs2, hp, hlt, hg⟩ := hs.tail
  obtain ⟨x, e1⟩ := ih L hL hs
  refine ⟨-1, (true, a ++ [x]), ?_, Rta _ _⟩
  apply Rct
  have h1 : ((plc L (t :: l) : Int) < (L.length : Int)) := by omega
  have hb : (t == ([125] : Tok)) = false := by rw [beq_eq_false_iff_ne]; exact ht
  rw [Zp (show (0 : Int) ≤ (plc L (t :: l) : Int) by omega), Zt, Zp h1, Zt, hg, Qb, hb]
  simp only [Zx, Zt]
  rw [e1, Qb]
  simp only [Rdt]
  rw [Rdh (by omega), Qb, Rum]
 | @lpC a t l r s o ht h1 h2 ih1 ih2 =>
  intro L hL hs ha m
  obtain ⟨hs2, hp, hlt, hg⟩ := hs.tail
  obtain ⟨s', hb, e1⟩ := ih1 L hL hs
  injection hb with hb
  subst hb
  have hsf := Rik h1 _ _ rfl
  have hs3 := hs.trans hsf.1
  have hpl : plc L (t :: l) + 1 ≤ plc L r := by
   have h3 := hsf.2
   obtain ⟨p, hp2⟩ := hs
   have : L.length = p.length + (t :: l).length := by rw [hp2, Za]
   unfold plc; omega
  have e2 := ih2 L hL hs3 (by rw [Za]; simp only [Zc, Zn]; omega) true
  have h1 : ((plc L (t :: l) : Int) < (L.length : Int)) := by omega
  have hb : (t == ([125] : Tok)) = false := by rw [beq_eq_false_iff_ne]; exact ht
  have st : ∀ v, Rbn L (plc L r) true (a ++ [s]) = some v → Rbn L (plc L (t :: l)) m a = some v := by
   intro v hv
   apply Rct
   rw [Zp (show (0 : Int) ≤ (plc L (t :: l) : Int) by omega), Zt, Zp h1, Zt, hg, Qb, hb]
   simp only [Zx, Zt]
   rw [e1, Qb]
   simp only [Rdt]
   rw [Rdh (by omega), Qb]
   exact hv
  cases o with
  | none => obtain ⟨p, x, e2, e3⟩ := e2; exact ⟨p, x, st _ e2, e3⟩
  | some q => obtain ⟨b, r'⟩ := q; obtain ⟨m', e2, e3⟩ := e2; exact ⟨m', st _ e2, e3⟩
 | @smp t l o h1 h2 h =>
  intro L hL hs
  rw [← h]
  exact one_smp hL hs h1 h2
 | @ifN l h =>
  intro L hL hs
  exact ⟨_, Rre hL hs (Rtw hL hs.tail.1 h)⟩
 | @ifB l r e h hb ih =>
  intro L hL hs
  obtain ⟨x, e2⟩ := ih L hL (Red hs.tail.1 h)
  obtain ⟨s, e3⟩ := Rwj (k := 2) hL hs.tail.1 h e2
  exact ⟨s, Rre hL hs e3⟩
 | @if1 l r r2 e b h hb hn ih =>
  intro L hL hs
  have hs3 := Red hs.tail.1 h
  have e2 := ih L hL hs3
  exact ⟨_, rfl, Rre hL hs (br_if1 hL hs.tail.1 h (hs3.trans (Rik hb _ _ rfl).1) e2 hn)⟩
 | @if2 l r r2 r3 e b c h hb hc ih ih2 =>
  intro L hL hs
  have hs3 := Red hs.tail.1 h
  have e2 := ih L hL hs3
  have hs4 := hs3.trans (Rik hb _ _ rfl).1
  have e3 := ih2 L hL hs4.tail.1
  exact ⟨_, rfl, Rre hL hs (Rwk hL hs.tail.1 h hs4 e2 e3)⟩
 | @if3 l r r2 e b h hb hc ih ih2 =>
  intro L hL hs
  have hs3 := Red hs.tail.1 h
  have e2 := ih L hL hs3
  have hs4 := hs3.trans (Rik hb _ _ rfl).1
  obtain ⟨x, e3⟩ := ih2 L hL hs4.tail.1
  exact ⟨_, Rre hL hs (Rwk hL hs.tail.1 h hs4 e2 e3)⟩
 | @whN l h =>
  intro L hL hs
  exact ⟨_, Roj hL hs (Rtw hL hs.tail.1 h)⟩
 | @whB l r e h hb ih =>
  intro L hL hs
  obtain ⟨x, e2⟩ := ih L hL (Red hs.tail.1 h)
  obtain ⟨s, e3⟩ := Rwj (k := 3) hL hs.tail.1 h e2
  exact ⟨s, Roj hL hs e3⟩
 | @wh l r r2 e b h hb ih =>
  intro L hL hs
  exact ⟨_, rfl, Roj hL hs (Rvx hL hs.tail.1 h (ih L hL (Red hs.tail.1 h)))⟩
theorem Rsu (o n : Int) (as : List Exp) : emX ⟨o, n, as⟩ = emXs as := by rw [Rfa]
theorem Rvw {t : Tok} {e : Exp} (h : atom t = some e) : emX e = 0 := by
 by_cases h0 : 0 ≤ numV t
 ·rw [Rnr h h0]; rfl
 ·rw [(Rjs h h0).2]; rfl
theorem P_sz : ∀ {j : J} {l : List Tok} {o : Out}, P j l o → ∀ e r, o = some (e, r) → match j with
  | .loop _ e0 => emX e + 2 * r.length ≤ emX e0 + 2 * l.length
  | _ => emX e + 2 * r.length + 2 ≤ 2 * l.length := by
 intro j l o h
 induction h with
 | nil => intro e r ho; cases ho
 | atom h1 h2 => intro e r ho; injection ho with ho; injection ho with a b; subst a b; have := Rvw h2; simp only [Zc]; omega
 | bad _ _ => intro e r ho; cases ho
 | par h ih => intro e r ho; injection ho with ho; injection ho with a b; subst a b; have := ih _ _ rfl; simp only [Zc] at *; omega
 | parN _ _ => intro e r ho; cases ho
 | parE _ _ => intro e r ho; cases ho
 | parB _ _ _ => intro e r ho; cases ho
 | top hk h ih => intro e r ho; exact ih e r ho
 | levN hk h ih => intro e r ho; cases ho
 | levS hk h1 h2 ih1 ih2 =>
  intro e r ho
  have a := ih1 _ _ rfl
  have b := ih2 e r ho
  simp only at *; omega
 | stop hn => intro e r ho; injection ho with ho; injection ho with a b; subst a b; exact Nat.le_refl _
 | step hl h1 h2 ih1 ih2 =>
  intro e r ho
  have a := ih1 _ _ rfl
  have b := ih2 e r ho
  simp only [Rsu, Rvz, Zc] at *; omega
 | stepN hl h ih => intro e r ho; cases ho
theorem Rts {l r : List Tok} {e : Exp} (h : ex1 l = some (e, r)) : emX e + 2 * r.length + 2 ≤ 2 * l.length := P_sz (h ▸ Rtr l) e r rfl
theorem Rhq (k v b : Int) (e : Exp) (bd el : List Stm) : mSs [⟨k, v, b, e, bd, el⟩] = 1 + emX e + mSs bd + mSs el := by
 cases e
 rw [mSs_one, mS_mk, Rsu]
 omega
theorem smp_sz {t : Tok} {l r : List Tok} {b : List Stm} (h : smp (t :: l) = some (b, r)) : mSs b + 2 * r.length ≤ 2 * (t :: l).length := by
 obtain ⟨s, rfl, hh⟩ := Rqj h
 clear h
 have z : mSs [] = 0 := rfl
 rcases hh with ⟨u, e, rfl, hu, ⟨r1, rfl, h⟩, rfl⟩ | ⟨u, w, rfl, hu, hw, rfl, rfl⟩ | ⟨rfl, rfl, rfl⟩ | ⟨e, rfl, h, rfl⟩ | ⟨e, _, _, _, _, hv, ⟨r1, rfl, h⟩, rfl⟩
 ·have := Rts h; rw [Rhq, z]; simp only [Zc] at *; omega
 ·rw [Rhq, z, Rsu]; simp only [Zc, emXs]; omega
 ·rw [Rhq, z, Rsu]; simp only [Zc, emXs]; omega
 ·have := Rts h; rw [Rhq, z]; simp only [Zc] at *; omega
 ·have := Rts h; rw [Rhq, z]; simp only [Zc] at *; omega
theorem G_sz : ∀ {j : K} {l : List Tok} {o : GO}, G j l o → ∀ b r, o = some (b, r) → match j with
  | .lp a => mSs b + 2 * r.length ≤ mSs a + 2 * l.length
  | _ => mSs b + 2 * r.length ≤ 2 * l.length := by
 intro j l o h
 have z : mSs [] = 0 := rfl
 induction h with
 | bk0 _ => intro b r ho; cases ho
 | bk h ih => intro b r ho; have := ih b r ho; simp only [Zc, z] at *; omega
 | lpE => intro b r ho; cases ho
 | lpS => intro b r ho; injection ho with ho; injection ho with a c; subst a c; simp only [Zc]; omega
 | lpN _ _ _ => intro b r ho; cases ho
 | lpC h1 h2 h3 ih1 ih2 =>
  intro b r ho
  have a := ih1 _ _ rfl
  have b := ih2 b r ho
  simp only [Rpk] at *; omega
 | smp h1 h2 h => intro b r ho; rw [ho] at h; exact smp_sz h
 | ifN _ => intro b r ho; cases ho
 | ifB _ _ _ => intro b r ho; cases ho
 | if1 h1 h2 h3 ih =>
  intro b r ho
  injection ho with ho; injection ho with a c; subst a c
  have := ih _ _ rfl
  have := Rts h1
  rw [Rhq]; simp only [Zc, z] at *; omega
 | if2 h1 _ _ ih ih2 =>
  intro b r ho
  injection ho with ho; injection ho with a c; subst a c
  have := ih _ _ rfl
  have := ih2 _ _ rfl
  have := Rts h1
  rw [Rhq]; simp only [Zc] at *; omega
 | if3 _ _ _ _ _ => intro b r ho; cases ho
 | whN _ => intro b r ho; cases ho
 | whB _ _ _ => intro b r ho; cases ho
 | wh h1 _ ih =>
  intro b r ho
  injection ho with ho; injection ho with a c; subst a c
  have := ih _ _ rfl
  have := Rts h1
  rw [Rhq]; simp only [Zc, z] at *; omega
inductive BR : List Int → List Tok → Option (List Int × List Tok) → Prop
 | stop {a : List Int} {l : List Tok} : nd kBox l = none → BR a l (some (a, l))
 | go {a : List Int} {l r : List Tok} {n : Int} {o : Option (List Int × List Tok)} : nu l = some (n, kS :: r) → BR (a ++ [n]) r o → BR a (kBox :: l) o
 | bad {a : List Int} {l : List Tok} : (nu l).bind (fun p => nd kS p.2) = none → BR a (kBox :: l) none
inductive TR : List (List Stm) → List Tok → Option (List (List Stm) × List Tok) → Prop
 | stop {a : List (List Stm)} {l : List Tok} : nd Rkm l = none → TR a l (some (a, l))
 | go {a : List (List Stm)} {l r : List Tok} {b : List Stm} {o : Option (List (List Stm) × List Tok)} : G .bk l (some (b, r)) → TR (a ++ [b]) r o → TR a (Rkm :: l) o
 | bad {a : List (List Stm)} {l : List Tok} : G .bk l none → TR a (Rkm :: l) none
theorem Rpx : ∀ (n : Nat) (l : List Tok) (a : List Int), l.length < n → ∃ o, BR a l o
 | 0, _, _, h => by omega
 | n + 1, l, a, h => by
  cases h1 : nd kBox l with
  | none => exact ⟨_, .stop h1⟩
  | some l1 =>
   have := Rcy h1
   subst this
   cases h2 : (nu l1).bind (fun p => nd kS p.2) with
   | none => exact ⟨_, .bad h2⟩
   | some r =>
    rw [Option.bind_eq_some_iff] at h2
    obtain ⟨⟨k, l2⟩, h3, h4⟩ := h2
    have := Rcy h4
    simp only at this
    subst this
    obtain ⟨u, hu, _⟩ := Rjl h3
    subst hu
    simp only [Zc] at h
    obtain ⟨o, ho⟩ := Rpx n r (a ++ [k]) (by omega)
    exact ⟨o, .go h3 ho⟩
theorem Rpz : ∀ (n : Nat) (l : List Tok) (a : List (List Stm)), l.length < n → ∃ o, TR a l o
 | 0, _, _, h => by omega
 | n + 1, l, a, h => by
  cases h1 : nd Rkm l with
  | none => exact ⟨_, .stop h1⟩
  | some l1 =>
   have := Rcy h1
   subst this
   simp only [Zc] at h
   obtain ⟨o, ho⟩ := (Rlv (l1.length + 1) l1 (Nat.lt_succ_self _)).2.1
   cases o with
   | none => exact ⟨_, .bad ho⟩
   | some q =>
    obtain ⟨b, r⟩ := q
    have := (Rik ho b r rfl).2
    obtain ⟨o2, ho2⟩ := Rpz n r (a ++ [b]) (by omega)
    exact ⟨o2, .go ho ho2⟩
theorem Rsi : ∀ {a : List Int} {l : List Tok} {o}, BR a l o → ∀ b r, o = some (b, r) → (∃ p, l = p ++ r) ∧ a.length + l.length ≥ b.length + r.length := by
 intro a l o h
 induction h with
 | stop h => intro b r ho; injection ho with ho; injection ho with a c; subst a c; exact ⟨⟨[], rfl⟩, Nat.le_refl _⟩
 | @go a l r n o h1 h2 ih =>
  intro b r ho
  obtain ⟨⟨p, hp⟩, hl⟩ := ih b r ho
  obtain ⟨u, hu, _⟩ := Rjl h1
  subst hu hp
  refine ⟨⟨kBox :: u :: kS :: p, rfl⟩, ?_⟩
  simp only [Za, Zc, Zn] at *; omega
 | bad h => intro b r ho; cases ho
theorem Rtv : ∀ {a : List (List Stm)} {l : List Tok} {o}, TR a l o → ∀ b r, o = some (b, r) → (∃ p, l = p ++ r) ∧ b.length + r.length ≤ a.length + l.length ∧ (∀ n, 2 * l.length ≤ n → (∀ x ∈ a, mSs x ≤ n) → ∀ x ∈ b, mSs x ≤ n) := by
 intro a l o h
 induction h with
 | stop h => intro b r ho; injection ho with ho; injection ho with a c; subst a c; exact ⟨⟨[], rfl⟩, Nat.le_refl _, fun n _ h => h⟩
 | @go a l r' b o h1 h2 ih =>
  intro b2 r ho
  obtain ⟨⟨p, hp⟩, hl, hm⟩ := ih b2 r ho
  obtain ⟨⟨q, hq⟩, hl2⟩ := Rik h1 _ _ rfl
  have hz := G_sz h1 _ _ rfl
  refine ⟨⟨Rkm :: q ++ p, by rw [hq, hp]; simp⟩, ?_, ?_⟩
  ·simp only [Za, Zc, Zn] at *; omega
  ·intro n hn ha
   simp only [Zc] at hn hz
   refine hm n (by omega) (fun x hx => ?_)
   rcases List.mem_append.1 hx with hx | hx
   ·exact ha x hx
   ·rw [List.mem_singleton.1 hx]; omega
 | bad h => intro b r ho; cases ho
theorem Rpg {L : List Tok} {t4 : List Tok} {c0 : Bool} {c1 : Bool} {c3 : Bool} {y0 : List Int} {y1 : List (List Stm)} {y3 : List (List Stm)} (p : Int) (m : Bool) (a : List Int) : Rn t4 c0 y0 c1 y1 L p true m a c3 y3 = some (t4, (c0, y0), (c1, y1), L, p, true, (m, a), (c3, y3)) := by
 apply Rbg
 rw [Rdg (by simp), Qb]; rfl
theorem Rud {L : List Tok} {t4 : List Tok} {c0 : Bool} {c1 : Bool} {c3 : Bool} {y0 : List Int} {y1 : List (List Stm)} {y3 : List (List Stm)} : ∀ {a : List Int} {l : List Tok} {o}, BR a l o → L.length ≤ 20000 → (∀ t ∈ L, gt t) → Suf L l → a.length + l.length ≤ 20000 → ∀ m, match o with
  | some (rs, r) => ∃ m', Rn t4 c0 y0 c1 y1 L (plc L l) false m a c3 y3 = some (t4, (c0, y0), (c1, y1), L, (plc L r : Int), false, (m', rs), (c3, y3))
  | none => ∃ p x, Rn t4 c0 y0 c1 y1 L (plc L l) false m a c3 y3 = some (t4, (c0, y0), (c1, y1), L, p, true, x, (c3, y3)) := by
 intro a l o h
 induction h with
 | @stop a l h =>
  intro hL hg hs ha m
  refine ⟨m, ?_⟩
  apply Rbg
  rw [Rd (by simp) hL hs, show nd [98, 111, 120] l = none from h, Qb]; rfl
 | @go a l r n o h1 h2 ih =>
  intro hL hg hs ha m
  have hn := Rey hL hg hs.tail.1
  rw [h1] at hn
  have hn : _ = _ := hn
  have hs3 := Rmt hs.tail.1 h1
  obtain ⟨u, hu, _⟩ := Rjl h1
  have e2 := ih hL hg hs3.tail.1 (by subst hu; simp only [Za, Zc, Zn] at *; omega) true
  have st : ∀ v, Rn t4 c0 y0 c1 y1 L (plc L r) false true (a ++ [n]) c3 y3 = some v → Rn t4 c0 y0 c1 y1 L (plc L (kBox :: l)) false m a c3 y3 = some v := by
   intro v hv
   apply Rbg
   rw [Rd (k := [98, 111, 120]) (by simp) hL hs, show nd [98, 111, 120] (kBox :: l) = some l from Rq _ _, Qb]
   simp only [Zt]
   rw [hn, Qb]
   dsimp only
   rw [Rdh (by omega), Qb, Rdr (by simp) hL hs3, show nd [59] (kS :: r) = some r from Rq _ _, Qb]
   exact hv
  cases o with
  | none => obtain ⟨p, x, e2⟩ := e2; exact ⟨p, x, st _ e2⟩
  | some q => obtain ⟨b, r'⟩ := q; obtain ⟨m', e2⟩ := e2; exact ⟨m', st _ e2⟩
 | @bad a l h =>
  intro hL hg hs ha m
  have hs2 := hs.tail.1
  have hn := Rey hL hg hs2
  cases h1 : nu l with
  | none =>
   rw [h1] at hn
   obtain ⟨q, hn⟩ := hn
   refine ⟨q, (true, a ++ [0]), ?_⟩
   apply Rbg
   rw [Rd (k := [98, 111, 120]) (by simp) hL hs, show nd [98, 111, 120] (kBox :: l) = some l from Rq _ _, Qb]
   simp only [Zt]
   rw [hn, Qb]
   dsimp only
   rw [Rdh (by omega), Qb, Rbf (by simp), Qb, Rpg]
  | some p =>
   obtain ⟨n, r⟩ := p
   rw [h1] at hn h
   have hn : _ = _ := hn
   simp only [Option.bind_some] at h
   have hs3 := Rmt hs2 h1
   refine ⟨(plc L r : Int), (true, a ++ [n]), ?_⟩
   apply Rbg
   rw [Rd (k := [98, 111, 120]) (by simp) hL hs, show nd [98, 111, 120] (kBox :: l) = some l from Rq _ _, Qb]
   simp only [Zt]
   rw [hn, Qb]
   dsimp only
   rw [Rdh (by omega), Qb, Rdr (by simp) hL hs3, show nd [59] r = none from h, Qb, Rpg]
theorem Rpw {L : List Tok} {t4 : List Tok} {c0 : Bool} {c1 : Bool} {y0 : List Int} {y1 : List (List Stm)} {m0 : Bool} {b0 : List Int} (p : Int) (m : Bool) (a : List (List Stm)) : Ru t4 c0 y0 c1 y1 L p true m0 b0 m a = some (t4, (c0, y0), (c1, y1), L, p, true, (m0, b0), (m, a)) := by
 apply Rcg
 rw [Rdg (by simp), Qb]; rfl
theorem impl_TR {L : List Tok} {t4 : List Tok} {c0 : Bool} {c1 : Bool} {y0 : List Int} {y1 : List (List Stm)} {m0 : Bool} {b0 : List Int} : ∀ {a : List (List Stm)} {l : List Tok} {o}, TR a l o → L.length ≤ 20000 → (∀ t ∈ L, gt t) → Suf L l → a.length + l.length ≤ 20000 → ∀ m, match o with
  | some (ts, r) => ∃ m', Ru t4 c0 y0 c1 y1 L (plc L l) false m0 b0 m a = some (t4, (c0, y0), (c1, y1), L, (plc L r : Int), false, (m0, b0), (m', ts))
  | none => ∃ p x, Ru t4 c0 y0 c1 y1 L (plc L l) false m0 b0 m a = some (t4, (c0, y0), (c1, y1), L, p, true, (m0, b0), x) := by
 intro a l o h
 induction h with
 | @stop a l h =>
  intro hL hg hs ha m
  refine ⟨m, ?_⟩
  apply Rcg
  rw [Rd (by simp) hL hs, show nd [116, 97, 115, 107] l = none from h, Qb]; rfl
 | @go a l r b o h1 h2 ih =>
  intro hL hg hs ha m
  have e1 := Rwl h1 L hL hg hs.tail.1
  have e1 : _ = _ := e1
  have hsf := Rik h1 _ _ rfl
  have hs3 := hs.tail.1.trans hsf.1
  have e2 := ih hL hg hs3 (by have := hsf.2; simp only [Za, Zc, Zn] at *; omega) true
  have st : ∀ v, Ru t4 c0 y0 c1 y1 L (plc L r) false m0 b0 true (a ++ [b]) = some v → Ru t4 c0 y0 c1 y1 L (plc L (Rkm :: l)) false m0 b0 m a = some v := by
   intro v hv
   apply Rcg
   rw [Rd (k := [116, 97, 115, 107]) (by simp) hL hs, show nd [116, 97, 115, 107] (Rkm :: l) = some l from Rq _ _, Qb]
   simp only [Zt]
   rw [e1, Qb]
   dsimp only
   rw [Rdh (by omega), Qb]
   exact hv
  cases o with
  | none => obtain ⟨p, x, e2⟩ := e2; exact ⟨p, x, st _ e2⟩
  | some q => obtain ⟨b, r'⟩ := q; obtain ⟨m', e2⟩ := e2; exact ⟨m', st _ e2⟩
 | @bad a l h =>
  intro hL hg hs ha m
  obtain ⟨x, p, e1⟩ := Rwl h L hL hg hs.tail.1
  refine ⟨p, (true, a ++ [x]), ?_⟩
  apply Rcg
  rw [Rd (k := [116, 97, 115, 107]) (by simp) hL hs, show nd [116, 97, 115, 107] (Rkm :: l) = some l from Rq _ _, Qb]
  simp only [Zt]
  rw [e1, Qb]
  dsimp only
  rw [Rdh (by omega), Qb, Rpw]
theorem Rvm {L : List Tok} {c0 : Bool} {c1 : Bool} {c2 : Bool} {c3 : Bool} {c5 : Bool} {y0 : List Int} {y2 : List Int} {y1 : List (List Stm)} {y3 : List (List Stm)} {y5 : List (List Stm)} : ∀ {a : List Int} {l : List Tok} {o}, BR a l o → L.length ≤ 20000 → Suf L l → a.length + l.length ≤ 20000 → ∀ m, match o with
  | some (rs, r) => ∃ m', Rv L (plc L l) c0 y0 c1 y1 c2 y2 c3 y3 m a c5 y5 = some (L, (plc L r : Int), (c0, y0), (c1, y1), (c2, y2), (c3, y3), (m', rs), (c5, y5))
  | none => ∃ r x, Suf L (kBox :: r) ∧ Rv L (plc L l) c0 y0 c1 y1 c2 y2 c3 y3 m a c5 y5 = some (L, (plc L (kBox :: r) : Int), (c0, y0), (c1, y1), (c2, y2), (c3, y3), x, (c5, y5)) := by
 intro a l o h
 induction h with
 | @stop a l h =>
  intro hL hs ha m
  refine ⟨m, ?_⟩
  apply Rds
  rw [Rob hs, show nd [98, 111, 120] l = none from h, Qb]; rfl
 | @go a l r n o h1 h2 ih =>
  intro hL hs ha m
  obtain ⟨u, hu, h0, hn⟩ := Rjl h1
  subst hu
  have hs2 := hs.tail.1
  have hs3 := hs2.tail.1
  have e2 := ih hL hs3.tail.1 (by simp only [Za, Zc, Zn] at *; omega) true
  have st : ∀ v, Rv L (plc L r) c0 y0 c1 y1 c2 y2 c3 y3 true (a ++ [n]) c5 y5 = some v → Rv L (plc L (kBox :: u :: kS :: r)) c0 y0 c1 y1 c2 y2 c3 y3 m a c5 y5 = some v := by
   intro v hv
   apply Rds
   rw [show Ra L (plc L (kBox :: u :: kS :: r) : Int) [98, 111, 120] = some true from Rhn hs, Qb, Zt, at1 hL hs, Rjv hs2, Qb, Zp h0, Zt, at2 hL hs,
    show Ra L (plc L (kS :: r) : Int) [59] = some true from Rhn hs3, Qb, Zt, Qb, Rdh (by omega), Qb, at3 hL hs, ← hn]
   exact hv
  cases o with
  | none => obtain ⟨r2, x, q, e2⟩ := e2; exact ⟨r2, x, q, st _ e2⟩
  | some q => obtain ⟨b, r'⟩ := q; obtain ⟨m', e2⟩ := e2; exact ⟨m', st _ e2⟩
 | @bad a l h =>
  intro hL hs ha m
  refine ⟨l, (m, a), hs, ?_⟩
  apply Rds
  rw [show Ra L (plc L (kBox :: l) : Int) [98, 111, 120] = some true from Rhn hs, Qb, Zt, at1 hL hs]
  have hs2 := hs.tail.1
  cases l with
  | nil => rw [Roi, Qb]; rfl
  | cons u l =>
   rw [Rjv hs2, Qb]
   by_cases h0 : 0 ≤ numV u
   ·rw [Rry h0] at h
    simp only [Option.bind_some] at h
    rw [Zp h0, Zt, at2 hL hs, Rob hs2.tail.1, show nd [59] l = none from h, Qb]; rfl
   ·rw [Zq h0, Zf]
theorem Rvq {L : List Tok} {c0 : Bool} {c1 : Bool} {c2 : Bool} {c3 : Bool} {y0 : List Int} {y2 : List Int} {y1 : List (List Stm)} {y3 : List (List Stm)} {m0 : Bool} {b0 : List Int} (m : Bool) (a : List (List Stm)) : Rx L (-1) c0 y0 c1 y1 c2 y2 c3 y3 m0 b0 m a = some (L, -1, (c0, y0), (c1, y1), (c2, y2), (c3, y3), (m0, b0), (m, a)) := by
 apply Rci
 rw [Rta, Qb]; rfl
theorem Rvn {L : List Tok} {c0 : Bool} {c1 : Bool} {c2 : Bool} {c3 : Bool} {y0 : List Int} {y2 : List Int} {y1 : List (List Stm)} {y3 : List (List Stm)} {m0 : Bool} {b0 : List Int} : ∀ {a : List (List Stm)} {l : List Tok} {o}, TR a l o → L.length ≤ 20000 → Suf L l → a.length + l.length ≤ 20000 → ∀ m, match o with
  | some (ts, r) => ∃ m', Rx L (plc L l) c0 y0 c1 y1 c2 y2 c3 y3 m0 b0 m a = some (L, (plc L r : Int), (c0, y0), (c1, y1), (c2, y2), (c3, y3), (m0, b0), (m', ts))
  | none => ∃ x, Rx L (plc L l) c0 y0 c1 y1 c2 y2 c3 y3 m0 b0 m a = some (L, -1, (c0, y0), (c1, y1), (c2, y2), (c3, y3), (m0, b0), x) := by
 intro a l o h
 induction h with
 | @stop a l h =>
  intro hL hs ha m
  refine ⟨m, ?_⟩
  apply Rci
  rw [Rob hs, show nd [116, 97, 115, 107] l = none from h, Qb]; rfl
 | @go a l r b o h1 h2 ih =>
  intro hL hs ha m
  have e1 := Rwu h1 L hL hs.tail.1
  have e1 : _ = _ := e1
  have hsf := Rik h1 _ _ rfl
  have e2 := ih hL (hs.tail.1.trans hsf.1) (by have := hsf.2; simp only [Za, Zc, Zn] at *; omega) true
  have st : ∀ v, Rx L (plc L r) c0 y0 c1 y1 c2 y2 c3 y3 m0 b0 true (a ++ [b]) = some v → Rx L (plc L (Rkm :: l)) c0 y0 c1 y1 c2 y2 c3 y3 m0 b0 m a = some v := by
   intro v hv
   apply Rci
   rw [show Ra L (plc L (Rkm :: l) : Int) [116, 97, 115, 107] = some true from Rhn hs, Qb, Zt, at1 hL hs, e1, Qb]
   dsimp only
   rw [Rdh (by omega), Qb]
   exact hv
  cases o with
  | none => obtain ⟨x, e2⟩ := e2; exact ⟨x, st _ e2⟩
  | some q => obtain ⟨b, r'⟩ := q; obtain ⟨m', e2⟩ := e2; exact ⟨m', st _ e2⟩
 | @bad a l h =>
  intro hL hs ha m
  obtain ⟨x, e1⟩ := Rwu h L hL hs.tail.1
  refine ⟨(true, a ++ [x]), ?_⟩
  apply Rci
  rw [show Ra L (plc L (Rkm :: l) : Int) [116, 97, 115, 107] = some true from Rhn hs, Qb, Zt, at1 hL hs, e1, Qb]
  dsimp only
  rw [Rdh (by omega), Qb, Rvq]
def PrF (t : List Tok) (p : Prg) : Prop := ∃ l, BR [] t (some (p.rooms, l)) ∧ TR [] l (some (p.tasks, []))
def Prm (s : List UInt8) (p : Prg) : Prop := s.length ≤ 20000 ∧ (∃ t, toks s = some t ∧ PrF t p) ∧ Rie p = true
theorem Rqh (p : Prg) : (⟨p.rooms, p.tasks⟩ : Prg) = p := by cases p; rfl
theorem Rsj {t : List Tok} {p : Prg} (h : PrF t p) (n : Nat) (hn : 2 * t.length ≤ n) : p.rooms.length ≤ n ∧ p.tasks.length ≤ n ∧ ∀ x ∈ p.tasks, mSs x ≤ n := by
 obtain ⟨l, h1, h2⟩ := h
 have a := (Rsi h1 _ _ rfl).2
 have b := Rtv h2 _ _ rfl
 simp only [Zn] at a b
 exact ⟨by omega, by omega, b.2.2 n (by omega) (fun x hx => by cases hx)⟩
theorem Rsh : ∀ {a : List Int} {l : List Tok} {o}, BR a l o → ∀ o', BR a l o' → o = o' := by
 intro a l o h
 induction h with
 | stop h => intro o' h'; cases h' with | stop _ => rfl | go _ _ => exact absurd h Rhs | bad _ => exact absurd h Rhs
 | go h1 h2 ih =>
  intro o' h'
  cases h' with
  | stop h => exact absurd h Rhs
  | go h3 h4 => rw [h1] at h3; injection h3 with h3; injection h3 with a b; injection b with _ b; subst a b; exact ih _ h4
  | bad h => rw [h1, Option.bind_some, Rq] at h; cases h
 | bad h =>
  intro o' h'
  cases h' with
  | stop h2 => exact absurd h2 Rhs
  | go h1 h2 => rw [h1, Option.bind_some, Rq] at h; cases h
  | bad h => rfl
theorem Rtu : ∀ {a : List (List Stm)} {l : List Tok} {o}, TR a l o → ∀ o', TR a l o' → o = o' := by
 intro a l o h
 induction h with
 | stop h => intro o' h'; cases h' with | stop _ => rfl | go _ _ => exact absurd h Rhs | bad _ => exact absurd h Rhs
 | go h1 h2 ih =>
  intro o' h'
  cases h' with
  | stop h => exact absurd h Rhs
  | go h3 h4 => have := G_det h1 _ h3; injection this with this; injection this with a b; subst a b; exact ih _ h4
  | bad h => have := G_det h1 _ h; cases this
 | bad h =>
  intro o' h'
  cases h' with
  | stop h2 => exact absurd h2 Rhs
  | go h1 h2 => have := G_det h _ h1; cases this
  | bad h => rfl
theorem PrF_det {t : List Tok} {p q : Prg} (h1 : PrF t p) (h2 : PrF t q) : p = q := by
 obtain ⟨l, a, b⟩ := h1
 obtain ⟨l2, c, d⟩ := h2
 have e := Rsh a _ c
 injection e with e; injection e with e1 e2
 subst e2
 have f := Rtu b _ d
 injection f with f; injection f with f1 f2
 cases p; cases q
 simp only at e1 f1
 rw [e1, f1]
theorem pf_all (s : List UInt8) : (∃ p, Prm s p ∧ Rbs s = some (p, true) ∧ Rbt s = some (p, true)) ∨
  ((∀ p, ¬ Prm s p) ∧ Rbs s = some (⟨[], []⟩, false) ∧ Rbt s = some (⟨[], []⟩, false)) := by
 by_cases hl : 20000 < s.length
 ·refine Or.inr ⟨fun p h => by have := h.1; omega, ?_, ?_⟩
  ·apply Reo; rw [Ree, if_pos hl, Qb]; rfl
  ·apply Reu; rw [Rhw, if_pos hl, Qb]; rfl
 ·cases ht : toks s with
  | none =>
   refine Or.inr ⟨fun p h => ?_, ?_, ?_⟩
   ·obtain ⟨_, ⟨t, h1, _⟩, _⟩ := h
    rw [ht] at h1; cases h1
   ·apply Reo; rw [Ree, if_neg hl, ht, Qb]; rfl
   ·apply Reu; rw [Rhw, if_neg hl, ht, Qb]; rfl
  | some t =>
   have hlen := Rlt ht
   have hL : t.length ≤ 20000 := by omega
   have hg := Rsc ht
   obtain ⟨hs, h0⟩ := Rsa t
   have no : (∀ p, PrF t p → Rie p = false) → (∀ p, ¬ Prm s p) := by
    intro h p hp
    obtain ⟨_, ⟨t', h1, h2⟩, h3⟩ := hp
    rw [ht] at h1; injection h1 with h1; subst h1
    rw [h p h2] at h3; cases h3
   have ist : ∀ v, (bnd (Rn t false [] false [] t 0 false false [] false []) fun r2 =>
     bnd (Ru r2.1 r2.2.1.1 r2.2.1.2 r2.2.2.1.1 r2.2.2.1.2 r2.2.2.2.1 r2.2.2.2.2.1 r2.2.2.2.2.2.1 r2.2.2.2.2.2.2.1.1 r2.2.2.2.2.2.2.1.2 r2.2.2.2.2.2.2.2.1 r2.2.2.2.2.2.2.2.2) fun r3 =>
     (bif r3.2.2.2.2.2.1 then some ((⟨[], []⟩ : Prg), false) else
     (bif (!decide (r3.2.2.2.2.1 = (r3.1.length : Int))) then some (⟨[], []⟩, false) else
     bnd (Raz (⟨r3.2.2.2.2.2.2.1.2, r3.2.2.2.2.2.2.2.2⟩ : Prg)) fun r4 =>
     (bif (!r4) then some (⟨[], []⟩, false) else some (⟨r3.2.2.2.2.2.2.1.2, r3.2.2.2.2.2.2.2.2⟩, true))))) = some v → Rbs s = some v := by
    intro v hv
    apply Reo
    rw [Ree, if_neg hl, ht, Qb]
    exact hv
   have sst : ∀ v, (bnd (Rv t 0 false [] false [] false [] false [] false ([] : List Int) false ([] : List (List Stm))) fun r2 =>
     bnd (Rx r2.1 r2.2.1 r2.2.2.1.1 r2.2.2.1.2 r2.2.2.2.1.1 r2.2.2.2.1.2 r2.2.2.2.2.1.1 r2.2.2.2.2.1.2 r2.2.2.2.2.2.1.1 r2.2.2.2.2.2.1.2 r2.2.2.2.2.2.2.1.1 r2.2.2.2.2.2.2.1.2 r2.2.2.2.2.2.2.2.1 r2.2.2.2.2.2.2.2.2) fun r3 =>
     (bif (!decide (r3.2.1 = (r3.1.length : Int))) then some ((⟨r3.2.2.2.2.1.2, r3.2.2.2.2.2.1.2⟩ : Prg), false) else
     bnd (Rca (⟨r3.2.2.2.2.2.2.1.2, r3.2.2.2.2.2.2.2.2⟩ : Prg)) fun r4 =>
     (bif (!r4) then some (⟨r3.2.2.2.2.1.2, r3.2.2.2.2.2.1.2⟩, false) else some (⟨r3.2.2.2.2.2.2.1.2, r3.2.2.2.2.2.2.2.2⟩, true)))) = some v → Rbt s = some v := by
    intro v hv
    apply Reu
    rw [Rhw, if_neg hl, ht, Qb]
    exact hv
   obtain ⟨o1, b1⟩ := Rpx (t.length + 1) t [] (Nat.lt_succ_self _)
   cases o1 with
   | none =>
    refine Or.inr ⟨no fun p ⟨l, a, b⟩ => ?_, ?_, ?_⟩
    ·have := Rsh b1 _ a; cases this
    ·obtain ⟨p, x, e1⟩ := Rud (t4 := t) (c0 := false) (c1 := false) (c3 := false) (y0 := []) (y1 := []) (y3 := []) b1 hL hg hs (by simpa using hL) false
     rw [h0] at e1
     apply ist
     rw [show Rn t false [] false [] t 0 false false [] false [] = _ from e1, Qb]
     dsimp only
     rw [Rpw, Qb]; rfl
    ·obtain ⟨r, x, hr, e1⟩ := Rvm (c0 := false) (c1 := false) (c2 := false) (c3 := false) (c5 := false) (y0 := []) (y1 := []) (y2 := []) (y3 := []) (y5 := []) b1 hL hs (by simpa using hL) false
     rw [h0] at e1
     apply sst
     rw [show Rv t 0 false [] false [] false [] false [] false [] false [] = _ from e1, Qb]
     dsimp only
     obtain ⟨m', e2⟩ := Rvn (c0 := false) (c1 := false) (c2 := false) (c3 := false) (y0 := []) (y1 := []) (y2 := []) (y3 := []) (m0 := x.1) (b0 := x.2) (TR.stop (a := []) (show nd Rkm (kBox :: r) = none from ndN (by decide))) hL hr (by obtain ⟨q, hq⟩ := hr; rw [hq, Za] at hL; simp only [Zn]; omega) false
     have hlt := hr.tail.2.2.1
     have hne : ¬ ((plc t (kBox :: r) : Int) = (t.length : Int)) := by omega
     rw [e2, Qb]
     dsimp only
     rw [Zq hne]; rfl
   | some q =>
    obtain ⟨rs, l1⟩ := q
    have sf := Rsi b1 _ _ rfl
    have hs2 := hs.trans sf.1
    obtain ⟨m1, e1⟩ := Rud (t4 := t) (c0 := false) (c1 := false) (c3 := false) (y0 := []) (y1 := []) (y3 := []) b1 hL hg hs (by simpa using hL) false
    obtain ⟨m2, f1⟩ := Rvm (c0 := false) (c1 := false) (c2 := false) (c3 := false) (c5 := false) (y0 := []) (y1 := []) (y2 := []) (y3 := []) (y5 := []) b1 hL hs (by simpa using hL) false
    rw [h0] at e1 f1
    obtain ⟨o2, t1⟩ := Rpz (l1.length + 1) l1 [] (Nat.lt_succ_self _)
    have hl1 : ([] : List (List Stm)).length + l1.length ≤ 20000 := by have := sf.2; simp only [Zn] at *; omega
    have i2 := impl_TR (L := t) (t4 := t) (c0 := false) (c1 := false) (y0 := []) (y1 := []) (m0 := m1) (b0 := rs) t1 hL hg hs2 hl1 false
    have s2 := Rvn (L := t) (c0 := false) (c1 := false) (c2 := false) (c3 := false) (y0 := []) (y1 := []) (y2 := []) (y3 := []) (m0 := m2) (b0 := rs) t1 hL hs2 hl1 false
    have ist2 : ∀ v, (bnd (Ru t false [] false [] t (plc t l1) false m1 rs false []) fun r3 =>
      (bif r3.2.2.2.2.2.1 then some ((⟨[], []⟩ : Prg), false) else
      (bif (!decide (r3.2.2.2.2.1 = (r3.1.length : Int))) then some (⟨[], []⟩, false) else
      bnd (Raz (⟨r3.2.2.2.2.2.2.1.2, r3.2.2.2.2.2.2.2.2⟩ : Prg)) fun r4 =>
      (bif (!r4) then some (⟨[], []⟩, false) else some (⟨r3.2.2.2.2.2.2.1.2, r3.2.2.2.2.2.2.2.2⟩, true))))) = some v → Rbs s = some v := by
     intro v hv
     apply ist
     rw [show Rn t false [] false [] t 0 false false [] false [] = _ from e1, Qb]
     exact hv
    have sst2 : ∀ v, (bnd (Rx t (plc t l1) false [] false [] false [] false [] m2 rs false []) fun r3 =>
      (bif (!decide (r3.2.1 = (r3.1.length : Int))) then some ((⟨r3.2.2.2.2.1.2, r3.2.2.2.2.2.1.2⟩ : Prg), false) else
      bnd (Rca (⟨r3.2.2.2.2.2.2.1.2, r3.2.2.2.2.2.2.2.2⟩ : Prg)) fun r4 =>
      (bif (!r4) then some (⟨r3.2.2.2.2.1.2, r3.2.2.2.2.2.1.2⟩, false) else some (⟨r3.2.2.2.2.2.2.1.2, r3.2.2.2.2.2.2.2.2⟩, true)))) = some v → Rbt s = some v := by
     intro v hv
     apply sst
     rw [show Rv t 0 false [] false [] false [] false [] false [] false [] = _ from f1, Qb]
     exact hv
    cases o2 with
    | none =>
     refine Or.inr ⟨no fun p ⟨l, a, b⟩ => ?_, ?_, ?_⟩
     ·have := Rsh b1 _ a; injection this with this; injection this with _ this; subst this
      have := Rtu t1 _ b; cases this
     ·obtain ⟨p, x, i2⟩ := i2
      apply ist2
      rw [i2, Qb]; rfl
     ·obtain ⟨x, s2⟩ := s2
      apply sst2
      rw [s2, Qb]
      dsimp only
      have hne : ¬ ((-1 : Int) = (t.length : Int)) := by omega
      rw [Zq hne]; rfl
    | some q =>
     obtain ⟨ts, l2⟩ := q
     obtain ⟨m3, i2⟩ := i2
     obtain ⟨m4, s2⟩ := s2
     have sf2 := Rtv t1 _ _ rfl
     have hs3 := hs2.trans sf2.1
     by_cases he : l2 = []
     ·subst he
      have hpf : PrF t ⟨rs, ts⟩ := ⟨l1, b1, t1⟩
      have sz := Rsj hpf 40000 (by omega)
      have hpl : ((plc t [] : Nat) : Int) = (t.length : Int) := by rw [Rdc]
      have iv : Raz ⟨rs, ts⟩ = some (Rie ⟨rs, ts⟩) := Reb (by have := sz.1; simp only at *; omega) (by have := sz.2.1; simp only at *; omega) (fun x hx => by have := sz.2.2 x hx; omega)
      have sv : Rca ⟨rs, ts⟩ = some (Rie ⟨rs, ts⟩) := Rkb (by have := sz.1; simp only at *; omega) (by have := sz.2.1; simp only at *; omega) (fun x hx => by have := sz.2.2 x hx; omega)
      cases ho : Rie ⟨rs, ts⟩
      ·refine Or.inr ⟨no fun p hp => by rw [PrF_det hp hpf]; exact ho, ?_, ?_⟩
       ·apply ist2
        rw [i2, Qb]
        dsimp only
        rw [Zf, Zp hpl, Zv, Zf, iv, Qb, ho]; rfl
       ·apply sst2
        rw [s2, Qb]
        dsimp only
        rw [Zp hpl, Zv, Zf, sv, Qb, ho]; rfl
      ·refine Or.inl ⟨⟨rs, ts⟩, ⟨by omega, ⟨t, ht, hpf⟩, ho⟩, ?_, ?_⟩
       ·apply ist2
        rw [i2, Qb]
        dsimp only
        rw [Zf, Zp hpl, Zv, Zf, iv, Qb, ho]; rfl
       ·apply sst2
        rw [s2, Qb]
        dsimp only
        rw [Zp hpl, Zv, Zf, sv, Qb, ho]; rfl
     ·have hne : ¬ ((plc t l2 : Int) = (t.length : Int)) := by
       cases l2 with
       | nil => exact absurd rfl he
       | cons u l2 => have := hs3.tail.2.2.1; omega
      refine Or.inr ⟨no fun p ⟨l, a, b⟩ => ?_, ?_, ?_⟩
      ·have := Rsh b1 _ a; injection this with this; injection this with _ this; subst this
       have := Rtu t1 _ b; injection this with this; injection this with _ this; exact absurd this he
      ·apply ist2
       rw [i2, Qb]
       dsimp only
       rw [Zf, Zq hne]; rfl
      ·apply sst2
       rw [s2, Qb]
       dsimp only
       rw [Zq hne]; rfl
theorem Rrg {p : Prg} (h : Rie p = true) : Ret p.rooms = true ∧ p.rooms.length ≤ 3 ∧ 1 ≤ p.tasks.length ∧ p.tasks.length ≤ 3 ∧ ∀ l ∈ p.tasks, l.all (sOk 3) = true ∧ cSs l ≤ 16 ∧ bSs p.rooms.length l = true := by
 simp only [Rie, Zw, Ze] at h
 obtain ⟨⟨⟨a, b⟩, c, d⟩, e⟩ := h
 refine ⟨a, by omega, by omega, by omega, fun l hl => ?_⟩
 have := List.all_eq_true.1 e l hl
 simp only [stOk, Zw, Ze] at this
 exact ⟨this.1.1, by omega, this.2⟩
def midP (p : Prg) : Prop := p.rooms.length ≤ 1000000 ∧ p.tasks.length ≤ 1000000 ∧ ∀ x ∈ p.tasks, mSs x ≤ 1000000
theorem Prm_mid {s : List UInt8} {p : Prg} (h : Prm s p) : midP p := by
 obtain ⟨hl, ⟨t, ht, hp⟩, _⟩ := h
 have := Rlt ht
 obtain ⟨a, b, c⟩ := Rsj hp 40000 (by omega)
 exact ⟨by omega, by omega, fun x hx => by have := c x hx; omega⟩
theorem mk_n {A B : List Ent} {c : TC} {l : List (Den c.seen)} {h : Hd} {ids : List Nat} (m : Mk A c l h B ids) : h.n = l.length := by
 obtain ⟨rows, ss, T, _⟩ := Qov.1 m.tr
 rw [T.len]; exact T.cnt
theorem Rid {A B D : List Ent} {c : TC} {l : List (Den c.seen)} {h : Hd} {ids : List Nat} (m : Mk A c l h B ids) (hf : Qpm c) {x : Den c} (g : Grow B D) (hle : h.n + 1 ≤ 4294967296) : Ok (Qju D c h.id h.n ([x] : List (Den c))) fun E => Grow A E := by
 obtain ⟨rows, ss, T, hids, hid, hnd, hnew⟩ := m.parts
 have hlt := m.tr.lt
 have hgD : Qs D c h.id = some rows := Qnj (fun n hn => g.same (hlt n (by rw [hids]; simp [hn]))) T.get
 exact ⟨_, Qjh hgD hle, ((m.grow.trans g).killO fun n hn => (hid n hn).1).push hf⟩
def RSp (L : List Tok) (A : List Ent) (f : Option (StmH × List Tok × Int × Bool × List Ent)) (o : GO) : Prop := match o with
 | some (b, r) => Ok f fun q => (∃ s ids, b = [s] ∧ MkR A .stmH q.1 s q.2.2.2.2 ids) ∧ q.2.1 = L ∧ q.2.2.1 = (plc L r : Int) ∧ q.2.2.2.1 = false
 | none => Ok f fun q => q.2.1 = L ∧ q.2.2.2.1 = true ∧ Grow A q.2.2.2.2
def RBp (L : List Tok) (A : List Ent) (f : Option (Hd × List Tok × Int × Bool × List Ent)) (o : GO) : Prop := match o with
 | some (b, r) => Ok f fun q => (∃ ids, Mk A .stmH b q.1 q.2.2.2.2 ids) ∧ q.2.1 = L ∧ q.2.2.1 = (plc L r : Int) ∧ q.2.2.2.1 = false
 | none => Ok f fun q => q.2.1 = L ∧ q.2.2.2.1 = true ∧ Grow A q.2.2.2.2
theorem Rfb {L l : List Tok} (hL : L.length ≤ 20000) (hg : ∀ t ∈ L, gt t) (h : Suf L l) (A : List Ent) : IAp L A (Ri 1 L (plc L l) false A) (ex1 l) :=
 impl_Cp (P_C (Rtr l)) L hL hg h (by omega) (Nat.le_refl 1) A
theorem Rrp (L : List Tok) (p : Int) (A : List Ent) : Ok (Ri 1 L p true A) fun q => q.2.1 = L ∧ q.2.2.2.1 = true ∧ Grow A q.2.2.2.2 := by
 obtain ⟨q, hq⟩ := Rgv L p
 refine Ok.le (Rco _ _ _ _ _) ?_
 have h1 : Rcq L p true A = some (⟨13, 0, ⟨none, 0⟩⟩, L, q, true, A) := by
  apply Rp
  rw [Rjm, Qb]
  simp only [show (([] : List UInt8) == [40]) = false from rfl, Zf, show (([] : List UInt8) == []) = true from rfl, Zv, hq, Qb]
 have hl : Rad 1 L q true 0 0 ⟨none, 0⟩ 13 0 ⟨none, 0⟩ A = some (L, q, true, 0, 0, ⟨none, 0⟩, 13, 0, ⟨none, 0⟩, A) := by
  apply Ral
  simp only [Zv, Zf]
 rw [h1, Qb]
 simp only [hl, Qb]
 exact Ok.of ⟨rfl, rfl, Grow.refl A⟩
theorem Rhm (L : List Tok) (p : Int) (h : Hd) (A : List Ent) : Rai h L p true A = some (h, L, p, true, A) := by
 apply Rau
 simp only [Zv, Zf]
theorem Rmp (L : List Tok) (p : Int) (A : List Ent) : Rax L p true A = some (⟨none, 0⟩, L, p, true, A) := by
 apply Rch
 rw [Rbf (by simp), Qb]
 simp only [Rhm, Qb]
theorem Rtk {A B : List Ent} {x : ExpH} {e : Exp} {s : List Nat} (m : MkR A .expH x e B s) (k v b : Int) : MkR A .stmH ⟨k, v, b, x.op, x.n, x.args, ⟨none, 0⟩, ⟨none, 0⟩⟩ ⟨k, v, b, e, [], []⟩ B (s ++ ([] ++ [])) := by
 obtain ⟨o1, o2, om⟩ := Rhr m
 have := MkR.stm om (Mk.nil .stmH m.grow) (Mk.nil .stmH m.grow) (fun n hn hm => by cases hm) (fun n hn hm => by cases hm) (fun n hn hm => by cases hm) k v b x.op x.n
 rw [o1, o2, Rz] at this
 rw [o1, o2]
 exact this
theorem Rqd {L l : List Tok} (hL : L.length ≤ 20000) (hg : ∀ t ∈ L, gt t) (h : Suf L l) (A : List Ent) (k v b : Int) :
  RSp L A (bnd (Ri 1 L (plc L l) false A) fun r => bnd (Rc [59] r.2.1 r.2.2.1 r.2.2.2.1) fun q => some (⟨k, v, b, r.1.op, r.1.n, r.1.args, ⟨none, 0⟩, ⟨none, 0⟩⟩, q.1, q.2.1, q.2.2, r.2.2.2.2)) ((en l).map fun q => ([⟨k, v, b, q.1, [], []⟩], q.2)) := by
 have h1 := Rfb hL hg h A
 unfold en
 cases hx : ex1 l with
 | none =>
  rw [hx] at h1
  refine Ok.bnd h1 fun r ⟨e1, e2, e3⟩ => ?_
  rw [e1, e2, Rbf (by simp), Qb]
  exact Ok.of ⟨rfl, rfl, e3⟩
 | some q =>
  obtain ⟨e, r⟩ := q
  rw [hx] at h1
  simp only [Option.bind_some]
  have hs := Red h hx
  cases hn : nd kS r with
  | none =>
   refine Ok.bnd h1 fun r' ⟨⟨s, m⟩, e1, e2, e3⟩ => ?_
   rw [e1, e2, e3, Rdr (by simp) hL hs, show nd [59] r = none from hn, Qb]
   exact Ok.of ⟨rfl, rfl, m.grow⟩
  | some r2 =>
   refine Ok.bnd h1 fun r' ⟨⟨s, m⟩, e1, e2, e3⟩ => ?_
   rw [e1, e2, e3, Rdr (by simp) hL hs, show nd [59] r = some r2 from hn, Qb]
   exact Ok.of ⟨⟨_, _, rfl, Rtk m k v b⟩, rfl, rfl, rfl⟩
theorem Rlx (L : List Tok) (p : Int) (A : List Ent) (k v b : Int) : Ok (bnd (Ri 1 L p true A) fun r => bnd (Rc [59] r.2.1 r.2.2.1 r.2.2.2.1) fun q => some ((⟨k, v, b, r.1.op, r.1.n, r.1.args, ⟨none, 0⟩, ⟨none, 0⟩⟩ : StmH), q.1, q.2.1, q.2.2, r.2.2.2.2)) fun q => q.2.1 = L ∧ q.2.2.2.1 = true ∧ Grow A q.2.2.2.2 := by
 refine Ok.bnd (Rrp L p A) fun r ⟨e1, e2, e3⟩ => ?_
 rw [e1, e2, Rbf (by simp), Qb]
 exact Ok.of ⟨rfl, rfl, e3⟩
theorem Rtl (A : List Ent) (k v b : Int) : MkR A .stmH ⟨k, v, b, 0, 0, ⟨none, 0⟩, ⟨none, 0⟩, ⟨none, 0⟩⟩ ⟨k, v, b, ⟨0, 0, []⟩, [], []⟩ A ([] ++ ([] ++ [])) :=
 Rtk (Rru A 0 0) k v b
theorem Rpv {L l : List Tok} (hL : L.length ≤ 20000) (hg : ∀ t ∈ L, gt t) (h : Suf L l) (h1 : nd kIf l = none) (h2 : nd Rde l = none) (A : List Ent) : RSp L A (Rbr L (plc L l) false A) (smp l) := by
 have main : ∀ f, RSp L A f (smp l) → (∀ v, f = some v → Rbr L (plc L l) false A = some v) → RSp L A (Rbr L (plc L l) false A) (smp l) := by
  intro f hf hv
  cases hs : smp l with
  | none => rw [hs] at hf; obtain ⟨x, hf, hp⟩ := hf; exact ⟨x, hv _ hf, hp⟩
  | some q =>
   obtain ⟨b, r⟩ := q
   rw [hs] at hf
   obtain ⟨x, hf, hp⟩ := hf
   exact ⟨x, hv _ hf, hp⟩
 refine main _ ?_ (fun v hv => Rs _ _ _ _ v hv)
 rw [Rd (k := [105, 102]) (by simp) hL h, show nd [105, 102] l = none from h1, Qb]
 simp only [Zf]
 rw [Rd (k := [119, 104, 105, 108, 101]) (by simp) hL h, show nd [119, 104, 105, 108, 101] l = none from h2, Qb]
 simp only [Zf]
 rw [Rd (k := [115, 101, 110, 100]) (by simp) hL h, Qb]
 cases h3 : nd [115, 101, 110, 100] l with
 | some l1 =>
  have hs1 := Rkg h h3
  have := Rcy h3
  subst this
  simp only [Zt]
  have hn := Rey hL hg hs1
  have hsm : smp (([115, 101, 110, 100] : Tok) :: l1) = (nu l1).bind fun p => (en p.2).map fun q => ([⟨4, 0, p.1, q.1, [], []⟩], q.2) := by
   simp only [smp, Rjy, if_true]
  rw [hsm]
  cases hu : nu l1 with
  | none =>
   rw [hu] at hn
   obtain ⟨q, hn⟩ := hn
   rw [hn, Qb]
   exact Rlx L q A 4 0 0
  | some p =>
   obtain ⟨n, r⟩ := p
   rw [hu] at hn
   have hn : _ = _ := hn
   rw [hn, Qb]
   exact Rqd hL hg (Rmt hs1 hu) A 4 0 n
 | none =>
  simp only [Zf]
  rw [Rd (k := [114, 101, 99, 118]) (by simp) hL h, Qb]
  cases h4 : nd [114, 101, 99, 118] l with
  | some l1 =>
   have hs1 := Rkg h h4
   have := Rcy h4
   subst this
   simp only [Zt]
   have hn := Rey hL hg hs1
   have hsm : smp (([114, 101, 99, 118] : Tok) :: l1) = (nu l1).bind fun p => (va p.2).bind fun q => (nd kS q.2).map fun r => ([⟨5, q.1, p.1, ⟨0, 0, []⟩, [], []⟩], r) := by
    simp only [smp, Rjy, Rlc, if_true]
    rw [if_neg (by decide)]
   rw [hsm]
   cases hu : nu l1 with
   | none =>
    rw [hu] at hn
    obtain ⟨q, hn⟩ := hn
    obtain ⟨q2, hv⟩ := Rgv L q
    rw [hn, Qb, hv, Qb, Rbf (by simp), Qb]
    exact Ok.of ⟨rfl, rfl, Grow.refl A⟩
   | some p =>
    obtain ⟨n, r⟩ := p
    rw [hu] at hn
    have hn : _ = _ := hn
    have hs2 := Rmt hs1 hu
    rw [hn, Qb]
    have hv := Rht hL hg hs2
    simp only [Option.bind_some]
    cases hw : va r with
    | none =>
     rw [hw] at hv
     obtain ⟨q, hv⟩ := hv
     rw [hv, Qb, Rbf (by simp), Qb]
     exact Ok.of ⟨rfl, rfl, Grow.refl A⟩
    | some p2 =>
     obtain ⟨v, r2⟩ := p2
     rw [hw] at hv
     have hv : _ = _ := hv
     rw [hv, Qb, Rdr (by simp) hL (Rtp hs2 hw), Qb]
     simp only [Option.bind_some]
     change RSp L A _ (Option.map _ (nd [59] r2))
     cases nd [59] r2 with
     | none => exact Ok.of ⟨rfl, rfl, Grow.refl A⟩
     | some r3 => exact Ok.of ⟨⟨_, _, rfl, Rtl A 5 v n⟩, rfl, rfl, rfl⟩
  | none =>
   simp only [Zf]
   rw [Rd (k := [121, 105, 101, 108, 100]) (by simp) hL h, Qb]
   cases h5 : nd [121, 105, 101, 108, 100] l with
   | some l1 =>
    have hs1 := Rkg h h5
    have := Rcy h5
    subst this
    simp only [Zt]
    have hsm : smp (([121, 105, 101, 108, 100] : Tok) :: l1) = (nd kS l1).map fun r => ([⟨6, 0, 0, ⟨0, 0, []⟩, [], []⟩], r) := by
     simp only [smp, Rjy, Rlc, Riy, if_true]
     rw [if_neg (by decide), if_neg (by decide)]
    rw [hsm, Rdr (by simp) hL hs1, Qb]
    change RSp L A _ (Option.map _ (nd [59] l1))
    cases nd [59] l1 with
    | none => exact Ok.of ⟨rfl, rfl, Grow.refl A⟩
    | some r3 => exact Ok.of ⟨⟨_, _, rfl, Rtl A 6 0 0⟩, rfl, rfl, rfl⟩
   | none =>
    simp only [Zf]
    rw [Rd (k := [112, 114, 105, 110, 116]) (by simp) hL h, Qb]
    cases h6 : nd [112, 114, 105, 110, 116] l with
    | some l1 =>
     have hs1 := Rkg h h6
     have := Rcy h6
     subst this
     simp only [Zt]
     have hsm : smp (([112, 114, 105, 110, 116] : Tok) :: l1) = (en l1).map fun q => ([⟨7, 0, 0, q.1, [], []⟩], q.2) := by
      simp only [smp, Rjy, Rlc, Riy, Rkf, if_true]
      rw [if_neg (by decide), if_neg (by decide), if_neg (by decide)]
     rw [hsm]
     exact Rqd hL hg hs1 A 7 0 0
    | none =>
     simp only [Zf]
     have hsm : smp l = (va l).bind fun p => (nd kE p.2).bind fun r => (en r).map fun q => ([⟨1, p.1, 0, q.1, [], []⟩], q.2) := by
      cases l with
      | nil => rfl
      | cons t l =>
       have ne : ∀ k, nd k (t :: l) = none → t ≠ k := by intro k hk e; rw [e, Rq] at hk; cases hk
       simp only [smp]
       rw [if_neg (ne Rjy h3), if_neg (ne Rlc h4), if_neg (ne Riy h5), if_neg (ne Rkf h6)]
     rw [hsm]
     have hv := Rht hL hg h
     cases hw : va l with
     | none =>
      rw [hw] at hv
      obtain ⟨q, hv⟩ := hv
      rw [hv, Qb, Rbf (by simp), Qb]
      exact Rlx L q A 1 0 0
     | some p =>
      obtain ⟨v, r⟩ := p
      rw [hw] at hv
      have hv : _ = _ := hv
      have hs2 := Rtp h hw
      rw [hv, Qb, Rdr (by simp) hL hs2, Qb]
      simp only [Option.bind_some]
      change RSp L A _ (Option.bind (nd [61] r) _)
      cases he : nd [61] r with
      | none => exact Rlx L _ A 1 v 0
      | some r2 => exact Rqd hL hg (Rkg hs2 he) A 1 v 0
theorem Rvo {A B D : List Ent} {x : ExpH} {e : Exp} {s1 s2 : List Nat} {b : List Stm} {h : Hd} (m1 : MkR A .expH x e B s1) (m2 : Mk B .stmH b h D s2) (k : Int) : ∃ ids, MkR A .stmH ⟨k, 0, 0, x.op, x.n, x.args, h, ⟨none, 0⟩⟩ ⟨k, 0, 0, e, b, []⟩ D ids := by
 have hd := (Mk.apart (Rhr m1).2.2 (t := s2) m2.new)
 have k1 := m1.keep m2.grow
 obtain ⟨o1, o2, om⟩ := Rhr k1
 have := MkR.stm om (m2.base m1.grow) (Mk.nil .stmH k1.grow) hd (fun n hn hm => by cases hm) (fun n hn hm => by cases hm) k 0 0 x.op x.n
 rw [o1, o2, Rz] at this
 rw [o1, o2]
 exact ⟨_, this⟩
theorem stm_two {A B D E : List Ent} {x : ExpH} {e : Exp} {s1 s2 s3 : List Nat} {b c : List Stm} {h g : Hd} (m1 : MkR A .expH x e B s1) (m2 : Mk B .stmH b h D s2) (m3 : Mk D .stmH c g E s3) (k : Int) : ∃ ids, MkR A .stmH ⟨k, 0, 0, x.op, x.n, x.args, h, g⟩ ⟨k, 0, 0, e, b, c⟩ E ids := by
 have k1 := m1.keep m2.grow
 have d12 := (Mk.apart (Rhr m1).2.2 (t := s2) m2.new)
 have d13 := (Mk.apart (Rhr k1).2.2 (t := s3) m3.new)
 have d23 := Mk.apart m2 (t := s3) m3.new
 have k2 := k1.keep m3.grow
 have n2 := (m2.keep m3.grow).base m1.grow
 have n3 := m3.base (m1.grow.trans m2.grow)
 obtain ⟨o1, o2, om⟩ := Rhr k2
 have := MkR.stm om n2 n3 d12 d13 d23 k 0 0 x.op x.n
 rw [o1, o2, Rz] at this
 rw [o1, o2]
 exact ⟨_, this⟩
theorem Rue : ∀ {j : K} {l : List Tok} {o : GO}, G j l o → ∀ L : List Tok, L.length ≤ 20000 → (∀ t ∈ L, gt t) → Suf L l → match j with
  | .st => ∀ A, RSp L A (Rbr L (plc L l) false A) o
  | .bk => ∀ A, RBp L A (Rax L (plc L l) false A) o
  | .lp a => a.length ≤ plc L l → ∀ A B hd ids, Mk A .stmH a hd B ids → RBp L A (Rai hd L (plc L l) false B) o := by
 intro j l o h
 induction h with
 | @bk0 l h =>
  intro L hL hg hs A
  refine Ok.le (Rch _ _ _ _) ?_
  rw [Rdr (by simp) hL hs, show nd [123] l = none from h, Qb]
  simp only [Rhm, Qb]
  exact Ok.of ⟨rfl, rfl, Grow.refl A⟩
 | @bk l o h ih =>
  intro L hL hg hs A
  have h1 := ih L hL hg hs.tail.1 (Nat.zero_le _) A A ⟨none, 0⟩ [] (Mk.nil .stmH (Grow.refl A))
  cases o with
  | none =>
   refine Ok.le (Rch _ _ _ _) ?_
   rw [Rdr (by simp) hL hs, show nd [123] (kL :: l) = some l from Rq _ _, Qb]
   exact Ok.bnd h1 fun r hr => Ok.of hr
  | some q =>
   refine Ok.le (Rch _ _ _ _) ?_
   rw [Rdr (by simp) hL hs, show nd [123] (kL :: l) = some l from Rq _ _, Qb]
   exact Ok.bnd h1 fun r hr => Ok.of hr
 | @lpE a =>
  intro L hL hg hs ha A B hd ids m
  have h1 := Rpv hL hg hs rfl rfl B
  have hn := mk_n m
  refine Ok.le (Rau _ _ _ _ _) ?_
  simp only [Zx, Zt]
  rw [Rd (by simp) hL hs, Qb]
  simp only [nd, Zx, Zt]
  refine Ok.bnd h1 fun r ⟨e1, e2, e3⟩ => ?_
  refine Ok.bnd (Rid m flatC_stmH e3 (by rw [Rdc] at ha; omega)) fun E hE => ?_
  rw [e1, e2, Rhm]
  exact Ok.of ⟨rfl, rfl, hE⟩
 | @lpS a l =>
  intro L hL hg hs ha A B hd ids m
  refine Ok.le (Rau _ _ _ _ _) ?_
  simp only [Zx, Zt]
  rw [Rd (by simp) hL hs, show nd [125] (kR :: l) = some l from Rq _ _, Qb]
  exact Ok.of ⟨⟨ids, m⟩, rfl, rfl, rfl⟩
 | @lpN a t l ht h ih =>
  intro L hL hg hs ha A B hd ids m
  obtain ⟨hs2, hp, hlt, _⟩ := hs.tail
  have hn := mk_n m
  refine Ok.le (Rau _ _ _ _ _) ?_
  simp only [Zx, Zt]
  rw [Rd (by simp) hL hs, show nd [125] (t :: l) = none from ndN ht, Qb]
  simp only [Zx, Zt]
  refine Ok.bnd (ih L hL hg hs B) fun r ⟨e1, e2, e3⟩ => ?_
  refine Ok.bnd (Rid m flatC_stmH e3 (by omega)) fun E hE => ?_
  rw [e1, e2, Rhm]
  exact Ok.of ⟨rfl, rfl, hE⟩
 | @lpC a t l r s o ht h1 h2 ih1 ih2 =>
  intro L hL hg hs ha A B hd ids m
  obtain ⟨hs2, hp, hlt, _⟩ := hs.tail
  have hn := mk_n m
  have hsf := Rik h1 _ _ rfl
  have hs3 := hs.trans hsf.1
  have hpl : plc L (t :: l) + 1 ≤ plc L r := by
   have h3 := hsf.2
   obtain ⟨p, hp2⟩ := hs
   have : L.length = p.length + (t :: l).length := by rw [hp2, Za]
   unfold plc; omega
  obtain ⟨q, eq, ⟨s', sids, hb, q1⟩, q2, q3, q4⟩ := ih1 L hL hg hs B
  injection hb with hb
  subst hb
  obtain ⟨E, eE, ids2, m2⟩ := m.app flatC_stmH q1 (by omega)
  have e2 := ih2 L hL hg hs3 (by rw [Za]; simp only [Zc, Zn]; omega) A E _ ids2 m2
  have st : ∀ v, Rai ⟨some q.2.2.2.2.length, hd.n + 1⟩ L (plc L r) false E = some v → Rai hd L (plc L (t :: l)) false B = some v := by
   intro v hv
   apply Rau
   simp only [Zx, Zt]
   rw [Rd (by simp) hL hs, show nd [125] (t :: l) = none from ndN ht, Qb]
   simp only [Zx, Zt]
   rw [eq, Qb, eE, Qb, q2, q3, q4]
   exact hv
  cases o with
  | none => obtain ⟨x, e2, e3⟩ := e2; exact ⟨x, st _ e2, e3⟩
  | some q => obtain ⟨x, e2, e3⟩ := e2; exact ⟨x, st _ e2, e3⟩
 | @smp t l o h1 h2 h =>
  intro L hL hg hs A
  rw [← h]
  exact Rpv hL hg hs (ndN h1) (ndN h2) A
 | @ifN l h =>
  intro L hL hg hs A
  have e1 := Rfb hL hg hs.tail.1 A
  rw [h] at e1
  refine Ok.le (Rs _ _ _ _) ?_
  rw [Rd (k := [105, 102]) (by simp) hL hs, show nd [105, 102] (kIf :: l) = some l from Rq _ _, Qb]
  simp only [Zt]
  refine Ok.bnd e1 fun q ⟨q1, q2, q3⟩ => ?_
  rw [q1, q2, Rmp, Qb, Rdg (by simp), Qb]
  exact Ok.of ⟨rfl, rfl, q3⟩
 | @ifB l r e h hb ih =>
  intro L hL hg hs A
  have hs2 := hs.tail.1
  have e1 := Rfb hL hg hs2 A
  rw [h] at e1
  refine Ok.le (Rs _ _ _ _) ?_
  rw [Rd (k := [105, 102]) (by simp) hL hs, show nd [105, 102] (kIf :: l) = some l from Rq _ _, Qb]
  simp only [Zt]
  refine Ok.bnd e1 fun q ⟨⟨s, q1⟩, q2, q3, q4⟩ => ?_
  rw [q2, q3, q4]
  refine Ok.bnd (ih L hL hg (Red hs2 h) q.2.2.2.2) fun w ⟨w1, w2, w3⟩ => ?_
  rw [w1, w2, Rdg (by simp), Qb]
  exact Ok.of ⟨rfl, rfl, q1.grow.trans w3⟩
 | @if1 l r r2 e b h hb hn ih =>
  intro L hL hg hs A
  have hs2 := hs.tail.1
  have e1 := Rfb hL hg hs2 A
  rw [h] at e1
  have hs3 := Red hs2 h
  have hs4 := hs3.trans (Rik hb _ _ rfl).1
  refine Ok.le (Rs _ _ _ _) ?_
  rw [Rd (k := [105, 102]) (by simp) hL hs, show nd [105, 102] (kIf :: l) = some l from Rq _ _, Qb]
  simp only [Zt]
  refine Ok.bnd e1 fun q ⟨⟨s, q1⟩, q2, q3, q4⟩ => ?_
  rw [q2, q3, q4]
  refine Ok.bnd (ih L hL hg hs3 q.2.2.2.2) fun w ⟨⟨ids, w1⟩, w2, w3, w4⟩ => ?_
  rw [w2, w3, w4, Rd (by simp) hL hs4, show nd [101, 108, 115, 101] r2 = none from hn, Qb]
  obtain ⟨ids2, m⟩ := Rvo q1 w1 2
  exact Ok.of ⟨⟨_, ids2, rfl, m⟩, rfl, rfl, rfl⟩
 | @if2 l r r2 r3 e b c h hb hc ih ih2 =>
  intro L hL hg hs A
  have hs2 := hs.tail.1
  have e1 := Rfb hL hg hs2 A
  rw [h] at e1
  have hs3 := Red hs2 h
  have hs4 := hs3.trans (Rik hb _ _ rfl).1
  refine Ok.le (Rs _ _ _ _) ?_
  rw [Rd (k := [105, 102]) (by simp) hL hs, show nd [105, 102] (kIf :: l) = some l from Rq _ _, Qb]
  simp only [Zt]
  refine Ok.bnd e1 fun q ⟨⟨s, q1⟩, q2, q3, q4⟩ => ?_
  rw [q2, q3, q4]
  refine Ok.bnd (ih L hL hg hs3 q.2.2.2.2) fun w ⟨⟨ids, w1⟩, w2, w3, w4⟩ => ?_
  rw [w2, w3, w4, Rd (by simp) hL hs4, show nd [101, 108, 115, 101] (Rmd :: r2) = some r2 from Rq _ _, Qb]
  simp only [Zt]
  refine Ok.bnd (ih2 L hL hg hs4.tail.1 w.2.2.2.2) fun z ⟨⟨ids3, z1⟩, z2, z3, z4⟩ => ?_
  obtain ⟨ids2, m⟩ := stm_two q1 w1 z1 2
  exact Ok.of ⟨⟨_, ids2, rfl, m⟩, z2, z3, z4⟩
 | @if3 l r r2 e b h hb hc ih ih2 =>
  intro L hL hg hs A
  have hs2 := hs.tail.1
  have e1 := Rfb hL hg hs2 A
  rw [h] at e1
  have hs3 := Red hs2 h
  have hs4 := hs3.trans (Rik hb _ _ rfl).1
  refine Ok.le (Rs _ _ _ _) ?_
  rw [Rd (k := [105, 102]) (by simp) hL hs, show nd [105, 102] (kIf :: l) = some l from Rq _ _, Qb]
  simp only [Zt]
  refine Ok.bnd e1 fun q ⟨⟨s, q1⟩, q2, q3, q4⟩ => ?_
  rw [q2, q3, q4]
  refine Ok.bnd (ih L hL hg hs3 q.2.2.2.2) fun w ⟨⟨ids, w1⟩, w2, w3, w4⟩ => ?_
  rw [w2, w3, w4, Rd (by simp) hL hs4, show nd [101, 108, 115, 101] (Rmd :: r2) = some r2 from Rq _ _, Qb]
  simp only [Zt]
  refine Ok.bnd (ih2 L hL hg hs4.tail.1 w.2.2.2.2) fun z ⟨z1, z2, z3⟩ => ?_
  exact Ok.of ⟨z1, z2, (q1.grow.trans w1.grow).trans z3⟩
 | @whN l h =>
  intro L hL hg hs A
  have e1 := Rfb hL hg hs.tail.1 A
  rw [h] at e1
  refine Ok.le (Rs _ _ _ _) ?_
  rw [Rd (k := [105, 102]) (by simp) hL hs, show nd [105, 102] (Rde :: l) = none from ndN (by decide), Qb]
  simp only [Zf]
  rw [Rd (k := [119, 104, 105, 108, 101]) (by simp) hL hs, show nd [119, 104, 105, 108, 101] (Rde :: l) = some l from Rq _ _, Qb]
  simp only [Zt]
  refine Ok.bnd e1 fun q ⟨q1, q2, q3⟩ => ?_
  rw [q1, q2, Rmp, Qb]
  exact Ok.of ⟨rfl, rfl, q3⟩
 | @whB l r e h hb ih =>
  intro L hL hg hs A
  have hs2 := hs.tail.1
  have e1 := Rfb hL hg hs2 A
  rw [h] at e1
  refine Ok.le (Rs _ _ _ _) ?_
  rw [Rd (k := [105, 102]) (by simp) hL hs, show nd [105, 102] (Rde :: l) = none from ndN (by decide), Qb]
  simp only [Zf]
  rw [Rd (k := [119, 104, 105, 108, 101]) (by simp) hL hs, show nd [119, 104, 105, 108, 101] (Rde :: l) = some l from Rq _ _, Qb]
  simp only [Zt]
  refine Ok.bnd e1 fun q ⟨⟨s, q1⟩, q2, q3, q4⟩ => ?_
  rw [q2, q3, q4]
  refine Ok.bnd (ih L hL hg (Red hs2 h) q.2.2.2.2) fun w ⟨w1, w2, w3⟩ => ?_
  exact Ok.of ⟨w1, w2, q1.grow.trans w3⟩
 | @wh l r r2 e b h hb ih =>
  intro L hL hg hs A
  have hs2 := hs.tail.1
  have e1 := Rfb hL hg hs2 A
  rw [h] at e1
  refine Ok.le (Rs _ _ _ _) ?_
  rw [Rd (k := [105, 102]) (by simp) hL hs, show nd [105, 102] (Rde :: l) = none from ndN (by decide), Qb]
  simp only [Zf]
  rw [Rd (k := [119, 104, 105, 108, 101]) (by simp) hL hs, show nd [119, 104, 105, 108, 101] (Rde :: l) = some l from Rq _ _, Qb]
  simp only [Zt]
  refine Ok.bnd e1 fun q ⟨⟨s, q1⟩, q2, q3, q4⟩ => ?_
  rw [q2, q3, q4]
  refine Ok.bnd (ih L hL hg (Red hs2 h) q.2.2.2.2) fun w ⟨⟨ids, w1⟩, w2, w3, w4⟩ => ?_
  obtain ⟨ids2, m⟩ := Rvo q1 w1 3
  exact Ok.of ⟨⟨_, ids2, rfl, m⟩, w2, w3, w4⟩
theorem Rle {l : List (List Stm)} {k : Int} (h0 : 0 ≤ k) (hl : (l.length : Int) ≤ 4611686018427387904) (hk : k + wsum (fun y => 5 * mSs y) l ≤ 4611686018427387904) : Rhb (mks nSs mkSs k l) k = some (k + wsum nSs l) := by
 apply Rlf
 have := Rqs (w := nSs) (b := fun y => 5 * mSs y) (mk := mkSs) (Q := fun _ => True) (H := Rcs) (L := mks nSs mkSs k l)
  (fun k i hi => by
   apply Rgh
   simp only [hi, Zz, Zf])
  (fun j k y _ hi hg h0 hk r hr => by
   apply Rgh
   have hn : ¬ (k + (nSs y : Int) < 0) := by omega
   have hlen : (j : Int) < 4611686018427387904 := by rw [Rrx] at hi; omega
   simp only [hi, Zy, Zt, geti_nat', hg, Qb, Rmi (l := y) k h0 (by omega), hn, Zz, Zf, Rav (show (j : Int) < 9223372036854775807 by omega)]
   exact hr)
  Rjk l [] k (fun _ _ => trivial) rfl h0 hk
 have e : Rcs (mks nSs mkSs k l) k 0 = some (.inl (k + wsum nSs l)) := this
 rw [e]; simp [selm]
theorem Rkp {y : Prg} (hs : SzP y) : Rdm (mkP 1 y) 1 = some (1 + nP y) := by
 apply Rkq
 have hsum := hs.sum
 have hle := Rsg Rjk y.tasks
 have n1 : ¬ (1 + (y.rooms.length : Int) < 0) := by omega
 have n2 : ¬ (1 + (y.rooms.length : Int) + wsum nSs y.tasks < 0) := by omega
 simp only [mkP, Rng (l := y.rooms) (k := 1) (by have := hs.rooms; omega) (by omega) (by omega), Qb, n1, Zz, Zf, Rle (k := 1 + y.rooms.length) (by omega) hs.tasks (by omega), n2]
 congr 1
 unfold nP; omega
theorem Rmq {L t4 : List Tok} {x0 x1 hT : Hd} (p : Int) (h : Hd) (B : List Ent) : Rj t4 x0 x1 L p true h hT B = some (t4, x0, x1, L, p, true, h, hT, B) := by
 apply Ray
 rw [Rdg (by simp), Qb]; rfl
theorem Rsy {L t4 : List Tok} {x0 x1 hT : Hd} : ∀ {a : List Int} {l : List Tok} {o}, BR a l o → L.length ≤ 20000 → (∀ t ∈ L, gt t) → Suf L l → a.length + l.length ≤ 20000 → ∀ A B h ids, Mk A .int a h B ids → match o with
  | some (rs, r) => ∃ h' B', Rj t4 x0 x1 L (plc L l) false h hT B = some (t4, x0, x1, L, (plc L r : Int), false, h', hT, B') ∧ ∃ ids', Mk A .int rs h' B' ids'
  | none => ∃ p h' B', Rj t4 x0 x1 L (plc L l) false h hT B = some (t4, x0, x1, L, p, true, h', hT, B') ∧ Grow A B' := by
 intro a l o h
 induction h with
 | @stop a l h =>
  intro hL hg hs ha A B hd ids m
  refine ⟨hd, B, ?_, ids, m⟩
  apply Ray
  rw [Rd (by simp) hL hs, show nd [98, 111, 120] l = none from h, Qb]; rfl
 | @go a l r n o h1 h2 ih =>
  intro hL hg hs ha A B hd ids m
  have hn := Rey hL hg hs.tail.1
  rw [h1] at hn
  have hn : _ = _ := hn
  have hs3 := Rmt hs.tail.1 h1
  obtain ⟨u, hu, _⟩ := Rjl h1
  obtain ⟨E, eE, ids2, m2⟩ := m.app flatC_int (MkR.int n (Grow.refl B)) (by have := mk_n m; omega)
  have e2 := ih hL hg hs3.tail.1 (by subst hu; simp only [Za, Zc, Zn] at *; omega) A E _ ids2 m2
  have st : ∀ v, Rj t4 x0 x1 L (plc L r) false ⟨some B.length, hd.n + 1⟩ hT E = some v → Rj t4 x0 x1 L (plc L (kBox :: l)) false hd hT B = some v := by
   intro v hv
   apply Ray
   rw [Rd (k := [98, 111, 120]) (by simp) hL hs, show nd [98, 111, 120] (kBox :: l) = some l from Rq _ _, Qb]
   simp only [Zt]
   rw [hn, Qb]
   dsimp only
   rw [eE, Qb, Rdr (by simp) hL hs3, show nd [59] (kS :: r) = some r from Rq _ _, Qb]
   exact hv
  cases o with
  | none => obtain ⟨p, h', B', e2, e3⟩ := e2; exact ⟨p, h', B', st _ e2, e3⟩
  | some q => obtain ⟨h', B', e2, e3⟩ := e2; exact ⟨h', B', st _ e2, e3⟩
 | @bad a l h =>
  intro hL hg hs ha A B hd ids m
  have hs2 := hs.tail.1
  have hn := Rey hL hg hs2
  have hle : hd.n + 1 ≤ 4294967296 := by have := mk_n m; omega
  cases h1 : nu l with
  | none =>
   rw [h1] at hn
   obtain ⟨q, hn⟩ := hn
   obtain ⟨E, eE, hE⟩ := Rid m flatC_int (x := (0 : Int)) (Grow.refl B) hle
   refine ⟨q, ⟨some B.length, hd.n + 1⟩, E, ?_, hE⟩
   apply Ray
   rw [Rd (k := [98, 111, 120]) (by simp) hL hs, show nd [98, 111, 120] (kBox :: l) = some l from Rq _ _, Qb]
   simp only [Zt]
   rw [hn, Qb]
   dsimp only
   rw [eE, Qb, Rbf (by simp), Qb]
   exact Rmq q _ E
  | some p =>
   obtain ⟨n, r⟩ := p
   rw [h1] at hn h
   have hn : _ = _ := hn
   simp only [Option.bind_some] at h
   have hs3 := Rmt hs2 h1
   obtain ⟨E, eE, hE⟩ := Rid m flatC_int (x := (n : Int)) (Grow.refl B) hle
   refine ⟨(plc L r : Int), ⟨some B.length, hd.n + 1⟩, E, ?_, hE⟩
   apply Ray
   rw [Rd (k := [98, 111, 120]) (by simp) hL hs, show nd [98, 111, 120] (kBox :: l) = some l from Rq _ _, Qb]
   simp only [Zt]
   rw [hn, Qb]
   dsimp only
   rw [eE, Qb, Rdr (by simp) hL hs3, show nd [59] r = none from h, Qb]
   exact Rmq _ _ E
theorem Rmz {L t4 : List Tok} {x0 x1 hR : Hd} (p : Int) (h : Hd) (B : List Ent) : Rac t4 x0 x1 L p true hR h B = some (t4, x0, x1, L, p, true, hR, h, B) := by
 apply Rbp
 rw [Rdg (by simp), Qb]; rfl
theorem Rsz {L t4 : List Tok} {x0 x1 hR : Hd} : ∀ {a : List (List Stm)} {l : List Tok} {o}, TR a l o → L.length ≤ 20000 → (∀ t ∈ L, gt t) → Suf L l → a.length + l.length ≤ 20000 → ∀ A B h ids, Mk A .stmsHH a h B ids → match o with
  | some (ts, r) => ∃ h' B', Rac t4 x0 x1 L (plc L l) false hR h B = some (t4, x0, x1, L, (plc L r : Int), false, hR, h', B') ∧ ∃ ids', Mk A .stmsHH ts h' B' ids'
  | none => ∃ p h' B', Rac t4 x0 x1 L (plc L l) false hR h B = some (t4, x0, x1, L, p, true, hR, h', B') ∧ Grow A B' := by
 intro a l o h
 induction h with
 | @stop a l h =>
  intro hL hg hs ha A B hd ids m
  refine ⟨hd, B, ?_, ids, m⟩
  apply Rbp
  rw [Rd (by simp) hL hs, show nd [116, 97, 115, 107] l = none from h, Qb]; rfl
 | @go a l r b o h1 h2 ih =>
  intro hL hg hs ha A B hd ids m
  obtain ⟨q, eq, ⟨ids1, q1⟩, q2, q3, q4⟩ := Rue h1 L hL hg hs.tail.1 B
  have hsf := Rik h1 _ _ rfl
  have hs3 := hs.tail.1.trans hsf.1
  obtain ⟨E, eE, ids2, m2⟩ := m.app Va (MkR.stms q1) (by have := mk_n m; omega)
  have e2 := ih hL hg hs3 (by have := hsf.2; simp only [Za, Zc, Zn] at *; omega) A E _ ids2 m2
  have st : ∀ v, Rac t4 x0 x1 L (plc L r) false hR ⟨some q.2.2.2.2.length, hd.n + 1⟩ E = some v → Rac t4 x0 x1 L (plc L (Rkm :: l)) false hR hd B = some v := by
   intro v hv
   apply Rbp
   rw [Rd (k := [116, 97, 115, 107]) (by simp) hL hs, show nd [116, 97, 115, 107] (Rkm :: l) = some l from Rq _ _, Qb]
   simp only [Zt]
   rw [eq, Qb, eE, Qb, q2, q3, q4]
   exact hv
  cases o with
  | none => obtain ⟨p, h', B', e2, e3⟩ := e2; exact ⟨p, h', B', st _ e2, e3⟩
  | some q => obtain ⟨h', B', e2, e3⟩ := e2; exact ⟨h', B', st _ e2, e3⟩
 | @bad a l h =>
  intro hL hg hs ha A B hd ids m
  obtain ⟨q, eq, q1, q2, q3⟩ := Rue h L hL hg hs.tail.1 B
  obtain ⟨E, eE, hE⟩ := Rid m Va (x := q.1) q3 (by have := mk_n m; omega)
  refine ⟨q.2.2.1, ⟨some q.2.2.2.2.length, hd.n + 1⟩, E, ?_, hE⟩
  apply Rbp
  rw [Rd (k := [116, 97, 115, 107]) (by simp) hL hs, show nd [116, 97, 115, 107] (Rkm :: l) = some l from Rq _ _, Qb]
  simp only [Zt]
  rw [eq, Qb, eE, Qb, q1, q2]
  exact Rmz _ _ E
theorem Rwf {A B : List Ent} (g : Grow A B) : MkR A .prgH ⟨⟨none, 0⟩, ⟨none, 0⟩⟩ ⟨[], []⟩ B ([] ++ []) := MkR.prg (Mk.nil .int g) (Mk.nil .stmsHH g) (fun n hn hm => by cases hn)
theorem Rjf (s : List UInt8) (A : List Ent) : ∃ v, Rbs s = some v ∧ Rbt s = some v ∧ (v.2 = true → Prm s v.1) ∧ (v.2 = false → v.1 = ⟨[], []⟩) ∧ Ok (Rfc s A) fun r => r.2.1 = v.2 ∧ ∃ t, MkR A .prgH r.1 v.1 r.2.2 t := by
 have bad : (∀ p, ¬ Prm s p) → ∀ {B : List Ent}, Grow A B → (fun r : PrgH × Bool × List Ent => r.2.1 = false ∧ ∃ t, MkR A .prgH r.1 ⟨[], []⟩ r.2.2 t) (⟨⟨none, 0⟩, ⟨none, 0⟩⟩, false, B) := fun _ B g => ⟨rfl, _, Rwf g⟩
 rcases pf_all s with ⟨p, hp, h1, h2⟩ | ⟨hno, h1, h2⟩
 ·refine ⟨(p, true), h1, h2, fun _ => hp, (fun h => by cases h), ?_⟩
  have ho := hp.2.2
  have hmid := Prm_mid hp
  obtain ⟨hl, ⟨t, ht, l1, b1, t1⟩, _⟩ := hp
  have hlen := Rlt ht
  have hL : t.length ≤ 20000 := by omega
  have hg := Rsc ht
  obtain ⟨hs, h0⟩ := Rsa t
  have sf := Rsi b1 _ _ rfl
  have hs2 := hs.trans sf.1
  obtain ⟨hR, B1, e1, ids1, m1⟩ := Rsy (t4 := t) (x0 := ⟨none, 0⟩) (x1 := ⟨none, 0⟩) (hT := ⟨none, 0⟩) b1 hL hg hs (by simpa using hL) A A ⟨none, 0⟩ [] (Mk.nil .int (Grow.refl A))
  rw [h0] at e1
  obtain ⟨hT, B2, e2, ids2, m2⟩ := Rsz (L := t) (t4 := t) (x0 := ⟨none, 0⟩) (x1 := ⟨none, 0⟩) (hR := hR) t1 hL hg hs2 (by have := sf.2; simp only [Zn] at *; omega) B1 B1 ⟨none, 0⟩ [] (Mk.nil .stmsHH (Grow.refl B1))
  have hpl : ((plc t [] : Nat) : Int) = (t.length : Int) := by rw [Rdc]
  refine Ok.le (Rge _ _) ?_
  rw [Ree, if_neg (by omega), ht, Qb]
  simp only [Zv, Zf]
  rw [show Rj t ⟨none, 0⟩ ⟨none, 0⟩ t 0 false ⟨none, 0⟩ ⟨none, 0⟩ A = _ from e1, Qb]
  dsimp only
  rw [e2, Qb]
  dsimp only
  have k1 := m1.keep m2.grow
  rw [Zf, Zp hpl, Zv, Zf, k1.view, Qb, m2.view, Qb, show (⟨p.rooms, p.tasks⟩ : Prg) = p from Rqh p]
  rw [Reb (by have := hmid.1; omega) (by have := hmid.2.1; omega) (fun x hx => by have := hmid.2.2 x hx; omega), Qb, ho]
  simp only [Zv, Zf]
  have := MkR.prg k1 (m2.base m1.grow) (Mk.apart m1 (t := ids2) m2.new)
  rw [Rqh p] at this
  exact Ok.of ⟨rfl, _, this⟩
 ·refine ⟨(⟨[], []⟩, false), h1, h2, (fun h => by cases h), fun _ => rfl, ?_⟩
  refine Ok.le (Rge _ _) ?_
  rw [Ree]
  by_cases hl : 20000 < s.length
  ·rw [if_pos hl, Qb]
   exact Ok.of (bad hno (Grow.refl A))
  ·rw [if_neg hl]
   cases ht : toks s with
   | none =>
    rw [Qb]
    exact Ok.of (bad hno (Grow.refl A))
   | some t =>
    have hlen := Rlt ht
    have hL : t.length ≤ 20000 := by omega
    have hg := Rsc ht
    obtain ⟨hs, h0⟩ := Rsa t
    rw [Qb]
    simp only [Zv, Zf]
    obtain ⟨o1, b1⟩ := Rpx (t.length + 1) t [] (Nat.lt_succ_self _)
    have e1 := Rsy (t4 := t) (x0 := ⟨none, 0⟩) (x1 := ⟨none, 0⟩) (hT := ⟨none, 0⟩) b1 hL hg hs (by simpa using hL) A A ⟨none, 0⟩ [] (Mk.nil .int (Grow.refl A))
    rw [h0] at e1
    cases o1 with
    | none =>
     obtain ⟨p, h', B', e1, g1⟩ := e1
     rw [show Rj t ⟨none, 0⟩ ⟨none, 0⟩ t 0 false ⟨none, 0⟩ ⟨none, 0⟩ A = _ from e1, Qb]
     dsimp only
     rw [Rmz, Qb]
     exact Ok.of (bad hno g1)
    | some q =>
     obtain ⟨rs, l1⟩ := q
     obtain ⟨hR, B1, e1, ids1, m1⟩ := e1
     have sf := Rsi b1 _ _ rfl
     have hs2 := hs.trans sf.1
     rw [show Rj t ⟨none, 0⟩ ⟨none, 0⟩ t 0 false ⟨none, 0⟩ ⟨none, 0⟩ A = _ from e1, Qb]
     dsimp only
     obtain ⟨o2, t1⟩ := Rpz (l1.length + 1) l1 [] (Nat.lt_succ_self _)
     have e2 := Rsz (L := t) (t4 := t) (x0 := ⟨none, 0⟩) (x1 := ⟨none, 0⟩) (hR := hR) t1 hL hg hs2 (by have := sf.2; simp only [Zn] at *; omega) B1 B1 ⟨none, 0⟩ [] (Mk.nil .stmsHH (Grow.refl B1))
     cases o2 with
     | none =>
      obtain ⟨p, h', B', e2, g2⟩ := e2
      rw [e2, Qb]
      exact Ok.of (bad hno (m1.grow.trans g2))
     | some q =>
      obtain ⟨ts, l2⟩ := q
      obtain ⟨hT, B2, e2, ids2, m2⟩ := e2
      rw [e2, Qb]
      dsimp only
      rw [Zf]
      by_cases he : l2 = []
      ·subst he
       have hpf : PrF t ⟨rs, ts⟩ := ⟨l1, b1, t1⟩
       have sz := Rsj hpf 40000 (by omega)
       have hpl : ((plc t [] : Nat) : Int) = (t.length : Int) := by rw [Rdc]
       have iv : Raz ⟨rs, ts⟩ = some (Rie ⟨rs, ts⟩) := Reb (by have := sz.1; simp only at *; omega) (by have := sz.2.1; simp only at *; omega) (fun x hx => by have := sz.2.2 x hx; omega)
       have k1 := m1.keep m2.grow
       rw [Zp hpl, Zv, Zf, k1.view, Qb, m2.view, Qb, iv, Qb]
       cases ho : Rie ⟨rs, ts⟩
       ·exact Ok.of (bad hno (m1.grow.trans m2.grow))
       ·exact absurd ⟨by omega, ⟨t, ht, hpf⟩, ho⟩ (hno ⟨rs, ts⟩)
      ·have hs3 := hs2.trans (Rtv t1 _ _ rfl).1
       have hne : ¬ ((plc t l2 : Int) = (t.length : Int)) := by
        cases l2 with
        | nil => exact absurd rfl he
        | cons u l2 => have := hs3.tail.2.2.1; omega
       rw [Zq hne]
       exact Ok.of (bad hno (m1.grow.trans m2.grow))
theorem Rwp {n : Nat} : ∀ {l : List (List Stm)}, (∀ x ∈ l, mSs x ≤ n) → mLs l ≤ (n + 1) * l.length
 | [], _ => Nat.le_refl _
 | x :: l, h => by
  have h1 := h x (List.mem_cons_self ..)
  have h2 := Rwp (l := l) (fun y hy => h y (List.mem_cons_of_mem _ hy))
  simp only [mLs, Zc, Nat.mul_add, Nat.mul_one] at *; omega
theorem Prm_mP {s : List UInt8} {p : Prg} (h : Prm s p) : mP p ≤ 1048576 := by
 have ho := Rrg h.2.2
 obtain ⟨hl, ⟨t, ht, hp⟩, _⟩ := h
 have := Rlt ht
 obtain ⟨a, b, c⟩ := Rsj hp 40000 (by omega)
 have h2 := Rwp c
 have h3 : (40000 + 1) * p.tasks.length ≤ (40000 + 1) * 3 := Nat.mul_le_mul (Nat.le_refl _) ho.2.2.2.1
 unfold mP; omega
theorem laws_FnExactProgramFrom_eq (s : List UInt8) : laws_FnExactProgramFrom s = some true := by
 apply Rhl
 apply Ok.some
 refine Ok.bif (fun _ => Ok.of rfl) (fun _ => ?_)
 obtain ⟨v, h1, h2, h3, h4, h5⟩ := Rjf s (Vs.Qdw [])
 have hsz : mP v.1 ≤ 1048576 := by
  cases hv : v.2
  ·rw [h4 hv]; simp [mP, mLs]
  ·exact Prm_mP (h3 hv)
 have heq : Reh v.1 v.1 = some true := Rko (by omega)
 have hS := mP_szP hsz
 refine Ok.bnd (Ok.eq h2) fun r1 e1 => ?_
 rw [e1]
 refine Ok.bnd h5 fun r2 ⟨e2, i2, m2⟩ => ?_
 refine Ok.bnd (join_ok m2.grow) fun B3 ⟨g3, l3, s3⟩ => ?_
 have m3 := m2.join g3 s3
 have v3 := Rw.prg_view m3.rw_ m3.nd
 rw [v3.1, Qb, v3.2, Qb, Rqh]
 refine Ok.bnd (Ok.eq heq) fun r5 e5 => ?_
 subst e5
 refine Ok.bif (fun h => absurd h (by simp)) (fun _ => ?_)
 rw [e2]
 refine Ok.bif (fun h => absurd h (by simp)) (fun _ => ?_)
 refine Ok.bnd (Rjj m3.rw_ m3.nd hS) fun r7 ⟨e7, t7, _⟩ => ?_
 have v7 := Rw.prg_view t7 m3.nd
 rw [v7.1, Qb, v7.2, Qb]
 have hheld : Rdm ⟨(mkP 1 v.1).rooms, (mkP 1 v.1).tasks⟩ 1 = some (1 + nP v.1) := by rw [Rqh]; exact Rkp hS
 refine Ok.bnd (Ok.eq hheld) fun r8 e8 => ?_
 subst e8
 refine Ok.bif (fun h => absurd h (by simp only [Ze]; omega)) (fun _ => ?_)
 refine Ok.bif (fun h => absurd h (by simp [e7])) (fun _ => ?_)
 refine Ok.bnd (Ok.eq h1) fun r9 e9 => ?_
 rw [e9]
 refine Ok.bnd (Ok.eq heq) fun r10 e10 => ?_
 subst e10
 refine Ok.bif (fun h => absurd h (by simp)) (fun _ => ?_)
 refine Ok.bif (fun h => absurd h (by simp)) (fun _ => ?_)
 rw [Qb, Qb]
 refine Ok.bnd (Ok.eq hheld) fun r12 e12 => ?_
 subst e12
 refine Ok.bif (fun h => absurd h (by simp only [Ze]; omega)) (fun _ => ?_)
 refine Ok.bif (fun h => absurd h (by simp [e7])) (fun _ => ?_)
 exact Ok.of rfl
end Go.TFnExactProgramFrom