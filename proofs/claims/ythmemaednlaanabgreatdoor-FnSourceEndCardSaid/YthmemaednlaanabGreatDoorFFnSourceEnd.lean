/- The plain law: what the functions answer. -/
import Derived.Test.YthmemaednlaanabGreatDoorGFnSourceEnd
import Derived.Test.YthmemaednlaanabGreatDoorDFnSourceEndE0
import Derived.Test.YthmemaednlaanabGreatDoorDFnSourceEndE1
import Derived.Test.YthmemaednlaanabGreatDoorDFnSourceEndE2
import Derived.Test.YthmemaednlaanabGreatDoorLkA
import Derived.Lib.ItoaLen
set_option linter.unusedVariables false
set_option linter.unusedSimpArgs false
namespace Go.TFnSourceEnd
open Go Go.RowKit Go.Vs Go.Tv
theorem Rlt {l : List Int} (hl : (l.length : Int) ≤ 4294967296) : Rhe l = some (Rea l && decide ((l.length : Int) ≤ 3)) := by
 apply Rlu
 have h : Rcg l l (l.length : Int) 0 = _ := Roe hl l.length 0 (by omega)
 rw [h, Qb, List.drop_zero]
 cases Rea l <;> simp [selm]
theorem Rol {l : List Int} (hl : (l.length : Int) ≤ 4294967296) : ∀ (d i : Nat), i + d = l.length → Rdg l i = some (if Rea (l.drop i) then .inl l else .inr (l, false))
 | 0, i, hd => by
  apply Rhq
  have hi : ¬ ((i : Int) < l.length) := by omega
  rw [List.drop_eq_nil_of_le (by omega)]
  simp [hi, Rea]
 | d + 1, i, hd => by
  apply Rhq
  have hi : i < l.length := by omega
  have hi' : (i : Int) < l.length := by omega
  rw [Rof hi]
  simp only [hi', Zy, Zt, Rbd hi, Qb, Rdu, Rda (show (i : Int) < 9223372036854775807 by omega), Rol hl d (i + 1) (by omega)]
  by_cases h1 : 1 ≤ l[i] ∧ l[i] ≤ 4 <;> simp [h1]
theorem Roy {l : List Int} (hl : (l.length : Int) ≤ 4294967296) : Rjh l = some (Rea l && decide ((l.length : Int) ≤ 3)) := by
 apply Roz
 have h : Rdg l 0 = _ := Rol hl l.length 0 (by omega)
 rw [h, Qb, List.drop_zero]
 cases Rea l <;> simp [selm]
def lsOk (n : Int) (l : List (List Stm)) : Bool := l.all fun x => stOk x && bSs n x
theorem Rtl {n : Int} {l : List (List Stm)} {i : Nat} (hi : i < l.length) : lsOk n (l.drop i) = ((stOk l[i] && bSs n l[i]) && lsOk n (l.drop (i + 1))) := by
 unfold lsOk; rw [List.drop_eq_getElem_cons hi, List.all_cons]
theorem Rod {r : List Int} (hr : (r.length : Int) ≤ 3) {l : List (List Stm)} (hl : (l.length : Int) ≤ 4294967296) (hm : ∀ x ∈ l, mSs x ≤ 4294967296) : ∀ (d i : Nat), i + d = l.length → Rbl l l.length i r l = some (if lsOk r.length (l.drop i) then .inl () else .inr false)
 | 0, i, hd => by
  apply Rez
  have hi : ¬ ((i : Int) < l.length) := by omega
  rw [List.drop_eq_nil_of_le (by omega)]
  simp [hi, lsOk]
 | d + 1, i, hd => by
  apply Rez
  have hi : i < l.length := by omega
  have hi' : (i : Int) < l.length := by omega
  rw [Rtl hi]
  simp only [hi', Zy, Zt, Rbd hi, Qb, Rni (show (0 : Int) ≤ (r.length : Int) ∧ (r.length : Int) ≤ 3 by omega) _ (hm _ (List.getElem_mem hi)), Rda (show (i : Int) < 9223372036854775807 by omega), Rod hr hl hm d (i + 1) (by omega)]
  cases stOk l[i] && bSs (r.length : Int) l[i] <;> simp
theorem Rok {r : List Int} {l : List (List Stm)} (hl : (l.length : Int) ≤ 4294967296) (hm : ∀ x ∈ l, mSs x ≤ 4294967296) : ∀ (d i : Nat), i + d = l.length → Rbm i r l = some (if lsOk r.length (l.drop i) then .inl () else .inr false)
 | 0, i, hd => by
  apply Rfd
  have hi : ¬ ((i : Int) < l.length) := by omega
  rw [List.drop_eq_nil_of_le (by omega)]
  simp [hi, lsOk]
 | d + 1, i, hd => by
  apply Rfd
  have hi : i < l.length := by omega
  have hi' : (i : Int) < l.length := by omega
  rw [Rtl hi]
  simp only [hi', Zy, Zt, Rbd hi, Qb, Rmh _ (hm _ (List.getElem_mem hi)), Row (hm _ (List.getElem_mem hi)), Rda (show (i : Int) < 9223372036854775807 by omega), Rok hl hm d (i + 1) (by omega)]
  cases stOk l[i] <;> cases bSs (r.length : Int) l[i] <;> simp
def Rdy (p : Prg) : Bool := (Rea p.rooms && decide ((p.rooms.length : Int) ≤ 3)) && decide (1 ≤ (p.tasks.length : Int) ∧ (p.tasks.length : Int) ≤ 3) && lsOk p.rooms.length p.tasks
theorem Rgp {p : Prg} (hr : (p.rooms.length : Int) ≤ 4294967296) (hl : (p.tasks.length : Int) ≤ 4294967296) (hm : ∀ x ∈ p.tasks, mSs x ≤ 4294967296) : Ram p = some (Rdy p) := by
 apply Rkm
 rw [Rlt hr, Qb]
 unfold Rdy
 by_cases h3 : (p.rooms.length : Int) ≤ 3
 ·have h : Rbl p.tasks (p.tasks.length : Int) 0 p.rooms p.tasks = _ := Rod h3 hl hm p.tasks.length 0 (by omega)
  rw [h, Qb, List.drop_zero]
  cases Rea p.rooms
  ·simp
  by_cases h1 : (p.tasks.length : Int) < 1
  ·have : ¬ (1 ≤ (p.tasks.length : Int) ∧ (p.tasks.length : Int) ≤ 3) := by omega
   simp only [this, h1, h3, Zy, Zz, Bool.and_true, Zv, Zf, Zt, Bool.and_false, Bool.false_and]
  by_cases h2 : 3 < (p.tasks.length : Int)
  ·have : ¬ (1 ≤ (p.tasks.length : Int) ∧ (p.tasks.length : Int) ≤ 3) := by omega
   simp only [this, h1, h2, h3, Zy, Zz, Bool.and_true, Zv, Zf, Zt, Bool.and_false, Bool.false_and]
  ·have : 1 ≤ (p.tasks.length : Int) ∧ (p.tasks.length : Int) ≤ 3 := by omega
   simp only [this, h1, h2, h3, Zy, Zz, Bool.and_true, Bool.true_and, Zv, Zf, and_self]
   cases lsOk (p.rooms.length : Int) p.tasks <;> simp [selm]
 ·simp [h3]
theorem Rgs {p : Prg} (hr : (p.rooms.length : Int) ≤ 4294967296) (hl : (p.tasks.length : Int) ≤ 4294967296) (hm : ∀ x ∈ p.tasks, mSs x ≤ 4294967296) : Rba p = some (Rdy p) := by
 apply Rko
 have h : Rbm 0 p.rooms p.tasks = _ := Rok hl hm p.tasks.length 0 (by omega)
 rw [Roy hr, Qb, Rdu, Qb, h, Qb, List.drop_zero]
 unfold Rdy
 cases Rea p.rooms && decide ((p.rooms.length : Int) ≤ 3)
 ·simp
 by_cases h1 : 1 ≤ (p.tasks.length : Int) ∧ (p.tasks.length : Int) ≤ 3
 ·simp only [h1, and_self, Zy, Zv, Zf, Bool.true_and]
  cases lsOk (p.rooms.length : Int) p.tasks <;> simp [selm]
 ·simp only [h1, Zz, Zx, Zt, Zv, Zf, Bool.and_false, Bool.false_and]
theorem mem_add {ls : List (List Stm)} {l : List Stm} {n : Nat} (h : ∀ x ∈ ls, mSs x ≤ n) (hl : mSs l ≤ n) : ∀ x ∈ ls ++ [l], mSs x ≤ n := by
 intro x hx
 rcases List.mem_append.1 hx with hx | hx
 ·exact h x hx
 ·rw [List.mem_singleton.1 hx]; exact hl
theorem mem_set {ls : List (List Stm)} {l : List Stm} {n i : Nat} (h : ∀ x ∈ ls, mSs x ≤ n) (hl : mSs l ≤ n) : ∀ x ∈ ls.set i l, mSs x ≤ n := by
 intro x hx
 rcases List.mem_or_eq_of_mem_set hx with hx | rfl
 ·exact h x hx
 ·exact hl
theorem Ryz : ∀ {j : J} {l : List Tok} {o : Out}, P j l o → ∀ o', P j l o' → o = o' := by
 intro j l o h
 induction h with
 | nil => intro o' h'; cases h'; rfl
 | atom h1 h2 =>
  intro o' h'
  cases h' with
  | atom h3 h4 => rw [h2] at h4; injection h4 with h4; rw [h4]
  | bad h3 h4 => rw [h2] at h4; cases h4
  | _ => exact absurd rfl h1
 | bad h1 h2 =>
  intro o' h'
  cases h' with
  | atom h3 h4 => rw [h2] at h4; cases h4
  | bad h3 h4 => rfl
  | _ => exact absurd rfl h1
 | par h ih =>
  intro o' h'
  cases h' with
  | atom h3 h4 => exact absurd rfl h3
  | bad h3 h4 => exact absurd rfl h3
  | par h3 => have := ih _ h3; injection this with this; injection this with a b; injection b with b c; rw [a, c]
  | parN h3 => have := ih _ h3; cases this
  | parE h3 => have := ih _ h3; cases this
  | parB h3 h4 => have := ih _ h3; injection this with this; injection this with a b; injection b with b c; exact absurd b.symm h4
 | parN h ih =>
  intro o' h'
  cases h' with
  | atom h3 h4 => exact absurd rfl h3
  | bad h3 h4 => exact absurd rfl h3
  | par h3 => have := ih _ h3; cases this
  | _ => rfl
 | parE h ih =>
  intro o' h'
  cases h' with
  | atom h3 h4 => exact absurd rfl h3
  | bad h3 h4 => exact absurd rfl h3
  | par h3 => have := ih _ h3; cases this
  | _ => rfl
 | parB h hn ih =>
  intro o' h'
  cases h' with
  | atom h3 h4 => exact absurd rfl h3
  | bad h3 h4 => exact absurd rfl h3
  | par h3 => have := ih _ h3; injection this with this; injection this with a b; injection b with b c; exact absurd b hn
  | _ => rfl
 | top hk h ih =>
  intro o' h'
  cases h' with
  | top h3 h4 => exact ih _ h4
  | levN h3 h4 => omega
  | levS h3 h4 h5 => omega
 | levN hk h ih =>
  intro o' h'
  cases h' with
  | top h3 h4 => omega
  | levN h3 h4 => rfl
  | levS h3 h4 h5 => have := ih _ h4; cases this
 | levS hk h1 h2 ih1 ih2 =>
  intro o' h'
  cases h' with
  | top h3 h4 => omega
  | levN h3 h4 => have := ih1 _ h4; cases this
  | levS h3 h4 h5 =>
   have := ih1 _ h4; injection this with this; injection this with a b
   subst a b
   exact ih2 _ h5
 | stop hn =>
  intro o' h'
  cases h' with
  | stop h3 => rfl
  | step h3 h4 h5 => exact absurd h3 hn
  | stepN h3 h4 => exact absurd h3 hn
 | step hl h1 h2 ih1 ih2 =>
  intro o' h'
  cases h' with
  | stop h3 => exact absurd hl h3
  | step h3 h4 h5 =>
   have := ih1 _ h4; injection this with this; injection this with a b
   subst a b
   exact ih2 _ h5
  | stepN h3 h4 => have := ih1 _ h4; cases this
 | stepN hl h ih =>
  intro o' h'
  cases h' with
  | stop h3 => exact absurd hl h3
  | step h3 h4 h5 => have := ih _ h4; cases this
  | stepN h3 h4 => rfl
theorem P_grow (t : List Tok) : ∀ {j : J} {l : List Tok} {o : Out}, P j l o → ∀ e r, o = some (e, r) → r ≠ [] → P j (l ++ t) (some (e, r ++ t)) := by
 intro j l o h
 induction h with
 | nil => intro e r ho; cases ho
 | atom h1 h2 => intro e r ho hr; injection ho with ho; injection ho with a b; subst a b; exact .atom h1 h2
 | bad _ _ => intro e r ho; cases ho
 | par h ih => intro e r ho hr; injection ho with ho; injection ho with a b; subst a b; exact .par (ih _ _ rfl (by simp))
 | parN _ _ => intro e r ho; cases ho
 | parE _ _ => intro e r ho; cases ho
 | parB _ _ _ => intro e r ho; cases ho
 | top hk h ih => intro e r ho hr; exact .top hk (ih e r ho hr)
 | levN hk h ih => intro e r ho; cases ho
 | levS hk h1 h2 ih1 ih2 =>
  intro e r ho hr
  refine .levS hk (ih1 _ _ rfl ?_) (ih2 e r ho hr)
  intro hn
  subst hn
  obtain ⟨p, hp⟩ := (Rse h2 e r ho).1
  have : p = [] ∧ r = [] := by simpa using hp.symm
  exact hr this.2
 | @stop k e l hn =>
  intro e' r ho hr
  injection ho with ho; injection ho with a b; subst a b
  refine .stop ?_
  cases l with
  | nil => exact absurd rfl hr
  | cons u l => exact hn
 | step hl h1 h2 ih1 ih2 =>
  intro e r ho hr
  refine .step hl (ih1 _ _ rfl ?_) (ih2 e r ho hr)
  intro hn
  subst hn
  obtain ⟨p, hp⟩ := (Rse h2 e r ho).1
  have : p = [] ∧ r = [] := by simpa using hp.symm
  exact hr this.2
 | stepN hl h ih => intro e r ho; cases ho
noncomputable def ex1 (l : List Tok) : Out := Classical.choose (Rna (l.length + 1) (.lev 1) l (Nat.le_refl 1) (Nat.lt_succ_self _))
theorem Rua (l : List Tok) : P (.lev 1) l (ex1 l) := Classical.choose_spec (Rna (l.length + 1) (.lev 1) l (Nat.le_refl 1) (Nat.lt_succ_self _))
theorem Raag {l : List Tok} {o : Out} (h : P (.lev 1) l o) : ex1 l = o := Ryz (Rua l) o h
theorem Rnb {l : List Tok} {e : Exp} {r : List Tok} (h : ex1 l = some (e, r)) (hr : r ≠ []) (t : List Tok) : ex1 (l ++ t) = some (e, r ++ t) :=
 Raag (P_grow t (h ▸ Rua l) e r rfl hr)
theorem Riw {l : List Tok} {e : Exp} {r : List Tok} (h : ex1 l = some (e, r)) : (∃ p, l = p ++ r) ∧ r.length < l.length := Rse (h ▸ Rua l) e r rfl
def kIf : Tok := [105, 102]
def Rcr : Tok := [119, 104, 105, 108, 101]
def Rin : Tok := [115, 101, 110, 100]
def Rjr : Tok := [114, 101, 99, 118]
def Rgq : Tok := [121, 105, 101, 108, 100]
def Rga : Tok := [112, 114, 105, 110, 116]
def Rfm : Tok := [101, 108, 115, 101]
def kBox : Tok := [98, 111, 120]
def Riz : Tok := [116, 97, 115, 107]
def kL : Tok := [123]
def kR : Tok := [125]
def kS : Tok := [59]
def kE : Tok := [61]
def nd (k : Tok) : List Tok → Option (List Tok)
 | t :: l => if t = k then some l else none
 | [] => none
def nu : List Tok → Option (Int × List Tok)
 | t :: l => if 0 ≤ numV t then some (numV t, l) else none
 | [] => none
def va : List Tok → Option (Int × List Tok)
 | t :: l => if 0 ≤ varV t then some (varV t, l) else none
 | [] => none
noncomputable def en (l : List Tok) : Out := (ex1 l).bind fun p => (nd kS p.2).map fun r => (p.1, r)
abbrev GO := Option (List Stm × List Tok)
noncomputable def smp : List Tok → GO
 | [] => none
 | t :: l =>
  if t = Rin then (nu l).bind fun p => (en p.2).map fun q => ([⟨4, 0, p.1, q.1, [], []⟩], q.2)
  else if t = Rjr then (nu l).bind fun p => (va p.2).bind fun q => (nd kS q.2).map fun r => ([⟨5, q.1, p.1, ⟨0, 0, []⟩, [], []⟩], r)
  else if t = Rgq then (nd kS l).map fun r => ([⟨6, 0, 0, ⟨0, 0, []⟩, [], []⟩], r)
  else if t = Rga then (en l).map fun q => ([⟨7, 0, 0, q.1, [], []⟩], q.2)
  else (va (t :: l)).bind fun p => (nd kE p.2).bind fun r => (en r).map fun q => ([⟨1, p.1, 0, q.1, [], []⟩], q.2)
inductive K where
 | st
 | bk
 | lp (acc : List Stm)
inductive G : K → List Tok → GO → Prop
 | bk0 {l : List Tok} : nd kL l = none → G .bk l none
 | bk {l : List Tok} {o : GO} : G (.lp []) l o → G .bk (kL :: l) o
 | lpE {a : List Stm} : G (.lp a) [] none
 | lpS {a : List Stm} {l : List Tok} : G (.lp a) (kR :: l) (some (a, l))
 | lpN {a : List Stm} {t : Tok} {l : List Tok} : t ≠ kR → G .st (t :: l) none → G (.lp a) (t :: l) none
 | lpC {a : List Stm} {t : Tok} {l r : List Tok} {s : Stm} {o : GO} : t ≠ kR → G .st (t :: l) (some ([s], r)) → G (.lp (a ++ [s])) r o → G (.lp a) (t :: l) o
 | smp {t : Tok} {l : List Tok} {o : GO} : t ≠ kIf → t ≠ Rcr → smp (t :: l) = o → G .st (t :: l) o
 | ifN {l : List Tok} : ex1 l = none → G .st (kIf :: l) none
 | ifB {l r : List Tok} {e : Exp} : ex1 l = some (e, r) → G .bk r none → G .st (kIf :: l) none
 | if1 {l r r2 : List Tok} {e : Exp} {b : List Stm} : ex1 l = some (e, r) → G .bk r (some (b, r2)) → nd Rfm r2 = none → G .st (kIf :: l) (some ([⟨2, 0, 0, e, b, []⟩], r2))
 | if2 {l r r2 r3 : List Tok} {e : Exp} {b c : List Stm} : ex1 l = some (e, r) → G .bk r (some (b, Rfm :: r2)) → G .bk r2 (some (c, r3)) → G .st (kIf :: l) (some ([⟨2, 0, 0, e, b, c⟩], r3))
 | if3 {l r r2 : List Tok} {e : Exp} {b : List Stm} : ex1 l = some (e, r) → G .bk r (some (b, Rfm :: r2)) → G .bk r2 none → G .st (kIf :: l) none
 | whN {l : List Tok} : ex1 l = none → G .st (Rcr :: l) none
 | whB {l r : List Tok} {e : Exp} : ex1 l = some (e, r) → G .bk r none → G .st (Rcr :: l) none
 | wh {l r r2 : List Tok} {e : Exp} {b : List Stm} : ex1 l = some (e, r) → G .bk r (some (b, r2)) → G .st (Rcr :: l) (some ([⟨3, 0, 0, e, b, []⟩], r2))
theorem Rdq {k : Tok} {l r : List Tok} (h : nd k l = some r) : l = k :: r := by
 cases l with
 | nil => cases h
 | cons t l =>
  simp only [nd] at h
  split at h
  ·rename_i hk; injection h with h; rw [hk, h]
  ·cases h
theorem Rju {l r : List Tok} {n : Int} (h : nu l = some (n, r)) : ∃ t, l = t :: r ∧ 0 ≤ numV t ∧ n = numV t := by
 cases l with
 | nil => cases h
 | cons t l =>
  simp only [nu] at h
  split at h
  ·rename_i hk; injection h with h; injection h with a b; subst a b; exact ⟨t, rfl, hk, rfl⟩
  ·cases h
theorem Ruh {l r : List Tok} {n : Int} (h : va l = some (n, r)) : ∃ t, l = t :: r ∧ 0 ≤ varV t ∧ n = varV t := by
 cases l with
 | nil => cases h
 | cons t l =>
  simp only [va] at h
  split at h
  ·rename_i hk; injection h with h; injection h with a b; subst a b; exact ⟨t, rfl, hk, rfl⟩
  ·cases h
theorem Rty {l r : List Tok} {e : Exp} (h : en l = some (e, r)) : ex1 l = some (e, kS :: r) := by
 unfold en at h
 cases hx : ex1 l with
 | none => rw [hx] at h; cases h
 | some p =>
  rw [hx] at h
  simp only [Option.bind_some, Option.map_eq_some_iff] at h
  obtain ⟨q, h1, h2⟩ := h
  injection h2 with a b
  subst a b
  have := Rdq h1
  rw [← this]
theorem Rpi {t : Tok} {l r : List Tok} {b : List Stm} (h : smp (t :: l) = some (b, r)) : ∃ s, b = [s] ∧
    ((∃ u e, t = Rin ∧ 0 ≤ numV u ∧ (∃ r1, l = u :: r1 ∧ ex1 r1 = some (e, kS :: r)) ∧ s = ⟨4, 0, numV u, e, [], []⟩) ∨
     (∃ u w, t = Rjr ∧ 0 ≤ numV u ∧ 0 ≤ varV w ∧ l = u :: w :: kS :: r ∧ s = ⟨5, varV w, numV u, ⟨0, 0, []⟩, [], []⟩) ∨
     (t = Rgq ∧ l = kS :: r ∧ s = ⟨6, 0, 0, ⟨0, 0, []⟩, [], []⟩) ∨
     (∃ e, t = Rga ∧ ex1 l = some (e, kS :: r) ∧ s = ⟨7, 0, 0, e, [], []⟩) ∨
     (∃ e, t ≠ Rin ∧ t ≠ Rjr ∧ t ≠ Rgq ∧ t ≠ Rga ∧ 0 ≤ varV t ∧ (∃ r1, l = kE :: r1 ∧ ex1 r1 = some (e, kS :: r)) ∧ s = ⟨1, varV t, 0, e, [], []⟩)) := by
  simp only [smp] at h
  split at h
  · rename_i hk
    cases h1 : nu l with
    | none => rw [h1] at h; cases h
    | some p =>
      obtain ⟨n, l1⟩ := p
      rw [h1] at h
      simp only [Option.bind_some, Option.map_eq_some_iff] at h
      obtain ⟨⟨e, r1⟩, h2, h3⟩ := h
      injection h3 with a b
      subst a b
      obtain ⟨u, rfl, hu, rfl⟩ := Rju h1
      exact ⟨_, rfl, Or.inl ⟨u, e, hk, hu, ⟨_, rfl, Rty h2⟩, rfl⟩⟩
  · split at h
    · rename_i hk
      cases h1 : nu l with
      | none => rw [h1] at h; cases h
      | some p =>
        obtain ⟨n, l1⟩ := p
        rw [h1] at h
        simp only [Option.bind_some] at h
        cases h2 : va l1 with
        | none => rw [h2] at h; cases h
        | some q =>
          obtain ⟨v, l2⟩ := q
          rw [h2] at h
          simp only [Option.bind_some, Option.map_eq_some_iff] at h
          obtain ⟨r1, h3, h4⟩ := h
          injection h4 with a b
          subst a b
          obtain ⟨u, rfl, hu, rfl⟩ := Rju h1
          obtain ⟨w, rfl, hw, rfl⟩ := Ruh h2
          have := Rdq h3
          subst this
          exact ⟨_, rfl, Or.inr (Or.inl ⟨u, w, hk, hu, hw, rfl, rfl⟩)⟩
    · split at h
      · rename_i hk
        simp only [Option.map_eq_some_iff] at h
        obtain ⟨r1, h3, h4⟩ := h
        injection h4 with a b
        subst a b
        exact ⟨_, rfl, Or.inr (Or.inr (Or.inl ⟨hk, Rdq h3, rfl⟩))⟩
      · split at h
        · rename_i hk
          simp only [Option.map_eq_some_iff] at h
          obtain ⟨⟨e, r1⟩, h3, h4⟩ := h
          injection h4 with a b
          subst a b
          exact ⟨_, rfl, Or.inr (Or.inr (Or.inr (Or.inl ⟨e, hk, Rty h3, rfl⟩)))⟩
        · rename_i k1 k2 k3 k4
          cases h1 : va (t :: l) with
          | none => rw [h1] at h; cases h
          | some p =>
            obtain ⟨v, l1⟩ := p
            rw [h1] at h
            simp only [Option.bind_some] at h
            cases h2 : nd kE l1 with
            | none => rw [h2] at h; cases h
            | some q =>
              rw [h2] at h
              simp only [Option.bind_some, Option.map_eq_some_iff] at h
              obtain ⟨⟨e, r1⟩, h3, h4⟩ := h
              injection h4 with a b
              subst a b
              obtain ⟨u, hu1, hu, rfl⟩ := Ruh h1
              injection hu1 with a b
              subst a b
              have := Rdq h2
              exact ⟨_, rfl, Or.inr (Or.inr (Or.inr (Or.inr ⟨e, k1, k2, k3, k4, hu, ⟨_, this, Rty h3⟩, rfl⟩)))⟩
theorem Rwx {k u : Tok} {r : List Tok} (h : nd k (u :: r) = none) (x : List Tok) : nd k (u :: r ++ x) = none := by
 simp only [nd, List.cons_append] at h ⊢
 split at h
 ·cases h
 ·rename_i hn; rw [if_neg hn]
theorem Rau (k : Tok) (l : List Tok) : nd k (k :: l) = some l := by simp [nd]
theorem Rlc {u : Tok} (h : 0 ≤ numV u) (l : List Tok) : nu (u :: l) = some (numV u, l) := by simp only [nu]; rw [if_pos h]
theorem Rqr {u : Tok} (h : 0 ≤ varV u) (l : List Tok) : va (u :: l) = some (varV u, l) := by simp only [va]; rw [if_pos h]
theorem Rtx {l r : List Tok} {e : Exp} (h : ex1 l = some (e, kS :: r)) : en l = some (e, r) := by unfold en; rw [h]; simp [Rau]
theorem Rvm {u : Tok} {l r : List Tok} {e : Exp} (hu : 0 ≤ numV u) (h : ex1 l = some (e, kS :: r)) : smp (Rin :: u :: l) = some ([⟨4, 0, numV u, e, [], []⟩], r) := by
 simp only [smp, if_true]; rw [Rlc hu]; simp [Rtx h]
theorem Rvl {u w : Tok} (r : List Tok) (hu : 0 ≤ numV u) (hw : 0 ≤ varV w) : smp (Rjr :: u :: w :: kS :: r) = some ([⟨5, varV w, numV u, ⟨0, 0, []⟩, [], []⟩], r) := by
 simp only [smp, if_true]; rw [if_neg (by decide), Rlc hu]; simp [Rqr hw, Rau]
theorem Rtr (r : List Tok) : smp (Rgq :: kS :: r) = some ([⟨6, 0, 0, ⟨0, 0, []⟩, [], []⟩], r) := by
 simp only [smp, if_true]; rw [if_neg (by decide), if_neg (by decide), Rau]; rfl
theorem Rtq {l r : List Tok} {e : Exp} (h : ex1 l = some (e, kS :: r)) : smp (Rga :: l) = some ([⟨7, 0, 0, e, [], []⟩], r) := by
 simp only [smp, if_true]; rw [if_neg (by decide), if_neg (by decide), if_neg (by decide), Rtx h]; rfl
theorem Ryk {t : Tok} {l r : List Tok} {e : Exp} (hv : 0 ≤ varV t) (h : ex1 l = some (e, kS :: r)) : smp (t :: kE :: l) = some ([⟨1, varV t, 0, e, [], []⟩], r) := by
 have hk : ∀ k : Tok, varV k = -1 → t ≠ k := by intro k h1 h2; rw [h2, h1] at hv; omega
 simp only [smp]; rw [if_neg (hk _ rfl), if_neg (hk _ rfl), if_neg (hk _ rfl), if_neg (hk _ rfl), Rqr hv]; simp [Rau, Rtx h]
theorem smp_ext {t : Tok} {l r : List Tok} {b : List Stm} (h : smp (t :: l) = some (b, r)) (x : List Tok) : smp (t :: l ++ x) = some (b, r ++ x) := by
 obtain ⟨s, rfl, hh⟩ := Rpi h
 clear h
 rcases hh with ⟨u, e, rfl, hu, ⟨r1, rfl, h⟩, rfl⟩ | ⟨u, w, rfl, hu, hw, rfl, rfl⟩ | ⟨rfl, rfl, rfl⟩ | ⟨e, rfl, h, rfl⟩ | ⟨e, _, _, _, _, hv, ⟨r1, rfl, h⟩, rfl⟩
 ·exact Rvm hu (Rnb h (by simp) x)
 ·exact Rvl (r ++ x) hu hw
 ·exact Rtr (r ++ x)
 ·exact Rtq (Rnb h (by simp) x)
 ·exact Ryk hv (Rnb h (by simp) x)
theorem smp_suf {t : Tok} {l r : List Tok} {b : List Stm} (h : smp (t :: l) = some (b, r)) : (∃ p, t :: l = p ++ r) ∧ r.length < (t :: l).length := by
 obtain ⟨s, rfl, hh⟩ := Rpi h
 clear h
 rcases hh with ⟨u, e, rfl, hu, ⟨r1, rfl, h⟩, rfl⟩ | ⟨u, w, rfl, hu, hw, rfl, rfl⟩ | ⟨rfl, rfl, rfl⟩ | ⟨e, rfl, h, rfl⟩ | ⟨e, _, _, _, _, hv, ⟨r1, rfl, h⟩, rfl⟩
 ·obtain ⟨⟨p, hp⟩, hl⟩ := Riw h
  exact ⟨⟨Rin :: u :: p ++ [kS], by rw [hp]; simp⟩, by simp only [Zc] at *; omega⟩
 ·exact ⟨⟨[Rjr, u, w, kS], rfl⟩, by simp only [Zc]; omega⟩
 ·exact ⟨⟨[Rgq, kS], rfl⟩, by simp only [Zc]; omega⟩
 ·obtain ⟨⟨p, hp⟩, hl⟩ := Riw h
  exact ⟨⟨Rga :: p ++ [kS], by rw [hp]; simp⟩, by simp only [Zc] at *; omega⟩
 ·obtain ⟨⟨p, hp⟩, hl⟩ := Riw h
  exact ⟨⟨t :: kE :: p ++ [kS], by rw [hp]; simp⟩, by simp only [Zc] at *; omega⟩
theorem Rlk : ∀ {j : K} {l : List Tok} {o : GO}, G j l o → ∀ b r, o = some (b, r) → (∃ p, l = p ++ r) ∧ r.length < l.length := by
 intro j l o h
 induction h with
 | bk0 _ => intro b r ho; cases ho
 | bk h ih =>
  intro b r ho
  obtain ⟨⟨p, hp⟩, hl⟩ := ih b r ho
  exact ⟨⟨kL :: p, by rw [hp]; rfl⟩, by simp only [Zc]; omega⟩
 | lpE => intro b r ho; cases ho
 | lpS => intro b r ho; injection ho with ho; injection ho with a c; subst a c; exact ⟨⟨[kR], rfl⟩, by simp⟩
 | lpN _ _ _ => intro b r ho; cases ho
 | lpC _ _ _ ih1 ih2 =>
  intro b r ho
  obtain ⟨⟨p, hp⟩, hl⟩ := ih1 _ _ rfl
  obtain ⟨⟨q, hq⟩, hl2⟩ := ih2 b r ho
  exact ⟨⟨p ++ q, by rw [hp, hq, List.append_assoc]⟩, by omega⟩
 | smp _ _ h => intro b r ho; rw [ho] at h; exact smp_suf h
 | ifN _ => intro b r ho; cases ho
 | ifB _ _ _ => intro b r ho; cases ho
 | if1 h1 _ _ ih =>
  intro b r ho
  injection ho with ho; injection ho with a c; subst a c
  obtain ⟨⟨p, hp⟩, hl⟩ := Riw h1
  obtain ⟨⟨q, hq⟩, hl2⟩ := ih _ _ rfl
  exact ⟨⟨kIf :: p ++ q, by rw [hp, hq]; simp⟩, by simp only [Zc]; omega⟩
 | if2 h1 _ _ ih ih2 =>
  intro b r ho
  injection ho with ho; injection ho with a c; subst a c
  obtain ⟨⟨p, hp⟩, hl⟩ := Riw h1
  obtain ⟨⟨q, hq⟩, hl2⟩ := ih _ _ rfl
  obtain ⟨⟨q2, hq2⟩, hl3⟩ := ih2 _ _ rfl
  exact ⟨⟨kIf :: p ++ q ++ Rfm :: q2, by rw [hp, hq, hq2]; simp⟩, by simp only [Zc] at *; omega⟩
 | if3 _ _ _ _ _ => intro b r ho; cases ho
 | whN _ => intro b r ho; cases ho
 | whB _ _ _ => intro b r ho; cases ho
 | wh h1 _ ih =>
  intro b r ho
  injection ho with ho; injection ho with a c; subst a c
  obtain ⟨⟨p, hp⟩, hl⟩ := Riw h1
  obtain ⟨⟨q, hq⟩, hl2⟩ := ih _ _ rfl
  exact ⟨⟨Rcr :: p ++ q, by rw [hp, hq]; simp⟩, by simp only [Zc]; omega⟩
theorem G_one : ∀ {j : K} {l : List Tok} {o : GO}, G j l o → j = .st → ∀ b r, o = some (b, r) → ∃ s, b = [s] := by
 intro j l o h
 cases h with
 | smp _ _ h =>
  intro _ b r ho
  rw [ho] at h
  obtain ⟨s, hs, _⟩ := Rpi h
  exact ⟨s, hs⟩
 | if1 _ _ _ => intro _ b r ho; injection ho with ho; injection ho with a c; exact ⟨_, a.symm⟩
 | if2 _ _ _ => intro _ b r ho; injection ho with ho; injection ho with a c; exact ⟨_, a.symm⟩
 | wh _ _ => intro _ b r ho; injection ho with ho; injection ho with a c; exact ⟨_, a.symm⟩
 | ifN _ => intro _ b r ho; cases ho
 | ifB _ _ => intro _ b r ho; cases ho
 | if3 _ _ _ => intro _ b r ho; cases ho
 | whN _ => intro _ b r ho; cases ho
 | whB _ _ => intro _ b r ho; cases ho
 | _ => intro hj; cases hj
theorem G_ext (x : List Tok) : ∀ {j : K} {l : List Tok} {o : GO}, G j l o → ∀ b r, o = some (b, r) → (j = .st → r ≠ []) → G j (l ++ x) (some (b, r ++ x)) := by
 intro j l o h
 induction h with
 | bk0 _ => intro b r ho; cases ho
 | bk h ih => intro b r ho _; exact .bk (ih b r ho (fun h => by cases h))
 | lpE => intro b r ho; cases ho
 | lpS => intro b r ho _; injection ho with ho; injection ho with a c; subst a c; exact .lpS
 | lpN _ _ _ => intro b r ho; cases ho
 | @lpC a t l r s o h1 h2 h3 ih1 ih2 =>
  intro b r' ho _
  subst ho
  refine .lpC h1 (ih1 _ _ rfl fun _ hn => ?_) (ih2 b r' rfl (fun h => by cases h))
  subst hn
  cases h3
 | smp h1 h2 h => intro b r ho _; rw [ho] at h; exact .smp h1 h2 (smp_ext h x)
 | ifN _ => intro b r ho; cases ho
 | ifB _ _ _ => intro b r ho; cases ho
 | @if1 l r r2 e b h1 h2 h3 ih =>
  intro b r ho hr
  injection ho with ho; injection ho with a c; subst a c
  have hne : r ≠ [] := by intro hn; subst hn; cases h2
  refine .if1 (Rnb h1 hne x) (ih _ _ rfl (fun h => by cases h)) ?_
  cases r2 with
  | nil => exact absurd rfl (hr rfl)
  | cons u r2 => exact Rwx h3 x
 | @if2 l r r2 r3 e b c h1 h2 h3 ih ih2 =>
  intro b' r' ho hr
  injection ho with ho; injection ho with a d; subst a d
  have hne : r ≠ [] := by intro hn; subst hn; cases h2
  exact .if2 (Rnb h1 hne x) (ih _ _ rfl (fun h => by cases h)) (ih2 _ _ rfl (fun h => by cases h))
 | if3 _ _ _ _ _ => intro b r ho; cases ho
 | whN _ => intro b r ho; cases ho
 | whB _ _ _ => intro b r ho; cases ho
 | @wh l r r2 e b h1 h2 ih =>
  intro b' r' ho hr
  injection ho with ho; injection ho with a c; subst a c
  have hne : r ≠ [] := by intro hn; subst hn; cases h2
  exact .wh (Rnb h1 hne x) (ih _ _ rfl (fun h => by cases h))
theorem Rib {k : Tok} {l : List Tok} : nd k (k :: l) ≠ none := by rw [Rau]; simp
theorem G_det : ∀ {j : K} {l : List Tok} {o : GO}, G j l o → ∀ o', G j l o' → o = o' := by
 intro j l o h
 induction h with
 | bk0 h => intro o' h'; cases h' with | bk0 _ => rfl | bk _ => exact absurd h Rib
 | bk h ih => intro o' h'; cases h' with | bk0 h2 => exact absurd h2 Rib | bk h2 => exact ih _ h2
 | lpE => intro o' h'; cases h'; rfl
 | lpS => intro o' h'; cases h' with | lpS => rfl | lpN h _ => exact absurd rfl h | lpC h _ _ => exact absurd rfl h
 | lpN h1 h2 ih =>
  intro o' h'
  cases h' with
  | lpS => exact absurd rfl h1
  | lpN _ _ => rfl
  | lpC _ h3 _ => have := ih _ h3; cases this
 | lpC h1 h2 h3 ih1 ih2 =>
  intro o' h'
  cases h' with
  | lpS => exact absurd rfl h1
  | lpN _ h4 => have := ih1 _ h4; cases this
  | lpC _ h4 h5 =>
   have := ih1 _ h4
   injection this with this; injection this with a b; injection a with a
   subst a b
   exact ih2 _ h5
 | smp h1 h2 h =>
  intro o' h'
  cases h' with
  | smp _ _ h3 => rw [← h, h3]
  | ifN _ => exact absurd rfl h1
  | ifB _ _ => exact absurd rfl h1
  | if1 _ _ _ => exact absurd rfl h1
  | if2 _ _ _ => exact absurd rfl h1
  | if3 _ _ _ => exact absurd rfl h1
  | whN _ => exact absurd rfl h2
  | whB _ _ => exact absurd rfl h2
  | wh _ _ => exact absurd rfl h2
 | ifN h =>
  intro o' h'
  cases h' with
  | smp h3 _ _ => exact absurd rfl h3
  | if1 h3 _ _ => rw [h] at h3; cases h3
  | if2 h3 _ _ => rw [h] at h3; cases h3
  | _ => rfl
 | ifB h hb ih =>
  intro o' h'
  cases h' with
  | smp h3 _ _ => exact absurd rfl h3
  | if1 h3 h4 _ => rw [h] at h3; injection h3 with h3; injection h3 with a b; subst a b; have := ih _ h4; cases this
  | if2 h3 h4 _ => rw [h] at h3; injection h3 with h3; injection h3 with a b; subst a b; have := ih _ h4; cases this
  | _ => rfl
 | if1 h hb hn ih =>
  intro o' h'
  cases h' with
  | smp h3 _ _ => exact absurd rfl h3
  | ifN h3 => rw [h] at h3; cases h3
  | ifB h3 h4 => rw [h] at h3; injection h3 with h3; injection h3 with a b; subst a b; have := ih _ h4; cases this
  | if1 h3 h4 _ => rw [h] at h3; injection h3 with h3; injection h3 with a b; subst a b; have := ih _ h4; injection this with this; injection this with a b; subst a b; rfl
  | if2 h3 h4 _ => rw [h] at h3; injection h3 with h3; injection h3 with a b; subst a b; have := ih _ h4; injection this with this; injection this with a b; subst a b; exact absurd hn Rib
  | if3 h3 h4 _ => rw [h] at h3; injection h3 with h3; injection h3 with a b; subst a b; have := ih _ h4; injection this with this; injection this with a b; subst a b; exact absurd hn Rib
 | if2 h hb hc ih ih2 =>
  intro o' h'
  cases h' with
  | smp h3 _ _ => exact absurd rfl h3
  | ifN h3 => rw [h] at h3; cases h3
  | ifB h3 h4 => rw [h] at h3; injection h3 with h3; injection h3 with a b; subst a b; have := ih _ h4; cases this
  | if1 h3 h4 hn => rw [h] at h3; injection h3 with h3; injection h3 with a b; subst a b; have := ih _ h4; injection this with this; injection this with a b; subst a b; exact absurd hn Rib
  | if2 h3 h4 h5 =>
   rw [h] at h3; injection h3 with h3; injection h3 with a b; subst a b
   have := ih _ h4; injection this with this; injection this with a b; injection b with b c; subst a c
   have := ih2 _ h5; injection this with this; injection this with a b; subst a b; rfl
  | if3 h3 h4 h5 =>
   rw [h] at h3; injection h3 with h3; injection h3 with a b; subst a b
   have := ih _ h4; injection this with this; injection this with a b; injection b with b c; subst a c
   have := ih2 _ h5; cases this
 | if3 h hb hc ih ih2 =>
  intro o' h'
  cases h' with
  | smp h3 _ _ => exact absurd rfl h3
  | if1 h3 h4 hn => rw [h] at h3; injection h3 with h3; injection h3 with a b; subst a b; have := ih _ h4; injection this with this; injection this with a b; subst a b; exact absurd hn Rib
  | if2 h3 h4 h5 =>
   rw [h] at h3; injection h3 with h3; injection h3 with a b; subst a b
   have := ih _ h4; injection this with this; injection this with a b; injection b with b c; subst a c
   have := ih2 _ h5; cases this
  | _ => rfl
 | whN h =>
  intro o' h'
  cases h' with
  | smp _ h3 _ => exact absurd rfl h3
  | wh h3 _ => rw [h] at h3; cases h3
  | _ => rfl
 | whB h hb ih =>
  intro o' h'
  cases h' with
  | smp _ h3 _ => exact absurd rfl h3
  | wh h3 h4 => rw [h] at h3; injection h3 with h3; injection h3 with a b; subst a b; have := ih _ h4; cases this
  | _ => rfl
 | wh h hb ih =>
  intro o' h'
  cases h' with
  | smp _ h3 _ => exact absurd rfl h3
  | whN h3 => rw [h] at h3; cases h3
  | whB h3 h4 => rw [h] at h3; injection h3 with h3; injection h3 with a b; subst a b; have := ih _ h4; cases this
  | wh h3 h4 => rw [h] at h3; injection h3 with h3; injection h3 with a b; subst a b; have := ih _ h4; injection this with this; injection this with a b; subst a b; rfl
theorem Rmz : ∀ (n : Nat) (l : List Tok), l.length < n → (∃ o, G .st l o ∨ l = []) ∧ (∃ o, G .bk l o) ∧ (∀ a, ∃ o, G (.lp a) l o)
 | 0, _, h => by omega
 | n + 1, l, hn => by
  have st : ∃ o, G .st l o ∨ l = [] := by
   cases l with
   | nil => exact ⟨none, Or.inr rfl⟩
   | cons t l =>
    simp only [Zc] at hn
    by_cases h1 : t = kIf
    ·subst h1
     cases hx : ex1 l with
     | none => exact ⟨_, Or.inl (.ifN hx)⟩
     | some p =>
      obtain ⟨e, r⟩ := p
      have hs := (Riw hx).2
      obtain ⟨o, ho⟩ := (Rmz n r (by omega)).2.1
      cases o with
      | none => exact ⟨_, Or.inl (.ifB hx ho)⟩
      | some q =>
       obtain ⟨b, r2⟩ := q
       have hs2 := (Rlk ho b r2 rfl).2
       cases he : nd Rfm r2 with
       | none => exact ⟨_, Or.inl (.if1 hx ho he)⟩
       | some r3 =>
        have := Rdq he
        subst this
        simp only [Zc] at hs2
        obtain ⟨o2, ho2⟩ := (Rmz n r3 (by omega)).2.1
        cases o2 with
        | none => exact ⟨_, Or.inl (.if3 hx ho ho2)⟩
        | some q2 => exact ⟨_, Or.inl (.if2 hx ho ho2)⟩
    ·by_cases h2 : t = Rcr
     ·subst h2
      cases hx : ex1 l with
      | none => exact ⟨_, Or.inl (.whN hx)⟩
      | some p =>
       obtain ⟨e, r⟩ := p
       have hs := (Riw hx).2
       obtain ⟨o, ho⟩ := (Rmz n r (by omega)).2.1
       cases o with
       | none => exact ⟨_, Or.inl (.whB hx ho)⟩
       | some q => exact ⟨_, Or.inl (.wh hx ho)⟩
     ·exact ⟨_, Or.inl (.smp h1 h2 rfl)⟩
  have lp : ∀ a, ∃ o, G (.lp a) l o := by
   intro a
   cases l with
   | nil => exact ⟨_, .lpE⟩
   | cons t l =>
    by_cases ht : t = kR
    ·subst ht; exact ⟨_, .lpS⟩
    ·obtain ⟨o, ho | h⟩ := st
     ·cases o with
      | none => exact ⟨_, .lpN ht ho⟩
      | some q =>
       obtain ⟨b, r⟩ := q
       obtain ⟨s, rfl⟩ := G_one ho rfl b r rfl
       have hs := (Rlk ho _ _ rfl).2
       obtain ⟨o2, ho2⟩ := (Rmz n r (by omega)).2.2 (a ++ [s])
       exact ⟨o2, .lpC ht ho ho2⟩
     ·cases h
  refine ⟨st, ?_, lp⟩
  cases hk : nd kL l with
  | none => exact ⟨_, .bk0 hk⟩
  | some r =>
   have := Rdq hk
   subst this
   simp only [Zc] at hn
   obtain ⟨o, ho⟩ := (Rmz n r (by omega)).2.2 []
   exact ⟨o, .bk ho⟩
theorem Ro {k : Tok} (hk : k ≠ []) {L l : List Tok} (hL : L.length ≤ 20000) (h : Suf L l) : Re k L (plc L l) false = some (match nd k l with | some r => (true, L, (plc L r : Int), false) | none => (false, L, (plc L l : Int), false)) := by
 apply Ras
 cases l with
 | nil =>
  have hb : (([] : Tok) == k) = false := by rw [beq_eq_false_iff_ne]; exact fun e => hk e.symm
  rw [Req, Rmc, Qb]
  simp only [hb, Zx, Zt, nd, Req]
 | cons t l =>
  obtain ⟨hs2, hp, hlt, hg⟩ := h.tail
  rw [Rci h, Qb]
  by_cases ht : t = k
  ·subst ht
   have hb : (t == t) = true := beq_self_eq_true t
   simp only [hb, Zv, Zf, nd, if_true]
   rw [w1n (by omega), hp]
  ·have hb : (t == k) = false := by rw [beq_eq_false_iff_ne]; exact ht
   simp only [hb, Zx, Zt, nd, ht, if_false]
theorem Rha {k : Tok} (hk : k ≠ []) (L : List Tok) (p : Int) : Re k L p true = some (false, L, p, true) := by
 apply Ras
 have hb : (([] : Tok) == k) = false := by rw [beq_eq_false_iff_ne]; exact fun e => hk e.symm
 rw [Rmb, Qb]
 simp only [hb, Zx, Zt]
theorem Rjt {k : Tok} (hk : k ≠ []) {L l : List Tok} (hL : L.length ≤ 20000) (h : Suf L l) : Rg k L (plc L l) false = some (match nd k l with | some r => (L, (plc L r : Int), false) | none => (L, (plc L l : Int), true)) := by
 apply Raz
 rw [Ro hk hL h, Qb]
 cases nd k l <;> rfl
theorem Rep {k : Tok} (hk : k ≠ []) (L : List Tok) (p : Int) : Rg k L p true = some (L, p, true) := by
 apply Raz
 rw [Rha hk, Qb]; rfl
theorem Ryq (L : List Tok) (p : Int) : ∃ q, Rca L p true = some ([], L, q, true) := by
 refine ⟨wrap64 (p + 1), ?_⟩
 apply Rem
 rw [Rmb, Qb]; rfl
theorem Rmy (L : List Tok) (p : Int) : ∃ q, Rk L p true = some (0, L, q, true) := by
 obtain ⟨q, hq⟩ := Ryq L p
 refine ⟨q, ?_⟩
 apply Rbn
 rw [hq, Qb]; rfl
theorem Rwm (L : List Tok) (p : Int) : ∃ x q, Rf 1 L p true = some (x, L, q, true) := by
 obtain ⟨q, hq⟩ := Rmy L p
 refine ⟨⟨13, 0, []⟩, q, ?_⟩
 apply Rdb
 have h1 : Rai L p true = some (⟨13, 0, []⟩, L, q, true) := by
  apply Rq
  rw [Rmb, Qb]
  simp only [show (([] : List UInt8) == [40]) = false from rfl, Zf, show (([] : List UInt8) == []) = true from rfl, Zv, hq, Qb]
 have hl : Rah 1 L q true 0 0 false [] 13 0 .share [] = some (L, q, true, 0, 0, (false, []), 13, 0, (.share, [])) := by
  apply Raq
  simp only [Zv, Zf]
 rw [h1, Qb]
 simp only [hl, Qb]
theorem Rkg (L : List Tok) (p : Int) (m : Bool) (a : List Stm) : Rac m a L p true = some ((m, a), L, p, true) := by
 apply Rav
 simp only [Zv, Zf]
theorem Rri (L : List Tok) (p : Int) : Rat L p true = some ([], L, p, true) := by
 apply Rdz
 rw [Rep (by simp), Qb]
 simp only [Rkg, Qb]
theorem Rki {L l : List Tok} (hL : L.length ≤ 20000) (hg : ∀ t ∈ L, gt t) (h : Suf L l) : match nu l with
  | some (n, r) => Rad L (plc L l) false = some (n, L, (plc L r : Int), false)
  | none => ∃ q, Rad L (plc L l) false = some (0, L, q, true) := by
 cases l with
 | nil =>
  obtain ⟨q, hq⟩ := Rta L
  refine ⟨q, ?_⟩
  apply Rcf
  rw [Req, hq, Qb]; rfl
 | cons t l =>
  obtain ⟨c, r, rfl, hd⟩ := hg t h.mem
  cases hc : dg c
  ·have hn : ¬ 0 ≤ numV (c :: r) := fun h => by have := Rxd h c (List.mem_cons_self ..); rw [hc] at this; cases this
   simp only [nu, hn, if_false]
   refine ⟨(plc L l : Int), ?_⟩
   apply Rcf
   rw [Rmv hL h (by simp), Qb]
   have hb : ((c :: r : Tok) == []) = false := rfl
   simp only [hb, Zf]
   by_cases h5 : (5 : Int) < ((c :: r : Tok).length : Int)
   ·simp only [h5, Zy, Zt]
   ·simp only [h5, Zz, Zf, Rnc, Qb, Rcu, hc, Zx, Zt]
  ·by_cases hn : 0 ≤ numV (c :: r)
   ·simp only [nu, hn, if_true]
    exact (Rjb hL h (hd hc)).1 hn
   ·simp only [nu, hn, if_false]
    exact ⟨_, (Rjb hL h (hd hc)).2 hn⟩
theorem Ron {L l : List Tok} (hL : L.length ≤ 20000) (hg : ∀ t ∈ L, gt t) (h : Suf L l) : match va l with
  | some (n, r) => Rk L (plc L l) false = some (n, L, (plc L r : Int), false)
  | none => ∃ q, Rk L (plc L l) false = some (0, L, q, true) := by
 cases l with
 | nil =>
  obtain ⟨q, hq⟩ := Rta L
  refine ⟨q, ?_⟩
  apply Rbn
  rw [Req, hq, Qb]; rfl
 | cons t l =>
  obtain ⟨c, r, rfl, hd⟩ := hg t h.mem
  by_cases hn : 0 ≤ varV (c :: r)
  ·simp only [va, hn, if_true]
   exact (Rgz hL h (by simp)).1 hn
  ·simp only [va, hn, if_false]
   exact ⟨_, (Rgz hL h (by simp)).2 hn⟩
theorem Rgu {L l : List Tok} (hL : L.length ≤ 20000) (hg : ∀ t ∈ L, gt t) (h : Suf L l) : IA L (Rf 1 L (plc L l) false) (ex1 l) :=
 impl_C (P_C (Rua l)) L hL hg h (by omega) (Nat.le_refl 1)
theorem Rtm {k : Tok} {L l r : List Tok} (hs : Suf L l) (h : nd k l = some r) : Suf L r := by rw [Rdq h] at hs; exact hs.tail.1
theorem Rvf {L l r : List Tok} {n : Int} (hs : Suf L l) (h : nu l = some (n, r)) : Suf L r := by obtain ⟨t, rfl, _⟩ := Rju h; exact hs.tail.1
theorem Raas {L l r : List Tok} {n : Int} (hs : Suf L l) (h : va l = some (n, r)) : Suf L r := by obtain ⟨t, rfl, _⟩ := Ruh h; exact hs.tail.1
theorem Rhx {L l r : List Tok} {e : Exp} (hs : Suf L l) (h : ex1 l = some (e, r)) : Suf L r := hs.trans (Riw h).1
def RS (L : List Tok) (f : Option (Stm × List Tok × Int × Bool)) (o : GO) : Prop := match o with
 | some (b, r) => ∃ s, b = [s] ∧ f = some (s, L, (plc L r : Int), false)
 | none => ∃ x p, f = some (x, L, p, true)
def RB (L : List Tok) (f : Option (List Stm × List Tok × Int × Bool)) (o : GO) : Prop := match o with
 | some (b, r) => f = some (b, L, (plc L r : Int), false)
 | none => ∃ x p, f = some (x, L, p, true)
def RL (L : List Tok) (f : Option ((Bool × List Stm) × List Tok × Int × Bool)) (o : GO) : Prop := match o with
 | some (b, r) => ∃ m, f = some ((m, b), L, (plc L r : Int), false)
 | none => ∃ x p, f = some (x, L, p, true)
theorem Rwl {L l : List Tok} (hL : L.length ≤ 20000) (hg : ∀ t ∈ L, gt t) (h : Suf L l) (F : Exp → Stm) (F' : Exp → Stm) (hF : ∀ e, F' e = F e) :
  RS L (bnd (Rf 1 L (plc L l) false) fun r => bnd (Rg [59] r.2.1 r.2.2.1 r.2.2.2) fun q => some (F' r.1, q.1, q.2.1, q.2.2)) ((en l).map fun q => ([F q.1], q.2)) := by
 have h1 := Rgu hL hg h
 unfold en
 cases hx : ex1 l with
 | none =>
  rw [hx] at h1
  obtain ⟨x, p, h1⟩ := h1
  exact ⟨F' x, p, by rw [h1, Qb, Rep (by simp), Qb]⟩
 | some q =>
  obtain ⟨e, r⟩ := q
  rw [hx] at h1
  have h1 : _ = _ := h1
  rw [h1, Qb]
  simp only [Option.bind_some]
  rw [Rjt (by simp) hL (Rhx h hx), Qb]
  change RS L _ ((Option.map _ (nd [59] r)).map _)
  cases nd [59] r with
  | none => exact ⟨_, _, rfl⟩
  | some r2 => exact ⟨_, rfl, by rw [hF]⟩
theorem Rsn (L : List Tok) (p : Int) (F : Exp → Stm) : ∃ x q, (bnd (Rf 1 L p true) fun r => bnd (Rg [59] r.2.1 r.2.2.1 r.2.2.2) fun q => some (F r.1, q.1, q.2.1, q.2.2)) = some (x, L, q, true) := by
 obtain ⟨x, q, h⟩ := Rwm L p
 exact ⟨F x, q, by rw [h, Qb, Rep (by simp), Qb]⟩
theorem ndN {k t : Tok} {l : List Tok} (h : t ≠ k) : nd k (t :: l) = none := by simp only [nd]; rw [if_neg h]
theorem Rvn {L l : List Tok} (hL : L.length ≤ 20000) (hg : ∀ t ∈ L, gt t) (h : Suf L l) (h1 : nd kIf l = none) (h2 : nd Rcr l = none) : RS L (Rbz L (plc L l) false) (smp l) := by
 have main : ∀ f, RS L f (smp l) → (∀ v, f = some v → Rbz L (plc L l) false = some v) → RS L (Rbz L (plc L l) false) (smp l) := by
  intro f hf hv
  cases hs : smp l with
  | none => rw [hs] at hf; obtain ⟨x, p, hf⟩ := hf; exact ⟨x, p, hv _ hf⟩
  | some q =>
   obtain ⟨b, r⟩ := q
   rw [hs] at hf
   obtain ⟨s, hb, hf⟩ := hf
   exact ⟨s, hb, hv _ hf⟩
 refine main _ ?_ (fun v hv => Rz _ _ _ v hv)
 rw [Ro (k := [105, 102]) (by simp) hL h, show nd [105, 102] l = none from h1, Qb]
 simp only [Zf]
 rw [Ro (k := [119, 104, 105, 108, 101]) (by simp) hL h, show nd [119, 104, 105, 108, 101] l = none from h2, Qb]
 simp only [Zf]
 rw [Ro (k := [115, 101, 110, 100]) (by simp) hL h, Qb]
 cases h3 : nd [115, 101, 110, 100] l with
 | some l1 =>
  have hs1 := Rtm h h3
  have := Rdq h3
  subst this
  simp only [Zt]
  have hn := Rki hL hg hs1
  have hsm : smp (([115, 101, 110, 100] : Tok) :: l1) = (nu l1).bind fun p => (en p.2).map fun q => ([⟨4, 0, p.1, q.1, [], []⟩], q.2) := by
   simp only [smp, Rin, if_true]
  rw [hsm]
  cases hu : nu l1 with
  | none =>
   rw [hu] at hn
   obtain ⟨q, hn⟩ := hn
   rw [hn, Qb]
   exact Rsn L q fun e => ⟨4, 0, 0, ⟨e.op, e.n, e.args⟩, [], []⟩
  | some p =>
   obtain ⟨n, r⟩ := p
   rw [hu] at hn
   have hn : _ = _ := hn
   rw [hn, Qb]
   exact Rwl hL hg (Rvf hs1 hu) (fun e => ⟨4, 0, n, e, [], []⟩) (fun e => ⟨4, 0, n, ⟨e.op, e.n, e.args⟩, [], []⟩) (fun e => by rw [Rv])
 | none =>
  simp only [Zf]
  rw [Ro (k := [114, 101, 99, 118]) (by simp) hL h, Qb]
  cases h4 : nd [114, 101, 99, 118] l with
  | some l1 =>
   have hs1 := Rtm h h4
   have := Rdq h4
   subst this
   simp only [Zt]
   have hn := Rki hL hg hs1
   have hsm : smp (([114, 101, 99, 118] : Tok) :: l1) = (nu l1).bind fun p => (va p.2).bind fun q => (nd kS q.2).map fun r => ([⟨5, q.1, p.1, ⟨0, 0, []⟩, [], []⟩], r) := by
    simp only [smp, Rin, Rjr, if_true]
    rw [if_neg (by decide)]
   rw [hsm]
   cases hu : nu l1 with
   | none =>
    rw [hu] at hn
    obtain ⟨q, hn⟩ := hn
    obtain ⟨q2, hv⟩ := Rmy L q
    exact ⟨_, q2, by rw [hn, Qb, hv, Qb, Rep (by simp), Qb]⟩
   | some p =>
    obtain ⟨n, r⟩ := p
    rw [hu] at hn
    have hn : _ = _ := hn
    have hs2 := Rvf hs1 hu
    rw [hn, Qb]
    have hv := Ron hL hg hs2
    simp only [Option.bind_some]
    cases hw : va r with
    | none =>
     rw [hw] at hv
     obtain ⟨q, hv⟩ := hv
     exact ⟨_, q, by rw [hv, Qb, Rep (by simp), Qb]⟩
    | some p2 =>
     obtain ⟨v, r2⟩ := p2
     rw [hw] at hv
     have hv : _ = _ := hv
     rw [hv, Qb, Rjt (by simp) hL (Raas hs2 hw), Qb]
     simp only [Option.bind_some]
     change RS L _ (Option.map _ (nd [59] r2))
     cases nd [59] r2 with
     | none => exact ⟨_, _, rfl⟩
     | some r3 => exact ⟨_, rfl, rfl⟩
  | none =>
   simp only [Zf]
   rw [Ro (k := [121, 105, 101, 108, 100]) (by simp) hL h, Qb]
   cases h5 : nd [121, 105, 101, 108, 100] l with
   | some l1 =>
    have hs1 := Rtm h h5
    have := Rdq h5
    subst this
    simp only [Zt]
    have hsm : smp (([121, 105, 101, 108, 100] : Tok) :: l1) = (nd kS l1).map fun r => ([⟨6, 0, 0, ⟨0, 0, []⟩, [], []⟩], r) := by
     simp only [smp, Rin, Rjr, Rgq, if_true]
     rw [if_neg (by decide), if_neg (by decide)]
    rw [hsm, Rjt (by simp) hL hs1, Qb]
    change RS L _ (Option.map _ (nd [59] l1))
    cases nd [59] l1 with
    | none => exact ⟨_, _, rfl⟩
    | some r3 => exact ⟨_, rfl, rfl⟩
   | none =>
    simp only [Zf]
    rw [Ro (k := [112, 114, 105, 110, 116]) (by simp) hL h, Qb]
    cases h6 : nd [112, 114, 105, 110, 116] l with
    | some l1 =>
     have hs1 := Rtm h h6
     have := Rdq h6
     subst this
     simp only [Zt]
     have hsm : smp (([112, 114, 105, 110, 116] : Tok) :: l1) = (en l1).map fun q => ([⟨7, 0, 0, q.1, [], []⟩], q.2) := by
      simp only [smp, Rin, Rjr, Rgq, Rga, if_true]
      rw [if_neg (by decide), if_neg (by decide), if_neg (by decide)]
     rw [hsm]
     exact Rwl hL hg hs1 (fun e => ⟨7, 0, 0, e, [], []⟩) (fun e => ⟨7, 0, 0, ⟨e.op, e.n, e.args⟩, [], []⟩) (fun e => by rw [Rv])
    | none =>
     simp only [Zf]
     have hsm : smp l = (va l).bind fun p => (nd kE p.2).bind fun r => (en r).map fun q => ([⟨1, p.1, 0, q.1, [], []⟩], q.2) := by
      cases l with
      | nil => rfl
      | cons t l =>
       have ne : ∀ k, nd k (t :: l) = none → t ≠ k := by intro k hk e; rw [e, Rau] at hk; cases hk
       simp only [smp]
       rw [if_neg (ne Rin h3), if_neg (ne Rjr h4), if_neg (ne Rgq h5), if_neg (ne Rga h6)]
     rw [hsm]
     have hv := Ron hL hg h
     cases hw : va l with
     | none =>
      rw [hw] at hv
      obtain ⟨q, hv⟩ := hv
      rw [hv, Qb, Rep (by simp), Qb]
      exact Rsn L q fun e => ⟨1, 0, 0, ⟨e.op, e.n, e.args⟩, [], []⟩
     | some p =>
      obtain ⟨v, r⟩ := p
      rw [hw] at hv
      have hv : _ = _ := hv
      have hs2 := Raas h hw
      rw [hv, Qb, Rjt (by simp) hL hs2, Qb]
      simp only [Option.bind_some]
      change RS L _ (Option.bind (nd [61] r) _)
      cases he : nd [61] r with
      | none => exact Rsn L _ fun e => ⟨1, v, 0, ⟨e.op, e.n, e.args⟩, [], []⟩
      | some r2 => exact Rwl hL hg (Rtm hs2 he) (fun e => ⟨1, v, 0, e, [], []⟩) (fun e => ⟨1, v, 0, ⟨e.op, e.n, e.args⟩, [], []⟩) (fun e => by rw [Rv])
theorem Raai : ∀ {j : K} {l : List Tok} {o : GO}, G j l o → ∀ L : List Tok, L.length ≤ 20000 → (∀ t ∈ L, gt t) → Suf L l → match j with
  | .st => RS L (Rbz L (plc L l) false) o
  | .bk => RB L (Rat L (plc L l) false) o
  | .lp a => a.length ≤ plc L l → ∀ m, RL L (Rac m a L (plc L l) false) o := by
 intro j l o h
 induction h with
 | @bk0 l h =>
  intro L hL hg hs
  refine ⟨[], (plc L l : Int), ?_⟩
  apply Rdz
  rw [Rjt (by simp) hL hs, show nd [123] l = none from h, Qb]
  simp only [Rkg, Qb]
 | @bk l o h ih =>
  intro L hL hg hs
  obtain ⟨hs2, hp, hlt, _⟩ := hs.tail
  have h1 := ih L hL hg hs2 (Nat.zero_le _) false
  have st : ∀ v, (bnd (Rac false [] L (plc L l) false) fun r => some (r.1.2, r.2.1, r.2.2.1, r.2.2.2)) = some v → Rat L (plc L (kL :: l)) false = some v := by
   intro v hv
   apply Rdz
   rw [Rjt (by simp) hL hs, show nd [123] (kL :: l) = some l from Rau _ _, Qb]
   exact hv
  cases o with
  | none => obtain ⟨x, p, h1⟩ := h1; exact ⟨x.2, p, st _ (by rw [h1, Qb])⟩
  | some q =>
   obtain ⟨b, r⟩ := q
   obtain ⟨m, h1⟩ := h1
   exact st _ (by rw [h1, Qb])
 | @lpE a =>
  intro L hL hg hs ha m
  obtain ⟨x, p, h1⟩ := Rvn hL hg hs rfl rfl
  refine ⟨?_, p, ?_⟩
  rotate_left
  ·apply Rav
   simp only [Zx, Zt]
   rw [Ro (by simp) hL hs, Qb]
   simp only [nd, Zx, Zt]
   rw [h1, Qb]
   simp only [Rdn]
   rw [Rcd (by rw [Req] at ha; omega), Qb, Rkg]
 | @lpS a l =>
  intro L hL hg hs ha m
  refine ⟨m, ?_⟩
  apply Rav
  simp only [Zx, Zt]
  rw [Ro (by simp) hL hs, show nd [125] (kR :: l) = some l from Rau _ _, Qb]
  rfl
 | @lpN a t l ht h ih =>
  intro L hL hg hs ha m
  obtain ⟨hs2, hp, hlt, _⟩ := hs.tail
  obtain ⟨x, p, h1⟩ := ih L hL hg hs
  refine ⟨?_, p, ?_⟩
  rotate_left
  ·apply Rav
   simp only [Zx, Zt]
   rw [Ro (by simp) hL hs, show nd [125] (t :: l) = none from ndN ht, Qb]
   simp only [Zx, Zt]
   rw [h1, Qb]
   simp only [Rdn]
   rw [Rcd (by omega), Qb, Rkg]
 | @lpC a t l r s o ht h1 h2 ih1 ih2 =>
  intro L hL hg hs ha m
  obtain ⟨hs2, hp, hlt, _⟩ := hs.tail
  obtain ⟨s', hb, e1⟩ := ih1 L hL hg hs
  injection hb with hb
  subst hb
  have hsf := Rlk h1 _ _ rfl
  have hs3 := hs.trans hsf.1
  have hpl : plc L (t :: l) + 1 ≤ plc L r := by
   have h3 := hsf.2
   obtain ⟨p, hp2⟩ := hs
   have : L.length = p.length + (t :: l).length := by rw [hp2, Za]
   unfold plc; omega
  have e2 := ih2 L hL hg hs3 (by rw [Za]; simp only [Zc, Zn]; omega) true
  have st : ∀ v, Rac true (a ++ [s]) L (plc L r) false = some v → Rac m a L (plc L (t :: l)) false = some v := by
   intro v hv
   apply Rav
   simp only [Zx, Zt]
   rw [Ro (by simp) hL hs, show nd [125] (t :: l) = none from ndN ht, Qb]
   simp only [Zx, Zt]
   rw [e1, Qb]
   simp only [Rdn]
   rw [Rcd (by omega), Qb]
   exact hv
  cases o with
  | none => obtain ⟨x, p, e2⟩ := e2; exact ⟨x, p, st _ e2⟩
  | some q => obtain ⟨b, r'⟩ := q; obtain ⟨m', e2⟩ := e2; exact ⟨m', st _ e2⟩
 | @smp t l o h1 h2 h =>
  intro L hL hg hs
  rw [← h]
  exact Rvn hL hg hs (ndN h1) (ndN h2)
 | @ifN l h =>
  intro L hL hg hs
  have hs2 := hs.tail.1
  have e1 := Rgu hL hg hs2
  rw [h] at e1
  obtain ⟨x, p, e1⟩ := e1
  refine ⟨?_, p, ?_⟩
  rotate_left
  ·apply Rz
   rw [Ro (k := [105, 102]) (by simp) hL hs, show nd [105, 102] (kIf :: l) = some l from Rau _ _, Qb]
   simp only [Zt]
   rw [e1, Qb, Rri, Qb, Rha (by simp), Qb]
   rfl
 | @ifB l r e h hb ih =>
  intro L hL hg hs
  have hs2 := hs.tail.1
  have e1 := Rgu hL hg hs2
  rw [h] at e1
  have e1 : _ = _ := e1
  obtain ⟨x, p, e2⟩ := ih L hL hg (Rhx hs2 h)
  refine ⟨?_, p, ?_⟩
  rotate_left
  ·apply Rz
   rw [Ro (k := [105, 102]) (by simp) hL hs, show nd [105, 102] (kIf :: l) = some l from Rau _ _, Qb]
   simp only [Zt]
   rw [e1, Qb, e2, Qb, Rha (by simp), Qb]
   rfl
 | @if1 l r r2 e b h hb hn ih =>
  intro L hL hg hs
  have hs2 := hs.tail.1
  have e1 := Rgu hL hg hs2
  rw [h] at e1
  have e1 : _ = _ := e1
  have hs3 := Rhx hs2 h
  have e2 := ih L hL hg hs3
  have e2 : _ = _ := e2
  have hs4 := hs3.trans (Rlk hb _ _ rfl).1
  refine ⟨_, rfl, ?_⟩
  apply Rz
  rw [Ro (k := [105, 102]) (by simp) hL hs, show nd [105, 102] (kIf :: l) = some l from Rau _ _, Qb]
  simp only [Zt]
  rw [e1, Qb, e2, Qb, Ro (by simp) hL hs4, show nd [101, 108, 115, 101] r2 = none from hn, Qb]
  simp only [Zf, Rv]
 | @if2 l r r2 r3 e b c h hb hc ih ih2 =>
  intro L hL hg hs
  have hs2 := hs.tail.1
  have e1 := Rgu hL hg hs2
  rw [h] at e1
  have e1 : _ = _ := e1
  have hs3 := Rhx hs2 h
  have e2 := ih L hL hg hs3
  have e2 : _ = _ := e2
  have hs4 := hs3.trans (Rlk hb _ _ rfl).1
  have e3 := ih2 L hL hg hs4.tail.1
  have e3 : _ = _ := e3
  refine ⟨_, rfl, ?_⟩
  apply Rz
  rw [Ro (k := [105, 102]) (by simp) hL hs, show nd [105, 102] (kIf :: l) = some l from Rau _ _, Qb]
  simp only [Zt]
  rw [e1, Qb, e2, Qb, Ro (by simp) hL hs4, show nd [101, 108, 115, 101] (Rfm :: r2) = some r2 from Rau _ _, Qb]
  simp only [Zt]
  rw [e3, Qb]
  simp only [Rv]
 | @if3 l r r2 e b h hb hc ih ih2 =>
  intro L hL hg hs
  have hs2 := hs.tail.1
  have e1 := Rgu hL hg hs2
  rw [h] at e1
  have e1 : _ = _ := e1
  have hs3 := Rhx hs2 h
  have e2 := ih L hL hg hs3
  have e2 : _ = _ := e2
  have hs4 := hs3.trans (Rlk hb _ _ rfl).1
  obtain ⟨x, p, e3⟩ := ih2 L hL hg hs4.tail.1
  refine ⟨?_, p, ?_⟩
  rotate_left
  ·apply Rz
   rw [Ro (k := [105, 102]) (by simp) hL hs, show nd [105, 102] (kIf :: l) = some l from Rau _ _, Qb]
   simp only [Zt]
   rw [e1, Qb, e2, Qb, Ro (by simp) hL hs4, show nd [101, 108, 115, 101] (Rfm :: r2) = some r2 from Rau _ _, Qb]
   simp only [Zt]
   rw [e3, Qb]
 | @whN l h =>
  intro L hL hg hs
  have hs2 := hs.tail.1
  have e1 := Rgu hL hg hs2
  rw [h] at e1
  obtain ⟨x, p, e1⟩ := e1
  refine ⟨?_, p, ?_⟩
  rotate_left
  ·apply Rz
   rw [Ro (k := [105, 102]) (by simp) hL hs, show nd [105, 102] (Rcr :: l) = none from ndN (by decide), Qb]
   simp only [Zf]
   rw [Ro (k := [119, 104, 105, 108, 101]) (by simp) hL hs, show nd [119, 104, 105, 108, 101] (Rcr :: l) = some l from Rau _ _, Qb]
   simp only [Zt]
   rw [e1, Qb, Rri, Qb]
 | @whB l r e h hb ih =>
  intro L hL hg hs
  have hs2 := hs.tail.1
  have e1 := Rgu hL hg hs2
  rw [h] at e1
  have e1 : _ = _ := e1
  obtain ⟨x, p, e2⟩ := ih L hL hg (Rhx hs2 h)
  refine ⟨?_, p, ?_⟩
  rotate_left
  ·apply Rz
   rw [Ro (k := [105, 102]) (by simp) hL hs, show nd [105, 102] (Rcr :: l) = none from ndN (by decide), Qb]
   simp only [Zf]
   rw [Ro (k := [119, 104, 105, 108, 101]) (by simp) hL hs, show nd [119, 104, 105, 108, 101] (Rcr :: l) = some l from Rau _ _, Qb]
   simp only [Zt]
   rw [e1, Qb, e2, Qb]
 | @wh l r r2 e b h hb ih =>
  intro L hL hg hs
  have hs2 := hs.tail.1
  have e1 := Rgu hL hg hs2
  rw [h] at e1
  have e1 : _ = _ := e1
  have e2 := ih L hL hg (Rhx hs2 h)
  have e2 : _ = _ := e2
  refine ⟨_, rfl, ?_⟩
  apply Rz
  rw [Ro (k := [105, 102]) (by simp) hL hs, show nd [105, 102] (Rcr :: l) = none from ndN (by decide), Qb]
  simp only [Zf]
  rw [Ro (k := [119, 104, 105, 108, 101]) (by simp) hL hs, show nd [119, 104, 105, 108, 101] (Rcr :: l) = some l from Rau _ _, Qb]
  simp only [Zt]
  rw [e1, Qb, e2, Qb]
  simp only [Rv]
theorem Rzg {L : List Tok} (n : Nat) (k : Tok) : Ra L (n : Int) k = some (decide (L[n]? = some k)) := by
 apply Rmn
 have h0 : (0 : Int) ≤ (n : Int) := by omega
 simp only [h0, Zy, Zt]
 by_cases h : n < L.length
 ·have h1 : ((n : Int) < (L.length : Int)) := by omega
  simp only [h1, Zy, Zt, Rdk h, Qb, List.getElem?_eq_getElem h, Zi]
  congr 1
  by_cases hk : L[n] = k
  ·simp [hk]
  ·rw [beq_eq_false_iff_ne.mpr hk, Zq hk]
 ·have h1 : ¬ ((n : Int) < (L.length : Int)) := by omega
  simp only [h1, Zz, Zf, List.getElem?_eq_none (Nat.le_of_not_lt h)]
  rfl
theorem Rvb (L : List Tok) (k : Tok) : Ra L (-1) k = some false := by
 apply Rmn
 rfl
theorem Rvg {L : List Tok} (n : Nat) : Rr L (n : Int) = some (match L[n]? with | some t => numV t | none => -1) := by
 apply Rqz
 by_cases h : n < L.length
 ·have h1 : ¬ ((L.length : Int) ≤ (n : Int)) := by omega
  simp only [h1, Zz, Zf, Rdk h, Qb, List.getElem?_eq_getElem h, Rgl]
 ·have h1 : ((L.length : Int) ≤ (n : Int)) := by omega
  simp only [h1, Zy, Zt, List.getElem?_eq_none (Nat.le_of_not_lt h)]
theorem Suf.at {L l : List Tok} (h : Suf L l) (i : Nat) : L[plc L l + i]? = l[i]? := by
 obtain ⟨p, rfl⟩ := h
 have : plc (p ++ l) l = p.length := by unfold plc; rw [Za]; omega
 rw [this, List.getElem?_append_right (by omega)]
 congr 1; omega
theorem Rtz {L l : List Tok} (hL : L.length ≤ 20000) (h : Suf L l) : Rp L (plc L l) = some (match en l with | some (e, r) => (e, (plc L r : Int)) | none => (⟨0, 0, []⟩, -1)) := by
 apply Rqf
 have h1 : SA L (Ry L (plc L l) 1) (ex1 l) := Raap (Rua l) L hL h (Nat.le_refl 1) (by omega)
 unfold en
 cases hx : ex1 l with
 | none =>
  rw [hx] at h1
  obtain ⟨x, h1⟩ := h1
  rw [h1, Qb]
  simp only [Rvb, Qb, Zx, Zt, Option.bind_none]
 | some q =>
  obtain ⟨e, r⟩ := q
  rw [hx] at h1
  have h1 : _ = _ := h1
  have hs := Rhx h hx
  rw [h1, Qb]
  simp only [Option.bind_some]
  rw [Rzg, Qb, show L[plc L r]? = r[0]? from hs.at 0]
  cases r with
  | nil => rfl
  | cons t r =>
   obtain ⟨hs2, hp, hlt, _⟩ := hs.tail
   by_cases ht : t = kS
   ·subst ht
    simp only [List.getElem?_cons_zero, kS, Zy, Zv, Zf, nd, if_true, Option.map_some]
    rw [Rv, show ([59] : Tok) :: r = kS :: r from rfl, w1n (by omega), hp]
   ·have hk : ¬ (some t = some ([59] : Tok)) := by intro hh; injection hh with hh; exact ht hh
    simp only [List.getElem?_cons_zero, hk, Zz, Zx, Zt, nd, ht, if_false, Option.map_none]
def SS (L : List Tok) (f : Option (Stm × Int)) (o : GO) : Prop := match o with
 | some (b, r) => ∃ s, b = [s] ∧ f = some (s, (plc L r : Int))
 | none => ∃ x, f = some (x, -1)
def SB (L : List Tok) (f : Option (List Stm × Int)) (o : GO) : Prop := match o with
 | some (b, r) => f = some (b, (plc L r : Int))
 | none => ∃ x, f = some (x, -1)
def SLp (L : List Tok) (f : Option (List Tok × Int × (Bool × List Stm))) (o : GO) : Prop := match o with
 | some (b, r) => ∃ m, f = some (L, (plc L (kR :: r) : Int), (m, b)) ∧ Suf L (kR :: r)
 | none => ∃ p x, f = some (L, p, x) ∧ Ra L p [125] = some false
abbrev z0 : Stm := ⟨0, 0, 0, ⟨0, 0, []⟩, [], []⟩
noncomputable def Vt (a0 : List Tok) (a1 : Int) : Option (Stm × Int) :=
 bif (decide (a1 < (a0.length : Int))) then
  bnd (geti a0 a1) fun e21 =>
  bnd (Rc e21) fun r22 =>
  (bif (decide (0 ≤ r22)) then
  bnd (Ra a0 (wrap64 (a1 + 1)) [61]) fun r23 =>
  (bif r23 then
  bnd (Rp a0 (wrap64 (a1 + 2))) fun r24 =>
  bnd (geti a0 a1) fun e25 =>
  bnd (Rc e25) fun r26 =>
  some (⟨1, r26, 0, ⟨r24.1.op, r24.1.n, r24.1.args⟩, [], []⟩, r24.2)
  else
  some (⟨0, 0, 0, ⟨0, 0, []⟩, [], []⟩, (-1)))
  else
  some (⟨0, 0, 0, ⟨0, 0, []⟩, [], []⟩, (-1)))
 else some (⟨0, 0, 0, ⟨0, 0, []⟩, [], []⟩, (-1))
noncomputable def Rt (a0 : List Tok) (a1 : Int) : Option (Stm × Int) :=
 bnd (Ra a0 a1 ([114, 101, 99, 118])) fun r13 =>
 (bif r13 then
 bnd (Rr a0 (wrap64 (a1 + 1))) fun r14 =>
 (bif (decide (0 ≤ r14)) then
 bnd (Ra a0 (wrap64 (a1 + 3)) [59]) fun r15 =>
 (bif r15 then
 bnd (geti a0 (wrap64 (a1 + 2))) fun e16 =>
 bnd (Rc e16) fun r17 =>
 (bif (decide (r17 < 0)) then
 some (⟨0, 0, 0, ⟨0, 0, []⟩, [], []⟩, (-1))
 else
 bnd (Rr a0 (wrap64 (a1 + 1))) fun r18 =>
 bnd (geti a0 (wrap64 (a1 + 2))) fun e19 =>
 bnd (Rc e19) fun r20 =>
 some (⟨5, r20, r18, ⟨0, 0, []⟩, [], []⟩, (wrap64 (a1 + 4))))
 else Vt a0 a1)
 else Vt a0 a1)
 else Vt a0 a1)
noncomputable def St (a0 : List Tok) (a1 : Int) : Option (Stm × Int) :=
 bnd (Ra a0 a1 ([115, 101, 110, 100])) fun r9 =>
 (bif r9 then
 bnd (Rr a0 (wrap64 (a1 + 1))) fun r10 =>
 (bif (decide (0 ≤ r10)) then
 bnd (Rp a0 (wrap64 (a1 + 2))) fun r11 =>
 bnd (Rr a0 (wrap64 (a1 + 1))) fun r12 =>
 some (⟨4, 0, r12, ⟨r11.1.op, r11.1.n, r11.1.args⟩, [], []⟩, r11.2)
 else Rt a0 a1)
 else Rt a0 a1)
noncomputable def Pt (a0 : List Tok) (a1 : Int) : Option (Stm × Int) :=
 bnd (Ra a0 a1 ([112, 114, 105, 110, 116])) fun r7 =>
 (bif r7 then
 bnd (Rp a0 (wrap64 (a1 + 1))) fun r8 =>
 some (⟨7, 0, 0, ⟨r8.1.op, r8.1.n, r8.1.args⟩, [], []⟩, r8.2)
 else St a0 a1)
noncomputable def Yt (a0 : List Tok) (a1 : Int) : Option (Stm × Int) :=
 bnd (Ra a0 a1 ([121, 105, 101, 108, 100])) fun r5 =>
 (bif r5 then
 bnd (Ra a0 (wrap64 (a1 + 1)) [59]) fun r6 =>
 (bif r6 then
 some (⟨6, 0, 0, ⟨0, 0, []⟩, [], []⟩, (wrap64 (a1 + 2)))
 else Pt a0 a1)
 else Pt a0 a1)
noncomputable def Ot (a0 : List Tok) (a1 : Int) : Option (Stm × Int) :=
 bnd (Ra a0 a1 ([105, 102])) fun r1 =>
 (bif r1 then
 bnd (Ral a0 (wrap64 (a1 + 1)) 2) fun r2 =>
 some (⟨r2.1.kind, r2.1.var, r2.1.box, ⟨r2.1.e.op, r2.1.e.n, r2.1.e.args⟩, r2.1.body, r2.1.els⟩, r2.2)
 else
 bnd (Ra a0 a1 ([119, 104, 105, 108, 101])) fun r3 =>
 (bif r3 then
 bnd (Ral a0 (wrap64 (a1 + 1)) 3) fun r4 =>
 some (⟨r4.1.kind, r4.1.var, r4.1.box, ⟨r4.1.e.op, r4.1.e.n, r4.1.e.args⟩, r4.1.body, r4.1.els⟩, r4.2)
 else Yt a0 a1))
theorem Rvj {a0 : List Tok} {a1 : Int} {v : Stm × Int} (h : Ot a0 a1 = some v) : Rds a0 a1 = some v := Rra a0 a1 v h
theorem is_at {L : List Tok} {l : List Tok} {t : Tok} (h : Suf L (t :: l)) (k : Tok) : Ra L (plc L (t :: l) : Int) k = some (decide (t = k)) := by
 rw [Rzg, show L[plc L (t :: l)]? = some t from h.at 0]
 simp only [Zi]
theorem Rhz {L : List Tok} {l : List Tok} {t : Tok} (h : Suf L (t :: l)) : Ra L (plc L (t :: l) : Int) t = some true := by rw [is_at h, Zp rfl]
theorem Ruc {L : List Tok} {l : List Tok} {t : Tok} (h : Suf L (t :: l)) {k : Tok} (hk : t ≠ k) : Ra L (plc L (t :: l) : Int) k = some false := by rw [is_at h, Zq hk]
theorem Rpt {L : List Tok} {l : List Tok} (h : Suf L l) (k : Tok) : Ra L (plc L l : Int) k = some (nd k l).isSome := by
 rw [Rzg, show L[plc L l]? = l[0]? from h.at 0]
 cases l with
 | nil => rfl
 | cons t l =>
  by_cases ht : t = k
  ·subst ht; rw [Rau]; simp
  ·rw [ndN ht]; simp [ht]
theorem Rpz (L : List Tok) : Rr L (plc L [] : Int) = some (-1) := by
 rw [Rvg, Req, List.getElem?_eq_none (Nat.le_refl _)]
theorem Rkh {L : List Tok} {l : List Tok} {t : Tok} (h : Suf L (t :: l)) : Rr L (plc L (t :: l) : Int) = some (numV t) := by
 rw [Rvg, show L[plc L (t :: l)]? = some t from h.at 0]
theorem at1 {L : List Tok} {l : List Tok} {t : Tok} (hL : L.length ≤ 20000) (h : Suf L (t :: l)) : wrap64 ((plc L (t :: l) : Int) + 1) = (plc L l : Int) := by
 obtain ⟨hs2, hp, hlt, hg⟩ := h.tail
 rw [wrap_id (by omega) (by omega)]; omega
theorem at2 {L : List Tok} {l : List Tok} {t : Tok} {u : Tok} (hL : L.length ≤ 20000) (h : Suf L (t :: u :: l)) : wrap64 ((plc L (t :: u :: l) : Int) + 2) = (plc L l : Int) := by
 obtain ⟨hs2, hp, hlt, hg⟩ := h.tail
 obtain ⟨hs3, hp3, hlt3, hg3⟩ := hs2.tail
 rw [wrap_id (by omega) (by omega)]; omega
theorem at3 {L : List Tok} {l : List Tok} {t : Tok} {u w : Tok} (hL : L.length ≤ 20000) (h : Suf L (t :: u :: w :: l)) : wrap64 ((plc L (t :: u :: w :: l) : Int) + 3) = (plc L l : Int) := by
 obtain ⟨hs2, hp, hlt, hg⟩ := h.tail
 obtain ⟨hs3, hp3, hlt3, hg3⟩ := hs2.tail
 obtain ⟨hs4, hp4, hlt4, hg4⟩ := hs3.tail
 rw [wrap_id (by omega) (by omega)]; omega
theorem is3_no {L : List Tok} {l : List Tok} {t : Tok} (hL : L.length ≤ 20000) (h : Suf L (t :: l)) {k : Tok} (hn : l.length ≤ 2) : Ra L (wrap64 ((plc L (t :: l) : Int) + 3)) k = some false := by
 obtain ⟨hs2, hp, hlt, hg⟩ := h.tail
 have := h.at 3
 rw [show wrap64 ((plc L (t :: l) : Int) + 3) = ((plc L (t :: l) + 3 : Nat) : Int) by rw [wrap_id (by omega) (by omega)]; omega, Rzg, this, List.getElem?_eq_none (by simp only [Zc]; omega)]
 simp
theorem Rpk {L : List Tok} {l : List Tok} {t : Tok} (h : Suf L (t :: l)) (hv : ¬ 0 ≤ varV t) : Vt L (plc L (t :: l)) = some (z0, -1) := by
 obtain ⟨hs2, hp, hlt, hg⟩ := h.tail
 have hn : ((plc L (t :: l) : Int) < (L.length : Int)) := by omega
 unfold Vt
 rw [Zp hn, Zt, hg, Qb, Rcn, Qb, Zq hv, Zf]
theorem Vt_no {L : List Tok} {l : List Tok} {t : Tok} (hL : L.length ≤ 20000) (h : Suf L (t :: l)) (he : nd kE l = none) : Vt L (plc L (t :: l)) = some (z0, -1) := by
 by_cases hv : 0 ≤ varV t
 ·obtain ⟨hs2, hp, hlt, hg⟩ := h.tail
  have hn : ((plc L (t :: l) : Int) < (L.length : Int)) := by omega
  unfold Vt
  rw [Zp hn, Zt, hg, Qb, Rcn, Qb, Zp hv, Zt, at1 hL h, Rpt hs2, show nd [61] l = none from he, Qb]
  rfl
 ·exact Rpk h hv
theorem Vt_set {L : List Tok} {l : List Tok} {t : Tok} (hL : L.length ≤ 20000) (h : Suf L (t :: kE :: l)) (hv : 0 ≤ varV t) : Vt L (plc L (t :: kE :: l)) = some (match en l with | some (e, r) => (⟨1, varV t, 0, e, [], []⟩, (plc L r : Int)) | none => (⟨1, varV t, 0, ⟨0, 0, []⟩, [], []⟩, -1)) := by
 obtain ⟨hs2, hp, hlt, hg⟩ := h.tail
 have hn : ((plc L (t :: kE :: l) : Int) < (L.length : Int)) := by omega
 unfold Vt
 rw [Zp hn, Zt, hg, Qb, Rcn, Qb, Zp hv, Zt, at1 hL h, show Ra L (plc L (kE :: l) : Int) [61] = some true from Rhz hs2, Qb, Zt, at2 hL h, Rtz hL hs2.tail.1, Qb, Qb, Rcn, Qb]
 cases en l with
 | none => rfl
 | some q => simp only [Rv]
theorem Rsf {L : List Tok} {l : List Tok} {t : Tok} (h : Suf L (t :: l)) (hk : t ≠ Rjr) : Rt L (plc L (t :: l)) = Vt L (plc L (t :: l)) := by
 unfold Rt
 rw [show Ra L (plc L (t :: l) : Int) [114, 101, 99, 118] = some false from Ruc h hk, Qb, Zf]
theorem Ruj {L : List Tok} {l : List Tok} {t : Tok} (h : Suf L (t :: l)) (hk : t ≠ Rin) : St L (plc L (t :: l)) = Rt L (plc L (t :: l)) := by
 unfold St
 rw [show Ra L (plc L (t :: l) : Int) [115, 101, 110, 100] = some false from Ruc h hk, Qb, Zf]
theorem Rui {L : List Tok} {l : List Tok} {t : Tok} (h : Suf L (t :: l)) (hk : t ≠ Rga) : Pt L (plc L (t :: l)) = St L (plc L (t :: l)) := by
 unfold Pt
 rw [show Ra L (plc L (t :: l) : Int) [112, 114, 105, 110, 116] = some false from Ruc h hk, Qb, Zf]
theorem Rza {L : List Tok} {l : List Tok} {t : Tok} (h : Suf L (t :: l)) (hk : t ≠ Rgq) : Yt L (plc L (t :: l)) = Pt L (plc L (t :: l)) := by
 unfold Yt
 rw [show Ra L (plc L (t :: l) : Int) [121, 105, 101, 108, 100] = some false from Ruc h hk, Qb, Zf]
theorem Ryy {L : List Tok} {l : List Tok} {t : Tok} (h : Suf L (t :: l)) (h1 : t ≠ kIf) (h2 : t ≠ Rcr) : Ot L (plc L (t :: l)) = Yt L (plc L (t :: l)) := by
 unfold Ot
 rw [show Ra L (plc L (t :: l) : Int) [105, 102] = some false from Ruc h h1, Qb, Zf, show Ra L (plc L (t :: l) : Int) [119, 104, 105, 108, 101] = some false from Ruc h h2, Qb, Zf]
theorem SS_of {L : List Tok} {l : List Tok} {t : Tok} {f : Option (Stm × Int)} {o : GO} (h : SS L (Ot L (plc L (t :: l))) o) : SS L (Rds L (plc L (t :: l))) o := by
 cases o with
 | none => obtain ⟨x, h⟩ := h; exact ⟨x, Rvj h⟩
 | some q => obtain ⟨b, r⟩ := q; obtain ⟨s, hb, h⟩ := h; exact ⟨s, hb, Rvj h⟩
theorem one_smp {L : List Tok} {l : List Tok} {t : Tok} (hL : L.length ≤ 20000) (h : Suf L (t :: l)) (h1 : t ≠ kIf) (h2 : t ≠ Rcr) : SS L (Rds L (plc L (t :: l))) (smp (t :: l)) := by
 refine SS_of (f := none) ?_
 obtain ⟨hs2, hp, hlt, hg⟩ := h.tail
 rw [Ryy h h1 h2]
 by_cases k3 : t = Rgq
 ·have hsm : smp (t :: l) = (nd kS l).map fun r => ([⟨6, 0, 0, ⟨0, 0, []⟩, [], []⟩], r) := by
   simp only [smp, k3, if_true]
   rw [if_neg (by decide), if_neg (by decide)]
  rw [hsm]
  have e1 : Yt L (plc L (t :: l)) = bif (nd kS l).isSome then some (⟨6, 0, 0, ⟨0, 0, []⟩, [], []⟩, wrap64 ((plc L (t :: l) : Int) + 2)) else Pt L (plc L (t :: l)) := by
   unfold Yt
   rw [show ([121, 105, 101, 108, 100] : Tok) = t from k3.symm, Rhz h, Qb, Zt, at1 hL h, Rpt hs2, Qb]
   rfl
  rw [e1]
  cases hn : nd kS l with
  | none =>
   simp only [Option.isSome_none, Zf]
   rw [Rui h (by rw [k3]; decide), Ruj h (by rw [k3]; decide), Rsf h (by rw [k3]; decide)]
   exact ⟨_, Rpk h (by rw [k3]; decide)⟩
  | some r =>
   have := Rdq hn
   subst this
   refine ⟨_, rfl, ?_⟩
   simp only [Option.isSome_some, Zt]
   rw [at2 hL h]
 ·rw [Rza h k3]
  by_cases k4 : t = Rga
  ·have hsm : smp (t :: l) = (en l).map fun q => ([⟨7, 0, 0, q.1, [], []⟩], q.2) := by
    simp only [smp, k4, if_true]
    rw [if_neg (by decide), if_neg (by decide), if_neg (by decide)]
   rw [hsm]
   unfold Pt
   rw [show ([112, 114, 105, 110, 116] : Tok) = t from k4.symm, Rhz h, Qb, Zt, at1 hL h, Rtz hL hs2, Qb]
   cases en l with
   | none => exact ⟨_, rfl⟩
   | some q => exact ⟨_, rfl, by simp only [Rv]⟩
  ·rw [Rui h k4]
   by_cases k5 : t = Rin
   ·have hsm : smp (t :: l) = (nu l).bind fun p => (en p.2).map fun q => ([⟨4, 0, p.1, q.1, [], []⟩], q.2) := by
     simp only [smp, k5, if_true]
    rw [hsm]
    have bad : Rt L (plc L (t :: l)) = some (z0, -1) := by rw [Rsf h (by rw [k5]; decide)]; exact Rpk h (by rw [k5]; decide)
    unfold St
    rw [show ([115, 101, 110, 100] : Tok) = t from k5.symm, Rhz h, Qb, Zt, at1 hL h]
    cases l with
    | nil =>
     rw [Rpz, Qb]
     exact ⟨_, bad⟩
    | cons u l =>
     rw [Rkh hs2, Qb]
     by_cases hu : 0 ≤ numV u
     ·rw [Zp hu, Zt, at2 hL h, Rtz hL hs2.tail.1, Qb, Qb, Rlc hu]
      simp only [Option.bind_some]
      cases en l with
      | none => exact ⟨_, rfl⟩
      | some q => exact ⟨_, rfl, by simp only [Rv]⟩
     ·have : nu (u :: l) = none := by simp only [nu, hu, if_false]
      rw [this, Zq hu, Zf]
      exact ⟨_, bad⟩
   ·rw [Ruj h k5]
    by_cases k6 : t = Rjr
    ·have hsm : smp (t :: l) = (nu l).bind fun p => (va p.2).bind fun q => (nd kS q.2).map fun r => ([⟨5, q.1, p.1, ⟨0, 0, []⟩, [], []⟩], r) := by
      simp only [smp, k6, if_true]
      rw [if_neg (by decide)]
     rw [hsm]
     have bad : Vt L (plc L (t :: l)) = some (z0, -1) := Rpk h (by rw [k6]; decide)
     unfold Rt
     rw [show ([114, 101, 99, 118] : Tok) = t from k6.symm, Rhz h, Qb, Zt, at1 hL h]
     cases l with
     | nil =>
      rw [Rpz, Qb]
      exact ⟨_, bad⟩
     | cons u l =>
      rw [Rkh hs2, Qb]
      by_cases hu : 0 ≤ numV u
      ·rw [Zp hu, Zt, Rlc hu]
       simp only [Option.bind_some]
       cases l with
       | nil =>
        rw [is3_no hL h (by simp), Qb, Zf]
        exact ⟨_, bad⟩
       | cons w l =>
        rw [at2 hL h]
        cases hn : nd kS l with
        | none =>
         have hi : Ra L (wrap64 ((plc L (t :: u :: w :: l) : Int) + 3)) [59] = some false := by
          rw [at3 hL h, Rpt hs2.tail.1.tail.1, show nd [59] l = none from hn]; rfl
         have hb : (va (w :: l)).bind (fun q => (nd kS q.2).map fun r => (([⟨5, q.1, numV u, ⟨0, 0, []⟩, [], []⟩] : List Stm), r)) = none := by
          by_cases hw : 0 ≤ varV w
          ·rw [Rqr hw, Option.bind_some, hn]; rfl
          ·simp only [va, hw, if_false]; rfl
         rw [hi, Qb, Zf, hb]
         exact ⟨_, bad⟩
        | some r =>
         have := Rdq hn
         subst this
         have hi : Ra L (wrap64 ((plc L (t :: u :: w :: kS :: r) : Int) + 3)) [59] = some true := by
          rw [at3 hL h, Rpt hs2.tail.1.tail.1, show nd [59] (kS :: r) = some r from Rau _ _]; rfl
         obtain ⟨hs4, hp4, hlt4, hg4⟩ := hs2.tail.1.tail
         obtain ⟨hs5, hp5, hlt5, hg5⟩ := hs4.tail
         rw [hi, Qb, Zt, hg4, Qb, Rcn, Qb]
         by_cases hw : 0 ≤ varV w
         ·rw [Zq (show ¬ varV w < 0 by omega), Zf, Qb, Qb, Rcn, Qb, Rqr hw]
          simp only [Option.bind_some, Rau, Option.map_some]
          refine ⟨_, rfl, ?_⟩
          rw [show wrap64 ((plc L (t :: u :: w :: kS :: r) : Int) + 4) = (plc L r : Int) by
           obtain ⟨_, q1, _, _⟩ := h.tail
           obtain ⟨_, q2, _, _⟩ := hs2.tail
           rw [wrap_id (by omega) (by omega)]; omega]
         ·have : va (w :: kS :: r) = none := by simp only [va, hw, if_false]
          rw [Zp (show varV w < 0 by omega), Zt, this]
          exact ⟨_, rfl⟩
      ·have : nu (u :: l) = none := by simp only [nu, hu, if_false]
       rw [this, Zq hu, Zf]
       exact ⟨_, bad⟩
    ·rw [Rsf h k6]
     have hsm : smp (t :: l) = (va (t :: l)).bind fun p => (nd kE p.2).bind fun r => (en r).map fun q => ([⟨1, p.1, 0, q.1, [], []⟩], q.2) := by
      simp only [smp]
      rw [if_neg k5, if_neg k6, if_neg k3, if_neg k4]
     rw [hsm]
     by_cases hv : 0 ≤ varV t
     ·rw [Rqr hv]
      simp only [Option.bind_some]
      cases hn : nd kE l with
      | none => exact ⟨_, Vt_no hL h hn⟩
      | some r =>
       have := Rdq hn
       subst this
       rw [Vt_set hL h hv]
       simp only [Option.bind_some]
       cases en r with
       | none => exact ⟨_, rfl⟩
       | some q => exact ⟨_, rfl, rfl⟩
     ·have : va (t :: l) = none := by simp only [va, hv, if_false]
      rw [this]
      exact ⟨_, Rpk h hv⟩
theorem Rma {L l : List Tok} (hL : L.length ≤ 20000) (h : Suf L l) : SA L (Ry L (plc L l) 1) (ex1 l) := Raap (Rua l) L hL h (Nat.le_refl 1) (by omega)
theorem Rxf (L : List Tok) (m : Bool) (a : List Stm) : Rbg L (-1) m a = some (L, -1, (m, a)) := by
 apply Rck
 rfl
theorem Rto {L l : List Tok} {s : Stm} {p : Int} (hL : L.length ≤ 20000) (h : Suf L (kIf :: l)) (hb : Ral L (plc L l) 2 = some (s, p)) : Rds L (plc L (kIf :: l)) = some (s, p) := by
 apply Rvj
 unfold Ot
 rw [show Ra L (plc L (kIf :: l) : Int) [105, 102] = some true from Rhz h, Qb, Zt, at1 hL h, hb, Qb]
 simp only [Rdn]
theorem Rqa {L l : List Tok} {s : Stm} {p : Int} (hL : L.length ≤ 20000) (h : Suf L (Rcr :: l)) (hb : Ral L (plc L l) 3 = some (s, p)) : Rds L (plc L (Rcr :: l)) = some (s, p) := by
 apply Rvj
 unfold Ot
 rw [show Ra L (plc L (Rcr :: l) : Int) [105, 102] = some false from Ruc h (by decide), Qb, Zf, show Ra L (plc L (Rcr :: l) : Int) [119, 104, 105, 108, 101] = some true from Rhz h, Qb, Zt, at1 hL h, hb, Qb]
 simp only [Rdn]
theorem Rwg {L l : List Tok} {k : Int} (hL : L.length ≤ 20000) (h : Suf L l) (hx : ex1 l = none) : Ral L (plc L l) k = some (z0, -1) := by
 have h1 := Rma hL h
 rw [hx] at h1
 obtain ⟨x, h1⟩ := h1
 apply Rcz
 rw [h1, Qb]
 rfl
theorem Raae {L l r : List Tok} {k : Int} {e : Exp} {b : List Stm} (hL : L.length ≤ 20000) (h : Suf L l) (hx : ex1 l = some (e, r)) (hb : Rbf L (plc L r) = some (b, -1)) : ∃ s, Ral L (plc L l) k = some (s, -1) := by
 have h1 := Rma hL h
 rw [hx] at h1
 have h1 : _ = _ := h1
 refine ⟨⟨k, 0, 0, e, b, []⟩, ?_⟩
 apply Rcz
 have hn : ¬ ((plc L r : Int) < 0) := by omega
 rw [h1, Qb]
 dsimp only
 rw [Zq hn, Zf, hb, Qb]
 dsimp only
 rw [Rvb, Qb]
 simp only [Rv]
 cases decide (k = 2) <;> rfl
theorem Rze {L l r r2 : List Tok} {e : Exp} {b : List Stm} (hL : L.length ≤ 20000) (h : Suf L l) (hx : ex1 l = some (e, r)) (hb : Rbf L (plc L r) = some (b, (plc L r2 : Int))) : Ral L (plc L l) 3 = some (⟨3, 0, 0, e, b, []⟩, (plc L r2 : Int)) := by
 have h1 := Rma hL h
 rw [hx] at h1
 have h1 : _ = _ := h1
 apply Rcz
 have hn : ¬ ((plc L r : Int) < 0) := by omega
 rw [h1, Qb]
 dsimp only
 rw [Zq hn, Zf, hb, Qb, show decide ((3 : Int) = 2) = false from by decide, Zf]
 simp only [Rv]
theorem br_if1 {L l r r2 : List Tok} {e : Exp} {b : List Stm} (hL : L.length ≤ 20000) (h : Suf L l) (hx : ex1 l = some (e, r)) (hs : Suf L r2) (hb : Rbf L (plc L r) = some (b, (plc L r2 : Int))) (hn2 : nd Rfm r2 = none) : Ral L (plc L l) 2 = some (⟨2, 0, 0, e, b, []⟩, (plc L r2 : Int)) := by
 have h1 := Rma hL h
 rw [hx] at h1
 have h1 : _ = _ := h1
 apply Rcz
 have hn : ¬ ((plc L r : Int) < 0) := by omega
 rw [h1, Qb]
 dsimp only
 rw [Zq hn, Zf, hb, Qb, show decide ((2 : Int) = 2) = true from by decide, Zt]
 dsimp only
 rw [Rpt hs, show nd [101, 108, 115, 101] r2 = none from hn2, Qb]
 simp only [Option.isSome_none, Zf, Rv]
theorem Raaf {L l r r2 : List Tok} {e : Exp} {b c : List Stm} {p : Int} (hL : L.length ≤ 20000) (h : Suf L l) (hx : ex1 l = some (e, r)) (hs : Suf L (Rfm :: r2)) (hb : Rbf L (plc L r) = some (b, (plc L (Rfm :: r2) : Int))) (hc : Rbf L (plc L r2) = some (c, p)) : Ral L (plc L l) 2 = some (⟨2, 0, 0, e, b, c⟩, p) := by
 have h1 := Rma hL h
 rw [hx] at h1
 have h1 : _ = _ := h1
 apply Rcz
 have hn : ¬ ((plc L r : Int) < 0) := by omega
 rw [h1, Qb]
 dsimp only
 rw [Zq hn, Zf, hb, Qb, show decide ((2 : Int) = 2) = true from by decide, Zt]
 dsimp only
 rw [Rpt hs, show nd [101, 108, 115, 101] (Rfm :: r2) = some r2 from Rau _ _, Qb]
 simp only [Option.isSome_some, Zt]
 rw [at1 hL hs, hc, Qb]
 simp only [Rv]
theorem Raao : ∀ {j : K} {l : List Tok} {o : GO}, G j l o → ∀ L : List Tok, L.length ≤ 20000 → Suf L l → match j with
  | .st => SS L (Rds L (plc L l)) o
  | .bk => SB L (Rbf L (plc L l)) o
  | .lp a => a.length ≤ plc L l → ∀ m, SLp L (Rbg L (plc L l) m a) o := by
 intro j l o h
 induction h with
 | @bk0 l h =>
  intro L hL hs
  refine ⟨[], ?_⟩
  apply Rjx
  rw [Rpt hs, show nd [123] l = none from h, Qb]
  rfl
 | @bk l o h ih =>
  intro L hL hs
  have h1 := ih L hL hs.tail.1 (Nat.zero_le _) true
  have st : ∀ v, (bnd (Rbg L (plc L l) true []) fun r2 => bnd (Ra r2.1 r2.2.1 [125]) fun r3 => bif (!r3) then some (([] : List Stm), (-1)) else some (r2.2.2.2, (wrap64 (r2.2.1 + 1)))) = some v → Rbf L (plc L (kL :: l)) = some v := by
   intro v hv
   apply Rjx
   rw [show Ra L (plc L (kL :: l) : Int) [123] = some true from Rhz hs, Qb]
   simp only [Zv, Zf]
   rw [at1 hL hs]
   exact hv
  cases o with
  | none =>
   obtain ⟨p, x, h1, h2⟩ := h1
   exact ⟨[], st _ (by rw [h1, Qb, h2, Qb]; rfl)⟩
  | some q =>
   obtain ⟨b, r⟩ := q
   obtain ⟨m, h1, h2⟩ := h1
   refine st _ ?_
   rw [h1, Qb]
   dsimp only
   rw [show Ra L (plc L (kR :: r) : Int) [125] = some true from Rhz h2, Qb]
   simp only [Zv, Zf]
   rw [at1 hL h2]
 | @lpE a =>
  intro L hL hs ha m
  refine ⟨(plc L [] : Int), (m, a), ?_, ?_⟩
  ·apply Rck
   have h1 : ¬ ((plc L [] : Int) < (L.length : Int)) := by rw [Req]; omega
   rw [Zp (show (0 : Int) ≤ (plc L [] : Int) by omega), Zt, Zq h1, Zf]
  ·rw [Rpt hs]; rfl
 | @lpS a l =>
  intro L hL hs ha m
  obtain ⟨hs2, hp, hlt, hg⟩ := hs.tail
  refine ⟨m, ?_, hs⟩
  apply Rck
  have h1 : ((plc L (kR :: l) : Int) < (L.length : Int)) := by omega
  rw [Zp (show (0 : Int) ≤ (plc L (kR :: l) : Int) by omega), Zt, Zp h1, Zt, hg, Qb]
  rfl
 | @lpN a t l ht h ih =>
  intro L hL hs ha m
  obtain ⟨hs2, hp, hlt, hg⟩ := hs.tail
  obtain ⟨x, e1⟩ := ih L hL hs
  refine ⟨-1, (true, a ++ [x]), ?_, Rvb _ _⟩
  apply Rck
  have h1 : ((plc L (t :: l) : Int) < (L.length : Int)) := by omega
  have hb : (t == ([125] : Tok)) = false := by rw [beq_eq_false_iff_ne]; exact ht
  rw [Zp (show (0 : Int) ≤ (plc L (t :: l) : Int) by omega), Zt, Zp h1, Zt, hg, Qb, hb]
  simp only [Zx, Zt]
  rw [e1, Qb]
  simp only [Rdn]
  rw [Rcd (by omega), Qb, Rxf]
 | @lpC a t l r s o ht h1 h2 ih1 ih2 =>
  intro L hL hs ha m
  obtain ⟨hs2, hp, hlt, hg⟩ := hs.tail
  obtain ⟨s', hb, e1⟩ := ih1 L hL hs
  injection hb with hb
  subst hb
  have hsf := Rlk h1 _ _ rfl
  have hs3 := hs.trans hsf.1
  have hpl : plc L (t :: l) + 1 ≤ plc L r := by
   have h3 := hsf.2
   obtain ⟨p, hp2⟩ := hs
   have : L.length = p.length + (t :: l).length := by rw [hp2, Za]
   unfold plc; omega
  have e2 := ih2 L hL hs3 (by rw [Za]; simp only [Zc, Zn]; omega) true
  have h1 : ((plc L (t :: l) : Int) < (L.length : Int)) := by omega
  have hb : (t == ([125] : Tok)) = false := by rw [beq_eq_false_iff_ne]; exact ht
  have st : ∀ v, Rbg L (plc L r) true (a ++ [s]) = some v → Rbg L (plc L (t :: l)) m a = some v := by
   intro v hv
   apply Rck
   rw [Zp (show (0 : Int) ≤ (plc L (t :: l) : Int) by omega), Zt, Zp h1, Zt, hg, Qb, hb]
   simp only [Zx, Zt]
   rw [e1, Qb]
   simp only [Rdn]
   rw [Rcd (by omega), Qb]
   exact hv
  cases o with
  | none => obtain ⟨p, x, e2, e3⟩ := e2; exact ⟨p, x, st _ e2, e3⟩
  | some q => obtain ⟨b, r'⟩ := q; obtain ⟨m', e2, e3⟩ := e2; exact ⟨m', st _ e2, e3⟩
 | @smp t l o h1 h2 h =>
  intro L hL hs
  rw [← h]
  exact one_smp hL hs h1 h2
 | @ifN l h =>
  intro L hL hs
  exact ⟨_, Rto hL hs (Rwg hL hs.tail.1 h)⟩
 | @ifB l r e h hb ih =>
  intro L hL hs
  obtain ⟨x, e2⟩ := ih L hL (Rhx hs.tail.1 h)
  obtain ⟨s, e3⟩ := Raae (k := 2) hL hs.tail.1 h e2
  exact ⟨s, Rto hL hs e3⟩
 | @if1 l r r2 e b h hb hn ih =>
  intro L hL hs
  have hs3 := Rhx hs.tail.1 h
  have e2 := ih L hL hs3
  exact ⟨_, rfl, Rto hL hs (br_if1 hL hs.tail.1 h (hs3.trans (Rlk hb _ _ rfl).1) e2 hn)⟩
 | @if2 l r r2 r3 e b c h hb hc ih ih2 =>
  intro L hL hs
  have hs3 := Rhx hs.tail.1 h
  have e2 := ih L hL hs3
  have hs4 := hs3.trans (Rlk hb _ _ rfl).1
  have e3 := ih2 L hL hs4.tail.1
  exact ⟨_, rfl, Rto hL hs (Raaf hL hs.tail.1 h hs4 e2 e3)⟩
 | @if3 l r r2 e b h hb hc ih ih2 =>
  intro L hL hs
  have hs3 := Rhx hs.tail.1 h
  have e2 := ih L hL hs3
  have hs4 := hs3.trans (Rlk hb _ _ rfl).1
  obtain ⟨x, e3⟩ := ih2 L hL hs4.tail.1
  exact ⟨_, Rto hL hs (Raaf hL hs.tail.1 h hs4 e2 e3)⟩
 | @whN l h =>
  intro L hL hs
  exact ⟨_, Rqa hL hs (Rwg hL hs.tail.1 h)⟩
 | @whB l r e h hb ih =>
  intro L hL hs
  obtain ⟨x, e2⟩ := ih L hL (Rhx hs.tail.1 h)
  obtain ⟨s, e3⟩ := Raae (k := 3) hL hs.tail.1 h e2
  exact ⟨s, Rqa hL hs e3⟩
 | @wh l r r2 e b h hb ih =>
  intro L hL hs
  exact ⟨_, rfl, Rqa hL hs (Rze hL hs.tail.1 h (ih L hL (Rhx hs.tail.1 h)))⟩
theorem Rux (o n : Int) (as : List Exp) : emX ⟨o, n, as⟩ = emXs as := by rw [Rlp]
theorem Rzb {t : Tok} {e : Exp} (h : atom t = some e) : emX e = 0 := by
 by_cases h0 : 0 ≤ numV t
 ·rw [Rpg h h0]; rfl
 ·rw [(Rll h h0).2]; rfl
theorem P_sz : ∀ {j : J} {l : List Tok} {o : Out}, P j l o → ∀ e r, o = some (e, r) → match j with
  | .loop _ e0 => emX e + 2 * r.length ≤ emX e0 + 2 * l.length
  | _ => emX e + 2 * r.length + 2 ≤ 2 * l.length := by
 intro j l o h
 induction h with
 | nil => intro e r ho; cases ho
 | atom h1 h2 => intro e r ho; injection ho with ho; injection ho with a b; subst a b; have := Rzb h2; simp only [Zc]; omega
 | bad _ _ => intro e r ho; cases ho
 | par h ih => intro e r ho; injection ho with ho; injection ho with a b; subst a b; have := ih _ _ rfl; simp only [Zc] at *; omega
 | parN _ _ => intro e r ho; cases ho
 | parE _ _ => intro e r ho; cases ho
 | parB _ _ _ => intro e r ho; cases ho
 | top hk h ih => intro e r ho; exact ih e r ho
 | levN hk h ih => intro e r ho; cases ho
 | levS hk h1 h2 ih1 ih2 =>
  intro e r ho
  have a := ih1 _ _ rfl
  have b := ih2 e r ho
  simp only at *; omega
 | stop hn => intro e r ho; injection ho with ho; injection ho with a b; subst a b; exact Nat.le_refl _
 | step hl h1 h2 ih1 ih2 =>
  intro e r ho
  have a := ih1 _ _ rfl
  have b := ih2 e r ho
  simp only [Rux, Rsm, Zc] at *; omega
 | stepN hl h ih => intro e r ho; cases ho
theorem Rvs {l r : List Tok} {e : Exp} (h : ex1 l = some (e, r)) : emX e + 2 * r.length + 2 ≤ 2 * l.length := P_sz (h ▸ Rua l) e r rfl
theorem Ria (k v b : Int) (e : Exp) (bd el : List Stm) : mSs [⟨k, v, b, e, bd, el⟩] = 1 + emX e + mSs bd + mSs el := by
 cases e
 rw [mSs_one, Rno, Rux]
 omega
theorem smp_sz {t : Tok} {l r : List Tok} {b : List Stm} (h : smp (t :: l) = some (b, r)) : mSs b + 2 * r.length ≤ 2 * (t :: l).length := by
 obtain ⟨s, rfl, hh⟩ := Rpi h
 clear h
 have z : mSs [] = 0 := rfl
 rcases hh with ⟨u, e, rfl, hu, ⟨r1, rfl, h⟩, rfl⟩ | ⟨u, w, rfl, hu, hw, rfl, rfl⟩ | ⟨rfl, rfl, rfl⟩ | ⟨e, rfl, h, rfl⟩ | ⟨e, _, _, _, _, hv, ⟨r1, rfl, h⟩, rfl⟩
 ·have := Rvs h; rw [Ria, z]; simp only [Zc] at *; omega
 ·rw [Ria, z, Rux]; simp only [Zc, emXs]; omega
 ·rw [Ria, z, Rux]; simp only [Zc, emXs]; omega
 ·have := Rvs h; rw [Ria, z]; simp only [Zc] at *; omega
 ·have := Rvs h; rw [Ria, z]; simp only [Zc] at *; omega
theorem G_sz : ∀ {j : K} {l : List Tok} {o : GO}, G j l o → ∀ b r, o = some (b, r) → match j with
  | .lp a => mSs b + 2 * r.length ≤ mSs a + 2 * l.length
  | _ => mSs b + 2 * r.length ≤ 2 * l.length := by
 intro j l o h
 have z : mSs [] = 0 := rfl
 induction h with
 | bk0 _ => intro b r ho; cases ho
 | bk h ih => intro b r ho; have := ih b r ho; simp only [Zc, z] at *; omega
 | lpE => intro b r ho; cases ho
 | lpS => intro b r ho; injection ho with ho; injection ho with a c; subst a c; simp only [Zc]; omega
 | lpN _ _ _ => intro b r ho; cases ho
 | lpC h1 h2 h3 ih1 ih2 =>
  intro b r ho
  have a := ih1 _ _ rfl
  have b := ih2 b r ho
  simp only [Riq] at *; omega
 | smp h1 h2 h => intro b r ho; rw [ho] at h; exact smp_sz h
 | ifN _ => intro b r ho; cases ho
 | ifB _ _ _ => intro b r ho; cases ho
 | if1 h1 h2 h3 ih =>
  intro b r ho
  injection ho with ho; injection ho with a c; subst a c
  have := ih _ _ rfl
  have := Rvs h1
  rw [Ria]; simp only [Zc, z] at *; omega
 | if2 h1 _ _ ih ih2 =>
  intro b r ho
  injection ho with ho; injection ho with a c; subst a c
  have := ih _ _ rfl
  have := ih2 _ _ rfl
  have := Rvs h1
  rw [Ria]; simp only [Zc] at *; omega
 | if3 _ _ _ _ _ => intro b r ho; cases ho
 | whN _ => intro b r ho; cases ho
 | whB _ _ _ => intro b r ho; cases ho
 | wh h1 _ ih =>
  intro b r ho
  injection ho with ho; injection ho with a c; subst a c
  have := ih _ _ rfl
  have := Rvs h1
  rw [Ria]; simp only [Zc, z] at *; omega
inductive BR : List Int → List Tok → Option (List Int × List Tok) → Prop
 | stop {a : List Int} {l : List Tok} : nd kBox l = none → BR a l (some (a, l))
 | go {a : List Int} {l r : List Tok} {n : Int} {o : Option (List Int × List Tok)} : nu l = some (n, kS :: r) → BR (a ++ [n]) r o → BR a (kBox :: l) o
 | bad {a : List Int} {l : List Tok} : (nu l).bind (fun p => nd kS p.2) = none → BR a (kBox :: l) none
inductive TR : List (List Stm) → List Tok → Option (List (List Stm) × List Tok) → Prop
 | stop {a : List (List Stm)} {l : List Tok} : nd Riz l = none → TR a l (some (a, l))
 | go {a : List (List Stm)} {l r : List Tok} {b : List Stm} {o : Option (List (List Stm) × List Tok)} : G .bk l (some (b, r)) → TR (a ++ [b]) r o → TR a (Riz :: l) o
 | bad {a : List (List Stm)} {l : List Tok} : G .bk l none → TR a (Riz :: l) none
theorem Rsc : ∀ (n : Nat) (l : List Tok) (a : List Int), l.length < n → ∃ o, BR a l o
 | 0, _, _, h => by omega
 | n + 1, l, a, h => by
  cases h1 : nd kBox l with
  | none => exact ⟨_, .stop h1⟩
  | some l1 =>
   have := Rdq h1
   subst this
   cases h2 : (nu l1).bind (fun p => nd kS p.2) with
   | none => exact ⟨_, .bad h2⟩
   | some r =>
    rw [Option.bind_eq_some_iff] at h2
    obtain ⟨⟨k, l2⟩, h3, h4⟩ := h2
    have := Rdq h4
    simp only at this
    subst this
    obtain ⟨u, hu, _⟩ := Rju h3
    subst hu
    simp only [Zc] at h
    obtain ⟨o, ho⟩ := Rsc n r (a ++ [k]) (by omega)
    exact ⟨o, .go h3 ho⟩
theorem Rsg : ∀ (n : Nat) (l : List Tok) (a : List (List Stm)), l.length < n → ∃ o, TR a l o
 | 0, _, _, h => by omega
 | n + 1, l, a, h => by
  cases h1 : nd Riz l with
  | none => exact ⟨_, .stop h1⟩
  | some l1 =>
   have := Rdq h1
   subst this
   simp only [Zc] at h
   obtain ⟨o, ho⟩ := (Rmz (l1.length + 1) l1 (Nat.lt_succ_self _)).2.1
   cases o with
   | none => exact ⟨_, .bad ho⟩
   | some q =>
    obtain ⟨b, r⟩ := q
    have := (Rlk ho b r rfl).2
    obtain ⟨o2, ho2⟩ := Rsg n r (a ++ [b]) (by omega)
    exact ⟨o2, .go ho ho2⟩
theorem Rtd : ∀ {a : List Int} {l : List Tok} {o}, BR a l o → ∀ b r, o = some (b, r) → (∃ p, l = p ++ r) ∧ a.length + l.length ≥ b.length + r.length := by
 intro a l o h
 induction h with
 | stop h => intro b r ho; injection ho with ho; injection ho with a c; subst a c; exact ⟨⟨[], rfl⟩, Nat.le_refl _⟩
 | @go a l r n o h1 h2 ih =>
  intro b r ho
  obtain ⟨⟨p, hp⟩, hl⟩ := ih b r ho
  obtain ⟨u, hu, _⟩ := Rju h1
  subst hu hp
  refine ⟨⟨kBox :: u :: kS :: p, rfl⟩, ?_⟩
  simp only [Za, Zc, Zn] at *; omega
 | bad h => intro b r ho; cases ho
theorem Rwc : ∀ {a : List (List Stm)} {l : List Tok} {o}, TR a l o → ∀ b r, o = some (b, r) → (∃ p, l = p ++ r) ∧ b.length + r.length ≤ a.length + l.length ∧ (∀ n, 2 * l.length ≤ n → (∀ x ∈ a, mSs x ≤ n) → ∀ x ∈ b, mSs x ≤ n) := by
 intro a l o h
 induction h with
 | stop h => intro b r ho; injection ho with ho; injection ho with a c; subst a c; exact ⟨⟨[], rfl⟩, Nat.le_refl _, fun n _ h => h⟩
 | @go a l r' b o h1 h2 ih =>
  intro b2 r ho
  obtain ⟨⟨p, hp⟩, hl, hm⟩ := ih b2 r ho
  obtain ⟨⟨q, hq⟩, hl2⟩ := Rlk h1 _ _ rfl
  have hz := G_sz h1 _ _ rfl
  refine ⟨⟨Riz :: q ++ p, by rw [hq, hp]; simp⟩, ?_, ?_⟩
  ·simp only [Za, Zc, Zn] at *; omega
  ·intro n hn ha
   simp only [Zc] at hn hz
   refine hm n (by omega) (fun x hx => ?_)
   rcases List.mem_append.1 hx with hx | hx
   ·exact ha x hx
   ·rw [List.mem_singleton.1 hx]; omega
 | bad h => intro b r ho; cases ho
theorem Rrj {L : List Tok} {t4 : List Tok} {c0 : Bool} {c1 : Bool} {c3 : Bool} {y0 : List Int} {y1 : List (List Stm)} {y3 : List (List Stm)} (p : Int) (m : Bool) (a : List Int) : Ri t4 c0 y0 c1 y1 L p true m a c3 y3 = some (t4, (c0, y0), (c1, y1), L, p, true, (m, a), (c3, y3)) := by
 apply Rax
 rw [Rha (by simp), Qb]; rfl
theorem Rsp {L : List Tok} {t4 : List Tok} {c0 : Bool} {c1 : Bool} {c3 : Bool} {y0 : List Int} {y1 : List (List Stm)} {y3 : List (List Stm)} : ∀ {a : List Int} {l : List Tok} {o}, BR a l o → L.length ≤ 20000 → (∀ t ∈ L, gt t) → Suf L l → a.length + l.length ≤ 20000 → ∀ m, match o with
  | some (rs, r) => ∃ m', Ri t4 c0 y0 c1 y1 L (plc L l) false m a c3 y3 = some (t4, (c0, y0), (c1, y1), L, (plc L r : Int), false, (m', rs), (c3, y3))
  | none => ∃ p x, Ri t4 c0 y0 c1 y1 L (plc L l) false m a c3 y3 = some (t4, (c0, y0), (c1, y1), L, p, true, x, (c3, y3)) := by
 intro a l o h
 induction h with
 | @stop a l h =>
  intro hL hg hs ha m
  refine ⟨m, ?_⟩
  apply Rax
  rw [Ro (by simp) hL hs, show nd [98, 111, 120] l = none from h, Qb]; rfl
 | @go a l r n o h1 h2 ih =>
  intro hL hg hs ha m
  have hn := Rki hL hg hs.tail.1
  rw [h1] at hn
  have hn : _ = _ := hn
  have hs3 := Rvf hs.tail.1 h1
  obtain ⟨u, hu, _⟩ := Rju h1
  have e2 := ih hL hg hs3.tail.1 (by subst hu; simp only [Za, Zc, Zn] at *; omega) true
  have st : ∀ v, Ri t4 c0 y0 c1 y1 L (plc L r) false true (a ++ [n]) c3 y3 = some v → Ri t4 c0 y0 c1 y1 L (plc L (kBox :: l)) false m a c3 y3 = some v := by
   intro v hv
   apply Rax
   rw [Ro (k := [98, 111, 120]) (by simp) hL hs, show nd [98, 111, 120] (kBox :: l) = some l from Rau _ _, Qb]
   simp only [Zt]
   rw [hn, Qb]
   dsimp only
   rw [Rcd (by omega), Qb, Rjt (by simp) hL hs3, show nd [59] (kS :: r) = some r from Rau _ _, Qb]
   exact hv
  cases o with
  | none => obtain ⟨p, x, e2⟩ := e2; exact ⟨p, x, st _ e2⟩
  | some q => obtain ⟨b, r'⟩ := q; obtain ⟨m', e2⟩ := e2; exact ⟨m', st _ e2⟩
 | @bad a l h =>
  intro hL hg hs ha m
  have hs2 := hs.tail.1
  have hn := Rki hL hg hs2
  cases h1 : nu l with
  | none =>
   rw [h1] at hn
   obtain ⟨q, hn⟩ := hn
   refine ⟨q, (true, a ++ [0]), ?_⟩
   apply Rax
   rw [Ro (k := [98, 111, 120]) (by simp) hL hs, show nd [98, 111, 120] (kBox :: l) = some l from Rau _ _, Qb]
   simp only [Zt]
   rw [hn, Qb]
   dsimp only
   rw [Rcd (by omega), Qb, Rep (by simp), Qb, Rrj]
  | some p =>
   obtain ⟨n, r⟩ := p
   rw [h1] at hn h
   have hn : _ = _ := hn
   simp only [Option.bind_some] at h
   have hs3 := Rvf hs2 h1
   refine ⟨(plc L r : Int), (true, a ++ [n]), ?_⟩
   apply Rax
   rw [Ro (k := [98, 111, 120]) (by simp) hL hs, show nd [98, 111, 120] (kBox :: l) = some l from Rau _ _, Qb]
   simp only [Zt]
   rw [hn, Qb]
   dsimp only
   rw [Rcd (by omega), Qb, Rjt (by simp) hL hs3, show nd [59] r = none from h, Qb, Rrj]
theorem Rnz {L : List Tok} {t4 : List Tok} {c0 : Bool} {c1 : Bool} {y0 : List Int} {y1 : List (List Stm)} {m0 : Bool} {b0 : List Int} (p : Int) (m : Bool) (a : List (List Stm)) : Rl t4 c0 y0 c1 y1 L p true m0 b0 m a = some (t4, (c0, y0), (c1, y1), L, p, true, (m0, b0), (m, a)) := by
 apply Rbx
 rw [Rha (by simp), Qb]; rfl
theorem Rwp {L : List Tok} {t4 : List Tok} {c0 : Bool} {c1 : Bool} {y0 : List Int} {y1 : List (List Stm)} {m0 : Bool} {b0 : List Int} : ∀ {a : List (List Stm)} {l : List Tok} {o}, TR a l o → L.length ≤ 20000 → (∀ t ∈ L, gt t) → Suf L l → a.length + l.length ≤ 20000 → ∀ m, match o with
  | some (ts, r) => ∃ m', Rl t4 c0 y0 c1 y1 L (plc L l) false m0 b0 m a = some (t4, (c0, y0), (c1, y1), L, (plc L r : Int), false, (m0, b0), (m', ts))
  | none => ∃ p x, Rl t4 c0 y0 c1 y1 L (plc L l) false m0 b0 m a = some (t4, (c0, y0), (c1, y1), L, p, true, (m0, b0), x) := by
 intro a l o h
 induction h with
 | @stop a l h =>
  intro hL hg hs ha m
  refine ⟨m, ?_⟩
  apply Rbx
  rw [Ro (by simp) hL hs, show nd [116, 97, 115, 107] l = none from h, Qb]; rfl
 | @go a l r b o h1 h2 ih =>
  intro hL hg hs ha m
  have e1 := Raai h1 L hL hg hs.tail.1
  have e1 : _ = _ := e1
  have hsf := Rlk h1 _ _ rfl
  have hs3 := hs.tail.1.trans hsf.1
  have e2 := ih hL hg hs3 (by have := hsf.2; simp only [Za, Zc, Zn] at *; omega) true
  have st : ∀ v, Rl t4 c0 y0 c1 y1 L (plc L r) false m0 b0 true (a ++ [b]) = some v → Rl t4 c0 y0 c1 y1 L (plc L (Riz :: l)) false m0 b0 m a = some v := by
   intro v hv
   apply Rbx
   rw [Ro (k := [116, 97, 115, 107]) (by simp) hL hs, show nd [116, 97, 115, 107] (Riz :: l) = some l from Rau _ _, Qb]
   simp only [Zt]
   rw [e1, Qb]
   dsimp only
   rw [Rcd (by omega), Qb]
   exact hv
  cases o with
  | none => obtain ⟨p, x, e2⟩ := e2; exact ⟨p, x, st _ e2⟩
  | some q => obtain ⟨b, r'⟩ := q; obtain ⟨m', e2⟩ := e2; exact ⟨m', st _ e2⟩
 | @bad a l h =>
  intro hL hg hs ha m
  obtain ⟨x, p, e1⟩ := Raai h L hL hg hs.tail.1
  refine ⟨p, (true, a ++ [x]), ?_⟩
  apply Rbx
  rw [Ro (k := [116, 97, 115, 107]) (by simp) hL hs, show nd [116, 97, 115, 107] (Riz :: l) = some l from Rau _ _, Qb]
  simp only [Zt]
  rw [e1, Qb]
  dsimp only
  rw [Rcd (by omega), Qb, Rnz]
theorem Ryl {L : List Tok} {c0 : Bool} {c1 : Bool} {c2 : Bool} {c3 : Bool} {c5 : Bool} {y0 : List Int} {y2 : List Int} {y1 : List (List Stm)} {y3 : List (List Stm)} {y5 : List (List Stm)} : ∀ {a : List Int} {l : List Tok} {o}, BR a l o → L.length ≤ 20000 → Suf L l → a.length + l.length ≤ 20000 → ∀ m, match o with
  | some (rs, r) => ∃ m', Rs L (plc L l) c0 y0 c1 y1 c2 y2 c3 y3 m a c5 y5 = some (L, (plc L r : Int), (c0, y0), (c1, y1), (c2, y2), (c3, y3), (m', rs), (c5, y5))
  | none => ∃ r x, Suf L (kBox :: r) ∧ Rs L (plc L l) c0 y0 c1 y1 c2 y2 c3 y3 m a c5 y5 = some (L, (plc L (kBox :: r) : Int), (c0, y0), (c1, y1), (c2, y2), (c3, y3), x, (c5, y5)) := by
 intro a l o h
 induction h with
 | @stop a l h =>
  intro hL hs ha m
  refine ⟨m, ?_⟩
  apply Rdm
  rw [Rpt hs, show nd [98, 111, 120] l = none from h, Qb]; rfl
 | @go a l r n o h1 h2 ih =>
  intro hL hs ha m
  obtain ⟨u, hu, h0, hn⟩ := Rju h1
  subst hu
  have hs2 := hs.tail.1
  have hs3 := hs2.tail.1
  have e2 := ih hL hs3.tail.1 (by simp only [Za, Zc, Zn] at *; omega) true
  have st : ∀ v, Rs L (plc L r) c0 y0 c1 y1 c2 y2 c3 y3 true (a ++ [n]) c5 y5 = some v → Rs L (plc L (kBox :: u :: kS :: r)) c0 y0 c1 y1 c2 y2 c3 y3 m a c5 y5 = some v := by
   intro v hv
   apply Rdm
   rw [show Ra L (plc L (kBox :: u :: kS :: r) : Int) [98, 111, 120] = some true from Rhz hs, Qb, Zt, at1 hL hs, Rkh hs2, Qb, Zp h0, Zt, at2 hL hs,
    show Ra L (plc L (kS :: r) : Int) [59] = some true from Rhz hs3, Qb, Zt, Qb, Rcd (by omega), Qb, at3 hL hs, ← hn]
   exact hv
  cases o with
  | none => obtain ⟨r2, x, q, e2⟩ := e2; exact ⟨r2, x, q, st _ e2⟩
  | some q => obtain ⟨b, r'⟩ := q; obtain ⟨m', e2⟩ := e2; exact ⟨m', st _ e2⟩
 | @bad a l h =>
  intro hL hs ha m
  refine ⟨l, (m, a), hs, ?_⟩
  apply Rdm
  rw [show Ra L (plc L (kBox :: l) : Int) [98, 111, 120] = some true from Rhz hs, Qb, Zt, at1 hL hs]
  have hs2 := hs.tail.1
  cases l with
  | nil => rw [Rpz, Qb]; rfl
  | cons u l =>
   rw [Rkh hs2, Qb]
   by_cases h0 : 0 ≤ numV u
   ·rw [Rlc h0] at h
    simp only [Option.bind_some] at h
    rw [Zp h0, Zt, at2 hL hs, Rpt hs2.tail.1, show nd [59] l = none from h, Qb]; rfl
   ·rw [Zq h0, Zf]
theorem Ryr {L : List Tok} {c0 : Bool} {c1 : Bool} {c2 : Bool} {c3 : Bool} {y0 : List Int} {y2 : List Int} {y1 : List (List Stm)} {y3 : List (List Stm)} {m0 : Bool} {b0 : List Int} (m : Bool) (a : List (List Stm)) : Ru L (-1) c0 y0 c1 y1 c2 y2 c3 y3 m0 b0 m a = some (L, -1, (c0, y0), (c1, y1), (c2, y2), (c3, y3), (m0, b0), (m, a)) := by
 apply Rby
 rw [Rvb, Qb]; rfl
theorem Rym {L : List Tok} {c0 : Bool} {c1 : Bool} {c2 : Bool} {c3 : Bool} {y0 : List Int} {y2 : List Int} {y1 : List (List Stm)} {y3 : List (List Stm)} {m0 : Bool} {b0 : List Int} : ∀ {a : List (List Stm)} {l : List Tok} {o}, TR a l o → L.length ≤ 20000 → Suf L l → a.length + l.length ≤ 20000 → ∀ m, match o with
  | some (ts, r) => ∃ m', Ru L (plc L l) c0 y0 c1 y1 c2 y2 c3 y3 m0 b0 m a = some (L, (plc L r : Int), (c0, y0), (c1, y1), (c2, y2), (c3, y3), (m0, b0), (m', ts))
  | none => ∃ x, Ru L (plc L l) c0 y0 c1 y1 c2 y2 c3 y3 m0 b0 m a = some (L, -1, (c0, y0), (c1, y1), (c2, y2), (c3, y3), (m0, b0), x) := by
 intro a l o h
 induction h with
 | @stop a l h =>
  intro hL hs ha m
  refine ⟨m, ?_⟩
  apply Rby
  rw [Rpt hs, show nd [116, 97, 115, 107] l = none from h, Qb]; rfl
 | @go a l r b o h1 h2 ih =>
  intro hL hs ha m
  have e1 := Raao h1 L hL hs.tail.1
  have e1 : _ = _ := e1
  have hsf := Rlk h1 _ _ rfl
  have e2 := ih hL (hs.tail.1.trans hsf.1) (by have := hsf.2; simp only [Za, Zc, Zn] at *; omega) true
  have st : ∀ v, Ru L (plc L r) c0 y0 c1 y1 c2 y2 c3 y3 m0 b0 true (a ++ [b]) = some v → Ru L (plc L (Riz :: l)) c0 y0 c1 y1 c2 y2 c3 y3 m0 b0 m a = some v := by
   intro v hv
   apply Rby
   rw [show Ra L (plc L (Riz :: l) : Int) [116, 97, 115, 107] = some true from Rhz hs, Qb, Zt, at1 hL hs, e1, Qb]
   dsimp only
   rw [Rcd (by omega), Qb]
   exact hv
  cases o with
  | none => obtain ⟨x, e2⟩ := e2; exact ⟨x, st _ e2⟩
  | some q => obtain ⟨b, r'⟩ := q; obtain ⟨m', e2⟩ := e2; exact ⟨m', st _ e2⟩
 | @bad a l h =>
  intro hL hs ha m
  obtain ⟨x, e1⟩ := Raao h L hL hs.tail.1
  refine ⟨(true, a ++ [x]), ?_⟩
  apply Rby
  rw [show Ra L (plc L (Riz :: l) : Int) [116, 97, 115, 107] = some true from Rhz hs, Qb, Zt, at1 hL hs, e1, Qb]
  dsimp only
  rw [Rcd (by omega), Qb, Ryr]
def PrF (t : List Tok) (p : Prg) : Prop := ∃ l, BR [] t (some (p.rooms, l)) ∧ TR [] l (some (p.tasks, []))
def Prm (s : List UInt8) (p : Prg) : Prop := s.length ≤ 20000 ∧ (∃ t, toks s = some t ∧ PrF t p) ∧ Rdy p = true
theorem Rvz {t : List Tok} {p : Prg} (h : PrF t p) (n : Nat) (hn : 2 * t.length ≤ n) : p.rooms.length ≤ n ∧ p.tasks.length ≤ n ∧ ∀ x ∈ p.tasks, mSs x ≤ n := by
 obtain ⟨l, h1, h2⟩ := h
 have a := (Rtd h1 _ _ rfl).2
 have b := Rwc h2 _ _ rfl
 simp only [Zn] at a b
 exact ⟨by omega, by omega, b.2.2 n (by omega) (fun x hx => by cases hx)⟩
theorem Rli : ∀ {a : List Int} {l : List Tok} {o}, BR a l o → ∀ o', BR a l o' → o = o' := by
 intro a l o h
 induction h with
 | stop h => intro o' h'; cases h' with | stop _ => rfl | go _ _ => exact absurd h Rib | bad _ => exact absurd h Rib
 | go h1 h2 ih =>
  intro o' h'
  cases h' with
  | stop h => exact absurd h Rib
  | go h3 h4 => rw [h1] at h3; injection h3 with h3; injection h3 with a b; injection b with _ b; subst a b; exact ih _ h4
  | bad h => rw [h1, Option.bind_some, Rau] at h; cases h
 | bad h =>
  intro o' h'
  cases h' with
  | stop h2 => exact absurd h2 Rib
  | go h1 h2 => rw [h1, Option.bind_some, Rau] at h; cases h
  | bad h => rfl
theorem Rob : ∀ {a : List (List Stm)} {l : List Tok} {o}, TR a l o → ∀ o', TR a l o' → o = o' := by
 intro a l o h
 induction h with
 | stop h => intro o' h'; cases h' with | stop _ => rfl | go _ _ => exact absurd h Rib | bad _ => exact absurd h Rib
 | go h1 h2 ih =>
  intro o' h'
  cases h' with
  | stop h => exact absurd h Rib
  | go h3 h4 => have := G_det h1 _ h3; injection this with this; injection this with a b; subst a b; exact ih _ h4
  | bad h => have := G_det h1 _ h; cases this
 | bad h =>
  intro o' h'
  cases h' with
  | stop h2 => exact absurd h2 Rib
  | go h1 h2 => have := G_det h _ h1; cases this
  | bad h => rfl
theorem Rvx {t : List Tok} {p q : Prg} (h1 : PrF t p) (h2 : PrF t q) : p = q := by
 obtain ⟨l, a, b⟩ := h1
 obtain ⟨l2, c, d⟩ := h2
 have e := Rli a _ c
 injection e with e; injection e with e1 e2
 subst e2
 have f := Rob b _ d
 injection f with f; injection f with f1 f2
 cases p; cases q
 simp only at e1 f1
 rw [e1, f1]
theorem impl_pf (s : List UInt8) : (∃ p, Prm s p ∧ Rj s = some (p, true)) ∨
  ((∀ p, ¬ Prm s p) ∧ Rj s = some (⟨[], []⟩, false)) := by
 by_cases hl : 20000 < s.length
 ·refine Or.inr ⟨fun p h => by have := h.1; omega, ?_⟩
  ·apply Ray; rw [Rcq, if_pos hl, Qb]; rfl
 ·cases ht : toks s with
  | none =>
   refine Or.inr ⟨fun p h => ?_, ?_⟩
   ·obtain ⟨_, ⟨t, h1, _⟩, _⟩ := h
    rw [ht] at h1; cases h1
   ·apply Ray; rw [Rcq, if_neg hl, ht, Qb]; rfl
  | some t =>
   have hlen := Rpj ht
   have hL : t.length ≤ 20000 := by omega
   have hg := Rys ht
   obtain ⟨hs, h0⟩ := Ryp t
   have no : (∀ p, PrF t p → Rdy p = false) → (∀ p, ¬ Prm s p) := by
    intro h p hp
    obtain ⟨_, ⟨t', h1, h2⟩, h3⟩ := hp
    rw [ht] at h1; injection h1 with h1; subst h1
    rw [h p h2] at h3; cases h3
   have ist : ∀ v, (bnd (Ri t false [] false [] t 0 false false [] false []) fun r2 =>
     bnd (Rl r2.1 r2.2.1.1 r2.2.1.2 r2.2.2.1.1 r2.2.2.1.2 r2.2.2.2.1 r2.2.2.2.2.1 r2.2.2.2.2.2.1 r2.2.2.2.2.2.2.1.1 r2.2.2.2.2.2.2.1.2 r2.2.2.2.2.2.2.2.1 r2.2.2.2.2.2.2.2.2) fun r3 =>
     (bif r3.2.2.2.2.2.1 then some ((⟨[], []⟩ : Prg), false) else
     (bif (!decide (r3.2.2.2.2.1 = (r3.1.length : Int))) then some (⟨[], []⟩, false) else
     bnd (Ram (⟨r3.2.2.2.2.2.2.1.2, r3.2.2.2.2.2.2.2.2⟩ : Prg)) fun r4 =>
     (bif (!r4) then some (⟨[], []⟩, false) else some (⟨r3.2.2.2.2.2.2.1.2, r3.2.2.2.2.2.2.2.2⟩, true))))) = some v → Rj s = some v := by
    intro v hv
    apply Ray
    rw [Rcq, if_neg hl, ht, Qb]
    exact hv
   obtain ⟨o1, b1⟩ := Rsc (t.length + 1) t [] (Nat.lt_succ_self _)
   cases o1 with
   | none =>
    refine Or.inr ⟨no fun p ⟨l, a, b⟩ => ?_, ?_⟩
    ·have := Rli b1 _ a; cases this
    ·obtain ⟨p, x, e1⟩ := Rsp (t4 := t) (c0 := false) (c1 := false) (c3 := false) (y0 := []) (y1 := []) (y3 := []) b1 hL hg hs (by simpa using hL) false
     rw [h0] at e1
     apply ist
     rw [show Ri t false [] false [] t 0 false false [] false [] = _ from e1, Qb]
     dsimp only
     rw [Rnz, Qb]; rfl
   | some q =>
    obtain ⟨rs, l1⟩ := q
    have sf := Rtd b1 _ _ rfl
    have hs2 := hs.trans sf.1
    obtain ⟨m1, e1⟩ := Rsp (t4 := t) (c0 := false) (c1 := false) (c3 := false) (y0 := []) (y1 := []) (y3 := []) b1 hL hg hs (by simpa using hL) false
    rw [h0] at e1
    obtain ⟨o2, t1⟩ := Rsg (l1.length + 1) l1 [] (Nat.lt_succ_self _)
    have hl1 : ([] : List (List Stm)).length + l1.length ≤ 20000 := by have := sf.2; simp only [Zn] at *; omega
    have i2 := Rwp (L := t) (t4 := t) (c0 := false) (c1 := false) (y0 := []) (y1 := []) (m0 := m1) (b0 := rs) t1 hL hg hs2 hl1 false
    have ist2 : ∀ v, (bnd (Rl t false [] false [] t (plc t l1) false m1 rs false []) fun r3 =>
      (bif r3.2.2.2.2.2.1 then some ((⟨[], []⟩ : Prg), false) else
      (bif (!decide (r3.2.2.2.2.1 = (r3.1.length : Int))) then some (⟨[], []⟩, false) else
      bnd (Ram (⟨r3.2.2.2.2.2.2.1.2, r3.2.2.2.2.2.2.2.2⟩ : Prg)) fun r4 =>
      (bif (!r4) then some (⟨[], []⟩, false) else some (⟨r3.2.2.2.2.2.2.1.2, r3.2.2.2.2.2.2.2.2⟩, true))))) = some v → Rj s = some v := by
     intro v hv
     apply ist
     rw [show Ri t false [] false [] t 0 false false [] false [] = _ from e1, Qb]
     exact hv
    cases o2 with
    | none =>
     refine Or.inr ⟨no fun p ⟨l, a, b⟩ => ?_, ?_⟩
     ·have := Rli b1 _ a; injection this with this; injection this with _ this; subst this
      have := Rob t1 _ b; cases this
     ·obtain ⟨p, x, i2⟩ := i2
      apply ist2
      rw [i2, Qb]; rfl
    | some q =>
     obtain ⟨ts, l2⟩ := q
     obtain ⟨m3, i2⟩ := i2
     have sf2 := Rwc t1 _ _ rfl
     have hs3 := hs2.trans sf2.1
     by_cases he : l2 = []
     ·subst he
      have hpf : PrF t ⟨rs, ts⟩ := ⟨l1, b1, t1⟩
      have sz := Rvz hpf 40000 (by omega)
      have hpl : ((plc t [] : Nat) : Int) = (t.length : Int) := by rw [Req]
      have iv : Ram ⟨rs, ts⟩ = some (Rdy ⟨rs, ts⟩) := Rgp (by have := sz.1; simp only at *; omega) (by have := sz.2.1; simp only at *; omega) (fun x hx => by have := sz.2.2 x hx; omega)
      cases ho : Rdy ⟨rs, ts⟩
      ·refine Or.inr ⟨no fun p hp => by rw [Rvx hp hpf]; exact ho, ?_⟩
       ·apply ist2
        rw [i2, Qb]
        dsimp only
        rw [Zf, Zp hpl, Zv, Zf, iv, Qb, ho]; rfl
      ·refine Or.inl ⟨⟨rs, ts⟩, ⟨by omega, ⟨t, ht, hpf⟩, ho⟩, ?_⟩
       ·apply ist2
        rw [i2, Qb]
        dsimp only
        rw [Zf, Zp hpl, Zv, Zf, iv, Qb, ho]; rfl
     ·have hne : ¬ ((plc t l2 : Int) = (t.length : Int)) := by
       cases l2 with
       | nil => exact absurd rfl he
       | cons u l2 => have := hs3.tail.2.2.1; omega
      refine Or.inr ⟨no fun p ⟨l, a, b⟩ => ?_, ?_⟩
      ·have := Rli b1 _ a; injection this with this; injection this with _ this; subst this
       have := Rob t1 _ b; injection this with this; injection this with _ this; exact absurd this he
      ·apply ist2
       rw [i2, Qb]
       dsimp only
       rw [Zf, Zq hne]; rfl
theorem pf_all (s : List UInt8) : (∃ p, Prm s p ∧ Rj s = some (p, true) ∧ Rbk s = some (p, true)) ∨
  ((∀ p, ¬ Prm s p) ∧ Rj s = some (⟨[], []⟩, false) ∧ Rbk s = some (⟨[], []⟩, false)) := by
 by_cases hl : 20000 < s.length
 ·refine Or.inr ⟨fun p h => by have := h.1; omega, ?_, ?_⟩
  ·apply Ray; rw [Rcq, if_pos hl, Qb]; rfl
  ·apply Rer; rw [Rij, if_pos hl, Qb]; rfl
 ·cases ht : toks s with
  | none =>
   refine Or.inr ⟨fun p h => ?_, ?_, ?_⟩
   ·obtain ⟨_, ⟨t, h1, _⟩, _⟩ := h
    rw [ht] at h1; cases h1
   ·apply Ray; rw [Rcq, if_neg hl, ht, Qb]; rfl
   ·apply Rer; rw [Rij, if_neg hl, ht, Qb]; rfl
  | some t =>
   have hlen := Rpj ht
   have hL : t.length ≤ 20000 := by omega
   have hg := Rys ht
   obtain ⟨hs, h0⟩ := Ryp t
   have no : (∀ p, PrF t p → Rdy p = false) → (∀ p, ¬ Prm s p) := by
    intro h p hp
    obtain ⟨_, ⟨t', h1, h2⟩, h3⟩ := hp
    rw [ht] at h1; injection h1 with h1; subst h1
    rw [h p h2] at h3; cases h3
   have ist : ∀ v, (bnd (Ri t false [] false [] t 0 false false [] false []) fun r2 =>
     bnd (Rl r2.1 r2.2.1.1 r2.2.1.2 r2.2.2.1.1 r2.2.2.1.2 r2.2.2.2.1 r2.2.2.2.2.1 r2.2.2.2.2.2.1 r2.2.2.2.2.2.2.1.1 r2.2.2.2.2.2.2.1.2 r2.2.2.2.2.2.2.2.1 r2.2.2.2.2.2.2.2.2) fun r3 =>
     (bif r3.2.2.2.2.2.1 then some ((⟨[], []⟩ : Prg), false) else
     (bif (!decide (r3.2.2.2.2.1 = (r3.1.length : Int))) then some (⟨[], []⟩, false) else
     bnd (Ram (⟨r3.2.2.2.2.2.2.1.2, r3.2.2.2.2.2.2.2.2⟩ : Prg)) fun r4 =>
     (bif (!r4) then some (⟨[], []⟩, false) else some (⟨r3.2.2.2.2.2.2.1.2, r3.2.2.2.2.2.2.2.2⟩, true))))) = some v → Rj s = some v := by
    intro v hv
    apply Ray
    rw [Rcq, if_neg hl, ht, Qb]
    exact hv
   have sst : ∀ v, (bnd (Rs t 0 false [] false [] false [] false [] false ([] : List Int) false ([] : List (List Stm))) fun r2 =>
     bnd (Ru r2.1 r2.2.1 r2.2.2.1.1 r2.2.2.1.2 r2.2.2.2.1.1 r2.2.2.2.1.2 r2.2.2.2.2.1.1 r2.2.2.2.2.1.2 r2.2.2.2.2.2.1.1 r2.2.2.2.2.2.1.2 r2.2.2.2.2.2.2.1.1 r2.2.2.2.2.2.2.1.2 r2.2.2.2.2.2.2.2.1 r2.2.2.2.2.2.2.2.2) fun r3 =>
     (bif (!decide (r3.2.1 = (r3.1.length : Int))) then some ((⟨r3.2.2.2.2.1.2, r3.2.2.2.2.2.1.2⟩ : Prg), false) else
     bnd (Rba (⟨r3.2.2.2.2.2.2.1.2, r3.2.2.2.2.2.2.2.2⟩ : Prg)) fun r4 =>
     (bif (!r4) then some (⟨r3.2.2.2.2.1.2, r3.2.2.2.2.2.1.2⟩, false) else some (⟨r3.2.2.2.2.2.2.1.2, r3.2.2.2.2.2.2.2.2⟩, true)))) = some v → Rbk s = some v := by
    intro v hv
    apply Rer
    rw [Rij, if_neg hl, ht, Qb]
    exact hv
   obtain ⟨o1, b1⟩ := Rsc (t.length + 1) t [] (Nat.lt_succ_self _)
   cases o1 with
   | none =>
    refine Or.inr ⟨no fun p ⟨l, a, b⟩ => ?_, ?_, ?_⟩
    ·have := Rli b1 _ a; cases this
    ·obtain ⟨p, x, e1⟩ := Rsp (t4 := t) (c0 := false) (c1 := false) (c3 := false) (y0 := []) (y1 := []) (y3 := []) b1 hL hg hs (by simpa using hL) false
     rw [h0] at e1
     apply ist
     rw [show Ri t false [] false [] t 0 false false [] false [] = _ from e1, Qb]
     dsimp only
     rw [Rnz, Qb]; rfl
    ·obtain ⟨r, x, hr, e1⟩ := Ryl (c0 := false) (c1 := false) (c2 := false) (c3 := false) (c5 := false) (y0 := []) (y1 := []) (y2 := []) (y3 := []) (y5 := []) b1 hL hs (by simpa using hL) false
     rw [h0] at e1
     apply sst
     rw [show Rs t 0 false [] false [] false [] false [] false [] false [] = _ from e1, Qb]
     dsimp only
     obtain ⟨m', e2⟩ := Rym (c0 := false) (c1 := false) (c2 := false) (c3 := false) (y0 := []) (y1 := []) (y2 := []) (y3 := []) (m0 := x.1) (b0 := x.2) (TR.stop (a := []) (show nd Riz (kBox :: r) = none from ndN (by decide))) hL hr (by obtain ⟨q, hq⟩ := hr; rw [hq, Za] at hL; simp only [Zn]; omega) false
     have hlt := hr.tail.2.2.1
     have hne : ¬ ((plc t (kBox :: r) : Int) = (t.length : Int)) := by omega
     rw [e2, Qb]
     dsimp only
     rw [Zq hne]; rfl
   | some q =>
    obtain ⟨rs, l1⟩ := q
    have sf := Rtd b1 _ _ rfl
    have hs2 := hs.trans sf.1
    obtain ⟨m1, e1⟩ := Rsp (t4 := t) (c0 := false) (c1 := false) (c3 := false) (y0 := []) (y1 := []) (y3 := []) b1 hL hg hs (by simpa using hL) false
    obtain ⟨m2, f1⟩ := Ryl (c0 := false) (c1 := false) (c2 := false) (c3 := false) (c5 := false) (y0 := []) (y1 := []) (y2 := []) (y3 := []) (y5 := []) b1 hL hs (by simpa using hL) false
    rw [h0] at e1 f1
    obtain ⟨o2, t1⟩ := Rsg (l1.length + 1) l1 [] (Nat.lt_succ_self _)
    have hl1 : ([] : List (List Stm)).length + l1.length ≤ 20000 := by have := sf.2; simp only [Zn] at *; omega
    have i2 := Rwp (L := t) (t4 := t) (c0 := false) (c1 := false) (y0 := []) (y1 := []) (m0 := m1) (b0 := rs) t1 hL hg hs2 hl1 false
    have s2 := Rym (L := t) (c0 := false) (c1 := false) (c2 := false) (c3 := false) (y0 := []) (y1 := []) (y2 := []) (y3 := []) (m0 := m2) (b0 := rs) t1 hL hs2 hl1 false
    have ist2 : ∀ v, (bnd (Rl t false [] false [] t (plc t l1) false m1 rs false []) fun r3 =>
      (bif r3.2.2.2.2.2.1 then some ((⟨[], []⟩ : Prg), false) else
      (bif (!decide (r3.2.2.2.2.1 = (r3.1.length : Int))) then some (⟨[], []⟩, false) else
      bnd (Ram (⟨r3.2.2.2.2.2.2.1.2, r3.2.2.2.2.2.2.2.2⟩ : Prg)) fun r4 =>
      (bif (!r4) then some (⟨[], []⟩, false) else some (⟨r3.2.2.2.2.2.2.1.2, r3.2.2.2.2.2.2.2.2⟩, true))))) = some v → Rj s = some v := by
     intro v hv
     apply ist
     rw [show Ri t false [] false [] t 0 false false [] false [] = _ from e1, Qb]
     exact hv
    have sst2 : ∀ v, (bnd (Ru t (plc t l1) false [] false [] false [] false [] m2 rs false []) fun r3 =>
      (bif (!decide (r3.2.1 = (r3.1.length : Int))) then some ((⟨r3.2.2.2.2.1.2, r3.2.2.2.2.2.1.2⟩ : Prg), false) else
      bnd (Rba (⟨r3.2.2.2.2.2.2.1.2, r3.2.2.2.2.2.2.2.2⟩ : Prg)) fun r4 =>
      (bif (!r4) then some (⟨r3.2.2.2.2.1.2, r3.2.2.2.2.2.1.2⟩, false) else some (⟨r3.2.2.2.2.2.2.1.2, r3.2.2.2.2.2.2.2.2⟩, true)))) = some v → Rbk s = some v := by
     intro v hv
     apply sst
     rw [show Rs t 0 false [] false [] false [] false [] false [] false [] = _ from f1, Qb]
     exact hv
    cases o2 with
    | none =>
     refine Or.inr ⟨no fun p ⟨l, a, b⟩ => ?_, ?_, ?_⟩
     ·have := Rli b1 _ a; injection this with this; injection this with _ this; subst this
      have := Rob t1 _ b; cases this
     ·obtain ⟨p, x, i2⟩ := i2
      apply ist2
      rw [i2, Qb]; rfl
     ·obtain ⟨x, s2⟩ := s2
      apply sst2
      rw [s2, Qb]
      dsimp only
      have hne : ¬ ((-1 : Int) = (t.length : Int)) := by omega
      rw [Zq hne]; rfl
    | some q =>
     obtain ⟨ts, l2⟩ := q
     obtain ⟨m3, i2⟩ := i2
     obtain ⟨m4, s2⟩ := s2
     have sf2 := Rwc t1 _ _ rfl
     have hs3 := hs2.trans sf2.1
     by_cases he : l2 = []
     ·subst he
      have hpf : PrF t ⟨rs, ts⟩ := ⟨l1, b1, t1⟩
      have sz := Rvz hpf 40000 (by omega)
      have hpl : ((plc t [] : Nat) : Int) = (t.length : Int) := by rw [Req]
      have iv : Ram ⟨rs, ts⟩ = some (Rdy ⟨rs, ts⟩) := Rgp (by have := sz.1; simp only at *; omega) (by have := sz.2.1; simp only at *; omega) (fun x hx => by have := sz.2.2 x hx; omega)
      have sv : Rba ⟨rs, ts⟩ = some (Rdy ⟨rs, ts⟩) := Rgs (by have := sz.1; simp only at *; omega) (by have := sz.2.1; simp only at *; omega) (fun x hx => by have := sz.2.2 x hx; omega)
      cases ho : Rdy ⟨rs, ts⟩
      ·refine Or.inr ⟨no fun p hp => by rw [Rvx hp hpf]; exact ho, ?_, ?_⟩
       ·apply ist2
        rw [i2, Qb]
        dsimp only
        rw [Zf, Zp hpl, Zv, Zf, iv, Qb, ho]; rfl
       ·apply sst2
        rw [s2, Qb]
        dsimp only
        rw [Zp hpl, Zv, Zf, sv, Qb, ho]; rfl
      ·refine Or.inl ⟨⟨rs, ts⟩, ⟨by omega, ⟨t, ht, hpf⟩, ho⟩, ?_, ?_⟩
       ·apply ist2
        rw [i2, Qb]
        dsimp only
        rw [Zf, Zp hpl, Zv, Zf, iv, Qb, ho]; rfl
       ·apply sst2
        rw [s2, Qb]
        dsimp only
        rw [Zp hpl, Zv, Zf, sv, Qb, ho]; rfl
     ·have hne : ¬ ((plc t l2 : Int) = (t.length : Int)) := by
       cases l2 with
       | nil => exact absurd rfl he
       | cons u l2 => have := hs3.tail.2.2.1; omega
      refine Or.inr ⟨no fun p ⟨l, a, b⟩ => ?_, ?_, ?_⟩
      ·have := Rli b1 _ a; injection this with this; injection this with _ this; subst this
       have := Rob t1 _ b; injection this with this; injection this with _ this; exact absurd this he
      ·apply ist2
       rw [i2, Qb]
       dsimp only
       rw [Zf, Zq hne]; rfl
      ·apply sst2
       rw [s2, Qb]
       dsimp only
       rw [Zq hne]; rfl
def wl : List Tok → Nat
 | [] => 0
 | t :: l => t.length + 1 + wl l
theorem Ree : ∀ a b : List Tok, wl (a ++ b) = wl a + wl b
 | [], b => by simp [wl]
 | t :: a, b => by simp only [List.cons_append, wl, Ree a b]; omega
theorem Ryw (l : List Tok) (i : Nat) : wl (l.take i) ≤ wl l := by
 have h : wl (l.take i ++ l.drop i) = wl l := by rw [List.take_append_drop]
 rw [Ree] at h; omega
theorem Ryv : ∀ {l : List Tok} {t : Tok}, t ∈ l → t.length + 1 ≤ wl l
 | a :: l, t, h => by
  rcases List.mem_cons.1 h with rfl | h
  ·simp only [wl]; omega
  ·have := Ryv h; simp only [wl]; omega
theorem Rsb : ∀ l : List Tok, l.length ≤ wl l
 | [] => Nat.le_refl _
 | t :: l => by have := Rsb l; simp only [wl, Zc]; omega
theorem Rzh : ∀ l : List Tok, (jn l).length ≤ wl l
 | [] => by simp [jn]
 | [a] => by simp only [jn, wl]; omega
 | a :: b :: r => by
  have := Rzh (b :: r)
  simp only [jn, wl, Za, Zc] at *; omega
theorem Rqn {l : List Tok} (hw : wl l ≤ 1000000000) : ∀ (d i : Nat), i + d = l.length →
  ∃ x, Rbj l (jn (l.take i)) i = some x ∧ selm x (fun y => some y) (fun z => some z.1) = some (if (l.drop i).all tvb = true then jn l else [])
 | 0, i, h => by
  refine ⟨.inl (jn (l.take i)), ?_, ?_⟩
  ·apply Rdr
   have h1 : ¬ ((i : Int) < l.length) := by omega
   simp only [h1, Zz, Zf]
  ·rw [List.drop_eq_nil_of_le (by omega), List.take_of_length_le (by omega)]; simp [selm]
 | d + 1, i, h => by
  have h1 : (i : Int) < l.length := by omega
  have hi : i < l.length := by omega
  have hg := Rdk hi
  have hm := List.getElem_mem hi
  have hll := Rsb l
  have htk : l.take (i + 1) = l.take i ++ [l[i]] := by rw [List.take_succ_eq_append_getElem hi]
  have hlen := Ryv hm
  rw [List.drop_eq_getElem_cons hi, List.all_cons]
  cases hv : tvb l[i] with
  | false =>
   refine ⟨.inr ([], jn (l.take i)), ?_, ?_⟩
   ·apply Rdr
    simp only [h1, Zy, Zt, hg, Qb, Rie (show (l[i]).length ≤ 1000000000 by omega), hv, Zx]
   ·simp [selm]
  | true =>
   obtain ⟨x, hx1, hx2⟩ := Rqn hw d (i + 1) (by omega)
   refine ⟨x, ?_, by rw [hx2]; simp⟩
   apply Rdr
   have hjl := Nat.le_trans (Rzh (l.take i)) (Ryw l i)
   simp only [h1, Zy, Zt, hg, Qb, Rie (show (l[i]).length ≤ 1000000000 by omega), hv, Zv, Zf]
   by_cases h0 : i = 0
   ·subst h0
    simp only [show ¬ ((0 : Int) < ((0 : Nat) : Int)) by omega, Zz, Zf]
    rw [Rfw (by omega), Qb, w1n (by omega)]
    have : jn (l.take 0) ++ l[0] = jn (l.take (0 + 1)) := by rw [htk]; rfl
    rw [this, hx1]
   ·simp only [show ((0 : Int) < (i : Int)) by omega, Zy, Zt]
    rw [Rfw (by simp only [Zc, Zn]; omega), Qb, Rfw (by simp only [Za, Zc, Zn]; omega), Qb, w1n (by omega)]
    have : jn (l.take i) ++ [32] ++ l[i] = jn (l.take (i + 1)) := by
     rw [htk, Rwq _ _ (by intro h; have := congrArg List.length h; rw [List.length_take, Zn] at this; omega), List.append_assoc]; rfl
    rw [this, hx1]
theorem Rnr {l : List Tok} (hw : wl l ≤ 1000000000) : Rhn l = some (if l.all tvb = true then jn l else []) := by
 apply Rmk
 obtain ⟨x, hx1, hx2⟩ := Rqn hw l.length 0 (by omega)
 rw [List.drop_zero] at hx2
 rw [show Rbj l [] 0 = some x from hx1, Qb, hx2]
theorem Rpr {l : List Tok} (hw : wl l ≤ 1000000000) : ∀ (d i : Nat), i + d = l.length →
  Rce l l l.length i = some (if (l.drop i).all tvb = true then .inl l else .inr (l, []))
 | 0, i, h => by
  apply Rfx
  have h1 : ¬ ((i : Int) < l.length) := by omega
  simp only [h1, Zz, Zf]
  rw [List.drop_eq_nil_of_le (by omega)]; rfl
 | d + 1, i, h => by
  have h1 : (i : Int) < l.length := by omega
  have hi : i < l.length := by omega
  have hg := Rdk hi
  have hlen := Ryv (List.getElem_mem hi)
  have hll := Rsb l
  rw [List.drop_eq_getElem_cons hi, List.all_cons]
  apply Rfx
  simp only [h1, Zy, Zt, hg, Qb, Rlq (show (l[i]).length ≤ 1000000000 by omega)]
  cases hv : tvb l[i] with
  | false => simp
  | true =>
   simp only [Zv, Zf, Bool.true_and]
   rw [w1n (by omega), Rpr hw d (i + 1) (by omega)]
theorem Rnf {l : List Tok} (hw : wl l ≤ 1000000000) : Rfa l = some (if l.all tvb = true then jn l else []) := by
 apply Rls
 have hx := Rpr hw l.length 0 (by omega)
 have hll := Rsb l
 rw [List.drop_zero] at hx
 rw [show Rce l l l.length 0 = _ from hx, Qb]
 have hj : strings_Join l [32] = some (jn l) := by
  apply Rqp
  have := Rzh l
  rw [if_pos ⟨by unfold LIM; omega, by rw [Rud]; unfold LIM; omega⟩, Rud]
 by_cases h : l.all tvb = true
 ·simp only [h, if_true, selm, hj, Qb]
 ·simp only [h, if_false, selm, Bool.false_eq_true]
def vT (v : Int) : Tok := [UInt8.ofNat (97 + v.toNat)]
mutual
def sT : Stm → List Tok
 | ⟨k, v, b, e, bd, el⟩ =>
  if k = 1 then vT v :: kE :: (eT 5 e ++ [kS])
  else if k = 2 then kIf :: (eT 5 e ++ (kL :: (bkT bd ++ [kR]))) ++ (if el.length = 0 then [] else Rfm :: kL :: (bkT el ++ [kR]))
  else if k = 3 then Rcr :: (eT 5 e ++ (kL :: (bkT bd ++ [kR])))
  else if k = 4 then Rin :: Lib.itoa b :: (eT 5 e ++ [kS])
  else if k = 5 then [Rjr, Lib.itoa b, vT v, kS]
  else if k = 6 then [Rgq, kS]
  else Rga :: (eT 5 e ++ [kS])
def bkT : List Stm → List Tok
 | [] => []
 | s :: r => sT s ++ bkT r
end
theorem sT_eq (s : Stm) : sT s = if s.kind = 1 then vT s.var :: kE :: (eT 5 s.e ++ [kS])
  else if s.kind = 2 then kIf :: (eT 5 s.e ++ (kL :: (bkT s.body ++ [kR]))) ++ (if s.els.length = 0 then [] else Rfm :: kL :: (bkT s.els ++ [kR]))
  else if s.kind = 3 then Rcr :: (eT 5 s.e ++ (kL :: (bkT s.body ++ [kR])))
  else if s.kind = 4 then Rin :: Lib.itoa s.box :: (eT 5 s.e ++ [kS])
  else if s.kind = 5 then [Rjr, Lib.itoa s.box, vT s.var, kS]
  else if s.kind = 6 then [Rgq, kS]
  else Rga :: (eT 5 s.e ++ [kS]) := by cases s; simp only [sT]
theorem Rjc {s : Stm} (h : hdr s) :
  (s.kind = 1 ∧ 0 ≤ s.var ∧ s.var < 4 ∧ s.box = 0 ∧ Rar 5 s.e = true ∧ s.body = [] ∧ s.els = [] ∧ sT s = vT s.var :: kE :: (eT 5 s.e ++ [kS])) ∨
  (s.kind = 2 ∧ s.var = 0 ∧ s.box = 0 ∧ Rar 5 s.e = true ∧ sT s = kIf :: (eT 5 s.e ++ (kL :: (bkT s.body ++ [kR]))) ++ (if s.els.length = 0 then [] else Rfm :: kL :: (bkT s.els ++ [kR]))) ∨
  (s.kind = 3 ∧ s.var = 0 ∧ s.box = 0 ∧ Rar 5 s.e = true ∧ s.els = [] ∧ sT s = Rcr :: (eT 5 s.e ++ (kL :: (bkT s.body ++ [kR])))) ∨
  (s.kind = 4 ∧ s.var = 0 ∧ 0 ≤ s.box ∧ s.box < 3 ∧ Rar 5 s.e = true ∧ s.body = [] ∧ s.els = [] ∧ sT s = Rin :: Lib.itoa s.box :: (eT 5 s.e ++ [kS])) ∨
  (s.kind = 5 ∧ 0 ≤ s.var ∧ s.var < 4 ∧ 0 ≤ s.box ∧ s.box < 3 ∧ s.e = ⟨0, 0, []⟩ ∧ s.body = [] ∧ s.els = [] ∧ sT s = [Rjr, Lib.itoa s.box, vT s.var, kS]) ∨
  (s.kind = 6 ∧ s.var = 0 ∧ s.box = 0 ∧ s.e = ⟨0, 0, []⟩ ∧ s.body = [] ∧ s.els = [] ∧ sT s = [Rgq, kS]) ∨
  (s.kind = 7 ∧ s.var = 0 ∧ s.box = 0 ∧ Rar 5 s.e = true ∧ s.body = [] ∧ s.els = [] ∧ sT s = Rga :: (eT 5 s.e ++ [kS])) := by
 have z : ∀ {α : Type} {l : List α}, (l.length : Int) = 0 → l = [] := fun h => (len0 _).1 h
 have e0 : (s.e.op = 0 ∧ s.e.n = 0 ∧ (s.e.args.length : Int) = 0) → s.e = ⟨0, 0, []⟩ := by
  intro ⟨a, b, c⟩
  have := z c
  rw [← Rv s.e, a, b, this]
 rw [sT_eq]
 rcases h with ⟨k, a, b, c, d, e⟩ | ⟨k, a, b, c⟩ | ⟨k, a, b, c, d⟩ | ⟨k, a, b, c, d, e⟩ | ⟨k, a, b, c, d, e⟩ | ⟨k, a, b, c, d, e⟩ | ⟨k, a, b, c, d, e⟩
 ·exact Or.inl ⟨k, a.1, a.2, b, c, z d, z e, by rw [if_pos k]⟩
 ·exact Or.inr (Or.inl ⟨k, a, b, c, by rw [if_neg (by omega), if_pos k]⟩)
 ·exact Or.inr (Or.inr (Or.inl ⟨k, a, b, c, z d, by rw [if_neg (by omega), if_neg (by omega), if_pos k]⟩))
 ·exact Or.inr (Or.inr (Or.inr (Or.inl ⟨k, a, b.1, b.2, c, z d, z e, by rw [if_neg (by omega), if_neg (by omega), if_neg (by omega), if_pos k]⟩)))
 ·exact Or.inr (Or.inr (Or.inr (Or.inr (Or.inl ⟨k, a.1, a.2, b.1, b.2, e0 c, z d, z e, by rw [if_neg (by omega), if_neg (by omega), if_neg (by omega), if_neg (by omega), if_pos k]⟩))))
 ·exact Or.inr (Or.inr (Or.inr (Or.inr (Or.inr (Or.inl ⟨k, a, b, e0 c, z d, z e, by rw [if_neg (by omega), if_neg (by omega), if_neg (by omega), if_neg (by omega), if_neg (by omega), if_pos k]⟩)))))
 ·exact Or.inr (Or.inr (Or.inr (Or.inr (Or.inr (Or.inr ⟨k, a, b, c, z d, z e, by rw [if_neg (by omega), if_neg (by omega), if_neg (by omega), if_neg (by omega), if_neg (by omega), if_neg (by omega)]⟩)))))
theorem Rid : ∀ {d : Nat} {s : Stm}, sOk d s = true → hdr s
 | 0, s, h => by simp only [sOk, Zw, Ze] at h; exact h.1
 | d + 1, s, h => by simp only [sOk, Zw, Ze] at h; exact h.1
theorem Rjw : ∀ {d : Nat} {s : Stm}, sOk d s = true → s.kind = 2 ∨ s.kind = 3 → ∃ d', d = d' + 1 ∧ s.body.all (sOk d') = true ∧ s.els.all (sOk d') = true
 | 0, s, h, hk => by simp [sOk, hk] at h
 | d + 1, s, h, hk => by
  simp only [sOk, hk, if_true, Zw] at h
  exact ⟨d, rfl, h.2.1, h.2.2⟩
theorem Rgh (t : Tok) : wl [t] = t.length + 1 := by simp [wl]
theorem Reu (t : Tok) (l : List Tok) : wl (t :: l) = t.length + 1 + wl l := rfl
theorem Raau (l : List Tok) (c : Bool) : wl (wrp l c) ≤ wl l + 4 := by
 unfold wrp
 split
 ·rw [List.cons_append, Reu, Ree, Rgh]; have a : lp.length = 1 := rfl; have b : rp.length = 1 := rfl; omega
 ·omega
theorem Rzp {n : Int} (h1 : 1 ≤ n) (h2 : n ≤ 12) : (opT n).length ≤ 2 := by
 have : ∀ t ∈ opTs, t.length ≤ 2 := by decide
 exact this _ (Rxe h1 h2)
theorem eT_wl : ∀ (d : Nat) (e : Exp), Rar d e = true → 2 * (wl (eT d e) + 11) ≤ 17 * 2 ^ d
 | 0, e, h => by cases h
 | d + 1, e, h => by
  have h2 : 2 ^ (d + 1) = 2 * 2 ^ d := by rw [Nat.pow_succ]; omega
  have h1 : 1 ≤ 2 ^ d := Nat.one_le_two_pow
  rcases Rek h with h | h | ⟨h1', h2', _, a, b, hab, ha, hb⟩
  ·rw [Ruu h.1, Rgh]
   have := (Rvh h.2.2.1 h.2.2.2).2.2.2
   omega
  ·rw [Ruw h.1, Rgh]
   simp only [Zc, Zn]
   omega
  ·rw [Rsl h1' h2' hab, Ree, Ree, Rgh]
   have i1 := eT_wl d a ha
   have i2 := eT_wl d b hb
   have w1 := Raau (eT d a) (decide (lvE a < levN e.op.toNat))
   have w2 := Raau (eT d b) (decide (lvE b ≤ levN e.op.toNat))
   have := Rzp h1' h2'
   omega
theorem Roc {e : Exp} (h : Rar 5 e = true) : wl (eT 5 e) ≤ 261 := by have := eT_wl 5 e h; omega
theorem Rgi {n : Int} (h1 : 0 ≤ n) (h2 : n < 5) : (Lib.itoa n).length ≤ 5 ∧ tvb (Lib.itoa n) = true ∧ numV (Lib.itoa n) = n := by
 have h := Rvh h1 (show n ≤ 99999 by omega)
 refine ⟨h.2.2.2, h.1, ?_⟩
 have ha := h.2.1
 by_cases h0 : 0 ≤ numV (Lib.itoa n)
 ·have := Rpg ha h0
  injection this with _ this _
  exact this.symm
 ·have := (Rll ha h0).2
  injection this with this
  cases this
theorem Rgo {n : Int} (h1 : 0 ≤ n) (h2 : n < 4) : (vT n).length = 1 ∧ tvb (vT n) = true ∧ varV (vT n) = n := by
 have : n = 0 ∨ n = 1 ∨ n = 2 ∨ n = 3 := by omega
 rcases this with rfl | rfl | rfl | rfl <;> decide
theorem kws : kIf.length = 2 ∧ Rcr.length = 5 ∧ Rin.length = 4 ∧ Rjr.length = 4 ∧ Rgq.length = 5 ∧ Rga.length = 5 ∧ Rfm.length = 4 ∧ kBox.length = 3 ∧ Riz.length = 4 ∧ kL.length = 1 ∧ kR.length = 1 ∧ kS.length = 1 ∧ kE.length = 1 := by decide
theorem kwt : tvb kIf = true ∧ tvb Rcr = true ∧ tvb Rin = true ∧ tvb Rjr = true ∧ tvb Rgq = true ∧ tvb Rga = true ∧ tvb Rfm = true ∧ tvb kBox = true ∧ tvb Riz = true ∧ tvb kL = true ∧ tvb kR = true ∧ tvb kS = true ∧ tvb kE = true := by decide
theorem Rln {d : Nat} (ih : ∀ s, sOk d s = true → wl (sT s) ≤ 300 * cS s) : ∀ l : List Stm, l.all (sOk d) = true → wl (bkT l) ≤ 300 * cSs l
 | [], _ => by simp [bkT, wl]
 | s :: r, h => by
  simp only [List.all_cons, Zw] at h
  have h1 := ih s h.1
  have h2 := Rln ih r h.2
  simp only [bkT, cSs, Ree] at *; omega
theorem sT_wl : ∀ (d : Nat) (s : Stm), sOk d s = true → wl (sT s) ≤ 300 * cS s := by
 intro d
 induction d with
 | zero =>
  intro s h
  obtain ⟨q1, q2, q3, q4, q5, q6, q7, q8, q9, q10, q11, q12, q13⟩ := kws
  have hc := Rvr s
  rcases Rjc (Rid h) with ⟨k, a, b, _, c, _, _, e⟩ | ⟨k, _⟩ | ⟨k, _⟩ | ⟨k, _, a, b, c, _, _, e⟩ | ⟨k, a, b, a', b', _, _, _, e⟩ | ⟨k, _, _, _, _, _, e⟩ | ⟨k, _, _, c, _, _, e⟩
  ·have := Roc c; have := (Rgo a b).1; rw [e]; simp only [Reu, Ree, Rgh, wl] at *; omega
  ·exact absurd (Rjw h (Or.inl k)) (by rintro ⟨_, h, _⟩; cases h)
  ·exact absurd (Rjw h (Or.inr k)) (by rintro ⟨_, h, _⟩; cases h)
  ·have := Roc c; have := (Rgi a (by omega)).1; rw [e]; simp only [Reu, Ree, Rgh, wl] at *; omega
  ·have := (Rgo a b).1; have := (Rgi a' (by omega)).1; rw [e]; simp only [Reu, Ree, Rgh, wl] at *; omega
  ·rw [e]; simp only [Reu, Ree, Rgh, wl] at *; omega
  ·have := Roc c; rw [e]; simp only [Reu, Ree, Rgh, wl] at *; omega
 | succ d ih =>
  intro s h
  obtain ⟨q1, q2, q3, q4, q5, q6, q7, q8, q9, q10, q11, q12, q13⟩ := kws
  have hc := Rvr s
  rcases Rjc (Rid h) with ⟨k, a, b, _, c, _, _, e⟩ | ⟨k, _, _, c, e⟩ | ⟨k, _, _, c, _, e⟩ | ⟨k, _, a, b, c, _, _, e⟩ | ⟨k, a, b, a', b', _, _, _, e⟩ | ⟨k, _, _, _, _, _, e⟩ | ⟨k, _, _, c, _, _, e⟩
  ·have := Roc c; have := (Rgo a b).1; rw [e]; simp only [Reu, Ree, Rgh, wl] at *; omega
  ·obtain ⟨d', hd, hb, he⟩ := Rjw h (Or.inl k)
   have hd : d = d' := by omega
   subst hd
   have := Rln ih _ hb
   have := Rln ih _ he
   have := Roc c
   rw [e]
   split
   ·simp only [Reu, Ree, Rgh, wl] at *; omega
   ·simp only [Reu, Ree, Rgh, wl] at *; omega
  ·obtain ⟨d', hd, hb, he⟩ := Rjw h (Or.inr k)
   have hd : d = d' := by omega
   subst hd
   have := Rln ih _ hb
   have := Roc c
   rw [e]
   simp only [Reu, Ree, Rgh, wl] at *; omega
  ·have := Roc c; have := (Rgi a (by omega)).1; rw [e]; simp only [Reu, Ree, Rgh, wl] at *; omega
  ·have := (Rgo a b).1; have := (Rgi a' (by omega)).1; rw [e]; simp only [Reu, Ree, Rgh, wl] at *; omega
  ·rw [e]; simp only [Reu, Ree, Rgh, wl] at *; omega
  ·have := Roc c; rw [e]; simp only [Reu, Ree, Rgh, wl] at *; omega
theorem bT_wl {d : Nat} {l : List Stm} (h : l.all (sOk d) = true) : wl (bkT l) ≤ 300 * cSs l := Rln (sT_wl d) l h
theorem Rlm {d : Nat} (ih : ∀ s, sOk d s = true → ∀ t ∈ sT s, tvb t = true) : ∀ l : List Stm, l.all (sOk d) = true → ∀ t ∈ bkT l, tvb t = true
 | [], _ => by simp [bkT]
 | s :: r, h => by
  simp only [List.all_cons, Zw] at h
  intro t ht
  simp only [bkT, Zu] at ht
  rcases ht with ht | ht
  ·exact ih s h.1 t ht
  ·exact Rlm ih r h.2 t ht
theorem sT_tv : ∀ (d : Nat) (s : Stm), sOk d s = true → ∀ t ∈ sT s, tvb t = true := by
 intro d
 induction d with
 | zero =>
  intro s h t ht
  obtain ⟨q1, q2, q3, q4, q5, q6, q7, q8, q9, q10, q11, q12, q13⟩ := kwt
  rcases Rjc (Rid h) with ⟨k, a, b, _, c, _, _, e⟩ | ⟨k, _⟩ | ⟨k, _⟩ | ⟨k, _, a, b, c, _, _, e⟩ | ⟨k, a, b, a', b', _, _, _, e⟩ | ⟨k, _, _, _, _, _, e⟩ | ⟨k, _, _, c, _, _, e⟩
  ·rw [e] at ht
   simp only [Zo, Zu, List.not_mem_nil, or_false] at ht
   rcases ht with rfl | rfl | ht | rfl
   ·exact (Rgo a b).2.1
   ·exact q13
   ·exact (Rkr 5 _ c t ht).1
   ·exact q12
  ·exact absurd (Rjw h (Or.inl k)) (by rintro ⟨_, h, _⟩; cases h)
  ·exact absurd (Rjw h (Or.inr k)) (by rintro ⟨_, h, _⟩; cases h)
  ·rw [e] at ht
   simp only [Zo, Zu, List.not_mem_nil, or_false] at ht
   rcases ht with rfl | rfl | ht | rfl
   ·exact q3
   ·exact (Rgi a (by omega)).2.1
   ·exact (Rkr 5 _ c t ht).1
   ·exact q12
  ·rw [e] at ht
   simp only [Zo, List.not_mem_nil, or_false] at ht
   rcases ht with rfl | rfl | rfl | rfl
   ·exact q4
   ·exact (Rgi a' (by omega)).2.1
   ·exact (Rgo a b).2.1
   ·exact q12
  ·rw [e] at ht
   simp only [Zo, List.not_mem_nil, or_false] at ht
   rcases ht with rfl | rfl
   ·exact q5
   ·exact q12
  ·rw [e] at ht
   simp only [Zo, Zu, List.not_mem_nil, or_false] at ht
   rcases ht with rfl | ht | rfl
   ·exact q6
   ·exact (Rkr 5 _ c t ht).1
   ·exact q12
 | succ d ih =>
  intro s h t ht
  obtain ⟨q1, q2, q3, q4, q5, q6, q7, q8, q9, q10, q11, q12, q13⟩ := kwt
  rcases Rjc (Rid h) with ⟨k, a, b, _, c, _, _, e⟩ | ⟨k, _, _, c, e⟩ | ⟨k, _, _, c, _, e⟩ | ⟨k, _, a, b, c, _, _, e⟩ | ⟨k, a, b, a', b', _, _, _, e⟩ | ⟨k, _, _, _, _, _, e⟩ | ⟨k, _, _, c, _, _, e⟩
  ·rw [e] at ht
   simp only [Zo, Zu, List.not_mem_nil, or_false] at ht
   rcases ht with rfl | rfl | ht | rfl
   ·exact (Rgo a b).2.1
   ·exact q13
   ·exact (Rkr 5 _ c t ht).1
   ·exact q12
  ·obtain ⟨d', hd, hb, he⟩ := Rjw h (Or.inl k)
   have hd : d = d' := by omega
   subst hd
   rw [e] at ht
   rcases List.mem_append.1 ht with ht | ht
   ·simp only [Zo, Zu, List.not_mem_nil, or_false] at ht
    rcases ht with rfl | ht | rfl | ht | rfl
    ·exact q1
    ·exact (Rkr 5 _ c t ht).1
    ·exact q10
    ·exact Rlm ih _ hb t ht
    ·exact q11
   ·split at ht
    ·cases ht
    ·simp only [Zo, Zu, List.not_mem_nil, or_false] at ht
     rcases ht with rfl | rfl | ht | rfl
     ·exact q7
     ·exact q10
     ·exact Rlm ih _ he t ht
     ·exact q11
  ·obtain ⟨d', hd, hb, he⟩ := Rjw h (Or.inr k)
   have hd : d = d' := by omega
   subst hd
   rw [e] at ht
   simp only [Zo, Zu, List.not_mem_nil, or_false] at ht
   rcases ht with rfl | ht | rfl | ht | rfl
   ·exact q2
   ·exact (Rkr 5 _ c t ht).1
   ·exact q10
   ·exact Rlm ih _ hb t ht
   ·exact q11
  ·rw [e] at ht
   simp only [Zo, Zu, List.not_mem_nil, or_false] at ht
   rcases ht with rfl | rfl | ht | rfl
   ·exact q3
   ·exact (Rgi a (by omega)).2.1
   ·exact (Rkr 5 _ c t ht).1
   ·exact q12
  ·rw [e] at ht
   simp only [Zo, List.not_mem_nil, or_false] at ht
   rcases ht with rfl | rfl | rfl | rfl
   ·exact q4
   ·exact (Rgi a' (by omega)).2.1
   ·exact (Rgo a b).2.1
   ·exact q12
  ·rw [e] at ht
   simp only [Zo, List.not_mem_nil, or_false] at ht
   rcases ht with rfl | rfl
   ·exact q5
   ·exact q12
  ·rw [e] at ht
   simp only [Zo, Zu, List.not_mem_nil, or_false] at ht
   rcases ht with rfl | ht | rfl
   ·exact q6
   ·exact (Rkr 5 _ c t ht).1
   ·exact q12
theorem bT_tv {d : Nat} {l : List Stm} (h : l.all (sOk d) = true) : ∀ t ∈ bkT l, tvb t = true := Rlm (sT_tv d) l h
theorem Rwd {l : List Stm} {i : Nat} (hi : i < l.length) : bkT (l.drop i) = sT l[i] ++ bkT (l.drop (i + 1)) := by
 rw [List.drop_eq_getElem_cons hi]; simp only [bkT]
theorem sT_pos (s : Stm) : 1 ≤ (sT s).length := by
 rw [sT_eq]
 split
 ·simp
 ·split
  ·simp
  ·split
   ·simp
   ·split
    ·simp
    ·split
     ·simp
     ·split
      ·simp
      ·simp
theorem Raad : ∀ l : List Stm, l.length ≤ (bkT l).length
 | [] => Nat.zero_le _
 | s :: r => by have := Raad r; have := sT_pos s; simp only [bkT, Za, Zc]; omega
theorem Rog {l : List Stm} (hln : l.length ≤ 1000000) (h : ∀ s ∈ l, (sT s).length ≤ 15000 → Rdt s = some (sT s)) : ∀ (d i : Nat) (m : Bool) (o : List Tok), i + d = l.length → o.length + (bkT (l.drop i)).length ≤ 15000 →
  ∃ m', Rdh l m o i = some (m', o ++ bkT (l.drop i))
 | 0, i, m, o, hi, ho => by
  refine ⟨m, ?_⟩
  apply Rhr
  have h1 : ¬ ((i : Int) < l.length) := by omega
  simp only [h1, Zz, Zf]
  rw [List.drop_eq_nil_of_le (by omega)]; simp [bkT]
 | d + 1, i, m, o, hi, ho => by
  have h1 : ((i : Int) < l.length) := by omega
  have hl : i < l.length := by omega
  rw [Rwd hl, Za] at ho
  obtain ⟨m', h2⟩ := Rog hln h d (i + 1) true (o ++ sT l[i]) (by omega) (by rw [Za]; omega)
  refine ⟨m', ?_⟩
  apply Rhr
  simp only [h1, Zy, Zt, Rdk hl, Qb, Rdn]
  rw [h _ (List.getElem_mem hl) (by omega), Qb, Rbp (by omega), Qb, w1n (by omega), h2, Rwd hl, List.append_assoc]
theorem Rml {l : List Stm} (h : ∀ s ∈ l, (sT s).length ≤ 15000 → Rdt s = some (sT s)) (ho : (bkT l).length + 2 ≤ 15000) : Rcj l = some (kL :: (bkT l ++ [kR])) := by
 apply Rpa
 obtain ⟨m, h2⟩ := Rog (by have := Raad l; omega) h l.length 0 true ([[123]]) (by omega) (by simp only [Zc, Zn, List.drop_zero]; omega)
 rw [List.drop_zero] at h2
 rw [show Rdh l true ([[123]]) 0 = _ from h2, Qb]
 dsimp only
 rw [Rbp (by simp only [Za, Zc, Zn]; omega), Qb]
 simp [kL, kR]
theorem Rpv {e : Exp} (h : Rar 5 e = true) : Rcm ⟨e.op, e.n, e.args⟩ = some (eT 5 e) := by
 rw [Rv]; exact Rgm 5 e (Nat.le_refl _) h
theorem Rnj {e : Exp} (h : Rar 5 e = true) (o : List Tok) (ho : o.length + (eT 5 e).length ≤ 15000) : Rgd o ⟨e.op, e.n, e.args⟩ = some (o ++ eT 5 e ++ [kS]) := by
 apply Rqg
 dsimp only
 rw [Rpv h, Qb, Rbp (by omega), Qb, Rbp (by simp only [Za, Zc, Zn]; omega), Qb]; rfl
theorem vName {n : Int} (h1 : 0 ≤ n) (h2 : n < 4) : Res n = some (vT n) := by
 have := Rlw (v := n.toNat) (by omega)
 rw [show ((n.toNat : Nat) : Int) = n by omega] at this
 exact this
theorem dec5 {n : Int} (h1 : 0 ≤ n) (h2 : n < 5) : Rdj n = some (Lib.itoa n) := Rmq (by unfold wfI; omega)
theorem Rzt : ∀ (d : Nat) (s : Stm), sOk d s = true → (sT s).length ≤ 15000 → Rdt s = some (sT s) := by
  have main : ∀ (d : Nat), (∀ d', d = d' + 1 → ∀ s, sOk d' s = true → (sT s).length ≤ 15000 → Rdt s = some (sT s)) → ∀ s, sOk d s = true → (sT s).length ≤ 15000 → Rdt s = some (sT s) := by
    intro d ih s h ho
    have blk : ∀ (k : s.kind = 2 ∨ s.kind = 3) (l : List Stm), (l = s.body ∨ l = s.els) → (bkT l).length + 2 ≤ 15000 → Rcj l = some (kL :: (bkT l ++ [kR])) := by
      intro k l hl hlo
      obtain ⟨d', hd, hb, he⟩ := Rjw h k
      rw [List.all_eq_true] at hb he
      refine Rml (fun x hx ho => ih d' hd x ?_ ho) hlo
      rcases hl with rfl | rfl
      · exact hb x hx
      · exact he x hx
    apply Rqh
    rcases Rjc (Rid h) with ⟨k, a, b, _, c, _, _, e⟩ | ⟨k, _, _, c, e⟩ | ⟨k, _, _, c, _, e⟩ | ⟨k, _, a, b, c, _, _, e⟩ | ⟨k, a, b, a', b', _, _, _, e⟩ | ⟨k, _, _, _, _, _, e⟩ | ⟨k, _, _, c, _, _, e⟩
    · rw [e] at ho ⊢
      simp only [Zc, Za, Zn] at ho
      rw [Zp k, Zt, vName a b, Qb, Rnj c _ (by simp only [Zc, Zn]; omega), Qb]
      simp [kE]
    · rw [Zq (show ¬ s.kind = 1 by omega), Zf, Zq (show ¬ s.kind = 4 by omega), Zf, Zq (show ¬ s.kind = 7 by omega), Zf, Zq (show ¬ s.kind = 5 by omega), Zf, Zq (show ¬ s.kind = 6 by omega), Zf, Zq (show ¬ s.kind = 3 by omega), Zf]
      rw [e] at ho ⊢
      simp only [Zc, Za, Zn] at ho
      rw [Rpv c, Qb, Rbp (by simp only [Zc, Zn]; omega), Qb, blk (Or.inl k) s.body (Or.inl rfl) (by omega), Qb, Rbp (by simp only [Za, Zc, Zn]; omega), Qb]
      by_cases hz : s.els.length = 0
      · have hz' : (s.els.length : Int) = 0 := by omega
        rw [Zp hz', Zt, if_pos hz]
        simp [kIf]
      · have hz' : ¬ (s.els.length : Int) = 0 := by omega
        rw [if_neg hz] at ho
        simp only [Zc, Za, Zn] at ho
        rw [Zq hz', Zf, if_neg hz, Rbp (by simp only [Za, Zc, Zn]; omega), Qb,
          blk (Or.inl k) s.els (Or.inr rfl) (by omega), Qb, Rbp (by simp only [Za, Zc, Zn]; omega), Qb]
        simp [kIf, Rfm]
    · rw [Zq (show ¬ s.kind = 1 by omega), Zf, Zq (show ¬ s.kind = 4 by omega), Zf, Zq (show ¬ s.kind = 7 by omega), Zf, Zq (show ¬ s.kind = 5 by omega), Zf, Zq (show ¬ s.kind = 6 by omega), Zf, Zp k, Zt]
      rw [e] at ho ⊢
      simp only [Zc, Za, Zn] at ho
      rw [Rpv c, Qb, Rbp (by simp only [Zc, Zn]; omega), Qb, blk (Or.inr k) s.body (Or.inl rfl) (by omega), Qb, Rbp (by simp only [Za, Zc, Zn]; omega), Qb]
      simp [Rcr]
    · rw [Zq (show ¬ s.kind = 1 by omega), Zf, Zp k, Zt]
      rw [e] at ho ⊢
      simp only [Zc, Za, Zn] at ho
      rw [dec5 a (by omega), Qb, Rnj c _ (by simp only [Zc, Zn]; omega), Qb]
      simp [Rin]
    · rw [Zq (show ¬ s.kind = 1 by omega), Zf, Zq (show ¬ s.kind = 4 by omega), Zf, Zq (show ¬ s.kind = 7 by omega), Zf, Zp k, Zt]
      rw [e, dec5 a' (by omega), Qb, vName a b, Qb]; rfl
    · rw [Zq (show ¬ s.kind = 1 by omega), Zf, Zq (show ¬ s.kind = 4 by omega), Zf, Zq (show ¬ s.kind = 7 by omega), Zf, Zq (show ¬ s.kind = 5 by omega), Zf, Zp k, Zt]
      rw [e]; rfl
    · rw [Zq (show ¬ s.kind = 1 by omega), Zf, Zq (show ¬ s.kind = 4 by omega), Zf, Zp k, Zt]
      rw [e] at ho ⊢
      simp only [Zc, Za, Zn] at ho
      rw [Rnj c _ (by simp only [Zc, Zn]; omega), Qb]
      simp [Rga]
  intro d
  induction d with
  | zero => exact main 0 (fun d' h => by omega)
  | succ d ih => exact main (d + 1) (fun d' h => by have : d = d' := by omega
                                                    subst this; exact ih)
theorem spec_bT {d : Nat} {l : List Stm} (h : l.all (sOk d) = true) (ho : (bkT l).length + 2 ≤ 15000) : Rcj l = some (kL :: (bkT l ++ [kR])) :=
 Rml (fun s hs => Rzt d s (List.all_eq_true.1 h s hs)) ho
def bxT : List Int → List Tok
 | [] => []
 | n :: r => kBox :: Lib.itoa n :: kS :: bxT r
def tsT : List (List Stm) → List Tok
 | [] => []
 | l :: r => Riz :: kL :: (bkT l ++ kR :: tsT r)
def pT (p : Prg) : List Tok := bxT p.rooms ++ tsT p.tasks
theorem Ric {p : Prg} (h : Rdy p = true) : Rea p.rooms = true ∧ p.rooms.length ≤ 3 ∧ 1 ≤ p.tasks.length ∧ p.tasks.length ≤ 3 ∧ ∀ l ∈ p.tasks, l.all (sOk 3) = true ∧ cSs l ≤ 16 ∧ bSs p.rooms.length l = true := by
 simp only [Rdy, Zw, Ze] at h
 obtain ⟨⟨⟨a, b⟩, c, d⟩, e⟩ := h
 refine ⟨a, by omega, by omega, by omega, fun l hl => ?_⟩
 have := List.all_eq_true.1 e l hl
 simp only [stOk, Zw, Ze] at this
 exact ⟨this.1.1, by omega, this.2⟩
theorem Rmd {l : List Int} (h : Rea l = true) {n : Int} (hn : n ∈ l) : 1 ≤ n ∧ n ≤ 4 := by
 have := List.all_eq_true.1 h n hn
 simpa using this
theorem Rwh : ∀ l : List Int, (∀ n ∈ l, 1 ≤ n ∧ n ≤ 4) → wl (bxT l) ≤ 12 * l.length ∧ (∀ t ∈ bxT l, tvb t = true)
 | [], _ => ⟨Nat.le_refl _, by simp [bxT]⟩
 | n :: r, h => by
  obtain ⟨i1, i2⟩ := Rwh r (fun m hm => h m (List.mem_cons_of_mem _ hm))
  obtain ⟨a, b⟩ := h n (List.mem_cons_self ..)
  obtain ⟨c, d, _⟩ := Rgi (n := n) (by omega) (by omega)
  obtain ⟨_, _, _, _, _, _, _, q8, _, _, _, q12, _⟩ := kws
  obtain ⟨_, _, _, _, _, _, _, t8, _, _, _, t12, _⟩ := kwt
  refine ⟨by simp only [bxT, wl, Zc] at *; omega, ?_⟩
  intro t ht
  simp only [bxT, Zo] at ht
  rcases ht with rfl | rfl | rfl | ht
  ·exact t8
  ·exact d
  ·exact t12
  ·exact i2 t ht
theorem Raar : ∀ l : List (List Stm), (∀ x ∈ l, x.all (sOk 3) = true ∧ cSs x ≤ 16) → wl (tsT l) ≤ 4820 * l.length ∧ (∀ t ∈ tsT l, tvb t = true)
 | [], _ => ⟨Nat.le_refl _, by simp [tsT]⟩
 | x :: r, h => by
  obtain ⟨i1, i2⟩ := Raar r (fun m hm => h m (List.mem_cons_of_mem _ hm))
  obtain ⟨a, b⟩ := h x (List.mem_cons_self ..)
  have c := bT_wl a
  obtain ⟨_, _, _, _, _, _, _, _, q9, q10, q11, _, _⟩ := kws
  obtain ⟨_, _, _, _, _, _, _, _, t9, t10, t11, _, _⟩ := kwt
  refine ⟨by simp only [tsT, Reu, Ree, Zc] at *; omega, ?_⟩
  intro t ht
  simp only [tsT, Zo, Zu] at ht
  rcases ht with rfl | rfl | ht | rfl | ht
  ·exact t9
  ·exact t10
  ·exact bT_tv a t ht
  ·exact t11
  ·exact i2 t ht
theorem pT_ok {p : Prg} (h : Rdy p = true) : wl (pT p) ≤ 14600 ∧ ∀ t ∈ pT p, tvb t = true := by
 obtain ⟨a, b, _, c, d⟩ := Ric h
 obtain ⟨e1, e2⟩ := Rwh p.rooms (fun n hn => Rmd a hn)
 obtain ⟨f1, f2⟩ := Raar p.tasks (fun x hx => ⟨(d x hx).1, (d x hx).2.1⟩)
 refine ⟨by unfold pT; rw [Ree]; omega, fun t ht => ?_⟩
 rcases List.mem_append.1 ht with ht | ht
 ·exact e2 t ht
 ·exact f2 t ht
theorem Rzf {l : List Int} {i : Nat} (hi : i < l.length) : bxT (l.drop i) = kBox :: Lib.itoa l[i] :: kS :: bxT (l.drop (i + 1)) := by
 rw [List.drop_eq_getElem_cons hi]; simp only [bxT]
theorem Rzx {l : List (List Stm)} {i : Nat} (hi : i < l.length) : tsT (l.drop i) = Riz :: kL :: (bkT l[i] ++ kR :: tsT (l.drop (i + 1))) := by
 rw [List.drop_eq_getElem_cons hi]; simp only [tsT]
theorem Roh {l : List Int} {b1 : List (List Stm)} (hl : l.length ≤ 3) (hr : ∀ n ∈ l, 1 ≤ n ∧ n ≤ 4) : ∀ (d i : Nat) (m : Bool) (o : List Tok), i + d = l.length → o.length ≤ 100 + 3 * i →
  ∃ m', Rbs m o i l b1 = some ((m', o ++ bxT (l.drop i)), l, b1)
 | 0, i, m, o, hi, ho => by
  refine ⟨m, ?_⟩
  apply Rfk
  have h1 : ¬ ((i : Int) < l.length) := by omega
  simp only [h1, Zz, Zf]
  rw [List.drop_eq_nil_of_le (by omega)]; simp [bxT]
 | d + 1, i, m, o, hi, ho => by
  have h1 : ((i : Int) < l.length) := by omega
  have hlt : i < l.length := by omega
  obtain ⟨m', h2⟩ := Roh (b1 := b1) hl hr d (i + 1) true (o ++ [kBox, Lib.itoa l[i], kS]) (by omega) (by simp only [Za, Zc, Zn]; omega)
  refine ⟨m', ?_⟩
  apply Rfk
  obtain ⟨a, b⟩ := hr _ (List.getElem_mem hlt)
  simp only [h1, Zy, Zt, Rdk hlt, Qb]
  rw [dec5 (by omega) (by omega), Qb, Rbp (by simp only [Zc, Zn]; omega), Qb, w1n (by omega)]
  rw [show (o ++ [[98, 111, 120], Lib.itoa l[i], [59]] : List Tok) = o ++ [kBox, Lib.itoa l[i], kS] from rfl, h2, Rzf hlt]
  simp
theorem Rom {l : List (List Stm)} {b0 : List Int} (hl : l.length ≤ 3) (hr : ∀ x ∈ l, x.all (sOk 3) = true ∧ cSs x ≤ 16) : ∀ (d i : Nat) (m : Bool) (o : List Tok), i + d = l.length → o.length ≤ 100 + 4820 * i →
  ∃ m', Rbt m o i b0 l = some (m', o ++ tsT (l.drop i))
 | 0, i, m, o, hi, ho => by
  refine ⟨m, ?_⟩
  apply Rfl
  have h1 : ¬ ((i : Int) < l.length) := by omega
  simp only [h1, Zz, Zf]
  rw [List.drop_eq_nil_of_le (by omega)]; simp [tsT]
 | d + 1, i, m, o, hi, ho => by
  have h1 : ((i : Int) < l.length) := by omega
  have hlt : i < l.length := by omega
  obtain ⟨a, b⟩ := hr _ (List.getElem_mem hlt)
  have c := bT_wl a
  have c2 := Rsb (bkT l[i])
  obtain ⟨m', h2⟩ := Rom (b0 := b0) hl hr d (i + 1) true (o ++ [Riz] ++ kL :: (bkT l[i] ++ [kR])) (by omega) (by simp only [Za, Zc, Zn]; omega)
  refine ⟨m', ?_⟩
  apply Rfl
  simp only [h1, Zy, Zt, Rdk hlt, Qb]
  rw [Rbp (by simp only [Zc, Zn]; omega), Qb, spec_bT a (by omega), Qb, Rbp (by simp only [Za, Zc, Zn]; omega), Qb, w1n (by omega)]
  rw [show (o ++ [[116, 97, 115, 107]] : List Tok) = o ++ [Riz] from rfl, h2, Rzx hlt]
  simp
def pTxt (p : Prg) : List UInt8 := if Rdy p = true then jn (pT p) else []
theorem Rld {p : Prg} (hr : (p.rooms.length : Int) ≤ 4294967296) (hl : (p.tasks.length : Int) ≤ 4294967296) (hm : ∀ x ∈ p.tasks, mSs x ≤ 4294967296) : Rgk p = some (pTxt p) := by
 apply Rle
 rw [Rgs hr hl hm, Qb]
 unfold pTxt
 cases h : Rdy p with
 | false => rfl
 | true =>
  obtain ⟨a, b, _, c, d⟩ := Ric h
  obtain ⟨e, f⟩ := pT_ok h
  obtain ⟨m1, h1⟩ := Roh (b1 := p.tasks) b (fun n hn => Rmd a hn) p.rooms.length 0 true [] (by omega) (by simp)
  have hb := (Rwh p.rooms (fun n hn => Rmd a hn)).1
  have hb2 := Rsb (bxT p.rooms)
  obtain ⟨m2, h2⟩ := Rom (b0 := p.rooms) c (fun x hx => ⟨(d x hx).1, (d x hx).2.1⟩) p.tasks.length 0 m1 (bxT p.rooms) (by omega) (by omega)
  rw [List.drop_zero, List.nil_append] at h1
  rw [List.drop_zero] at h2
  simp only [Zv, Zf, if_true]
  rw [show Rbs true [] 0 p.rooms p.tasks = _ from h1, Qb]
  dsimp only
  rw [show Rbt m1 (bxT p.rooms) 0 p.rooms p.tasks = _ from h2, Qb]
  dsimp only
  rw [show bxT p.rooms ++ tsT p.tasks = pT p from rfl, Rnr (by omega), Qb, if_pos (List.all_eq_true.mpr f)]
theorem Rrm {e : Exp} (h : Rar 5 e = true) {u : List Tok} (hu : nlev u = 0) : ex1 (eT 5 e ++ u) = some (e, u) :=
 Raag (P_ext hu (Rzc h) e [] rfl)
theorem Rxb (u : List Tok) : nlev (kS :: u) = 0 := rfl
theorem Rxa (u : List Tok) : nlev (kL :: u) = 0 := rfl
theorem Ryi {s : Stm} (h : hdr s) : ∃ t r, sT s = t :: r ∧ t ≠ Rfm ∧ t ≠ kR := by
 rcases Rjc h with ⟨k, a, b, _, c, _, _, e⟩ | ⟨k, _, _, c, e⟩ | ⟨k, _, _, c, _, e⟩ | ⟨k, _, a, b, c, _, _, e⟩ | ⟨k, a, b, a', b', _, _, _, e⟩ | ⟨k, _, _, _, _, _, e⟩ | ⟨k, _, _, c, _, _, e⟩
 ·refine ⟨_, _, e, fun hh => ?_, fun hh => ?_⟩
  ·have := (Rgo a b).2.2
   rw [hh] at this
   have h2 : varV Rfm = -1 := by decide
   omega
  ·have := (Rgo a b).2.2
   rw [hh] at this
   have h2 : varV kR = -1 := by decide
   omega
 ·exact ⟨_, _, e, by decide, by decide⟩
 ·exact ⟨_, _, e, by decide, by decide⟩
 ·exact ⟨_, _, e, by decide, by decide⟩
 ·exact ⟨_, _, e, by decide, by decide⟩
 ·exact ⟨_, _, e, by decide, by decide⟩
 ·exact ⟨_, _, e, by decide, by decide⟩
theorem Rwu {d : Nat} (ih : ∀ s, sOk d s = true → ∀ u, nd Rfm u = none → G .st (sT s ++ u) (some ([s], u))) : ∀ (l : List Stm), l.all (sOk d) = true → ∀ (a : List Stm) (u : List Tok), G (.lp a) (bkT l ++ kR :: u) (some (a ++ l, u))
 | [], _, a, u => by
  rw [show bkT [] ++ kR :: u = kR :: u from rfl, List.append_nil]
  exact .lpS
 | s :: r, h, a, u => by
  simp only [List.all_cons, Zw] at h
  have h2 := Rwu ih r h.2 (a ++ [s]) u
  have hn : nd Rfm (bkT r ++ kR :: u) = none := by
   cases r with
   | nil => exact ndN (by decide)
   | cons s2 r2 =>
    have h3 := h.2
    simp only [List.all_cons, Zw] at h3
    obtain ⟨t, q, e, hne, _⟩ := Ryi (Rid h3.1)
    simp only [bkT]
    rw [e]
    exact ndN hne
  have h1 := ih s h.1 (bkT r ++ kR :: u) hn
  obtain ⟨t, q, e, _, hne⟩ := Ryi (Rid h.1)
  simp only [bkT]
  rw [e] at h1
  rw [List.append_assoc, e]
  rw [show a ++ s :: r = a ++ [s] ++ r by simp]
  exact .lpC hne h1 h2
theorem Rpl {d : Nat} (ih : ∀ s, sOk d s = true → ∀ u, nd Rfm u = none → G .st (sT s ++ u) (some ([s], u))) {l : List Stm} (h : l.all (sOk d) = true) (u : List Tok) : G .bk (kL :: (bkT l ++ kR :: u)) (some (l, u)) :=
 .bk (Rwu ih l h [] u)
theorem st_back : ∀ (d : Nat) (s : Stm), sOk d s = true → ∀ u, nd Rfm u = none → G .st (sT s ++ u) (some ([s], u)) := by
  have main : ∀ (d : Nat), (∀ d', d = d' + 1 → ∀ s, sOk d' s = true → ∀ u, nd Rfm u = none → G .st (sT s ++ u) (some ([s], u))) → ∀ s, sOk d s = true → ∀ u, nd Rfm u = none → G .st (sT s ++ u) (some ([s], u)) := by
    intro d ih s h u hu
    have et := Rzu s
    rcases Rjc (Rid h) with ⟨k, a, b, x, c, y, z, e⟩ | ⟨k, x, y, c, e⟩ | ⟨k, x, y, c, z, e⟩ | ⟨k, x, a, b, c, y, z, e⟩ | ⟨k, a, b, a', b', x, y, z, e⟩ | ⟨k, x, y, w, z, v, e⟩ | ⟨k, x, y, c, z, v, e⟩
    · have hv := (Rgo a b).2.2
      rw [e, show vT s.var :: kE :: (eT 5 s.e ++ [kS]) ++ u = vT s.var :: kE :: (eT 5 s.e ++ kS :: u) by simp]
      refine .smp (fun hh => ?_) (fun hh => ?_) ?_
      · rw [hh] at hv; have h2 : varV kIf = -1 := by decide
        omega
      · rw [hh] at hv; have h2 : varV Rcr = -1 := by decide
        omega
      · rw [Ryk (by omega) (Rrm c (Rxb u)), hv]
        rw [k, x, y, z] at et
        rw [et]
    · obtain ⟨d', hd, hb, he⟩ := Rjw h (Or.inl k)
      have ih' := ih d' hd
      rw [k, x, y] at et
      rw [e]
      by_cases hz : s.els.length = 0
      · rw [if_pos hz, show kIf :: (eT 5 s.e ++ kL :: (bkT s.body ++ [kR])) ++ [] ++ u = kIf :: (eT 5 s.e ++ kL :: (bkT s.body ++ kR :: u)) by simp]
        have := G.if1 (Rrm c (Rxa _)) (Rpl ih' hb u) hu
        rw [List.eq_nil_of_length_eq_zero hz] at et
        rw [et] at this
        exact this
      · rw [if_neg hz, show kIf :: (eT 5 s.e ++ kL :: (bkT s.body ++ [kR])) ++ Rfm :: kL :: (bkT s.els ++ [kR]) ++ u = kIf :: (eT 5 s.e ++ kL :: (bkT s.body ++ kR :: Rfm :: kL :: (bkT s.els ++ kR :: u))) by simp]
        have := G.if2 (Rrm c (Rxa _)) (Rpl ih' hb _) (Rpl ih' he u)
        rw [et] at this
        exact this
    · obtain ⟨d', hd, hb, he⟩ := Rjw h (Or.inr k)
      have ih' := ih d' hd
      rw [k, x, y, z] at et
      rw [e, show Rcr :: (eT 5 s.e ++ kL :: (bkT s.body ++ [kR])) ++ u = Rcr :: (eT 5 s.e ++ kL :: (bkT s.body ++ kR :: u)) by simp]
      have := G.wh (Rrm c (Rxa _)) (Rpl ih' hb u)
      rw [et] at this
      exact this
    · obtain ⟨_, _, hv⟩ := Rgi a (show s.box < 5 by omega)
      rw [e, show Rin :: Lib.itoa s.box :: (eT 5 s.e ++ [kS]) ++ u = Rin :: Lib.itoa s.box :: (eT 5 s.e ++ kS :: u) by simp]
      refine .smp (by decide) (by decide) ?_
      rw [Rvm (by omega) (Rrm c (Rxb u)), hv]
      rw [k, x, y, z] at et
      rw [et]
    · obtain ⟨_, _, hv⟩ := Rgi a' (show s.box < 5 by omega)
      have hw := (Rgo a b).2.2
      rw [e]
      refine .smp (by decide) (by decide) ?_
      show smp (Rjr :: Lib.itoa s.box :: vT s.var :: kS :: u) = _
      rw [Rvl u (by omega) (by omega), hv, hw]
      rw [k, x, y, z] at et
      rw [et]
    · rw [e]
      refine .smp (by decide) (by decide) ?_
      show smp (Rgq :: kS :: u) = _
      rw [Rtr]
      rw [k, x, y, w, z, v] at et
      rw [et]
    · rw [e, show Rga :: (eT 5 s.e ++ [kS]) ++ u = Rga :: (eT 5 s.e ++ kS :: u) by simp]
      refine .smp (by decide) (by decide) ?_
      rw [Rtq (Rrm c (Rxb u))]
      rw [k, x, y, z, v] at et
      rw [et]
  intro d
  induction d with
  | zero => exact main 0 (fun d' h => by omega)
  | succ d ih => exact main (d + 1) (fun d' h => by have : d = d' := by omega
                                                    subst this; exact ih)
theorem Rvp : ∀ (l : List (List Stm)), (∀ x ∈ l, x.all (sOk 3) = true) → ∀ a, TR a (tsT l) (some (a ++ l, []))
 | [], _, a => by rw [List.append_nil]; exact .stop rfl
 | x :: r, h, a => by
  have h1 := Rpl (st_back 3) (h x (List.mem_cons_self ..)) (tsT r)
  have h2 := Rvp r (fun y hy => h y (List.mem_cons_of_mem _ hy)) (a ++ [x])
  rw [show a ++ x :: r = a ++ [x] ++ r by simp]
  exact .go h1 h2
theorem tsT_box : ∀ l : List (List Stm), nd kBox (tsT l) = none
 | [] => rfl
 | x :: r => ndN (by decide)
theorem Ruo {u : List Tok} (hu : nd kBox u = none) : ∀ (l : List Int), (∀ n ∈ l, 1 ≤ n ∧ n ≤ 4) → ∀ a, BR a (bxT l ++ u) (some (a ++ l, u))
 | [], _, a => by rw [List.append_nil]; exact .stop hu
 | n :: r, h, a => by
  obtain ⟨h1, h2⟩ := h n (List.mem_cons_self ..)
  obtain ⟨_, _, hv⟩ := Rgi (n := n) (by omega) (by omega)
  have h3 := Ruo hu r (fun m hm => h m (List.mem_cons_of_mem _ hm)) (a ++ [n])
  rw [show a ++ n :: r = a ++ [n] ++ r by simp]
  have hn : nu (Lib.itoa n :: kS :: (bxT r ++ u)) = some (n, kS :: (bxT r ++ u)) := by rw [Rlc (by omega), hv]
  exact .go hn h3
theorem pT_back {p : Prg} (h : Rdy p = true) : PrF (pT p) p := by
 obtain ⟨a, b, _, c, d⟩ := Ric h
 exact ⟨tsT p.tasks, Ruo (tsT_box _) p.rooms (fun n hn => Rmd a hn) [], Rvp p.tasks (fun x hx => (d x hx).1) []⟩
theorem Rzr {p : Prg} (h : Rdy p = true) : Prm (pTxt p) p ∧ (pTxt p).length ≤ 14600 := by
 obtain ⟨e, f⟩ := pT_ok h
 have hl := Rzh (pT p)
 unfold pTxt
 rw [if_pos h]
 exact ⟨⟨by omega, ⟨_, Ruf _ f, pT_back h⟩, h⟩, by omega⟩
theorem Rzs (p : Prg) : (pTxt p).length ≤ 14600 := by
 by_cases h : Rdy p = true
 ·exact (Rzr h).2
 ·unfold pTxt; rw [if_neg h]; simp
theorem Rpx {n : Int} (hn : n ≤ 3) : ∀ (d : Nat) (i : Int) (f : Bool) (l : List Int) {b : List Int} {p m : Int}, n ≤ i + d → 0 ≤ i → i ≤ 10 - d → d ≤ 3 → (l.length : Int) ≤ i → Rd b p m → m + d ≤ 999990000 →
  Ok (Rei f l n i b p) fun r => Rd r.2.1 r.2.2 (m + d) ∧ r.1.2.length ≤ 10
 | 0, i, f, l, b, p, m, hd, h0, hi1, hd3, hl, hr, hm => by
  apply Ok.le (Rhv _ _ _ _ _ _)
  have : ¬ (i < n) := by omega
  simp only [this, Zz, Zf]
  exact Ok.of ⟨hr.mono (by omega), by dsimp only; omega⟩
 | d + 1, i, f, l, b, p, m, hd, h0, hi1, hd3, hl, hr, hm => by
  apply Ok.le (Rhv _ _ _ _ _ _)
  refine Ok.bif (fun hb => ?_) (fun hb => ?_)
  ·refine Ok.bnd (Rao hr (by omega) (by decide)) fun r1 h1 => ?_
   refine Ok.bnd (Rjv h1.2 (by omega) rfl) fun e he => ?_
   rw [Rcd (by omega), Qb, wrap_id (n := i + 1) (by omega) (by omega)]
   exact (Rpx hn d (i + 1) true (l ++ [e]) (by omega) (by omega) (by omega) (by omega) (by simp; omega) h1.1 (by omega)).mono fun r hr => ⟨hr.1.mono (by omega), hr.2⟩
  ·exact Ok.of ⟨hr.mono (by omega), by dsimp only; omega⟩
theorem Rti {b : List Int} {p m : Int} (h : Rd b p m) (hm : m ≤ 999900000) : Ok (Rjk b p) fun r => Rd r.2.1 r.2.2 (m + 4) ∧ r.1.length ≤ 10 := by
 apply Ok.le (Rpe b p)
 refine Ok.bnd (Rao h (by omega) (by decide)) fun r1 h1 => ?_
 refine Ok.bnd (Rjv h1.2 (by omega) rfl) fun e he => ?_
 have he3 : e ≤ 3 := by
  simp only [Zo, List.not_mem_nil, or_false] at he; omega
 refine Ok.bnd (Rpx he3 3 0 true [] (by omega) (by omega) (by omega) (by omega) (by simp) h1.1 (by omega)) fun r hr => ?_
 exact Ok.of ⟨hr.1.mono (by omega), hr.2⟩
theorem Ryo {b : List Int} {p : Int} : ∀ (d : Nat) (m : Md) (l : List Stm), l.length ≤ d → mSs l ≤ 1000000000 →
  Ok (Rej m l b p) fun r => r.2.1 = b ∧ r.2.2 = p ∧ mSs r.1.2 ≤ mSs l
 | d, m, l, hd, hl => by
  apply Ok.le (Rlh _ _ _ _)
  have hc := Rte l
  rw [Rjm (by omega), Qb]
  refine Ok.bif (fun hb => ?_) (fun hb => ?_)
  ·simp only [Ze] at hb
   have hm := Reo l
   have hpos : 0 < l.length := by
    cases l with
    | nil => simp [cSs] at hb
    | cons s r => simp
   rw [show wrap64 ((l.length : Int) - 1) = ((l.length - 1 : Nat) : Int) by rw [wrap_id (by omega) (by omega)]; omega,
    show cutL l (0 : Int) ((l.length - 1 : Nat) : Int) = some ((l.take (l.length - 1)).drop 0) from Rhb (Nat.zero_le _) (by omega), Qb, List.drop_zero]
   have ht := Rzl l (l.length - 1)
   match d, hd with
   | 0, hd => omega
   | d + 1, hd =>
    exact (Ryo d .share (l.take (l.length - 1)) (by rw [List.length_take]; omega) (by omega)).mono fun r hr => ⟨hr.1, hr.2.1, by have := hr.2.2; omega⟩
  ·exact Ok.of ⟨rfl, rfl, Nat.le_refl _⟩
theorem Rtj {b : List Int} {p m : Int} (a : Int) (ha : a ≤ 1000) (h : Rd b p m) (hm : m ≤ 999900000) : Ok (Rjl a b p) fun r => Rd r.2.1 r.2.2 (m + 23000) ∧ mSs r.1.2 ≤ 10000 := by
 apply Ok.le (Rpf a b p)
 have hcs : cs 3 = 3820 := by decide
 have hms : ms 3 = 1590 := by decide
 refine Ok.bnd (Rao h (by omega) (by decide)) fun r1 h1 => ?_
 have hk := h1.2.2.1 (by omega)
 rw [wrap_id (n := 1 + r1.1) (by omega) (by omega)]
 refine Ok.bnd (Rkv (Rsz 3 (by omega)) 6 (by omega) (by rw [hms]; omega) a (1 + r1.1) true ha (by omega) h1.1 (by rw [hcs]; omega)) fun r2 h2 => ?_
 rw [hcs, hms] at h2
 refine Ok.bnd (Ryo (b := r2.2.1) (p := r2.2.2) r2.1.length (.own true) r2.1 (Nat.le_refl _) (by have := h2.2; omega)) fun r3 h3 => ?_
 obtain ⟨e1, e2, h3m⟩ := h3
 refine Ok.of ⟨?_, by have := h2.2; dsimp only; omega⟩
 dsimp only
 rw [e1, e2]; exact h2.1.mono (by omega)
theorem Rlx {n : Int} {x0 : Bool} {l0 : List Int} {x1 : Hd} {rs : List Int} (hrs : rs.length ≤ 10) : ∀ (d : Nat) (i : Int) (ht : Hd) (ls : List (List Stm)) (B : List Ent) {b : List Int} {p m : Int}, n ≤ i + d → 0 ≤ i → i ≤ 10 - d → d ≤ 3 → (ls.length : Int) = i → (∀ x ∈ ls, mSs x ≤ 10000) → Got .stms [] ls ht B → Rd b p m → m + 23000 * d ≤ 999800000 →
  Ok (Rdp n i b p x0 l0 x1 rs ht B) fun r => Rd r.1 r.2.1 (m + 23000 * d) ∧ r.2.2.2.2.1 = rs ∧ ∃ ls', (ls'.length : Int) ≤ i + d ∧ n ≤ (ls'.length : Int) ∧ (∀ x ∈ ls', mSs x ≤ 10000) ∧ Got .stms [] ls' r.2.2.2.2.2.1 r.2.2.2.2.2.2
 | 0, i, ht, ls, B, b, p, m, hd, h0, hi1, hd3, hl, hm, hg, hrd, hb => by
  apply Ok.le (Rgf _ _ _ _ _ _ _ _ _ _)
  have : ¬ (i < n) := by omega
  simp only [this, Zz, Zf]
  exact Ok.of ⟨hrd.mono (by omega), rfl, ls, by omega, by omega, hm, hg⟩
 | d + 1, i, ht, ls, B, b, p, m, hd, h0, hi1, hd3, hl, hm, hg, hrd, hb => by
  apply Ok.le (Rgf _ _ _ _ _ _ _ _ _ _)
  refine Ok.bif (fun hc => ?_) (fun hc => ?_)
  ·refine Ok.bnd (Rtj ((rs.length : Nat) : Int) (by omega) hrd (by omega)) fun r1 h1 => ?_
   have hc2 := hg.cnt
   refine Ok.bnd (hg.app (ys := [r1.1.2]) (by rw [hc2]; simp only [Zc, Zn]; omega)) fun B2 hB2 => ?_
   rw [wrap_id (n := i + 1) (by omega) (by omega)]
   exact (Rlx hrs d (i + 1) _ (ls ++ [r1.1.2]) B2 (by omega) (by omega) (by omega) (by omega) (by simp; omega) (mem_add hm h1.2) hB2.1 h1.1 (by omega)).mono fun r hr' => ⟨hr'.1.mono (by omega), hr'.2.1, (let ⟨ls', q1, q0, q2, q3⟩ := hr'.2.2; ⟨ls', by omega, q0, q2, q3⟩)⟩
  ·simp only [decide_eq_false_iff_not] at hc
   exact Ok.of ⟨hrd.mono (by omega), rfl, ls, by omega, by omega, hm, hg⟩
theorem Rqu {b : List Int} {p m : Int} (h : Rd b p m) (hm : m ≤ 999000000) : Ok (Rhu b p) fun r => Rd r.2.1 r.2.2 (m + 80000) ∧ r.1.rooms.length ≤ 10 ∧ r.1.tasks.length ≤ 10 ∧ ∀ x ∈ r.1.tasks, mSs x ≤ 10000 := by
 apply Ok.le (Rms b p)
 refine Ok.bnd (Rti h (by omega)) fun r1 h1 => ?_
 refine Ok.bnd (Rao h1.1 (by omega) (by decide)) fun r2 h2 => ?_
 have hk := h2.2.2.1 (by omega)
 rw [wrap_id (n := 1 + r2.1) (by omega) (by omega)]
 have hg : Got .stms [] [] ⟨some (List.length ([] : List Ent)), 0⟩ (Qaq ([] : List Ent) .stms ([] : List (List Stm))) := Got.push (c := .stms) (l := ([] : List (List Stm))) (Ext.refl _ _)
 refine Ok.bnd (Rlx (x0 := false) (l0 := []) (x1 := ⟨none, 0⟩) h1.2 3 0 _ [] _ (by omega) (by omega) (by omega) (by omega) (by simp) (by simp) hg h2.1 (by omega)) fun r3 h3 => ?_
 obtain ⟨h3r, e3, ls, hl, hl1, hms, h3g⟩ := h3
 refine Ok.bnd (Rao h3r (by omega) (by decide)) fun r4 h4 => ?_
 refine Ok.bif (fun _ => ?_) (fun _ => ?_)
 ·refine Ok.bnd (Rsq h4.1 (by omega)) fun r5 h5 => ?_
  have hc := h3g.cnt
  obtain ⟨k, hk0⟩ : ∃ k, ls[0]? = some k := ⟨ls[0]'(by omega), List.getElem?_eq_getElem (by omega)⟩
  rw [idxN_eq (by omega) (by omega), Qb, h3g.row (i := (0 : Int).toNat) hk0, Qb]
  have hset := Got.set (i := (0 : Int).toNat) (x := ([⟨r5.1.kind, r5.1.var, r5.1.box, ⟨r5.1.e.op, r5.1.e.n, r5.1.e.args⟩, r5.1.body, r5.1.els⟩] : List Stm)) h3g
  rw [arView_stms, hset.get, Qb]
  have hsz := h5.2
  rw [Rss, Rlp] at hsz
  refine Ok.of ⟨h5.1.mono (by omega), by dsimp only; rw [e3]; exact h1.2, by dsimp only; rw [List.length_set]; omega, ?_⟩
  dsimp only
  exact mem_set hms (by simp only [mSs, Rno]; omega)
 ·rw [arView_stms, h3g.get, Qb]
  refine Ok.of ⟨h4.1.mono (by omega), by dsimp only; rw [e3]; exact h1.2, by dsimp only; omega, hms⟩
theorem Rlj {a : List Int} (h : wfBs a) : Ok (Rct a) fun s => s.length ≤ 15000 := by
 apply Ok.le (Rjd a)
 refine Ok.bnd (open_ok h) fun r1 h1 => ?_
 refine Ok.bnd (Rqu h1 (by omega)) fun r2 h2 => ?_
 obtain ⟨h2r, p1, p2, p3⟩ := h2
 rw [Rld (by omega) (by omega) (fun x hx => by have := p3 x hx; omega), Qb]
 have hl := Rzs r2.1
 generalize pTxt r2.1 = w at hl
 refine Ok.bnd (Rao h2r (by omega) (by decide)) fun r4 h4 => ?_
 refine Ok.bif (fun _ => ?_) (fun _ => ?_)
 ·refine Ok.bnd (of_ok h4.1 (by omega) (by decide) (by decide)) fun r5 h5 => ?_
  have h6 : r5.1.length ≤ 30 := by
   have : ∀ x ∈ ([[32, 116, 97, 115, 107, 32, 123, 32, 125], [32, 125], [59], [32, 116, 97, 115, 107, 32, 123], [10], [32, 98, 111, 120, 32, 49, 32, 59]] : List (List UInt8)), x.length ≤ 30 := by decide
   exact this _ h5.2
  rw [Rfw (by omega), Qb]
  exact Ok.of (by rw [Za]; omega)
 refine Ok.bif (fun _ => ?_) (fun _ => ?_)
 ·rw [wrap_id (n := (w.length : Int) + 1) (by omega) (by omega)]
  refine Ok.bnd (Rao h4.1 (by omega) (by unfold wfI; omega)) fun r7 h7 => ?_
  have hk := h7.2.2.1 (by omega)
  have h0 := h7.2.1
  rw [show cutL w 0 r7.1 = some ((w.take r7.1.toNat).drop 0) from by
   have := Rhb (l := w) (lo := 0) (hi := r7.1.toNat) (Nat.zero_le _) (by omega)
   rw [show ((r7.1.toNat : Nat) : Int) = r7.1 by omega] at this
   exact this, Qb, List.drop_zero]
  exact Ok.of (by rw [List.length_take]; omega)
 refine Ok.bif (fun _ => ?_) (fun _ => ?_)
 ·refine Ok.bnd (of_ok h4.1 (by omega) (by decide) (by decide)) fun r9 h9 => ?_
  have h6 : r9.1.length ≤ 60 := by
   have : ∀ x ∈ ([[116, 97, 115, 107, 123, 125], [116, 97, 115, 107, 123, 121, 105, 101, 108, 100, 59, 121, 105, 101, 108, 100, 59, 125], [116, 97, 115, 107, 32, 123, 32, 115, 101, 110, 100, 32, 48, 32, 40, 97, 41, 32, 59, 32, 114, 101, 99, 118, 32, 48, 32, 98, 32, 59, 32, 125], [116, 97, 115, 107, 32, 123, 32, 105, 102, 32, 97, 32, 123, 32, 125, 32, 101, 108, 115, 101, 32, 123, 32, 125, 32, 125], [116, 97, 115, 107, 32, 123, 32, 112, 114, 105, 110, 116, 32, 51], [116, 97, 115, 107, 32, 123, 32, 114, 101, 99, 118, 32, 49, 32, 97, 32, 59, 32, 125], [116, 97, 115, 107, 32, 123, 32, 101, 32, 61, 32, 49, 32, 59, 32, 125]] : List (List UInt8)), x.length ≤ 60 := by decide
   exact this _ h9.2
  rw [Rfw (by simp only [Zc, Zn]; omega), Qb]
  exact Ok.of (by simp only [Za, Zc, Zn]; omega)
 ·exact Ok.of (by omega)
theorem Rmg {l : List (List Stm)} {r r2 : List Int} (hl : (l.length : Int) ≤ 4294967296) (hm : ∀ x ∈ l, mSs x ≤ 4294967296) : ∀ (d i : Nat), i + d = l.length → Rdc i r l r2 l = some (.inl ())
 | 0, i, hd => by
  apply Rfj
  have hi : ¬ ((i : Int) < l.length) := by omega
  simp [hi]
 | d + 1, i, hd => by
  apply Rfj
  have hi : i < l.length := by omega
  have hi' : (i : Int) < l.length := by omega
  have ht := hm _ (List.getElem_mem hi)
  simp only [hi', Zy, Zt, Rbd hi, Qb, Rlb ht, Zv, Zf, Rda (show (i : Int) < 9223372036854775807 by omega)]
  exact Rmg hl hm d (i + 1) (by omega)
def midP (p : Prg) : Prop := p.rooms.length ≤ 1000000 ∧ p.tasks.length ≤ 1000000 ∧ ∀ x ∈ p.tasks, mSs x ≤ 1000000
theorem Rgb {p : Prg} (h : midP p) : Raa p p = some true := by
 obtain ⟨h1, h2, h3⟩ := h
 apply Rla
 rw [Rlz (by omega), Qb]
 simp only [Zv, Zf, Zy]
 rw [show (0 : Int) = ((0 : Nat) : Int) by rfl, Rmg (by omega) (fun x hx => by have := h3 x hx; omega) p.tasks.length 0 (by omega), Qb]
 rfl
theorem Prm_mid {s : List UInt8} {p : Prg} (h : Prm s p) : midP p := by
 obtain ⟨hl, ⟨t, ht, hp⟩, _⟩ := h
 have := Rpj ht
 obtain ⟨a, b, c⟩ := Rvz hp 40000 (by omega)
 exact ⟨by omega, by omega, fun x hx => by have := c x hx; omega⟩
theorem Rwa {s : List UInt8} (h : ∀ p, ¬ Prm s p) : Rj s = some (⟨[], []⟩, false) := by
 rcases impl_pf s with ⟨q, hq, _⟩ | ⟨_, h1⟩
 ·exact absurd hq (h q)
 ·exact h1
theorem Ryj : Raa (⟨[], []⟩ : Prg) (⟨[], []⟩ : Prg) = some true := Rgb ⟨by simp, by simp, by simp⟩
theorem Rzz : ∀ {a : List Int} {l : List Tok} {o}, BR a l o → ∀ b r, o = some (b, r) → nd kBox r = none := by
 intro a l o h
 induction h with
 | stop h => intro b r ho; injection ho with ho; injection ho with _ c; subst c; exact h
 | go h1 h2 ih => intro b r ho; exact ih b r ho
 | bad h => intro b r ho; cases ho
theorem Rzy (x : List Tok) : ∀ {a : List Int} {l : List Tok} {o}, BR a l o → ∀ b r, o = some (b, r) → nd kBox (r ++ x) = none → BR a (l ++ x) (some (b, r ++ x)) := by
 intro a l o h
 induction h with
 | stop h => intro b r ho hx; injection ho with ho; injection ho with a c; subst a c; exact .stop hx
 | @go a l r' n o h1 h2 ih =>
  intro b r ho hx
  obtain ⟨u, hu, h0, hn⟩ := Rju h1
  subst hu hn
  exact .go (Rlc h0 _) (ih b r ho hx)
 | bad h => intro b r ho; cases ho
theorem Rwb {x : List Tok} : ∀ {a : List (List Stm)} {l : List Tok} {o}, TR a l o → ∀ b o2, o = some (b, []) → TR b x o2 → TR a (l ++ x) o2 := by
 intro a l o h
 induction h with
 | stop h => intro b o2 ho hx; injection ho with ho; injection ho with a c; subst a c; exact hx
 | go h1 h2 ih => intro b o2 ho hx; exact .go (G_ext x h1 _ _ rfl (fun h => by cases h)) (ih b o2 ho hx)
 | bad h => intro b o2 ho; cases ho
theorem TR_nil {a b : List (List Stm)} {r : List Tok} (h : TR a [] (some (b, r))) : a = b := by
 cases h with
 | stop _ => rfl
theorem Rvy {t l : List Tok} {p : Prg} (h : Rdy p = true) (h2 : TR [] l (some (p.tasks, []))) : ∃ u r, l = u :: r := by
 cases l with
 | nil =>
  have := TR_nil h2
  have h3 := (Ric h).2.2.1
  rw [← this] at h3
  simp at h3
 | cons u r => exact ⟨u, r, rfl⟩
theorem Rww {k u : Tok} {r : List Tok} (h : nd k (u :: r) = none) (x : List Tok) : nd k (u :: r ++ x) = none := Rwx h x
theorem Rzk {a : List Int} (h : wfBs a) {F : List UInt8 → Prg → Option Bool} (hF : ∀ s p, s.length ≤ 15000 → Prm s p → Ok (F s p) fun r => r = true) :
  Ok (bif (decide (1048576 < (a.length : Int))) then some true else
   bnd (Rct a) fun r1 => bnd (Rj r1) fun r2 => bnd (Rbk r1) fun r3 =>
   (bif (!(r2.2 == r3.2)) then (bif (r2.2 == r3.2) then bnd (Raa r2.1 r3.1) fun r4 => some r4 else some false) else
   bnd (Raa r2.1 r3.1) fun r5 =>
   (bif (!r5) then (bif (r2.2 == r3.2) then bnd (Raa r2.1 r3.1) fun r6 => some r6 else some false) else
   (bif (!r2.2) then (bif (r2.2 == r3.2) then bnd (Raa r2.1 r3.1) fun r7 => some r7 else some false) else F r1 r2.1)))) fun r => r = true := by
 refine Ok.bif (fun _ => Ok.of rfl) (fun _ => ?_)
 refine Ok.bnd (Rlj h) fun s hs => ?_
 rcases pf_all s with ⟨p, hp, h1, h2⟩ | ⟨_, h1, h2⟩
 ·rw [h1, Qb, h2, Qb]
  simp only [beq_self_eq_true, Zv, Zf, Rgb (Prm_mid hp), Qb]
  exact hF s p hs hp
 ·rw [h1, Qb, h2, Qb]
  simp only [beq_self_eq_true, Zv, Zx, Zf, Zt, Ryj, Qb]
  exact Ok.of rfl
theorem toks_wl {s : List UInt8} {t : List Tok} (h : toks s = some t) : wl t ≤ 2 * s.length :=
 Rkj (Q := fun s t => wl t ≤ 2 * s.length) (Nat.zero_le _) (fun c r t _ _ ih => by simp only [Zc]; omega) (fun c r t _ hl _ ih => by
  rw [List.length_drop] at ih
  have := Rkf (c :: r)
  simp only [wl, List.length_take]
  omega) s.length s t (Nat.le_refl _) h
theorem laws_FnSourceEnd_eq (a : List Int) (h : wfBs a) : laws_FnSourceEnd a = some true := by
 apply Rkz
 apply Ok.some
 refine Rzk h (F := fun r1 r2 => bnd (Rhd r1) fun r8 =>
  bnd (cutL r8.1 0 (wrap64 ((r8.1.length : Int) - 1))) fun l9 =>
  bnd (Rfa l9) fun r10 =>
  bnd (Rj r10) fun r11 =>
  bnd (catS r1 ([32, 59])) fun s12 =>
  bnd (Rj s12) fun r13 =>
  (bif r8.2 then (bif (!r11.2) then some (!r13.2) else some false) else some false)) (fun s p hs hp => ?_)
 have ho := hp.2.2
 obtain ⟨_, ⟨t, ht, l, h1, h2⟩, _⟩ := hp
 have hpf : PrF t p := ⟨l, h1, h2⟩
 obtain ⟨u, r, hl⟩ := Rvy (t := t) ho h2
 have sf := (Rtd h1 _ _ rfl).1
 have hpos : 1 ≤ t.length := by
  obtain ⟨q, hq⟩ := sf
  rw [hq, hl, Za, Zc]; omega
 have hlen := Rpj ht
 rw [Rcq, if_neg (by omega), ht, Qb]
 dsimp only
 rw [show wrap64 ((t.length : Int) - 1) = ((t.length - 1 : Nat) : Int) by rw [wrap_id (by omega) (by omega)]; omega,
  show cutL t (0 : Int) ((t.length - 1 : Nat) : Int) = some ((t.take (t.length - 1)).drop 0) from Rhb (Nat.zero_le _) (by omega), Qb, List.drop_zero]
 have hw := toks_wl ht
 have hw2 := Ryw t (t.length - 1)
 rw [Rnf (by omega), Qb]
 obtain ⟨x, hx⟩ : ∃ x, t = t.take (t.length - 1) ++ [x] := by
  refine ⟨t[t.length - 1]'(by omega), ?_⟩
  have h5 := List.take_succ_eq_append_getElem (show t.length - 1 < t.length by omega)
  rw [show t.length - 1 + 1 = t.length by omega, List.take_length] at h5
  exact h5
 have cut : ∀ q, PrF (t.take (t.length - 1)) q → Rdy q = true → False := by
  rintro q ⟨m, g1, g2⟩ hq
  obtain ⟨v, m', hm⟩ := Rvy (t := t) hq g2
  have ge := Rzz g1 _ _ rfl
  have g3 := Rzy [x] g1 _ _ rfl (by subst hm; exact Rww ge _)
  rw [← hx] at g3
  have e1 := Rli h1 _ g3
  injection e1 with e1; injection e1 with _ e1
  by_cases hxt : x = Riz
  ·have g4 : TR q.tasks [x] none := by rw [hxt]; exact .bad (.bk0 rfl)
   have g5 := Rwb g2 _ _ rfl g4
   rw [← e1] at g5
   have := Rob h2 _ g5
   cases this
  ·have g4 : TR q.tasks [x] (some (q.tasks, [x])) := .stop (ndN hxt)
   have g5 := Rwb g2 _ _ rfl g4
   rw [← e1] at g5
   have := Rob h2 _ g5
   injection this with this; injection this with _ this; cases this
 have n1 : ∀ q, ¬ Prm (if (t.take (t.length - 1)).all tvb = true then jn (t.take (t.length - 1)) else []) q := by
  rintro q ⟨_, ⟨t', ht', hq⟩, hq2⟩
  split at ht'
  ·rename_i hall
   rw [Ruf _ (List.all_eq_true.1 hall)] at ht'
   injection ht' with ht'; subst ht'
   exact cut q hq hq2
  ·rw [Rkk] at ht'
   injection ht' with ht'; subst ht'
   obtain ⟨m, g1, g2⟩ := hq
   obtain ⟨v, m', hm⟩ := Rvy (t := t) hq2 g2
   obtain ⟨⟨z, hz⟩, _⟩ := Rtd g1 _ _ rfl
   rw [hm] at hz
   have := congrArg List.length hz
   simp at this
 have n2 : ∀ q, ¬ Prm (s ++ [32, 59]) q := by
  rintro q ⟨_, ⟨t', ht', m, g1, g2⟩, hq2⟩
  rw [Rzv fin_sp [59] s t ht, Ryt, show toks [59] = some [kS] from Rvo (by decide)] at ht'
  injection ht' with ht'; subst ht'
  have ge := Rzz h1 _ _ rfl
  have g3 := Rzy [kS] h1 _ _ rfl (by subst hl; exact Rww ge _)
  have e1 := Rli g1 _ g3
  injection e1 with e1; injection e1 with _ e1
  have g5 := Rwb h2 _ _ rfl (TR.stop (a := p.tasks) (l := [kS]) rfl)
  rw [← e1] at g5
  have := Rob g2 _ g5
  injection this with this; injection this with _ this; cases this
 rw [Rwa n1, Qb, Rfw (by simp only [Zc, Zn]; omega), Qb, Rwa n2, Qb]
 exact Ok.of rfl
end Go.TFnSourceEnd