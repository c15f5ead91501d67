/- The plain law: what the functions answer. -/
import Derived.Test.YthmemaednlaanacGreatDoorDFnSourceFromE0
import Derived.Test.YthmemaednlaanacGreatDoorDFnSourceFromE1
import Derived.Test.YthmemaednlaanacGreatDoorDFnSourceFromE2
import Derived.Test.YthmemaednlaanacGreatDoorLkA
import Derived.Lib.ItoaLen
set_option linter.unusedVariables false
set_option linter.unusedSimpArgs false
namespace Go.TFnSourceFrom
open Go Go.RowKit Go.Vs Go.Tv
theorem Rei (a b c : Int) : Rer a b c = some (decide (b ≤ a ∧ a ≤ c)) := by
 apply Ruw
 by_cases h : b ≤ a <;> simp [h]
theorem Rhz (a : Int) : Rgt a = some (decide (1 ≤ a ∧ a ≤ 12)) := by
 apply Rrd; simp [Rei]
theorem Rhr (a : Int) : Rgn a = some (decide (1 ≤ a ∧ a ≤ 12)) := by
 apply Rqn
 by_cases h : 1 ≤ a <;> simp [h]
def Rd (b : List Int) (p m : Int) : Prop := (∀ x ∈ b, 0 ≤ x ∧ x ≤ 255) ∧ (b.length : Int) ≤ 2000 ∧ 0 ≤ p ∧ p ≤ m
theorem Rd.mono {b : List Int} {p m n : Int} (h : Rd b p m) (hm : m ≤ n) : Rd b p n := ⟨h.1, h.2.1, h.2.2.1, by have := h.2.2.2; omega⟩
theorem open_ok {a : List Int} (h : wfBs a) : Ok (Rlw a) fun r => Rd r.1 r.2 0 := by
 apply Ok.le (Rsj a)
 refine Ok.bif (fun hb => ?_) (fun hb => ?_)
 ·simp only [Ze] at hb
  have : cutL a 0 2000 = some (a.take 2000) := by
   unfold cutL
   rw [if_pos (by omega)]
   simp
  rw [this]
  refine Ok.of ⟨fun x hx => h x (List.mem_of_mem_take hx), ?_, by omega, by omega⟩
  simp only [List.length_take]; omega
 ·simp only [decide_eq_false_iff_not] at hb
  exact Ok.of ⟨h, (by show (a.length : Int) ≤ 2000; omega), by omega, by omega⟩
theorem Rzu {b : List Int} (h : ∀ x ∈ b, 0 ≤ x ∧ x ≤ 255) {n : Int} (h0 : 0 ≤ n) (h1 : n < b.length) : Ok (geti b n) fun x => 0 ≤ x ∧ x ≤ 255 :=
 (Ok.geti h0 h1).mono fun x hx => h x hx.1
theorem Rar {b : List Int} {p m n : Int} (h : Rd b p m) (hm : m ≤ 1000000000) (hn : wfI n) :
  Ok (Rb n b p) fun r => Rd r.2.1 r.2.2 (m + 1) ∧ 0 ≤ r.1 ∧ (1 ≤ n → r.1 < n) ∧ (n < 1 → r.1 = 0) := by
 obtain ⟨h1, h2, h3, h4⟩ := h
 obtain ⟨n1, n2⟩ := hn
 apply Ok.le (Roo n b p)
 have e1 : wrap64 (p + 1) = p + 1 := wrap_id (by omega) (by omega)
 have e2 : wrap64 (p + 1 - 1) = p := by rw [show p + 1 - 1 = p by omega]; exact wrap_id (by omega) (by omega)
 rw [e1, e2]
 have hR : Rd b (p + 1) (m + 1) := ⟨h1, h2, by omega, by omega⟩
 refine Ok.bif (fun hb => ?_) (fun hb => ?_)
 ·simp only [Ze] at hb
  exact Ok.of ⟨hR, by omega, by omega, by omega⟩
 simp only [decide_eq_false_iff_not] at hb
 refine Ok.bif (fun hc => ?_) (fun hc => ?_)
 ·exact Ok.of ⟨hR, by omega, by omega, by omega⟩
 simp only [decide_eq_false_iff_not] at hc
 refine Ok.bif (fun hd => ?_) (fun hd => ?_)
 ·simp only [Ze] at hd
  refine Ok.bnd (Rzu h1 h3 hd) fun x hx => ?_
  rw [wrap_id (by omega) (by omega), remI_pos (by omega)]
  have := tmod_range (y := n) hx.1 (by omega)
  exact Ok.of ⟨hR, this.1, fun _ => this.2, by omega⟩
 ·simp only [decide_eq_false_iff_not] at hd
  have hl : 0 < (b.length : Int) := by omega
  rw [remI_pos (by omega), Qb]
  have t1 := tmod_range (x := p) h3 hl
  refine Ok.bnd (Rzu h1 t1.1 t1.2) fun x hx => ?_
  have e3 : wrap64 (p * 7) = p * 7 := wrap_id (by omega) (by omega)
  have e4 : wrap64 (p * 7 + 3) = p * 7 + 3 := wrap_id (by omega) (by omega)
  rw [e3, e4, remI_pos (by omega), Qb]
  have t2 := tmod_range (x := p * 7 + 3) (by omega) hl
  refine Ok.bnd (Rzu h1 t2.1 t2.2) fun y hy => ?_
  rw [quoI_pos (by omega), Qb]
  have q0 : 0 ≤ p.tdiv b.length ∧ p.tdiv b.length ≤ p := by
   rw [Int.tdiv_eq_ediv_of_nonneg h3]
   exact ⟨Int.ediv_nonneg h3 (by omega), Int.ediv_le_self _ h3⟩
  generalize hq : p.tdiv b.length = q at q0
  have hx2 : wrap64 x = x := wrap_id (by omega) (by omega)
  have hy2 : wrap64 y = y := wrap_id (by omega) (by omega)
  have hq2 : wrap64 q = q := wrap_id (by omega) (by omega)
  rw [hx2, hy2, hq2]
  have f1 : wrap64 (x * 131) = x * 131 := wrap_id (by omega) (by omega)
  have f2 : wrap64 (y * 1117) = y * 1117 := wrap_id (by omega) (by omega)
  have f3 : wrap64 (p * 29) = p * 29 := wrap_id (by omega) (by omega)
  have f4 : wrap64 (q * 53) = q * 53 := wrap_id (by omega) (by omega)
  rw [f1, f2, f3, f4]
  have f5 : wrap64 (x * 131 + y * 1117) = x * 131 + y * 1117 := wrap_id (by omega) (by omega)
  rw [f5]
  have f6 : wrap64 (x * 131 + y * 1117 + p * 29) = x * 131 + y * 1117 + p * 29 := wrap_id (by omega) (by omega)
  rw [f6]
  have f7 : wrap64 (x * 131 + y * 1117 + p * 29 + q * 53) = x * 131 + y * 1117 + p * 29 + q * 53 := wrap_id (by omega) (by omega)
  rw [f7]
  generalize hz : x * 131 + y * 1117 + p * 29 + q * 53 = z
  have hz0 : 0 ≤ z ∧ z < 1000000000000 := by omega
  have hd2 : 0 ≤ z.tdiv 64 ∧ z.tdiv 64 ≤ z := by
   rw [Int.tdiv_eq_ediv_of_nonneg hz0.1]
   omega
  rw [wrap_id (n := z.tdiv 64) (by omega) (by omega), remI_pos (by omega), Qb]
  have hxor := xor_nonneg (x := z) (y := z.tdiv 64) hz0.1 (by omega) hd2.1 (by omega)
  have t3 := tmod_range (y := n) hxor.1 (by omega)
  exact Ok.of ⟨hR, t3.1, fun _ => t3.2, by omega⟩
theorem Rkk {α : Type} {l : List α} {x n : Int} (h : 0 ≤ x ∧ (1 ≤ n → x < n) ∧ (n < 1 → x = 0)) (hn : 1 ≤ n) (hl : (l.length : Int) = n) : Ok (geti l x) fun y => y ∈ l :=
 (Ok.geti h.1 (by have := h.2.1 hn; omega)).mono fun y hy => hy.1
theorem Rwh {b : List Int} {p m : Int} (h : Rd b p m) (hm : m ≤ 999999990) : Ok (Rop b p) fun r => Rd r.2.1 r.2.2 (m + 1) ∧ (1 ≤ r.1 ∧ r.1 ≤ 12) := by
 apply Ok.le (Rtz b p)
 refine Ok.bnd (Rar h (by omega) (by decide)) fun r1 h1 => ?_
 have := h1.2.2.1 (by omega)
 rw [wrap_id (by omega) (by omega)]
 exact Ok.of ⟨h1.1, by dsimp only; omega⟩
theorem Rbi {α : Type} {l : List α} {i : Nat} (h : i < l.length) : geti l (i : Int) = some l[i] := by
 rw [geti_nat', List.getElem?_eq_getElem h]
theorem Rdk {i : Nat} (h : (i : Int) < 9223372036854775807) : wrap64 ((i : Int) + 1) = ((i + 1 : Nat) : Int) := by
 rw [wrap_id (by omega) (by omega)]; omega
theorem Rs (e : Exp) : (⟨e.op, e.n, e.args⟩ : Exp) = e := by cases e; rfl
theorem Rdo (s : Stm) : (⟨s.kind, s.var, s.box, ⟨s.e.op, s.e.n, s.e.args⟩, s.body, s.els⟩ : Stm) = s := by
 obtain ⟨k, v, b, e, bd, el⟩ := s
 cases e; rfl
mutual
theorem Exp.ind {P : Exp → Prop} (h : ∀ e : Exp, (∀ a ∈ e.args, P a) → P e) : ∀ e : Exp, P e
 | ⟨o, n, as⟩ => h ⟨o, n, as⟩ (Exp.inds h as)
theorem Exp.inds {P : Exp → Prop} (h : ∀ e : Exp, (∀ a ∈ e.args, P a) → P e) : ∀ l : List Exp, ∀ a ∈ l, P a
 | [], a, ha => by cases ha
 | e :: r, a, ha => by
  rcases List.mem_cons.1 ha with e1 | h1
  ·rw [e1]; exact Exp.ind h e
  ·exact Exp.inds h r a h1
end
mutual
theorem Stm.ind {P : Stm → Prop} (h : ∀ s : Stm, (∀ a ∈ s.body, P a) → (∀ a ∈ s.els, P a) → P s) : ∀ s : Stm, P s
 | ⟨k, v, b, e, bd, el⟩ => h ⟨k, v, b, e, bd, el⟩ (Stm.inds h bd) (Stm.inds h el)
theorem Stm.inds {P : Stm → Prop} (h : ∀ s : Stm, (∀ a ∈ s.body, P a) → (∀ a ∈ s.els, P a) → P s) : ∀ l : List Stm, ∀ a ∈ l, P a
 | [], a, ha => by cases ha
 | e :: r, a, ha => by
  rcases List.mem_cons.1 ha with e1 | h1
  ·rw [e1]; exact Stm.ind h e
  ·exact Stm.inds h r a h1
end
def Raq : Nat → Exp → Bool
 | 0, _ => false
 | d + 1, e =>
  if e.op = 0 then decide (0 ≤ e.n ∧ e.n ≤ 99999) && e.args.isEmpty
  else if e.op = 13 then decide (0 ≤ e.n ∧ e.n < 4) && e.args.isEmpty
  else decide (1 ≤ e.op ∧ e.op ≤ 12) && decide (e.n = 0) && match e.args with | [a, b] => Raq d a && Raq d b | _ => false
theorem len0 {α : Type} (l : List α) : ((l.length : Int) = 0) ↔ l = [] := by
 constructor
 ·intro h; exact List.eq_nil_of_length_eq_zero (by omega)
 ·intro h; subst h; rfl
theorem Rnq {l : List Exp} : ((l.length : Int) = 2) ↔ ∃ a b, l = [a, b] := by
 constructor
 ·intro h
  match l, h with
  | [a, b], _ => exact ⟨a, b, rfl⟩
  | [], h => simp at h
  | [_], h => simp at h
  | _ :: _ :: _ :: _, h => simp at h; omega
 ·rintro ⟨a, b, rfl⟩; rfl
theorem Rmf {α : Type} (a : α) (l : List α) : geti (a :: l) 0 = some a := by simp [geti]
theorem Raaf {α : Type} (a b : α) (l : List α) : geti (a :: b :: l) 1 = some b := by simp [geti]
theorem Rabk (d : Nat) (h : d ≤ 5) : wrap64 (((d + 1 : Nat) : Int) - 1) = (d : Int) := by rw [wrap_id (by omega) (by omega)]; omega
theorem Rjb : ∀ (d : Nat) (e : Exp), d ≤ 5 → Reo e (d : Int) = some (Raq d e)
 | d, e, hd => by
  apply Rny
  simp only [Rhr, Qb, Rs]
  by_cases h0 : e.op = 0
  ·cases d with
   | zero => by_cases h1 : 0 ≤ e.n <;> by_cases h2 : e.n ≤ 99999 <;> by_cases h3 : e.args = [] <;> simp [h0, h1, h2, h3, Raq, len0]
   | succ d => by_cases h1 : 0 ≤ e.n <;> by_cases h2 : e.n ≤ 99999 <;> by_cases h3 : e.args = [] <;> simp [h0, h1, h2, h3, Raq, len0] <;> omega
  ·by_cases h13 : e.op = 13
   ·cases d with
    | zero => by_cases h1 : 0 ≤ e.n <;> by_cases h2 : e.n < 4 <;> by_cases h3 : e.args = [] <;> simp [h13, h1, h2, h3, Raq, len0]
    | succ d => by_cases h1 : 0 ≤ e.n <;> by_cases h2 : e.n < 4 <;> by_cases h3 : e.args = [] <;> simp [h13, h1, h2, h3, Raq, len0] <;> omega
   ·by_cases h1 : 1 ≤ e.op ∧ e.op ≤ 12
    ·by_cases h2 : e.n = 0
     ·by_cases h3 : (e.args.length : Int) = 2
      ·obtain ⟨a, b, hab⟩ := Rnq.1 h3
       cases d with
       | zero => simp [h0, h13, h1, h2, h3, Raq]
       | succ d =>
        cases d with
        | zero => simp [h0, h13, h1, h2, h3, Raq, hab]
        | succ d =>
         have hd1 : (1 : Int) < (d : Int) + 1 + 1 := by omega
         rw [Rabk (d + 1) (by omega), hab, Rmf, Raaf]
         simp only [Qb, Rjb (d + 1) _ (by omega)]
         have e1 : Raq (d + 1 + 1) e = (Raq (d + 1) a && Raq (d + 1) b) := by
          rw [Raq]; simp [h0, h13, h1, h2, hab]
         rw [e1]
         cases Raq (d + 1) a <;> simp [h0, h13, h1, h2, hd1]
      ·have hm : (match e.args with | [a, b] => (fun d => Raq d a && Raq d b) | _ => fun _ => false) = fun _ => false := by
        split
        ·rename_i a b hab; exact absurd (Rnq.2 ⟨a, b, hab⟩) h3
        ·rfl
       have e1 : Raq d e = false := by
        cases d with
        | zero => rfl
        | succ d =>
         rw [Raq]; simp only [h0, h13, if_false]
         split
         ·rename_i a b hab; exact absurd (Rnq.2 ⟨a, b, hab⟩) h3
         ·simp
       rw [e1]; simp [h0, h13, h1, h2, h3]
     ·have e1 : Raq d e = false := by cases d <;> simp [Raq, h0, h13, h2]
      rw [e1]; simp [h0, h13, h1, h2]
    ·have e1 : Raq d e = false := by cases d <;> simp [Raq, h0, h13, h1]
     rw [e1]; simp [h0, h13, h1]
theorem Rnv (e : Exp) : Rcz e = some (Raq 5 e) := by
 apply Rnw
 rw [Rs, show (5 : Int) = ((5 : Nat) : Int) by rfl, Rjb 5 e (by omega)]
 rfl
theorem Rpd : ∀ (d : Nat) (e : Exp), d ≤ 5 → Rkm e (d : Int) = some (Raq d e)
 | 0, e, hd => by
  apply Rpe
  simp [Raq]
 | d + 1, e, hd => by
  apply Rpe
  have hd0 : ¬ (((d + 1 : Nat) : Int) < 1) := by omega
  simp only [Rei, Rhz, Qb, Rs, hd0, Zz, Zf, Raq]
  by_cases h0 : e.op = 0
  ·by_cases h1 : 0 ≤ e.n ∧ e.n ≤ 99999 <;> by_cases h3 : e.args = [] <;> simp [h0, h1, h3, len0]
  ·by_cases h13 : e.op = 13
   ·have e3 : (e.n < 4) = (e.n ≤ 3) := propext (by omega)
    by_cases h1 : 0 ≤ e.n ∧ e.n ≤ 3 <;> by_cases h3 : e.args = [] <;> simp [h13, h1, h3, len0, e3]
   ·by_cases h1 : 1 ≤ e.op ∧ e.op ≤ 12
    ·by_cases h2 : e.n = 0
     ·by_cases h3 : (e.args.length : Int) = 2
      ·obtain ⟨a, b, hab⟩ := Rnq.1 h3
       rw [Rabk d (by omega), hab, Rmf, Raaf]
       simp only [Qb, Rpd d _ (by omega)]
       cases Raq d a <;> simp [h0, h13, h1, h2]
      ·have e1 : (match e.args with | [a, b] => Raq d a && Raq d b | _ => false) = false := by
        split
        ·rename_i a b hab; exact absurd (Rnq.2 ⟨a, b, hab⟩) h3
        ·rfl
       rw [e1]; simp [h0, h13, h1, h2, h3]
     ·simp [h0, h13, h1, h2]
    ·simp [h0, h13, h1]
theorem Rji (e : Exp) : Rbh e = some (Raq 5 e) := by
 apply Roi
 rw [Rs, show (5 : Int) = ((5 : Nat) : Int) by rfl, Rpd 5 e (by omega)]
 rfl
theorem Rdl {d : Nat} {e : Exp} (h : Raq (d + 1) e = true) : (e.op = 0 ∧ e.args = [] ∧ 0 ≤ e.n ∧ e.n ≤ 99999) ∨ (e.op = 13 ∧ e.args = [] ∧ 0 ≤ e.n ∧ e.n < 4) ∨
  (1 ≤ e.op ∧ e.op ≤ 12 ∧ e.n = 0 ∧ ∃ a b, e.args = [a, b] ∧ Raq d a = true ∧ Raq d b = true) := by
 unfold Raq at h
 split at h
 ·rename_i h0; simp at h; exact .inl ⟨h0, h.2, h.1⟩
 ·split at h
  ·rename_i h0; simp at h; exact .inr (.inl ⟨h0, h.2, h.1⟩)
  ·simp only [Zw, Ze] at h
   obtain ⟨⟨h1, h2⟩, h3⟩ := h
   split at h3
   ·rename_i a b hab
    simp only [Zw] at h3
    exact .inr (.inr ⟨h1.1, h1.2, h2, a, b, hab, h3.1, h3.2⟩)
   ·cases h3
theorem w01 : wrap64 (0 + 1) = 1 := by unfold wrap64; omega
theorem w11 : wrap64 (1 + 1) = 2 := by unfold wrap64; omega
theorem w1 : wrap64 1 = 1 := by unfold wrap64; omega
theorem Ro {α : Type} {x y : List α} (h : x.length + y.length ≤ 4294967296) : appL x y = some (x ++ y) := by unfold appL; rw [if_pos h]
def Rus (m : Md) : Prop := m = .own false ∨ m = .full
theorem Rog {m : Md} (h : Rus m) : Rus m.dem := by rcases h with rfl | rfl; exact .inl rfl; exact .inr rfl
theorem Rdg (o n : Int) : Rbf o n = some (o, n, .own false, []) := by apply Rsg; rfl
theorem Rje (o : Int) (a b : Exp) : Rgj o a b = some (o, 0, .full, [a, b]) := by apply Rsf; simp [Rs]
theorem Rww {b : List Int} {p m : Int} (h : Rd b p m) (hm : m ≤ 999999990) : Ok (Rfl b p) fun r => Rd r.2.2.2.1 r.2.2.2.2 (m + 2) ∧ Rus r.2.2.1.1 ∧ r.2.2.1.2.length ≤ 2 := by
 apply Ok.le (Rkq b p)
 refine Ok.bnd (Rar h (by omega) (by decide)) fun r1 h1 => ?_
 refine Ok.bif (fun _ => ?_) (fun _ => ?_)
 ·refine Ok.bnd (Rar h1.1 (by omega) (by decide)) fun r2 h2 => ?_
  rw [Rdg, Qb]
  exact Ok.of ⟨h2.1.mono (by omega), .inl rfl, by simp⟩
 refine Ok.bif (fun _ => ?_) (fun _ => ?_)
 ·refine Ok.bnd (Rar h1.1 (by omega) (by decide)) fun r2 h2 => ?_
  refine Ok.bnd (Rkk h2.2 (by omega) rfl) fun e he => ?_
  rw [Rdg, Qb]
  exact Ok.of ⟨h2.1.mono (by omega), .inl rfl, by simp⟩
 ·refine Ok.bnd (Rar h1.1 (by omega) (by decide)) fun r2 h2 => ?_
  rw [Rdg, Qb]
  exact Ok.of ⟨h2.1.mono (by omega), .inl rfl, by simp⟩
def cost : Nat → Int
 | 0 => 2
 | d + 1 => 2 + 2 * cost d
theorem Rmd : ∀ d, 2 ≤ cost d
 | 0 => by simp [cost]
 | d + 1 => by have := Rmd d; simp only [cost]; omega
theorem Rjf : ∀ (d : Nat) {b : List Int} {p m : Int} (n : Int), n = (d : Int) + 1 → d ≤ 10 → Rd b p m → m + cost d ≤ 999999990 →
  Ok (Ras n b p) fun r => Rd r.2.2.2.1 r.2.2.2.2 (m + cost d) ∧ Rus r.2.2.1.1 ∧ r.2.2.1.2.length ≤ 2
 | d, b, p, m, n, hn, hd, h, hm => by
  apply Ok.le (Rkp n b p)
  have hc := Rmd d
  have leaf : ∀ {b : List Int} {p m' : Int}, Rd b p m' → m' + 2 ≤ m + cost d → Ok (Vs.bnd (Rfl b p) fun r1 => some (r1.1, r1.2.1, (Md.dem (Md.dem (Md.dem r1.2.2.1.1)), r1.2.2.1.2), r1.2.2.2.1, r1.2.2.2.2)) fun r => Rd r.2.2.2.1 r.2.2.2.2 (m + cost d) ∧ Rus r.2.2.1.1 ∧ r.2.2.1.2.length ≤ 2 := by
   intro b p m' h' hm'
   refine Ok.bnd (Rww h' (by omega)) fun r1 h1 => ?_
   exact Ok.of ⟨h1.1.mono hm', Rog (Rog (Rog h1.2.1)), h1.2.2⟩
  refine Ok.bif (fun hb => ?_) (fun hb => ?_)
  ·exact leaf h (by omega)
  ·simp only [decide_eq_false_iff_not] at hb
   obtain ⟨d, rfl⟩ : ∃ d', d = d' + 1 := ⟨d - 1, by omega⟩
   have hc' := Rmd d
   simp only [cost] at hm ⊢
   refine Ok.bnd (Rar h (by omega) (by decide)) fun r1 h1 => ?_
   refine Ok.bif (fun _ => ?_) (fun _ => ?_)
   ·exact (leaf h1.1 (by simp only [cost]; omega)).mono fun r hr => hr
   ·refine Ok.bnd (Rwh h1.1 (by omega)) fun r2 h2 => ?_
    rw [wrap_id (n := n - 1) (by omega) (by omega)]
    refine Ok.bnd (Rjf d (n - 1) (by omega) (by omega) h2.1 (by omega)) fun r3 h3 => ?_
    refine Ok.bnd (Rjf d (n - 1) (by omega) (by omega) h3.1 (by omega)) fun r4 h4 => ?_
    rw [Rje, Qb]
    exact Ok.of ⟨h4.1.mono (by omega), .inr rfl, by simp⟩
mutual
def emX : Exp → Nat
 | ⟨_, _, as⟩ => emXs as
def emXs : List Exp → Nat
 | [] => 0
 | e :: r => 1 + emX e + emXs r
end
mutual
def mS : Stm → Nat
 | ⟨_, _, _, e, bd, el⟩ => emX e + mSs bd + mSs el
def mSs : List Stm → Nat
 | [] => 0
 | s :: r => 1 + mS s + mSs r
end
theorem Rme (e : Exp) : emX e = emXs e.args := by cases e; simp [emX]
theorem Rtu (s : Stm) : mS s = emX s.e + mSs s.body + mSs s.els := by cases s; simp [mS]
theorem Rwb : ∀ l : List Exp, l.length ≤ emXs l
 | [] => Nat.le_refl _
 | e :: r => by have := Rwb r; simp only [emXs, Zc]; omega
theorem Rfc : ∀ l : List Stm, l.length ≤ mSs l
 | [] => Nat.le_refl _
 | e :: r => by have := Rfc r; simp only [mSs, Zc]; omega
theorem Rxk : ∀ {l : List Exp} {e : Exp}, e ∈ l → emX e < emXs l
 | [], e, h => by cases h
 | a :: r, e, h => by
  simp only [emXs]
  rcases List.mem_cons.1 h with rfl | h
  ·omega
  ·have := Rxk h; omega
theorem Rki : ∀ {l : List Stm} {e : Stm}, e ∈ l → mS e < mSs l
 | [], e, h => by cases h
 | a :: r, e, h => by
  simp only [mSs]
  rcases List.mem_cons.1 h with rfl | h
  ·omega
  ·have := Rki h; omega
def left (n : Int) (m : Nat) : Int := if (m : Int) ≤ n then n - m else -1
mutual
def cS : Stm → Nat
 | ⟨_, _, _, _, bd, el⟩ => 1 + cSs bd + cSs el
def cSs : List Stm → Nat
 | [] => 0
 | s :: r => cS s + cSs r
end
theorem Rwt (s : Stm) : cS s = 1 + cSs s.body + cSs s.els := by cases s; simp [cS]
theorem Rvw {l : List Stm} {i : Nat} (hi : i < l.length) : cSs (l.drop i) = cS l[i] + cSs (l.drop (i + 1)) := by
 rw [List.drop_eq_getElem_cons hi]; simp only [cSs]
theorem Rtl : ∀ l : List Stm, l.length ≤ cSs l
 | [] => Nat.le_refl _
 | e :: r => by have := Rtl r; have := Rwt e; simp only [cSs, Zc]; omega
mutual
theorem cS_le : ∀ s : Stm, cS s ≤ 1 + mS s
 | ⟨_, _, _, e, bd, el⟩ => by have := Ruh bd; have := Ruh el; simp only [cS, mS]; omega
theorem Ruh : ∀ l : List Stm, cSs l ≤ mSs l
 | [] => Nat.le_refl _
 | s :: r => by have := cS_le s; have := Ruh r; simp only [cSs, mSs]; omega
end
theorem Rvv : ∀ {l : List Stm} {e : Stm}, e ∈ l → cS e ≤ cSs l
 | [], e, h => by cases h
 | a :: r, e, h => by
  simp only [cSs]
  rcases List.mem_cons.1 h with rfl | h
  ·omega
  ·have := Rvv h; omega
theorem Rvx {l : List Stm} (hp : ∀ s ∈ l, Rap s.body = some (cSs s.body : Int) ∧ Rap s.els = some (cSs s.els : Int)) (hb : cSs l ≤ 4294967296) :
  ∀ (d i : Nat) (k : Int), i + d = l.length → 0 ≤ k → k + cSs (l.drop i) ≤ 4294967296 → Rev l k i = some (k + cSs (l.drop i))
 | 0, i, k, hd, h0, h1 => by
  apply Rid
  have hi : ¬ ((i : Int) < l.length) := by omega
  rw [List.drop_eq_nil_of_le (by omega)]
  simp [hi, cSs]
 | d + 1, i, k, hd, h0, h1 => by
  apply Rid
  have hi : i < l.length := by omega
  have hi' : (i : Int) < l.length := by omega
  obtain ⟨p1, p2⟩ := hp _ (List.getElem_mem hi)
  have hlen := Rtl l
  have hc := Rvw hi
  have hs := Rwt l[i]
  rw [Rbi hi, Rdk (by omega)]
  simp only [hi', Zy, Zt, Qb, p1, p2]
  rw [wrap_id (n := k + 1) (by omega) (by omega), wrap_id (n := k + 1 + (cSs l[i].body : Int)) (by omega) (by omega), wrap_id (by omega) (by omega),
   Rvx hp hb d (i + 1) _ (by omega) (by omega) (by omega)]
  congr 1; omega
theorem Rgf {l : List Stm} (hp : ∀ s ∈ l, Rap s.body = some (cSs s.body : Int) ∧ Rap s.els = some (cSs s.els : Int)) (hb : cSs l ≤ 4294967296) : Rap l = some (cSs l : Int) := by
 apply Rpp
 have := Rvx hp hb l.length 0 0 (by omega) (by omega) (by simp; omega)
 rw [show ((0 : Nat) : Int) = 0 by rfl] at this
 rw [this]; simp
theorem Rvc : ∀ s : Stm, cS s ≤ 4294967296 → Rap s.body = some (cSs s.body : Int) ∧ Rap s.els = some (cSs s.els : Int) := by
 apply Stm.ind
 intro s ih1 ih2 hb
 rw [Rwt] at hb
 exact ⟨Rgf (fun a ha => ih1 a ha (by have := Rvv ha; omega)) (by omega), Rgf (fun a ha => ih2 a ha (by have := Rvv ha; omega)) (by omega)⟩
theorem Rkc {l : List Stm} (hb : cSs l ≤ 4294967296) : Rap l = some (cSs l : Int) :=
 Rgf (fun s hs => Rvc s (by have := Rvv hs; omega)) hb
def hdr (s : Stm) : Prop :=
 (s.kind = 1 ∧ (0 ≤ s.var ∧ s.var < 4) ∧ s.box = 0 ∧ Raq 5 s.e = true ∧ (s.body.length : Int) = 0 ∧ (s.els.length : Int) = 0) ∨
 (s.kind = 2 ∧ s.var = 0 ∧ s.box = 0 ∧ Raq 5 s.e = true) ∨
 (s.kind = 3 ∧ s.var = 0 ∧ s.box = 0 ∧ Raq 5 s.e = true ∧ (s.els.length : Int) = 0) ∨
 (s.kind = 4 ∧ s.var = 0 ∧ (0 ≤ s.box ∧ s.box < 3) ∧ Raq 5 s.e = true ∧ (s.body.length : Int) = 0 ∧ (s.els.length : Int) = 0) ∨
 (s.kind = 5 ∧ (0 ≤ s.var ∧ s.var < 4) ∧ (0 ≤ s.box ∧ s.box < 3) ∧ (s.e.op = 0 ∧ s.e.n = 0 ∧ (s.e.args.length : Int) = 0) ∧ (s.body.length : Int) = 0 ∧ (s.els.length : Int) = 0) ∨
 (s.kind = 6 ∧ s.var = 0 ∧ s.box = 0 ∧ (s.e.op = 0 ∧ s.e.n = 0 ∧ (s.e.args.length : Int) = 0) ∧ (s.body.length : Int) = 0 ∧ (s.els.length : Int) = 0) ∨
 (s.kind = 7 ∧ s.var = 0 ∧ s.box = 0 ∧ Raq 5 s.e = true ∧ (s.body.length : Int) = 0 ∧ (s.els.length : Int) = 0)
instance (s : Stm) : Decidable (hdr s) := by unfold hdr; infer_instance
def sOk : Nat → Stm → Bool
 | 0, s => decide (hdr s) && !decide (s.kind = 2 ∨ s.kind = 3)
 | d + 1, s => decide (hdr s) && (if s.kind = 2 ∨ s.kind = 3 then s.body.all (sOk d) && s.els.all (sOk d) else true)
theorem Rln (x n : Int) (b : Bool) (hn : 1 ≤ n) : Rh x n b = some (decide (if b then 0 ≤ x ∧ x < n else x = 0)) := by
 apply Rfb
 cases b
 ·by_cases h : x = 0 <;> simp [h]
 ·by_cases h : x = 0
  ·simp [h]; omega
  ·by_cases h2 : 0 < x
   ·simp [h, h2]; omega
   ·simp [h, h2]; omega
theorem Rlf (s : Stm) (b : Bool) : Rcd s b = some (decide (if b then 0 ≤ s.var ∧ s.var < 4 else s.var = 0)) := by
 apply Rsb
 simp only [Rei, Qb, cond_some]
 apply some_dec
 cases b <;> simp; omega
theorem Rle (s : Stm) (b : Bool) : Rcc s b = some (decide (if b then 0 ≤ s.box ∧ s.box < 3 else s.box = 0)) := by
 apply Rsa
 simp only [Rei, Qb, cond_some]
 apply some_dec
 cases b <;> simp; omega
theorem Rpq (e : Exp) : Rhl e = some (decide (e.op = 0 ∧ e.n = 0 ∧ (e.args.length : Int) = 0)) := by
 apply Rpr
 simp only [cond_some]
 apply some_dec
 simp only [cond_iff, Ze, Bool.false_eq_true]
 by_cases h : e.op = 0 <;> by_cases h2 : e.n = 0 <;> simp [h, h2]
theorem Rjk (s : Stm) (n2 : s.kind ≠ 2) (n3 : s.kind ≠ 3) : Rgm s = some (decide (hdr s)) := by
 apply Rom
 simp only [Rdo, Rs, Rlf, Rle, Rpq, Rji, Qb, cond_some]
 apply some_dec
 obtain ⟨k, v, b, e, bd, el⟩ := s
 have a1 : (0 : Int) ≤ bd.length := by omega
 have a2 : (0 : Int) ≤ el.length := by omega
 have a3 : (0 : Int) ≤ e.args.length := by omega
 simp only [hdr, cond_iff, Ze, if_true, Bool.false_eq_true, if_false, Bool.not_eq_true', decide_eq_false_iff_not]
 generalize (bd.length : Int) = n1 at a1
 generalize (el.length : Int) = n2' at a2
 generalize (e.args.length : Int) = n3' at a3
 simp only [] at n2 n3
 cases hv : Raq 5 e
 all_goals
  by_cases h1 : k = 1
  ·subst h1; simp; try omega
  by_cases h4 : k = 4
  ·subst h4; simp; try omega
  by_cases h5 : k = 5
  ·subst h5; simp; try omega
  by_cases h7 : k = 7
  ·subst h7; simp; try omega
  by_cases h6 : k = 6
  ·subst h6; simp; try omega
  simp [h1, n2, n3, h4, h5, h6, h7]
theorem hdr2 {s : Stm} (h : s.kind = 2) : hdr s ↔ s.var = 0 ∧ s.box = 0 ∧ Raq 5 s.e = true := by simp [hdr, h]
theorem hdr3 {s : Stm} (h : s.kind = 3) : hdr s ↔ s.var = 0 ∧ s.box = 0 ∧ Raq 5 s.e = true ∧ (s.els.length : Int) = 0 := by simp [hdr, h]
theorem Rwd {α : Type} {P Q : Prop} [Decidable P] [Decidable Q] {a b c : α} (h : P ↔ Q) (ha : a = b) : (if P then a else c) = if Q then b else c := by
 subst ha
 by_cases hp : P
 ·rw [if_pos hp, if_pos (h.1 hp)]
 ·rw [if_neg hp, if_neg fun x => hp (h.2 x)]
theorem Rvr {l : List Stm} {n : Int} {f : Stm → Bool} (hl : (l.length : Int) ≤ 4294967296) (hp : ∀ s ∈ l, Rjj s n = some (f s)) :
  ∀ (d i : Nat), i + d = l.length → Rel l n i = some (if (l.drop i).all f then .inl () else .inr false)
 | 0, i, hd => by
  apply Rhh
  have hi : ¬ ((i : Int) < l.length) := by omega
  rw [List.drop_eq_nil_of_le (by omega)]
  simp [hi]
 | d + 1, i, hd => by
  apply Rhh
  have hi : i < l.length := by omega
  have hi' : (i : Int) < l.length := by omega
  rw [Rbi hi, Rdk (by omega), Rvr hl hp d (i + 1) (by omega)]
  have e1 : (l.drop i).all f = (f l[i] && (l.drop (i + 1)).all f) := by rw [List.drop_eq_getElem_cons hi, List.all_cons]
  rw [e1]
  simp only [hi', Zy, Zt, Qb, Rdo, hp _ (List.getElem_mem hi)]
  cases f l[i] <;> simp
theorem Rfr {l : List Stm} {n : Int} {f : Stm → Bool} (hl : (l.length : Int) ≤ 4294967296) (hp : ∀ s ∈ l, Rjj s n = some (f s)) : Rab l n = some (l.all f) := by
 apply Rol
 rw [show (0 : Int) = ((0 : Nat) : Int) by rfl, Rvr hl hp l.length 0 (by omega), List.drop_zero]
 cases l.all f <;> simp [selm]
theorem Rjv : ∀ (d : Nat) (s : Stm), d ≤ 3 → mS s ≤ 4294967296 → Rjj s (d : Int) = some (sOk d s)
 | 0, s, hd, hm => by
  apply Rne
  by_cases h2 : s.kind = 2
  ·simp [h2, sOk]
  ·by_cases h3 : s.kind = 3
   ·simp [h3, sOk]
   ·simp [h2, h3, sOk, Rdo, Rjk s h2 h3]
 | d + 1, s, hd, hm => by
  apply Rne
  have hm' := Rtu s
  have l1 := Rfc s.body
  have l2 := Rfc s.els
  have hd0 : ¬ (((d + 1 : Nat) : Int) < 1) := by omega
  have b1 : Rab s.body (d : Int) = some (s.body.all (sOk d)) := Rfr (by omega) fun a ha => Rjv d a (by omega) (by have := Rki ha; omega)
  have b2 : Rab s.els (d : Int) = some (s.els.all (sOk d)) := Rfr (by omega) fun a ha => Rjv d a (by omega) (by have := Rki ha; omega)
  rw [show wrap64 (((d + 1 : Nat) : Int) - 1) = (d : Int) by rw [wrap_id (by omega) (by omega)]; omega]
  simp only [Rdo, Rs, Rlf, Rle, Rji, b1, b2, Qb, hd0, Zz, Zf]
  by_cases h2 : s.kind = 2
  ·have h3 : s.kind ≠ 3 := by omega
   have hh : decide (hdr s) = (decide (s.var = 0) && decide (s.box = 0) && Raq 5 s.e) := by
    rw [Bool.eq_iff_iff]; simp [hdr2 h2, and_assoc]
   simp only [sOk, hh, h2, true_or, if_true]
   by_cases v : s.var = 0 <;> by_cases b : s.box = 0 <;> cases Raq 5 s.e <;> cases s.body.all (sOk d) <;> simp [v, b]
  ·by_cases h3 : s.kind = 3
   ·by_cases he : (s.els.length : Int) = 0
    ·have hh : decide (hdr s) = (decide (s.var = 0) && decide (s.box = 0) && Raq 5 s.e) := by
      rw [Bool.eq_iff_iff]; simp [hdr3 h3, and_assoc, he]
     simp only [sOk, hh, h3, or_true, if_true]
     by_cases v : s.var = 0 <;> by_cases b : s.box = 0 <;> cases Raq 5 s.e <;> cases s.body.all (sOk d) <;> simp [v, b, he]
    ·have hh : decide (hdr s) = false := by
      simp [hdr3 h3]; intro _ _ _ h; exact absurd (by rw [h]; rfl) he
     have hpos : 0 < (s.els.length : Int) := by omega
     simp only [sOk, hh, h3, or_true, if_true, hpos]
     simp
   ·have hh := Rjk s h2 h3
    simp only [sOk, h2, h3, or_false, if_false]
    simp [h2, h3]
    show bnd (Rgm s) _ = _
    rw [hh]; rfl
theorem Rok {d : Nat} {l : List Stm} (hd : d ≤ 3) (hm : mSs l ≤ 4294967296) : Rab l (d : Int) = some (l.all (sOk d)) :=
 Rfr (by have := Rfc l; omega) fun s hs => Rjv d s hd (by have := Rki hs; omega)
def stOk (l : List Stm) : Bool := decide (l.all (sOk 3) = true ∧ (cSs l : Int) ≤ 16)
theorem Rmz (l : List Stm) (hm : mSs l ≤ 4294967296) : Ria l = some (stOk l) := by
 apply Rna
 have hc := Ruh l
 rw [show (3 : Int) = ((3 : Nat) : Int) by rfl, Rok (by omega) hm, Qb, Rkc (by omega)]
 unfold stOk
 cases l.all (sOk 3) <;> simp
theorem mSs_one (s : Stm) : mSs [s] = 1 + mS s := by simp [mSs]
def hdN (many : Int) (s : Stm) : Prop := hdr s ∧ (s.kind = 4 ∨ s.kind = 5 → s.box < many)
instance (many : Int) (s : Stm) : Decidable (hdN many s) := by unfold hdN; infer_instance
def gOk (many : Int) : Nat → Stm → Bool
 | 0, s => decide (hdN many s) && !decide (s.kind = 2 ∨ s.kind = 3)
 | d + 1, s => decide (hdN many s) && (if s.kind = 2 ∨ s.kind = 3 then s.body.all (gOk many d) && s.els.all (gOk many d) else true)
theorem Rkh (x n : Int) (hn : 0 ≤ n) : Rh x n true = some (decide (x = 0 ∨ (0 ≤ x ∧ x < n))) := by
 apply Rfb
 by_cases h : x = 0
 ·simp [h]
 ·by_cases h2 : 0 < x
  ·simp [h, h2]; omega
  ·simp [h, h2]; omega
theorem Rke (x n : Int) : Rh x n false = some (decide (x = 0)) := by
 apply Rfb
 by_cases h : x = 0 <;> simp [h]
theorem Rcj {many : Int} (hmn : 0 ≤ many ∧ many ≤ 3) (s : Stm) : Riw s many = some (decide (hdN many s)) := by
 apply Rnz
 simp only [Rkh _ many hmn.1, Rln _ 4 true (by omega), Rke, Rnv, Rs, Qb, cond_some]
 apply some_dec
 obtain ⟨k, v, b, e, bd, el⟩ := s
 have a1 : (0 : Int) ≤ bd.length := by omega
 have a2 : (0 : Int) ≤ el.length := by omega
 have a3 : (0 : Int) ≤ e.args.length := by omega
 simp only [hdN, hdr, cond_iff, Ze, if_true, Bool.false_eq_true, if_false, Bool.not_eq_true', decide_eq_false_iff_not]
 generalize (bd.length : Int) = n1 at a1
 generalize (el.length : Int) = n2 at a2
 generalize (e.args.length : Int) = n3 at a3
 cases hv : Raq 5 e
 all_goals
  by_cases h1 : k = 1
  ·subst h1; simp; try omega
  by_cases h2 : k = 2
  ·subst h2; simp; try omega
  by_cases h3 : k = 3
  ·subst h3; simp; try omega
  by_cases h4 : k = 4
  ·subst h4; simp; try omega
  by_cases h5 : k = 5
  ·subst h5; simp; try omega
  by_cases h7 : k = 7
  ·subst h7; simp; try omega
  by_cases h6 : k = 6
  ·subst h6; simp; try omega
  simp [h1, h2, h3, h4, h5, h6, h7]
theorem Rvb {many : Int} (hmn : 0 ≤ many ∧ many ≤ 3) {l : List Stm} {d0 : Nat} (hl : (l.length : Int) ≤ 4294967296) (hd0 : d0 ≤ 3)
  (hp : ∀ d, d0 = d + 1 → ∀ (bl : List Stm) (n : Int), (∃ s ∈ l, bl = s.body ∨ bl = s.els) → 0 ≤ n → n ≤ 16 → ∃ c, Rbj bl many (3 - (d : Int)) n = some (decide (bl.all (gOk many d) = true ∧ n + cSs bl ≤ 16), c) ∧ (bl.all (gOk many d) = true → n + cSs bl ≤ 16 → c = n + cSs bl)) :
  ∀ (d i : Nat) (n : Int), i + d = l.length → 0 ≤ n → n ≤ 16 → ∃ c, Rbn l many (3 - (d0 : Int)) l.length i n = some (if (l.drop i).all (gOk many d0) = true ∧ n + (cSs (l.drop i) - (l.length - i : Int)) ≤ 16 then .inl (n + (cSs (l.drop i) - (l.length - i : Int))) else .inr (false, c))
 | 0, i, n, hd, h0, h1 => by
  refine ⟨0, ?_⟩
  apply Raj
  have hi : ¬ ((i : Int) < l.length) := by omega
  rw [List.drop_eq_nil_of_le (by omega), if_pos ⟨by simp, by simp [cSs]; omega⟩]
  simp [hi, cSs]; omega
 | d + 1, i, n, hd, h0, h1 => by
  have hi : i < l.length := by omega
  have hi' : (i : Int) < l.length := by omega
  have e1 : (l.drop i).all (gOk many d0) = (gOk many d0 l[i] && (l.drop (i + 1)).all (gOk many d0)) := by rw [List.drop_eq_getElem_cons hi, List.all_cons]
  have e2 := Rvw hi
  have e3 := Rwt l[i]
  have e4 := Rtl (l.drop (i + 1))
  rw [List.length_drop] at e4
  have hn3 : ¬ ((3 : Int) < 3 - (d0 : Int)) := by omega
  by_cases hh : hdN many l[i]
  ·by_cases hk : l[i].kind = 2 ∨ l[i].kind = 3
   ·cases d0 with
    | zero =>
     have s0 : gOk many 0 l[i] = false := by simp [gOk, hk]
     refine ⟨n, ?_⟩
     apply Raj
     rw [Rbi hi, e1, s0]
     simp only [hi', Zy, Zt, Qb, Rdo, Rcj hmn, hh, Zv, Zf]
     rcases hk with hk | hk <;> simp [hk]
    | succ d1 =>
     have hn4 : ¬ ((3 : Int) ≤ 3 - ((d1 + 1 : Nat) : Int)) := by omega
     have hw : wrap64 (3 - ((d1 + 1 : Nat) : Int) + 1) = 3 - (d1 : Int) := by rw [wrap_id (by omega) (by omega)]; omega
     have s1 : gOk many (d1 + 1) l[i] = (l[i].body.all (gOk many d1) && l[i].els.all (gOk many d1)) := by simp [gOk, hh, hk]
     obtain ⟨c1, k1, k2⟩ := hp d1 rfl l[i].body n ⟨l[i], List.getElem_mem hi, .inl rfl⟩ h0 h1
     by_cases g1 : l[i].body.all (gOk many d1) = true ∧ n + cSs l[i].body ≤ 16
     ·have hc1 := k2 g1.1 g1.2
      obtain ⟨c2, m1, m2⟩ := hp d1 rfl l[i].els (n + cSs l[i].body) ⟨l[i], List.getElem_mem hi, .inr rfl⟩ (by omega) g1.2
      by_cases g2 : l[i].els.all (gOk many d1) = true ∧ n + cSs l[i].body + cSs l[i].els ≤ 16
      ·have hc2 := m2 g2.1 g2.2
       obtain ⟨c, hc⟩ := Rvb hmn hl hd0 hp d (i + 1) (n + cSs l[i].body + cSs l[i].els) (by omega) (by omega) g2.2
       refine ⟨c, ?_⟩
       apply Raj
       rw [Rbi hi, e1, s1, g1.1, g2.1, Rdk (by omega), hw]
       subst hc1 hc2
       have dk1 : decide (l[i].body.all (gOk many d1) = true ∧ n + (cSs l[i].body : Int) ≤ 16) = true := Zp g1
       have dk2 : decide (l[i].els.all (gOk many d1) = true ∧ n + (cSs l[i].body : Int) + (cSs l[i].els : Int) ≤ 16) = true := Zp g2
       rw [dk1] at k1
       rw [dk2] at m1
       have hcond : ((true && true && (l.drop (i + 1)).all (gOk many (d1 + 1))) = true ∧ n + ((cSs (l.drop i) : Int) - ((l.length : Int) - (i : Int))) ≤ 16) ↔ ((l.drop (i + 1)).all (gOk many (d1 + 1)) = true ∧ n + (cSs l[i].body : Int) + (cSs l[i].els : Int) + ((cSs (l.drop (i + 1)) : Int) - ((l.length : Int) - ((i + 1 : Nat) : Int))) ≤ 16) := by
        simp only [Bool.true_and, Bool.and_true]
        constructor
        ·rintro ⟨x, y⟩; exact ⟨x, by omega⟩
        ·rintro ⟨x, y⟩; exact ⟨x, by omega⟩
       have hval : n + ((cSs (l.drop i) : Int) - ((l.length : Int) - (i : Int))) = n + (cSs l[i].body : Int) + (cSs l[i].els : Int) + ((cSs (l.drop (i + 1)) : Int) - ((l.length : Int) - ((i + 1 : Nat) : Int))) := by omega
       rw [Rwd hcond (congrArg (Sum.inl (β := Bool × Int)) hval), ← hc]
       simp only [hi', Zy, Zt, Qb, Rdo, Rcj hmn, hh, Zv, Zf, hn3, hn4, Zz, k1, m1]
       rcases hk with hk | hk <;> simp [hk]
      ·refine ⟨c2, ?_⟩
       apply Raj
       rw [Rbi hi, e1, s1, g1.1, hw]
       subst hc1
       have dk1 : decide (l[i].body.all (gOk many d1) = true ∧ n + (cSs l[i].body : Int) ≤ 16) = true := Zp g1
       have dk2 : decide (l[i].els.all (gOk many d1) = true ∧ n + (cSs l[i].body : Int) + (cSs l[i].els : Int) ≤ 16) = false := Zq g2
       rw [dk1] at k1
       rw [dk2] at m1
       rw [if_neg (by
        rintro ⟨x, y⟩
        simp only [Bool.true_and, Zw] at x
        exact g2 ⟨x.1, by omega⟩)]
       simp only [hi', Zy, Zt, Qb, Rdo, Rcj hmn, hh, Zv, Zf, hn3, hn4, Zz, k1, m1]
       rcases hk with hk | hk <;> simp [hk]
     ·refine ⟨c1, ?_⟩
      apply Raj
      rw [Rbi hi, e1, s1, hw]
      have dk1 : decide (l[i].body.all (gOk many d1) = true ∧ n + (cSs l[i].body : Int) ≤ 16) = false := Zq g1
      rw [dk1] at k1
      rw [if_neg (by
       rintro ⟨x, y⟩
       simp only [Zw] at x
       exact g1 ⟨x.1.1, by omega⟩)]
      simp only [hi', Zy, Zt, Qb, Rdo, Rcj hmn, hh, Zv, Zf, hn3, hn4, Zz, k1]
      rcases hk with hk | hk <;> simp [hk]
   ·have n2 : l[i].kind ≠ 2 := fun h => hk (.inl h)
    have n3 : l[i].kind ≠ 3 := fun h => hk (.inr h)
    have s1 : gOk many d0 l[i] = true := by cases d0 <;> simp [gOk, hh, n2, n3]
    have hbe : l[i].body = [] ∧ l[i].els = [] := by
     have hh' := hh
     have hh' := hh'.1
     simp only [hdr, n2, n3, false_and, false_or] at hh'
     have : (l[i].body.length : Int) = 0 ∧ (l[i].els.length : Int) = 0 := by
      rcases hh' with h | h | h | h | h
      ·exact ⟨h.2.2.2.2.1, h.2.2.2.2.2⟩
      ·exact ⟨h.2.2.2.2.1, h.2.2.2.2.2⟩
      ·exact ⟨h.2.2.2.2.1, h.2.2.2.2.2⟩
      ·exact ⟨h.2.2.2.2.1, h.2.2.2.2.2⟩
      ·exact ⟨h.2.2.2.2.1, h.2.2.2.2.2⟩
     exact ⟨List.eq_nil_of_length_eq_zero (by omega), List.eq_nil_of_length_eq_zero (by omega)⟩
    rw [hbe.1, hbe.2] at e3
    simp only [cSs] at e3
    obtain ⟨c, hc⟩ := Rvb hmn hl hd0 hp d (i + 1) n (by omega) h0 h1
    refine ⟨c, ?_⟩
    apply Raj
    rw [Rbi hi, e1, s1, Rdk (by omega)]
    have hcond : ((true && (l.drop (i + 1)).all (gOk many d0)) = true ∧ n + ((cSs (l.drop i) : Int) - ((l.length : Int) - (i : Int))) ≤ 16) ↔ ((l.drop (i + 1)).all (gOk many d0) = true ∧ n + ((cSs (l.drop (i + 1)) : Int) - ((l.length : Int) - ((i + 1 : Nat) : Int))) ≤ 16) := by
     simp only [Bool.true_and]
     constructor
     ·rintro ⟨x, y⟩; exact ⟨x, by omega⟩
     ·rintro ⟨x, y⟩; exact ⟨x, by omega⟩
    have hval : n + ((cSs (l.drop i) : Int) - ((l.length : Int) - (i : Int))) = n + ((cSs (l.drop (i + 1)) : Int) - ((l.length : Int) - ((i + 1 : Nat) : Int))) := by omega
    rw [Rwd hcond (congrArg (Sum.inl (β := Bool × Int)) hval), ← hc]
    simp only [hi', Zy, Zt, Qb, Rdo, Rcj hmn, hh, Zv, Zf, hn3, Zz]
    simp [n2, n3]
  ·have s1 : gOk many d0 l[i] = false := by cases d0 <;> simp [gOk, hh]
   refine ⟨n, ?_⟩
   apply Raj
   rw [Rbi hi, e1, s1]
   simp only [hi', Zy, Zt, Qb, Rdo, Rcj hmn, hh, Zz, Zx]
   simp
theorem Rja {many : Int} (hmn : 0 ≤ many ∧ many ≤ 3) : ∀ (d : Nat) (l : List Stm) (n : Int), d ≤ 3 → mSs l ≤ 4294967296 → 0 ≤ n → n ≤ 16 →
  ∃ c, Rbj l many (3 - (d : Int)) n = some (decide (l.all (gOk many d) = true ∧ n + cSs l ≤ 16), c) ∧ (l.all (gOk many d) = true → n + cSs l ≤ 16 → c = n + cSs l)
 | d, l, n, hd, hm, h0, h1 => by
  have hlen := Rfc l
  have hcl := Rtl l
  by_cases hc : (16 : Int) < n + l.length
  ·refine ⟨n + l.length, ?_, fun _ h => by omega⟩
   apply Rfo
   rw [wrap_id (by omega) (by omega)]
   have : ¬ (l.all (gOk many d) = true ∧ n + (cSs l : Int) ≤ 16) := fun h => by omega
   rw [Zq this]
   simp [hc]
  ·obtain ⟨c, h⟩ := Rvb hmn (l := l) (d0 := d) (by omega) hd (fun d1 e1 bl m hb g0 g1 => by
    obtain ⟨s, hs, hbl⟩ := hb
    have := Rki hs
    have := Rtu s
    have hmb : mSs bl ≤ 4294967296 := by rcases hbl with rfl | rfl <;> omega
    exact Rja hmn d1 bl m (by omega) hmb g0 g1) l.length 0 (n + l.length) (by omega) (by omega) (by omega)
   rw [List.drop_zero] at h
   by_cases g : l.all (gOk many d) = true ∧ n + (cSs l : Int) ≤ 16
   ·refine ⟨n + cSs l, ?_, fun _ _ => rfl⟩
    apply Rfo
    rw [wrap_id (by omega) (by omega), show (0 : Int) = ((0 : Nat) : Int) by rfl, h, if_pos ⟨g.1, by omega⟩, Zp g]
    simp only [hc, Zz, Zf, Qb, selm]
    congr 2; omega
   ·refine ⟨c, ?_, fun a b => absurd ⟨a, b⟩ g⟩
    apply Rfo
    rw [wrap_id (by omega) (by omega), show (0 : Int) = ((0 : Nat) : Int) by rfl, h, if_neg (fun x => g ⟨x.1, by omega⟩), Zq g]
    simp only [hc, Zz, Zf, Qb, selm]
 termination_by d => d
mutual
def bS (many : Int) : Stm → Bool
 | ⟨k, _, b, _, bd, el⟩ => !(decide (k = 4 ∨ k = 5) && decide (many ≤ b)) && bSs many bd && bSs many el
def bSs (many : Int) : List Stm → Bool
 | [] => true
 | s :: r => bS many s && bSs many r
end
theorem bS_eq (many : Int) (s : Stm) : bS many s = (!(decide (s.kind = 4 ∨ s.kind = 5) && decide (many ≤ s.box)) && bSs many s.body && bSs many s.els) := by cases s; simp [bS]
theorem Rvp (many : Int) : ∀ l : List Stm, bSs many l = l.all (bS many)
 | [] => rfl
 | s :: r => by simp [bSs, Rvp many r]
theorem Rwc {s : Stm} (h : hdr s) (n2 : s.kind ≠ 2) (n3 : s.kind ≠ 3) : s.body = [] ∧ s.els = [] := by
 simp only [hdr, n2, n3, false_and, false_or] at h
 have : (s.body.length : Int) = 0 ∧ (s.els.length : Int) = 0 := by
  rcases h with h | h | h | h | h
  ·exact ⟨h.2.2.2.2.1, h.2.2.2.2.2⟩
  ·exact ⟨h.2.2.2.2.1, h.2.2.2.2.2⟩
  ·exact ⟨h.2.2.2.2.1, h.2.2.2.2.2⟩
  ·exact ⟨h.2.2.2.2.1, h.2.2.2.2.2⟩
  ·exact ⟨h.2.2.2.2.1, h.2.2.2.2.2⟩
 exact ⟨List.eq_nil_of_length_eq_zero (by omega), List.eq_nil_of_length_eq_zero (by omega)⟩
theorem Rxp (many : Int) (s : Stm) : decide (hdN many s) = (decide (hdr s) && !(decide (s.kind = 4 ∨ s.kind = 5) && decide (many ≤ s.box))) := by
 rw [Bool.eq_iff_iff]
 simp only [hdN, Ze, Zw, Bool.not_eq_true', Bool.and_eq_false_iff, decide_eq_false_iff_not]
 by_cases h : s.kind = 4 ∨ s.kind = 5
 ·simp [h]
 ·simp [h]
theorem Rtj {α : Type} {f g h : α → Bool} (hp : ∀ a, f a = (g a && h a)) : ∀ l : List α, l.all f = (l.all g && l.all h)
 | [] => rfl
 | a :: r => by
  simp only [List.all_cons, hp a, Rtj hp r]
  cases g a <;> cases h a <;> simp
theorem Rxo (many : Int) : ∀ (d : Nat) (s : Stm), gOk many d s = (sOk d s && bS many s)
 | 0, s => by
  simp only [gOk, sOk, Rxp, bS_eq]
  by_cases hh : hdr s
  ·by_cases hk : s.kind = 2 ∨ s.kind = 3
   ·simp [hk]
   ·have hl := Rwc hh (fun h => hk (.inl h)) (fun h => hk (.inr h))
    rw [hl.1, hl.2]
    simp [hh, hk, bSs]
  ·simp [hh]
 | d + 1, s => by
  simp only [gOk, sOk, Rxp, bS_eq]
  by_cases hh : hdr s
  ·by_cases hk : s.kind = 2 ∨ s.kind = 3
   ·have hk4 : ¬ (s.kind = 4 ∨ s.kind = 5) := by omega
    rw [Rtj (Rxo many d) s.body, Rtj (Rxo many d) s.els, Rvp, Rvp]
    simp only [hk, if_true, hk4, Zz, Bool.false_and, Zx, hh, Zy, Bool.true_and, Bool.and_true]
    cases s.body.all (sOk d) <;> cases s.body.all (bS many) <;> cases s.els.all (sOk d) <;> simp
   ·have hl := Rwc hh (fun h => hk (.inl h)) (fun h => hk (.inr h))
    rw [hl.1, hl.2]
    simp [hh, hk, bSs]
  ·simp [hh]
theorem l12_l {l : List Stm} {many : Int} (hl : (l.length : Int) ≤ 4294967296) (hp : ∀ s ∈ l, Raa s.body many = some (bSs many s.body) ∧ Raa s.els many = some (bSs many s.els)) :
  ∀ (d i : Nat), i + d = l.length → Rck l many i = some (if bSs many (l.drop i) then .inl () else .inr false)
 | 0, i, hd => by
  apply Rie
  have hi : ¬ ((i : Int) < l.length) := by omega
  rw [List.drop_eq_nil_of_le (by omega)]
  simp [hi, bSs]
 | d + 1, i, hd => by
  apply Rie
  have hi : i < l.length := by omega
  have hi' : (i : Int) < l.length := by omega
  obtain ⟨p1, p2⟩ := hp _ (List.getElem_mem hi)
  have e1 : bSs many (l.drop i) = (bS many l[i] && bSs many (l.drop (i + 1))) := by rw [List.drop_eq_getElem_cons hi]; simp only [bSs]
  rw [Rbi hi, Rdk (by omega), l12_l hl hp d (i + 1) (by omega), e1, bS_eq]
  simp only [hi', Zy, Zt, Qb, p1, p2]
  by_cases h4 : l[i].kind = 4
  ·by_cases hb : many ≤ l[i].box <;> cases bSs many l[i].body <;> cases bSs many l[i].els <;> simp [h4, hb]
  ·by_cases h5 : l[i].kind = 5
   ·by_cases hb : many ≤ l[i].box <;> cases bSs many l[i].body <;> cases bSs many l[i].els <;> simp [h5, hb]
   ·cases bSs many l[i].body <;> cases bSs many l[i].els <;> simp [h4, h5]
theorem Rgg {l : List Stm} {many : Int} (hl : (l.length : Int) ≤ 4294967296) (hp : ∀ s ∈ l, Raa s.body many = some (bSs many s.body) ∧ Raa s.els many = some (bSs many s.els)) : Raa l many = some (bSs many l) := by
 apply Rpt
 rw [show (0 : Int) = ((0 : Nat) : Int) by rfl, l12_l hl hp l.length 0 (by omega), List.drop_zero]
 cases bSs many l <;> simp [selm]
theorem Rxt (many : Int) : ∀ s : Stm, mS s ≤ 4294967296 → Raa s.body many = some (bSs many s.body) ∧ Raa s.els many = some (bSs many s.els) := by
 apply Stm.ind
 intro s ih1 ih2 hb
 rw [Rtu] at hb
 have l1 := Rfc s.body
 have l2 := Rfc s.els
 exact ⟨Rgg (by omega) (fun a ha => ih1 a ha (by have := Rki ha; omega)), Rgg (by omega) (fun a ha => ih2 a ha (by have := Rki ha; omega))⟩
theorem Rps {l : List Stm} {many : Int} (hb : mSs l ≤ 4294967296) : Raa l many = some (bSs many l) :=
 Rgg (by have := Rfc l; omega) (fun s hs => Rxt many s (by have := Rki hs; omega))
def gtOk (many : Int) (l : List Stm) : Bool := decide (l.all (gOk many 3) = true ∧ (cSs l : Int) ≤ 16)
theorem gtOk_eq (many : Int) (l : List Stm) : gtOk many l = (stOk l && bSs many l) := by
 unfold gtOk stOk
 rw [Rtj (Rxo many 3) l, Rvp]
 cases l.all (sOk 3) <;> cases l.all (bS many) <;> simp
theorem Roa {many : Int} (hmn : 0 ≤ many ∧ many ≤ 3) (l : List Stm) (hm : mSs l ≤ 4294967296) : Rhv l many = some (stOk l && bSs many l) := by
 apply Rmo
 obtain ⟨c, h, _⟩ := Rja hmn 3 l 0 (by omega) hm (by omega) (by omega)
 rw [show (3 : Int) - ((3 : Nat) : Int) = 0 by omega] at h
 rw [h, Qb, ← gtOk_eq]
 simp [gtOk]
theorem Rte {a : List Int} (hl : (a.length : Int) ≤ 4294967296) : ∀ (d i : Nat), i + d = a.length → Reu a a i = some (.inl ())
 | 0, i, hd => by
  apply Rhy
  have hi : ¬ ((i : Int) < a.length) := by omega
  simp [hi]
 | d + 1, i, hd => by
  apply Rhy
  have hi : i < a.length := by omega
  have hi' : (i : Int) < a.length := by omega
  rw [Rbi hi, Rdk (by omega)]
  simp only [hi', Zy, Zt, Qb, Zv, Zf]
  exact Rte hl d (i + 1) (by omega)
theorem Rms {a : List Int} (hl : (a.length : Int) ≤ 4294967296) : Rjq a a = some true := by
 apply Rpn
 rw [show (0 : Int) = ((0 : Nat) : Int) by rfl, Rte hl a.length 0 (by omega)]
 simp [selm]
theorem Rhq {a b : List UInt8} (h : a.length + b.length ≤ 1099511627776) : catS a b = some (a ++ b) := by
 unfold catS LIM; rw [if_pos h]
theorem Rxr {n : Int} (h : wfI n) : strconv_Itoa n = some (Lib.itoa n) := by
 apply Rro
 rw [if_pos h]
theorem Rfm : ∀ (k u : Nat), u < 10 ^ k → (Lib.decDigits u).length ≤ max k 1
 | 0, u, h => by
  unfold Lib.decDigits
  have : u < 10 := by omega
  rw [dif_pos this]; simp
 | k + 1, u, h => by
  unfold Lib.decDigits
  split
  ·show 1 ≤ _; omega
  ·rename_i h10
   have h2 : u / 10 < 10 ^ k := by rw [Nat.pow_succ] at h; omega
   have := Rfm k (u / 10) h2
   rw [Za]
   have hk : 1 ≤ k := by
    cases k with
    | zero => simp at h; omega
    | succ k => omega
   simp only [Zc, Zn]; omega
theorem Rtn {n : Nat} (h : n < 10) : Tv.bytes [wrap64 (48 + (n : Int)) % 256] = [UInt8.ofNat (48 + n)] := by
 rw [wrap_id (by omega) (by omega)]
 have : ((48 + (n : Int)) % 256) = ((48 + n : Nat) : Int) := by omega
 rw [this]; rfl
theorem Rqv : ∀ (k u : Nat), u < 10 ^ k → k ≤ 19 → u ≤ 9223372036854775807 → Rdx (u : Int) = some (Lib.decDigits u)
 | 0, u, h, _, _ => by
  apply Rjy
  have h0 : u < 10 := by omega
  have h1 : ¬ ((u : Int) < -9223372036854775807) := by omega
  have h2 : ¬ ((u : Int) < 0) := by omega
  have h3 : (u : Int) < 10 := by omega
  simp only [h1, h2, h3, Zz, Zy, Zf, Zt]
  rw [Rtn h0]
  unfold Lib.decDigits
  rw [dif_pos h0]
 | k + 1, u, h, hk, hu => by
  apply Rjy
  have h1 : ¬ ((u : Int) < -9223372036854775807) := by omega
  have h2 : ¬ ((u : Int) < 0) := by omega
  simp only [h1, h2, Zz, Zf]
  by_cases h3 : u < 10
  ·have h3' : (u : Int) < 10 := by omega
   simp only [h3', Zy, Zt]
   rw [Rtn h3]
   unfold Lib.decDigits
   rw [dif_pos h3]
  ·have h3' : ¬ ((u : Int) < 10) := by omega
   simp only [h3', Zz, Zf]
   have hd : Int.tdiv (u : Int) 10 = ((u / 10 : Nat) : Int) := by
    rw [Int.tdiv_eq_ediv_of_nonneg (by omega)]; rfl
   have hm : Int.tmod (u : Int) 10 = ((u % 10 : Nat) : Int) := by
    rw [Int.tmod_eq_emod_of_nonneg (by omega)]; rfl
   have hlt : u / 10 < 10 ^ k := by rw [Nat.pow_succ] at h; omega
   rw [hd, hm, wrap_id (n := ((u / 10 : Nat) : Int)) (by omega) (by omega), Rqv k (u / 10) hlt (by omega) (by omega), Qb, Rtn (by omega)]
   have hl := Rfm k (u / 10) hlt
   rw [Rhq (by simp only [Zc, Zn]; omega), Qb]
   conv => rhs; unfold Lib.decDigits
   rw [dif_neg h3]
theorem Rni {n : Int} (h : wfI n) : Rdx n = some (Lib.itoa n) := by
 by_cases h0 : 0 ≤ n
 ·obtain ⟨u, rfl⟩ := Int.eq_ofNat_of_zero_le h0
  rw [Rqv 19 u (by have := h.2; omega) (by omega) (by have := h.2; omega), Lib.itoa_nonneg]
 ·apply Rjy
  by_cases hm : n < -9223372036854775807
  ·have : n = -9223372036854775808 := by have := h.1; omega
   subst this
   simp only [show ((-9223372036854775808 : Int) < -9223372036854775807) = True by simp, Zy, Zt]
   have e : Lib.itoa (-9223372036854775808) = [45, 57, 50, 50, 51, 51, 55, 50, 48, 51, 54, 56, 53, 52, 55, 55, 53, 56, 48, 56] := by
    decide +kernel
   rw [e]
  ·have h2 : n < 0 := by omega
   simp only [hm, h2, Zz, Zy, Zf, Zt]
   have e : wrap64 (0 - n) = ((n.natAbs : Nat) : Int) := by rw [wrap_id (by omega) (by omega)]; omega
   rw [e, Rqv 19 n.natAbs (by omega) (by omega) (by omega), Qb]
   have hl := Rfm 19 n.natAbs (by omega)
   rw [Rhq (by simp only [Zc, Zn]; omega), Qb]
   unfold Lib.itoa
   rw [if_pos h2]; rfl
def opTs : List (List UInt8) := [[124], [94], [38], [61, 61], [60], [60, 60], [62, 62], [43], [45], [42], [47], [37]]
def opT (n : Int) : List UInt8 := if 1 ≤ n ∧ n ≤ 12 then opTs.getD (n - 1).toNat [] else []
theorem Rqf {n : Int} (h0 : 1 ≤ n) (h1 : n ≤ 12) : opTs[(n - 1).toNat]? = some (opT n) := by
 unfold opT
 rw [if_pos ⟨h0, h1⟩, List.getD_eq_getElem?_getD]
 have hl : (n - 1).toNat < opTs.length := by show (n - 1).toNat < 12; omega
 rw [List.getElem?_eq_getElem hl]; rfl
theorem opT_len (n : Int) : (opT n).length ≤ 2 := by
 unfold opT
 split
 ·have : ∀ i : Fin 12, (opTs.getD i.val []).length ≤ 2 := by decide
  exact this ⟨(n - 1).toNat, by omega⟩
 ·simp
theorem Rld (n : Int) : Rjt n = some (opT n) := by
 apply Rry
 rw [Rhz, Qb]
 by_cases h : 1 ≤ n ∧ n ≤ 12
 ·simp only [h, and_self, Zy, Zv, Zf]
  rw [wrap_id (by omega) (by omega)]
  unfold geti
  rw [if_pos (by omega)]
  rw [show ([[124], [94], [38], [61, 61], [60], [60, 60], [62, 62], [43], [45], [42], [47], [37]] : List (List UInt8)) = opTs from rfl, Rqf h.1 h.2]; rfl
 ·simp only [h, Zz, Zx, Zt]
  unfold opT; rw [if_neg h]
theorem Rrt (n : Int) : Rlh n = some (opT n) := by
 apply Rru
 rw [Rhr, Qb]
 by_cases h : 1 ≤ n ∧ n ≤ 12
 ·simp only [h, and_self, Zy, Zv, Zf]
  rw [wrap_id (by omega) (by omega)]
  unfold geti
  rw [if_pos (by omega)]
  rw [show ([[124], [94], [38], [61, 61], [60], [60, 60], [62, 62], [43], [45], [42], [47], [37]] : List (List UInt8)) = opTs from rfl, Rqf h.1 h.2]; rfl
 ·simp only [h, Zz, Zx, Zt]
  unfold opT; rw [if_neg h]
abbrev Tok := List UInt8
def dg (c : UInt8) : Bool := decide (48 ≤ c.toNat ∧ c.toNat ≤ 57)
def lt (c : UInt8) : Bool := decide (97 ≤ c.toNat ∧ c.toNat ≤ 122)
def bl (c : UInt8) : Bool := decide (c.toNat = 32 ∨ c.toNat = 10)
def syms : List UInt8 := [43, 45, 42, 47, 37, 38, 124, 94, 60, 62, 40, 41, 123, 125, 61, 59]
def ones : List UInt8 := [124, 94, 38, 60, 43, 45, 42, 47, 37, 40, 41, 123, 125, 61, 59]
def twos : List (List UInt8) := [[61, 61], [60, 60], [62, 62]]
def Rm : List UInt8 → Nat
 | [] => 0
 | c :: r =>
  if dg c then 1 + (r.takeWhile dg).length
  else if lt c then 1 + (r.takeWhile lt).length
  else if twos.any (fun t => t.isPrefixOf (c :: r)) then 2
  else if c ∈ ones then 1 else 0
theorem Rrq : ∀ l : List UInt8, Rm l ≤ l.length
 | [] => Nat.le_refl _
 | c :: r => by
  have h1 := (List.takeWhile_sublist (l := r) dg).length_le
  have h2 := (List.takeWhile_sublist (l := r) lt).length_le
  have h3 : twos.any (fun t => t.isPrefixOf (c :: r)) = true → 2 ≤ (c :: r).length := by
   intro h
   obtain ⟨t, ht, hp⟩ := List.any_eq_true.mp h
   have := (List.isPrefixOf_iff_prefix.mp hp).length_le
   have : t.length = 2 := by
    unfold twos at ht
    simp only [Zo, List.not_mem_nil, or_false] at ht
    rcases ht with rfl | rfl | rfl <;> rfl
   omega
  simp only [Rm]
  by_cases c1 : dg c = true
  ·simp only [c1, if_true, Zc]; omega
  ·simp only [c1, Bool.false_eq_true, if_false]
   by_cases c2 : lt c = true
   ·simp only [c2, if_true, Zc]; omega
   ·simp only [c2, Bool.false_eq_true, if_false]
    by_cases c3 : twos.any (fun t => t.isPrefixOf (c :: r)) = true
    ·simp only [c3, if_true]; exact h3 c3
    ·simp only [c3, Bool.false_eq_true, if_false]
     by_cases c4 : c ∈ ones
     ·simp only [c4, if_true, Zc]; simp
     ·simp [c4]
def toks : List UInt8 → Option (List Tok)
 | [] => some []
 | c :: r =>
  if bl c then toks r
  else if h : Rm (c :: r) = 0 then none
  else bnd (toks ((c :: r).drop (Rm (c :: r)))) fun t => some ((c :: r).take (Rm (c :: r)) :: t)
termination_by l => l.length
decreasing_by
 ·simp
 ·simp only [List.length_drop, Zc]; omega
theorem w1n {n : Nat} (h : n ≤ 1000000000000) : wrap64 ((n : Int) + 1) = ((n + 1 : Nat) : Int) := by rw [wrap_id (by omega) (by omega)]; rfl
theorem Rcy {α : Type} {l : List α} {i : Nat} (h : i < l.length) : geti l (i : Int) = some l[i] := by rw [geti_nat', List.getElem?_eq_getElem h]
theorem Rdd (c : UInt8) : Rgp (c.toNat : Int) = some (dg c) := by
 apply Rqo
 unfold dg
 by_cases h : 48 ≤ c.toNat
 ·have h' : (48 : Int) ≤ c.toNat := by omega
  simp only [h', Zy, Zt, h, true_and]
  congr 1; congr 1; apply propext; omega
 ·have h' : ¬ (48 : Int) ≤ c.toNat := by omega
  simp only [h', Zz, Zf, h, false_and]
theorem Rpk (c : UInt8) : Rjp (c.toNat : Int) = some (lt c) := by
 apply Rpl
 unfold lt
 by_cases h : 97 ≤ c.toNat
 ·have h' : (97 : Int) ≤ c.toNat := by omega
  simp only [h', Zy, Zt, h, true_and]
  congr 1; congr 1; apply propext; omega
 ·have h' : ¬ (97 : Int) ≤ c.toNat := by omega
  simp only [h', Zz, Zf, h, false_and]
theorem Rvz {s : List UInt8} (hs : s.length ≤ 1000000000) (t9 t10 : Int) : ∀ (d i : Nat), i + d = s.length →
  Rah s i t9 t10 = some (s, ((i + ((s.drop i).takeWhile dg).length : Nat) : Int), t9, t10)
 | 0, i, h => by
  apply Rde
  have h1 : ¬ ((i : Int) < s.length) := by omega
  simp only [h1, Zz, Zf]
  rw [List.drop_eq_nil_of_le (by omega)]; rfl
 | d + 1, i, h => by
  apply Rde
  have h1 : (i : Int) < s.length := by omega
  have hl : i < s.length := by omega
  simp only [h1, Zy, Zt]
  rw [Rcy hl, Qb, Rdd, Qb, List.drop_eq_getElem_cons hl, List.takeWhile_cons]
  cases hd : dg s[i]
  ·simp
  ·simp only [Zt, if_true]
   rw [w1n (by omega), Rvz hs t9 t10 d (i + 1) (by omega)]
   simp only [Zc]
   rw [Nat.add_assoc, Nat.add_comm 1]
theorem Rup {s : List UInt8} (hs : s.length ≤ 1000000000) (t9 t10 : Int) : ∀ (d i : Nat), i + d = s.length →
  Rai s i t9 t10 = some (s, ((i + ((s.drop i).takeWhile lt).length : Nat) : Int), t9, t10)
 | 0, i, h => by
  apply Rdf
  have h1 : ¬ ((i : Int) < s.length) := by omega
  simp only [h1, Zz, Zf]
  rw [List.drop_eq_nil_of_le (by omega)]; rfl
 | d + 1, i, h => by
  apply Rdf
  have h1 : (i : Int) < s.length := by omega
  have hl : i < s.length := by omega
  simp only [h1, Zy, Zt]
  rw [Rcy hl, Qb, Rpk, Qb, List.drop_eq_getElem_cons hl, List.takeWhile_cons]
  cases hd : lt s[i]
  ·simp
  ·simp only [Zt, if_true]
   rw [w1n (by omega), Rup hs t9 t10 d (i + 1) (by omega)]
   simp only [Zc]
   rw [Nat.add_assoc, Nat.add_comm 1]
theorem Ros {s : List UInt8} (hs : s.length ≤ 1000000000) : Rby s 2 0 =
  some (if 0 < (s.takeWhile dg).length then .inr (s, ((s.takeWhile dg).length : Int)) else if 0 < (s.takeWhile lt).length then .inr (s, ((s.takeWhile lt).length : Int)) else .inl s) := by
 apply Rdy
 have e0 := Rvz hs 2 0 s.length 0 (by omega)
 have e1 := Rup hs 2 1 s.length 0 (by omega)
 simp only [List.drop_zero, Nat.zero_add, Int.ofNat_zero, Int.natCast_zero] at e0 e1
 simp only [show (0 : Int) < 2 by omega, Zy, Zt]
 rw [show (0 : Int) = ((0 : Nat) : Int) from rfl] at e0
 rw [show Rah s 0 2 0 = _ from e0, Qb]
 by_cases h0 : 0 < (s.takeWhile dg).length
 ·have h0' : (0 : Int) < ((s.takeWhile dg).length : Int) := by omega
  simp only [h0', Zy, Zt, h0, if_true]
 ·have h0' : ¬ (0 : Int) < ((s.takeWhile dg).length : Int) := by omega
  simp only [h0', Zz, Zf, h0, if_false]
  rw [show wrap64 (((0 : Nat) : Int) + 1) = 1 from w01]
  apply Rdy
  simp only [show (1 : Int) < 2 by omega, show ¬ (1 : Int) = 0 by omega, show (1 : Int) - 1 = 0 by omega, Zy, Zz, Zf, Zt]
  rw [show Rai s 0 2 1 = _ from e1, Qb]
  by_cases h1 : 0 < (s.takeWhile lt).length
  ·have h1' : (0 : Int) < ((s.takeWhile lt).length : Int) := by omega
   simp only [h1', Zy, Zt, h1, if_true]
  ·have h1' : ¬ (0 : Int) < ((s.takeWhile lt).length : Int) := by omega
   simp only [h1', Zz, Zf, h1, if_false]
   rw [show wrap64 (1 + 1) = 2 from w11]
   apply Rdy
   simp only [show ¬ (2 : Int) < 2 by omega, Zz, Zf]
theorem Rgk {s : List UInt8} (m : Md) (l : List (List UInt8)) (hl : l.length ≤ 1000) : ∀ (d i : Nat), i + d = l.length →
  Rbz s m l l.length i = some (if (l.drop i).any (fun t => t.isPrefixOf s) then .inr (s, 2) else .inl s)
 | 0, i, h => by
  apply Rfz
  have h1 : ¬ ((i : Int) < l.length) := by omega
  simp only [h1, Zz, Zf]
  rw [List.drop_eq_nil_of_le (by omega)]; rfl
 | d + 1, i, h => by
  apply Rfz
  have h1 : (i : Int) < l.length := by omega
  have hi : i < l.length := by omega
  simp only [h1, Zy, Zt]
  have hp : strings_HasPrefix s l[i] = some (l[i].isPrefixOf s) := Rla _ _ _ rfl
  rw [Rcy hi, Qb, hp, Qb, List.drop_eq_getElem_cons hi, List.any_cons]
  cases l[i].isPrefixOf s
  ·simp only [Zf, Bool.false_or]
   rw [w1n (by omega), Rgk m l hl d (i + 1) (by omega)]
  ·simp
theorem Rqr (c : UInt8) : ∀ l : List UInt8, (0 ≤ Lib.indexByte l c ↔ c ∈ l) ∧ -1 ≤ Lib.indexByte l c
 | [] => by simp [Lib.indexByte]
 | a :: r => by
  have ih := Rqr c r
  unfold Lib.indexByte
  by_cases h : a = c
  ·subst h; simp
  ·have h' : ¬ c = a := fun e => h e.symm
   simp only [h, h', if_false, Zo, false_or, beq_iff_eq]
   by_cases hc : c ∈ r
   ·have h2 := ih.1.mpr hc
    simp only [hc, iff_true]
    split <;> omega
   ·have h2 : ¬ 0 ≤ Lib.indexByte r c := fun h => hc (ih.1.mp h)
    simp only [hc, iff_false]
    split <;> omega
theorem Rhw {s : List UInt8} (hs : s.length ≤ 1000000000) : Rdq s = some (Rm s : Int) := by
 apply Rlo
 rw [show ((([33100, 33200] : List Nat).length : Nat) : Int) = 2 from rfl, Ros hs, Qb]
 cases s with
 | nil =>
  simp only [List.takeWhile_nil, Zn, Nat.lt_irrefl, if_false, selm]
  rw [show (0 : Int) = ((0 : Nat) : Int) from rfl, Rgk _ _ (by decide) 3 0 (by decide), Qb]
  rfl
 | cons c r =>
  simp only [List.takeWhile_cons, Rm]
  cases hd : dg c
  ·simp only [Bool.false_eq_true, if_false, Zn, Nat.lt_irrefl]
   cases hl : lt c
   ·simp only [Bool.false_eq_true, if_false, Zn, Nat.lt_irrefl, selm]
    rw [show Rbz (c :: r) .full ([[61, 61], [60, 60], [62, 62]] : List (List UInt8)) (([[61, 61], [60, 60], [62, 62]] : List (List UInt8)).length : Int) 0 = _ from Rgk _ _ (by decide) 3 0 (by decide), Qb]
    rw [List.drop_zero]
    change selm (if twos.any (fun t => t.isPrefixOf (c :: r)) = true then _ else _) _ _ = some (((if twos.any (fun t => t.isPrefixOf (c :: r)) = true then 2 else if c ∈ ones then 1 else 0 : Nat)) : Int)
    by_cases c3 : twos.any (fun t => t.isPrefixOf (c :: r)) = true
    ·simp only [c3, if_true, selm]; rfl
    ·simp only [c3, if_false, selm, Bool.false_eq_true]
     rw [show ((c :: r : List UInt8) == []) = false from rfl]
     simp only [Zx, Zt]
     rw [show geti (c :: r) 0 = some c from Rmf _ _, Qb]
     have hi : strings_IndexByte ([124, 94, 38, 60, 43, 45, 42, 47, 37, 40, 41, 123, 125, 61, 59]) (c.toNat : Int) = some (Lib.indexByte ones c) := by
      apply Rlb _ _
      have e : ((c.toNat : Int).toNat.toUInt8) = c := by
       rw [Int.toNat_natCast]; exact UInt8.ofNat_toNat
      rw [e]; rfl
     rw [hi, Qb]
     by_cases c4 : c ∈ ones
     ·have := (Rqr c ones).1.mpr c4
      simp [this, c4]
     ·have : ¬ 0 ≤ Lib.indexByte ones c := fun h => c4 ((Rqr c ones).1.mp h)
      simp [this, c4]
   ·simp only [if_true, Zc, selm, Nat.zero_lt_succ]
    rw [Nat.add_comm]
  ·simp only [if_true, Zc, selm, Nat.zero_lt_succ]
   rw [Nat.add_comm]
theorem Rba {α : Type} {l : List α} {a : α} (h : l.length ≤ 1000000) : appL l [a] = some (l ++ [a]) := by
 unfold appL; rw [if_pos (by simp only [Zc, Zn]; omega)]
theorem Riz {α : Type} {l : List α} {lo hi : Nat} (h1 : lo ≤ hi) (h2 : hi ≤ l.length) : cutL l (lo : Int) (hi : Int) = some ((l.take hi).drop lo) := by
 unfold cutL
 rw [if_pos (by omega), Int.toNat_natCast, Int.toNat_natCast]
theorem Riv {α : Type} (l : List α) (i n : Nat) : (l.take (i + n)).drop i = (l.drop i).take n := by
 rw [List.drop_take]; congr 1; omega
theorem Rno : toks [] = some [] := by unfold toks; rfl
theorem Rud {c : UInt8} (r : List UInt8) (h : bl c = true) : toks (c :: r) = toks r := by
 conv => lhs; unfold toks
 rw [if_pos h]
theorem Rvk {c : UInt8} {r : List UInt8} (h : bl c = false) (h0 : Rm (c :: r) = 0) : toks (c :: r) = none := by
 unfold toks
 rw [if_neg (by simp [h]), dif_pos h0]
theorem Rnp {c : UInt8} {r : List UInt8} (h : bl c = false) (h0 : Rm (c :: r) ≠ 0) :
  toks (c :: r) = bnd (toks ((c :: r).drop (Rm (c :: r)))) fun t => some ((c :: r).take (Rm (c :: r)) :: t) := by
 conv => lhs; unfold toks
 rw [if_neg (by simp [h]), dif_neg h0]
theorem Rjo {s : List UInt8} (hs : s.length ≤ 20000) : ∀ (d i : Nat) (b : Bool) (l : List Tok), s.length ≤ i + d → l.length ≤ i → i ≤ s.length →
  (∀ t, toks (s.drop i) = some t → ∃ b', Rae s b l i = some (.inl (b', l ++ t))) ∧
  (toks (s.drop i) = none → ∃ b' l', Rae s b l i = some (.inr ((false, []), false, (b', l'))))
 | d, i, b, l, h, hl, hi => by
  by_cases hlt : i < s.length
  ·have h1 : (i : Int) < s.length := by omega
   obtain ⟨d, rfl⟩ : ∃ d', d = d' + 1 := ⟨d - 1, by omega⟩
   have e := List.drop_eq_getElem_cons hlt
   have hg : geti s (i : Int) = some s[i] := Rcy hlt
   generalize s[i] = c at e hg
   cases hb : bl c
   ·have hb' : ¬ ((c.toNat : Int) = 32) ∧ ¬ ((c.toNat : Int) = 10) := by
     unfold bl at hb
     have := of_decide_eq_false hb
     omega
    have hc : cutL s (i : Int) (s.length : Int) = some (s.drop i) := by
     rw [Riz (by omega) (by omega), List.take_length]
    have ht : Rdq (s.drop i) = some (Rm (s.drop i) : Int) := Rhw (by simp only [List.length_drop]; omega)
    have hle := Rrq (s.drop i)
    rw [List.length_drop] at hle
    by_cases h0 : Rm (s.drop i) = 0
    ·have hn : toks (s.drop i) = none := by rw [e]; exact Rvk hb (by rw [← e]; exact h0)
     rw [hn]
     refine ⟨fun t h => by (cases h), fun _ => ⟨b, l, ?_⟩⟩
     apply Rej
     simp only [h1, Zy, Zt, hg, Qb, hb'.1, hb'.2, Zz, Zf, hc, ht, h0, Int.ofNat_zero, Int.natCast_zero]
    ·have hn : toks (s.drop i) = bnd (toks (s.drop (i + Rm (s.drop i)))) fun t => some ((s.drop i).take (Rm (s.drop i)) :: t) := by
      conv => lhs; rw [e]
      rw [Rnp hb (by rw [← e]; exact h0), ← e, List.drop_drop]
     rw [hn]
     have ih := Rjo hs d (i + Rm (s.drop i)) true (l ++ [(s.drop i).take (Rm (s.drop i))]) (by omega) (by simp only [Za, Zc, Zn]; omega) (by omega)
     have hw : wrap64 ((i : Int) + (Rm (s.drop i) : Int)) = ((i + Rm (s.drop i) : Nat) : Int) := by rw [wrap_id (by omega) (by omega)]; rfl
     have h0' : ¬ ((Rm (s.drop i) : Int) = 0) := by omega
     have hc2 : cutL s (i : Int) ((i + Rm (s.drop i) : Nat) : Int) = some ((s.drop i).take (Rm (s.drop i))) := by
      rw [Riz (by omega) (by omega), Riv]
     have step : ∀ x, Rae s true (l ++ [(s.drop i).take (Rm (s.drop i))]) ((i + Rm (s.drop i) : Nat) : Int) = some x → Rae s b l i = some x := by
      intro x hx
      apply Rej
      simp only [h1, Zy, Zt, hg, Qb, hb'.1, hb'.2, Zz, Zf, hc, ht, h0', hw, hc2]
      rw [Rba (by omega), Qb, hx]
     refine ⟨fun t h => ?_, fun h => ?_⟩
     ·cases ht2 : toks (s.drop (i + Rm (s.drop i))) with
      | none => rw [ht2] at h; cases h
      | some t2 =>
       rw [ht2, Qb] at h
       injection h with h
       subst h
       obtain ⟨b', hx⟩ := ih.1 t2 ht2
       refine ⟨b', step _ ?_⟩
       rw [hx, List.append_assoc]; rfl
     ·cases ht2 : toks (s.drop (i + Rm (s.drop i))) with
      | none =>
       obtain ⟨b', l', hx⟩ := ih.2 ht2
       exact ⟨b', l', step _ hx⟩
      | some t2 => rw [ht2, Qb] at h; cases h
   ·have hn : toks (s.drop i) = toks (s.drop (i + 1)) := by rw [e]; exact Rud _ hb
    rw [hn]
    have ih := Rjo hs d (i + 1) b l (by omega) (by omega) (by omega)
    have step : ∀ x, Rae s b l ((i + 1 : Nat) : Int) = some x → Rae s b l i = some x := by
     intro x hx
     apply Rej
     have hb' := of_decide_eq_true hb
     by_cases h32 : (c.toNat : Int) = 32
     ·simp only [h1, Zy, Zt, hg, Qb, h32]
      rw [w1n (by omega), hx]
     ·have h10 : (c.toNat : Int) = 10 := by omega
      simp only [h1, Zy, Zt, hg, Qb, h10, show ¬ ((10 : Int) = 32) by omega, Zz, Zf]
      rw [w1n (by omega), hx]
    refine ⟨fun t h => ?_, fun h => ?_⟩
    ·obtain ⟨b', hx⟩ := ih.1 t h
     exact ⟨b', step _ hx⟩
    ·obtain ⟨b', l', hx⟩ := ih.2 h
     exact ⟨b', l', step _ hx⟩
  ·rw [List.drop_eq_nil_of_le (by omega), Rno]
   refine ⟨fun t h => ⟨b, ?_⟩, fun h => by cases h⟩
   injection h with h
   subst h
   apply Rej
   have h1 : ¬ ((i : Int) < s.length) := by omega
   simp only [h1, Zz, Zf, List.append_nil]
theorem Rdw (s : List UInt8) : Rlk s = some (if 20000 < s.length then ([], false) else match toks s with | some t => (t, true) | none => ([], false)) := by
 apply Rrv
 by_cases h : 20000 < s.length
 ·have h' : (20000 : Int) < s.length := by omega
  simp only [h, h', Zy, Zt, if_true]
 ·have h' : ¬ (20000 : Int) < s.length := by omega
  simp only [h, h', Zz, Zf, if_false]
  have := Rjo (s := s) (by omega) s.length 0 false [] (by omega) (by simp) (by omega)
  rw [List.drop_zero] at this
  cases ht : toks s with
  | some t =>
   obtain ⟨b', e⟩ := this.1 t ht
   rw [show Rae s false [] 0 = _ from e, Qb]; rfl
  | none =>
   obtain ⟨b', l', e⟩ := this.2 ht
   rw [show Rae s false [] 0 = _ from e, Qb]; rfl
def knd (c : UInt8) : Int := if dg c then 1 else if lt c then 2 else if bl c then 3 else if c ∈ syms then 4 else 0
theorem Rwg (c : UInt8) (l : List UInt8) (hl : l.length ≤ 1000) : ∀ (d i : Nat), i + d = l.length →
  Rbt (c.toNat : Int) l i = some (if c ∈ l.drop i then .inr 4 else .inl ())
 | 0, i, h => by
  apply Rjl
  have h1 : ¬ ((i : Int) < l.length) := by omega
  simp only [h1, Zz, Zf]
  rw [List.drop_eq_nil_of_le (by omega)]; rfl
 | d + 1, i, h => by
  apply Rjl
  have h1 : (i : Int) < l.length := by omega
  have hi : i < l.length := by omega
  simp only [h1, Zy, Zt]
  rw [Rcy hi, Qb, List.drop_eq_getElem_cons hi]
  by_cases hc : l[i] = c
  ·simp only [hc, Zy, Zt, Zo, true_or, if_true]
  ·have hc' : ¬ ((l[i].toNat : Int) = (c.toNat : Int)) := fun e => hc (UInt8.toNat_inj.mp (by omega))
   have hc2 : ¬ c = l[i] := fun e => hc e.symm
   simp only [hc', Zz, Zf, Zo, hc2, false_or]
   rw [w1n (by omega), Rwg c l hl d (i + 1) (by omega)]
theorem Rfp (c : UInt8) : Rgi (c.toNat : Int) = some (knd c) := by
 apply Rse
 have e := Rwg c syms (by decide) 16 0 (by decide)
 rw [List.drop_zero] at e
 have e' : Rbt (c.toNat : Int) ([43, 45, 42, 47, 37, 38, 124, 94, 60, 62, 40, 41, 123, 125, 61, 59]) 0 = some (if c ∈ syms then .inr 4 else .inl ()) := e
 rw [e']
 simp only [Qb]
 unfold knd dg lt bl
 by_cases h1 : (48 : Int) ≤ c.toNat <;> by_cases h2 : (c.toNat : Int) ≤ 57 <;> by_cases h3 : (97 : Int) ≤ c.toNat <;> by_cases h4 : (c.toNat : Int) ≤ 122 <;>
  by_cases h5 : (c.toNat : Int) = 32 <;> by_cases h6 : (c.toNat : Int) = 10 <;> try omega
 all_goals
  have g1 : (48 ≤ c.toNat) = ((48 : Int) ≤ c.toNat) := propext (by omega)
  have g2 : (c.toNat ≤ 57) = ((c.toNat : Int) ≤ 57) := propext (by omega)
  have g3 : (97 ≤ c.toNat) = ((97 : Int) ≤ c.toNat) := propext (by omega)
  have g4 : (c.toNat ≤ 122) = ((c.toNat : Int) ≤ 122) := propext (by omega)
  have g5 : (c.toNat = 32) = ((c.toNat : Int) = 32) := propext (by omega)
  have g6 : (c.toNat = 10) = ((c.toNat : Int) = 10) := propext (by omega)
  simp only [g1, g2, g3, g4, g5, g6, h1, h2, h3, h4, h5, h6, Zy, Zz, Zt, Zf, true_and, and_true, and_false, false_and, or_true, or_false, false_or, if_true, if_false, Bool.false_eq_true]
  try (first | rfl | (split <;> rfl))
theorem Rabg {c : UInt8} (h : dg c = true) : knd c = 1 := by unfold knd; rw [if_pos h]
theorem dg_lt {c : UInt8} (h : lt c = true) : dg c = false := by unfold dg lt at *; have := of_decide_eq_true h; apply Zq; omega
theorem Rabh {c : UInt8} (h : lt c = true) : knd c = 2 := by unfold knd; rw [if_neg (by simp [dg_lt h]), if_pos h]
theorem knd_one {c : UInt8} : (knd c = 1) ↔ dg c = true := by
 refine ⟨fun h => ?_, Rabg⟩
 unfold knd at h
 split at h
 ·assumption
 ·split at h; · cases h
  split at h; · cases h
  split at h <;> cases h
theorem knd_two {c : UInt8} : (knd c = 2) ↔ lt c = true := by
 refine ⟨fun h => ?_, Rabh⟩
 unfold knd at h
 split at h; · cases h
 split at h
 ·assumption
 ·split at h; · cases h
  split at h <;> cases h
theorem Rxf {c : UInt8} (h : bl c = true) : dg c = false ∧ lt c = false := by
 unfold dg lt bl at *; have := of_decide_eq_true h
 exact ⟨Zq (by omega), Zq (by omega)⟩
theorem Rqt {c : UInt8} : (knd c = 3) ↔ bl c = true := by
 refine ⟨fun h => ?_, fun h => ?_⟩
 ·unfold knd at h
  split at h; · cases h
  split at h; · cases h
  split at h
  ·assumption
  ·split at h <;> cases h
 ·obtain ⟨h1, h2⟩ := Rxf h
  unfold knd; simp [h, h1, h2]
theorem Rvj {s : List UInt8} (hs : s.length ≤ 1000000000) {at0 : Nat} (ha : at0 < s.length) {p : UInt8 → Bool} (hp : ∀ c, (knd c = knd s[at0]) ↔ p c = true) : ∀ (d i : Nat), i + d = s.length →
  Rhn s at0 i = some ((i + ((s.drop i).takeWhile p).length : Nat) : Int)
 | 0, i, h => by
  apply Rkd
  have h1 : ¬ ((i : Int) < s.length) := by omega
  simp only [h1, Zz, Zf]
  rw [List.drop_eq_nil_of_le (by omega)]; rfl
 | d + 1, i, h => by
  apply Rkd
  have h1 : (i : Int) < s.length := by omega
  have hl : i < s.length := by omega
  simp only [h1, Zy, Zt]
  rw [Rcy hl, Qb, Rfp, Qb, Rcy ha, Qb, Rfp, Qb, List.drop_eq_getElem_cons hl, List.takeWhile_cons]
  cases hd : p s[i]
  ·have : ¬ (knd s[i] = knd s[at0]) := by rw [hp]; simp [hd]
   simp only [this, Zz, Zf]; simp
  ·have : knd s[i] = knd s[at0] := (hp _).mpr hd
   simp only [this, Zy, Zt, if_true]
   rw [w1n (by omega), Rvj hs ha hp d (i + 1) (by omega)]
   simp only [Zc]
   rw [Nat.add_assoc, Nat.add_comm 1]
theorem Raaj (s : List UInt8) : Ron s = some (twos.contains s) := by
 apply Rtx
 unfold twos
 by_cases h1 : s = [60, 60]
 ·subst h1; rfl
 ·by_cases h2 : s = [62, 62]
  ·subst h2; rfl
  ·by_cases h3 : s = [61, 61]
   ·subst h3; rfl
   ·have e1 : (s == [60, 60]) = false := by rw [beq_eq_false_iff_ne]; exact h1
    have e2 : (s == [62, 62]) = false := by rw [beq_eq_false_iff_ne]; exact h2
    have e3 : (s == [61, 61]) = false := by rw [beq_eq_false_iff_ne]; exact h3
    rw [e1, e2, e3]
    simp only [Zf, List.contains_cons, e1, e2, e3, Bool.or_false, List.contains_nil]
theorem Rnr (c d : UInt8) (r : List UInt8) : twos.any (fun t => t.isPrefixOf (c :: d :: r)) = twos.contains [c, d] := by
 unfold twos
 have key : ∀ x : UInt8, ([x, x] : List UInt8).isPrefixOf (c :: d :: r) = ([c, d] == [x, x]) := by
  intro x
  have e1 : (x == c) = (c == x) := by rw [Bool.eq_iff_iff]; simp only [beq_iff_eq]; exact eq_comm
  have e2 : (x == d) = (d == x) := by rw [Bool.eq_iff_iff]; simp only [beq_iff_eq]; exact eq_comm
  simp only [List.isPrefixOf, Bool.and_true, e1, e2]
  show _ = (c == x && (d == x && true))
  rw [Bool.and_true]
 simp only [List.any_cons, List.any_nil, key, List.contains_cons, List.contains_nil]
theorem Ruf (c : UInt8) : twos.any (fun t => t.isPrefixOf [c]) = false := by
 unfold twos
 simp [List.isPrefixOf]
theorem Rux {c : UInt8} {r : List UInt8} (h : ¬ c ∈ syms) : twos.any (fun t => t.isPrefixOf (c :: r)) = false := by
 cases r with
 | nil => exact Ruf c
 | cons d r =>
  rw [Rnr]
  cases hc : twos.contains [c, d] with
  | false => rfl
  | true =>
   exfalso
   rw [List.contains_iff_mem] at hc
   unfold twos at hc
   simp only [Zo, List.cons.injEq, List.not_mem_nil, or_false] at hc
   apply h
   rcases hc with ⟨rfl, _⟩ | ⟨rfl, _⟩ | ⟨rfl, _⟩ <;> decide
theorem Rra {c : UInt8} : (c ∈ ones ↔ c ∈ syms ∧ c ≠ 62) := by
 unfold ones syms
 simp only [Zo, List.not_mem_nil, or_false]
 constructor
 ·intro h
  rcases h with rfl | rfl | rfl | rfl | rfl | rfl | rfl | rfl | rfl | rfl | rfl | rfl | rfl | rfl | rfl <;> decide
 ·intro ⟨h, h2⟩
  rcases h with rfl | rfl | rfl | rfl | rfl | rfl | rfl | rfl | rfl | rfl | rfl | rfl | rfl | rfl | rfl | rfl <;> first | decide | exact absurd rfl h2
theorem Rxu {s : List UInt8} (hs : s.length ≤ 1000000000) {i : Nat} {c : UInt8} (hi : i < s.length) (hg : geti s (i : Int) = some c) {r : List UInt8} (ed : s.drop i = c :: r) (h1 : dg c = false) (h2 : lt c = false) (hb : bl c = false) :
  Rgh s i = some (if Rm (s.drop i) = 0 then -1 else ((i + Rm (s.drop i) : Nat) : Int)) := by
 apply Rhm
 rw [hg, Qb, Rfp, Qb]
 have hk : knd c = if c ∈ syms then 4 else 0 := by unfold knd; rw [if_neg (by simp [h1]), if_neg (by simp [h2]), if_neg (by simp [hb])]
 have ht : Rm (c :: r) = if twos.any (fun t => t.isPrefixOf (c :: r)) then 2 else if c ∈ ones then 1 else 0 := by
  simp only [Rm, h1, h2, Bool.false_eq_true, if_false]
 have hlen : s.length = i + (r.length + 1) := by
  have := congrArg List.length ed
  rw [List.length_drop, Zc] at this; omega
 have hw1 : wrap64 ((i : Int) + 1) = ((i + 1 : Nat) : Int) := w1n (by omega)
 have hw2 : wrap64 ((i : Int) + 2) = ((i + 2 : Nat) : Int) := by rw [wrap_id (by omega) (by omega)]; rfl
 rw [hk, hw1, hw2, ed]
 by_cases h4 : c ∈ syms
 ·have tail : (bif decide ((c.toNat : Int) = 62) then some (-1) else some ((i + 1 : Nat) : Int)) = some (if (if c ∈ ones then 1 else 0) = 0 then (-1 : Int) else ((i + (if c ∈ ones then 1 else 0) : Nat) : Int)) := by
   by_cases h62 : c = 62
   ·subst h62; rfl
   ·have ho : c ∈ ones := Rra.mpr ⟨h4, h62⟩
    have hn : ¬ ((c.toNat : Int) = 62) := fun e => h62 (UInt8.toNat_inj.mp (by show c.toNat = 62; omega))
    simp only [hn, ho, Zz, Zf, if_true]
    rw [if_neg (by omega)]
  simp only [h4, if_true, show ¬ ((4 : Int) = 1) by omega, show ¬ ((4 : Int) = 2) by omega, Zy, Zz, Zf, Zv]
  cases r with
  | nil =>
   have hle : ¬ (((i + 2 : Nat) : Int) ≤ (s.length : Int)) := by
    rw [hlen]; simp only [Zn]; omega
   simp only [hle, Zz, Zf]
   rw [ht, Ruf, Qb, tail]
   simp
  | cons d r =>
   have hle : (((i + 2 : Nat) : Int) ≤ (s.length : Int)) := by
    rw [hlen]; simp only [Zc]; omega
   have hcut : cutL s (i : Int) ((i + 2 : Nat) : Int) = some [c, d] := by
    rw [Riz (by omega) (by omega), Riv, ed]; rfl
   simp only [hle, Zy, Zt]
   rw [hcut, Qb, Raaj, Qb, ht, Rnr]
   cases hc : twos.contains [c, d] with
   | true =>
    simp only [Zt, if_true]
    rw [if_neg (by omega)]
   | false =>
    simp only [Zf, Bool.false_eq_true, if_false]
    rw [Qb, tail]
 ·have hn : twos.any (fun t => t.isPrefixOf (c :: r)) = false := Rux h4
  have ho : ¬ c ∈ ones := fun h => h4 (Rra.mp h).1
  rw [ht, hn]
  simp only [h4, ho, Bool.false_eq_true, if_false, show ¬ ((0 : Int) = 1) by omega, show ¬ ((0 : Int) = 2) by omega, show ¬ ((0 : Int) = 4) by omega, Zz, Zf, Zx, Zt, if_true]
theorem Rwf {s : List UInt8} (hs : s.length ≤ 1000000000) {i : Nat} (hi : i < s.length) (hb : bl s[i] = false) :
  Rgh s i = some (if Rm (s.drop i) = 0 then -1 else ((i + Rm (s.drop i) : Nat) : Int)) := by
 have hg : geti s (i : Int) = some s[i] := Rcy hi
 have ed := List.drop_eq_getElem_cons hi
 by_cases h1 : dg s[i] = true
 ·have hk := Rabg h1
  have hr : Rjm s i = some ((i + ((s.drop i).takeWhile dg).length : Nat) : Int) := by
   apply Rng
   rw [Rvj hs hi (p := dg) (fun c => by rw [hk, knd_one]) (s.length - i) i (by omega), Qb]
  apply Rhm
  rw [hg, Qb, Rfp, Qb]
  simp only [hk, Zy, Zt]
  rw [hr, Qb, ed]
  simp only [Rm, List.takeWhile_cons, h1, if_true, Zc]
  rw [if_neg (by omega), Nat.add_comm 1]
 by_cases h2 : lt s[i] = true
 ·have hk := Rabh h2
  have hr : Rjm s i = some ((i + ((s.drop i).takeWhile lt).length : Nat) : Int) := by
   apply Rng
   rw [Rvj hs hi (p := lt) (fun c => by rw [hk, knd_two]) (s.length - i) i (by omega), Qb]
  apply Rhm
  rw [hg, Qb, Rfp, Qb]
  simp only [hk, Zy, Zt, show ¬ ((2 : Int) = 1) by omega, Zz, Zf]
  rw [hr, Qb, ed]
  simp only [Rm, List.takeWhile_cons, h1, h2, if_true, Zc, Bool.false_eq_true, if_false]
  rw [if_neg (by omega), Nat.add_comm 1]
 exact Rxu hs hi hg ed (by simpa using h1) (by simpa using h2) hb
theorem Rju {s : List UInt8} (hs : s.length ≤ 20000) : ∀ (d i : Nat) (b : Bool) (l : List Tok), s.length ≤ i + d → l.length ≤ i → i ≤ s.length →
  (∀ t, toks (s.drop i) = some t → ∃ b', Ran s b l i = some (.inl (b', l ++ t))) ∧
  (toks (s.drop i) = none → ∃ b' l', Ran s b l i = some (.inr ((false, []), false, (b', l'))))
 | d, i, b, l, h, hl, hi => by
  by_cases hlt : i < s.length
  ·have h1 : (i : Int) < s.length := by omega
   obtain ⟨d, rfl⟩ : ∃ d', d = d' + 1 := ⟨d - 1, by omega⟩
   have e := List.drop_eq_getElem_cons hlt
   have hg : geti s (i : Int) = some s[i] := Rcy hlt
   cases hb : bl s[i]
   ·have hend := Rwf (by omega) hlt hb
    generalize s[i] = c at e hg hb
    have hb' : ¬ (knd c = 3) := by rw [Rqt]; simp [hb]
    have hle := Rrq (s.drop i)
    rw [List.length_drop] at hle
    by_cases h0 : Rm (s.drop i) = 0
    ·have hn : toks (s.drop i) = none := by rw [e]; exact Rvk hb (by rw [← e]; exact h0)
     rw [hn]
     refine ⟨fun t h => by (cases h), fun _ => ⟨b, l, ?_⟩⟩
     apply Rek
     rw [if_pos h0] at hend
     simp only [h1, Zy, Zt, hg, Qb, Rfp, hb', Zz, Zf, hend, show (-1 : Int) < 0 by omega]
    ·have hn : toks (s.drop i) = bnd (toks (s.drop (i + Rm (s.drop i)))) fun t => some ((s.drop i).take (Rm (s.drop i)) :: t) := by
      conv => lhs; rw [e]
      rw [Rnp hb (by rw [← e]; exact h0), ← e, List.drop_drop]
     rw [hn]
     rw [if_neg h0] at hend
     have ih := Rju hs d (i + Rm (s.drop i)) true (l ++ [(s.drop i).take (Rm (s.drop i))]) (by omega) (by simp only [Za, Zc, Zn]; omega) (by omega)
     have h0' : ¬ (((i + Rm (s.drop i) : Nat) : Int) < 0) := by omega
     have hc2 : cutL s (i : Int) ((i + Rm (s.drop i) : Nat) : Int) = some ((s.drop i).take (Rm (s.drop i))) := by
      rw [Riz (by omega) (by omega), Riv]
     have step : ∀ x, Ran s true (l ++ [(s.drop i).take (Rm (s.drop i))]) ((i + Rm (s.drop i) : Nat) : Int) = some x → Ran s b l i = some x := by
      intro x hx
      apply Rek
      simp only [h1, Zy, Zt, hg, Qb, Rfp, hb', Zz, Zf, hend, h0', hc2]
      rw [Rba (by omega), Qb, hx]
     refine ⟨fun t h => ?_, fun h => ?_⟩
     ·cases ht2 : toks (s.drop (i + Rm (s.drop i))) with
      | none => rw [ht2] at h; cases h
      | some t2 =>
       rw [ht2, Qb] at h
       injection h with h
       subst h
       obtain ⟨b', hx⟩ := ih.1 t2 ht2
       refine ⟨b', step _ ?_⟩
       rw [hx, List.append_assoc]; rfl
     ·cases ht2 : toks (s.drop (i + Rm (s.drop i))) with
      | none =>
       obtain ⟨b', l', hx⟩ := ih.2 ht2
       exact ⟨b', l', step _ hx⟩
      | some t2 => rw [ht2, Qb] at h; cases h
   ·generalize s[i] = c at e hg hb
    have hn : toks (s.drop i) = toks (s.drop (i + 1)) := by rw [e]; exact Rud _ hb
    rw [hn]
    have ih := Rju hs d (i + 1) b l (by omega) (by omega) (by omega)
    have step : ∀ x, Ran s b l ((i + 1 : Nat) : Int) = some x → Ran s b l i = some x := by
     intro x hx
     apply Rek
     have hb' : knd c = 3 := Rqt.mpr hb
     simp only [h1, Zy, Zt, hg, Qb, Rfp, hb']
     rw [w1n (by omega), hx]
    refine ⟨fun t h => ?_, fun h => ?_⟩
    ·obtain ⟨b', hx⟩ := ih.1 t h
     exact ⟨b', step _ hx⟩
    ·obtain ⟨b', l', hx⟩ := ih.2 h
     exact ⟨b', l', step _ hx⟩
  ·rw [List.drop_eq_nil_of_le (by omega), Rno]
   refine ⟨fun t h => ⟨b, ?_⟩, fun h => by cases h⟩
   injection h with h
   subst h
   apply Rek
   have h1 : ¬ ((i : Int) < s.length) := by omega
   simp only [h1, Zz, Zf, List.append_nil]
theorem Riy (s : List UInt8) : Rlv s = some (if 20000 < s.length then ([], false) else match toks s with | some t => (t, true) | none => ([], false)) := by
 apply Rrz
 by_cases h : 20000 < s.length
 ·have h' : (20000 : Int) < s.length := by omega
  simp only [h, h', Zy, Zt, if_true]
 ·have h' : ¬ (20000 : Int) < s.length := by omega
  simp only [h, h', Zz, Zf, if_false]
  have := Rju (s := s) (by omega) s.length 0 true [] (by omega) (by simp) (by omega)
  rw [List.drop_zero] at this
  cases ht : toks s with
  | some t =>
   obtain ⟨b', e⟩ := this.1 t ht
   rw [show Ran s true ([] : List (List UInt8)) 0 = _ from e, Qb]; rfl
  | none =>
   obtain ⟨b', l', e⟩ := this.2 ht
   rw [show Ran s true ([] : List (List UInt8)) 0 = _ from e, Qb]; rfl
def opAt : List Tok → Nat → Tok → Nat
 | [], _, _ => 0
 | x :: r, n, t => if x = t then n else opAt r (n + 1) t
def opN (t : Tok) : Nat := opAt opTs 1 t
def levN (n : Nat) : Nat := [0, 1, 2, 3, 4, 5, 6, 6, 7, 7, 8, 8, 8].getD n 0
def nlev : List Tok → Nat
 | [] => 0
 | t :: _ => levN (opN t)
def lp : Tok := [40]
def rp : Tok := [41]
def numV (t : Tok) : Int := if 1 ≤ t.length ∧ t.length ≤ 5 then (match Lib.decFrom 0 t with | some n => (n : Int) | none => -1) else -1
def varV (t : Tok) : Int := match t with
 | [c] => if 97 ≤ c.toNat ∧ c.toNat ≤ 100 then (c.toNat : Int) - 97 else -1
 | _ => -1
def atom (t : Tok) : Option Exp := if 0 ≤ numV t then some ⟨0, numV t, []⟩ else if 0 ≤ varV t then some ⟨13, varV t, []⟩ else none
inductive J where
 | lev (k : Nat)
 | opd
 | loop (k : Nat) (e : Exp)
abbrev Out := Option (Exp × List Tok)
inductive P : J → List Tok → Out → Prop
 | nil : P .opd [] none
 | atom {t : Tok} {l : List Tok} {e : Exp} : t ≠ lp → atom t = some e → P .opd (t :: l) (some (e, l))
 | bad {t : Tok} {l : List Tok} : t ≠ lp → atom t = none → P .opd (t :: l) none
 | par {l r : List Tok} {e : Exp} : P (.lev 1) l (some (e, rp :: r)) → P .opd (lp :: l) (some (e, r))
 | parN {l : List Tok} : P (.lev 1) l none → P .opd (lp :: l) none
 | parE {l : List Tok} {e : Exp} : P (.lev 1) l (some (e, [])) → P .opd (lp :: l) none
 | parB {l r : List Tok} {t : Tok} {e : Exp} : P (.lev 1) l (some (e, t :: r)) → t ≠ rp → P .opd (lp :: l) none
 | top {k : Nat} {l : List Tok} {o : Out} : 8 < k → P .opd l o → P (.lev k) l o
 | levN {k : Nat} {l : List Tok} : k ≤ 8 → P (.lev (k + 1)) l none → P (.lev k) l none
 | levS {k : Nat} {l r : List Tok} {e : Exp} {o : Out} : k ≤ 8 → P (.lev (k + 1)) l (some (e, r)) → P (.loop k e) r o → P (.lev k) l o
 | stop {k : Nat} {e : Exp} {l : List Tok} : nlev l ≠ k → P (.loop k e) l (some (e, l))
 | step {k : Nat} {e b : Exp} {t : Tok} {l r : List Tok} {o : Out} : levN (opN t) = k → P (.lev (k + 1)) l (some (b, r)) → P (.loop k ⟨(opN t : Int), 0, [e, b]⟩) r o → P (.loop k e) (t :: l) o
 | stepN {k : Nat} {e : Exp} {t : Tok} {l : List Tok} : levN (opN t) = k → P (.lev (k + 1)) l none → P (.loop k e) (t :: l) none
inductive C : J → List Tok → Out → Prop
 | nil : C .opd [] none
 | atom {t : Tok} {l : List Tok} {e : Exp} : t ≠ lp → atom t = some e → C .opd (t :: l) (some (e, l))
 | bad {t : Tok} {l : List Tok} : t ≠ lp → atom t = none → C .opd (t :: l) none
 | par {l r : List Tok} {e : Exp} : C (.lev 1) l (some (e, rp :: r)) → C .opd (lp :: l) (some (e, r))
 | parN {l : List Tok} : C (.lev 1) l none → C .opd (lp :: l) none
 | parE {l : List Tok} {e : Exp} : C (.lev 1) l (some (e, [])) → C .opd (lp :: l) none
 | parB {l r : List Tok} {t : Tok} {e : Exp} : C (.lev 1) l (some (e, t :: r)) → t ≠ rp → C .opd (lp :: l) none
 | exN {k : Nat} {l : List Tok} : C .opd l none → C (.lev k) l none
 | ex {k : Nat} {l r : List Tok} {e : Exp} {o : Out} : C .opd l (some (e, r)) → C (.loop k e) r o → C (.lev k) l o
 | stop {k : Nat} {e : Exp} {l : List Tok} : nlev l < k → C (.loop k e) l (some (e, l))
 | step {k : Nat} {e b : Exp} {t : Tok} {l r : List Tok} {o : Out} : k ≤ levN (opN t) → C (.lev (levN (opN t) + 1)) l (some (b, r)) → C (.loop k ⟨(opN t : Int), 0, [e, b]⟩) r o → C (.loop k e) (t :: l) o
 | stepN {k : Nat} {e : Exp} {t : Tok} {l : List Tok} : k ≤ levN (opN t) → C (.lev (levN (opN t) + 1)) l none → C (.loop k e) (t :: l) none
theorem Rlr (n : Nat) : levN n ≤ 8 := by
 by_cases h : n < 13
 ·have : ∀ i : Fin 13, levN i.val ≤ 8 := by decide
  exact this ⟨n, h⟩
 ·unfold levN
  rw [List.getD_eq_getElem?_getD, List.getElem?_eq_none (by simp; omega)]; simp
theorem Ryc (l : List Tok) : nlev l ≤ 8 := by
 cases l with
 | nil => exact Nat.zero_le _
 | cons t l => exact Rlr _
theorem Raba : ∀ {j : J} {l : List Tok} {o : Out}, P j l o → ∀ e r, o = some (e, r) → match j with
  | .lev k => nlev r < k
  | .opd => True
  | .loop k _ => nlev l < k + 1 → nlev r < k := by
 intro j l o h
 induction h with
 | top hk h ih =>
  intro e r ho
  have := Ryc r
  show nlev r < _
  omega
 | levN hk h ih => intro e r ho; cases ho
 | levS hk h1 h2 ih1 ih2 =>
  intro e r ho
  exact ih2 e r ho (ih1 _ _ rfl)
 | stop hn =>
  intro e r ho hl
  injection ho with ho; injection ho with h1 h2; subst h2
  omega
 | step hl h1 h2 ih1 ih2 =>
  intro e r ho hn
  exact ih2 e r ho (ih1 _ _ rfl)
 | stepN hl h ih => intro e r ho; cases ho
 | nil => intro e r ho; trivial
 | atom _ _ => intro e r ho; trivial
 | bad _ _ => intro e r ho; trivial
 | par _ _ => intro e r ho; trivial
 | parN _ _ => intro e r ho; trivial
 | parE _ _ => intro e r ho; trivial
 | parB _ _ _ => intro e r ho; trivial
theorem Raaz : ∀ {j : J} {l : List Tok} {o1 : Out}, C j l o1 → match j with
  | .loop k e => ∀ k', k' ≤ k → (o1 = none → C (.loop k' e) l none) ∧ (∀ e' r' o, o1 = some (e', r') → C (.loop k' e') r' o → C (.loop k' e) l o)
  | _ => True := by
 intro j l o1 h
 induction h with
 | stop hn =>
  intro k' hk
  refine ⟨fun h => (by cases h), fun e' r' o ho hc => ?_⟩
  injection ho with ho; injection ho with h1 h2; subst h1; subst h2; exact hc
 | step hl h1 h2 ih1 ih2 =>
  intro k' hk
  refine ⟨fun h => .step (by omega) h1 ((ih2 k' hk).1 h), fun e' r' o ho hc => .step (by omega) h1 ((ih2 k' hk).2 e' r' o ho hc)⟩
 | stepN hl h1 ih =>
  intro k' hk
  exact ⟨fun _ => .stepN (by omega) h1, fun e' r' o ho => (by cases ho)⟩
 | _ => trivial
theorem P_C : ∀ {j : J} {l : List Tok} {o : Out}, P j l o → match j with
  | .lev k => C (.lev k) l o
  | .opd => C .opd l o
  | .loop k e => nlev l < k + 1 → C (.loop k e) l o := by
 intro j l o h
 induction h with
 | nil => exact .nil
 | atom h1 h2 => exact .atom h1 h2
 | bad h1 h2 => exact .bad h1 h2
 | par h ih => exact .par ih
 | parN h ih => exact .parN ih
 | parE h ih => exact .parE ih
 | parB h hn ih => exact .parB ih hn
 | top hk h ih =>
  rename_i k l o
  cases o with
  | none => exact .exN ih
  | some p =>
   obtain ⟨e, r⟩ := p
   exact .ex ih (.stop (by have := Ryc r; omega))
 | levN hk h ih =>
  cases ih with
  | exN h1 => exact .exN h1
  | ex h1 h2 => exact .ex h1 ((Raaz h2 _ (Nat.le_succ _)).1 rfl)
 | levS hk h1 h2 ih1 ih2 =>
  have hn := Raba h1 _ _ rfl
  cases ih1 with
  | ex h3 h4 => exact .ex h3 ((Raaz h4 _ (Nat.le_succ _)).2 _ _ _ rfl (ih2 hn))
 | stop hn => intro hl; exact .stop (by omega)
 | step hl h1 h2 ih1 ih2 =>
  intro _
  exact .step (by omega) (by rw [hl]; exact ih1) (ih2 (Raba h1 _ _ rfl))
 | stepN hl h ih =>
  intro _
  exact .stepN (by omega) (by rw [hl]; exact ih)
theorem Ruy : ∀ {j : J} {l : List Tok} {o : Out}, P j l o → ∀ e r, o = some (e, r) → (∃ p, l = p ++ r) ∧ (match j with | .loop _ _ => r.length ≤ l.length | _ => r.length < l.length) := by
 intro j l o h
 induction h with
 | nil => intro e r ho; cases ho
 | atom _ _ =>
  intro e r ho
  injection ho with ho; injection ho with h1 h2; subst h2
  exact ⟨⟨[_], rfl⟩, by simp⟩
 | bad _ _ => intro e r ho; cases ho
 | par _ ih =>
  intro e r ho
  injection ho with ho; injection ho with h1 h2; subst h2
  obtain ⟨⟨p, hp⟩, hl⟩ := ih _ _ rfl
  refine ⟨⟨lp :: p ++ [rp], by rw [hp]; simp⟩, ?_⟩
  simp only [Zc] at *; omega
 | parN _ _ => intro e r ho; cases ho
 | parE _ _ => intro e r ho; cases ho
 | parB _ _ _ => intro e r ho; cases ho
 | top hk h ih => intro e r ho; exact ih e r ho
 | levN hk h ih => intro e r ho; cases ho
 | levS hk h1 h2 ih1 ih2 =>
  intro e r ho
  obtain ⟨⟨p, hp⟩, hl⟩ := ih1 _ _ rfl
  obtain ⟨⟨q, hq⟩, hl2⟩ := ih2 e r ho
  refine ⟨⟨p ++ q, by rw [hp, hq, List.append_assoc]⟩, ?_⟩
  simp only at *; omega
 | stop hn =>
  intro e r ho
  injection ho with ho; injection ho with h1 h2; subst h2
  exact ⟨⟨[], rfl⟩, Nat.le_refl _⟩
 | step hl h1 h2 ih1 ih2 =>
  intro e r ho
  obtain ⟨⟨p, hp⟩, hl⟩ := ih1 _ _ rfl
  obtain ⟨⟨q, hq⟩, hl2⟩ := ih2 e r ho
  refine ⟨⟨_ :: (p ++ q), by rw [hp, hq]; simp; rfl⟩, ?_⟩
  simp only [Zc] at *; omega
 | stepN hl h ih => intro e r ho; cases ho
def J.ok : J → Prop
 | .lev k => 1 ≤ k
 | .opd => True
 | .loop k _ => 1 ≤ k
theorem Rnu : ∀ (n : Nat) (j : J) (l : List Tok), j.ok → l.length < n → (∃ o, P j l o)
 | 0, _, _, _, h => by omega
 | n + 1, j, l, hj, hn => by
  have opd : ∃ o, P .opd l o := by
   cases l with
   | nil => exact ⟨_, .nil⟩
   | cons t l =>
    by_cases ht : t = lp
    ·subst ht
     obtain ⟨o, ho⟩ := Rnu n (.lev 1) l (Nat.le_refl 1) (by simp only [Zc] at hn; omega)
     cases o with
     | none => exact ⟨_, .parN ho⟩
     | some p =>
      obtain ⟨e, r⟩ := p
      cases r with
      | nil => exact ⟨_, .parE ho⟩
      | cons u r =>
       by_cases hu : u = rp
       ·subst hu; exact ⟨_, .par ho⟩
       ·exact ⟨_, .parB ho hu⟩
    ·cases ha : atom t with
     | none => exact ⟨_, .bad ht ha⟩
     | some e => exact ⟨_, .atom ht ha⟩
  have lev : ∀ d k, 1 ≤ k → k + d = 9 → ∃ o, P (.lev k) l o := by
   intro d
   induction d with
   | zero =>
    intro k h1 hk
    obtain ⟨o, ho⟩ := opd
    exact ⟨o, .top (by omega) ho⟩
   | succ d ih =>
    intro k h1 hk
    obtain ⟨o, ho⟩ := ih (k + 1) (by omega) (by omega)
    cases o with
    | none => exact ⟨_, .levN (by omega) ho⟩
    | some p =>
     obtain ⟨e, r⟩ := p
     have hs := (Ruy ho e r rfl).2
     simp only at hs
     obtain ⟨o2, ho2⟩ := Rnu n (.loop k e) r h1 (by omega)
     exact ⟨o2, .levS (by omega) ho ho2⟩
  cases j with
  | opd => exact opd
  | lev k =>
   by_cases hk : k ≤ 9
   ·exact lev (9 - k) k hj (by omega)
   ·obtain ⟨o, ho⟩ := opd
    exact ⟨o, .top (by omega) ho⟩
  | loop k e =>
   by_cases hl : nlev l = k
   ·cases l with
    | nil =>
     exfalso
     have h1 : 1 ≤ k := hj
     have h2 : 0 = k := hl
     omega
    | cons t l =>
     obtain ⟨o, ho⟩ := Rnu n (.lev (k + 1)) l (Nat.succ_le_succ (Nat.zero_le k)) (by simp only [Zc] at hn; omega)
     cases o with
     | none => exact ⟨_, .stepN hl ho⟩
     | some p =>
      obtain ⟨b, r⟩ := p
      have hs := (Ruy ho b r rfl).2
      simp only at hs
      obtain ⟨o2, ho2⟩ := Rnu n (.loop k ⟨(opN t : Int), 0, [e, b]⟩) r hj (by simp only [Zc] at hn; omega)
      exact ⟨o2, .step hl ho ho2⟩
   ·exact ⟨_, .stop hl⟩
theorem Rss (t : Tok) : opN t ≤ 12 := by
 unfold opN
 rcases Nat.lt_or_ge (opAt opTs 1 t) 13 with h | h
 ·omega
 ·exfalso
  have key : ∀ (l : List Tok) (n : Nat), opAt l n t < n + l.length ∨ l = [] ∨ opAt l n t = 0 := by
   intro l
   induction l with
   | nil => intro n; exact Or.inr (Or.inl rfl)
   | cons x r ih =>
    intro n
    unfold opAt
    split
    ·left; simp only [Zc]; omega
    ·rcases ih (n + 1) with h | h | h
     ·left; simp only [Zc]; omega
     ·subst h; right; right; rfl
     ·right; right; exact h
  rcases key opTs 1 with h2 | h2 | h2
  ·have : opTs.length = 12 := rfl
   omega
  ·cases h2
  ·omega
theorem Rwn (t : Tok) : ∀ (d i : Nat), i + d = 12 → Rep t i = some (if opAt (opTs.drop i) (i + 1) t = 0 then .inl () else .inr (opAt (opTs.drop i) (i + 1) t : Int))
 | 0, i, h => by
  apply Rjc
  have h1 : ¬ ((i : Int) < 12) := by omega
  simp only [h1, Zz, Zf]
  rw [List.drop_eq_nil_of_le (show opTs.length ≤ i by show 12 ≤ i; omega)]; rfl
 | d + 1, i, h => by
  apply Rjc
  have h1 : ((i : Int) < 12) := by omega
  have hi : i < opTs.length := by show i < 12; omega
  simp only [h1, Zy, Zt]
  rw [show geti ([[124], [94], [38], [61, 61], [60], [60, 60], [62, 62], [43], [45], [42], [47], [37]] : List (List UInt8)) (i : Int) = some opTs[i] from Rcy hi, Qb, List.drop_eq_getElem_cons hi]
  unfold opAt
  by_cases hc : opTs[i] = t
  ·have hb : (opTs[i] == t) = true := by rw [beq_iff_eq]; exact hc
   simp only [hc, if_true, beq_self_eq_true, Zt]
   rw [if_neg (by omega), show wrap64 (1 + (i : Int)) = ((i + 1 : Nat) : Int) by rw [wrap_id (by omega) (by omega)]; omega]
  ·have hb : (opTs[i] == t) = false := by rw [beq_eq_false_iff_ne]; exact hc
   simp only [hb, Zf, hc, if_false]
   rw [w1n (by omega), Rwn t d (i + 1) (by omega)]
theorem Rgl (t : Tok) : Rlm t = some (opN t : Int) := by
 apply Rrw
 rw [show Rep t 0 = _ from Rwn t 12 0 (by omega), Qb, List.drop_zero]
 change selm (if opN t = 0 then _ else _) _ _ = _
 by_cases h : opN t = 0
 ·simp only [h, if_true, selm]; rfl
 ·simp only [h, if_false, selm]; rfl
theorem Rabi (t : Tok) : ∀ (d i : Nat), i + d = 12 → Rgv t ((i + 1 : Nat) : Int) = some (if opAt (opTs.drop i) (i + 1) t = 0 then .inl () else .inr (opAt (opTs.drop i) (i + 1) t : Int))
 | 0, i, h => by
  apply Rko
  have h1 : ¬ (((i + 1 : Nat) : Int) ≤ 12) := by omega
  simp only [h1, Zz, Zf]
  rw [List.drop_eq_nil_of_le (show opTs.length ≤ i by show 12 ≤ i; omega)]; rfl
 | d + 1, i, h => by
  apply Rko
  have h1 : (((i + 1 : Nat) : Int) ≤ 12) := by omega
  have hi : i < opTs.length := by show i < 12; omega
  simp only [h1, Zy, Zt]
  have ho : opT ((i + 1 : Nat) : Int) = opTs[i] := by
   have := Rqf (n := ((i + 1 : Nat) : Int)) (by omega) (by omega)
   rw [show (((i + 1 : Nat) : Int) - 1).toNat = i by omega, List.getElem?_eq_getElem hi] at this
   injection this with this
   exact this.symm
  rw [Rld, Qb, ho, List.drop_eq_getElem_cons hi]
  unfold opAt
  by_cases hc : opTs[i] = t
  ·have hb : (t == opTs[i]) = true := by rw [beq_iff_eq]; exact hc.symm
   simp only [hc, if_true, beq_self_eq_true, Zt]
   rw [if_neg (by omega)]
  ·have hb : (t == opTs[i]) = false := by rw [beq_eq_false_iff_ne]; exact fun e => hc e.symm
   simp only [hb, Zf, hc, if_false]
   rw [w1n (by omega), Rabi t d (i + 1) (by omega)]
theorem Rkn (t : Tok) : Rnh t = some (opN t : Int) := by
 apply Ruv
 rw [show Rgv t 1 = _ from Rabi t 12 0 (by omega), Qb, List.drop_zero]
 change selm (if opN t = 0 then _ else _) _ _ = _
 by_cases h : opN t = 0
 ·simp only [h, if_true, selm]; rfl
 ·simp only [h, if_false, selm]; rfl
theorem Rdp {n : Nat} (h : n ≤ 12) : Rcl (n : Int) = some (levN n : Int) := by
 apply Rqm
 have : n = 0 ∨ n = 1 ∨ n = 2 ∨ n = 3 ∨ n = 4 ∨ n = 5 ∨ n = 6 ∨ n = 7 ∨ n = 8 ∨ n = 9 ∨ n = 10 ∨ n = 11 ∨ n = 12 := by omega
 rcases this with rfl | rfl | rfl | rfl | rfl | rfl | rfl | rfl | rfl | rfl | rfl | rfl | rfl <;> rfl
theorem Rds {n : Nat} (h : n ≤ 12) : Rfj (n : Int) = some (levN n : Int) := by
 apply Rrc
 rw [Rhz, Qb]
 have : n = 0 ∨ n = 1 ∨ n = 2 ∨ n = 3 ∨ n = 4 ∨ n = 5 ∨ n = 6 ∨ n = 7 ∨ n = 8 ∨ n = 9 ∨ n = 10 ∨ n = 11 ∨ n = 12 := by omega
 by_cases h0 : n = 0
 ·subst h0; rfl
 ·have hv : (1 : Int) ≤ n ∧ (n : Int) ≤ 12 := by omega
  simp only [hv, and_self, Zy, Zv, Zf]
  rw [wrap_id (by omega) (by omega)]
  rcases this with rfl | rfl | rfl | rfl | rfl | rfl | rfl | rfl | rfl | rfl | rfl | rfl | rfl
  ·exact absurd rfl h0
  all_goals rfl
theorem Rxi {c : UInt8} (h : dg c = true) : Lib.digitVal c = some (c.toNat - 48) := by
 unfold Lib.digitVal; rw [if_pos (of_decide_eq_true h)]
theorem Rvy {c : UInt8} (h : dg c = false) : Lib.digitVal c = none := by
 unfold Lib.digitVal; rw [if_neg (of_decide_eq_false h)]
theorem Rwl {t : Tok} (ht : t.length ≤ 5) : ∀ (d i a : Nat), i + d = t.length → a < 10 ^ i →
  (∃ x, Rdv t (a : Int) i = some x ∧ selm x (fun y => some y) (fun z => some z.1) = some (match Lib.decFrom a (t.drop i) with | some n => (n : Int) | none => -1))
 | 0, i, a, h, ha => by
  refine ⟨.inl (a : Int), ?_, ?_⟩
  ·apply Rfh
   have h1 : ¬ ((i : Int) < t.length) := by omega
   simp only [h1, Zz, Zf]
  ·rw [List.drop_eq_nil_of_le (by omega)]; rfl
 | d + 1, i, a, h, ha => by
  have h1 : (i : Int) < t.length := by omega
  have hl : i < t.length := by omega
  have hg := Rcy hl
  have ed := List.drop_eq_getElem_cons hl
  generalize t[i] = c at hg ed
  rw [ed]
  cases hd : dg c
  ·refine ⟨.inr (-1, (a : Int)), ?_, ?_⟩
   ·apply Rfh
    have := of_decide_eq_false hd
    simp only [h1, Zy, Zt, hg, Qb]
    by_cases h48 : (c.toNat : Int) < 48
    ·simp only [h48, Zy, Zt]
    ·have h57 : (57 : Int) < c.toNat := by omega
     simp only [h48, h57, Zy, Zz, Zt, Zf]
   ·simp only [selm, Lib.decFrom, Rvy hd]
  ·have hr := of_decide_eq_true hd
   have hp : (10 : Nat) ^ i ≤ 10 ^ 4 := Nat.pow_le_pow_right (by decide) (by omega)
   have hp4 : (10 : Nat) ^ 4 = 10000 := by decide
   have hw : wrap64 ((wrap64 (10 * (a : Int))) + (wrap64 ((((c.toNat : Int) - 48) % 256)))) = ((a * 10 + (c.toNat - 48) : Nat) : Int) := by
    rw [wrap_id (n := 10 * (a : Int)) (by omega) (by omega), wrap_id (n := ((c.toNat : Int) - 48) % 256) (by omega) (by omega), wrap_id (by omega) (by omega)]
    omega
   obtain ⟨x, hx1, hx2⟩ := Rwl ht d (i + 1) (a * 10 + (c.toNat - 48)) (by omega) (by rw [Nat.pow_succ]; omega)
   refine ⟨x, ?_, ?_⟩
   ·apply Rfh
    have h48 : ¬ (c.toNat : Int) < 48 := by omega
    have h57 : ¬ (57 : Int) < c.toNat := by omega
    simp only [h1, Zy, Zt, hg, Qb, h48, h57, Zz, Zf, hw]
    rw [w1n (by omega), hx1]
   ·rw [hx2]
    simp only [Lib.decFrom, Rxi hd]
theorem Rhb (t : Tok) : Rfs t = some (numV t) := by
 apply Rpx
 rw [Rei, Qb]
 unfold numV
 by_cases h : 1 ≤ t.length ∧ t.length ≤ 5
 ·have h' : (1 : Int) ≤ t.length ∧ (t.length : Int) ≤ 5 := by omega
  simp only [h, h', and_self, Zy, Zv, Zf, if_true]
  obtain ⟨x, hx1, hx2⟩ := Rwl h.2 t.length 0 0 (by omega) (by decide)
  rw [List.drop_zero] at hx2
  rw [show Rdv t 0 0 = some x from hx1, Qb, hx2]
  try rfl
 ·have h' : ¬ ((1 : Int) ≤ t.length ∧ (t.length : Int) ≤ 5) := by omega
  simp only [h, h', Zz, Zx, Zt, if_false]
theorem Rmp {v : Nat} (h : v ≤ 100) : Rfg (v : Int) = some [UInt8.ofNat (97 + v)] := by
 apply Rsh
 rw [wrap_id (by omega) (by omega)]
 have : ((97 + (v : Int)) % 256) = ((97 + v : Nat) : Int) := by omega
 rw [this]; rfl
theorem Rabj (t : Tok) : ∀ (d i : Nat), i + d = 4 → (∀ c, t = [c] → ¬ (97 ≤ c.toNat ∧ c.toNat < 97 + i)) →
  (∃ x, Rfu t (i : Int) = some x ∧ selm x (fun _ => some (-1)) (fun z => some z) = some (varV t))
 | 0, i, h, hc => by
  refine ⟨.inl (), ?_, ?_⟩
  ·apply Rhd
   have h1 : ¬ ((i : Int) < 4) := by omega
   simp only [h1, Zz, Zf]
  ·simp only [selm]
   unfold varV
   split
   ·rename_i c
    rw [if_neg (by have := hc c rfl; omega)]
   ·rfl
 | d + 1, i, h, hc => by
  have h1 : ((i : Int) < 4) := by omega
  by_cases he : t = [UInt8.ofNat (97 + i)]
  ·refine ⟨.inr (i : Int), ?_, ?_⟩
   ·apply Rhd
    simp only [h1, Zy, Zt]
    rw [Rmp (by omega), Qb, he]
    simp
   ·subst he
    have hn : (UInt8.ofNat (97 + i)).toNat = 97 + i := by rw [UInt8.toNat_ofNat']; omega
    simp only [selm, varV, hn]
    rw [if_pos (by omega)]
    congr 1; omega
  ·obtain ⟨x, hx1, hx2⟩ := Rabj t d (i + 1) (by omega) (by
    intro c e hcc
    have := hc c e
    have hcn : c.toNat = 97 + i := by omega
    apply he
    rw [e]; congr 1
    apply UInt8.toNat_inj.mp
    rw [UInt8.toNat_ofNat']; omega)
   refine ⟨x, ?_, hx2⟩
   apply Rhd
   simp only [h1, Zy, Zt]
   have hb : (t == [UInt8.ofNat (97 + i)]) = false := by rw [beq_eq_false_iff_ne]; exact he
   rw [Rmp (by omega), Qb, hb, Zf, w1n (by omega), hx1]
theorem Rcw (t : Tok) : Rc t = some (varV t) := by
 apply Rty
 obtain ⟨x, hx1, hx2⟩ := Rabj t 4 0 (by omega) (by intro c _; omega)
 rw [show Rfu t 0 = some x from hx1, Qb, hx2]
def plc (L l : List Tok) : Nat := L.length - l.length
def Suf (L l : List Tok) : Prop := ∃ p, L = p ++ l
theorem Suf.tail {L l : List Tok} {t : Tok} (h : Suf L (t :: l)) : Suf L l ∧ plc L (t :: l) + 1 = plc L l ∧ plc L (t :: l) < L.length ∧ geti L (plc L (t :: l) : Int) = some t := by
 obtain ⟨p, rfl⟩ := h
 refine ⟨⟨p ++ [t], by simp⟩, ?_, ?_, ?_⟩
 ·unfold plc; simp only [Za, Zc]; omega
 ·unfold plc; simp only [Za, Zc]; omega
 ·rw [geti_nat', show plc (p ++ t :: l) (t :: l) = p.length by unfold plc; simp only [Za]; omega]
  simp
theorem Suf.trans {L l r : List Tok} (h : Suf L l) (h2 : ∃ p, l = p ++ r) : Suf L r := by
 obtain ⟨p, rfl⟩ := h
 obtain ⟨q, rfl⟩ := h2
 exact ⟨p ++ q, by rw [List.append_assoc]⟩
theorem Rfe (L : List Tok) : plc L [] = L.length := by unfold plc; simp
def SA (L : List Tok) (f : Option (Exp × Int)) (o : Out) : Prop := match o with
 | some (e, r) => f = some (e, (plc L r : Int))
 | none => ∃ x, f = some (x, -1)
def SLo (L : List Tok) (f : Option (Int × Int × Int × (Bool × List Exp) × Int × Int × (Md × List Exp))) (o : Out) : Prop := match o with
 | some (e, r) => ∃ m, f = some ((plc L r : Int), 0, 0, (false, []), e.op, e.n, (m, e.args))
 | none => ∃ a b m c, f = some (-1, 0, 0, (false, []), a, b, (m, c))
theorem Rqc {t : Tok} {e : Exp} (h : atom t = some e) (h0 : 0 ≤ numV t) : e = ⟨0, numV t, []⟩ := by
 unfold atom at h; rw [if_pos h0] at h; injection h with h; exact h.symm
theorem Rma {t : Tok} {e : Exp} (h : atom t = some e) (h0 : ¬ 0 ≤ numV t) : 0 ≤ varV t ∧ e = ⟨13, varV t, []⟩ := by
 unfold atom at h; rw [if_neg h0] at h
 split at h
 ·injection h with h; exact ⟨by assumption, h.symm⟩
 ·cases h
theorem Rabm : ∀ {j : J} {l : List Tok} {o : Out}, P j l o → ∀ L : List Tok, L.length ≤ 20000 → Suf L l → match j with
    | .opd => SA L (Rfk L (plc L l)) o
    | .lev k => 1 ≤ k → k ≤ 9 → SA L (Rac L (plc L l) (k : Int)) o
    | .loop k e => 1 ≤ k → k ≤ 8 → ∀ m, SLo L (Rbm L (k : Int) (plc L l) 0 0 false [] e.op e.n m e.args) o := by
  intro j l o h
  induction h with
  | nil =>
    intro L hL hs
    refine ⟨⟨0, 0, []⟩, ?_⟩
    apply Rce
    rw [Rfe]
    simp
  | @atom t l e h1 h2 =>
    intro L hL hs
    obtain ⟨hs2, hp, hlt, hg⟩ := hs.tail
    show Rfk L (plc L (t :: l)) = _
    apply Rce
    have c1 : ¬ ((L.length : Int) ≤ (plc L (t :: l) : Int)) := by omega
    have hb : (t == [40]) = false := by rw [beq_eq_false_iff_ne]; exact h1
    simp only [c1, Zz, Zf, hg, Qb, hb, Rhb]
    by_cases hn : 0 ≤ numV t
    · simp only [hn, Zy, Zt, Rdg, Qb, Rqc h2 hn]
      rw [w1n (by omega), hp]
    · obtain ⟨hv, he⟩ := Rma h2 hn
      simp only [hn, Zz, Zf, Rcw, Qb, hv, Zy, Zt, Rdg, he]
      rw [w1n (by omega), hp]
  | @bad t l h1 h2 =>
    intro L hL hs
    obtain ⟨hs2, hp, hlt, hg⟩ := hs.tail
    refine ⟨⟨0, 0, []⟩, ?_⟩
    apply Rce
    have c1 : ¬ ((L.length : Int) ≤ (plc L (t :: l) : Int)) := by omega
    have hb : (t == [40]) = false := by rw [beq_eq_false_iff_ne]; exact h1
    unfold atom at h2
    have hn : ¬ 0 ≤ numV t := by intro h; rw [if_pos h] at h2; cases h2
    rw [if_neg hn] at h2
    have hv : ¬ 0 ≤ varV t := by intro h; rw [if_pos h] at h2; cases h2
    simp only [c1, Zz, Zf, hg, Qb, hb, Rhb, hn, Rcw, hv]
  | @par l r e h ih =>
    intro L hL hs
    obtain ⟨hs2, hp, hlt, hg⟩ := hs.tail
    have h1 := ih L hL hs2 (Nat.le_refl 1) (by omega)
    have hs3 := hs2.trans (Ruy h _ _ rfl).1
    obtain ⟨hs4, hp2, hlt2, hg2⟩ := hs3.tail
    show Rfk L (plc L (lp :: l)) = _
    apply Rce
    have c1 : ¬ ((L.length : Int) ≤ (plc L (lp :: l) : Int)) := by omega
    have c2 : ¬ ((plc L (rp :: r) : Int) < 0) := by omega
    have c3 : ¬ ((L.length : Int) ≤ (plc L (rp :: r) : Int)) := by omega
    have hb : (lp == [40]) = true := rfl
    have hb2 : (rp == [41]) = true := rfl
    simp only [c1, Zz, Zf, hg, Qb, hb, Zt]
    rw [w1n (by omega), hp, show Rac L (plc L l) 1 = _ from h1]
    simp only [Qb, c2, c3, Zz, Zf, hg2, hb2, Zv, Rs]
    rw [w1n (by omega), hp2]
  | @parN l h ih =>
    intro L hL hs
    obtain ⟨hs2, hp, hlt, hg⟩ := hs.tail
    obtain ⟨x, h1⟩ := ih L hL hs2 (Nat.le_refl 1) (by omega)
    refine ⟨⟨0, 0, []⟩, ?_⟩
    apply Rce
    have c1 : ¬ ((L.length : Int) ≤ (plc L (lp :: l) : Int)) := by omega
    have hb : (lp == [40]) = true := rfl
    simp only [c1, Zz, Zf, hg, Qb, hb, Zt]
    rw [w1n (by omega), hp, show Rac L (plc L l) 1 = _ from h1]
    simp only [Qb, show (-1 : Int) < 0 by omega, Zy, Zt]
  | @parE l e h ih =>
    intro L hL hs
    obtain ⟨hs2, hp, hlt, hg⟩ := hs.tail
    have h1 := ih L hL hs2 (Nat.le_refl 1) (by omega)
    refine ⟨⟨0, 0, []⟩, ?_⟩
    apply Rce
    have c1 : ¬ ((L.length : Int) ≤ (plc L (lp :: l) : Int)) := by omega
    have hb : (lp == [40]) = true := rfl
    simp only [c1, Zz, Zf, hg, Qb, hb, Zt]
    rw [w1n (by omega), hp, show Rac L (plc L l) 1 = _ from h1, Rfe]
    have c2 : ¬ ((L.length : Int) < 0) := by omega
    simp only [Qb, c2, Zz, Zf, Int.le_refl, Zy, Zt]
  | @parB l r t e h hn ih =>
    intro L hL hs
    obtain ⟨hs2, hp, hlt, hg⟩ := hs.tail
    have h1 := ih L hL hs2 (Nat.le_refl 1) (by omega)
    have hs3 := hs2.trans (Ruy h _ _ rfl).1
    obtain ⟨hs4, hp2, hlt2, hg2⟩ := hs3.tail
    refine ⟨⟨0, 0, []⟩, ?_⟩
    apply Rce
    have c1 : ¬ ((L.length : Int) ≤ (plc L (lp :: l) : Int)) := by omega
    have c2 : ¬ ((plc L (t :: r) : Int) < 0) := by omega
    have c3 : ¬ ((L.length : Int) ≤ (plc L (t :: r) : Int)) := by omega
    have hb : (lp == [40]) = true := rfl
    have hb2 : (t == [41]) = false := by rw [beq_eq_false_iff_ne]; exact hn
    simp only [c1, Zz, Zf, hg, Qb, hb, Zt]
    rw [w1n (by omega), hp, show Rac L (plc L l) 1 = _ from h1]
    simp only [Qb, c2, c3, Zz, Zf, hg2, hb2, Zx, Zt]
  | @top k l o hk h ih =>
    intro L hL hs k1 k9
    have h1 := ih L hL hs
    have c1 : (8 : Int) < k := by omega
    cases o with
    | none =>
      obtain ⟨x, h1⟩ := h1
      refine ⟨x, ?_⟩
      apply Rft
      simp only [c1, Zy, Zt, h1, Qb, Rs]
    | some p =>
      obtain ⟨e, r⟩ := p
      show Rac _ _ _ = _
      apply Rft
      simp only [c1, Zy, Zt, show Rfk L (plc L l) = _ from h1, Qb, Rs]
  | @levN k l hk h ih =>
    intro L hL hs k1 k9
    obtain ⟨x, h1⟩ := ih L hL hs (by omega) (by omega)
    have c1 : ¬ (8 : Int) < k := by omega
    refine ⟨x, ?_⟩
    apply Rft
    simp only [c1, Zz, Zf]
    rw [w1n (by omega), h1, Qb]
    have hlo : Rbm L (k : Int) (-1) 0 0 false [] x.op x.n .share x.args = some (-1, 0, 0, (false, []), x.op, x.n, (.share, x.args)) := by
      apply Rcu
      simp only [show ¬ (0 : Int) ≤ -1 by omega, Zz, Zf]
    rw [hlo, Qb]
    simp only [Rs]
  | @levS k l r e o hk h1 h2 ih1 ih2 =>
    intro L hL hs k1 k9
    have hs2 := hs.trans (Ruy h1 _ _ rfl).1
    have e1 := ih1 L hL hs (by omega) (by omega)
    have e2 := ih2 L hL hs2 k1 hk .share
    have c1 : ¬ (8 : Int) < k := by omega
    have step : ∀ y, (bnd (Rbm L (k : Int) (plc L r) 0 0 false [] e.op e.n .share e.args) fun r3 => some ((⟨r3.2.2.2.2.1, r3.2.2.2.2.2.1, r3.2.2.2.2.2.2.2⟩ : Exp), r3.1)) = some y → Rac L (plc L l) (k : Int) = some y := by
      intro y hy
      apply Rft
      simp only [c1, Zz, Zf]
      rw [w1n (by omega), show Rac L (plc L l) ((k + 1 : Nat) : Int) = _ from e1, Qb]
      exact hy
    cases o with
    | none =>
      obtain ⟨a, b, m, c, e2⟩ := e2
      refine ⟨⟨a, b, c⟩, step _ ?_⟩
      rw [e2, Qb]
    | some p =>
      obtain ⟨e', r'⟩ := p
      obtain ⟨m, e2⟩ := e2
      refine step _ ?_
      rw [e2, Qb]
      simp only [Rs]
  | @stop k e l hn =>
    intro L hL hs k1 k8 m
    refine ⟨m, ?_⟩
    apply Rcu
    have c0 : (0 : Int) ≤ (plc L l : Int) := by omega
    simp only [c0, Zy, Zt]
    cases l with
    | nil =>
      rw [Rfe]
      simp only [Int.lt_irrefl, Zz, Zf]
    | cons t l =>
      obtain ⟨hs2, hp, hlt, hg⟩ := hs.tail
      have c1 : ((plc L (t :: l) : Int) < L.length) := by omega
      have c2 : ¬ ((levN (opN t) : Int) = (k : Int)) := fun h => hn (by have : levN (opN t) = k := by omega
                                                                        exact this)
      simp only [c1, Zy, Zt, hg, Qb, Rkn, Rds (Rss t), c2, Zz, Zf]
  | @step k e b t l r o hl h1 h2 ih1 ih2 =>
    intro L hL hs k1 k8 m
    obtain ⟨hs2, hp, hlt, hg⟩ := hs.tail
    have hs3 := hs2.trans (Ruy h1 _ _ rfl).1
    have e1 := ih1 L hL hs2 (by omega) (by omega)
    have e2 := ih2 L hL hs3 k1 k8 (Md.dem .full)
    have c0 : (0 : Int) ≤ (plc L (t :: l) : Int) := by omega
    have c1 : ((plc L (t :: l) : Int) < L.length) := by omega
    have c2 : ((levN (opN t) : Int) = (k : Int)) := by omega
    have step : ∀ y, Rbm L (k : Int) (plc L r) 0 0 false [] (opN t : Int) 0 (Md.dem .full) [e, b] = some y → Rbm L (k : Int) (plc L (t :: l)) 0 0 false [] e.op e.n m e.args = some y := by
      intro y hy
      apply Rcu
      simp only [c0, c1, c2, Zy, Zt, hg, Qb, Rkn, Rds (Rss t)]
      rw [w1n (n := plc L (t :: l)) (by omega), w1n (n := k) (by omega), hp, show Rac L (plc L l) ((k + 1 : Nat) : Int) = _ from e1, Qb, Rje, Qb]
      simp only [Rs]
      exact hy
    cases o with
    | none =>
      obtain ⟨a, b, m, c, e2⟩ := e2
      exact ⟨a, b, m, c, step _ e2⟩
    | some p =>
      obtain ⟨e', r'⟩ := p
      obtain ⟨m, e2⟩ := e2
      exact ⟨m, step _ e2⟩
  | @stepN k e t l hl h ih =>
    intro L hL hs k1 k8 m
    obtain ⟨hs2, hp, hlt, hg⟩ := hs.tail
    obtain ⟨x, e1⟩ := ih L hL hs2 (by omega) (by omega)
    have c0 : (0 : Int) ≤ (plc L (t :: l) : Int) := by omega
    have c1 : ((plc L (t :: l) : Int) < L.length) := by omega
    have c2 : ((levN (opN t) : Int) = (k : Int)) := by omega
    refine ⟨(opN t : Int), 0, Md.dem .full, [e, x], ?_⟩
    apply Rcu
    simp only [c0, c1, c2, Zy, Zt, hg, Qb, Rkn, Rds (Rss t)]
    rw [w1n (n := plc L (t :: l)) (by omega), w1n (n := k) (by omega), hp, e1, Qb, Rje, Qb]
    simp only [Rs]
    apply Rcu
    simp only [show ¬ (0 : Int) ≤ -1 by omega, Zz, Zf]
def gt (t : Tok) : Prop := ∃ c r, t = c :: r ∧ (dg c = true → ∀ x ∈ t, dg x = true)
theorem Rmv (L : List Tok) : Raz L (L.length : Int) false = some ([], L, (L.length : Int), false) := by
 apply Rez
 simp only [Int.lt_irrefl, Zz, Zf]
theorem Rcr {L l : List Tok} {t : Tok} (h : Suf L (t :: l)) : Raz L (plc L (t :: l) : Int) false = some (t, L, (plc L (t :: l) : Int), false) := by
 obtain ⟨hs2, hp, hlt, hg⟩ := h.tail
 apply Rez
 have c1 : ((plc L (t :: l) : Int) < L.length) := by omega
 simp only [c1, Zy, Zt, Zx, hg, Qb]
theorem Rmu (L : List Tok) (p : Int) : Raz L p true = some ([], L, p, true) := by
 apply Rez
 by_cases h : p < L.length
 ·simp only [h, Zy, Zt, Zv, Zf]
 ·simp only [h, Zz, Zf]
theorem Rxy (L : List Tok) (p : Int) : Rg [41] L p true = some (L, p, true) := by
 apply Rbd
 have : Re [41] L p true = some (false, L, p, true) := by
  apply Rau
  rw [Rmu, Qb]; rfl
 rw [this, Qb]; rfl
theorem Raao (L : List Tok) : Rg [41] L (L.length : Int) false = some (L, (L.length : Int), true) := by
 apply Rbd
 have : Re [41] L (L.length : Int) false = some (false, L, (L.length : Int), false) := by
  apply Rau
  rw [Rmv, Qb]; rfl
 rw [this, Qb]; rfl
theorem Raan {L l : List Tok} {t : Tok} (h : Suf L (t :: l)) (hn : t ≠ rp) : Rg [41] L (plc L (t :: l) : Int) false = some (L, (plc L (t :: l) : Int), true) := by
 apply Rbd
 have : Re [41] L (plc L (t :: l) : Int) false = some (false, L, (plc L (t :: l) : Int), false) := by
  apply Rau
  have hb : (t == [41]) = false := by rw [beq_eq_false_iff_ne]; exact hn
  rw [Rcr h, Qb]
  simp only [hb, Zx, Zt]
 rw [this, Qb]; rfl
theorem Rxz {L l : List Tok} (hL : L.length ≤ 20000) (h : Suf L (rp :: l)) : Rg [41] L (plc L (rp :: l) : Int) false = some (L, (plc L l : Int), false) := by
 obtain ⟨hs2, hp, hlt, hg⟩ := h.tail
 apply Rbd
 have : Re [41] L (plc L (rp :: l) : Int) false = some (true, L, (plc L l : Int), false) := by
  apply Rau
  have hb : (rp == [41]) = true := rfl
  rw [Rcr h, Qb]
  simp only [hb, Zv, Zf]
  rw [w1n (by omega), hp]
 rw [this, Qb]; rfl
theorem Ruc (L : List Tok) : ∃ p, Rci L (L.length : Int) false = some ([], L, p, true) := by
 refine ⟨wrap64 ((L.length : Int) + 1), ?_⟩
 apply Rfa
 rw [Rmv, Qb]
 simp only [show (([] : List UInt8) == []) = true from rfl, Zt]
theorem Rnn {L l : List Tok} {t : Tok} (hL : L.length ≤ 20000) (h : Suf L (t :: l)) (ht : t ≠ []) : Rci L (plc L (t :: l) : Int) false = some (t, L, (plc L l : Int), false) := by
 obtain ⟨hs2, hp, hlt, hg⟩ := h.tail
 apply Rfa
 have hb : (t == []) = false := by rw [beq_eq_false_iff_ne]; exact ht
 rw [Rcr h, Qb]
 simp only [hb, Zf]
 rw [w1n (by omega), hp]
theorem Rsn : ∀ (t : Tok) (a : Nat), (∀ x ∈ t, dg x = true) → ∃ n, Lib.decFrom a t = some n
 | [], a, _ => ⟨a, rfl⟩
 | c :: r, a, h => by
  obtain ⟨n, hn⟩ := Rsn r (a * 10 + (c.toNat - 48)) (fun x hx => h x (List.mem_cons_of_mem _ hx))
  refine ⟨n, ?_⟩
  simp only [Lib.decFrom, Rxi (h c (List.mem_cons_self ..))]
  exact hn
theorem Rso : ∀ (t : Tok) (a n : Nat), Lib.decFrom a t = some n → (∀ x ∈ t, dg x = true)
 | [], a, n, _ => by intro x hx; cases hx
 | c :: r, a, n, h => by
  intro x hx
  simp only [Lib.decFrom] at h
  cases hd : dg c with
  | false => rw [Rvy hd] at h; cases h
  | true =>
   rw [Rxi hd] at h
   rcases List.mem_cons.mp hx with rfl | hx
   ·exact hd
   ·exact Rso r _ n h x hx
theorem Ryd {t : Tok} (h : 0 ≤ numV t) : ∀ x ∈ t, dg x = true := by
 unfold numV at h
 split at h
 ·split at h
  ·rename_i n hn; exact Rso t 0 n hn
  ·omega
 ·omega
theorem Rjr {L l : List Tok} {c : UInt8} {r : List UInt8} (hL : L.length ≤ 20000) (h : Suf L ((c :: r) :: l)) (hd : ∀ x ∈ (c :: r), dg x = true) :
  (0 ≤ numV (c :: r) → Rag L (plc L ((c :: r) :: l) : Int) false = some (numV (c :: r), L, (plc L l : Int), false)) ∧
  (¬ 0 ≤ numV (c :: r) → Rag L (plc L ((c :: r) :: l) : Int) false = some (0, L, (plc L l : Int), true)) := by
 obtain ⟨n, hn⟩ := Rsn (c :: r) 0 hd
 have hb : ((c :: r : Tok) == []) = false := rfl
 refine ⟨fun h0 => ?_, fun h0 => ?_⟩
 ·have hlen : (c :: r).length ≤ 5 := by
   unfold numV at h0; split at h0
   ·rename_i hh; exact hh.2
   ·omega
  have hv : numV (c :: r) = (n : Int) := by
   unfold numV; rw [if_pos ⟨by simp, hlen⟩, hn]
  apply Rcn
  rw [Rnn hL h (by simp), Qb]
  have c5 : ¬ ((5 : Int) < ((c :: r : Tok).length : Int)) := by omega
  have hc := of_decide_eq_true (hd c (List.mem_cons_self ..))
  have ha : Lib.atoi (c :: r) = some (n : Int) := by
   unfold Lib.atoi
   have h1 : (c == 45) = false := by rw [beq_eq_false_iff_ne]; intro e; subst e; exact absurd hc (by decide)
   have h2 : (c == 43) = false := by rw [beq_eq_false_iff_ne]; intro e; subst e; exact absurd hc (by decide)
   simp only [h1, h2, Bool.false_eq_true, if_false]
   unfold Lib.decNat
   rw [if_neg (by simp), hn]; rfl
  have hat : strconv_Atoi (c :: r) = some (n : Int) := by
   apply Rrn
   rw [if_pos (by omega)]; exact ha
  simp only [hb, Zf, c5, Zz, Rmf, Qb, Rdd, hd c (List.mem_cons_self ..), Zv, hat, hv]
 ·have hlen : 5 < (c :: r).length := by
   apply Classical.byContradiction
   intro hle
   apply h0
   unfold numV; rw [if_pos ⟨by simp, by omega⟩, hn]
   show (0 : Int) ≤ (n : Int); omega
  apply Rcn
  rw [Rnn hL h (by simp), Qb]
  have c5 : ((5 : Int) < ((c :: r : Tok).length : Int)) := by omega
  simp only [hb, Zf, c5, Zy, Zt]
theorem Rho {L l : List Tok} {t : Tok} (hL : L.length ≤ 20000) (h : Suf L (t :: l)) (ht : t ≠ []) :
  (0 ≤ varV t → Rj L (plc L (t :: l) : Int) false = some (varV t, L, (plc L l : Int), false)) ∧
  (¬ 0 ≤ varV t → Rj L (plc L (t :: l) : Int) false = some (0, L, (plc L l : Int), true)) := by
 have body : ∀ x, (bif (!decide ((t.length : Int) = 1)) then some (0, L, (plc L l : Int), true) else
   bnd (geti t 0) fun c2 => (bif (decide ((c2.toNat : Int) < 97)) then some (0, L, (plc L l : Int), true) else
   bnd (geti t 0) fun c3 => (bif (decide (101 ≤ (c3.toNat : Int))) then some (0, L, (plc L l : Int), true) else
   bnd (geti t 0) fun c4 => some ((wrap64 ((((c4.toNat : Int) - 97) % 256))), L, (plc L l : Int), false)))) = some x → Rj L (plc L (t :: l) : Int) false = some x := by
  intro x hx
  apply Rbs
  rw [Rnn hL h ht, Qb]
  exact hx
 by_cases h1 : t.length = 1
 ·obtain ⟨c, rfl⟩ : ∃ c, t = [c] := by
   match t, h1 with
   | [c], _ => exact ⟨c, rfl⟩
  have c1 : ((([c] : Tok).length : Nat) : Int) = 1 := rfl
  by_cases hr : 97 ≤ c.toNat ∧ c.toNat ≤ 100
  ·have hv : varV [c] = (c.toNat : Int) - 97 := by unfold varV; simp only; rw [if_pos hr]
   refine ⟨fun _ => body _ ?_, fun h => absurd (by rw [hv]; omega) h⟩
   have d1 : ¬ (c.toNat : Int) < 97 := by omega
   have d2 : ¬ (101 : Int) ≤ c.toNat := by omega
   simp only [c1, Zy, Zv, Zf, Rmf, Qb, d1, d2, Zz]
   rw [hv, wrap_id (by omega) (by omega)]
   congr 2; omega
  ·have hv : varV [c] = -1 := by unfold varV; simp only; rw [if_neg hr]
   refine ⟨fun h => absurd h (by rw [hv]; omega), fun _ => body _ ?_⟩
   by_cases d1 : (c.toNat : Int) < 97
   ·simp only [c1, Zy, Zv, Zf, Rmf, Qb, d1, Zt]
   ·have d2 : (101 : Int) ≤ c.toNat := by omega
    simp only [c1, Zy, Zv, Zf, Rmf, Qb, d1, d2, Zz, Zt]
 ·have hv : varV t = -1 := by
   unfold varV
   split
   ·simp at h1
   ·rfl
  have c1 : ¬ ((t.length : Int) = 1) := by omega
  refine ⟨fun h => absurd h (by rw [hv]; omega), fun _ => body _ ?_⟩
  simp only [c1, Zz, Zx, Zt]
def IA (L : List Tok) (f : Option (Exp × List Tok × Int × Bool)) (o : Out) : Prop := match o with
 | some (e, r) => f = some (e, L, (plc L r : Int), false)
 | none => ∃ x p, f = some (x, L, p, true)
def ILo (L : List Tok) (f : Option (List Tok × Int × Bool × Int × Int × (Bool × List Exp) × Int × Int × (Md × List Exp))) (o : Out) : Prop := match o with
 | some (e, r) => ∃ m, f = some (L, (plc L r : Int), false, 0, 0, (false, []), e.op, e.n, (m, e.args))
 | none => ∃ p a b m c, f = some (L, p, true, 0, 0, (false, []), a, b, (m, c))
theorem Rzw : ∀ {j : J} {l : List Tok} {o : Out}, C j l o → ∀ e r, o = some (e, r) → ∃ p, l = p ++ r := by
 intro j l o h
 induction h with
 | nil => intro e r ho; cases ho
 | atom _ _ =>
  intro e r ho
  injection ho with ho; injection ho with h1 h2; subst h2
  exact ⟨[_], rfl⟩
 | bad _ _ => intro e r ho; cases ho
 | par _ ih =>
  intro e r ho
  injection ho with ho; injection ho with h1 h2; subst h2
  obtain ⟨p, hp⟩ := ih _ _ rfl
  exact ⟨lp :: p ++ [rp], by rw [hp]; simp⟩
 | parN _ _ => intro e r ho; cases ho
 | parE _ _ => intro e r ho; cases ho
 | parB _ _ _ => intro e r ho; cases ho
 | exN h ih => intro e r ho; cases ho
 | ex h1 h2 ih1 ih2 =>
  intro e r ho
  obtain ⟨p, hp⟩ := ih1 _ _ rfl
  obtain ⟨q, hq⟩ := ih2 e r ho
  exact ⟨p ++ q, by rw [hp, hq, List.append_assoc]⟩
 | stop hn =>
  intro e r ho
  injection ho with ho; injection ho with h1 h2; subst h2
  exact ⟨[], rfl⟩
 | step hl h1 h2 ih1 ih2 =>
  intro e r ho
  obtain ⟨p, hp⟩ := ih1 _ _ rfl
  obtain ⟨q, hq⟩ := ih2 e r ho
  exact ⟨_ :: (p ++ q), by rw [hp, hq]; simp; rfl⟩
 | stepN hl h ih => intro e r ho; cases ho
theorem Suf.mem {L l : List Tok} {t : Tok} (h : Suf L (t :: l)) : t ∈ L := by
 obtain ⟨p, rfl⟩ := h; simp
theorem opN_nil : opN [] = 0 := rfl
theorem Rxv {n : Nat} (h : n ≤ 12) : levN n = 0 ↔ n = 0 := by
 have : ∀ i : Fin 13, levN i.val = 0 ↔ i.val = 0 := by decide
 exact this ⟨n, by omega⟩
theorem impl_C : ∀ {j : J} {l : List Tok} {o : Out}, C j l o → ∀ L : List Tok, L.length ≤ 20000 → (∀ t ∈ L, gt t) → Suf L l → match j with
  | .opd => IA L (Ral L (plc L l) false) o
  | .lev k => k ≤ 9 → 1 ≤ k → IA L (Rf (k : Int) L (plc L l) false) o
  | .loop k e => k ≤ 9 → 1 ≤ k → ∀ m, ILo L (Rak (k : Int) L (plc L l) false 0 0 false [] e.op e.n m e.args) o := by
 intro j l o h
 induction h with
 | nil =>
  intro L hL hg hs
  obtain ⟨p, hp⟩ := Ruc L
  have hv : Rj L (L.length : Int) false = some (0, L, p, true) := by
   apply Rbs
   rw [hp, Qb]
   simp
  refine ⟨⟨13, 0, []⟩, p, ?_⟩
  apply Rr
  rw [Rfe, Rmv, Qb]
  simp only [show (([] : List UInt8) == [40]) = false from rfl, Zf, show (([] : List UInt8) == []) = true from rfl, Zv, hv, Qb]
 | @atom t l e h1 h2 =>
  intro L hL hg hs
  obtain ⟨c, r, rfl, hd⟩ := hg t hs.mem
  show Ral L (plc L ((c :: r) :: l)) false = _
  apply Rr
  have hb : ((c :: r : Tok) == [40]) = false := by rw [beq_eq_false_iff_ne]; exact h1
  rw [Rcr hs, Qb]
  simp only [hb, Zf, show ((c :: r : List UInt8) == []) = false from rfl, Zx, Zt, Rmf, Qb, Rdd]
  cases hc : dg c
  ·have hn : ¬ 0 ≤ numV (c :: r) := fun h => by have := Ryd h c (List.mem_cons_self ..); rw [hc] at this; cases this
   obtain ⟨hv, he⟩ := Rma h2 hn
   simp only [Zf, (Rho hL hs (by simp)).1 hv, Qb, he]
  ·by_cases hn : 0 ≤ numV (c :: r)
   ·simp only [Zt, (Rjr hL hs (hd hc)).1 hn, Qb, Rqc h2 hn]
   ·exfalso
    obtain ⟨hv, he⟩ := Rma h2 hn
    have hcr := of_decide_eq_true hc
    unfold varV at hv
    split at hv
    ·rename_i c' heq
     injection heq with e1 e2; subst e1
     rw [if_neg (by omega)] at hv; omega
    ·omega
 | @bad t l h1 h2 =>
  intro L hL hg hs
  obtain ⟨c, r, rfl, hd⟩ := hg t hs.mem
  unfold atom at h2
  have hn : ¬ 0 ≤ numV (c :: r) := by intro h; rw [if_pos h] at h2; cases h2
  rw [if_neg hn] at h2
  have hv : ¬ 0 ≤ varV (c :: r) := by intro h; rw [if_pos h] at h2; cases h2
  have hb : ((c :: r : Tok) == [40]) = false := by rw [beq_eq_false_iff_ne]; exact h1
  cases hc : dg c
  ·refine ⟨⟨13, 0, []⟩, (plc L l : Int), ?_⟩
   apply Rr
   rw [Rcr hs, Qb]
   simp only [hb, Zf, show ((c :: r : List UInt8) == []) = false from rfl, Zx, Zt, Rmf, Qb, Rdd, hc, (Rho hL hs (by simp)).2 hv]
  ·refine ⟨⟨0, 0, []⟩, (plc L l : Int), ?_⟩
   apply Rr
   rw [Rcr hs, Qb]
   simp only [hb, Zf, show ((c :: r : List UInt8) == []) = false from rfl, Zx, Zt, Rmf, Qb, Rdd, hc, (Rjr hL hs (hd hc)).2 hn]
 | @par l r e h ih =>
  intro L hL hg hs
  obtain ⟨hs2, hp, hlt, _⟩ := hs.tail
  have h1 := ih L hL hg hs2 (by omega) (Nat.le_refl 1)
  have hs3 := hs2.trans (Rzw h _ _ rfl)
  show Ral L (plc L (lp :: l)) false = _
  apply Rr
  rw [Rcr hs, Qb]
  simp only [show (lp == [40]) = true from rfl, Zt]
  rw [w1n (by omega), hp, show Rf 1 L (plc L l) false = _ from h1, Qb, Rxz hL hs3, Qb]
  simp only [Rs]
 | @parN l h ih =>
  intro L hL hg hs
  obtain ⟨hs2, hp, hlt, _⟩ := hs.tail
  obtain ⟨x, p, h1⟩ := ih L hL hg hs2 (by omega) (Nat.le_refl 1)
  refine ⟨x, p, ?_⟩
  apply Rr
  rw [Rcr hs, Qb]
  simp only [show (lp == [40]) = true from rfl, Zt]
  rw [w1n (by omega), hp, show Rf 1 L (plc L l) false = _ from h1, Qb, Rxy, Qb]
  simp only [Rs]
 | @parE l e h ih =>
  intro L hL hg hs
  obtain ⟨hs2, hp, hlt, _⟩ := hs.tail
  have h1 := ih L hL hg hs2 (by omega) (Nat.le_refl 1)
  refine ⟨e, (L.length : Int), ?_⟩
  apply Rr
  rw [Rcr hs, Qb]
  simp only [show (lp == [40]) = true from rfl, Zt]
  rw [w1n (by omega), hp, show Rf 1 L (plc L l) false = _ from h1, Qb, Rfe, Raao, Qb]
  simp only [Rs]
 | @parB l r t e h hn ih =>
  intro L hL hg hs
  obtain ⟨hs2, hp, hlt, _⟩ := hs.tail
  have h1 := ih L hL hg hs2 (by omega) (Nat.le_refl 1)
  have hs3 := hs2.trans (Rzw h _ _ rfl)
  refine ⟨e, (plc L (t :: r) : Int), ?_⟩
  apply Rr
  rw [Rcr hs, Qb]
  simp only [show (lp == [40]) = true from rfl, Zt]
  rw [w1n (by omega), hp, show Rf 1 L (plc L l) false = _ from h1, Qb, Raan hs3 hn, Qb]
  simp only [Rs]
 | @exN k l h ih =>
  intro L hL hg hs k9 k1
  obtain ⟨x, p, h1⟩ := ih L hL hg hs
  refine ⟨x, p, ?_⟩
  apply Rdm
  have hl : Rak (k : Int) L p true 0 0 false [] x.op x.n .share x.args = some (L, p, true, 0, 0, (false, []), x.op, x.n, (.share, x.args)) := by
   apply Rat
   simp only [Zv, Zf]
  rw [h1, Qb, hl, Qb]
  simp only [Rs]
 | @ex k l r e o h1 h2 ih1 ih2 =>
  intro L hL hg hs k9 k1
  have e1 := ih1 L hL hg hs
  have e2 := ih2 L hL hg (hs.trans (Rzw h1 _ _ rfl)) k9 k1 .share
  cases o with
  | none =>
   obtain ⟨p, a, b, m, c, e2⟩ := e2
   refine ⟨⟨a, b, c⟩, p, ?_⟩
   apply Rdm
   rw [show Ral L (plc L l) false = _ from e1, Qb, e2, Qb]
  | some q =>
   obtain ⟨e', r'⟩ := q
   obtain ⟨m, e2⟩ := e2
   show Rf _ _ _ _ = _
   apply Rdm
   rw [show Ral L (plc L l) false = _ from e1, Qb, e2, Qb]
   simp only [Rs]
 | @stop k e l hn =>
  intro L hL hg hs k9 k1 m
  refine ⟨m, ?_⟩
  apply Rat
  simp only [Zx, Zt]
  cases l with
  | nil =>
   rw [Rfe, Rmv, Qb, Rgl, opN_nil, Qb]
   simp only [Int.ofNat_zero, Int.natCast_zero, Zy, Zt]
  | cons t l =>
   rw [Rcr hs, Qb, Rgl, Qb]
   by_cases h0 : opN t = 0
   ·simp only [h0, Int.ofNat_zero, Int.natCast_zero, Zy, Zt]
   ·have c0 : ¬ ((opN t : Int) = 0) := by omega
    have c1 : ((levN (opN t) : Int) < (k : Int)) := by
     have : levN (opN t) < k := hn
     omega
    simp only [c0, Zz, Zf, Rdp (Rss t), Qb, c1, Zy, Zt]
 | @step k e b t l r o hl h1 h2 ih1 ih2 =>
  intro L hL hg hs k9 k1 m
  obtain ⟨hs2, hp, hlt, _⟩ := hs.tail
  have hs3 := hs2.trans (Rzw h1 _ _ rfl)
  have l8 := Rlr (opN t)
  have e1 := ih1 L hL hg hs2 (by omega) (by omega)
  have e2 := ih2 L hL hg hs3 k9 k1 .full
  have h0 : ¬ opN t = 0 := by intro h; rw [h] at hl; have : levN 0 = 0 := rfl; omega
  have c0 : ¬ ((opN t : Int) = 0) := by omega
  have c1 : ¬ ((levN (opN t) : Int) < (k : Int)) := by omega
  have step : ∀ y, Rak (k : Int) L (plc L r) false 0 0 false [] (opN t : Int) 0 .full [e, b] = some y → Rak (k : Int) L (plc L (t :: l)) false 0 0 false [] e.op e.n m e.args = some y := by
   intro y hy
   apply Rat
   simp only [Zx, Zt]
   rw [Rcr hs, Qb, Rgl, Qb]
   simp only [c0, Zz, Zf, Rdp (Rss t), Qb, c1]
   rw [w1n (n := levN (opN t)) (by omega), w1n (n := plc L (t :: l)) (by omega), hp, show Rf ((levN (opN t) + 1 : Nat) : Int) L (plc L l) false = _ from e1, Qb]
   simp only [Rs]
   exact hy
  cases o with
  | none =>
   obtain ⟨p, a, b, m, c, e2⟩ := e2
   exact ⟨p, a, b, m, c, step _ e2⟩
  | some q =>
   obtain ⟨e', r'⟩ := q
   obtain ⟨m, e2⟩ := e2
   exact ⟨m, step _ e2⟩
 | @stepN k e t l hl h ih =>
  intro L hL hg hs k9 k1 m
  obtain ⟨hs2, hp, hlt, _⟩ := hs.tail
  have l8 := Rlr (opN t)
  obtain ⟨x, p, e1⟩ := ih L hL hg hs2 (by omega) (by omega)
  have h0 : ¬ opN t = 0 := by intro h; rw [h] at hl; have : levN 0 = 0 := rfl; omega
  have c0 : ¬ ((opN t : Int) = 0) := by omega
  have c1 : ¬ ((levN (opN t) : Int) < (k : Int)) := by omega
  refine ⟨p, (opN t : Int), 0, .full, [e, x], ?_⟩
  apply Rat
  simp only [Zx, Zt]
  rw [Rcr hs, Qb, Rgl, Qb]
  simp only [c0, Zz, Zf, Rdp (Rss t), Qb, c1]
  rw [w1n (n := levN (opN t)) (by omega), w1n (n := plc L (t :: l)) (by omega), hp, show Rf ((levN (opN t) + 1 : Nat) : Int) L (plc L l) false = _ from e1, Qb]
  simp only [Rs]
  apply Rat
  simp only [Zv, Zf]
theorem Rqg {Q : List UInt8 → List Tok → Prop} (h0 : Q [] []) (h1 : ∀ c r t, bl c = true → toks r = some t → Q r t → Q (c :: r) t)
  (h2 : ∀ c r t, bl c = false → Rm (c :: r) ≠ 0 → toks ((c :: r).drop (Rm (c :: r))) = some t → Q ((c :: r).drop (Rm (c :: r))) t → Q (c :: r) ((c :: r).take (Rm (c :: r)) :: t)) :
  ∀ (n : Nat) (s : List UInt8) (t : List Tok), s.length ≤ n → toks s = some t → Q s t
 | n, [], t, _, h => by rw [Rno] at h; injection h with h; subst h; exact h0
 | 0, c :: r, t, hn, h => by simp at hn
 | n + 1, c :: r, t, hn, h => by
  cases hb : bl c with
  | true =>
   rw [Rud r hb] at h
   exact h1 c r t hb h (Rqg h0 h1 h2 n r t (by simp only [Zc] at hn; omega) h)
  | false =>
   by_cases hl : Rm (c :: r) = 0
   ·rw [Rvk hb hl] at h; cases h
   ·rw [Rnp hb hl] at h
    cases ht : toks ((c :: r).drop (Rm (c :: r))) with
    | none => rw [ht] at h; cases h
    | some t2 =>
     rw [ht, Qb] at h
     injection h with h; subst h
     exact h2 c r t2 hb hl ht (Rqg h0 h1 h2 n _ t2 (by rw [List.length_drop]; omega) ht)
theorem tok_gt (c : UInt8) (r : List UInt8) (h : Rm (c :: r) ≠ 0) : gt ((c :: r).take (Rm (c :: r))) := by
 obtain ⟨n, hn⟩ : ∃ n, Rm (c :: r) = n + 1 := ⟨Rm (c :: r) - 1, by omega⟩
 refine ⟨c, r.take n, by rw [hn, List.take_succ_cons], ?_⟩
 intro hd x hx
 rw [hn, List.take_succ_cons] at hx
 have : n = (r.takeWhile dg).length := by
  simp only [Rm, hd, if_true] at hn; omega
 rcases List.mem_cons.mp hx with rfl | hx
 ·exact hd
 ·have he : r.take n = r.takeWhile dg := by
   rw [this]
   exact (List.prefix_iff_eq_take.mp (List.takeWhile_prefix dg)).symm
  rw [he] at hx
  exact List.all_eq_true.mp List.all_takeWhile x hx
theorem Rzs {s : List UInt8} {t : List Tok} (h : toks s = some t) : ∀ x ∈ t, gt x :=
 Rqg (Q := fun s t => ∀ x ∈ t, gt x) (fun x hx => by cases hx) (fun c r t _ _ ih => ih) (fun c r t _ hl _ ih x hx => by
  rcases List.mem_cons.mp hx with rfl | hx
  ·exact tok_gt c r hl
  ·exact ih x hx) s.length s t (Nat.le_refl _) h
theorem Rue {s : List UInt8} {t : List Tok} (h : toks s = some t) : t.length ≤ s.length :=
 Rqg (Q := fun s t => t.length ≤ s.length) (Nat.le_refl _) (fun c r t _ _ ih => by simp only [Zc]; omega) (fun c r t _ hl _ ih => by
  rw [List.length_drop] at ih
  have := Rrq (c :: r)
  simp only [Zc] at *; omega) s.length s t (Nat.le_refl _) h
theorem Rzp (L : List Tok) : Suf L L ∧ plc L L = 0 := ⟨⟨[], rfl⟩, by unfold plc; omega⟩
def fin (c : UInt8) : Prop := bl c = true ∨ c = 40 ∨ c = 41
theorem Rnm {p : UInt8 → Bool} {c : UInt8} (hc : p c = false) (s r : List UInt8) : (s ++ c :: r).takeWhile p = s.takeWhile p := by
 induction s with
 | nil => simp [List.takeWhile_cons, hc]
 | cons a s ih =>
  rw [List.cons_append, List.takeWhile_cons, List.takeWhile_cons, ih]
theorem Rabe {c : UInt8} (h : fin c) : dg c = false ∧ lt c = false := by
 rcases h with h | rfl | rfl
 ·exact Rxf h
 ·exact ⟨rfl, rfl⟩
 ·exact ⟨rfl, rfl⟩
theorem Rwz {c : UInt8} (hc : fin c) (a : UInt8) (s r : List UInt8) : Rm (a :: s ++ c :: r) = Rm (a :: s) := by
 rw [List.cons_append]
 simp only [Rm, Rnm (Rabe hc).1, Rnm (Rabe hc).2]
 have : twos.any (fun t => t.isPrefixOf (a :: (s ++ c :: r))) = twos.any (fun t => t.isPrefixOf (a :: s)) := by
  cases s with
  | nil =>
   rw [List.nil_append, Rnr, Ruf]
   cases ht : twos.contains [a, c] with
   | false => rfl
   | true =>
    exfalso
    rw [List.contains_iff_mem] at ht
    unfold twos at ht
    simp only [Zo, List.cons.injEq, List.not_mem_nil, or_false, and_true] at ht
    have : c = 61 ∨ c = 60 ∨ c = 62 := by rcases ht with ⟨_, h⟩ | ⟨_, h⟩ | ⟨_, h⟩ <;> simp [h]
    rcases hc with h | h | h
    ·rcases this with rfl | rfl | rfl <;> exact absurd h (by decide)
    ·subst h; revert this; decide
    ·subst h; revert this; decide
  | cons b s => rw [List.cons_append, Rnr, Rnr]
 rw [this]
theorem Raap {u : List Tok} (hu : nlev u = 0) (l : List Tok) : nlev (l ++ u) = nlev l := by
 cases l with
 | nil => rw [List.nil_append, hu]; rfl
 | cons t l => rfl
theorem P_ext {u : List Tok} (hu : nlev u = 0) : ∀ {j : J} {l : List Tok} {o : Out}, P j l o → ∀ e r, o = some (e, r) → P j (l ++ u) (some (e, r ++ u)) := by
 intro j l o h
 induction h with
 | nil => intro e r ho; cases ho
 | atom h1 h2 =>
  intro e r ho
  injection ho with ho; injection ho with a1 a2; subst a1; subst a2
  exact .atom h1 h2
 | bad _ _ => intro e r ho; cases ho
 | par h ih =>
  intro e r ho
  injection ho with ho; injection ho with a1 a2; subst a1; subst a2
  exact .par (ih _ _ rfl)
 | parN _ _ => intro e r ho; cases ho
 | parE _ _ => intro e r ho; cases ho
 | parB _ _ _ => intro e r ho; cases ho
 | top hk h ih => intro e r ho; exact .top hk (ih e r ho)
 | levN hk h ih => intro e r ho; cases ho
 | levS hk h1 h2 ih1 ih2 => intro e r ho; exact .levS hk (ih1 _ _ rfl) (ih2 e r ho)
 | stop hn =>
  intro e r ho
  injection ho with ho; injection ho with a1 a2; subst a1; subst a2
  exact .stop (by rw [Raap hu]; exact hn)
 | step hl h1 h2 ih1 ih2 => intro e r ho; exact .step hl (ih1 _ _ rfl) (ih2 e r ho)
 | stepN hl h ih => intro e r ho; cases ho
theorem Rxb {l u : List Tok} {e : Exp} : ∀ (d k : Nat), P (.lev (k + d)) l (some (e, u)) → k + d ≤ 9 → nlev u < k → P (.lev k) l (some (e, u))
 | 0, k, h, _, _ => h
 | d + 1, k, h, hd, hn => by
  have h2 := Rxb d (k + 1) (by rw [show k + 1 + d = k + (d + 1) by omega]; exact h) (by omega) (by omega)
  exact .levS (by omega) h2 (.stop (by omega))
theorem P_opd {l v : List Tok} {e : Exp} {k : Nat} {o : Out} (h : P .opd l (some (e, v))) (hk : k ≤ 8) (hn : nlev v < k + 1) (hl : P (.loop k e) v o) : P (.lev k) l o := by
 have h9 : P (.lev 9) l (some (e, v)) := .top (by omega) h
 exact .levS hk (Rxb (9 - (k + 1)) (k + 1) (by rw [show k + 1 + (9 - (k + 1)) = 9 by omega]; exact h9) (by omega) hn) hl
theorem Rabb {l v : List Tok} {e : Exp} {k : Nat} (h : P .opd l (some (e, v))) (hk : k ≤ 9) (hn : nlev v < k) : P (.lev k) l (some (e, v)) := by
 have h9 : P (.lev 9) l (some (e, v)) := .top (by omega) h
 exact Rxb (9 - k) k (by rw [show k + (9 - k) = 9 by omega]; exact h9) (by omega) hn
theorem Rvg {x y : Exp} (h1 : x.op = y.op) (h2 : x.n = y.n) (h3 : x.args = y.args) : x = y := by
 cases x; cases y; simp only at h1 h2 h3; subst h1; subst h2; subst h3; rfl
def tvb (t : Tok) : Bool := !t.isEmpty && decide (Rm t = t.length)
theorem Rabn {c : UInt8} (r : List UInt8) (h : bl c = true) : Rm (c :: r) = 0 := by
 obtain ⟨h1, h2⟩ := Rxf h
 have h3 := of_decide_eq_true h
 have hs : ¬ c ∈ syms := by
  intro hm
  have : ∀ x ∈ syms, bl x = false := by decide
  rw [this c hm] at h; cases h
 simp only [Rm, h1, h2, Rux hs, Bool.false_eq_true, if_false]
 rw [if_neg (fun h => hs (Rra.mp h).1)]
theorem Rmg {t : Tok} (ht : t.length ≤ 1000000000) : Rhs t = some (tvb t) := by
 apply Rmh
 rw [Rhw ht, Qb]
 unfold tvb
 cases t with
 | nil => rfl
 | cons c r =>
  simp only [show ((c :: r : List UInt8) == []) = false from rfl, Zx, Zt, List.isEmpty_cons, Bool.true_and]
  congr 1; congr 1; apply propext; omega
theorem Ris {t : Tok} (ht : t.length ≤ 1000000000) : Rib t = some (tvb t) := by
 apply Rnb
 unfold tvb
 cases t with
 | nil => rfl
 | cons c r =>
  simp only [show ((c :: r : List UInt8) == []) = false from rfl, Zx, Zt, List.isEmpty_cons, Bool.true_and]
  cases hb : bl c with
  | true =>
   have : Rgh (c :: r) 0 = some (-1) := by
    apply Rhm
    rw [Rmf, Qb, Rfp, Qb, Rqt.mpr hb]; rfl
   rw [this, Qb, Rabn r hb]
   congr 1
  | false =>
   have h := Rwf ht (i := 0) (by simp) (by simpa using hb)
   rw [List.drop_zero] at h
   rw [show Rgh (c :: r) 0 = _ from h, Qb]
   congr 1; congr 1; apply propext
   simp only [Nat.zero_add]
   split
   ·rename_i h0; rw [h0]; simp only [Zc]; omega
   ·omega
def jn : List Tok → List UInt8
 | [] => []
 | [a] => a
 | a :: b :: r => a ++ 32 :: jn (b :: r)
theorem Rxs : ∀ (p : List Tok) (x : Tok), p ≠ [] → jn (p ++ [x]) = jn p ++ 32 :: x
 | [], x, h => absurd rfl h
 | [a], x, _ => rfl
 | a :: b :: r, x, _ => by
  show a ++ 32 :: jn ((b :: r) ++ [x]) = a ++ 32 :: jn (b :: r) ++ 32 :: x
  rw [Rxs (b :: r) x (by simp), List.append_assoc]; rfl
theorem Rvi : ∀ l : List Tok, Lib.join l [32] = jn l
 | [] => rfl
 | [a] => by simp [Lib.join, jn, List.intercalate]
 | a :: b :: r => by
  have ih := Rvi (b :: r)
  unfold Lib.join List.intercalate at *
  simp only [List.intersperse, List.flatten_cons] at *
  rw [ih]; simp [jn]
def lvE (e : Exp) : Nat := if e.args = [] then 9 else levN e.op.toNat
def wrp (l : List Tok) (c : Bool) : List Tok := if c then lp :: l ++ [rp] else l
def eT : Nat → Exp → List Tok
 | 0, _ => []
 | d + 1, e =>
  if e.op = 0 then [Lib.itoa e.n]
  else if e.op = 13 then [[UInt8.ofNat (97 + e.n.toNat)]]
  else match e.args with
   | [a, b] => wrp (eT d a) (decide (lvE a < levN e.op.toNat)) ++ [opT e.op] ++ wrp (eT d b) (decide (lvE b ≤ levN e.op.toNat))
   | _ => []
theorem Ruk {d : Nat} {e : Exp} (h : e.op = 0) : eT (d + 1) e = [Lib.itoa e.n] := by simp only [eT]; rw [if_pos h]
theorem Rul {d : Nat} {e : Exp} (h : e.op = 13) : eT (d + 1) e = [[UInt8.ofNat (97 + e.n.toNat)]] := by
 simp only [eT]; rw [if_neg (by omega), if_pos h]
theorem Rql {d : Nat} {e a b : Exp} (h1 : 1 ≤ e.op) (h2 : e.op ≤ 12) (h : e.args = [a, b]) :
  eT (d + 1) e = wrp (eT d a) (decide (lvE a < levN e.op.toNat)) ++ [opT e.op] ++ wrp (eT d b) (decide (lvE b ≤ levN e.op.toNat)) := by
 simp only [eT]; rw [if_neg (by omega), if_neg (by omega), h]
theorem Rrs (l : List Tok) (c : Bool) : (wrp l c).length ≤ l.length + 2 := by
 unfold wrp; split
 ·simp
 ·omega
theorem Rxj : ∀ (d : Nat) (e : Exp), (eT d e).length + 5 ≤ 5 * 2 ^ d
 | 0, e => by simp [eT]
 | d + 1, e => by
  have h1 : 1 ≤ 2 ^ d := Nat.one_le_two_pow
  have hp : 2 ^ (d + 1) = 2 * 2 ^ d := by rw [Nat.pow_succ]; omega
  simp only [eT]
  split
  ·simp only [Zc, Zn]; omega
  split
  ·simp only [Zc, Zn]; omega
  split
  ·rename_i a b _
   have ha := Rxj d a
   have hb := Rxj d b
   have wa := Rrs (eT d a) (decide (lvE a < levN e.op.toNat))
   have wb := Rrs (eT d b) (decide (lvE b ≤ levN e.op.toNat))
   simp only [Za, Zc, Zn]; omega
  ·simp only [Zn]; omega
theorem Rqd {d : Nat} (hd : d ≤ 5) (e : Exp) : (eT d e).length ≤ 155 := by
 have h1 := Rxj d e
 have h2 : 2 ^ d ≤ 2 ^ 5 := Nat.pow_le_pow_right (by omega) hd
 omega
theorem wrp_mem {l : List Tok} {c : Bool} {t : Tok} (h : t ∈ wrp l c) : t ∈ l ∨ t = lp ∨ t = rp := by
 unfold wrp at h
 split at h
 ·simp only [List.cons_append, Zo, Zu, List.not_mem_nil, or_false] at h
  rcases h with h | h | h
  ·exact Or.inr (Or.inl h)
  ·exact Or.inl h
  ·exact Or.inr (Or.inr h)
 ·exact Or.inl h
theorem Ruj (u : Nat) : (∀ x ∈ Lib.decDigits u, dg x = true) ∧ Lib.decDigits u ≠ [] := by
 induction u using Nat.strongRecOn with
 | _ u ih =>
  unfold Lib.decDigits
  have hd : ∀ n, n < 10 → dg (UInt8.ofNat (48 + n)) = true := by
   intro n hn
   unfold dg
   apply Zp
   rw [UInt8.toNat_ofNat']; omega
  split
  ·rename_i h
   refine ⟨?_, by simp⟩
   intro x hx
   rw [List.mem_singleton] at hx; subst hx
   exact hd u h
  ·rename_i h
   obtain ⟨h1, h2⟩ := ih (u / 10) (by omega)
   refine ⟨?_, by simp⟩
   intro x hx
   rw [Zu, List.mem_singleton] at hx
   rcases hx with hx | rfl
   ·exact h1 x hx
   ·exact hd (u % 10) (by omega)
theorem Rqk : ∀ (a b : List UInt8) (n m : Nat), Lib.decFrom n a = some m → Lib.decFrom n (a ++ b) = Lib.decFrom m b
 | [], b, n, m, h => by simp only [Lib.decFrom] at h; injection h with h; subst h; rfl
 | c :: r, b, n, m, h => by
  simp only [List.cons_append, Lib.decFrom] at *
  cases hd : Lib.digitVal c with
  | none => rw [hd] at h; cases h
  | some v =>
   rw [hd] at h
   exact Rqk r b _ m h
theorem Rtm (u : Nat) : Lib.decFrom 0 (Lib.decDigits u) = some u := by
 induction u using Nat.strongRecOn with
 | _ u ih =>
  unfold Lib.decDigits
  have hv : ∀ n, n < 10 → Lib.digitVal (UInt8.ofNat (48 + n)) = some n := by
   intro n hn
   unfold Lib.digitVal
   have : (UInt8.ofNat (48 + n)).toNat = 48 + n := by rw [UInt8.toNat_ofNat']; omega
   rw [this, if_pos (by omega)]; congr 1; omega
  split
  ·rename_i h
   simp only [Lib.decFrom, hv u h]; congr 1; omega
  ·rename_i h
   rw [Rqk _ _ _ _ (ih (u / 10) (by omega))]
   simp only [Lib.decFrom, hv (u % 10) (by omega)]; congr 1; omega
theorem Rnl {p : UInt8 → Bool} : ∀ {l : List UInt8}, (∀ x ∈ l, p x = true) → l.takeWhile p = l
 | [], _ => rfl
 | c :: r, h => by
  rw [List.takeWhile_cons, if_pos (h c (List.mem_cons_self ..)), Rnl (fun x hx => h x (List.mem_cons_of_mem _ hx))]
theorem tvb_dg {t : Tok} (h : ∀ x ∈ t, dg x = true) (hn : t ≠ []) : tvb t = true := by
 cases t with
 | nil => exact absurd rfl hn
 | cons c r =>
  unfold tvb
  have h1 := h c (List.mem_cons_self ..)
  have h2 := Rnl (fun x hx => h x (List.mem_cons_of_mem _ hx) : ∀ x ∈ r, dg x = true)
  simp only [Rm, h1, if_true, h2, Zc]
  simp; omega
theorem Raar : ∀ t ∈ opTs, tvb t = true := by decide
theorem Rye {n : Int} (h1 : 1 ≤ n) (h2 : n ≤ 12) : opT n ∈ opTs := List.mem_of_getElem? (Rqf h1 h2)
theorem Rabq {n : Int} (h1 : 0 ≤ n) (h2 : n < 4) : tvb [UInt8.ofNat (97 + n.toNat)] = true ∧ atom [UInt8.ofNat (97 + n.toNat)] = some ⟨13, n, []⟩ ∧ ([UInt8.ofNat (97 + n.toNat)] : Tok) ≠ lp := by
 have : n = 0 ∨ n = 1 ∨ n = 2 ∨ n = 3 := by omega
 rcases this with rfl | rfl | rfl | rfl <;> exact ⟨by decide, rfl, by decide⟩
theorem Rwk {n : Int} (h1 : 0 ≤ n) (h2 : n ≤ 99999) : tvb (Lib.itoa n) = true ∧ atom (Lib.itoa n) = some ⟨0, n, []⟩ ∧ Lib.itoa n ≠ lp ∧ (Lib.itoa n).length ≤ 5 := by
 obtain ⟨u, rfl⟩ := Int.eq_ofNat_of_zero_le h1
 have e : Lib.itoa (u : Int) = Lib.decDigits u := Lib.itoa_nonneg u
 obtain ⟨hd, hn⟩ := Ruj u
 have hl : (Lib.decDigits u).length ≤ 5 := by
  have := Rfm 5 u (by omega); omega
 have hv : numV (Lib.decDigits u) = (u : Int) := by
  unfold numV
  have : (Lib.decDigits u).length ≠ 0 := by rw [ne_eq, List.length_eq_zero_iff]; exact hn
  rw [if_pos (by omega), Rtm]
 rw [e]
 refine ⟨tvb_dg hd hn, ?_, ?_, hl⟩
 ·unfold atom; rw [hv, if_pos h1]
 ·intro h
  have := hd 40 (by rw [h]; decide)
  cases this
theorem Rlc : ∀ (d : Nat) (e : Exp), Raq d e = true → ∀ t ∈ eT d e, tvb t = true ∧ t.length ≤ 100
 | 0, e, h => by cases h
 | d + 1, e, h => by
  intro t ht
  rcases Rdl h with h | h | ⟨h1, h2, _, a, b, hab, ha, hb⟩
  ·rw [Ruk h.1, List.mem_singleton] at ht
   subst ht
   have := Rwk h.2.2.1 h.2.2.2
   exact ⟨this.1, by omega⟩
  ·rw [Rul h.1, List.mem_singleton] at ht
   subst ht
   exact ⟨(Rabq h.2.2.1 h.2.2.2).1, by simp⟩
  ·rw [Rql h1 h2 hab, Zu, Zu, List.mem_singleton] at ht
   have wr : ∀ {l : List Tok} {c : Bool}, (∀ t ∈ l, tvb t = true ∧ t.length ≤ 100) → t ∈ wrp l c → tvb t = true ∧ t.length ≤ 100 := by
    intro l c hl hm
    rcases wrp_mem hm with h | rfl | rfl
    ·exact hl t h
    ·exact ⟨by decide, by decide⟩
    ·exact ⟨by decide, by decide⟩
   rcases ht with (ht | rfl) | ht
   ·exact wr (Rlc d a ha) ht
   ·exact ⟨Raar _ (Rye h1 h2), by have := opT_len e.op; omega⟩
   ·exact wr (Rlc d b hb) ht
theorem Rsq {d : Nat} {e : Exp} (h : Raq d e = true) : Rit e = some (lvE e : Int) := by
 apply Rrh
 cases d with
 | zero => cases h
 | succ d =>
  unfold lvE
  rcases Rdl h with h | h | ⟨h1, h2, _, a, b, hab, ha, hb⟩
  ·simp [h.2.1]
  ·simp [h.2.1]
  ·have hn : ¬ (((e.args.length : Nat) : Int) = 0) := by rw [hab]; simp
   have hn2 : ¬ e.args = [] := by rw [hab]; simp
   have ho : e.op = ((e.op.toNat : Nat) : Int) := by omega
   simp only [hn, hn2, Zz, Zf, if_false]
   conv => lhs; rw [ho]
   rw [Rds (by omega), Qb]
theorem Rum {l : List Tok} (c : Bool) (hl : l.length ≤ 1000) : Rjx l c = some (wrp l c) := by
 apply Rsi
 unfold wrp
 cases c with
 | false => simp
 | true =>
  simp only [Zv, Zf, if_true]
  unfold appL
  rw [if_pos (by simp only [Zc, Zn]; omega), Qb, if_pos (by simp only [Zc, Zn, Za]; omega), Qb]
  rfl
theorem Rhc : ∀ (d : Nat) (e : Exp), d ≤ 5 → Raq d e = true → Rcv e = some (eT d e)
 | 0, e, _, h => by cases h
 | d + 1, e, hd, h => by
  apply Rpy
  rcases Rdl h with h | h | ⟨h1, h2, _, a, b, hab, ha, hb⟩
  ·simp only [h.1, Zy, Zt]
   rw [Rni (by unfold wfI; omega), Qb, Ruk h.1]
  ·simp only [h.1, Zy, Zt, show ¬ ((13 : Int) = 0) by omega, Zz, Zf]
   have : e.n = ((e.n.toNat : Nat) : Int) := by omega
   rw [Rul h.1, this, Rmp (by omega), Qb]; rfl
  ·have c0 : ¬ e.op = 0 := by omega
   have c13 : ¬ e.op = 13 := by omega
   have ho : Rfj e.op = some (levN e.op.toNat : Int) := by
    have ho : e.op = ((e.op.toNat : Nat) : Int) := by omega
    conv => lhs; rw [ho]
    exact Rds (by omega)
   have la := Rqd (d := d) (by omega) a
   have lb := Rqd (d := d) (by omega) b
   simp only [c0, c13, Zz, Zf, ho, Qb, hab, Rmf, Raaf, Rs, Rhc d a (by omega) ha, Rhc d b (by omega) hb, Rsq ha, Rsq hb, Rld]
   have wa := Rrs (eT d a) (decide (lvE a < levN e.op.toNat))
   have wb := Rrs (eT d b) (decide (lvE b ≤ levN e.op.toNat))
   have e1 : decide ((lvE a : Int) < (levN e.op.toNat : Int)) = decide (lvE a < levN e.op.toNat) := by congr 1; apply propext; omega
   have e2 : decide ((lvE b : Int) ≤ (levN e.op.toNat : Int)) = decide (lvE b ≤ levN e.op.toNat) := by congr 1; apply propext; omega
   rw [e1, e2, Rum _ (by omega), Qb, Rba (by omega), Qb, Rum _ (by omega), Qb]
   unfold appL
   rw [if_pos (by simp only [Za, Zc, Zn]; omega), Qb, Rql h1 h2 hab]
theorem Rot {n : Int} (h1 : 0 ≤ n) (h2 : n < 4) : Rgr n = some [UInt8.ofNat (97 + n.toNat)] := by
 apply Rqq
 have e1 : wrap32 (wrap64 (97 + n)) = 97 + n := by rw [wrap_id (by omega) (by omega)]; unfold wrap32; omega
 rw [e1]
 unfold rune
 rw [if_pos (by omega), Qb, show (97 + n).toNat = 97 + n.toNat by omega]
theorem Rea : ∀ (d : Nat) (e : Exp) (out : List Tok), d ≤ 5 → Raq d e = true → out.length ≤ 20000 * (6 - d) → Rx e out = some (out ++ eT d e)
 | 0, e, out, _, h, _ => by cases h
 | d + 1, e, out, hd, h, hl => by
  have opnd : ∀ (a : Exp) (least : Nat) (o : List Tok), least ≤ 9 → Raq d a = true → o.length ≤ 20000 * (6 - d) - 10 → Reb a (least : Int) o = some (o ++ wrp (eT d a) (decide (lvE a < least))) := by
   intro a least o hle ha ho
   apply Rkg
   rw [Rhr, Qb]
   obtain ⟨d', rfl⟩ : ∃ d', d = d' + 1 := by
    cases d with
    | zero => cases ha
    | succ d => exact ⟨d, rfl⟩
   have leaf : ¬ (1 ≤ a.op ∧ a.op ≤ 12) → a.args = [] → (bif (!decide (1 ≤ a.op ∧ a.op ≤ 12)) then bnd (Rx (⟨a.op, a.n, a.args⟩ : Exp) o) (fun r2 => some r2) else
     bnd (Rcl a.op) fun r3 => (bif (decide ((least : Int) ≤ r3)) then bnd (Rx (⟨a.op, a.n, a.args⟩ : Exp) o) (fun r4 => some r4) else
     bnd (appL o ([[40]] : List (List UInt8))) fun l5 => bnd (Rx (⟨a.op, a.n, a.args⟩ : Exp) l5) fun r6 => bnd (appL r6 ([[41]] : List (List UInt8))) fun l7 => some l7)) = some (o ++ wrp (eT (d' + 1) a) (decide (lvE a < least))) := by
    intro hv hargs
    have hlv : ¬ lvE a < least := by unfold lvE; rw [if_pos hargs]; omega
    simp only [hv, hlv, Zz, Zx, Zt, Rs]
    rw [Rea (d' + 1) a o (by omega) ha (by omega), Qb]
    rfl
   rcases Rdl ha with h | h | ⟨h1, h2, _, p, q, hpq, _, _⟩
   ·exact leaf (by omega) h.2.1
   ·exact leaf (by omega) h.2.1
   ·have hv : (1 ≤ a.op ∧ a.op ≤ 12) := ⟨h1, h2⟩
    have hlv : lvE a = levN a.op.toNat := by unfold lvE; rw [if_neg (by rw [hpq]; simp)]
    have hol : Rcl a.op = some (levN a.op.toNat : Int) := by
     have ho : a.op = ((a.op.toNat : Nat) : Int) := by omega
     conv => lhs; rw [ho]
     exact Rdp (by omega)
    have small := Rqd (d := d' + 1) (by omega) a
    simp only [hv, and_self, Zy, Zv, Zf, hol, Qb, Rs]
    by_cases hc : levN a.op.toNat < least
    ·have hc' : ¬ ((least : Int) ≤ (levN a.op.toNat : Int)) := by omega
     have hc2 : lvE a < least := by omega
     simp only [hc', Zz, Zf]
     rw [Rba (by omega), Qb, Rea (d' + 1) a _ (by omega) ha (by simp only [Za, Zc, Zn]; omega), Qb, Rba (by simp only [Za, Zc, Zn]; omega), Qb]
     rw [Zp hc2]
     unfold wrp
     rw [if_pos rfl]
     simp [lp, rp]
    ·have hc' : ((least : Int) ≤ (levN a.op.toNat : Int)) := by omega
     have hc2 : ¬ lvE a < least := by omega
     simp only [hc', Zy, Zt]
     rw [Rea (d' + 1) a o (by omega) ha (by omega), Qb, Zq hc2]
     rfl
  apply Rmk
  rcases Rdl h with h | h | ⟨h1, h2, _, a, b, hab, ha, hb⟩
  ·simp only [h.1, Zy, Zt]
   rw [Rxr (by unfold wfI; omega), Qb, Rba (by omega), Qb, Ruk h.1]
  ·simp only [h.1, Zy, Zt, show ¬ ((13 : Int) = 0) by omega, Zz, Zf]
   rw [Rot h.2.2.1 h.2.2.2, Qb, Rba (by omega), Qb, Rul h.1]
  ·have c0 : ¬ e.op = 0 := by omega
   have c13 : ¬ e.op = 13 := by omega
   have ho : Rcl e.op = some (levN e.op.toNat : Int) := by
    have ho : e.op = ((e.op.toNat : Nat) : Int) := by omega
    conv => lhs; rw [ho]
    exact Rdp (by omega)
   have l8 := Rlr e.op.toNat
   have la := Rqd (d := d) (by omega) a
   have wa := Rrs (eT d a) (decide (lvE a < levN e.op.toNat))
   simp only [c0, c13, Zz, Zf, ho, Qb, hab, Rmf, Raaf, Rs]
   rw [opnd a _ out (by omega) ha (by omega), Qb, Rrt, Qb, Rba (by rw [Za]; omega), Qb, w1n (by omega),
    opnd b _ _ (by omega) hb (by simp only [Za, Zc, Zn]; omega), Qb, Rql h1 h2 hab]
   have e2 : decide (lvE b < levN e.op.toNat + 1) = decide (lvE b ≤ levN e.op.toNat) := by congr 1; apply propext; omega
   rw [e2]
   simp [List.append_assoc]
theorem Rws {w : Tok} (h : tvb w = true) : ∃ c r, w = c :: r ∧ bl c = false ∧ Rm (c :: r) = (c :: r).length := by
 cases w with
 | nil => cases h
 | cons c r =>
  unfold tvb at h
  simp only [List.isEmpty_cons, Zx, Bool.true_and, Ze] at h
  refine ⟨c, r, rfl, ?_, h⟩
  cases hb : bl c with
  | false => rfl
  | true => rw [Rabn r hb] at h; simp at h
theorem Raay {w : Tok} (h : tvb w = true) {d : UInt8} (hd : fin d) (s : List UInt8) : toks (w ++ d :: s) = bnd (toks (d :: s)) fun t => some (w :: t) := by
 obtain ⟨c, r, rfl, hb, hl⟩ := Rws h
 have e := Rwz hd c r s
 rw [hl] at e
 have e2 : Rm (c :: (r ++ d :: s)) = (c :: r).length := e
 rw [List.cons_append, Rnp hb (by rw [e2]; simp), e2, ← List.cons_append, List.drop_left, List.take_left]
theorem Raax {w : Tok} (h : tvb w = true) : toks w = some [w] := by
 obtain ⟨c, r, rfl, hb, hl⟩ := Rws h
 rw [Rnp hb (by rw [hl]; simp), hl, List.drop_length, Rno, Qb, List.take_length]
theorem toks_sp (s : List UInt8) : toks (32 :: s) = toks s := Rud s (by decide)
theorem Rzt : ∀ (l : List Tok), (∀ t ∈ l, tvb t = true) → toks (jn l) = some l
 | [], _ => Rno
 | [a], h => Raax (h a (by simp))
 | a :: b :: r, h => by
  show toks (a ++ 32 :: jn (b :: r)) = _
  rw [Raay (h a (by simp)) (Or.inl (by decide)), toks_sp, Rzt (b :: r) (fun t ht => h t (List.mem_cons_of_mem _ ht)), Qb]
theorem opN_opT {n : Int} (h1 : 1 ≤ n) (h2 : n ≤ 12) : opN (opT n) = n.toNat := by
 have : ∀ i : Fin 13, 1 ≤ i.val → opN (opT (i.val : Int)) = i.val := by decide
 have h := this ⟨n.toNat, by omega⟩ (by show 1 ≤ n.toNat; omega)
 rw [show (((⟨n.toNat, by omega⟩ : Fin 13).val : Nat) : Int) = n by show ((n.toNat : Nat) : Int) = n; omega] at h
 exact h
theorem Rtt {n : Nat} (h1 : 1 ≤ n) (h2 : n ≤ 12) : 1 ≤ levN n := by
 have := (Rxv h2); omega
theorem Raad {e a b : Exp} (h1 : 1 ≤ e.op) (hn : e.n = 0) (h : e.args = [a, b]) : (⟨((e.op.toNat : Nat) : Int), 0, [a, b]⟩ : Exp) = e := by
 apply Rvg
 ·show ((e.op.toNat : Nat) : Int) = e.op; omega
 ·exact hn.symm
 ·exact h.symm
theorem back : ∀ (d : Nat) (e : Exp), Raq d e = true →
  (∀ k, 1 ≤ k → k ≤ 8 → k ≤ lvE e → ∀ v o, nlev v < k + 1 → P (.loop k e) v o → P (.lev k) (eT d e ++ v) o) ∧ (lvE e = 9 → ∀ v, P .opd (eT d e ++ v) (some (e, v)))
 | 0, e, h => by cases h
 | d + 1, e, h => by
  have leaf : (∀ v, P .opd (eT (d + 1) e ++ v) (some (e, v))) → (∀ k, 1 ≤ k → k ≤ 8 → k ≤ lvE e → ∀ v o, nlev v < k + 1 → P (.loop k e) v o → P (.lev k) (eT (d + 1) e ++ v) o) ∧ (lvE e = 9 → ∀ v, P .opd (eT (d + 1) e ++ v) (some (e, v))) := by
   intro hp
   exact ⟨fun k k1 k8 _ v o hn hl => P_opd (hp v) k8 hn hl, fun _ => hp⟩
  rcases Rdl h with h | h | ⟨h1, h2, hn0, a, b, hab, ha, hb⟩
  ·apply leaf
   intro v
   obtain ⟨_, h5, h6, _⟩ := Rwk h.2.2.1 h.2.2.2
   rw [Ruk h.1]
   have : e = ⟨0, e.n, []⟩ := Rvg h.1 rfl h.2.1
   rw [this]
   exact .atom h6 h5
  ·apply leaf
   intro v
   obtain ⟨_, h5, h6⟩ := Rabq h.2.2.1 h.2.2.2
   rw [Rul h.1]
   have : e = ⟨13, e.n, []⟩ := Rvg h.1 rfl h.2.1
   rw [this]
   exact .atom h6 h5
  ·have hlv : lvE e = levN e.op.toNat := by unfold lvE; rw [if_neg (by rw [hab]; simp)]
   have l8 := Rlr e.op.toNat
   have l1 := Rtt (n := e.op.toNat) (by omega) (by omega)
   obtain ⟨ca, oa⟩ := back d a ha
   obtain ⟨cb, ob⟩ := back d b hb
   have par : ∀ (x : Exp), (∀ k, 1 ≤ k → k ≤ 8 → k ≤ lvE x → ∀ v o, nlev v < k + 1 → P (.loop k x) v o → P (.lev k) (eT d x ++ v) o) → 1 ≤ lvE x → ∀ v, P .opd (lp :: eT d x ++ [rp] ++ v) (some (x, v)) := by
    intro x cx hx v
    have := cx 1 (Nat.le_refl 1) (by omega) hx (rp :: v) (some (x, rp :: v)) (by show levN (opN rp) < 2; decide) (.stop (by show levN (opN rp) ≠ 1; decide))
    have h2 : P .opd (lp :: (eT d x ++ rp :: v)) (some (x, v)) := .par this
    rw [show lp :: eT d x ++ [rp] ++ v = lp :: (eT d x ++ rp :: v) by simp]
    exact h2
   have lvE_pos : ∀ {x : Exp}, Raq d x = true → 1 ≤ lvE x ∧ lvE x ≤ 9 := by
    intro x hx
    cases d with
    | zero => cases hx
    | succ d =>
     unfold lvE
     rcases Rdl hx with h | h | ⟨g1, g2, _, p, q, hpq, _, _⟩
     ·rw [if_pos h.2.1]; omega
     ·rw [if_pos h.2.1]; omega
     ·rw [if_neg (by rw [hpq]; simp)]
      have := Rlr x.op.toNat
      have := Rtt (n := x.op.toNat) (by omega) (by omega)
      omega
   have opdA : ∀ (x : Exp), Raq d x = true → (∀ k, 1 ≤ k → k ≤ 8 → k ≤ lvE x → ∀ v o, nlev v < k + 1 → P (.loop k x) v o → P (.lev k) (eT d x ++ v) o) → ∀ (k : Nat), 1 ≤ k → k ≤ 8 → ∀ v o, nlev v < k + 1 → P (.loop k x) v o → P (.lev k) (wrp (eT d x) (decide (lvE x < k)) ++ v) o := by
    intro x hx cx k k1 k8 v o hn hl
    by_cases hc : lvE x < k
    ·rw [Zp hc]
     exact P_opd (par x cx (lvE_pos hx).1 v) k8 hn hl
    ·rw [Zq hc]
     exact cx k k1 k8 (by omega) v o hn hl
   have opdB : ∀ v, nlev v < levN e.op.toNat + 1 → P (.lev (levN e.op.toNat + 1)) (wrp (eT d b) (decide (lvE b ≤ levN e.op.toNat)) ++ v) (some (b, v)) := by
    intro v hn
    by_cases hc : lvE b ≤ levN e.op.toNat
    ·rw [Zp hc]
     exact Rabb (par b cb (lvE_pos hb).1 v) (by omega) hn
    ·rw [Zq hc]
     by_cases h9 : levN e.op.toNat = 8
     ·have hb9 : lvE b = 9 := by have := (lvE_pos hb).2; omega
      exact Rabb (ob hb9 v) (by omega) hn
     ·exact cb (levN e.op.toNat + 1) (by omega) (by omega) (by omega) v _ (by omega) (.stop (by omega))
   have top : ∀ v o, nlev v < levN e.op.toNat + 1 → P (.loop (levN e.op.toNat) e) v o → P (.lev (levN e.op.toNat)) (eT (d + 1) e ++ v) o := by
    intro v o hn hl
    rw [Rql h1 h2 hab, List.append_assoc, List.append_assoc]
    have hop : opN (opT e.op) = e.op.toNat := opN_opT h1 h2
    refine opdA a ha ca _ l1 l8 _ _ ?_ ?_
    ·show levN (opN (opT e.op)) < _
     rw [hop]; omega
    ·refine .step (by rw [hop]) (opdB v hn) ?_
     rw [hop, Raad h1 hn0 hab]
     exact hl
   have all : ∀ (i k : Nat), k + i = levN e.op.toNat → 1 ≤ k → ∀ v o, nlev v < k + 1 → P (.loop k e) v o → P (.lev k) (eT (d + 1) e ++ v) o := by
    intro i
    induction i with
    | zero =>
     intro k hk k1 v o hn hl
     have : k = levN e.op.toNat := by omega
     subst this
     exact top v o hn hl
    | succ i ih =>
     intro k hk k1 v o hn hl
     have := ih (k + 1) (by omega) (by omega) v (some (e, v)) (by omega) (.stop (by omega))
     exact .levS (by omega) this hl
   refine ⟨fun k k1 k8 kl v o hn hl => all (levN e.op.toNat - k) k (by omega) k1 v o hn hl, fun h9 => ?_⟩
   omega
theorem lvE_ge {d : Nat} {x : Exp} (hx : Raq d x = true) : 1 ≤ lvE x ∧ lvE x ≤ 9 := by
 cases d with
 | zero => cases hx
 | succ d =>
  unfold lvE
  rcases Rdl hx with h | h | ⟨g1, g2, _, p, q, hpq, _, _⟩
  ·rw [if_pos h.2.1]; omega
  ·rw [if_pos h.2.1]; omega
  ·rw [if_neg (by rw [hpq]; simp)]
   have := Rlr x.op.toNat
   have := Rtt (n := x.op.toNat) (by omega) (by omega)
   omega
theorem Raac {d : Nat} {e : Exp} (h : Raq d e = true) : P (.lev 1) (eT d e) (some (e, [])) := by
 have := (back d e h).1 1 (Nat.le_refl 1) (by omega) (lvE_ge h).1 [] (some (e, [])) (by show 0 < 2; omega) (.stop (by show 0 ≠ 1; omega))
 rwa [List.append_nil] at this
theorem of_ok {b : List Int} {p m : Int} {l : List (List UInt8)} (h : Rd b p m) (hm : m ≤ 999999990) (h1 : 1 ≤ l.length) (h2 : l.length ≤ 1000) : Ok (Riu l b p) fun r => Rd r.2.1 r.2.2 (m + 1) ∧ r.1 ∈ l := by
 apply Ok.le (Rri l b p)
 refine Ok.bnd (Rar h (by omega) (by unfold wfI; omega)) fun r1 h1' => ?_
 refine Ok.bnd (Rkk h1'.2 (by omega) rfl) fun e he => ?_
 exact Ok.of ⟨h1'.1, he⟩
def xs : Nat → Nat
 | 0 => 0
 | d + 1 => 2 + 2 * xs d
theorem Rto (a b : Exp) : emXs [a, b] = 2 + emX a + emX b := by simp [emXs]; omega
theorem Rsr {b : List Int} {p m : Int} (h : Rd b p m) (hm : m ≤ 999999990) : Ok (Rfl b p) fun r => emXs r.2.2.1.2 = 0 := by
 apply Ok.le (Rkq b p)
 refine Ok.bnd (Rar h (by omega) (by decide)) fun r1 h1 => ?_
 refine Ok.bif (fun _ => ?_) (fun _ => ?_)
 ·refine Ok.bnd (Rar h1.1 (by omega) (by decide)) fun r2 h2 => ?_
  rw [Rdg, Qb]
  exact Ok.of rfl
 refine Ok.bif (fun _ => ?_) (fun _ => ?_)
 ·refine Ok.bnd (Rar h1.1 (by omega) (by decide)) fun r2 h2 => ?_
  refine Ok.bnd (Rkk h2.2 (by omega) rfl) fun e he => ?_
  rw [Rdg, Qb]
  exact Ok.of rfl
 ·refine Ok.bnd (Rar h1.1 (by omega) (by decide)) fun r2 h2 => ?_
  rw [Rdg, Qb]
  exact Ok.of rfl
theorem Roc : ∀ (d : Nat) {b : List Int} {p m : Int} (n : Int), n = (d : Int) + 1 → d ≤ 10 → Rd b p m → m + cost d ≤ 999999990 →
  Ok (Ras n b p) fun r => emXs r.2.2.1.2 ≤ xs d
 | d, b, p, m, n, hn, hd, h, hm => by
  apply Ok.le (Rkp n b p)
  have hc := Rmd d
  refine Ok.bif (fun hb => ?_) (fun hb => ?_)
  ·refine Ok.bnd (Rsr h (by omega)) fun r1 h1 => ?_
   exact Ok.of (by dsimp only; omega)
  ·simp only [decide_eq_false_iff_not] at hb
   obtain ⟨d, rfl⟩ : ∃ d', d = d' + 1 := ⟨d - 1, by omega⟩
   have hc' := Rmd d
   simp only [cost] at hm ⊢
   refine Ok.bnd (Rar h (by omega) (by decide)) fun r1 h1 => ?_
   refine Ok.bif (fun _ => ?_) (fun _ => ?_)
   ·refine Ok.bnd (Rsr h1.1 (by omega)) fun r2 h2 => ?_
    exact Ok.of (by dsimp only; omega)
   ·refine Ok.bnd (Rwh h1.1 (by omega)) fun r2 h2 => ?_
    rw [wrap_id (n := n - 1) (by omega) (by omega)]
    refine Ok.bnd ((Rjf d (n - 1) (by omega) (by omega) h2.1 (by omega)).and (Roc d (n - 1) (by omega) (by omega) h2.1 (by omega))) fun r3 h3 => ?_
    refine Ok.bnd ((Rjf d (n - 1) (by omega) (by omega) h3.1.1 (by omega)).and (Roc d (n - 1) (by omega) (by omega) h3.1.1 (by omega))) fun r4 h4 => ?_
    rw [Rje, Qb]
    refine Ok.of ?_
    have e3 := h3.2
    have e4 := h4.2
    simp only [Rto, Rme, xs]
    omega
theorem Rtq {b : List Int} {p m : Int} (n : Int) (h1 : 1 ≤ n) (h2 : n ≤ 4) (h : Rd b p m) (hm : m ≤ 999999000) : Ok (Ras n b p) fun r => Rd r.2.2.2.1 r.2.2.2.2 (m + 30) ∧ emXs r.2.2.1.2 ≤ 14 := by
 have hc : ∀ d : Nat, d ≤ 3 → cost d ≤ 30 ∧ xs d ≤ 14 := by
  intro d hd
  match d, hd with
  | 0, _ => decide
  | 1, _ => decide
  | 2, _ => decide
  | 3, _ => decide
 obtain ⟨c1, c2⟩ := hc (n - 1).toNat (by omega)
 exact ((Rjf (n - 1).toNat n (by omega) (by omega) h (by omega)).and (Roc (n - 1).toNat n (by omega) (by omega) h (by omega))).mono fun r hr => ⟨hr.1.1.mono (by omega), by have := hr.2; omega⟩
theorem Rjg : ∀ a b : List Stm, mSs (a ++ b) = mSs a + mSs b
 | [], b => by simp [mSs]
 | s :: a, b => by simp only [List.cons_append, mSs, Rjg a b]; omega
theorem Rof (k v x o n : Int) (as : List Exp) (bd el : List Stm) : mS ⟨k, v, x, ⟨o, n, as⟩, bd, el⟩ = emXs as + mSs bd + mSs el := by simp [Rtu, Rme]
def cs : Nat → Int
 | 0 => 40
 | k + 1 => 60 + 4 * cs k
def ms : Nat → Nat
 | 0 => 15
 | k + 1 => 30 + 4 * ms k
theorem Rui : ∀ k, 40 ≤ cs k
 | 0 => by simp [cs]
 | k + 1 => by have := Rui k; simp only [cs]; omega
theorem Rxx : ∀ k, 15 ≤ ms k
 | 0 => by simp [ms]
 | k + 1 => by have := Rxx k; simp only [ms]; omega
theorem Rqx {b : List Int} {p m : Int} (h : Rd b p m) (hm : m ≤ 999998000) : Ok (Ril b p) fun r => Rd r.2.1 r.2.2 (m + 32) ∧ mS r.1 ≤ 14 := by
 apply Ok.le (Rsk b p)
 refine Ok.bnd (Rar h (by omega) (by decide)) fun r1 h1 => ?_
 refine Ok.bnd (Rar h1.1 (by omega) (by decide)) fun r2 h2 => ?_
 have hk := h2.2.2.1 (by omega)
 rw [wrap_id (n := 1 + r2.1) (by omega) (by omega)]
 refine Ok.bnd (Rtq _ (by omega) (by omega) h2.1 (by omega)) fun r3 h3 => ?_
 refine Ok.of ⟨h3.1.mono (by omega), ?_⟩
 rw [Rof]; have := h3.2; simp only [mSs]; omega
theorem Rod {b : List Int} {p m : Int} (n : Int) (hn : n ≤ 1000) (h : Rd b p m) (hm : m ≤ 999998000) : Ok (Rgx n b p) fun r => Rd r.2.1 r.2.2 (m + 35) ∧ mS r.1 ≤ 14 := by
 apply Ok.le (Rrl n b p)
 refine Ok.bif (fun _ => ?_) (fun hb => ?_)
 ·refine Ok.bnd (Rqx h hm) fun r1 h1 => ?_
  refine Ok.of ⟨h1.1.mono (by omega), ?_⟩
  have := h1.2
  rw [Rof]; rw [Rtu, Rme] at this; exact this
 simp only [decide_eq_false_iff_not] at hb
 refine Ok.bnd (Rar h (by omega) (by unfold wfI; omega)) fun r2 h2 => ?_
 refine Ok.bnd (Rar h2.1 (by omega) (by decide)) fun r3 h3 => ?_
 refine Ok.bif (fun _ => ?_) (fun _ => ?_)
 ·refine Ok.bnd (Rar h3.1 (by omega) (by decide)) fun r4 h4 => ?_
  have hk := h4.2.2.1 (by omega)
  rw [wrap_id (n := 1 + r4.1) (by omega) (by omega)]
  refine Ok.bnd (Rtq _ (by omega) (by omega) h4.1 (by omega)) fun r5 h5 => ?_
  refine Ok.of ⟨h5.1.mono (by omega), ?_⟩
  rw [Rof]; have := h5.2; simp only [mSs]; omega
 ·refine Ok.bnd (Rar h3.1 (by omega) (by decide)) fun r6 h6 => ?_
  refine Ok.of ⟨h6.1.mono (by omega), ?_⟩
  rw [Rof]; simp [mSs, emXs]
def Rtg (k : Nat) : Prop := ∀ {b : List Int} {p m : Int} (a n : Int) (lo : Bool), a ≤ 1000 → n ≤ 2 → Rd b p m → m + 2 * cs k ≤ 999990000 → Ok (Rcx a k n lo b p) fun r => Rd r.2.1 r.2.2 (m + 2 * cs k) ∧ mSs r.1 ≤ 2 * ms k
def Rvo (k : Nat) : Prop := ∀ {b : List Int} {p m : Int} (a : Int) (lo : Bool), a ≤ 1000 → Rd b p m → m + cs k ≤ 999990000 → Ok (Rks a k lo b p) fun r => Rd r.2.1 r.2.2 (m + cs k) ∧ mSs r.1 ≤ ms k
theorem Rvq {k : Nat} (hs : Rvo k) {a n : Int} {lo : Bool} (ha : a ≤ 1000) : ∀ (d : Nat) (i : Int) (f : Bool) (l : List Stm) {b : List Int} {p m : Int}, (n ≤ i + d) → 0 ≤ i → i ≤ 100 - d → mSs l + d * ms k ≤ 1000000000 → d ≤ 100 → Rd b p m → m + d * cs k ≤ 999990000 →
  Ok (Rew a k n lo f l i b p) fun r => Rd r.2.1 r.2.2 (m + d * cs k) ∧ mSs r.1.2 ≤ mSs l + d * ms k
 | 0, i, f, l, b, p, m, hd, h0, hi1, hl, hdd, h, hm => by
  apply Ok.le (Rih _ _ _ _ _ _ _ _ _)
  have : ¬ (i < n) := by omega
  simp only [this, Zz, Zf]
  exact Ok.of ⟨h.mono (by omega), by simp⟩
 | d + 1, i, f, l, b, p, m, hd, h0, hi1, hl, hdd, h, hm => by
  apply Ok.le (Rih _ _ _ _ _ _ _ _ _)
  have hc := Rui k
  have e1 : ((d + 1 : Nat) : Int) * cs k = d * cs k + cs k := by rw [Int.natCast_add, Int.add_mul]; omega
  have e2 : (d + 1) * ms k = d * ms k + ms k := by rw [Nat.add_mul]; omega
  have e3 : 0 ≤ (d : Int) * cs k := Int.mul_nonneg (by omega) (by omega)
  rw [e1] at hm ⊢
  rw [e2] at hl ⊢
  refine Ok.bif (fun hb => ?_) (fun hb => ?_)
  ·simp only [Ze] at hb
   refine Ok.bnd (hs a lo ha h (by omega)) fun r1 h1 => ?_
   have hl1 := Rfc l
   have hl2 := Rfc r1.1
   have h12 := h1.2
   rw [Ro (by omega), Qb, wrap_id (n := i + 1) (by omega) (by omega)]
   have ea := Rjg l r1.1
   exact (Rvq hs ha d (i + 1) true _ (by omega) (by omega) (by omega) (by omega) (by omega) h1.1 (by omega)).mono fun r hr => ⟨hr.1.mono (by omega), by have := hr.2; omega⟩
  ·exact Ok.of ⟨h.mono (by omega), by show mSs l ≤ _; omega⟩
theorem Rlg {k : Nat} (hs : Rvo k) (d : Nat) (hd : d ≤ 10) (hms : ms k ≤ 10000000) {b : List Int} {p m : Int} (a n : Int) (lo : Bool) (ha : a ≤ 1000) (hn : n ≤ d) (h : Rd b p m) (hm : m + d * cs k ≤ 999990000) : Ok (Rcx a k n lo b p) fun r => Rd r.2.1 r.2.2 (m + d * cs k) ∧ mSs r.1 ≤ d * ms k := by
 apply Ok.le (Rpz _ _ _ _ _ _)
 have hk : d * ms k ≤ 10 * 10000000 := Nat.mul_le_mul hd hms
 refine Ok.bnd (Rvq hs ha d 0 true [] (by omega) (by omega) (by omega) (by simp [mSs]; omega) (by omega) h hm) fun r hr => ?_
 exact Ok.of ⟨hr.1, by have := hr.2; simp only [mSs] at this; dsimp only; omega⟩
theorem Raak {k : Nat} (hb : Rtg k) {b : List Int} {p m : Int} (a : Int) (lo : Bool) (ha : a ≤ 1000) (hk : k ≤ 10) (h : Rd b p m) (hm : m + cs (k + 1) ≤ 999990010) : Ok (Roq a ((k + 1 : Nat) : Int) lo b p) fun r => Rd r.2.1 r.2.2 (m + (cs (k + 1) - 10)) ∧ mS r.1 + 1 ≤ ms (k + 1) := by
 apply Ok.le (Rua _ _ _ _ _)
 have hc := Rui k
 simp only [cs, ms] at hm ⊢
 refine Ok.bnd (Rar h (by omega) (by decide)) fun r1 h1 => ?_
 have hk1 := h1.2.2.1 (by omega)
 rw [wrap_id (n := 1 + r1.1) (by omega) (by omega), wrap_id (n := ((k + 1 : Nat) : Int) - 1) (by omega) (by omega), show ((k + 1 : Nat) : Int) - 1 = (k : Int) by omega]
 refine Ok.bnd (Rtq _ (by omega) (by omega) h1.1 (by omega)) fun r2 h2 => ?_
 refine Ok.bnd (Rar h2.1 (by omega) (by decide)) fun r3 h3 => ?_
 have hk3 := h3.2.2.1 (by omega)
 refine Ok.bnd (hb a _ lo ha (by omega) h3.1 (by omega)) fun r4 h4 => ?_
 refine Ok.bnd (Rar h4.1 (by omega) (by decide)) fun r5 h5 => ?_
 have hk5 := h5.2.2.1 (by omega)
 refine Ok.bnd (hb a _ lo ha (by omega) h5.1 (by omega)) fun r6 h6 => ?_
 refine Ok.of ⟨h6.1.mono (by omega), ?_⟩
 have q2 := h2.2
 have q4 := h4.2
 have q6 := h6.2
 rw [Rof]; omega
theorem Rwx {k : Nat} (hb : Rtg k) {b : List Int} {p m : Int} (a : Int) (ha : a ≤ 1000) (hk : k ≤ 10) (hms : ms k ≤ 10000000) (h : Rd b p m) (hm : m + cs (k + 1) ≤ 999990010) : Ok (Rkr a ((k + 1 : Nat) : Int) b p) fun r => Rd r.2.1 r.2.2 (m + (cs (k + 1) - 10)) ∧ mSs r.1 ≤ ms (k + 1) := by
 apply Ok.le (Rrj _ _ _ _)
 have hc := Rui k
 have hp := Rxx k
 simp only [cs, ms] at hm ⊢
 refine Ok.bnd (Rar h (by omega) (by decide)) fun r1 h1 => ?_
 have hk1 := h1.2.2.1 (by omega)
 rw [wrap_id (n := ((k + 1 : Nat) : Int) - 1) (by omega) (by omega), show ((k + 1 : Nat) : Int) - 1 = (k : Int) by omega]
 refine Ok.bnd (hb a _ false ha (by omega) h1.1 (by omega)) fun r2 h2 => ?_
 rw [Rdg, Qb, Rdg, Qb, Rje, Qb, Qb]
 refine Ok.bnd (Rar h2.1 (by omega) (by decide)) fun r7 h7 => ?_
 have hk7 := h7.2.2.1 (by omega)
 have hl2 := Rfc r2.1
 have q2 := h2.2
 rw [wrap_id (n := 1 + r7.1) (by omega) (by omega), Rdg, Qb, Rje, Qb, Ro (by simp; omega), Qb, Rdg, Qb]
 refine Ok.of ⟨h7.1.mono (by omega), ?_⟩
 simp only [mSs, Rof, Rjg, Rto, Rme, emXs]
 omega
theorem Rzn (k : Nat) (hk : k ≤ 4) (hms : ms k ≤ 10000000) (hb : ∀ k', k = k' + 1 → Rtg k') : Rvo k := by
 intro b p m a lo ha h hm
 apply Ok.le (Rrk _ _ _ _ _)
 have hc := Rui k
 have hp := Rxx k
 have pr : ∀ {b : List Int} {p m' : Int}, Rd b p m' → m' ≤ m + 1 → Ok (Vs.bnd (Rb 3 b p) fun r5 => Vs.bnd (Ras (wrap64 (1 + r5.1)) r5.2.1 r5.2.2) fun r6 => some (([⟨7, 0, 0, ⟨r6.1, r6.2.1, r6.2.2.1.2⟩, [], []⟩] : List Stm), r6.2.2.2.1, r6.2.2.2.2)) fun r => Rd r.2.1 r.2.2 (m + cs k) ∧ mSs r.1 ≤ ms k := by
  intro b p m' h' hm'
  refine Ok.bnd (Rar h' (by omega) (by decide)) fun r5 h5 => ?_
  have hk5 := h5.2.2.1 (by omega)
  rw [wrap_id (n := 1 + r5.1) (by omega) (by omega)]
  refine Ok.bnd (Rtq _ (by omega) (by omega) h5.1 (by omega)) fun r6 h6 => ?_
  refine Ok.of ⟨h6.1.mono (by omega), ?_⟩
  have := h6.2
  simp only [mSs, Rof]; omega
 have one : ∀ {s : Stm}, mS s ≤ 14 → mSs [(⟨s.kind, s.var, s.box, ⟨s.e.op, s.e.n, s.e.args⟩, s.body, s.els⟩ : Stm)] ≤ ms k := by
  intro s hs
  rw [Rtu, Rme] at hs
  simp only [mSs, Rof]; omega
 refine Ok.bnd (Rar h (by omega) (by decide)) fun r1 h1 => ?_
 refine Ok.bif (fun _ => ?_) (fun _ => ?_)
 ·exact Ok.bnd (Rqx h1.1 (by omega)) fun r2 h2 => Ok.of ⟨h2.1.mono (by omega), one h2.2⟩
 refine Ok.bif (fun _ => ?_) (fun _ => ?_)
 ·exact Ok.bnd (Rqx h1.1 (by omega)) fun r2 h2 => Ok.of ⟨h2.1.mono (by omega), one h2.2⟩
 refine Ok.bif (fun _ => ?_) (fun _ => ?_)
 ·refine Ok.bif (fun h0 => ?_) (fun _ => pr h1.1 (by omega))
  simp only [Ze] at h0
  obtain ⟨k', rfl⟩ : ∃ k', k = k' + 1 := ⟨k - 1, by omega⟩
  refine Ok.bnd (Raak (hb k' rfl) a lo ha (by omega) h1.1 (by omega)) fun r4 h4 => ?_
  refine Ok.of ⟨h4.1.mono (by omega), ?_⟩
  have := h4.2
  rw [Rtu, Rme] at this
  simp only [mSs, Rof]; omega
 refine Ok.bif (fun _ => ?_) (fun _ => ?_)
 ·refine Ok.bif (fun h0 => ?_) (fun _ => pr h1.1 (by omega))
  refine Ok.bif (fun _ => ?_) (fun _ => pr h1.1 (by omega))
  simp only [Ze] at h0
  obtain ⟨k', rfl⟩ : ∃ k', k = k' + 1 := ⟨k - 1, by omega⟩
  refine Ok.bnd (Rwx (hb k' rfl) a ha (by omega) (by simp only [ms] at hms; omega) h1.1 (by omega)) fun r4 h4 => ?_
  exact Ok.of ⟨h4.1.mono (by omega), h4.2⟩
 refine Ok.bif (fun _ => ?_) (fun _ => ?_)
 ·exact Ok.bnd (Rod a ha h1.1 (by omega)) fun r2 h2 => Ok.of ⟨h2.1.mono (by omega), one h2.2⟩
 refine Ok.bif (fun _ => ?_) (fun _ => ?_)
 ·exact Ok.bnd (Rod a ha h1.1 (by omega)) fun r2 h2 => Ok.of ⟨h2.1.mono (by omega), one h2.2⟩
 refine Ok.bif (fun _ => ?_) (fun _ => ?_)
 ·exact Ok.bnd (Rod a ha h1.1 (by omega)) fun r2 h2 => Ok.of ⟨h2.1.mono (by omega), one h2.2⟩
 refine Ok.bif (fun _ => ?_) (fun _ => pr h1.1 (by omega))
 exact Ok.of ⟨h1.1.mono (by omega), by simp only [mSs, Rof, emXs]; omega⟩
theorem Rqe : ∀ k, k ≤ 3 → ms k ≤ 10000000 ∧ cs k ≤ 100000 := by
 intro k hk
 match k, hk with
 | 0, _ => decide
 | 1, _ => decide
 | 2, _ => decide
 | 3, _ => decide
theorem Rub : ∀ k, k ≤ 3 → Rvo k
 | 0, _ => Rzn 0 (by omega) (Rqe 0 (by omega)).1 (fun k' h => by omega)
 | k + 1, hk => Rzn (k + 1) (by omega) (Rqe (k + 1) hk).1 (fun k' h => by
  obtain rfl : k = k' := by omega
  intro b p m a n lo ha hn h hm
  exact Rlg (Rub k (by omega)) 2 (by omega) (Rqe k (by omega)).1 a n lo ha hn h hm)
theorem Rxg {k : Nat} (hk : k ≤ 3) : Rtg k := fun a n lo ha hn h hm => Rlg (Rub k hk) 2 (by omega) (Rqe k hk).1 a n lo ha hn h hm
theorem Rts {b : List Int} {p m : Int} (h : Rd b p m) (hm : m ≤ 999800000) : Ok (Rii b p) fun r => Rd r.2.1 r.2.2 (m + 1000) ∧ mS r.1 ≤ 1000 := by
 apply Ok.le (Rnj _ _)
 rw [Rdg, Qb]
 refine Ok.bnd (Rar h (by omega) (by decide)) fun r2 h2 => ?_
 have hk := h2.2.2.1 (by omega)
 have hc : cs 1 = 220 := by decide
 have hms : ms 1 = 90 := by decide
 have := Rxg (k := 1) (by omega) 0 r2.1 false (by omega) (by omega) h2.1 (by omega)
 refine Ok.bnd this fun r3 h3 => ?_
 refine Ok.of ⟨h3.1.mono (by omega), ?_⟩
 have := h3.2
 rw [Rof]; simp only [mSs, emXs]; omega
theorem Raam (l : List Stm) (i : Nat) : mSs (l.take i) ≤ mSs l := by
 have := Rjg (l.take i) (l.drop i)
 rw [List.take_append_drop] at this; omega
theorem Raaw (s : Stm) : (⟨s.kind, s.var, s.box, s.e, s.body, s.els⟩ : Stm) = s := by cases s; rfl
theorem Rtd {l : List Exp} {o n : Int} (hl : (l.length : Int) ≤ 4294967296) (hp : ∀ e ∈ l, Rcq e e = some true) : ∀ (d i : Nat), i + d = l.length → Rdr i o n l o n l = some (.inl ())
 | 0, i, hd => by
  apply Rhx
  have hi : ¬ ((i : Int) < l.length) := by omega
  simp [hi]
 | d + 1, i, hd => by
  apply Rhx
  have hi : i < l.length := by omega
  have hi' : (i : Int) < l.length := by omega
  simp only [hi', Zy, Zt, Rbi hi, Qb, Rs, hp _ (List.getElem_mem hi), Zv, Zf, Rdk (show (i : Int) < 9223372036854775807 by omega)]
  exact Rtd hl hp d (i + 1) (by omega)
theorem Rmr : ∀ e : Exp, emX e ≤ 4294967296 → Rcq e e = some true := by
 apply Exp.ind
 intro e ih hm
 apply Rpm
 rw [Rme] at hm
 have hl := Rwb e.args
 have h : Rdr 0 e.op e.n e.args e.op e.n e.args = some (.inl ()) := Rtd (l := e.args) (by omega) (fun a ha => ih a ha (by have := Rxk ha; omega)) e.args.length 0 (by omega)
 simp [h, selm]
theorem Rrb {l : List Stm} (hl : (l.length : Int) ≤ 4294967296) (hp : ∀ s ∈ l, Ram s.body s.body = some true ∧ Ram s.els s.els = some true ∧ Rcq s.e s.e = some true) : ∀ (d i : Nat), i + d = l.length → Rdh l l i = some (.inl ())
 | 0, i, hd => by
  apply Rhf
  have hi : ¬ ((i : Int) < l.length) := by omega
  simp [hi]
 | d + 1, i, hd => by
  apply Rhf
  have hi : i < l.length := by omega
  have hi' : (i : Int) < l.length := by omega
  obtain ⟨h1, h2, h3⟩ := hp _ (List.getElem_mem hi)
  simp only [hi', Zy, Zt, Rbi hi, Qb, Rs, h1, h2, h3, Zv, Zf, Rdk (show (i : Int) < 9223372036854775807 by omega)]
  exact Rrb hl hp d (i + 1) (by omega)
theorem Rge {l : List Stm} (hl : (l.length : Int) ≤ 4294967296) (hp : ∀ s ∈ l, Ram s.body s.body = some true ∧ Ram s.els s.els = some true ∧ Rcq s.e s.e = some true) : Ram l l = some true := by
 apply Roe
 have h : Rdh l l 0 = some (.inl ()) := Rrb hl hp l.length 0 (by omega)
 simp [h, selm]
theorem Rky : ∀ s : Stm, mS s ≤ 4294967296 → Ram s.body s.body = some true ∧ Ram s.els s.els = some true ∧ Rcq s.e s.e = some true := by
 apply Stm.ind
 intro s ih1 ih2 hm
 rw [Rtu] at hm
 have l1 := Rfc s.body
 have l2 := Rfc s.els
 exact ⟨Rge (by omega) (fun a ha => ih1 a ha (by have := Rki ha; omega)), Rge (by omega) (fun a ha => ih2 a ha (by have := Rki ha; omega)), Rmr _ (by omega)⟩
end Go.TFnSourceFrom
