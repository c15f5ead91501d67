/- The plain law: what the functions answer. -/
import Derived.Test.YthmemaednlaanaaGreatDoorDFnSourceBackE0
import Derived.Test.YthmemaednlaanaaGreatDoorDFnSourceBackE1
import Derived.Test.YthmemaednlaanaaGreatDoorDFnSourceBackE2
import Derived.Test.YthmemaednlaanaaGreatDoorLkA
import Derived.Lib.ItoaLen
import Derived.Test.YthmemaednlaanaaGreatDoorLkU
set_option linter.unusedVariables false
set_option linter.unusedSimpArgs false
namespace Go.TFnSourceBack
open Go Go.RowKit Go.Vs Go.Tv
theorem Rdy (a b c : Int) : Reg a b c = some (decide (b ≤ a ∧ a ≤ c)) := by
 apply Rsk
 by_cases h : b ≤ a <;> simp [h]
theorem Rgn (a : Int) : Rff a = some (decide (1 ≤ a ∧ a ≤ 12)) := by
 apply Rpd; simp [Rdy]
theorem Rge (a : Int) : Rey a = some (decide (1 ≤ a ∧ a ≤ 12)) := by
 apply Roq
 by_cases h : 1 ≤ a <;> simp [h]
def Rd (b : List Int) (p m : Int) : Prop := (∀ x ∈ b, 0 ≤ x ∧ x ≤ 255) ∧ (b.length : Int) ≤ 2000 ∧ 0 ≤ p ∧ p ≤ m
theorem Rd.mono {b : List Int} {p m n : Int} (h : Rd b p m) (hm : m ≤ n) : Rd b p n := ⟨h.1, h.2.1, h.2.2.1, by have := h.2.2.2; omega⟩
theorem open_ok {a : List Int} (h : wfBs a) : Ok (Rkh a) fun r => Rd r.1 r.2 0 := by
 apply Ok.le (Rqc a)
 refine Ok.bif (fun hb => ?_) (fun hb => ?_)
 ·simp only [Ze] at hb
  have : cutL a 0 2000 = some (a.take 2000) := by
   unfold cutL
   rw [if_pos (by omega)]
   simp
  rw [this]
  refine Ok.of ⟨fun x hx => h x (List.mem_of_mem_take hx), ?_, by omega, by omega⟩
  simp only [List.length_take]; omega
 ·simp only [decide_eq_false_iff_not] at hb
  exact Ok.of ⟨h, (by show (a.length : Int) ≤ 2000; omega), by omega, by omega⟩
theorem Rwr {b : List Int} (h : ∀ x ∈ b, 0 ≤ x ∧ x ≤ 255) {n : Int} (h0 : 0 ≤ n) (h1 : n < b.length) : Ok (geti b n) fun x => 0 ≤ x ∧ x ≤ 255 :=
 (Ok.geti h0 h1).mono fun x hx => h x hx.1
theorem Raf {b : List Int} {p m n : Int} (h : Rd b p m) (hm : m ≤ 1000000000) (hn : wfI n) :
  Ok (Ra n b p) fun r => Rd r.2.1 r.2.2 (m + 1) ∧ 0 ≤ r.1 ∧ (1 ≤ n → r.1 < n) ∧ (n < 1 → r.1 = 0) := by
 obtain ⟨h1, h2, h3, h4⟩ := h
 obtain ⟨n1, n2⟩ := hn
 apply Ok.le (Rms n b p)
 have e1 : wrap64 (p + 1) = p + 1 := wrap_id (by omega) (by omega)
 have e2 : wrap64 (p + 1 - 1) = p := by rw [show p + 1 - 1 = p by omega]; exact wrap_id (by omega) (by omega)
 rw [e1, e2]
 have hR : Rd b (p + 1) (m + 1) := ⟨h1, h2, by omega, by omega⟩
 refine Ok.bif (fun hb => ?_) (fun hb => ?_)
 ·simp only [Ze] at hb
  exact Ok.of ⟨hR, by omega, by omega, by omega⟩
 simp only [decide_eq_false_iff_not] at hb
 refine Ok.bif (fun hc => ?_) (fun hc => ?_)
 ·exact Ok.of ⟨hR, by omega, by omega, by omega⟩
 simp only [decide_eq_false_iff_not] at hc
 refine Ok.bif (fun hd => ?_) (fun hd => ?_)
 ·simp only [Ze] at hd
  refine Ok.bnd (Rwr h1 h3 hd) fun x hx => ?_
  rw [wrap_id (by omega) (by omega), remI_pos (by omega)]
  have := tmod_range (y := n) hx.1 (by omega)
  exact Ok.of ⟨hR, this.1, fun _ => this.2, by omega⟩
 ·simp only [decide_eq_false_iff_not] at hd
  have hl : 0 < (b.length : Int) := by omega
  rw [remI_pos (by omega), Qb]
  have t1 := tmod_range (x := p) h3 hl
  refine Ok.bnd (Rwr h1 t1.1 t1.2) fun x hx => ?_
  have e3 : wrap64 (p * 7) = p * 7 := wrap_id (by omega) (by omega)
  have e4 : wrap64 (p * 7 + 3) = p * 7 + 3 := wrap_id (by omega) (by omega)
  rw [e3, e4, remI_pos (by omega), Qb]
  have t2 := tmod_range (x := p * 7 + 3) (by omega) hl
  refine Ok.bnd (Rwr h1 t2.1 t2.2) fun y hy => ?_
  rw [quoI_pos (by omega), Qb]
  have q0 : 0 ≤ p.tdiv b.length ∧ p.tdiv b.length ≤ p := by
   rw [Int.tdiv_eq_ediv_of_nonneg h3]
   exact ⟨Int.ediv_nonneg h3 (by omega), Int.ediv_le_self _ h3⟩
  generalize hq : p.tdiv b.length = q at q0
  have hx2 : wrap64 x = x := wrap_id (by omega) (by omega)
  have hy2 : wrap64 y = y := wrap_id (by omega) (by omega)
  have hq2 : wrap64 q = q := wrap_id (by omega) (by omega)
  rw [hx2, hy2, hq2]
  have f1 : wrap64 (x * 131) = x * 131 := wrap_id (by omega) (by omega)
  have f2 : wrap64 (y * 1117) = y * 1117 := wrap_id (by omega) (by omega)
  have f3 : wrap64 (p * 29) = p * 29 := wrap_id (by omega) (by omega)
  have f4 : wrap64 (q * 53) = q * 53 := wrap_id (by omega) (by omega)
  rw [f1, f2, f3, f4]
  have f5 : wrap64 (x * 131 + y * 1117) = x * 131 + y * 1117 := wrap_id (by omega) (by omega)
  rw [f5]
  have f6 : wrap64 (x * 131 + y * 1117 + p * 29) = x * 131 + y * 1117 + p * 29 := wrap_id (by omega) (by omega)
  rw [f6]
  have f7 : wrap64 (x * 131 + y * 1117 + p * 29 + q * 53) = x * 131 + y * 1117 + p * 29 + q * 53 := wrap_id (by omega) (by omega)
  rw [f7]
  generalize hz : x * 131 + y * 1117 + p * 29 + q * 53 = z
  have hz0 : 0 ≤ z ∧ z < 1000000000000 := by omega
  have hd2 : 0 ≤ z.tdiv 64 ∧ z.tdiv 64 ≤ z := by
   rw [Int.tdiv_eq_ediv_of_nonneg hz0.1]
   omega
  rw [wrap_id (n := z.tdiv 64) (by omega) (by omega), remI_pos (by omega), Qb]
  have hxor := xor_nonneg (x := z) (y := z.tdiv 64) hz0.1 (by omega) hd2.1 (by omega)
  have t3 := tmod_range (y := n) hxor.1 (by omega)
  exact Ok.of ⟨hR, t3.1, fun _ => t3.2, by omega⟩
theorem Riw {α : Type} {l : List α} {x n : Int} (h : 0 ≤ x ∧ (1 ≤ n → x < n) ∧ (n < 1 → x = 0)) (hn : 1 ≤ n) (hl : (l.length : Int) = n) : Ok (geti l x) fun y => y ∈ l :=
 (Ok.geti h.1 (by have := h.2.1 hn; omega)).mono fun y hy => hy.1
theorem Rtq {b : List Int} {p m : Int} (h : Rd b p m) (hm : m ≤ 999999990) : Ok (Rmt b p) fun r => Rd r.2.1 r.2.2 (m + 1) ∧ (1 ≤ r.1 ∧ r.1 ≤ 12) := by
 apply Ok.le (Rrr b p)
 refine Ok.bnd (Raf h (by omega) (by decide)) fun r1 h1 => ?_
 have := h1.2.2.1 (by omega)
 rw [wrap_id (by omega) (by omega)]
 exact Ok.of ⟨h1.1, by dsimp only; omega⟩
theorem Raq {α : Type} {l : List α} {i : Nat} (h : i < l.length) : geti l (i : Int) = some l[i] := by
 rw [geti_nat', List.getElem?_eq_getElem h]
theorem Rcg {i : Nat} (h : (i : Int) < 9223372036854775807) : wrap64 ((i : Int) + 1) = ((i + 1 : Nat) : Int) := by
 rw [wrap_id (by omega) (by omega)]; omega
theorem Rag (e : Exp) : (⟨e.op, e.n, e.args⟩ : Exp) = e := by cases e; rfl
theorem Rdw (s : Stm) : (⟨s.kind, s.var, s.box, ⟨s.e.op, s.e.n, s.e.args⟩, s.body, s.els⟩ : Stm) = s := by
 obtain ⟨k, v, b, e, bd, el⟩ := s
 cases e; rfl
mutual
theorem Exp.ind {P : Exp → Prop} (h : ∀ e : Exp, (∀ a ∈ e.args, P a) → P e) : ∀ e : Exp, P e
 | ⟨o, n, as⟩ => h ⟨o, n, as⟩ (Exp.inds h as)
theorem Exp.inds {P : Exp → Prop} (h : ∀ e : Exp, (∀ a ∈ e.args, P a) → P e) : ∀ l : List Exp, ∀ a ∈ l, P a
 | [], a, ha => by cases ha
 | e :: r, a, ha => by
  rcases List.mem_cons.1 ha with e1 | h1
  ·rw [e1]; exact Exp.ind h e
  ·exact Exp.inds h r a h1
end
mutual
theorem Stm.ind {P : Stm → Prop} (h : ∀ s : Stm, (∀ a ∈ s.body, P a) → (∀ a ∈ s.els, P a) → P s) : ∀ s : Stm, P s
 | ⟨k, v, b, e, bd, el⟩ => h ⟨k, v, b, e, bd, el⟩ (Stm.inds h bd) (Stm.inds h el)
theorem Stm.inds {P : Stm → Prop} (h : ∀ s : Stm, (∀ a ∈ s.body, P a) → (∀ a ∈ s.els, P a) → P s) : ∀ l : List Stm, ∀ a ∈ l, P a
 | [], a, ha => by cases ha
 | e :: r, a, ha => by
  rcases List.mem_cons.1 ha with e1 | h1
  ·rw [e1]; exact Stm.ind h e
  ·exact Stm.inds h r a h1
end
def Rac : Nat → Exp → Bool
 | 0, _ => false
 | d + 1, e =>
  if e.op = 0 then decide (0 ≤ e.n ∧ e.n ≤ 99999) && e.args.isEmpty
  else if e.op = 13 then decide (0 ≤ e.n ∧ e.n < 4) && e.args.isEmpty
  else decide (1 ≤ e.op ∧ e.op ≤ 12) && decide (e.n = 0) && match e.args with | [a, b] => Rac d a && Rac d b | _ => false
theorem len0 {α : Type} (l : List α) : ((l.length : Int) = 0) ↔ l = [] := by
 constructor
 ·intro h; exact List.eq_nil_of_length_eq_zero (by omega)
 ·intro h; subst h; rfl
theorem Rlu {l : List Exp} : ((l.length : Int) = 2) ↔ ∃ a b, l = [a, b] := by
 constructor
 ·intro h
  match l, h with
  | [a, b], _ => exact ⟨a, b, rfl⟩
  | [], h => simp at h
  | [_], h => simp at h
  | _ :: _ :: _ :: _, h => simp at h; omega
 ·rintro ⟨a, b, rfl⟩; rfl
theorem Rkn {α : Type} (a : α) (l : List α) : geti (a :: l) 0 = some a := by simp [geti]
theorem Rxc {α : Type} (a b : α) (l : List α) : geti (a :: b :: l) 1 = some b := by simp [geti]
theorem Ryg (d : Nat) (h : d ≤ 5) : wrap64 (((d + 1 : Nat) : Int) - 1) = (d : Int) := by rw [wrap_id (by omega) (by omega)]; omega
theorem Rhn : ∀ (d : Nat) (e : Exp), d ≤ 5 → Rdl e (d : Int) = some (Rac d e)
 | d, e, hd => by
  apply Rmc
  simp only [Rge, Qb, Rag]
  by_cases h0 : e.op = 0
  ·cases d with
   | zero => by_cases h1 : 0 ≤ e.n <;> by_cases h2 : e.n ≤ 99999 <;> by_cases h3 : e.args = [] <;> simp [h0, h1, h2, h3, Rac, len0]
   | succ d => by_cases h1 : 0 ≤ e.n <;> by_cases h2 : e.n ≤ 99999 <;> by_cases h3 : e.args = [] <;> simp [h0, h1, h2, h3, Rac, len0] <;> omega
  ·by_cases h13 : e.op = 13
   ·cases d with
    | zero => by_cases h1 : 0 ≤ e.n <;> by_cases h2 : e.n < 4 <;> by_cases h3 : e.args = [] <;> simp [h13, h1, h2, h3, Rac, len0]
    | succ d => by_cases h1 : 0 ≤ e.n <;> by_cases h2 : e.n < 4 <;> by_cases h3 : e.args = [] <;> simp [h13, h1, h2, h3, Rac, len0] <;> omega
   ·by_cases h1 : 1 ≤ e.op ∧ e.op ≤ 12
    ·by_cases h2 : e.n = 0
     ·by_cases h3 : (e.args.length : Int) = 2
      ·obtain ⟨a, b, hab⟩ := Rlu.1 h3
       cases d with
       | zero => simp [h0, h13, h1, h2, h3, Rac]
       | succ d =>
        cases d with
        | zero => simp [h0, h13, h1, h2, h3, Rac, hab]
        | succ d =>
         have hd1 : (1 : Int) < (d : Int) + 1 + 1 := by omega
         rw [Ryg (d + 1) (by omega), hab, Rkn, Rxc]
         simp only [Qb, Rhn (d + 1) _ (by omega)]
         have e1 : Rac (d + 1 + 1) e = (Rac (d + 1) a && Rac (d + 1) b) := by
          rw [Rac]; simp [h0, h13, h1, h2, hab]
         rw [e1]
         cases Rac (d + 1) a <;> simp [h0, h13, h1, h2, hd1]
      ·have hm : (match e.args with | [a, b] => (fun d => Rac d a && Rac d b) | _ => fun _ => false) = fun _ => false := by
        split
        ·rename_i a b hab; exact absurd (Rlu.2 ⟨a, b, hab⟩) h3
        ·rfl
       have e1 : Rac d e = false := by
        cases d with
        | zero => rfl
        | succ d =>
         rw [Rac]; simp only [h0, h13, if_false]
         split
         ·rename_i a b hab; exact absurd (Rlu.2 ⟨a, b, hab⟩) h3
         ·simp
       rw [e1]; simp [h0, h13, h1, h2, h3]
     ·have e1 : Rac d e = false := by cases d <;> simp [Rac, h0, h13, h2]
      rw [e1]; simp [h0, h13, h1, h2]
    ·have e1 : Rac d e = false := by cases d <;> simp [Rac, h0, h13, h1]
     rw [e1]; simp [h0, h13, h1]
theorem Rlz (e : Exp) : Rbz e = some (Rac 5 e) := by
 apply Rma
 rw [Rag, show (5 : Int) = ((5 : Nat) : Int) by rfl, Rhn 5 e (by omega)]
 rfl
theorem Rng : ∀ (d : Nat) (e : Exp), d ≤ 5 → Rix e (d : Int) = some (Rac d e)
 | 0, e, hd => by
  apply Rnh
  simp [Rac]
 | d + 1, e, hd => by
  apply Rnh
  have hd0 : ¬ (((d + 1 : Nat) : Int) < 1) := by omega
  simp only [Rdy, Rgn, Qb, Rag, hd0, Zz, Zf, Rac]
  by_cases h0 : e.op = 0
  ·by_cases h1 : 0 ≤ e.n ∧ e.n ≤ 99999 <;> by_cases h3 : e.args = [] <;> simp [h0, h1, h3, len0]
  ·by_cases h13 : e.op = 13
   ·have e3 : (e.n < 4) = (e.n ≤ 3) := propext (by omega)
    by_cases h1 : 0 ≤ e.n ∧ e.n ≤ 3 <;> by_cases h3 : e.args = [] <;> simp [h13, h1, h3, len0, e3]
   ·by_cases h1 : 1 ≤ e.op ∧ e.op ≤ 12
    ·by_cases h2 : e.n = 0
     ·by_cases h3 : (e.args.length : Int) = 2
      ·obtain ⟨a, b, hab⟩ := Rlu.1 h3
       rw [Ryg d (by omega), hab, Rkn, Rxc]
       simp only [Qb, Rng d _ (by omega)]
       cases Rac d a <;> simp [h0, h13, h1, h2]
      ·have e1 : (match e.args with | [a, b] => Rac d a && Rac d b | _ => false) = false := by
        split
        ·rename_i a b hab; exact absurd (Rlu.2 ⟨a, b, hab⟩) h3
        ·rfl
       rw [e1]; simp [h0, h13, h1, h2, h3]
     ·simp [h0, h13, h1, h2]
    ·simp [h0, h13, h1]
theorem Rhs (e : Exp) : Rap e = some (Rac 5 e) := by
 apply Rmm
 rw [Rag, show (5 : Int) = ((5 : Nat) : Int) by rfl, Rng 5 e (by omega)]
 rfl
theorem Rcj {d : Nat} {e : Exp} (h : Rac (d + 1) e = true) : (e.op = 0 ∧ e.args = [] ∧ 0 ≤ e.n ∧ e.n ≤ 99999) ∨ (e.op = 13 ∧ e.args = [] ∧ 0 ≤ e.n ∧ e.n < 4) ∨
  (1 ≤ e.op ∧ e.op ≤ 12 ∧ e.n = 0 ∧ ∃ a b, e.args = [a, b] ∧ Rac d a = true ∧ Rac d b = true) := by
 unfold Rac at h
 split at h
 ·rename_i h0; simp at h; exact .inl ⟨h0, h.2, h.1⟩
 ·split at h
  ·rename_i h0; simp at h; exact .inr (.inl ⟨h0, h.2, h.1⟩)
  ·simp only [Zw, Ze] at h
   obtain ⟨⟨h1, h2⟩, h3⟩ := h
   split at h3
   ·rename_i a b hab
    simp only [Zw] at h3
    exact .inr (.inr ⟨h1.1, h1.2, h2, a, b, hab, h3.1, h3.2⟩)
   ·cases h3
theorem w01 : wrap64 (0 + 1) = 1 := by unfold wrap64; omega
theorem w11 : wrap64 (1 + 1) = 2 := by unfold wrap64; omega
theorem w1 : wrap64 1 = 1 := by unfold wrap64; omega
theorem Rj {α : Type} {x y : List α} (h : x.length + y.length ≤ 4294967296) : appL x y = some (x ++ y) := by unfold appL; rw [if_pos h]
def Rsh (m : Md) : Prop := m = .own false ∨ m = .full
theorem Rmk {m : Md} (h : Rsh m) : Rsh m.dem := by rcases h with rfl | rfl; exact .inl rfl; exact .inr rfl
theorem Rdc (o n : Int) : Rbl o n = some (o, n, .own false, []) := by apply Rpz; rfl
theorem Rkx (o : Int) (a b : Exp) : Rgw o a b = some (o, 0, .full, [a, b]) := by apply Rpy; simp [Rag]
theorem Rql {b : List Int} {p m : Int} (h : Rd b p m) (hm : m ≤ 999999990) : Ok (Rch b p) fun r => Rd r.2.2.2.1 r.2.2.2.2 (m + 2) ∧ Rsh r.2.2.1.1 ∧ r.2.2.1.2.length ≤ 2 := by
 apply Ok.le (Riz b p)
 refine Ok.bnd (Raf h (by omega) (by decide)) fun r1 h1 => ?_
 refine Ok.bif (fun _ => ?_) (fun _ => ?_)
 ·refine Ok.bnd (Raf h1.1 (by omega) (by decide)) fun r2 h2 => ?_
  rw [Rdc, Qb]
  exact Ok.of ⟨h2.1.mono (by omega), .inl rfl, by simp⟩
 refine Ok.bif (fun _ => ?_) (fun _ => ?_)
 ·refine Ok.bnd (Raf h1.1 (by omega) (by decide)) fun r2 h2 => ?_
  refine Ok.bnd (Riw h2.2 (by omega) rfl) fun e he => ?_
  rw [Rdc, Qb]
  exact Ok.of ⟨h2.1.mono (by omega), .inl rfl, by simp⟩
 ·refine Ok.bnd (Raf h1.1 (by omega) (by decide)) fun r2 h2 => ?_
  rw [Rdc, Qb]
  exact Ok.of ⟨h2.1.mono (by omega), .inl rfl, by simp⟩
def cost : Nat → Int
 | 0 => 2
 | d + 1 => 2 + 2 * cost d
theorem Rkl : ∀ d, 2 ≤ cost d
 | 0 => by simp [cost]
 | d + 1 => by have := Rkl d; simp only [cost]; omega
theorem Rhq : ∀ (d : Nat) {b : List Int} {p m : Int} (n : Int), n = (d : Int) + 1 → d ≤ 10 → Rd b p m → m + cost d ≤ 999999990 →
  Ok (Rad n b p) fun r => Rd r.2.2.2.1 r.2.2.2.2 (m + cost d) ∧ Rsh r.2.2.1.1 ∧ r.2.2.1.2.length ≤ 2
 | d, b, p, m, n, hn, hd, h, hm => by
  apply Ok.le (Riy n b p)
  have hc := Rkl d
  have leaf : ∀ {b : List Int} {p m' : Int}, Rd b p m' → m' + 2 ≤ m + cost d → Ok (Vs.bnd (Rch b p) fun r1 => some (r1.1, r1.2.1, (Md.dem (Md.dem (Md.dem r1.2.2.1.1)), r1.2.2.1.2), r1.2.2.2.1, r1.2.2.2.2)) fun r => Rd r.2.2.2.1 r.2.2.2.2 (m + cost d) ∧ Rsh r.2.2.1.1 ∧ r.2.2.1.2.length ≤ 2 := by
   intro b p m' h' hm'
   refine Ok.bnd (Rql h' (by omega)) fun r1 h1 => ?_
   exact Ok.of ⟨h1.1.mono hm', Rmk (Rmk (Rmk h1.2.1)), h1.2.2⟩
  refine Ok.bif (fun hb => ?_) (fun hb => ?_)
  ·exact leaf h (by omega)
  ·simp only [decide_eq_false_iff_not] at hb
   obtain ⟨d, rfl⟩ : ∃ d', d = d' + 1 := ⟨d - 1, by omega⟩
   have hc' := Rkl d
   simp only [cost] at hm ⊢
   refine Ok.bnd (Raf h (by omega) (by decide)) fun r1 h1 => ?_
   refine Ok.bif (fun _ => ?_) (fun _ => ?_)
   ·exact (leaf h1.1 (by simp only [cost]; omega)).mono fun r hr => hr
   ·refine Ok.bnd (Rtq h1.1 (by omega)) fun r2 h2 => ?_
    rw [wrap_id (n := n - 1) (by omega) (by omega)]
    refine Ok.bnd (Rhq d (n - 1) (by omega) (by omega) h2.1 (by omega)) fun r3 h3 => ?_
    refine Ok.bnd (Rhq d (n - 1) (by omega) (by omega) h3.1 (by omega)) fun r4 h4 => ?_
    rw [Rkx, Qb]
    exact Ok.of ⟨h4.1.mono (by omega), .inr rfl, by simp⟩
mutual
def emX : Exp → Nat
 | ⟨_, _, as⟩ => emXs as
def emXs : List Exp → Nat
 | [] => 0
 | e :: r => 1 + emX e + emXs r
end
mutual
def mS : Stm → Nat
 | ⟨_, _, _, e, bd, el⟩ => emX e + mSs bd + mSs el
def mSs : List Stm → Nat
 | [] => 0
 | s :: r => 1 + mS s + mSs r
end
theorem Rkm (e : Exp) : emX e = emXs e.args := by cases e; simp [emX]
theorem Rrm (s : Stm) : mS s = emX s.e + mSs s.body + mSs s.els := by cases s; simp [mS]
theorem Rtm : ∀ l : List Exp, l.length ≤ emXs l
 | [] => Nat.le_refl _
 | e :: r => by have := Rtm r; simp only [emXs, Zc]; omega
theorem Rcu : ∀ l : List Stm, l.length ≤ mSs l
 | [] => Nat.le_refl _
 | e :: r => by have := Rcu r; simp only [mSs, Zc]; omega
theorem Rum : ∀ {l : List Exp} {e : Exp}, e ∈ l → emX e < emXs l
 | [], e, h => by cases h
 | a :: r, e, h => by
  simp only [emXs]
  rcases List.mem_cons.1 h with rfl | h
  ·omega
  ·have := Rum h; omega
theorem Riu : ∀ {l : List Stm} {e : Stm}, e ∈ l → mS e < mSs l
 | [], e, h => by cases h
 | a :: r, e, h => by
  simp only [mSs]
  rcases List.mem_cons.1 h with rfl | h
  ·omega
  ·have := Riu h; omega
def left (n : Int) (m : Nat) : Int := if (m : Int) ≤ n then n - m else -1
mutual
def cS : Stm → Nat
 | ⟨_, _, _, _, bd, el⟩ => 1 + cSs bd + cSs el
def cSs : List Stm → Nat
 | [] => 0
 | s :: r => cS s + cSs r
end
theorem Rua (s : Stm) : cS s = 1 + cSs s.body + cSs s.els := by cases s; simp [cS]
theorem Rti {l : List Stm} {i : Nat} (hi : i < l.length) : cSs (l.drop i) = cS l[i] + cSs (l.drop (i + 1)) := by
 rw [List.drop_eq_getElem_cons hi]; simp only [cSs]
theorem Rrc : ∀ l : List Stm, l.length ≤ cSs l
 | [] => Nat.le_refl _
 | e :: r => by have := Rrc r; have := Rua e; simp only [cSs, Zc]; omega
mutual
theorem cS_le : ∀ s : Stm, cS s ≤ 1 + mS s
 | ⟨_, _, _, e, bd, el⟩ => by have := Rry bd; have := Rry el; simp only [cS, mS]; omega
theorem Rry : ∀ l : List Stm, cSs l ≤ mSs l
 | [] => Nat.le_refl _
 | s :: r => by have := cS_le s; have := Rry r; simp only [cSs, mSs]; omega
end
theorem Rth : ∀ {l : List Stm} {e : Stm}, e ∈ l → cS e ≤ cSs l
 | [], e, h => by cases h
 | a :: r, e, h => by
  simp only [cSs]
  rcases List.mem_cons.1 h with rfl | h
  ·omega
  ·have := Rth h; omega
theorem Rtj {l : List Stm} (hp : ∀ s ∈ l, Rab s.body = some (cSs s.body : Int) ∧ Rab s.els = some (cSs s.els : Int)) (hb : cSs l ≤ 4294967296) :
  ∀ (d i : Nat) (k : Int), i + d = l.length → 0 ≤ k → k + cSs (l.drop i) ≤ 4294967296 → Rdp l k i = some (k + cSs (l.drop i))
 | 0, i, k, hd, h0, h1 => by
  apply Rgr
  have hi : ¬ ((i : Int) < l.length) := by omega
  rw [List.drop_eq_nil_of_le (by omega)]
  simp [hi, cSs]
 | d + 1, i, k, hd, h0, h1 => by
  apply Rgr
  have hi : i < l.length := by omega
  have hi' : (i : Int) < l.length := by omega
  obtain ⟨p1, p2⟩ := hp _ (List.getElem_mem hi)
  have hlen := Rrc l
  have hc := Rti hi
  have hs := Rua l[i]
  rw [Raq hi, Rcg (by omega)]
  simp only [hi', Zy, Zt, Qb, p1, p2]
  rw [wrap_id (n := k + 1) (by omega) (by omega), wrap_id (n := k + 1 + (cSs l[i].body : Int)) (by omega) (by omega), wrap_id (by omega) (by omega),
   Rtj hp hb d (i + 1) _ (by omega) (by omega) (by omega)]
  congr 1; omega
theorem Res {l : List Stm} (hp : ∀ s ∈ l, Rab s.body = some (cSs s.body : Int) ∧ Rab s.els = some (cSs s.els : Int)) (hb : cSs l ≤ 4294967296) : Rab l = some (cSs l : Int) := by
 apply Rns
 have := Rtj hp hb l.length 0 0 (by omega) (by omega) (by simp; omega)
 rw [show ((0 : Nat) : Int) = 0 by rfl] at this
 rw [this]; simp
theorem Rso : ∀ s : Stm, cS s ≤ 4294967296 → Rab s.body = some (cSs s.body : Int) ∧ Rab s.els = some (cSs s.els : Int) := by
 apply Stm.ind
 intro s ih1 ih2 hb
 rw [Rua] at hb
 exact ⟨Res (fun a ha => ih1 a ha (by have := Rth ha; omega)) (by omega), Res (fun a ha => ih2 a ha (by have := Rth ha; omega)) (by omega)⟩
theorem Rin {l : List Stm} (hb : cSs l ≤ 4294967296) : Rab l = some (cSs l : Int) :=
 Res (fun s hs => Rso s (by have := Rth hs; omega)) hb
def hdr (s : Stm) : Prop :=
 (s.kind = 1 ∧ (0 ≤ s.var ∧ s.var < 4) ∧ s.box = 0 ∧ Rac 5 s.e = true ∧ (s.body.length : Int) = 0 ∧ (s.els.length : Int) = 0) ∨
 (s.kind = 2 ∧ s.var = 0 ∧ s.box = 0 ∧ Rac 5 s.e = true) ∨
 (s.kind = 3 ∧ s.var = 0 ∧ s.box = 0 ∧ Rac 5 s.e = true ∧ (s.els.length : Int) = 0) ∨
 (s.kind = 4 ∧ s.var = 0 ∧ (0 ≤ s.box ∧ s.box < 3) ∧ Rac 5 s.e = true ∧ (s.body.length : Int) = 0 ∧ (s.els.length : Int) = 0) ∨
 (s.kind = 5 ∧ (0 ≤ s.var ∧ s.var < 4) ∧ (0 ≤ s.box ∧ s.box < 3) ∧ (s.e.op = 0 ∧ s.e.n = 0 ∧ (s.e.args.length : Int) = 0) ∧ (s.body.length : Int) = 0 ∧ (s.els.length : Int) = 0) ∨
 (s.kind = 6 ∧ s.var = 0 ∧ s.box = 0 ∧ (s.e.op = 0 ∧ s.e.n = 0 ∧ (s.e.args.length : Int) = 0) ∧ (s.body.length : Int) = 0 ∧ (s.els.length : Int) = 0) ∨
 (s.kind = 7 ∧ s.var = 0 ∧ s.box = 0 ∧ Rac 5 s.e = true ∧ (s.body.length : Int) = 0 ∧ (s.els.length : Int) = 0)
instance (s : Stm) : Decidable (hdr s) := by unfold hdr; infer_instance
def sOk : Nat → Stm → Bool
 | 0, s => decide (hdr s) && !decide (s.kind = 2 ∨ s.kind = 3)
 | d + 1, s => decide (hdr s) && (if s.kind = 2 ∨ s.kind = 3 then s.body.all (sOk d) && s.els.all (sOk d) else true)
theorem Rjy (x n : Int) (b : Bool) (hn : 1 ≤ n) : Rf x n b = some (decide (if b then 0 ≤ x ∧ x < n else x = 0)) := by
 apply Rdu
 cases b
 ·by_cases h : x = 0 <;> simp [h]
 ·by_cases h : x = 0
  ·simp [h]; omega
  ·by_cases h2 : 0 < x
   ·simp [h, h2]; omega
   ·simp [h, h2]; omega
theorem Rjr (s : Stm) (b : Bool) : Rbk s b = some (decide (if b then 0 ≤ s.var ∧ s.var < 4 else s.var = 0)) := by
 apply Rpw
 simp only [Rdy, Qb, cond_some]
 apply some_dec
 cases b <;> simp; omega
theorem Rjq (s : Stm) (b : Bool) : Rbj s b = some (decide (if b then 0 ≤ s.box ∧ s.box < 3 else s.box = 0)) := by
 apply Rpv
 simp only [Rdy, Qb, cond_some]
 apply some_dec
 cases b <;> simp; omega
theorem Rnt (e : Exp) : Rfy e = some (decide (e.op = 0 ∧ e.n = 0 ∧ (e.args.length : Int) = 0)) := by
 apply Rnu
 simp only [cond_some]
 apply some_dec
 simp only [cond_iff, Ze, Bool.false_eq_true]
 by_cases h : e.op = 0 <;> by_cases h2 : e.n = 0 <;> simp [h, h2]
theorem Rhu (s : Stm) (n2 : s.kind ≠ 2) (n3 : s.kind ≠ 3) : Rex s = some (decide (hdr s)) := by
 apply Rmq
 simp only [Rdw, Rag, Rjr, Rjq, Rnt, Rhs, Qb, cond_some]
 apply some_dec
 obtain ⟨k, v, b, e, bd, el⟩ := s
 have a1 : (0 : Int) ≤ bd.length := by omega
 have a2 : (0 : Int) ≤ el.length := by omega
 have a3 : (0 : Int) ≤ e.args.length := by omega
 simp only [hdr, cond_iff, Ze, if_true, Bool.false_eq_true, if_false, Bool.not_eq_true', decide_eq_false_iff_not]
 generalize (bd.length : Int) = n1 at a1
 generalize (el.length : Int) = n2' at a2
 generalize (e.args.length : Int) = n3' at a3
 simp only [] at n2 n3
 cases hv : Rac 5 e
 all_goals
  by_cases h1 : k = 1
  ·subst h1; simp; try omega
  by_cases h4 : k = 4
  ·subst h4; simp; try omega
  by_cases h5 : k = 5
  ·subst h5; simp; try omega
  by_cases h7 : k = 7
  ·subst h7; simp; try omega
  by_cases h6 : k = 6
  ·subst h6; simp; try omega
  simp [h1, n2, n3, h4, h5, h6, h7]
theorem hdr2 {s : Stm} (h : s.kind = 2) : hdr s ↔ s.var = 0 ∧ s.box = 0 ∧ Rac 5 s.e = true := by simp [hdr, h]
theorem hdr3 {s : Stm} (h : s.kind = 3) : hdr s ↔ s.var = 0 ∧ s.box = 0 ∧ Rac 5 s.e = true ∧ (s.els.length : Int) = 0 := by simp [hdr, h]
theorem Rto {α : Type} {P Q : Prop} [Decidable P] [Decidable Q] {a b c : α} (h : P ↔ Q) (ha : a = b) : (if P then a else c) = if Q then b else c := by
 subst ha
 by_cases hp : P
 ·rw [if_pos hp, if_pos (h.1 hp)]
 ·rw [if_neg hp, if_neg fun x => hp (h.2 x)]
theorem Rtd {l : List Stm} {n : Int} {f : Stm → Bool} (hl : (l.length : Int) ≤ 4294967296) (hp : ∀ s ∈ l, Rht s n = some (f s)) :
  ∀ (d i : Nat), i + d = l.length → Rdg l n i = some (if (l.drop i).all f then .inl () else .inr false)
 | 0, i, hd => by
  apply Rfu
  have hi : ¬ ((i : Int) < l.length) := by omega
  rw [List.drop_eq_nil_of_le (by omega)]
  simp [hi]
 | d + 1, i, hd => by
  apply Rfu
  have hi : i < l.length := by omega
  have hi' : (i : Int) < l.length := by omega
  rw [Raq hi, Rcg (by omega), Rtd hl hp d (i + 1) (by omega)]
  have e1 : (l.drop i).all f = (f l[i] && (l.drop (i + 1)).all f) := by rw [List.drop_eq_getElem_cons hi, List.all_cons]
  rw [e1]
  simp only [hi', Zy, Zt, Qb, Rdw, hp _ (List.getElem_mem hi)]
  cases f l[i] <;> simp
theorem Ref {l : List Stm} {n : Int} {f : Stm → Bool} (hl : (l.length : Int) ≤ 4294967296) (hp : ∀ s ∈ l, Rht s n = some (f s)) : Rp l n = some (l.all f) := by
 apply Rmp
 rw [show (0 : Int) = ((0 : Nat) : Int) by rfl, Rtd hl hp l.length 0 (by omega), List.drop_zero]
 cases l.all f <;> simp [selm]
theorem Rig : ∀ (d : Nat) (s : Stm), d ≤ 3 → mS s ≤ 4294967296 → Rht s (d : Int) = some (sOk d s)
 | 0, s, hd, hm => by
  apply Rlk
  by_cases h2 : s.kind = 2
  ·simp [h2, sOk]
  ·by_cases h3 : s.kind = 3
   ·simp [h3, sOk]
   ·simp [h2, h3, sOk, Rdw, Rhu s h2 h3]
 | d + 1, s, hd, hm => by
  apply Rlk
  have hm' := Rrm s
  have l1 := Rcu s.body
  have l2 := Rcu s.els
  have hd0 : ¬ (((d + 1 : Nat) : Int) < 1) := by omega
  have b1 : Rp s.body (d : Int) = some (s.body.all (sOk d)) := Ref (by omega) fun a ha => Rig d a (by omega) (by have := Riu ha; omega)
  have b2 : Rp s.els (d : Int) = some (s.els.all (sOk d)) := Ref (by omega) fun a ha => Rig d a (by omega) (by have := Riu ha; omega)
  rw [show wrap64 (((d + 1 : Nat) : Int) - 1) = (d : Int) by rw [wrap_id (by omega) (by omega)]; omega]
  simp only [Rdw, Rag, Rjr, Rjq, Rhs, b1, b2, Qb, hd0, Zz, Zf]
  by_cases h2 : s.kind = 2
  ·have h3 : s.kind ≠ 3 := by omega
   have hh : decide (hdr s) = (decide (s.var = 0) && decide (s.box = 0) && Rac 5 s.e) := by
    rw [Bool.eq_iff_iff]; simp [hdr2 h2, and_assoc]
   simp only [sOk, hh, h2, true_or, if_true]
   by_cases v : s.var = 0 <;> by_cases b : s.box = 0 <;> cases Rac 5 s.e <;> cases s.body.all (sOk d) <;> simp [v, b]
  ·by_cases h3 : s.kind = 3
   ·by_cases he : (s.els.length : Int) = 0
    ·have hh : decide (hdr s) = (decide (s.var = 0) && decide (s.box = 0) && Rac 5 s.e) := by
      rw [Bool.eq_iff_iff]; simp [hdr3 h3, and_assoc, he]
     simp only [sOk, hh, h3, or_true, if_true]
     by_cases v : s.var = 0 <;> by_cases b : s.box = 0 <;> cases Rac 5 s.e <;> cases s.body.all (sOk d) <;> simp [v, b, he]
    ·have hh : decide (hdr s) = false := by
      simp [hdr3 h3]; intro _ _ _ h; exact absurd (by rw [h]; rfl) he
     have hpos : 0 < (s.els.length : Int) := by omega
     simp only [sOk, hh, h3, or_true, if_true, hpos]
     simp
   ·have hh := Rhu s h2 h3
    simp only [sOk, h2, h3, or_false, if_false]
    simp [h2, h3]
    show bnd (Rex s) _ = _
    rw [hh]; rfl
theorem Rmo {d : Nat} {l : List Stm} (hd : d ≤ 3) (hm : mSs l ≤ 4294967296) : Rp l (d : Int) = some (l.all (sOk d)) :=
 Ref (by have := Rcu l; omega) fun s hs => Rig d s hd (by have := Riu hs; omega)
def stOk (l : List Stm) : Bool := decide (l.all (sOk 3) = true ∧ (cSs l : Int) ≤ 16)
theorem Rlf (l : List Stm) (hm : mSs l ≤ 4294967296) : Rgo l = some (stOk l) := by
 apply Rlg
 have hc := Rry l
 rw [show (3 : Int) = ((3 : Nat) : Int) by rfl, Rmo (by omega) hm, Qb, Rin (by omega)]
 unfold stOk
 cases l.all (sOk 3) <;> simp
theorem mSs_one (s : Stm) : mSs [s] = 1 + mS s := by simp [mSs]
def hdN (many : Int) (s : Stm) : Prop := hdr s ∧ (s.kind = 4 ∨ s.kind = 5 → s.box < many)
instance (many : Int) (s : Stm) : Decidable (hdN many s) := by unfold hdN; infer_instance
def gOk (many : Int) : Nat → Stm → Bool
 | 0, s => decide (hdN many s) && !decide (s.kind = 2 ∨ s.kind = 3)
 | d + 1, s => decide (hdN many s) && (if s.kind = 2 ∨ s.kind = 3 then s.body.all (gOk many d) && s.els.all (gOk many d) else true)
theorem Ris (x n : Int) (hn : 0 ≤ n) : Rf x n true = some (decide (x = 0 ∨ (0 ≤ x ∧ x < n))) := by
 apply Rdu
 by_cases h : x = 0
 ·simp [h]
 ·by_cases h2 : 0 < x
  ·simp [h, h2]; omega
  ·simp [h, h2]; omega
theorem Rip (x n : Int) : Rf x n false = some (decide (x = 0)) := by
 apply Rdu
 by_cases h : x = 0 <;> simp [h]
theorem Rbp {many : Int} (hmn : 0 ≤ many ∧ many ≤ 3) (s : Stm) : Rhl s many = some (decide (hdN many s)) := by
 apply Rmd
 simp only [Ris _ many hmn.1, Rjy _ 4 true (by omega), Rip, Rlz, Rag, Qb, cond_some]
 apply some_dec
 obtain ⟨k, v, b, e, bd, el⟩ := s
 have a1 : (0 : Int) ≤ bd.length := by omega
 have a2 : (0 : Int) ≤ el.length := by omega
 have a3 : (0 : Int) ≤ e.args.length := by omega
 simp only [hdN, hdr, cond_iff, Ze, if_true, Bool.false_eq_true, if_false, Bool.not_eq_true', decide_eq_false_iff_not]
 generalize (bd.length : Int) = n1 at a1
 generalize (el.length : Int) = n2 at a2
 generalize (e.args.length : Int) = n3 at a3
 cases hv : Rac 5 e
 all_goals
  by_cases h1 : k = 1
  ·subst h1; simp; try omega
  by_cases h2 : k = 2
  ·subst h2; simp; try omega
  by_cases h3 : k = 3
  ·subst h3; simp; try omega
  by_cases h4 : k = 4
  ·subst h4; simp; try omega
  by_cases h5 : k = 5
  ·subst h5; simp; try omega
  by_cases h7 : k = 7
  ·subst h7; simp; try omega
  by_cases h6 : k = 6
  ·subst h6; simp; try omega
  simp [h1, h2, h3, h4, h5, h6, h7]
theorem Rsn {many : Int} (hmn : 0 ≤ many ∧ many ≤ 3) {l : List Stm} {d0 : Nat} (hl : (l.length : Int) ≤ 4294967296) (hd0 : d0 ≤ 3)
  (hp : ∀ d, d0 = d + 1 → ∀ (bl : List Stm) (n : Int), (∃ s ∈ l, bl = s.body ∨ bl = s.els) → 0 ≤ n → n ≤ 16 → ∃ c, Rar bl many (3 - (d : Int)) n = some (decide (bl.all (gOk many d) = true ∧ n + cSs bl ≤ 16), c) ∧ (bl.all (gOk many d) = true → n + cSs bl ≤ 16 → c = n + cSs bl)) :
  ∀ (d i : Nat) (n : Int), i + d = l.length → 0 ≤ n → n ≤ 16 → ∃ c, Rat l many (3 - (d0 : Int)) l.length i n = some (if (l.drop i).all (gOk many d0) = true ∧ n + (cSs (l.drop i) - (l.length - i : Int)) ≤ 16 then .inl (n + (cSs (l.drop i) - (l.length - i : Int))) else .inr (false, c))
 | 0, i, n, hd, h0, h1 => by
  refine ⟨0, ?_⟩
  apply Rx
  have hi : ¬ ((i : Int) < l.length) := by omega
  rw [List.drop_eq_nil_of_le (by omega), if_pos ⟨by simp, by simp [cSs]; omega⟩]
  simp [hi, cSs]; omega
 | d + 1, i, n, hd, h0, h1 => by
  have hi : i < l.length := by omega
  have hi' : (i : Int) < l.length := by omega
  have e1 : (l.drop i).all (gOk many d0) = (gOk many d0 l[i] && (l.drop (i + 1)).all (gOk many d0)) := by rw [List.drop_eq_getElem_cons hi, List.all_cons]
  have e2 := Rti hi
  have e3 := Rua l[i]
  have e4 := Rrc (l.drop (i + 1))
  rw [List.length_drop] at e4
  have hn3 : ¬ ((3 : Int) < 3 - (d0 : Int)) := by omega
  by_cases hh : hdN many l[i]
  ·by_cases hk : l[i].kind = 2 ∨ l[i].kind = 3
   ·cases d0 with
    | zero =>
     have s0 : gOk many 0 l[i] = false := by simp [gOk, hk]
     refine ⟨n, ?_⟩
     apply Rx
     rw [Raq hi, e1, s0]
     simp only [hi', Zy, Zt, Qb, Rdw, Rbp hmn, hh, Zv, Zf]
     rcases hk with hk | hk <;> simp [hk]
    | succ d1 =>
     have hn4 : ¬ ((3 : Int) ≤ 3 - ((d1 + 1 : Nat) : Int)) := by omega
     have hw : wrap64 (3 - ((d1 + 1 : Nat) : Int) + 1) = 3 - (d1 : Int) := by rw [wrap_id (by omega) (by omega)]; omega
     have s1 : gOk many (d1 + 1) l[i] = (l[i].body.all (gOk many d1) && l[i].els.all (gOk many d1)) := by simp [gOk, hh, hk]
     obtain ⟨c1, k1, k2⟩ := hp d1 rfl l[i].body n ⟨l[i], List.getElem_mem hi, .inl rfl⟩ h0 h1
     by_cases g1 : l[i].body.all (gOk many d1) = true ∧ n + cSs l[i].body ≤ 16
     ·have hc1 := k2 g1.1 g1.2
      obtain ⟨c2, m1, m2⟩ := hp d1 rfl l[i].els (n + cSs l[i].body) ⟨l[i], List.getElem_mem hi, .inr rfl⟩ (by omega) g1.2
      by_cases g2 : l[i].els.all (gOk many d1) = true ∧ n + cSs l[i].body + cSs l[i].els ≤ 16
      ·have hc2 := m2 g2.1 g2.2
       obtain ⟨c, hc⟩ := Rsn hmn hl hd0 hp d (i + 1) (n + cSs l[i].body + cSs l[i].els) (by omega) (by omega) g2.2
       refine ⟨c, ?_⟩
       apply Rx
       rw [Raq hi, e1, s1, g1.1, g2.1, Rcg (by omega), hw]
       subst hc1 hc2
       have dk1 : decide (l[i].body.all (gOk many d1) = true ∧ n + (cSs l[i].body : Int) ≤ 16) = true := Zp g1
       have dk2 : decide (l[i].els.all (gOk many d1) = true ∧ n + (cSs l[i].body : Int) + (cSs l[i].els : Int) ≤ 16) = true := Zp g2
       rw [dk1] at k1
       rw [dk2] at m1
       have hcond : ((true && true && (l.drop (i + 1)).all (gOk many (d1 + 1))) = true ∧ n + ((cSs (l.drop i) : Int) - ((l.length : Int) - (i : Int))) ≤ 16) ↔ ((l.drop (i + 1)).all (gOk many (d1 + 1)) = true ∧ n + (cSs l[i].body : Int) + (cSs l[i].els : Int) + ((cSs (l.drop (i + 1)) : Int) - ((l.length : Int) - ((i + 1 : Nat) : Int))) ≤ 16) := by
        simp only [Bool.true_and, Bool.and_true]
        constructor
        ·rintro ⟨x, y⟩; exact ⟨x, by omega⟩
        ·rintro ⟨x, y⟩; exact ⟨x, by omega⟩
       have hval : n + ((cSs (l.drop i) : Int) - ((l.length : Int) - (i : Int))) = n + (cSs l[i].body : Int) + (cSs l[i].els : Int) + ((cSs (l.drop (i + 1)) : Int) - ((l.length : Int) - ((i + 1 : Nat) : Int))) := by omega
       rw [Rto hcond (congrArg (Sum.inl (β := Bool × Int)) hval), ← hc]
       simp only [hi', Zy, Zt, Qb, Rdw, Rbp hmn, hh, Zv, Zf, hn3, hn4, Zz, k1, m1]
       rcases hk with hk | hk <;> simp [hk]
      ·refine ⟨c2, ?_⟩
       apply Rx
       rw [Raq hi, e1, s1, g1.1, hw]
       subst hc1
       have dk1 : decide (l[i].body.all (gOk many d1) = true ∧ n + (cSs l[i].body : Int) ≤ 16) = true := Zp g1
       have dk2 : decide (l[i].els.all (gOk many d1) = true ∧ n + (cSs l[i].body : Int) + (cSs l[i].els : Int) ≤ 16) = false := Zq g2
       rw [dk1] at k1
       rw [dk2] at m1
       rw [if_neg (by
        rintro ⟨x, y⟩
        simp only [Bool.true_and, Zw] at x
        exact g2 ⟨x.1, by omega⟩)]
       simp only [hi', Zy, Zt, Qb, Rdw, Rbp hmn, hh, Zv, Zf, hn3, hn4, Zz, k1, m1]
       rcases hk with hk | hk <;> simp [hk]
     ·refine ⟨c1, ?_⟩
      apply Rx
      rw [Raq hi, e1, s1, hw]
      have dk1 : decide (l[i].body.all (gOk many d1) = true ∧ n + (cSs l[i].body : Int) ≤ 16) = false := Zq g1
      rw [dk1] at k1
      rw [if_neg (by
       rintro ⟨x, y⟩
       simp only [Zw] at x
       exact g1 ⟨x.1.1, by omega⟩)]
      simp only [hi', Zy, Zt, Qb, Rdw, Rbp hmn, hh, Zv, Zf, hn3, hn4, Zz, k1]
      rcases hk with hk | hk <;> simp [hk]
   ·have n2 : l[i].kind ≠ 2 := fun h => hk (.inl h)
    have n3 : l[i].kind ≠ 3 := fun h => hk (.inr h)
    have s1 : gOk many d0 l[i] = true := by cases d0 <;> simp [gOk, hh, n2, n3]
    have hbe : l[i].body = [] ∧ l[i].els = [] := by
     have hh' := hh
     have hh' := hh'.1
     simp only [hdr, n2, n3, false_and, false_or] at hh'
     have : (l[i].body.length : Int) = 0 ∧ (l[i].els.length : Int) = 0 := by
      rcases hh' with h | h | h | h | h
      ·exact ⟨h.2.2.2.2.1, h.2.2.2.2.2⟩
      ·exact ⟨h.2.2.2.2.1, h.2.2.2.2.2⟩
      ·exact ⟨h.2.2.2.2.1, h.2.2.2.2.2⟩
      ·exact ⟨h.2.2.2.2.1, h.2.2.2.2.2⟩
      ·exact ⟨h.2.2.2.2.1, h.2.2.2.2.2⟩
     exact ⟨List.eq_nil_of_length_eq_zero (by omega), List.eq_nil_of_length_eq_zero (by omega)⟩
    rw [hbe.1, hbe.2] at e3
    simp only [cSs] at e3
    obtain ⟨c, hc⟩ := Rsn hmn hl hd0 hp d (i + 1) n (by omega) h0 h1
    refine ⟨c, ?_⟩
    apply Rx
    rw [Raq hi, e1, s1, Rcg (by omega)]
    have hcond : ((true && (l.drop (i + 1)).all (gOk many d0)) = true ∧ n + ((cSs (l.drop i) : Int) - ((l.length : Int) - (i : Int))) ≤ 16) ↔ ((l.drop (i + 1)).all (gOk many d0) = true ∧ n + ((cSs (l.drop (i + 1)) : Int) - ((l.length : Int) - ((i + 1 : Nat) : Int))) ≤ 16) := by
     simp only [Bool.true_and]
     constructor
     ·rintro ⟨x, y⟩; exact ⟨x, by omega⟩
     ·rintro ⟨x, y⟩; exact ⟨x, by omega⟩
    have hval : n + ((cSs (l.drop i) : Int) - ((l.length : Int) - (i : Int))) = n + ((cSs (l.drop (i + 1)) : Int) - ((l.length : Int) - ((i + 1 : Nat) : Int))) := by omega
    rw [Rto hcond (congrArg (Sum.inl (β := Bool × Int)) hval), ← hc]
    simp only [hi', Zy, Zt, Qb, Rdw, Rbp hmn, hh, Zv, Zf, hn3, Zz]
    simp [n2, n3]
  ·have s1 : gOk many d0 l[i] = false := by cases d0 <;> simp [gOk, hh]
   refine ⟨n, ?_⟩
   apply Rx
   rw [Raq hi, e1, s1]
   simp only [hi', Zy, Zt, Qb, Rdw, Rbp hmn, hh, Zz, Zx]
   simp
theorem Rhm {many : Int} (hmn : 0 ≤ many ∧ many ≤ 3) : ∀ (d : Nat) (l : List Stm) (n : Int), d ≤ 3 → mSs l ≤ 4294967296 → 0 ≤ n → n ≤ 16 →
  ∃ c, Rar l many (3 - (d : Int)) n = some (decide (l.all (gOk many d) = true ∧ n + cSs l ≤ 16), c) ∧ (l.all (gOk many d) = true → n + cSs l ≤ 16 → c = n + cSs l)
 | d, l, n, hd, hm, h0, h1 => by
  have hlen := Rcu l
  have hcl := Rrc l
  by_cases hc : (16 : Int) < n + l.length
  ·refine ⟨n + l.length, ?_, fun _ h => by omega⟩
   apply Rec
   rw [wrap_id (by omega) (by omega)]
   have : ¬ (l.all (gOk many d) = true ∧ n + (cSs l : Int) ≤ 16) := fun h => by omega
   rw [Zq this]
   simp [hc]
  ·obtain ⟨c, h⟩ := Rsn hmn (l := l) (d0 := d) (by omega) hd (fun d1 e1 bl m hb g0 g1 => by
    obtain ⟨s, hs, hbl⟩ := hb
    have := Riu hs
    have := Rrm s
    have hmb : mSs bl ≤ 4294967296 := by rcases hbl with rfl | rfl <;> omega
    exact Rhm hmn d1 bl m (by omega) hmb g0 g1) l.length 0 (n + l.length) (by omega) (by omega) (by omega)
   rw [List.drop_zero] at h
   by_cases g : l.all (gOk many d) = true ∧ n + (cSs l : Int) ≤ 16
   ·refine ⟨n + cSs l, ?_, fun _ _ => rfl⟩
    apply Rec
    rw [wrap_id (by omega) (by omega), show (0 : Int) = ((0 : Nat) : Int) by rfl, h, if_pos ⟨g.1, by omega⟩, Zp g]
    simp only [hc, Zz, Zf, Qb, selm]
    congr 2; omega
   ·refine ⟨c, ?_, fun a b => absurd ⟨a, b⟩ g⟩
    apply Rec
    rw [wrap_id (by omega) (by omega), show (0 : Int) = ((0 : Nat) : Int) by rfl, h, if_neg (fun x => g ⟨x.1, by omega⟩), Zq g]
    simp only [hc, Zz, Zf, Qb, selm]
 termination_by d => d
mutual
def bS (many : Int) : Stm → Bool
 | ⟨k, _, b, _, bd, el⟩ => !(decide (k = 4 ∨ k = 5) && decide (many ≤ b)) && bSs many bd && bSs many el
def bSs (many : Int) : List Stm → Bool
 | [] => true
 | s :: r => bS many s && bSs many r
end
theorem bS_eq (many : Int) (s : Stm) : bS many s = (!(decide (s.kind = 4 ∨ s.kind = 5) && decide (many ≤ s.box)) && bSs many s.body && bSs many s.els) := by cases s; simp [bS]
theorem Rtb (many : Int) : ∀ l : List Stm, bSs many l = l.all (bS many)
 | [] => rfl
 | s :: r => by simp [bSs, Rtb many r]
theorem Rtn {s : Stm} (h : hdr s) (n2 : s.kind ≠ 2) (n3 : s.kind ≠ 3) : s.body = [] ∧ s.els = [] := by
 simp only [hdr, n2, n3, false_and, false_or] at h
 have : (s.body.length : Int) = 0 ∧ (s.els.length : Int) = 0 := by
  rcases h with h | h | h | h | h
  ·exact ⟨h.2.2.2.2.1, h.2.2.2.2.2⟩
  ·exact ⟨h.2.2.2.2.1, h.2.2.2.2.2⟩
  ·exact ⟨h.2.2.2.2.1, h.2.2.2.2.2⟩
  ·exact ⟨h.2.2.2.2.1, h.2.2.2.2.2⟩
  ·exact ⟨h.2.2.2.2.1, h.2.2.2.2.2⟩
 exact ⟨List.eq_nil_of_length_eq_zero (by omega), List.eq_nil_of_length_eq_zero (by omega)⟩
theorem Rur (many : Int) (s : Stm) : decide (hdN many s) = (decide (hdr s) && !(decide (s.kind = 4 ∨ s.kind = 5) && decide (many ≤ s.box))) := by
 rw [Bool.eq_iff_iff]
 simp only [hdN, Ze, Zw, Bool.not_eq_true', Bool.and_eq_false_iff, decide_eq_false_iff_not]
 by_cases h : s.kind = 4 ∨ s.kind = 5
 ·simp [h]
 ·simp [h]
theorem Rqz {α : Type} {f g h : α → Bool} (hp : ∀ a, f a = (g a && h a)) : ∀ l : List α, l.all f = (l.all g && l.all h)
 | [] => rfl
 | a :: r => by
  simp only [List.all_cons, hp a, Rqz hp r]
  cases g a <;> cases h a <;> simp
theorem Ruq (many : Int) : ∀ (d : Nat) (s : Stm), gOk many d s = (sOk d s && bS many s)
 | 0, s => by
  simp only [gOk, sOk, Rur, bS_eq]
  by_cases hh : hdr s
  ·by_cases hk : s.kind = 2 ∨ s.kind = 3
   ·simp [hk]
   ·have hl := Rtn hh (fun h => hk (.inl h)) (fun h => hk (.inr h))
    rw [hl.1, hl.2]
    simp [hh, hk, bSs]
  ·simp [hh]
 | d + 1, s => by
  simp only [gOk, sOk, Rur, bS_eq]
  by_cases hh : hdr s
  ·by_cases hk : s.kind = 2 ∨ s.kind = 3
   ·have hk4 : ¬ (s.kind = 4 ∨ s.kind = 5) := by omega
    rw [Rqz (Ruq many d) s.body, Rqz (Ruq many d) s.els, Rtb, Rtb]
    simp only [hk, if_true, hk4, Zz, Bool.false_and, Zx, hh, Zy, Bool.true_and, Bool.and_true]
    cases s.body.all (sOk d) <;> cases s.body.all (bS many) <;> cases s.els.all (sOk d) <;> simp
   ·have hl := Rtn hh (fun h => hk (.inl h)) (fun h => hk (.inr h))
    rw [hl.1, hl.2]
    simp [hh, hk, bSs]
  ·simp [hh]
theorem l12_l {l : List Stm} {many : Int} (hl : (l.length : Int) ≤ 4294967296) (hp : ∀ s ∈ l, Ro s.body many = some (bSs many s.body) ∧ Ro s.els many = some (bSs many s.els)) :
  ∀ (d i : Nat), i + d = l.length → Rbq l many i = some (if bSs many (l.drop i) then .inl () else .inr false)
 | 0, i, hd => by
  apply Rgs
  have hi : ¬ ((i : Int) < l.length) := by omega
  rw [List.drop_eq_nil_of_le (by omega)]
  simp [hi, bSs]
 | d + 1, i, hd => by
  apply Rgs
  have hi : i < l.length := by omega
  have hi' : (i : Int) < l.length := by omega
  obtain ⟨p1, p2⟩ := hp _ (List.getElem_mem hi)
  have e1 : bSs many (l.drop i) = (bS many l[i] && bSs many (l.drop (i + 1))) := by rw [List.drop_eq_getElem_cons hi]; simp only [bSs]
  rw [Raq hi, Rcg (by omega), l12_l hl hp d (i + 1) (by omega), e1, bS_eq]
  simp only [hi', Zy, Zt, Qb, p1, p2]
  by_cases h4 : l[i].kind = 4
  ·by_cases hb : many ≤ l[i].box <;> cases bSs many l[i].body <;> cases bSs many l[i].els <;> simp [h4, hb]
  ·by_cases h5 : l[i].kind = 5
   ·by_cases hb : many ≤ l[i].box <;> cases bSs many l[i].body <;> cases bSs many l[i].els <;> simp [h5, hb]
   ·cases bSs many l[i].body <;> cases bSs many l[i].els <;> simp [h4, h5]
theorem Ret {l : List Stm} {many : Int} (hl : (l.length : Int) ≤ 4294967296) (hp : ∀ s ∈ l, Ro s.body many = some (bSs many s.body) ∧ Ro s.els many = some (bSs many s.els)) : Ro l many = some (bSs many l) := by
 apply Rnw
 rw [show (0 : Int) = ((0 : Nat) : Int) by rfl, l12_l hl hp l.length 0 (by omega), List.drop_zero]
 cases bSs many l <;> simp [selm]
theorem Ruw (many : Int) : ∀ s : Stm, mS s ≤ 4294967296 → Ro s.body many = some (bSs many s.body) ∧ Ro s.els many = some (bSs many s.els) := by
 apply Stm.ind
 intro s ih1 ih2 hb
 rw [Rrm] at hb
 have l1 := Rcu s.body
 have l2 := Rcu s.els
 exact ⟨Ret (by omega) (fun a ha => ih1 a ha (by have := Riu ha; omega)), Ret (by omega) (fun a ha => ih2 a ha (by have := Riu ha; omega))⟩
theorem Rnv {l : List Stm} {many : Int} (hb : mSs l ≤ 4294967296) : Ro l many = some (bSs many l) :=
 Ret (by have := Rcu l; omega) (fun s hs => Ruw many s (by have := Riu hs; omega))
def gtOk (many : Int) (l : List Stm) : Bool := decide (l.all (gOk many 3) = true ∧ (cSs l : Int) ≤ 16)
theorem gtOk_eq (many : Int) (l : List Stm) : gtOk many l = (stOk l && bSs many l) := by
 unfold gtOk stOk
 rw [Rqz (Ruq many 3) l, Rtb]
 cases l.all (sOk 3) <;> cases l.all (bS many) <;> simp
theorem Rme {many : Int} (hmn : 0 ≤ many ∧ many ≤ 3) (l : List Stm) (hm : mSs l ≤ 4294967296) : Rgi l many = some (stOk l && bSs many l) := by
 apply Rkw
 obtain ⟨c, h, _⟩ := Rhm hmn 3 l 0 (by omega) hm (by omega) (by omega)
 rw [show (3 : Int) - ((3 : Nat) : Int) = 0 by omega] at h
 rw [h, Qb, ← gtOk_eq]
 simp [gtOk]
theorem Rqv {a : List Int} (hl : (a.length : Int) ≤ 4294967296) : ∀ (d i : Nat), i + d = a.length → Rdo a a i = some (.inl ())
 | 0, i, hd => by
  apply Rgm
  have hi : ¬ ((i : Int) < a.length) := by omega
  simp [hi]
 | d + 1, i, hd => by
  apply Rgm
  have hi : i < a.length := by omega
  have hi' : (i : Int) < a.length := by omega
  rw [Raq hi, Rcg (by omega)]
  simp only [hi', Zy, Zt, Qb, Zv, Zf]
  exact Rqv hl d (i + 1) (by omega)
theorem Rla {a : List Int} (hl : (a.length : Int) ≤ 4294967296) : Rib a a = some true := by
 apply Rnq
 rw [show (0 : Int) = ((0 : Nat) : Int) by rfl, Rqv hl a.length 0 (by omega)]
 simp [selm]
theorem Riq {a b : List UInt8} (h : a.length + b.length ≤ 1099511627776) : catS a b = some (a ++ b) := by
 unfold catS LIM; rw [if_pos h]
theorem Rut {n : Int} (h : wfI n) : strconv_Itoa n = some (Lib.itoa n) := by
 apply Rpm
 rw [if_pos h]
theorem Rea : ∀ (k u : Nat), u < 10 ^ k → (Lib.decDigits u).length ≤ max k 1
 | 0, u, h => by
  unfold Lib.decDigits
  have : u < 10 := by omega
  rw [dif_pos this]; simp
 | k + 1, u, h => by
  unfold Lib.decDigits
  split
  ·show 1 ≤ _; omega
  ·rename_i h10
   have h2 : u / 10 < 10 ^ k := by rw [Nat.pow_succ] at h; omega
   have := Rea k (u / 10) h2
   rw [Za]
   have hk : 1 ≤ k := by
    cases k with
    | zero => simp at h; omega
    | succ k => omega
   simp only [Zc, Zn]; omega
theorem Rre {n : Nat} (h : n < 10) : Tv.bytes [wrap64 (48 + (n : Int)) % 256] = [UInt8.ofNat (48 + n)] := by
 rw [wrap_id (by omega) (by omega)]
 have : ((48 + (n : Int)) % 256) = ((48 + n : Nat) : Int) := by omega
 rw [this]; rfl
theorem Row : ∀ (k u : Nat), u < 10 ^ k → k ≤ 19 → u ≤ 9223372036854775807 → Rcs (u : Int) = some (Lib.decDigits u)
 | 0, u, h, _, _ => by
  apply Rij
  have h0 : u < 10 := by omega
  have h1 : ¬ ((u : Int) < -9223372036854775807) := by omega
  have h2 : ¬ ((u : Int) < 0) := by omega
  have h3 : (u : Int) < 10 := by omega
  simp only [h1, h2, h3, Zz, Zy, Zf, Zt]
  rw [Rre h0]
  unfold Lib.decDigits
  rw [dif_pos h0]
 | k + 1, u, h, hk, hu => by
  apply Rij
  have h1 : ¬ ((u : Int) < -9223372036854775807) := by omega
  have h2 : ¬ ((u : Int) < 0) := by omega
  simp only [h1, h2, Zz, Zf]
  by_cases h3 : u < 10
  ·have h3' : (u : Int) < 10 := by omega
   simp only [h3', Zy, Zt]
   rw [Rre h3]
   unfold Lib.decDigits
   rw [dif_pos h3]
  ·have h3' : ¬ ((u : Int) < 10) := by omega
   simp only [h3', Zz, Zf]
   have hd : Int.tdiv (u : Int) 10 = ((u / 10 : Nat) : Int) := by
    rw [Int.tdiv_eq_ediv_of_nonneg (by omega)]; rfl
   have hm : Int.tmod (u : Int) 10 = ((u % 10 : Nat) : Int) := by
    rw [Int.tmod_eq_emod_of_nonneg (by omega)]; rfl
   have hlt : u / 10 < 10 ^ k := by rw [Nat.pow_succ] at h; omega
   rw [hd, hm, wrap_id (n := ((u / 10 : Nat) : Int)) (by omega) (by omega), Row k (u / 10) hlt (by omega) (by omega), Qb, Rre (by omega)]
   have hl := Rea k (u / 10) hlt
   rw [Riq (by simp only [Zc, Zn]; omega), Qb]
   conv => rhs; unfold Lib.decDigits
   rw [dif_neg h3]
theorem Rlm {n : Int} (h : wfI n) : Rcs n = some (Lib.itoa n) := by
 by_cases h0 : 0 ≤ n
 ·obtain ⟨u, rfl⟩ := Int.eq_ofNat_of_zero_le h0
  rw [Row 19 u (by have := h.2; omega) (by omega) (by have := h.2; omega), Lib.itoa_nonneg]
 ·apply Rij
  by_cases hm : n < -9223372036854775807
  ·have : n = -9223372036854775808 := by have := h.1; omega
   subst this
   simp only [show ((-9223372036854775808 : Int) < -9223372036854775807) = True by simp, Zy, Zt]
   have e : Lib.itoa (-9223372036854775808) = [45, 57, 50, 50, 51, 51, 55, 50, 48, 51, 54, 56, 53, 52, 55, 55, 53, 56, 48, 56] := by
    decide +kernel
   rw [e]
  ·have h2 : n < 0 := by omega
   simp only [hm, h2, Zz, Zy, Zf, Zt]
   have e : wrap64 (0 - n) = ((n.natAbs : Nat) : Int) := by rw [wrap_id (by omega) (by omega)]; omega
   rw [e, Row 19 n.natAbs (by omega) (by omega) (by omega), Qb]
   have hl := Rea 19 n.natAbs (by omega)
   rw [Riq (by simp only [Zc, Zn]; omega), Qb]
   unfold Lib.itoa
   rw [if_pos h2]; rfl
def opTs : List (List UInt8) := [[124], [94], [38], [61, 61], [60], [60, 60], [62, 62], [43], [45], [42], [47], [37]]
def opT (n : Int) : List UInt8 := if 1 ≤ n ∧ n ≤ 12 then opTs.getD (n - 1).toNat [] else []
theorem Rrn {n : Int} (h0 : 1 ≤ n) (h1 : n ≤ 12) : opTs[(n - 1).toNat]? = some (opT n) := by
 unfold opT
 rw [if_pos ⟨h0, h1⟩, List.getD_eq_getElem?_getD]
 have hl : (n - 1).toNat < opTs.length := by show (n - 1).toNat < 12; omega
 rw [List.getElem?_eq_getElem hl]; rfl
theorem opT_len (n : Int) : (opT n).length ≤ 2 := by
 unfold opT
 split
 ·have : ∀ i : Fin 12, (opTs.getD i.val []).length ≤ 2 := by decide
  exact this ⟨(n - 1).toNat, by omega⟩
 ·simp
theorem Rpt (n : Int) : Rke n = some (opT n) := by
 apply Rpu
 rw [Rgn, Qb]
 by_cases h : 1 ≤ n ∧ n ≤ 12
 ·simp only [h, and_self, Zy, Zv, Zf]
  rw [wrap_id (by omega) (by omega)]
  unfold geti
  rw [if_pos (by omega)]
  rw [show ([[124], [94], [38], [61, 61], [60], [60, 60], [62, 62], [43], [45], [42], [47], [37]] : List (List UInt8)) = opTs from rfl, Rrn h.1 h.2]; rfl
 ·simp only [h, Zz, Zx, Zt]
  unfold opT; rw [if_neg h]
theorem Rpp (n : Int) : Rjs n = some (opT n) := by
 apply Rpq
 rw [Rge, Qb]
 by_cases h : 1 ≤ n ∧ n ≤ 12
 ·simp only [h, and_self, Zy, Zv, Zf]
  rw [wrap_id (by omega) (by omega)]
  unfold geti
  rw [if_pos (by omega)]
  rw [show ([[124], [94], [38], [61, 61], [60], [60, 60], [62, 62], [43], [45], [42], [47], [37]] : List (List UInt8)) = opTs from rfl, Rrn h.1 h.2]; rfl
 ·simp only [h, Zz, Zx, Zt]
  unfold opT; rw [if_neg h]
abbrev Tok := List UInt8
def dg (c : UInt8) : Bool := decide (48 ≤ c.toNat ∧ c.toNat ≤ 57)
def lt (c : UInt8) : Bool := decide (97 ≤ c.toNat ∧ c.toNat ≤ 122)
def bl (c : UInt8) : Bool := decide (c.toNat = 32 ∨ c.toNat = 10)
def syms : List UInt8 := [43, 45, 42, 47, 37, 38, 124, 94, 60, 62, 40, 41, 123, 125, 61, 59]
def ones : List UInt8 := [124, 94, 38, 60, 43, 45, 42, 47, 37, 40, 41, 123, 125, 61, 59]
def twos : List (List UInt8) := [[61, 61], [60, 60], [62, 62]]
def Rq : List UInt8 → Nat
 | [] => 0
 | c :: r =>
  if dg c then 1 + (r.takeWhile dg).length
  else if lt c then 1 + (r.takeWhile lt).length
  else if twos.any (fun t => t.isPrefixOf (c :: r)) then 2
  else if c ∈ ones then 1 else 0
theorem Rsl : ∀ l : List UInt8, Rq l ≤ l.length
 | [] => Nat.le_refl _
 | c :: r => by
  have h1 := (List.takeWhile_sublist (l := r) dg).length_le
  have h2 := (List.takeWhile_sublist (l := r) lt).length_le
  have h3 : twos.any (fun t => t.isPrefixOf (c :: r)) = true → 2 ≤ (c :: r).length := by
   intro h
   obtain ⟨t, ht, hp⟩ := List.any_eq_true.mp h
   have := (List.isPrefixOf_iff_prefix.mp hp).length_le
   have : t.length = 2 := by
    unfold twos at ht
    simp only [Zo, List.not_mem_nil, or_false] at ht
    rcases ht with rfl | rfl | rfl <;> rfl
   omega
  simp only [Rq]
  by_cases c1 : dg c = true
  ·simp only [c1, if_true, Zc]; omega
  ·simp only [c1, Bool.false_eq_true, if_false]
   by_cases c2 : lt c = true
   ·simp only [c2, if_true, Zc]; omega
   ·simp only [c2, Bool.false_eq_true, if_false]
    by_cases c3 : twos.any (fun t => t.isPrefixOf (c :: r)) = true
    ·simp only [c3, if_true]; exact h3 c3
    ·simp only [c3, Bool.false_eq_true, if_false]
     by_cases c4 : c ∈ ones
     ·simp only [c4, if_true, Zc]; simp
     ·simp [c4]
def toks : List UInt8 → Option (List Tok)
 | [] => some []
 | c :: r =>
  if bl c then toks r
  else if h : Rq (c :: r) = 0 then none
  else bnd (toks ((c :: r).drop (Rq (c :: r)))) fun t => some ((c :: r).take (Rq (c :: r)) :: t)
termination_by l => l.length
decreasing_by
 ·simp
 ·simp only [List.length_drop, Zc]; omega
theorem w1n {n : Nat} (h : n ≤ 1000000000000) : wrap64 ((n : Int) + 1) = ((n + 1 : Nat) : Int) := by rw [wrap_id (by omega) (by omega)]; rfl
theorem Rda {α : Type} {l : List α} {i : Nat} (h : i < l.length) : geti l (i : Int) = some l[i] := by rw [geti_nat', List.getElem?_eq_getElem h]
theorem Rcb (c : UInt8) : Rfa (c.toNat : Int) = some (dg c) := by
 apply Ror
 unfold dg
 by_cases h : 48 ≤ c.toNat
 ·have h' : (48 : Int) ≤ c.toNat := by omega
  simp only [h', Zy, Zt, h, true_and]
  congr 1; congr 1; apply propext; omega
 ·have h' : ¬ (48 : Int) ≤ c.toNat := by omega
  simp only [h', Zz, Zf, h, false_and]
theorem Rnn (c : UInt8) : Rhz (c.toNat : Int) = some (lt c) := by
 apply Rno
 unfold lt
 by_cases h : 97 ≤ c.toNat
 ·have h' : (97 : Int) ≤ c.toNat := by omega
  simp only [h', Zy, Zt, h, true_and]
  congr 1; congr 1; apply propext; omega
 ·have h' : ¬ (97 : Int) ≤ c.toNat := by omega
  simp only [h', Zz, Zf, h, false_and]
theorem Rtk {s : List UInt8} (hs : s.length ≤ 1000000000) (t9 t10 : Int) : ∀ (d i : Nat), i + d = s.length →
  Rv s i t9 t10 = some (s, ((i + ((s.drop i).takeWhile dg).length : Nat) : Int), t9, t10)
 | 0, i, h => by
  apply Rcc
  have h1 : ¬ ((i : Int) < s.length) := by omega
  simp only [h1, Zz, Zf]
  rw [List.drop_eq_nil_of_le (by omega)]; rfl
 | d + 1, i, h => by
  apply Rcc
  have h1 : (i : Int) < s.length := by omega
  have hl : i < s.length := by omega
  simp only [h1, Zy, Zt]
  rw [Rda hl, Qb, Rcb, Qb, List.drop_eq_getElem_cons hl, List.takeWhile_cons]
  cases hd : dg s[i]
  ·simp
  ·simp only [Zt, if_true]
   rw [w1n (by omega), Rtk hs t9 t10 d (i + 1) (by omega)]
   simp only [Zc]
   rw [Nat.add_assoc, Nat.add_comm 1]
theorem Rse {s : List UInt8} (hs : s.length ≤ 1000000000) (t9 t10 : Int) : ∀ (d i : Nat), i + d = s.length →
  Rw s i t9 t10 = some (s, ((i + ((s.drop i).takeWhile lt).length : Nat) : Int), t9, t10)
 | 0, i, h => by
  apply Rcd
  have h1 : ¬ ((i : Int) < s.length) := by omega
  simp only [h1, Zz, Zf]
  rw [List.drop_eq_nil_of_le (by omega)]; rfl
 | d + 1, i, h => by
  apply Rcd
  have h1 : (i : Int) < s.length := by omega
  have hl : i < s.length := by omega
  simp only [h1, Zy, Zt]
  rw [Rda hl, Qb, Rnn, Qb, List.drop_eq_getElem_cons hl, List.takeWhile_cons]
  cases hd : lt s[i]
  ·simp
  ·simp only [Zt, if_true]
   rw [w1n (by omega), Rse hs t9 t10 d (i + 1) (by omega)]
   simp only [Zc]
   rw [Nat.add_assoc, Nat.add_comm 1]
theorem Rmv {s : List UInt8} (hs : s.length ≤ 1000000000) : Rbf s 2 0 =
  some (if 0 < (s.takeWhile dg).length then .inr (s, ((s.takeWhile dg).length : Int)) else if 0 < (s.takeWhile lt).length then .inr (s, ((s.takeWhile lt).length : Int)) else .inl s) := by
 apply Rct
 have e0 := Rtk hs 2 0 s.length 0 (by omega)
 have e1 := Rse hs 2 1 s.length 0 (by omega)
 simp only [List.drop_zero, Nat.zero_add, Int.ofNat_zero, Int.natCast_zero] at e0 e1
 simp only [show (0 : Int) < 2 by omega, Zy, Zt]
 rw [show (0 : Int) = ((0 : Nat) : Int) from rfl] at e0
 rw [show Rv s 0 2 0 = _ from e0, Qb]
 by_cases h0 : 0 < (s.takeWhile dg).length
 ·have h0' : (0 : Int) < ((s.takeWhile dg).length : Int) := by omega
  simp only [h0', Zy, Zt, h0, if_true]
 ·have h0' : ¬ (0 : Int) < ((s.takeWhile dg).length : Int) := by omega
  simp only [h0', Zz, Zf, h0, if_false]
  rw [show wrap64 (((0 : Nat) : Int) + 1) = 1 from w01]
  apply Rct
  simp only [show (1 : Int) < 2 by omega, show ¬ (1 : Int) = 0 by omega, show (1 : Int) - 1 = 0 by omega, Zy, Zz, Zf, Zt]
  rw [show Rw s 0 2 1 = _ from e1, Qb]
  by_cases h1 : 0 < (s.takeWhile lt).length
  ·have h1' : (0 : Int) < ((s.takeWhile lt).length : Int) := by omega
   simp only [h1', Zy, Zt, h1, if_true]
  ·have h1' : ¬ (0 : Int) < ((s.takeWhile lt).length : Int) := by omega
   simp only [h1', Zz, Zf, h1, if_false]
   rw [show wrap64 (1 + 1) = 2 from w11]
   apply Rct
   simp only [show ¬ (2 : Int) < 2 by omega, Zz, Zf]
theorem Rev {s : List UInt8} (m : Md) (l : List (List UInt8)) (hl : l.length ≤ 1000) : ∀ (d i : Nat), i + d = l.length →
  Rbg s m l l.length i = some (if (l.drop i).any (fun t => t.isPrefixOf s) then .inr (s, 2) else .inl s)
 | 0, i, h => by
  apply Rel
  have h1 : ¬ ((i : Int) < l.length) := by omega
  simp only [h1, Zz, Zf]
  rw [List.drop_eq_nil_of_le (by omega)]; rfl
 | d + 1, i, h => by
  apply Rel
  have h1 : (i : Int) < l.length := by omega
  have hi : i < l.length := by omega
  simp only [h1, Zy, Zt]
  have hp : strings_HasPrefix s l[i] = some (l[i].isPrefixOf s) := Rjm _ _ _ rfl
  rw [Rda hi, Qb, hp, Qb, List.drop_eq_getElem_cons hi, List.any_cons]
  cases l[i].isPrefixOf s
  ·simp only [Zf, Bool.false_or]
   rw [w1n (by omega), Rev m l hl d (i + 1) (by omega)]
  ·simp
theorem Rou (c : UInt8) : ∀ l : List UInt8, (0 ≤ Lib.indexByte l c ↔ c ∈ l) ∧ -1 ≤ Lib.indexByte l c
 | [] => by simp [Lib.indexByte]
 | a :: r => by
  have ih := Rou c r
  unfold Lib.indexByte
  by_cases h : a = c
  ·subst h; simp
  ·have h' : ¬ c = a := fun e => h e.symm
   simp only [h, h', if_false, Zo, false_or, beq_iff_eq]
   by_cases hc : c ∈ r
   ·have h2 := ih.1.mpr hc
    simp only [hc, iff_true]
    split <;> omega
   ·have h2 : ¬ 0 ≤ Lib.indexByte r c := fun h => hc (ih.1.mp h)
    simp only [hc, iff_false]
    split <;> omega
theorem Rgj {s : List UInt8} (hs : s.length ≤ 1000000000) : Rco s = some (Rq s : Int) := by
 apply Rjz
 rw [show ((([33100, 33200] : List Nat).length : Nat) : Int) = 2 from rfl, Rmv hs, Qb]
 cases s with
 | nil =>
  simp only [List.takeWhile_nil, Zn, Nat.lt_irrefl, if_false, selm]
  rw [show (0 : Int) = ((0 : Nat) : Int) from rfl, Rev _ _ (by decide) 3 0 (by decide), Qb]
  rfl
 | cons c r =>
  simp only [List.takeWhile_cons, Rq]
  cases hd : dg c
  ·simp only [Bool.false_eq_true, if_false, Zn, Nat.lt_irrefl]
   cases hl : lt c
   ·simp only [Bool.false_eq_true, if_false, Zn, Nat.lt_irrefl, selm]
    rw [show Rbg (c :: r) .full ([[61, 61], [60, 60], [62, 62]] : List (List UInt8)) (([[61, 61], [60, 60], [62, 62]] : List (List UInt8)).length : Int) 0 = _ from Rev _ _ (by decide) 3 0 (by decide), Qb]
    rw [List.drop_zero]
    change selm (if twos.any (fun t => t.isPrefixOf (c :: r)) = true then _ else _) _ _ = some (((if twos.any (fun t => t.isPrefixOf (c :: r)) = true then 2 else if c ∈ ones then 1 else 0 : Nat)) : Int)
    by_cases c3 : twos.any (fun t => t.isPrefixOf (c :: r)) = true
    ·simp only [c3, if_true, selm]; rfl
    ·simp only [c3, if_false, selm, Bool.false_eq_true]
     rw [show ((c :: r : List UInt8) == []) = false from rfl]
     simp only [Zx, Zt]
     rw [show geti (c :: r) 0 = some c from Rkn _ _, Qb]
     have hi : strings_IndexByte ([124, 94, 38, 60, 43, 45, 42, 47, 37, 40, 41, 123, 125, 61, 59]) (c.toNat : Int) = some (Lib.indexByte ones c) := by
      apply Rjn _ _
      have e : ((c.toNat : Int).toNat.toUInt8) = c := by
       rw [Int.toNat_natCast]; exact UInt8.ofNat_toNat
      rw [e]; rfl
     rw [hi, Qb]
     by_cases c4 : c ∈ ones
     ·have := (Rou c ones).1.mpr c4
      simp [this, c4]
     ·have : ¬ 0 ≤ Lib.indexByte ones c := fun h => c4 ((Rou c ones).1.mp h)
      simp [this, c4]
   ·simp only [if_true, Zc, selm, Nat.zero_lt_succ]
    rw [Nat.add_comm]
  ·simp only [if_true, Zc, selm, Nat.zero_lt_succ]
   rw [Nat.add_comm]
theorem Rci {α : Type} {l : List α} {a : α} (h : l.length ≤ 1000000) : appL l [a] = some (l ++ [a]) := by
 unfold appL; rw [if_pos (by simp only [Zc, Zn]; omega)]
theorem Rok {α : Type} {l : List α} {lo hi : Nat} (h1 : lo ≤ hi) (h2 : hi ≤ l.length) : cutL l (lo : Int) (hi : Int) = some ((l.take hi).drop lo) := by
 unfold cutL
 rw [if_pos (by omega), Int.toNat_natCast, Int.toNat_natCast]
theorem Rjo {α : Type} (l : List α) (i n : Nat) : (l.take (i + n)).drop i = (l.drop i).take n := by
 rw [List.drop_take]; congr 1; omega
theorem Roh : toks [] = some [] := by unfold toks; rfl
theorem Rsw {c : UInt8} (r : List UInt8) (h : bl c = true) : toks (c :: r) = toks r := by
 conv => lhs; unfold toks
 rw [if_pos h]
theorem Rwq {c : UInt8} {r : List UInt8} (h : bl c = false) (h0 : Rq (c :: r) = 0) : toks (c :: r) = none := by
 unfold toks
 rw [if_neg (by simp [h]), dif_pos h0]
theorem Roi {c : UInt8} {r : List UInt8} (h : bl c = false) (h0 : Rq (c :: r) ≠ 0) :
  toks (c :: r) = bnd (toks ((c :: r).drop (Rq (c :: r)))) fun t => some ((c :: r).take (Rq (c :: r)) :: t) := by
 conv => lhs; unfold toks
 rw [if_neg (by simp [h]), dif_neg h0]
theorem Rhy {s : List UInt8} (hs : s.length ≤ 20000) : ∀ (d i : Nat) (b : Bool) (l : List Tok), s.length ≤ i + d → l.length ≤ i → i ≤ s.length →
  (∀ t, toks (s.drop i) = some t → ∃ b', Rs s b l i = some (.inl (b', l ++ t))) ∧
  (toks (s.drop i) = none → ∃ b' l', Rs s b l i = some (.inr ((false, []), false, (b', l'))))
 | d, i, b, l, h, hl, hi => by
  by_cases hlt : i < s.length
  ·have h1 : (i : Int) < s.length := by omega
   obtain ⟨d, rfl⟩ : ∃ d', d = d' + 1 := ⟨d - 1, by omega⟩
   have e := List.drop_eq_getElem_cons hlt
   have hg : geti s (i : Int) = some s[i] := Rda hlt
   generalize s[i] = c at e hg
   cases hb : bl c
   ·have hb' : ¬ ((c.toNat : Int) = 32) ∧ ¬ ((c.toNat : Int) = 10) := by
     unfold bl at hb
     have := of_decide_eq_false hb
     omega
    have hc : cutL s (i : Int) (s.length : Int) = some (s.drop i) := by
     rw [Rok (by omega) (by omega), List.take_length]
    have ht : Rco (s.drop i) = some (Rq (s.drop i) : Int) := Rgj (by simp only [List.length_drop]; omega)
    have hle := Rsl (s.drop i)
    rw [List.length_drop] at hle
    by_cases h0 : Rq (s.drop i) = 0
    ·have hn : toks (s.drop i) = none := by rw [e]; exact Rwq hb (by rw [← e]; exact h0)
     rw [hn]
     refine ⟨fun t h => by (cases h), fun _ => ⟨b, l, ?_⟩⟩
     apply Rdf
     simp only [h1, Zy, Zt, hg, Qb, hb'.1, hb'.2, Zz, Zf, hc, ht, h0, Int.ofNat_zero, Int.natCast_zero]
    ·have hn : toks (s.drop i) = bnd (toks (s.drop (i + Rq (s.drop i)))) fun t => some ((s.drop i).take (Rq (s.drop i)) :: t) := by
      conv => lhs; rw [e]
      rw [Roi hb (by rw [← e]; exact h0), ← e, List.drop_drop]
     rw [hn]
     have ih := Rhy hs d (i + Rq (s.drop i)) true (l ++ [(s.drop i).take (Rq (s.drop i))]) (by omega) (by simp only [Za, Zc, Zn]; omega) (by omega)
     have hw : wrap64 ((i : Int) + (Rq (s.drop i) : Int)) = ((i + Rq (s.drop i) : Nat) : Int) := by rw [wrap_id (by omega) (by omega)]; rfl
     have h0' : ¬ ((Rq (s.drop i) : Int) = 0) := by omega
     have hc2 : cutL s (i : Int) ((i + Rq (s.drop i) : Nat) : Int) = some ((s.drop i).take (Rq (s.drop i))) := by
      rw [Rok (by omega) (by omega), Rjo]
     have step : ∀ x, Rs s true (l ++ [(s.drop i).take (Rq (s.drop i))]) ((i + Rq (s.drop i) : Nat) : Int) = some x → Rs s b l i = some x := by
      intro x hx
      apply Rdf
      simp only [h1, Zy, Zt, hg, Qb, hb'.1, hb'.2, Zz, Zf, hc, ht, h0', hw, hc2]
      rw [Rci (by omega), Qb, hx]
     refine ⟨fun t h => ?_, fun h => ?_⟩
     ·cases ht2 : toks (s.drop (i + Rq (s.drop i))) with
      | none => rw [ht2] at h; cases h
      | some t2 =>
       rw [ht2, Qb] at h
       injection h with h
       subst h
       obtain ⟨b', hx⟩ := ih.1 t2 ht2
       refine ⟨b', step _ ?_⟩
       rw [hx, List.append_assoc]; rfl
     ·cases ht2 : toks (s.drop (i + Rq (s.drop i))) with
      | none =>
       obtain ⟨b', l', hx⟩ := ih.2 ht2
       exact ⟨b', l', step _ hx⟩
      | some t2 => rw [ht2, Qb] at h; cases h
   ·have hn : toks (s.drop i) = toks (s.drop (i + 1)) := by rw [e]; exact Rsw _ hb
    rw [hn]
    have ih := Rhy hs d (i + 1) b l (by omega) (by omega) (by omega)
    have step : ∀ x, Rs s b l ((i + 1 : Nat) : Int) = some x → Rs s b l i = some x := by
     intro x hx
     apply Rdf
     have hb' := of_decide_eq_true hb
     by_cases h32 : (c.toNat : Int) = 32
     ·simp only [h1, Zy, Zt, hg, Qb, h32]
      rw [w1n (by omega), hx]
     ·have h10 : (c.toNat : Int) = 10 := by omega
      simp only [h1, Zy, Zt, hg, Qb, h10, show ¬ ((10 : Int) = 32) by omega, Zz, Zf]
      rw [w1n (by omega), hx]
    refine ⟨fun t h => ?_, fun h => ?_⟩
    ·obtain ⟨b', hx⟩ := ih.1 t h
     exact ⟨b', step _ hx⟩
    ·obtain ⟨b', l', hx⟩ := ih.2 h
     exact ⟨b', l', step _ hx⟩
  ·rw [List.drop_eq_nil_of_le (by omega), Roh]
   refine ⟨fun t h => ⟨b, ?_⟩, fun h => by cases h⟩
   injection h with h
   subst h
   apply Rdf
   have h1 : ¬ ((i : Int) < s.length) := by omega
   simp only [h1, Zz, Zf, List.append_nil]
theorem Rhk (s : List UInt8) : Rjv s = some (if 20000 < s.length then ([], false) else match toks s with | some t => (t, true) | none => ([], false)) := by
 apply Rpr
 by_cases h : 20000 < s.length
 ·have h' : (20000 : Int) < s.length := by omega
  simp only [h, h', Zy, Zt, if_true]
 ·have h' : ¬ (20000 : Int) < s.length := by omega
  simp only [h, h', Zz, Zf, if_false]
  have := Rhy (s := s) (by omega) s.length 0 false [] (by omega) (by simp) (by omega)
  rw [List.drop_zero] at this
  cases ht : toks s with
  | some t =>
   obtain ⟨b', e⟩ := this.1 t ht
   rw [show Rs s false [] 0 = _ from e, Qb]; rfl
  | none =>
   obtain ⟨b', l', e⟩ := this.2 ht
   rw [show Rs s false [] 0 = _ from e, Qb]; rfl
def knd (c : UInt8) : Int := if dg c then 1 else if lt c then 2 else if bl c then 3 else if c ∈ syms then 4 else 0
theorem Rtp (c : UInt8) (l : List UInt8) (hl : l.length ≤ 1000) : ∀ (d i : Nat), i + d = l.length →
  Rba (c.toNat : Int) l i = some (if c ∈ l.drop i then .inr 4 else .inl ())
 | 0, i, h => by
  apply Rhv
  have h1 : ¬ ((i : Int) < l.length) := by omega
  simp only [h1, Zz, Zf]
  rw [List.drop_eq_nil_of_le (by omega)]; rfl
 | d + 1, i, h => by
  apply Rhv
  have h1 : (i : Int) < l.length := by omega
  have hi : i < l.length := by omega
  simp only [h1, Zy, Zt]
  rw [Rda hi, Qb, List.drop_eq_getElem_cons hi]
  by_cases hc : l[i] = c
  ·simp only [hc, Zy, Zt, Zo, true_or, if_true]
  ·have hc' : ¬ ((l[i].toNat : Int) = (c.toNat : Int)) := fun e => hc (UInt8.toNat_inj.mp (by omega))
   have hc2 : ¬ c = l[i] := fun e => hc e.symm
   simp only [hc', Zz, Zf, Zo, hc2, false_or]
   rw [w1n (by omega), Rtp c l hl d (i + 1) (by omega)]
theorem Rhp (c : UInt8) : Rgv (c.toNat : Int) = some (knd c) := by
 apply Rpx
 have e := Rtp c syms (by decide) 16 0 (by decide)
 rw [List.drop_zero] at e
 have e' : Rba (c.toNat : Int) ([43, 45, 42, 47, 37, 38, 124, 94, 60, 62, 40, 41, 123, 125, 61, 59]) 0 = some (if c ∈ syms then .inr 4 else .inl ()) := e
 rw [e']
 simp only [Qb]
 unfold knd dg lt bl
 by_cases h1 : (48 : Int) ≤ c.toNat <;> by_cases h2 : (c.toNat : Int) ≤ 57 <;> by_cases h3 : (97 : Int) ≤ c.toNat <;> by_cases h4 : (c.toNat : Int) ≤ 122 <;>
  by_cases h5 : (c.toNat : Int) = 32 <;> by_cases h6 : (c.toNat : Int) = 10 <;> try omega
 all_goals
  have g1 : (48 ≤ c.toNat) = ((48 : Int) ≤ c.toNat) := propext (by omega)
  have g2 : (c.toNat ≤ 57) = ((c.toNat : Int) ≤ 57) := propext (by omega)
  have g3 : (97 ≤ c.toNat) = ((97 : Int) ≤ c.toNat) := propext (by omega)
  have g4 : (c.toNat ≤ 122) = ((c.toNat : Int) ≤ 122) := propext (by omega)
  have g5 : (c.toNat = 32) = ((c.toNat : Int) = 32) := propext (by omega)
  have g6 : (c.toNat = 10) = ((c.toNat : Int) = 10) := propext (by omega)
  simp only [g1, g2, g3, g4, g5, g6, h1, h2, h3, h4, h5, h6, Zy, Zz, Zt, Zf, true_and, and_true, and_false, false_and, or_true, or_false, false_or, if_true, if_false, Bool.false_eq_true]
  try (first | rfl | (split <;> rfl))
theorem Rye {c : UInt8} (h : dg c = true) : knd c = 1 := by unfold knd; rw [if_pos h]
theorem dg_lt {c : UInt8} (h : lt c = true) : dg c = false := by unfold dg lt at *; have := of_decide_eq_true h; apply Zq; omega
theorem Ryf {c : UInt8} (h : lt c = true) : knd c = 2 := by unfold knd; rw [if_neg (by simp [dg_lt h]), if_pos h]
theorem knd_one {c : UInt8} : (knd c = 1) ↔ dg c = true := by
 refine ⟨fun h => ?_, Rye⟩
 unfold knd at h
 split at h
 ·assumption
 ·split at h; · cases h
  split at h; · cases h
  split at h <;> cases h
theorem knd_two {c : UInt8} : (knd c = 2) ↔ lt c = true := by
 refine ⟨fun h => ?_, Ryf⟩
 unfold knd at h
 split at h; · cases h
 split at h
 ·assumption
 ·split at h; · cases h
  split at h <;> cases h
theorem Ruj {c : UInt8} (h : bl c = true) : dg c = false ∧ lt c = false := by
 unfold dg lt bl at *; have := of_decide_eq_true h
 exact ⟨Zq (by omega), Zq (by omega)⟩
theorem Ruv {c : UInt8} : (knd c = 3) ↔ bl c = true := by
 refine ⟨fun h => ?_, fun h => ?_⟩
 ·unfold knd at h
  split at h; · cases h
  split at h; · cases h
  split at h
  ·assumption
  ·split at h <;> cases h
 ·obtain ⟨h1, h2⟩ := Ruj h
  unfold knd; simp [h, h1, h2]
theorem Rst {s : List UInt8} (hs : s.length ≤ 1000000000) {at0 : Nat} (ha : at0 < s.length) {p : UInt8 → Bool} (hp : ∀ c, (knd c = knd s[at0]) ↔ p c = true) : ∀ (d i : Nat), i + d = s.length →
  Rga s at0 i = some ((i + ((s.drop i).takeWhile p).length : Nat) : Int)
 | 0, i, h => by
  apply Rio
  have h1 : ¬ ((i : Int) < s.length) := by omega
  simp only [h1, Zz, Zf]
  rw [List.drop_eq_nil_of_le (by omega)]; rfl
 | d + 1, i, h => by
  apply Rio
  have h1 : (i : Int) < s.length := by omega
  have hl : i < s.length := by omega
  simp only [h1, Zy, Zt]
  rw [Rda hl, Qb, Rhp, Qb, Rda ha, Qb, Rhp, Qb, List.drop_eq_getElem_cons hl, List.takeWhile_cons]
  cases hd : p s[i]
  ·have : ¬ (knd s[i] = knd s[at0]) := by rw [hp]; simp [hd]
   simp only [this, Zz, Zf]; simp
  ·have : knd s[i] = knd s[at0] := (hp _).mpr hd
   simp only [this, Zy, Zt, if_true]
   rw [w1n (by omega), Rst hs ha hp d (i + 1) (by omega)]
   simp only [Zc]
   rw [Nat.add_assoc, Nat.add_comm 1]
theorem Rxg (s : List UInt8) : Rmr s = some (twos.contains s) := by
 apply Rrq
 unfold twos
 by_cases h1 : s = [60, 60]
 ·subst h1; rfl
 ·by_cases h2 : s = [62, 62]
  ·subst h2; rfl
  ·by_cases h3 : s = [61, 61]
   ·subst h3; rfl
   ·have e1 : (s == [60, 60]) = false := by rw [beq_eq_false_iff_ne]; exact h1
    have e2 : (s == [62, 62]) = false := by rw [beq_eq_false_iff_ne]; exact h2
    have e3 : (s == [61, 61]) = false := by rw [beq_eq_false_iff_ne]; exact h3
    rw [e1, e2, e3]
    simp only [Zf, List.contains_cons, e1, e2, e3, Bool.or_false, List.contains_nil]
theorem Rlv (c d : UInt8) (r : List UInt8) : twos.any (fun t => t.isPrefixOf (c :: d :: r)) = twos.contains [c, d] := by
 unfold twos
 have key : ∀ x : UInt8, ([x, x] : List UInt8).isPrefixOf (c :: d :: r) = ([c, d] == [x, x]) := by
  intro x
  have e1 : (x == c) = (c == x) := by rw [Bool.eq_iff_iff]; simp only [beq_iff_eq]; exact eq_comm
  have e2 : (x == d) = (d == x) := by rw [Bool.eq_iff_iff]; simp only [beq_iff_eq]; exact eq_comm
  simp only [List.isPrefixOf, Bool.and_true, e1, e2]
  show _ = (c == x && (d == x && true))
  rw [Bool.and_true]
 simp only [List.any_cons, List.any_nil, key, List.contains_cons, List.contains_nil]
theorem Rrv (c : UInt8) : twos.any (fun t => t.isPrefixOf [c]) = false := by
 unfold twos
 simp [List.isPrefixOf]
theorem Rsm {c : UInt8} {r : List UInt8} (h : ¬ c ∈ syms) : twos.any (fun t => t.isPrefixOf (c :: r)) = false := by
 cases r with
 | nil => exact Rrv c
 | cons d r =>
  rw [Rlv]
  cases hc : twos.contains [c, d] with
  | false => rfl
  | true =>
   exfalso
   rw [List.contains_iff_mem] at hc
   unfold twos at hc
   simp only [Zo, List.cons.injEq, List.not_mem_nil, or_false] at hc
   apply h
   rcases hc with ⟨rfl, _⟩ | ⟨rfl, _⟩ | ⟨rfl, _⟩ <;> decide
theorem Rpa {c : UInt8} : (c ∈ ones ↔ c ∈ syms ∧ c ≠ 62) := by
 unfold ones syms
 simp only [Zo, List.not_mem_nil, or_false]
 constructor
 ·intro h
  rcases h with rfl | rfl | rfl | rfl | rfl | rfl | rfl | rfl | rfl | rfl | rfl | rfl | rfl | rfl | rfl <;> decide
 ·intro ⟨h, h2⟩
  rcases h with rfl | rfl | rfl | rfl | rfl | rfl | rfl | rfl | rfl | rfl | rfl | rfl | rfl | rfl | rfl | rfl <;> first | decide | exact absurd rfl h2
theorem Rux {s : List UInt8} (hs : s.length ≤ 1000000000) {i : Nat} {c : UInt8} (hi : i < s.length) (hg : geti s (i : Int) = some c) {r : List UInt8} (ed : s.drop i = c :: r) (h1 : dg c = false) (h2 : lt c = false) (hb : bl c = false) :
  Rgc s i = some (if Rq (s.drop i) = 0 then -1 else ((i + Rq (s.drop i) : Nat) : Int)) := by
 apply Rfz
 rw [hg, Qb, Rhp, Qb]
 have hk : knd c = if c ∈ syms then 4 else 0 := by unfold knd; rw [if_neg (by simp [h1]), if_neg (by simp [h2]), if_neg (by simp [hb])]
 have ht : Rq (c :: r) = if twos.any (fun t => t.isPrefixOf (c :: r)) then 2 else if c ∈ ones then 1 else 0 := by
  simp only [Rq, h1, h2, Bool.false_eq_true, if_false]
 have hlen : s.length = i + (r.length + 1) := by
  have := congrArg List.length ed
  rw [List.length_drop, Zc] at this; omega
 have hw1 : wrap64 ((i : Int) + 1) = ((i + 1 : Nat) : Int) := w1n (by omega)
 have hw2 : wrap64 ((i : Int) + 2) = ((i + 2 : Nat) : Int) := by rw [wrap_id (by omega) (by omega)]; rfl
 rw [hk, hw1, hw2, ed]
 by_cases h4 : c ∈ syms
 ·have tail : (bif decide ((c.toNat : Int) = 62) then some (-1) else some ((i + 1 : Nat) : Int)) = some (if (if c ∈ ones then 1 else 0) = 0 then (-1 : Int) else ((i + (if c ∈ ones then 1 else 0) : Nat) : Int)) := by
   by_cases h62 : c = 62
   ·subst h62; rfl
   ·have ho : c ∈ ones := Rpa.mpr ⟨h4, h62⟩
    have hn : ¬ ((c.toNat : Int) = 62) := fun e => h62 (UInt8.toNat_inj.mp (by show c.toNat = 62; omega))
    simp only [hn, ho, Zz, Zf, if_true]
    rw [if_neg (by omega)]
  simp only [h4, if_true, show ¬ ((4 : Int) = 1) by omega, show ¬ ((4 : Int) = 2) by omega, Zy, Zz, Zf, Zv]
  cases r with
  | nil =>
   have hle : ¬ (((i + 2 : Nat) : Int) ≤ (s.length : Int)) := by
    rw [hlen]; simp only [Zn]; omega
   simp only [hle, Zz, Zf]
   rw [ht, Rrv, Qb, tail]
   simp
  | cons d r =>
   have hle : (((i + 2 : Nat) : Int) ≤ (s.length : Int)) := by
    rw [hlen]; simp only [Zc]; omega
   have hcut : cutL s (i : Int) ((i + 2 : Nat) : Int) = some [c, d] := by
    rw [Rok (by omega) (by omega), Rjo, ed]; rfl
   simp only [hle, Zy, Zt]
   rw [hcut, Qb, Rxg, Qb, ht, Rlv]
   cases hc : twos.contains [c, d] with
   | true =>
    simp only [Zt, if_true]
    rw [if_neg (by omega)]
   | false =>
    simp only [Zf, Bool.false_eq_true, if_false]
    rw [Qb, tail]
 ·have hn : twos.any (fun t => t.isPrefixOf (c :: r)) = false := Rsm h4
  have ho : ¬ c ∈ ones := fun h => h4 (Rpa.mp h).1
  rw [ht, hn]
  simp only [h4, ho, Bool.false_eq_true, if_false, show ¬ ((0 : Int) = 1) by omega, show ¬ ((0 : Int) = 2) by omega, show ¬ ((0 : Int) = 4) by omega, Zz, Zf, Zx, Zt, if_true]
theorem Rxf {s : List UInt8} (hs : s.length ≤ 1000000000) {i : Nat} (hi : i < s.length) (hb : bl s[i] = false) :
  Rgc s i = some (if Rq (s.drop i) = 0 then -1 else ((i + Rq (s.drop i) : Nat) : Int)) := by
 have hg : geti s (i : Int) = some s[i] := Rda hi
 have ed := List.drop_eq_getElem_cons hi
 by_cases h1 : dg s[i] = true
 ·have hk := Rye h1
  have hr : Rhw s i = some ((i + ((s.drop i).takeWhile dg).length : Nat) : Int) := by
   apply Rll
   rw [Rst hs hi (p := dg) (fun c => by rw [hk, knd_one]) (s.length - i) i (by omega), Qb]
  apply Rfz
  rw [hg, Qb, Rhp, Qb]
  simp only [hk, Zy, Zt]
  rw [hr, Qb, ed]
  simp only [Rq, List.takeWhile_cons, h1, if_true, Zc]
  rw [if_neg (by omega), Nat.add_comm 1]
 by_cases h2 : lt s[i] = true
 ·have hk := Ryf h2
  have hr : Rhw s i = some ((i + ((s.drop i).takeWhile lt).length : Nat) : Int) := by
   apply Rll
   rw [Rst hs hi (p := lt) (fun c => by rw [hk, knd_two]) (s.length - i) i (by omega), Qb]
  apply Rfz
  rw [hg, Qb, Rhp, Qb]
  simp only [hk, Zy, Zt, show ¬ ((2 : Int) = 1) by omega, Zz, Zf]
  rw [hr, Qb, ed]
  simp only [Rq, List.takeWhile_cons, h1, h2, if_true, Zc, Bool.false_eq_true, if_false]
  rw [if_neg (by omega), Nat.add_comm 1]
 exact Rux hs hi hg ed (by simpa using h1) (by simpa using h2) hb
def opAt : List Tok → Nat → Tok → Nat
 | [], _, _ => 0
 | x :: r, n, t => if x = t then n else opAt r (n + 1) t
def opN (t : Tok) : Nat := opAt opTs 1 t
def levN (n : Nat) : Nat := [0, 1, 2, 3, 4, 5, 6, 6, 7, 7, 8, 8, 8].getD n 0
def nlev : List Tok → Nat
 | [] => 0
 | t :: _ => levN (opN t)
def lp : Tok := [40]
def rp : Tok := [41]
def numV (t : Tok) : Int := if 1 ≤ t.length ∧ t.length ≤ 5 then (match Lib.decFrom 0 t with | some n => (n : Int) | none => -1) else -1
def varV (t : Tok) : Int := match t with
 | [c] => if 97 ≤ c.toNat ∧ c.toNat ≤ 100 then (c.toNat : Int) - 97 else -1
 | _ => -1
def atom (t : Tok) : Option Exp := if 0 ≤ numV t then some ⟨0, numV t, []⟩ else if 0 ≤ varV t then some ⟨13, varV t, []⟩ else none
inductive J where
 | lev (k : Nat)
 | opd
 | loop (k : Nat) (e : Exp)
abbrev Out := Option (Exp × List Tok)
inductive P : J → List Tok → Out → Prop
 | nil : P .opd [] none
 | atom {t : Tok} {l : List Tok} {e : Exp} : t ≠ lp → atom t = some e → P .opd (t :: l) (some (e, l))
 | bad {t : Tok} {l : List Tok} : t ≠ lp → atom t = none → P .opd (t :: l) none
 | par {l r : List Tok} {e : Exp} : P (.lev 1) l (some (e, rp :: r)) → P .opd (lp :: l) (some (e, r))
 | parN {l : List Tok} : P (.lev 1) l none → P .opd (lp :: l) none
 | parE {l : List Tok} {e : Exp} : P (.lev 1) l (some (e, [])) → P .opd (lp :: l) none
 | parB {l r : List Tok} {t : Tok} {e : Exp} : P (.lev 1) l (some (e, t :: r)) → t ≠ rp → P .opd (lp :: l) none
 | top {k : Nat} {l : List Tok} {o : Out} : 8 < k → P .opd l o → P (.lev k) l o
 | levN {k : Nat} {l : List Tok} : k ≤ 8 → P (.lev (k + 1)) l none → P (.lev k) l none
 | levS {k : Nat} {l r : List Tok} {e : Exp} {o : Out} : k ≤ 8 → P (.lev (k + 1)) l (some (e, r)) → P (.loop k e) r o → P (.lev k) l o
 | stop {k : Nat} {e : Exp} {l : List Tok} : nlev l ≠ k → P (.loop k e) l (some (e, l))
 | step {k : Nat} {e b : Exp} {t : Tok} {l r : List Tok} {o : Out} : levN (opN t) = k → P (.lev (k + 1)) l (some (b, r)) → P (.loop k ⟨(opN t : Int), 0, [e, b]⟩) r o → P (.loop k e) (t :: l) o
 | stepN {k : Nat} {e : Exp} {t : Tok} {l : List Tok} : levN (opN t) = k → P (.lev (k + 1)) l none → P (.loop k e) (t :: l) none
inductive C : J → List Tok → Out → Prop
 | nil : C .opd [] none
 | atom {t : Tok} {l : List Tok} {e : Exp} : t ≠ lp → atom t = some e → C .opd (t :: l) (some (e, l))
 | bad {t : Tok} {l : List Tok} : t ≠ lp → atom t = none → C .opd (t :: l) none
 | par {l r : List Tok} {e : Exp} : C (.lev 1) l (some (e, rp :: r)) → C .opd (lp :: l) (some (e, r))
 | parN {l : List Tok} : C (.lev 1) l none → C .opd (lp :: l) none
 | parE {l : List Tok} {e : Exp} : C (.lev 1) l (some (e, [])) → C .opd (lp :: l) none
 | parB {l r : List Tok} {t : Tok} {e : Exp} : C (.lev 1) l (some (e, t :: r)) → t ≠ rp → C .opd (lp :: l) none
 | exN {k : Nat} {l : List Tok} : C .opd l none → C (.lev k) l none
 | ex {k : Nat} {l r : List Tok} {e : Exp} {o : Out} : C .opd l (some (e, r)) → C (.loop k e) r o → C (.lev k) l o
 | stop {k : Nat} {e : Exp} {l : List Tok} : nlev l < k → C (.loop k e) l (some (e, l))
 | step {k : Nat} {e b : Exp} {t : Tok} {l r : List Tok} {o : Out} : k ≤ levN (opN t) → C (.lev (levN (opN t) + 1)) l (some (b, r)) → C (.loop k ⟨(opN t : Int), 0, [e, b]⟩) r o → C (.loop k e) (t :: l) o
 | stepN {k : Nat} {e : Exp} {t : Tok} {l : List Tok} : k ≤ levN (opN t) → C (.lev (levN (opN t) + 1)) l none → C (.loop k e) (t :: l) none
theorem Rkc (n : Nat) : levN n ≤ 8 := by
 by_cases h : n < 13
 ·have : ∀ i : Fin 13, levN i.val ≤ 8 := by decide
  exact this ⟨n, h⟩
 ·unfold levN
  rw [List.getD_eq_getElem?_getD, List.getElem?_eq_none (by simp; omega)]; simp
theorem Rvh (l : List Tok) : nlev l ≤ 8 := by
 cases l with
 | nil => exact Nat.zero_le _
 | cons t l => exact Rkc _
theorem Rxx : ∀ {j : J} {l : List Tok} {o : Out}, P j l o → ∀ e r, o = some (e, r) → match j with
  | .lev k => nlev r < k
  | .opd => True
  | .loop k _ => nlev l < k + 1 → nlev r < k := by
 intro j l o h
 induction h with
 | top hk h ih =>
  intro e r ho
  have := Rvh r
  show nlev r < _
  omega
 | levN hk h ih => intro e r ho; cases ho
 | levS hk h1 h2 ih1 ih2 =>
  intro e r ho
  exact ih2 e r ho (ih1 _ _ rfl)
 | stop hn =>
  intro e r ho hl
  injection ho with ho; injection ho with h1 h2; subst h2
  omega
 | step hl h1 h2 ih1 ih2 =>
  intro e r ho hn
  exact ih2 e r ho (ih1 _ _ rfl)
 | stepN hl h ih => intro e r ho; cases ho
 | nil => intro e r ho; trivial
 | atom _ _ => intro e r ho; trivial
 | bad _ _ => intro e r ho; trivial
 | par _ _ => intro e r ho; trivial
 | parN _ _ => intro e r ho; trivial
 | parE _ _ => intro e r ho; trivial
 | parB _ _ _ => intro e r ho; trivial
theorem Rxw : ∀ {j : J} {l : List Tok} {o1 : Out}, C j l o1 → match j with
  | .loop k e => ∀ k', k' ≤ k → (o1 = none → C (.loop k' e) l none) ∧ (∀ e' r' o, o1 = some (e', r') → C (.loop k' e') r' o → C (.loop k' e) l o)
  | _ => True := by
 intro j l o1 h
 induction h with
 | stop hn =>
  intro k' hk
  refine ⟨fun h => (by cases h), fun e' r' o ho hc => ?_⟩
  injection ho with ho; injection ho with h1 h2; subst h1; subst h2; exact hc
 | step hl h1 h2 ih1 ih2 =>
  intro k' hk
  refine ⟨fun h => .step (by omega) h1 ((ih2 k' hk).1 h), fun e' r' o ho hc => .step (by omega) h1 ((ih2 k' hk).2 e' r' o ho hc)⟩
 | stepN hl h1 ih =>
  intro k' hk
  exact ⟨fun _ => .stepN (by omega) h1, fun e' r' o ho => (by cases ho)⟩
 | _ => trivial
theorem P_C : ∀ {j : J} {l : List Tok} {o : Out}, P j l o → match j with
  | .lev k => C (.lev k) l o
  | .opd => C .opd l o
  | .loop k e => nlev l < k + 1 → C (.loop k e) l o := by
 intro j l o h
 induction h with
 | nil => exact .nil
 | atom h1 h2 => exact .atom h1 h2
 | bad h1 h2 => exact .bad h1 h2
 | par h ih => exact .par ih
 | parN h ih => exact .parN ih
 | parE h ih => exact .parE ih
 | parB h hn ih => exact .parB ih hn
 | top hk h ih =>
  rename_i k l o
  cases o with
  | none => exact .exN ih
  | some p =>
   obtain ⟨e, r⟩ := p
   exact .ex ih (.stop (by have := Rvh r; omega))
 | levN hk h ih =>
  cases ih with
  | exN h1 => exact .exN h1
  | ex h1 h2 => exact .ex h1 ((Rxw h2 _ (Nat.le_succ _)).1 rfl)
 | levS hk h1 h2 ih1 ih2 =>
  have hn := Rxx h1 _ _ rfl
  cases ih1 with
  | ex h3 h4 => exact .ex h3 ((Rxw h4 _ (Nat.le_succ _)).2 _ _ _ rfl (ih2 hn))
 | stop hn => intro hl; exact .stop (by omega)
 | step hl h1 h2 ih1 ih2 =>
  intro _
  exact .step (by omega) (by rw [hl]; exact ih1) (ih2 (Rxx h1 _ _ rfl))
 | stepN hl h ih =>
  intro _
  exact .stepN (by omega) (by rw [hl]; exact ih)
theorem P_suf : ∀ {j : J} {l : List Tok} {o : Out}, P j l o → ∀ e r, o = some (e, r) → (∃ p, l = p ++ r) ∧ (match j with | .loop _ _ => r.length ≤ l.length | _ => r.length < l.length) := by
 intro j l o h
 induction h with
 | nil => intro e r ho; cases ho
 | atom _ _ =>
  intro e r ho
  injection ho with ho; injection ho with h1 h2; subst h2
  exact ⟨⟨[_], rfl⟩, by simp⟩
 | bad _ _ => intro e r ho; cases ho
 | par _ ih =>
  intro e r ho
  injection ho with ho; injection ho with h1 h2; subst h2
  obtain ⟨⟨p, hp⟩, hl⟩ := ih _ _ rfl
  refine ⟨⟨lp :: p ++ [rp], by rw [hp]; simp⟩, ?_⟩
  simp only [Zc] at *; omega
 | parN _ _ => intro e r ho; cases ho
 | parE _ _ => intro e r ho; cases ho
 | parB _ _ _ => intro e r ho; cases ho
 | top hk h ih => intro e r ho; exact ih e r ho
 | levN hk h ih => intro e r ho; cases ho
 | levS hk h1 h2 ih1 ih2 =>
  intro e r ho
  obtain ⟨⟨p, hp⟩, hl⟩ := ih1 _ _ rfl
  obtain ⟨⟨q, hq⟩, hl2⟩ := ih2 e r ho
  refine ⟨⟨p ++ q, by rw [hp, hq, List.append_assoc]⟩, ?_⟩
  simp only at *; omega
 | stop hn =>
  intro e r ho
  injection ho with ho; injection ho with h1 h2; subst h2
  exact ⟨⟨[], rfl⟩, Nat.le_refl _⟩
 | step hl h1 h2 ih1 ih2 =>
  intro e r ho
  obtain ⟨⟨p, hp⟩, hl⟩ := ih1 _ _ rfl
  obtain ⟨⟨q, hq⟩, hl2⟩ := ih2 e r ho
  refine ⟨⟨_ :: (p ++ q), by rw [hp, hq]; simp; rfl⟩, ?_⟩
  simp only [Zc] at *; omega
 | stepN hl h ih => intro e r ho; cases ho
def J.ok : J → Prop
 | .lev k => 1 ≤ k
 | .opd => True
 | .loop k _ => 1 ≤ k
theorem Rly : ∀ (n : Nat) (j : J) (l : List Tok), j.ok → l.length < n → (∃ o, P j l o)
 | 0, _, _, _, h => by omega
 | n + 1, j, l, hj, hn => by
  have opd : ∃ o, P .opd l o := by
   cases l with
   | nil => exact ⟨_, .nil⟩
   | cons t l =>
    by_cases ht : t = lp
    ·subst ht
     obtain ⟨o, ho⟩ := Rly n (.lev 1) l (Nat.le_refl 1) (by simp only [Zc] at hn; omega)
     cases o with
     | none => exact ⟨_, .parN ho⟩
     | some p =>
      obtain ⟨e, r⟩ := p
      cases r with
      | nil => exact ⟨_, .parE ho⟩
      | cons u r =>
       by_cases hu : u = rp
       ·subst hu; exact ⟨_, .par ho⟩
       ·exact ⟨_, .parB ho hu⟩
    ·cases ha : atom t with
     | none => exact ⟨_, .bad ht ha⟩
     | some e => exact ⟨_, .atom ht ha⟩
  have lev : ∀ d k, 1 ≤ k → k + d = 9 → ∃ o, P (.lev k) l o := by
   intro d
   induction d with
   | zero =>
    intro k h1 hk
    obtain ⟨o, ho⟩ := opd
    exact ⟨o, .top (by omega) ho⟩
   | succ d ih =>
    intro k h1 hk
    obtain ⟨o, ho⟩ := ih (k + 1) (by omega) (by omega)
    cases o with
    | none => exact ⟨_, .levN (by omega) ho⟩
    | some p =>
     obtain ⟨e, r⟩ := p
     have hs := (P_suf ho e r rfl).2
     simp only at hs
     obtain ⟨o2, ho2⟩ := Rly n (.loop k e) r h1 (by omega)
     exact ⟨o2, .levS (by omega) ho ho2⟩
  cases j with
  | opd => exact opd
  | lev k =>
   by_cases hk : k ≤ 9
   ·exact lev (9 - k) k hj (by omega)
   ·obtain ⟨o, ho⟩ := opd
    exact ⟨o, .top (by omega) ho⟩
  | loop k e =>
   by_cases hl : nlev l = k
   ·cases l with
    | nil =>
     exfalso
     have h1 : 1 ≤ k := hj
     have h2 : 0 = k := hl
     omega
    | cons t l =>
     obtain ⟨o, ho⟩ := Rly n (.lev (k + 1)) l (Nat.succ_le_succ (Nat.zero_le k)) (by simp only [Zc] at hn; omega)
     cases o with
     | none => exact ⟨_, .stepN hl ho⟩
     | some p =>
      obtain ⟨b, r⟩ := p
      have hs := (P_suf ho b r rfl).2
      simp only at hs
      obtain ⟨o2, ho2⟩ := Rly n (.loop k ⟨(opN t : Int), 0, [e, b]⟩) r hj (by simp only [Zc] at hn; omega)
      exact ⟨o2, .step hl ho ho2⟩
   ·exact ⟨_, .stop hl⟩
theorem Rvj (t : Tok) : opN t ≤ 12 := by
 unfold opN
 rcases Nat.lt_or_ge (opAt opTs 1 t) 13 with h | h
 ·omega
 ·exfalso
  have key : ∀ (l : List Tok) (n : Nat), opAt l n t < n + l.length ∨ l = [] ∨ opAt l n t = 0 := by
   intro l
   induction l with
   | nil => intro n; exact Or.inr (Or.inl rfl)
   | cons x r ih =>
    intro n
    unfold opAt
    split
    ·left; simp only [Zc]; omega
    ·rcases ih (n + 1) with h | h | h
     ·left; simp only [Zc]; omega
     ·subst h; right; right; rfl
     ·right; right; exact h
  rcases key opTs 1 with h2 | h2 | h2
  ·have : opTs.length = 12 := rfl
   omega
  ·cases h2
  ·omega
theorem Rtt (t : Tok) : ∀ (d i : Nat), i + d = 12 → Rdm t i = some (if opAt (opTs.drop i) (i + 1) t = 0 then .inl () else .inr (opAt (opTs.drop i) (i + 1) t : Int))
 | 0, i, h => by
  apply Rho
  have h1 : ¬ ((i : Int) < 12) := by omega
  simp only [h1, Zz, Zf]
  rw [List.drop_eq_nil_of_le (show opTs.length ≤ i by show 12 ≤ i; omega)]; rfl
 | d + 1, i, h => by
  apply Rho
  have h1 : ((i : Int) < 12) := by omega
  have hi : i < opTs.length := by show i < 12; omega
  simp only [h1, Zy, Zt]
  rw [show geti ([[124], [94], [38], [61, 61], [60], [60, 60], [62, 62], [43], [45], [42], [47], [37]] : List (List UInt8)) (i : Int) = some opTs[i] from Rda hi, Qb, List.drop_eq_getElem_cons hi]
  unfold opAt
  by_cases hc : opTs[i] = t
  ·have hb : (opTs[i] == t) = true := by rw [beq_iff_eq]; exact hc
   simp only [hc, if_true, beq_self_eq_true, Zt]
   rw [if_neg (by omega), show wrap64 (1 + (i : Int)) = ((i + 1 : Nat) : Int) by rw [wrap_id (by omega) (by omega)]; omega]
  ·have hb : (opTs[i] == t) = false := by rw [beq_eq_false_iff_ne]; exact hc
   simp only [hb, Zf, hc, if_false]
   rw [w1n (by omega), Rtt t d (i + 1) (by omega)]
theorem Rew (t : Tok) : Rjx t = some (opN t : Int) := by
 apply Rps
 rw [show Rdm t 0 = _ from Rtt t 12 0 (by omega), Qb, List.drop_zero]
 change selm (if opN t = 0 then _ else _) _ _ = _
 by_cases h : opN t = 0
 ·simp only [h, if_true, selm]; rfl
 ·simp only [h, if_false, selm]; rfl
theorem Rcn {n : Nat} (h : n ≤ 12) : Rbr (n : Int) = some (levN n : Int) := by
 apply Rop
 have : n = 0 ∨ n = 1 ∨ n = 2 ∨ n = 3 ∨ n = 4 ∨ n = 5 ∨ n = 6 ∨ n = 7 ∨ n = 8 ∨ n = 9 ∨ n = 10 ∨ n = 11 ∨ n = 12 := by omega
 rcases this with rfl | rfl | rfl | rfl | rfl | rfl | rfl | rfl | rfl | rfl | rfl | rfl | rfl <;> rfl
theorem Rim {n : Nat} (h : n ≤ 12) : Rfe (n : Int) = some (levN n : Int) := by
 apply Rpc
 rw [Rgn, Qb]
 have : n = 0 ∨ n = 1 ∨ n = 2 ∨ n = 3 ∨ n = 4 ∨ n = 5 ∨ n = 6 ∨ n = 7 ∨ n = 8 ∨ n = 9 ∨ n = 10 ∨ n = 11 ∨ n = 12 := by omega
 by_cases h0 : n = 0
 ·subst h0; rfl
 ·have hv : (1 : Int) ≤ n ∧ (n : Int) ≤ 12 := by omega
  simp only [hv, and_self, Zy, Zv, Zf]
  rw [wrap_id (by omega) (by omega)]
  rcases this with rfl | rfl | rfl | rfl | rfl | rfl | rfl | rfl | rfl | rfl | rfl | rfl | rfl
  ·exact absurd rfl h0
  all_goals rfl
theorem Ryb {c : UInt8} (h : dg c = true) : Lib.digitVal c = some (c.toNat - 48) := by
 unfold Lib.digitVal; rw [if_pos (of_decide_eq_true h)]
theorem Rxa {c : UInt8} (h : dg c = false) : Lib.digitVal c = none := by
 unfold Lib.digitVal; rw [if_neg (of_decide_eq_false h)]
theorem Rsc {v : Nat} (h : v ≤ 100) : Reu (v : Int) = some [UInt8.ofNat (97 + v)] := by
 apply Rqa
 rw [wrap_id (by omega) (by omega)]
 have : ((97 + (v : Int)) % 256) = ((97 + v : Nat) : Int) := by omega
 rw [this]; rfl
def plc (L l : List Tok) : Nat := L.length - l.length
def Suf (L l : List Tok) : Prop := ∃ p, L = p ++ l
theorem Suf.tail {L l : List Tok} {t : Tok} (h : Suf L (t :: l)) : Suf L l ∧ plc L (t :: l) + 1 = plc L l ∧ plc L (t :: l) < L.length ∧ geti L (plc L (t :: l) : Int) = some t := by
 obtain ⟨p, rfl⟩ := h
 refine ⟨⟨p ++ [t], by simp⟩, ?_, ?_, ?_⟩
 ·unfold plc; simp only [Za, Zc]; omega
 ·unfold plc; simp only [Za, Zc]; omega
 ·rw [geti_nat', show plc (p ++ t :: l) (t :: l) = p.length by unfold plc; simp only [Za]; omega]
  simp
theorem Suf.trans {L l r : List Tok} (h : Suf L l) (h2 : ∃ p, l = p ++ r) : Suf L r := by
 obtain ⟨p, rfl⟩ := h
 obtain ⟨q, rfl⟩ := h2
 exact ⟨p ++ q, by rw [List.append_assoc]⟩
theorem Rid (L : List Tok) : plc L [] = L.length := by unfold plc; simp
theorem Rra {t : Tok} {e : Exp} (h : atom t = some e) (h0 : 0 ≤ numV t) : e = ⟨0, numV t, []⟩ := by
 unfold atom at h; rw [if_pos h0] at h; injection h with h; exact h.symm
theorem Rod {t : Tok} {e : Exp} (h : atom t = some e) (h0 : ¬ 0 ≤ numV t) : 0 ≤ varV t ∧ e = ⟨13, varV t, []⟩ := by
 unfold atom at h; rw [if_neg h0] at h
 split at h
 ·injection h with h; exact ⟨by assumption, h.symm⟩
 ·cases h
def gt (t : Tok) : Prop := ∃ c r, t = c :: r ∧ (dg c = true → ∀ x ∈ t, dg x = true)
theorem Rlc (L : List Tok) : Ral L (L.length : Int) false = some ([], L, (L.length : Int), false) := by
 apply Rds
 simp only [Int.lt_irrefl, Zz, Zf]
theorem Rbw {L l : List Tok} {t : Tok} (h : Suf L (t :: l)) : Ral L (plc L (t :: l) : Int) false = some (t, L, (plc L (t :: l) : Int), false) := by
 obtain ⟨hs2, hp, hlt, hg⟩ := h.tail
 apply Rds
 have c1 : ((plc L (t :: l) : Int) < L.length) := by omega
 simp only [c1, Zy, Zt, Zx, hg, Qb]
theorem Rlb (L : List Tok) (p : Int) : Ral L p true = some ([], L, p, true) := by
 apply Rds
 by_cases h : p < L.length
 ·simp only [h, Zy, Zt, Zv, Zf]
 ·simp only [h, Zz, Zf]
theorem Rvd (L : List Tok) (p : Int) : Re [41] L p true = some (L, p, true) := by
 apply Rao
 have : Rb [41] L p true = some (false, L, p, true) := by
  apply Rah
  rw [Rlb, Qb]; rfl
 rw [this, Qb]; rfl
theorem Rxk (L : List Tok) : Re [41] L (L.length : Int) false = some (L, (L.length : Int), true) := by
 apply Rao
 have : Rb [41] L (L.length : Int) false = some (false, L, (L.length : Int), false) := by
  apply Rah
  rw [Rlc, Qb]; rfl
 rw [this, Qb]; rfl
theorem Rxj {L l : List Tok} {t : Tok} (h : Suf L (t :: l)) (hn : t ≠ rp) : Re [41] L (plc L (t :: l) : Int) false = some (L, (plc L (t :: l) : Int), true) := by
 apply Rao
 have : Rb [41] L (plc L (t :: l) : Int) false = some (false, L, (plc L (t :: l) : Int), false) := by
  apply Rah
  have hb : (t == [41]) = false := by rw [beq_eq_false_iff_ne]; exact hn
  rw [Rbw h, Qb]
  simp only [hb, Zx, Zt]
 rw [this, Qb]; rfl
theorem Rve {L l : List Tok} (hL : L.length ≤ 20000) (h : Suf L (rp :: l)) : Re [41] L (plc L (rp :: l) : Int) false = some (L, (plc L l : Int), false) := by
 obtain ⟨hs2, hp, hlt, hg⟩ := h.tail
 apply Rao
 have : Rb [41] L (plc L (rp :: l) : Int) false = some (true, L, (plc L l : Int), false) := by
  apply Rah
  have hb : (rp == [41]) = true := rfl
  rw [Rbw h, Qb]
  simp only [hb, Zv, Zf]
  rw [w1n (by omega), hp]
 rw [this, Qb]; rfl
theorem Rru (L : List Tok) : ∃ p, Rbo L (L.length : Int) false = some ([], L, p, true) := by
 refine ⟨wrap64 ((L.length : Int) + 1), ?_⟩
 apply Rdt
 rw [Rlc, Qb]
 simp only [show (([] : List UInt8) == []) = true from rfl, Zt]
theorem Rlt {L l : List Tok} {t : Tok} (hL : L.length ≤ 20000) (h : Suf L (t :: l)) (ht : t ≠ []) : Rbo L (plc L (t :: l) : Int) false = some (t, L, (plc L l : Int), false) := by
 obtain ⟨hs2, hp, hlt, hg⟩ := h.tail
 apply Rdt
 have hb : (t == []) = false := by rw [beq_eq_false_iff_ne]; exact ht
 rw [Rbw h, Qb]
 simp only [hb, Zf]
 rw [w1n (by omega), hp]
theorem Rqh : ∀ (t : Tok) (a : Nat), (∀ x ∈ t, dg x = true) → ∃ n, Lib.decFrom a t = some n
 | [], a, _ => ⟨a, rfl⟩
 | c :: r, a, h => by
  obtain ⟨n, hn⟩ := Rqh r (a * 10 + (c.toNat - 48)) (fun x hx => h x (List.mem_cons_of_mem _ hx))
  refine ⟨n, ?_⟩
  simp only [Lib.decFrom, Ryb (h c (List.mem_cons_self ..))]
  exact hn
theorem Rqi : ∀ (t : Tok) (a n : Nat), Lib.decFrom a t = some n → (∀ x ∈ t, dg x = true)
 | [], a, n, _ => by intro x hx; cases hx
 | c :: r, a, n, h => by
  intro x hx
  simp only [Lib.decFrom] at h
  cases hd : dg c with
  | false => rw [Rxa hd] at h; cases h
  | true =>
   rw [Ryb hd] at h
   rcases List.mem_cons.mp hx with rfl | hx
   ·exact hd
   ·exact Rqi r _ n h x hx
theorem Rvi {t : Tok} (h : 0 ≤ numV t) : ∀ x ∈ t, dg x = true := by
 unfold numV at h
 split at h
 ·split at h
  ·rename_i n hn; exact Rqi t 0 n hn
  ·omega
 ·omega
theorem Ric {L l : List Tok} {c : UInt8} {r : List UInt8} (hL : L.length ≤ 20000) (h : Suf L ((c :: r) :: l)) (hd : ∀ x ∈ (c :: r), dg x = true) :
  (0 ≤ numV (c :: r) → Ru L (plc L ((c :: r) :: l) : Int) false = some (numV (c :: r), L, (plc L l : Int), false)) ∧
  (¬ 0 ≤ numV (c :: r) → Ru L (plc L ((c :: r) :: l) : Int) false = some (0, L, (plc L l : Int), true)) := by
 obtain ⟨n, hn⟩ := Rqh (c :: r) 0 hd
 have hb : ((c :: r : Tok) == []) = false := rfl
 refine ⟨fun h0 => ?_, fun h0 => ?_⟩
 ·have hlen : (c :: r).length ≤ 5 := by
   unfold numV at h0; split at h0
   ·rename_i hh; exact hh.2
   ·omega
  have hv : numV (c :: r) = (n : Int) := by
   unfold numV; rw [if_pos ⟨by simp, hlen⟩, hn]
  apply Rbt
  rw [Rlt hL h (by simp), Qb]
  have c5 : ¬ ((5 : Int) < ((c :: r : Tok).length : Int)) := by omega
  have hc := of_decide_eq_true (hd c (List.mem_cons_self ..))
  have ha : Lib.atoi (c :: r) = some (n : Int) := by
   unfold Lib.atoi
   have h1 : (c == 45) = false := by rw [beq_eq_false_iff_ne]; intro e; subst e; exact absurd hc (by decide)
   have h2 : (c == 43) = false := by rw [beq_eq_false_iff_ne]; intro e; subst e; exact absurd hc (by decide)
   simp only [h1, h2, Bool.false_eq_true, if_false]
   unfold Lib.decNat
   rw [if_neg (by simp), hn]; rfl
  have hat : strconv_Atoi (c :: r) = some (n : Int) := by
   apply Rpl
   rw [if_pos (by omega)]; exact ha
  simp only [hb, Zf, c5, Zz, Rkn, Qb, Rcb, hd c (List.mem_cons_self ..), Zv, hat, hv]
 ·have hlen : 5 < (c :: r).length := by
   apply Classical.byContradiction
   intro hle
   apply h0
   unfold numV; rw [if_pos ⟨by simp, by omega⟩, hn]
   show (0 : Int) ≤ (n : Int); omega
  apply Rbt
  rw [Rlt hL h (by simp), Qb]
  have c5 : ((5 : Int) < ((c :: r : Tok).length : Int)) := by omega
  simp only [hb, Zf, c5, Zy, Zt]
theorem Rgb {L l : List Tok} {t : Tok} (hL : L.length ≤ 20000) (h : Suf L (t :: l)) (ht : t ≠ []) :
  (0 ≤ varV t → Rg L (plc L (t :: l) : Int) false = some (varV t, L, (plc L l : Int), false)) ∧
  (¬ 0 ≤ varV t → Rg L (plc L (t :: l) : Int) false = some (0, L, (plc L l : Int), true)) := by
 have body : ∀ x, (bif (!decide ((t.length : Int) = 1)) then some (0, L, (plc L l : Int), true) else
   bnd (geti t 0) fun c2 => (bif (decide ((c2.toNat : Int) < 97)) then some (0, L, (plc L l : Int), true) else
   bnd (geti t 0) fun c3 => (bif (decide (101 ≤ (c3.toNat : Int))) then some (0, L, (plc L l : Int), true) else
   bnd (geti t 0) fun c4 => some ((wrap64 ((((c4.toNat : Int) - 97) % 256))), L, (plc L l : Int), false)))) = some x → Rg L (plc L (t :: l) : Int) false = some x := by
  intro x hx
  apply Raz
  rw [Rlt hL h ht, Qb]
  exact hx
 by_cases h1 : t.length = 1
 ·obtain ⟨c, rfl⟩ : ∃ c, t = [c] := by
   match t, h1 with
   | [c], _ => exact ⟨c, rfl⟩
  have c1 : ((([c] : Tok).length : Nat) : Int) = 1 := rfl
  by_cases hr : 97 ≤ c.toNat ∧ c.toNat ≤ 100
  ·have hv : varV [c] = (c.toNat : Int) - 97 := by unfold varV; simp only; rw [if_pos hr]
   refine ⟨fun _ => body _ ?_, fun h => absurd (by rw [hv]; omega) h⟩
   have d1 : ¬ (c.toNat : Int) < 97 := by omega
   have d2 : ¬ (101 : Int) ≤ c.toNat := by omega
   simp only [c1, Zy, Zv, Zf, Rkn, Qb, d1, d2, Zz]
   rw [hv, wrap_id (by omega) (by omega)]
   congr 2; omega
  ·have hv : varV [c] = -1 := by unfold varV; simp only; rw [if_neg hr]
   refine ⟨fun h => absurd h (by rw [hv]; omega), fun _ => body _ ?_⟩
   by_cases d1 : (c.toNat : Int) < 97
   ·simp only [c1, Zy, Zv, Zf, Rkn, Qb, d1, Zt]
   ·have d2 : (101 : Int) ≤ c.toNat := by omega
    simp only [c1, Zy, Zv, Zf, Rkn, Qb, d1, d2, Zz, Zt]
 ·have hv : varV t = -1 := by
   unfold varV
   split
   ·simp at h1
   ·rfl
  have c1 : ¬ ((t.length : Int) = 1) := by omega
  refine ⟨fun h => absurd h (by rw [hv]; omega), fun _ => body _ ?_⟩
  simp only [c1, Zz, Zx, Zt]
def IA (L : List Tok) (f : Option (Exp × List Tok × Int × Bool)) (o : Out) : Prop := match o with
 | some (e, r) => f = some (e, L, (plc L r : Int), false)
 | none => ∃ x p, f = some (x, L, p, true)
def ILo (L : List Tok) (f : Option (List Tok × Int × Bool × Int × Int × (Bool × List Exp) × Int × Int × (Md × List Exp))) (o : Out) : Prop := match o with
 | some (e, r) => ∃ m, f = some (L, (plc L r : Int), false, 0, 0, (false, []), e.op, e.n, (m, e.args))
 | none => ∃ p a b m c, f = some (L, p, true, 0, 0, (false, []), a, b, (m, c))
theorem Rwu : ∀ {j : J} {l : List Tok} {o : Out}, C j l o → ∀ e r, o = some (e, r) → ∃ p, l = p ++ r := by
 intro j l o h
 induction h with
 | nil => intro e r ho; cases ho
 | atom _ _ =>
  intro e r ho
  injection ho with ho; injection ho with h1 h2; subst h2
  exact ⟨[_], rfl⟩
 | bad _ _ => intro e r ho; cases ho
 | par _ ih =>
  intro e r ho
  injection ho with ho; injection ho with h1 h2; subst h2
  obtain ⟨p, hp⟩ := ih _ _ rfl
  exact ⟨lp :: p ++ [rp], by rw [hp]; simp⟩
 | parN _ _ => intro e r ho; cases ho
 | parE _ _ => intro e r ho; cases ho
 | parB _ _ _ => intro e r ho; cases ho
 | exN h ih => intro e r ho; cases ho
 | ex h1 h2 ih1 ih2 =>
  intro e r ho
  obtain ⟨p, hp⟩ := ih1 _ _ rfl
  obtain ⟨q, hq⟩ := ih2 e r ho
  exact ⟨p ++ q, by rw [hp, hq, List.append_assoc]⟩
 | stop hn =>
  intro e r ho
  injection ho with ho; injection ho with h1 h2; subst h2
  exact ⟨[], rfl⟩
 | step hl h1 h2 ih1 ih2 =>
  intro e r ho
  obtain ⟨p, hp⟩ := ih1 _ _ rfl
  obtain ⟨q, hq⟩ := ih2 e r ho
  exact ⟨_ :: (p ++ q), by rw [hp, hq]; simp; rfl⟩
 | stepN hl h ih => intro e r ho; cases ho
theorem Suf.mem {L l : List Tok} {t : Tok} (h : Suf L (t :: l)) : t ∈ L := by
 obtain ⟨p, rfl⟩ := h; simp
theorem opN_nil : opN [] = 0 := rfl
theorem Ruy {n : Nat} (h : n ≤ 12) : levN n = 0 ↔ n = 0 := by
 have : ∀ i : Fin 13, levN i.val = 0 ↔ i.val = 0 := by decide
 exact this ⟨n, by omega⟩
theorem impl_C : ∀ {j : J} {l : List Tok} {o : Out}, C j l o → ∀ L : List Tok, L.length ≤ 20000 → (∀ t ∈ L, gt t) → Suf L l → match j with
  | .opd => IA L (Rz L (plc L l) false) o
  | .lev k => k ≤ 9 → 1 ≤ k → IA L (Rc (k : Int) L (plc L l) false) o
  | .loop k e => k ≤ 9 → 1 ≤ k → ∀ m, ILo L (Ry (k : Int) L (plc L l) false 0 0 false [] e.op e.n m e.args) o := by
 intro j l o h
 induction h with
 | nil =>
  intro L hL hg hs
  obtain ⟨p, hp⟩ := Rru L
  have hv : Rg L (L.length : Int) false = some (0, L, p, true) := by
   apply Raz
   rw [hp, Qb]
   simp
  refine ⟨⟨13, 0, []⟩, p, ?_⟩
  apply Rl
  rw [Rid, Rlc, Qb]
  simp only [show (([] : List UInt8) == [40]) = false from rfl, Zf, show (([] : List UInt8) == []) = true from rfl, Zv, hv, Qb]
 | @atom t l e h1 h2 =>
  intro L hL hg hs
  obtain ⟨c, r, rfl, hd⟩ := hg t hs.mem
  show Rz L (plc L ((c :: r) :: l)) false = _
  apply Rl
  have hb : ((c :: r : Tok) == [40]) = false := by rw [beq_eq_false_iff_ne]; exact h1
  rw [Rbw hs, Qb]
  simp only [hb, Zf, show ((c :: r : List UInt8) == []) = false from rfl, Zx, Zt, Rkn, Qb, Rcb]
  cases hc : dg c
  ·have hn : ¬ 0 ≤ numV (c :: r) := fun h => by have := Rvi h c (List.mem_cons_self ..); rw [hc] at this; cases this
   obtain ⟨hv, he⟩ := Rod h2 hn
   simp only [Zf, (Rgb hL hs (by simp)).1 hv, Qb, he]
  ·by_cases hn : 0 ≤ numV (c :: r)
   ·simp only [Zt, (Ric hL hs (hd hc)).1 hn, Qb, Rra h2 hn]
   ·exfalso
    obtain ⟨hv, he⟩ := Rod h2 hn
    have hcr := of_decide_eq_true hc
    unfold varV at hv
    split at hv
    ·rename_i c' heq
     injection heq with e1 e2; subst e1
     rw [if_neg (by omega)] at hv; omega
    ·omega
 | @bad t l h1 h2 =>
  intro L hL hg hs
  obtain ⟨c, r, rfl, hd⟩ := hg t hs.mem
  unfold atom at h2
  have hn : ¬ 0 ≤ numV (c :: r) := by intro h; rw [if_pos h] at h2; cases h2
  rw [if_neg hn] at h2
  have hv : ¬ 0 ≤ varV (c :: r) := by intro h; rw [if_pos h] at h2; cases h2
  have hb : ((c :: r : Tok) == [40]) = false := by rw [beq_eq_false_iff_ne]; exact h1
  cases hc : dg c
  ·refine ⟨⟨13, 0, []⟩, (plc L l : Int), ?_⟩
   apply Rl
   rw [Rbw hs, Qb]
   simp only [hb, Zf, show ((c :: r : List UInt8) == []) = false from rfl, Zx, Zt, Rkn, Qb, Rcb, hc, (Rgb hL hs (by simp)).2 hv]
  ·refine ⟨⟨0, 0, []⟩, (plc L l : Int), ?_⟩
   apply Rl
   rw [Rbw hs, Qb]
   simp only [hb, Zf, show ((c :: r : List UInt8) == []) = false from rfl, Zx, Zt, Rkn, Qb, Rcb, hc, (Ric hL hs (hd hc)).2 hn]
 | @par l r e h ih =>
  intro L hL hg hs
  obtain ⟨hs2, hp, hlt, _⟩ := hs.tail
  have h1 := ih L hL hg hs2 (by omega) (Nat.le_refl 1)
  have hs3 := hs2.trans (Rwu h _ _ rfl)
  show Rz L (plc L (lp :: l)) false = _
  apply Rl
  rw [Rbw hs, Qb]
  simp only [show (lp == [40]) = true from rfl, Zt]
  rw [w1n (by omega), hp, show Rc 1 L (plc L l) false = _ from h1, Qb, Rve hL hs3, Qb]
  simp only [Rag]
 | @parN l h ih =>
  intro L hL hg hs
  obtain ⟨hs2, hp, hlt, _⟩ := hs.tail
  obtain ⟨x, p, h1⟩ := ih L hL hg hs2 (by omega) (Nat.le_refl 1)
  refine ⟨x, p, ?_⟩
  apply Rl
  rw [Rbw hs, Qb]
  simp only [show (lp == [40]) = true from rfl, Zt]
  rw [w1n (by omega), hp, show Rc 1 L (plc L l) false = _ from h1, Qb, Rvd, Qb]
  simp only [Rag]
 | @parE l e h ih =>
  intro L hL hg hs
  obtain ⟨hs2, hp, hlt, _⟩ := hs.tail
  have h1 := ih L hL hg hs2 (by omega) (Nat.le_refl 1)
  refine ⟨e, (L.length : Int), ?_⟩
  apply Rl
  rw [Rbw hs, Qb]
  simp only [show (lp == [40]) = true from rfl, Zt]
  rw [w1n (by omega), hp, show Rc 1 L (plc L l) false = _ from h1, Qb, Rid, Rxk, Qb]
  simp only [Rag]
 | @parB l r t e h hn ih =>
  intro L hL hg hs
  obtain ⟨hs2, hp, hlt, _⟩ := hs.tail
  have h1 := ih L hL hg hs2 (by omega) (Nat.le_refl 1)
  have hs3 := hs2.trans (Rwu h _ _ rfl)
  refine ⟨e, (plc L (t :: r) : Int), ?_⟩
  apply Rl
  rw [Rbw hs, Qb]
  simp only [show (lp == [40]) = true from rfl, Zt]
  rw [w1n (by omega), hp, show Rc 1 L (plc L l) false = _ from h1, Qb, Rxj hs3 hn, Qb]
  simp only [Rag]
 | @exN k l h ih =>
  intro L hL hg hs k9 k1
  obtain ⟨x, p, h1⟩ := ih L hL hg hs
  refine ⟨x, p, ?_⟩
  apply Rck
  have hl : Ry (k : Int) L p true 0 0 false [] x.op x.n .share x.args = some (L, p, true, 0, 0, (false, []), x.op, x.n, (.share, x.args)) := by
   apply Rae
   simp only [Zv, Zf]
  rw [h1, Qb, hl, Qb]
  simp only [Rag]
 | @ex k l r e o h1 h2 ih1 ih2 =>
  intro L hL hg hs k9 k1
  have e1 := ih1 L hL hg hs
  have e2 := ih2 L hL hg (hs.trans (Rwu h1 _ _ rfl)) k9 k1 .share
  cases o with
  | none =>
   obtain ⟨p, a, b, m, c, e2⟩ := e2
   refine ⟨⟨a, b, c⟩, p, ?_⟩
   apply Rck
   rw [show Rz L (plc L l) false = _ from e1, Qb, e2, Qb]
  | some q =>
   obtain ⟨e', r'⟩ := q
   obtain ⟨m, e2⟩ := e2
   show Rc _ _ _ _ = _
   apply Rck
   rw [show Rz L (plc L l) false = _ from e1, Qb, e2, Qb]
   simp only [Rag]
 | @stop k e l hn =>
  intro L hL hg hs k9 k1 m
  refine ⟨m, ?_⟩
  apply Rae
  simp only [Zx, Zt]
  cases l with
  | nil =>
   rw [Rid, Rlc, Qb, Rew, opN_nil, Qb]
   simp only [Int.ofNat_zero, Int.natCast_zero, Zy, Zt]
  | cons t l =>
   rw [Rbw hs, Qb, Rew, Qb]
   by_cases h0 : opN t = 0
   ·simp only [h0, Int.ofNat_zero, Int.natCast_zero, Zy, Zt]
   ·have c0 : ¬ ((opN t : Int) = 0) := by omega
    have c1 : ((levN (opN t) : Int) < (k : Int)) := by
     have : levN (opN t) < k := hn
     omega
    simp only [c0, Zz, Zf, Rcn (Rvj t), Qb, c1, Zy, Zt]
 | @step k e b t l r o hl h1 h2 ih1 ih2 =>
  intro L hL hg hs k9 k1 m
  obtain ⟨hs2, hp, hlt, _⟩ := hs.tail
  have hs3 := hs2.trans (Rwu h1 _ _ rfl)
  have l8 := Rkc (opN t)
  have e1 := ih1 L hL hg hs2 (by omega) (by omega)
  have e2 := ih2 L hL hg hs3 k9 k1 .full
  have h0 : ¬ opN t = 0 := by intro h; rw [h] at hl; have : levN 0 = 0 := rfl; omega
  have c0 : ¬ ((opN t : Int) = 0) := by omega
  have c1 : ¬ ((levN (opN t) : Int) < (k : Int)) := by omega
  have step : ∀ y, Ry (k : Int) L (plc L r) false 0 0 false [] (opN t : Int) 0 .full [e, b] = some y → Ry (k : Int) L (plc L (t :: l)) false 0 0 false [] e.op e.n m e.args = some y := by
   intro y hy
   apply Rae
   simp only [Zx, Zt]
   rw [Rbw hs, Qb, Rew, Qb]
   simp only [c0, Zz, Zf, Rcn (Rvj t), Qb, c1]
   rw [w1n (n := levN (opN t)) (by omega), w1n (n := plc L (t :: l)) (by omega), hp, show Rc ((levN (opN t) + 1 : Nat) : Int) L (plc L l) false = _ from e1, Qb]
   simp only [Rag]
   exact hy
  cases o with
  | none =>
   obtain ⟨p, a, b, m, c, e2⟩ := e2
   exact ⟨p, a, b, m, c, step _ e2⟩
  | some q =>
   obtain ⟨e', r'⟩ := q
   obtain ⟨m, e2⟩ := e2
   exact ⟨m, step _ e2⟩
 | @stepN k e t l hl h ih =>
  intro L hL hg hs k9 k1 m
  obtain ⟨hs2, hp, hlt, _⟩ := hs.tail
  have l8 := Rkc (opN t)
  obtain ⟨x, p, e1⟩ := ih L hL hg hs2 (by omega) (by omega)
  have h0 : ¬ opN t = 0 := by intro h; rw [h] at hl; have : levN 0 = 0 := rfl; omega
  have c0 : ¬ ((opN t : Int) = 0) := by omega
  have c1 : ¬ ((levN (opN t) : Int) < (k : Int)) := by omega
  refine ⟨p, (opN t : Int), 0, .full, [e, x], ?_⟩
  apply Rae
  simp only [Zx, Zt]
  rw [Rbw hs, Qb, Rew, Qb]
  simp only [c0, Zz, Zf, Rcn (Rvj t), Qb, c1]
  rw [w1n (n := levN (opN t)) (by omega), w1n (n := plc L (t :: l)) (by omega), hp, show Rc ((levN (opN t) + 1 : Nat) : Int) L (plc L l) false = _ from e1, Qb]
  simp only [Rag]
  apply Rae
  simp only [Zv, Zf]
theorem Rog {Q : List UInt8 → List Tok → Prop} (h0 : Q [] []) (h1 : ∀ c r t, bl c = true → toks r = some t → Q r t → Q (c :: r) t)
  (h2 : ∀ c r t, bl c = false → Rq (c :: r) ≠ 0 → toks ((c :: r).drop (Rq (c :: r))) = some t → Q ((c :: r).drop (Rq (c :: r))) t → Q (c :: r) ((c :: r).take (Rq (c :: r)) :: t)) :
  ∀ (n : Nat) (s : List UInt8) (t : List Tok), s.length ≤ n → toks s = some t → Q s t
 | n, [], t, _, h => by rw [Roh] at h; injection h with h; subst h; exact h0
 | 0, c :: r, t, hn, h => by simp at hn
 | n + 1, c :: r, t, hn, h => by
  cases hb : bl c with
  | true =>
   rw [Rsw r hb] at h
   exact h1 c r t hb h (Rog h0 h1 h2 n r t (by simp only [Zc] at hn; omega) h)
  | false =>
   by_cases hl : Rq (c :: r) = 0
   ·rw [Rwq hb hl] at h; cases h
   ·rw [Roi hb hl] at h
    cases ht : toks ((c :: r).drop (Rq (c :: r))) with
    | none => rw [ht] at h; cases h
    | some t2 =>
     rw [ht, Qb] at h
     injection h with h; subst h
     exact h2 c r t2 hb hl ht (Rog h0 h1 h2 n _ t2 (by rw [List.length_drop]; omega) ht)
theorem tok_gt (c : UInt8) (r : List UInt8) (h : Rq (c :: r) ≠ 0) : gt ((c :: r).take (Rq (c :: r))) := by
 obtain ⟨n, hn⟩ : ∃ n, Rq (c :: r) = n + 1 := ⟨Rq (c :: r) - 1, by omega⟩
 refine ⟨c, r.take n, by rw [hn, List.take_succ_cons], ?_⟩
 intro hd x hx
 rw [hn, List.take_succ_cons] at hx
 have : n = (r.takeWhile dg).length := by
  simp only [Rq, hd, if_true] at hn; omega
 rcases List.mem_cons.mp hx with rfl | hx
 ·exact hd
 ·have he : r.take n = r.takeWhile dg := by
   rw [this]
   exact (List.prefix_iff_eq_take.mp (List.takeWhile_prefix dg)).symm
  rw [he] at hx
  exact List.all_eq_true.mp List.all_takeWhile x hx
theorem toks_gt {s : List UInt8} {t : List Tok} (h : toks s = some t) : ∀ x ∈ t, gt x :=
 Rog (Q := fun s t => ∀ x ∈ t, gt x) (fun x hx => by cases hx) (fun c r t _ _ ih => ih) (fun c r t _ hl _ ih x hx => by
  rcases List.mem_cons.mp hx with rfl | hx
  ·exact tok_gt c r hl
  ·exact ih x hx) s.length s t (Nat.le_refl _) h
theorem Rtw {s : List UInt8} {t : List Tok} (h : toks s = some t) : t.length ≤ s.length :=
 Rog (Q := fun s t => t.length ≤ s.length) (Nat.le_refl _) (fun c r t _ _ ih => by simp only [Zc]; omega) (fun c r t _ hl _ ih => by
  rw [List.length_drop] at ih
  have := Rsl (c :: r)
  simp only [Zc] at *; omega) s.length s t (Nat.le_refl _) h
theorem suf_all (L : List Tok) : Suf L L ∧ plc L L = 0 := ⟨⟨[], rfl⟩, by unfold plc; omega⟩
def fin (c : UInt8) : Prop := bl c = true ∨ c = 40 ∨ c = 41
theorem Rls {p : UInt8 → Bool} {c : UInt8} (hc : p c = false) (s r : List UInt8) : (s ++ c :: r).takeWhile p = s.takeWhile p := by
 induction s with
 | nil => simp [List.takeWhile_cons, hc]
 | cons a s ih =>
  rw [List.cons_append, List.takeWhile_cons, List.takeWhile_cons, ih]
theorem Ryc {c : UInt8} (h : fin c) : dg c = false ∧ lt c = false := by
 rcases h with h | rfl | rfl
 ·exact Ruj h
 ·exact ⟨rfl, rfl⟩
 ·exact ⟨rfl, rfl⟩
theorem Rue {c : UInt8} (hc : fin c) (a : UInt8) (s r : List UInt8) : Rq (a :: s ++ c :: r) = Rq (a :: s) := by
 rw [List.cons_append]
 simp only [Rq, Rls (Ryc hc).1, Rls (Ryc hc).2]
 have : twos.any (fun t => t.isPrefixOf (a :: (s ++ c :: r))) = twos.any (fun t => t.isPrefixOf (a :: s)) := by
  cases s with
  | nil =>
   rw [List.nil_append, Rlv, Rrv]
   cases ht : twos.contains [a, c] with
   | false => rfl
   | true =>
    exfalso
    rw [List.contains_iff_mem] at ht
    unfold twos at ht
    simp only [Zo, List.cons.injEq, List.not_mem_nil, or_false, and_true] at ht
    have : c = 61 ∨ c = 60 ∨ c = 62 := by rcases ht with ⟨_, h⟩ | ⟨_, h⟩ | ⟨_, h⟩ <;> simp [h]
    rcases hc with h | h | h
    ·rcases this with rfl | rfl | rfl <;> exact absurd h (by decide)
    ·subst h; revert this; decide
    ·subst h; revert this; decide
  | cons b s => rw [List.cons_append, Rlv, Rlv]
 rw [this]
theorem Rxl {u : List Tok} (hu : nlev u = 0) (l : List Tok) : nlev (l ++ u) = nlev l := by
 cases l with
 | nil => rw [List.nil_append, hu]; rfl
 | cons t l => rfl
theorem P_ext {u : List Tok} (hu : nlev u = 0) : ∀ {j : J} {l : List Tok} {o : Out}, P j l o → ∀ e r, o = some (e, r) → P j (l ++ u) (some (e, r ++ u)) := by
 intro j l o h
 induction h with
 | nil => intro e r ho; cases ho
 | atom h1 h2 =>
  intro e r ho
  injection ho with ho; injection ho with a1 a2; subst a1; subst a2
  exact .atom h1 h2
 | bad _ _ => intro e r ho; cases ho
 | par h ih =>
  intro e r ho
  injection ho with ho; injection ho with a1 a2; subst a1; subst a2
  exact .par (ih _ _ rfl)
 | parN _ _ => intro e r ho; cases ho
 | parE _ _ => intro e r ho; cases ho
 | parB _ _ _ => intro e r ho; cases ho
 | top hk h ih => intro e r ho; exact .top hk (ih e r ho)
 | levN hk h ih => intro e r ho; cases ho
 | levS hk h1 h2 ih1 ih2 => intro e r ho; exact .levS hk (ih1 _ _ rfl) (ih2 e r ho)
 | stop hn =>
  intro e r ho
  injection ho with ho; injection ho with a1 a2; subst a1; subst a2
  exact .stop (by rw [Rxl hu]; exact hn)
 | step hl h1 h2 ih1 ih2 => intro e r ho; exact .step hl (ih1 _ _ rfl) (ih2 e r ho)
 | stepN hl h ih => intro e r ho; cases ho
theorem Ruf {l u : List Tok} {e : Exp} : ∀ (d k : Nat), P (.lev (k + d)) l (some (e, u)) → k + d ≤ 9 → nlev u < k → P (.lev k) l (some (e, u))
 | 0, k, h, _, _ => h
 | d + 1, k, h, hd, hn => by
  have h2 := Ruf d (k + 1) (by rw [show k + 1 + d = k + (d + 1) by omega]; exact h) (by omega) (by omega)
  exact .levS (by omega) h2 (.stop (by omega))
theorem P_opd {l v : List Tok} {e : Exp} {k : Nat} {o : Out} (h : P .opd l (some (e, v))) (hk : k ≤ 8) (hn : nlev v < k + 1) (hl : P (.loop k e) v o) : P (.lev k) l o := by
 have h9 : P (.lev 9) l (some (e, v)) := .top (by omega) h
 exact .levS hk (Ruf (9 - (k + 1)) (k + 1) (by rw [show k + 1 + (9 - (k + 1)) = 9 by omega]; exact h9) (by omega) hn) hl
theorem Rxy {l v : List Tok} {e : Exp} {k : Nat} (h : P .opd l (some (e, v))) (hk : k ≤ 9) (hn : nlev v < k) : P (.lev k) l (some (e, v)) := by
 have h9 : P (.lev 9) l (some (e, v)) := .top (by omega) h
 exact Ruf (9 - k) k (by rw [show k + (9 - k) = 9 by omega]; exact h9) (by omega) hn
theorem Rsr {x y : Exp} (h1 : x.op = y.op) (h2 : x.n = y.n) (h3 : x.args = y.args) : x = y := by
 cases x; cases y; simp only at h1 h2 h3; subst h1; subst h2; subst h3; rfl
def tvb (t : Tok) : Bool := !t.isEmpty && decide (Rq t = t.length)
theorem Ryi {c : UInt8} (r : List UInt8) (h : bl c = true) : Rq (c :: r) = 0 := by
 obtain ⟨h1, h2⟩ := Ruj h
 have h3 := of_decide_eq_true h
 have hs : ¬ c ∈ syms := by
  intro hm
  have : ∀ x ∈ syms, bl x = false := by decide
  rw [this c hm] at h; cases h
 simp only [Rq, h1, h2, Rsm hs, Bool.false_eq_true, if_false]
 rw [if_neg (fun h => hs (Rpa.mp h).1)]
theorem Rko {t : Tok} (ht : t.length ≤ 1000000000) : Rgf t = some (tvb t) := by
 apply Rkp
 rw [Rgj ht, Qb]
 unfold tvb
 cases t with
 | nil => rfl
 | cons c r =>
  simp only [show ((c :: r : List UInt8) == []) = false from rfl, Zx, Zt, List.isEmpty_cons, Bool.true_and]
  congr 1; congr 1; apply propext; omega
theorem Rhh {t : Tok} (ht : t.length ≤ 1000000000) : Rgp t = some (tvb t) := by
 apply Rlh
 unfold tvb
 cases t with
 | nil => rfl
 | cons c r =>
  simp only [show ((c :: r : List UInt8) == []) = false from rfl, Zx, Zt, List.isEmpty_cons, Bool.true_and]
  cases hb : bl c with
  | true =>
   have : Rgc (c :: r) 0 = some (-1) := by
    apply Rfz
    rw [Rkn, Qb, Rhp, Qb, Ruv.mpr hb]; rfl
   rw [this, Qb, Ryi r hb]
   congr 1
  | false =>
   have h := Rxf ht (i := 0) (by simp) (by simpa using hb)
   rw [List.drop_zero] at h
   rw [show Rgc (c :: r) 0 = _ from h, Qb]
   congr 1; congr 1; apply propext
   simp only [Nat.zero_add]
   split
   ·rename_i h0; rw [h0]; simp only [Zc]; omega
   ·omega
def jn : List Tok → List UInt8
 | [] => []
 | [a] => a
 | a :: b :: r => a ++ 32 :: jn (b :: r)
theorem Ruu : ∀ (p : List Tok) (x : Tok), p ≠ [] → jn (p ++ [x]) = jn p ++ 32 :: x
 | [], x, h => absurd rfl h
 | [a], x, _ => rfl
 | a :: b :: r, x, _ => by
  show a ++ 32 :: jn ((b :: r) ++ [x]) = a ++ 32 :: jn (b :: r) ++ 32 :: x
  rw [Ruu (b :: r) x (by simp), List.append_assoc]; rfl
theorem Rss : ∀ l : List Tok, Lib.join l [32] = jn l
 | [] => rfl
 | [a] => by simp [Lib.join, jn, List.intercalate]
 | a :: b :: r => by
  have ih := Rss (b :: r)
  unfold Lib.join List.intercalate at *
  simp only [List.intersperse, List.flatten_cons] at *
  rw [ih]; simp [jn]
def lvE (e : Exp) : Nat := if e.args = [] then 9 else levN e.op.toNat
def wrp (l : List Tok) (c : Bool) : List Tok := if c then lp :: l ++ [rp] else l
def eT : Nat → Exp → List Tok
 | 0, _ => []
 | d + 1, e =>
  if e.op = 0 then [Lib.itoa e.n]
  else if e.op = 13 then [[UInt8.ofNat (97 + e.n.toNat)]]
  else match e.args with
   | [a, b] => wrp (eT d a) (decide (lvE a < levN e.op.toNat)) ++ [opT e.op] ++ wrp (eT d b) (decide (lvE b ≤ levN e.op.toNat))
   | _ => []
theorem Rsa {d : Nat} {e : Exp} (h : e.op = 0) : eT (d + 1) e = [Lib.itoa e.n] := by simp only [eT]; rw [if_pos h]
theorem Rsb {d : Nat} {e : Exp} (h : e.op = 13) : eT (d + 1) e = [[UInt8.ofNat (97 + e.n.toNat)]] := by
 simp only [eT]; rw [if_neg (by omega), if_pos h]
theorem Ron {d : Nat} {e a b : Exp} (h1 : 1 ≤ e.op) (h2 : e.op ≤ 12) (h : e.args = [a, b]) :
  eT (d + 1) e = wrp (eT d a) (decide (lvE a < levN e.op.toNat)) ++ [opT e.op] ++ wrp (eT d b) (decide (lvE b ≤ levN e.op.toNat)) := by
 simp only [eT]; rw [if_neg (by omega), if_neg (by omega), h]
theorem Rpo (l : List Tok) (c : Bool) : (wrp l c).length ≤ l.length + 2 := by
 unfold wrp; split
 ·simp
 ·omega
theorem Rul : ∀ (d : Nat) (e : Exp), (eT d e).length + 5 ≤ 5 * 2 ^ d
 | 0, e => by simp [eT]
 | d + 1, e => by
  have h1 : 1 ≤ 2 ^ d := Nat.one_le_two_pow
  have hp : 2 ^ (d + 1) = 2 * 2 ^ d := by rw [Nat.pow_succ]; omega
  simp only [eT]
  split
  ·simp only [Zc, Zn]; omega
  split
  ·simp only [Zc, Zn]; omega
  split
  ·rename_i a b _
   have ha := Rul d a
   have hb := Rul d b
   have wa := Rpo (eT d a) (decide (lvE a < levN e.op.toNat))
   have wb := Rpo (eT d b) (decide (lvE b ≤ levN e.op.toNat))
   simp only [Za, Zc, Zn]; omega
  ·simp only [Zn]; omega
theorem Roe {d : Nat} (hd : d ≤ 5) (e : Exp) : (eT d e).length ≤ 155 := by
 have h1 := Rul d e
 have h2 : 2 ^ d ≤ 2 ^ 5 := Nat.pow_le_pow_right (by omega) hd
 omega
theorem wrp_mem {l : List Tok} {c : Bool} {t : Tok} (h : t ∈ wrp l c) : t ∈ l ∨ t = lp ∨ t = rp := by
 unfold wrp at h
 split at h
 ·simp only [List.cons_append, Zo, Zu, List.not_mem_nil, or_false] at h
  rcases h with h | h | h
  ·exact Or.inr (Or.inl h)
  ·exact Or.inl h
  ·exact Or.inr (Or.inr h)
 ·exact Or.inl h
theorem Rrz (u : Nat) : (∀ x ∈ Lib.decDigits u, dg x = true) ∧ Lib.decDigits u ≠ [] := by
 induction u using Nat.strongRecOn with
 | _ u ih =>
  unfold Lib.decDigits
  have hd : ∀ n, n < 10 → dg (UInt8.ofNat (48 + n)) = true := by
   intro n hn
   unfold dg
   apply Zp
   rw [UInt8.toNat_ofNat']; omega
  split
  ·rename_i h
   refine ⟨?_, by simp⟩
   intro x hx
   rw [List.mem_singleton] at hx; subst hx
   exact hd u h
  ·rename_i h
   obtain ⟨h1, h2⟩ := ih (u / 10) (by omega)
   refine ⟨?_, by simp⟩
   intro x hx
   rw [Zu, List.mem_singleton] at hx
   rcases hx with hx | rfl
   ·exact h1 x hx
   ·exact hd (u % 10) (by omega)
theorem Rol : ∀ (a b : List UInt8) (n m : Nat), Lib.decFrom n a = some m → Lib.decFrom n (a ++ b) = Lib.decFrom m b
 | [], b, n, m, h => by simp only [Lib.decFrom] at h; injection h with h; subst h; rfl
 | c :: r, b, n, m, h => by
  simp only [List.cons_append, Lib.decFrom] at *
  cases hd : Lib.digitVal c with
  | none => rw [hd] at h; cases h
  | some v =>
   rw [hd] at h
   exact Rol r b _ m h
theorem Rrd (u : Nat) : Lib.decFrom 0 (Lib.decDigits u) = some u := by
 induction u using Nat.strongRecOn with
 | _ u ih =>
  unfold Lib.decDigits
  have hv : ∀ n, n < 10 → Lib.digitVal (UInt8.ofNat (48 + n)) = some n := by
   intro n hn
   unfold Lib.digitVal
   have : (UInt8.ofNat (48 + n)).toNat = 48 + n := by rw [UInt8.toNat_ofNat']; omega
   rw [this, if_pos (by omega)]; congr 1; omega
  split
  ·rename_i h
   simp only [Lib.decFrom, hv u h]; congr 1; omega
  ·rename_i h
   rw [Rol _ _ _ _ (ih (u / 10) (by omega))]
   simp only [Lib.decFrom, hv (u % 10) (by omega)]; congr 1; omega
theorem Rlr {p : UInt8 → Bool} : ∀ {l : List UInt8}, (∀ x ∈ l, p x = true) → l.takeWhile p = l
 | [], _ => rfl
 | c :: r, h => by
  rw [List.takeWhile_cons, if_pos (h c (List.mem_cons_self ..)), Rlr (fun x hx => h x (List.mem_cons_of_mem _ hx))]
theorem tvb_dg {t : Tok} (h : ∀ x ∈ t, dg x = true) (hn : t ≠ []) : tvb t = true := by
 cases t with
 | nil => exact absurd rfl hn
 | cons c r =>
  unfold tvb
  have h1 := h c (List.mem_cons_self ..)
  have h2 := Rlr (fun x hx => h x (List.mem_cons_of_mem _ hx) : ∀ x ∈ r, dg x = true)
  simp only [Rq, h1, if_true, h2, Zc]
  simp; omega
theorem Rxn : ∀ t ∈ opTs, tvb t = true := by decide
theorem Rvk {n : Int} (h1 : 1 ≤ n) (h2 : n ≤ 12) : opT n ∈ opTs := List.mem_of_getElem? (Rrn h1 h2)
theorem Ryl {n : Int} (h1 : 0 ≤ n) (h2 : n < 4) : tvb [UInt8.ofNat (97 + n.toNat)] = true ∧ atom [UInt8.ofNat (97 + n.toNat)] = some ⟨13, n, []⟩ ∧ ([UInt8.ofNat (97 + n.toNat)] : Tok) ≠ lp := by
 have : n = 0 ∨ n = 1 ∨ n = 2 ∨ n = 3 := by omega
 rcases this with rfl | rfl | rfl | rfl <;> exact ⟨by decide, rfl, by decide⟩
theorem Rts {n : Int} (h1 : 0 ≤ n) (h2 : n ≤ 99999) : tvb (Lib.itoa n) = true ∧ atom (Lib.itoa n) = some ⟨0, n, []⟩ ∧ Lib.itoa n ≠ lp ∧ (Lib.itoa n).length ≤ 5 := by
 obtain ⟨u, rfl⟩ := Int.eq_ofNat_of_zero_le h1
 have e : Lib.itoa (u : Int) = Lib.decDigits u := Lib.itoa_nonneg u
 obtain ⟨hd, hn⟩ := Rrz u
 have hl : (Lib.decDigits u).length ≤ 5 := by
  have := Rea 5 u (by omega); omega
 have hv : numV (Lib.decDigits u) = (u : Int) := by
  unfold numV
  have : (Lib.decDigits u).length ≠ 0 := by rw [ne_eq, List.length_eq_zero_iff]; exact hn
  rw [if_pos (by omega), Rrd]
 rw [e]
 refine ⟨tvb_dg hd hn, ?_, ?_, hl⟩
 ·unfold atom; rw [hv, if_pos h1]
 ·intro h
  have := hd 40 (by rw [h]; decide)
  cases this
theorem Rjp : ∀ (d : Nat) (e : Exp), Rac d e = true → ∀ t ∈ eT d e, tvb t = true ∧ t.length ≤ 100
 | 0, e, h => by cases h
 | d + 1, e, h => by
  intro t ht
  rcases Rcj h with h | h | ⟨h1, h2, _, a, b, hab, ha, hb⟩
  ·rw [Rsa h.1, List.mem_singleton] at ht
   subst ht
   have := Rts h.2.2.1 h.2.2.2
   exact ⟨this.1, by omega⟩
  ·rw [Rsb h.1, List.mem_singleton] at ht
   subst ht
   exact ⟨(Ryl h.2.2.1 h.2.2.2).1, by simp⟩
  ·rw [Ron h1 h2 hab, Zu, Zu, List.mem_singleton] at ht
   have wr : ∀ {l : List Tok} {c : Bool}, (∀ t ∈ l, tvb t = true ∧ t.length ≤ 100) → t ∈ wrp l c → tvb t = true ∧ t.length ≤ 100 := by
    intro l c hl hm
    rcases wrp_mem hm with h | rfl | rfl
    ·exact hl t h
    ·exact ⟨by decide, by decide⟩
    ·exact ⟨by decide, by decide⟩
   rcases ht with (ht | rfl) | ht
   ·exact wr (Rjp d a ha) ht
   ·exact ⟨Rxn _ (Rvk h1 h2), by have := opT_len e.op; omega⟩
   ·exact wr (Rjp d b hb) ht
theorem Rqk {d : Nat} {e : Exp} (h : Rac d e = true) : Rhi e = some (lvE e : Int) := by
 apply Rpg
 cases d with
 | zero => cases h
 | succ d =>
  unfold lvE
  rcases Rcj h with h | h | ⟨h1, h2, _, a, b, hab, ha, hb⟩
  ·simp [h.2.1]
  ·simp [h.2.1]
  ·have hn : ¬ (((e.args.length : Nat) : Int) = 0) := by rw [hab]; simp
   have hn2 : ¬ e.args = [] := by rw [hab]; simp
   have ho : e.op = ((e.op.toNat : Nat) : Int) := by omega
   simp only [hn, hn2, Zz, Zf, if_false]
   conv => lhs; rw [ho]
   rw [Rim (by omega), Qb]
theorem Rsd {l : List Tok} (c : Bool) (hl : l.length ≤ 1000) : Rii l c = some (wrp l c) := by
 apply Rqb
 unfold wrp
 cases c with
 | false => simp
 | true =>
  simp only [Zv, Zf, if_true]
  unfold appL
  rw [if_pos (by simp only [Zc, Zn]; omega), Qb, if_pos (by simp only [Zc, Zn, Za]; omega), Qb]
  rfl
theorem Rfp : ∀ (d : Nat) (e : Exp), d ≤ 5 → Rac d e = true → Rby e = some (eT d e)
 | 0, e, _, h => by cases h
 | d + 1, e, hd, h => by
  apply Roa
  rcases Rcj h with h | h | ⟨h1, h2, _, a, b, hab, ha, hb⟩
  ·simp only [h.1, Zy, Zt]
   rw [Rlm (by unfold wfI; omega), Qb, Rsa h.1]
  ·simp only [h.1, Zy, Zt, show ¬ ((13 : Int) = 0) by omega, Zz, Zf]
   have : e.n = ((e.n.toNat : Nat) : Int) := by omega
   rw [Rsb h.1, this, Rsc (by omega), Qb]; rfl
  ·have c0 : ¬ e.op = 0 := by omega
   have c13 : ¬ e.op = 13 := by omega
   have ho : Rfe e.op = some (levN e.op.toNat : Int) := by
    have ho : e.op = ((e.op.toNat : Nat) : Int) := by omega
    conv => lhs; rw [ho]
    exact Rim (by omega)
   have la := Roe (d := d) (by omega) a
   have lb := Roe (d := d) (by omega) b
   simp only [c0, c13, Zz, Zf, ho, Qb, hab, Rkn, Rxc, Rag, Rfp d a (by omega) ha, Rfp d b (by omega) hb, Rqk ha, Rqk hb, Rpt]
   have wa := Rpo (eT d a) (decide (lvE a < levN e.op.toNat))
   have wb := Rpo (eT d b) (decide (lvE b ≤ levN e.op.toNat))
   have e1 : decide ((lvE a : Int) < (levN e.op.toNat : Int)) = decide (lvE a < levN e.op.toNat) := by congr 1; apply propext; omega
   have e2 : decide ((lvE b : Int) ≤ (levN e.op.toNat : Int)) = decide (lvE b ≤ levN e.op.toNat) := by congr 1; apply propext; omega
   rw [e1, e2, Rsd _ (by omega), Qb, Rci (by omega), Qb, Rsd _ (by omega), Qb]
   unfold appL
   rw [if_pos (by simp only [Za, Zc, Zn]; omega), Qb, Ron h1 h2 hab]
theorem Rmw {n : Int} (h1 : 0 ≤ n) (h2 : n < 4) : Rfc n = some [UInt8.ofNat (97 + n.toNat)] := by
 apply Rot
 have e1 : wrap32 (wrap64 (97 + n)) = 97 + n := by rw [wrap_id (by omega) (by omega)]; unfold wrap32; omega
 rw [e1]
 unfold rune
 rw [if_pos (by omega), Qb, show (97 + n).toNat = 97 + n.toNat by omega]
theorem Rcv : ∀ (d : Nat) (e : Exp) (out : List Tok), d ≤ 5 → Rac d e = true → out.length ≤ 20000 * (6 - d) → Rm e out = some (out ++ eT d e)
 | 0, e, out, _, h, _ => by cases h
 | d + 1, e, out, hd, h, hl => by
  have opnd : ∀ (a : Exp) (least : Nat) (o : List Tok), least ≤ 9 → Rac d a = true → o.length ≤ 20000 * (6 - d) - 10 → Rcw a (least : Int) o = some (o ++ wrp (eT d a) (decide (lvE a < least))) := by
   intro a least o hle ha ho
   apply Rir
   rw [Rge, Qb]
   obtain ⟨d', rfl⟩ : ∃ d', d = d' + 1 := by
    cases d with
    | zero => cases ha
    | succ d => exact ⟨d, rfl⟩
   have leaf : ¬ (1 ≤ a.op ∧ a.op ≤ 12) → a.args = [] → (bif (!decide (1 ≤ a.op ∧ a.op ≤ 12)) then bnd (Rm (⟨a.op, a.n, a.args⟩ : Exp) o) (fun r2 => some r2) else
     bnd (Rbr a.op) fun r3 => (bif (decide ((least : Int) ≤ r3)) then bnd (Rm (⟨a.op, a.n, a.args⟩ : Exp) o) (fun r4 => some r4) else
     bnd (appL o ([[40]] : List (List UInt8))) fun l5 => bnd (Rm (⟨a.op, a.n, a.args⟩ : Exp) l5) fun r6 => bnd (appL r6 ([[41]] : List (List UInt8))) fun l7 => some l7)) = some (o ++ wrp (eT (d' + 1) a) (decide (lvE a < least))) := by
    intro hv hargs
    have hlv : ¬ lvE a < least := by unfold lvE; rw [if_pos hargs]; omega
    simp only [hv, hlv, Zz, Zx, Zt, Rag]
    rw [Rcv (d' + 1) a o (by omega) ha (by omega), Qb]
    rfl
   rcases Rcj ha with h | h | ⟨h1, h2, _, p, q, hpq, _, _⟩
   ·exact leaf (by omega) h.2.1
   ·exact leaf (by omega) h.2.1
   ·have hv : (1 ≤ a.op ∧ a.op ≤ 12) := ⟨h1, h2⟩
    have hlv : lvE a = levN a.op.toNat := by unfold lvE; rw [if_neg (by rw [hpq]; simp)]
    have hol : Rbr a.op = some (levN a.op.toNat : Int) := by
     have ho : a.op = ((a.op.toNat : Nat) : Int) := by omega
     conv => lhs; rw [ho]
     exact Rcn (by omega)
    have small := Roe (d := d' + 1) (by omega) a
    simp only [hv, and_self, Zy, Zv, Zf, hol, Qb, Rag]
    by_cases hc : levN a.op.toNat < least
    ·have hc' : ¬ ((least : Int) ≤ (levN a.op.toNat : Int)) := by omega
     have hc2 : lvE a < least := by omega
     simp only [hc', Zz, Zf]
     rw [Rci (by omega), Qb, Rcv (d' + 1) a _ (by omega) ha (by simp only [Za, Zc, Zn]; omega), Qb, Rci (by simp only [Za, Zc, Zn]; omega), Qb]
     rw [Zp hc2]
     unfold wrp
     rw [if_pos rfl]
     simp [lp, rp]
    ·have hc' : ((least : Int) ≤ (levN a.op.toNat : Int)) := by omega
     have hc2 : ¬ lvE a < least := by omega
     simp only [hc', Zy, Zt]
     rw [Rcv (d' + 1) a o (by omega) ha (by omega), Qb, Zq hc2]
     rfl
  apply Rks
  rcases Rcj h with h | h | ⟨h1, h2, _, a, b, hab, ha, hb⟩
  ·simp only [h.1, Zy, Zt]
   rw [Rut (by unfold wfI; omega), Qb, Rci (by omega), Qb, Rsa h.1]
  ·simp only [h.1, Zy, Zt, show ¬ ((13 : Int) = 0) by omega, Zz, Zf]
   rw [Rmw h.2.2.1 h.2.2.2, Qb, Rci (by omega), Qb, Rsb h.1]
  ·have c0 : ¬ e.op = 0 := by omega
   have c13 : ¬ e.op = 13 := by omega
   have ho : Rbr e.op = some (levN e.op.toNat : Int) := by
    have ho : e.op = ((e.op.toNat : Nat) : Int) := by omega
    conv => lhs; rw [ho]
    exact Rcn (by omega)
   have l8 := Rkc e.op.toNat
   have la := Roe (d := d) (by omega) a
   have wa := Rpo (eT d a) (decide (lvE a < levN e.op.toNat))
   simp only [c0, c13, Zz, Zf, ho, Qb, hab, Rkn, Rxc, Rag]
   rw [opnd a _ out (by omega) ha (by omega), Qb, Rpp, Qb, Rci (by rw [Za]; omega), Qb, w1n (by omega),
    opnd b _ _ (by omega) hb (by simp only [Za, Zc, Zn]; omega), Qb, Ron h1 h2 hab]
   have e2 : decide (lvE b < levN e.op.toNat + 1) = decide (lvE b ≤ levN e.op.toNat) := by congr 1; apply propext; omega
   rw [e2]
   simp [List.append_assoc]
theorem Rtz {w : Tok} (h : tvb w = true) : ∃ c r, w = c :: r ∧ bl c = false ∧ Rq (c :: r) = (c :: r).length := by
 cases w with
 | nil => cases h
 | cons c r =>
  unfold tvb at h
  simp only [List.isEmpty_cons, Zx, Bool.true_and, Ze] at h
  refine ⟨c, r, rfl, ?_, h⟩
  cases hb : bl c with
  | false => rfl
  | true => rw [Ryi r hb] at h; simp at h
theorem Rxu {w : Tok} (h : tvb w = true) {d : UInt8} (hd : fin d) (s : List UInt8) : toks (w ++ d :: s) = bnd (toks (d :: s)) fun t => some (w :: t) := by
 obtain ⟨c, r, rfl, hb, hl⟩ := Rtz h
 have e := Rue hd c r s
 rw [hl] at e
 have e2 : Rq (c :: (r ++ d :: s)) = (c :: r).length := e
 rw [List.cons_append, Roi hb (by rw [e2]; simp), e2, ← List.cons_append, List.drop_left, List.take_left]
theorem Rxt {w : Tok} (h : tvb w = true) : toks w = some [w] := by
 obtain ⟨c, r, rfl, hb, hl⟩ := Rtz h
 rw [Roi hb (by rw [hl]; simp), hl, List.drop_length, Roh, Qb, List.take_length]
theorem toks_sp (s : List UInt8) : toks (32 :: s) = toks s := Rsw s (by decide)
theorem Rwp : ∀ (l : List Tok), (∀ t ∈ l, tvb t = true) → toks (jn l) = some l
 | [], _ => Roh
 | [a], h => Rxt (h a (by simp))
 | a :: b :: r, h => by
  show toks (a ++ 32 :: jn (b :: r)) = _
  rw [Rxu (h a (by simp)) (Or.inl (by decide)), toks_sp, Rwp (b :: r) (fun t ht => h t (List.mem_cons_of_mem _ ht)), Qb]
theorem opN_opT {n : Int} (h1 : 1 ≤ n) (h2 : n ≤ 12) : opN (opT n) = n.toNat := by
 have : ∀ i : Fin 13, 1 ≤ i.val → opN (opT (i.val : Int)) = i.val := by decide
 have h := this ⟨n.toNat, by omega⟩ (by show 1 ≤ n.toNat; omega)
 rw [show (((⟨n.toNat, by omega⟩ : Fin 13).val : Nat) : Int) = n by show ((n.toNat : Nat) : Int) = n; omega] at h
 exact h
theorem Rrl {n : Nat} (h1 : 1 ≤ n) (h2 : n ≤ 12) : 1 ≤ levN n := by
 have := (Ruy h2); omega
theorem Rwz {e a b : Exp} (h1 : 1 ≤ e.op) (hn : e.n = 0) (h : e.args = [a, b]) : (⟨((e.op.toNat : Nat) : Int), 0, [a, b]⟩ : Exp) = e := by
 apply Rsr
 ·show ((e.op.toNat : Nat) : Int) = e.op; omega
 ·exact hn.symm
 ·exact h.symm
theorem back : ∀ (d : Nat) (e : Exp), Rac d e = true →
  (∀ k, 1 ≤ k → k ≤ 8 → k ≤ lvE e → ∀ v o, nlev v < k + 1 → P (.loop k e) v o → P (.lev k) (eT d e ++ v) o) ∧ (lvE e = 9 → ∀ v, P .opd (eT d e ++ v) (some (e, v)))
 | 0, e, h => by cases h
 | d + 1, e, h => by
  have leaf : (∀ v, P .opd (eT (d + 1) e ++ v) (some (e, v))) → (∀ k, 1 ≤ k → k ≤ 8 → k ≤ lvE e → ∀ v o, nlev v < k + 1 → P (.loop k e) v o → P (.lev k) (eT (d + 1) e ++ v) o) ∧ (lvE e = 9 → ∀ v, P .opd (eT (d + 1) e ++ v) (some (e, v))) := by
   intro hp
   exact ⟨fun k k1 k8 _ v o hn hl => P_opd (hp v) k8 hn hl, fun _ => hp⟩
  rcases Rcj h with h | h | ⟨h1, h2, hn0, a, b, hab, ha, hb⟩
  ·apply leaf
   intro v
   obtain ⟨_, h5, h6, _⟩ := Rts h.2.2.1 h.2.2.2
   rw [Rsa h.1]
   have : e = ⟨0, e.n, []⟩ := Rsr h.1 rfl h.2.1
   rw [this]
   exact .atom h6 h5
  ·apply leaf
   intro v
   obtain ⟨_, h5, h6⟩ := Ryl h.2.2.1 h.2.2.2
   rw [Rsb h.1]
   have : e = ⟨13, e.n, []⟩ := Rsr h.1 rfl h.2.1
   rw [this]
   exact .atom h6 h5
  ·have hlv : lvE e = levN e.op.toNat := by unfold lvE; rw [if_neg (by rw [hab]; simp)]
   have l8 := Rkc e.op.toNat
   have l1 := Rrl (n := e.op.toNat) (by omega) (by omega)
   obtain ⟨ca, oa⟩ := back d a ha
   obtain ⟨cb, ob⟩ := back d b hb
   have par : ∀ (x : Exp), (∀ k, 1 ≤ k → k ≤ 8 → k ≤ lvE x → ∀ v o, nlev v < k + 1 → P (.loop k x) v o → P (.lev k) (eT d x ++ v) o) → 1 ≤ lvE x → ∀ v, P .opd (lp :: eT d x ++ [rp] ++ v) (some (x, v)) := by
    intro x cx hx v
    have := cx 1 (Nat.le_refl 1) (by omega) hx (rp :: v) (some (x, rp :: v)) (by show levN (opN rp) < 2; decide) (.stop (by show levN (opN rp) ≠ 1; decide))
    have h2 : P .opd (lp :: (eT d x ++ rp :: v)) (some (x, v)) := .par this
    rw [show lp :: eT d x ++ [rp] ++ v = lp :: (eT d x ++ rp :: v) by simp]
    exact h2
   have lvE_pos : ∀ {x : Exp}, Rac d x = true → 1 ≤ lvE x ∧ lvE x ≤ 9 := by
    intro x hx
    cases d with
    | zero => cases hx
    | succ d =>
     unfold lvE
     rcases Rcj hx with h | h | ⟨g1, g2, _, p, q, hpq, _, _⟩
     ·rw [if_pos h.2.1]; omega
     ·rw [if_pos h.2.1]; omega
     ·rw [if_neg (by rw [hpq]; simp)]
      have := Rkc x.op.toNat
      have := Rrl (n := x.op.toNat) (by omega) (by omega)
      omega
   have opdA : ∀ (x : Exp), Rac d x = true → (∀ k, 1 ≤ k → k ≤ 8 → k ≤ lvE x → ∀ v o, nlev v < k + 1 → P (.loop k x) v o → P (.lev k) (eT d x ++ v) o) → ∀ (k : Nat), 1 ≤ k → k ≤ 8 → ∀ v o, nlev v < k + 1 → P (.loop k x) v o → P (.lev k) (wrp (eT d x) (decide (lvE x < k)) ++ v) o := by
    intro x hx cx k k1 k8 v o hn hl
    by_cases hc : lvE x < k
    ·rw [Zp hc]
     exact P_opd (par x cx (lvE_pos hx).1 v) k8 hn hl
    ·rw [Zq hc]
     exact cx k k1 k8 (by omega) v o hn hl
   have opdB : ∀ v, nlev v < levN e.op.toNat + 1 → P (.lev (levN e.op.toNat + 1)) (wrp (eT d b) (decide (lvE b ≤ levN e.op.toNat)) ++ v) (some (b, v)) := by
    intro v hn
    by_cases hc : lvE b ≤ levN e.op.toNat
    ·rw [Zp hc]
     exact Rxy (par b cb (lvE_pos hb).1 v) (by omega) hn
    ·rw [Zq hc]
     by_cases h9 : levN e.op.toNat = 8
     ·have hb9 : lvE b = 9 := by have := (lvE_pos hb).2; omega
      exact Rxy (ob hb9 v) (by omega) hn
     ·exact cb (levN e.op.toNat + 1) (by omega) (by omega) (by omega) v _ (by omega) (.stop (by omega))
   have top : ∀ v o, nlev v < levN e.op.toNat + 1 → P (.loop (levN e.op.toNat) e) v o → P (.lev (levN e.op.toNat)) (eT (d + 1) e ++ v) o := by
    intro v o hn hl
    rw [Ron h1 h2 hab, List.append_assoc, List.append_assoc]
    have hop : opN (opT e.op) = e.op.toNat := opN_opT h1 h2
    refine opdA a ha ca _ l1 l8 _ _ ?_ ?_
    ·show levN (opN (opT e.op)) < _
     rw [hop]; omega
    ·refine .step (by rw [hop]) (opdB v hn) ?_
     rw [hop, Rwz h1 hn0 hab]
     exact hl
   have all : ∀ (i k : Nat), k + i = levN e.op.toNat → 1 ≤ k → ∀ v o, nlev v < k + 1 → P (.loop k e) v o → P (.lev k) (eT (d + 1) e ++ v) o := by
    intro i
    induction i with
    | zero =>
     intro k hk k1 v o hn hl
     have : k = levN e.op.toNat := by omega
     subst this
     exact top v o hn hl
    | succ i ih =>
     intro k hk k1 v o hn hl
     have := ih (k + 1) (by omega) (by omega) v (some (e, v)) (by omega) (.stop (by omega))
     exact .levS (by omega) this hl
   refine ⟨fun k k1 k8 kl v o hn hl => all (levN e.op.toNat - k) k (by omega) k1 v o hn hl, fun h9 => ?_⟩
   omega
theorem lvE_ge {d : Nat} {x : Exp} (hx : Rac d x = true) : 1 ≤ lvE x ∧ lvE x ≤ 9 := by
 cases d with
 | zero => cases hx
 | succ d =>
  unfold lvE
  rcases Rcj hx with h | h | ⟨g1, g2, _, p, q, hpq, _, _⟩
  ·rw [if_pos h.2.1]; omega
  ·rw [if_pos h.2.1]; omega
  ·rw [if_neg (by rw [hpq]; simp)]
   have := Rkc x.op.toNat
   have := Rrl (n := x.op.toNat) (by omega) (by omega)
   omega
theorem Rwy {d : Nat} {e : Exp} (h : Rac d e = true) : P (.lev 1) (eT d e) (some (e, [])) := by
 have := (back d e h).1 1 (Nat.le_refl 1) (by omega) (lvE_ge h).1 [] (some (e, [])) (by show 0 < 2; omega) (.stop (by show 0 ≠ 1; omega))
 rwa [List.append_nil] at this
def xs : Nat → Nat
 | 0 => 0
 | d + 1 => 2 + 2 * xs d
theorem Rrf (a b : Exp) : emXs [a, b] = 2 + emX a + emX b := by simp [emXs]; omega
theorem Rmh {b : List Int} {p m : Int} (h : Rd b p m) (hm : m ≤ 999999990) : Ok (Rch b p) fun r => emXs r.2.2.1.2 = 0 := by
 apply Ok.le (Riz b p)
 refine Ok.bnd (Raf h (by omega) (by decide)) fun r1 h1 => ?_
 refine Ok.bif (fun _ => ?_) (fun _ => ?_)
 ·refine Ok.bnd (Raf h1.1 (by omega) (by decide)) fun r2 h2 => ?_
  rw [Rdc, Qb]
  exact Ok.of rfl
 refine Ok.bif (fun _ => ?_) (fun _ => ?_)
 ·refine Ok.bnd (Raf h1.1 (by omega) (by decide)) fun r2 h2 => ?_
  refine Ok.bnd (Riw h2.2 (by omega) rfl) fun e he => ?_
  rw [Rdc, Qb]
  exact Ok.of rfl
 ·refine Ok.bnd (Raf h1.1 (by omega) (by decide)) fun r2 h2 => ?_
  rw [Rdc, Qb]
  exact Ok.of rfl
theorem Rmg : ∀ (d : Nat) {b : List Int} {p m : Int} (n : Int), n = (d : Int) + 1 → d ≤ 10 → Rd b p m → m + cost d ≤ 999999990 →
  Ok (Rad n b p) fun r => emXs r.2.2.1.2 ≤ xs d
 | d, b, p, m, n, hn, hd, h, hm => by
  apply Ok.le (Riy n b p)
  have hc := Rkl d
  refine Ok.bif (fun hb => ?_) (fun hb => ?_)
  ·refine Ok.bnd (Rmh h (by omega)) fun r1 h1 => ?_
   exact Ok.of (by dsimp only; omega)
  ·simp only [decide_eq_false_iff_not] at hb
   obtain ⟨d, rfl⟩ : ∃ d', d = d' + 1 := ⟨d - 1, by omega⟩
   have hc' := Rkl d
   simp only [cost] at hm ⊢
   refine Ok.bnd (Raf h (by omega) (by decide)) fun r1 h1 => ?_
   refine Ok.bif (fun _ => ?_) (fun _ => ?_)
   ·refine Ok.bnd (Rmh h1.1 (by omega)) fun r2 h2 => ?_
    exact Ok.of (by dsimp only; omega)
   ·refine Ok.bnd (Rtq h1.1 (by omega)) fun r2 h2 => ?_
    rw [wrap_id (n := n - 1) (by omega) (by omega)]
    refine Ok.bnd ((Rhq d (n - 1) (by omega) (by omega) h2.1 (by omega)).and (Rmg d (n - 1) (by omega) (by omega) h2.1 (by omega))) fun r3 h3 => ?_
    refine Ok.bnd ((Rhq d (n - 1) (by omega) (by omega) h3.1.1 (by omega)).and (Rmg d (n - 1) (by omega) (by omega) h3.1.1 (by omega))) fun r4 h4 => ?_
    rw [Rkx, Qb]
    refine Ok.of ?_
    have e3 := h3.2
    have e4 := h4.2
    simp only [Rrf, Rkm, xs]
    omega
theorem Rrh {b : List Int} {p m : Int} (n : Int) (h1 : 1 ≤ n) (h2 : n ≤ 4) (h : Rd b p m) (hm : m ≤ 999999000) : Ok (Rad n b p) fun r => Rd r.2.2.2.1 r.2.2.2.2 (m + 30) ∧ emXs r.2.2.1.2 ≤ 14 := by
 have hc : ∀ d : Nat, d ≤ 3 → cost d ≤ 30 ∧ xs d ≤ 14 := by
  intro d hd
  match d, hd with
  | 0, _ => decide
  | 1, _ => decide
  | 2, _ => decide
  | 3, _ => decide
 obtain ⟨c1, c2⟩ := hc (n - 1).toNat (by omega)
 exact ((Rhq (n - 1).toNat n (by omega) (by omega) h (by omega)).and (Rmg (n - 1).toNat n (by omega) (by omega) h (by omega))).mono fun r hr => ⟨hr.1.1.mono (by omega), by have := hr.2; omega⟩
theorem Req : ∀ a b : List Stm, mSs (a ++ b) = mSs a + mSs b
 | [], b => by simp [mSs]
 | s :: a, b => by simp only [List.cons_append, mSs, Req a b]; omega
theorem Rkd (k v x o n : Int) (as : List Exp) (bd el : List Stm) : mS ⟨k, v, x, ⟨o, n, as⟩, bd, el⟩ = emXs as + mSs bd + mSs el := by simp [Rrm, Rkm]
def cs : Nat → Int
 | 0 => 40
 | k + 1 => 60 + 4 * cs k
def ms : Nat → Nat
 | 0 => 15
 | k + 1 => 30 + 4 * ms k
theorem Rqg : ∀ k, 40 ≤ cs k
 | 0 => by simp [cs]
 | k + 1 => by have := Rqg k; simp only [cs]; omega
theorem Rvc : ∀ k, 15 ≤ ms k
 | 0 => by simp [ms]
 | k + 1 => by have := Rvc k; simp only [ms]; omega
theorem Roz {b : List Int} {p m : Int} (h : Rd b p m) (hm : m ≤ 999998000) : Ok (Rhb b p) fun r => Rd r.2.1 r.2.2 (m + 32) ∧ mS r.1 ≤ 14 := by
 apply Ok.le (Rqd b p)
 refine Ok.bnd (Raf h (by omega) (by decide)) fun r1 h1 => ?_
 refine Ok.bnd (Raf h1.1 (by omega) (by decide)) fun r2 h2 => ?_
 have hk := h2.2.2.1 (by omega)
 rw [wrap_id (n := 1 + r2.1) (by omega) (by omega)]
 refine Ok.bnd (Rrh _ (by omega) (by omega) h2.1 (by omega)) fun r3 h3 => ?_
 refine Ok.of ⟨h3.1.mono (by omega), ?_⟩
 rw [Rkd]; have := h3.2; simp only [mSs]; omega
theorem Rmi {b : List Int} {p m : Int} (n : Int) (hn : n ≤ 1000) (h : Rd b p m) (hm : m ≤ 999998000) : Ok (Rfj n b p) fun r => Rd r.2.1 r.2.2 (m + 35) ∧ mS r.1 ≤ 14 := by
 apply Ok.le (Rpj n b p)
 refine Ok.bif (fun _ => ?_) (fun hb => ?_)
 ·refine Ok.bnd (Roz h hm) fun r1 h1 => ?_
  refine Ok.of ⟨h1.1.mono (by omega), ?_⟩
  have := h1.2
  rw [Rkd]; rw [Rrm, Rkm] at this; exact this
 simp only [decide_eq_false_iff_not] at hb
 refine Ok.bnd (Raf h (by omega) (by unfold wfI; omega)) fun r2 h2 => ?_
 refine Ok.bnd (Raf h2.1 (by omega) (by decide)) fun r3 h3 => ?_
 refine Ok.bif (fun _ => ?_) (fun _ => ?_)
 ·refine Ok.bnd (Raf h3.1 (by omega) (by decide)) fun r4 h4 => ?_
  have hk := h4.2.2.1 (by omega)
  rw [wrap_id (n := 1 + r4.1) (by omega) (by omega)]
  refine Ok.bnd (Rrh _ (by omega) (by omega) h4.1 (by omega)) fun r5 h5 => ?_
  refine Ok.of ⟨h5.1.mono (by omega), ?_⟩
  rw [Rkd]; have := h5.2; simp only [mSs]; omega
 ·refine Ok.bnd (Raf h3.1 (by omega) (by decide)) fun r6 h6 => ?_
  refine Ok.of ⟨h6.1.mono (by omega), ?_⟩
  rw [Rkd]; simp [mSs, emXs]
def Rqx (k : Nat) : Prop := ∀ {b : List Int} {p m : Int} (a n : Int) (lo : Bool), a ≤ 1000 → n ≤ 2 → Rd b p m → m + 2 * cs k ≤ 999990000 → Ok (Rcm a k n lo b p) fun r => Rd r.2.1 r.2.2 (m + 2 * cs k) ∧ mSs r.1 ≤ 2 * ms k
def Rrw (k : Nat) : Prop := ∀ {b : List Int} {p m : Int} (a : Int) (lo : Bool), a ≤ 1000 → Rd b p m → m + cs k ≤ 999990000 → Ok (Rhj a k lo b p) fun r => Rd r.2.1 r.2.2 (m + cs k) ∧ mSs r.1 ≤ ms k
theorem Rtc {k : Nat} (hs : Rrw k) {a n : Int} {lo : Bool} (ha : a ≤ 1000) : ∀ (d : Nat) (i : Int) (f : Bool) (l : List Stm) {b : List Int} {p m : Int}, (n ≤ i + d) → 0 ≤ i → i ≤ 100 - d → mSs l + d * ms k ≤ 1000000000 → d ≤ 100 → Rd b p m → m + d * cs k ≤ 999990000 →
  Ok (Rdq a k n lo f l i b p) fun r => Rd r.2.1 r.2.2 (m + d * cs k) ∧ mSs r.1.2 ≤ mSs l + d * ms k
 | 0, i, f, l, b, p, m, hd, h0, hi1, hl, hdd, h, hm => by
  apply Ok.le (Rgx _ _ _ _ _ _ _ _ _)
  have : ¬ (i < n) := by omega
  simp only [this, Zz, Zf]
  exact Ok.of ⟨h.mono (by omega), by simp⟩
 | d + 1, i, f, l, b, p, m, hd, h0, hi1, hl, hdd, h, hm => by
  apply Ok.le (Rgx _ _ _ _ _ _ _ _ _)
  have hc := Rqg k
  have e1 : ((d + 1 : Nat) : Int) * cs k = d * cs k + cs k := by rw [Int.natCast_add, Int.add_mul]; omega
  have e2 : (d + 1) * ms k = d * ms k + ms k := by rw [Nat.add_mul]; omega
  have e3 : 0 ≤ (d : Int) * cs k := Int.mul_nonneg (by omega) (by omega)
  rw [e1] at hm ⊢
  rw [e2] at hl ⊢
  refine Ok.bif (fun hb => ?_) (fun hb => ?_)
  ·simp only [Ze] at hb
   refine Ok.bnd (hs a lo ha h (by omega)) fun r1 h1 => ?_
   have hl1 := Rcu l
   have hl2 := Rcu r1.1
   have h12 := h1.2
   rw [Rj (by omega), Qb, wrap_id (n := i + 1) (by omega) (by omega)]
   have ea := Req l r1.1
   exact (Rtc hs ha d (i + 1) true _ (by omega) (by omega) (by omega) (by omega) (by omega) h1.1 (by omega)).mono fun r hr => ⟨hr.1.mono (by omega), by have := hr.2; omega⟩
  ·exact Ok.of ⟨h.mono (by omega), by show mSs l ≤ _; omega⟩
theorem Rom {k : Nat} (hs : Rrw k) (d : Nat) (hd : d ≤ 10) (hms : ms k ≤ 10000000) {b : List Int} {p m : Int} (a n : Int) (lo : Bool) (ha : a ≤ 1000) (hn : n ≤ d) (h : Rd b p m) (hm : m + d * cs k ≤ 999990000) : Ok (Rcm a k n lo b p) fun r => Rd r.2.1 r.2.2 (m + d * cs k) ∧ mSs r.1 ≤ d * ms k := by
 apply Ok.le (Rob _ _ _ _ _ _)
 have hk : d * ms k ≤ 10 * 10000000 := Nat.mul_le_mul hd hms
 refine Ok.bnd (Rtc hs ha d 0 true [] (by omega) (by omega) (by omega) (by simp [mSs]; omega) (by omega) h hm) fun r hr => ?_
 exact Ok.of ⟨hr.1, by have := hr.2; simp only [mSs] at this; dsimp only; omega⟩
theorem Rxh {k : Nat} (hb : Rqx k) {b : List Int} {p m : Int} (a : Int) (lo : Bool) (ha : a ≤ 1000) (hk : k ≤ 10) (h : Rd b p m) (hm : m + cs (k + 1) ≤ 999990010) : Ok (Rmu a ((k + 1 : Nat) : Int) lo b p) fun r => Rd r.2.1 r.2.2 (m + (cs (k + 1) - 10)) ∧ mS r.1 + 1 ≤ ms (k + 1) := by
 apply Ok.le (Rrs _ _ _ _ _)
 have hc := Rqg k
 simp only [cs, ms] at hm ⊢
 refine Ok.bnd (Raf h (by omega) (by decide)) fun r1 h1 => ?_
 have hk1 := h1.2.2.1 (by omega)
 rw [wrap_id (n := 1 + r1.1) (by omega) (by omega), wrap_id (n := ((k + 1 : Nat) : Int) - 1) (by omega) (by omega), show ((k + 1 : Nat) : Int) - 1 = (k : Int) by omega]
 refine Ok.bnd (Rrh _ (by omega) (by omega) h1.1 (by omega)) fun r2 h2 => ?_
 refine Ok.bnd (Raf h2.1 (by omega) (by decide)) fun r3 h3 => ?_
 have hk3 := h3.2.2.1 (by omega)
 refine Ok.bnd (hb a _ lo ha (by omega) h3.1 (by omega)) fun r4 h4 => ?_
 refine Ok.bnd (Raf h4.1 (by omega) (by decide)) fun r5 h5 => ?_
 have hk5 := h5.2.2.1 (by omega)
 refine Ok.bnd (hb a _ lo ha (by omega) h5.1 (by omega)) fun r6 h6 => ?_
 refine Ok.of ⟨h6.1.mono (by omega), ?_⟩
 have q2 := h2.2
 have q4 := h4.2
 have q6 := h6.2
 rw [Rkd]; omega
theorem Ruc {k : Nat} (hb : Rqx k) {b : List Int} {p m : Int} (a : Int) (ha : a ≤ 1000) (hk : k ≤ 10) (hms : ms k ≤ 10000000) (h : Rd b p m) (hm : m + cs (k + 1) ≤ 999990010) : Ok (Rja a ((k + 1 : Nat) : Int) b p) fun r => Rd r.2.1 r.2.2 (m + (cs (k + 1) - 10)) ∧ mSs r.1 ≤ ms (k + 1) := by
 apply Ok.le (Rph _ _ _ _)
 have hc := Rqg k
 have hp := Rvc k
 simp only [cs, ms] at hm ⊢
 refine Ok.bnd (Raf h (by omega) (by decide)) fun r1 h1 => ?_
 have hk1 := h1.2.2.1 (by omega)
 rw [wrap_id (n := ((k + 1 : Nat) : Int) - 1) (by omega) (by omega), show ((k + 1 : Nat) : Int) - 1 = (k : Int) by omega]
 refine Ok.bnd (hb a _ false ha (by omega) h1.1 (by omega)) fun r2 h2 => ?_
 rw [Rdc, Qb, Rdc, Qb, Rkx, Qb, Qb]
 refine Ok.bnd (Raf h2.1 (by omega) (by decide)) fun r7 h7 => ?_
 have hk7 := h7.2.2.1 (by omega)
 have hl2 := Rcu r2.1
 have q2 := h2.2
 rw [wrap_id (n := 1 + r7.1) (by omega) (by omega), Rdc, Qb, Rkx, Qb, Rj (by simp; omega), Qb, Rdc, Qb]
 refine Ok.of ⟨h7.1.mono (by omega), ?_⟩
 simp only [mSs, Rkd, Req, Rrf, Rkm, emXs]
 omega
theorem Rwn (k : Nat) (hk : k ≤ 4) (hms : ms k ≤ 10000000) (hb : ∀ k', k = k' + 1 → Rqx k') : Rrw k := by
 intro b p m a lo ha h hm
 apply Ok.le (Rpi _ _ _ _ _)
 have hc := Rqg k
 have hp := Rvc k
 have pr : ∀ {b : List Int} {p m' : Int}, Rd b p m' → m' ≤ m + 1 → Ok (Vs.bnd (Ra 3 b p) fun r5 => Vs.bnd (Rad (wrap64 (1 + r5.1)) r5.2.1 r5.2.2) fun r6 => some (([⟨7, 0, 0, ⟨r6.1, r6.2.1, r6.2.2.1.2⟩, [], []⟩] : List Stm), r6.2.2.2.1, r6.2.2.2.2)) fun r => Rd r.2.1 r.2.2 (m + cs k) ∧ mSs r.1 ≤ ms k := by
  intro b p m' h' hm'
  refine Ok.bnd (Raf h' (by omega) (by decide)) fun r5 h5 => ?_
  have hk5 := h5.2.2.1 (by omega)
  rw [wrap_id (n := 1 + r5.1) (by omega) (by omega)]
  refine Ok.bnd (Rrh _ (by omega) (by omega) h5.1 (by omega)) fun r6 h6 => ?_
  refine Ok.of ⟨h6.1.mono (by omega), ?_⟩
  have := h6.2
  simp only [mSs, Rkd]; omega
 have one : ∀ {s : Stm}, mS s ≤ 14 → mSs [(⟨s.kind, s.var, s.box, ⟨s.e.op, s.e.n, s.e.args⟩, s.body, s.els⟩ : Stm)] ≤ ms k := by
  intro s hs
  rw [Rrm, Rkm] at hs
  simp only [mSs, Rkd]; omega
 refine Ok.bnd (Raf h (by omega) (by decide)) fun r1 h1 => ?_
 refine Ok.bif (fun _ => ?_) (fun _ => ?_)
 ·exact Ok.bnd (Roz h1.1 (by omega)) fun r2 h2 => Ok.of ⟨h2.1.mono (by omega), one h2.2⟩
 refine Ok.bif (fun _ => ?_) (fun _ => ?_)
 ·exact Ok.bnd (Roz h1.1 (by omega)) fun r2 h2 => Ok.of ⟨h2.1.mono (by omega), one h2.2⟩
 refine Ok.bif (fun _ => ?_) (fun _ => ?_)
 ·refine Ok.bif (fun h0 => ?_) (fun _ => pr h1.1 (by omega))
  simp only [Ze] at h0
  obtain ⟨k', rfl⟩ : ∃ k', k = k' + 1 := ⟨k - 1, by omega⟩
  refine Ok.bnd (Rxh (hb k' rfl) a lo ha (by omega) h1.1 (by omega)) fun r4 h4 => ?_
  refine Ok.of ⟨h4.1.mono (by omega), ?_⟩
  have := h4.2
  rw [Rrm, Rkm] at this
  simp only [mSs, Rkd]; omega
 refine Ok.bif (fun _ => ?_) (fun _ => ?_)
 ·refine Ok.bif (fun h0 => ?_) (fun _ => pr h1.1 (by omega))
  refine Ok.bif (fun _ => ?_) (fun _ => pr h1.1 (by omega))
  simp only [Ze] at h0
  obtain ⟨k', rfl⟩ : ∃ k', k = k' + 1 := ⟨k - 1, by omega⟩
  refine Ok.bnd (Ruc (hb k' rfl) a ha (by omega) (by simp only [ms] at hms; omega) h1.1 (by omega)) fun r4 h4 => ?_
  exact Ok.of ⟨h4.1.mono (by omega), h4.2⟩
 refine Ok.bif (fun _ => ?_) (fun _ => ?_)
 ·exact Ok.bnd (Rmi a ha h1.1 (by omega)) fun r2 h2 => Ok.of ⟨h2.1.mono (by omega), one h2.2⟩
 refine Ok.bif (fun _ => ?_) (fun _ => ?_)
 ·exact Ok.bnd (Rmi a ha h1.1 (by omega)) fun r2 h2 => Ok.of ⟨h2.1.mono (by omega), one h2.2⟩
 refine Ok.bif (fun _ => ?_) (fun _ => ?_)
 ·exact Ok.bnd (Rmi a ha h1.1 (by omega)) fun r2 h2 => Ok.of ⟨h2.1.mono (by omega), one h2.2⟩
 refine Ok.bif (fun _ => ?_) (fun _ => pr h1.1 (by omega))
 exact Ok.of ⟨h1.1.mono (by omega), by simp only [mSs, Rkd, emXs]; omega⟩
theorem Rof : ∀ k, k ≤ 3 → ms k ≤ 10000000 ∧ cs k ≤ 100000 := by
 intro k hk
 match k, hk with
 | 0, _ => decide
 | 1, _ => decide
 | 2, _ => decide
 | 3, _ => decide
theorem Rrt : ∀ k, k ≤ 3 → Rrw k
 | 0, _ => Rwn 0 (by omega) (Rof 0 (by omega)).1 (fun k' h => by omega)
 | k + 1, hk => Rwn (k + 1) (by omega) (Rof (k + 1) hk).1 (fun k' h => by
  obtain rfl : k = k' := by omega
  intro b p m a n lo ha hn h hm
  exact Rom (Rrt k (by omega)) 2 (by omega) (Rof k (by omega)).1 a n lo ha hn h hm)
theorem Ruk {k : Nat} (hk : k ≤ 3) : Rqx k := fun a n lo ha hn h hm => Rom (Rrt k hk) 2 (by omega) (Rof k hk).1 a n lo ha hn h hm
theorem Rri {b : List Int} {p m : Int} (h : Rd b p m) (hm : m ≤ 999800000) : Ok (Rgz b p) fun r => Rd r.2.1 r.2.2 (m + 1000) ∧ mS r.1 ≤ 1000 := by
 apply Ok.le (Rlo _ _)
 rw [Rdc, Qb]
 refine Ok.bnd (Raf h (by omega) (by decide)) fun r2 h2 => ?_
 have hk := h2.2.2.1 (by omega)
 have hc : cs 1 = 220 := by decide
 have hms : ms 1 = 90 := by decide
 have := Ruk (k := 1) (by omega) 0 r2.1 false (by omega) (by omega) h2.1 (by omega)
 refine Ok.bnd this fun r3 h3 => ?_
 refine Ok.of ⟨h3.1.mono (by omega), ?_⟩
 have := h3.2
 rw [Rkd]; simp only [mSs, emXs]; omega
theorem Rrx {k : Nat} (hs : Rrw k) {A : List Ent} {a n : Int} {lo : Bool} (ha : a ≤ 1000) : ∀ (d : Nat) (i : Int) (h : Hd) (l : List Stm) (B : List Ent) {b : List Int} {p m : Int}, (n ≤ i + d) → 0 ≤ i → i ≤ 100 - d → mSs l + d * ms k ≤ 1000000000 → d ≤ 100 → Got .stm A l h B → Rd b p m → m + d * cs k ≤ 999990000 →
  Ok (Rcx a k n lo h i b p B) fun r => Rd r.2.1 r.2.2.1 (m + d * cs k) ∧ ∃ l', Got .stm A l' r.1 r.2.2.2 ∧ mSs l' ≤ mSs l + d * ms k
 | 0, i, h, l, B, b, p, m, hd, h0, hi1, hl, hdd, hg, hr, hm => by
  apply Ok.le (Rfh _ _ _ _ _ _ _ _ _)
  have : ¬ (i < n) := by omega
  simp only [this, Zz, Zf]
  exact Ok.of ⟨hr.mono (by omega), l, hg, by omega⟩
 | d + 1, i, h, l, B, b, p, m, hd, h0, hi1, hl, hdd, hg, hr, hm => by
  apply Ok.le (Rfh _ _ _ _ _ _ _ _ _)
  have hc := Rqg k
  have e1 : ((d + 1 : Nat) : Int) * cs k = d * cs k + cs k := by rw [Int.natCast_add, Int.add_mul]; omega
  have e2 : (d + 1) * ms k = d * ms k + ms k := by rw [Nat.add_mul]; omega
  have e3 : 0 ≤ (d : Int) * cs k := Int.mul_nonneg (by omega) (by omega)
  rw [e1] at hm ⊢
  rw [e2] at hl ⊢
  refine Ok.bif (fun hb => ?_) (fun hb => ?_)
  ·simp only [Ze] at hb
   refine Ok.bnd (hs a lo ha hr (by omega)) fun r1 h1 => ?_
   have hl1 := Rcu l
   have hl2 := Rcu r1.1
   have h12 := h1.2
   have hn := hg.cnt
   refine Ok.bnd (Got.app (c := .stm) hg (ys := r1.1) (by omega)) fun B2 hB2 => ?_
   rw [wrap_id (n := i + 1) (by omega) (by omega)]
   have ea := Req l r1.1
   exact (Rrx hs ha d (i + 1) _ (l ++ r1.1) _ (by omega) (by omega) (by omega) (by omega) (by omega) hB2.1 h1.1 (by omega)).mono fun r hr => ⟨hr.1.mono (by omega), (let ⟨l', q1, q2⟩ := hr.2; ⟨l', q1, by omega⟩)⟩
  ·exact Ok.of ⟨hr.mono (by omega), l, hg, by omega⟩
end Go.TFnSourceBack
