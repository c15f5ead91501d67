/- Functions of the library, by their contracts: numerals, prefixes, texts that are joined. -/
import Derived.Test.YtbgodlimjjgogaaDoorPm1
import Derived.Lib.ItoaNum
import Derived.Lib.Atoi
import Derived.Lib.Join
import Derived.Lib.Strings
import Derived.Lib.Bytealg
import Derived.Lib.LaidTab
import Derived.Lib.ConvBytes
import Derived.Sort.Grow
set_option linter.unusedVariables false
namespace Go.Vs
open Go Go.RowKit
section
variable {C : Ctx} {e : Env} {w w' : World}
theorem Qmf {tv : List AV} {args : Array Value} {c : AV} {v : Value} (h : Entry C e tv [] args w) (hsize : w.heap.size ≤ w'.heap.size) (hblk : ∀ B, B < w.heap.size → w'.heap[B]? = w.heap[B]?) (hos : w'.os = w.os) (htape : w'.tape = w.tape) (hout : w'.output = w.output)
  (hr : RepP C.fid e.σ0 c v) (hp : c.isP = false) (ht : c.tipSz = none) : Qom C e [c] [] 0 v w' := by
 have hr0 := Qth h
 have hrel : RelX C.fid { e with n := args.size } e.σ0 (fun _ => none) (Ql [] []) ⟨args, []⟩ w' :=
  hr0.world (Mem.le_refl _) hr0.one (fun _ _ _ => rfl) (fun B i v hv => by
   have h1 := hr0.mem B i v hv
   have hlt := World.block_lt_of_cell? w _ h1
   rw [Qbc (hblk B hlt)]; exact h1) hblk hsize hos htape hout
 exact ⟨args.size, Ql [] [], ⟨args, []⟩, by simp, rfl, _, rfl, .inr ⟨hp, Qp.plain hrel hr ht⟩⟩
theorem Qtl {tv : List AV} {args : Array Value} {c : AV} {v : Value} (h : Entry C e tv [] args w) (hb : Below w.heap.size w w') (hr : RepP C.fid e.σ0 c v) (hp : c.isP = false) (ht : c.tipSz = none) : Qom C e [c] [] 0 v w' :=
 Qmf h hb.size (fun B hB => hb.block B hB) hb.os hb.tape hb.output hr hp ht
theorem Qtg {tv : List AV} {args : Array Value} (h : Entry C e tv [] args w) : tv.length = args.size ∧ ∀ (i : Nat) (c : AV) (v : Value), tv[i]? = some c → args[i]? = some v → RepT C.fid e.σ0 e.pbm (Ql tv []).b c v := by
 refine ⟨h.len, fun i c v hc hv => ?_⟩
 have h0 := h.rel.tmps i
 have e0 : (Ql tv []).t i = c := by simp [Ql, hc]
 have e1 : (⟨args, []⟩ : Act).tmps.getD i undef = v := by simp [Array.getD_eq_getD_getElem?, hv]
 rw [e0, e1] at h0
 exact h0
theorem Qpf {c : AV} {args : Array Value} (h : Entry C e [c] [] args w) : ∃ v, args = #[v] ∧ RepT C.fid e.σ0 e.pbm (Ql [c] []).b c v := by
 obtain ⟨hl, ha⟩ := Qtg h
 obtain ⟨v, rfl⟩ : ∃ v, args = #[v] := by
  match args, hl with
  | ⟨[v]⟩, _ => exact ⟨v, rfl⟩
 exact ⟨v, rfl, ha 0 c v rfl rfl⟩
def Qya : List AV → Option AV
 | [.int .i64 n] => if -9223372036854775808 ≤ n ∧ n ≤ 9223372036854775807 then some (.str (Lib.itoa n)) else none
 | _ => none
def powFx (o : Obj) : Prop := ∃ t m, o = .cells (Lib.pow10Tab.map fun z => Value.int .u64 z).toArray t m
theorem itoa_prim {g gp : Nat} (hk : Known C g) (hn : C.P.globalNamed "internal/strconv.uint64pow10" = some gp) (hx : (gp, powFx) ∈ C.fx)
  (hc : ∀ (n : Int) (w : World), -9223372036854775808 ≤ n → n ≤ 9223372036854775807 → Lib.TabIs C.P w "internal/strconv.uint64pow10" .u64 Lib.pow10Tab → Calls C.P (C.fid g) #[.int .i64 n] w fun e w' => e = .returned (.string ⟨(Lib.itoa n).toArray⟩) ∧ w'.heap.size ≥ w.heap.size ∧ (∀ B, B < w.heap.size → w'.heap[B]? = w.heap[B]?) ∧ w'.os = w.os ∧ w'.tape = w.tape ∧ w'.output = w.output) :
  Qls C g { kind := .prim, ins := [], bins := [], code := .skip, pf := Qya } := by
 refine ⟨rfl, fun tv c hpf => ⟨hk, fun e args w hen => ?_⟩, fun tv es c es' hpa => by cases hpa⟩
 replace hpf : Qya tv = some c := hpf
 unfold Qya at hpf
 split at hpf
 rotate_left
 ·cases hpf
 rename_i n
 split at hpf
 rotate_left
 ·cases hpf
 rename_i hb
 injection hpf with hpf
 subst hpf
 obtain ⟨v, rfl, hv⟩ := Qpf hen
 have hv' : v = .int .i64 n := hv
 subst hv'
 have htab : Lib.TabIs C.P w "internal/strconv.uint64pow10" .u64 Lib.pow10Tab := by
  obtain ⟨_, _, o, h3, t, m, h4⟩ := hen.fix _ hx
  rw [hen.w0] at h3
  simp only [Lib.TabIs, World.var?, hn, Option.bind_some, h3, h4]
 refine (hc n w hb.1 hb.2 htab).mono ?_
 rintro ed w' ⟨rfl, h1, h2, h3, h4, h5⟩
 exact Qmf hen h1 h2 h3 h4 h5 (by simp [RepP]) rfl rfl
def atoiF : List AV → Option AV
 | [.str s] => if s.length ≤ 18 then bnd (Lib.atoi s) fun n => some (.tup [.int .i64 n, .undef]) else none
 | _ => none
def prefixF : List AV → Option AV
 | [.str s, .str p] => some (.bool (Lib.hasPrefix s p))
 | _ => none
def indexF : List AV → Option AV
 | [.str s, .int .u8 c] => some (.int .i64 (Lib.indexByte s c.toNat.toUInt8))
 | _ => none
def Qwl : List (List AV) → Option (List (List UInt8))
 | [] => some []
 | [.str s] :: r => bnd (Qwl r) fun l => some (s :: l)
 | _ => none
def joinF : List AV → Option AV
 | [.sl _ 1 xs, .str sep] => bnd (Qwl xs) fun l => if l.length ≤ LIM ∧ (Lib.join l sep).length ≤ LIM then some (.str (Lib.join l sep)) else none
 | _ => none
end
end Go.Vs