/- Functions of the library, by their contracts: slices.Clone of ints. -/
import Derived.Test.YthedbdlbibkpiaaDoorVs25
import Derived.Below
import Derived.Laws.AppendOwn
set_option linter.unusedVariables false
namespace Go.Vs
open Go Go.RowKit

def rowInts : List (List AV) → Option (List Int)
  | [] => some []
  | [.int .i64 n] :: r => bnd (rowInts r) fun l => some (n :: l)
  | _ => none
theorem rowInts_is : ∀ {xs : List (List AV)} {l : List Int}, rowInts xs = some l → xs = l.map fun n => [.int .i64 n]
  | [], l, h => by simp only [rowInts, Option.some.injEq] at h; subst h; rfl
  | x :: r, l, h => by
    unfold rowInts at h
    split at h
    · cases ‹_ :: _ = []›
    · rename_i n r' e
      injection e with e1 e2
      subst e1 e2
      cases hr : rowInts r with
      | none => rw [hr] at h; cases h
      | some l' =>
        rw [hr] at h
        simp only [bnd_some, Option.some.injEq] at h
        subst h
        simp [rowInts_is hr]
    · cases h
def cloneF : List AV → Option AV
  | [.sl _ 1 xs] => bnd (rowInts xs) fun l => if l.length ≤ 4294967296 then some (.sl .tip 1 xs) else none
  | _ => none
theorem cloneF_is {tv : List AV} {c : AV} (h : cloneF tv = some c) : ∃ (m : SM) (l : List Int), tv = [.sl m 1 (l.map fun n => [.int .i64 n])] ∧ l.length ≤ 4294967296 ∧ c = .sl .tip 1 (l.map fun n => [.int .i64 n]) := by
  unfold cloneF at h
  split at h
  · rename_i m xs
    cases hr : rowInts xs with
    | none => rw [hr] at h; cases h
    | some l =>
      rw [hr] at h
      simp only [bnd_some] at h
      split at h
      · injection h with h
        have := rowInts_is hr
        subst this
        exact ⟨m, l, rfl, ‹_›, h.symm⟩
      · cases h
  · cases h

structure CloneOk (C : Ctx) (f : FuncId) (T : TypeId) : Prop where
  some_ : ∀ (b off n c : Nat) (zs : List Int) (w : World), n ≤ zs.length → n * 8 ≤ 140737488355328 → (∀ j, j < zs.length → w.cell? ⟨b, off + j, none⟩ = some (.int .i64 (zs.getD j 0))) →
    Calls C.P f #[.slice (some ⟨b, off, none⟩) n c] w fun e w' => ∃ v', e = .returned v' ∧ w'.ownsRow w.heap.size T 1 v' n ((zs.take n).map (Value.int .i64)) ∧ v' ≠ .slice none 0 0 ∧ Below w.heap.size w w'
  nil : ∀ (n c : Nat) (w : World), Calls C.P f #[.slice none n c] w fun e w' => e = .returned (.slice none 0 0) ∧ w' = w
  zero : ∀ (a : Addr) (c : Nat) (w : World), Calls C.P f #[.slice (some a) 0 c] w fun e w' => ∃ v', e = .returned v' ∧ w'.ownsRow w.heap.size T 1 v' 0 [] ∧ v' ≠ .slice none 0 0 ∧ Below w.heap.size w w'

section
variable {C : Ctx} {e : Env} {w w' : World}
theorem entry_bare {tv : List AV} {args : Array Value} (h : Entry C e tv [] args w) : RelX C.fid { e with n := args.size } e.σ0 (fun _ => none) (entryS [] []) ⟨args, []⟩ w := by
  have hl : Less (entryS tv []) (entryS [] []) :=
    { t := fun t => .inr (.inr (by simp [entryS])), b := fun b => .inl rfl, keepBs := fun t b hb => by simp [entryS, AV.ref] at hb, seenB := fun b hb => absurd rfl hb, seenT := fun t b hb => by simp [entryS, AV.ref] at hb }
  have := h.rel.less hl
  have e1 : (fun b => if ((entryS [] []).b b).isSome then e.pbm b else none) = fun _ => none := by funext b; simp [entryS]
  rw [e1] at this
  exact this
theorem owned_ints {tv : List AV} {args : Array Value} {T : TypeId} {v' : Value} {l : List Int} (h : Entry C e tv [] args w) (ho : w'.ownsRow w.heap.size T 1 v' l.length (l.map (Value.int .i64))) (hb : Below w.heap.size w w') :
    ExitOk C e [.sl .tip 1 (l.map fun n => [.int .i64 n])] [] 0 v' w' := by
  have hr := entry_bare h
  have hrep : ∀ (σ : Mem) (B : Nat), (∀ i, i < l.length → σ B i = (l[i]?).map (Value.int .i64)) → RepR C.fid σ 1 (l.map fun n => [.int .i64 n]) (fun i => σ B (0 + i)) := by
    intro σ B hs
    refine RepR_iff.2 fun i r hr => ?_
    rw [List.getElem?_map, Option.map_eq_some_iff] at hr
    obtain ⟨n, hn, rfl⟩ := hr
    have hi := (List.getElem?_eq_some_iff.1 hn).1
    refine ⟨rfl, RepL_iff.2 fun j c hc => ?_⟩
    cases j with
    | zero =>
      simp at hc
      subst hc
      exact ⟨.int .i64 n, by simp [hs i hi, hn], by simp [RepP]⟩
    | succ j => simp at hc
  have hno : ∀ p sz, tipAt (entryS [] []) p ≠ some sz := by
    intro p sz hp
    cases p with
    | t t => simp [tipAt, entryS, AV.tipSz] at hp
    | c b i => simp [tipAt, entryS] at hp
  obtain ⟨hlen, ⟨rfl, h0⟩ | ⟨g, cap, cur, rfl, hbase, hg, hncap, hmax, hsz, htake⟩⟩ := ho
  · have hl0 : l = [] := List.eq_nil_of_length_eq_zero h0
    subst hl0
    have hrel : RelX C.fid { e with n := args.size } e.σ0 (fun _ => none) (entryS [] []) ⟨args, []⟩ w' :=
      hr.world (Mem.le_refl _) hr.one (fun _ _ _ => rfl) (fun B i v hv => by
        have h1 := hr.mem B i v hv
        have hlt := World.block_lt_of_cell? w _ h1
        rw [cell_eq (hb.block B hlt)]; exact h1) (fun B hB => hb.block B hB) hb.size hb.os hb.tape hb.output
    refine ⟨args.size, entryS [] [], ⟨args, []⟩, by simp, rfl, _, rfl, .inr ⟨rfl, e.σ0, _, hrel, (RepT_of rfl).2 ?_, (fun b hb => by cases hb), fun sz hs => ⟨⟨none, 0, 0, rfl, .inl rfl⟩, fun p sz' B hp => absurd hp (hno p sz')⟩⟩⟩
    exact ⟨none, 0, 0, rfl, rfl, Nat.le_refl _, ⟨fun h => (by cases h), fun h => (by cases h)⟩, .inl rfl⟩
  · let τ : Mem := { e.σ0 with c := fun B i => if B = g then (if i < l.length then (l[i]?).map (Value.int .i64) else none) else e.σ0 B i }
    have hge : ∀ B i v, e.σ0 B i = some v → B < w.heap.size := fun B i v hv => World.block_lt_of_cell? w _ (hr.mem B i v hv)
    have hne : ∀ B, B < w.heap.size → B ≠ g := fun B hB e => by subst e; omega
    have hcell : ∀ i, i < l.length → w'.cell? ⟨g, i, none⟩ = (l[i]?).map (Value.int .i64) := by
      intro i hi
      rw [cell_of hg, ← List.getElem?_map, ← htake, List.getElem?_take, if_pos (by omega)]
      simp
    have hrel : RelX C.fid { e with n := args.size } τ (fun _ => none) (entryS [] []) ⟨args, []⟩ w' := by
      refine hr.world (Mem.le_c fun B i v hv => ?_) (fun B i v hv => ?_) (fun B i hB => by simp only [τ]; rw [if_neg (hne B hB)]) (fun B i v hv => ?_) (fun B hB => hb.block B hB) hb.size hb.os hb.tape hb.output
      · rw [if_neg (hne B (hge B i v hv))]; exact hv
      · simp only [τ] at hv
        by_cases hB : B = g
        · rw [if_pos hB] at hv
          split at hv
          · cases hli : l[i]? with
            | none => rw [hli] at hv; cases hv
            | some n => rw [hli] at hv; simp at hv; subst hv; rfl
          · cases hv
        · rw [if_neg hB] at hv; exact hr.one B i v hv
      · simp only [τ] at hv
        by_cases hB : B = g
        · subst hB
          rw [if_pos rfl] at hv
          split at hv
          · rw [hcell i ‹_›]; exact hv
          · cases hv
        · rw [if_neg hB] at hv
          have h1 := hr.mem B i v hv
          rw [cell_eq (hb.block B (hge B i v hv))]; exact h1
    refine ⟨args.size, entryS [] [], ⟨args, []⟩, by simp, rfl, _, rfl, .inr ⟨rfl, τ, _, hrel, (RepT_of rfl).2 ?_, (fun b hb => by cases hb), fun sz hs => ⟨?_, fun p sz' B hp => absurd hp (hno p sz')⟩⟩⟩
    · refine ⟨_, _, cap, rfl, by simp, by simpa using hncap, ⟨fun h => (by cases h), fun h => (by cases h)⟩, .inr ⟨g, 0, rfl, hrep τ g fun i hi => ?_⟩⟩
      simp only [τ, if_true]; rw [if_pos hi]
    · injection hs with hs
      subst hs
      refine ⟨_, _, cap, rfl, .inr ⟨g, 0, cur, T, (0, 0), rfl, hg, fun i _ => by simp, by omega, fun i hi => ?_, .inl ?_, fun b hb => by cases hb⟩⟩
      · simp only [τ, if_true]; rw [if_neg (by omega)]
      · show e.w0.heap.size ≤ g
        rw [h.w0]; exact hbase
theorem owned_arena {tv : List AV} {args : Array Value} {T : TypeId} {v' : Value} {l : List Int} {es : List Ent} (h : EntryY C e tv [] (some es) args w) (ho : w'.ownsRow w.heap.size T 1 v' l.length (l.map (Value.int .i64))) (hb : Below w.heap.size w w') :
    ExitY C e [.tr (some es.length) 1 l.length] [.ar (es ++ [some (1, l.map fun n => [.int .i64 n])])] 0 true v' w' := by
  have hh : e.σ0.hd = e.hd := h.rel.hds
  have hr : RelX C.fid { ({ e with n := args.size } : Env) with hd := e.σ0.hd } e.σ0 e.pbm (entryA tv [] (some es)) ⟨args, []⟩ w := by rw [hh]; exact h.rel
  have hk : ∀ B, B < w.heap.size → w'.heap[B]? = w.heap[B]? := fun B hB => hb.block B hB
  have hrel : RelX C.fid { ({ e with n := args.size } : Env) with hd := e.σ0.hd } e.σ0 e.pbm (entryA tv [] (some es)) ⟨args, []⟩ w' :=
    hr.world (Mem.le_refl _) hr.one (fun _ _ _ => rfl) (fun B i v hv => by
      have h1 := hr.mem B i v hv
      have hlt := World.block_lt_of_cell? w _ h1
      rw [cell_eq (hb.block B hlt)]; exact h1) hk hb.size hb.os hb.tape hb.output
  have hes : (entryA tv [] (some es)).b 99 = some (.ar es) := by simp [entryA, upd]
  have hA := h.ar es hes
  have hAw : ArOk C.fid ({ e with n := args.size } : Env) e.σ0 e.pbm (entryA tv [] (some es)) ⟨args, []⟩ w' es :=
    hA.step (fun id B hB => ⟨hk B (hA.blk hB).1, rfl, (hA.blk hB).2.1⟩) (Mem.le_refl _) rfl (fun id B hB hp => plain_world hr hk hp)
  have hN : NoAr ({ e with n := args.size } : Env) e.σ0 (entryA tv [] (some es)) := by
    intro harn
    have harn : e.arn = false := harn
    have := h.arn
    rw [harn] at this; cases this
  have hrows : ∀ (f : Nat → Option Value), (∀ i, i < l.length → f i = (l[i]?).map (Value.int .i64)) → RepR C.fid e.σ0 1 (l.map fun n => [.int .i64 n]) f := by
    intro f hs
    refine RepR_iff.2 fun i r hr => ?_
    rw [List.getElem?_map, Option.map_eq_some_iff] at hr
    obtain ⟨n, hn, rfl⟩ := hr
    have hi := (List.getElem?_eq_some_iff.1 hn).1
    refine ⟨rfl, RepL_iff.2 fun j c hc => ?_⟩
    cases j with
    | zero =>
      simp at hc
      subst hc
      exact ⟨.int .i64 n, by simp [hs i hi, hn], by simp [RepP]⟩
    | succ j => simp at hc
  have hready : ReadyY C { e with n := args.size } ((entryA tv [] (some es)).setA (es ++ [some (1, l.map fun n => [.int .i64 n])])) (.tr (some es.length) 1 l.length) v' ⟨args, []⟩ w' := by
    obtain ⟨hlen, ⟨rfl, h0⟩ | ⟨g, cap, cur, rfl, hbase, hg, hncap, hmax, hsz, htake⟩⟩ := ho
    · have hl0 : l = [] := List.eq_nil_of_length_eq_zero h0
      subst hl0
      exact born hrel hN hes hAw rfl ⟨none, 0, rfl, .inl ⟨rfl, rfl⟩⟩ rfl (fun id B hB => by simp [hdBlk])
    · have hc : ∀ i, i < l.length → cur[i]? = (l[i]?).map (Value.int .i64) := by
        intro i hi
        rw [← List.getElem?_map, ← htake, List.getElem?_take, if_pos (by omega)]
        simp
      have hnone : ∀ i, e.σ0 g i = none := by
        intro i
        cases hh : e.σ0 g i with
        | none => rfl
        | some v => exact absurd (Mem.le_of_world hr _ _ _ hh) (by omega)
      refine born hrel hN hes hAw rfl ⟨_, cap, by rw [List.length_map], ?_⟩ (by simp) (fun id B hB => ?_)
      · by_cases hc0 : cap = 0
        · exact .inl ⟨hc0, List.eq_nil_of_length_eq_zero (by rw [List.length_map]; omega)⟩
        · refine .inr ⟨by omega, by simpa using hncap, g, cur, T, (0, 0), rfl, hg, ⟨fun i _ => by simp, fun i v hi hv => ?_⟩, by omega, hrows _ hc, .inl ?_, hnone, fun hp => ?_⟩
          · rw [List.length_map, Nat.mul_one] at hi
            rw [hc i hi] at hv
            cases hli : l[i]? with
            | none => rw [hli] at hv; cases hv
            | some n => rw [hli] at hv; simp at hv; subst hv; rfl
          · show e.w0.heap.size ≤ g
            rw [h.w0]; exact hbase
          · have := (Plain.own hr (plain_world hr hk hp)).2
            omega
      · have hlt := (hA.blk hB).1
        simp only [hdBlk]
        split
        · simp
        · intro hh; injection hh with hh; omega
  refine exitY_t ⟨args.size, _, _, [], _, _, rfl, rfl, by simp, by simp, ?_, rfl, rfl, hready⟩
  simp [S.setA, S.setB, upd]
def cloneA : List AV → List Ent → Option (AV × List Ent)
  | [.sl _ 1 xs], es => bnd (rowInts xs) fun l => if l.length ≤ 4294967296 then some (.tr (some es.length) 1 l.length, es ++ [some (1, xs)]) else none
  | _, _ => none
theorem clone_run {tv : List AV} {pb : List BC} {args : Array Value} {m : SM} {l : List Int} {g : Nat} {T : TypeId} {s : S} {σ : Mem} {bm : Nat → Option Nat} (hc : CloneOk C (C.fid g) T) (hl : l.length ≤ 4294967296) (hrel : RelX C.fid e σ bm s ⟨args, []⟩ w) (hsz : args.size = 1) (e0 : s.t 0 = .sl m 1 (l.map fun n => [.int .i64 n])) :
    Calls C.P (C.fid g) args w fun ed w' => ∃ v', ed = .returned v' ∧ w'.ownsRow w.heap.size T 1 v' l.length (l.map (Value.int .i64)) ∧ Below w.heap.size w w' := by
  have ha : ∃ v, args = #[v] ∧ RepP C.fid σ (.sl m 1 (l.map fun n => [.int .i64 n])) v := by
    have h0 := hrel.tmps 0
    rw [e0] at h0
    refine ⟨args.getD 0 undef, ?_, h0⟩
    apply Array.ext
    · simpa using hsz
    · intro i h1 h2
      have : i = 0 := by simp at h2; omega
      subst this
      simp [Array.getD_eq_getD_getElem?, h1]
  obtain ⟨v, rfl, hv⟩ := ha
  obtain ⟨a, n, cap, rfl, hn, hncap, _, hrow⟩ := hv
  rw [List.length_map] at hn
  subst hn
  cases a with
  | none =>
    have hl0 : l = [] := by
      rcases hrow with h0 | ⟨B, o, h1, _⟩
      · exact List.eq_nil_of_length_eq_zero h0
      · cases h1
    subst hl0
    refine (hc.nil 0 cap w).mono ?_
    rintro ed w' ⟨rfl, rfl⟩
    exact ⟨_, rfl, ⟨rfl, .inl ⟨rfl, rfl⟩⟩, Below.refl _ _⟩
  | some A =>
    by_cases h0 : l.length = 0
    · have hl0 : l = [] := List.eq_nil_of_length_eq_zero h0
      subst hl0
      refine (hc.zero A cap w).mono ?_
      rintro ed w' ⟨v', rfl, ho, _, hb⟩
      exact ⟨_, rfl, by simpa using ho, hb⟩
    · rcases hrow with h | ⟨B, o, h1, hrow⟩
      · exact absurd h h0
      injection h1 with h1
      subst h1
      refine (hc.some_ B o l.length cap l w (Nat.le_refl _) (by omega) fun j hj => ?_).mono ?_
      · have := (RepR_iff.1 hrow j [.int .i64 l[j]] (by rw [List.getElem?_map, List.getElem?_eq_getElem hj]; rfl)).2
        obtain ⟨u, hu, hrep⟩ := RepL_iff.1 this 0 _ rfl
        simp only [RepP] at hrep
        subst hrep
        have := hrel.mem B _ _ hu
        simp only [Nat.mul_one, Nat.add_zero] at this
        rw [this, List.getD_eq_getElem?_getD, List.getElem?_eq_getElem hj]; rfl
      · rintro ed w' ⟨v', rfl, ho, _, hb⟩
        exact ⟨_, rfl, by simpa using ho, hb⟩
theorem cloneA_is {tv : List AV} {es es' : List Ent} {c : AV} (h : cloneA tv es = some (c, es')) : ∃ (m : SM) (l : List Int), tv = [.sl m 1 (l.map fun n => [.int .i64 n])] ∧ l.length ≤ 4294967296 ∧ c = .tr (some es.length) 1 l.length ∧ es' = es ++ [some (1, l.map fun n => [.int .i64 n])] := by
  unfold cloneA at h
  split at h
  · rename_i es0 m xs
    obtain ⟨l, hr, h⟩ := bnd_is.1 h
    split at h
    · injection h with h
      injection h with h1 h2
      have := rowInts_is hr
      subst this
      exact ⟨m, l, rfl, ‹_›, h1.symm, h2.symm⟩
    · cases h
  · cases h
theorem clone_prim {g : Nat} {T : TypeId} (hk : Known C g) (hc : CloneOk C (C.fid g) T) : PrimOk C g { kind := .prim, ins := [], bins := [], code := .skip, pf := cloneF, pa := cloneA } := by
  refine ⟨rfl, fun tv c hpf => ⟨hk, fun e args w hen => ?_⟩, fun tv es c es' hpa => ⟨hk, fun e args w hen => ?_⟩⟩
  · obtain ⟨m, l, rfl, hl, rfl⟩ := cloneF_is hpf
    refine (clone_run (tv := []) (pb := []) hc hl hen.rel hen.len.symm rfl).mono ?_
    rintro ed w' ⟨v', rfl, ho, hb⟩
    exact owned_ints (T := T) hen ho hb
  · obtain ⟨m, l, rfl, hl, rfl, rfl⟩ := cloneA_is hpa
    refine (clone_run (tv := []) (pb := []) hc hl hen.rel hen.len.symm rfl).mono ?_
    rintro ed w' ⟨v', rfl, ho, hb⟩
    exact owned_arena (T := T) hen ho hb
end
end Go.Vs
