/- Stores, addresses, parts, lengths, arithmetic. -/
import Derived.Test.YthedbdlbibkpiaaGreatDoorVs7
set_option linter.unusedVariables false
namespace Go.Vs
open Go Go.RowKit

section
variable {C : Ctx} {e : Env} {σ τ : Mem} {bm : Nat → Option Nat} {s s' : S} {a : Act} {w w' : World} {call : Call} {o : Oper} {c : AV}

theorem over_len {cs vs r : List AV} {off : Nat} (h : over cs off vs = some r) : r.length = cs.length ∧ off + vs.length ≤ cs.length := by
  unfold over at h
  split at h
  · rename_i hle
    injection h with h
    subst h
    simp; omega
  · cases h
theorem over_get {cs vs r : List AV} {off : Nat} (h : over cs off vs = some r) (i : Nat) : r[i]? = if off ≤ i ∧ i < off + vs.length then vs[i - off]? else cs[i]? := by
  unfold over at h
  split at h
  · rename_i hle
    injection h with h
    subst h
    rw [List.append_assoc]
    by_cases h1 : i < off
    · rw [List.getElem?_append_left (by simp; omega), List.getElem?_take, if_pos h1, if_neg (by omega)]
    · rw [List.getElem?_append_right (by simp; omega)]
      simp only [List.length_take, Nat.min_eq_left (show off ≤ cs.length by omega)]
      by_cases h2 : i < off + vs.length
      · rw [List.getElem?_append_left (by omega), if_pos (by omega)]
      · rw [List.getElem?_append_right (by omega), if_neg (by omega), List.getElem?_drop]
        congr 1; omega
  · cases h

/-- What the cells of a variable read as behind a store. -/
theorem RepL_over {fid : Nat → Nat} {cs vs r : List AV} {off : Nat} (h : over cs off vs = some r) {arr : Array Value} {news : List Value} (hsz : off + vs.length ≤ arr.size) (hl : news.length = vs.length)
    (h1 : RepL fid σ cs (fun i => arr[i]?)) (h2 : RepL fid σ vs (fun i => news[i]?)) : RepL fid σ r (fun i => (writeArr arr off news)[i]?) := by
  rw [RepL_iff] at h1 h2 ⊢
  intro i c hc
  rw [over_get h i] at hc
  split at hc
  · rename_i hin
    obtain ⟨x, k1, k2⟩ := h2 _ c hc
    refine ⟨x, ?_, k2⟩
    have := writeArr_in news arr off (i - off) (by omega) (by omega)
    rw [show off + (i - off) = i by omega] at this
    rw [this]; exact k1
  · rename_i hout
    obtain ⟨x, k1, k2⟩ := h1 i c hc
    exact ⟨x, by rw [writeArr_out _ _ _ _ (by omega)]; exact k1, k2⟩

theorem run_storeAt {P : Program} {t : TypeId} {n B o : Nat} {v : Value} {w : World} (hn : tsz P t = some n) (hv : v.cells.size = n) (h1 : ∀ x ∈ v.cells.toList, x.oneCell' = true)
    (hc : ∀ j, j < n → (w.cell? ⟨B, o + j, none⟩).isSome = true ∧ w.frozen? ⟨B, o + j, none⟩ = false) :
    (Instr.storeAt t (.pointer (some ⟨B, o, none⟩)) v).run P w = .ok () (w.setCells B o v.cells.toList) := by
  have := run_storeCells_cells (P := P) B o v.cells.toList 0 w (fun j hj => by simpa using (hc j (by simpa [hv] using hj)).1) (fun j hj => by simpa using (hc j (by simpa [hv] using hj)).2) h1
  simp only [Nat.add_zero] at this
  simp [Instr.storeAt, Instr.sureAddr, storeVar, run_size hn, hv, this]

theorem op_store (hG : GOk C σ) (h : RelX C.fid e σ bm s a w) {n : Nat} {x v : Opnd} {y z : Operand} {t : TypeId} (ho : o.op = .store t y z) (hx : okO C x y = true) (hv : okO C v z = true) (hn : tsz C.P t = some n) (hn0 : 0 < n)
    (hev : evalK call C.G s (.store n x v) = some (c, s')) : OpRes C e s' c a ((execOp a.eval o).run C.P w) := by
  simp only [evalK] at hev
  cases hst : storeP n (s.drop v) (s.get C.G x) (s.get C.G v) with
  | none => rw [hst] at hev; cases hev
  | some s1 =>
    rw [hst] at hev
    simp only [bnd_some, Option.some.injEq, Prod.mk.injEq] at hev
    obtain ⟨rfl, rfl⟩ := hev
    unfold storeP at hst
    split at hst
    rotate_left
    · cases hst
    rename_i hcond
    obtain ⟨hlen, hone⟩ := hcond
    have hd := h.drop v
    have hdb : (s.drop v).b = s.b := by cases v <;> rfl
    have hrv := (RepT_of (isP_of_one hone)).1 (get_rep hG h hv)
    obtain ⟨c1, c2, c3⟩ := cells_rep hrv hone
    have hrx := get_rep hG h hx
    have hready := Ready.get hG h hv
    have fin : ∀ {w1 : World}, (Instr.storeAt t (a.eval y) (a.eval z)).run C.P w = .ok () w1 → RelX C.fid e σ bm s1 a w1 → OpRes C e s1 (.tup []) a ((execOp a.eval o).run C.P w) := by
      intro w1 hrun hrel
      exact .inr ⟨w1, by simp [execOp, ho, hrun], Ready.plain hrel ⟨#[], rfl, rfl, by simp [RepL]⟩ rfl⟩
    split at hst
    · rename_i b off hget
      rw [hget] at hrx
      rw [hdb] at hst
      split at hst
      rotate_left
      · cases hst
      rename_i cs hb
      cases hov : over cs off (s.get C.G v).scells with
      | none => rw [hov] at hst; cases hst
      | some cs' =>
        rw [hov] at hst
        simp only [bnd_some, Option.some.injEq] at hst
        subst hst
        obtain ⟨B, hB, ⟨vs, t', m, g2, g3, g4, g5⟩, g6⟩ := h.boxes b _ hb
        obtain ⟨l1, l2⟩ := over_len hov
        rw [scells_len] at l2
        have hp := hrx B hB
        have hrun := run_storeAt (P := C.P) (t := t) (n := n) (B := B) (o := off) (v := a.eval z) (w := w) hn (by omega) c3 (fun j hj => by
          have hlt : off + j < vs.size := by omega
          exact ⟨by rw [cell_of g2]; simp [hlt], frozen_of g2 g3.1 hlt⟩)
        rw [← hp] at hrun
        refine fin hrun ?_
        have hd' : (s.drop v).b b = some (.var cs) := by rw [hdb]; exact hb
        obtain ⟨r1, r2, r3, r4⟩ := setCells_rest B (a.eval z).cells.toList off w
        have hheap := heap_setCells B (a.eval z).cells.toList off w vs t' m g2
        refine hd.setBox (w' := w.setCells B off (a.eval z).cells.toList) hd' hB trivial (fun B' hne => heap_setCells_other B B' hne _ _ _) r1 r2 r3 r4 ?_ off (a.eval z) ?_
        · refine ⟨_, t', m, hheap, ⟨fun i hi => g3.1 i (by rwa [writeArr_size] at hi), writeArr_ones g3.2 c3⟩, by rw [writeArr_size, l1]; exact g4, ?_⟩
          exact RepL_over hov (by rw [scells_len]; omega) (by rw [scells_len]; simpa using c1) g5 (scells_rep (by simpa using c2))
        · intro i sz hi
          have hcell : ∀ i, valAt a (w.setCells B off (a.eval z).cells.toList) bm (.c b i) = ((writeArr vs off (a.eval z).cells.toList)[i]?).getD undef := by
            intro i
            simp only [valAt, hB, Option.bind_some, cell_of hheap]
          have hcell0 : ∀ i, valAt a w bm (.c b i) = (vs[i]?).getD undef := by
            intro i
            simp only [valAt, hB, Option.bind_some, cell_of g2]
          simp only [tipAt, S.setB, upd_same] at hi
          rw [over_get hov i] at hi
          split at hi
          · rename_i hin
            obtain ⟨j1, j2⟩ := scells_tip hi
            have hio : i = off := by omega
            subst hio
            obtain ⟨σ', bm', q1, q2, q3, q4⟩ := hready
            have hsingle : (a.eval z).cells = #[a.eval z] ∧ 0 < (a.eval z).cells.toList.length := by
              cases hcc : s.get C.G v <;> rw [hcc] at j2 hrv <;> simp [AV.tipSz] at j2
              obtain ⟨A, n', cap, hz, _⟩ := hrv
              rw [hz]; simp [Value.cells]
            have hvv : valAt a (w.setCells B i (a.eval z).cells.toList) bm (.c b i) = a.eval z := by
              rw [hcell]
              have := writeArr_in (a.eval z).cells.toList vs i 0 (by simp; omega) hsingle.2
              simp only [Nat.add_zero] at this
              rw [this, hsingle.1]; rfl
            refine .inr ⟨rfl, hvv, ?_⟩
            -- the right was taken from a temporary
            cases v with
            | tmp t1 => rw [S.get, dem_tip] at j2; cases j2
            | const c1' =>
              cases z <;> simp [okO] at hv
              rw [S.get, okC_tip hv] at j2; cases j2
            | func g => cases j2
            | glob g => cases j2
            | take t1 =>
              cases z <;> simp [okO] at hv
              subst hv
              refine ⟨h.tip (.t t1) sz j2, fun p sz' B' hp' h1 h2 => ?_⟩
              have hp2 : tipAt s p = some sz' ∧ p ≠ .t t1 := by
                cases p with
                | t u =>
                  simp only [tipAt, S.drop, upd_at] at hp'
                  by_cases hu : u = t1
                  · subst hu; simp [dem_tip] at hp'
                  · simp [hu] at hp'; exact ⟨hp', fun e => hu (by injection e)⟩
                | c b' i' => exact ⟨hp', fun e => by cases e⟩
              exact hp2.2 (h.dist p (.t t1) sz' sz B' hp2.1 j2 h2 h1)
          · rename_i hout
            rw [scells_len] at hout
            refine .inl ⟨fun hh => hout ⟨by omega, by omega⟩, by simp [tipAt, hd', hi], ?_⟩
            rw [hcell, hcell0, writeArr_out _ _ _ _ (by simp; omega)]
    · rename_i b i off hget
      rw [hget] at hrx
      rw [hdb] at hst
      split at hst
      rotate_left
      · cases hst
      rename_i sz xs hb
      cases hxx : xs[i]? with
      | none => rw [hxx] at hst; cases hst
      | some cs =>
        rw [hxx] at hst
        simp only [bnd_some] at hst
        cases hov : over cs off ((s.get C.G v).cells.map AV.share) with
        | none => rw [hov] at hst; cases hst
        | some cs' =>
          rw [hov] at hst
          simp only [bnd_some, Option.some.injEq] at hst
          subst hst
          obtain ⟨B, hB, ⟨vs, t', m, g2, g3, g4, g5⟩, g6⟩ := h.boxes b _ hb
          obtain ⟨l1, l2⟩ := over_len hov
          rw [List.length_map] at l2
          obtain ⟨sz', xs', j1, hp⟩ := hrx B hB
          rw [hb] at j1
          injection j1 with j1
          injection j1 with j1 j3
          subst j1 j3
          have hil : i < xs.length := (List.getElem?_eq_some_iff.1 hxx).1
          have hrow := (RepR_iff.1 g5) i cs hxx
          have hbig : i * sz + sz ≤ vs.size := by
            have : (i + 1) * sz ≤ xs.length * sz := Nat.mul_le_mul_right sz (by omega)
            rw [Nat.add_mul] at this; omega
          have hrun := run_storeAt (P := C.P) (t := t) (n := n) (B := B) (o := i * sz + off) (v := a.eval z) (w := w) hn (by omega) c3 (fun j hj => by
            have hlt : i * sz + off + j < vs.size := by omega
            exact ⟨by rw [cell_of g2]; simp [hlt], frozen_of g2 g3.1 hlt⟩)
          rw [← hp] at hrun
          refine fin hrun ?_
          have hd' : (s.drop v).b b = some (.rows sz xs) := by rw [hdb]; exact hb
          obtain ⟨r1, r2, r3, r4⟩ := setCells_rest B (a.eval z).cells.toList (i * sz + off) w
          have hheap := heap_setCells B (a.eval z).cells.toList (i * sz + off) w vs t' m g2
          refine hd.setBox (w' := w.setCells B (i * sz + off) (a.eval z).cells.toList) hd' hB ⟨rfl, by simp⟩ (fun B' hne => heap_setCells_other B B' hne _ _ _) r1 r2 r3 r4 ?_ 0 undef (fun i' sz' hi' => ?_)
          · refine ⟨_, t', m, hheap, ⟨fun i hi => g3.1 i (by rwa [writeArr_size] at hi), writeArr_ones g3.2 c3⟩, by rw [writeArr_size]; simpa using g4, ?_⟩
            rw [RepR_iff]
            intro j r hr
            rw [List.getElem?_set] at hr
            by_cases hij : i = j
            · subst hij
              simp [hil] at hr
              subst hr
              refine ⟨by rw [l1]; exact hrow.1, ?_⟩
              rw [RepL_iff]
              intro k c hk
              rw [over_get hov k] at hk
              split at hk
              · rename_i hin
                have hsh : RepL C.fid σ ((s.get C.G v).cells.map AV.share) (fun i => (a.eval z).cells[i]?) := RepL_map (fun _ _ hr => RepP_share hr) c2
                obtain ⟨x', k1, k2⟩ := (RepL_iff.1 hsh) _ c hk
                refine ⟨x', ?_, k2⟩
                rw [List.length_map] at hin
                have := writeArr_in (a.eval z).cells.toList vs (i * sz + off) (k - off) (by simp; omega) (by simp; omega)
                rw [show i * sz + off + (k - off) = i * sz + k by omega] at this
                rw [this]; simpa using k1
              · rename_i hout
                obtain ⟨x', k1, k2⟩ := (RepL_iff.1 hrow.2) k c hk
                refine ⟨x', ?_, k2⟩
                rw [List.length_map] at hout
                rw [writeArr_out _ _ _ _ (by simp; omega)]; exact k1
            · simp only [hij, if_false] at hr
              obtain ⟨k0, k1⟩ := (RepR_iff.1 g5) j r hr
              refine ⟨k0, ?_⟩
              rw [RepL_iff] at k1 ⊢
              intro k c hk
              obtain ⟨x', q1, q2⟩ := k1 k c hk
              refine ⟨x', ?_, q2⟩
              have hkl : k < sz := by rw [← k0]; exact (List.getElem?_eq_some_iff.1 hk).1
              rw [writeArr_out]
              · exact q1
              · rcases Nat.lt_or_ge i j with h1 | h1
                · right
                  have : (i + 1) * sz ≤ j * sz := Nat.mul_le_mul_right sz (by omega)
                  rw [Nat.add_mul] at this
                  have hl3 := hrow.1
                  simp; omega
                · left
                  have : (j + 1) * sz ≤ i * sz := Nat.mul_le_mul_right sz (by omega)
                  rw [Nat.add_mul] at this
                  omega
          · simp [tipAt, S.setB, upd] at hi'
    · cases hst

/-! ### Addresses -/
theorem alive_bm (h : RelX C.fid e σ bm s a w) {b : Nat} (hb : (s.b b).isSome = true) : ∃ B, bm b = some B := by
  obtain ⟨c, hc⟩ := Option.isSome_iff_exists.1 hb
  obtain ⟨B, k, _⟩ := h.boxes b c hc
  exact ⟨B, k⟩

theorem op_nilck (hG : GOk C σ) (h : RelX C.fid e σ bm s a w) {x : Opnd} {y : Operand} (ho : o.op = .nilCheck y) (hx : okO C x y = true)
    (hev : evalK call C.G s (.nilck x) = some (c, s')) : OpRes C e s' c a ((execOp a.eval o).run C.P w) := by
  simp only [evalK] at hev
  have hr := get_rep hG h hx
  have hs : ∀ b, (s.get C.G x).ref = some b → s.seen b = true := fun b hb => get_seen h hx hb
  have fin : c = s.get C.G x → s' = s → c.tipSz = none → ((execOp a.eval o).run C.P w) = .ok (.value (a.eval y)) w → OpRes C e s' c a ((execOp a.eval o).run C.P w) := by
    intro h1 h2 h3 hrun
    subst h1 h2
    exact .inl ⟨_, w, hrun, σ, bm, h, hr, hs, fun sz hsz => by rw [h3] at hsz; cases hsz⟩
  split at hev
  · rename_i b off hget
    split at hev
    · rename_i hal
      simp only [Option.some.injEq, Prod.mk.injEq] at hev
      obtain ⟨B, hB⟩ := alive_bm h hal
      rw [hget] at hr
      have hv := hr B hB
      exact fin (by rw [hget]; exact hev.1.symm) hev.2.symm (by rw [← hev.1]; rfl) (by simp [execOp, ho, hv])
    · cases hev
  · rename_i b i off hget
    split at hev
    · rename_i hal
      simp only [Option.some.injEq, Prod.mk.injEq] at hev
      obtain ⟨B, hB⟩ := alive_bm h hal
      rw [hget] at hr
      obtain ⟨sz, xs, _, hv⟩ := hr B hB
      exact fin (by rw [hget]; exact hev.1.symm) hev.2.symm (by rw [← hev.1]; rfl) (by simp [execOp, ho, hv])
    · cases hev
  · rename_i cs off hget
    simp only [Option.some.injEq, Prod.mk.injEq] at hev
    rw [hget] at hr
    obtain ⟨B, o', hv, _⟩ := hr
    exact fin (by rw [hget]; exact hev.1.symm) hev.2.symm (by rw [← hev.1]; rfl) (by simp [execOp, ho, hv])
  · rename_i g cap hget
    simp only [Option.some.injEq, Prod.mk.injEq] at hev
    rw [hget] at hr
    obtain ⟨vs, hv, _⟩ := hr
    exact fin (by rw [hget]; exact hev.1.symm) hev.2.symm (by rw [← hev.1]; rfl) (by simp [execOp, ho, hv])
  · cases hev

/-- The field's place. -/
def okField (P : Program) (t : TypeId) (f off : Nat) (n : Option Nat) (agg : Option Bool) : Bool :=
  match P.underlying t with
  | some (.struct fs) => match fs[f]? with
    | some fd => fd.offset == off && (match tsz P fd.type with | some k => k != 0 && (match n with | some m => m == k | none => true) | none => false) && (match agg with | some g => rowT P fd.type == some g | none => true)
    | none => false
  | _ => false
theorem okField_spec {P : Program} {t : TypeId} {f off : Nat} {n : Option Nat} {agg : Option Bool} (h : okField P t f off n agg = true) : ∃ fs fd k, P.underlying t = some (.struct fs) ∧ fs[f]? = some fd ∧ fd.offset = off ∧ tsz P fd.type = some k ∧ k ≠ 0 ∧ (∀ m, n = some m → m = k) ∧ (∀ g, agg = some g → rowT P fd.type = some g) := by
  unfold okField at h
  split at h
  · rename_i fs hfs
    split at h
    · rename_i fd hfd
      simp only [Bool.and_eq_true] at h
      obtain ⟨⟨h1, h2⟩, h3⟩ := h
      split at h2
      · rename_i k hk
        refine ⟨fs, fd, k, hfs, hfd, by simpa using h1, hk, ?_, fun m hm => ?_, fun g hg => ?_⟩
        · simp at h2; exact h2.1
        · subst hm; simp at h2; exact h2.2
        · subst hg; simpa using h3
      · cases h2
    · cases h
  · cases h

theorem run_fieldAt {P : Program} {t : TypeId} {f off B o' : Nat} (h : okField P t f off none none = true) (w : World) : (Instr.fieldAt t (.pointer (some ⟨B, o', none⟩)) f).run P w = .ok (.pointer (some ⟨B, o' + off, none⟩)) w := by
  obtain ⟨fs, fd, k, h1, h2, h3, h4, h5, _⟩ := okField_spec h
  simp only [Instr.fieldAt, Sem.run_bind, run_underlying h1 w, Result.andThen_ok, h2, Instr.sureAddr, Sem.run_pure, fieldPlace, run_size h4, if_neg h5]
  rw [Addr.add_mid, h3]

theorem op_fadr (hG : GOk C σ) (h : RelX C.fid e σ bm s a w) {off f : Nat} {x : Opnd} {y : Operand} {t : TypeId} (ho : o.op = .fieldAddr t y f) (hx : okO C x y = true) (hf : okField C.P t f off none none = true)
    (hev : evalK call C.G s (.fadr off x) = some (c, s')) : OpRes C e s' c a ((execOp a.eval o).run C.P w) := by
  simp only [evalK] at hev
  have hr := get_rep hG h hx
  have hs : ∀ b, (s.get C.G x).ref = some b → s.seen b = true := fun b hb => get_seen h hx hb
  split at hev
  · rename_i b o' hget
    split at hev
    · rename_i hal
      simp only [Option.some.injEq, Prod.mk.injEq] at hev
      obtain ⟨rfl, rfl⟩ := hev
      obtain ⟨B, hB⟩ := alive_bm h hal
      rw [hget] at hr hs
      refine .inl ⟨.pointer (some ⟨B, o' + off, none⟩), w, by simp [execOp, ho, hr B hB, run_fieldAt hf], σ, bm, h, fun B' hB' => ?_, fun b' hb' => hs b' hb', fun sz hsz => by cases hsz⟩
      rw [hB] at hB'; injection hB' with hB'; rw [hB']
    · cases hev
  · rename_i b i o' hget
    split at hev
    · rename_i hal
      simp only [Option.some.injEq, Prod.mk.injEq] at hev
      obtain ⟨rfl, rfl⟩ := hev
      obtain ⟨B, hB⟩ := alive_bm h hal
      rw [hget] at hr hs
      obtain ⟨sz, xs, j1, hv⟩ := hr B hB
      refine .inl ⟨.pointer (some ⟨B, i * sz + o' + off, none⟩), w, by simp [execOp, ho, hv, run_fieldAt hf], σ, bm, h, fun B' hB' => ⟨sz, xs, j1, ?_⟩, fun b' hb' => hs b' hb', fun sz hsz => by cases hsz⟩
      rw [hB] at hB'; injection hB' with hB'; rw [hB', Nat.add_assoc]
    · cases hev
  · rename_i cs o' hget
    simp only [Option.some.injEq, Prod.mk.injEq] at hev
    obtain ⟨rfl, rfl⟩ := hev
    rw [hget] at hr
    obtain ⟨B, o2, hv, hc⟩ := hr
    exact .inl ⟨.pointer (some ⟨B, o2 + o' + off, none⟩), w, by simp [execOp, ho, hv, run_fieldAt hf], Ready.plain h ⟨B, o2, by rw [Nat.add_assoc], hc⟩ rfl⟩
  · cases hev

/-- An index that is no less than 0. -/
theorem natOf_rep {fid : Nat → Nat} {c : AV} {v : Value} {i : Nat} (hr : RepT fid σ bm s.b c v) (h : natOf c = some i) : ∃ k, v = .int k (i : Int) := by
  cases c <;> simp only [natOf] at h <;> first | (cases h; done) | skip
  split at h
  · rename_i k n hn
    injection h with h
    subst h
    exact ⟨k, by simpa [RepT, RepP, Int.toNat_of_nonneg hn] using hr⟩
  · cases h

theorem op_iadr (hG : GOk C σ) (h : RelX C.fid e σ bm s a w) {sz : Nat} {x i : Opnd} {y j : Operand} {t el : TypeId} (ho : o.op = .indexAddr t y j) (hx : okO C x y = true) (hi : okO C i j = true) (ht : C.P.underlying t = some (.slice el)) (hsz : tsz C.P el = some sz)
    (hev : evalK call C.G s (.iadr sz x i) = some (c, s')) : OpRes C e s' c a ((execOp a.eval o).run C.P w) := by
  simp only [evalK] at hev
  have hr := get_rep hG h hx
  have hri := get_rep hG h hi
  have run : ∀ {B o' n cap k : Nat} {kk : IntKind}, a.eval y = .slice (some ⟨B, o', none⟩) n cap → a.eval j = .int kk (k : Int) → k < n → (execOp a.eval o).run C.P w = .ok (.value (.pointer (some ⟨B, o' + k * sz, none⟩))) w := by
    intro B o' n cap k kk h1 h2 h3
    have : (0 : Int) ≤ (k : Int) ∧ (k : Int) < (n : Int) := by omega
    simp [execOp, ho, Instr.indexAt, h1, h2, asIntOf, run_underlying ht, run_size hsz, h3, Addr.add_mid]
  split at hev
  · rename_i m sz' xs hget
    split at hev
    · rename_i hs'
      subst hs'
      cases hn : natOf (s.get C.G i) with
      | none => rw [hn] at hev; cases hev
      | some k =>
        rw [hn] at hev
        simp only [bnd_some] at hev
        cases hxx : xs[k]? with
        | none => rw [hxx] at hev; cases hev
        | some cs =>
          rw [hxx] at hev
          simp only [bnd_some, Option.some.injEq, Prod.mk.injEq] at hev
          obtain ⟨rfl, rfl⟩ := hev
          obtain ⟨kk, hk⟩ := natOf_rep hri hn
          rw [hget] at hr
          obtain ⟨A, n, cap, hv, hlen, _, _, hcase⟩ := hr
          have hkl : k < xs.length := (List.getElem?_eq_some_iff.1 hxx).1
          rcases hcase with h0 | ⟨B, o', hA, hrows⟩
          · omega
          · subst hA
            refine .inl ⟨_, w, run hv hk (by omega), Ready.plain h ⟨B, o' + k * sz', by simp, ?_⟩ rfl⟩
            have := ((RepR_iff.1 hrows) k cs hxx).2
            simpa [Nat.add_assoc] using this
    · cases hev
  · rename_i b hget
    split at hev
    · rename_i sz' xs hb
      split at hev
      · rename_i hs'
        subst hs'
        cases hn : natOf (s.get C.G i) with
        | none => rw [hn] at hev; cases hev
        | some k =>
          rw [hn] at hev
          simp only [bnd_some] at hev
          split at hev
          · rename_i hkl
            simp only [Option.some.injEq, Prod.mk.injEq] at hev
            obtain ⟨rfl, rfl⟩ := hev
            obtain ⟨kk, hk⟩ := natOf_rep hri hn
            rw [hget] at hr
            obtain ⟨B, hB, _⟩ := h.boxes b _ hb
            obtain ⟨sz2, xs2, cap, j1, j2, hv⟩ := hr B hB
            rw [hb] at j1
            injection j1 with j1
            injection j1 with j1 j3
            subst j1 j3
            refine .inl ⟨_, w, run hv hk hkl, σ, bm, h, fun B' hB' => ⟨sz', xs, hb, ?_⟩, fun b' hb' => get_seen h hx (by rw [hget]; exact hb'), fun sz hsz => by cases hsz⟩
            rw [hB] at hB'; injection hB' with hB'; rw [hB']; simp
          · cases hev
      · cases hev
    · cases hev
  · cases hev

theorem op_iadrA (hG : GOk C σ) (h : RelX C.fid e σ bm s a w) {sz len : Nat} {x i : Opnd} {y j : Operand} {t el : TypeId} (ho : o.op = .indexAddr t y j) (hx : okO C x y = true) (hi : okO C i j = true) (ht : C.P.underlying t = some (.array len el)) (hsz : tsz C.P el = some sz)
    (hev : evalK call C.G s (.iadrA sz len x i) = some (c, s')) : OpRes C e s' c a ((execOp a.eval o).run C.P w) := by
  simp only [evalK] at hev
  have hr := get_rep hG h hx
  have hri := get_rep hG h hi
  have run : ∀ {B o' k : Nat} {kk : IntKind}, a.eval y = .pointer (some ⟨B, o', none⟩) → a.eval j = .int kk (k : Int) → k < len → (execOp a.eval o).run C.P w = .ok (.value (.pointer (some ⟨B, o' + k * sz, none⟩))) w := by
    intro B o' k kk h1 h2 h3
    simp [execOp, ho, Instr.indexAt, h1, h2, asIntOf, run_underlying ht, run_size hsz, h3, Addr.add_mid, Instr.sureAddr]
  split at hev
  · rename_i b o' hget
    split at hev
    · rename_i hal
      cases hn : natOf (s.get C.G i) with
      | none => rw [hn] at hev; cases hev
      | some k =>
        rw [hn] at hev
        simp only [bnd_some] at hev
        split at hev
        · rename_i hkl
          simp only [Option.some.injEq, Prod.mk.injEq] at hev
          obtain ⟨rfl, rfl⟩ := hev
          obtain ⟨kk, hk⟩ := natOf_rep hri hn
          obtain ⟨B, hB⟩ := alive_bm h hal
          rw [hget] at hr
          refine .inl ⟨_, w, run (hr B hB) hk hkl, σ, bm, h, fun B' hB' => ?_, fun b' hb' => get_seen h hx (by rw [hget]; exact hb'), fun sz hsz => by cases hsz⟩
          rw [hB] at hB'; injection hB' with hB'; rw [hB']
        · cases hev
    · cases hev
  · rename_i cs o' hget
    cases hn : natOf (s.get C.G i) with
    | none => rw [hn] at hev; cases hev
    | some k =>
      rw [hn] at hev
      simp only [bnd_some] at hev
      split at hev
      · rename_i hkl
        simp only [Option.some.injEq, Prod.mk.injEq] at hev
        obtain ⟨rfl, rfl⟩ := hev
        obtain ⟨kk, hk⟩ := natOf_rep hri hn
        rw [hget] at hr
        obtain ⟨B, o2, hv, hc⟩ := hr
        exact .inl ⟨_, w, run hv hk hkl, Ready.plain h ⟨B, o2, by rw [Nat.add_assoc], hc⟩ rfl⟩
      · cases hev
  · cases hev
end
end Go.Vs
