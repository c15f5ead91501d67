/- The machine's operations under those on own slices: appending, cutting. -/
import Derived.Test.YtbgodlimjjgogaaDoorAr4
set_option linter.unusedVariables false
namespace Go.Vs
open Go Go.RowKit
section
variable {C : Ctx} {e e' : Env} {σ σ' τ : Mem} {bm bm' : Nat → Option Nat} {s s' : S} {a a' : Act} {w w' : World} {es es1 : List Ent} {o : Oper} {c : AV} {v : Value} {call : Call}
theorem Qgj {B0 : Nat} (hb : ∀ b, bm b ≠ some B0) (hk : ∀ B, B ≠ B0 → w'.heap[B]? = w.heap[B]?) {B : Nat} (hp : Qz s bm a w' B) : Qz s bm a w B := by
 rcases hp with hp | ⟨p, sz, h1, h2⟩
 ·exact .inl hp
 ·refine .inr ⟨p, sz, h1, ?_⟩
  cases p with
  | t t => exact h2
  | c b i =>
   have : Qg a w' bm (.c b i) = Qg a w bm (.c b i) := by
    simp only [Qg]
    cases hbb : bm b with
    | none => rfl
    | some B' =>
     have hne : B' ≠ B0 := fun hh => hb b (by rw [hbb, hh])
     simp only [Option.bind_some]; rw [Qbc (hk B' hne)]
   rw [this] at h2; exact h2
theorem Qwr (h : RelX C.fid { e with hd := σ.hd } σ bm s a w) (hA : ArOk C.fid e σ bm s a w es) {c : AV} {v : Value} {sz : Nat} {ys : List (List AV)} (hq : srcR es c = some (sz, ys)) (hr : RepT C.fid σ bm s.b c v) :
  ∃ A2 k cap2 news, v = .slice A2 k cap2 ∧ k = ys.length ∧ news.length = k * sz ∧ RepR C.fid σ sz ys (fun j => news[j]?) ∧ (∀ v ∈ news, v.oneCell' = true) ∧ ∀ {u ul : TypeId}, C.P.underlying u = some (.slice ul) → Src C.P sz u v k news w := by
 cases c with
 | sl m2 sz2 ys2 =>
  simp only [srcR, Zi, Zm] at hq
  obtain ⟨rfl, rfl⟩ := hq
  obtain ⟨A2, k, cap2, hv2, hk, hcap2, _, hrowsy⟩ := (show RepP C.fid σ (.sl m2 sz2 ys2) _ from hr)
  obtain ⟨news, n1, n2, n3⟩ : ∃ news : List Value, news.length = k * sz2 ∧ (k = 0 ∨ ∃ B o', A2 = some ⟨B, o', none⟩ ∧ ∀ j u, news[j]? = some u → σ B (o' + j) = some u) ∧ RepR C.fid σ sz2 ys2 (fun j => news[j]?) := by
   rcases hrowsy with h0 | ⟨B, o', hA, hR⟩
   ·have : ys2 = [] := List.eq_nil_of_length_eq_zero (by omega)
    exact ⟨[], by simp [h0], .inl h0, by rw [this]; simp [RepR]⟩
   ·obtain ⟨l, q1, q2, q3⟩ := Qfn hR
    exact ⟨l, by rw [q1, hk], .inr ⟨B, o', hA, q2⟩, q3⟩
  have nOne : ∀ v ∈ news, v.oneCell' = true := by
   intro v hv
   obtain ⟨j, hj⟩ := List.getElem?_of_mem hv
   rcases n2 with h0 | ⟨B, o', _, hs⟩
   ·have := (List.getElem?_eq_some_iff.1 hj).1; rw [n1, h0] at this; omega
   ·exact h.one _ _ _ (hs j v hj)
  refine ⟨A2, k, cap2, news, hv2, hk, n1, n3, nOne, fun hu => ?_⟩
  rw [hv2]
  rcases n2 with h0 | ⟨B, o', hA, hs⟩
  ·subst h0
   cases A2 with
   | none =>
    have : news = [] := List.eq_nil_of_length_eq_zero (by simpa using n1)
    subst this; exact Src.ofNil w hu cap2
   | some a2 =>
    have : news = [] := List.eq_nil_of_length_eq_zero (by simpa using n1)
    subst this
    exact Src.ofSlice w hu a2 0 cap2 [] (by simp) (fun j u h => by simp at h) (fun u h => by cases h)
  ·rw [hA]
   exact Src.ofSlice w hu _ k cap2 news n1 (fun j u hj => by rw [Addr.add_mid]; exact h.mem _ _ _ (hs j u hj)) nOne
 | tr id sz2 m =>
  simp only [srcR] at hq
  obtain ⟨ys2, hy, hq⟩ := Qa.1 hq
  simp only [Zi, Zm] at hq
  obtain ⟨rfl, rfl⟩ := hq
  obtain ⟨hn, ⟨A, cap, hv1, hrows⟩, _⟩ := Qvv hA hy (show RepH σ id m v from hr)
  have hcap : ys2.length ≤ cap := by
   rcases hrows with ⟨_, h0⟩ | ⟨_, h0, _⟩
   ·rw [h0]; simp
   ·omega
  rcases hrows with ⟨_, h0⟩ | ⟨hc0, hcn, B, vs, ty, m', rfl, j2, j3, j4, j5, j6, j7, j8⟩
  ·subst h0
   refine ⟨A, 0, cap, [], hv1, rfl, by simp, by simp [RepR], (fun v hv => absurd hv (by simp)), fun hu => ?_⟩
   rw [hv1]
   cases A with
   | none => exact Src.ofNil w hu cap
   | some a1 => exact Src.ofSlice w hu a1 0 cap [] (by simp) (fun j u h => by simp at h) (fun u h => by cases h)
  ·have hnb : ys2.length * sz2 ≤ vs.size := Nat.le_trans (Nat.mul_le_mul_right sz2 hcap) j4
   have hlen0 : (vs.toList.take (ys2.length * sz2)).length = ys2.length * sz2 := by simp; omega
   have hg : ∀ j, j < ys2.length * sz2 → (vs.toList.take (ys2.length * sz2))[j]? = vs[j]? := by
    intro j hj
    rw [List.getElem?_take, if_pos hj]; simp
   have hone : ∀ v ∈ vs.toList.take (ys2.length * sz2), v.oneCell' = true := by
    intro v hv
    obtain ⟨j, hj⟩ := List.getElem?_of_mem hv
    have hlt := (List.getElem?_eq_some_iff.1 hj).1
    rw [hlen0] at hlt
    rw [hg j hlt] at hj
    exact j3.2 j v hlt hj
   refine ⟨_, ys2.length, cap, vs.toList.take (ys2.length * sz2), hv1, rfl, hlen0, ?_, hone, fun hu => ?_⟩
   ·refine (Qn.2 fun r row hrow => ?_)
    obtain ⟨q1, q2⟩ := Qn.1 j5 r row hrow
    refine ⟨q1, Qi.2 fun m' c hc => ?_⟩
    obtain ⟨x', r1, r2⟩ := Qi.1 q2 m' c hc
    have hr := (List.getElem?_eq_some_iff.1 hrow).1
    have hm := (List.getElem?_eq_some_iff.1 hc).1
    refine ⟨x', ?_, r2⟩
    have hlt : r * sz2 + m' < ys2.length * sz2 := by
     have : (r + 1) * sz2 ≤ ys2.length * sz2 := Nat.mul_le_mul_right sz2 (by omega)
     rw [Nat.add_mul] at this; omega
    rw [hg _ hlt]; exact r1
   ·rw [hv1]
    refine Src.ofSlice w hu _ _ cap _ hlen0 (fun j u hj => ?_) hone
    rw [Addr.add_mid]
    have hlt := (List.getElem?_eq_some_iff.1 hj).1
    rw [hlen0] at hlt
    rw [hg j hlt] at hj
    rw [Qag j2, Nat.zero_add]; exact hj
 | _ => simp [srcR] at hq
theorem op_tapp (hG : GOk C σ) (h : RelX C.fid { e with hd := σ.hd } σ bm s a w) (ha : ArS C.fid e σ bm s a w) (hN : NoAr e σ s) {sz : Nat} {x y : Opnd} {y1 y2 : Operand} {t u el ul : TypeId} {cl : Go.Call} {i : TypeInfo} {z : Value}
  (ho : o.op = .call cl) (hcl : cl.callee = .builtin .append) (hargs : cl.args = #[y1, y2]) (hts : cl.argTypes = #[t, u]) (hx : okO C x y1 = true) (hy : okO C y y2 = true)
  (ht : C.P.underlying t = some (.slice el)) (hu : C.P.underlying u = some (.slice ul)) (hi : C.P.info? el = some i) (hz : i.zero = some z) (hsz : i.size = sz) (hzs : z.cells.size = sz) (hpos : 0 < sz) (hby : i.bytes ≤ 32768)
  (hev : evalTK call C.G s (.app sz x y) = some (c, s')) : Qbu C e s' c a ((execOp a.eval o).run C.P w) := by
 simp only [evalTK] at hev
 obtain ⟨es, hes, hev⟩ := Qa.1 hev
 have hes := Qds hes
 have hA := ha es hes
 have hrx := Qc hG h hx
 have hry := Qc hG h hy
 split at hev
 rotate_left
 ·cases hev
 rename_i id sz1 n g1
 obtain ⟨⟨sz2, ys⟩, hq, hev2⟩ := Qa.1 hev
 clear hev
 have hev := hev2
 clear hev2
 simp only at hev
 split at hev
 rotate_left
 ·cases hev
 rename_i hc
 obtain ⟨hs1, hs2, hlen⟩ := hc
 have e1 : sz = sz1 := hs1.symm
 subst e1
 have e2 : sz = sz2 := hs2.symm
 subst e2
 obtain ⟨xs, hxs, hev⟩ := Qa.1 hev
 simp only [Zi, Zm] at hev
 obtain ⟨rfl, rfl⟩ := hev
 rw [g1] at hrx
 obtain ⟨hn, hx0, hne⟩ := Qvv hA hxs (show RepH σ id n _ from hrx)
 obtain ⟨A, cap, hv1, hrowsx⟩ := hx0
 rw [← hn] at hv1
 have hcap : n ≤ cap := by
  rcases hrowsx with ⟨_, h0⟩ | ⟨_, h0, _⟩
  ·rw [hn, h0]; simp
  ·omega
 obtain ⟨A2, k, cap2, news, hv2, hk, n1, n3, nOne, hsrc0⟩ := Qwr h hA hq hry
 have hkill : (killO es id).length = es.length := (Qfs (es := es) (id0 := id)).1
 have hAk := hA.killO id
 have hsrc : Src C.P i.size u (a.eval y2) k news w := by
  rw [hsz]; exact hsrc0 hu
 rw [← hk]
 have fin : ∀ {v : Value} {w1 : World} {s1 : S} {c1 : AV}, (Builtin.append_ #[t, u] o.type #[a.eval y1, a.eval y2]).run C.P w = .ok v w1 → Qo C e s1 c1 v a w1 → Qbu C e s1 c1 a ((execOp a.eval o).run C.P w) := by
  intro v w1 s1 c1 hrun hready
  refine .inl ⟨v, w1, ?_, hready⟩
  simp only [execOp, ho, resolve, hcl, hargs, hts, Sem.run_bind, Sem.run_pure, Result.andThen_ok, invoke, builtin]
  have : (#[y1, y2] : Array Operand).map a.eval = #[a.eval y1, a.eval y2] := by simp
  rw [this, hrun]
  rfl
 by_cases hgrow : cap < n + k
 ·-- a new row
  obtain ⟨olds, o1, o2, o3⟩ : ∃ olds : List Value, olds.length = n * sz ∧ (Builtin.firstCells i.size n (.slice A n cap)).run C.P w.drew = .ok olds.toArray w.drew ∧ (RepR C.fid σ sz xs (fun j => olds[j]?) ∧ ∀ v ∈ olds, v.oneCell' = true) := by
   rcases hrowsx with ⟨_, h0⟩ | ⟨hc0, hcn, B, vs, ty, m, rfl, j2, j3, j4, j5, j6, j7, j8⟩
   ·have hn0 : n = 0 := by rw [hn, h0]; rfl
    refine ⟨[], by simp [hn0], ?_, by rw [h0]; simp [RepR], fun v hv => by cases hv⟩
    subst hn0
    cases A with
    | none => exact run_firstCells_none w.drew i.size 0 0 cap
    | some a1 => exact run_firstCells_some w.drew i.size 0 a1 0 cap [] (by simp) (fun j u h => by simp at h)
   ·have hnb : n * sz ≤ vs.size := Nat.le_trans (Nat.mul_le_mul_right sz hcap) j4
    have hlen0 : (vs.toList.take (n * sz)).length = n * sz := by simp; omega
    have hg : ∀ j, j < n * sz → (vs.toList.take (n * sz))[j]? = vs[j]? := by
     intro j hj
     rw [List.getElem?_take, if_pos hj]; simp
    refine ⟨vs.toList.take (n * sz), hlen0, ?_, ?_, fun v hv => ?_⟩
    rotate_right
    ·obtain ⟨j, hj⟩ := List.getElem?_of_mem hv
     have hlt := (List.getElem?_eq_some_iff.1 hj).1
     rw [hlen0] at hlt
     rw [hg j hlt] at hj
     exact j3.2 j v (by rw [← hn]; exact hlt) hj
    ·refine run_firstCells_some w.drew i.size n _ n cap _ (by rw [hlen0, hsz]) (fun j u hj => ?_)
     rw [Addr.add_mid]
     have hlt := (List.getElem?_eq_some_iff.1 hj).1
     rw [hlen0] at hlt
     rw [hg j hlt] at hj
     have : w.drew.cell? ⟨B, 0 + j, none⟩ = w.cell? ⟨B, 0 + j, none⟩ := rfl
     rw [this, Qag j2, Nat.zero_add]; exact hj
    ·refine (Qn.2 fun r row hrow => ?_)
     obtain ⟨q1, q2⟩ := Qn.1 j5 r row hrow
     refine ⟨q1, Qi.2 fun m' c hc => ?_⟩
     obtain ⟨x', r1, r2⟩ := Qi.1 q2 m' c hc
     have hr := (List.getElem?_eq_some_iff.1 hrow).1
     have hm := (List.getElem?_eq_some_iff.1 hc).1
     refine ⟨x', ?_, r2⟩
     have hlt : r * sz + m' < n * sz := by
      have : (r + 1) * sz ≤ n * sz := Nat.mul_le_mul_right sz (by omega)
      rw [Nat.add_mul] at this; omega
     rw [hg _ hlt]; exact r1
  have hfit : Builtin.nextslicecap (n + k) cap * i.bytes ≤ 281474976710656 := by
   refine growslice_fits hgrow ?_
   have h1 : (n + k) * i.bytes ≤ 4294967296 * 32768 := Nat.mul_le_mul (by omega) hby
   omega
  have hrun := run_append_grow_src (P := C.P) w t u o.type el i z ht hi hz A n cap olds o2 (a.eval y2) k news hsrc hgrow (by omega) hfit
  have hge := grownCap_ge w (n + k) cap el
  rw [← hv1] at hrun
  have hrel := h.drawn (w.drawn + 1)
  have hAd : ArOk C.fid e σ bm s a { w with drawn := w.drawn + 1 } (killO es id) :=
   hAk.step (fun id B hB => ⟨rfl, rfl, (hAk.blk hB).2.1⟩) (Mem.le_refl _) rfl (fun id B hB hp => Qbo h (fun _ _ => rfl) hp)
  have hzc : (Builtin.zeroCells z.cells (grownCap w (n + k) cap el - (n + k))).size = (grownCap w (n + k) cap el - (n + k)) * sz := by
   simp [Builtin.zeroCells, hzs]
  have hready := Qnj (C := C) (e := e) hrel hN hes hAd hkill (vs := (olds ++ news).toArray ++ Builtin.zeroCells z.cells (grownCap w (n + k) cap el - (n + k))) (el := el) (sz := sz) (n := n + k) (cap := grownCap w (n + k) cap el) (xs := xs ++ ys)
   (by simp [hn, hk]) hge (by
    simp only [Array.size_append, List.size_toArray, Za, o1, n1, hzc]
    rw [← Nat.add_mul, ← Nat.add_mul]; congr 1; omega) (by
    intro j v hj hv
    rw [Array.getElem?_append_left (by simp [o1, n1, ← Nat.add_mul]; exact hj)] at hv
    have h1 : (olds ++ news)[j]? = some v := by simpa using hv
    rcases List.mem_append.1 (List.mem_of_getElem? h1) with h1 | h1
    ·exact o3.2 v h1
    ·exact nOne v h1) (by
    have hget : ∀ j, j < (n + k) * sz → ((olds ++ news).toArray ++ Builtin.zeroCells z.cells (grownCap w (n + k) cap el - (n + k)))[j]? = (olds ++ news)[j]? := by
     intro j hj
     rw [Array.getElem?_append_left (by simp [o1, n1, ← Nat.add_mul]; exact hj)]
     simp
    rw [Qeb]
    refine ⟨Qad (Mem.le_refl σ) _ _ _ (fun j v hj => ?_) o3.1, Qad (Mem.le_refl σ) _ _ _ (fun j v hj => ?_) n3⟩
    ·have hlt := (List.getElem?_eq_some_iff.1 hj).1
     rw [hget j (by rw [Nat.add_mul]; omega), List.getElem?_append_left hlt]; exact hj
    ·have hlt := (List.getElem?_eq_some_iff.1 hj).1
     have hxn : xs.length * sz = n * sz := by rw [hn]
     rw [hget _ (by rw [Nat.add_mul]; omega), List.getElem?_append_right (by omega)]
     rw [show xs.length * sz + j - olds.length = j by omega]; exact hj)
  exact fin hrun hready
 ·-- in place
  rcases hrowsx with ⟨hc0, hxs0⟩ | ⟨hc0, hcn, B, vs, ty, m, rfl, j2, j3, j4, j5, j6, j7, j8⟩
  ·have hn0 : n = 0 := by omega
   have hk0 : k = 0 := by omega
   have hys : ys = [] := List.eq_nil_of_length_eq_zero (by omega)
   have hnews : news = [] := List.eq_nil_of_length_eq_zero (by rw [n1, hk0]; simp)
   have hcells := hsrc.cells
   rw [hnews, hk0] at hcells
   have hle := hsrc.len w
   rw [hk0] at hle
   have hrun : (Builtin.append_ #[t, u] o.type #[a.eval y1, a.eval y2]).run C.P w = .ok (.slice A 0 0) w := by
    rw [hv1, hn0, hc0]
    cases A <;> simp [Builtin.append_, run_underlying ht, run_underlying hu, sizeOf, typeInfo, hi, hle, hcells, storeCells]
   refine fin hrun (born h hN hes hAk hkill ⟨A, 0, by simp [hxs0, hys], .inl ⟨rfl, by simp [hxs0, hys]⟩⟩ (by simp [hn, hk]) (fun id B hB => ?_))
   cases A <;> simp [Qcv]
  ·have hkn : n * sz + k * sz ≤ cap * sz := by rw [← Nat.add_mul]; exact Nat.mul_le_mul_right sz (by omega)
   have hrun := run_append_room_src (P := C.P) w t u o.type el i ht hi B 0 n cap (a.eval y2) k news hsrc (by omega) (fun j hj => by
     have : 0 + n * sz + j < vs.size := by omega
     rw [hsz, Qag j2, Array.getElem?_eq_getElem this]; rfl) (fun j hj => by
     rw [hsz]; exact Qfb j2 j3.1 (by omega))
   rw [hsz, ← hv1] at hrun
   obtain ⟨r1, r2, r3, r4⟩ := Qbi B news (0 + n * sz) w
   have hheap := Qbh B news (0 + n * sz) w vs ty m j2
   have hoth : ∀ B', B' ≠ B → (w.setCells B (0 + n * sz) news).heap[B']? = w.heap[B']? := fun B' hne' => Qr B B' hne' _ _ _
   have hbx : ∀ b, bm b ≠ some B := fun b hb => j8 (.inl ⟨b, hb⟩)
   have hrel := h.touch (τ := σ) (w' := w.setCells B (0 + n * sz) news) (B := B) j6 hbx (fun p sz hp hB => j8 (.inr ⟨p, sz, hp, hB⟩)) hoth r1 r2 r3 r4 (Mem.le_refl σ) (fun _ _ _ => rfl) (fun i v hv => by rw [j7 i] at hv; cases hv)
   have hblkv : Qcv (some (a.eval y1)) = some B := by rw [hv1]; simp only [Qcv]; rw [if_neg (by omega)]
   have hAw : ArOk C.fid e σ bm s a (w.setCells B (0 + n * sz) news) (killO es id) :=
    hAk.step (fun id' B' hB' => ⟨hoth B' (fun hh => hne id' B' hB' (by rw [hblkv, hh])), rfl, (hAk.blk hB').2.1⟩) (Mem.le_refl _) rfl (fun id' B' hB' hp => Qgj hbx hoth hp)
   have hxn : xs.length * sz = n * sz := by rw [hn]
   refine fin hrun (born hrel hN hes hAw hkill (v := .slice (some ⟨B, 0, none⟩) (n + k) cap) ⟨_, cap, by simp [hn, hk], .inr ⟨hc0, by rw [Za, ← hn, ← hk]; omega, B, _, ty, m, rfl, hheap, ⟨fun i hi => j3.1 i (by rwa [Qq] at hi), fun q v hq hv => ?_⟩, by rw [Qq]; exact j4, ?_, j6, j7, fun hp => j8 (Qgj hbx hoth hp)⟩⟩ (by simp [hn, hk]) (fun id' B' hB' => ?_))
   ·rw [Za, ← hn, ← hk, Nat.add_mul] at hq
    by_cases hq2 : q < n * sz
    ·rw [Qw _ _ _ _ (by omega)] at hv
     exact j3.2 q v (by rw [← hn]; exact hq2) hv
    ·have := Qau news vs (0 + n * sz) (q - n * sz) (by omega) (by omega)
     rw [show 0 + n * sz + (q - n * sz) = q by omega] at this
     rw [this] at hv
     exact nOne v (List.mem_of_getElem? hv)
   ·rw [Qeb]
    constructor
    ·refine Qn.2 fun r row hrow => ?_
     obtain ⟨q1, q2⟩ := Qn.1 j5 r row hrow
     refine ⟨q1, Qi.2 fun m' c hc => ?_⟩
     obtain ⟨x', s1, s2⟩ := Qi.1 q2 m' c hc
     have hr := (List.getElem?_eq_some_iff.1 hrow).1
     have hm := (List.getElem?_eq_some_iff.1 hc).1
     refine ⟨x', ?_, s2⟩
     have hlt : r * sz + m' < n * sz := by
      have : (r + 1) * sz ≤ n * sz := Nat.mul_le_mul_right sz (by omega)
      rw [Nat.add_mul] at this; omega
     rw [Qw _ _ _ _ (by omega)]; exact s1
    ·refine Qad (Mem.le_refl σ) _ _ _ (fun j v hj => ?_) n3
     have hlt := (List.getElem?_eq_some_iff.1 hj).1
     have := Qau news vs (0 + n * sz) j (by omega) hlt
     rw [show xs.length * sz + j = 0 + n * sz + j by omega, this]; exact hj
   ·intro hh
    refine hne id' B' hB' ?_
    rw [hblkv]
    simp only [Qcv] at hh
    rw [if_neg (by omega)] at hh
    exact hh
end
end Go.Vs
namespace Go.Vs
open Go Go.RowKit
section
variable {C : Ctx} {e e' : Env} {σ σ' τ : Mem} {bm bm' : Nat → Option Nat} {s s' : S} {a a' : Act} {w w' : World} {es es1 : List Ent} {o : Oper} {c : AV} {v : Value} {call : Call}
theorem Qo.plain (h : RelX C.fid { e with hd := σ.hd } σ bm s a w) (ha : ArS C.fid e σ bm s a w) (hN : NoAr e σ s) (hr : RepP C.fid σ c v) (ht : c.tipSz = none) : Qo C e s c v a w := by
 refine ⟨σ, bm, h, ha, hN, Qew hr, fun b hb => ?_, fun sz hs => by rw [ht] at hs; cases hs⟩
 cases c <;> first | (cases hb; done) | exact hr.elim
theorem op_tcut (hG : GOk C σ) (h : RelX C.fid { e with hd := σ.hd } σ bm s a w) (ha : ArS C.fid e σ bm s a w) (hN : NoAr e σ s) {sz : Nat} {x hi : Opnd} {y yh : Operand} {t el : TypeId} (ho : o.op = .slice t y none (some yh) none) (hx : okO C x y = true)
  (hh : okO C hi yh = true) (ht : C.P.underlying t = some (.slice el)) (hsz : tsz C.P el = some sz)
  (hev : evalTK call C.G s (.cut sz x hi) = some (c, s')) : Qbu C e s' c a ((execOp a.eval o).run C.P w) := by
 simp only [evalTK] at hev
 obtain ⟨es, hes, hev⟩ := Qa.1 hev
 have hes := Qds hes
 have hA := ha es hes
 have hrx := Qc hG h hx
 split at hev
 rotate_left
 ·cases hev
 rename_i id sz1 n g1
 split at hev
 rotate_left
 ·cases hev
 rename_i hs1
 subst hs1
 obtain ⟨k, hk, hev⟩ := Qa.1 hev
 split at hev
 rotate_left
 ·cases hev
 rename_i hkn
 obtain ⟨xs, hxs, hev⟩ := Qa.1 hev
 simp only [Zi, Zm] at hev
 obtain ⟨rfl, rfl⟩ := hev
 rw [g1] at hrx
 obtain ⟨hn, hx0, hne⟩ := Qvv hA hxs (show RepH σ id n _ from hrx)
 obtain ⟨A, cap, hv1, hrowsx⟩ := hx0
 rw [← hn] at hv1
 have hcap : n ≤ cap := by
  rcases hrowsx with ⟨_, h0⟩ | ⟨_, h0, _⟩
  ·rw [hn, h0]; simp
  ·omega
 have hkill : (killO es id).length = es.length := (Qfs (es := es) (id0 := id)).1
 have hAk := hA.killO id
 have hfit : Qid (some k) (some (a.eval yh)) := Qbz (Qc hG h hh) hk
 have hrun := Qil (P := C.P) (isSlice := true) (len := n) (cap := cap) (lo := none) (hi := some k) (mx := none) (vlo := none) (vhi := some (a.eval yh)) (vmx := none) trivial hfit trivial (fun h => by cases h) (Nat.zero_le _) (by simp; omega) (by simp) w
 have hslice : (Instr.sliceAt t (a.eval y) none (some (a.eval yh)) none).run C.P w = .ok (.slice (if cap = 0 then A else A.map (·.add (0 * sz1))) k cap) w := by
  rw [hv1]
  simp only [Instr.sliceAt, Sem.run_bind, run_underlying ht, Result.andThen_ok, Instr.slice, hrun, Qcm hsz, Sem.run_pure]
  simp
 have hfin : ∀ {v : Value} {s1 : S} {c1 : AV}, (Instr.sliceAt t (a.eval y) none (some (a.eval yh)) none).run C.P w = .ok v w → Qo C e s1 c1 v a w → Qbu C e s1 c1 a ((execOp a.eval o).run C.P w) := by
  intro v s1 c1 hr hready
  exact .inl ⟨v, w, by simp [execOp, ho, hr], hready⟩
 refine hfin hslice (born h hN hes hAk hkill ?_ (by simp; omega) (fun id' B' hB' => ?_))
 ·rcases hrowsx with ⟨rfl, rfl⟩ | ⟨hc0, hcn, B, vs, ty, m, rfl, j2, j3, j4, j5, j6, j7, j8⟩
  ·exact ⟨A, 0, by simp at hn; simp; omega, .inl ⟨rfl, by simp⟩⟩
  ·refine ⟨some ⟨B, 0, none⟩, cap, ?_, .inr ⟨hc0, by simp; omega, B, vs, ty, m, rfl, j2, ⟨j3.1, fun i v hi hv => j3.2 i v (Nat.lt_of_lt_of_le hi (Nat.mul_le_mul_right _ (by rw [List.length_take]; omega))) hv⟩, j4, ?_, j6, j7, j8⟩⟩
   ·rw [if_neg (by omega)]
    simp [Addr.add, List.length_take, Nat.min_eq_left (show k ≤ xs.length by omega)]
   ·rw [Qn] at j5 ⊢
    intro i r hr
    refine j5 i r ?_
    rw [List.getElem?_take] at hr
    split at hr
    ·exact hr
    ·cases hr
 ·refine fun hh => hne id' B' hB' ?_
  rw [hv1]
  rcases hrowsx with ⟨rfl, rfl⟩ | ⟨hc0, hcn, B, vs, ty, m, rfl, j2⟩
  ·cases A <;> simp [Qcv] at hh
  ·rw [if_neg (by omega)] at hh
   simp only [Qcv, Option.map_some, Addr.add] at hh ⊢
   rw [if_neg (by omega)] at hh ⊢
   simpa using hh
theorem op_tlen (hG : GOk C σ) (h : RelX C.fid { e with hd := σ.hd } σ bm s a w) (ha : ArS C.fid e σ bm s a w) (hN : NoAr e σ s) {x : Opnd} {y : Operand} {t el : TypeId} {cl : Go.Call} (ho : o.op = .call cl) (hcl : cl.callee = .builtin .len) (hargs : cl.args = #[y]) (hts : cl.argTypes = #[t]) (hx : okO C x y = true) (ht : C.P.underlying t = some (.slice el))
  (hev : evalTK call C.G s (.len x) = some (c, s')) : Qbu C e s' c a ((execOp a.eval o).run C.P w) := by
 simp only [evalTK] at hev
 have hr := Qc hG h hx
 split at hev
 rotate_left
 ·cases hev
 rename_i id sz n hget
 simp only [Zi, Zm] at hev
 obtain ⟨rfl, rfl⟩ := hev
 rw [hget] at hr
 have hv : ∃ A cap, a.eval y = .slice A n cap := by
  have hr : RepH σ id n (a.eval y) := hr
  cases id with
  | none => obtain ⟨rfl, A, hA⟩ := hr; exact ⟨A, 0, hA⟩
  | some id => obtain ⟨_, A, cap, hA, _⟩ := hr; exact ⟨A, cap, hA⟩
 obtain ⟨A, cap, hv⟩ := hv
 exact .inl ⟨.int .i64 n, w, by simp [execOp, ho, resolve, hcl, hargs, hts, invoke, builtin, Builtin.len_, run_underlying ht, hv, goInt], Qo.plain h ha hN rfl rfl⟩
theorem Qyp (hG : GOk C σ) (h : RelX C.fid { e with hd := σ.hd } σ bm s a w) (ha : ArS C.fid e σ bm s a w) (hN : NoAr e σ s) {sz : Nat} {x i : Opnd} {y j : Operand} {t el : TypeId} (ho : o.op = .indexAddr t y j) (hx : okO C x y = true) (hi : okO C i j = true) (ht : C.P.underlying t = some (.slice el)) (hsz : tsz C.P el = some sz)
  (hev : evalTK call C.G s (.iadr sz x i) = some (c, s')) : Qbu C e s' c a ((execOp a.eval o).run C.P w) := by
 simp only [evalTK] at hev
 have hr := Qc hG h hx
 have hri := Qc hG h hi
 split at hev
 rotate_left
 ·cases hev
 rename_i id sz1 n hget
 split at hev
 rotate_left
 ·cases hev
 rename_i hs1
 subst hs1
 obtain ⟨k, hk, hev⟩ := Qa.1 hev
 split at hev
 rotate_left
 ·cases hev
 rename_i hkn
 simp only [Zi, Zm] at hev
 obtain ⟨rfl, rfl⟩ := hev
 obtain ⟨kk, hkk⟩ := Qbz hri hk
 rw [hget] at hr
 have hr : RepH σ id n (a.eval y) := hr
 cases id with
 | none => obtain ⟨rfl, _⟩ := hr; omega
 | some id =>
  obtain ⟨hv, A, cap, hA, h0⟩ := hr
  rcases h0 with h0 | ⟨B, rfl⟩
  ·omega
  refine .inl ⟨.pointer (some ⟨B, k * sz1, none⟩), w, ?_, Qo.plain h ha hN ?_ rfl⟩
  ·have : (0 : Int) ≤ (k : Int) ∧ (k : Int) < (n : Int) := by omega
   simp [execOp, ho, Instr.indexAt, hA, hkk, asIntOf, run_underlying ht, Qcm hsz, hkn, Addr.add_mid]
  ·exact ⟨id, B, n, cap, rfl, by rw [hv, hA], by simp⟩
theorem Qyo (hG : GOk C σ) (h : RelX C.fid { e with hd := σ.hd } σ bm s a w) (ha : ArS C.fid e σ bm s a w) (hN : NoAr e σ s) {off f : Nat} {x : Opnd} {y : Operand} {t : TypeId} (ho : o.op = .fieldAddr t y f) (hx : okO C x y = true) (hf : Qeh C.P t f off none none = true)
  (hev : evalTK call C.G s (.fadr off x) = some (c, s')) : Qbu C e s' c a ((execOp a.eval o).run C.P w) := by
 simp only [evalTK] at hev
 have hr := Qc hG h hx
 split at hev
 rotate_left
 ·cases hev
 rename_i id sz i o' hget
 simp only [Zi, Zm] at hev
 obtain ⟨rfl, rfl⟩ := hev
 rw [hget] at hr
 obtain ⟨k, B, n, cap, h0, h1, h2⟩ := (show RepQ σ id sz i o' _ from hr)
 exact .inl ⟨.pointer (some ⟨B, i * sz + o' + off, none⟩), w, by simp [execOp, ho, h2, Qek hf], Qo.plain h ha hN ⟨k, B, n, cap, h0, h1, by rw [Nat.add_assoc]⟩ rfl⟩
theorem op_tnil (hG : GOk C σ) (h : RelX C.fid { e with hd := σ.hd } σ bm s a w) (ha : ArS C.fid e σ bm s a w) (hN : NoAr e σ s) {x : Opnd} {y : Operand} (ho : o.op = .nilCheck y) (hx : okO C x y = true)
  (hev : evalTK call C.G s (.nilck x) = some (c, s')) : Qbu C e s' c a ((execOp a.eval o).run C.P w) := by
 simp only [evalTK] at hev
 have hr := Qc hG h hx
 split at hev
 rotate_left
 ·cases hev
 rename_i id sz i o' hget
 simp only [Zi, Zm] at hev
 obtain ⟨rfl, rfl⟩ := hev
 rw [hget] at hr
 have hr : RepQ σ id sz i o' (a.eval y) := hr
 obtain ⟨k, B, n, cap, h0, h1, h2⟩ := hr
 exact .inl ⟨a.eval y, w, by simp [execOp, ho, h2], Qo.plain h ha hN ⟨k, B, n, cap, h0, h1, h2⟩ rfl⟩
theorem Qoz (hA : ArOk C.fid e σ bm s a w es) {id : Option Nat} {sz i off : Nat} {xs : List (List AV)} {cs : List AV} (hr : RepQ σ id sz i off v) (hx : Qbm es sz id = some xs) (hi : xs[i]? = some cs) :
  ∃ B vs t m cap k, id = some k ∧ v = .pointer (some ⟨B, i * sz + off, none⟩) ∧ 0 < cap ∧ Qt σ es k = some B ∧ σ.hd k = some (.slice (some ⟨B, 0, none⟩) xs.length cap) ∧ xs.length ≤ cap ∧ w.heap[B]? = some (.cells vs t m) ∧ BoxFn vs m (xs.length * sz) ∧ cap * sz ≤ vs.size ∧ RepR C.fid σ sz xs (fun i => vs[i]?) ∧ e.own B ∧ (∀ i, σ B i = none) ∧ ¬ Qz s bm a w B := by
 obtain ⟨k, B, n, cap, rfl, h1, h2⟩ := hr
 have he := Qgl hx
 obtain ⟨x, cap', k1, k2⟩ := hA.ent k sz xs he
 rw [h1] at k1
 injection k1 with k1
 injection k1 with k1 k3 k4
 subst k1 k3 k4
 rcases k2 with ⟨_, rfl⟩ | ⟨hc, hn, B', vs, t, m, hB, j2, j3, j4, j5, j6, j7, j8⟩
 ·simp at hi
 ·injection hB with hB
  injection hB with hB
  subst hB
  refine ⟨B, vs, t, m, cap, k, rfl, h2, hc, ?_, h1, hn, j2, j3, j4, j5, j6, j7, j8⟩
  unfold Qt
  rw [he]
  simp only [h1, Qcv]
  rw [if_neg (by omega)]
theorem Qyq (hG : GOk C σ) (h : RelX C.fid { e with hd := σ.hd } σ bm s a w) (ha : ArS C.fid e σ bm s a w) (hN : NoAr e σ s) {n : Nat} {agg : Bool} {x : Opnd} {y : Operand} {t : TypeId} (ho : o.op = .load t y) (hx : okO C x y = true) (hn : tsz C.P t = some n) (hr : rowT C.P t = some agg)
  (hev : evalTK call C.G s (.load n agg x) = some (c, s')) : Qbu C e s' c a ((execOp a.eval o).run C.P w) := by
 simp only [evalTK] at hev
 have hrep := Qc hG h hx
 split at hev
 rotate_left
 ·cases hev
 rename_i id sz i off hget
 obtain ⟨es, hes, hev⟩ := Qa.1 hev
 have hes := Qds hes
 obtain ⟨xs, hxs, hev⟩ := Qa.1 hev
 obtain ⟨cs, hcs, hev⟩ := Qa.1 hev
 obtain ⟨v, hv, hev⟩ := Qa.1 hev
 simp only [Zi, Zm] at hev
 obtain ⟨rfl, rfl⟩ := hev
 rw [hget] at hrep
 obtain ⟨B, vs, ty, m, cap, k, _, h2, _, _, _, _, j2, j3, j4, j5, _⟩ := Qoz (ha es hes) (show RepQ σ id sz i off _ from hrep) hxs hcs
 have hb : Qjp C.fid σ w cs off (a.eval y) := by
  refine ⟨B, i * sz, h2, fun j c hc => ?_⟩
  obtain ⟨x', q1, q2⟩ := (Qi.1 ((Qn.1 j5) i cs hcs).2) j c hc
  exact ⟨x', by rw [Qag j2]; exact q1, q2⟩
 obtain ⟨y', k1, k2, k3⟩ := Qoe hb hv hn hr
 exact .inl ⟨y', w, by simp [execOp, ho, k1], Qo.plain h ha hN k2 k3⟩
theorem Qwf (hG : GOk C σ) (h : RelX C.fid { e with hd := σ.hd } σ bm s a w) (ha : ArS C.fid e σ bm s a w) (hN : NoAr e σ s) {n : Nat} {x v : Opnd} {y z : Operand} {t : TypeId} (ho : o.op = .store t y z) (hx : okO C x y = true) (hv : okO C v z = true) (hn : tsz C.P t = some n) (hn0 : 0 < n)
  (hev : evalTK call C.G s (.store n x v) = some (c, s')) : Qbu C e s' c a ((execOp a.eval o).run C.P w) := by
 simp only [evalTK] at hev
 split at hev
 rotate_left
 ·cases hev
 rename_i hcond
 obtain ⟨hlen, hone⟩ := hcond
 have hrep := Qc hG h hx
 split at hev
 rotate_left
 ·cases hev
 rename_i id sz i off hget
 obtain ⟨es, hes, hev⟩ := Qa.1 hev
 have hes := Qds hes
 have hA := ha es hes
 obtain ⟨xs, hxs, hev⟩ := Qa.1 hev
 obtain ⟨cs, hcs, hev⟩ := Qa.1 hev
 obtain ⟨cs', hov, hev⟩ := Qa.1 hev
 simp only [Zi, Zm] at hev
 obtain ⟨rfl, rfl⟩ := hev
 have hrv := (Qu (Qbs hone)).1 (Qc hG h hv)
 obtain ⟨c1, c2, c3⟩ := Qdt hrv hone
 rw [hget] at hrep
 obtain ⟨B, vs, ty, m, cap, kid, rfl, hp, hc0, hblk, hhd, hxc, g2, g3, j4, g5, j6, j7, j8⟩ := Qoz hA (show RepQ σ id sz i off _ from hrep) hxs hcs
 obtain ⟨l1, l2⟩ := Qjk hov
 rw [List.length_map] at l2
 have hil : i < xs.length := (List.getElem?_eq_some_iff.1 hcs).1
 have hrow := (Qn.1 g5) i cs hcs
 have hxs' : xs.length * sz ≤ vs.size := Nat.le_trans (Nat.mul_le_mul_right sz hxc) j4
 have hbig : i * sz + sz ≤ vs.size := by
  have : (i + 1) * sz ≤ xs.length * sz := Nat.mul_le_mul_right sz (by omega)
  rw [Nat.add_mul] at this; omega
 have hrun := Qgn (P := C.P) (t := t) (n := n) (B := B) (o := i * sz + off) (v := a.eval z) (w := w) hn (by omega) c3 (fun j hj => by
  have hlt : i * sz + off + j < vs.size := by omega
  exact ⟨by rw [Qag g2]; simp [hlt], Qfb g2 g3.1 hlt⟩)
 rw [← hp] at hrun
 obtain ⟨r1, r2, r3, r4⟩ := Qbi B (a.eval z).cells.toList (i * sz + off) w
 have hheap := Qbh B (a.eval z).cells.toList (i * sz + off) w vs ty m g2
 have hoth : ∀ B', B' ≠ B → (w.setCells B (i * sz + off) (a.eval z).cells.toList).heap[B']? = w.heap[B']? := fun B' hne' => Qr B B' hne' _ _ _
 have hbx : ∀ b, bm b ≠ some B := fun b hb => j8 (.inl ⟨b, hb⟩)
 have hd := h.drop v
 have hdb : (s.drop v).b 99 = some (.ar es) := by rw [(Qmb s v).1]; exact hes
 have hrel := hd.touch (τ := σ) (w' := w.setCells B (i * sz + off) (a.eval z).cells.toList) (B := B) j6 hbx (fun p sz hp hB => j8 (Qmp (x := v) (.inr ⟨p, sz, hp, hB⟩))) hoth r1 r2 r3 r4 (Mem.le_refl σ) (fun _ _ _ => rfl) (fun i v hv => by rw [j7 i] at hv; cases hv)
 have he := Qgl hxs
 have hnew : RepR C.fid σ sz (xs.set i cs') (fun j => (Qaa vs (i * sz + off) (a.eval z).cells.toList)[j]?) := by
  rw [Qn]
  intro j r hr
  rw [List.getElem?_set] at hr
  by_cases hij : i = j
  ·subst hij
   simp [hil] at hr
   subst hr
   refine ⟨by rw [l1]; exact hrow.1, ?_⟩
   rw [Qi]
   intro k c hk
   rw [Qjj hov k] at hk
   split at hk
   ·rename_i hin
    have hsh : RepL C.fid σ ((s.get C.G v).cells.map AV.share) (fun i => (a.eval z).cells[i]?) := Qba (fun _ _ hr => Qs hr) c2
    obtain ⟨x', k1, k2⟩ := (Qi.1 hsh) _ c hk
    refine ⟨x', ?_, k2⟩
    rw [List.length_map] at hin
    have := Qau (a.eval z).cells.toList vs (i * sz + off) (k - off) (by simp; omega) (by simp; omega)
    rw [show i * sz + off + (k - off) = i * sz + k by omega] at this
    rw [this]; simpa using k1
   ·rename_i hout
    obtain ⟨x', k1, k2⟩ := (Qi.1 hrow.2) k c hk
    refine ⟨x', ?_, k2⟩
    rw [List.length_map] at hout
    rw [Qw _ _ _ _ (by simp; omega)]; exact k1
  ·simp only [hij, if_false] at hr
   obtain ⟨k0, k1⟩ := (Qn.1 g5) j r hr
   refine ⟨k0, ?_⟩
   rw [Qi] at k1 ⊢
   intro k c hk
   obtain ⟨x', q1, q2⟩ := k1 k c hk
   refine ⟨x', ?_, q2⟩
   have hkl : k < sz := by rw [← k0]; exact (List.getElem?_eq_some_iff.1 hk).1
   rw [Qw]
   ·exact q1
   ·rcases Nat.lt_or_ge i j with h1 | h1
    ·right
     have : (i + 1) * sz ≤ j * sz := Nat.mul_le_mul_right sz (by omega)
     rw [Nat.add_mul] at this
     have hl3 := hrow.1
     simp; omega
    ·left
     have : (j + 1) * sz ≤ i * sz := Nat.mul_le_mul_right sz (by omega)
     rw [Nat.add_mul] at this
     omega
 have hones : Qrs (Qaa vs (i * sz + off) (a.eval z).cells.toList) ((xs.set i cs').length * sz) := by
  intro q v hq hv
  rw [List.length_set] at hq
  by_cases hin : i * sz + off ≤ q ∧ q < i * sz + off + (a.eval z).cells.toList.length
  ·have := Qau (a.eval z).cells.toList vs (i * sz + off) (q - (i * sz + off)) (by simp; omega) (by omega)
   rw [show i * sz + off + (q - (i * sz + off)) = q by omega] at this
   rw [this] at hv
   exact c3 v (List.mem_of_getElem? hv)
  ·rw [Qw _ _ _ _ (by omega)] at hv
   exact g3.2 q v hq hv
 have hkl : kid < es.length := (List.getElem?_eq_some_iff.1 he).1
 have hent : ∀ (id : Nat) y, (es.set kid (some (sz, xs.set i cs')))[id]? = some (some y) → (id = kid ∧ y = (sz, xs.set i cs')) ∨ (id ≠ kid ∧ es[id]? = some (some y)) := by
  intro id y hy
  rw [List.getElem?_set] at hy
  by_cases hid : kid = id
  ·subst hid
   simp [hkl] at hy
   exact .inl ⟨rfl, hy.symm⟩
  ·simp only [hid, if_false] at hy
   exact .inr ⟨fun e => hid e.symm, hy⟩
 have hblk' : ∀ id B', Qt σ (es.set kid (some (sz, xs.set i cs'))) id = some B' → Qt σ es id = some B' := by
  intro id B' hB'
  obtain ⟨sz', xs', q1, q2⟩ := Qaw hB'
  unfold Qt
  rcases hent id _ q1 with ⟨rfl, _⟩ | ⟨_, q3⟩
  ·rw [he]; exact q2
  ·rw [q3]; exact q2
 refine .inr ⟨_, by simp [execOp, ho, hrun], Qo.plain (hrel.setA hdb) (fun es' hes' => ?_) (hN.has hes) ⟨#[], rfl, rfl, by simp [RepL]⟩ rfl⟩
 have : es.set kid (some (sz, xs.set i cs')) = es' := by
  simp only [S.setA, S.setB, Qal, Zi, BC.ar.injEq, setO] at hes'
  exact hes'
 subst this
 have hpl : ∀ {B'}, Qz ((s.drop v).setA (setO es (some kid) (some (sz, xs.set i cs')))) bm a (w.setCells B (i * sz + off) (a.eval z).cells.toList) B' → Qz s bm a w B' := fun hp => Qmp (Qgj hbx hoth (Qci hp))
 refine ⟨fun id sz' ys hy => ?_, fun id id' B' q1 q2 => hA.inj id id' B' (hblk' _ _ q1) (hblk' _ _ q2), fun id hid => hA.fresh id (by simpa using hid)⟩
 rcases hent id _ hy with ⟨rfl, q⟩ | ⟨hid, q⟩
 ·injection q with q1 q2
  subst q1 q2
  exact ⟨_, cap, by rw [List.length_set]; exact hhd, .inr ⟨hc0, by simpa using hxc, B, _, ty, m, rfl, hheap, ⟨fun i hi => g3.1 i (by rwa [Qq] at hi), hones⟩, by rw [Qq]; exact j4, hnew, j6, j7, fun hp => j8 (hpl hp)⟩⟩
 ·obtain ⟨x', cap', k1, k2⟩ := hA.ent id sz' ys q
  refine ⟨x', cap', k1, k2.imp (fun h => h) ?_⟩
  rintro ⟨k3, k4, B', vs', t', m', rfl, i2, i3, i4, i5, i6, i7, i8⟩
  have hB' : Qt σ es id = some B' := by
   unfold Qt
   rw [q]
   simp only [k1, Qcv]
   rw [if_neg (by omega)]
  have hne : B' ≠ B := fun hh => hid (hA.inj id kid B' hB' (by rw [hh]; exact hblk))
  exact ⟨k3, k4, B', vs', t', m', rfl, (hoth B' hne).trans i2, i3, i4, i5, i6, i7, fun hp => i8 (hpl hp)⟩
end
end Go.Vs
namespace Go.Vs
open Go Go.RowKit
def okTK (C : Ctx) : TK → Op → Bool
 | .mk sz z n c, .makeSlice t n' c' =>
  match isSl C.P t with
  | some el => match C.P.info? el with
   | some i => i.size == sz && decide (0 < sz) && decide (i.bytes ≤ 32768) && Qde C.P z el && okO C n n' && okO C c c'
   | none => false
  | none => false
 | .nil sz, .buildSlice t len qs =>
  match isSl C.P t with
  | some el => match C.P.info? el with
   | some i => i.zero.isSome && i.size == sz && decide (0 < sz) && len == 0 && (qs.toList.map (·.1)) == List.range len
   | none => false
  | none => false
 | .lit sz ps, .buildSlice t len qs =>
  match isSl C.P t with
  | some el => match C.P.info? el with
   | some i => i.zero.isSome && i.size == sz && decide (0 < sz) && len == ps.length && decide (len * sz ≤ 2 ^ 24) && (qs.toList.map (·.1)) == List.range len && okOs C ps (qs.toList.map (·.2))
   | none => false
  | none => false
 | .app sz x y, .call cl => (match cl.callee with | .builtin b => decide (b = .append) | _ => false) && (match cl.args, cl.argTypes with
  | ⟨[x', y']⟩, ⟨[t, u]⟩ => okO C x x' && okO C y y' && (isSl C.P u).isSome && (match isSl C.P t with
   | some el => match C.P.info? el with
    | some i => (match i.zero with | some z => z.cells.size == sz | none => false) && i.size == sz && decide (0 < sz) && decide (i.bytes ≤ 32768)
    | none => false
   | none => false)
  | _, _ => false)
 | .cut sz x hi, .slice t y none (some hi') none => okO C x y && okO C hi hi' && (match isSl C.P t with | some el => tsz C.P el == some sz | none => false)
 | .len x, .call cl => (match cl.callee with | .builtin b => decide (b = .len) | _ => false) && (match cl.args, cl.argTypes with | ⟨[y]⟩, ⟨[t]⟩ => okO C x y && (isSl C.P t).isSome | _, _ => false)
 | .iadr sz x i, .indexAddr t y j => okO C x y && okO C i j && (match isSl C.P t with | some el => tsz C.P el == some sz | none => false)
 | .fadr off x, .fieldAddr t y f => okO C x y && Qeh C.P t f off none none
 | .nilck x, .nilCheck y => okO C x y
 | .load n agg x, .load t y => okO C x y && tsz C.P t == some n && rowT C.P t == some agg
 | .store n x v, .store t y z => okO C x y && okO C v z && tsz C.P t == some n && decide (0 < n)
 | .bld _ z ps, .build t qs => Qde C.P z t && (match Qei C.P t with | some pl => Qcg C pl ps qs.toList | none => false)
 | _, _ => false
section
variable {C : Ctx} {e : Env} {σ τ : Mem} {bm : Nat → Option Nat} {s s' : S} {a : Act} {w w' : World} {call : Call} {o : Oper} {c : AV} {G : Nat → List AV}
theorem Qtr {k : TK} {op : Op} (hG : GOk C σ) (h : RelX C.fid { e with hd := σ.hd } σ bm s a w) (ha : ArS C.fid e σ bm s a w) (hN : NoAr e σ s) (ho : o.op = op) (hk : okTK C k op = true) (hev : evalTK call C.G s k = some (c, s')) : Qbu C e s' c a ((execOp a.eval o).run C.P w) := by
 unfold okTK at hk
 split at hk
 case h_1 =>
  split at hk
  ·rename_i el hel
   split at hk
   ·rename_i i hi
    simp only [Zw, beq_iff_eq, Ze] at hk
    obtain ⟨⟨⟨⟨⟨k1, k2⟩, k3⟩, k4⟩, k5⟩, k6⟩ := hk
    exact op_tmk hG h ha hN ho k5 k6 (Qy hel) hi k1 k2 k3 k4 hev
   ·cases hk
  ·cases hk
 case h_2 =>
  split at hk
  ·rename_i el hel
   split at hk
   ·rename_i i hi
    simp only [Zw, beq_iff_eq, Ze] at hk
    obtain ⟨⟨⟨⟨k1, k2⟩, k3⟩, k4⟩, k5⟩ := hk
    obtain ⟨z, hz⟩ := Option.isSome_iff_exists.1 k1
    exact Qyr hG h ha hN ho (Qy hel) hi hz k2 k3 k4 k5 hev
   ·cases hk
  ·cases hk
 case h_3 =>
  split at hk
  ·rename_i el hel
   split at hk
   ·rename_i i hi
    simp only [Zw, beq_iff_eq, Ze] at hk
    obtain ⟨⟨⟨⟨⟨⟨k1, k2⟩, k3⟩, k4⟩, k5⟩, k6⟩, k7⟩ := hk
    obtain ⟨z, hz⟩ := Option.isSome_iff_exists.1 k1
    exact op_tlit hG h ha hN ho (Qy hel) hi hz k2 k3 k4 k5 k6 k7 hev
   ·cases hk
  ·cases hk
 case h_4 =>
  simp only [Zw] at hk
  obtain ⟨k1, k2⟩ := hk
  split at k2
  rotate_left
  ·cases k2
  rename_i x' y' t u hargs hts
  simp only [Zw] at k2
  obtain ⟨⟨⟨k3, k4⟩, k5⟩, k6⟩ := k2
  obtain ⟨ul, hul⟩ := Option.isSome_iff_exists.1 k5
  split at k6
  rotate_left
  ·cases k6
  rename_i el hel
  split at k6
  rotate_left
  ·cases k6
  rename_i i hi
  simp only [Zw, beq_iff_eq, Ze] at k6
  obtain ⟨⟨⟨k7, k8⟩, k9⟩, k10⟩ := k6
  split at k7
  rotate_left
  ·cases k7
  rename_i z hz
  simp only [beq_iff_eq] at k7
  exact op_tapp hG h ha hN ho (Qcd k1) (by rw [hargs]) (by rw [hts]) k3 k4 (Qy hel) (Qy hul) hi hz k8 k7 k9 k10 hev
 case h_5 =>
  simp only [Zw] at hk
  obtain ⟨⟨k1, k2⟩, k3⟩ := hk
  split at k3
  ·rename_i el hel; exact op_tcut hG h ha hN ho k1 k2 (Qy hel) (by simpa using k3) hev
  ·cases k3
 case h_6 =>
  simp only [Zw] at hk
  obtain ⟨k1, k2⟩ := hk
  split at k2
  rotate_left
  ·cases k2
  rename_i y t hargs hts
  simp only [Zw] at k2
  obtain ⟨el, hel⟩ := Option.isSome_iff_exists.1 k2.2
  exact op_tlen hG h ha hN ho (Qcd k1) (by rw [hargs]) (by rw [hts]) k2.1 (Qy hel) hev
 case h_7 =>
  simp only [Zw] at hk
  obtain ⟨⟨k1, k2⟩, k3⟩ := hk
  split at k3
  ·rename_i el hel; exact Qyp hG h ha hN ho k1 k2 (Qy hel) (by simpa using k3) hev
  ·cases k3
 case h_8 => simp only [Zw] at hk; exact Qyo hG h ha hN ho hk.1 hk.2 hev
 case h_9 => exact op_tnil hG h ha hN ho hk hev
 case h_10 => simp only [Zw, beq_iff_eq] at hk; exact Qyq hG h ha hN ho hk.1.1 hk.1.2 hk.2 hev
 case h_11 => simp only [Zw, beq_iff_eq, Ze] at hk; exact Qwf hG h ha hN ho hk.1.1.1 hk.1.1.2 hk.1.2 hk.2 hev
 case h_12 =>
  simp only [Zw] at hk
  obtain ⟨k1, k2⟩ := hk
  split at k2
  ·rename_i pl hpl; exact op_tbld hG h ha hN ho k1 hpl k2 hev
  ·cases k2
 case h_13 => cases hk
def Qav (s s' : S) : Prop := ∀ es, s'.b 99 = some (.ar es) → s.b 99 = some (.ar es)
theorem Qav.refl (s : S) : Qav s s := fun _ h => h
theorem Qav.of_b (h : s'.b = s.b) : Qav s s' := fun es he => by rw [h] at he; exact he
theorem Qav.drop (x : Opnd) : Qav s (s.drop x) := .of_b (Qmb s x).1
theorem Qav.newB {b : Nat} {x : BC} (h : s.newB b x = some s') : Qav s s' := by
 unfold S.newB at h
 split at h
 ·cases h
 ·rename_i hn
  injection h with h
  subst h
  intro es he
  have : (99 : Nat) ≠ b := by omega
  simpa [Qae, this] using he
theorem Qav.setB {b : Nat} {x : BC} (h : x.isAr = false) : Qav s (s.setB b x) := by
 intro es he
 simp only [S.setB, Qae] at he
 split at he
 ·injection he with he; subst he; cases h
 ·exact he
theorem Qav.trans {s1 s2 : S} (h : Qav s s1) (k : Qav s1 s2) : Qav s s2 := fun es he => h es (k es he)
theorem Qav.capture : ∀ {vs out : List AV} {s s' : S}, capture s vs = some (out, s') → Qav s s'
 | [], out, s, s', h => by
  simp only [Go.Vs.capture, Zi, Zm] at h
  rw [h.2]; exact .refl _
 | c :: vs, out, s, s', h => by
  have plain : ∀ d : AV, (bnd (Go.Vs.capture s vs) fun (x : List AV × S) => some (d :: x.1, x.2)) = some (out, s') → Qav s s' := by
   intro d hb
   obtain ⟨⟨o1, s1⟩, h1, h2⟩ := Qa.1 hb
   simp only [Zi, Zm] at h2
   rw [← h2.2]
   exact Qav.capture h1
  cases c with
  | bp b off =>
   simp only [Go.Vs.capture] at h
   split at h
   rotate_left
   ·cases h
   split at h
   rotate_left
   ·cases h
   rename_i cs hb
   obtain ⟨⟨o1, s1⟩, h1, h2⟩ := Qa.1 h
   simp only [Zi, Zm] at h2
   rw [← h2.2]
   intro es he
   have := Qav.capture h1 es he
   simp only [Qae] at this
   split at this
   ·cases this
   ·exact this
  | undef | int | bool | str | con | sl | agg | rp | fn | tup | tr | trp =>
   simp only [Go.Vs.capture, AV.isP, Bool.false_eq_true, if_false] at h
   exact plain _ h
  | bs | be | np => simp [Go.Vs.capture, AV.isP] at h
theorem Qav.loadP {n : Nat} {agg take : Bool} {p v : AV} (h : loadP n agg take s p = some (v, s')) : Qav s s' := by
 cases p <;> simp only [Go.Vs.loadP] at h <;> first | (cases h; done) | skip
 case bp b off =>
  split at h
  ·cases take with
   | true =>
    simp only [if_true] at h
    split at h
    ·cases h
    ·split at h
     ·obtain ⟨c, _, h⟩ := Qa.1 h
      split at h
      ·cases h
      ·simp only [Zi, Zm] at h
       obtain ⟨_, rfl⟩ := h
       exact .setB rfl
     ·cases h
   | false =>
    simp only [Bool.false_eq_true, if_false] at h
    obtain ⟨c, _, h⟩ := Qa.1 h
    simp only [Zi, Zm] at h
    obtain ⟨_, rfl⟩ := h
    exact .refl _
  ·cases h
 case be b i off =>
  split at h
  ·obtain ⟨c, _, h⟩ := Qa.1 h
   split at h
   ·cases h
   ·obtain ⟨d, _, h⟩ := Qa.1 h
    simp only [Zi, Zm] at h
    obtain ⟨_, rfl⟩ := h
    exact .refl _
  ·cases h
 case rp cs off =>
  split at h
  ·cases h
  ·obtain ⟨d, _, h⟩ := Qa.1 h
   simp only [Zi, Zm] at h
   obtain ⟨_, rfl⟩ := h
   exact .refl _
theorem Qav.storeP {n : Nat} {p v : AV} (h : storeP n s p v = some s') : Qav s s' := by
 simp only [Go.Vs.storeP] at h
 split at h
 rotate_left
 ·cases h
 cases p <;> simp only [] at h <;> first | (cases h; done) | skip
 case bp b off =>
  split at h
  ·obtain ⟨c, _, h⟩ := Qa.1 h
   injection h with h; subst h; exact .setB rfl
  ·cases h
 case be b i off =>
  split at h
  ·obtain ⟨c, _, h⟩ := Qa.1 h
   obtain ⟨d, _, h⟩ := Qa.1 h
   injection h with h; subst h; exact .setB rfl
  ·cases h
theorem Qav.convK {c : CK} {x v : AV} (h : convK s c x = some (v, s')) : Qav s s' := by
 unfold Go.Vs.convK at h
 split at h
 ·simp only [Zi, Zm] at h; rw [← h.2]; exact .refl _
 ·simp only [Zi, Zm] at h; rw [← h.2]; exact .refl _
 ·obtain ⟨l, _, h⟩ := Qa.1 h
  simp only [Zi, Zm] at h; rw [← h.2]; exact .refl _
 ·split at h
  ·obtain ⟨l, _, h⟩ := Qa.1 h
   simp only [Zi, Zm] at h; rw [← h.2]; exact .refl _
  ·cases h
 ·obtain ⟨s1, h1, h⟩ := Qa.1 h
  simp only [Zi, Zm] at h
  obtain ⟨_, rfl⟩ := h
  exact .newB h1
 ·split at h
  ·simp only [Zi, Zm] at h; rw [← h.2]; exact .refl _
  ·cases h
 ·cases h
def K.calls : K → Bool
 | .call _ _ _ | .callv _ _ | .tr _ => true
 | _ => false
theorem Qxq {k : K} {v : AV} (hk : k.calls = false) (h : evalK call G s k = some (v, s')) : Qav s s' := by
 have here : ∀ {x : AV} {s1 : S}, Qav s s1 → some (x, s1) = some (v, s') → Qav s s' := by
  intro x s1 hk hh
  simp only [Zi, Zm] at hh
  rw [← hh.2]; exact hk
 have pure : ∀ {α : Type} {x : Option α} {f : α → AV}, (bnd x fun a => some (f a, s)) = some (v, s') → Qav s s' := by
  intro α x f hh
  obtain ⟨a, _, hh⟩ := Qa.1 hh
  exact here (.refl _) hh
 cases k <;> simp only [evalK] at h
 case tr k => cases hk
 case mv x => exact here (.drop x) h
 case pick c x y =>
  split at h
  rotate_left
  ·cases h
  split at h
  ·exact here (.drop x) h
  ·exact here (.drop y) h
 case alloc b z =>
  obtain ⟨s1, h1, h2⟩ := Qa.1 h
  exact here (.newB h1) h2
 case box b x =>
  split at h
  ·obtain ⟨s1, h1, h2⟩ := Qa.1 h
   exact here (.newB h1) h2
  ·cases h
 case build z ps => exact pure h
 case buildS m' sz ps =>
  split at h
  ·exact here (.refl _) h
  ·cases h
 case load n agg take x => exact .loadP h
 case store n x y =>
  obtain ⟨s1, h1, h2⟩ := Qa.1 h
  exact here ((Qav.drop y).trans (.storeP h1)) h2
 case nilck x =>
  split at h
  ·split at h
   ·exact here (.refl _) h
   ·cases h
  ·split at h
   ·exact here (.refl _) h
   ·cases h
  ·exact here (.refl _) h
  ·exact here (.refl _) h
  ·cases h
 case bin op x y => exact pure h
 case eqb neq x y =>
  split at h
  ·exact here (.refl _) h
  ·cases h
 case eqs neq n x y =>
  split at h
  ·split at h
   ·exact pure h
   ·cases h
  ·cases h
 case un op x => exact pure h
 case conv c x => exact .convK h
 case mkfn g caps =>
  obtain ⟨⟨o1, s1⟩, h1, h2⟩ := Qa.1 h
  exact here (.capture h1) h2
 case mksl b sz z n c =>
  split at h
  ·split at h
   ·obtain ⟨s1, h1, h2⟩ := Qa.1 h
    exact here (.newB h1) h2
   ·cases h
  ·cases h
 case mkz sz z n c =>
  split at h
  ·split at h
   ·exact here (.refl _) h
   ·cases h
  ·cases h
 case slc sz x lo hi mx =>
  split at h
  ·cases h
  ·obtain ⟨a1, _, h⟩ := Qa.1 h
   obtain ⟨a2, _, h⟩ := Qa.1 h
   obtain ⟨a3, _, h⟩ := Qa.1 h
   exact pure h
 case slcS x lo hi =>
  obtain ⟨a1, _, h⟩ := Qa.1 h
  obtain ⟨a2, _, h⟩ := Qa.1 h
  exact pure h
 case fadr off x =>
  split at h
  ·split at h
   ·exact here (.refl _) h
   ·cases h
  ·split at h
   ·exact here (.refl _) h
   ·cases h
  ·exact here (.refl _) h
  ·cases h
 case fld off n agg x =>
  split at h
  ·exact pure h
  ·cases h
 case iadr sz x i =>
  split at h
  ·split at h
   ·obtain ⟨a1, _, h⟩ := Qa.1 h
    exact pure h
   ·cases h
  ·split at h
   ·split at h
    ·obtain ⟨a1, _, h⟩ := Qa.1 h
     split at h
     ·exact here (.refl _) h
     ·cases h
    ·cases h
   ·cases h
  ·cases h
 case iadrA sz len x i =>
  split at h
  ·split at h
   ·obtain ⟨a1, _, h⟩ := Qa.1 h
    split at h
    ·exact here (.refl _) h
    ·cases h
   ·cases h
  ·obtain ⟨a1, _, h⟩ := Qa.1 h
   split at h
   ·exact here (.refl _) h
   ·cases h
  ·cases h
 case idxS x i =>
  split at h
  ·obtain ⟨a1, _, h⟩ := Qa.1 h
   exact pure h
  ·cases h
 case idxA sz len n agg x i =>
  split at h
  ·obtain ⟨a1, _, h⟩ := Qa.1 h
   split at h
   ·exact pure h
   ·cases h
  ·cases h
 case len x =>
  split at h
  ·exact here (.refl _) h
  ·split at h
   ·exact here (.refl _) h
   ·cases h
  ·cases h
 case lenS x =>
  split at h
  ·exact here (.refl _) h
  ·cases h
 case app sz x y =>
  split at h
  ·split at h
   ·exact here (.drop x) h
   ·cases h
  ·cases h
 case ext i x =>
  split at h
  ·obtain ⟨a1, _, h⟩ := Qa.1 h
   split at h
   ·cases h
   ·exact here (.refl _) h
  ·cases h
 case call g site args => cases hk
 case callv f args => cases hk
 case mx args =>
  obtain ⟨l, _, h⟩ := Qa.1 h
  split at h
  ·cases h
  ·exact here (.refl _) h
 case mn args =>
  obtain ⟨l, _, h⟩ := Qa.1 h
  split at h
  ·cases h
  ·exact here (.refl _) h
end
end Go.Vs
namespace Go.Vs
open Go Go.RowKit
def Qeq (tv : List AV) (pb : List BC) (oa : Option (List Ent)) : S :=
 match oa with
 | none => Ql tv pb
 | some es => { Ql tv pb with b := upd (Ql tv pb).b 99 (some (.ar es)), seen := upd (Ql tv pb).seen 99 true }
def bvOf (pb : List BC) (oa : Option (List Ent)) : List BC := match oa with | none => pb | some es => pb ++ [.ar es]
structure EntryY (C : Ctx) (e : Env) (tv : List AV) (pb : List BC) (oa : Option (List Ent)) (args : Array Value) (w : World) : Prop where
 rel : RelX C.fid { e with n := args.size } e.σ0 e.pbm (Qeq tv pb oa) ⟨args, []⟩ w
 ar : ArS C.fid e e.σ0 e.pbm (Qeq tv pb oa) ⟨args, []⟩ w
 arn : e.arn = oa.isSome
 few : oa.isSome = true → pb.length ≤ 99
 w0 : e.w0 = w
 len : tv.length = args.size
 g : GOk C e.σ0
 fix : Qea C e
def Qeu (C : Ctx) (e : Env) (outs : List AV) (bv' : List BC) (nb : Nat) (ar : Bool) (v : Value) (w' : World) : Prop :=
 if ar then ∃ n s' a' pb es c, bv' = pb ++ [.ar es] ∧ pb.length = nb ∧ (∀ x ∈ pb, x.isAr = false) ∧ (∀ (j : Nat) x, pb[j]? = some x → s'.b j = some x) ∧ s'.b 99 = some (.ar es) ∧ outs = [c] ∧ c.isP = false ∧ Qo C { e with n := n } s' c v a' w'
 else Qom C e outs bv' nb v w' ∧ ∀ x ∈ bv', x.isAr = false
def Qdj (C : Ctx) (call : Call) : Prop := ∀ g tv pb oa o outs bv', g % 100 = 0 → (∀ x ∈ pb, x.isAr = false) → call g tv (bvOf pb oa) = some (o, outs, bv') →
 Known C g ∧ ∀ e args w, EntryY C e tv pb oa args w → Calls C.P (C.fid g) args w fun | .returned v, w' => Qeu C e outs bv' pb.length oa.isSome v w' | _, _ => False
section
variable {C : Ctx} {e : Env} {σ σ' τ : Mem} {bm bm' : Nat → Option Nat} {s s1 s2 sc : S} {a ac : Act} {w w' : World} {call : Call} {cs : List AV} {vs : List Value} {tv : List AV} {bv bv' pb : List BC} {ls : List Nat} {n : Nat} {es es1 : List Ent} {fid : Nat → Nat} {c : AV}
theorem RelX.arn (h : RelX fid e σ bm s a w) (b : Bool) : RelX fid { e with arn := b } σ bm s a w := { h with hds := h.hds }
theorem RelX.addA (h : RelX fid e σ bm s a w) (hn : s.b 99 = none) : RelX fid e σ bm { s with b := upd s.b 99 (some (.ar es)), seen := upd s.seen 99 true } a w := by
 have hd := h.dead 99 hn
 have hb : ∀ b, b ≠ 99 → upd s.b 99 (some (BC.ar es)) b = s.b b := fun b hb => by simp [upd, hb]
 have ht : ∀ p sz, Qd { s with b := upd s.b 99 (some (.ar es)), seen := upd s.seen 99 true } p = some sz → Qd s p = some sz := by
  intro p sz hp
  cases p with
  | t t => exact hp
  | c b i =>
   by_cases hb9 : b = 99
   ·subst hb9; simp [Qd, upd] at hp
   ·simp only [Qd, hb b hb9] at hp; exact hp
 exact { h with
  tmps := fun t => by
   have := h.tmps t
   revert this
   show RepT fid σ bm s.b (s.t t) _ → RepT fid σ bm (upd s.b 99 (some (BC.ar es))) (s.t t) _
   cases s.t t <;> intro hh <;> first | exact hh | skip
   ·rename_i b
    intro B hB
    have hne : b ≠ 99 := fun e => by rw [e, hd] at hB; cases hB
    rw [hb _ hne]; exact hh B hB
   ·rename_i b i off
    intro B hB
    have hne : b ≠ 99 := fun e => by rw [e, hd] at hB; cases hB
    rw [hb _ hne]; exact hh B hB
  boxes := fun b c hc har => by
   by_cases hb9 : b = 99
   ·subst hb9; simp [upd] at hc; subst hc; cases har
   ·simp only [hb b hb9] at hc; exact h.boxes b c hc har
  dead := fun b hc => by
   by_cases hb9 : b = 99
   ·subst hb9; exact hd
   ·simp only [hb b hb9] at hc; exact h.dead b hc
  ar := fun b es' hc => by
   by_cases hb9 : b = 99
   ·subst hb9; exact ⟨rfl, hd⟩
   ·simp only [hb b hb9] at hc; exact h.ar b es' hc
  seenB := fun b hc => by
   by_cases hb9 : b = 99
   ·subst hb9; simp [upd]
   ·simp only [hb b hb9] at hc; simp only [upd, hb9, if_false]; exact h.seenB b hc
  seenT := fun t b hr => by
   by_cases hb9 : b = 99
   ·subst hb9; simp [upd]
   ·simp only [upd, hb9, if_false]; exact h.seenT t b hr
  tip := fun p sz hp => h.tip p sz (ht p sz hp)
  dist := fun p q sz sz' B hp hq => h.dist p q sz sz' B (ht p sz hp) (ht q sz' hq) }
theorem Qts {B : Nat} (h : Qz { s with b := upd s.b 99 (some (.ar es)), seen := upd s.seen 99 true } bm a w B) : Qz s bm a w B := by
 rcases h with h | ⟨p, sz, h1, h2⟩
 ·exact .inl h
 ·refine .inr ⟨p, sz, ?_, h2⟩
  cases p with
  | t t => exact h1
  | c b i =>
   by_cases hb9 : b = 99
   ·subst hb9; simp [Qd, upd] at h1
   ·simpa [Qd, upd, hb9] using h1
theorem Qmw {es : List Ent} : ∀ {pb : List BC}, (∀ x ∈ pb, x.isAr = false) → Qhn (pb ++ [.ar es]) = some (pb, es)
 | [], _ => rfl
 | c :: pb, h => by
  have hc := h c (by simp)
  have ih : Qhn (pb ++ [.ar es]) = some (pb, es) := Qmw (pb := pb) (fun x hx => h x (by simp [hx]))
  cases pb with
  | nil => cases c <;> first | (cases hc; done) | rfl
  | cons d pb => 
   have : Qhn (c :: (d :: pb ++ [.ar es])) = bnd (Qhn (d :: pb ++ [.ar es])) fun q => some (c :: q.1, q.2) := by
    cases c <;> rfl
   rw [List.cons_append, this, ih]; rfl
theorem Qnw {tv : List AV} (h : lend s cs 0 = some (tv, bv, ls)) : ∀ x ∈ bv, x.isAr = false := by
 obtain ⟨l1, l2, l3, l4, l5⟩ := Qcp h
 intro x hx
 obtain ⟨k, hk⟩ := List.getElem?_of_mem hx
 have hlt : k < ls.length := by rw [l2]; exact (List.getElem?_eq_some_iff.1 hk).1
 obtain ⟨_, cs', _, h2⟩ := l3 k _ (List.getElem?_eq_getElem hlt)
 rw [hk] at h2
 injection h2 with h2
 rw [h2]; rfl
theorem Qsm {tv : List AV} (h : lend s cs 0 = some (tv, bv, ls)) : bv.length ≤ 99 := by
 obtain ⟨l1, l2, l3, l4, l5⟩ := Qcp h
 rcases Nat.lt_or_ge 99 bv.length with hlt | hge
 ·exfalso
  have : 99 < ls.length := by omega
  have := (l3 99 _ (List.getElem?_eq_getElem this)).1
  omega
 ·exact hge
theorem Qmc {tv : List AV} (hn : ∀ x ∈ pb, x.isAr = false) : (Ql tv pb).b 99 ≠ some (.ar es) := by
 intro h
 have h : pb[99]? = some (.ar es) := h
 have := hn _ (List.mem_of_getElem? h)
 cases this
theorem Entry.toY {args : Array Value} (h : Entry C e tv pb args w) (hn : ∀ x ∈ pb, x.isAr = false) (harn : e.arn = false) : EntryY C e tv pb none args w :=
 { rel := h.rel, ar := fun es hes => absurd hes (Qmc hn), arn := harn, few := fun h => (by cases h), w0 := h.w0, len := h.len, g := h.g, fix := h.fix }
theorem Qkb (hc : Qdj C call) (hG : GOk C σ) (hF : Qea C e) (h : RelX C.fid { e with hd := σ.hd } σ bm s a w) (hN : NoAr e σ s) (hes : s.b 99 = some (.ar es)) (hA : ArOk C.fid e σ bm s a w es1) (ha : ArgsOk C { e with hd := σ.hd } σ bm s a w cs vs)
  (hT : ∀ (i : Nat) c v sz B, cs[i]? = some c → vs[i]? = some v → c.tipSz = some sz → Qf v = some B → ∀ id, Qt σ es1 id ≠ some B) {g : Nat} (hg0 : g % 100 = 0) (hev : callA call s g cs es1 = some (c, s2)) :
  Known C g ∧ Calls C.P (C.fid g) vs.toArray w fun | .returned v, w' => Qo C e s2 c v a w' | _, _ => False := by
 simp only [callA] at hev
 obtain ⟨⟨tv, bv, ls⟩, hl, hev⟩ := Qa.1 hev
 obtain ⟨⟨oc, outs, bv'⟩, hcall, hev⟩ := Qa.1 hev
 obtain ⟨⟨bv1, es'⟩, hsp, hev⟩ := Qa.1 hev
 obtain ⟨s1, hgb, hev⟩ := Qa.1 hev
 obtain ⟨l1, l2, l3, l4, l5⟩ := Qcp hl
 obtain ⟨hk, hcalls⟩ := hc g tv bv (some es1) oc outs bv' hg0 (Qnw hl) hcall
 refine ⟨hk, ?_⟩
 have hP : ∀ B, (∃ id, Qt σ es1 id = some B) → ({ e with hd := σ.hd } : Env).own B ∧ B < w.heap.size ∧ ¬ Qz s bm a w B := by
  rintro B ⟨id, hB⟩
  obtain ⟨q1, q2, q3, _⟩ := hA.blk hB
  exact ⟨q2, q1, q3⟩
 have hen := Qjf (P := fun B => ∃ id, Qt σ es1 id = some B) hG (show Qea C { e with hd := σ.hd } from hF) h ha hl hP
 have h99 : (Ql tv bv).b 99 = none := List.getElem?_eq_none (Qsm hl)
 have hen2 : EntryY C { Qm σ bm s a w cs vs ls (fun B => ∃ id, Qt σ es1 id = some B) with arn := true } tv bv (some es1) vs.toArray w := by
  refine { rel := (hen.rel.arn true).addA h99, ar := fun es0 hes0 => ?_, arn := rfl, few := fun _ => Qsm hl, w0 := hen.w0, len := hen.len, g := hen.g, fix := hen.fix }
  have : es1 = es0 := by
   simp only [Qeq, Qal, Zi, BC.ar.injEq] at hes0
   exact hes0
  subst this
  refine hA.step (fun id B hB => ⟨rfl, rfl, .inr (.inr (.inr (.inr ⟨id, hB⟩)))⟩) (Mem.le_refl _) rfl (fun id B hB hp => ?_)
  have hp := Qts hp
  rcases hp with ⟨b, hb⟩ | ⟨p, sz, h1, h2⟩
  ·simp only [Qm] at hb
   cases hbl : ls[b]? with
   | none => rw [hbl] at hb; cases hb
   | some b' => rw [hbl] at hb; exact .inl ⟨b', hb⟩
  ·cases p with
   | t t =>
    exfalso
    simp only [Qd, Ql] at h1
    by_cases ht : t < tv.length
    ·rcases l5 t _ (List.getElem?_eq_getElem (show t < cs.length by omega)) with ⟨k1, k2⟩ | ⟨b, k, k1, k2, k3⟩
     ·rw [List.getD_eq_getElem?_getD, k2] at h1
      have hlt : t < vs.length := by rw [← ha.len]; omega
      have hv : Qg ⟨vs.toArray, []⟩ w (Qm σ bm s a w cs vs ls (fun B => ∃ id, Qt σ es1 id = some B)).pbm (.t t) = vs[t] := by
       simp [Qg, Array.getD_eq_getD_getElem?, hlt]
      exact hT t _ _ sz B (List.getElem?_eq_getElem (show t < cs.length by omega)) (List.getElem?_eq_getElem hlt) h1 (hv ▸ h2) id hB
     ·rw [List.getD_eq_getElem?_getD, k2] at h1; cases h1
    ·rw [List.getD_eq_getElem?_getD, List.getElem?_eq_none (by omega)] at h1; cases h1
   | c k i =>
    simp only [Qd, Ql] at h1
    split at h1
    rotate_left
    ·cases h1
    rename_i cs' hk
    have hlt : k < ls.length := by rw [l2]; exact (List.getElem?_eq_some_iff.1 hk).1
    obtain ⟨_, cs2, q1, q2⟩ := l3 k _ (List.getElem?_eq_getElem hlt)
    rw [hk] at q2
    injection q2 with q2
    injection q2 with q2
    subst q2
    refine .inr ⟨.c ls[k] i, sz, by simp only [Qd, q1]; exact h1, ?_⟩
    have : Qg ⟨vs.toArray, []⟩ w (Qm σ bm s a w cs vs ls (fun B => ∃ id, Qt σ es1 id = some B)).pbm (.c k i) = Qg a w bm (.c ls[k] i) := by
     simp [Qg, Qm, hlt]
    rw [← this]; exact h2
 refine (hcalls _ _ w hen2).mono ?_
 intro ed w'
 cases ed with
 | panicked _ => exact id
 | outgrown => exact id
 | returned v =>
  intro hex
  simp only [Qeu, Option.isSome_some, if_true] at hex
  obtain ⟨n, sc, ac, pb, es'', c0, rfl, hpl, hpn, hpb, h99c, rfl, hp, σ', bm', hx, har, _, hrep, href, htip⟩ := hex
  rw [Qmw hpn] at hsp
  simp only [Zi, Zm] at hsp
  obtain ⟨rfl, rfl⟩ := hsp
  show Qo C e s2 c v a w'
  have hx' : RelX C.fid { Qm σ bm s a w cs vs ls (fun B => ∃ id, Qt σ es1 id = some B) with n := n, hd := σ'.hd } σ' bm' sc ac w' := hx.arn false
  have hback := Qqq h ha hl hx' hpb hpl hgb hpn hP
  have hcs : some (c0, s1.setA es'') = some (c, s2) := by
   cases c0 <;> first | (simp [AV.isP] at hp; done) | simpa [AV.isP] using hev
  simp only [Zi, Zm] at hcs
  obtain ⟨rfl, rfl⟩ := hcs
  have hA' := har es'' h99c
  obtain ⟨g1, g2, g3, g4, g5⟩ := Qcu hgb l4
  have h1es : s1.b 99 = some (.ar es) := by
   rw [g4 99 (fun k hk => ?_)]
   ·exact hes
   ·obtain ⟨_, cs', q1, _⟩ := l3 k 99 hk
    rw [hes] at q1; cases q1
  have hrel : RelX C.fid { e with hd := σ'.hd } σ' bm s1 a w' := hback.rel
  refine ⟨σ', bm, hrel.setA h1es, fun es0 hes0 => ?_, hN.has hes, (Qu hp).2 ((Qu hp).1 hrep), (fun b hb' => by rw [Qcw hp] at hb'; cases hb'), fun sz hs => ?_⟩
  ·have : es'' = es0 := by
    simp only [S.setA, S.setB, Qal, Zi, BC.ar.injEq] at hes0
    exact hes0
   subst this
   refine hA'.step (fun id B hB => ⟨rfl, rfl, hback.own B (hA'.blk hB).2.1⟩) (Mem.le_refl _) rfl (fun id B hB hpp => ?_)
   have hown := (hA'.blk hB).2.1
   rcases Qci hpp with ⟨b, hb⟩ | ⟨p, sz, q1, q2⟩
   ·obtain ⟨k, r1, r2⟩ := hback.box b B hb hown
    exact .inl ⟨k, r1⟩
   ·obtain ⟨q, r1, r2⟩ := hback.tip p sz B q1 q2 hown
    exact .inr ⟨q, sz, r1, r2⟩
  ·obtain ⟨t1, t2, t3⟩ := htip sz hs
   refine ⟨?_, fun p sz' B hp' hB hB' => ?_, fun es0 id B hes0 hB => ?_⟩
   ·obtain ⟨A, m, cap, rfl, e2⟩ := t1
    refine ⟨A, m, cap, rfl, e2.imp (fun h => h) ?_⟩
    rintro ⟨B, o, arr, t, mk, k1, k2, k3, k4, k5, k6, k7⟩
    refine ⟨B, o, arr, t, mk, k1, k2, k3, k4, k5, hback.own B k6, fun b hb' => ?_⟩
    obtain ⟨k, r1, _⟩ := hback.box b B hb' k6
    exact k7 k r1
   ·have hp'' : Qd s1 p = some sz' := by
     cases p with
     | t t => exact hp'
     | c b i =>
      simp only [Qd, S.setA, S.setB, Qae] at hp' ⊢
      by_cases hb9 : b = 99
      ·subst hb9; simp at hp'
      ·simpa [hb9] using hp'
    obtain ⟨q, r1, r2⟩ := hback.tip p sz' B hp'' hB' (Qhr t1 hB)
    exact t2 q sz' B r1 hB r2
   ·have : es'' = es0 := by
     simp only [S.setA, S.setB, Qal, Zi, BC.ar.injEq] at hes0
     exact hes0
    subst this
    exact t3 es'' id B h99c hB
theorem Qfj {c' : AV} {ids : List Nat} {k : Nat} (h : Qk es k c = some (c', ids)) : (c'.isP = false → c.isP = false) ∧ (∀ sz, c'.tipSz = some sz → c' = c) := by
 have plain : (if c.noTr = true then some (c, ([] : List Nat)) else none) = some (c', ids) → (c'.isP = false → c.isP = false) ∧ (∀ sz, c'.tipSz = some sz → c' = c) := by
  intro h
  split at h
  ·simp only [Zi, Zm] at h
   rw [← h.1]; exact ⟨fun h => h, fun _ _ => rfl⟩
  ·cases h
 cases k with
 | zero => exact plain (by simpa only [Qk] using h)
 | succ k =>
  cases c with
  | tr id sz n =>
   cases id with
   | none =>
    simp only [Qk, Zi, Zm] at h
    rw [← h.1]; exact ⟨fun _ => rfl, fun sz h => by cases h⟩
   | some id =>
    simp only [Qk] at h
    split at h
    rotate_left
    ·cases h
    split at h
    rotate_left
    ·cases h
    obtain ⟨r, _, h⟩ := Qa.1 h
    simp only [Zi, Zm] at h
    rw [← h.1]; exact ⟨fun _ => rfl, fun sz h => by cases h⟩
  | agg cs =>
   simp only [Qk] at h
   obtain ⟨r, _, h⟩ := Qa.1 h
   simp only [Zi, Zm] at h
   rw [← h.1]; exact ⟨fun _ => rfl, fun sz h => by cases h⟩
  | tup cs =>
   simp only [Qk] at h
   obtain ⟨r, _, h⟩ := Qa.1 h
   simp only [Zi, Zm] at h
   rw [← h.1]; exact ⟨fun _ => rfl, fun sz h => by cases h⟩
  | undef | int | bool | str | con | sl | rp | fn | trp | bp | bs | be | np => exact plain (by simpa only [Qk] using h)
theorem Qma (h : c.calm = true) : c.isP = false ∧ c.tipSz = none := by
 cases c with
 | sl m sz xs => cases m <;> first | (cases h; done) | exact ⟨rfl, rfl⟩
 | _ => first | (cases h; done) | exact ⟨rfl, rfl⟩
theorem Qkr {s : S} : ∀ {cs : List AV} {j : Nat}, (cs.all AV.calm) = true → lend s cs j = some (cs, [], [])
 | [], _, _ => rfl
 | c :: cs, j, h => by
  simp only [List.all_cons, Zw] at h
  have ih : lend s cs j = some (cs, [], []) := Qkr (cs := cs) (j := j) h.2
  have hp := (Qma h.1).1
  cases c <;> first | (simp [AV.isP] at hp; done) | simp [lend, AV.isP, ih]
theorem Qlm {e : Env} (hA : ArOk C.fid e σ bm s a w es) (h : RelX C.fid { e with hd := σ.hd } σ bm s a w) (ha : ArgsOk C { e with hd := σ.hd } σ bm s a w cs vs) {cs' : List AV} {ids : List Nat} (hT : ∀ (i : Nat) c v sz B, cs[i]? = some c → vs[i]? = some v → c.tipSz = some sz → Qf v = some B → ∀ id, Qt σ es id ≠ some B) (hv : Qan (Qgb es) cs = some (cs', ids)) :
  RelX C.fid { e with hd := σ.hd } (Qaz σ w (Qv σ es ids)) bm s a w ∧ ArgsOk C { e with hd := σ.hd } (Qaz σ w (Qv σ es ids)) bm s a w cs' vs ∧
   (∀ (i : Nat) c' sz, cs'[i]? = some c' → c'.tipSz = some sz → cs[i]? = some c') := by
 have hle := Qem (σ := σ) (w := w) h.mem h.one (Qv σ es ids)
 have hl := Qfk hv
 have hbo : ∀ B ∈ Qv σ es ids, ({ e with hd := σ.hd } : Env).own B ∧ ¬ Qz s bm a w B ∧ ∃ vs t m, w.heap[B]? = some (.cells vs t m) := Qka hA ids
 have hx := h.sealed hbo
 have htip : ∀ (i : Nat) c' sz, cs'[i]? = some c' → c'.tipSz = some sz → cs[i]? = some c' := by
  intro i c' sz hc hs
  obtain ⟨c0, ids', k1, k2, _⟩ := Qlk hv i c' hc
  rw [(Qfj k2).2 sz hs]; exact k1
 refine ⟨hx, { len := by rw [hl]; exact ha.len, rep := fun i c' v hc hvv => ?_, tip := fun i c' v sz hc hvv hs => ?_, apart := fun i c' v sz hc hvv hs => ha.apart i c' v sz (htip i c' sz hc hs) hvv hs, dist := fun i j c' d v u sz sz' B hc hvv hs hd hu hs' => ha.dist i j c' d v u sz sz' B (htip i c' sz hc hs) hvv hs (htip j d sz' hd hs') hu hs' }, htip⟩
 ·obtain ⟨c0, ids', k1, k2, k3⟩ := Qlk hv i c' hc
  have hr := ha.rep i c0 v k1 hvv
  by_cases hp : c'.isP = true
  ·have hcc : c' = c0 := by
    have h0 := k2
    unfold Qgb at h0
    cases c0 with
    | tr id sz n =>
     cases id with
     | none => simp only [Qk, Zi, Zm] at h0; rw [← h0.1] at hp; cases hp
     | some id =>
      simp only [Qk] at h0
      split at h0
      rotate_left
      ·cases h0
      split at h0
      rotate_left
      ·cases h0
      obtain ⟨r, _, h0⟩ := Qa.1 h0
      simp only [Zi, Zm] at h0
      rw [← h0.1] at hp; cases hp
    | agg cs =>
     simp only [Qk] at h0
     obtain ⟨r, _, h0⟩ := Qa.1 h0
     simp only [Zi, Zm] at h0
     rw [← h0.1] at hp; cases hp
    | tup cs =>
     simp only [Qk] at h0
     obtain ⟨r, _, h0⟩ := Qa.1 h0
     simp only [Zi, Zm] at h0
     rw [← h0.1] at hp; cases hp
    | undef | int | bool | str | con | sl | rp | fn | trp | bp | bs | be | np =>
     simp only [Qk] at h0
     split at h0
     ·simp only [Zi, Zm] at h0; exact h0.1.symm
     ·cases h0
   rw [hcc]
   exact Qgs hr hle
  ·have hp' : c'.isP = false := by simpa using hp
   have hp0 := (Qfj k2).1 hp'
   refine (Qu hp').2 (Qip hA hle _ c0 c' ids' k2 (fun id hid => Qim ids id (k3 id hid)) v ((Qu hp0).1 hr))
 ·have := ha.tip i c' v sz (htip i c' sz hc hs) hvv hs
  obtain ⟨A, n, cap, h1, h2⟩ := this
  by_cases hc0 : cap = 0
  ·exact ⟨A, n, cap, h1, .inl hc0⟩
  refine ⟨A, n, cap, h1, h2.imp (fun h => h) ?_⟩
  rintro ⟨B', o, arr, t, mk, k1, k2, k3, k4, k5, k6, k7⟩
  refine ⟨B', o, arr, t, mk, k1, k2, k3, k4, fun j hi => ?_, k6, k7⟩
  rw [Qfv, if_neg]
  ·exact k5 j hi
  ·intro hm
   obtain ⟨id, r1, r2⟩ := List.mem_filterMap.1 hm
   exact hT i c' v sz B' (htip i c' sz hc hs) hvv hs (by rw [h1, k1]; simp [Qf, hc0]) id r2
end
end Go.Vs
namespace Go.Vs
open Go Go.RowKit
section
variable {C : Ctx} {e : Env} {σ σ' τ : Mem} {bm bm' : Nat → Option Nat} {s s1 s2 sc : S} {a ac : Act} {w w' : World} {call : Call} {cs : List AV} {vs : List Value} {tv : List AV} {bv bv' pb : List BC} {ls : List Nat} {n : Nat} {es es1 : List Ent} {fid : Nat → Nat} {c : AV}
theorem Qke {vs : List Value} {τ : Mem} (hcalm : (cs.all AV.calm) = true) (B : Nat) : ¬ (Qm τ bm s a w cs vs [] (fun _ => False)).lent B := by
 rintro (⟨k, b, q1, _⟩ | ⟨i, c, v, sz, q1, _, q3, _⟩ | ⟨k, b, i, sz, q1, _⟩ | q)
 ·simp at q1
 ·have := (Qma (List.all_eq_true.1 hcalm c (List.mem_of_getElem? q1))).2
  rw [this] at q3; cases q3
 ·simp at q1
 ·exact q
theorem Qlw {E : Env} (h : RelX C.fid { e with hd := σ.hd } σ bm s a w) (hE : E.w0 = w) (hl : ∀ B, ¬ E.lent B) (hx : RelX C.fid E σ' bm' sc ac w') :
  (∀ B, B < w.heap.size → w'.heap[B]? = w.heap[B]?) ∧ RelX C.fid { e with hd := σ.hd } σ bm s a w' := by
 have hk : ∀ B, B < w.heap.size → w'.heap[B]? = w.heap[B]? := fun B hB => by
  have := hx.old B (by rw [hE]; exact hB) (hl B)
  rw [this, hE]
 have hg : w.heap.size ≤ w'.heap.size := by have := hx.grown; rw [hE] at this; exact this
 refine ⟨hk, h.world (Mem.le_refl σ) h.one (fun _ _ _ => rfl) (fun B i v hv => ?_) hk hg ?_ ?_ ?_⟩
 ·rw [Qbc (hk B (Mem.le_of_world h B i v hv))]; exact h.mem B i v hv
 ·have := hx.os; rw [hE] at this; exact this
 ·have := hx.tape; rw [hE] at this; exact this
 ·have := hx.output; rw [hE] at this; exact this
theorem Qul (hc : Qdj C call) (hG : GOk C σ) (hF : Qea C e) (h : RelX C.fid { e with hd := σ.hd } σ bm s a w) (hN : NoAr e σ s) (har : ArS C.fid e σ bm s a w) (hA : ArOk C.fid e σ bm s a w es) (ha : ArgsOk C { e with hd := σ.hd } σ bm s a w cs vs)
  (hT : ∀ (i : Nat) c v sz B, cs[i]? = some c → vs[i]? = some v → c.tipSz = some sz → Qf v = some B → ∀ id, Qt σ es id ≠ some B) {g : Nat} (hg0 : g % 100 = 0) (hev : evalTC call s es .view g cs = some (c, s2)) :
  Known C g ∧ Calls C.P (C.fid g) vs.toArray w fun | .returned v, w' => Qo C e s2 c v a w' | _, _ => False := by
 simp only [evalTC] at hev
 obtain ⟨⟨cs', ids⟩, hv, hev⟩ := Qa.1 hev
 split at hev
 rotate_left
 ·cases hev
 rename_i hcalm
 obtain ⟨⟨oc, outs, bv'⟩, hcall, hev⟩ := Qa.1 hev
 obtain ⟨hxτ, haτ, _⟩ := Qlm hA h ha hT hv
 have hle := Qem (σ := σ) (w := w) h.mem h.one (Qv σ es ids)
 obtain ⟨hk, hcalls⟩ := hc g cs' [] none oc outs bv' hg0 (by simp) hcall
 refine ⟨hk, ?_⟩
 have hen := Qjf (P := fun _ => False) (hG.mono hle) (show Qea C { e with hd := σ.hd } from hF) hxτ haτ (Qkr hcalm) (fun B h => h.elim)
 refine (hcalls _ _ w (hen.toY (by simp) rfl)).mono ?_
 intro ed w'
 cases ed with
 | panicked _ => exact id
 | outgrown => exact id
 | returned v =>
  intro hex
  simp only [Qeu, Option.isSome_none, Bool.false_eq_true, if_false] at hex
  obtain ⟨⟨n, sc, ac, hb, hn, c0, rfl, hr⟩, _⟩ := hex
  show Qo C e s2 c v a w'
  split at hev
  rotate_left
  ·cases hev
  rename_i c1 h1 h2
  split at hev
  rotate_left
  ·cases hev
  rename_i hflat
  simp only [Zi, Zm] at hev
  obtain ⟨rfl, rfl⟩ := hev
  injection h1 with h1
  subst h1
  rcases hr with ⟨cs0, rfl, _⟩ | ⟨hp, σ', bm', hx, hrep, _, _⟩
  ·simp [AV.flat] at hflat
  obtain ⟨hkeep, hrel⟩ := Qlw h (E := { Qm (Qaz σ w (Qv σ es ids)) bm s a w cs' vs [] (fun _ => False) with n := n }) rfl (Qke (τ := Qaz σ w (Qv σ es ids)) hcalm) hx
  refine ⟨σ, bm, hrel, fun es0 hes0 => ?_, hN, (Qu hp).2 (Qoo hflat ((Qu hp).1 hrep)), (fun b hb' => by rw [(Qmi hflat).2.2] at hb'; cases hb'), fun sz hs => by rw [(Qmi hflat).1] at hs; cases hs⟩
  have hA0 := har es0 hes0
  exact hA0.step (fun id B hB => ⟨hkeep B (hA0.blk hB).1, rfl, (hA0.blk hB).2.1⟩) (Mem.le_refl _) rfl (fun id B hB hp => Qbo h hkeep hp)
theorem Qrg (hc : Qdj C call) (hG : GOk C σ) (hF : Qea C e) (h : RelX C.fid { e with hd := σ.hd } σ bm s a w) (hN : NoAr e σ s) (hes : s.b 99 = some (.ar es)) (hA : ArOk C.fid e σ bm s a w es) (ha : ArgsOk C { e with hd := σ.hd } σ bm s a w cs vs)
  (hT : ∀ (i : Nat) c v sz B, cs[i]? = some c → vs[i]? = some v → c.tipSz = some sz → Qf v = some B → ∀ id, Qt σ es id ≠ some B) {g : Nat} (hg0 : g % 100 = 0) (hev : evalTC call s es .pview g cs = some (c, s2)) :
  Known C g ∧ Calls C.P (C.fid g) vs.toArray w fun | .returned v, w' => Qo C e s2 c v a w' | _, _ => False := by
 simp only [evalTC] at hev
 obtain ⟨⟨cs', ids⟩, hv, hev⟩ := Qa.1 hev
 split at hev
 rotate_left
 ·cases hev
 rename_i hcalm
 obtain ⟨⟨oc, outs, bv'⟩, hcall, hev⟩ := Qa.1 hev
 obtain ⟨hxτ, haτ, _⟩ := Qlm hA h ha hT hv
 have hle := Qem (σ := σ) (w := w) h.mem h.one (Qv σ es ids)
 obtain ⟨hk, hcalls⟩ := hc g cs' [] (some (Qec es)) oc outs bv' hg0 (by simp) hcall
 refine ⟨hk, ?_⟩
 have hen := Qjf (P := fun _ => False) (hG.mono hle) (show Qea C { e with hd := σ.hd } from hF) hxτ haτ (Qkr hcalm) (fun B h => h.elim)
 have h99 : (Ql cs' []).b 99 = none := rfl
 obtain ⟨hbl1, hbl2⟩ := Qtb (es := es)
 have hen2 : EntryY C { Qm (Qaz σ w (Qv σ es ids)) bm s a w cs' vs [] (fun _ => False) with arn := true } cs' [] (some (Qec es)) vs.toArray w := by
  refine { rel := (hen.rel.arn true).addA h99, ar := fun es0 hes0 => ?_, arn := rfl, few := fun _ => by simp, w0 := hen.w0, len := hen.len, g := hen.g, fix := hen.fix }
  have : Qec es = es0 := by
   simp only [Qeq, Qal, Zi, BC.ar.injEq] at hes0
   exact hes0
  subst this
  refine ⟨fun id sz xs hx => absurd hx (hbl2 id _), fun id id' B h1 h2 => ?_, fun id hid => ?_⟩
  ·obtain ⟨sz, xs, q1, _⟩ := Qaw h1
   exact absurd q1 (hbl2 id _)
  ·show (Qaz σ w (Qv σ es ids)).hd id = none
   rw [Qel]
   exact hA.fresh id (by omega)
 refine (hcalls _ _ w hen2).mono ?_
 intro ed w'
 cases ed with
 | panicked _ => exact id
 | outgrown => exact id
 | returned v =>
  intro hex
  simp only [Qeu, Option.isSome_some, if_true] at hex
  obtain ⟨n, sc, ac, pb, es'', c0, rfl, hpl, hpn, hpb, h99c, rfl, hp, σ', bm', hx, har', _, hrep, _, _⟩ := hex
  show Qo C e s2 c v a w'
  have hpb0 : pb = [] := List.eq_nil_of_length_eq_zero hpl
  subst hpb0
  split at hev
  rotate_left
  ·cases hev
  rename_i c1 es' h1 h2
  split at hev
  rotate_left
  ·cases hev
  rename_i hcond
  obtain ⟨hflat, hfl2, hle2⟩ := hcond
  simp only [Zi, Zm] at hev
  obtain ⟨rfl, rfl⟩ := hev
  injection h1 with h1
  subst h1
  simp only [List.nil_append, List.cons.injEq, BC.ar.injEq, and_true] at h2
  subst h2
  obtain ⟨hkeep, hrel⟩ := Qlw h (E := { Qm (Qaz σ w (Qv σ es ids)) bm s a w cs' vs [] (fun _ => False) with n := n, hd := σ'.hd }) rfl (Qke (τ := Qaz σ w (Qv σ es ids)) hcalm) (hx.arn false)
  have hA' := har' _ h99c
  have hup : ∀ id v, σ.hd id = some v → σ'.hd id = some v := fun id v hv => hx.leσ.2 id v (by show (Qaz σ w (Qv σ es ids)).hd id = some v; rw [Qel]; exact hv)
  have hl2 : σ.le { σ with hd := σ'.hd } := ⟨fun _ _ _ h => h, hup⟩
  have hrel2 : RelX C.fid { e with hd := σ'.hd } { σ with hd := σ'.hd } bm s a w' := hrel.hdUp hup
  refine ⟨{ σ with hd := σ'.hd }, bm, hrel2.setA hes, fun es0 hes0 => ?_, hN.has hes, (Qu hp).2 (Qlu (σ := σ') (τ := { σ with hd := σ'.hd }) (fun _ _ h => h) hflat ((Qu hp).1 hrep)), (fun b hb' => by rw [(Qkn hflat).2.2] at hb'; cases hb'), fun sz hs => by rw [(Qkn hflat).1] at hs; cases hs⟩
  have : es ++ es''.drop es.length = es0 := by
   simp only [S.setA, S.setB, Qal, Zi, BC.ar.injEq] at hes0
   exact hes0
  subst this
  have hAw : ArOk C.fid e σ bm s a w' es := hA.step (fun id B hB => ⟨hkeep B (hA.blk hB).1, rfl, (hA.blk hB).2.1⟩) (Mem.le_refl _) rfl (fun id B hB hp => Qbo h hkeep hp)
  have hold : ∀ (id : Nat) x, (es ++ es''.drop es.length)[id]? = some (some x) → (id < es.length ∧ es[id]? = some (some x)) ∨ (es.length ≤ id ∧ es''[id]? = some (some x) ∧ Qkl (some x) = true) := by
   intro id x hx
   by_cases hid : id < es.length
   ·rw [List.getElem?_append_left hid] at hx; exact .inl ⟨hid, hx⟩
   ·rw [List.getElem?_append_right (by omega)] at hx
    refine .inr ⟨by omega, ?_, List.all_eq_true.1 hfl2 _ (List.mem_of_getElem? hx)⟩
    rw [List.getElem?_drop, show es.length + (id - es.length) = id by omega] at hx
    exact hx
  have hEown : ∀ B, ({ Qm (Qaz σ w (Qv σ es ids)) bm s a w cs' vs [] (fun _ => False) with arn := true, n := n } : Env).own B → w.heap.size ≤ B := by
   intro B hB
   rcases hB with hB | hB
   ·exact hB
   ·exact absurd hB (Qke (τ := Qaz σ w (Qv σ es ids)) (cs := cs') hcalm B)
  have hblk : ∀ id B, Qt { σ with hd := σ'.hd } (es ++ es''.drop es.length) id = some B → (id < es.length ∧ Qt σ es id = some B) ∨ (es.length ≤ id ∧ Qt σ' es'' id = some B) := by
   intro id B hB
   obtain ⟨sz, xs, q1, q2⟩ := Qaw hB
   rcases hold id _ q1 with ⟨r1, r2⟩ | ⟨r1, r2, _⟩
   ·left
    refine ⟨r1, ?_⟩
    obtain ⟨u, u1, _⟩ := Qxp (hA.ent id sz xs r2)
    unfold Qt
    rw [r2, u1]
    have q2 : Qcv (σ'.hd id) = some B := q2
    rw [hup _ _ u1] at q2
    exact q2
   ·right
    refine ⟨r1, ?_⟩
    unfold Qt
    rw [r2]; exact q2
  refine ⟨fun id sz xs hx => ?_, fun id id' B h1 h2 => ?_, fun id hid => ?_⟩
  ·rcases hold id _ hx with ⟨r1, r2⟩ | ⟨r1, r2, r3⟩
   ·obtain ⟨u, u1, u2⟩ := Qxp (hAw.ent id sz xs r2)
    exact (u2.mono hl2 (fun _ h => h) (fun B hp => Qci hp)).ok (hup _ _ u1)
   ·obtain ⟨x, cap, k1, k2⟩ := hA'.ent id sz xs r2
    refine ⟨x, cap, k1, k2.imp (fun h => h) ?_⟩
    rintro ⟨k3, k4, B, vs', t, m, j1, j2, j3, j4, j5, j6, j7, j8⟩
    have hge := hEown B j6
    refine ⟨k3, k4, B, vs', t, m, j1, j2, j3, j4, Qsw (σ := σ') (τ := { σ with hd := σ'.hd }) (fun _ _ h => h) (by simpa [Qkl] using r3) j5, .inl (Nat.le_trans h.grown hge), fun i => ?_, fun hp => ?_⟩
    ·show σ B i = none
     cases hh : σ B i with
     | none => rfl
     | some v => exact absurd (Mem.le_of_world h _ _ _ hh) (by omega)
    ·have := (Qz.own h (Qbo h hkeep (Qci hp))).2
     omega
  ·rcases hblk id B h1 with ⟨r1, r2⟩ | ⟨r1, r2⟩ <;> rcases hblk id' B h2 with ⟨q1, q2⟩ | ⟨q1, q2⟩
   ·exact hA.inj id id' B r2 q2
   ·have k1 := (hA.blk r2).1
    have k2 := hEown B (hA'.blk q2).2.1
    omega
   ·have k1 := (hA.blk q2).1
    have k2 := hEown B (hA'.blk r2).2.1
    omega
   ·exact hA'.inj id id' B r2 q2
  ·simp at hid
   exact hA'.fresh id (by omega)
theorem Qph (hc : Qdj C call) (hG : GOk C σ) (hF : Qea C e) (h : RelX C.fid { e with hd := σ.hd } σ bm s a w) (hN : NoAr e σ s) (hes : s.b 99 = some (.ar es)) (hA : ArOk C.fid e σ bm s a w es) (ha : ArgsOk C { e with hd := σ.hd } σ bm s a w cs vs)
  (hT : ∀ (i : Nat) c v sz B, cs[i]? = some c → vs[i]? = some v → c.tipSz = some sz → Qf v = some B → ∀ id, Qt σ es id ≠ some B) {m : CM} {g : Nat} (hg0 : g % 100 = 0) (hev : evalTC call s es m g cs = some (c, s2)) :
  Known C g ∧ Calls C.P (C.fid g) vs.toArray w fun | .returned v, w' => Qo C e s2 c v a w' | _, _ => False := by
 have har : ArS C.fid e σ bm s a w := fun es0 h0 => by
  rw [hes] at h0
  injection h0 with h0
  injection h0 with h0
  subst h0; exact hA
 cases m with
 | view => exact Qul hc hG hF h hN har hA ha hT hg0 hev
 | pass => exact Qkb hc hG hF h hN hes hA ha hT hg0 hev
 | pview => exact Qrg hc hG hF h hN hes hA ha hT hg0 hev
 | pseal =>
  simp only [evalTC] at hev
  obtain ⟨⟨cs', ids⟩, hv, hev⟩ := Qa.1 hev
  obtain ⟨hxτ, haτ, htτ⟩ := Qlm hA h ha hT hv
  have hle := Qem (σ := σ) (w := w) h.mem h.one (Qv σ es ids)
  have hhd : (Qaz σ w (Qv σ es ids)).hd = σ.hd := Qel _
  have hx2 : RelX C.fid { e with hd := (Qaz σ w (Qv σ es ids)).hd } (Qaz σ w (Qv σ es ids)) bm s a w := by rw [hhd]; exact hxτ
  have ha2 : ArgsOk C { e with hd := (Qaz σ w (Qv σ es ids)).hd } (Qaz σ w (Qv σ es ids)) bm s a w cs' vs := by rw [hhd]; exact haτ
  have hA2 := hA.killed h.mem h.one ids
  refine Qkb hc (hG.mono hle) hF hx2 (hN.has hes) hes hA2 ha2 (fun i c' v sz B h1 h2 h3 h4 id hB => ?_) hg0 hev
  obtain ⟨sz', xs', q1, q2⟩ := Qaw hB
  obtain ⟨_, k2⟩ := Qfr (ids := ids) (es := es)
  rw [hhd] at q2
  refine hT i c' v sz B (htτ i c' sz h1 h3) h2 h3 h4 id ?_
  unfold Qt
  rw [(k2 id _ q1).1]; exact q2
end
end Go.Vs