/- The statement FnTurnRound is proved: the law answers true whatever the input; under no condition. -/
import Derived.Test.YtbofepgnakbohaaRows
import Derived.Test.YtbofepgnakbohaaFFnTurnRound
import Derived.Test.YtbofepgnakbohaaTvRow
import Derived.KernelRfl
namespace Go.Proofs.Ytbofepgnakbohaa.fnTurnRound
open Go Go.Vs Go.Tv Go.ChangeShapes Go.WideShapes Go.ChangeAt Go.RowKit Go.TFnTurnRound
open Go.ChangeMaps (open_string shut_string)
set_option linter.unusedVariables false
theorem own : ownKnob Try.prog.godebug = none := by kernel_rfl
theorem laidOut : laidOutB Try.prog = true := by kernel_rfl
def fids : List (Nat × Nat) := [(100, 43), (200, 44), (1600, 42), (11200, 14), (11300, 15), (11500, 16), (11700, 5)]
noncomputable def ctx : Ctx := { P := Try.prog, fid := fun g => (Vs.look g fids).getD 0, gm := fun _ => 0, G := GA GT }
theorem ok100 : okFn ctx (FA Tb) 8 p100.er Try.f43 = true := by kernel_rfl
theorem ok200 : okFn ctx (FA Tb) 8 p200.er Try.f44 = true := by kernel_rfl
theorem ok1600 : okFn ctx (FA Tb) 8 p1600.er Try.f42 = true := by kernel_rfl
theorem ok11200 : okFn ctx (FA Tb) 8 p11200.er Try.f14 = true := by kernel_rfl
theorem ok11300 : okFn ctx (FA Tb) 8 p11300.er Try.f15 = true := by kernel_rfl
theorem ok11500 : okFn ctx (FA Tb) 8 p11500.er Try.f16 = true := by kernel_rfl
theorem ok11700 : okFn ctx (FA Tb) 8 p11700.er Try.f5 = true := by kernel_rfl
theorem at100 : ctx.P.funcs[ctx.fid 100]? = some Try.f43 := by
  have e : ctx.fid 100 = 43 := by kernel_rfl
  rw [e]; exact Try.func43
theorem at200 : ctx.P.funcs[ctx.fid 200]? = some Try.f44 := by
  have e : ctx.fid 200 = 44 := by kernel_rfl
  rw [e]; exact Try.func44
theorem at1600 : ctx.P.funcs[ctx.fid 1600]? = some Try.f42 := by
  have e : ctx.fid 1600 = 42 := by kernel_rfl
  rw [e]; exact Try.func42
theorem at11200 : ctx.P.funcs[ctx.fid 11200]? = some Try.f14 := by
  have e : ctx.fid 11200 = 14 := by kernel_rfl
  rw [e]; exact Try.func14
theorem at11300 : ctx.P.funcs[ctx.fid 11300]? = some Try.f15 := by
  have e : ctx.fid 11300 = 15 := by kernel_rfl
  rw [e]; exact Try.func15
theorem at11500 : ctx.P.funcs[ctx.fid 11500]? = some Try.f16 := by
  have e : ctx.fid 11500 = 16 := by kernel_rfl
  rw [e]; exact Try.func16
theorem at11700 : ctx.P.funcs[ctx.fid 11700]? = some Try.f5 := by
  have e : ctx.fid 11700 = 5 := by kernel_rfl
  rw [e]; exact Try.func5
theorem laid : Laid ctx (FA Tb) := by
  refine laidT (l := tab) (by kernel_rfl) ?_
  have e : tab.map (fun x => (x.1, x.2.er)) = [(100, p100.er), (200, p200.er), (1600, p1600.er), (11200, p11200.er), (11300, p11300.er), (11500, p11500.er), (11700, p11700.er), (11701, p11701.er)] := by kernel_rfl
  rw [e]
  exact ⟨fun _ => okFn_spec at100 ok100, ⟨fun _ => okFn_spec at200 ok200, ⟨fun _ => okFn_spec at1600 ok1600, ⟨fun _ => okFn_spec at11200 ok11200, ⟨fun _ => okFn_spec at11300 ok11300, ⟨fun _ => okFn_spec at11500 ok11500, ⟨fun _ => okFn_spec at11700 ok11700, ⟨fun h => absurd h (by decide), trivial⟩⟩⟩⟩⟩⟩⟩⟩
theorem gok {W : World} : GOk ctx (memOf W) := by
  intro i
  show RepL ctx.fid (memOf W) (GA GT i) _
  simp [GA, GT, toAVs, RepL]
set_option maxRecDepth 100000 in
theorem lifted (os : Os) (started : os.Started) (H : Type) (enc : TypeId × Value → H) :
    ReturnsInHanded {} Try.checked os 5 .any (Rows.fnTurnRoundSpec.pre6 enc Try.prog Try.f5 Rows.fnTurnRoundRow.domain false) (Rows.fnTurnRoundSpec.post enc Try.prog Try.f5 false true false false) := by
  refine returnsInHanded_of_change_sized (C := Try.checked) own started (by kernel_rfl) Try.func5
    (ChangeSpec.witness6 (enc := enc) (C := Try.checked) false ⟨#[], #[.slice none 0 0], []⟩ 8 (by kernel_rfl) (by kernel_rfl) (by kernel_rfl) (by kernel_rfl)) ?_
  intro W base args ds gs before hval0 hW hcnd hsz0 _
  have hval : ∀ (j : Nat) t v, Try.f5.params[j]? = some t → args[j]? = some v → Value.okWide Try.prog W .any base t v := hval0
  have hW' := hW
  obtain ⟨p, q, hA0, hV, rfl, hfz, hnd⟩ := hW
  have hA : DataW.TrodAll enc Try.prog W 0 (fun _ => true) true Try.f5.params.toList args.toList ds p := hA0
  rw [Try.params5] at hA hval
  obtain ⟨v0, vs0, d0, ds0, p0, q0, hargs, rfl, rfl, h0, r0⟩ := trodAll_cons hA
  obtain ⟨rfl, rfl, rfl⟩ := trodAll_nil r0
  obtain rfl : args = #[v0] := by cases args; simp_all
  obtain ⟨rfl, rfl⟩ := trodVars_none hV
  have k0 := h0
  have lt0 : ∀ x ∈ p0, x.block < W.heap.size := by obtain ⟨m, hm⟩ := k0; exact DataW.trod_lt m _ _ _ hm
  obtain ⟨a0, y0, w0⟩ := arg_bytes (fid := ctx.fid) Try.underlying25 (by kernel_rfl) (hval 0 25 v0 rfl rfl) h0
  have hE : callTy Tb GT boolSig 11700 [.sl .share .u8 a0] [] = some true := Go.TFnTurnRound.laws_FnTurnRound_eq a0 w0
  have hrun := law_top (C := ctx) laid rfl (g := 11700) (by decide) (args := #[v0]) gok rfl (by
    intro i c v hc hv
    match i, hc, hv with
    | 0, hc, hv => simp at hc hv; subst hc hv; exact y0
    | i + 1, hc, _ => simp at hc) hE
  have efid : ctx.fid 11700 = 5 := by kernel_rfl
  rw [efid] at hrun
  refine hrun.mono fun e W' ⟨he, bel⟩ => ?_
  subst he
  exact ⟨_, rfl, _, _, _, [], _, [], hW', trodAll_mk1 (shut_bool Try.underlying4 _), (trodAll_cons_mk (Below.trod laidOut (by kernel_rfl) (of_decide_eq_true (by kernel_rfl)) k0 bel lt0) trodAll_mk0), rfl, bel.frame _, fun h => by cases h⟩
theorem over : Rows.fnTurnRoundRow.holds Try.pinned (OpenSpec.ofChange Rows.fnTurnRoundSpec) :=
  OpenClaim.holds_of_wide 5 Try.f5 rfl rfl rfl rfl rfl rfl rfl ⟨rfl, rfl, rfl, rfl, rfl⟩ rfl rfl rfl rfl rfl (by kernel_rfl) Try.func5 (by kernel_rfl)
    (of_decide_eq_true (by kernel_rfl)) (by unfold Func.isWrapper; first | (rw [if_pos (by decide +kernel)]; kernel_rfl) | (rw [if_neg (by decide +kernel)]; exact ⟨rfl, rfl⟩))
    (fun os started H enc _ => lifted os started H enc)
end Go.Proofs.Ytbofepgnakbohaa.fnTurnRound
namespace Go.Proofs.Ytbofepgnakbohaa
/-- The row. -/
theorem fnTurnRound_holds : Rows.FnTurnRoundSaid := fnTurnRound.over
#print axioms fnTurnRound_holds
end Go.Proofs.Ytbofepgnakbohaa
