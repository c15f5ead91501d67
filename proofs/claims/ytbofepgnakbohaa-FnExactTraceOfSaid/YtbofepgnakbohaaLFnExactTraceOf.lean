/- The statement FnExactTraceOf is proved: the law answers true whatever the input; under no condition. -/
import Derived.Test.YtbofepgnakbohaaRows
import Derived.Test.YtbofepgnakbohaaFFnExactTraceOf
import Derived.Test.YtbofepgnakbohaaTvRow
import Derived.KernelRfl
namespace Go.Proofs.Ytbofepgnakbohaa.fnExactTraceOf
open Go Go.Vs Go.Tv Go.ChangeShapes Go.WideShapes Go.ChangeAt Go.RowKit Go.TFnExactTraceOf
open Go.ChangeMaps (open_string shut_string)
set_option linter.unusedVariables false
theorem own : ownKnob Try.prog.godebug = none := by kernel_rfl
theorem laidOut : laidOutB Try.prog = true := by kernel_rfl
def fids : List (Nat × Nat) := [(12500, 20), (12600, 21), (12700, 51), (12800, 22), (12900, 23), (13000, 52), (13100, 24), (13300, 26), (13400, 7), (38300, 22), (38400, 23), (38500, 25)]
noncomputable def ctx : Ctx := { P := Try.prog, fid := fun g => (Vs.look g fids).getD 0, gm := fun _ => 0, G := GA GT }
theorem ok12500 : okFn ctx (FA Tb) 8 p12500.er Try.f20 = true := by kernel_rfl
theorem ok12600 : okFn ctx (FA Tb) 8 p12600.er Try.f21 = true := by kernel_rfl
theorem ok12700 : okFn ctx (FA Tb) 8 p12700.er Try.f51 = true := by kernel_rfl
theorem ok12800 : okFn ctx (FA Tb) 8 p12800.er Try.f22 = true := by kernel_rfl
theorem ok12900 : okFn ctx (FA Tb) 8 p12900.er Try.f23 = true := by kernel_rfl
theorem ok13000 : okFn ctx (FA Tb) 8 p13000.er Try.f52 = true := by kernel_rfl
theorem ok13100 : okFn ctx (FA Tb) 8 p13100.er Try.f24 = true := by kernel_rfl
theorem ok13300 : okFn ctx (FA Tb) 8 p13300.er Try.f26 = true := by kernel_rfl
theorem ok13400 : okFn ctx (FA Tb) 8 p13400.er Try.f7 = true := by kernel_rfl
theorem ok38300 : okFn ctx (FA Tb) 8 p38300.er Try.f22 = true := by kernel_rfl
theorem ok38400 : okFn ctx (FA Tb) 8 p38400.er Try.f23 = true := by kernel_rfl
theorem ok38500 : okFn ctx (FA Tb) 8 p38500.er Try.f25 = true := by kernel_rfl
theorem at12500 : ctx.P.funcs[ctx.fid 12500]? = some Try.f20 := by
  have e : ctx.fid 12500 = 20 := by kernel_rfl
  rw [e]; exact Try.func20
theorem at12600 : ctx.P.funcs[ctx.fid 12600]? = some Try.f21 := by
  have e : ctx.fid 12600 = 21 := by kernel_rfl
  rw [e]; exact Try.func21
theorem at12700 : ctx.P.funcs[ctx.fid 12700]? = some Try.f51 := by
  have e : ctx.fid 12700 = 51 := by kernel_rfl
  rw [e]; exact Try.func51
theorem at12800 : ctx.P.funcs[ctx.fid 12800]? = some Try.f22 := by
  have e : ctx.fid 12800 = 22 := by kernel_rfl
  rw [e]; exact Try.func22
theorem at12900 : ctx.P.funcs[ctx.fid 12900]? = some Try.f23 := by
  have e : ctx.fid 12900 = 23 := by kernel_rfl
  rw [e]; exact Try.func23
theorem at13000 : ctx.P.funcs[ctx.fid 13000]? = some Try.f52 := by
  have e : ctx.fid 13000 = 52 := by kernel_rfl
  rw [e]; exact Try.func52
theorem at13100 : ctx.P.funcs[ctx.fid 13100]? = some Try.f24 := by
  have e : ctx.fid 13100 = 24 := by kernel_rfl
  rw [e]; exact Try.func24
theorem at13300 : ctx.P.funcs[ctx.fid 13300]? = some Try.f26 := by
  have e : ctx.fid 13300 = 26 := by kernel_rfl
  rw [e]; exact Try.func26
theorem at13400 : ctx.P.funcs[ctx.fid 13400]? = some Try.f7 := by
  have e : ctx.fid 13400 = 7 := by kernel_rfl
  rw [e]; exact Try.func7
theorem at38300 : ctx.P.funcs[ctx.fid 38300]? = some Try.f22 := by
  have e : ctx.fid 38300 = 22 := by kernel_rfl
  rw [e]; exact Try.func22
theorem at38400 : ctx.P.funcs[ctx.fid 38400]? = some Try.f23 := by
  have e : ctx.fid 38400 = 23 := by kernel_rfl
  rw [e]; exact Try.func23
theorem at38500 : ctx.P.funcs[ctx.fid 38500]? = some Try.f25 := by
  have e : ctx.fid 38500 = 25 := by kernel_rfl
  rw [e]; exact Try.func25
theorem laid : Laid ctx (FA Tb) := by
  refine laidT (l := tab) (by kernel_rfl) ?_
  have e : tab.map (fun x => (x.1, x.2.er)) = [(12500, p12500.er), (12600, p12600.er), (12601, p12601.er), (12700, p12700.er), (12800, p12800.er), (12801, p12801.er), (12900, p12900.er), (12901, p12901.er), (13000, p13000.er), (13100, p13100.er), (13101, p13101.er), (13300, p13300.er), (13301, p13301.er), (13400, p13400.er), (38300, p38300.er), (38301, p38301.er), (38400, p38400.er), (38401, p38401.er), (38500, p38500.er), (38501, p38501.er)] := by kernel_rfl
  rw [e]
  exact ⟨fun _ => okFn_spec at12500 ok12500, ⟨fun _ => okFn_spec at12600 ok12600, ⟨fun h => absurd h (by decide), ⟨fun _ => okFn_spec at12700 ok12700, ⟨fun _ => okFn_spec at12800 ok12800, ⟨fun h => absurd h (by decide), ⟨fun _ => okFn_spec at12900 ok12900, ⟨fun h => absurd h (by decide), ⟨fun _ => okFn_spec at13000 ok13000, ⟨fun _ => okFn_spec at13100 ok13100, ⟨fun h => absurd h (by decide), ⟨fun _ => okFn_spec at13300 ok13300, ⟨fun h => absurd h (by decide), ⟨fun _ => okFn_spec at13400 ok13400, ⟨fun _ => okFn_spec at38300 ok38300, ⟨fun h => absurd h (by decide), ⟨fun _ => okFn_spec at38400 ok38400, ⟨fun h => absurd h (by decide), ⟨fun _ => okFn_spec at38500 ok38500, ⟨fun h => absurd h (by decide), trivial⟩⟩⟩⟩⟩⟩⟩⟩⟩⟩⟩⟩⟩⟩⟩⟩⟩⟩⟩⟩
theorem gok {W : World} : GOk ctx (memOf W) := by
  intro i
  show RepL ctx.fid (memOf W) (GA GT i) _
  simp [GA, GT, toAVs, RepL]
set_option maxRecDepth 100000 in
theorem lifted (os : Os) (started : os.Started) (H : Type) (enc : TypeId × Value → H) :
    ReturnsInHanded {} Try.checked os 7 .any (Rows.fnExactTraceOfSpec.pre6 enc Try.prog Try.f7 Rows.fnExactTraceOfRow.domain false) (Rows.fnExactTraceOfSpec.post enc Try.prog Try.f7 false true false false) := by
  refine returnsInHanded_of_change_sized (C := Try.checked) own started (by kernel_rfl) Try.func7
    (ChangeSpec.witness6 (enc := enc) (C := Try.checked) false ⟨#[], #[.slice none 0 0, .int .i64 0], []⟩ 8 (by kernel_rfl) (by kernel_rfl) (by kernel_rfl) (by kernel_rfl)) ?_
  intro W base args ds gs before hval0 hW hcnd hsz0 _
  have hval : ∀ (j : Nat) t v, Try.f7.params[j]? = some t → args[j]? = some v → Value.okWide Try.prog W .any base t v := hval0
  have hW' := hW
  obtain ⟨p, q, hA0, hV, rfl, hfz, hnd⟩ := hW
  have hA : DataW.TrodAll enc Try.prog W 0 (fun _ => true) true Try.f7.params.toList args.toList ds p := hA0
  have hV' := hV
  rw [Try.params7] at hA hval
  obtain ⟨v0, vs0, d0, ds0, p0, q0, hargs, rfl, rfl, h0, r0⟩ := trodAll_cons hA
  obtain ⟨v1, vs1, d1, ds1, p1, q1, rfl, rfl, rfl, h1, r1⟩ := trodAll_cons r0
  obtain ⟨rfl, rfl, rfl⟩ := trodAll_nil r1
  obtain rfl : args = #[v0, v1] := by cases args; simp_all
  obtain ⟨rfl, rfl⟩ := trodVars_none hV
  have k0 := h0
  have lt0 : ∀ x ∈ p0, x.block < W.heap.size := by obtain ⟨m, hm⟩ := k0; exact DataW.trod_lt m _ _ _ hm
  obtain ⟨a0, y0, l0, w0⟩ := arg_sl (c := .event) (fid := ctx.fid) Try.underlying35 (by kernel_rfl) (by decide) (hval 0 35 v0 rfl rfl) (fun n cs x hx => open_event (by kernel_rfl) hx) h0
  obtain ⟨a1, rfl, rfl, rfl, w1⟩ := open_int Try.underlying3 (hval 1 3 v1 rfl rfl) h1
  have hE : callTy Tb GT boolSig 13400 [.sl .share .event a0, .int .i64 a1] [] = some true := Go.TFnExactTraceOf.laws_FnExactTraceOf_eq a0 l0 w0 a1 (bounds_i64 w1)
  have hrun := law_top (C := ctx) laid rfl (g := 13400) (by decide) (args := #[v0, (.int .i64 a1)]) gok (fun _ h => by cases h) rfl (by
    intro i c v hc hv
    match i, hc, hv with
    | 0, hc, hv => simp at hc hv; subst hc hv; exact y0
    | 1, hc, hv => simp at hc hv; subst hc hv; exact arg_int
    | i + 2, hc, _ => simp at hc) hE
  have efid : ctx.fid 13400 = 7 := by kernel_rfl
  rw [efid] at hrun
  refine hrun.mono fun e W' ⟨he, bel⟩ => ?_
  subst he
  exact ⟨_, rfl, _, _, _, [], _, [], hW', trodAll_mk1 (shut_bool Try.underlying4 _), (trodAll_cons_mk (Below.trod laidOut (by kernel_rfl) (of_decide_eq_true (by kernel_rfl)) k0 bel lt0) (trodAll_cons_mk (shut_int Try.underlying3 w1) trodAll_mk0)), rfl, bel.frame _, fun h => by cases h⟩
theorem over : Rows.fnExactTraceOfRow.holds Try.pinned (OpenSpec.ofChange Rows.fnExactTraceOfSpec) :=
  OpenClaim.holds_of_wide 7 Try.f7 rfl rfl rfl rfl rfl rfl rfl ⟨rfl, rfl, rfl, rfl, rfl⟩ rfl rfl rfl rfl rfl (by kernel_rfl) Try.func7 (by kernel_rfl)
    (of_decide_eq_true (by kernel_rfl)) (by unfold Func.isWrapper; first | (rw [if_pos (by decide +kernel)]; kernel_rfl) | (rw [if_neg (by decide +kernel)]; exact ⟨rfl, rfl⟩))
    (fun os started H enc _ => lifted os started H enc)
end Go.Proofs.Ytbofepgnakbohaa.fnExactTraceOf
namespace Go.Proofs.Ytbofepgnakbohaa
/-- The row. -/
theorem fnExactTraceOf_holds : Rows.FnExactTraceOfSaid := fnExactTraceOf.over
#print axioms fnExactTraceOf_holds
end Go.Proofs.Ytbofepgnakbohaa
