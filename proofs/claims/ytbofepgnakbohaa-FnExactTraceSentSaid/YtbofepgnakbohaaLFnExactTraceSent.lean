/- The statement FnExactTraceSent is proved: the law answers true whatever the input; under no condition. -/
import Derived.Test.YtbofepgnakbohaaRows
import Derived.Test.YtbofepgnakbohaaFFnExactTraceSent
import Derived.Test.YtbofepgnakbohaaTvRow
import Derived.KernelRfl
namespace Go.Proofs.Ytbofepgnakbohaa.fnExactTraceSent
open Go Go.Vs Go.Tv Go.ChangeShapes Go.WideShapes Go.ChangeAt Go.RowKit Go.TFnExactTraceSent
open Go.ChangeMaps (open_string shut_string)
set_option linter.unusedVariables false
theorem own : ownKnob Try.prog.godebug = none := by kernel_rfl
theorem laidOut : laidOutB Try.prog = true := by kernel_rfl
def fids : List (Nat × Nat) := [(8400, 29), (10600, 31), (12500, 20), (12700, 51), (12800, 22), (13000, 52), (13100, 24), (13600, 53), (13900, 55), (14300, 34), (14400, 35), (14500, 10), (16100, 57), (38300, 22), (38500, 25), (38700, 30), (38900, 35), (39000, 53)]
noncomputable def ctx : Ctx := { P := Try.prog, fid := fun g => (Vs.look g fids).getD 0, gm := fun _ => 0, G := GA GT }
theorem ok8400 : okFn ctx (FA Tb) 8 p8400.er Try.f29 = true := by kernel_rfl
theorem ok10600 : okFn ctx (FA Tb) 8 p10600.er Try.f31 = true := by kernel_rfl
theorem ok12500 : okFn ctx (FA Tb) 8 p12500.er Try.f20 = true := by kernel_rfl
theorem ok12700 : okFn ctx (FA Tb) 8 p12700.er Try.f51 = true := by kernel_rfl
theorem ok12800 : okFn ctx (FA Tb) 8 p12800.er Try.f22 = true := by kernel_rfl
theorem ok13000 : okFn ctx (FA Tb) 8 p13000.er Try.f52 = true := by kernel_rfl
theorem ok13100 : okFn ctx (FA Tb) 8 p13100.er Try.f24 = true := by kernel_rfl
theorem ok13600 : okFn ctx (FA Tb) 8 p13600.er Try.f53 = true := by kernel_rfl
theorem ok13900 : okFn ctx (FA Tb) 8 p13900.er Try.f55 = true := by kernel_rfl
theorem ok14300 : okFn ctx (FA Tb) 8 p14300.er Try.f34 = true := by kernel_rfl
theorem ok14400 : okFn ctx (FA Tb) 8 p14400.er Try.f35 = true := by kernel_rfl
theorem ok14500 : okFn ctx (FA Tb) 8 p14500.er Try.f10 = true := by kernel_rfl
theorem ok16100 : okFn ctx (FA Tb) 8 p16100.er Try.f57 = true := by kernel_rfl
theorem ok38300 : okFn ctx (FA Tb) 8 p38300.er Try.f22 = true := by kernel_rfl
theorem ok38500 : okFn ctx (FA Tb) 8 p38500.er Try.f25 = true := by kernel_rfl
theorem ok38700 : okFn ctx (FA Tb) 8 p38700.er Try.f30 = true := by kernel_rfl
theorem ok38900 : okFn ctx (FA Tb) 8 p38900.er Try.f35 = true := by kernel_rfl
theorem ok39000 : okFn ctx (FA Tb) 8 p39000.er Try.f53 = true := by kernel_rfl
theorem at8400 : ctx.P.funcs[ctx.fid 8400]? = some Try.f29 := by
  have e : ctx.fid 8400 = 29 := by kernel_rfl
  rw [e]; exact Try.func29
theorem at10600 : ctx.P.funcs[ctx.fid 10600]? = some Try.f31 := by
  have e : ctx.fid 10600 = 31 := by kernel_rfl
  rw [e]; exact Try.func31
theorem at12500 : ctx.P.funcs[ctx.fid 12500]? = some Try.f20 := by
  have e : ctx.fid 12500 = 20 := by kernel_rfl
  rw [e]; exact Try.func20
theorem at12700 : ctx.P.funcs[ctx.fid 12700]? = some Try.f51 := by
  have e : ctx.fid 12700 = 51 := by kernel_rfl
  rw [e]; exact Try.func51
theorem at12800 : ctx.P.funcs[ctx.fid 12800]? = some Try.f22 := by
  have e : ctx.fid 12800 = 22 := by kernel_rfl
  rw [e]; exact Try.func22
theorem at13000 : ctx.P.funcs[ctx.fid 13000]? = some Try.f52 := by
  have e : ctx.fid 13000 = 52 := by kernel_rfl
  rw [e]; exact Try.func52
theorem at13100 : ctx.P.funcs[ctx.fid 13100]? = some Try.f24 := by
  have e : ctx.fid 13100 = 24 := by kernel_rfl
  rw [e]; exact Try.func24
theorem at13600 : ctx.P.funcs[ctx.fid 13600]? = some Try.f53 := by
  have e : ctx.fid 13600 = 53 := by kernel_rfl
  rw [e]; exact Try.func53
theorem at13900 : ctx.P.funcs[ctx.fid 13900]? = some Try.f55 := by
  have e : ctx.fid 13900 = 55 := by kernel_rfl
  rw [e]; exact Try.func55
theorem at14300 : ctx.P.funcs[ctx.fid 14300]? = some Try.f34 := by
  have e : ctx.fid 14300 = 34 := by kernel_rfl
  rw [e]; exact Try.func34
theorem at14400 : ctx.P.funcs[ctx.fid 14400]? = some Try.f35 := by
  have e : ctx.fid 14400 = 35 := by kernel_rfl
  rw [e]; exact Try.func35
theorem at14500 : ctx.P.funcs[ctx.fid 14500]? = some Try.f10 := by
  have e : ctx.fid 14500 = 10 := by kernel_rfl
  rw [e]; exact Try.func10
theorem at16100 : ctx.P.funcs[ctx.fid 16100]? = some Try.f57 := by
  have e : ctx.fid 16100 = 57 := by kernel_rfl
  rw [e]; exact Try.func57
theorem at38300 : ctx.P.funcs[ctx.fid 38300]? = some Try.f22 := by
  have e : ctx.fid 38300 = 22 := by kernel_rfl
  rw [e]; exact Try.func22
theorem at38500 : ctx.P.funcs[ctx.fid 38500]? = some Try.f25 := by
  have e : ctx.fid 38500 = 25 := by kernel_rfl
  rw [e]; exact Try.func25
theorem at38700 : ctx.P.funcs[ctx.fid 38700]? = some Try.f30 := by
  have e : ctx.fid 38700 = 30 := by kernel_rfl
  rw [e]; exact Try.func30
theorem at38900 : ctx.P.funcs[ctx.fid 38900]? = some Try.f35 := by
  have e : ctx.fid 38900 = 35 := by kernel_rfl
  rw [e]; exact Try.func35
theorem at39000 : ctx.P.funcs[ctx.fid 39000]? = some Try.f53 := by
  have e : ctx.fid 39000 = 53 := by kernel_rfl
  rw [e]; exact Try.func53
theorem laid : Laid ctx (FA Tb) := by
  refine laidT (l := tab) (by kernel_rfl) ?_
  have e : tab.map (fun x => (x.1, x.2.er)) = [(8400, p8400.er), (8401, p8401.er), (10600, p10600.er), (10601, p10601.er), (12500, p12500.er), (12700, p12700.er), (12800, p12800.er), (12801, p12801.er), (13000, p13000.er), (13100, p13100.er), (13101, p13101.er), (13600, p13600.er), (13601, p13601.er), (13900, p13900.er), (13901, p13901.er), (14300, p14300.er), (14400, p14400.er), (14500, p14500.er), (16100, p16100.er), (38300, p38300.er), (38301, p38301.er), (38500, p38500.er), (38501, p38501.er), (38700, p38700.er), (38701, p38701.er), (38900, p38900.er), (39000, p39000.er), (39001, p39001.er)] := by kernel_rfl
  rw [e]
  exact ⟨fun _ => okFn_spec at8400 ok8400, ⟨fun h => absurd h (by decide), ⟨fun _ => okFn_spec at10600 ok10600, ⟨fun h => absurd h (by decide), ⟨fun _ => okFn_spec at12500 ok12500, ⟨fun _ => okFn_spec at12700 ok12700, ⟨fun _ => okFn_spec at12800 ok12800, ⟨fun h => absurd h (by decide), ⟨fun _ => okFn_spec at13000 ok13000, ⟨fun _ => okFn_spec at13100 ok13100, ⟨fun h => absurd h (by decide), ⟨fun _ => okFn_spec at13600 ok13600, ⟨fun h => absurd h (by decide), ⟨fun _ => okFn_spec at13900 ok13900, ⟨fun h => absurd h (by decide), ⟨fun _ => okFn_spec at14300 ok14300, ⟨fun _ => okFn_spec at14400 ok14400, ⟨fun _ => okFn_spec at14500 ok14500, ⟨fun _ => okFn_spec at16100 ok16100, ⟨fun _ => okFn_spec at38300 ok38300, ⟨fun h => absurd h (by decide), ⟨fun _ => okFn_spec at38500 ok38500, ⟨fun h => absurd h (by decide), ⟨fun _ => okFn_spec at38700 ok38700, ⟨fun h => absurd h (by decide), ⟨fun _ => okFn_spec at38900 ok38900, ⟨fun _ => okFn_spec at39000 ok39000, ⟨fun h => absurd h (by decide), trivial⟩⟩⟩⟩⟩⟩⟩⟩⟩⟩⟩⟩⟩⟩⟩⟩⟩⟩⟩⟩⟩⟩⟩⟩⟩⟩⟩⟩
theorem gok {W : World} : GOk ctx (memOf W) := by
  intro i
  show RepL ctx.fid (memOf W) (GA GT i) _
  simp [GA, GT, toAVs, RepL]
set_option maxRecDepth 100000 in
theorem lifted (os : Os) (started : os.Started) (H : Type) (enc : TypeId × Value → H) :
    ReturnsInHanded {} Try.checked os 10 .any (Rows.fnExactTraceSentSpec.pre6 enc Try.prog Try.f10 Rows.fnExactTraceSentRow.domain false) (Rows.fnExactTraceSentSpec.post enc Try.prog Try.f10 false true false false) := by
  refine returnsInHanded_of_change_sized (C := Try.checked) own started (by kernel_rfl) Try.func10
    (ChangeSpec.witness6 (enc := enc) (C := Try.checked) false ⟨#[], #[.slice none 0 0, .int .i64 0], []⟩ 8 (by kernel_rfl) (by kernel_rfl) (by kernel_rfl) (by kernel_rfl)) ?_
  intro W base args ds gs before hval0 hW hcnd hsz0 _
  have hval : ∀ (j : Nat) t v, Try.f10.params[j]? = some t → args[j]? = some v → Value.okWide Try.prog W .any base t v := hval0
  have hW' := hW
  obtain ⟨p, q, hA0, hV, rfl, hfz, hnd⟩ := hW
  have hA : DataW.TrodAll enc Try.prog W 0 (fun _ => true) true Try.f10.params.toList args.toList ds p := hA0
  have hV' := hV
  rw [Try.params10] at hA hval
  obtain ⟨v0, vs0, d0, ds0, p0, q0, hargs, rfl, rfl, h0, r0⟩ := trodAll_cons hA
  obtain ⟨v1, vs1, d1, ds1, p1, q1, rfl, rfl, rfl, h1, r1⟩ := trodAll_cons r0
  obtain ⟨rfl, rfl, rfl⟩ := trodAll_nil r1
  obtain rfl : args = #[v0, v1] := by cases args; simp_all
  obtain ⟨rfl, rfl⟩ := trodVars_none hV
  have k0 := h0
  have lt0 : ∀ x ∈ p0, x.block < W.heap.size := by obtain ⟨m, hm⟩ := k0; exact DataW.trod_lt m _ _ _ hm
  obtain ⟨a0, y0, l0, w0⟩ := arg_sl (c := .event) (fid := ctx.fid) Try.underlying35 (by kernel_rfl) (by decide) (hval 0 35 v0 rfl rfl) (fun n cs x hx => open_event (by kernel_rfl) hx) h0
  obtain ⟨a1, rfl, rfl, rfl, w1⟩ := open_int Try.underlying3 (hval 1 3 v1 rfl rfl) h1
  have hE : callTy Tb GT boolSig 14500 [.sl .share .event a0, .int .i64 a1] [] = some true := Go.TFnExactTraceSent.laws_FnExactTraceSent_eq a0 l0 w0 a1 (bounds_i64 w1)
  have hrun := law_top (C := ctx) laid rfl (g := 14500) (by decide) (args := #[v0, (.int .i64 a1)]) gok (fun _ h => by cases h) rfl (by
    intro i c v hc hv
    match i, hc, hv with
    | 0, hc, hv => simp at hc hv; subst hc hv; exact y0
    | 1, hc, hv => simp at hc hv; subst hc hv; exact arg_int
    | i + 2, hc, _ => simp at hc) hE
  have efid : ctx.fid 14500 = 10 := by kernel_rfl
  rw [efid] at hrun
  refine hrun.mono fun e W' ⟨he, bel⟩ => ?_
  subst he
  exact ⟨_, rfl, _, _, _, [], _, [], hW', trodAll_mk1 (shut_bool Try.underlying4 _), (trodAll_cons_mk (Below.trod laidOut (by kernel_rfl) (of_decide_eq_true (by kernel_rfl)) k0 bel lt0) (trodAll_cons_mk (shut_int Try.underlying3 w1) trodAll_mk0)), rfl, bel.frame _, fun h => by cases h⟩
theorem over : Rows.fnExactTraceSentRow.holds Try.pinned (OpenSpec.ofChange Rows.fnExactTraceSentSpec) :=
  OpenClaim.holds_of_wide 10 Try.f10 rfl rfl rfl rfl rfl rfl rfl ⟨rfl, rfl, rfl, rfl, rfl⟩ rfl rfl rfl rfl rfl (by kernel_rfl) Try.func10 (by kernel_rfl)
    (of_decide_eq_true (by kernel_rfl)) (by unfold Func.isWrapper; first | (rw [if_pos (by decide +kernel)]; kernel_rfl) | (rw [if_neg (by decide +kernel)]; exact ⟨rfl, rfl⟩))
    (fun os started H enc _ => lifted os started H enc)
end Go.Proofs.Ytbofepgnakbohaa.fnExactTraceSent
namespace Go.Proofs.Ytbofepgnakbohaa
/-- The row. -/
theorem fnExactTraceSent_holds : Rows.FnExactTraceSentSaid := fnExactTraceSent.over
#print axioms fnExactTraceSent_holds
end Go.Proofs.Ytbofepgnakbohaa
