/- The statement FnExactQuadValid is proved: the law answers true whatever the input; under no condition. -/
import Derived.Test.YtbofepgnakbohaaRows
import Derived.Test.YtbofepgnakbohaaFFnExactQuadValid
import Derived.Test.YtbofepgnakbohaaTvRow
import Derived.KernelRfl
namespace Go.Proofs.Ytbofepgnakbohaa.fnExactQuadValid
open Go Go.Vs Go.Tv Go.ChangeShapes Go.WideShapes Go.ChangeAt Go.RowKit Go.TFnExactQuadValid
open Go.ChangeMaps (open_string shut_string)
set_option linter.unusedVariables false
theorem own : ownKnob Try.prog.godebug = none := by kernel_rfl
theorem laidOut : laidOutB Try.prog = true := by kernel_rfl
def fids : List (Nat × Nat) := [(1000, 50), (1600, 42), (1700, 47), (5000, 49), (6400, 46), (11800, 60), (11900, 45), (12000, 17), (12100, 18), (12200, 48), (12300, 19), (12400, 6)]
noncomputable def ctx : Ctx := { P := Try.prog, fid := fun g => (Vs.look g fids).getD 0, gm := fun _ => 0, G := GA GT }
theorem ok1000 : okFn ctx (FA Tb) 8 p1000.er Try.f50 = true := by kernel_rfl
theorem ok1600 : okFn ctx (FA Tb) 8 p1600.er Try.f42 = true := by kernel_rfl
theorem ok1700 : okFn ctx (FA Tb) 8 p1700.er Try.f47 = true := by kernel_rfl
theorem ok5000 : okFn ctx (FA Tb) 8 p5000.er Try.f49 = true := by kernel_rfl
theorem ok6400 : okFn ctx (FA Tb) 8 p6400.er Try.f46 = true := by kernel_rfl
theorem ok11800 : okFn ctx (FA Tb) 8 p11800.er Try.f60 = true := by kernel_rfl
theorem ok11900 : okFn ctx (FA Tb) 8 p11900.er Try.f45 = true := by kernel_rfl
theorem ok12000 : okFn ctx (FA Tb) 8 p12000.er Try.f17 = true := by kernel_rfl
theorem ok12100 : okFn ctx (FA Tb) 8 p12100.er Try.f18 = true := by kernel_rfl
theorem ok12200 : okFn ctx (FA Tb) 8 p12200.er Try.f48 = true := by kernel_rfl
theorem ok12300 : okFn ctx (FA Tb) 8 p12300.er Try.f19 = true := by kernel_rfl
theorem ok12400 : okFn ctx (FA Tb) 8 p12400.er Try.f6 = true := by kernel_rfl
theorem at1000 : ctx.P.funcs[ctx.fid 1000]? = some Try.f50 := by
  have e : ctx.fid 1000 = 50 := by kernel_rfl
  rw [e]; exact Try.func50
theorem at1600 : ctx.P.funcs[ctx.fid 1600]? = some Try.f42 := by
  have e : ctx.fid 1600 = 42 := by kernel_rfl
  rw [e]; exact Try.func42
theorem at1700 : ctx.P.funcs[ctx.fid 1700]? = some Try.f47 := by
  have e : ctx.fid 1700 = 47 := by kernel_rfl
  rw [e]; exact Try.func47
theorem at5000 : ctx.P.funcs[ctx.fid 5000]? = some Try.f49 := by
  have e : ctx.fid 5000 = 49 := by kernel_rfl
  rw [e]; exact Try.func49
theorem at6400 : ctx.P.funcs[ctx.fid 6400]? = some Try.f46 := by
  have e : ctx.fid 6400 = 46 := by kernel_rfl
  rw [e]; exact Try.func46
theorem at11800 : ctx.P.funcs[ctx.fid 11800]? = some Try.f60 := by
  have e : ctx.fid 11800 = 60 := by kernel_rfl
  rw [e]; exact Try.func60
theorem at11900 : ctx.P.funcs[ctx.fid 11900]? = some Try.f45 := by
  have e : ctx.fid 11900 = 45 := by kernel_rfl
  rw [e]; exact Try.func45
theorem at12000 : ctx.P.funcs[ctx.fid 12000]? = some Try.f17 := by
  have e : ctx.fid 12000 = 17 := by kernel_rfl
  rw [e]; exact Try.func17
theorem at12100 : ctx.P.funcs[ctx.fid 12100]? = some Try.f18 := by
  have e : ctx.fid 12100 = 18 := by kernel_rfl
  rw [e]; exact Try.func18
theorem at12200 : ctx.P.funcs[ctx.fid 12200]? = some Try.f48 := by
  have e : ctx.fid 12200 = 48 := by kernel_rfl
  rw [e]; exact Try.func48
theorem at12300 : ctx.P.funcs[ctx.fid 12300]? = some Try.f19 := by
  have e : ctx.fid 12300 = 19 := by kernel_rfl
  rw [e]; exact Try.func19
theorem at12400 : ctx.P.funcs[ctx.fid 12400]? = some Try.f6 := by
  have e : ctx.fid 12400 = 6 := by kernel_rfl
  rw [e]; exact Try.func6
theorem laid : Laid ctx (FA Tb) := by
  refine laidT (l := tab) (by kernel_rfl) ?_
  have e : tab.map (fun x => (x.1, x.2.er)) = [(1000, p1000.er), (1600, p1600.er), (1700, p1700.er), (5000, p5000.er), (6400, p6400.er), (11800, p11800.er), (11900, p11900.er), (12000, p12000.er), (12100, p12100.er), (12200, p12200.er), (12300, p12300.er), (12400, p12400.er)] := by kernel_rfl
  rw [e]
  exact ⟨fun _ => okFn_spec at1000 ok1000, ⟨fun _ => okFn_spec at1600 ok1600, ⟨fun _ => okFn_spec at1700 ok1700, ⟨fun _ => okFn_spec at5000 ok5000, ⟨fun _ => okFn_spec at6400 ok6400, ⟨fun _ => okFn_spec at11800 ok11800, ⟨fun _ => okFn_spec at11900 ok11900, ⟨fun _ => okFn_spec at12000 ok12000, ⟨fun _ => okFn_spec at12100 ok12100, ⟨fun _ => okFn_spec at12200 ok12200, ⟨fun _ => okFn_spec at12300 ok12300, ⟨fun _ => okFn_spec at12400 ok12400, trivial⟩⟩⟩⟩⟩⟩⟩⟩⟩⟩⟩⟩
theorem gok {W : World} : GOk ctx (memOf W) := by
  intro i
  show RepL ctx.fid (memOf W) (GA GT i) _
  simp [GA, GT, toAVs, RepL]
set_option maxRecDepth 100000 in
theorem lifted (os : Os) (started : os.Started) (H : Type) (enc : TypeId × Value → H) :
    ReturnsInHanded {} Try.checked os 6 .any (Rows.fnExactQuadValidSpec.pre6 enc Try.prog Try.f6 Rows.fnExactQuadValidRow.domain false) (Rows.fnExactQuadValidSpec.post enc Try.prog Try.f6 false true false false) := by
  refine returnsInHanded_of_change_sized (C := Try.checked) own started (by kernel_rfl) Try.func6
    (ChangeSpec.witness6 (enc := enc) (C := Try.checked) false ⟨#[], #[.agg #[.int .i64 0, .int .i64 0, .int .i64 0, .int .i64 0, .int .i64 0], .int .i64 0], []⟩ 8 (by kernel_rfl) (by kernel_rfl) (by kernel_rfl) (by kernel_rfl)) ?_
  intro W base args ds gs before hval0 hW hcnd hsz0 _
  have hval : ∀ (j : Nat) t v, Try.f6.params[j]? = some t → args[j]? = some v → Value.okWide Try.prog W .any base t v := hval0
  have hW' := hW
  obtain ⟨p, q, hA0, hV, rfl, hfz, hnd⟩ := hW
  have hA : DataW.TrodAll enc Try.prog W 0 (fun _ => true) true Try.f6.params.toList args.toList ds p := hA0
  rw [Try.params6] at hA hval
  obtain ⟨v0, vs0, d0, ds0, p0, q0, hargs, rfl, rfl, h0, r0⟩ := trodAll_cons hA
  obtain ⟨v1, vs1, d1, ds1, p1, q1, rfl, rfl, rfl, h1, r1⟩ := trodAll_cons r0
  obtain ⟨rfl, rfl, rfl⟩ := trodAll_nil r1
  obtain rfl : args = #[v0, v1] := by cases args; simp_all
  obtain ⟨rfl, rfl⟩ := trodVars_none hV
  have k0 := h0
  have lt0 : ∀ x ∈ p0, x.block < W.heap.size := by obtain ⟨m, hm⟩ := k0; exact DataW.trod_lt m _ _ _ hm
  obtain ⟨fu0, hf0⟩ := h0
  obtain ⟨a0, z0, w0⟩ := open_quad (fid := ctx.fid) (P := Try.prog) (t := 30) (by kernel_rfl) hf0
  have y0 := arg_agg Try.underlying29 (hval 0 30 v0 rfl rfl) z0
  obtain ⟨a1, rfl, rfl, rfl, w1⟩ := open_int Try.underlying3 (hval 1 3 v1 rfl rfl) h1
  have hE : callTy Tb GT boolSig 12400 [.agg (rowT .quad a0), .int .i64 a1] [] = some true := Go.TFnExactQuadValid.laws_FnExactQuadValid_eq a0 w0 a1 (bounds_i64 w1)
  have hrun := law_top (C := ctx) laid rfl (g := 12400) (by decide) (args := #[v0, (.int .i64 a1)]) gok rfl (by
    intro i c v hc hv
    match i, hc, hv with
    | 0, hc, hv => simp at hc hv; subst hc hv; exact y0
    | 1, hc, hv => simp at hc hv; subst hc hv; exact arg_int
    | i + 2, hc, _ => simp at hc) hE
  have efid : ctx.fid 12400 = 6 := by kernel_rfl
  rw [efid] at hrun
  refine hrun.mono fun e W' ⟨he, bel⟩ => ?_
  subst he
  exact ⟨_, rfl, _, _, _, [], _, [], hW', trodAll_mk1 (shut_bool Try.underlying4 _), (trodAll_cons_mk (Below.trod laidOut (by kernel_rfl) (of_decide_eq_true (by kernel_rfl)) k0 bel lt0) (trodAll_cons_mk (shut_int Try.underlying3 w1) trodAll_mk0)), rfl, bel.frame _, fun h => by cases h⟩
theorem over : Rows.fnExactQuadValidRow.holds Try.pinned (OpenSpec.ofChange Rows.fnExactQuadValidSpec) :=
  OpenClaim.holds_of_wide 6 Try.f6 rfl rfl rfl rfl rfl rfl rfl ⟨rfl, rfl, rfl, rfl, rfl⟩ rfl rfl rfl rfl rfl (by kernel_rfl) Try.func6 (by kernel_rfl)
    (of_decide_eq_true (by kernel_rfl)) (by unfold Func.isWrapper; first | (rw [if_pos (by decide +kernel)]; kernel_rfl) | (rw [if_neg (by decide +kernel)]; exact ⟨rfl, rfl⟩))
    (fun os started H enc _ => lifted os started H enc)
end Go.Proofs.Ytbofepgnakbohaa.fnExactQuadValid
namespace Go.Proofs.Ytbofepgnakbohaa
/-- The row. -/
theorem fnExactQuadValid_holds : Rows.FnExactQuadValidSaid := fnExactQuadValid.over
#print axioms fnExactQuadValid_holds
end Go.Proofs.Ytbofepgnakbohaa
