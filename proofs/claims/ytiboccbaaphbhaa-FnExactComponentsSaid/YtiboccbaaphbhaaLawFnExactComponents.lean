-- made by wip/tools/myprint.py (this session's own program, over the kit's printer)
import Derived.Test.YtiboccbaaphbhaaRows
import Derived.Test.YtiboccbaaphbhaaFactsFnExactComponents
import Derived.Test.YtiboccbaaphbhaaQFnExactComponents
import Derived.Test.YtiboccbaaphbhaaPureFnExactComponents
import Derived.WalkKit
import Derived.ProofKit
import Derived.OpenShut
import Derived.ShutString
import Derived.ChangeOld
import Derived.Below
import Derived.SizedLaws
namespace Go.Proofs.Ytiboccbaaphbhaa.fnExactComponents
open Go.ChangeShapes Go.WideShapes Go.ChangeAt Go.RowKit Go.Proofs.Ytiboccbaaphbhaa.PFnExactComponents Go.Proofs.YtiboccbaaphbhaaW.PrintWords Go.Proofs.YtiboccbaaphbhaaW.PrintLast Go.Proofs.YtiboccbaaphbhaaW.PrintMore
open Go.ChangeMaps (open_string shut_string)
set_option linter.unusedVariables false
theorem own : ownKnob Try.prog.godebug = none := by kernel_rfl
theorem laidOut : laidOutB Try.prog = true := by kernel_rfl
set_option maxHeartbeats 4000000 in
set_option maxRecDepth 100000 in
theorem lifted (os : Os) (started : os.Started) (H : Type) (enc : TypeId × Value → H) :
    ReturnsInHanded {} Try.checked os 6 .any (Rows.fnExactComponentsSpec.pre6 enc Try.prog Try.f6 Rows.fnExactComponentsRow.domain false) (Rows.fnExactComponentsSpec.post enc Try.prog Try.f6 false true false false) := by
  refine returnsInHanded_of_change_sized (C := Try.checked) own started (by kernel_rfl) Try.func6
    (ChangeSpec.witness6 (enc := enc) (C := Try.checked) false ⟨#[], #[.agg #[.int .i64 0, .slice none 0 0, .slice none 0 0, .slice none 0 0, .slice none 0 0]], []⟩ 8 (by kernel_rfl) (by kernel_rfl) (by kernel_rfl) (by kernel_rfl)) ?_
  intro W base args ds gs before hval0 hW hcnd hsz0 _
  have hval : ∀ (j : Nat) t v, Try.f6.params[j]? = some t → args[j]? = some v → Value.okWide Try.prog W .any base t v := hval0
  have hW' := hW
  obtain ⟨p, q, hA0, hV, rfl, hfz, hnd⟩ := hW
  have hA : DataW.TrodAll enc Try.prog W 0 (fun _ => true) true Try.f6.params.toList args.toList ds p := hA0
  rw [Try.params6] at hA hval
  obtain ⟨v0, vs0, d0, ds0, p0, q0, hargs, rfl, rfl, h0, r0⟩ := trodAll_cons hA
  obtain ⟨rfl, rfl, rfl⟩ := trodAll_nil r0
  obtain rfl : args = #[v0] := by cases args; simp_all
  obtain ⟨rfl, rfl⟩ := trodVars_none hV
  have k0 := h0
  have lt0 : ∀ x ∈ p0, x.block < W.heap.size := by obtain ⟨m, hm⟩ := k0; exact DataW.trod_lt m _ _ _ hm
  obtain ⟨⟨a0_0, l0_1, l0_2, l0_3, l0_4⟩, kx0, ⟨w0_0, w0_1, w0_2, w0_3, w0_4⟩⟩ : ∃ a, ((Kd.pair (Kd.int .i64) (Kd.pair (Kd.slice 3 (Kd.int .i64)) (Kd.pair (Kd.slice 3 (Kd.int .i64)) (Kd.pair (Kd.slice 3 (Kd.int .i64)) (Kd.slice 3 (Kd.int .i64))))))).K W a v0.cells.toList ∧ (Open.wfP (Open.wfI .i64) (Open.wfP (Open.wfL (Open.wfI .i64)) (Open.wfP (Open.wfL (Open.wfI .i64)) (Open.wfP (Open.wfL (Open.wfI .i64)) (Open.wfL (Open.wfI .i64)))))) a := by obtain ⟨fuel, hf⟩ := h0; exact ((Open.Opn.struct Try.underlying24 (by kernel_rfl) (Open.OpnF.cons (by rfl) (by kernel_rfl) (Open.Opn.int Try.underlying3) (Open.OpnF.cons (by rfl) (by kernel_rfl) (Open.Opn.slice Try.underlying22 (by kernel_rfl) (Open.Opn.int Try.underlying3)) (Open.OpnF.cons (by rfl) (by kernel_rfl) (Open.Opn.slice Try.underlying22 (by kernel_rfl) (Open.Opn.int Try.underlying3)) (Open.OpnF.cons (by rfl) (by kernel_rfl) (Open.Opn.slice Try.underlying22 (by kernel_rfl) (Open.Opn.int Try.underlying3)) (Open.OpnF.last (by rfl) (by kernel_rfl) (Open.Opn.slice Try.underlying22 (by kernel_rfl) (Open.Opn.int Try.underlying3)))))))) : Open.Opn Try.prog W 24 _ (Open.wfP (Open.wfI .i64) (Open.wfP (Open.wfL (Open.wfI .i64)) (Open.wfP (Open.wfL (Open.wfI .i64)) (Open.wfP (Open.wfL (Open.wfI .i64)) (Open.wfL (Open.wfI .i64))))))) H enc _ _ fuel _ _ hf
  obtain ⟨cs0, rfl, _⟩ := okWide_struct Try.underlying24 (hval 0 24 v0 rfl rfl)
  obtain ⟨_, _, ecs0, rfl, ⟨_, _, rfl, ⟨A0_1, c0_1, rfl, hc0_1, hr0_1⟩, ⟨_, _, rfl, ⟨A0_2, c0_2, rfl, hc0_2, hr0_2⟩, ⟨_, _, rfl, ⟨A0_3, c0_3, rfl, hc0_3, hr0_3⟩, ⟨A0_4, c0_4, rfl, hc0_4, hr0_4⟩⟩⟩⟩⟩ := kx0
  obtain rfl : cs0 = #[.int .i64 a0_0, .slice A0_1 l0_1.length c0_1, .slice A0_2 l0_2.length c0_2, .slice A0_3 l0_3.length c0_3, .slice A0_4 l0_4.length c0_4] := by obtain ⟨l⟩ := cs0; simpa [Value.cells] using ecs0
  clear hA0 hval0
  obtain ⟨k, hk⟩ := (Pure.FnExactComponents : laws_FnExactComponents.Pure) a0_0 l0_1 l0_2 l0_3 l0_4 w0_0 w0_1 w0_2 w0_3 w0_4
  refine (laws_FnExactComponents.calls k a0_0 _ _ l0_1 _ _ l0_2 _ _ l0_3 _ _ l0_4 true W hr0_1 hc0_1 hr0_2 hc0_2 hr0_3 hc0_3 hr0_4 hc0_4 hk).mono fun e W' ⟨he, bel0⟩ => ?_
  have bel : Below W.heap.size W W' := bel0
  subst he
  exact ⟨_, rfl, _, _, _, [], _, [], hW', trodAll_mk1 (shut_bool Try.underlying4 _), (trodAll_cons_mk (Below.trod laidOut (by kernel_rfl) (of_decide_eq_true (by kernel_rfl)) k0 bel lt0) trodAll_mk0), rfl, bel.frame _, fun h => by cases h⟩
theorem over : Rows.fnExactComponentsRow.holds Try.pinned (OpenSpec.ofChange Rows.fnExactComponentsSpec) :=
  OpenClaim.holds_of_wide 6 Try.f6 rfl rfl rfl rfl rfl rfl rfl ⟨rfl, rfl, rfl, rfl, rfl⟩ rfl rfl rfl rfl rfl (by kernel_rfl) Try.func6 fnExactComponentsFacts.facts
    (of_decide_eq_true (by kernel_rfl)) (by unfold Func.isWrapper; first | (rw [if_pos (by decide +kernel)]; kernel_rfl) | (rw [if_neg (by decide +kernel)]; exact ⟨rfl, rfl⟩))
    (fun os started H enc _ => lifted os started H enc)
theorem proved : Rows.FnExactComponentsSaid := over
#print axioms proved
end Go.Proofs.Ytiboccbaaphbhaa.fnExactComponents
namespace Go.Proofs.Ytiboccbaaphbhaa
/-- The row, under a short name, for the claim. -/
theorem fnExactComponents_holds : Rows.FnExactComponentsSaid := fnExactComponents.proved
end Go.Proofs.Ytiboccbaaphbhaa
