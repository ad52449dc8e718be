-- made by wip/tools/myprint.py (this session's own program, over the kit's printer)
import Derived.Test.YtbnpkiokpnmphaaDoorRows
import Derived.Test.YtbnpkiokpnmphaaDoorFactsFnExactUnquoteText
import Derived.Test.YtbnpkiokpnmphaaDoorQFnExactUnquoteText
import Derived.Test.YtbnpkiokpnmphaaDoorPureFnExactUnquoteText
import Derived.WalkKit
import Derived.ProofKit
import Derived.OpenShut
import Derived.ShutString
import Derived.ChangeOld
import Derived.Below
import Derived.SizedLaws
import Derived.Test.YtbnpkiokpnmphaaDoorCards
import Derived.Test.YtbnpkiokpnmphaaDoorTie
import Derived.Test.YtbnpkiokpnmphaaDoorLaid
import Derived.Lay
import Derived.LaidMore
import Derived.LaidOnce
import Derived.SevenTiedAt
import Derived.Stop.Joined
namespace Go.Proofs.YtbnpkiokpnmphaaDoor.fnExactUnquoteText
open Go.ChangeShapes Go.WideShapes Go.ChangeAt Go.RowKit Go.Proofs.YtbnpkiokpnmphaaDoor.PFnExactUnquoteText Go.Proofs.YtbnpkiokpnmphaaDoorW.PrintWords Go.Proofs.YtbnpkiokpnmphaaDoorW.PrintLast Go.Proofs.YtbnpkiokpnmphaaDoorW.PrintMore
open Go.ChangeMaps (open_string shut_string)
set_option linter.unusedVariables false
theorem own : ownKnob Tryd.prog.godebug = none := by kernel_rfl
theorem laidOut : laidOutB Tryd.prog = true := by kernel_rfl
set_option maxHeartbeats 4000000 in
set_option maxRecDepth 100000 in
theorem lifted (os : Os) (started : os.Started) (H : Type) (enc : TypeId × Value → H) :
    ReturnsInHanded {} Tryd.checked os 3 .any (fun w args => (Rows.fnExactUnquoteTextSpec.pre enc Tryd.prog Tryd.f3 [] false w args ∧ laidMetH Tryd.prog Rows.fnExactUnquoteTextRow.laid w) ∧ sizedMet enc Tryd.prog Tryd.f3 (OpenSpec.ofChange Rows.fnExactUnquoteTextSpec) false w args)
      (Rows.fnExactUnquoteTextSpec.post enc Tryd.prog Tryd.f3 false true false false) := by
  refine returnsInHanded_of_change_and (C := Tryd.checked) (X := fun w _ => laidMetH Tryd.prog Rows.fnExactUnquoteTextRow.laid w) (fun _ _ _ hh h => h.of_heap hh) own started (by kernel_rfl) Tryd.func3
    (ChangeSpec.witness_shaped (enc := enc) (C := Tryd.checked) (os := os) (X := fun w _ => laidMetH Tryd.prog Rows.fnExactUnquoteTextRow.laid w) false (World.laidAll Tryd.prog os Rows.fnExactUnquoteTextRow.laid) #[.slice none 0 0] 8 (World.laidAll_os _ _ _)
      (World.shaped_of_ZipB (by kernel_rfl) (by kernel_rfl)) (by kernel_rfl) (by kernel_rfl) (by kernel_rfl)
      (by rw [MakeChecks.laidMetH_plain _ _ _ (by kernel_rfl)]; exact laidMet_laidAll _ (by kernel_rfl) (by kernel_rfl))) ?_
  intro W base args ds gs before hval0 hW _ _ hL _
  rw [MakeChecks.laidMetH_plain _ _ _ (by kernel_rfl)] at hL
  have hLW : LaidW W := LaidW.of_reads (Lib.laidMet.reads hL (.tail _ (.tail _ (.tail _ (.tail _ (.tail _ (.tail _ (.head _)))))))) (Lib.laidMet.reads hL (.tail _ (.tail _ (.tail _ (.head _))))) (Lib.laidMet.reads hL (.tail _ (.head _))) (by kernel_rfl) (by kernel_rfl) (by kernel_rfl)
  have hval : ∀ (j : Nat) t v, Tryd.f3.params[j]? = some t → args[j]? = some v → Value.okWide Tryd.prog W .any base t v := hval0
  have hW' := hW
  obtain ⟨p, q, hA0, hV, rfl, hfz, hnd⟩ := hW
  have hA : DataW.TrodAll enc Tryd.prog W 0 (fun _ => true) true Tryd.f3.params.toList args.toList ds p := hA0
  rw [Tryd.params3] at hA hval
  obtain ⟨v0, vs0, d0, ds0, p0, q0, hargs, rfl, rfl, h0, r0⟩ := trodAll_cons hA
  obtain ⟨rfl, rfl, rfl⟩ := trodAll_nil r0
  obtain rfl : args = #[v0] := by cases args; simp_all
  obtain ⟨rfl, rfl⟩ := trodVars_none hV
  have k0 := h0
  have lt0 : ∀ x ∈ p0, x.block < W.heap.size := by obtain ⟨m, hm⟩ := k0; exact DataW.trod_lt m _ _ _ hm
  obtain ⟨l0, kx0, w0⟩ : ∃ a, ((Kd.slice 5 (Kd.int .u8))).K W a v0.cells.toList ∧ (Open.wfL (Open.wfI .u8)) a := by obtain ⟨fuel, hf⟩ := h0; exact ((Open.Opn.slice Tryd.underlying22 (by kernel_rfl) (Open.Opn.int Tryd.underlying5)) : Open.Opn Tryd.prog W 22 _ (Open.wfL (Open.wfI .u8))) H enc _ _ fuel _ _ hf
  obtain ⟨a0, len0, cap0, rfl⟩ := okWide_slice Tryd.underlying22 (hval 0 22 v0 rfl rfl)
  obtain ⟨A0, c0, ecs0, hc0, hr0⟩ := kx0
  simp [Value.cells] at ecs0
  obtain ⟨rfl, rfl, rfl⟩ := ecs0
  clear hA0 hval0
  obtain ⟨k, hk⟩ := (Pure.FnExactUnquoteText : laws_FnExactUnquoteText.Pure) l0 w0
  refine (laws_FnExactUnquoteText.calls k _ _ l0 true W hr0 hc0 hLW hk rfl).mono fun e W' ⟨he, bel0⟩ => ?_
  have bel : Below W.heap.size W W' := bel0
  subst he
  exact ⟨_, rfl, _, _, _, [], _, [], hW', trodAll_mk1 (shut_bool Tryd.underlying4 _), (trodAll_cons_mk (Below.trod laidOut (by kernel_rfl) (of_decide_eq_true (by kernel_rfl)) k0 bel lt0) trodAll_mk0), rfl, bel.frame _, fun h => by cases h⟩
theorem over : Rows.fnExactUnquoteTextRow.holds Tryd.pinned (OpenSpec.ofChange Rows.fnExactUnquoteTextSpec) :=
  OpenClaim.holds_of_wide 3 Tryd.f3 rfl rfl rfl rfl rfl rfl rfl ⟨rfl, rfl, rfl, rfl, rfl⟩ rfl rfl rfl rfl rfl (by kernel_rfl) Tryd.func3 fnExactUnquoteTextFacts.facts
    (of_decide_eq_true (by kernel_rfl)) (by unfold Func.isWrapper; first | (rw [if_pos (by decide +kernel)]; kernel_rfl) | (rw [if_neg (by decide +kernel)]; exact ⟨rfl, rfl⟩))
    (fun os started H enc _ => lifted os started H enc)
theorem c0 : true = Tryd.pinned.checked.prog.looks [] := by kernel_rfl
theorem c1 : OpenClaim.wfByText (OpenSpec.ofChange Rows.fnExactUnquoteTextSpec) Rows.fnExactUnquoteTextRow = true := by kernel_rfl
theorem c2 : Tryd.pinned.checked.prog.mainIs = some (true, "ef2a8c6e641b628ca7dd15a467896e096022f96e056078bbd5e282c91ee7e7c5".toList) := by kernel_rfl
theorem c3 : false = Rows.fnExactUnquoteTextRow.goesBy Tryd.pinned.checked.prog := by kernel_rfl
theorem c4 : Tryd.prog.funcNamed Rows.fnExactUnquoteTextRow.func = some 3 := by kernel_rfl
theorem card : Rows.FnExactUnquoteTextCardSaid :=
  Claim7.holds_tied_plain_at .later [] [.data, .data, .data, .data, .sentinel, .sentinel, .pinned] true (true, "ef2a8c6e641b628ca7dd15a467896e096022f96e056078bbd5e282c91ee7e7c5") true
    over (fun _ h => by cases h) c1 (fun _ h => by cases h) fnExactUnquoteText_row_tie rfl ⟨rfl, rfl⟩ c2 rfl
    (fun f fn hf hfn => by
      obtain rfl : f = 3 := Option.some.inj (c4.symm.trans hf) |>.symm
      obtain rfl : fn = Tryd.f3 := (Option.some.inj (Tryd.func3.symm.trans hfn)).symm
      exact ⟨c0, fun j t ht => by
        rw [Tryd.params3] at ht
        have hm : t ∈ [22] := by simpa using Array.mem_of_getElem? ht
        have hall : ([22].all fun u => !Tryd.prog.wantsStandIn u) = true := by kernel_rfl
        exact (show Tryd.prog.wantsStandIn t = false by simpa using List.all_eq_true.1 hall t hm)⟩)
    c3
theorem proved : Rows.FnExactUnquoteTextCardSaid := card
#print axioms proved
end Go.Proofs.YtbnpkiokpnmphaaDoor.fnExactUnquoteText
namespace Go.Proofs.YtbnpkiokpnmphaaDoor
/-- The row, under a short name, for the claim. -/
theorem fnExactUnquoteText_holds : Rows.FnExactUnquoteTextCardSaid := fnExactUnquoteText.proved
end Go.Proofs.YtbnpkiokpnmphaaDoor
