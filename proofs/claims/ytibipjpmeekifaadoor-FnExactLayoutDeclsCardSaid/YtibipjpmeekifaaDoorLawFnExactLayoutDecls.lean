-- made by wip/tools/myprint.py (this session's own program, over the kit's printer)
import Derived.Test.YtibipjpmeekifaaDoorRows
import Derived.Test.YtibipjpmeekifaaDoorFactsFnExactLayoutDecls
import Derived.Test.YtibipjpmeekifaaDoorQFnExactLayoutDecls
import Derived.Test.YtibipjpmeekifaaDoorPureFnExactLayoutDecls
import Derived.WalkKit
import Derived.ProofKit
import Derived.OpenShut
import Derived.ShutString
import Derived.ChangeOld
import Derived.Below
import Derived.SizedLaws
import Derived.Test.YtibipjpmeekifaaDoorCards
import Derived.Test.YtibipjpmeekifaaDoorTie
import Derived.Test.YtibipjpmeekifaaDoorLaid
import Derived.Lay
import Derived.LaidMore
import Derived.LaidOnce
import Derived.SevenTiedAt
import Derived.Stop.Joined
namespace Go.Proofs.YtibipjpmeekifaaDoor.fnExactLayoutDecls
open Go.ChangeShapes Go.WideShapes Go.ChangeAt Go.RowKit Go.Proofs.YtibipjpmeekifaaDoor.PFnExactLayoutDecls Go.Proofs.YtibipjpmeekifaaDoorW.PrintWords Go.Proofs.YtibipjpmeekifaaDoorW.PrintLast Go.Proofs.YtibipjpmeekifaaDoorW.PrintMore
open Go.ChangeMaps (open_string shut_string)
set_option linter.unusedVariables false
theorem own : ownKnob Tryd.prog.godebug = none := by kernel_rfl
theorem laidOut : laidOutB Tryd.prog = true := by kernel_rfl
theorem opn61 (W : World) : Open.Opn Tryd.prog W 61 k61 wf61 :=
  Open.Opn.iso (fun x : S61 => (x.f0, (x.f1, x.f2))) (fun a => ⟨a.1, a.2.1, a.2.2⟩) (fun _ => rfl) (Open.Opn.struct Tryd.underlying61 (by kernel_rfl) (Open.OpnF.cons (by rfl) (by kernel_rfl) (Open.Opn.slice Tryd.underlying41 (by kernel_rfl) (Open.Opn.int Tryd.underlying5)) (Open.OpnF.cons (by rfl) (by kernel_rfl) (Open.Opn.int Tryd.underlying3) (Open.OpnF.last (by rfl) (by kernel_rfl) (Open.Opn.int Tryd.underlying3)))))
set_option maxHeartbeats 4000000 in
set_option maxRecDepth 100000 in
theorem lifted (os : Os) (started : os.Started) (H : Type) (enc : TypeId × Value → H) :
    ReturnsInHanded {} Tryd.checked os 3 .any (fun w args => (Rows.fnExactLayoutDeclsSpec.pre enc Tryd.prog Tryd.f3 [] false w args ∧ laidMetH Tryd.prog Rows.fnExactLayoutDeclsRow.laid w) ∧ sizedMet enc Tryd.prog Tryd.f3 (OpenSpec.ofChange Rows.fnExactLayoutDeclsSpec) false w args)
      (Rows.fnExactLayoutDeclsSpec.post enc Tryd.prog Tryd.f3 false true false false) := by
  refine returnsInHanded_of_change_and (C := Tryd.checked) (X := fun w _ => laidMetH Tryd.prog Rows.fnExactLayoutDeclsRow.laid w) (fun _ _ _ hh h => h.of_heap hh) own started (by kernel_rfl) Tryd.func3
    (ChangeSpec.witness_shaped (enc := enc) (C := Tryd.checked) (os := os) (X := fun w _ => laidMetH Tryd.prog Rows.fnExactLayoutDeclsRow.laid w) false (World.laidAll Tryd.prog os Rows.fnExactLayoutDeclsRow.laid) #[.agg #[.int .i64 0, .int .i64 0, .slice none 0 0, .slice none 0 0, .slice none 0 0]] 8 (World.laidAll_os _ _ _)
      (World.shaped_of_ZipB (by kernel_rfl) (by kernel_rfl)) (by kernel_rfl) (by kernel_rfl) (by kernel_rfl)
      (by rw [MakeChecks.laidMetH_plain _ _ _ (by kernel_rfl)]; exact laidMet_laidAll _ (by kernel_rfl) (by kernel_rfl))) ?_
  intro W base args ds gs before hval0 hW _ _ hL _
  rw [MakeChecks.laidMetH_plain _ _ _ (by kernel_rfl)] at hL
  have hLW : LaidW W := LaidW.of_reads (Lib.laidMet.reads hL (.tail _ (.head _))) (Lib.laidMet.reads hL (.head _)) (by kernel_rfl) (by kernel_rfl)
  have hval : ∀ (j : Nat) t v, Tryd.f3.params[j]? = some t → args[j]? = some v → Value.okWide Tryd.prog W .any base t v := hval0
  have hW' := hW
  obtain ⟨p, q, hA0, hV, rfl, hfz, hnd⟩ := hW
  have hA : DataW.TrodAll enc Tryd.prog W 0 (fun _ => true) true Tryd.f3.params.toList args.toList ds p := hA0
  rw [Tryd.params3] at hA hval
  obtain ⟨v0, vs0, d0, ds0, p0, q0, hargs, rfl, rfl, h0, r0⟩ := trodAll_cons hA
  obtain ⟨rfl, rfl, rfl⟩ := trodAll_nil r0
  obtain rfl : args = #[v0] := by cases args; simp_all
  obtain ⟨rfl, rfl⟩ := trodVars_none hV
  have k0 := h0
  have lt0 : ∀ x ∈ p0, x.block < W.heap.size := by obtain ⟨m, hm⟩ := k0; exact DataW.trod_lt m _ _ _ hm
  obtain ⟨⟨a0_0, a0_1, l0_2, l0_3, l0_4⟩, kx0, ⟨w0_0, w0_1, w0_2, w0_3, w0_4⟩⟩ : ∃ a, ((Kd.pair (Kd.int .i64) (Kd.pair (Kd.int .i64) (Kd.pair (Kd.slice 3 (Kd.int .i64)) (Kd.pair (Kd.slice 3 (Kd.int .i64)) (Kd.slice 61 k61)))))).K W a v0.cells.toList ∧ (Open.wfP (Open.wfI .i64) (Open.wfP (Open.wfI .i64) (Open.wfP (Open.wfL (Open.wfI .i64)) (Open.wfP (Open.wfL (Open.wfI .i64)) (Open.wfL wf61))))) a := by obtain ⟨fuel, hf⟩ := h0; exact ((Open.Opn.struct Tryd.underlying25 (by kernel_rfl) (Open.OpnF.cons (by rfl) (by kernel_rfl) (Open.Opn.int Tryd.underlying3) (Open.OpnF.cons (by rfl) (by kernel_rfl) (Open.Opn.int Tryd.underlying3) (Open.OpnF.cons (by rfl) (by kernel_rfl) (Open.Opn.slice Tryd.underlying22 (by kernel_rfl) (Open.Opn.int Tryd.underlying3)) (Open.OpnF.cons (by rfl) (by kernel_rfl) (Open.Opn.slice Tryd.underlying22 (by kernel_rfl) (Open.Opn.int Tryd.underlying3)) (Open.OpnF.last (by rfl) (by kernel_rfl) (Open.Opn.slice Tryd.underlying23 (by kernel_rfl) (opn61 W)))))))) : Open.Opn Tryd.prog W 25 _ (Open.wfP (Open.wfI .i64) (Open.wfP (Open.wfI .i64) (Open.wfP (Open.wfL (Open.wfI .i64)) (Open.wfP (Open.wfL (Open.wfI .i64)) (Open.wfL wf61)))))) H enc _ _ fuel _ _ hf
  obtain ⟨cs0, rfl, _⟩ := okWide_struct Tryd.underlying25 (hval 0 25 v0 rfl rfl)
  obtain ⟨_, _, ecs0, rfl, ⟨_, _, rfl, rfl, ⟨_, _, rfl, ⟨A0_2, c0_2, rfl, hc0_2, hr0_2⟩, ⟨_, _, rfl, ⟨A0_3, c0_3, rfl, hc0_3, hr0_3⟩, ⟨A0_4, c0_4, rfl, hc0_4, hr0_4⟩⟩⟩⟩⟩ := kx0
  obtain rfl : cs0 = #[.int .i64 a0_0, .int .i64 a0_1, .slice A0_2 l0_2.length c0_2, .slice A0_3 l0_3.length c0_3, .slice A0_4 l0_4.length c0_4] := by obtain ⟨l⟩ := cs0; simpa [Value.cells] using ecs0
  clear hA0 hval0
  obtain ⟨k, hk⟩ := (Pure.FnExactLayoutDecls : laws_FnExactLayoutDecls.Pure) a0_0 a0_1 l0_2 l0_3 l0_4 w0_0 w0_1 w0_2 w0_3 w0_4
  refine (laws_FnExactLayoutDecls.calls k a0_0 a0_1 _ _ l0_2 _ _ l0_3 _ _ l0_4 true W hr0_2 hc0_2 hr0_3 hc0_3 hr0_4 hc0_4 hLW hk rfl).mono fun e W' ⟨he, bel0⟩ => ?_
  have bel : Below W.heap.size W W' := bel0
  subst he
  exact ⟨_, rfl, _, _, _, [], _, [], hW', trodAll_mk1 (shut_bool Tryd.underlying4 _), (trodAll_cons_mk (Below.trod laidOut (by kernel_rfl) (of_decide_eq_true (by kernel_rfl)) k0 bel lt0) trodAll_mk0), rfl, bel.frame _, fun h => by cases h⟩
theorem over : Rows.fnExactLayoutDeclsRow.holds Tryd.pinned (OpenSpec.ofChange Rows.fnExactLayoutDeclsSpec) :=
  OpenClaim.holds_of_wide 3 Tryd.f3 rfl rfl rfl rfl rfl rfl rfl ⟨rfl, rfl, rfl, rfl, rfl⟩ rfl rfl rfl rfl rfl (by kernel_rfl) Tryd.func3 fnExactLayoutDeclsFacts.facts
    (of_decide_eq_true (by kernel_rfl)) (by unfold Func.isWrapper; first | (rw [if_pos (by decide +kernel)]; kernel_rfl) | (rw [if_neg (by decide +kernel)]; exact ⟨rfl, rfl⟩))
    (fun os started H enc _ => lifted os started H enc)
theorem c0 : false = Tryd.pinned.checked.prog.looks [] := by kernel_rfl
theorem c1 : OpenClaim.wfByText (OpenSpec.ofChange Rows.fnExactLayoutDeclsSpec) Rows.fnExactLayoutDeclsRow = true := by kernel_rfl
theorem c2 : Tryd.pinned.checked.prog.mainIs = some (true, "ef159514e4697e6640c98428c4abdafb1138e0d34f40c18fc3c3c4259a5df39a".toList) := by kernel_rfl
theorem c3 : false = Rows.fnExactLayoutDeclsRow.goesBy Tryd.pinned.checked.prog := by kernel_rfl
theorem c4 : Tryd.prog.funcNamed Rows.fnExactLayoutDeclsRow.func = some 3 := by kernel_rfl
theorem card : Rows.FnExactLayoutDeclsCardSaid :=
  Claim7.holds_tied_plain_at .later [] [.data, .pinned] true (true, "ef159514e4697e6640c98428c4abdafb1138e0d34f40c18fc3c3c4259a5df39a") false
    over (fun _ h => by cases h) c1 (fun _ h => by cases h) fnExactLayoutDecls_row_tie rfl ⟨rfl, rfl⟩ c2 rfl
    (fun f fn hf hfn => by
      obtain rfl : f = 3 := Option.some.inj (c4.symm.trans hf) |>.symm
      obtain rfl : fn = Tryd.f3 := (Option.some.inj (Tryd.func3.symm.trans hfn)).symm
      exact ⟨c0, fun j t ht => by
        rw [Tryd.params3] at ht
        have hm : t ∈ [25] := by simpa using Array.mem_of_getElem? ht
        have hall : ([25].all fun u => !Tryd.prog.wantsStandIn u) = true := by kernel_rfl
        exact (show Tryd.prog.wantsStandIn t = false by simpa using List.all_eq_true.1 hall t hm)⟩)
    c3
theorem proved : Rows.FnExactLayoutDeclsCardSaid := card
#print axioms proved
end Go.Proofs.YtibipjpmeekifaaDoor.fnExactLayoutDecls
namespace Go.Proofs.YtibipjpmeekifaaDoor
/-- The row, under a short name, for the claim. -/
theorem fnExactLayoutDecls_holds : Rows.FnExactLayoutDeclsCardSaid := fnExactLayoutDecls.proved
end Go.Proofs.YtibipjpmeekifaaDoor
