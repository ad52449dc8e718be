-- made by wip/tools/myprint.py (this session's own program, over the kit's printer)
import Derived.Test.YthbeplmihjhoeaaDoorRows
import Derived.Test.YthbeplmihjhoeaaDoorFactsFnExactRunFleet
import Derived.Test.YthbeplmihjhoeaaDoorQFnExactRunFleet
import Derived.Test.YthbeplmihjhoeaaDoorPureFnExactRunFleet
import Derived.WalkKit
import Derived.ProofKit
import Derived.OpenShut
import Derived.ShutString
import Derived.ChangeOld
import Derived.Below
import Derived.SizedLaws
import Derived.Test.YthbeplmihjhoeaaDoorCards
import Derived.Test.YthbeplmihjhoeaaDoorTie
import Derived.Test.YthbeplmihjhoeaaDoorLaid
import Derived.Lay
import Derived.LaidMore
import Derived.LaidOnce
import Derived.SevenTiedAt
import Derived.Stop.Joined
namespace Go.Proofs.YthbeplmihjhoeaaDoor.fnExactRunFleet
open Go.ChangeShapes Go.WideShapes Go.ChangeAt Go.RowKit Go.Proofs.YthbeplmihjhoeaaDoor.PFnExactRunFleet Go.Proofs.YthbeplmihjhoeaaDoorW.PrintWords Go.Proofs.YthbeplmihjhoeaaDoorW.PrintLast Go.Proofs.YthbeplmihjhoeaaDoorW.PrintMore
open Go.ChangeMaps (open_string shut_string)
set_option linter.unusedVariables false
theorem own : ownKnob Tryd.prog.godebug = none := by kernel_rfl
theorem laidOut : laidOutB Tryd.prog = true := by kernel_rfl
theorem opn185 (W : World) : Open.Opn Tryd.prog W 185 k185 wf185 :=
  Open.Opn.iso (fun x : S185 => (x.f0, (x.f1, x.f2))) (fun a => ⟨a.1, a.2.1, a.2.2⟩) (fun _ => rfl) (Open.Opn.struct Tryd.underlying185 (by kernel_rfl) (Open.OpnF.cons (by rfl) (by kernel_rfl) (Open.Opn.slice Tryd.underlying54 (by kernel_rfl) (Open.Opn.int Tryd.underlying5)) (Open.OpnF.cons (by rfl) (by kernel_rfl) (Open.Opn.int Tryd.underlying3) (Open.OpnF.last (by rfl) (by kernel_rfl) (Open.Opn.int Tryd.underlying3)))))
theorem opn136 (W : World) : Open.Opn Tryd.prog W 136 k136 wf136 :=
  Open.Opn.iso (fun x : S136 => (x.f0, (x.f1, (x.f2, (x.f3, x.f4))))) (fun a => ⟨a.1, a.2.1, a.2.2.1, a.2.2.2.1, a.2.2.2.2⟩) (fun _ => rfl) (Open.Opn.struct Tryd.underlying136 (by kernel_rfl) (Open.OpnF.cons (by rfl) (by kernel_rfl) (Open.Opn.int Tryd.underlying3) (Open.OpnF.cons (by rfl) (by kernel_rfl) (Open.Opn.int Tryd.underlying3) (Open.OpnF.cons (by rfl) (by kernel_rfl) (Open.Opn.int Tryd.underlying3) (Open.OpnF.cons (by rfl) (by kernel_rfl) (Open.Opn.int Tryd.underlying3) (Open.OpnF.last (by rfl) (by kernel_rfl) (Open.Opn.bool Tryd.underlying4)))))))
set_option maxHeartbeats 4000000 in
set_option maxRecDepth 100000 in
theorem lifted (os : Os) (started : os.Started) (H : Type) (enc : TypeId × Value → H) :
    ReturnsInHanded {} Tryd.checked os 10 .any (fun w args => (Rows.fnExactRunFleetSpec.pre enc Tryd.prog Tryd.f10 [] false w args ∧ laidMetH Tryd.prog Rows.fnExactRunFleetRow.laid w) ∧ sizedMet enc Tryd.prog Tryd.f10 (OpenSpec.ofChange Rows.fnExactRunFleetSpec) false w args)
      (Rows.fnExactRunFleetSpec.post enc Tryd.prog Tryd.f10 false true false false) := by
  refine returnsInHanded_of_change_and (C := Tryd.checked) (X := fun w _ => laidMetH Tryd.prog Rows.fnExactRunFleetRow.laid w) (fun _ _ _ hh h => h.of_heap hh) own started (by kernel_rfl) Tryd.func10
    (ChangeSpec.witness_shaped (enc := enc) (C := Tryd.checked) (os := os) (X := fun w _ => laidMetH Tryd.prog Rows.fnExactRunFleetRow.laid w) false (World.laidAll Tryd.prog os Rows.fnExactRunFleetRow.laid) #[.agg #[.int .i64 0, .int .i64 0, .slice none 0 0, .slice none 0 0, .slice none 0 0], .slice none 0 0, .int .i64 0] 8 (World.laidAll_os _ _ _)
      (World.shaped_of_ZipB (by kernel_rfl) (by kernel_rfl)) (by kernel_rfl) (by kernel_rfl) (by kernel_rfl)
      (by rw [MakeChecks.laidMetH_plain _ _ _ (by kernel_rfl)]; exact laidMet_laidAll _ (by kernel_rfl) (by kernel_rfl))) ?_
  intro W base args ds gs before hval0 hW _ _ hL _
  rw [MakeChecks.laidMetH_plain _ _ _ (by kernel_rfl)] at hL
  have hLW : LaidW W := LaidW.of_reads (Lib.laidMet.reads hL (.tail _ (.head _))) (Lib.laidMet.reads hL (.head _)) (by kernel_rfl) (by kernel_rfl)
  have hval : ∀ (j : Nat) t v, Tryd.f10.params[j]? = some t → args[j]? = some v → Value.okWide Tryd.prog W .any base t v := hval0
  have hW' := hW
  obtain ⟨p, q, hA0, hV, rfl, hfz, hnd⟩ := hW
  have hA : DataW.TrodAll enc Tryd.prog W 0 (fun _ => true) true Tryd.f10.params.toList args.toList ds p := hA0
  rw [Tryd.params10] at hA hval
  obtain ⟨v0, vs0, d0, ds0, p0, q0, hargs, rfl, rfl, h0, r0⟩ := trodAll_cons hA
  obtain ⟨v1, vs1, d1, ds1, p1, q1, rfl, rfl, rfl, h1, r1⟩ := trodAll_cons r0
  obtain ⟨v2, vs2, d2, ds2, p2, q2, rfl, rfl, rfl, h2, r2⟩ := trodAll_cons r1
  obtain ⟨rfl, rfl, rfl⟩ := trodAll_nil r2
  obtain rfl : args = #[v0, v1, v2] := by cases args; simp_all
  obtain ⟨rfl, rfl⟩ := trodVars_none hV
  have k0 := h0
  have lt0 : ∀ x ∈ p0, x.block < W.heap.size := by obtain ⟨m, hm⟩ := k0; exact DataW.trod_lt m _ _ _ hm
  obtain ⟨⟨a0_0, a0_1, l0_2, l0_3, l0_4⟩, kx0, ⟨w0_0, w0_1, w0_2, w0_3, w0_4⟩⟩ : ∃ a, ((Kd.pair (Kd.int .i64) (Kd.pair (Kd.int .i64) (Kd.pair (Kd.slice 185 k185) (Kd.pair (Kd.slice 22 (Kd.slice 3 (Kd.int .i64))) (Kd.slice 22 (Kd.slice 3 (Kd.int .i64)))))))).K W a v0.cells.toList ∧ (Open.wfP (Open.wfI .i64) (Open.wfP (Open.wfI .i64) (Open.wfP (Open.wfL wf185) (Open.wfP (Open.wfL (Open.wfL (Open.wfI .i64))) (Open.wfL (Open.wfL (Open.wfI .i64))))))) a := by obtain ⟨fuel, hf⟩ := h0; exact ((Open.Opn.struct Tryd.underlying42 (by kernel_rfl) (Open.OpnF.cons (by rfl) (by kernel_rfl) (Open.Opn.int Tryd.underlying3) (Open.OpnF.cons (by rfl) (by kernel_rfl) (Open.Opn.int Tryd.underlying3) (Open.OpnF.cons (by rfl) (by kernel_rfl) (Open.Opn.slice Tryd.underlying23 (by kernel_rfl) (opn185 W)) (Open.OpnF.cons (by rfl) (by kernel_rfl) (Open.Opn.slice Tryd.underlying40 (by kernel_rfl) (Open.Opn.slice Tryd.underlying22 (by kernel_rfl) (Open.Opn.int Tryd.underlying3))) (Open.OpnF.last (by rfl) (by kernel_rfl) (Open.Opn.slice Tryd.underlying40 (by kernel_rfl) (Open.Opn.slice Tryd.underlying22 (by kernel_rfl) (Open.Opn.int Tryd.underlying3))))))))) : Open.Opn Tryd.prog W 42 _ (Open.wfP (Open.wfI .i64) (Open.wfP (Open.wfI .i64) (Open.wfP (Open.wfL wf185) (Open.wfP (Open.wfL (Open.wfL (Open.wfI .i64))) (Open.wfL (Open.wfL (Open.wfI .i64)))))))) H enc _ _ fuel _ _ hf
  obtain ⟨cs0, rfl, _⟩ := okWide_struct Tryd.underlying42 (hval 0 42 v0 rfl rfl)
  obtain ⟨_, _, ecs0, rfl, ⟨_, _, rfl, rfl, ⟨_, _, rfl, ⟨A0_2, c0_2, rfl, hc0_2, hr0_2⟩, ⟨_, _, rfl, ⟨A0_3, c0_3, rfl, hc0_3, hr0_3⟩, ⟨A0_4, c0_4, rfl, hc0_4, hr0_4⟩⟩⟩⟩⟩ := kx0
  obtain rfl : cs0 = #[.int .i64 a0_0, .int .i64 a0_1, .slice A0_2 l0_2.length c0_2, .slice A0_3 l0_3.length c0_3, .slice A0_4 l0_4.length c0_4] := by obtain ⟨l⟩ := cs0; simpa [Value.cells] using ecs0
  have k1 := h1
  have lt1 : ∀ x ∈ p1, x.block < W.heap.size := by obtain ⟨m, hm⟩ := k1; exact DataW.trod_lt m _ _ _ hm
  obtain ⟨l1, kx1, w1⟩ : ∃ a, ((Kd.slice 136 k136)).K W a v1.cells.toList ∧ (Open.wfL wf136) a := by obtain ⟨fuel, hf⟩ := h1; exact ((Open.Opn.slice Tryd.underlying63 (by kernel_rfl) (opn136 W)) : Open.Opn Tryd.prog W 63 _ (Open.wfL wf136)) H enc _ _ fuel _ _ hf
  obtain ⟨a1, len1, cap1, rfl⟩ := okWide_slice Tryd.underlying63 (hval 1 63 v1 rfl rfl)
  obtain ⟨A1, c1, ecs1, hc1, hr1⟩ := kx1
  simp [Value.cells] at ecs1
  obtain ⟨rfl, rfl, rfl⟩ := ecs1
  obtain ⟨a2, rfl, rfl, rfl, w2⟩ := open_int Tryd.underlying3 (hval 2 3 v2 rfl rfl) h2
  clear hA0 hval0
  obtain ⟨k, hk⟩ := (Pure.FnExactRunFleet : laws_FnExactRunFleet.Pure) a0_0 a0_1 l0_2 l0_3 l0_4 l1 a2 w0_0 w0_1 w0_2 w0_3 w0_4 w1 w2
  refine (laws_FnExactRunFleet.calls k a0_0 a0_1 _ _ l0_2 _ _ l0_3 _ _ l0_4 _ _ l1 a2 true W hr0_2 hc0_2 hr0_3 hc0_3 hr0_4 hc0_4 hr1 hc1 hLW hk rfl).mono fun e W' ⟨he, bel0⟩ => ?_
  have bel : Below W.heap.size W W' := bel0
  subst he
  exact ⟨_, rfl, _, _, _, [], _, [], hW', trodAll_mk1 (shut_bool Tryd.underlying4 _), (trodAll_cons_mk (Below.trod laidOut (by kernel_rfl) (of_decide_eq_true (by kernel_rfl)) k0 bel lt0) (trodAll_cons_mk (Below.trod laidOut (by kernel_rfl) (of_decide_eq_true (by kernel_rfl)) k1 bel lt1) (trodAll_cons_mk (shut_int Tryd.underlying3 w2) trodAll_mk0))), rfl, bel.frame _, fun h => by cases h⟩
theorem over : Rows.fnExactRunFleetRow.holds Tryd.pinned (OpenSpec.ofChange Rows.fnExactRunFleetSpec) :=
  OpenClaim.holds_of_wide 10 Tryd.f10 rfl rfl rfl rfl rfl rfl rfl ⟨rfl, rfl, rfl, rfl, rfl⟩ rfl rfl rfl rfl rfl (by kernel_rfl) Tryd.func10 fnExactRunFleetFacts.facts
    (of_decide_eq_true (by kernel_rfl)) (by unfold Func.isWrapper; first | (rw [if_pos (by decide +kernel)]; kernel_rfl) | (rw [if_neg (by decide +kernel)]; exact ⟨rfl, rfl⟩))
    (fun os started H enc _ => lifted os started H enc)
theorem c0 : true = Tryd.pinned.checked.prog.looks [] := by kernel_rfl
theorem c1 : OpenClaim.wfByText (OpenSpec.ofChange Rows.fnExactRunFleetSpec) Rows.fnExactRunFleetRow = true := by kernel_rfl
theorem c2 : Tryd.pinned.checked.prog.mainIs = some (true, "adb0f116edee3cc35478d294ee65188c076e59841fde0388112f6d417e5bdb6b".toList) := by kernel_rfl
theorem c3 : false = Rows.fnExactRunFleetRow.goesBy Tryd.pinned.checked.prog := by kernel_rfl
theorem c4 : Tryd.prog.funcNamed Rows.fnExactRunFleetRow.func = some 10 := by kernel_rfl
theorem card : Rows.FnExactRunFleetCardSaid :=
  Claim7.holds_tied_plain_at .later [] [.data, .pinned] true (true, "adb0f116edee3cc35478d294ee65188c076e59841fde0388112f6d417e5bdb6b") true
    over (fun _ h => by cases h) c1 (fun _ h => by cases h) fnExactRunFleet_row_tie rfl ⟨rfl, rfl⟩ c2 rfl
    (fun f fn hf hfn => by
      obtain rfl : f = 10 := Option.some.inj (c4.symm.trans hf) |>.symm
      obtain rfl : fn = Tryd.f10 := (Option.some.inj (Tryd.func10.symm.trans hfn)).symm
      exact ⟨c0, fun j t ht => by
        rw [Tryd.params10] at ht
        have hm : t ∈ [42, 63, 3] := by simpa using Array.mem_of_getElem? ht
        have hall : ([42, 63, 3].all fun u => !Tryd.prog.wantsStandIn u) = true := by kernel_rfl
        exact (show Tryd.prog.wantsStandIn t = false by simpa using List.all_eq_true.1 hall t hm)⟩)
    c3
theorem proved : Rows.FnExactRunFleetCardSaid := card
#print axioms proved
end Go.Proofs.YthbeplmihjhoeaaDoor.fnExactRunFleet
namespace Go.Proofs.YthbeplmihjhoeaaDoor
/-- The row, under a short name, for the claim. -/
theorem fnExactRunFleet_holds : Rows.FnExactRunFleetCardSaid := fnExactRunFleet.proved
end Go.Proofs.YthbeplmihjhoeaaDoor
