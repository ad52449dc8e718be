/- The closed facts of one row, by computation: no condition. -/
import Derived.Test.YtibipjpmeekifaaDoorRows
import Derived.ProofKit
import Derived.HandedFrom
namespace Go.Proofs.YtibipjpmeekifaaDoor.fnExactLayoutDeclsFacts
theorem band {a b : Bool} (h : a = true) (k : b = true) : (a && b) = true := by rw [h, k]; rfl
noncomputable abbrev P := Tryd.pinned.checked.prog
noncomputable abbrev F := Tryd.f3
noncomputable abbrev r := Rows.fnExactLayoutDeclsRow
noncomputable abbrev s := Rows.fnExactLayoutDeclsSpec
theorem f0 : (r.wf (OpenSpec.ofChange s)) = true := by kernel_rfl
theorem f1 : (laidOutB P) = true := by kernel_rfl
theorem f2 : (mapsRowed P) = true := by kernel_rfl
theorem f3 : (F.params.all (P.readableRec ·)) = true := by kernel_rfl
theorem f4 : (namedTie P r.named s.vars) = true := by kernel_rfl
theorem f5 : ((r.stops == [])) = true := by kernel_rfl
theorem f6 : ((P.stops == [])) = true := by kernel_rfl
theorem f7 : ((r.knobs == [])) = true := by kernel_rfl
theorem f8 : ((P.stopKnobs == [])) = true := by kernel_rfl
theorem f9 : ((r.inPlace == P.inPlace 3)) = true := by kernel_rfl
theorem f10 : ((r.unfollowed == P.unfollowed 3)) = true := by kernel_rfl
theorem f11 : ((r.recurses == P.recurses 3)) = true := by kernel_rfl
theorem f12 : ((r.named == P.varsNamed 3)) = true := by kernel_rfl
theorem f13 : ((r.maps == (F.params.toList ++ s.plain.varTypes P).any (P.mapsRec ·))) = true := by kernel_rfl
theorem f14 : ((r.ifaces == (F.params.toList ++ s.plain.varTypes P).any (P.ifacesRec ·))) = true := by kernel_rfl
theorem f15 : ((r.mapsOut == P.mapsAmong F.resultTypes.toList)) = true := by kernel_rfl
theorem f16 : ((r.loops == (F.params.toList ++ s.plain.varTypes P).any (P.loopsFrom ·))) = true := by kernel_rfl
theorem f17 : ((r.wideKeys == (F.params.toList ++ s.plain.varTypes P ++ F.resultTypes.toList).any (P.wideKeysFrom ·))) = true := by kernel_rfl
theorem f18 : (s.vars.all (P.varReadable ·)) = true := by kernel_rfl
theorem f19 : (F.resultTypes.all (fun t => P.readableRec t && decide (t < P.types.size))) = true := by kernel_rfl
theorem f20 : ((r.ifacesOut == F.resultTypes.toList.any (P.ifacesRec ·))) = true := by kernel_rfl
theorem f21 : ((r.loopsOut == F.resultTypes.toList.any (P.loopsFrom ·))) = true := by kernel_rfl
theorem f22 : ((r.plainKeys == P.plainKeys)) = true := by kernel_rfl
theorem f23 : (r.shortTexts.isNone) = true := by kernel_rfl
theorem f24 : (P.stopsHeard) = true := by kernel_rfl
theorem f25 : (P.mayEnter) = true := by kernel_rfl
theorem f26 : ((r.lifted == P.liftsFinal)) = true := by kernel_rfl
theorem f27 : ((P.make == some r.make)) = true := by kernel_rfl
theorem f28 : ((r.kinds == (if r.domain.isEmpty then [] else F.params.toList.map fun t => match P.underlying t with | some (.int k) => some k | _ => none))) = true := by kernel_rfl
theorem f29 : ((r.pinned == r.pinnedBy)) = true := by kernel_rfl
theorem f30 : ((r.veiled == (F.params.toList ++ s.plain.varTypes P ++ F.resultTypes.toList).any (P.veiledRec ·))) = true := by kernel_rfl
theorem f31 : (r.veiledFits P F.params.toList (F.params.toList ++ s.plain.varTypes P ++ F.resultTypes.toList)) = true := by kernel_rfl
set_option maxRecDepth 100000 in
theorem facts : joinedFacts Tryd.pinned.checked.prog 3 Tryd.f3 Rows.fnExactLayoutDeclsSpec Rows.fnExactLayoutDeclsRow = true := by
  unfold joinedFacts
  exact (band (band (band (band (band (band (band (band (band (band (band (band (band (band (band (band (band (band (band (band (band (band (band (band (band (band (band (band (band (band (band f0 f1) f2) f3) f4) f5) f6) f7) f8) f9) f10) f11) f12) f13) f14) f15) f16) f17) f18) f19) f20) f21) f22) f23) f24) f25) f26) f27) f28) f29) f30) f31)
end Go.Proofs.YtibipjpmeekifaaDoor.fnExactLayoutDeclsFacts
