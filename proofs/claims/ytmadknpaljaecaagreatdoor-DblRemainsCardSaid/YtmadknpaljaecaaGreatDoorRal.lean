import Derived.Test.YtmadknpaljaecaaGreatDoorCards
import Derived.KernelRfl
import Derived.Test.YtmadknpaljaecaaGreatDoorEak
set_option linter.all false
namespace Go.Proofs.YtmadknpaljaecaaGreatDoor
open Go.ChangeShapes Go.WideShapes Go.ChangeAt Go.RowKit
theorem remk0 : (Rows.dblRemainsRow.wf (OpenSpec.ofChange Rows.dblRemainsSpec)) = true := by kernel_rfl
theorem remk1 : (laidOutB Tryz.prog) = true := by kernel_rfl
theorem remk2 : (mapsRowed Tryz.prog) = true := by kernel_rfl
theorem remk3 : (Tryz.f8.params.all (Tryz.prog.readableRec ·)) = true := by kernel_rfl
theorem remk4 : (namedTie Tryz.prog Rows.dblRemainsRow.named Rows.dblRemainsSpec.vars) = true := by kernel_rfl
theorem remk5 : ((Rows.dblRemainsRow.stops == [])) = true := by kernel_rfl
theorem remk6 : ((Tryz.prog.stops == [])) = true := by kernel_rfl
theorem remk7 : ((Rows.dblRemainsRow.knobs == [])) = true := by kernel_rfl
theorem remk8 : ((Tryz.prog.stopKnobs == [])) = true := by kernel_rfl
theorem remk9 : ((Rows.dblRemainsRow.inPlace == Tryz.prog.inPlace 8)) = true := by kernel_rfl
theorem remk10 : ((Rows.dblRemainsRow.unfollowed == Tryz.prog.unfollowed 8)) = true := by kernel_rfl
theorem remk11 : ((Rows.dblRemainsRow.recurses == Tryz.prog.recurses 8)) = true := by kernel_rfl
theorem remk12 : ((Rows.dblRemainsRow.named == Tryz.prog.varsNamed 8)) = true := by kernel_rfl
theorem remk13 : ((Rows.dblRemainsRow.maps == (Tryz.f8.params.toList ++ Rows.dblRemainsSpec.plain.varTypes Tryz.prog).any (Tryz.prog.mapsRec ·))) = true := by kernel_rfl
theorem remk14 : ((Rows.dblRemainsRow.ifaces == (Tryz.f8.params.toList ++ Rows.dblRemainsSpec.plain.varTypes Tryz.prog).any (Tryz.prog.ifacesRec ·))) = true := by kernel_rfl
theorem remk15 : ((Rows.dblRemainsRow.mapsOut == Tryz.prog.mapsAmong Tryz.f8.resultTypes.toList)) = true := by kernel_rfl
theorem remk16 : ((Rows.dblRemainsRow.loops == (Tryz.f8.params.toList ++ Rows.dblRemainsSpec.plain.varTypes Tryz.prog).any (Tryz.prog.loopsFrom ·))) = true := by kernel_rfl
theorem remk17 : ((Rows.dblRemainsRow.wideKeys == (Tryz.f8.params.toList ++ Rows.dblRemainsSpec.plain.varTypes Tryz.prog ++ Tryz.f8.resultTypes.toList).any (Tryz.prog.wideKeysFrom ·))) = true := by kernel_rfl
theorem remk18 : (Rows.dblRemainsSpec.vars.all (Tryz.prog.varReadable ·)) = true := by kernel_rfl
theorem remk19 : (Tryz.f8.resultTypes.all (fun t => Tryz.prog.readableRec t && decide (t < Tryz.prog.types.size))) = true := by kernel_rfl
theorem remk20 : ((Rows.dblRemainsRow.ifacesOut == Tryz.f8.resultTypes.toList.any (Tryz.prog.ifacesRec ·))) = true := by kernel_rfl
theorem remk21 : ((Rows.dblRemainsRow.loopsOut == Tryz.f8.resultTypes.toList.any (Tryz.prog.loopsFrom ·))) = true := by kernel_rfl
theorem remk22 : ((Rows.dblRemainsRow.plainKeys == Tryz.prog.plainKeys)) = true := by kernel_rfl
theorem remk23 : (Rows.dblRemainsRow.shortTexts.isNone) = true := by kernel_rfl
theorem remk24 : (Tryz.prog.stopsHeard) = true := by kernel_rfl
theorem remk25 : (Tryz.prog.mayEnter) = true := by kernel_rfl
theorem remk26 : ((Rows.dblRemainsRow.lifted == Tryz.prog.liftsFinal)) = true := by kernel_rfl
theorem remk27 : ((Tryz.prog.make == some Rows.dblRemainsRow.make)) = true := by kernel_rfl
theorem remk28 : ((Rows.dblRemainsRow.kinds == (if Rows.dblRemainsRow.domain.isEmpty then [] else Tryz.f8.params.toList.map fun t => match Tryz.prog.underlying t with | some (.int k) => some k | _ => none))) = true := by kernel_rfl
theorem remk29 : ((Rows.dblRemainsRow.pinned == Rows.dblRemainsRow.pinnedBy)) = true := by kernel_rfl
theorem remk30 : ((Rows.dblRemainsRow.veiled == (Tryz.f8.params.toList ++ Rows.dblRemainsSpec.plain.varTypes Tryz.prog ++ Tryz.f8.resultTypes.toList).any (Tryz.prog.veiledRec ·))) = true := by kernel_rfl
theorem remk31 : (Rows.dblRemainsRow.veiledFits Tryz.prog Tryz.f8.params.toList (Tryz.f8.params.toList ++ Rows.dblRemainsSpec.plain.varTypes Tryz.prog ++ Tryz.f8.resultTypes.toList)) = true := by kernel_rfl
set_option maxRecDepth 100000 in
theorem remclosed : joinedFacts Tryz.prog 8 Tryz.f8 Rows.dblRemainsSpec Rows.dblRemainsRow = true := by
  unfold joinedFacts
  simp only [Bool.and_eq_true]
  exact ⟨⟨⟨⟨⟨⟨⟨⟨⟨⟨⟨⟨⟨⟨⟨⟨⟨⟨⟨⟨⟨⟨⟨⟨⟨⟨⟨⟨⟨⟨⟨remk0, remk1⟩, remk2⟩, remk3⟩, remk4⟩, remk5⟩, remk6⟩, remk7⟩, remk8⟩, remk9⟩, remk10⟩, remk11⟩, remk12⟩, remk13⟩, remk14⟩, remk15⟩, remk16⟩, remk17⟩, remk18⟩, remk19⟩, remk20⟩, remk21⟩, remk22⟩, remk23⟩, remk24⟩, remk25⟩, remk26⟩, remk27⟩, remk28⟩, remk29⟩, remk30⟩, remk31⟩
theorem remnamed : Tryz.prog.funcNamed Rows.dblRemainsRow.func = some 8 := by kernel_rfl
theorem remwf : Rows.dblRemainsRow.wfByText (OpenSpec.ofChange Rows.dblRemainsSpec) = true := by kernel_rfl
theorem remgoes : false = Rows.dblRemainsRow.goesBy Tryz.prog := by kernel_rfl

end Go.Proofs.YtmadknpaljaecaaGreatDoor
