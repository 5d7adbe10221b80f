import Derived.Test.YtmadknpaljaecaaGreatDoorCards
import Derived.KernelRfl
import Derived.Test.YtmadknpaljaecaaGreatDoorKaf
set_option linter.all false
namespace Go.Proofs.YtmadknpaljaecaaGreatDoor
open Go.ChangeShapes Go.WideShapes Go.ChangeAt Go.RowKit
theorem knok0 : (Rows.dblKnownRow.wf (OpenSpec.ofChange Rows.dblKnownSpec)) = true := by kernel_rfl
theorem knok1 : (laidOutB Tryz.prog) = true := by kernel_rfl
theorem knok2 : (mapsRowed Tryz.prog) = true := by kernel_rfl
theorem knok3 : (Tryz.f13.params.all (Tryz.prog.readableRec ·)) = true := by kernel_rfl
theorem knok4 : (namedTie Tryz.prog Rows.dblKnownRow.named Rows.dblKnownSpec.vars) = true := by kernel_rfl
theorem knok5 : ((Rows.dblKnownRow.stops == [])) = true := by kernel_rfl
theorem knok6 : ((Tryz.prog.stops == [])) = true := by kernel_rfl
theorem knok7 : ((Rows.dblKnownRow.knobs == [])) = true := by kernel_rfl
theorem knok8 : ((Tryz.prog.stopKnobs == [])) = true := by kernel_rfl
theorem knok9 : ((Rows.dblKnownRow.inPlace == Tryz.prog.inPlace 13)) = true := by kernel_rfl
theorem knok10 : ((Rows.dblKnownRow.unfollowed == Tryz.prog.unfollowed 13)) = true := by kernel_rfl
theorem knok11 : ((Rows.dblKnownRow.recurses == Tryz.prog.recurses 13)) = true := by kernel_rfl
theorem knok12 : ((Rows.dblKnownRow.named == Tryz.prog.varsNamed 13)) = true := by kernel_rfl
theorem knok13 : ((Rows.dblKnownRow.maps == (Tryz.f13.params.toList ++ Rows.dblKnownSpec.plain.varTypes Tryz.prog).any (Tryz.prog.mapsRec ·))) = true := by kernel_rfl
theorem knok14 : ((Rows.dblKnownRow.ifaces == (Tryz.f13.params.toList ++ Rows.dblKnownSpec.plain.varTypes Tryz.prog).any (Tryz.prog.ifacesRec ·))) = true := by kernel_rfl
theorem knok15 : ((Rows.dblKnownRow.mapsOut == Tryz.prog.mapsAmong Tryz.f13.resultTypes.toList)) = true := by kernel_rfl
theorem knok16 : ((Rows.dblKnownRow.loops == (Tryz.f13.params.toList ++ Rows.dblKnownSpec.plain.varTypes Tryz.prog).any (Tryz.prog.loopsFrom ·))) = true := by kernel_rfl
theorem knok17 : ((Rows.dblKnownRow.wideKeys == (Tryz.f13.params.toList ++ Rows.dblKnownSpec.plain.varTypes Tryz.prog ++ Tryz.f13.resultTypes.toList).any (Tryz.prog.wideKeysFrom ·))) = true := by kernel_rfl
theorem knok18 : (Rows.dblKnownSpec.vars.all (Tryz.prog.varReadable ·)) = true := by kernel_rfl
theorem knok19 : (Tryz.f13.resultTypes.all (fun t => Tryz.prog.readableRec t && decide (t < Tryz.prog.types.size))) = true := by kernel_rfl
theorem knok20 : ((Rows.dblKnownRow.ifacesOut == Tryz.f13.resultTypes.toList.any (Tryz.prog.ifacesRec ·))) = true := by kernel_rfl
theorem knok21 : ((Rows.dblKnownRow.loopsOut == Tryz.f13.resultTypes.toList.any (Tryz.prog.loopsFrom ·))) = true := by kernel_rfl
theorem knok22 : ((Rows.dblKnownRow.plainKeys == Tryz.prog.plainKeys)) = true := by kernel_rfl
theorem knok23 : (Rows.dblKnownRow.shortTexts.isNone) = true := by kernel_rfl
theorem knok24 : (Tryz.prog.stopsHeard) = true := by kernel_rfl
theorem knok25 : (Tryz.prog.mayEnter) = true := by kernel_rfl
theorem knok26 : ((Rows.dblKnownRow.lifted == Tryz.prog.liftsFinal)) = true := by kernel_rfl
theorem knok27 : ((Tryz.prog.make == some Rows.dblKnownRow.make)) = true := by kernel_rfl
theorem knok28 : ((Rows.dblKnownRow.kinds == (if Rows.dblKnownRow.domain.isEmpty then [] else Tryz.f13.params.toList.map fun t => match Tryz.prog.underlying t with | some (.int k) => some k | _ => none))) = true := by kernel_rfl
theorem knok29 : ((Rows.dblKnownRow.pinned == Rows.dblKnownRow.pinnedBy)) = true := by kernel_rfl
theorem knok30 : ((Rows.dblKnownRow.veiled == (Tryz.f13.params.toList ++ Rows.dblKnownSpec.plain.varTypes Tryz.prog ++ Tryz.f13.resultTypes.toList).any (Tryz.prog.veiledRec ·))) = true := by kernel_rfl
theorem knok31 : (Rows.dblKnownRow.veiledFits Tryz.prog Tryz.f13.params.toList (Tryz.f13.params.toList ++ Rows.dblKnownSpec.plain.varTypes Tryz.prog ++ Tryz.f13.resultTypes.toList)) = true := by kernel_rfl
set_option maxRecDepth 100000 in
theorem knoclosed : joinedFacts Tryz.prog 13 Tryz.f13 Rows.dblKnownSpec Rows.dblKnownRow = true := by
  unfold joinedFacts
  simp only [Bool.and_eq_true]
  exact ⟨⟨⟨⟨⟨⟨⟨⟨⟨⟨⟨⟨⟨⟨⟨⟨⟨⟨⟨⟨⟨⟨⟨⟨⟨⟨⟨⟨⟨⟨⟨knok0, knok1⟩, knok2⟩, knok3⟩, knok4⟩, knok5⟩, knok6⟩, knok7⟩, knok8⟩, knok9⟩, knok10⟩, knok11⟩, knok12⟩, knok13⟩, knok14⟩, knok15⟩, knok16⟩, knok17⟩, knok18⟩, knok19⟩, knok20⟩, knok21⟩, knok22⟩, knok23⟩, knok24⟩, knok25⟩, knok26⟩, knok27⟩, knok28⟩, knok29⟩, knok30⟩, knok31⟩
theorem knonamed : Tryz.prog.funcNamed Rows.dblKnownRow.func = some 13 := by kernel_rfl
theorem knowf : Rows.dblKnownRow.wfByText (OpenSpec.ofChange Rows.dblKnownSpec) = true := by kernel_rfl
theorem knogoes : false = Rows.dblKnownRow.goesBy Tryz.prog := by kernel_rfl

end Go.Proofs.YtmadknpaljaecaaGreatDoor
