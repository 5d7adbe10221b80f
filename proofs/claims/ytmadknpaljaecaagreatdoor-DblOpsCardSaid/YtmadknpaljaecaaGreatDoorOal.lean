import Derived.Test.YtmadknpaljaecaaGreatDoorCards
import Derived.KernelRfl
import Derived.Test.YtmadknpaljaecaaGreatDoorEak
set_option linter.all false
namespace Go.Proofs.YtmadknpaljaecaaGreatDoor
open Go.ChangeShapes Go.WideShapes Go.ChangeAt Go.RowKit
theorem opsk0 : (Rows.dblOpsRow.wf (OpenSpec.ofChange Rows.dblOpsSpec)) = true := by kernel_rfl
theorem opsk1 : (laidOutB Tryz.prog) = true := by kernel_rfl
theorem opsk2 : (mapsRowed Tryz.prog) = true := by kernel_rfl
theorem opsk3 : (Tryz.f5.params.all (Tryz.prog.readableRec ·)) = true := by kernel_rfl
theorem opsk4 : (namedTie Tryz.prog Rows.dblOpsRow.named Rows.dblOpsSpec.vars) = true := by kernel_rfl
theorem opsk5 : ((Rows.dblOpsRow.stops == [])) = true := by kernel_rfl
theorem opsk6 : ((Tryz.prog.stops == [])) = true := by kernel_rfl
theorem opsk7 : ((Rows.dblOpsRow.knobs == [])) = true := by kernel_rfl
theorem opsk8 : ((Tryz.prog.stopKnobs == [])) = true := by kernel_rfl
theorem opsk9 : ((Rows.dblOpsRow.inPlace == Tryz.prog.inPlace 5)) = true := by kernel_rfl
theorem opsk10 : ((Rows.dblOpsRow.unfollowed == Tryz.prog.unfollowed 5)) = true := by kernel_rfl
theorem opsk11 : ((Rows.dblOpsRow.recurses == Tryz.prog.recurses 5)) = true := by kernel_rfl
theorem opsk12 : ((Rows.dblOpsRow.named == Tryz.prog.varsNamed 5)) = true := by kernel_rfl
theorem opsk13 : ((Rows.dblOpsRow.maps == (Tryz.f5.params.toList ++ Rows.dblOpsSpec.plain.varTypes Tryz.prog).any (Tryz.prog.mapsRec ·))) = true := by kernel_rfl
theorem opsk14 : ((Rows.dblOpsRow.ifaces == (Tryz.f5.params.toList ++ Rows.dblOpsSpec.plain.varTypes Tryz.prog).any (Tryz.prog.ifacesRec ·))) = true := by kernel_rfl
theorem opsk15 : ((Rows.dblOpsRow.mapsOut == Tryz.prog.mapsAmong Tryz.f5.resultTypes.toList)) = true := by kernel_rfl
theorem opsk16 : ((Rows.dblOpsRow.loops == (Tryz.f5.params.toList ++ Rows.dblOpsSpec.plain.varTypes Tryz.prog).any (Tryz.prog.loopsFrom ·))) = true := by kernel_rfl
theorem opsk17 : ((Rows.dblOpsRow.wideKeys == (Tryz.f5.params.toList ++ Rows.dblOpsSpec.plain.varTypes Tryz.prog ++ Tryz.f5.resultTypes.toList).any (Tryz.prog.wideKeysFrom ·))) = true := by kernel_rfl
theorem opsk18 : (Rows.dblOpsSpec.vars.all (Tryz.prog.varReadable ·)) = true := by kernel_rfl
theorem opsk19 : (Tryz.f5.resultTypes.all (fun t => Tryz.prog.readableRec t && decide (t < Tryz.prog.types.size))) = true := by kernel_rfl
theorem opsk20 : ((Rows.dblOpsRow.ifacesOut == Tryz.f5.resultTypes.toList.any (Tryz.prog.ifacesRec ·))) = true := by kernel_rfl
theorem opsk21 : ((Rows.dblOpsRow.loopsOut == Tryz.f5.resultTypes.toList.any (Tryz.prog.loopsFrom ·))) = true := by kernel_rfl
theorem opsk22 : ((Rows.dblOpsRow.plainKeys == Tryz.prog.plainKeys)) = true := by kernel_rfl
theorem opsk23 : (Rows.dblOpsRow.shortTexts.isNone) = true := by kernel_rfl
theorem opsk24 : (Tryz.prog.stopsHeard) = true := by kernel_rfl
theorem opsk25 : (Tryz.prog.mayEnter) = true := by kernel_rfl
theorem opsk26 : ((Rows.dblOpsRow.lifted == Tryz.prog.liftsFinal)) = true := by kernel_rfl
theorem opsk27 : ((Tryz.prog.make == some Rows.dblOpsRow.make)) = true := by kernel_rfl
theorem opsk28 : ((Rows.dblOpsRow.kinds == (if Rows.dblOpsRow.domain.isEmpty then [] else Tryz.f5.params.toList.map fun t => match Tryz.prog.underlying t with | some (.int k) => some k | _ => none))) = true := by kernel_rfl
theorem opsk29 : ((Rows.dblOpsRow.pinned == Rows.dblOpsRow.pinnedBy)) = true := by kernel_rfl
theorem opsk30 : ((Rows.dblOpsRow.veiled == (Tryz.f5.params.toList ++ Rows.dblOpsSpec.plain.varTypes Tryz.prog ++ Tryz.f5.resultTypes.toList).any (Tryz.prog.veiledRec ·))) = true := by kernel_rfl
theorem opsk31 : (Rows.dblOpsRow.veiledFits Tryz.prog Tryz.f5.params.toList (Tryz.f5.params.toList ++ Rows.dblOpsSpec.plain.varTypes Tryz.prog ++ Tryz.f5.resultTypes.toList)) = true := by kernel_rfl
set_option maxRecDepth 100000 in
theorem opsclosed : joinedFacts Tryz.prog 5 Tryz.f5 Rows.dblOpsSpec Rows.dblOpsRow = true := by
  unfold joinedFacts
  simp only [Bool.and_eq_true]
  exact ⟨⟨⟨⟨⟨⟨⟨⟨⟨⟨⟨⟨⟨⟨⟨⟨⟨⟨⟨⟨⟨⟨⟨⟨⟨⟨⟨⟨⟨⟨⟨opsk0, opsk1⟩, opsk2⟩, opsk3⟩, opsk4⟩, opsk5⟩, opsk6⟩, opsk7⟩, opsk8⟩, opsk9⟩, opsk10⟩, opsk11⟩, opsk12⟩, opsk13⟩, opsk14⟩, opsk15⟩, opsk16⟩, opsk17⟩, opsk18⟩, opsk19⟩, opsk20⟩, opsk21⟩, opsk22⟩, opsk23⟩, opsk24⟩, opsk25⟩, opsk26⟩, opsk27⟩, opsk28⟩, opsk29⟩, opsk30⟩, opsk31⟩
theorem opsnamed : Tryz.prog.funcNamed Rows.dblOpsRow.func = some 5 := by kernel_rfl
theorem opswf : Rows.dblOpsRow.wfByText (OpenSpec.ofChange Rows.dblOpsSpec) = true := by kernel_rfl
theorem opsgoes : false = Rows.dblOpsRow.goesBy Tryz.prog := by kernel_rfl

end Go.Proofs.YtmadknpaljaecaaGreatDoor
