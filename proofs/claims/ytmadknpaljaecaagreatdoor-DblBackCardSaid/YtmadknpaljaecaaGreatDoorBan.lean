import Derived.Test.YtmadknpaljaecaaGreatDoorCards
import Derived.KernelRfl
import Derived.Test.YtmadknpaljaecaaGreatDoorBam
set_option linter.all false
set_option maxHeartbeats 1000000
namespace Go.Proofs.YtmadknpaljaecaaGreatDoor
open Go.ChangeShapes Go.WideShapes Go.ChangeAt Go.RowKit
theorem back0:(Rows.dblBackRow.wf (OpenSpec.ofChange Rows.dblBackSpec))=true:=by kernel_rfl
theorem back1:(laidOutB Tryz.prog)=true:=by kernel_rfl
theorem back2:(mapsRowed Tryz.prog)=true:=by kernel_rfl
theorem back3:(Tryz.f7.params.all (Tryz.prog.readableRec ·))=true:=by kernel_rfl
theorem back4:(namedTie Tryz.prog Rows.dblBackRow.named Rows.dblBackSpec.vars)=true:=by kernel_rfl
theorem back5:((Rows.dblBackRow.stops == []))=true:=by kernel_rfl
theorem back6:((Tryz.prog.stops == []))=true:=by kernel_rfl
theorem back7:((Rows.dblBackRow.knobs == []))=true:=by kernel_rfl
theorem back8:((Tryz.prog.stopKnobs == []))=true:=by kernel_rfl
theorem back9:((Rows.dblBackRow.inPlace == Tryz.prog.inPlace 7))=true:=by kernel_rfl
theorem back10:((Rows.dblBackRow.unfollowed == Tryz.prog.unfollowed 7))=true:=by kernel_rfl
theorem back11:((Rows.dblBackRow.recurses == Tryz.prog.recurses 7))=true:=by kernel_rfl
theorem back12:((Rows.dblBackRow.named == Tryz.prog.varsNamed 7))=true:=by kernel_rfl
theorem back13:((Rows.dblBackRow.maps == (Tryz.f7.params.toList++Rows.dblBackSpec.plain.varTypes Tryz.prog).any (Tryz.prog.mapsRec ·)))=true:=by kernel_rfl
theorem back14:((Rows.dblBackRow.ifaces == (Tryz.f7.params.toList++Rows.dblBackSpec.plain.varTypes Tryz.prog).any (Tryz.prog.ifacesRec ·)))=true:=by kernel_rfl
theorem back15:((Rows.dblBackRow.mapsOut == Tryz.prog.mapsAmong Tryz.f7.resultTypes.toList))=true:=by kernel_rfl
theorem back16:((Rows.dblBackRow.loops == (Tryz.f7.params.toList++Rows.dblBackSpec.plain.varTypes Tryz.prog).any (Tryz.prog.loopsFrom ·)))=true:=by kernel_rfl
theorem back17:((Rows.dblBackRow.wideKeys == (Tryz.f7.params.toList++Rows.dblBackSpec.plain.varTypes Tryz.prog++Tryz.f7.resultTypes.toList).any (Tryz.prog.wideKeysFrom ·)))=true:=by kernel_rfl
theorem back18:(Rows.dblBackSpec.vars.all (Tryz.prog.varReadable ·))=true:=by kernel_rfl
theorem back19:(Tryz.f7.resultTypes.all (fun t=>Tryz.prog.readableRec t && decide (t < Tryz.prog.types.size)))=true:=by kernel_rfl
theorem back20:((Rows.dblBackRow.ifacesOut == Tryz.f7.resultTypes.toList.any (Tryz.prog.ifacesRec ·)))=true:=by kernel_rfl
theorem back21:((Rows.dblBackRow.loopsOut == Tryz.f7.resultTypes.toList.any (Tryz.prog.loopsFrom ·)))=true:=by kernel_rfl
theorem back22:((Rows.dblBackRow.plainKeys == Tryz.prog.plainKeys))=true:=by kernel_rfl
theorem back23:(Rows.dblBackRow.shortTexts.isNone)=true:=by kernel_rfl
theorem back24:(Tryz.prog.stopsHeard)=true:=by kernel_rfl
theorem back25:(Tryz.prog.mayEnter)=true:=by kernel_rfl
theorem back26:((Rows.dblBackRow.lifted == Tryz.prog.liftsFinal))=true:=by kernel_rfl
theorem back27:((Tryz.prog.make == some Rows.dblBackRow.make))=true:=by kernel_rfl
theorem back28:((Rows.dblBackRow.kinds == (if Rows.dblBackRow.domain.isEmpty then [] else Tryz.f7.params.toList.map fun t=>match Tryz.prog.underlying t with|some (.int k)=>some k|_=>none)))=true:=by kernel_rfl
theorem back29:((Rows.dblBackRow.pinned == Rows.dblBackRow.pinnedBy))=true:=by kernel_rfl
theorem back30:((Rows.dblBackRow.veiled == (Tryz.f7.params.toList++Rows.dblBackSpec.plain.varTypes Tryz.prog++Tryz.f7.resultTypes.toList).any (Tryz.prog.veiledRec ·)))=true:=by kernel_rfl
theorem back31:(Rows.dblBackRow.veiledFits Tryz.prog Tryz.f7.params.toList (Tryz.f7.params.toList++Rows.dblBackSpec.plain.varTypes Tryz.prog++Tryz.f7.resultTypes.toList))=true:=by kernel_rfl
set_option maxRecDepth 100000 in
theorem bacclosed:joinedFacts Tryz.prog 7 Tryz.f7 Rows.dblBackSpec Rows.dblBackRow=true:=by
 unfold joinedFacts
 simp only [Bool.and_eq_true]
 exact ⟨⟨⟨⟨⟨⟨⟨⟨⟨⟨⟨⟨⟨⟨⟨⟨⟨⟨⟨⟨⟨⟨⟨⟨⟨⟨⟨⟨⟨⟨⟨back0,back1⟩,back2⟩,back3⟩,back4⟩,back5⟩,back6⟩,back7⟩,back8⟩,back9⟩,back10⟩,back11⟩,back12⟩,back13⟩,back14⟩,back15⟩,back16⟩,back17⟩,back18⟩,back19⟩,back20⟩,back21⟩,back22⟩,back23⟩,back24⟩,back25⟩,back26⟩,back27⟩,back28⟩,back29⟩,back30⟩,back31⟩
theorem bacnamed:Tryz.prog.funcNamed Rows.dblBackRow.func=some 7:=by kernel_rfl
theorem bacwf:Rows.dblBackRow.wfByText (OpenSpec.ofChange Rows.dblBackSpec)=true:=by kernel_rfl
theorem bacgoes:false=Rows.dblBackRow.goesBy Tryz.prog:=by kernel_rfl
end Go.Proofs.YtmadknpaljaecaaGreatDoor
