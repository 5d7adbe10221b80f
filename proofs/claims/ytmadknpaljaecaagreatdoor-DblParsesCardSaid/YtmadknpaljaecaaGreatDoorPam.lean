import Derived.Test.YtmadknpaljaecaaGreatDoorCards
import Derived.KernelRfl
import Derived.Test.YtmadknpaljaecaaGreatDoorPal
set_option linter.all false
namespace Go.Proofs.YtmadknpaljaecaaGreatDoor
open Go.ChangeShapes Go.WideShapes Go.ChangeAt Go.RowKit
theorem park0:(Rows.dblParsesRow.wf (OpenSpec.ofChange Rows.dblParsesSpec))=true:=by kernel_rfl
theorem park1:(laidOutB Tryz.prog)=true:=by kernel_rfl
theorem park2:(mapsRowed Tryz.prog)=true:=by kernel_rfl
theorem park3:(Tryz.f3.params.all (Tryz.prog.readableRec ·))=true:=by kernel_rfl
theorem park4:(namedTie Tryz.prog Rows.dblParsesRow.named Rows.dblParsesSpec.vars)=true:=by kernel_rfl
theorem park5:((Rows.dblParsesRow.stops == []))=true:=by kernel_rfl
theorem park6:((Tryz.prog.stops == []))=true:=by kernel_rfl
theorem park7:((Rows.dblParsesRow.knobs == []))=true:=by kernel_rfl
theorem park8:((Tryz.prog.stopKnobs == []))=true:=by kernel_rfl
theorem park9:((Rows.dblParsesRow.inPlace == Tryz.prog.inPlace 3))=true:=by kernel_rfl
theorem park10:((Rows.dblParsesRow.unfollowed == Tryz.prog.unfollowed 3))=true:=by kernel_rfl
theorem park11:((Rows.dblParsesRow.recurses == Tryz.prog.recurses 3))=true:=by kernel_rfl
theorem park12:((Rows.dblParsesRow.named == Tryz.prog.varsNamed 3))=true:=by kernel_rfl
theorem park13:((Rows.dblParsesRow.maps == (Tryz.f3.params.toList++Rows.dblParsesSpec.plain.varTypes Tryz.prog).any (Tryz.prog.mapsRec ·)))=true:=by kernel_rfl
theorem park14:((Rows.dblParsesRow.ifaces == (Tryz.f3.params.toList++Rows.dblParsesSpec.plain.varTypes Tryz.prog).any (Tryz.prog.ifacesRec ·)))=true:=by kernel_rfl
theorem park15:((Rows.dblParsesRow.mapsOut == Tryz.prog.mapsAmong Tryz.f3.resultTypes.toList))=true:=by kernel_rfl
theorem park16:((Rows.dblParsesRow.loops == (Tryz.f3.params.toList++Rows.dblParsesSpec.plain.varTypes Tryz.prog).any (Tryz.prog.loopsFrom ·)))=true:=by kernel_rfl
theorem park17:((Rows.dblParsesRow.wideKeys == (Tryz.f3.params.toList++Rows.dblParsesSpec.plain.varTypes Tryz.prog++Tryz.f3.resultTypes.toList).any (Tryz.prog.wideKeysFrom ·)))=true:=by kernel_rfl
theorem park18:(Rows.dblParsesSpec.vars.all (Tryz.prog.varReadable ·))=true:=by kernel_rfl
theorem park19:(Tryz.f3.resultTypes.all (fun t=>Tryz.prog.readableRec t && decide (t < Tryz.prog.types.size)))=true:=by kernel_rfl
theorem park20:((Rows.dblParsesRow.ifacesOut == Tryz.f3.resultTypes.toList.any (Tryz.prog.ifacesRec ·)))=true:=by kernel_rfl
theorem park21:((Rows.dblParsesRow.loopsOut == Tryz.f3.resultTypes.toList.any (Tryz.prog.loopsFrom ·)))=true:=by kernel_rfl
theorem park22:((Rows.dblParsesRow.plainKeys == Tryz.prog.plainKeys))=true:=by kernel_rfl
theorem park23:(Rows.dblParsesRow.shortTexts.isNone)=true:=by kernel_rfl
theorem park24:(Tryz.prog.stopsHeard)=true:=by kernel_rfl
theorem park25:(Tryz.prog.mayEnter)=true:=by kernel_rfl
theorem park26:((Rows.dblParsesRow.lifted == Tryz.prog.liftsFinal))=true:=by kernel_rfl
theorem park27:((Tryz.prog.make == some Rows.dblParsesRow.make))=true:=by kernel_rfl
theorem park28:((Rows.dblParsesRow.kinds == (if Rows.dblParsesRow.domain.isEmpty then [] else Tryz.f3.params.toList.map fun t=>match Tryz.prog.underlying t with|some (.int k)=>some k|_=>none)))=true:=by kernel_rfl
theorem park29:((Rows.dblParsesRow.pinned == Rows.dblParsesRow.pinnedBy))=true:=by kernel_rfl
theorem park30:((Rows.dblParsesRow.veiled == (Tryz.f3.params.toList++Rows.dblParsesSpec.plain.varTypes Tryz.prog++Tryz.f3.resultTypes.toList).any (Tryz.prog.veiledRec ·)))=true:=by kernel_rfl
theorem park31:(Rows.dblParsesRow.veiledFits Tryz.prog Tryz.f3.params.toList (Tryz.f3.params.toList++Rows.dblParsesSpec.plain.varTypes Tryz.prog++Tryz.f3.resultTypes.toList))=true:=by kernel_rfl
set_option maxRecDepth 100000 in
theorem parclosed:joinedFacts Tryz.prog 3 Tryz.f3 Rows.dblParsesSpec Rows.dblParsesRow=true:=by
 unfold joinedFacts
 simp only [Bool.and_eq_true]
 exact ⟨⟨⟨⟨⟨⟨⟨⟨⟨⟨⟨⟨⟨⟨⟨⟨⟨⟨⟨⟨⟨⟨⟨⟨⟨⟨⟨⟨⟨⟨⟨park0,park1⟩,park2⟩,park3⟩,park4⟩,park5⟩,park6⟩,park7⟩,park8⟩,park9⟩,park10⟩,park11⟩,park12⟩,park13⟩,park14⟩,park15⟩,park16⟩,park17⟩,park18⟩,park19⟩,park20⟩,park21⟩,park22⟩,park23⟩,park24⟩,park25⟩,park26⟩,park27⟩,park28⟩,park29⟩,park30⟩,park31⟩
theorem parnamed:Tryz.prog.funcNamed Rows.dblParsesRow.func=some 3:=by kernel_rfl
theorem parwf:Rows.dblParsesRow.wfByText (OpenSpec.ofChange Rows.dblParsesSpec)=true:=by kernel_rfl
theorem pargoes:false=Rows.dblParsesRow.goesBy Tryz.prog:=by kernel_rfl
end Go.Proofs.YtmadknpaljaecaaGreatDoor
