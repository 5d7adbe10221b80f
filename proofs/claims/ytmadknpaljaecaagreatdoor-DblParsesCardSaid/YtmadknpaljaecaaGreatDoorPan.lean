/- dbl.Parse and the specification of doubles agree on every string: which strings are doubles, and which ones. Conditions: the package variables that the row lists are as they are laid. -/
import Derived.ChangeArms
import Derived.Test.YtmadknpaljaecaaGreatDoorCards
import Derived.Test.YtmadknpaljaecaaGreatDoorTie
import Derived.Test.YtmadknpaljaecaaGreatDoorPah
import Derived.Test.YtmadknpaljaecaaGreatDoorPaj
import Derived.Test.YtmadknpaljaecaaGreatDoorPak
import Derived.Test.YtmadknpaljaecaaGreatDoorPal
import Derived.Test.YtmadknpaljaecaaGreatDoorPam
set_option linter.all false
set_option maxHeartbeats 1000000
namespace Go.Proofs.YtmadknpaljaecaaGreatDoor
open Go.ChangeShapes Go.WideShapes Go.ChangeAt Go.RowKit Go.Lib
theorem own:ownKnob Tryz.prog.godebug=none:=by kernel_rfl
theorem walkParses {x:ByteArray} (W:World) (hL:laidMetH Tryz.prog Rows.dblParsesRow.laid W):
  Calls Tryz.prog 3 #[.string x] W fun e W'=>e=.returned (.bool true)∧Ev.Kept0 W W':=by
 rw [MakeChecks.laidMetH_plain _ _ _ (by kernel_rfl)] at hL
 refine (Ev.law_calls Ev.D.ctx Ev.D.globClean (Ev.D.globR hL fun _ hb=>hb) (Ev.D.s3 (l:=x.data.toList) .empty) (.cons (.str rfl) .nil)).mono fun e W' h=>?_
 obtain ⟨⟨z,E',rfl,hv⟩,hk⟩:=h
 rw [hv.bool_inv]
 exact ⟨rfl,hk⟩
section
variable {H:Type} {enc:TypeId×Value→H} {P:Program} {w:World} {base:Nat} {spare:Nat→Bool} {held:Bool}
theorem open_txt {r:Reach} {b0:Nat} {t:TypeId} {v:Value} {d:DataW H} {ps:List MemPlace} (ht:P.underlying t=some .string) (hval:Value.okWide P w r b0 t v) (hd:DataW.Trod enc P w base spare held t v d ps):
  ∃ s:ByteArray,v=.string s∧d=.lit (.string s.data.toList)∧ps=[]∧s.size≤maxLen:=by
 obtain ⟨n,rfl⟩:=okWide_string ht hval
 obtain ⟨fuel,hf⟩:=hd
 obtain ⟨n',h,hx,hw⟩:=DataW.trod_string ht hf
 simp [Value.cells] at h
 subst h
 simp only [Prod.mk.injEq] at hx
 exact ⟨n,rfl,hx.1,hx.2,hw⟩
theorem shut_txt {t:TypeId} {s:ByteArray} (ht:P.underlying t=some .string) (hs:s.size≤maxLen):DataW.Trod enc P w base spare held t (.string s) (.lit (.string s.data.toList)) []:=
 ⟨1,by simp [DataW.trod,Value.cells,ht,hs]⟩
end
set_option maxRecDepth 100000 in
theorem liftedParses (os:Os) (started:os.Started) (H:Type) (enc:TypeId×Value→H):
  ReturnsInHanded {} Tryz.checked os 3 .any (fun w args=>(Rows.dblParsesSpec.pre enc Tryz.prog Tryz.f3 [] false w args∧laidMetH Tryz.prog Rows.dblParsesRow.laid w)∧sizedMet enc Tryz.prog Tryz.f3 (OpenSpec.ofChange Rows.dblParsesSpec) false w args)
   (Rows.dblParsesSpec.post enc Tryz.prog Tryz.f3 false true false false):=by
 refine returnsInHanded_of_change_and (C:=Tryz.checked) (X:=fun w _=>laidMetH Tryz.prog Rows.dblParsesRow.laid w) (fun _ _ _ hh h=>h.of_heap hh) own started (by kernel_rfl) Tryz.func3
  (ChangeSpec.witness_shaped (enc:=enc) (C:=Tryz.checked) (os:=os) (X:=fun w _=>laidMetH Tryz.prog Rows.dblParsesRow.laid w) false (World.laidAll Tryz.prog os Rows.dblParsesRow.laid) #[.string ByteArray.empty] 8 (World.laidAll_os _ _ _)
   (World.shaped_of_ZipB (by kernel_rfl) (by kernel_rfl)) (by kernel_rfl) (by kernel_rfl) (by kernel_rfl)
   (by rw [MakeChecks.laidMetH_plain _ _ _ (by kernel_rfl)];exact laidMet_laidAll _ (by kernel_rfl) (by kernel_rfl))) ?_
 intro W base args ds gs before hval0 hW _ _ hL _
 have hval:∀ (j:Nat) t v,Tryz.f3.params[j]? =some t→args[j]? =some v→Value.okWide Tryz.prog W .any base t v:=hval0
 have hW':=hW
 obtain ⟨p,q,hA0,hV,rfl,_,_⟩:=hW
 have hA:DataW.TrodAll enc Tryz.prog W 0 (fun _=>true) true Tryz.f3.params.toList args.toList ds p:=hA0
 rw [Tryz.params3] at hA hval
 obtain ⟨v0,d0,rfl,rfl,h0⟩:=trodAll_one hA
 obtain ⟨rfl,rfl⟩:=trodVars_none hV
 obtain ⟨x,rfl,rfl,rfl,wx⟩:=open_txt Tryz.underlying9 (hval 0 9 v0 rfl rfl) h0
 clear hA0 hval0
 simp only [List.append_nil] at hW'
 refine (walkParses W hL).mono fun e W' ⟨he,hk⟩=>?_
 subst he
 exact ⟨_,rfl,_,_,_,[],[],[],hW',trodAll_mk1 (shut_bool Tryz.underlying4 _),trodAll_mk1 (shut_txt Tryz.underlying9 wx),rfl,hk.frame _,fun h=>by cases h⟩
theorem par_row:Rows.DblParsesSaid:=
 OpenClaim.holds_of_wide 3 Tryz.f3 rfl rfl rfl rfl rfl rfl rfl ⟨rfl,rfl,rfl,rfl,rfl⟩ rfl rfl rfl rfl rfl parnamed Tryz.func3 parclosed
  (of_decide_eq_true (by kernel_rfl)) (by unfold Func.isWrapper;first|(rw [if_pos (by decide+kernel)];kernel_rfl)|(rw [if_neg (by decide+kernel)];exact ⟨rfl,rfl⟩))
  (fun os started H enc _=>liftedParses os started H enc)
theorem parloc (f:Nat) (fn:Func) (hf:Tryz.prog.funcNamed Rows.dblParsesRow.func=some f) (hfn:Tryz.prog.funcs[f]? =some fn):true=Tryz.prog.looks []∧∀ (j:Nat) t,fn.params[j]? =some t→Tryz.prog.wantsStandIn t=false:=by
 obtain rfl:f=3:=Option.some.inj (parnamed.symm.trans hf) |>.symm
 obtain rfl:fn=Tryz.f3:=(Option.some.inj (Tryz.func3.symm.trans hfn)).symm
 exact ⟨by kernel_rfl,fun j t ht=>by
  rw [Tryz.params3] at ht
  have hm:t∈[9]:=by simpa using Array.mem_of_getElem? ht
  have hall:([9].all fun u=>!Tryz.prog.wantsStandIn u)=true:=by kernel_rfl
  exact (show Tryz.prog.wantsStandIn t=false by simpa using List.all_eq_true.1 hall t hm)⟩
theorem parmain:Tryz.prog.mainIs=some (true, "2d3d0e6783ce3f264f78a9d20cb54d6d563bc1a71f58a8e0017f9b217784264d".toList):=by kernel_rfl
theorem par_holds:Rows.DblParsesCardSaid:=
 Claim7.holds_tied_plain_at .later [] [.data,.data,.widerDeep,.widerDeep,.data,.data,.data,.data,.data,.data,.sentinel,.sentinel,.pinned,.pinned,.pinned,.pinned] true (true, "2d3d0e6783ce3f264f78a9d20cb54d6d563bc1a71f58a8e0017f9b217784264d") true
  par_row (fun _ h=>by cases h) parwf (fun _ h=>by cases h) dblParses_row_tie rfl ⟨rfl,rfl⟩ parmain rfl parloc pargoes
end Go.Proofs.YtmadknpaljaecaaGreatDoor
