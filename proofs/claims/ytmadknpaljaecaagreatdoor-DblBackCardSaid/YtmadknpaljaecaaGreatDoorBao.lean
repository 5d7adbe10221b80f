/- The canonical text of every double leads back to it, also with white space around it. Conditions: the package variables that the row lists are as they are laid. -/
import Derived.Test.YtmadknpaljaecaaGreatDoorCards
import Derived.Test.YtmadknpaljaecaaGreatDoorTie
import Derived.Test.YtmadknpaljaecaaGreatDoorBai
import Derived.Test.YtmadknpaljaecaaGreatDoorBak
import Derived.Test.YtmadknpaljaecaaGreatDoorBal
import Derived.Test.YtmadknpaljaecaaGreatDoorBam
import Derived.Test.YtmadknpaljaecaaGreatDoorBan
set_option linter.all false
set_option maxHeartbeats 1000000
namespace Go.Proofs.YtmadknpaljaecaaGreatDoor
open Go.ChangeShapes Go.WideShapes Go.ChangeAt Go.RowKit Go.Lib
theorem ownB:ownKnob Tryz.prog.godebug=none:=by kernel_rfl
theorem walkBack {a:Int} (W:World) (hL:laidMetH Tryz.prog Rows.dblBackRow.laid W) (wa:(Lit.int .u64 a).wf=true):
  Calls Tryz.prog 7 #[.int .u64 a] W fun e W'=>e=.returned (.bool true)∧Ev.Kept0 W W':=by
 rw [MakeChecks.laidMetH_plain _ _ _ (by kernel_rfl)] at hL
 have ba:0≤a∧a < 18446744073709551616:=by simp [Lit.wf,IntKind.min,IntKind.max,IntKind.signed,IntKind.bits] at wa;omega
 obtain ⟨a,rfl⟩:=Int.eq_ofNat_of_zero_le ba.1
 refine (Ev.law_calls Ev.D.ctx Ev.D.globClean (Ev.D.globR hL fun _ hb=>hb) (Ev.D.s7 (b:=a) (by omega) .empty) (.cons .int .nil)).mono fun e W' h=>?_
 obtain ⟨⟨z,E',rfl,hv⟩,hk⟩:=h
 rw [hv.bool_inv]
 exact ⟨rfl,hk⟩
set_option maxRecDepth 100000 in
theorem liftedBack (os:Os) (started:os.Started) (H:Type) (enc:TypeId×Value→H):
  ReturnsInHanded {} Tryz.checked os 7 .any (fun w args=>(Rows.dblBackSpec.pre enc Tryz.prog Tryz.f7 [] false w args∧laidMetH Tryz.prog Rows.dblBackRow.laid w)∧sizedMet enc Tryz.prog Tryz.f7 (OpenSpec.ofChange Rows.dblBackSpec) false w args)
   (Rows.dblBackSpec.post enc Tryz.prog Tryz.f7 false true false false):=by
 refine returnsInHanded_of_change_and (C:=Tryz.checked) (X:=fun w _=>laidMetH Tryz.prog Rows.dblBackRow.laid w) (fun _ _ _ hh h=>h.of_heap hh) ownB started (by kernel_rfl) Tryz.func7
  (ChangeSpec.witness_shaped (enc:=enc) (C:=Tryz.checked) (os:=os) (X:=fun w _=>laidMetH Tryz.prog Rows.dblBackRow.laid w) false (World.laidAll Tryz.prog os Rows.dblBackRow.laid) #[.int .u64 0] 8 (World.laidAll_os _ _ _)
   (World.shaped_of_ZipB (by kernel_rfl) (by kernel_rfl)) (by kernel_rfl) (by kernel_rfl) (by kernel_rfl)
   (by rw [MakeChecks.laidMetH_plain _ _ _ (by kernel_rfl)];exact laidMet_laidAll _ (by kernel_rfl) (by kernel_rfl))) ?_
 intro W base args ds gs before hval0 hW _ _ hL _
 have hval:∀ (j:Nat) t v,Tryz.f7.params[j]? =some t→args[j]? =some v→Value.okWide Tryz.prog W .any base t v:=hval0
 have hW':=hW
 obtain ⟨p,q,hA0,hV,rfl,_,_⟩:=hW
 have hA:DataW.TrodAll enc Tryz.prog W 0 (fun _=>true) true Tryz.f7.params.toList args.toList ds p:=hA0
 rw [Tryz.params7] at hA hval
 obtain ⟨v0,d0,rfl,rfl,h0⟩:=trodAll_one hA
 obtain ⟨rfl,rfl⟩:=trodVars_none hV
 obtain ⟨a,rfl,rfl,rfl,wa⟩:=open_int Tryz.underlying28 (hval 0 28 v0 rfl rfl) h0
 clear hA0 hval0
 simp only [List.append_nil] at hW'
 refine (walkBack W hL wa).mono fun e W' ⟨he,hk⟩=>?_
 subst he
 exact ⟨_,rfl,_,_,_,[],[],[],hW',trodAll_mk1 (shut_bool Tryz.underlying4 _),trodAll_mk1 (shut_int Tryz.underlying28 wa),rfl,hk.frame _,fun h=>by cases h⟩
theorem bac_row:Rows.DblBackSaid:=
 OpenClaim.holds_of_wide 7 Tryz.f7 rfl rfl rfl rfl rfl rfl rfl ⟨rfl,rfl,rfl,rfl,rfl⟩ rfl rfl rfl rfl rfl bacnamed Tryz.func7 bacclosed
  (of_decide_eq_true (by kernel_rfl)) (by unfold Func.isWrapper;first|(rw [if_pos (by decide+kernel)];kernel_rfl)|(rw [if_neg (by decide+kernel)];exact ⟨rfl,rfl⟩))
  (fun os started H enc _=>liftedBack os started H enc)
theorem bacloc (f:Nat) (fn:Func) (hf:Tryz.prog.funcNamed Rows.dblBackRow.func=some f) (hfn:Tryz.prog.funcs[f]? =some fn):true=Tryz.prog.looks []∧∀ (j:Nat) t,fn.params[j]? =some t→Tryz.prog.wantsStandIn t=false:=by
 obtain rfl:f=7:=Option.some.inj (bacnamed.symm.trans hf) |>.symm
 obtain rfl:fn=Tryz.f7:=(Option.some.inj (Tryz.func7.symm.trans hfn)).symm
 exact ⟨by kernel_rfl,fun j t ht=>by
  rw [Tryz.params7] at ht
  have hm:t∈[28]:=by simpa using Array.mem_of_getElem? ht
  have hall:([28].all fun u=>!Tryz.prog.wantsStandIn u)=true:=by kernel_rfl
  exact (show Tryz.prog.wantsStandIn t=false by simpa using List.all_eq_true.1 hall t hm)⟩
theorem bacmain:Tryz.prog.mainIs=some (true, "2d3d0e6783ce3f264f78a9d20cb54d6d563bc1a71f58a8e0017f9b217784264d".toList):=by kernel_rfl
theorem bac_holds:Rows.DblBackCardSaid:=
 Claim7.holds_tied_plain_at .later [] [.data,.data,.widerDeep,.widerDeep,.data,.data,.data,.data,.data,.data,.sentinel,.sentinel,.pinned,.pinned,.pinned,.pinned] true (true, "2d3d0e6783ce3f264f78a9d20cb54d6d563bc1a71f58a8e0017f9b217784264d") true
  bac_row (fun _ h=>by cases h) bacwf (fun _ h=>by cases h) dblBack_row_tie rfl ⟨rfl,rfl⟩ bacmain rfl bacloc bacgoes
end Go.Proofs.YtmadknpaljaecaaGreatDoor
