/- DblKnown: the law function (which has no input: the examples of the chapter) answers true, in whatever order its loops over maps meet the entries. Conditions: none beyond those of the given statement (the world as the harness lays it). -/
import Derived.Test.YtmadknpaljaecaaGreatDoorCards
import Derived.Test.YtmadknpaljaecaaGreatDoorTie
import Derived.Test.YtmadknpaljaecaaGreatDoorKaf
import Derived.Test.YtmadknpaljaecaaGreatDoorKap
import Derived.Test.YtmadknpaljaecaaGreatDoorKaq
import Derived.Test.YtmadknpaljaecaaGreatDoorKar
import Derived.Test.YtmadknpaljaecaaGreatDoorKas
set_option linter.all false
namespace Go.Proofs.YtmadknpaljaecaaGreatDoor
open Go.ChangeShapes Go.WideShapes Go.ChangeAt Go.RowKit Go.Lib

theorem ownKn : ownKnob Tryz.prog.godebug = none := by kernel_rfl

/-- the walk -/
theorem walkKno (W : World) (hL : laidMetH Tryz.prog Rows.dblKnownRow.laid W) :
    Calls Tryz.prog 13 #[] W fun e W' => e = .returned (.bool true) ∧ Ev.Kept0 W W' := by
  rw [MakeChecks.laidMetH_plain _ _ _ (by kernel_rfl)] at hL
  exact Ev.D.known (Ev.D.globR hL fun _ hb => hb)

set_option maxRecDepth 100000 in
theorem liftedKno (os : Os) (started : os.Started) (H : Type) (enc : TypeId × Value → H) :
    ReturnsInHanded {} Tryz.checked os 13 .any (fun w args => (Rows.dblKnownSpec.pre enc Tryz.prog Tryz.f13 [] false w args ∧ laidMetH Tryz.prog Rows.dblKnownRow.laid w) ∧ sizedMet enc Tryz.prog Tryz.f13 (OpenSpec.ofChange Rows.dblKnownSpec) false w args)
      (Rows.dblKnownSpec.post enc Tryz.prog Tryz.f13 false true false false) := by
  refine returnsInHanded_of_change_and (C := Tryz.checked) (X := fun w _ => laidMetH Tryz.prog Rows.dblKnownRow.laid w) (fun _ _ _ hh h => h.of_heap hh) ownKn started (by kernel_rfl) Tryz.func13
    (ChangeSpec.witness_shaped (enc := enc) (C := Tryz.checked) (os := os) (X := fun w _ => laidMetH Tryz.prog Rows.dblKnownRow.laid w) false (World.laidAll Tryz.prog os Rows.dblKnownRow.laid) #[] 13 (World.laidAll_os _ _ _)
      (World.shaped_of_ZipB (by kernel_rfl) (by kernel_rfl)) (by kernel_rfl) (by kernel_rfl) (by kernel_rfl)
      (by rw [MakeChecks.laidMetH_plain _ _ _ (by kernel_rfl)]; exact laidMet_laidAll _ (by kernel_rfl) (by kernel_rfl))) ?_
  intro W base args ds gs before hval0 hW _ _ hL _
  have hval : ∀ (j : Nat) t v, Tryz.f13.params[j]? = some t → args[j]? = some v → Value.okWide Tryz.prog W .any base t v := hval0
  have hW' := hW
  obtain ⟨p, q, hA0, hV, rfl, _, _⟩ := hW
  have hA : DataW.TrodAll enc Tryz.prog W 0 (fun _ => true) true Tryz.f13.params.toList args.toList ds p := hA0
  have hpar : Tryz.f13.params.toList = [] := by kernel_rfl
  rw [hpar] at hA
  obtain ⟨rfl, rfl, rfl⟩ := trodAll_none hA
  obtain ⟨rfl, rfl⟩ := trodVars_none hV
  clear hA0 hval0
  simp only [List.append_nil] at hW'
  refine (walkKno W hL).mono fun e W' ⟨he, hk⟩ => ?_
  subst he
  exact ⟨_, rfl, _, _, _, [], [], [], hW', trodAll_mk1 (shut_bool Tryz.underlying4 _), trodAll_mk0, rfl, hk.frame _, fun h => by cases h⟩

theorem kno_row : Rows.DblKnownSaid :=
  OpenClaim.holds_of_wide 13 Tryz.f13 rfl rfl rfl rfl rfl rfl rfl ⟨rfl, rfl, rfl, rfl, rfl⟩ rfl rfl rfl rfl rfl knonamed Tryz.func13 knoclosed
    (of_decide_eq_true (by kernel_rfl)) (by unfold Func.isWrapper; first | (rw [if_pos (by decide +kernel)]; kernel_rfl) | (rw [if_neg (by decide +kernel)]; exact ⟨rfl, rfl⟩))
    (fun os started H enc _ => liftedKno os started H enc)

theorem knoloc (f : Nat) (fn : Func) (hf : Tryz.prog.funcNamed Rows.dblKnownRow.func = some f) (hfn : Tryz.prog.funcs[f]? = some fn) : true = Tryz.prog.looks [] ∧ ∀ (j : Nat) t, fn.params[j]? = some t → Tryz.prog.wantsStandIn t = false := by
  obtain rfl : f = 13 := Option.some.inj (knonamed.symm.trans hf) |>.symm
  obtain rfl : fn = Tryz.f13 := (Option.some.inj (Tryz.func13.symm.trans hfn)).symm
  exact ⟨by kernel_rfl, fun j t ht => by
    have hpar : Tryz.f13.params = #[] := by kernel_rfl
    rw [hpar] at ht
    simp at ht⟩
theorem knomain : Tryz.prog.mainIs = some (true, "2d3d0e6783ce3f264f78a9d20cb54d6d563bc1a71f58a8e0017f9b217784264d".toList) := by kernel_rfl

/-- the tied card -/
theorem kno_holds : Rows.DblKnownCardSaid :=
  Claim7.holds_tied_plain_at .later [] [.data, .data, .widerDeep, .widerDeep, .data, .data, .data, .data, .data, .data, .sentinel, .sentinel, .pinned, .pinned, .pinned, .pinned] true (true, "2d3d0e6783ce3f264f78a9d20cb54d6d563bc1a71f58a8e0017f9b217784264d") true
    kno_row (fun _ h => by cases h) knowf (fun _ h => by cases h) dblKnown_row_tie rfl ⟨rfl, rfl⟩ knomain rfl knoloc knogoes
end Go.Proofs.YtmadknpaljaecaaGreatDoor
