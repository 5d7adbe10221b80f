/- DblRemains: for all bit patterns x and y of 64 bits, the law function answers true: the remainder of dbl.Op is less than the divisor and not greater than the dividend, has the sign of the dividend, and does not depend on the sign of the divisor. Conditions: none beyond those of the given statement (the world as the harness lays it). -/
import Derived.Test.YtmadknpaljaecaaGreatDoorCards
import Derived.Test.YtmadknpaljaecaaGreatDoorTie
import Derived.Test.YtmadknpaljaecaaGreatDoorEag
import Derived.Test.YtmadknpaljaecaaGreatDoorEai
import Derived.Test.YtmadknpaljaecaaGreatDoorEaj
import Derived.Test.YtmadknpaljaecaaGreatDoorEak
import Derived.Test.YtmadknpaljaecaaGreatDoorRal
set_option linter.all false
namespace Go.Proofs.YtmadknpaljaecaaGreatDoor
open Go.ChangeShapes Go.WideShapes Go.ChangeAt Go.RowKit Go.Lib

theorem ownR : ownKnob Tryz.prog.godebug = none := by kernel_rfl

/-- the walk -/
theorem walkRem {a b : Int} (W : World) (hL : laidMetH Tryz.prog Rows.dblRemainsRow.laid W) (wa : (Lit.int .u64 a).wf = true) (wb : (Lit.int .u64 b).wf = true) :
    Calls Tryz.prog 8 #[.int .u64 a, .int .u64 b] W fun e W' => e = .returned (.bool true) ∧ Ev.Kept0 W W' := by
  rw [MakeChecks.laidMetH_plain _ _ _ (by kernel_rfl)] at hL
  have ba : 0 ≤ a ∧ a < 18446744073709551616 := by simp [Lit.wf, IntKind.min, IntKind.max, IntKind.signed, IntKind.bits] at wa; omega
  have bb : 0 ≤ b ∧ b < 18446744073709551616 := by simp [Lit.wf, IntKind.min, IntKind.max, IntKind.signed, IntKind.bits] at wb; omega
  obtain ⟨a, rfl⟩ := Int.eq_ofNat_of_zero_le ba.1
  obtain ⟨b, rfl⟩ := Int.eq_ofNat_of_zero_le bb.1
  refine (Ev.law_calls Ev.D.ctx Ev.D.globClean (Ev.D.globR hL fun _ hb => hb) (Ev.D.s8 (a := a) (b := b) (by omega) (by omega) .empty) (.cons .int (.cons .int .nil))).mono fun e W' h => ?_
  obtain ⟨⟨z, E', rfl, hv⟩, hk⟩ := h
  rw [hv.bool_inv]
  exact ⟨rfl, hk⟩

set_option maxRecDepth 100000 in
theorem liftedRem (os : Os) (started : os.Started) (H : Type) (enc : TypeId × Value → H) :
    ReturnsInHanded {} Tryz.checked os 8 .any (fun w args => (Rows.dblRemainsSpec.pre enc Tryz.prog Tryz.f8 [] false w args ∧ laidMetH Tryz.prog Rows.dblRemainsRow.laid w) ∧ sizedMet enc Tryz.prog Tryz.f8 (OpenSpec.ofChange Rows.dblRemainsSpec) false w args)
      (Rows.dblRemainsSpec.post enc Tryz.prog Tryz.f8 false true false false) := by
  refine returnsInHanded_of_change_and (C := Tryz.checked) (X := fun w _ => laidMetH Tryz.prog Rows.dblRemainsRow.laid w) (fun _ _ _ hh h => h.of_heap hh) ownR started (by kernel_rfl) Tryz.func8
    (ChangeSpec.witness_shaped (enc := enc) (C := Tryz.checked) (os := os) (X := fun w _ => laidMetH Tryz.prog Rows.dblRemainsRow.laid w) false (World.laidAll Tryz.prog os Rows.dblRemainsRow.laid) #[.int .u64 0, .int .u64 0] 8 (World.laidAll_os _ _ _)
      (World.shaped_of_ZipB (by kernel_rfl) (by kernel_rfl)) (by kernel_rfl) (by kernel_rfl) (by kernel_rfl)
      (by rw [MakeChecks.laidMetH_plain _ _ _ (by kernel_rfl)]; exact laidMet_laidAll _ (by kernel_rfl) (by kernel_rfl))) ?_
  intro W base args ds gs before hval0 hW _ _ hL _
  have hval : ∀ (j : Nat) t v, Tryz.f8.params[j]? = some t → args[j]? = some v → Value.okWide Tryz.prog W .any base t v := hval0
  have hW' := hW
  obtain ⟨p, q, hA0, hV, rfl, _, _⟩ := hW
  have hA : DataW.TrodAll enc Tryz.prog W 0 (fun _ => true) true Tryz.f8.params.toList args.toList ds p := hA0
  rw [Tryz.params8] at hA hval
  obtain ⟨v0, v1, d0, d1, p0, p1, rfl, rfl, rfl, h0, h1⟩ := trodAll_two hA
  obtain ⟨rfl, rfl⟩ := trodVars_none hV
  obtain ⟨a, rfl, rfl, rfl, wa⟩ := open_int Tryz.underlying28 (hval 0 28 v0 rfl rfl) h0
  obtain ⟨b, rfl, rfl, rfl, wb⟩ := open_int Tryz.underlying28 (hval 1 28 v1 rfl rfl) h1
  clear hA0 hval0
  simp only [List.append_nil] at hW'
  refine (walkRem W hL wa wb).mono fun e W' ⟨he, hk⟩ => ?_
  subst he
  exact ⟨_, rfl, _, _, _, [], [], [], hW', trodAll_mk1 (shut_bool Tryz.underlying4 _), trodAll_mk2 (shut_int Tryz.underlying28 wa) (shut_int Tryz.underlying28 wb), rfl, hk.frame _, fun h => by cases h⟩

theorem rem_row : Rows.DblRemainsSaid :=
  OpenClaim.holds_of_wide 8 Tryz.f8 rfl rfl rfl rfl rfl rfl rfl ⟨rfl, rfl, rfl, rfl, rfl⟩ rfl rfl rfl rfl rfl remnamed Tryz.func8 remclosed
    (of_decide_eq_true (by kernel_rfl)) (by unfold Func.isWrapper; first | (rw [if_pos (by decide +kernel)]; kernel_rfl) | (rw [if_neg (by decide +kernel)]; exact ⟨rfl, rfl⟩))
    (fun os started H enc _ => liftedRem os started H enc)

theorem remloc (f : Nat) (fn : Func) (hf : Tryz.prog.funcNamed Rows.dblRemainsRow.func = some f) (hfn : Tryz.prog.funcs[f]? = some fn) : true = Tryz.prog.looks [] ∧ ∀ (j : Nat) t, fn.params[j]? = some t → Tryz.prog.wantsStandIn t = false := by
  obtain rfl : f = 8 := Option.some.inj (remnamed.symm.trans hf) |>.symm
  obtain rfl : fn = Tryz.f8 := (Option.some.inj (Tryz.func8.symm.trans hfn)).symm
  exact ⟨by kernel_rfl, fun j t ht => by
    rw [Tryz.params8] at ht
    have hm : t ∈ [28, 28] := by simpa using Array.mem_of_getElem? ht
    have hall : ([28, 28].all fun u => !Tryz.prog.wantsStandIn u) = true := by kernel_rfl
    exact (show Tryz.prog.wantsStandIn t = false by simpa using List.all_eq_true.1 hall t hm)⟩
theorem remmain : Tryz.prog.mainIs = some (true, "2d3d0e6783ce3f264f78a9d20cb54d6d563bc1a71f58a8e0017f9b217784264d".toList) := by kernel_rfl

/-- the tied card -/
theorem rem_holds : Rows.DblRemainsCardSaid :=
  Claim7.holds_tied_plain_at .later [] [.data, .data, .widerDeep, .widerDeep, .data, .data, .data, .data, .data, .data, .sentinel, .sentinel, .pinned, .pinned, .pinned, .pinned] true (true, "2d3d0e6783ce3f264f78a9d20cb54d6d563bc1a71f58a8e0017f9b217784264d") true
    rem_row (fun _ h => by cases h) remwf (fun _ h => by cases h) dblRemains_row_tie rfl ⟨rfl, rfl⟩ remmain rfl remloc remgoes
end Go.Proofs.YtmadknpaljaecaaGreatDoor
