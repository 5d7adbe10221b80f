/- DblOps: for every operation number o of one byte and all bit patterns a and b of 64 bits, the law function answers true: the calls ofBits, FromInt, FromTime, Add, Sub, Mul, Quo, Neg and bits of package dbl answer the bits that IEEE binary64 arithmetic gives, or some NaN where it gives a NaN. Conditions: none beyond those of the given statement (the world as the harness lays it). -/
import Derived.Test.YtmadknpaljaecaaGreatDoorCards
import Derived.Test.YtmadknpaljaecaaGreatDoorTie
import Derived.Test.YtmadknpaljaecaaGreatDoorEag
import Derived.Test.YtmadknpaljaecaaGreatDoorEai
import Derived.Test.YtmadknpaljaecaaGreatDoorEaj
import Derived.Test.YtmadknpaljaecaaGreatDoorEak
import Derived.Test.YtmadknpaljaecaaGreatDoorOal
set_option linter.all false
namespace Go.Proofs.YtmadknpaljaecaaGreatDoor
open Go.ChangeShapes Go.WideShapes Go.ChangeAt Go.RowKit Go.Lib

theorem own : ownKnob Tryz.prog.godebug = none := by kernel_rfl

/-- the walk -/
theorem walkOps {o a b : Int} (W : World) (hL : laidMetH Tryz.prog Rows.dblOpsRow.laid W) (wo : (Lit.int .u8 o).wf = true) (wa : (Lit.int .u64 a).wf = true) (wb : (Lit.int .u64 b).wf = true) :
    Calls Tryz.prog 5 #[.int .u8 o, .int .u64 a, .int .u64 b] W fun e W' => e = .returned (.bool true) ∧ Ev.Kept0 W W' := by
  rw [MakeChecks.laidMetH_plain _ _ _ (by kernel_rfl)] at hL
  have bo : 0 ≤ o ∧ o < 256 := by simp [Lit.wf, IntKind.min, IntKind.max, IntKind.signed, IntKind.bits] at wo; omega
  have ba : 0 ≤ a ∧ a < 18446744073709551616 := by simp [Lit.wf, IntKind.min, IntKind.max, IntKind.signed, IntKind.bits] at wa; omega
  have bb : 0 ≤ b ∧ b < 18446744073709551616 := by simp [Lit.wf, IntKind.min, IntKind.max, IntKind.signed, IntKind.bits] at wb; omega
  obtain ⟨o, rfl⟩ := Int.eq_ofNat_of_zero_le bo.1
  obtain ⟨a, rfl⟩ := Int.eq_ofNat_of_zero_le ba.1
  obtain ⟨b, rfl⟩ := Int.eq_ofNat_of_zero_le bb.1
  refine (Ev.law_calls Ev.D.ctx Ev.D.globClean (Ev.D.globR hL fun _ hb => hb) (Ev.D.s5 (o := o) (a := a) (b := b) (by omega) (by omega) .empty) (.cons .int (.cons .int (.cons .int .nil)))).mono fun e W' h => ?_
  obtain ⟨⟨z, E', rfl, hv⟩, hk⟩ := h
  rw [hv.bool_inv]
  exact ⟨rfl, hk⟩

set_option maxRecDepth 100000 in
theorem liftedOps (os : Os) (started : os.Started) (H : Type) (enc : TypeId × Value → H) :
    ReturnsInHanded {} Tryz.checked os 5 .any (fun w args => (Rows.dblOpsSpec.pre enc Tryz.prog Tryz.f5 [] false w args ∧ laidMetH Tryz.prog Rows.dblOpsRow.laid w) ∧ sizedMet enc Tryz.prog Tryz.f5 (OpenSpec.ofChange Rows.dblOpsSpec) false w args)
      (Rows.dblOpsSpec.post enc Tryz.prog Tryz.f5 false true false false) := by
  refine returnsInHanded_of_change_and (C := Tryz.checked) (X := fun w _ => laidMetH Tryz.prog Rows.dblOpsRow.laid w) (fun _ _ _ hh h => h.of_heap hh) own started (by kernel_rfl) Tryz.func5
    (ChangeSpec.witness_shaped (enc := enc) (C := Tryz.checked) (os := os) (X := fun w _ => laidMetH Tryz.prog Rows.dblOpsRow.laid w) false (World.laidAll Tryz.prog os Rows.dblOpsRow.laid) #[.int .u8 0, .int .u64 0, .int .u64 0] 8 (World.laidAll_os _ _ _)
      (World.shaped_of_ZipB (by kernel_rfl) (by kernel_rfl)) (by kernel_rfl) (by kernel_rfl) (by kernel_rfl)
      (by rw [MakeChecks.laidMetH_plain _ _ _ (by kernel_rfl)]; exact laidMet_laidAll _ (by kernel_rfl) (by kernel_rfl))) ?_
  intro W base args ds gs before hval0 hW _ _ hL _
  have hval : ∀ (j : Nat) t v, Tryz.f5.params[j]? = some t → args[j]? = some v → Value.okWide Tryz.prog W .any base t v := hval0
  have hW' := hW
  obtain ⟨p, q, hA0, hV, rfl, _, _⟩ := hW
  have hA : DataW.TrodAll enc Tryz.prog W 0 (fun _ => true) true Tryz.f5.params.toList args.toList ds p := hA0
  rw [Tryz.params5] at hA hval
  obtain ⟨v0, v1, v2, d0, d1, d2, p0, p1, p2, rfl, rfl, rfl, h0, h1, h2⟩ := trodAll_three hA
  obtain ⟨rfl, rfl⟩ := trodVars_none hV
  obtain ⟨o, rfl, rfl, rfl, wo⟩ := open_int Tryz.underlying5 (hval 0 5 v0 rfl rfl) h0
  obtain ⟨a, rfl, rfl, rfl, wa⟩ := open_int Tryz.underlying28 (hval 1 28 v1 rfl rfl) h1
  obtain ⟨b, rfl, rfl, rfl, wb⟩ := open_int Tryz.underlying28 (hval 2 28 v2 rfl rfl) h2
  clear hA0 hval0
  simp only [List.append_nil] at hW'
  refine (walkOps W hL wo wa wb).mono fun e W' ⟨he, hk⟩ => ?_
  subst he
  exact ⟨_, rfl, _, _, _, [], [], [], hW', trodAll_mk1 (shut_bool Tryz.underlying4 _), trodAll_mk3 (shut_int Tryz.underlying5 wo) (shut_int Tryz.underlying28 wa) (shut_int Tryz.underlying28 wb), rfl, hk.frame _, fun h => by cases h⟩

theorem ops_row : Rows.DblOpsSaid :=
  OpenClaim.holds_of_wide 5 Tryz.f5 rfl rfl rfl rfl rfl rfl rfl ⟨rfl, rfl, rfl, rfl, rfl⟩ rfl rfl rfl rfl rfl opsnamed Tryz.func5 opsclosed
    (of_decide_eq_true (by kernel_rfl)) (by unfold Func.isWrapper; first | (rw [if_pos (by decide +kernel)]; kernel_rfl) | (rw [if_neg (by decide +kernel)]; exact ⟨rfl, rfl⟩))
    (fun os started H enc _ => liftedOps os started H enc)

theorem opsloc (f : Nat) (fn : Func) (hf : Tryz.prog.funcNamed Rows.dblOpsRow.func = some f) (hfn : Tryz.prog.funcs[f]? = some fn) : true = Tryz.prog.looks [] ∧ ∀ (j : Nat) t, fn.params[j]? = some t → Tryz.prog.wantsStandIn t = false := by
  obtain rfl : f = 5 := Option.some.inj (opsnamed.symm.trans hf) |>.symm
  obtain rfl : fn = Tryz.f5 := (Option.some.inj (Tryz.func5.symm.trans hfn)).symm
  exact ⟨by kernel_rfl, fun j t ht => by
    rw [Tryz.params5] at ht
    have hm : t ∈ [5, 28, 28] := by simpa using Array.mem_of_getElem? ht
    have hall : ([5, 28, 28].all fun u => !Tryz.prog.wantsStandIn u) = true := by kernel_rfl
    exact (show Tryz.prog.wantsStandIn t = false by simpa using List.all_eq_true.1 hall t hm)⟩
theorem opsmain : Tryz.prog.mainIs = some (true, "2d3d0e6783ce3f264f78a9d20cb54d6d563bc1a71f58a8e0017f9b217784264d".toList) := by kernel_rfl

/-- the tied card -/
theorem ops_holds : Rows.DblOpsCardSaid :=
  Claim7.holds_tied_plain_at .later [] [.data, .data, .widerDeep, .widerDeep, .data, .data, .data, .data, .data, .data, .sentinel, .sentinel, .pinned, .pinned, .pinned, .pinned] true (true, "2d3d0e6783ce3f264f78a9d20cb54d6d563bc1a71f58a8e0017f9b217784264d") true
    ops_row (fun _ h => by cases h) opswf (fun _ h => by cases h) dblOps_row_tie rfl ⟨rfl, rfl⟩ opsmain rfl opsloc opsgoes
end Go.Proofs.YtmadknpaljaecaaGreatDoor
