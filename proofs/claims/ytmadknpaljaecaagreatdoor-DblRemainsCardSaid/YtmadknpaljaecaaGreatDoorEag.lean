import Derived.Orders
import Derived.Test.YtmadknpaljaecaaGreatDoorEab
import Derived.Test.YtmadknpaljaecaaGreatDoorEae
import Derived.Test.YtmadknpaljaecaaGreatDoorEaf
set_option linter.all false
namespace Go.Proofs.YtmadknpaljaecaaGreatDoor.Ev
open Go
/-- a pure function without arguments answers in every memory what it answers in the empty one -/
theorem does_heap {C : Ctx} {f : Nat} {fn : XFn} (hs : C.sum f = none) (hf : C.fns f = some fn) (hp : fn.pure = true) {v : AV} (hd : Does C f [] .empty v .empty) (h : Heap) : Does C f [] h v h := by
  obtain ⟨n, hn⟩ := hd
  refine ⟨n, ?_⟩
  simp only [callFn, hs, callB, hf, hp, mapO] at hn ⊢
  split at hn
  · split at hn
    · split at hn
      · cases hn
      · split at hn
        · cases hn
        · cases hn; simp_all
    · split at hn
      · cases hn
      · split at hn
        · cases hn
        · cases hn; simp_all
    · split at hn <;> cases hn
    · cases hn
  · cases hn
end Go.Proofs.YtmadknpaljaecaaGreatDoor.Ev
namespace Go.Proofs.YtmadknpaljaecaaGreatDoor.Ev.D
open Go Go.Proofs.YtmadknpaljaecaaGreatDoor.Ev
theorem s15 (h : Heap) : Does C 15 [] h (.bool true) h := by
  refine does_heap (fn := X15) rfl rfl rfl ⟨100000000, ?_⟩ h
  have e := isT_eq worksK
  have := callF_ex C 100000000 15 [] .empty (by rw [e]; trivial)
  rw [this, e]
end Go.Proofs.YtmadknpaljaecaaGreatDoor.Ev.D
namespace Go.Proofs.YtmadknpaljaecaaGreatDoor.Ev.D
open Go Go.Proofs.YtmadknpaljaecaaGreatDoor.Ev
set_option maxRecDepth 100000
set_option linter.all false

/-- a sum, a difference, a product or a quotient -/
theorem arith (op : BinOp) (ho : op = .add ∨ op = .sub ∨ op = .mul ∨ op = .quo) (a b : Nat) : ∃ v, binV op (.float .f64 a) (.float .f64 b) = some v ∧ ((∃ r, v = .float .f64 r) ∨ v = .nan .f64) := by
  have fl : ∀ o : Option Nat, ∃ v, floatR .f64 o = some v ∧ ((∃ r, v = .float .f64 r) ∨ v = .nan .f64) := fun o => by
    cases o with
    | none => exact ⟨_, rfl, .inr rfl⟩
    | some r => exact ⟨_, rfl, .inl ⟨r, rfl⟩⟩
  rcases ho with rfl | rfl | rfl | rfl <;> simp only [binV, if_true, floatBin] <;> exact fl _

theorem rem_bad {a b : Nat} (ha : a < 18446744073709551616) (hb : b < 18446744073709551616) (bad : (decide (Fl.inf < Fl.rung a) || decide (Fl.inf < Fl.rung b) || decide (Fl.rung a = Fl.inf) || decide (Fl.rung b = 0)) = true) (h : Heap) :
    Does C 67 [.float .f64 a, .float .f64 b] h (.float .f64 9221120237041090561) h := by
  refine does_pure (fn := X67) rfl rfl rfl (mapO_cons conv_float (mapO_cons conv_float mapO_nil)) ?_
  cases e1 : decide (Fl.inf < Fl.rung a) <;> cases e2 : decide (Fl.inf < Fl.rung b) <;> cases e3 : decide (Fl.rung a = Fl.inf) <;> cases e4 : decide (Fl.rung b = 0) <;>
    first
    | (rw [e1, e2, e3, e4] at bad; cases bad; done)
    | (simp only [go_seq, go_reg, go_block, go_mv, go_p, go_q, go_h, go_g, go_pick, go_grd, grdG_tt, grdG_ff, grdG_tf, grdG_ft, grdG_undef, go_call, List.map_cons, List.map_nil, x_bin, x_un, x_ext, extV_tup, x_cvI, cvIV_int, x_cvF, cvFV_int, x_eq, eqGV_bool, x_fbits, fbV_f, x_ffrom, ffV_i, pickV_t, pickV_f, opG_ok, opR_some', put_some, put_none, eval_t, eval_c, eval_g, T.at_set, initEnv_cons, initEnv_nil, at_nil, go_o_nil, go_cond, condG_true, condG_false, go_ret, go_blk, go_skip, go_label, go_exit, exitG_c, exitG_o, exitG_blk, exitG_nil, go_nil, cont_exit, cont_ret', cont_panic', b_add, b_sub, b_mul, b_and, b_or, b_xor, b_andNot, b_eql, b_neq, b_lss, b_leq, b_gtr, b_geq, b_seql, b_sneq, beq_lit, f_eql, f_neq, f_lss, f_leq, f_gtr, f_geq, Nat.reduceEqDiff, Nat.reduceAdd, if_true, if_false, reduceCtorEq, decide_true, decide_false, Bool.not_true, Bool.not_false, Bool.and_self, Bool.and_true, Bool.true_and, Bool.and_false, Bool.false_and, Bool.or_true, Bool.true_or, Bool.or_false, Bool.false_or, List.getElem?_cons_zero, List.getElem?_cons_succ, Int.toNat_natCast, Int.reduceLE, Int.reduceLT, Int.reduceEq, Int.reduceNeg, back1r, back2r, conv_int, conv_bool, conv_float, conv_nan, conv_str, Option.some.injEq, AV.float.injEq, AV.int.injEq, AV.bool.injEq, AV.str.injEq, true_and, and_true, X67, neq_self, e1, e2, callG_of (s28 ha _), e3, eqz, e4, callG_of (s46 _)]; done)
theorem rem_inf {a b : Nat} (ha : a < 18446744073709551616) (hb : b < 18446744073709551616) (fa : Fl.rung a < Fl.inf) (ib : Fl.rung b = Fl.inf) (h : Heap) :
    Does C 67 [.float .f64 a, .float .f64 b] h (.float .f64 a) h := by
  refine does_pure (fn := X67) rfl rfl rfl (mapO_cons conv_float (mapO_cons conv_float mapO_nil)) ?_
  have e1 : decide (Fl.inf < Fl.rung a) = false := decide_eq_false (by omega)
  have e2 : decide (Fl.inf < Fl.rung b) = false := decide_eq_false (by omega)
  have e3 : decide (Fl.rung a = Fl.inf) = false := decide_eq_false (by omega)
  have e4 : decide (Fl.rung b = Fl.inf) = true := decide_eq_true ib
  have e5 : decide (Fl.rung b = 0) = false := decide_eq_false (by rw [ib]; decide)
  simp only [go_seq, go_reg, go_block, go_mv, go_p, go_q, go_h, go_g, go_pick, go_grd, grdG_tt, grdG_ff, grdG_tf, grdG_ft, grdG_undef, go_call, List.map_cons, List.map_nil, x_bin, x_un, x_ext, extV_tup, x_cvI, cvIV_int, x_cvF, cvFV_int, x_eq, eqGV_bool, x_fbits, fbV_f, x_ffrom, ffV_i, pickV_t, pickV_f, opG_ok, opR_some', put_some, put_none, eval_t, eval_c, eval_g, T.at_set, initEnv_cons, initEnv_nil, at_nil, go_o_nil, go_cond, condG_true, condG_false, go_ret, go_blk, go_skip, go_label, go_exit, exitG_c, exitG_o, exitG_blk, exitG_nil, go_nil, cont_exit, cont_ret', cont_panic', b_add, b_sub, b_mul, b_and, b_or, b_xor, b_andNot, b_eql, b_neq, b_lss, b_leq, b_gtr, b_geq, b_seql, b_sneq, beq_lit, f_eql, f_neq, f_lss, f_leq, f_gtr, f_geq, Nat.reduceEqDiff, Nat.reduceAdd, if_true, if_false, reduceCtorEq, decide_true, decide_false, Bool.not_true, Bool.not_false, Bool.and_self, Bool.and_true, Bool.true_and, Bool.and_false, Bool.false_and, Bool.or_true, Bool.true_or, Bool.or_false, Bool.false_or, List.getElem?_cons_zero, List.getElem?_cons_succ, Int.toNat_natCast, Int.reduceLE, Int.reduceLT, Int.reduceEq, Int.reduceNeg, back1r, back2r, conv_int, conv_bool, conv_float, conv_nan, conv_str, Option.some.injEq, AV.float.injEq, AV.int.injEq, AV.bool.injEq, AV.str.injEq, true_and, and_true, X67, neq_self, e1, e2, callG_of (s28 ha _), callG_of (s28 hb _), e3, e4, eqz, e5]
theorem b_rem63 {a : Nat} : binV .rem (.int .u64 (a : Int)) (.int .u64 9223372036854775808) = some (.int .u64 (Fl.rung a : Int)) := by
  rw [b_rem (by decide)]; rfl
/-- the reference's remainder -/
theorem ref_bad {a b : Nat} (ha : a < 18446744073709551616) (hb : b < 18446744073709551616) (bad : (decide (Fl.inf < Fl.rung a) || decide (Fl.inf < Fl.rung b) || decide (Fl.rung a = Fl.inf) || decide (Fl.rung b = 0)) = true) (h : Heap) :
    Does C 23 [.str ⟨3, 7171940⟩, .float .f64 a, .float .f64 b] h (.tup [.float .f64 9221120237041090561, .bool true]) h := by
  refine does_pure (fn := X23) rfl rfl rfl (mapO_cons conv_str (mapO_cons conv_float (mapO_cons conv_float mapO_nil))) ?_
  cases e1 : decide (Fl.inf < Fl.rung a) <;> cases e2 : decide (Fl.inf < Fl.rung b) <;> cases e3 : decide (Fl.rung a = Fl.inf) <;> cases e4 : decide (Fl.rung b = 0) <;>
    first
    | (rw [e1, e2, e3, e4] at bad; cases bad; done)
    | (simp only [go_seq, go_reg, go_block, go_mv, go_p, go_q, go_h, go_g, go_pick, go_grd, grdG_tt, grdG_ff, grdG_tf, grdG_ft, grdG_undef, go_call, List.map_cons, List.map_nil, x_bin, x_un, x_ext, extV_tup, x_cvI, cvIV_int, x_cvF, cvFV_int, x_eq, eqGV_bool, x_fbits, fbV_f, x_ffrom, ffV_i, pickV_t, pickV_f, opG_ok, opR_some', put_some, put_none, eval_t, eval_c, eval_g, T.at_set, initEnv_cons, initEnv_nil, at_nil, go_o_nil, go_cond, condG_true, condG_false, go_ret, go_blk, go_skip, go_label, go_exit, exitG_c, exitG_o, exitG_blk, exitG_nil, go_nil, cont_exit, cont_ret', cont_panic', b_add, b_sub, b_mul, b_and, b_or, b_xor, b_andNot, b_eql, b_neq, b_lss, b_leq, b_gtr, b_geq, b_seql, b_sneq, beq_lit, f_eql, f_neq, f_lss, f_leq, f_gtr, f_geq, Nat.reduceEqDiff, Nat.reduceAdd, if_true, if_false, reduceCtorEq, decide_true, decide_false, Bool.not_true, Bool.not_false, Bool.and_self, Bool.and_true, Bool.true_and, Bool.and_false, Bool.false_and, Bool.or_true, Bool.true_or, Bool.or_false, Bool.false_or, List.getElem?_cons_zero, List.getElem?_cons_succ, Int.toNat_natCast, Int.reduceLE, Int.reduceLT, Int.reduceEq, Int.reduceNeg, back1r, back2r, conv_int, conv_bool, conv_float, conv_nan, conv_str, Option.some.injEq, AV.float.injEq, AV.int.injEq, AV.bool.injEq, AV.str.injEq, true_and, and_true, X23, neq_self, e1, e2, callG_of (s28 ha _), e3, eqz, e4, callG_of (s46 _)]; done)
theorem ref_inf {a b : Nat} (ha : a < 18446744073709551616) (hb : b < 18446744073709551616) (fa : Fl.rung a < Fl.inf) (ib : Fl.rung b = Fl.inf) (h : Heap) :
    Does C 23 [.str ⟨3, 7171940⟩, .float .f64 a, .float .f64 b] h (.tup [.float .f64 a, .bool true]) h := by
  refine does_pure (fn := X23) rfl rfl rfl (mapO_cons conv_str (mapO_cons conv_float (mapO_cons conv_float mapO_nil))) ?_
  have e1 : decide (Fl.inf < Fl.rung a) = false := decide_eq_false (by omega)
  have e2 : decide (Fl.inf < Fl.rung b) = false := decide_eq_false (by omega)
  have e3 : decide (Fl.rung a = Fl.inf) = false := decide_eq_false (by omega)
  have e4 : decide (Fl.rung b = Fl.inf) = true := decide_eq_true ib
  have e5 : decide (Fl.rung b = 0) = false := decide_eq_false (by rw [ib]; decide)
  simp only [go_seq, go_reg, go_block, go_mv, go_p, go_q, go_h, go_g, go_pick, go_grd, grdG_tt, grdG_ff, grdG_tf, grdG_ft, grdG_undef, go_call, List.map_cons, List.map_nil, x_bin, x_un, x_ext, extV_tup, x_cvI, cvIV_int, x_cvF, cvFV_int, x_eq, eqGV_bool, x_fbits, fbV_f, x_ffrom, ffV_i, pickV_t, pickV_f, opG_ok, opR_some', put_some, put_none, eval_t, eval_c, eval_g, T.at_set, initEnv_cons, initEnv_nil, at_nil, go_o_nil, go_cond, condG_true, condG_false, go_ret, go_blk, go_skip, go_label, go_exit, exitG_c, exitG_o, exitG_blk, exitG_nil, go_nil, cont_exit, cont_ret', cont_panic', b_add, b_sub, b_mul, b_and, b_or, b_xor, b_andNot, b_eql, b_neq, b_lss, b_leq, b_gtr, b_geq, b_seql, b_sneq, beq_lit, f_eql, f_neq, f_lss, f_leq, f_gtr, f_geq, Nat.reduceEqDiff, Nat.reduceAdd, if_true, if_false, reduceCtorEq, decide_true, decide_false, Bool.not_true, Bool.not_false, Bool.and_self, Bool.and_true, Bool.true_and, Bool.and_false, Bool.false_and, Bool.or_true, Bool.true_or, Bool.or_false, Bool.false_or, List.getElem?_cons_zero, List.getElem?_cons_succ, Int.toNat_natCast, Int.reduceLE, Int.reduceLT, Int.reduceEq, Int.reduceNeg, back1r, back2r, conv_int, conv_bool, conv_float, conv_nan, conv_str, Option.some.injEq, AV.float.injEq, AV.int.injEq, AV.bool.injEq, AV.str.injEq, true_and, and_true, X23, neq_self, e1, e2, callG_of (s28 ha _), callG_of (s28 hb _), e3, e4, eqz, e5]
theorem ref_fin {a b : Nat} (ha : a < 18446744073709551616) (hb : b < 18446744073709551616) (fa : Fl.rung a < Fl.inf) (fb : Fl.rung b < Fl.inf) (b0 : 0 < Fl.rung b) {r : Nat} (hr : r < Fl.inf) (hv : Fl.V r = Fl.V (Fl.rung a) % Fl.V (Fl.rung b)) (h : Heap) :
    Does C 23 [.str ⟨3, 7171940⟩, .float .f64 a, .float .f64 b] h (.tup [.float .f64 (Ieee.double.word (Fl.neg a) r), .bool true]) h := by
  refine does_pure (fn := X23) rfl rfl rfl (mapO_cons conv_str (mapO_cons conv_float (mapO_cons conv_float mapO_nil))) ?_
  have e1 : decide (Fl.inf < Fl.rung a) = false := decide_eq_false (by omega)
  have e2 : decide (Fl.inf < Fl.rung b) = false := decide_eq_false (by omega)
  have e3 : decide (Fl.rung a = Fl.inf) = false := decide_eq_false (by omega)
  have e4 : decide (Fl.rung b = Fl.inf) = false := decide_eq_false (by omega)
  have e5 : decide (Fl.rung b = 0) = false := decide_eq_false (by omega)
  by_cases h0 : Fl.rung a = 0
  · have hr0 : r = 0 := Fl.V_inj (by rw [hv, h0, Fl.V_zero, Nat.zero_mod])
    simp only [go_seq, go_reg, go_block, go_mv, go_p, go_q, go_h, go_g, go_pick, go_grd, grdG_tt, grdG_ff, grdG_tf, grdG_ft, grdG_undef, go_call, List.map_cons, List.map_nil, x_bin, x_un, x_ext, extV_tup, x_cvI, cvIV_int, x_cvF, cvFV_int, x_eq, eqGV_bool, x_fbits, fbV_f, x_ffrom, ffV_i, pickV_t, pickV_f, opG_ok, opR_some', put_some, put_none, eval_t, eval_c, eval_g, T.at_set, initEnv_cons, initEnv_nil, at_nil, go_o_nil, go_cond, condG_true, condG_false, go_ret, go_blk, go_skip, go_label, go_exit, exitG_c, exitG_o, exitG_blk, exitG_nil, go_nil, cont_exit, cont_ret', cont_panic', b_add, b_sub, b_mul, b_and, b_or, b_xor, b_andNot, b_eql, b_neq, b_lss, b_leq, b_gtr, b_geq, b_seql, b_sneq, beq_lit, f_eql, f_neq, f_lss, f_leq, f_gtr, f_geq, Nat.reduceEqDiff, Nat.reduceAdd, if_true, if_false, reduceCtorEq, decide_true, decide_false, Bool.not_true, Bool.not_false, Bool.and_self, Bool.and_true, Bool.true_and, Bool.and_false, Bool.false_and, Bool.or_true, Bool.true_or, Bool.or_false, Bool.false_or, List.getElem?_cons_zero, List.getElem?_cons_succ, Int.toNat_natCast, Int.reduceLE, Int.reduceLT, Int.reduceEq, Int.reduceNeg, back1r, back2r, conv_int, conv_bool, conv_float, conv_nan, conv_str, Option.some.injEq, AV.float.injEq, AV.int.injEq, AV.bool.injEq, AV.str.injEq, true_and, and_true, X23, neq_self, e1, e2, callG_of (s28 ha _), callG_of (s28 hb _), e3, e4, eqz, e5, decide_eq_true h0]
    have := Fl.word_split ha
    rw [h0] at this
    rw [hr0]; exact this.symm
  · have hr63 : r < 9223372036854775808 := Nat.lt_trans hr Fl.inf_lt_sgn
    simp only [go_seq, go_reg, go_block, go_mv, go_p, go_q, go_h, go_g, go_pick, go_grd, grdG_tt, grdG_ff, grdG_tf, grdG_ft, grdG_undef, go_call, List.map_cons, List.map_nil, x_bin, x_un, x_ext, extV_tup, x_cvI, cvIV_int, x_cvF, cvFV_int, x_eq, eqGV_bool, x_fbits, fbV_f, x_ffrom, ffV_i, pickV_t, pickV_f, opG_ok, opR_some', put_some, put_none, eval_t, eval_c, eval_g, T.at_set, initEnv_cons, initEnv_nil, at_nil, go_o_nil, go_cond, condG_true, condG_false, go_ret, go_blk, go_skip, go_label, go_exit, exitG_c, exitG_o, exitG_blk, exitG_nil, go_nil, cont_exit, cont_ret', cont_panic', b_add, b_sub, b_mul, b_and, b_or, b_xor, b_andNot, b_eql, b_neq, b_lss, b_leq, b_gtr, b_geq, b_seql, b_sneq, beq_lit, f_eql, f_neq, f_lss, f_leq, f_gtr, f_geq, Nat.reduceEqDiff, Nat.reduceAdd, if_true, if_false, reduceCtorEq, decide_true, decide_false, Bool.not_true, Bool.not_false, Bool.and_self, Bool.and_true, Bool.true_and, Bool.and_false, Bool.false_and, Bool.or_true, Bool.true_or, Bool.or_false, Bool.false_or, List.getElem?_cons_zero, List.getElem?_cons_succ, Int.toNat_natCast, Int.reduceLE, Int.reduceLT, Int.reduceEq, Int.reduceNeg, back1r, back2r, conv_int, conv_bool, conv_float, conv_nan, conv_str, Option.some.injEq, AV.float.injEq, AV.int.injEq, AV.bool.injEq, AV.str.injEq, true_and, and_true, X23, neq_self, e1, e2, callG_of (s28 ha _), callG_of (s28 hb _), e3, e4, eqz, e5, decide_eq_false h0, b_rem63, callG_of (s68 fa fb b0 hr hv _), ltz, decide_eq_true (show 0 < Fl.rung a by omega), decide_eq_true (show Fl.rung a ≤ Fl.inf by omega), callG_of (s56 hr63 _ _)]

def opName : Nat → BStr
  | 0 => ⟨1, 43⟩ | 1 => ⟨1, 45⟩ | 2 => ⟨1, 42⟩ | 3 => ⟨3, 6580598⟩ | 4 => ⟨3, 7171940⟩ | _ => ⟨4, 1768188278⟩

/-- both answer the same -/
theorem ops {a b : Nat} (ha : a < 18446744073709551616) (hb : b < 18446744073709551616) (i : Nat) : ∃ v ok, ((∃ r, v = .float .f64 r) ∨ v = .nan .f64) ∧ (∀ h, Does C 22 [.str (opName i), .float .f64 a, .float .f64 b] h (.tup [v, .bool ok]) h) ∧ (∀ h, Does C 23 [.str (opName i), .float .f64 a, .float .f64 b] h (.tup [v, .bool ok]) h) := by
  have cv : ∀ {v : AV}, ((∃ r, v = .float .f64 r) ∨ v = .nan .f64) → ∀ h, conv false h depth v = some v := by
    rintro v (⟨r, rfl⟩ | rfl) h <;> rfl
  match i with
  | 0 =>
    obtain ⟨v, hv, hk⟩ := arith .add (by simp) a b
    refine ⟨v, true, hk, fun h => ?_, fun h => ?_⟩
    · refine does_pure (fn := X22) rfl rfl rfl (mapO_cons conv_str (mapO_cons conv_float (mapO_cons conv_float mapO_nil))) ?_
      simp only [go_seq, go_reg, go_block, go_mv, go_p, go_q, go_h, go_g, go_pick, go_grd, grdG_tt, grdG_ff, grdG_tf, grdG_ft, grdG_undef, go_call, List.map_cons, List.map_nil, x_bin, x_un, x_ext, extV_tup, x_cvI, cvIV_int, x_cvF, cvFV_int, x_eq, eqGV_bool, x_fbits, fbV_f, x_ffrom, ffV_i, pickV_t, pickV_f, opG_ok, opR_some', put_some, put_none, eval_t, eval_c, eval_g, T.at_set, initEnv_cons, initEnv_nil, at_nil, go_o_nil, go_cond, condG_true, condG_false, go_ret, go_blk, go_skip, go_label, go_exit, exitG_c, exitG_o, exitG_blk, exitG_nil, go_nil, cont_exit, cont_ret', cont_panic', b_add, b_sub, b_mul, b_and, b_or, b_xor, b_andNot, b_eql, b_neq, b_lss, b_leq, b_gtr, b_geq, b_seql, b_sneq, beq_lit, f_eql, f_neq, f_lss, f_leq, f_gtr, f_geq, Nat.reduceEqDiff, Nat.reduceAdd, if_true, if_false, reduceCtorEq, decide_true, decide_false, Bool.not_true, Bool.not_false, Bool.and_self, Bool.and_true, Bool.true_and, Bool.and_false, Bool.false_and, Bool.or_true, Bool.true_or, Bool.or_false, Bool.false_or, List.getElem?_cons_zero, List.getElem?_cons_succ, Int.toNat_natCast, Int.reduceLE, Int.reduceLT, Int.reduceEq, Int.reduceNeg, back1r, back2r, conv_int, conv_bool, conv_float, conv_nan, conv_str, Option.some.injEq, AV.float.injEq, AV.int.injEq, AV.bool.injEq, AV.str.injEq, true_and, and_true, X22, opName, hv, cv hk]
    · refine does_pure (fn := X23) rfl rfl rfl (mapO_cons conv_str (mapO_cons conv_float (mapO_cons conv_float mapO_nil))) ?_
      simp only [go_seq, go_reg, go_block, go_mv, go_p, go_q, go_h, go_g, go_pick, go_grd, grdG_tt, grdG_ff, grdG_tf, grdG_ft, grdG_undef, go_call, List.map_cons, List.map_nil, x_bin, x_un, x_ext, extV_tup, x_cvI, cvIV_int, x_cvF, cvFV_int, x_eq, eqGV_bool, x_fbits, fbV_f, x_ffrom, ffV_i, pickV_t, pickV_f, opG_ok, opR_some', put_some, put_none, eval_t, eval_c, eval_g, T.at_set, initEnv_cons, initEnv_nil, at_nil, go_o_nil, go_cond, condG_true, condG_false, go_ret, go_blk, go_skip, go_label, go_exit, exitG_c, exitG_o, exitG_blk, exitG_nil, go_nil, cont_exit, cont_ret', cont_panic', b_add, b_sub, b_mul, b_and, b_or, b_xor, b_andNot, b_eql, b_neq, b_lss, b_leq, b_gtr, b_geq, b_seql, b_sneq, beq_lit, f_eql, f_neq, f_lss, f_leq, f_gtr, f_geq, Nat.reduceEqDiff, Nat.reduceAdd, if_true, if_false, reduceCtorEq, decide_true, decide_false, Bool.not_true, Bool.not_false, Bool.and_self, Bool.and_true, Bool.true_and, Bool.and_false, Bool.false_and, Bool.or_true, Bool.true_or, Bool.or_false, Bool.false_or, List.getElem?_cons_zero, List.getElem?_cons_succ, Int.toNat_natCast, Int.reduceLE, Int.reduceLT, Int.reduceEq, Int.reduceNeg, back1r, back2r, conv_int, conv_bool, conv_float, conv_nan, conv_str, Option.some.injEq, AV.float.injEq, AV.int.injEq, AV.bool.injEq, AV.str.injEq, true_and, and_true, X23, opName, hv, cv hk]
  | 1 =>
    obtain ⟨v, hv, hk⟩ := arith .sub (by simp) a b
    refine ⟨v, true, hk, fun h => ?_, fun h => ?_⟩
    · refine does_pure (fn := X22) rfl rfl rfl (mapO_cons conv_str (mapO_cons conv_float (mapO_cons conv_float mapO_nil))) ?_
      simp only [go_seq, go_reg, go_block, go_mv, go_p, go_q, go_h, go_g, go_pick, go_grd, grdG_tt, grdG_ff, grdG_tf, grdG_ft, grdG_undef, go_call, List.map_cons, List.map_nil, x_bin, x_un, x_ext, extV_tup, x_cvI, cvIV_int, x_cvF, cvFV_int, x_eq, eqGV_bool, x_fbits, fbV_f, x_ffrom, ffV_i, pickV_t, pickV_f, opG_ok, opR_some', put_some, put_none, eval_t, eval_c, eval_g, T.at_set, initEnv_cons, initEnv_nil, at_nil, go_o_nil, go_cond, condG_true, condG_false, go_ret, go_blk, go_skip, go_label, go_exit, exitG_c, exitG_o, exitG_blk, exitG_nil, go_nil, cont_exit, cont_ret', cont_panic', b_add, b_sub, b_mul, b_and, b_or, b_xor, b_andNot, b_eql, b_neq, b_lss, b_leq, b_gtr, b_geq, b_seql, b_sneq, beq_lit, f_eql, f_neq, f_lss, f_leq, f_gtr, f_geq, Nat.reduceEqDiff, Nat.reduceAdd, if_true, if_false, reduceCtorEq, decide_true, decide_false, Bool.not_true, Bool.not_false, Bool.and_self, Bool.and_true, Bool.true_and, Bool.and_false, Bool.false_and, Bool.or_true, Bool.true_or, Bool.or_false, Bool.false_or, List.getElem?_cons_zero, List.getElem?_cons_succ, Int.toNat_natCast, Int.reduceLE, Int.reduceLT, Int.reduceEq, Int.reduceNeg, back1r, back2r, conv_int, conv_bool, conv_float, conv_nan, conv_str, Option.some.injEq, AV.float.injEq, AV.int.injEq, AV.bool.injEq, AV.str.injEq, true_and, and_true, X22, opName, hv, cv hk]
    · refine does_pure (fn := X23) rfl rfl rfl (mapO_cons conv_str (mapO_cons conv_float (mapO_cons conv_float mapO_nil))) ?_
      simp only [go_seq, go_reg, go_block, go_mv, go_p, go_q, go_h, go_g, go_pick, go_grd, grdG_tt, grdG_ff, grdG_tf, grdG_ft, grdG_undef, go_call, List.map_cons, List.map_nil, x_bin, x_un, x_ext, extV_tup, x_cvI, cvIV_int, x_cvF, cvFV_int, x_eq, eqGV_bool, x_fbits, fbV_f, x_ffrom, ffV_i, pickV_t, pickV_f, opG_ok, opR_some', put_some, put_none, eval_t, eval_c, eval_g, T.at_set, initEnv_cons, initEnv_nil, at_nil, go_o_nil, go_cond, condG_true, condG_false, go_ret, go_blk, go_skip, go_label, go_exit, exitG_c, exitG_o, exitG_blk, exitG_nil, go_nil, cont_exit, cont_ret', cont_panic', b_add, b_sub, b_mul, b_and, b_or, b_xor, b_andNot, b_eql, b_neq, b_lss, b_leq, b_gtr, b_geq, b_seql, b_sneq, beq_lit, f_eql, f_neq, f_lss, f_leq, f_gtr, f_geq, Nat.reduceEqDiff, Nat.reduceAdd, if_true, if_false, reduceCtorEq, decide_true, decide_false, Bool.not_true, Bool.not_false, Bool.and_self, Bool.and_true, Bool.true_and, Bool.and_false, Bool.false_and, Bool.or_true, Bool.true_or, Bool.or_false, Bool.false_or, List.getElem?_cons_zero, List.getElem?_cons_succ, Int.toNat_natCast, Int.reduceLE, Int.reduceLT, Int.reduceEq, Int.reduceNeg, back1r, back2r, conv_int, conv_bool, conv_float, conv_nan, conv_str, Option.some.injEq, AV.float.injEq, AV.int.injEq, AV.bool.injEq, AV.str.injEq, true_and, and_true, X23, opName, hv, cv hk]
  | 2 =>
    obtain ⟨v, hv, hk⟩ := arith .mul (by simp) a b
    refine ⟨v, true, hk, fun h => ?_, fun h => ?_⟩
    · refine does_pure (fn := X22) rfl rfl rfl (mapO_cons conv_str (mapO_cons conv_float (mapO_cons conv_float mapO_nil))) ?_
      simp only [go_seq, go_reg, go_block, go_mv, go_p, go_q, go_h, go_g, go_pick, go_grd, grdG_tt, grdG_ff, grdG_tf, grdG_ft, grdG_undef, go_call, List.map_cons, List.map_nil, x_bin, x_un, x_ext, extV_tup, x_cvI, cvIV_int, x_cvF, cvFV_int, x_eq, eqGV_bool, x_fbits, fbV_f, x_ffrom, ffV_i, pickV_t, pickV_f, opG_ok, opR_some', put_some, put_none, eval_t, eval_c, eval_g, T.at_set, initEnv_cons, initEnv_nil, at_nil, go_o_nil, go_cond, condG_true, condG_false, go_ret, go_blk, go_skip, go_label, go_exit, exitG_c, exitG_o, exitG_blk, exitG_nil, go_nil, cont_exit, cont_ret', cont_panic', b_add, b_sub, b_mul, b_and, b_or, b_xor, b_andNot, b_eql, b_neq, b_lss, b_leq, b_gtr, b_geq, b_seql, b_sneq, beq_lit, f_eql, f_neq, f_lss, f_leq, f_gtr, f_geq, Nat.reduceEqDiff, Nat.reduceAdd, if_true, if_false, reduceCtorEq, decide_true, decide_false, Bool.not_true, Bool.not_false, Bool.and_self, Bool.and_true, Bool.true_and, Bool.and_false, Bool.false_and, Bool.or_true, Bool.true_or, Bool.or_false, Bool.false_or, List.getElem?_cons_zero, List.getElem?_cons_succ, Int.toNat_natCast, Int.reduceLE, Int.reduceLT, Int.reduceEq, Int.reduceNeg, back1r, back2r, conv_int, conv_bool, conv_float, conv_nan, conv_str, Option.some.injEq, AV.float.injEq, AV.int.injEq, AV.bool.injEq, AV.str.injEq, true_and, and_true, X22, opName, hv, cv hk]
    · refine does_pure (fn := X23) rfl rfl rfl (mapO_cons conv_str (mapO_cons conv_float (mapO_cons conv_float mapO_nil))) ?_
      simp only [go_seq, go_reg, go_block, go_mv, go_p, go_q, go_h, go_g, go_pick, go_grd, grdG_tt, grdG_ff, grdG_tf, grdG_ft, grdG_undef, go_call, List.map_cons, List.map_nil, x_bin, x_un, x_ext, extV_tup, x_cvI, cvIV_int, x_cvF, cvFV_int, x_eq, eqGV_bool, x_fbits, fbV_f, x_ffrom, ffV_i, pickV_t, pickV_f, opG_ok, opR_some', put_some, put_none, eval_t, eval_c, eval_g, T.at_set, initEnv_cons, initEnv_nil, at_nil, go_o_nil, go_cond, condG_true, condG_false, go_ret, go_blk, go_skip, go_label, go_exit, exitG_c, exitG_o, exitG_blk, exitG_nil, go_nil, cont_exit, cont_ret', cont_panic', b_add, b_sub, b_mul, b_and, b_or, b_xor, b_andNot, b_eql, b_neq, b_lss, b_leq, b_gtr, b_geq, b_seql, b_sneq, beq_lit, f_eql, f_neq, f_lss, f_leq, f_gtr, f_geq, Nat.reduceEqDiff, Nat.reduceAdd, if_true, if_false, reduceCtorEq, decide_true, decide_false, Bool.not_true, Bool.not_false, Bool.and_self, Bool.and_true, Bool.true_and, Bool.and_false, Bool.false_and, Bool.or_true, Bool.true_or, Bool.or_false, Bool.false_or, List.getElem?_cons_zero, List.getElem?_cons_succ, Int.toNat_natCast, Int.reduceLE, Int.reduceLT, Int.reduceEq, Int.reduceNeg, back1r, back2r, conv_int, conv_bool, conv_float, conv_nan, conv_str, Option.some.injEq, AV.float.injEq, AV.int.injEq, AV.bool.injEq, AV.str.injEq, true_and, and_true, X23, opName, hv, cv hk]
  | 3 =>
    obtain ⟨v, hv, hk⟩ := arith .quo (by simp) a b
    refine ⟨v, true, hk, fun h => ?_, fun h => ?_⟩
    · refine does_pure (fn := X22) rfl rfl rfl (mapO_cons conv_str (mapO_cons conv_float (mapO_cons conv_float mapO_nil))) ?_
      simp only [go_seq, go_reg, go_block, go_mv, go_p, go_q, go_h, go_g, go_pick, go_grd, grdG_tt, grdG_ff, grdG_tf, grdG_ft, grdG_undef, go_call, List.map_cons, List.map_nil, x_bin, x_un, x_ext, extV_tup, x_cvI, cvIV_int, x_cvF, cvFV_int, x_eq, eqGV_bool, x_fbits, fbV_f, x_ffrom, ffV_i, pickV_t, pickV_f, opG_ok, opR_some', put_some, put_none, eval_t, eval_c, eval_g, T.at_set, initEnv_cons, initEnv_nil, at_nil, go_o_nil, go_cond, condG_true, condG_false, go_ret, go_blk, go_skip, go_label, go_exit, exitG_c, exitG_o, exitG_blk, exitG_nil, go_nil, cont_exit, cont_ret', cont_panic', b_add, b_sub, b_mul, b_and, b_or, b_xor, b_andNot, b_eql, b_neq, b_lss, b_leq, b_gtr, b_geq, b_seql, b_sneq, beq_lit, f_eql, f_neq, f_lss, f_leq, f_gtr, f_geq, Nat.reduceEqDiff, Nat.reduceAdd, if_true, if_false, reduceCtorEq, decide_true, decide_false, Bool.not_true, Bool.not_false, Bool.and_self, Bool.and_true, Bool.true_and, Bool.and_false, Bool.false_and, Bool.or_true, Bool.true_or, Bool.or_false, Bool.false_or, List.getElem?_cons_zero, List.getElem?_cons_succ, Int.toNat_natCast, Int.reduceLE, Int.reduceLT, Int.reduceEq, Int.reduceNeg, back1r, back2r, conv_int, conv_bool, conv_float, conv_nan, conv_str, Option.some.injEq, AV.float.injEq, AV.int.injEq, AV.bool.injEq, AV.str.injEq, true_and, and_true, X22, opName, hv, cv hk]
    · refine does_pure (fn := X23) rfl rfl rfl (mapO_cons conv_str (mapO_cons conv_float (mapO_cons conv_float mapO_nil))) ?_
      simp only [go_seq, go_reg, go_block, go_mv, go_p, go_q, go_h, go_g, go_pick, go_grd, grdG_tt, grdG_ff, grdG_tf, grdG_ft, grdG_undef, go_call, List.map_cons, List.map_nil, x_bin, x_un, x_ext, extV_tup, x_cvI, cvIV_int, x_cvF, cvFV_int, x_eq, eqGV_bool, x_fbits, fbV_f, x_ffrom, ffV_i, pickV_t, pickV_f, opG_ok, opR_some', put_some, put_none, eval_t, eval_c, eval_g, T.at_set, initEnv_cons, initEnv_nil, at_nil, go_o_nil, go_cond, condG_true, condG_false, go_ret, go_blk, go_skip, go_label, go_exit, exitG_c, exitG_o, exitG_blk, exitG_nil, go_nil, cont_exit, cont_ret', cont_panic', b_add, b_sub, b_mul, b_and, b_or, b_xor, b_andNot, b_eql, b_neq, b_lss, b_leq, b_gtr, b_geq, b_seql, b_sneq, beq_lit, f_eql, f_neq, f_lss, f_leq, f_gtr, f_geq, Nat.reduceEqDiff, Nat.reduceAdd, if_true, if_false, reduceCtorEq, decide_true, decide_false, Bool.not_true, Bool.not_false, Bool.and_self, Bool.and_true, Bool.true_and, Bool.and_false, Bool.false_and, Bool.or_true, Bool.true_or, Bool.or_false, Bool.false_or, List.getElem?_cons_zero, List.getElem?_cons_succ, Int.toNat_natCast, Int.reduceLE, Int.reduceLT, Int.reduceEq, Int.reduceNeg, back1r, back2r, conv_int, conv_bool, conv_float, conv_nan, conv_str, Option.some.injEq, AV.float.injEq, AV.int.injEq, AV.bool.injEq, AV.str.injEq, true_and, and_true, X23, opName, hv, cv hk]
  | 4 =>
    cases bad : (decide (Fl.inf < Fl.rung a) || decide (Fl.inf < Fl.rung b) || decide (Fl.rung a = Fl.inf) || decide (Fl.rung b = 0)) with
    | true =>
      refine ⟨.float .f64 9221120237041090561, true, .inl ⟨_, rfl⟩, fun h => ?_, fun h => ref_bad ha hb bad h⟩
      refine does_pure (fn := X22) rfl rfl rfl (mapO_cons conv_str (mapO_cons conv_float (mapO_cons conv_float mapO_nil))) ?_
      simp only [go_seq, go_reg, go_block, go_mv, go_p, go_q, go_h, go_g, go_pick, go_grd, grdG_tt, grdG_ff, grdG_tf, grdG_ft, grdG_undef, go_call, List.map_cons, List.map_nil, x_bin, x_un, x_ext, extV_tup, x_cvI, cvIV_int, x_cvF, cvFV_int, x_eq, eqGV_bool, x_fbits, fbV_f, x_ffrom, ffV_i, pickV_t, pickV_f, opG_ok, opR_some', put_some, put_none, eval_t, eval_c, eval_g, T.at_set, initEnv_cons, initEnv_nil, at_nil, go_o_nil, go_cond, condG_true, condG_false, go_ret, go_blk, go_skip, go_label, go_exit, exitG_c, exitG_o, exitG_blk, exitG_nil, go_nil, cont_exit, cont_ret', cont_panic', b_add, b_sub, b_mul, b_and, b_or, b_xor, b_andNot, b_eql, b_neq, b_lss, b_leq, b_gtr, b_geq, b_seql, b_sneq, beq_lit, f_eql, f_neq, f_lss, f_leq, f_gtr, f_geq, Nat.reduceEqDiff, Nat.reduceAdd, if_true, if_false, reduceCtorEq, decide_true, decide_false, Bool.not_true, Bool.not_false, Bool.and_self, Bool.and_true, Bool.true_and, Bool.and_false, Bool.false_and, Bool.or_true, Bool.true_or, Bool.or_false, Bool.false_or, List.getElem?_cons_zero, List.getElem?_cons_succ, Int.toNat_natCast, Int.reduceLE, Int.reduceLT, Int.reduceEq, Int.reduceNeg, back1r, back2r, conv_int, conv_bool, conv_float, conv_nan, conv_str, Option.some.injEq, AV.float.injEq, AV.int.injEq, AV.bool.injEq, AV.str.injEq, true_and, and_true, X22, opName, callG_of (rem_bad ha hb bad _)]
    | false =>
      simp only [Bool.or_eq_false_iff, decide_eq_false_iff_not] at bad
      obtain ⟨⟨⟨g1, g2⟩, g3⟩, g4⟩ := bad
      by_cases ib : Fl.rung b = Fl.inf
      · refine ⟨.float .f64 a, true, .inl ⟨_, rfl⟩, fun h => ?_, fun h => ref_inf ha hb (by omega) ib h⟩
        refine does_pure (fn := X22) rfl rfl rfl (mapO_cons conv_str (mapO_cons conv_float (mapO_cons conv_float mapO_nil))) ?_
        simp only [go_seq, go_reg, go_block, go_mv, go_p, go_q, go_h, go_g, go_pick, go_grd, grdG_tt, grdG_ff, grdG_tf, grdG_ft, grdG_undef, go_call, List.map_cons, List.map_nil, x_bin, x_un, x_ext, extV_tup, x_cvI, cvIV_int, x_cvF, cvFV_int, x_eq, eqGV_bool, x_fbits, fbV_f, x_ffrom, ffV_i, pickV_t, pickV_f, opG_ok, opR_some', put_some, put_none, eval_t, eval_c, eval_g, T.at_set, initEnv_cons, initEnv_nil, at_nil, go_o_nil, go_cond, condG_true, condG_false, go_ret, go_blk, go_skip, go_label, go_exit, exitG_c, exitG_o, exitG_blk, exitG_nil, go_nil, cont_exit, cont_ret', cont_panic', b_add, b_sub, b_mul, b_and, b_or, b_xor, b_andNot, b_eql, b_neq, b_lss, b_leq, b_gtr, b_geq, b_seql, b_sneq, beq_lit, f_eql, f_neq, f_lss, f_leq, f_gtr, f_geq, Nat.reduceEqDiff, Nat.reduceAdd, if_true, if_false, reduceCtorEq, decide_true, decide_false, Bool.not_true, Bool.not_false, Bool.and_self, Bool.and_true, Bool.true_and, Bool.and_false, Bool.false_and, Bool.or_true, Bool.true_or, Bool.or_false, Bool.false_or, List.getElem?_cons_zero, List.getElem?_cons_succ, Int.toNat_natCast, Int.reduceLE, Int.reduceLT, Int.reduceEq, Int.reduceNeg, back1r, back2r, conv_int, conv_bool, conv_float, conv_nan, conv_str, Option.some.injEq, AV.float.injEq, AV.int.injEq, AV.bool.injEq, AV.str.injEq, true_and, and_true, X22, opName, callG_of (rem_inf ha hb (by omega) ib _)]
      · obtain ⟨r, hr, hv⟩ := rem_ex (x := Fl.rung a) (y := Fl.rung b) (by omega) (by omega)
        refine ⟨.float .f64 (Ieee.double.word (Fl.neg a) r), true, .inl ⟨_, rfl⟩, fun h => ?_, fun h => ref_fin ha hb (by omega) (by omega) (by omega) hr hv h⟩
        refine does_pure (fn := X22) rfl rfl rfl (mapO_cons conv_str (mapO_cons conv_float (mapO_cons conv_float mapO_nil))) ?_
        simp only [go_seq, go_reg, go_block, go_mv, go_p, go_q, go_h, go_g, go_pick, go_grd, grdG_tt, grdG_ff, grdG_tf, grdG_ft, grdG_undef, go_call, List.map_cons, List.map_nil, x_bin, x_un, x_ext, extV_tup, x_cvI, cvIV_int, x_cvF, cvFV_int, x_eq, eqGV_bool, x_fbits, fbV_f, x_ffrom, ffV_i, pickV_t, pickV_f, opG_ok, opR_some', put_some, put_none, eval_t, eval_c, eval_g, T.at_set, initEnv_cons, initEnv_nil, at_nil, go_o_nil, go_cond, condG_true, condG_false, go_ret, go_blk, go_skip, go_label, go_exit, exitG_c, exitG_o, exitG_blk, exitG_nil, go_nil, cont_exit, cont_ret', cont_panic', b_add, b_sub, b_mul, b_and, b_or, b_xor, b_andNot, b_eql, b_neq, b_lss, b_leq, b_gtr, b_geq, b_seql, b_sneq, beq_lit, f_eql, f_neq, f_lss, f_leq, f_gtr, f_geq, Nat.reduceEqDiff, Nat.reduceAdd, if_true, if_false, reduceCtorEq, decide_true, decide_false, Bool.not_true, Bool.not_false, Bool.and_self, Bool.and_true, Bool.true_and, Bool.and_false, Bool.false_and, Bool.or_true, Bool.true_or, Bool.or_false, Bool.false_or, List.getElem?_cons_zero, List.getElem?_cons_succ, Int.toNat_natCast, Int.reduceLE, Int.reduceLT, Int.reduceEq, Int.reduceNeg, back1r, back2r, conv_int, conv_bool, conv_float, conv_nan, conv_str, Option.some.injEq, AV.float.injEq, AV.int.injEq, AV.bool.injEq, AV.str.injEq, true_and, and_true, X22, opName, callG_of (s67 ha hb (by omega) (by omega) (by omega) hr hv _)]
  | i + 5 =>
    refine ⟨.float .f64 0, false, .inl ⟨_, rfl⟩, fun h => ?_, fun h => ?_⟩
    · refine does_pure (fn := X22) rfl rfl rfl (mapO_cons conv_str (mapO_cons conv_float (mapO_cons conv_float mapO_nil))) ?_
      simp only [go_seq, go_reg, go_block, go_mv, go_p, go_q, go_h, go_g, go_pick, go_grd, grdG_tt, grdG_ff, grdG_tf, grdG_ft, grdG_undef, go_call, List.map_cons, List.map_nil, x_bin, x_un, x_ext, extV_tup, x_cvI, cvIV_int, x_cvF, cvFV_int, x_eq, eqGV_bool, x_fbits, fbV_f, x_ffrom, ffV_i, pickV_t, pickV_f, opG_ok, opR_some', put_some, put_none, eval_t, eval_c, eval_g, T.at_set, initEnv_cons, initEnv_nil, at_nil, go_o_nil, go_cond, condG_true, condG_false, go_ret, go_blk, go_skip, go_label, go_exit, exitG_c, exitG_o, exitG_blk, exitG_nil, go_nil, cont_exit, cont_ret', cont_panic', b_add, b_sub, b_mul, b_and, b_or, b_xor, b_andNot, b_eql, b_neq, b_lss, b_leq, b_gtr, b_geq, b_seql, b_sneq, beq_lit, f_eql, f_neq, f_lss, f_leq, f_gtr, f_geq, Nat.reduceEqDiff, Nat.reduceAdd, if_true, if_false, reduceCtorEq, decide_true, decide_false, Bool.not_true, Bool.not_false, Bool.and_self, Bool.and_true, Bool.true_and, Bool.and_false, Bool.false_and, Bool.or_true, Bool.true_or, Bool.or_false, Bool.false_or, List.getElem?_cons_zero, List.getElem?_cons_succ, Int.toNat_natCast, Int.reduceLE, Int.reduceLT, Int.reduceEq, Int.reduceNeg, back1r, back2r, conv_int, conv_bool, conv_float, conv_nan, conv_str, Option.some.injEq, AV.float.injEq, AV.int.injEq, AV.bool.injEq, AV.str.injEq, true_and, and_true, X22, opName]
    · refine does_pure (fn := X23) rfl rfl rfl (mapO_cons conv_str (mapO_cons conv_float (mapO_cons conv_float mapO_nil))) ?_
      simp only [go_seq, go_reg, go_block, go_mv, go_p, go_q, go_h, go_g, go_pick, go_grd, grdG_tt, grdG_ff, grdG_tf, grdG_ft, grdG_undef, go_call, List.map_cons, List.map_nil, x_bin, x_un, x_ext, extV_tup, x_cvI, cvIV_int, x_cvF, cvFV_int, x_eq, eqGV_bool, x_fbits, fbV_f, x_ffrom, ffV_i, pickV_t, pickV_f, opG_ok, opR_some', put_some, put_none, eval_t, eval_c, eval_g, T.at_set, initEnv_cons, initEnv_nil, at_nil, go_o_nil, go_cond, condG_true, condG_false, go_ret, go_blk, go_skip, go_label, go_exit, exitG_c, exitG_o, exitG_blk, exitG_nil, go_nil, cont_exit, cont_ret', cont_panic', b_add, b_sub, b_mul, b_and, b_or, b_xor, b_andNot, b_eql, b_neq, b_lss, b_leq, b_gtr, b_geq, b_seql, b_sneq, beq_lit, f_eql, f_neq, f_lss, f_leq, f_gtr, f_geq, Nat.reduceEqDiff, Nat.reduceAdd, if_true, if_false, reduceCtorEq, decide_true, decide_false, Bool.not_true, Bool.not_false, Bool.and_self, Bool.and_true, Bool.true_and, Bool.and_false, Bool.false_and, Bool.or_true, Bool.true_or, Bool.or_false, Bool.false_or, List.getElem?_cons_zero, List.getElem?_cons_succ, Int.toNat_natCast, Int.reduceLE, Int.reduceLT, Int.reduceEq, Int.reduceNeg, back1r, back2r, conv_int, conv_bool, conv_float, conv_nan, conv_str, Option.some.injEq, AV.float.injEq, AV.int.injEq, AV.bool.injEq, AV.str.injEq, true_and, and_true, X23, opName]

/-- the law -/
theorem s5 {o a b : Nat} (ha : a < 18446744073709551616) (hb : b < 18446744073709551616) (h : Heap) : Does C 5 [.int .u8 (o : Int), .int .u64 (a : Int), .int .u64 (b : Int)] h (.bool true) h := by
  refine does_pure (fn := X5) rfl rfl rfl (mapO_cons conv_int (mapO_cons conv_int (mapO_cons conv_int mapO_nil))) ?_
  have hm : (o : Int).tmod 6 = ((o % 6 : Nat) : Int) := rfl
  obtain ⟨v, ok, hk, h1, h2⟩ := ops ha hb (o % 6)
  have hlt : o % 6 < 6 := Nat.mod_lt _ (by decide)
  generalize o % 6 = i at hm hlt h1 h2
  have hi : i = 0 ∨ i = 1 ∨ i = 2 ∨ i = 3 ∨ i = 4 ∨ i = 5 := by omega
  simp only [go_seq, go_reg, go_block, go_mv, go_p, go_q, go_h, go_g, go_pick, go_grd, grdG_tt, grdG_ff, grdG_tf, grdG_ft, grdG_undef, go_call, List.map_cons, List.map_nil, x_bin, x_un, x_ext, extV_tup, x_cvI, cvIV_int, x_cvF, cvFV_int, x_eq, eqGV_bool, x_fbits, fbV_f, x_ffrom, ffV_i, pickV_t, pickV_f, opG_ok, opR_some', put_some, put_none, eval_t, eval_c, eval_g, T.at_set, initEnv_cons, initEnv_nil, at_nil, go_o_nil, go_cond, condG_true, condG_false, go_ret, go_blk, go_skip, go_label, go_exit, exitG_c, exitG_o, exitG_blk, exitG_nil, go_nil, cont_exit, cont_ret', cont_panic', b_add, b_sub, b_mul, b_and, b_or, b_xor, b_andNot, b_eql, b_neq, b_lss, b_leq, b_gtr, b_geq, b_seql, b_sneq, beq_lit, f_eql, f_neq, f_lss, f_leq, f_gtr, f_geq, Nat.reduceEqDiff, Nat.reduceAdd, if_true, if_false, reduceCtorEq, decide_true, decide_false, Bool.not_true, Bool.not_false, Bool.and_self, Bool.and_true, Bool.true_and, Bool.and_false, Bool.false_and, Bool.or_true, Bool.true_or, Bool.or_false, Bool.false_or, List.getElem?_cons_zero, List.getElem?_cons_succ, Int.toNat_natCast, Int.reduceLE, Int.reduceLT, Int.reduceEq, Int.reduceNeg, back1r, back2r, conv_int, conv_bool, conv_float, conv_nan, conv_str, Option.some.injEq, AV.float.injEq, AV.int.injEq, AV.bool.injEq, AV.str.injEq, true_and, and_true, X5]
  refine (opG_of rfl).2 ?_
  simp only [go_seq, go_reg, go_block, go_mv, go_p, go_q, go_h, go_g, go_pick, go_grd, grdG_tt, grdG_ff, grdG_tf, grdG_ft, grdG_undef, go_call, List.map_cons, List.map_nil, x_bin, x_un, x_ext, extV_tup, x_cvI, cvIV_int, x_cvF, cvFV_int, x_eq, eqGV_bool, x_fbits, fbV_f, x_ffrom, ffV_i, pickV_t, pickV_f, opG_ok, opR_some', put_some, put_none, eval_t, eval_c, eval_g, T.at_set, initEnv_cons, initEnv_nil, at_nil, go_o_nil, go_cond, condG_true, condG_false, go_ret, go_blk, go_skip, go_label, go_exit, exitG_c, exitG_o, exitG_blk, exitG_nil, go_nil, cont_exit, cont_ret', cont_panic', b_add, b_sub, b_mul, b_and, b_or, b_xor, b_andNot, b_eql, b_neq, b_lss, b_leq, b_gtr, b_geq, b_seql, b_sneq, beq_lit, f_eql, f_neq, f_lss, f_leq, f_gtr, f_geq, Nat.reduceEqDiff, Nat.reduceAdd, if_true, if_false, reduceCtorEq, decide_true, decide_false, Bool.not_true, Bool.not_false, Bool.and_self, Bool.and_true, Bool.true_and, Bool.and_false, Bool.false_and, Bool.or_true, Bool.true_or, Bool.or_false, Bool.false_or, List.getElem?_cons_zero, List.getElem?_cons_succ, Int.toNat_natCast, Int.reduceLE, Int.reduceLT, Int.reduceEq, Int.reduceNeg, back1r, back2r, conv_int, conv_bool, conv_float, conv_nan, conv_str, Option.some.injEq, AV.float.injEq, AV.int.injEq, AV.bool.injEq, AV.str.injEq, true_and, and_true, b_rem (show (6 : Int) ≠ 0 by decide), hm]
  rcases hi with rfl | rfl | rfl | rfl | rfl | rfl
  all_goals
    refine (opG_of rfl).2 ?_
    simp only [go_seq, go_reg, go_block, go_mv, go_p, go_q, go_h, go_g, go_pick, go_grd, grdG_tt, grdG_ff, grdG_tf, grdG_ft, grdG_undef, go_call, List.map_cons, List.map_nil, x_bin, x_un, x_ext, extV_tup, x_cvI, cvIV_int, x_cvF, cvFV_int, x_eq, eqGV_bool, x_fbits, fbV_f, x_ffrom, ffV_i, pickV_t, pickV_f, opG_ok, opR_some', put_some, put_none, eval_t, eval_c, eval_g, T.at_set, initEnv_cons, initEnv_nil, at_nil, go_o_nil, go_cond, condG_true, condG_false, go_ret, go_blk, go_skip, go_label, go_exit, exitG_c, exitG_o, exitG_blk, exitG_nil, go_nil, cont_exit, cont_ret', cont_panic', b_add, b_sub, b_mul, b_and, b_or, b_xor, b_andNot, b_eql, b_neq, b_lss, b_leq, b_gtr, b_geq, b_seql, b_sneq, beq_lit, f_eql, f_neq, f_lss, f_leq, f_gtr, f_geq, Nat.reduceEqDiff, Nat.reduceAdd, if_true, if_false, reduceCtorEq, decide_true, decide_false, Bool.not_true, Bool.not_false, Bool.and_self, Bool.and_true, Bool.true_and, Bool.and_false, Bool.false_and, Bool.or_true, Bool.true_or, Bool.or_false, Bool.false_or, List.getElem?_cons_zero, List.getElem?_cons_succ, Int.toNat_natCast, Int.reduceLE, Int.reduceLT, Int.reduceEq, Int.reduceNeg, back1r, back2r, conv_int, conv_bool, conv_float, conv_nan, conv_str, Option.some.injEq, AV.float.injEq, AV.int.injEq, AV.bool.injEq, AV.str.injEq, true_and, and_true]
    first
    | refine (opG_of (v := .str (opName 0)) rfl).2 ?_
    | refine (opG_of (v := .str (opName 1)) rfl).2 ?_
    | refine (opG_of (v := .str (opName 2)) rfl).2 ?_
    | refine (opG_of (v := .str (opName 3)) rfl).2 ?_
    | refine (opG_of (v := .str (opName 4)) rfl).2 ?_
    | refine (opG_of (v := .str (opName 5)) rfl).2 ?_
    cases ok <;> simp only [go_seq, go_reg, go_block, go_mv, go_p, go_q, go_h, go_g, go_pick, go_grd, grdG_tt, grdG_ff, grdG_tf, grdG_ft, grdG_undef, go_call, List.map_cons, List.map_nil, x_bin, x_un, x_ext, extV_tup, x_cvI, cvIV_int, x_cvF, cvFV_int, x_eq, eqGV_bool, x_fbits, fbV_f, x_ffrom, ffV_i, pickV_t, pickV_f, opG_ok, opR_some', put_some, put_none, eval_t, eval_c, eval_g, T.at_set, initEnv_cons, initEnv_nil, at_nil, go_o_nil, go_cond, condG_true, condG_false, go_ret, go_blk, go_skip, go_label, go_exit, exitG_c, exitG_o, exitG_blk, exitG_nil, go_nil, cont_exit, cont_ret', cont_panic', b_add, b_sub, b_mul, b_and, b_or, b_xor, b_andNot, b_eql, b_neq, b_lss, b_leq, b_gtr, b_geq, b_seql, b_sneq, beq_lit, f_eql, f_neq, f_lss, f_leq, f_gtr, f_geq, Nat.reduceEqDiff, Nat.reduceAdd, if_true, if_false, reduceCtorEq, decide_true, decide_false, Bool.not_true, Bool.not_false, Bool.and_self, Bool.and_true, Bool.true_and, Bool.and_false, Bool.false_and, Bool.or_true, Bool.true_or, Bool.or_false, Bool.false_or, List.getElem?_cons_zero, List.getElem?_cons_succ, Int.toNat_natCast, Int.reduceLE, Int.reduceLT, Int.reduceEq, Int.reduceNeg, back1r, back2r, conv_int, conv_bool, conv_float, conv_nan, conv_str, Option.some.injEq, AV.float.injEq, AV.int.injEq, AV.bool.injEq, AV.str.injEq, true_and, and_true, callG_of (s20 _), callG_of (h1 _), callG_of (h2 _), callG_of (s18 hk _), callG_of (s15 _), BEq.rfl]
end Go.Proofs.YtmadknpaljaecaaGreatDoor.Ev.D
namespace Go.Proofs.YtmadknpaljaecaaGreatDoor.Ev.D
open Go Go.Proofs.YtmadknpaljaecaaGreatDoor.Ev
set_option maxRecDepth 100000
set_option linter.all false

theorem negF_rung (b : Nat) : Fl.rung (Go.Op.negFloat .f64 b) = Fl.rung b := by
  have : Go.Op.negFloat .f64 b % 2 ^ 63 = b % 2 ^ 63 := by
    show (b ^^^ 2 ^ 63) % 2 ^ 63 = _
    rw [Nat.xor_mod_two_pow, Nat.mod_self, Nat.xor_zero]
  exact this
theorem negF_lt {b : Nat} (h : b < 18446744073709551616) : Go.Op.negFloat .f64 b < 18446744073709551616 := Nat.xor_lt_two_pow (n := 64) h (by decide)
theorem op_bad {a b : Nat} (ha : a < 18446744073709551616) (hb : b < 18446744073709551616) (bad : (decide (Fl.inf < Fl.rung a) || decide (Fl.inf < Fl.rung b) || decide (Fl.rung a = Fl.inf) || decide (Fl.rung b = 0)) = true) (h : Heap) :
    Does C 22 [.str ⟨3, 7171940⟩, .float .f64 a, .float .f64 b] h (.tup [.float .f64 9221120237041090561, .bool true]) h := by
  refine does_pure (fn := X22) rfl rfl rfl (mapO_cons conv_str (mapO_cons conv_float (mapO_cons conv_float mapO_nil))) ?_
  simp only [go_seq, go_reg, go_block, go_mv, go_p, go_q, go_h, go_g, go_pick, go_grd, grdG_tt, grdG_ff, grdG_tf, grdG_ft, grdG_undef, go_call, List.map_cons, List.map_nil, x_bin, x_un, x_ext, extV_tup, x_cvI, cvIV_int, x_cvF, cvFV_int, x_eq, eqGV_bool, x_fbits, fbV_f, x_ffrom, ffV_i, pickV_t, pickV_f, opG_ok, opR_some', put_some, put_none, eval_t, eval_c, eval_g, T.at_set, initEnv_cons, initEnv_nil, at_nil, go_o_nil, go_cond, condG_true, condG_false, go_ret, go_blk, go_skip, go_label, go_exit, exitG_c, exitG_o, exitG_blk, exitG_nil, go_nil, cont_exit, cont_ret', cont_panic', b_add, b_sub, b_mul, b_and, b_or, b_xor, b_andNot, b_eql, b_neq, b_lss, b_leq, b_gtr, b_geq, b_seql, b_sneq, beq_lit, f_eql, f_neq, f_lss, f_leq, f_gtr, f_geq, Nat.reduceEqDiff, Nat.reduceAdd, if_true, if_false, reduceCtorEq, decide_true, decide_false, Bool.not_true, Bool.not_false, Bool.and_self, Bool.and_true, Bool.true_and, Bool.and_false, Bool.false_and, Bool.or_true, Bool.true_or, Bool.or_false, Bool.false_or, List.getElem?_cons_zero, List.getElem?_cons_succ, Int.toNat_natCast, Int.reduceLE, Int.reduceLT, Int.reduceEq, Int.reduceNeg, back1r, back2r, conv_int, conv_bool, conv_float, conv_nan, conv_str, Option.some.injEq, AV.float.injEq, AV.int.injEq, AV.bool.injEq, AV.str.injEq, true_and, and_true, X22, callG_of (rem_bad ha hb bad _)]
theorem op_inf {a b : Nat} (ha : a < 18446744073709551616) (hb : b < 18446744073709551616) (fa : Fl.rung a < Fl.inf) (ib : Fl.rung b = Fl.inf) (h : Heap) :
    Does C 22 [.str ⟨3, 7171940⟩, .float .f64 a, .float .f64 b] h (.tup [.float .f64 a, .bool true]) h := by
  refine does_pure (fn := X22) rfl rfl rfl (mapO_cons conv_str (mapO_cons conv_float (mapO_cons conv_float mapO_nil))) ?_
  simp only [go_seq, go_reg, go_block, go_mv, go_p, go_q, go_h, go_g, go_pick, go_grd, grdG_tt, grdG_ff, grdG_tf, grdG_ft, grdG_undef, go_call, List.map_cons, List.map_nil, x_bin, x_un, x_ext, extV_tup, x_cvI, cvIV_int, x_cvF, cvFV_int, x_eq, eqGV_bool, x_fbits, fbV_f, x_ffrom, ffV_i, pickV_t, pickV_f, opG_ok, opR_some', put_some, put_none, eval_t, eval_c, eval_g, T.at_set, initEnv_cons, initEnv_nil, at_nil, go_o_nil, go_cond, condG_true, condG_false, go_ret, go_blk, go_skip, go_label, go_exit, exitG_c, exitG_o, exitG_blk, exitG_nil, go_nil, cont_exit, cont_ret', cont_panic', b_add, b_sub, b_mul, b_and, b_or, b_xor, b_andNot, b_eql, b_neq, b_lss, b_leq, b_gtr, b_geq, b_seql, b_sneq, beq_lit, f_eql, f_neq, f_lss, f_leq, f_gtr, f_geq, Nat.reduceEqDiff, Nat.reduceAdd, if_true, if_false, reduceCtorEq, decide_true, decide_false, Bool.not_true, Bool.not_false, Bool.and_self, Bool.and_true, Bool.true_and, Bool.and_false, Bool.false_and, Bool.or_true, Bool.true_or, Bool.or_false, Bool.false_or, List.getElem?_cons_zero, List.getElem?_cons_succ, Int.toNat_natCast, Int.reduceLE, Int.reduceLT, Int.reduceEq, Int.reduceNeg, back1r, back2r, conv_int, conv_bool, conv_float, conv_nan, conv_str, Option.some.injEq, AV.float.injEq, AV.int.injEq, AV.bool.injEq, AV.str.injEq, true_and, and_true, X22, callG_of (rem_inf ha hb fa ib _)]
theorem op_fin {a b : Nat} (ha : a < 18446744073709551616) (hb : b < 18446744073709551616) (fa : Fl.rung a < Fl.inf) (fb : Fl.rung b < Fl.inf) (b0 : 0 < Fl.rung b) {r : Nat} (hr : r < Fl.inf) (hv : Fl.V r = Fl.V (Fl.rung a) % Fl.V (Fl.rung b)) (h : Heap) :
    Does C 22 [.str ⟨3, 7171940⟩, .float .f64 a, .float .f64 b] h (.tup [.float .f64 (Ieee.double.word (Fl.neg a) r), .bool true]) h := by
  refine does_pure (fn := X22) rfl rfl rfl (mapO_cons conv_str (mapO_cons conv_float (mapO_cons conv_float mapO_nil))) ?_
  simp only [go_seq, go_reg, go_block, go_mv, go_p, go_q, go_h, go_g, go_pick, go_grd, grdG_tt, grdG_ff, grdG_tf, grdG_ft, grdG_undef, go_call, List.map_cons, List.map_nil, x_bin, x_un, x_ext, extV_tup, x_cvI, cvIV_int, x_cvF, cvFV_int, x_eq, eqGV_bool, x_fbits, fbV_f, x_ffrom, ffV_i, pickV_t, pickV_f, opG_ok, opR_some', put_some, put_none, eval_t, eval_c, eval_g, T.at_set, initEnv_cons, initEnv_nil, at_nil, go_o_nil, go_cond, condG_true, condG_false, go_ret, go_blk, go_skip, go_label, go_exit, exitG_c, exitG_o, exitG_blk, exitG_nil, go_nil, cont_exit, cont_ret', cont_panic', b_add, b_sub, b_mul, b_and, b_or, b_xor, b_andNot, b_eql, b_neq, b_lss, b_leq, b_gtr, b_geq, b_seql, b_sneq, beq_lit, f_eql, f_neq, f_lss, f_leq, f_gtr, f_geq, Nat.reduceEqDiff, Nat.reduceAdd, if_true, if_false, reduceCtorEq, decide_true, decide_false, Bool.not_true, Bool.not_false, Bool.and_self, Bool.and_true, Bool.true_and, Bool.and_false, Bool.false_and, Bool.or_true, Bool.true_or, Bool.or_false, Bool.false_or, List.getElem?_cons_zero, List.getElem?_cons_succ, Int.toNat_natCast, Int.reduceLE, Int.reduceLT, Int.reduceEq, Int.reduceNeg, back1r, back2r, conv_int, conv_bool, conv_float, conv_nan, conv_str, Option.some.injEq, AV.float.injEq, AV.int.injEq, AV.bool.injEq, AV.str.injEq, true_and, and_true, X22, callG_of (s67 ha hb fa fb b0 hr hv _)]
theorem u_neg {b : Nat} : unV .neg (.float .f64 b) = some (.float .f64 (Go.Op.negFloat .f64 b)) := rfl
theorem u_not {b : Bool} : unV .not (.bool b) = some (.bool !b) := rfl

set_option maxHeartbeats 8000000 in
theorem s8 {a b : Nat} (ha : a < 18446744073709551616) (hb : b < 18446744073709551616) (h : Heap) : Does C 8 [.int .u64 (a : Int), .int .u64 (b : Int)] h (.bool true) h := by
  refine does_pure (fn := X8) rfl rfl rfl (mapO_cons conv_int (mapO_cons conv_int mapO_nil)) ?_
  have hb' := negF_lt hb
  have hrb := negF_rung b
  have al : ∀ v h, Does C 27 [.float .f64 v, .float .f64 v] h (.bool true) h := fun v h => s27 (.inl ⟨v, rfl⟩) h
  cases bad : (decide (Fl.inf < Fl.rung a) || decide (Fl.inf < Fl.rung b) || decide (Fl.rung a = Fl.inf) || decide (Fl.rung b = 0)) with
  | true =>
    have bad' := bad
    rw [← hrb] at bad'
    cases e1 : decide (Fl.inf < Fl.rung a) <;> cases e2 : decide (Fl.inf < Fl.rung b) <;> cases e3 : decide (Fl.rung a = Fl.inf) <;> cases e4 : decide (Fl.rung b = 0) <;>
      first
      | (rw [e1, e2, e3, e4] at bad; cases bad; done)
      | (simp only [go_seq, go_reg, go_block, go_mv, go_p, go_q, go_h, go_g, go_pick, go_grd, grdG_tt, grdG_ff, grdG_tf, grdG_ft, grdG_undef, go_call, List.map_cons, List.map_nil, x_bin, x_un, x_ext, extV_tup, x_cvI, cvIV_int, x_cvF, cvFV_int, x_eq, eqGV_bool, x_fbits, fbV_f, x_ffrom, ffV_i, pickV_t, pickV_f, opG_ok, opR_some', put_some, put_none, eval_t, eval_c, eval_g, T.at_set, initEnv_cons, initEnv_nil, at_nil, go_o_nil, go_cond, condG_true, condG_false, go_ret, go_blk, go_skip, go_label, go_exit, exitG_c, exitG_o, exitG_blk, exitG_nil, go_nil, cont_exit, cont_ret', cont_panic', b_add, b_sub, b_mul, b_and, b_or, b_xor, b_andNot, b_eql, b_neq, b_lss, b_leq, b_gtr, b_geq, b_seql, b_sneq, beq_lit, f_eql, f_neq, f_lss, f_leq, f_gtr, f_geq, Nat.reduceEqDiff, Nat.reduceAdd, if_true, if_false, reduceCtorEq, decide_true, decide_false, Bool.not_true, Bool.not_false, Bool.and_self, Bool.and_true, Bool.true_and, Bool.and_false, Bool.false_and, Bool.or_true, Bool.true_or, Bool.or_false, Bool.false_or, List.getElem?_cons_zero, List.getElem?_cons_succ, Int.toNat_natCast, Int.reduceLE, Int.reduceLT, Int.reduceEq, Int.reduceNeg, back1r, back2r, conv_int, conv_bool, conv_float, conv_nan, conv_str, Option.some.injEq, AV.float.injEq, AV.int.injEq, AV.bool.injEq, AV.str.injEq, true_and, and_true, X8, callG_of (s20 _), u_neg, u_not, callG_of (op_bad ha hb bad _), callG_of (op_bad ha hb' bad' _), callG_of (al _ _), neq_self, e1, e2, callG_of (s28 ha _), e3, eqz, e4, show decide (Fl.inf < Fl.rung 9221120237041090561) = true by decide, callG_of (s15 _)]; done)
  | false =>
    simp only [Bool.or_eq_false_iff, decide_eq_false_iff_not] at bad
    obtain ⟨⟨⟨g1, g2⟩, g3⟩, g4⟩ := bad
    have e1 : decide (Fl.inf < Fl.rung a) = false := decide_eq_false (by omega)
    have e2 : decide (Fl.inf < Fl.rung b) = false := decide_eq_false (by omega)
    have e3 : decide (Fl.rung a = Fl.inf) = false := decide_eq_false (by omega)
    have e5 : decide (Fl.rung b = 0) = false := decide_eq_false (by omega)
    by_cases ib : Fl.rung b = Fl.inf
    · simp only [go_seq, go_reg, go_block, go_mv, go_p, go_q, go_h, go_g, go_pick, go_grd, grdG_tt, grdG_ff, grdG_tf, grdG_ft, grdG_undef, go_call, List.map_cons, List.map_nil, x_bin, x_un, x_ext, extV_tup, x_cvI, cvIV_int, x_cvF, cvFV_int, x_eq, eqGV_bool, x_fbits, fbV_f, x_ffrom, ffV_i, pickV_t, pickV_f, opG_ok, opR_some', put_some, put_none, eval_t, eval_c, eval_g, T.at_set, initEnv_cons, initEnv_nil, at_nil, go_o_nil, go_cond, condG_true, condG_false, go_ret, go_blk, go_skip, go_label, go_exit, exitG_c, exitG_o, exitG_blk, exitG_nil, go_nil, cont_exit, cont_ret', cont_panic', b_add, b_sub, b_mul, b_and, b_or, b_xor, b_andNot, b_eql, b_neq, b_lss, b_leq, b_gtr, b_geq, b_seql, b_sneq, beq_lit, f_eql, f_neq, f_lss, f_leq, f_gtr, f_geq, Nat.reduceEqDiff, Nat.reduceAdd, if_true, if_false, reduceCtorEq, decide_true, decide_false, Bool.not_true, Bool.not_false, Bool.and_self, Bool.and_true, Bool.true_and, Bool.and_false, Bool.false_and, Bool.or_true, Bool.true_or, Bool.or_false, Bool.false_or, List.getElem?_cons_zero, List.getElem?_cons_succ, Int.toNat_natCast, Int.reduceLE, Int.reduceLT, Int.reduceEq, Int.reduceNeg, back1r, back2r, conv_int, conv_bool, conv_float, conv_nan, conv_str, Option.some.injEq, AV.float.injEq, AV.int.injEq, AV.bool.injEq, AV.str.injEq, true_and, and_true, X8, callG_of (s20 _), u_neg, u_not, callG_of (op_inf ha hb (by omega) ib _), callG_of (op_inf ha hb' (by omega) (hrb.trans ib) _), callG_of (al _ _), neq_self, e1, e2, callG_of (s28 ha _), callG_of (s28 hb _), e3, decide_eq_true ib, eqz, e5, callG_of (s15 _)]
    · obtain ⟨r, hr, hv⟩ := rem_ex (x := Fl.rung a) (y := Fl.rung b) (by omega) (by omega)
      have hrs : r < Fl.sgn := Nat.lt_trans hr Fl.inf_lt_sgn
      have hw := Fl.word_lt (s := Fl.neg a) hrs
      have hwr := Fl.rung_word (s := Fl.neg a) hrs
      have hwn := Fl.neg_word (s := Fl.neg a) hrs
      have hb0 : 0 < Fl.V (Fl.rung b) := V_pos (by omega)
      have l1 : r < Fl.rung b := Fl.V_lt_iff.1 (by rw [hv]; exact Nat.mod_lt _ hb0)
      have l2 : r ≤ Fl.rung a := Fl.V_le_iff.1 (by rw [hv]; exact Nat.mod_le _ _)
      simp only [go_seq, go_reg, go_block, go_mv, go_p, go_q, go_h, go_g, go_pick, go_grd, grdG_tt, grdG_ff, grdG_tf, grdG_ft, grdG_undef, go_call, List.map_cons, List.map_nil, x_bin, x_un, x_ext, extV_tup, x_cvI, cvIV_int, x_cvF, cvFV_int, x_eq, eqGV_bool, x_fbits, fbV_f, x_ffrom, ffV_i, pickV_t, pickV_f, opG_ok, opR_some', put_some, put_none, eval_t, eval_c, eval_g, T.at_set, initEnv_cons, initEnv_nil, at_nil, go_o_nil, go_cond, condG_true, condG_false, go_ret, go_blk, go_skip, go_label, go_exit, exitG_c, exitG_o, exitG_blk, exitG_nil, go_nil, cont_exit, cont_ret', cont_panic', b_add, b_sub, b_mul, b_and, b_or, b_xor, b_andNot, b_eql, b_neq, b_lss, b_leq, b_gtr, b_geq, b_seql, b_sneq, beq_lit, f_eql, f_neq, f_lss, f_leq, f_gtr, f_geq, Nat.reduceEqDiff, Nat.reduceAdd, if_true, if_false, reduceCtorEq, decide_true, decide_false, Bool.not_true, Bool.not_false, Bool.and_self, Bool.and_true, Bool.true_and, Bool.and_false, Bool.false_and, Bool.or_true, Bool.true_or, Bool.or_false, Bool.false_or, List.getElem?_cons_zero, List.getElem?_cons_succ, Int.toNat_natCast, Int.reduceLE, Int.reduceLT, Int.reduceEq, Int.reduceNeg, back1r, back2r, conv_int, conv_bool, conv_float, conv_nan, conv_str, Option.some.injEq, AV.float.injEq, AV.int.injEq, AV.bool.injEq, AV.str.injEq, true_and, and_true, X8, callG_of (s20 _), u_neg, u_not, callG_of (op_fin ha hb (by omega) (by omega) (by omega) hr hv _), callG_of (op_fin ha hb' (by omega) (by omega) (by omega) hr (by rw [hrb]; exact hv) _), callG_of (al _ _), neq_self, e1, e2, callG_of (s28 ha _), callG_of (s28 hb _), e3, decide_eq_false ib, eqz, e5, callG_of (s29 ha _), callG_of (s29 hb _), callG_of (s29 hw _), hwr,
        lt_pos (Nat.le_of_lt hr) (show Fl.rung b ≤ Fl.inf by omega), le_pos (Nat.le_of_lt hr) (show Fl.rung a ≤ Fl.inf by omega), decide_eq_true l1, decide_eq_true l2, callG_of (s30 ha _), callG_of (s30 hw _), hwn, BEq.rfl, callG_of (s15 _)]
end Go.Proofs.YtmadknpaljaecaaGreatDoor.Ev.D
namespace Go.Proofs.YtmadknpaljaecaaGreatDoor.Ev
open Go
set_option linter.unusedVariables false
set_option linter.unusedSimpArgs false
set_option linter.unusedSectionVars false

theorem mapO_drop {α β : Type} {f : α → Option β} {l : List α} {m : List β} (h : mapO f l = some m) {k : Nat} {b : β} {r : List β} (hk : m.drop k = b :: r) : ∃ a, l[k]? = some a ∧ f a = some b ∧ k < l.length := by
  obtain ⟨h1, h2⟩ := mapO_get h
  have hb : m[k]? = some b := by
    have : (m.drop k)[0]? = some b := by rw [hk]; rfl
    simpa using this
  have hlt : k < l.length := by rw [← h1]; exact (List.getElem?_eq_some_iff.1 hb).1
  obtain ⟨c, hc, hf⟩ := h2 k l[k] (List.getElem?_eq_getElem hlt)
  rw [hb] at hc; cases hc
  exact ⟨l[k], List.getElem?_eq_getElem hlt, hf, hlt⟩

theorem drop_succ {α : Type} {m : List α} {k : Nat} {b : α} {r : List α} (hk : m.drop k = b :: r) : m.drop (k + 1) = r := by
  have := List.drop_drop (l := m) (i := 1) (j := k)
  rw [hk] at this
  simpa using this.symm

/-- a region without a draw -/
theorem xops_ok {P : Program} {C : Ctx} {call : CallT} (hcall : CallOk P C call) {nt : Nat} {ops : Array Oper} {xs : List XOper} (hx : mapO (xoper P nt ops) ops.toList = some xs)
    {E₀ : Env} {W₀ : World} {a₀ : Act} {o : Out} :
    ∀ (m k : Nat), k + m = ops.size → ∀ (r : List XOper), xs.drop k = r → ∀ (env : T AV) (h : Heap) (E : Env) (W : World) (a : Act), xops call C r env h = o → o.told → St C nt E W env.at h a → Stp E₀ W₀ E W → a.defers = a₀.defers →
      wpOps P ops (Post E₀ W₀ nt a₀ o) (List.range' k m) a W := by
  have hlen := (mapO_get hx).1
  intro m
  induction m with
  | zero =>
    intro k hk r hr env h E W a ho ht st hs hd
    have hl : ops.toList.length = ops.size := Array.length_toList
    have : r = [] := by rw [← hr]; exact List.drop_eq_nil_of_le (by omega)
    subst this
    simp only [xops] at ho
    subst ho
    exact ⟨E, hs, hd, st.hr, rfl, st.env⟩
  | succ m ih =>
    intro k hk r hr env h E W a ho ht st hs hd
    have hl : ops.toList.length = ops.size := Array.length_toList
    cases r with
    | nil => have := congrArg List.length hr; simp at this; omega
    | cons x r =>
      obtain ⟨op, hop, hxo, _⟩ := mapO_drop hx hr
      have hop : ops[k]? = some op := by simpa using hop
      obtain ⟨x1, x2, x3, x4⟩ := xoper_some hxo
      rw [List.range'_succ]
      simp only [wpOps, hop]
      simp only [xops] at ho
      have hnext := drop_succ hr
      cases hw : wanted env x.grd with
      | none => rw [hw] at ho; subst ho; exact ht.elim
      | some b =>
        rw [hw] at ho
        rw [guard_run st.env x2 hw]
        cases b with
        | false =>
          simp only [Bool.false_eq_true, if_false]
          refine ih (k + 1) (by omega) r hnext _ _ E W _ ho ht ⟨st.hr, ?_, st.glob⟩ hs (by cases hq : op.dst <;> simpa [Act.put] using hd)
          rw [put_at, x3]
          exact st.env.put x4 .undef
        | true =>
          simp only [if_true]
          refine .inl (oper_ok hcall st x1 ?_)
          rw [evalF_at]
          cases hr2 : xop call (eval C env) h x.op with
          | no w => rw [hr2] at ho; subst ho; exact ht.elim
          | ok v h' =>
            rw [hr2] at ho
            intro E' W' z g1 g2 g3
            refine ih (k + 1) (by omega) r hnext _ _ E' W' _ ho ht ⟨g2, ?_, st.glob.mono g1.le g1.keep⟩ (hs.trans g1) (by cases hq : op.dst <;> simpa [Act.put] using hd)
            rw [put_at, x3]
            exact (st.env.mono g1.le g1.keep).put x4 g3
          | panic v h' =>
            rw [hr2] at ho
            subst ho
            intro E' W' z g1 g2 g3
            exact ⟨E', hs.trans g1, hd, g2, z, rfl, g3⟩

theorem reg_ok {P : Program} {C : Ctx} {call : CallT} (hcall : CallOk P C call) {nt id : Nat} {ops : Array Oper} {xs : List XOper} (hx : mapO (xoper P nt ops) ops.toList = some xs)
    {E : Env} {W : World} {env : T AV} {h : Heap} {a : Act} {o : Out} (ho : xops call C xs env h = o) (ht : o.told) (st : St C nt E W env.at h a) :
    (Code.region id ops false).wp P (Post E W nt a o) a W := by
  refine wp_region ?_
  rw [List.range_eq_range']
  exact xops_ok hcall hx ops.size 0 (by omega) xs rfl env h E W a ho ht st (.refl E W) rfl

/-! labels -/
theorem findLabel_ok {P : Program} {pur : Nat → Bool} {nt : Nat} : ∀ {c : Code} {x : XCode} {l : Nat}, xcode P pur nt c = some x →
    (∀ r, findLabel x l = some r → ∃ rc, Go.findLabel c l = some rc ∧ xcode P pur nt rc = some r) ∧ (findLabel x l = none → Go.findLabel c l = none)
  | .seq a b, x, l, h => by
    simp only [xcode] at h
    split at h
    · rename_i xa xb ha hb
      cases h
      obtain ⟨a1, a2⟩ := findLabel_ok (l := l) ha
      obtain ⟨b1, b2⟩ := findLabel_ok (l := l) hb
      simp only [findLabel, Go.findLabel]
      constructor
      · intro r hr
        cases hfa : findLabel xa l with
        | some ra =>
          rw [hfa] at hr
          cases hr
          obtain ⟨rc, h1, h2⟩ := a1 ra hfa
          rw [h1]
          exact ⟨.seq rc b, rfl, by simp only [xcode, h2, hb]⟩
        | none =>
          rw [hfa] at hr
          rw [a2 hfa]
          exact b1 r hr
      · intro hr
        cases hfa : findLabel xa l with
        | some ra => rw [hfa] at hr; cases hr
        | none =>
          rw [hfa] at hr
          rw [a2 hfa]
          exact b2 hr
    · cases h
  | .label l', x, l, h => by
    simp only [xcode, Option.some.injEq] at h
    subst h
    simp only [findLabel, Go.findLabel]
    by_cases hl : (l' == l) = true
    · rw [if_pos hl, if_pos hl]
      exact ⟨fun r hr => by cases hr; exact ⟨.skip, rfl, rfl⟩, fun h => by cases h⟩
    · rw [if_neg hl, if_neg hl]
      exact ⟨fun r hr => (by cases hr), fun _ => rfl⟩
  | .skip, x, l, h => by simp only [xcode, Option.some.injEq] at h; subst h; exact ⟨fun r hr => (by cases hr), fun _ => rfl⟩
  | .region id ops d, x, l, h => by
    simp only [xcode, xregion] at h
    split at h
    · cases h
    · split at h
      · split at h
        · cases h; exact ⟨fun r hr => (by cases hr), fun _ => rfl⟩
        · cases h
      · cases h; exact ⟨fun r hr => (by cases hr), fun _ => rfl⟩
  | .cond c a b, x, l, h => by
    simp only [xcode] at h
    split at h
    · cases h; exact ⟨fun r hr => (by cases hr), fun _ => rfl⟩
    · cases h
  | .block id b, x, l, h => by
    simp only [xcode] at h
    obtain ⟨y, _, rfl⟩ := Option.map_eq_some_iff.1 h
    exact ⟨fun r hr => (by cases hr), fun _ => rfl⟩
  | .loop b, x, l, h => by
    simp only [xcode] at h
    obtain ⟨y, _, rfl⟩ := Option.map_eq_some_iff.1 h
    exact ⟨fun r hr => (by cases hr), fun _ => rfl⟩
  | .scope b, x, l, h => by
    simp only [xcode] at h
    obtain ⟨y, _, rfl⟩ := Option.map_eq_some_iff.1 h
    exact ⟨fun r hr => (by cases hr), fun _ => rfl⟩
  | .exit id, x, l, h => by simp only [xcode, Option.some.injEq] at h; subst h; exact ⟨fun r hr => (by cases hr), fun _ => rfl⟩
  | .goto l', x, l, h => by simp only [xcode, Option.some.injEq] at h; subst h; exact ⟨fun r hr => (by cases hr), fun _ => rfl⟩
  | .ret, x, l, h => by simp only [xcode, Option.some.injEq] at h; subst h; exact ⟨fun r hr => (by cases hr), fun _ => rfl⟩
  | .rangeFunc .., x, l, h => by simp only [xcode, Option.some.injEq] at h; subst h; exact ⟨fun r hr => (by cases hr), fun _ => rfl⟩
  | .refuse .., x, l, h => by simp only [xcode, Option.some.injEq] at h; subst h; exact ⟨fun r hr => (by cases hr), fun _ => rfl⟩

/-- code in a scope, begun anywhere -/
def WpAt (P : Program) (body cur : Code) (Q : Exit → Act → World → Prop) (a : Act) (w : World) : Prop :=
  ∀ (b : Frame) (k : List Item) (cs : List Frame), ∃ e a' w', Q e a' w' ∧ Arrives P (lone (b.at a (.code cur :: .inScope body :: k)) cs w) b k cs e a' w'

theorem wp_scope_of {P : Program} {c : Code} {Q : Exit → Act → World → Prop} {a : Act} {w : World} (h : WpAt P c c Q a w) : (Code.scope c).wp P Q a w := by
  intro b k cs
  obtain ⟨e, a', w', hq, harr⟩ := h b k cs
  exact ⟨e, a', w', hq, .of_steps (.one step_scope) harr⟩

theorem wpAt_of {P : Program} {body cur : Code} {Q Q' : Exit → Act → World → Prop} {a : Act} {w : World} (h : cur.wp P Q' a w)
    (hq : ∀ e a w, Q' e a w → (∃ l r, e = .goto l ∧ Go.findLabel body l = some r ∧ WpAt P body r Q a w) ∨ ((∀ l, e = .goto l → Go.findLabel body l = none) ∧ Q e a w)) : WpAt P body cur Q a w := by
  intro b k cs
  obtain ⟨e, a', w', q, harr⟩ := h b (.inScope body :: k) cs
  rcases hq e a' w' q with ⟨l, r, rfl, hf, hat⟩ | ⟨hn, hq⟩
  · obtain ⟨e2, a2, w2, q2, arr2⟩ := hat b k cs
    exact ⟨e2, a2, w2, q2, .of_steps (harr _ (by simp [gotoIn, hf])) arr2⟩
  · refine ⟨e, a', w', hq, ?_⟩
    cases e with
    | normal => exact Steps.trans harr (.one step_inScope)
    | exit id => exact fun k' hk => harr k' (by simp [exitTo, hk])
    | goto l => exact fun k' hk => harr k' (by simp [gotoIn, hn l rfl, hk])
    | ret => exact harr
    | panic ch => exact harr
    | outgrown => exact harr
end Go.Proofs.YtmadknpaljaecaaGreatDoor.Ev
namespace Go.Proofs.YtmadknpaljaecaaGreatDoor.Ev
open Go
set_option linter.unusedVariables false
set_option linter.unusedSimpArgs false
set_option linter.unusedSectionVars false

/-! Clean values need nothing but what is still. -/
mutual
theorem Clean.mono {w w' : Bool} (h : w = true → w' = true) : ∀ {v : AV}, Clean w v → Clean w' v
  | _, .undef => .undef
  | _, .bool => .bool
  | _, .int => .int
  | _, .float => .float
  | _, .nan => .nan
  | _, .str => .str
  | _, .nilPtr => .nilPtr
  | _, .nilSl => .nilSl
  | _, .nilMap => .nilMap
  | _, .nilFn => .nilFn
  | _, .nilIf => .nilIf
  | _, .agg hc => .agg fun c hm => (hc c hm).mono h
  | _, .tup hc => .tup fun c hm => (hc c hm).mono h
  | _, .iface hc => .iface (hc.mono h)
  | _, .fn ha hb => .fn (fun c hm => (ha c hm).mono h) fun c hm => (hb c hm).mono h
  | _, .iptr hb hc => .iptr (fun e => h (hb e)) fun c hm => (hc c hm).mono h
  | _, .isl hb hc => .isl (fun e => h (hb e)) fun c hm => (hc c hm).mono h
  | _, .imap hb hc hd => .imap (fun e => h (hb e)) (fun c hm => (hc c hm).mono h) fun c hm => (hd c hm).mono h
end

/-- what is still in one is still in the other -/
def Sub (w : Bool) (E F : Env) : Prop := (∀ b, E.I b → F.I b) ∧ (w = true → ∀ b, E.B b → F.B b)

theorem Sub.still {w : Bool} {E F : Env} (h : Sub w E F) {t : Bool} (ht : t = true → w = true) {b : Nat} (hs : E.still t b) : F.still t b :=
  hs.elim (fun hi => .inl (h.1 b hi)) fun ⟨e, hb⟩ => .inr ⟨e, h.2 (ht e) b hb⟩

mutual
theorem VR.clean {w : Bool} {E F : Env} {W : World} (hs : Sub w E F) : ∀ {v : AV} {x : Value}, VR E W v x → Clean w v → VR F W v x
  | _, _, .undef, _ => .undef
  | _, _, .bool, _ => .bool
  | _, _, .int, _ => .int
  | _, _, .float, _ => .float
  | _, _, .nan h, _ => .nan h
  | _, _, .str h, _ => .str h
  | _, _, .nilPtr, _ => .nilPtr
  | _, _, .nilSl, _ => .nilSl
  | _, _, .nilMap, _ => .nilMap
  | _, _, .nilFn, _ => .nilFn
  | _, _, .nilIf, _ => .nilIf
  | _, _, .agg h hf, hc => .agg (VRs.clean hs h (match hc with | .agg h => h)) hf
  | _, _, .tup h, hc => .tup (VRs.clean hs h (match hc with | .tup h => h))
  | _, _, .iface h, hc => .iface (VR.clean hs h (match hc with | .iface h => h))
  | _, _, .fn h h', hc => .fn (VRs.clean hs h (match hc with | .fn h _ => h)) (VRs.clean hs h' (match hc with | .fn _ h => h))
  | _, _, .iptr h1 h2 h3 h4, hc => .iptr (hs.still (match hc with | .iptr h _ => h) h1) h2 h3 (VRs.clean hs h4 (match hc with | .iptr _ h => h))
  | _, _, .isl h1 h2 h3 h4, hc => .isl (h1.imp id fun ⟨a, b⟩ => ⟨hs.still (match hc with | .isl h _ => h) a, b⟩) h2 h3 (VRs.clean hs h4 (match hc with | .isl _ h => h))
  | _, _, .imap h1 h2 h3 h4 h5 h6, hc => .imap (hs.still (match hc with | .imap h _ _ => h) h1) h2 h3 h4 (VRs.clean hs h5 (match hc with | .imap _ h _ => h)) (VRs.clean hs h6 (match hc with | .imap _ _ h => h))
  | _, _, .dead, hc => nomatch hc
  | _, _, .ref _, hc => nomatch hc
  | _, _, .slc _ _, hc => nomatch hc
  | _, _, .slo _ _ _, hc => nomatch hc
  | _, _, .mref _, hc => nomatch hc
theorem VRs.clean {w : Bool} {E F : Env} {W : World} (hs : Sub w E F) : ∀ {v : List AV} {x : List Value}, VRs E W v x → (∀ c ∈ v, Clean w c) → VRs F W v x
  | _, _, .nil, _ => .nil
  | _, _, .cons h hr, hc => .cons (VR.clean hs h (hc _ (by simp))) (VRs.clean hs hr fun c hm => hc c (by simp [hm]))
end

/-- a deep copy tells the same value -/
theorem conv_ok {w : Bool} {E F : Env} {W : World} {h : Heap} (hr : HR E W h) (hs : Sub w E F) (hlive : ∀ b x, h.get b = some x → F.still w (E.β b)) :
    ∀ (n : Nat) (v v' : AV) (x : Value), conv w h n v = some v' → VR E W v x → VR F W v' x ∧ Clean w v'
  | 0, v, v', x, h, _ => by simp [conv] at h
  | n + 1, v, v', x, hc, hv => by
    have lst : ∀ (l l' : List AV) (xs : List Value), mapO (conv w h n) l = some l' → VRs E W l xs → VRs F W l' xs ∧ ∀ c ∈ l', Clean w c := by
      intro l l' xs hl hx
      obtain ⟨h1, h2⟩ := mapO_get hl
      constructor
      · refine VRs.of_get (by rw [h1, hx.length]) fun i a y ha hy => ?_
        have hlt : i < l.length := by rw [← h1]; exact (List.getElem?_eq_some_iff.1 ha).1
        obtain ⟨c, hc1, hc2⟩ := h2 i l[i] (List.getElem?_eq_getElem hlt)
        rw [ha] at hc1; cases hc1
        obtain ⟨z, hz1, hz2⟩ := hx.get (List.getElem?_eq_getElem hlt)
        rw [hy] at hz1; cases hz1
        exact (conv_ok hr hs hlive n _ _ _ hc2 hz2).1
      · intro c hm
        obtain ⟨i, hi⟩ := List.mem_iff_getElem?.1 hm
        have hlt : i < l.length := by rw [← h1]; exact (List.getElem?_eq_some_iff.1 hi).1
        obtain ⟨c', hc1, hc2⟩ := h2 i l[i] (List.getElem?_eq_getElem hlt)
        rw [hi] at hc1; cases hc1
        obtain ⟨z, hz1, hz2⟩ := hx.get (List.getElem?_eq_getElem hlt)
        exact (conv_ok hr hs hlive n _ _ _ hc2 hz2).2
    have tag : ∀ {b : Bool} {o : AV}, (bif b && !w then none else some o) = some v' → (b = true → w = true) ∧ v' = o := by
      intro b o e
      cases b <;> cases w <;> simp at e <;> exact ⟨by simp, e.symm⟩
    cases v with
    | dead => simp [conv] at hc
    | undef => simp [conv] at hc; subst hc; cases hv; exact ⟨.undef, .undef⟩
    | bool b => simp [conv] at hc; subst hc; cases hv; exact ⟨.bool, .bool⟩
    | int k i => simp [conv] at hc; subst hc; cases hv; exact ⟨.int, .int⟩
    | float k b => simp [conv] at hc; subst hc; cases hv; exact ⟨.float, .float⟩
    | nan k => simp [conv] at hc; subst hc; cases hv; rename_i h; exact ⟨.nan h, .nan⟩
    | str s => simp [conv] at hc; subst hc; cases hv; rename_i h; exact ⟨.str h, .str⟩
    | nilPtr => simp [conv] at hc; subst hc; cases hv; exact ⟨.nilPtr, .nilPtr⟩
    | nilSl => simp [conv] at hc; subst hc; cases hv; exact ⟨.nilSl, .nilSl⟩
    | nilMap => simp [conv] at hc; subst hc; cases hv; exact ⟨.nilMap, .nilMap⟩
    | nilFn => simp [conv] at hc; subst hc; cases hv; exact ⟨.nilFn, .nilFn⟩
    | nilIf => simp [conv] at hc; subst hc; cases hv; exact ⟨.nilIf, .nilIf⟩
    | agg cs =>
      simp only [conv] at hc
      obtain ⟨l, hl, rfl⟩ := Option.map_eq_some_iff.1 hc
      obtain ⟨c, rfl, h1, h2⟩ := hv.agg_inv
      obtain ⟨h3, h4⟩ := lst _ _ _ hl h1
      exact ⟨.agg h3 h2, .agg h4⟩
    | tup cs =>
      simp only [conv] at hc
      obtain ⟨l, hl, rfl⟩ := Option.map_eq_some_iff.1 hc
      obtain ⟨c, rfl, h1⟩ := hv.tup_inv
      obtain ⟨h3, h4⟩ := lst _ _ _ hl h1
      exact ⟨.tup h3, .tup h4⟩
    | iface t u =>
      simp only [conv] at hc
      obtain ⟨l, hl, rfl⟩ := Option.map_eq_some_iff.1 hc
      obtain ⟨y, rfl, h1⟩ := hv.iface_inv
      obtain ⟨h3, h4⟩ := conv_ok hr hs hlive n _ _ _ hl h1
      exact ⟨.iface h3, .iface h4⟩
    | ref b off =>
      simp only [conv] at hc
      obtain ⟨rfl, hb⟩ := hv.ref_inv
      split at hc
      · rename_i m d cs e op hblk
        rcases ble_cases off m with ⟨hle, eb⟩ | ⟨hle, eb⟩ <;> rw [eb] at hc
        · simp only [cond_true] at hc
          obtain ⟨l, hl, rfl⟩ := Option.map_eq_some_iff.1 hc
          obtain ⟨xs, h1, h2, h3⟩ := (hr.blk b _ hblk).reads (off := off) (m := m - off) (by omega)
          obtain ⟨h4, h5⟩ := lst _ _ _ hl h2
          exact ⟨.iptr (hlive b _ hblk) h5 h1 h4, .iptr id h5⟩
        · cases hc
      · cases hc
    | sl b off len es cap =>
      simp only [conv] at hc
      obtain ⟨c, rfl, hb, hlc⟩ := hv.sl_inv
      split at hc
      · rename_i m d cs e op hblk
        rcases ble_cases off m with ⟨hle, eb⟩ | ⟨hle, eb⟩ <;> rw [eb] at hc
        · simp only [cond_true] at hc
          obtain ⟨l, hl, rfl⟩ := Option.map_eq_some_iff.1 hc
          obtain ⟨xs, h1, h2, h3⟩ := (hr.blk b _ hblk).reads (off := off) (m := m - off) (by omega)
          obtain ⟨h4, h5⟩ := lst _ _ _ hl h2
          exact ⟨.isl (.inr ⟨hlive b _ hblk, h1⟩) h5 hlc h4, .isl id h5⟩
        · cases hc
      · cases hc
    | mref b =>
      simp only [conv] at hc
      obtain ⟨rfl, hb⟩ := hv.mref_inv
      split at hc
      · rename_i ks vs hblk
        split at hc
        · rename_i ks' vs' hk hvs
          cases hc
          obtain ⟨es, clock, h1, h2, h3⟩ := hr.blk b _ hblk
          obtain ⟨h4, h5⟩ := lst _ _ _ hk h2
          obtain ⟨h6, h7⟩ := lst _ _ _ hvs h3
          exact ⟨.imap (hlive b _ hblk) h5 h7 h1 h4 h6, .imap id h5 h7⟩
        · cases hc
      · cases hc
    | fn g a b =>
      simp only [conv] at hc
      obtain ⟨p, q, rfl, h1, h2⟩ := hv.fn_inv
      split at hc
      · rename_i a' b' ha hb
        cases hc
        obtain ⟨h4, h5⟩ := lst _ _ _ ha h1
        obtain ⟨h6, h7⟩ := lst _ _ _ hb h2
        exact ⟨.fn h4 h6, .fn h5 h7⟩
      · cases hc
    | isl b len cs =>
      simp only [conv] at hc
      obtain ⟨h1, rfl⟩ := tag hc
      obtain ⟨bl, off, c, xs, rfl, q1, q2, q3, q4⟩ := hv.isl_inv
      have hcl : Clean w (.isl b len cs) := .isl h1 fun c hm => (q2 c hm).mono h1
      exact ⟨(VR.isl q1 q2 q3 q4).clean hs hcl, hcl⟩
    | iptr b cs =>
      simp only [conv] at hc
      obtain ⟨h1, rfl⟩ := tag hc
      obtain ⟨bl, off, xs, rfl, q1, q2, q3, q4⟩ := hv.iptr_inv
      have hcl : Clean w (.iptr b cs) := .iptr h1 fun c hm => (q2 c hm).mono h1
      exact ⟨(VR.iptr q1 q2 q3 q4).clean hs hcl, hcl⟩
    | imap b ks vs =>
      simp only [conv] at hc
      obtain ⟨h1, rfl⟩ := tag hc
      cases hv with
      | imap q1 q2 q3 q4 q5 q6 =>
        have hcl : Clean w (.imap b ks vs) := .imap h1 (fun c hm => (q2 c hm).mono h1) fun c hm => (q3 c hm).mono h1
        exact ⟨(VR.imap q1 q2 q3 q4 q5 q6).clean hs hcl, hcl⟩

theorem convs_ok {w : Bool} {E F : Env} {W : World} {h : Heap} (hr : HR E W h) (hs : Sub w E F) (hlive : ∀ b x, h.get b = some x → F.still w (E.β b)) {n : Nat} {l l' : List AV} {xs : List Value} (hl : mapO (conv w h n) l = some l')
    (hx : VRs E W l xs) : VRs F W l' xs ∧ ∀ c ∈ l', Clean w c := by
  obtain ⟨h1, h2⟩ := mapO_get hl
  constructor
  · refine VRs.of_get (by rw [h1, hx.length]) fun i a y ha hy => ?_
    have hlt : i < l.length := by rw [← h1]; exact (List.getElem?_eq_some_iff.1 ha).1
    obtain ⟨c, hc1, hc2⟩ := h2 i l[i] (List.getElem?_eq_getElem hlt)
    rw [ha] at hc1; cases hc1
    obtain ⟨z, hz1, hz2⟩ := hx.get (List.getElem?_eq_getElem hlt)
    rw [hy] at hz1; cases hz1
    exact (conv_ok hr hs hlive n _ _ _ hc2 hz2).1
  · intro c hm
    obtain ⟨i, hi⟩ := List.mem_iff_getElem?.1 hm
    have hlt : i < l.length := by rw [← h1]; exact (List.getElem?_eq_some_iff.1 hi).1
    obtain ⟨c', hc1, hc2⟩ := h2 i l[i] (List.getElem?_eq_getElem hlt)
    rw [hi] at hc1; cases hc1
    obtain ⟨z, hz1, hz2⟩ := hx.get (List.getElem?_eq_getElem hlt)
    exact (conv_ok hr hs hlive n _ _ _ hc2 hz2).2
end Go.Proofs.YtmadknpaljaecaaGreatDoor.Ev
namespace Go.Proofs.YtmadknpaljaecaaGreatDoor.Ev
open Go
set_option linter.unusedVariables false
set_option linter.unusedSimpArgs false
set_option linter.unusedSectionVars false

def xres (P : Program) : ResultVar → Option XRes
  | .tmp t => some (.tmp t)
  | .cell t ty => match aggT P ty, sizeT P ty with | some g, some n => some (.cell t g (if g then n else 1)) | _, _ => none

def resM (a : Act) : ResultVar → Sem Value
  | .tmp t => pure (a.tmps.getD t undef)
  | .cell t ty => do loadVar ty (← asAddr (a.tmps.getD t undef))
theorem results_eq (pf : Func) (a : Act) : Go.results pf a.tmps = (do let vs ← pf.results.mapM (resM a); pure (if h : vs.size = 1 then vs[0] else .tuple vs)) := rfl

/-- results -/
theorem results_ok {P : Program} {C : Ctx} {E : Env} {W : World} {nt : Nat} {env : T AV} {h : Heap} {a : Act} (st : St C nt E W env.at h a) : ∀ (rs : List ResultVar) (xs : List XRes) (vs : List AV),
    mapO (xres P) rs = some xs → results env h xs = some vs →
    ∃ zs : List Value, (rs.mapM (resM a) : Sem (List Value)).run P W = .ok zs W ∧ VRs E W vs zs
  | [], xs, vs, h1, h2 => by
    simp [mapO] at h1; subst h1
    simp [results] at h2; subst h2
    exact ⟨[], rfl, .nil⟩
  | r :: rs, xs, vs, h1, h2 => by
    simp only [mapO] at h1
    split at h1
    · cases h1
    · rename_i x hx
      split at h1
      · cases h1
      · rename_i xs' hxs
        cases h1
        have go : ∀ v vs', results env h xs' = some vs' → (∃ z, (resM a r).run P W = .ok z W ∧ VR E W v z) →
            ∃ zs : List Value, ((r :: rs).mapM (resM a) : Sem (List Value)).run P W = .ok zs W ∧ VRs E W (v :: vs') zs := by
          rintro v vs' hv ⟨z, hz1, hz2⟩
          obtain ⟨zs, h3, h4⟩ := results_ok st rs xs' vs' hxs hv
          refine ⟨z :: zs, ?_, .cons hz2 h4⟩
          rw [List.mapM_cons]
          simp only [Sem.run_bind]
          rw [hz1]
          simp only [Result.andThen_ok]
          rw [h3]
          rfl
        cases r with
        | tmp t =>
          simp only [xres, Option.some.injEq] at hx; subst hx
          simp only [results] at h2
          obtain ⟨vs', hv, rfl⟩ := Option.map_eq_some_iff.1 h2
          exact go _ _ hv ⟨_, rfl, st.env.vals t⟩
        | cell t ty =>
          simp only [xres] at hx
          split at hx
          · rename_i g n hg hn
            cases hx
            simp only [results] at h2
            split at h2
            · rename_i b off e
              split at h2
              · rename_i m d cs el op hb
                split at h2
                · rename_i v hv
                  obtain ⟨vs', hvs, rfl⟩ := Option.map_eq_some_iff.1 h2
                  have hp := st.env.vals t
                  rw [e] at hp
                  obtain ⟨hs, _⟩ := hp.ref_inv
                  refine go _ _ hvs ?_
                  obtain ⟨z, h3, h4⟩ := ld_ref_run hg hn hp (st.hr.blk b _ hb) hv
                  refine ⟨z, ?_, h4⟩
                  rw [hs] at h3
                  show (do loadVar ty (← asAddr (a.tmps.getD t undef)) : Sem Value).run P W = _
                  rw [hs]
                  simpa [Instr.loadAt, Instr.sureAddr, asAddr] using h3
                · cases h2
              · cases h2
            · cases h2
          · cases hx

def oneV : List Value → Value
  | [x] => x
  | l => .tuple l.toArray

theorem results_run {P : Program} {C : Ctx} {E : Env} {W : World} {nt : Nat} {env : T AV} {h : Heap} {a : Act} (st : St C nt E W env.at h a) {pf : Func} {xs : List XRes} {vs : List AV} (hx : mapO (xres P) pf.results.toList = some xs)
    (hv : results env h xs = some vs) : ∃ z, (Go.results pf a.tmps).run P W = .ok z W ∧ VR E W (one vs) z ∧ ∃ zs : List Value, VRs E W vs zs ∧ z = oneV zs := by
  obtain ⟨zs, h1, h2⟩ := results_ok st _ _ _ hx hv
  refine ⟨oneV zs, ?_, ?_, zs, h2, rfl⟩
  · rw [results_eq, ← Array.toArray_toList (xs := pf.results), List.mapM_toArray]
    simp only [Sem.run_bind, Sem.run_map]
    rw [h1]
    simp only [Result.andThen_ok, Sem.run_pure]
    congr 1
    match zs with
    | [] => rfl
    | [x] => rfl
    | x :: y :: r => simp [oneV]
  · cases h2 with
    | nil => exact .tup .nil
    | cons hv' hr =>
      cases hr with
      | nil => exact hv'
      | cons hv2 hr2 => exact .tup (.cons hv' (.cons hv2 hr2))

/-- what an evaluator of code says is so -/
def ExOk (P : Program) (C : Ctx) (pur : Nat → Bool) (ih : XCode → T AV → Heap → Out) : Prop :=
  (∀ nt (c : Code) x env h E W a, xcode P pur nt c = some x → (ih x env h).told → St C nt E W env.at h a → c.wp P (Post E W nt a (ih x env h)) a W) ∧
  (∀ nt (body cur : Code) x y env h E W a, xcode P pur nt body = some x → xcode P pur nt cur = some y → (ih (.scopeAt x y) env h).told → St C nt E W env.at h a → WpAt P body cur (Post E W nt a (ih (.scopeAt x y) env h)) a W) ∧
  (∀ nt (c : Code) x env h E W a, xcode P pur nt c = some x → (ih (.loop x) env h).told → St C nt E W env.at h a →
    ∀ (b : Frame) (k : List Item) (cs : List Frame), ∃ e a' w', Post E W nt a (ih (.loop x) env h) e a' w' ∧ Arrives P (lone (b.at a (.inLoop c :: k)) cs W) b k cs e a' w')

theorem initEnv_at : ∀ (l : List AV) (i : Nat) (e : T AV) (t : Nat), (initEnv l i e).at t = if i ≤ t ∧ t < i + l.length then l[t - i]?.getD .undef else e.at t
  | [], i, e, t => by simp only [initEnv, List.length_nil]; rw [if_neg (by omega)]
  | v :: r, i, e, t => by
    simp only [initEnv, List.length_cons]
    rw [initEnv_at r, T.at_set]
    by_cases h : t = i
    · subst h; rw [if_neg (by omega), if_pos rfl, if_pos (by omega)]; simp
    · by_cases h2 : i + 1 ≤ t ∧ t < i + 1 + r.length
      · rw [if_pos h2, if_pos (by omega)]
        have : t - i = (t - (i + 1)) + 1 := by omega
        rw [this]; simp
      · rw [if_neg h2, if_neg h, if_neg (by omega)]

theorem init_env {E : Env} {W : World} {nt : Nat} {args : List AV} {xs : Array Value} (h : VRs E W args xs.toList) :
    EnvR E W nt (initEnv args 0 .nil).at { tmps := xs ++ Array.replicate (nt - xs.size) undef, defers := [] } := by
  have hl := h.length
  simp at hl
  refine ⟨by simp; omega, fun t => ?_⟩
  rw [initEnv_at]
  by_cases ht : t < args.length
  · rw [if_pos (by omega), Nat.sub_zero, List.getElem?_eq_getElem ht]
    obtain ⟨x, h1, h2⟩ := h.get (List.getElem?_eq_getElem ht)
    simp at h1
    have : (xs ++ Array.replicate (nt - xs.size) undef).getD t undef = x := by
      rw [Array.getD_eq_getD_getElem?, Array.getElem?_append_left (by omega), h1]; rfl
    simp only [Option.getD_some, this]
    exact h2
  · rw [if_neg (by omega)]
    have : (xs ++ Array.replicate (nt - xs.size) undef).getD t undef = undef := by
      rw [Array.getD_eq_getD_getElem?, Array.getElem?_append_right (by omega)]
      cases e : (Array.replicate (nt - xs.size) undef)[t - xs.size]? with
      | none => rfl
      | some z =>
        rw [Array.getElem?_replicate] at e
        split at e
        · cases e; rfl
        · cases e
    rw [this]
    exact .undef

theorem callFn_ok {P : Program} {C : Ctx} {pur : Nat → Bool} (hctx : CtxOk P C pur) (hglobI : ∀ g, Clean false (C.glob g) ∨ C.glob g = .dead) {ih : XCode → T AV → Heap → Out} (hih : ExOk P C pur ih) : CallOk P C (callFn ih C) := by
  intro f args h told
  unfold callFn at told ⊢
  cases hsum : C.sum f with
  | some g => rw [hsum] at told; exact hctx.sums f g hsum args h told
  | none =>
  rw [hsum] at told
  simp only at told ⊢
  unfold callB at told ⊢
  cases hfn : C.fns f with
  | none => rw [hfn] at told; exact told.elim
  | some fn =>
    rw [hfn] at told
    simp only at told ⊢
    obtain ⟨pf, code, p1, p2, p3, p4, p5, p6⟩ := hctx.fns f fn hfn
    have p5 : mapO (xres P) pf.results.toList = some fn.results := p5
    refine ⟨⟨pf, p1, by rw [p2]; rfl, p3⟩, fun E W xs hr hg hx => ?_⟩
    cases hp : fn.pure with
    | true =>
      rw [hp] at told
      simp only at told ⊢
      split at told
      · exact told.elim
      rename_i args' hargs
      -- the callee's own memory
      let E2 : Env := { β := E.β, csz := E.csz, nx := 0, I := E.I, B := fun b => b < W.heap.size }
      have hr2 : HR E2 W .empty := ⟨rfl, fun b x hx => (by cases hx), fun b x hx => (by cases hx), fun b b' x x' hx => (by cases hx), fun b x hx => (by cases hx), fun i hi => by
        rcases hi with hi | ⟨_, hi⟩
        · exact hr.there i (.inl hi)
        · exact hi⟩
      have hsub : Sub true E E2 := ⟨fun b h => h, fun _ b hb => hr.there b (.inr ⟨rfl, hb⟩)⟩
      have hlive : ∀ b x, h.get b = some x → E2.still true (E.β b) := fun b x hb => .inr ⟨rfl, hr.lt_size hb⟩
      obtain ⟨hx2, _⟩ := convs_ok hr hsub hlive hargs hx
      have hg2 : GlobR E2 W C := fun g => by
        rcases hglobI g with hc | hd
        · exact VR.clean (E := E) (F := E2) (w := false) ⟨fun b h => h, fun e => by cases e⟩ (hg g) hc
        · rw [hd]; exact .dead
      let a₀ : Act := { tmps := xs ++ Array.replicate (pf.ntmps - xs.size) undef, defers := [] }
      have st : St C pf.ntmps E2 W (initEnv args' 0 .nil).at .empty a₀ := ⟨hr2, init_env hx2, hg2⟩
      cases hrun : ih fn.body (initEnv args' 0 .nil) .empty with
      | no w => rw [hrun] at told; exact told.elim
      | ok e env' h' =>
        rw [hrun] at told
        have hw := hih.1 pf.ntmps code fn.body (initEnv args' 0 .nil) .empty E2 W a₀ p4 (by rw [hrun]; trivial) st
        rw [hrun] at hw
        -- what stays
        have after : ∀ {E3 : Env} {W' : World}, Stp E2 W E3 W' → HR E3 W' h' → ∃ E' : Env, Stp E W E' W' ∧ HR E' W' h ∧ Sub false E3 E' ∧ (∀ b x, h'.get b = some x → E'.still false (E3.β b)) := by
          intro E3 W' hs hr3
          have hkeep : ∀ b, b < W.heap.size → W'.heap[b]? = W.heap[b]? := fun b hb => hs.keep.same b (.inr ⟨rfl, hb⟩)
          let E' : Env := { E with I := fun b => E3.I b ∨ (W.heap.size ≤ b ∧ b < W'.heap.size) }
          have hkE : Keep E W W' := ⟨hs.keep.size, fun b hb => hkeep b (hr.there b hb), hs.keep.out⟩
          have hle : E.le E' := ⟨Nat.le_refl _, fun _ _ => rfl, fun _ _ => rfl, fun b hb => .inl (hs.le.I b hb), fun _ h => h⟩
          have hstp : Stp E W E' W' := ⟨hle, hkE, fun b hb => by
            rcases hb with hb | ⟨hb, _⟩
            · exact hs.inew b hb
            · exact .inr hb, fun _ h => h⟩
          refine ⟨E', hstp, ⟨hr.nx, hr.lt, fun b x hb => (hr.blk b x hb).mono hle hkE (hr.lt_nx hb) (hkeep _ (hr.lt_size hb)), hr.inj, ?_, ?_⟩, ⟨fun b hb => .inl hb, fun e => by cases e⟩, ?_⟩
          · intro b x hb hst
            have hlt := hr.lt_size hb
            rcases hst with (hI | ⟨hge, _⟩) | ⟨_, hB⟩
            · rcases hs.inew _ hI with hI2 | hge
              · exact hr.apart b x hb (.inl hI2)
              · exact absurd hlt (Nat.not_lt.2 hge)
            · exact absurd hlt (Nat.not_lt.2 hge)
            · exact hr.apart b x hb (.inr ⟨rfl, hB⟩)
          · intro i hi
            rcases hi with (hI | ⟨_, hlt⟩) | ⟨_, hB⟩
            · exact hr3.there i (.inl hI)
            · exact hlt
            · exact Nat.lt_of_lt_of_le (hr.there i (.inr ⟨rfl, hB⟩)) hs.keep.size
          · intro b x hb
            have hge : W.heap.size ≤ E3.β b := by
              rcases Nat.lt_or_ge (E3.β b) W.heap.size with hlt | hge
              · exact absurd (.inr ⟨rfl, hs.le.B _ hlt⟩) (hr3.apart b x hb)
              · exact hge
            exact .inl (.inr ⟨hge, hr3.lt_size hb⟩)
        refine calls_of_wp p1 p2 (wp_mono hw fun ex act W' hpost => ?_)
        obtain ⟨E3, hs, hd, hpost⟩ := hpost
        -- what returns
        have ret : (∀ vs, results env' h' fn.results = some vs → ∀ vs', mapO (conv false h' depth) vs = some vs' → HR E3 W' h' → EnvR E3 W' pf.ntmps env'.at act → act.defers = [] →
            act.defers = [] ∧ ∃ v, (Go.results pf act.tmps).run P W' = .ok v W' ∧ CallPost E W (.ok (one vs') h) (.returned v) W') := by
          intro vs hvs vs' hvs' hr3 henv hd
          refine ⟨hd, ?_⟩
          obtain ⟨z, h1, h2, zs, h3, h4⟩ := results_run (C := C) ⟨hr3, henv, hg2.mono hs.le hs.keep⟩ p5 hvs
          obtain ⟨E', q1, q2, q3, q4⟩ := after hs hr3
          obtain ⟨h5, h6⟩ := convs_ok hr3 q3 q4 hvs' h3
          refine ⟨z, h1, E', q1, q2, z, rfl, ?_⟩
          subst h4
          cases h5 with
          | nil => exact .tup .nil
          | cons hv' hrr =>
            cases hrr with
            | nil => exact hv'
            | cons hv2 hr2 => exact .tup (.cons hv' (.cons hv2 hr2))
        simp only at told ⊢
        cases e with
        | nrm =>
          obtain ⟨q1, rfl, q3⟩ := hpost
          simp only at told ⊢
          split at told
          · exact told.elim
          rename_i vs hvs
          split at told
          · exact told.elim
          rename_i vs' hvs'
          exact ret vs hvs vs' hvs' q1 q3 hd
        | ret =>
          obtain ⟨q1, rfl, q3⟩ := hpost
          simp only at told ⊢
          split at told
          · exact told.elim
          rename_i vs hvs
          split at told
          · exact told.elim
          rename_i vs' hvs'
          exact ret vs hvs vs' hvs' q1 q3 hd
        | exit id => exact told.elim
        | goto l => exact told.elim
        | panic v =>
          obtain ⟨q1, z, rfl, q3⟩ := hpost
          simp only at told ⊢
          split at told
          · rename_i v' hv'
            obtain ⟨E', r1, r2, r3, r4⟩ := after hs q1
            obtain ⟨h5, h6⟩ := conv_ok q1 r3 r4 _ _ _ _ hv' q3
            exact ⟨hd, E', r1, r2, z, rfl, h5⟩
          · exact told.elim
    | false =>
      rw [hp] at told
      simp only at told ⊢
      let a₀ : Act := { tmps := xs ++ Array.replicate (pf.ntmps - xs.size) undef, defers := [] }
      have st : St C pf.ntmps E W (initEnv args 0 .nil).at h a₀ := ⟨hr, init_env hx, hg⟩
      cases hrun : ih fn.body (initEnv args 0 .nil) h with
      | no w => rw [hrun] at told; exact told.elim
      | ok e env' h' =>
        rw [hrun] at told
        have hw := hih.1 pf.ntmps code fn.body (initEnv args 0 .nil) h E W a₀ p4 (by rw [hrun]; trivial) st
        rw [hrun] at hw
        refine calls_of_wp p1 p2 (wp_mono hw fun ex act W' hpost => ?_)
        obtain ⟨E3, hs, hd, hpost⟩ := hpost
        have ret : ∀ vs, results env' h' fn.results = some vs → HR E3 W' h' → EnvR E3 W' pf.ntmps env'.at act →
            act.defers = [] ∧ ∃ v, (Go.results pf act.tmps).run P W' = .ok v W' ∧ CallPost E W (.ok (one vs) h') (.returned v) W' := by
          intro vs hvs hr3 henv
          refine ⟨hd, ?_⟩
          obtain ⟨z, h1, h2, _⟩ := results_run (C := C) ⟨hr3, henv, hg.mono hs.le hs.keep⟩ p5 hvs
          exact ⟨z, h1, E3, hs, hr3, z, rfl, h2⟩
        simp only at told ⊢
        cases e with
        | nrm =>
          obtain ⟨q1, rfl, q3⟩ := hpost
          simp only at told ⊢
          split at told
          · exact told.elim
          rename_i vs hvs
          exact ret vs hvs q1 q3
        | ret =>
          obtain ⟨q1, rfl, q3⟩ := hpost
          simp only at told ⊢
          split at told
          · exact told.elim
          rename_i vs hvs
          exact ret vs hvs q1 q3
        | exit id => exact told.elim
        | goto l => exact told.elim
        | panic v =>
          obtain ⟨q1, z, rfl, q3⟩ := hpost
          exact ⟨hd, E3, hs, q1, z, rfl, q3⟩
end Go.Proofs.YtmadknpaljaecaaGreatDoor.Ev
namespace Go.Proofs.YtmadknpaljaecaaGreatDoor.Ev
open Go
set_option linter.unusedVariables false
set_option linter.unusedSimpArgs false
set_option linter.unusedSectionVars false

def PureOk (pur : Nat → Bool) (call : CallT) : Prop := ∀ f args h v h', pur f = true → call f args h = .ok v h' → h' = h

theorem callFn_pure {P : Program} {C : Ctx} {pur : Nat → Bool} (hctx : CtxOk P C pur) (ih : XCode → T AV → Heap → Out) : PureOk pur (callFn ih C) := by
  intro f args h v h' hp he
  unfold callFn at he
  split at he
  · rename_i g hg; exact hctx.sumPure f g hg hp args h v h' he
  unfold callB at he
  split at he
  · cases he
  · rename_i fn hfn
    obtain ⟨_, _, _, _, _, _, _, h6⟩ := hctx.fns f fn hfn
    rw [h6, hp] at he
    simp only at he
    split at he
    · cases he
    · split at he
      · split at he
        · split at he
          · cases he
          · split at he
            · cases he
            · cases he; rfl
        · split at he
          · cases he
          · split at he
            · cases he
            · cases he; rfl
        · split at he <;> cases he
        · cases he
      · cases he

/-- regions that draw their order -/
def DrawOk (P : Program) (C : Ctx) (pur : Nat → Bool) : Prop :=
  ∀ (call : CallT), CallOk P C call → PureOk pur call → ∀ nt id (ops : Array Oper) (xs : List XOper), mapO (xoper P nt ops) ops.toList = some xs →
    backs ops.toList 0 = true → allPairs pur (befs ops.toList []) xs 0 = true →
    ∀ (E : Env) (W : World) (env : T AV) (h : Heap) (a : Act), (xdraw call C (withDI pur (befs ops.toList []) xs xs 0) env h).told → St C nt E W env.at h a →
      (Code.region id ops true).wp P (Post E W nt a (xdraw call C (withDI pur (befs ops.toList []) xs xs 0) env h)) a W

theorem Post.normal {E : Env} {W : World} {nt : Nat} {a : Act} {env : T AV} {h : Heap} (hr : HR E W h) (he : EnvR E W nt env.at a) : Post E W nt a (.ok .nrm env h) .normal a W :=
  ⟨E, .refl E W, rfl, hr, rfl, he⟩

theorem exitOf_then {x : XExit} (hx : x ≠ .nrm) (hp : ∀ v, x ≠ .panic v) {next : Act → World → Prop} {Q : Exit → Act → World → Prop} {a : Act} {w : World} (h : Q (exitOf x) a w) : Exit.then next Q (exitOf x) a w := by
  cases x with
  | nrm => exact absurd rfl hx
  | exit id => exact h
  | goto l => exact h
  | ret => exact h
  | panic v => exact absurd rfl (hp v)

theorem ex_ok {P : Program} {C : Ctx} {pur : Nat → Bool} (hctx : CtxOk P C pur) (hglob : ∀ g, Clean false (C.glob g) ∨ C.glob g = .dead) (hdraw : DrawOk P C pur) : ∀ n, ExOk P C pur (ex C n)
  | 0 => ⟨fun nt c x env h E W a _ ht => ht.elim, fun nt b c x y env h E W a _ _ ht => ht.elim, fun nt c x env h E W a _ ht => ht.elim⟩
  | n + 1 => by
    have ih := ex_ok hctx hglob hdraw n
    have hcall := callFn_ok hctx hglob ih
    have hpure := callFn_pure hctx (ex C n)
    have loop : ∀ nt (c1 : Code) xa env h E W a, xcode P pur nt c1 = some xa → (step C (ex C n) (.loop xa) env h).told → St C nt E W env.at h a →
        ∀ (b : Frame) (k : List Item) (cs : List Frame), ∃ e a' w', Post E W nt a (step C (ex C n) (.loop xa) env h) e a' w' ∧ Arrives P (lone (b.at a (.code c1 :: .inLoop c1 :: k)) cs W) b k cs e a' w' := by
      intro nt c1 xa env h E W a ha ht st b k cs
      simp only [step] at ht ⊢
      cases h1 : ex C n xa env h with
      | no w => rw [h1] at ht; exact ht.elim
      | ok e env1 h1' =>
        rw [h1] at ht
        have w1 := ih.1 nt c1 xa env h E W a ha (by rw [h1]; trivial) st
        rw [h1] at w1
        obtain ⟨e2, a2, W2, hp, harr⟩ := w1 b (.inLoop c1 :: k) cs
        obtain ⟨E1, hs, hd, hp⟩ := hp
        simp only at ht ⊢
        cases e with
        | nrm =>
          obtain ⟨q1, rfl, q3⟩ := hp
          obtain ⟨e3, a3, W3, hp3, harr3⟩ := ih.2.2 nt c1 xa env1 h1' E1 W2 a2 ha ht ⟨q1, q3, st.glob.mono hs.le hs.keep⟩ b k cs
          exact ⟨e3, a3, W3, hp3.pre hs hd, .of_steps harr harr3⟩
        | exit id => obtain ⟨q1, rfl, q3⟩ := hp; exact ⟨_, a2, W2, ⟨E1, hs, hd, q1, rfl, q3⟩, .pass (x := .inLoop c1) rfl (fun _ _ => .inl (by simp [exitOf])) harr⟩
        | goto l => obtain ⟨q1, rfl, q3⟩ := hp; exact ⟨_, a2, W2, ⟨E1, hs, hd, q1, rfl, q3⟩, .pass (x := .inLoop c1) rfl (fun _ _ => .inl (by simp [exitOf])) harr⟩
        | ret => obtain ⟨q1, rfl, q3⟩ := hp; exact ⟨_, a2, W2, ⟨E1, hs, hd, q1, rfl, q3⟩, .pass (x := .inLoop c1) rfl (fun _ _ => .inl (by simp [exitOf])) harr⟩
        | panic v => obtain ⟨q1, z, rfl, q3⟩ := hp; exact ⟨_, a2, W2, ⟨E1, hs, hd, q1, z, rfl, q3⟩, .pass (x := .inLoop c1) rfl (fun _ _ => .inl (by simp)) harr⟩
    have code : ∀ nt (c : Code) x env h E W a, xcode P pur nt c = some x → (ex C (n + 1) x env h).told → St C nt E W env.at h a → c.wp P (Post E W nt a (ex C (n + 1) x env h)) a W := by
      intro nt c x env h E W a hc ht st
      simp only [ex] at ht ⊢
      cases c with
      | skip =>
        simp only [xcode, Option.some.injEq] at hc; subst hc
        exact wp_skip (.normal st.hr st.env)
      | label l =>
        simp only [xcode, Option.some.injEq] at hc; subst hc
        exact wp_label (.normal st.hr st.env)
      | exit id =>
        simp only [xcode, Option.some.injEq] at hc; subst hc
        exact wp_exit ⟨E, .refl E W, rfl, st.hr, rfl, st.env⟩
      | goto l =>
        simp only [xcode, Option.some.injEq] at hc; subst hc
        exact wp_goto ⟨E, .refl E W, rfl, st.hr, rfl, st.env⟩
      | ret =>
        simp only [xcode, Option.some.injEq] at hc; subst hc
        exact wp_ret ⟨E, .refl E W, rfl, st.hr, rfl, st.env⟩
      | region id ops d =>
        simp only [xcode, xregion] at hc
        split at hc
        · cases hc
        · rename_i xs hxs
          cases d with
          | false =>
            simp only [Bool.false_eq_true, if_false, Option.some.injEq] at hc
            subst hc
            exact reg_ok hcall hxs rfl ht st
          | true =>
            simp only [if_true] at hc
            split at hc
            · rename_i hb
              simp only [Bool.and_eq_true] at hb
              cases hc
              exact hdraw _ hcall hpure nt id ops xs hxs hb.1 hb.2 E W env h a ht st
            · cases hc
      | seq c1 c2 =>
        simp only [xcode] at hc
        split at hc
        · rename_i xa xb ha hb
          cases hc
          simp only [step] at ht ⊢
          cases h1 : ex C n xa env h with
          | no w => rw [h1] at ht; exact ht.elim
          | ok e env1 h1' =>
            rw [h1] at ht
            have w1 := ih.1 nt c1 xa env h E W a ha (by rw [h1]; trivial) st
            rw [h1] at w1
            refine wp_seq (wp_mono w1 fun e2 a2 W2 hp => ?_)
            obtain ⟨E1, hs, hd, hp⟩ := hp
            simp only at ht ⊢
            cases e with
            | nrm =>
              obtain ⟨q1, rfl, q3⟩ := hp
              have w2 := ih.1 nt c2 xb env1 h1' E1 W2 a2 hb ht ⟨q1, q3, st.glob.mono hs.le hs.keep⟩
              exact wp_mono w2 fun e3 a3 W3 hp3 => hp3.pre hs hd
            | exit id => obtain ⟨q1, rfl, q3⟩ := hp; exact ⟨E1, hs, hd, q1, rfl, q3⟩
            | goto l => obtain ⟨q1, rfl, q3⟩ := hp; exact ⟨E1, hs, hd, q1, rfl, q3⟩
            | ret => obtain ⟨q1, rfl, q3⟩ := hp; exact ⟨E1, hs, hd, q1, rfl, q3⟩
            | panic v => obtain ⟨q1, z, rfl, q3⟩ := hp; exact ⟨E1, hs, hd, q1, z, rfl, q3⟩
        · cases hc
      | cond X c1 c2 =>
        simp only [xcode] at hc
        split at hc
        · rename_i x' xa xb hX ha hb
          cases hc
          have hx := xo_rel st.env st.glob X x' hX
          rw [evalF_at] at hx
          simp only [step] at ht ⊢
          split at ht
          · rename_i e
            rw [e] at hx
            exact wp_cond hx.bool_inv (ih.1 nt c1 xa env h E W a ha ht st)
          · rename_i e
            rw [e] at hx
            exact wp_cond hx.bool_inv (ih.1 nt c2 xb env h E W a hb ht st)
          · exact ht.elim
        · cases hc
      | block id c1 =>
        simp only [xcode] at hc
        obtain ⟨xa, ha, rfl⟩ := Option.map_eq_some_iff.1 hc
        simp only [step] at ht ⊢
        cases h1 : ex C n xa env h with
        | no w => rw [h1] at ht; exact ht.elim
        | ok e env1 h1' =>
          rw [h1] at ht
          have w1 := ih.1 nt c1 xa env h E W a ha (by rw [h1]; trivial) st
          rw [h1] at w1
          refine wp_block (wp_mono w1 fun e2 a2 W2 hp => ?_)
          obtain ⟨E1, hs, hd, hp⟩ := hp
          simp only at ht ⊢
          cases e with
          | nrm => obtain ⟨q1, rfl, q3⟩ := hp; exact ⟨E1, hs, hd, q1, rfl, q3⟩
          | exit i =>
            obtain ⟨q1, rfl, q3⟩ := hp
            simp only [exitOf, Exit.inBlock]
            rcases beq_cases i id with ⟨e1, eb⟩ | ⟨e1, eb⟩ <;> rw [eb]
            · rw [if_pos e1]; exact ⟨E1, hs, hd, q1, rfl, q3⟩
            · rw [if_neg e1]; exact ⟨E1, hs, hd, q1, rfl, q3⟩
          | goto l => obtain ⟨q1, rfl, q3⟩ := hp; exact ⟨E1, hs, hd, q1, rfl, q3⟩
          | ret => obtain ⟨q1, rfl, q3⟩ := hp; exact ⟨E1, hs, hd, q1, rfl, q3⟩
          | panic v => obtain ⟨q1, z, rfl, q3⟩ := hp; exact ⟨E1, hs, hd, q1, z, rfl, q3⟩
      | loop c1 =>
        simp only [xcode] at hc
        obtain ⟨xa, ha, rfl⟩ := Option.map_eq_some_iff.1 hc
        intro b k cs
        obtain ⟨e2, a2, W2, hp, harr⟩ := loop nt c1 xa env h E W a ha ht st b k cs
        exact ⟨e2, a2, W2, hp, .of_steps (.one step_loop) harr⟩
      | scope c1 =>
        simp only [xcode] at hc
        obtain ⟨xa, ha, rfl⟩ := Option.map_eq_some_iff.1 hc
        simp only [step] at ht ⊢
        exact wp_scope_of (ih.2.1 nt c1 c1 xa xa env h E W a ha ha ht st)
      | rangeFunc => simp only [xcode, Option.some.injEq] at hc; subst hc; exact ht.elim
      | refuse => simp only [xcode, Option.some.injEq] at hc; subst hc; exact ht.elim
    refine ⟨code, ?_, fun nt c x env h E W a hc ht st b k cs => by
      obtain ⟨e2, a2, W2, hp, harr⟩ := loop nt c x env h E W a hc ht st b k cs
      exact ⟨e2, a2, W2, hp, .of_steps (.one step_inLoop) harr⟩⟩
    intro nt body cur x y env h E W a hb hc ht st
    simp only [ex, step] at ht ⊢
    cases h1 : ex C n y env h with
    | no w => rw [h1] at ht; exact ht.elim
    | ok e env1 h1' =>
      rw [h1] at ht
      have w1 := ih.1 nt cur y env h E W a hc (by rw [h1]; trivial) st
      rw [h1] at w1
      refine wpAt_of w1 fun e2 a2 W2 hp => ?_
      obtain ⟨E1, hs, hd, hp⟩ := hp
      simp only at ht ⊢
      cases e with
      | nrm => obtain ⟨q1, rfl, q3⟩ := hp; exact .inr ⟨fun l hl => (by cases hl), E1, hs, hd, q1, rfl, q3⟩
      | exit id => obtain ⟨q1, rfl, q3⟩ := hp; exact .inr ⟨fun l hl => (by cases hl), E1, hs, hd, q1, rfl, q3⟩
      | ret => obtain ⟨q1, rfl, q3⟩ := hp; exact .inr ⟨fun l hl => (by cases hl), E1, hs, hd, q1, rfl, q3⟩
      | panic v => obtain ⟨q1, z, rfl, q3⟩ := hp; exact .inr ⟨fun l hl => (by cases hl), E1, hs, hd, q1, z, rfl, q3⟩
      | goto l =>
        obtain ⟨q1, rfl, q3⟩ := hp
        obtain ⟨f1, f2⟩ := findLabel_ok (P := P) (pur := pur) (nt := nt) (l := l) hb
        simp only at ht ⊢
        cases hf : findLabel x l with
        | none =>
          rw [hf] at ht
          exact .inr ⟨fun l' hl => (by cases hl; exact f2 hf), E1, hs, hd, q1, rfl, q3⟩
        | some r =>
          rw [hf] at ht
          obtain ⟨rc, g1, g2⟩ := f1 r hf
          refine .inl ⟨l, rc, rfl, g1, ?_⟩
          have := ih.2.1 nt body rc x r env1 h1' E1 W2 a2 hb g2 ht ⟨q1, q3, st.glob.mono hs.le hs.keep⟩
          intro b k cs
          obtain ⟨e3, a3, W3, hp3, harr3⟩ := this b k cs
          exact ⟨e3, a3, W3, hp3.pre hs hd, harr3⟩
end Go.Proofs.YtmadknpaljaecaaGreatDoor.Ev
namespace Go.Proofs.YtmadknpaljaecaaGreatDoor.Ev
open Go
set_option linter.unusedVariables false
set_option linter.unusedSimpArgs false
set_option linter.unusedSectionVars false

/-! what an operation looks at -/
section congr
variable {ρ ρ' : XO → AV} {h : Heap}

theorem c_O {x : XO} (hr : ∀ t ∈ rdO x, ρ (.t t) = ρ' (.t t)) (hc : ∀ v, ρ (.c v) = ρ' (.c v)) (hg : ∀ g, ρ (.g g) = ρ' (.g g)) : ρ x = ρ' x := by
  cases x with
  | t n => exact hr n (by simp [rdO])
  | c v => exact hc v
  | g n => exact hg n
theorem c_OO {x : Option XO} (hr : ∀ t ∈ rdOO x, ρ (.t t) = ρ' (.t t)) (hc : ∀ v, ρ (.c v) = ρ' (.c v)) (hg : ∀ g, ρ (.g g) = ρ' (.g g)) : x.map ρ = x.map ρ' := by
  cases x with
  | none => rfl
  | some x => simp only [Option.map_some]; rw [c_O (x := x) hr hc hg]
theorem c_L : ∀ {l : List XO} (hr : ∀ t ∈ rdL l, ρ (.t t) = ρ' (.t t)) (hc : ∀ v, ρ (.c v) = ρ' (.c v)) (hg : ∀ g, ρ (.g g) = ρ' (.g g)), l.map ρ = l.map ρ'
  | [], _, _, _ => rfl
  | x :: r, hr, hc, hg => by
    simp only [List.map_cons]
    rw [c_O (x := x) (fun t ht => hr t (by simp [rdL, ht])) hc hg, c_L (l := r) (fun t ht => hr t (by simp [rdL, ht])) hc hg]
theorem c_P : ∀ {l : List (Nat × Nat × XO)} (hr : ∀ t ∈ rdP l, ρ (.t t) = ρ' (.t t)) (hc : ∀ v, ρ (.c v) = ρ' (.c v)) (hg : ∀ g, ρ (.g g) = ρ' (.g g)) (cs : List AV), fillParts ρ l cs = fillParts ρ' l cs
  | [], _, _, _, _ => rfl
  | (off, s, x) :: r, hr, hc, hg, cs => by
    simp only [fillParts]
    rw [c_O (x := x) (fun t ht => hr t (by simp [rdP, ht])) hc hg]
    rw [c_P (l := r) (fun t ht => hr t (by simp [rdP, ht])) hc hg]

variable (hc : ∀ v, ρ (.c v) = ρ' (.c v)) (hg : ∀ g, ρ (.g g) = ρ' (.g g))
include hc hg

theorem c_PA {p : PA} (hr : ∀ t ∈ readsPA p, ρ (.t t) = ρ' (.t t)) : ePA ρ h p = ePA ρ' h p := by
  cases p with
  | slS x lo hi =>
    simp only [ePA, o_slS]
    rw [c_O (x := x) (fun t ht => hr t (by simp [readsPA, ht])) hc hg, c_OO (x := lo) (fun t ht => hr t (by simp [readsPA, ht])) hc hg, c_OO (x := hi) (fun t ht => hr t (by simp [readsPA, ht])) hc hg]
  | bin _ x y => simp only [ePA, o_bin]; rw [c_O (x := x) (fun t ht => hr t (by simp [readsPA, ht])) hc hg, c_O (x := y) (fun t ht => hr t (by simp [readsPA, ht])) hc hg]
  | eq _ _ x y => simp only [ePA, o_eq]; rw [c_O (x := x) (fun t ht => hr t (by simp [readsPA, ht])) hc hg, c_O (x := y) (fun t ht => hr t (by simp [readsPA, ht])) hc hg]
  | iaS _ x y => simp only [ePA, o_iaS]; rw [c_O (x := x) (fun t ht => hr t (by simp [readsPA, ht])) hc hg, c_O (x := y) (fun t ht => hr t (by simp [readsPA, ht])) hc hg]
  | iaA _ _ x y => simp only [ePA, o_iaA]; rw [c_O (x := x) (fun t ht => hr t (by simp [readsPA, ht])) hc hg, c_O (x := y) (fun t ht => hr t (by simp [readsPA, ht])) hc hg]
  | ixS x y => simp only [ePA, o_ixS]; rw [c_O (x := x) (fun t ht => hr t (by simp [readsPA, ht])) hc hg, c_O (x := y) (fun t ht => hr t (by simp [readsPA, ht])) hc hg]
  | un _ x => simp only [ePA, o_un]; rw [c_O (x := x) (fun t ht => hr t (by simp [readsPA, ht])) hc hg]
  | ext x _ => simp only [ePA, o_ext]; rw [c_O (x := x) (fun t ht => hr t (by simp [readsPA, ht])) hc hg]
  | lenS x => simp only [ePA, o_lenS]; rw [c_O (x := x) (fun t ht => hr t (by simp [readsPA, ht])) hc hg]
  | lenSl x => simp only [ePA, o_lenSl]; rw [c_O (x := x) (fun t ht => hr t (by simp [readsPA, ht])) hc hg]
  | capSl x => simp only [ePA, o_capSl]; rw [c_O (x := x) (fun t ht => hr t (by simp [readsPA, ht])) hc hg]
  | nilchk x => simp only [ePA, o_nilchk]; rw [c_O (x := x) (fun t ht => hr t (by simp [readsPA, ht])) hc hg]
  | fa _ x => simp only [ePA, o_fa]; rw [c_O (x := x) (fun t ht => hr t (by simp [readsPA, ht])) hc hg]
  | cvI _ x => simp only [ePA, o_cvI]; rw [c_O (x := x) (fun t ht => hr t (by simp [readsPA, ht])) hc hg]
  | sid x => simp only [ePA]; rw [c_O (x := x) (fun t ht => hr t (by simp [readsPA, ht])) hc hg]
theorem c_PB {p : PB} (hr : ∀ t ∈ readsPB p, ρ (.t t) = ρ' (.t t)) : ePB ρ h p = ePB ρ' h p := by
  cases p with
  | build zs ps => simp only [ePB, o_build]; rw [c_P (l := ps) (fun t ht => hr t (by simp [readsPB, ht])) hc hg]
  | mkF f a b => simp only [ePB]; rw [c_L (l := a) (fun t ht => hr t (by simp [readsPB, ht])) hc hg, c_L (l := b) (fun t ht => hr t (by simp [readsPB, ht])) hc hg]
  | mn l => simp only [ePB, o_mn]; rw [c_L (l := l) (fun t ht => hr t (by simp [readsPB, ht])) hc hg]
  | mx l => simp only [ePB, o_mx]; rw [c_L (l := l) (fun t ht => hr t (by simp [readsPB, ht])) hc hg]
  | slSl _ x lo hi =>
    simp only [ePB, o_slSl]
    rw [c_O (x := x) (fun t ht => hr t (by simp [readsPB, ht])) hc hg, c_OO (x := lo) (fun t ht => hr t (by simp [readsPB, ht])) hc hg, c_OO (x := hi) (fun t ht => hr t (by simp [readsPB, ht])) hc hg]
  | slA _ _ x lo hi =>
    simp only [ePB, o_slA]
    rw [c_O (x := x) (fun t ht => hr t (by simp [readsPB, ht])) hc hg, c_OO (x := lo) (fun t ht => hr t (by simp [readsPB, ht])) hc hg, c_OO (x := hi) (fun t ht => hr t (by simp [readsPB, ht])) hc hg]
  | ixA _ _ _ x y => simp only [ePB, o_ixA]; rw [c_O (x := x) (fun t ht => hr t (by simp [readsPB, ht])) hc hg, c_O (x := y) (fun t ht => hr t (by simp [readsPB, ht])) hc hg]
  | ixB x y => simp only [ePB, o_ixB]; rw [c_O (x := x) (fun t ht => hr t (by simp [readsPB, ht])) hc hg, c_O (x := y) (fun t ht => hr t (by simp [readsPB, ht])) hc hg]
  | cnt x y => simp only [ePB, o_cnt]; rw [c_O (x := x) (fun t ht => hr t (by simp [readsPB, ht])) hc hg, c_O (x := y) (fun t ht => hr t (by simp [readsPB, ht])) hc hg]
  | ixSt x y => rfl
  | cvF _ x => simp only [ePB, o_cvF]; rw [c_O (x := x) (fun t ht => hr t (by simp [readsPB, ht])) hc hg]
  | cvFI _ x => simp only [ePB, o_cvFI]; rw [c_O (x := x) (fun t ht => hr t (by simp [readsPB, ht])) hc hg]
  | cvFF _ x => simp only [ePB, o_cvFF]; rw [c_O (x := x) (fun t ht => hr t (by simp [readsPB, ht])) hc hg]
  | cvIS x => simp only [ePB, o_cvIS]; rw [c_O (x := x) (fun t ht => hr t (by simp [readsPB, ht])) hc hg]
  | mkI _ x => simp only [ePB]; rw [c_O (x := x) (fun t ht => hr t (by simp [readsPB, ht])) hc hg]
  | fld _ _ _ x => simp only [ePB, o_fld]; rw [c_O (x := x) (fun t ht => hr t (by simp [readsPB, ht])) hc hg]
  | ta _ _ _ x => simp only [ePB, o_ta]; rw [c_O (x := x) (fun t ht => hr t (by simp [readsPB, ht])) hc hg]
  | usd x => simp only [ePB, o_usd]; rw [c_O (x := x) (fun t ht => hr t (by simp [readsPB, ht])) hc hg]
  | fbits _ x => simp only [ePB, o_fbits]; rw [c_O (x := x) (fun t ht => hr t (by simp [readsPB, ht])) hc hg]
  | ffrom _ x => simp only [ePB, o_ffrom]; rw [c_O (x := x) (fun t ht => hr t (by simp [readsPB, ht])) hc hg]
  | trunc x => simp only [ePB, o_trunc]; rw [c_O (x := x) (fun t ht => hr t (by simp [readsPB, ht])) hc hg]
theorem c_HA {p : HA} (hr : ∀ t ∈ readsHA p, ρ (.t t) = ρ' (.t t)) : eHA ρ h p = eHA ρ' h p := by
  cases p with
  | ld _ _ x => simp only [eHA, o_ld]; rw [c_O (x := x) (fun t ht => hr t (by simp [readsHA, ht])) hc hg]
  | st _ x y => simp only [eHA, o_st]; rw [c_O (x := x) (fun t ht => hr t (by simp [readsHA, ht])) hc hg, c_O (x := y) (fun t ht => hr t (by simp [readsHA, ht])) hc hg]
  | new _ _ => rfl
  | box _ _ x => simp only [eHA, o_box]; rw [c_O (x := x) (fun t ht => hr t (by simp [readsHA, ht])) hc hg]
  | bsl _ _ _ ps => simp only [eHA, o_bsl]; rw [c_P (l := ps) (fun t ht => hr t (by simp [readsHA, ht])) hc hg]
  | app _ _ _ x y => simp only [eHA]; rw [c_O (x := x) (fun t ht => hr t (by simp [readsHA, ht])) hc hg, c_O (x := y) (fun t ht => hr t (by simp [readsHA, ht])) hc hg]
theorem c_HB {p : HB} (hr : ∀ t ∈ readsHB p, ρ (.t t) = ρ' (.t t)) : eHB ρ h p = eHB ρ' h p := by
  cases p with
  | cvSB _ x => simp only [eHB, o_cvSB]; rw [c_O (x := x) (fun t ht => hr t (by simp [readsHB, ht])) hc hg]
  | cvBS x => simp only [eHB, o_cvBS]; rw [c_O (x := x) (fun t ht => hr t (by simp [readsHB, ht])) hc hg]
  | cvP _ _ x => simp only [eHB, o_cvP]; rw [c_O (x := x) (fun t ht => hr t (by simp [readsHB, ht])) hc hg]
  | mkMap => rfl
  | ins _ m k v => simp only [eHB, o_ins]; rw [c_O (x := m) (fun t ht => hr t (by simp [readsHB, ht])) hc hg, c_O (x := k) (fun t ht => hr t (by simp [readsHB, ht])) hc hg, c_O (x := v) (fun t ht => hr t (by simp [readsHB, ht])) hc hg]
  | lkp _ _ _ x y => simp only [eHB, o_lkp]; rw [c_O (x := x) (fun t ht => hr t (by simp [readsHB, ht])) hc hg, c_O (x := y) (fun t ht => hr t (by simp [readsHB, ht])) hc hg]
  | mksl _ _ _ _ x y => simp only [eHB, o_mksl]; rw [c_O (x := x) (fun t ht => hr t (by simp [readsHB, ht])) hc hg, c_O (x := y) (fun t ht => hr t (by simp [readsHB, ht])) hc hg]
  | rngS x => simp only [eHB, o_rngS]; rw [c_O (x := x) (fun t ht => hr t (by simp [readsHB, ht])) hc hg]
  | nxtS x => simp only [eHB, o_nxtS]; rw [c_O (x := x) (fun t ht => hr t (by simp [readsHB, ht])) hc hg]
  | lenM x => simp only [eHB, o_lenM]; rw [c_O (x := x) (fun t ht => hr t (by simp [readsHB, ht])) hc hg]
  | cpy _ x y => simp only [eHB, o_cpy]; rw [c_O (x := x) (fun t ht => hr t (by simp [readsHB, ht])) hc hg, c_O (x := y) (fun t ht => hr t (by simp [readsHB, ht])) hc hg]
  | us _ x y => simp only [eHB, o_us]; rw [c_O (x := x) (fun t ht => hr t (by simp [readsHB, ht])) hc hg, c_O (x := y) (fun t ht => hr t (by simp [readsHB, ht])) hc hg]
  | mkNZ _ x => simp only [eHB, o_mkNZ]; rw [c_O (x := x) (fun t ht => hr t (by simp [readsHB, ht])) hc hg]

theorem xop_congr (call : CallT) {x : XOp} (hr : ∀ t ∈ reads x, ρ (.t t) = ρ' (.t t)) : xop call ρ h x = xop call ρ' h x := by
  cases x with
  | mv x => simp only [xop]; rw [c_O (x := x) hr hc hg]
  | p o => exact c_PA hc hg hr
  | h o => exact c_HA hc hg hr
  | call f l => simp only [xop]; rw [c_L (l := l) hr hc hg]
  | pick c a b => simp only [xop]; rw [c_O (x := c) (fun t ht => hr t (by simp [reads, ht])) hc hg, c_O (x := a) (fun t ht => hr t (by simp [reads, ht])) hc hg, c_O (x := b) (fun t ht => hr t (by simp [reads, ht])) hc hg]
  | q o => exact c_PB hc hg hr
  | g o => exact c_HB hc hg hr
  | callv f l => simp only [xop]; rw [c_O (x := f) (fun t ht => hr t (by simp [reads, ht])) hc hg, c_L (l := l) (fun t ht => hr t (by simp [reads, ht])) hc hg]
  | panic x => simp only [xop]; rw [c_O (x := x) hr hc hg]
  | bad => rfl
end congr

/-- an operation that looks at no memory -/
theorem free_ok {call : CallT} {ρ : XO → AV} {h : Heap} {x : XOp} (hf : freeS x = true) {v : AV} {h' : Heap} (e : xop call ρ h x = .ok v h') : h' = h ∧ ∀ h2, xop call ρ h2 x = .ok v h2 := by
  cases x with
  | mv x => simp only [xop, OpR.ok.injEq] at e ⊢; exact ⟨e.2.symm, fun h2 => ⟨e.1, trivial⟩⟩
  | p o => exact free_PA ρ h e
  | q o => exact free_PB ρ h e
  | pick c a b =>
    simp only [xop] at e ⊢
    split at e <;> first | (cases e; done) | (cases e; exact ⟨rfl, fun h2 => rfl⟩)
  | _ => cases hf

/-- an operation that writes nothing -/
theorem reader_ok {pur : Nat → Bool} {call : CallT} (hp : PureOk pur call) {ρ : XO → AV} {h : Heap} {x : XOp} (hf : wrS pur x = false) {v : AV} {h' : Heap} (e : xop call ρ h x = .ok v h') : h' = h := by
  cases x with
  | mv x => exact (free_ok (call := call) (x := .mv x) rfl e).1
  | p o => exact (free_ok (call := call) (x := .p o) rfl e).1
  | q o => exact (free_ok (call := call) (x := .q o) rfl e).1
  | pick c a b => exact (free_ok (call := call) (x := .pick c a b) rfl e).1
  | call f l => exact hp f _ h v h' (by simpa [wrS] using hf) e
  | callv f l => cases hf
  | panic x => cases hf
  | bad => cases hf
  | h o =>
    cases o with
    | ld a n p =>
      simp only [xop, eHA, o_ld] at e
      split at e
      · split at e
        · exact (opR_ok e).2
        · cases e
      · exact (opR_ok e).2
      · cases e
    | _ => cases hf
  | g o =>
    cases o with
    | cvBS x =>
      simp only [xop, eHB, o_cvBS] at e
      split at e
      · cases e
      · split at e
        · exact (opR_ok e).2
        · cases e
    | cvP t s x =>
      simp only [xop, eHB, o_cvP] at e
      split at e
      · split at e
        · obtain ⟨_, e2⟩ := bif_ok e; cases e2; rfl
        · cases e
      · cases e; rfl
      · cases e
    | lkp s z ok x i =>
      simp only [xop, eHB, o_lkp] at e
      split at e
      · cases e
      · split at e
        · cases e; rfl
        · cases e; rfl
        · cases e
    | lenM x =>
      simp only [xop, eHB, o_lenM] at e
      split at e
      · cases e; rfl
      · cases e
    | _ => cases hf

theorem avEq_sound : ∀ (n : Nat) (x y : AV), avEq n x y = true → x = y
  | 0, x, y, h => by simp [avEq] at h
  | n + 1, x, y, h => by
    have lst : ∀ (a b : List AV), (Nat.beq a.length b.length && (a.zip b).all fun p => avEq n p.1 p.2) = true → a = b := by
      intro a b hab
      simp only [Bool.and_eq_true] at hab
      have hl := Nat.eq_of_beq_eq_true hab.1
      refine List.ext_getElem hl fun i h1 h2 => ?_
      have hm : (a[i], b[i]) ∈ a.zip b := by
        rw [List.mem_iff_getElem]
        exact ⟨i, by simp; omega, by simp⟩
      exact avEq_sound n _ _ (List.all_eq_true.1 hab.2 _ hm)
    unfold avEq at h
    split at h
    all_goals first
      | rfl
      | (cases h; done)
      | skip
    · rw [eq_of_beq h]
    · simp only [Bool.and_eq_true, decide_eq_true_eq] at h; rw [h.1, eqI_sound h.2]
    · simp only [Bool.and_eq_true, decide_eq_true_eq] at h; rw [h.1, Nat.eq_of_beq_eq_true h.2]
    · rw [of_decide_eq_true h]
    · rename_i s s'
      simp only [BStr.beq, Bool.and_eq_true] at h
      have h1 := Nat.eq_of_beq_eq_true h.1
      have h2 := Nat.eq_of_beq_eq_true h.2
      cases s; cases s'; simp at h1 h2; rw [h1, h2]
    · rw [lst _ _ h]
    · rw [lst _ _ h]
    · simp only [Bool.and_eq_true] at h; rw [Nat.eq_of_beq_eq_true h.1, Nat.eq_of_beq_eq_true h.2]
    · simp only [Bool.and_eq_true, decide_eq_true_eq] at h
      rw [Nat.eq_of_beq_eq_true h.1.1.1.1, Nat.eq_of_beq_eq_true h.1.1.1.2, Nat.eq_of_beq_eq_true h.1.1.2, Nat.eq_of_beq_eq_true h.1.2, h.2]
    · simp only [Bool.and_assoc] at h
      simp only [Bool.and_eq_true (_ == _)] at h
      rw [eq_of_beq h.1, lst _ _ h.2]
    · rw [Bool.and_assoc, Bool.and_assoc, Bool.and_eq_true, Bool.and_eq_true] at h
      rw [eq_of_beq h.1, Nat.eq_of_beq_eq_true h.2.1, lst _ _ h.2.2]
    · simp only [Bool.and_eq_true] at h; rw [Nat.eq_of_beq_eq_true h.1, avEq_sound n _ _ h.2]
    · rw [Nat.eq_of_beq_eq_true h]
    · rw [Nat.eq_of_beq_eq_true h]
end Go.Proofs.YtmadknpaljaecaaGreatDoor.Ev
namespace Go.Proofs.YtmadknpaljaecaaGreatDoor.Ev
open Go
set_option linter.unusedVariables false
set_option linter.unusedSimpArgs false
set_option linter.unusedSectionVars false

/-! what surely runs before -/
theorem befs_split : ∀ (l : List Oper) (acc : List (List Nat)), ∃ ext, befs l acc = acc ++ ext ∧ ext.length = l.length
  | [], acc => ⟨[], by simp [befs], rfl⟩
  | o :: r, acc => by
    simp only [befs]
    obtain ⟨ext, h1, h2⟩ := befs_split r (acc ++ [direct o ++ flat2 ((direct o).map fun j => acc[j]?.getD [])])
    exact ⟨_ :: ext, by rw [h1]; simp; rfl, by simp [h2]⟩

theorem befs_get : ∀ (l : List Oper) (acc : List (List Nat)) (i : Nat) (o : Oper), l[i]? = some o →
    (befs l acc)[acc.length + i]? = some (direct o ++ flat2 ((direct o).map fun j => ((befs l acc).take (acc.length + i))[j]?.getD []))
  | [], acc, i, o, h => by simp at h
  | p :: r, acc, 0, o, h => by
    simp at h; subst h
    simp only [befs]
    obtain ⟨ext, h1, h2⟩ := befs_split r (acc ++ [direct p ++ flat2 ((direct p).map fun j => acc[j]?.getD [])])
    rw [h1]
    simp
  | p :: r, acc, i + 1, o, h => by
    simp only [List.getElem?_cons_succ] at h
    have := befs_get r (acc ++ [direct p ++ flat2 ((direct p).map fun j => acc[j]?.getD [])]) i o h
    simp only [befs]
    simp only [List.length_append, List.length_singleton] at this
    rw [show acc.length + (i + 1) = acc.length + 1 + i by omega]
    exact this

theorem mem_flat2 : ∀ {l : List (List Nat)} {x : Nat}, x ∈ flat2 l → ∃ a ∈ l, x ∈ a
  | [], x, h => by simp [flat2] at h
  | a :: r, x, h => by
    simp only [flat2, List.mem_append] at h
    rcases h with h | h
    · exact ⟨a, by simp, h⟩
    · obtain ⟨b, h1, h2⟩ := mem_flat2 h; exact ⟨b, by simp [h1], h2⟩

theorem hasN_iff {l : List Nat} {n : Nat} : hasN l n = true ↔ n ∈ l := by
  unfold hasN
  rw [List.any_eq_true]
  constructor
  · rintro ⟨x, hx, he⟩
    have := Nat.eq_of_beq_eq_true he
    subst this; exact hx
  · intro h; exact ⟨n, h, by simp⟩

/-- a set of operations that has all that must come before -/
def Closed (ops : List Oper) (L : Nat → Prop) : Prop := ∀ i o, ops[i]? = some o → L i → ∀ j ∈ direct o, L j

theorem bef_listed {ops : List Oper} {L : Nat → Prop} (hL : Closed ops L) : ∀ (i : Nat) (o : Oper), ops[i]? = some o → (∀ j ∈ direct o, L j) → ∀ j, befOf (befs ops []) j i = true → L j := by
  intro i
  induction i using Nat.strongRecOn with
  | _ i ih =>
    intro o ho hd j hj
    unfold befOf at hj
    rw [hasN_iff] at hj
    have hg := befs_get ops [] i o ho
    simp only [List.length_nil, Nat.zero_add] at hg
    rw [hg] at hj
    simp only [Option.getD_some, List.mem_append] at hj
    rcases hj with hj | hj
    · exact hd j hj
    · obtain ⟨a, ha, hja⟩ := mem_flat2 hj
      simp only [List.mem_map] at ha
      obtain ⟨k, hk, rfl⟩ := ha
      rw [List.getElem?_take] at hja
      split at hja
      · rename_i hki
        cases hok : ops[k]? with
        | none =>
          have : (befs ops [])[k]? = none := by
            obtain ⟨ext, h1, h2⟩ := befs_split ops []
            rw [h1]
            simp only [List.nil_append]
            rw [List.getElem?_eq_none]
            rw [h2]; exact List.getElem?_eq_none_iff.1 hok
          rw [this] at hja; simp at hja
        | some ok =>
          exact ih k hki ok hok (fun j hj => hL k ok hok (hd k hk) j hj) j (by unfold befOf; rw [hasN_iff]; exact hja)
      · simp at hja

theorem backs_get : ∀ (l : List Oper) (k : Nat), backs l k = true → ∀ i o, l[i]? = some o → ∀ j ∈ direct o, j < k + i
  | [], k, _, i, o, h => by simp at h
  | p :: r, k, hb, 0, o, h => by
    simp at h; subst h
    simp only [backs, Bool.and_eq_true] at hb
    intro j hj
    have := List.all_eq_true.1 hb.1 j hj
    rw [Nat.blt_eq] at this
    omega
  | p :: r, k, hb, i + 1, o, h => by
    simp only [backs, Bool.and_eq_true] at hb
    intro j hj
    have := backs_get r (k + 1) hb.2 i o (by simpa using h) j hj
    omega

/-! pairs -/
theorem pairsOk_get {pur : Nat → Bool} {bs : List (List Nat)} {i : Nat} {o : XOper} : ∀ (l : List XOper) (k : Nat), pairsOk pur bs i o l k = true → ∀ j p, l[j]? = some p → sameDst o p = false ∧ pairOk pur bs i (k + j) o p = true
  | [], k, _, j, p, h => by simp at h
  | q :: r, k, hb, 0, p, h => by
    simp at h; subst h
    simp only [pairsOk, Bool.and_eq_true, Bool.not_eq_true'] at hb
    exact ⟨hb.1.1, hb.1.2⟩
  | q :: r, k, hb, j + 1, p, h => by
    simp only [pairsOk, Bool.and_eq_true] at hb
    have := pairsOk_get r (k + 1) hb.2 j p (by simpa using h)
    rw [show k + (j + 1) = k + 1 + j by omega]
    exact this
theorem allPairs_get {pur : Nat → Bool} {bs : List (List Nat)} : ∀ (l : List XOper) (k : Nat), allPairs pur bs l k = true → ∀ i j o p, i < j → l[i]? = some o → l[j]? = some p → sameDst o p = false ∧ pairOk pur bs (k + i) (k + j) o p = true
  | [], k, _, i, j, o, p, _, h, _ => by simp at h
  | q :: r, k, hb, 0, j, o, p, hij, h, h' => by
    simp at h; subst h
    simp only [allPairs, Bool.and_eq_true] at hb
    obtain ⟨j', rfl⟩ : ∃ j', j = j' + 1 := ⟨j - 1, by omega⟩
    have := pairsOk_get r (k + 1) hb.1 j' p (by simpa using h')
    rw [show k + (j' + 1) = k + 1 + j' by omega]
    exact this
  | q :: r, k, hb, i + 1, j, o, p, hij, h, h' => by
    simp only [allPairs, Bool.and_eq_true] at hb
    obtain ⟨j', rfl⟩ : ∃ j', j = j' + 1 := ⟨j - 1, by omega⟩
    have := allPairs_get r (k + 1) hb.2 i j' o p (by omega) (by simpa using h) (by simpa using h')
    rw [show k + (i + 1) = k + 1 + i by omega, show k + (j' + 1) = k + 1 + j' by omega]
    exact this

/-! how many writers -/
theorem cntW_mono {pur : Nat → Bool} {s s' : Nat → Bool} : ∀ (l : List XOper) (k : Nat), (∀ i o, l[i]? = some o → wrS pur o.op = true → s (k + i) = true → s' (k + i) = true) → cntW pur s l k ≤ cntW pur s' l k
  | [], k, _ => by simp [cntW]
  | o :: r, k, h => by
    simp only [cntW]
    have h1 := cntW_mono r (k + 1) fun i p hp hw hs => by
      have := h (i + 1) p (by simpa using hp) hw
      rw [show k + (i + 1) = k + 1 + i by omega] at this
      exact this hs
    have h0 := h 0 o rfl
    simp only [Nat.add_zero] at h0
    cases hw : wrS pur o.op with
    | false => simp; exact h1
    | true =>
      cases hs : s k with
      | false => cases s' k <;> simp <;> omega
      | true => rw [h0 hw hs]; simp; exact h1
theorem cntW_congr {pur : Nat → Bool} {s s' : Nat → Bool} (l : List XOper) (k : Nat) (h : ∀ i o, l[i]? = some o → wrS pur o.op = true → s (k + i) = s' (k + i)) : cntW pur s l k = cntW pur s' l k :=
  Nat.le_antisymm (cntW_mono l k fun i o ho hw hs => by rw [← h i o ho hw]; exact hs) (cntW_mono l k fun i o ho hw hs => by rw [h i o ho hw]; exact hs)
/-- one more -/
theorem cntW_add {pur : Nat → Bool} {s s' : Nat → Bool} : ∀ (l : List XOper) (k : Nat) (m : Nat) (o : XOper), l[m]? = some o → s (k + m) = false → s' (k + m) = true → (∀ i, i ≠ k + m → s' i = s i) →
    cntW pur s' l k = cntW pur s l k + (bif wrS pur o.op then 1 else 0)
  | [], k, m, o, h, _, _, _ => by simp at h
  | p :: r, k, 0, o, h, h0, h1, he => by
    simp at h; subst h
    simp only [cntW, Nat.add_zero] at h0 h1 ⊢
    have : cntW pur s' r (k + 1) = cntW pur s r (k + 1) := cntW_congr r (k + 1) fun i _ _ _ => he _ (by omega)
    rw [this, h0, h1]
    simp
  | p :: r, k, m + 1, o, h, h0, h1, he => by
    simp only [cntW]
    have := cntW_add (pur := pur) (s := s) (s' := s') r (k + 1) m o (by simpa using h) (by rw [show k + 1 + m = k + (m + 1) by omega]; exact h0) (by rw [show k + 1 + m = k + (m + 1) by omega]; exact h1) (fun i hi => he i (by omega))
    rw [this, he k (by omega)]
    omega

/-! how much is left -/
def unl : List Bool → Nat
  | [] => 0
  | b :: r => unl r + (bif b then 0 else 1)
theorem unl_set : ∀ (l : List Bool) (i : Nat), l[i]? = some false → unl (l.set i true) + 1 = unl l
  | [], i, h => by simp at h
  | b :: r, 0, h => by simp at h; subst h; simp [unl]
  | b :: r, i + 1, h => by
    have := unl_set r i (by simpa using h)
    simp only [List.set_cons_succ, unl]; omega
theorem unl_zero : ∀ (l : List Bool), unl l = 0 → ∀ (i : Nat) (b : Bool), l[i]? = some b → b = true
  | [], _, i, b, h => by simp at h
  | c :: r, hz, 0, b, h => by
    simp at h; subst h
    cases c
    · simp [unl] at hz
    · rfl
  | c :: r, hz, i + 1, b, h => by
    simp only [unl] at hz
    exact unl_zero r (by omega) i b (by simpa using h)
theorem unl_rep : ∀ n, unl (List.replicate n false) = n
  | 0 => rfl
  | n + 1 => by simp [List.replicate_succ, unl, unl_rep n]

/-! the run in the order of the text -/
def nextC (d : DI) (c : Nat) : Nat := match d with
  | .wr => c + 1
  | _ => c
def Tr (call : CallT) (C : Ctx) (Hs : List Heap) (RS : Rec → Prop) : List (XOper × DI) → T AV → Nat → List AV → T AV → Prop
  | [], env, c, vs, envF => vs = [] ∧ env = envF ∧ c + 1 = Hs.length
  | p :: r, env, c, vs, envF => ∃ v vs' b, vs = v :: vs' ∧ wanted env p.1.grd = some b ∧
      Tr call C Hs RS r (put env p.1.dst v) (nextC p.2 c) vs' envF ∧
      (b = false → v = .undef ∧ (p.2 = .wr → Hs[c + 1]? = Hs[c]?)) ∧
      (b = true → ∃ h h', Hs[c]? = some h ∧ xop call (eval C env) h p.1.op = .ok v h' ∧ (p.2 = .wr → Hs[c + 1]? = some h') ∧ ∀ lo hi, p.2 = .rd lo hi → RS ⟨p.1.op, env, lo, hi, v⟩)

theorem runD_mono {call : CallT} {C : Ctx} : ∀ (l : List (XOper × DI)) (env : T AV) (h : Heap) (hs : List Heap) (rs : List Rec) {envF hsF rsF}, runD call C l env h hs rs = some (envF, hsF, rsF) →
    (∃ pre, hsF = pre ++ (h :: hs)) ∧ (∃ pre, rsF = pre ++ rs)
  | [], env, h, hs, rs, envF, hsF, rsF, hr => by simp [runD] at hr; obtain ⟨rfl, rfl, rfl⟩ := hr; exact ⟨⟨[], rfl⟩, ⟨[], rfl⟩⟩
  | p :: r, env, h, hs, rs, envF, hsF, rsF, hr => by
    simp only [runD] at hr
    split at hr
    · split at hr
      · split at hr
        · obtain ⟨⟨pre, h1⟩, h2⟩ := runD_mono r _ _ _ _ hr
          exact ⟨⟨pre ++ [_], by rw [h1]; simp; rfl⟩, h2⟩
        · obtain ⟨h1, ⟨pre, h2⟩⟩ := runD_mono r _ _ _ _ hr
          exact ⟨h1, ⟨pre ++ [_], by rw [h2]; simp; rfl⟩⟩
        · exact runD_mono r _ _ _ _ hr
      · cases hr
    · split at hr
      · obtain ⟨⟨pre, h1⟩, h2⟩ := runD_mono r _ _ _ _ hr
        exact ⟨⟨pre ++ [_], by rw [h1]; simp; rfl⟩, h2⟩
      · exact runD_mono r _ _ _ _ hr
    · cases hr
end Go.Proofs.YtmadknpaljaecaaGreatDoor.Ev
namespace Go.Proofs.YtmadknpaljaecaaGreatDoor.Ev
open Go
set_option linter.unusedVariables false
set_option linter.unusedSimpArgs false
set_option linter.unusedSectionVars false

theorem rev_at {hsF pre : List Heap} {h : Heap} {hs : List Heap} (e : hsF = pre ++ (h :: hs)) : hsF.reverse[hs.length]? = some h := by
  subst e
  simp only [List.reverse_append, List.reverse_cons, List.append_assoc]
  rw [List.getElem?_append_right (by simp)]
  simp

theorem runD_tr {call : CallT} {C : Ctx} {envF : T AV} {hsF : List Heap} {rsF : List Rec} : ∀ (l : List (XOper × DI)) (env : T AV) (h : Heap) (hs : List Heap) (rs : List Rec), runD call C l env h hs rs = some (envF, hsF, rsF) →
    ∃ vs, Tr call C hsF.reverse (fun r => r ∈ rsF) l env hs.length vs envF
  | [], env, h, hs, rs, hr => by
    simp [runD] at hr
    obtain ⟨rfl, rfl, rfl⟩ := hr
    exact ⟨[], rfl, rfl, by simp⟩
  | p :: r, env, h, hs, rs, hr => by
    have hm := runD_mono _ _ _ _ _ hr
    obtain ⟨⟨pre, hpre⟩, _⟩ := hm
    have hcur := rev_at hpre
    simp only [runD] at hr
    split at hr
    · rename_i hw
      split at hr
      · rename_i v h' he
        split at hr
        · rename_i hd
          obtain ⟨vs, htr⟩ := runD_tr r _ _ _ _ hr
          obtain ⟨⟨pre2, hpre2⟩, _⟩ := runD_mono _ _ _ _ _ hr
          have hnext := rev_at hpre2
          refine ⟨v :: vs, v, vs, true, rfl, hw, by rw [hd]; exact htr, fun e => (by cases e), fun _ => ⟨h, h', hcur, he, fun _ => hnext, fun lo hi e => by rw [hd] at e; cases e⟩⟩
        · rename_i lo hi hd
          obtain ⟨vs, htr⟩ := runD_tr r _ _ _ _ hr
          obtain ⟨_, ⟨pre2, hpre2⟩⟩ := runD_mono _ _ _ _ _ hr
          refine ⟨v :: vs, v, vs, true, rfl, hw, by rw [hd]; exact htr, fun e => (by cases e), fun _ => ⟨h, h', hcur, he, fun e => (by rw [hd] at e; cases e), fun lo' hi' e => ?_⟩⟩
          rw [hd] at e; cases e
          rw [hpre2]; simp
        · rename_i hd
          obtain ⟨vs, htr⟩ := runD_tr r _ _ _ _ hr
          exact ⟨v :: vs, v, vs, true, rfl, hw, by rw [hd]; exact htr, fun e => (by cases e), fun _ => ⟨h, h', hcur, he, fun e => (by rw [hd] at e; cases e), fun lo' hi' e => by rw [hd] at e; cases e⟩⟩
      · cases hr
    · rename_i hw
      split at hr
      · rename_i hd
        obtain ⟨vs, htr⟩ := runD_tr r _ _ _ _ hr
        obtain ⟨⟨pre2, hpre2⟩, _⟩ := runD_mono _ _ _ _ _ hr
        have hnext := rev_at hpre2
        exact ⟨.undef :: vs, .undef, vs, false, rfl, hw, by rw [hd]; exact htr, fun _ => ⟨rfl, fun _ => by rw [hcur]; exact hnext⟩, fun e => (by cases e)⟩
      · rename_i hd
        obtain ⟨vs, htr⟩ := runD_tr r _ _ _ _ hr
        refine ⟨.undef :: vs, .undef, vs, false, rfl, hw, ?_, fun _ => ⟨rfl, fun e => absurd e hd⟩, fun e => (by cases e)⟩
        have : nextC p.2 hs.length = hs.length := by
          cases e : p.2 with
          | wr => exact absurd e hd
          | rd => rfl
          | free => rfl
        rw [this]
        exact htr
    · cases hr

/-- an operation of the run: what was before it, what it gave -/
structure At (call : CallT) (C : Ctx) (Hs : List Heap) (RS : Rec → Prop) (p : XOper × DI) (env : T AV) (c : Nat) (v : AV) : Prop where
  ex : ∃ b, wanted env p.1.grd = some b ∧ (b = false → v = .undef ∧ (p.2 = .wr → Hs[c + 1]? = Hs[c]?)) ∧
      (b = true → ∃ h h', Hs[c]? = some h ∧ xop call (eval C env) h p.1.op = .ok v h' ∧ (p.2 = .wr → Hs[c + 1]? = some h') ∧ ∀ lo hi, p.2 = .rd lo hi → RS ⟨p.1.op, env, lo, hi, v⟩)

/-- how many writers are in front -/
def wrN : List (XOper × DI) → Nat → Nat
  | _, 0 => 0
  | [], _ + 1 => 0
  | p :: r, n + 1 => (match p.2 with | .wr => 1 | _ => 0) + wrN r n

theorem tr_at {call : CallT} {C : Ctx} {Hs : List Heap} {RS : Rec → Prop} {envF : T AV} : ∀ (l : List (XOper × DI)) (env : T AV) (c : Nat) (vs : List AV), Tr call C Hs RS l env c vs envF →
    vs.length = l.length ∧ c + wrN l l.length + 1 = Hs.length ∧
    (∀ (dist : ∀ (i j : Nat) (p q : XOper × DI) (d : Nat), i < j → l[i]? = some p → l[j]? = some q → p.1.dst = some d → q.1.dst ≠ some d),
      (∀ (i : Nat) (p : XOper × DI) (v : AV), l[i]? = some p → vs[i]? = some v → ∃ ei : T AV, At call C Hs RS p ei (c + wrN l i) v ∧
        (∀ t, (∀ (j : Nat) (q : XOper × DI), j < i → l[j]? = some q → q.1.dst ≠ some t) → ei.at t = env.at t) ∧ (∀ (t j : Nat) (q : XOper × DI) (w : AV), j < i → l[j]? = some q → vs[j]? = some w → q.1.dst = some t → ei.at t = w)) ∧
      (∀ t, (∀ (j : Nat) (q : XOper × DI), l[j]? = some q → q.1.dst ≠ some t) → envF.at t = env.at t) ∧ (∀ (t j : Nat) (q : XOper × DI) (w : AV), l[j]? = some q → vs[j]? = some w → q.1.dst = some t → envF.at t = w))
  | [], env, c, vs, h => by
    obtain ⟨rfl, rfl, h3⟩ := h
    exact ⟨rfl, by simpa [wrN] using h3, fun _ => ⟨fun i p v h => (by simp at h), fun t _ => rfl, fun t j q w h => (by simp at h)⟩⟩
  | p :: r, env, c, vs, h => by
    obtain ⟨v, vs', b, rfl, hw, htr, hf, ht⟩ := h
    obtain ⟨i1, i2, i3⟩ := tr_at r _ _ _ htr
    have hc : nextC p.2 c = c + (match p.2 with | .wr => 1 | _ => 0) := by cases p.2 <;> rfl
    refine ⟨by simp [i1], ?_, fun dist => ?_⟩
    · rw [hc] at i2; simp only [List.length_cons, wrN]; omega
    · obtain ⟨j1, j2, j3⟩ := i3 fun i j q q' d hij hq hq' hd => dist (i + 1) (j + 1) q q' d (by omega) (by simpa using hq) (by simpa using hq') hd
      have later : ∀ (t j : Nat) (q : XOper × DI), r[j]? = some q → q.1.dst = some t → p.1.dst ≠ some t := fun t j q hq hd hp => dist 0 (j + 1) p q t (by omega) rfl (by simpa using hq) hp hd
      have keep : ∀ t, p.1.dst ≠ some t → (put env p.1.dst v).at t = env.at t := fun t hne => by rw [put_at]; simp [hne]
      have new : ∀ t, p.1.dst = some t → (put env p.1.dst v).at t = v := fun t he => by rw [put_at]; simp [he]
      refine ⟨fun i q w hq hv => ?_, fun t hno => ?_, fun t j q w hq hv hd => ?_⟩
      · cases i with
        | zero =>
          simp at hq hv; subst hq; subst hv
          exact ⟨env, ⟨b, hw, by simpa [wrN] using hf, by simpa [wrN] using ht⟩, fun t _ => rfl, fun t j q w hj => absurd hj (Nat.not_lt_zero _)⟩
        | succ i =>
          simp at hq hv
          obtain ⟨ei, k1, k2, k3⟩ := j1 i q w hq hv
          refine ⟨ei, ?_, fun t hno => ?_, fun t j q' w' hj hq' hv' hd => ?_⟩
          · rw [hc] at k1
            simpa [wrN, Nat.add_assoc] using k1
          · rw [k2 t fun j q hj hq => hno (j + 1) q (by omega) (by simpa using hq)]
            exact keep t (hno 0 p (by omega) rfl)
          · cases j with
            | zero =>
              simp at hq' hv'; subst hq'; subst hv'
              rw [k2 t fun j q hj hq hd2 => later t j q hq hd2 hd]
              exact new t hd
            | succ j => exact k3 t j q' w' (by omega) (by simpa using hq') (by simpa using hv') hd
      · rw [j2 t fun j q hq => hno (j + 1) q (by simpa using hq)]
        exact keep t (hno 0 p rfl)
      · cases j with
        | zero =>
          simp at hq hv; subst hq; subst hv
          rw [j2 t fun j q hq hd2 => later t j q hq hd2 hd]
          exact new t hd
        | succ j => exact j3 t j q w (by simpa using hq) (by simpa using hv) hd
end Go.Proofs.YtmadknpaljaecaaGreatDoor.Ev
namespace Go.Proofs.YtmadknpaljaecaaGreatDoor.Ev
open Go
set_option linter.unusedVariables false
set_option linter.unusedSimpArgs false
set_option linter.unusedSectionVars false

theorem withDI_get {pur : Nat → Bool} {bs : List (List Nat)} {xs : List XOper} : ∀ (ys : List XOper) (k i : Nat), (withDI pur bs xs ys k)[i]? = (ys[i]?).map fun o => (o, diOf pur bs xs (k + i) o)
  | [], k, i => by simp [withDI]
  | o :: r, k, 0 => by simp [withDI]
  | o :: r, k, i + 1 => by
    simp only [withDI, List.getElem?_cons_succ]
    rw [withDI_get r (k + 1) i, show k + 1 + i = k + (i + 1) by omega]
theorem withDI_length {pur : Nat → Bool} {bs : List (List Nat)} {xs : List XOper} : ∀ (ys : List XOper) (k : Nat), (withDI pur bs xs ys k).length = ys.length
  | [], k => rfl
  | o :: r, k => by simp [withDI, withDI_length r]

theorem cntW_none {pur : Nat → Bool} {s : Nat → Bool} : ∀ (l : List XOper) (k : Nat), (∀ i, k ≤ i → s i = false) → cntW pur s l k = 0
  | [], k, _ => rfl
  | o :: r, k, h => by
    simp only [cntW]
    rw [cntW_none r (k + 1) fun i hi => h i (by omega), h k (Nat.le_refl _)]
    simp

theorem diOf_wr {pur : Nat → Bool} {bs : List (List Nat)} {xs : List XOper} {i : Nat} {o : XOper} : diOf pur bs xs i o = .wr ↔ wrS pur o.op = true := by
  unfold diOf
  cases h : wrS pur o.op
  · simp only [cond_false]
    cases freeS o.op <;> simp
  · simp

theorem wrN_cnt {pur : Nat → Bool} {bs : List (List Nat)} {xs : List XOper} : ∀ (ys : List XOper) (k n : Nat), wrN (withDI pur bs xs ys k) n = cntW pur (fun j => decide (j < k + n)) ys k
  | ys, k, 0 => by
    rw [cntW_none ys k fun i hi => by simp; omega]
    cases withDI pur bs xs ys k <;> rfl
  | [], k, n + 1 => rfl
  | o :: r, k, n + 1 => by
    simp only [withDI, wrN, cntW]
    rw [wrN_cnt r (k + 1) n, show k + 1 + n = k + (n + 1) by omega]
    have hk : decide (k < k + (n + 1)) = true := by simp
    rw [hk, Bool.and_true]
    cases h : wrS pur o.op with
    | true => rw [diOf_wr.2 h]; simp; omega
    | false =>
      have : diOf pur bs xs k o ≠ .wr := fun e => by rw [diOf_wr.1 e] at h; cases h
      cases hd : diOf pur bs xs k o with
      | wr => exact absurd hd this
      | rd _ _ => simp
      | free => simp

theorem wanted_congr {env : T AV} {f : Nat → AV} {g : Option (Nat × Bool)} (h : ∀ t b, g = some (t, b) → f t = env.at t) {E : Env} {W : World} {nt : Nat} {ops : Array Oper} {o : Oper} {a : Act} (he : EnvR E W nt f a) (hg : xgrd ops o.guard = some g) {b : Bool} (hw : wanted env g = some b) :
    Region.wanted o (yielded ops a.tmps) = b := by
  unfold xgrd at hg
  unfold Region.wanted
  split at hg
  · rename_i e; cases hg; rw [e]
    simp only [wanted, Option.some.injEq] at hw
    exact hw
  · rename_i j want e
    rw [e]
    split at hg
    · rename_i t ht
      cases hg
      simp only [wanted] at hw
      have hv := he.vals t
      rw [h t want rfl] at hv
      simp only
      have hy : yielded ops a.tmps j = (match a.tmps[t]? with | some (.bool b) => some b | _ => none) := by
        unfold yielded; rw [ht]; rfl
      rw [hy]
      split at hw
      · rename_i x ex
        cases hw
        rw [ex] at hv
        have := hv.bool_inv
        rw [Array.getD_eq_getD_getElem?] at this
        cases ht2 : a.tmps[t]? with
        | none => rw [ht2] at this; simp [undef] at this
        | some z =>
          rw [ht2] at this
          simp at this
          subst this
          cases x <;> cases want <;> rfl
      · rename_i ex
        cases hw
        rw [ex] at hv
        rw [Array.getD_eq_getD_getElem?] at hv
        cases ht2 : a.tmps[t]? with
        | none => rfl
        | some z =>
          rw [ht2] at hv
          simp at hv
          generalize hz : z = z' at hv
          cases hv
          rfl
      · cases hw
    · cases hg

theorem direct_mem {o : Oper} {e : Edge} (he : e ∈ o.after) (hb : Region.binds .any e = true) : e.on ∈ direct o := by
  unfold direct
  simp only [List.mem_map, List.mem_filter]
  exact ⟨e, ⟨by simpa using he, hb⟩, rfl⟩
theorem direct_edge {o : Oper} {j : Nat} (h : j ∈ direct o) : ∃ e ∈ o.after, Region.binds .any e = true ∧ e.on = j := by
  unfold direct at h
  simp only [List.mem_map, List.mem_filter] at h
  obtain ⟨e, ⟨h1, h2⟩, h3⟩ := h
  exact ⟨e, by simpa using h1, h2, h3⟩

theorem sameDst_ne {o p : XOper} (h : sameDst o p = false) {d : Nat} (ho : o.dst = some d) : p.dst ≠ some d := by
  intro hp
  unfold sameDst at h
  rw [ho, hp] at h
  simp at h
theorem dstIn_of {o : XOper} {l : List Nat} {d : Nat} (ho : o.dst = some d) (hd : d ∈ l) : dstIn o l = true := by
  unfold dstIn; rw [ho]; exact hasN_iff.2 hd

theorem draw_ok {P : Program} {C : Ctx} {pur : Nat → Bool} (hmix : P.follows .mixedOrders = true) : DrawOk P C pur := by
  intro call hcall hpure nt id ops xs hx hback hpairs E W env h a ht st
  unfold xdraw at ht ⊢
  cases hrun : runD call C (withDI pur (befs ops.toList []) xs xs 0) env h [] [] with
  | none => rw [hrun] at ht; exact ht.elim
  | some R =>
    obtain ⟨env', hs, rs⟩ := R
    rw [hrun] at ht
    simp only at ht ⊢
    cases hag : rs.all (again call C hs.reverse) with
    | false => rw [hag] at ht; exact ht.elim
    | true =>
      rw [hag] at ht
      simp only [cond_true] at ht ⊢
      cases hs with
      | nil => exact ht.elim
      | cons hF hrest =>
        simp only
        have hlen := (mapO_get hx).1
        have hNs : ops.toList.length = ops.size := Array.length_toList
        obtain ⟨vs, htr⟩ := runD_tr _ _ _ _ _ hrun
        simp only [List.length_nil] at htr
        obtain ⟨hvl, htot, hat⟩ := tr_at _ _ _ _ htr
        have hll : (withDI pur (befs ops.toList []) xs xs 0).length = xs.length := withDI_length ..
        generalize hl : withDI pur (befs ops.toList []) xs xs 0 = l at htr hvl htot hat hll
        have lget : ∀ i, l[i]? = (xs[i]?).map fun o => (o, diOf pur (befs ops.toList []) xs i o) := fun i => by
          rw [← hl, withDI_get, Nat.zero_add]
        have wrn : ∀ n, wrN l n = cntW pur (fun j => decide (j < n)) xs 0 := fun n => by
          rw [← hl, wrN_cnt, Nat.zero_add]
        have pair := fun i j o p hij ho hp => allPairs_get (pur := pur) (bs := befs ops.toList []) xs 0 hpairs i j o p hij ho hp
        simp only [Nat.zero_add] at pair
        have dist : ∀ (i j : Nat) (p q : XOper × DI) (d : Nat), i < j → l[i]? = some p → l[j]? = some q → p.1.dst = some d → q.1.dst ≠ some d := by
          intro i j p q d hij hp hq hd
          rw [lget] at hp hq
          obtain ⟨o, ho, rfl⟩ := Option.map_eq_some_iff.1 hp
          obtain ⟨o', ho', rfl⟩ := Option.map_eq_some_iff.1 hq
          exact sameDst_ne (pair i j o o' hij ho ho').1 hd
        obtain ⟨hops, hfin1, hfin2⟩ := hat dist
        let Hs : List Heap := (hF :: hrest).reverse
        let Q := Post E W nt a (.ok .nrm env' hF)
        refine wp_region_any hmix ?_
        -- the invariant
        let Inv (L : Nat → Bool) (a' : Act) (W' : World) : Prop := ∃ E', Stp E W E' W' ∧ (∃ hh, Hs[cntW pur L xs 0]? = some hh ∧ HR E' W' hh) ∧
          (∃ f : Nat → AV, EnvR E' W' nt f a' ∧ (∀ (t j : Nat) (q : XOper × DI) (v : AV), L j = true → l[j]? = some q → vs[j]? = some v → q.1.dst = some t → f t = v) ∧
            (∀ t, (∀ (j : Nat) (q : XOper × DI), L j = true → l[j]? = some q → q.1.dst ≠ some t) → f t = env.at t)) ∧ a'.defers = a.defers ∧ GlobR E' W' C
        have main : ∀ (fuel : Nat) (listed : Array Bool) (a' : Act) (W' : World), listed.size = ops.size → Closed ops.toList (fun i => listed.getD i false = true) → unl listed.toList ≤ fuel →
            Inv (fun j => listed.getD j false) a' W' → wpAny P .any ops Q fuel listed a' W' := by
          -- all are done
          have done : ∀ (listed : Array Bool) (a' : Act) (W' : World), listed.size = ops.size → (∀ i, i < ops.size → listed.getD i false = true) → Inv (fun j => listed.getD j false) a' W' → Q .normal a' W' := by
            intro listed a' W' hsz hall hinv
            obtain ⟨E', h1, ⟨hh, h2, h3⟩, ⟨f, h4, h5, h6⟩, h7, h8⟩ := hinv
            refine ⟨E', h1, h7, ?_, rfl, ?_⟩
            · have hc : cntW pur (fun j => listed.getD j false) xs 0 = cntW pur (fun j => decide (j < l.length)) xs 0 :=
                cntW_congr xs 0 fun i o ho _ => by
                  have hi : i < ops.size := by have := (List.getElem?_eq_some_iff.1 ho).1; omega
                  simp only [Nat.zero_add]
                  rw [hall i hi]; simp; omega
              rw [hc, ← wrn] at h2
              have hlast : Hs[wrN l l.length]? = some hF := by
                have : wrN l l.length = hrest.length := by
                  have := htot
                  simp at this
                  omega
                rw [this]
                show (hF :: hrest).reverse[hrest.length]? = some hF
                simp
              rw [hlast] at h2; cases h2
              exact h3
            · refine ⟨h4.size, fun t => ?_⟩
              have : f t = env'.at t := by
                by_cases hex : ∃ (j : Nat) (q : XOper × DI), l[j]? = some q ∧ q.1.dst = some t
                · obtain ⟨j, q, hq, hd⟩ := hex
                  have hjl : j < l.length := (List.getElem?_eq_some_iff.1 hq).1
                  have hjv : vs[j]? = some vs[j] := List.getElem?_eq_getElem (by omega)
                  rw [h5 t j q _ (hall j (by omega)) hq hjv hd, hfin2 t j q _ hq hjv hd]
                · have hno : ∀ (j : Nat) (q : XOper × DI), l[j]? = some q → q.1.dst ≠ some t := fun j q hq hd => hex ⟨j, q, hq, hd⟩
                  rw [h6 t fun j q _ hq => hno j q hq, hfin1 t hno]
              rw [← this]; exact h4.vals t
          intro fuel
          induction fuel with
          | zero =>
            intro listed a' W' hsz hcl hun hinv
            have hall : ∀ i, i < ops.size → listed.getD i false = true := fun i hi => by
              have hi' : i < listed.size := by omega
              have := unl_zero listed.toList (by omega) i listed[i] (by simp [hi'])
              simp [hi', this]
            refine ⟨?_, done listed a' W' hsz hall hinv⟩
            cases hr : Region.ready .any ops listed with
            | nil => rfl
            | cons i r =>
              have : i ∈ Region.ready .any ops listed := by rw [hr]; simp
              obtain ⟨h0, o, ho, _⟩ := mem_ready.1 this
              have hi : i < ops.size := (Array.getElem?_eq_some_iff.1 ho).1
              have h1 := hall i hi
              have hi' : i < listed.size := by omega
              simp [hi'] at h0 h1
              rw [h0] at h1; cases h1
          | succ fuel ih =>
            intro listed a' W' hsz hcl hun hinv
            refine ⟨fun hr => ?_, fun i hi => ?_⟩
            · refine done listed a' W' hsz (fun i hi => ?_) hinv
              -- the first that is not listed would be ready
              induction i using Nat.strongRecOn with
              | _ i ihi =>
                cases hli : listed.getD i false with
                | true => rfl
                | false =>
                  exfalso
                  have hi' : i < listed.size := by omega
                  have : i ∈ Region.ready .any ops listed := by
                    refine mem_ready.2 ⟨by simp [hi'] at hli ⊢; exact hli, ops[i], by simp [hi], fun e he hb => ?_⟩
                    have hlt := backs_get ops.toList 0 hback i ops[i] (by simp [hi]) e.on (direct_mem he hb)
                    exact ihi e.on (by omega) (by omega)
                  rw [hr] at this; cases this
            · obtain ⟨h0, o, ho, hafter⟩ := mem_ready.1 hi
              have hiN : i < ops.size := (Array.getElem?_eq_some_iff.1 ho).1
              have hil : i < listed.size := by omega
              have hLi : listed.getD i false = false := by simp [hil] at h0 ⊢; exact h0
              have hdir : ∀ j ∈ direct o, listed.getD j false = true := fun j hj => by
                obtain ⟨e, he, hb, rfl⟩ := direct_edge hj
                exact hafter e he hb
              have hoL : ops.toList[i]? = some o := by simpa using ho
              have hbef := bef_listed hcl i o hoL hdir
              -- what it is
              obtain ⟨x, hxi, hxo⟩ := (mapO_get hx).2 i o hoL
              obtain ⟨x1, x2, x3, x4⟩ := xoper_some hxo
              have hli : l[i]? = some (x, diOf pur (befs ops.toList []) xs i x) := by rw [lget, hxi]; rfl
              have hvi : vs[i]? = some vs[i] := List.getElem?_eq_getElem (by have := (List.getElem?_eq_some_iff.1 hli).1; omega)
              obtain ⟨ei, ⟨b, hw, hskip, hrunop⟩, henv0, henvv⟩ := hops i _ _ hli hvi
              generalize hv : vs[i] = v at hvi hskip hrunop
              obtain ⟨E', h1, ⟨hh, h2, h3⟩, ⟨f, h4, h5, h6⟩, h7, h8⟩ := hinv
              -- later ones are not listed when this must come before them
              have hnot : ∀ j oj, ops.toList[j]? = some oj → befOf (befs ops.toList []) i j = true → listed.getD j false = false := fun j oj hoj hb => by
                cases hlj : listed.getD j false with
                | false => rfl
                | true =>
                  have := bef_listed hcl j oj hoj (fun k hk => hcl j oj hoj hlj k hk) i hb
                  simp only [hLi] at this; cases this
              have opOf : ∀ (j : Nat) (q : XOper × DI), l[j]? = some q → ∃ oj, ops.toList[j]? = some oj ∧ xs[j]? = some q.1 := fun j q hq => by
                rw [lget] at hq
                obtain ⟨y, hy, rfl⟩ := Option.map_eq_some_iff.1 hq
                have hlt := (List.getElem?_eq_some_iff.1 hy).1
                exact ⟨ops.toList[j]'(by omega), List.getElem?_eq_getElem _, hy⟩
              -- what it looks at is the same
              have hsame : ∀ t ∈ readsO x, f t = ei.at t := by
                intro t htr'
                by_cases hex : ∃ (j : Nat) (q : XOper × DI), l[j]? = some q ∧ q.1.dst = some t
                · obtain ⟨j, q, hq, hd⟩ := hex
                  obtain ⟨oj, hoj, hxj⟩ := opOf j q hq
                  have hjl : j < l.length := (List.getElem?_eq_some_iff.1 hq).1
                  have hjv : vs[j]? = some vs[j] := List.getElem?_eq_getElem (by omega)
                  -- no other one has this place
                  have only : ∀ (k : Nat) (q' : XOper × DI), l[k]? = some q' → q'.1.dst = some t → k = j := fun k q' hq' hd' => by
                    rcases Nat.lt_trichotomy k j with hlt | he | hgt
                    · exact absurd hd (dist k j q' q t hlt hq' hq hd')
                    · exact he
                    · exact absurd hd' (dist j k q q' t hgt hq hq' hd)
                  rcases Nat.lt_trichotomy j i with hlt | he | hgt
                  · have hp := (pair j i q.1 x hlt hxj hxi).2
                    unfold pairOk at hp
                    simp only [Bool.or_eq_true, Bool.and_eq_true, Bool.not_eq_true'] at hp
                    rcases hp with hp | hp
                    · rw [h5 t j q _ (hbef j hp) hq hjv hd, henvv t j q _ hlt hq hjv hd]
                    · rw [dstIn_of hd htr'] at hp; cases hp.1.1
                  · subst he
                    rw [h6 t fun k q' hk hq' hd' => by
                      have := only k q' hq' hd'; subst this
                      simp only [hLi] at hk; cases hk]
                    rw [henv0 t fun k q' hk hq' hd' => by have := only k q' hq' hd'; omega]
                  · have hp := (pair i j x q.1 hgt hxi hxj).2
                    unfold pairOk at hp
                    simp only [Bool.or_eq_true, Bool.and_eq_true, Bool.not_eq_true'] at hp
                    rcases hp with hp | hp
                    · have hj0 := hnot j oj hoj hp
                      rw [h6 t fun k q' hk hq' hd' => by
                        have := only k q' hq' hd'; subst this
                        simp only [hj0] at hk; cases hk]
                      rw [henv0 t fun k q' hk hq' hd' => by have := only k q' hq' hd'; omega]
                    · rw [dstIn_of hd htr'] at hp; cases hp.1.2
                · have hno : ∀ (j : Nat) (q : XOper × DI), l[j]? = some q → q.1.dst ≠ some t := fun j q hq hd => hex ⟨j, q, hq, hd⟩
                  rw [h6 t fun j q _ hq => hno j q hq, henv0 t fun j q _ hq => hno j q hq]
              have hgrd : Region.wanted o (yielded ops a'.tmps) = b := wanted_congr (fun t b' hg => hsame t (by unfold readsO; rw [hg]; simp)) h4 x2 hw
              have hops' : ∀ hp2, xop call (evalF C f) hp2 x.op = xop call (eval C ei) hp2 x.op := fun hp2 => by
                rw [← evalF_at]
                exact xop_congr (ρ := evalF C f) (ρ' := evalF C ei.at) (fun _ => rfl) (fun _ => rfl) call fun t htr' => hsame t (by unfold readsO; split <;> simp [htr'])
              -- the writers that have run
              let c : Nat := cntW pur (fun j => listed.getD j false) xs 0
              have hci : wrN l i = cntW pur (fun j => decide (j < i)) xs 0 := wrn i
              have hwc : wrS pur x.op = true → wrN l i = c := by
                intro hwx
                rw [hci]
                refine cntW_congr xs 0 fun j y hy hwy => ?_
                simp only [Nat.zero_add]
                obtain ⟨oj, hoj⟩ : ∃ oj, ops.toList[j]? = some oj := by
                  have := (List.getElem?_eq_some_iff.1 hy).1
                  exact ⟨ops.toList[j]'(by omega), List.getElem?_eq_getElem _⟩
                rcases Nat.lt_trichotomy j i with hlt | he | hgt
                · have hp := (pair j i y x hlt hy hxi).2
                  unfold pairOk at hp
                  simp only [Bool.or_eq_true, Bool.and_eq_true, Bool.not_eq_true'] at hp
                  rcases hp with hp | hp
                  · rw [hbef j hp]; simp [hlt]
                  · rw [hwx, hwy] at hp; cases hp.2
                · subst he; rw [hLi]; simp
                · have hp := (pair i j x y hgt hxi hy).2
                  unfold pairOk at hp
                  simp only [Bool.or_eq_true, Bool.and_eq_true, Bool.not_eq_true'] at hp
                  rcases hp with hp | hp
                  · rw [hnot j oj hoj hp]; simp; omega
                  · rw [hwx, hwy] at hp; cases hp.2
              have hset : ∀ j, (listed.setIfInBounds i true).getD j false = if j = i then true else listed.getD j false := fun j => by
                by_cases hj : j = i
                · subst hj; simp [hil]
                · rw [if_neg hj]; simp [Array.getElem?_setIfInBounds_ne (Ne.symm hj)]
              have hcadd : cntW pur (fun j => (listed.setIfInBounds i true).getD j false) xs 0 = c + (bif wrS pur x.op then 1 else 0) :=
                cntW_add xs 0 i x hxi (by simp only [Nat.zero_add]; exact hLi) (by simp only [Nat.zero_add, hset]; simp) fun j hj => by
                  simp only [Nat.zero_add] at hj
                  simp only [hset, if_neg hj]
              -- go on
              have go : ∀ (E2 : Env) (W2 : World) (z : Value) (h2' : Heap), Stp E' W' E2 W2 → HR E2 W2 h2' → VR E2 W2 v z → Hs[c + (bif wrS pur x.op then 1 else 0)]? = some h2' →
                  wpAny P .any ops Q fuel (listed.setIfInBounds i true) (a'.put o.dst z) W2 := by
                intro E2 W2 z h2' g1 g2 g3 g4
                refine ih _ _ _ (by simpa using hsz) ?_ ?_ ?_
                · intro j oj hoj hj k hk
                  simp only [hset] at hj ⊢
                  by_cases hki : k = i
                  · rw [if_pos hki]
                  · rw [if_neg hki]
                    by_cases hji : j = i
                    · subst hji
                      rw [hoL] at hoj; cases hoj
                      exact hdir k hk
                    · rw [if_neg hji] at hj
                      exact hcl j oj hoj hj k hk
                · have := unl_set listed.toList i (by simp [hil] at hLi ⊢; exact hLi)
                  rw [Array.toList_setIfInBounds]
                  omega
                · refine ⟨E2, h1.trans g1, ⟨h2', ?_, g2⟩, ⟨fun t => if o.dst = some t then v else f t, (h4.mono g1.le g1.keep).put x4 g3, ?_, ?_⟩, (by cases hq : o.dst <;> simpa [Act.put] using h7), h8.mono g1.le g1.keep⟩
                  · rw [hcadd]; exact g4
                  · intro t j q w hj hq hvq hd
                    simp only [hset] at hj
                    by_cases hji : j = i
                    · subst hji
                      rw [hli] at hq; cases hq
                      rw [hvi] at hvq; cases hvq
                      have hd' : o.dst = some t := x3.symm.trans hd
                      exact if_pos hd'
                    · rw [if_neg hji] at hj
                      have hne : o.dst ≠ some t := by
                        rw [← x3]
                        intro hd'
                        rcases Nat.lt_trichotomy j i with hlt | he | hgt
                        · exact dist j i q _ t hlt hq hli hd hd'
                        · exact hji he
                        · exact dist i j _ q t hgt hli hq hd' hd
                      simp only [hne, if_false]
                      exact h5 t j q w hj hq hvq hd
                  · intro t hno
                    have hne : o.dst ≠ some t := by
                      rw [← x3]
                      exact hno i _ (by simp only [hset]; simp) hli
                    simp only [hne, if_false]
                    refine h6 t fun j q hj hq => hno j q ?_ hq
                    simp only [hset]
                    by_cases hji : j = i
                    · rw [if_pos hji]
                    · rw [if_neg hji]; exact hj
              unfold wpOp
              simp only [ho]
              rw [hgrd]
              cases b with
              | false =>
                simp only [Bool.false_eq_true, if_false]
                obtain ⟨hv0, hsk⟩ := hskip rfl
                subst hv0
                refine go E' W' undef hh (.refl E' W') h3 .undef ?_
                cases hwx : wrS pur x.op with
                | false => simp only [cond_false, Nat.add_zero]; exact h2
                | true =>
                  simp only [cond_true]
                  have := hsk (diOf_wr.2 hwx)
                  rw [Nat.zero_add, hwc hwx] at this
                  exact this.trans h2
              | true =>
                simp only [if_true]
                obtain ⟨hi0, hi1, k1, k2, k3, k4⟩ := hrunop rfl
                rw [Nat.zero_add] at k1 k3
                refine .inl (oper_ok hcall ⟨h3, h4, h8⟩ x1 ?_)
                rw [hops' hh]
                -- it gives the same here
                have same : ∃ h2', xop call (eval C ei) hh x.op = .ok v h2' ∧ Hs[c + (bif wrS pur x.op then 1 else 0)]? = some h2' := by
                  cases hwx : wrS pur x.op with
                  | true =>
                    rw [hwc hwx] at k1 k3
                    have : hi0 = hh := Option.some.inj (k1.symm.trans h2)
                    subst this
                    exact ⟨hi1, k2, k3 (diOf_wr.2 hwx)⟩
                  | false =>
                    simp only [cond_false, Nat.add_zero]
                    cases hfx : freeS x.op with
                    | true => exact ⟨hh, (free_ok hfx k2).2 hh, h2⟩
                    | false =>
                      have hdi : diOf pur (befs ops.toList []) xs i x = .rd (cntW pur (fun j => befOf (befs ops.toList []) j i) xs 0) (cntW pur (fun j => !befOf (befs ops.toList []) i j) xs 0) := by
                        unfold diOf; rw [hwx, hfx]; rfl
                      have hrec := k4 _ _ hdi
                      have hok := List.all_eq_true.1 hag _ hrec
                      -- how many writers may have run
                      have hlo : cntW pur (fun j => befOf (befs ops.toList []) j i) xs 0 ≤ c := cntW_mono xs 0 fun j y hy _ hb => by
                        simp only [Nat.zero_add] at hb ⊢; exact hbef j hb
                      have hhi : c ≤ cntW pur (fun j => !befOf (befs ops.toList []) i j) xs 0 := cntW_mono xs 0 fun j y hy _ hb => by
                        simp only [Nat.zero_add] at hb ⊢
                        obtain ⟨oj, hoj⟩ : ∃ oj, ops.toList[j]? = some oj := by
                          have := (List.getElem?_eq_some_iff.1 hy).1
                          exact ⟨ops.toList[j]'(by omega), List.getElem?_eq_getElem _⟩
                        cases hbb : befOf (befs ops.toList []) i j with
                        | false => rfl
                        | true => rw [hnot j oj hoj hbb] at hb; cases hb
                      have hLlt : Closed ops.toList (fun j => decide (j < i) = true) := fun j oj hoj hj k hk => by
                        have := backs_get ops.toList 0 hback j oj hoj k hk
                        simp at hj ⊢; omega
                      have hdlt : ∀ j ∈ direct o, decide (j < i) = true := fun j hj => by
                        have := backs_get ops.toList 0 hback i o hoL j hj
                        simp; omega
                      have hlo' : cntW pur (fun j => befOf (befs ops.toList []) j i) xs 0 ≤ wrN l i := by
                        rw [hci]
                        exact cntW_mono xs 0 fun j y hy _ hb => by
                          simp only [Nat.zero_add] at hb ⊢
                          exact bef_listed hLlt i o hoL hdlt j hb
                      have hhi' : wrN l i ≤ cntW pur (fun j => !befOf (befs ops.toList []) i j) xs 0 := by
                        rw [hci]
                        exact cntW_mono xs 0 fun j y hy _ hb => by
                          simp only [Nat.zero_add] at hb ⊢
                          obtain ⟨oj, hoj⟩ : ∃ oj, ops.toList[j]? = some oj := by
                            have := (List.getElem?_eq_some_iff.1 hy).1
                            exact ⟨ops.toList[j]'(by omega), List.getElem?_eq_getElem _⟩
                          cases hbb : befOf (befs ops.toList []) i j with
                          | false => rfl
                          | true =>
                            have := bef_listed hLlt j oj hoj (fun k hk => hLlt j oj hoj hb k hk) i hbb
                            simp at this
                      generalize cntW pur (fun j => befOf (befs ops.toList []) j i) xs 0 = lo at hok hlo hlo'
                      generalize cntW pur (fun j => !befOf (befs ops.toList []) i j) xs 0 = hi at hok hhi hhi'
                      unfold again at hok
                      rcases beq_cases lo hi with ⟨e1, eb⟩ | ⟨e1, eb⟩
                      · have hcc : wrN l i = c := by omega
                        rw [hcc] at k1
                        have : hi0 = hh := Option.some.inj (k1.symm.trans h2)
                        subst this
                        have := reader_ok hpure hwx k2
                        subst this
                        exact ⟨hi1, k2, h2⟩
                      · simp only [eb, cond_false] at hok
                        have hmem : hh ∈ span Hs lo hi := by
                          unfold span
                          rw [List.mem_iff_getElem?]
                          refine ⟨c - lo, ?_⟩
                          rw [List.getElem?_take, if_pos (by omega), List.getElem?_drop, show lo + (c - lo) = c by omega]
                          exact h2
                        have := List.all_eq_true.1 hok hh hmem
                        split at this
                        · rename_i v2 h2' he2
                          have hveq := avEq_sound _ _ _ this
                          subst hveq
                          have := reader_ok hpure hwx he2
                          subst this
                          exact ⟨_, he2, h2⟩
                        · cases this
                obtain ⟨h2', s1, s2⟩ := same
                rw [s1]
                intro E2 W2 z g1 g2 g3
                exact go E2 W2 z h2' g1 g2 g3 s2
        have hrep : ∀ j, (Array.replicate ops.size false).getD j false = false := fun j => by
          rw [Array.getD_eq_getD_getElem?, Array.getElem?_replicate]; split <;> rfl
        refine main ops.size _ a _ (by simp) (fun i o ho hi => by simp only [hrep] at hi; cases hi) (by rw [Array.toList_replicate, unl_rep]; exact Nat.le_refl _) ?_
        refine ⟨E, .of_heap ⟨rfl, rfl, rfl⟩, ⟨h, ?_, st.hr.of_heap ⟨rfl, rfl, rfl⟩⟩, ⟨env.at, ⟨st.env.size, fun t => VR.of_heap (W := W) (W' := { W with drawn := W.drawn + 1 }) ⟨rfl, rfl, rfl⟩ (st.env.vals t)⟩, fun t j q v hj => (by simp only [hrep] at hj; cases hj), fun t _ => rfl⟩, rfl, fun g => VR.of_heap (W := W) (W' := { W with drawn := W.drawn + 1 }) ⟨rfl, rfl, rfl⟩ (st.glob g)⟩
        rw [cntW_none xs 0 fun i _ => hrep i]
        obtain ⟨⟨pre, hpre⟩, _⟩ := runD_mono _ _ _ _ _ hrun
        exact rev_at hpre

theorem ex_sound {P : Program} {C : Ctx} {pur : Nat → Bool} (hctx : CtxOk P C pur) (hglob : ∀ g, Clean false (C.glob g) ∨ C.glob g = .dead) (n : Nat) : ExOk P C pur (ex C n) :=
  ex_ok hctx hglob (draw_ok hctx.mixed) n
end Go.Proofs.YtmadknpaljaecaaGreatDoor.Ev
namespace Go.Proofs.YtmadknpaljaecaaGreatDoor.Ev
open Go
set_option linter.unusedVariables false

namespace T
variable {α : Type}
/-- what a tree holds -/
def toL : T α → (Nat → Nat) → List (Nat × α)
  | nil, _ => []
  | node l x r, φ => (match x with | some v => [(φ 0, v)] | none => []) ++ (l.toL (fun n => φ (2 * n + 1)) ++ r.toL (fun n => φ (2 * n + 2)))
theorem get_mem : ∀ (t : T α) (φ : Nat → Nat) (n : Nat) (v : α), t.get n = some v → (φ n, v) ∈ t.toL φ
  | nil, φ, n, v, h => by cases h
  | node l x r, φ, 0, v, h => by
    simp only [get] at h; subst h
    simp [toL]
  | node l x r, φ, m + 1, v, h => by
    by_cases hm : m % 2 = 0
    · rw [get_even _ _ _ _ hm] at h
      have := get_mem l (fun n => φ (2 * n + 1)) (m / 2) v h
      simp only [toL, List.mem_append]
      have e : 2 * (m / 2) + 1 = m + 1 := by omega
      simp only [e] at this
      exact .inr (.inl this)
    · rw [get_odd _ _ _ _ hm] at h
      have := get_mem r (fun n => φ (2 * n + 2)) (m / 2) v h
      simp only [toL, List.mem_append]
      have e : 2 * (m / 2) + 2 = m + 1 := by omega
      simp only [e] at this
      exact .inr (.inr this)
end T

/-- the check of one function -/
def chk (P : Program) (pur : Nat → Bool) (f : Nat) : Option XFn :=
  match P.funcs[f]? with
  | some pf => match pf.body with
    | some code => match xcode P pur pf.ntmps code, mapO (xres P) pf.results.toList, pf.name == "runtime.NumGoroutine" with
      | some b, some rs, false => some ⟨pf.params.size + pf.nfree, rs, b, pur f⟩
      | _, _, _ => none
    | none => none
  | none => none

theorem ctx_of {P : Program} {C : Ctx} {pur : Nat → Bool} (hm : P.follows .mixedOrders = true) (h : ∀ f fn, C.fns f = some fn → chk P pur f = some fn)
    (hs : ∀ f g, C.sum f = some g → ∀ args h, (g args h).told → FnOk P C f args h (g args h)) (hp : ∀ f g, C.sum f = some g → pur f = true → ∀ args h v h', g args h = .ok v h' → h' = h) : CtxOk P C pur := by
  refine ⟨fun f fn hf => ?_, hm, hs, hp⟩
  have hc := h f fn hf
  unfold chk at hc
  split at hc
  · rename_i pf hpf
    split at hc
    · rename_i code hb
      split at hc
      · rename_i b rs hx hr hn
        cases hc
        exact ⟨pf, code, hpf, hb, hn, hx, hr, rfl⟩
      · cases hc
    · cases hc
  · cases hc
end Go.Proofs.YtmadknpaljaecaaGreatDoor.Ev
