import Derived.KernelRfl
import Derived.Test.YtmadknpaljaecaaGreatDoorProg
import Derived.Test.YtmadknpaljaecaaGreatDoorKad
import Derived.Test.YtmadknpaljaecaaGreatDoorKaf
import Derived.Test.YtmadknpaljaecaaGreatDoorKag
import Derived.Test.YtmadknpaljaecaaGreatDoorKah
set_option linter.all false
namespace Go.Proofs.YtmadknpaljaecaaGreatDoor.Ev
open Go
/-- a pure function without arguments answers in every memory what it answers in the empty one -/
theorem does_heap {C : Ctx} {f : Nat} {fn : XFn} (hs : C.sum f = none) (hf : C.fns f = some fn) (hp : fn.pure = true) {v : AV} (hd : Does C f [] .empty v .empty) (h : Heap) : Does C f [] h v h := by
  obtain ⟨n, hn⟩ := hd
  refine ⟨n, ?_⟩
  simp only [callFn, hs, callB, hf, hp, mapO] at hn ⊢
  split at hn
  · split at hn
    · split at hn
      · cases hn
      · split at hn
        · cases hn
        · cases hn; simp_all
    · split at hn
      · cases hn
      · split at hn
        · cases hn
        · cases hn; simp_all
    · split at hn <;> cases hn
    · cases hn
  · cases hn
end Go.Proofs.YtmadknpaljaecaaGreatDoor.Ev
namespace Go.Proofs.YtmadknpaljaecaaGreatDoor.Ev.D
open Go Go.Proofs.YtmadknpaljaecaaGreatDoor.Ev
theorem s15 (h : Heap) : Does C 15 [] h (.bool true) h := by
  refine does_heap (fn := X15) rfl rfl rfl ⟨100000000, ?_⟩ h
  have e := isT_eq worksK
  have := callF_ex C 100000000 15 [] .empty (by rw [e]; trivial)
  rw [this, e]
end Go.Proofs.YtmadknpaljaecaaGreatDoor.Ev.D
namespace Go.Proofs.YtmadknpaljaecaaGreatDoor.Ev
open Go
set_option linter.unusedVariables false
/-- answers that are known -/
abbrev Tab := List (Nat × List AV × AV)
def avsEq (a b : List AV) : Bool := avEq depth (.tup a) (.tup b)
theorem avsEq_sound {a b : List AV} (h : avsEq a b = true) : a = b := by
  have := avEq_sound _ _ _ h
  cases this; rfl
def Tab.get (T : Tab) (f : Nat) (args : List AV) : Option AV :=
  match T with
  | [] => none
  | e :: r => bif Nat.beq e.1 f && avsEq e.2.1 args then some e.2.2 else Tab.get r f args
theorem Tab.get_mem {f : Nat} {args : List AV} {v : AV} : ∀ {T : Tab}, Tab.get T f args = some v → (f, args, v) ∈ T
  | [], h => by cases h
  | e :: r, h => by
    simp only [Tab.get] at h
    cases hc : (Nat.beq e.1 f && avsEq e.2.1 args) with
    | false => rw [hc] at h; exact List.mem_cons_of_mem _ (Tab.get_mem h)
    | true =>
      rw [hc] at h
      simp only [Bool.and_eq_true] at hc
      have e1 := Nat.eq_of_beq_eq_true hc.1
      have e2 := avsEq_sound hc.2
      simp only [cond_true, Option.some.injEq] at h
      subst e1; subst e2; subst h
      simp
def Tab.sum (T : Tab) (f : Nat) : Option (List AV → Heap → OpR) :=
  bif T.any fun e => Nat.beq e.1 f then some (fun args h => match T.get f args with | some v => .ok v h | none => .no 0) else none
theorem Tab.sum_some {T : Tab} {f : Nat} {g : List AV → Heap → OpR} (h : T.sum f = some g) : g = fun args h => match T.get f args with | some v => .ok v h | none => .no 0 := by
  unfold Tab.sum at h
  cases hc : (T.any fun e => Nat.beq e.1 f) with
  | false => rw [hc] at h; cases h
  | true => rw [hc] at h; cases h; rfl

theorem ctx_tab {P : Program} {C : Ctx} {pur : Nat → Bool} (hctx : CtxOk P C pur) (hglob : ∀ g, Clean false (C.glob g) ∨ C.glob g = .dead) {T : Tab} (hT : ∀ e ∈ T, ∀ h, Does C e.1 e.2.1 h e.2.2 h) : CtxOk P { C with sum := T.sum } pur := by
  refine ⟨hctx.fns, hctx.mixed, fun f g hf args h ht => ?_, fun f g hf _ args h v h' he => ?_⟩
  · have hf : T.sum f = some g := hf
    rw [Tab.sum_some hf] at ht ⊢
    cases hg : T.get f args with
    | none => simp only [hg] at ht; exact ht.elim
    | some v =>
      simp only [hg]
      obtain ⟨n, hn⟩ := hT _ (Tab.get_mem hg) h
      have := call_ok hctx hglob n f args h (by rw [hn]; trivial)
      rw [hn] at this
      exact this
  · have hf : T.sum f = some g := hf
    rw [Tab.sum_some hf] at he
    cases hg : T.get f args with
    | none => simp only [hg] at he; cases he
    | some v => simp only [hg] at he; cases he; rfl

/-- a pure function answers in every memory what it answers in the empty one -/
theorem does_heapA {C : Ctx} {f : Nat} {fn : XFn} (hs : C.sum f = none) (hf : C.fns f = some fn) (hp : fn.pure = true) {args args' : List AV} {v : AV} (ha : ∀ h, mapO (conv true h depth) args = some args') (hd : Does C f args .empty v .empty) (h : Heap) : Does C f args h v h := by
  obtain ⟨n, hn⟩ := hd
  refine ⟨n, ?_⟩
  simp only [callFn, hs, callB, hf, hp, ha] at hn ⊢
  split at hn
  · split at hn
    · split at hn
      · cases hn
      · split at hn
        · cases hn
        · cases hn; simp_all
    · split at hn
      · cases hn
      · split at hn
        · cases hn
        · cases hn; simp_all
    · split at hn <;> cases hn
    · cases hn
  · cases hn

def isVal (o : OpR) (v : AV) : Bool := match o with | .ok w ⟨.nil, 0⟩ => avEq depth w v | _ => false
theorem isVal_eq {o : OpR} {v : AV} (h : isVal o v = true) : o = .ok v .empty := by
  unfold isVal at h
  split at h
  · rw [avEq_sound _ _ _ h]; rfl
  · cases h
theorem does_val {C : Ctx} {f : Nat} {fn : XFn} (hs : C.sum f = none) (hf : C.fns f = some fn) (hp : fn.pure = true) {args args' : List AV} {v : AV} (ha : ∀ h, mapO (conv true h depth) args = some args') {n : Nat}
    (hk : isVal (callF (exF C n) C f args .empty) v = true) (h : Heap) : Does C f args h v h := by
  refine does_heapA hs hf hp ha ⟨n, ?_⟩ h
  have e := isVal_eq hk
  have := callF_ex C n f args .empty (by rw [e]; trivial)
  rw [this, e]
end Go.Proofs.YtmadknpaljaecaaGreatDoor.Ev
namespace Go.Proofs.YtmadknpaljaecaaGreatDoor.Ev.D
open Go Go.Proofs.YtmadknpaljaecaaGreatDoor.Ev
def T5 : Tab := [(33, [.float .f64 5055640609639927018], .tup [(.str ⟨0, 0⟩), (.int .i64 40)]), (33, [.float .f64 13516115794094627663], .tup [(.str ⟨1, 48⟩), (.int .i64 0)]), (33, [.float .f64 9221120237041090561], .tup [(.str ⟨0, 0⟩), (.int .i64 80)]), (24, [.float .f64 13824249416176474522, .int .i64 0, .str ⟨4, 1751215206⟩], .tup [(.float .f64 9223372036854775808), (.int .i64 0)]), (24, [.float .f64 4593671619917905920, .int .i64 2, .str ⟨4, 1702258030⟩], .tup [(.float .f64 4593311331947716280), (.int .i64 0)]), (24, [.float .f64 4653212373585231872, .int .i64 (-2), .str ⟨4, 1702258030⟩], .tup [(.float .f64 4652992471259676672), (.int .i64 0)]), (24, [.float .f64 4607182418800017408, .int .i64 21, .str ⟨2, 30064⟩], .tup [(.float .f64 0), (.int .i64 6)]), (41, [.str ⟨3, 3223088⟩], .tup [(.float .f64 0), (.int .i64 1)]), (15, [], .bool true)]
def C3 : Ctx := { C with sum := T5.sum }
end Go.Proofs.YtmadknpaljaecaaGreatDoor.Ev.D
namespace Go.Proofs.YtmadknpaljaecaaGreatDoor.Ev.D
open Go Go.Proofs.YtmadknpaljaecaaGreatDoor.Ev
set_option maxRecDepth 1000000
theorem kchk : chkKnown Go.Proofs.Tryz.prog pur 13 = some KN := by kernel_rfl
theorem kb : (KF1.below 193 && KF2.below 193) = true := by kernel_rfl
theorem k1 : isYes (exF C3 100000000 KA .nil .empty (kEnd 193 0)) = true := by kernel_rfl
end Go.Proofs.YtmadknpaljaecaaGreatDoor.Ev.D
