import Derived.Test.YtmadknpaljaecaaGreatDoorKag
import Derived.Test.YtmadknpaljaecaaGreatDoorKai
import Derived.Test.YtmadknpaljaecaaGreatDoorKaj
import Derived.Test.YtmadknpaljaecaaGreatDoorKak
import Derived.Test.YtmadknpaljaecaaGreatDoorKal
import Derived.Test.YtmadknpaljaecaaGreatDoorKam
import Derived.Test.YtmadknpaljaecaaGreatDoorKan
import Derived.Test.YtmadknpaljaecaaGreatDoorKap
import Derived.Test.YtmadknpaljaecaaGreatDoorKaq
set_option linter.all false
namespace Go.Proofs.YtmadknpaljaecaaGreatDoor.Ev.D
open Go Go.Proofs.YtmadknpaljaecaaGreatDoor.Ev
theorem tab5 : ∀ e ∈ T5, ∀ h, Does C e.1 e.2.1 h e.2.2 h := by
  refine List.forall_mem_cons.2 ⟨does_val (fn := X33) rfl rfl rfl (fun h => rfl) e0, List.forall_mem_cons.2 ⟨does_val (fn := X33) rfl rfl rfl (fun h => rfl) e1, List.forall_mem_cons.2 ⟨does_val (fn := X33) rfl rfl rfl (fun h => rfl) e2, List.forall_mem_cons.2 ⟨does_val (fn := X24) rfl rfl rfl (fun h => rfl) e3, List.forall_mem_cons.2 ⟨does_val (fn := X24) rfl rfl rfl (fun h => rfl) e4, List.forall_mem_cons.2 ⟨does_val (fn := X24) rfl rfl rfl (fun h => rfl) e5, List.forall_mem_cons.2 ⟨does_val (fn := X24) rfl rfl rfl (fun h => rfl) e6, List.forall_mem_cons.2 ⟨does_val (fn := X41) rfl rfl rfl (fun h => rfl) e7, List.forall_mem_cons.2 ⟨s15, by simp⟩⟩⟩⟩⟩⟩⟩⟩⟩
theorem ctx3 : CtxOk Go.Proofs.Tryz.prog C3 pur := ctx_tab ctx globClean tab5
end Go.Proofs.YtmadknpaljaecaaGreatDoor.Ev.D
namespace Go.Proofs.YtmadknpaljaecaaGreatDoor.Ev.D
open Go Go.Proofs.YtmadknpaljaecaaGreatDoor.Ev
theorem known {W : World} (hg : GlobR (E0 W) W C) : Calls Go.Proofs.Tryz.prog 13 #[] W fun e W' => e = .returned (.bool true) ∧ Kept0 W W' :=
  known_ok ctx3 globClean kchk (t := 0) rfl kb k1 k2 k3 k4 k5 hg
end Go.Proofs.YtmadknpaljaecaaGreatDoor.Ev.D
