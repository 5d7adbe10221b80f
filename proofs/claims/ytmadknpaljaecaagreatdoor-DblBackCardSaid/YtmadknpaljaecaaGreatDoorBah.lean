import Derived.KernelRfl
import Derived.Test.YtmadknpaljaecaaGreatDoorBab
import Derived.Test.YtmadknpaljaecaaGreatDoorBac
import Derived.Test.YtmadknpaljaecaaGreatDoorBad
set_option linter.all false
set_option maxHeartbeats 1000000
namespace Go.Proofs.YtmadknpaljaecaaGreatDoor.Ev.D
open Go Go.Proofs.YtmadknpaljaecaaGreatDoor.Ev
noncomputable def isT (o:OpR):Bool:=OpR.rec (fun v h=>match v with|.bool b=>b && (match h with|⟨.nil,0⟩=>true|_=>false)|_=>false) (fun _ _=>false) (fun _=>false) o
theorem isT_eq {o:OpR} (h:isT o=true):o=.ok (.bool true) .empty:=by
 cases o with
 |ok v h'=>
  simp only [isT] at h
  split at h
  ·rename_i b
   split at h
   ·rename_i b;simp at h;subst h;rfl
   ·simp at h
  ·cases h
 |panic _ _=>cases h
 |no _=>cases h
set_option maxRecDepth 1000000
theorem worksK:isT (callF (exF C 100000000) C 15 [] .empty)=true:=by kernel_rfl
end Go.Proofs.YtmadknpaljaecaaGreatDoor.Ev.D
