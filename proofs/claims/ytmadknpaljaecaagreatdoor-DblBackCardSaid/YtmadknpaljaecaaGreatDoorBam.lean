import Derived.ProofKit
import Derived.Lay
import Derived.SevenTiedAt
import Derived.Test.YtmadknpaljaecaaGreatDoorBab
import Derived.Test.YtmadknpaljaecaaGreatDoorBak
set_option linter.all false
set_option maxHeartbeats 1000000
namespace Go.Proofs.YtmadknpaljaecaaGreatDoor.Ev
open Go
def E0 (W:World):Env:={ β:=fun _=>0,csz:=fun _=>0,nx:=0,I:=fun b=>b < W.heap.size,B:=fun _=>False }
theorem HR_E0 (W:World):HR (E0 W) W .empty:=
 ⟨rfl,fun b x hx=>(by cases hx),fun b x hx=>(by cases hx),fun b b' x x' hx=>(by cases hx),fun b x hx=>(by cases hx),fun i hi=>by
  rcases hi with hi|⟨_,hi⟩
  ·exact hi
  ·exact hi.elim⟩
structure Kept0 (W W':World):Prop where
 out:Out0 W W'
 block:∀ b,b < W.heap.size→W'.heap[b]? =W.heap[b]?
theorem Kept0.frame {W W':World} (h:Kept0 W W') (may:MemPlace→Prop):W.keptBut W' may:=by
 refine ⟨h.out.1,h.out.2,fun i hi=>?_⟩
 rw [h.block i hi]
 split <;> simp_all
theorem law_calls {P:Program} {C:Ctx} {pur:Nat→Bool} (hctx:CtxOk P C pur) (hcl:∀ g,Clean false (C.glob g)∨C.glob g=.dead) {f:Nat} {args:List AV} {xs:Array Value} {W:World} {v:AV} {h':Heap}
  (hg:GlobR (E0 W) W C) (hd:Does C f args .empty v h') (hx:VRs (E0 W) W args xs.toList):
  Calls P f xs W fun e W'=>(∃ z E',e=.returned z∧VR E' W' v z)∧Kept0 W W':=by
 obtain ⟨n,hn⟩:=hd
 have:=(call_ok hctx hcl n f args .empty (by rw [hn];trivial)).2 (E0 W) W xs (HR_E0 W) hg hx
 rw [hn] at this
 refine this.mono fun e W' hp=>?_
 obtain ⟨E',hs,hr,z,rfl,hv⟩:=hp
 exact ⟨⟨z,E',rfl,hv⟩,hs.keep.out,fun b hb=>hs.keep.same b (.inl hb)⟩
end Go.Proofs.YtmadknpaljaecaaGreatDoor.Ev
