import Derived.Test.YtmadknpaljaecaaGreatDoorPaf
import Derived.Test.YtmadknpaljaecaaGreatDoorPag
set_option linter.all false
set_option maxHeartbeats 1000000
namespace Go.Proofs.YtmadknpaljaecaaGreatDoor.Ev
open Go
theorem does_heap {C:Ctx} {f:Nat} {fn:XFn} (hs:C.sum f=none) (hf:C.fns f=some fn) (hp:fn.pure=true) {v:AV} (hd:Does C f [] .empty v .empty) (h:Heap):Does C f [] h v h:=by
 obtain ⟨n,hn⟩:=hd
 refine ⟨n,?_⟩
 simp only [callFn,hs,callB,hf,hp,mapO] at hn ⊢
 split at hn
 ·split at hn
  ·split at hn
   ·cases hn
   ·split at hn
    ·cases hn
    ·cases hn;simp_all
  ·split at hn
   ·cases hn
   ·split at hn
    ·cases hn
    ·cases hn;simp_all
  ·split at hn <;> cases hn
  ·cases hn
 ·cases hn
end Go.Proofs.YtmadknpaljaecaaGreatDoor.Ev
namespace Go.Proofs.YtmadknpaljaecaaGreatDoor.Ev.D
open Go Go.Proofs.YtmadknpaljaecaaGreatDoor.Ev
theorem s15 (h:Heap):Does C 15 [] h (.bool true) h:=by
 refine does_heap (fn:=X15) rfl rfl rfl ⟨100000000,?_⟩ h
 have e:=isT_eq worksK
 have:=callF_ex C 100000000 15 [] .empty (by rw [e];trivial)
 rw [this,e]
end Go.Proofs.YtmadknpaljaecaaGreatDoor.Ev.D
namespace Go.Proofs.YtmadknpaljaecaaGreatDoor.Ev.D
open Go Go.Proofs.YtmadknpaljaecaaGreatDoor.Ev
set_option maxRecDepth 100000
theorem PR.float {m:List UInt8} {v:AV} {ok:Bool} (h:PR m v ok):∃ b,v=.float .f64 b:=by
 unfold PR at h
 split at h
 ·exact ⟨_,h.1⟩
 ·split at h
  ·exact ⟨_,h.1⟩
  ·split at h
   ·exact ⟨_,h.1⟩
   ·split at h
    ·obtain ⟨_,r,_,e⟩:=h;exact ⟨_,e⟩
    ·exact ⟨_,h.1⟩
theorem s3 {l:List UInt8} (h:Heap):Does C 3 [.str (BStr.ofBytes l)] h (.bool true) h:=by
 refine does_pure (fn:=X3) rfl rfl rfl (mapO_cons conv_str mapO_nil) ?_
 by_cases hl:l.length≤400
 ·obtain ⟨v,ok,d1,p1⟩:=s16 hl
  obtain ⟨v',ok',d2,p2⟩:=s17 hl
  obtain ⟨rfl,rfl⟩:=p1.uniq p2
  have c18:=fun h=>s18 (v:=v) (.inl p1.float) h
  have hb:∀ h,eqGV false .bool (.bool ok) (.bool ok) h=.ok (.bool true) h:=fun h=>by cases ok <;> rfl
  simp (decide:=true) only [BZ,X3,decide_eq_false (show ¬ (400:Int) < (l.length:Int) by omega),callG_of (d1 _),callG_of (d2 _),callG_of (c18 _),x_eq,hb,callG_of (s15 _)]
 ·simp (decide:=true) only [BZ,X3,decide_eq_true (show (400:Int) < (l.length:Int) by omega),callG_of (s15 _)]
end Go.Proofs.YtmadknpaljaecaaGreatDoor.Ev.D
