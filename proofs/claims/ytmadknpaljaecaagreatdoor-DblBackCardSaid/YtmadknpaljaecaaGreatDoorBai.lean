import Derived.Test.YtmadknpaljaecaaGreatDoorBag
import Derived.Test.YtmadknpaljaecaaGreatDoorBah
set_option linter.all false
set_option maxHeartbeats 1000000
namespace Go.Proofs.YtmadknpaljaecaaGreatDoor.Ev
open Go
theorem does_heap {C:Ctx} {f:Nat} {fn:XFn} (hs:C.sum f=none) (hf:C.fns f=some fn) (hp:fn.pure=true) {v:AV} (hd:Does C f [] .empty v .empty) (h:Heap):Does C f [] h v h:=by
 obtain ⟨n,hn⟩:=hd
 refine ⟨n,?_⟩
 simp only [callFn,hs,callB,hf,hp,mapO] at hn ⊢
 split at hn
 ·split at hn
  ·split at hn
   ·cases hn
   ·split at hn
    ·cases hn
    ·cases hn;simp_all
  ·split at hn
   ·cases hn
   ·split at hn
    ·cases hn
    ·cases hn;simp_all
  ·split at hn <;> cases hn
  ·cases hn
 ·cases hn
end Go.Proofs.YtmadknpaljaecaaGreatDoor.Ev
namespace Go.Proofs.YtmadknpaljaecaaGreatDoor.Ev.D
open Go Go.Proofs.YtmadknpaljaecaaGreatDoor.Ev
theorem s15 (h:Heap):Does C 15 [] h (.bool true) h:=by
 refine does_heap (fn:=X15) rfl rfl rfl ⟨100000000,?_⟩ h
 have e:=isT_eq worksK
 have:=callF_ex C 100000000 15 [] .empty (by rw [e];trivial)
 rw [this,e]
end Go.Proofs.YtmadknpaljaecaaGreatDoor.Ev.D
namespace Go.Proofs.YtmadknpaljaecaaGreatDoor.Ev.D
open Go Go.Proofs.YtmadknpaljaecaaGreatDoor.Ev
set_option maxRecDepth 100000
theorem nan_neq {b:Nat} (h:Fl.inf < Fl.rung b):((FloatKind.format .f64).order b b != some .eq)=true:=by
 have:(FloatKind.format .f64).order b b=none:=by
  show Ieee.double.order b b=_
  rw [Fl.order_self,if_pos h]
 rw [this];rfl
theorem s27nan {a b:Nat} (ha:Fl.inf < Fl.rung a) (hb:Fl.inf < Fl.rung b) (h:Heap):Does C 27 [.float .f64 a,.float .f64 b] h (.bool true) h:=by
 refine does_pure (fn:=X27) rfl rfl rfl (mapO_cons conv_float (mapO_cons conv_float mapO_nil)) ?_
 simp (decide:=true) only [BZ,X27,f_neq,nan_neq ha,nan_neq hb]
structure TT (b:Nat) (t:List UInt8):Prop where
 len:t.length≤381
 ne:t≠[]
 nosp:∀ c∈t,Rf.spc c=false
 pr:∃ v,PR t v true∧∀ h,Does C 27 [v,.float .f64 b] h (.bool true) h
theorem s19 {b:Nat} (hb:b < 18446744073709551616):∃ t,(∀ h,Does C 19 [.float .f64 b] h (.str (BStr.ofBytes t)) h)∧TT b t:=by
 by_cases hn:Fl.inf < Fl.rung b
 ·refine ⟨[78,97,78],fun h=>?_,by decide,by decide,by decide,.float .f64 9221120237041090561,?_,fun h=>s27nan (by decide) hn h⟩
  ·refine does_pure (fn:=X19) rfl rfl rfl (mapO_cons conv_float mapO_nil) ?_
   simp (decide:=true) only [BZ,X19,f_neq,nan_neq hn]
   all_goals rfl
  ·unfold PR;rw [if_pos rfl];exact ⟨rfl,rfl⟩
 have hr:Fl.rung b≤9218868437227405312:=by unfold Fl.inf at hn;omega
 have hw:=Fl.word_split hb
 obtain ⟨t,d,T⟩:=s19p hr
 have self:=fun h=>s27 (v:=.float .f64 b) (.inl ⟨b,rfl⟩) h
 cases hs:Fl.neg b with
 |false=>
  rw [hs] at hw
  have e:Fl.rung b=b:=hw
  rw [e] at d T
  exact ⟨t,d,Nat.le_trans T.len (by decide),T.ne,T.nosp,_,T.pr,self⟩
 |true=>
  rw [hs] at hw
  have e:b=Fl.rung b+9223372036854775808:=by
   rw [← hw,Fl.word_eq]
   simp only [if_true]
   have h2:Fl.rung (Fl.sgn+Fl.rung b)=Fl.rung b:=by
    have:=Fl.rung_word (s:=true) (r:=Fl.rung b) (by unfold Fl.sgn;omega)
    rw [Fl.word_eq] at this;exact this
   rw [h2,Nat.add_comm];rfl
  obtain ⟨r,hrr⟩:∃ r,Fl.rung b=r:=⟨_,rfl⟩
  rw [hrr] at e d T hr
  have c30:=fun h=>s30 (b:=b) hb h
  rw [hs] at c30
  have hnn:((FloatKind.format .f64).order b b != some .eq)=false:=by
   have:(FloatKind.format .f64).order b b=some .eq:=by
    show Ieee.double.order b b=_
    rw [Fl.order_self,if_neg hn]
   rw [this];rfl
  have hng:Go.Op.negFloat .f64 b=r:=by rw [e];exact negF_neg (by omega)
  have hl:=T.len
  have p1:binV .add (.str ⟨1,45⟩) (.str (BStr.ofBytes t))=some (.str (BStr.ofBytes ([45]++t))):=sadd_of (a:=[45]) (by simp;exact Nat.le_trans (show _≤400 by omega) (by decide))
  refine ⟨45::t,fun h=>?_,by simp;omega,by simp,?_,.float .f64 b,by rw [e];exact T.prn,self⟩
  ·refine does_pure (fn:=X19) rfl rfl rfl (mapO_cons conv_float mapO_nil) ?_
   simp (decide:=true) only [BZ,X19,f_neq,hnn,callG_of (c30 _),u_negF,hng,callG_of (d _),p1]
   all_goals rfl
  ·intro c hc
   rcases List.mem_cons.1 hc with rfl|h
   ·decide
   ·exact T.nosp c h
theorem s7 {b:Nat} (hb:b < 18446744073709551616) (h:Heap):Does C 7 [.int .u64 (b:Int)] h (.bool true) h:=by
 obtain ⟨t,d19,T⟩:=s19 hb
 obtain ⟨v0,hpr,h27⟩:=T.pr
 have hl:=T.len
 obtain ⟨v,ok,d1,p1⟩:=s16 (l:=t) (by omega)
 rw [Rf.trm_no T.nosp] at p1
 obtain ⟨rfl,rfl⟩:=p1.uniq hpr
 obtain ⟨v2,ok2,d2,p2⟩:=s16 (l:=[10,32,9]++t++[13,32]) (by simp;omega)
 rw [Rf.trm_pad T.ne T.nosp] at p2
 obtain ⟨rfl,rfl⟩:=p2.uniq p1
 have q1:binV .add (.str ⟨3,663561⟩) (.str (BStr.ofBytes t))=some (.str (BStr.ofBytes ([10,32,9]++t))):=sadd_of (a:=[10,32,9]) (by simp;exact Nat.le_trans (show _≤400 by omega) (by decide))
 have q2:binV .add (.str (BStr.ofBytes ([10,32,9]++t))) (.str ⟨2,3360⟩)=some (.str (BStr.ofBytes ([10,32,9]++t++[13,32]))):=sadd_of (b:=[13,32]) (by simp;exact Nat.le_trans (show _≤400 by omega) (by decide))
 have c20:=fun h=>s20 (b:=b) h
 refine does_pure (fn:=X7) rfl rfl rfl (mapO_cons conv_int mapO_nil) ?_
 simp (decide:=true) only [BZ,X7,callG_of (c20 _),callG_of (d19 _),callG_of (d1 _),q1,q2,callG_of (d2 _),callG_of (h27 _),callG_of (s15 _)]
end Go.Proofs.YtmadknpaljaecaaGreatDoor.Ev.D
