import Derived.KernelRfl
import Derived.Test.YtmadknpaljaecaaGreatDoorBad
import Derived.Test.YtmadknpaljaecaaGreatDoorBae
import Derived.Test.YtmadknpaljaecaaGreatDoorBaf
set_option linter.all false
set_option maxHeartbeats 1000000
namespace Go.Proofs.YtmadknpaljaecaaGreatDoor.Ev.D
open Go Go.Proofs.YtmadknpaljaecaaGreatDoor.Ev
set_option maxRecDepth 100000
theorem take_step {α:Type} {l:List α} {i:Nat} {c:α} (h:l[i]? =some c):l.take (i+1)=l.take i++[c]:=by
 rw [List.take_succ,h];rfl
theorem low_up {c:UInt8} (h:65≤c.toNat∧c.toNat≤90):wrapF .u8 (((c.toNat:Nat):Int)+32)=(((Rf.low c).toNat:Nat):Int):=by
 have e:(Rf.low c).toNat=c.toNat+32:=by
  rw [Rf.low,if_pos h,UInt8.toNat_add]
  show (c.toNat+32) % 256=_
  omega
 rw [e]
 show (((c.toNat:Nat):Int)+32) % 256=_
 omega
theorem low_no {c:UInt8} (h:¬ (65≤c.toNat∧c.toNat≤90)):Rf.low c=c:=by rw [Rf.low,if_neg h]
theorem map_low {l:List UInt8} (h:l.any Rf.isUp=false):l.map Rf.low=l:=by
 induction l with
 |nil=>rfl
 |cons a r ih=>
  rw [List.any_cons,Bool.or_eq_false_iff] at h
  rw [List.map_cons,ih h.2,low_no (fun hc=>by unfold Rf.isUp at h;rw [decide_eq_true hc] at h;exact absurd h.1 (by decide))]
theorem newB:(Heap.empty.new (.cells 2 .nilPtr (setL [(1,.nilSl)] .nil) 97 false))=hB:=rfl
theorem s104 {l:List UInt8} (hl:l.length≤1000000) (ha:∀ c∈l,c.toNat < 128) (h:Heap):Does C 104 [.str (BStr.ofBytes l)] h (.str (BStr.ofBytes (l.map Rf.low))) h:=by
 refine does_pure (fn:=X104) rfl rfl rfl (mapO_cons conv_str mapO_nil) ?_
 rw [show X104.body=.seq (seqH X104.body) (.seq (seqH (seqT 1 X104.body)) (.seq (seqH (seqT 2 X104.body)) (.seq (seqH (seqT 3 X104.body)) (seqT 4 X104.body)))) from rfl]
 generalize seqT 4 X104.body=R4
 generalize hR3:seqH (seqT 3 X104.body)=R3
 simp only [X104,seqT,seqH]
 simp (decide:=true) only [BZ]
 refine go_lp (fun n env h=>h=Heap.empty∧∃ i rest,l.drop i=rest∧n=rest.length∧i≤l.length∧env.at 0=.str (BStr.ofBytes l)∧env.at 3=.bool true∧env.at 4=.bool ((l.take i).any Rf.isUp)∧env.at 5=.int .i64 (i:Int))
  (fun env h=>h=Heap.empty∧env.at 0=.str (BStr.ofBytes l)∧env.at 3=.bool true∧env.at 4=.bool (l.any Rf.isUp)) (n:=l.length) ⟨rfl,0,l,rfl,rfl,Nat.zero_le _,?_⟩ ?_ ?_
 ·simp (decide:=true) only [BZ]
  all_goals first|rfl|trivial
 ·rintro n env h1 ⟨rfl,i,rest,hd,rfl,hi,a0,a3,a4,a5⟩
  cases rest with
  |nil=>
   have:=drop_nil hd
   rw [List.take_of_length_le this] at a4
   simp (decide:=true) only [BZ,a0,a3,a4,a5,decide_eq_false (show ¬ (i:Int) < (l.length:Int) by omega)]
  |cons c r=>
   obtain ⟨hil,hc,hd'⟩:=drop_cons hd
   have w1:wrapF .i64 ((i:Int)+1)=((i+1:Nat):Int):=by rw [i64_wrap (by omega) (by omega)];rfl
   have hlt:=decide_eq_true (show (i:Int) < (l.length:Int) by omega)
   have hc128:=ha c (List.mem_of_getElem? hc)
   have n128:=decide_eq_false (show ¬ (128:Int)≤((c.toNat:Nat):Int) by omega)
   have hn:(l.take (i+1)).any Rf.isUp=((l.take i).any Rf.isUp || Rf.isUp c):=by
    rw [take_step hc,List.any_append,List.any_cons,List.any_nil,Bool.or_false]
   have fin:∀ b:Bool,b=(l.take (i+1)).any Rf.isUp→∃ m,m < (c::r).length∧∃ j rest,l.drop j=rest∧m=rest.length∧j≤l.length∧b=(l.take j).any Rf.isUp∧((i+1:Nat):Int)=(j:Int):=
    fun b hb=>⟨r.length,Nat.lt_succ_self _,i+1,r,hd',rfl,hil,hb,rfl⟩
   cases hb:(l.take i).any Rf.isUp with
   |true=>
    rw [hb] at a4 hn
    simp (decide:=true) only [BZ,a0,a3,a4,a5,hlt,ixS_drop hd,n128,w1]
    exact fin true (by rw [hn];rfl)
   |false=>
    rw [hb,Bool.false_or] at hn
    rw [hb] at a4
    cases h65:decide ((65:Int)≤((c.toNat:Nat):Int)) with
    |false=>
     simp (decide:=true) only [BZ,a0,a3,a4,a5,hlt,ixS_drop hd,n128,w1,h65]
     exact fin false (by rw [hn];unfold Rf.isUp;rw [decide_eq_false];have:=of_decide_eq_false h65;omega)
    |true=>
     cases h90:decide (((c.toNat:Nat):Int)≤90) with
     |false=>
      simp (decide:=true) only [BZ,a0,a3,a4,a5,hlt,ixS_drop hd,n128,w1,h65,h90]
      exact fin false (by rw [hn];unfold Rf.isUp;rw [decide_eq_false];have:=of_decide_eq_false h90;omega)
     |true=>
      simp (decide:=true) only [BZ,a0,a3,a4,a5,hlt,ixS_drop hd,n128,w1,h65,h90]
      exact fin true (by rw [hn];unfold Rf.isUp;rw [decide_eq_true];have:=of_decide_eq_true h90;have:=of_decide_eq_true h65;omega)
 ·rintro env h1 ⟨rfl,a0,a3,a4⟩
  subst hR3
  simp only [X104,seqT,seqH]
  cases hu:l.any Rf.isUp with
  |false=>
   rw [hu] at a4
   simp (decide:=true) only [BZ,a0,a3,a4]
   rw [map_low hu]
  |true=>
   rw [hu] at a4
   have h0:0 < l.length:=by
    cases l with
    |nil=>cases hu
    |cons a r=>exact Nat.succ_pos _
   simp (decide:=true) only [BZ,a0,a3,a4,newB,callG_of (s91 h0 hl)]
   refine go_lp (fun n env h=>∃ i st w rest,l.drop i=rest∧n=rest.length∧BS h 1 l.length w∧w++(l.drop st).take (i - st)=(l.take i).map Rf.low∧st≤i∧i≤l.length∧env.at 0=.str (BStr.ofBytes l)∧env.at 7=.ref 0 0∧env.at 8=.int .i64 (st:Int)∧env.at 9=.int .i64 (i:Int))
    (fun env h=>∃ st w,BS h 1 l.length w∧w++l.drop st=l.map Rf.low∧st≤l.length∧env.at 0=.str (BStr.ofBytes l)∧env.at 7=.ref 0 0∧env.at 8=.int .i64 (st:Int)) (n:=l.length) ⟨0,0,[],l,rfl,rfl,bs0 hl,rfl,Nat.le_refl _,Nat.zero_le _,?_⟩ ?_ ?_
   ·simp (decide:=true) only [BZ,a0]
    all_goals first|rfl|trivial
   ·rintro n env h1 ⟨i,st,w,rest,hd,rfl,B,hw,hst,hi,a0,a7,a8,a9⟩
    cases rest with
    |nil=>
     have hle:=drop_nil hd
     have hie:i=l.length:=Nat.le_antisymm hi hle
     simp (decide:=true) only [BZ,a0,a7,a8,a9,decide_eq_false (show ¬ (i:Int) < (l.length:Int) by omega)]
     refine ⟨st,w,B,?_,by omega,rfl⟩
     rw [List.take_of_length_le (by rw [List.length_drop];omega),List.take_of_length_le hle] at hw
     exact hw
    |cons c r=>
     obtain ⟨hil,hc,hd'⟩:=drop_cons hd
     have w1:wrapF .i64 ((i:Int)+1)=((i+1:Nat):Int):=by rw [i64_wrap (by omega) (by omega)];rfl
     have hlt:=decide_eq_true (show (i:Int) < (l.length:Int) by omega)
     have hlen:w.length+((l.drop st).take (i - st)).length=i:=by
      have:=congrArg List.length hw
      rw [List.length_append,List.length_map,List.length_take (l:=l)] at this
      omega
     have hxl:((l.drop st).take (i - st)).length=i - st:=by rw [List.length_take,List.length_drop];omega
     have hmap:(l.take (i+1)).map Rf.low=(l.take i).map Rf.low++[Rf.low c]:=by rw [take_step hc,List.map_append];rfl
     have hnot:¬ (65≤c.toNat∧c.toNat≤90)→w++(l.drop st).take (i+1 - st)=(l.take (i+1)).map Rf.low:=fun hn=>by
      rw [hmap,← hw,show i+1 - st=i - st+1 by omega,take_step (c:=c) (by rw [List.getElem?_drop,show st+(i - st)=i by omega,hc]),low_no hn,List.append_assoc]
     cases h65:decide ((65:Int)≤((c.toNat:Nat):Int)) with
     |false=>
      have:=of_decide_eq_false h65
      simp (decide:=true) only [BZ,a0,a7,a8,a9,hlt,ixS_drop hd,w1,h65]
      refine ⟨r.length,Nat.lt_succ_self _,i+1,st,w,r,hd',rfl,B,hnot (by omega),by omega,hil,?_⟩
      simp (decide:=true) only [BZ,a0,a7,a8]
      all_goals trivial
     |true=>
      have g65:=of_decide_eq_true h65
      cases h90:decide (((c.toNat:Nat):Int)≤90) with
      |false=>
       have:=of_decide_eq_false h90
       simp (decide:=true) only [BZ,a0,a7,a8,a9,hlt,ixS_drop hd,w1,h65,h90]
       refine ⟨r.length,Nat.lt_succ_self _,i+1,st,w,r,hd',rfl,B,hnot (by omega),by omega,hil,?_⟩
       simp (decide:=true) only [BZ,a0,a7,a8]
       all_goals trivial
      |true=>
       have g90:=of_decide_eq_true h90
       have hw32:=low_up (c:=c) (by omega)
       by_cases hsi:st < i
       ·obtain ⟨v1,H1,d1,B1⟩:=s92 (s:=(l.drop st).take (i - st)) B (by omega)
        obtain ⟨v2,H2,d2,B2⟩:=s160 (c:=Rf.low c) B1 (by rw [List.length_append];omega)
        simp (decide:=true) only [BZ,a0,a7,a8,a9,hlt,ixS_drop hd,w1,h65,h90,hw32,decide_eq_true (show (st:Int) < (i:Int) by omega),Option.map_some,Option.map_none,slS_lohi hst hi,callG_of d1,callG_of d2]
        refine ⟨r.length,Nat.lt_succ_self _,i+1,i+1,_,r,hd',rfl,B2,?_,Nat.le_refl _,hil,?_⟩
        ·rw [Nat.sub_self,List.take_zero,List.append_nil,hw,hmap]
        ·simp (decide:=true) only [BZ,a0,a7]
         all_goals trivial
       ·have hse:st=i:=by omega
        subst hse
        rw [Nat.sub_self,List.take_zero,List.append_nil] at hw
        obtain ⟨v2,H2,d2,B2⟩:=s160 (c:=Rf.low c) B (by rw [hxl] at hlen;omega)
        simp (decide:=true) only [BZ,a0,a7,a8,a9,hlt,ixS_drop hd,w1,h65,h90,hw32,decide_eq_false (show ¬ (st:Int) < (st:Int) by omega),callG_of d2]
        refine ⟨r.length,Nat.lt_succ_self _,st+1,st+1,_,r,hd',rfl,B2,?_,Nat.le_refl _,hil,?_⟩
        ·rw [Nat.sub_self,List.take_zero,List.append_nil,hw,hmap]
        ·simp (decide:=true) only [BZ,a0,a7]
         all_goals trivial
   ·rintro env h1 ⟨st,w,B,hw,hst,a0,a7,a8⟩
    have hm:l.length≤maxStr:=Nat.le_trans hl (by decide)
    have hlen:w.length+(l.length - st)=l.length:=by
     have:=congrArg List.length hw
     rwa [List.length_append,List.length_map,List.length_drop] at this
    have hne:l.map Rf.low≠[]:=by
     intro he
     have:=congrArg List.length he
     rw [List.length_map] at this
     simp at this
     rw [this] at h0
     exact absurd h0 (Nat.lt_irrefl _)
    by_cases hsl:st < l.length
    ·obtain ⟨v1,H1,d1,B1⟩:=s92 (s:=l.drop st) B (by rw [List.length_drop];omega)
     rw [hw] at B1
     obtain ⟨H2,d2⟩:=s94 B1 hm hne
     simp (decide:=true) only [BZ,a0,a7,a8,decide_eq_true (show (st:Int) < (l.length:Int) by omega),Option.map_some,Option.map_none,slS_lo hst,callG_of d1,callG_of d2]
    ·rw [List.drop_eq_nil_of_le (by omega),List.append_nil] at hw
     rw [hw] at B
     obtain ⟨H2,d2⟩:=s94 B hm hne
     simp (decide:=true) only [BZ,a0,a7,a8,decide_eq_false (show ¬ (st:Int) < (l.length:Int) by omega),callG_of d2]
end Go.Proofs.YtmadknpaljaecaaGreatDoor.Ev.D
namespace Go.Proofs.YtmadknpaljaecaaGreatDoor.Rf
def it3 (k:Nat):List UInt8:=if k < 10 then [UInt8.ofNat (48+k)] else if k < 100 then [UInt8.ofNat (48+k / 10),UInt8.ofNat (48+k % 10)] else [UInt8.ofNat (48+k / 100),UInt8.ofNat (48+k / 10 % 10),UInt8.ofNat (48+k % 10)]
end Go.Proofs.YtmadknpaljaecaaGreatDoor.Rf
namespace Go.Proofs.YtmadknpaljaecaaGreatDoor.Ev.D
open Go Go.Proofs.YtmadknpaljaecaaGreatDoor.Ev
noncomputable def itP (k:Nat):Bool:=isVal (callF (exF C 100000000) C 62 [.int .i64 (.ofNat k)] .empty) (.str (BStr.ofBytes (Rf.it3 k)))
noncomputable def itN (k:Nat):Bool:=isVal (callF (exF C 100000000) C 62 [.int .i64 (.negSucc k)] .empty) (.str (BStr.ofBytes (45::Rf.it3 (k+1))))
def allFrom (f:Nat→Bool):Nat→Nat→Bool
 |0,_=>true
 |n+1,a=>f a && allFrom f n (a+1)
end Go.Proofs.YtmadknpaljaecaaGreatDoor.Ev.D
namespace Go.Proofs.YtmadknpaljaecaaGreatDoor.Ev.D
open Go Go.Proofs.YtmadknpaljaecaaGreatDoor.Ev
noncomputable def atP (k:Nat):Bool:=isVal (callF (exF C 100000000) C 61 [.str (BStr.ofBytes (43::Rf.exB k))] .empty) (.tup [.int .i64 (.ofNat k),.nilIf])
noncomputable def atN (k:Nat):Bool:=isVal (callF (exF C 100000000) C 61 [.str (BStr.ofBytes (45::Rf.exB (k+1)))] .empty) (.tup [.int .i64 (.negSucc k),.nilIf])
end Go.Proofs.YtmadknpaljaecaaGreatDoor.Ev.D
namespace Go.Proofs.YtmadknpaljaecaaGreatDoor.Ev.D
open Go Go.Proofs.YtmadknpaljaecaaGreatDoor.Ev
set_option maxRecDepth 1000000
theorem atP0:allFrom atP 105 0=true:=by kernel_rfl
theorem atP1:allFrom atP 105 105=true:=by kernel_rfl
theorem atP2:allFrom atP 105 210=true:=by kernel_rfl
theorem atP3:allFrom atP 105 315=true:=by kernel_rfl
theorem atN0:allFrom atN 105 0=true:=by kernel_rfl
theorem atN1:allFrom atN 105 105=true:=by kernel_rfl
theorem atN2:allFrom atN 105 210=true:=by kernel_rfl
theorem atN3:allFrom atN 105 315=true:=by kernel_rfl
end Go.Proofs.YtmadknpaljaecaaGreatDoor.Ev.D
namespace Go.Proofs.YtmadknpaljaecaaGreatDoor.Ev.D
open Go Go.Proofs.YtmadknpaljaecaaGreatDoor.Ev
set_option maxRecDepth 1000000
theorem itP0:allFrom itP 100 0=true:=by kernel_rfl
theorem itP1:allFrom itP 100 100=true:=by kernel_rfl
theorem itP2:allFrom itP 100 200=true:=by kernel_rfl
theorem itP3:allFrom itP 101 300=true:=by kernel_rfl
theorem itN0:allFrom itN 100 0=true:=by kernel_rfl
theorem itN1:allFrom itN 100 100=true:=by kernel_rfl
theorem itN2:allFrom itN 100 200=true:=by kernel_rfl
theorem itN3:allFrom itN 100 300=true:=by kernel_rfl
end Go.Proofs.YtmadknpaljaecaaGreatDoor.Ev.D
namespace Go.Proofs.YtmadknpaljaecaaGreatDoor.Ev.D
open Go Go.Proofs.YtmadknpaljaecaaGreatDoor.Ev
theorem allFrom_get (f:Nat→Bool):∀ (n a i:Nat),allFrom f n a=true→a≤i→i < a+n→f i=true
 |0,a,i,_,h1,h2=>by omega
 |n+1,a,i,h,h1,h2=>by
  rw [allFrom,Bool.and_eq_true] at h
  rcases Nat.eq_or_lt_of_le h1 with rfl|h3
  ·exact h.1
  ·exact allFrom_get f n (a+1) i h.2 h3 (by omega)
theorem s62p {k:Nat} (hk:k≤400) (h:Heap):Does C 62 [.int .i64 (k:Int)] h (.str (BStr.ofBytes (Rf.it3 k))) h:=by
 have hq:itP k=true:=by
  rcases Nat.lt_or_ge k 100 with h1|h1
  ·exact allFrom_get _ _ _ _ itP0 (Nat.zero_le _) (by omega)
  rcases Nat.lt_or_ge k 200 with h2|h2
  ·exact allFrom_get _ _ _ _ itP1 h1 (by omega)
  rcases Nat.lt_or_ge k 300 with h3|h3
  ·exact allFrom_get _ _ _ _ itP2 h2 (by omega)
  ·exact allFrom_get _ _ _ _ itP3 h3 (by omega)
 exact does_val (fn:=X62) rfl rfl rfl (fun _=>mapO_cons conv_int mapO_nil) hq h
theorem s62n {k:Nat} (hk:k < 400) (h:Heap):Does C 62 [.int .i64 (Int.negSucc k)] h (.str (BStr.ofBytes (45::Rf.it3 (k+1)))) h:=by
 have hq:itN k=true:=by
  rcases Nat.lt_or_ge k 100 with h1|h1
  ·exact allFrom_get _ _ _ _ itN0 (Nat.zero_le _) (by omega)
  rcases Nat.lt_or_ge k 200 with h2|h2
  ·exact allFrom_get _ _ _ _ itN1 h1 (by omega)
  rcases Nat.lt_or_ge k 300 with h3|h3
  ·exact allFrom_get _ _ _ _ itN2 h2 (by omega)
  ·exact allFrom_get _ _ _ _ itN3 h3 (by omega)
 exact does_val (fn:=X62) rfl rfl rfl (fun _=>mapO_cons conv_int mapO_nil) hq h
end Go.Proofs.YtmadknpaljaecaaGreatDoor.Ev.D
namespace Go.Proofs.YtmadknpaljaecaaGreatDoor.Rf
def itz (n:Int):List UInt8:=if n < 0 then 45::it3 n.natAbs else it3 n.natAbs
end Go.Proofs.YtmadknpaljaecaaGreatDoor.Rf
namespace Go.Proofs.YtmadknpaljaecaaGreatDoor.Ev.D
open Go Go.Proofs.YtmadknpaljaecaaGreatDoor.Ev
theorem s62 {n:Int} (h1:-400≤n) (h2:n≤400) (h:Heap):Does C 62 [.int .i64 n] h (.str (BStr.ofBytes (Rf.itz n))) h:=by
 cases n with
 |ofNat k=>exact s62p (k:=k) (by have:(k:Int)≤400:=h2;omega) h
 |negSucc k=>
  have e:Rf.itz (Int.negSucc k)=45::Rf.it3 (k+1):=by
   unfold Rf.itz
   rw [if_pos (Int.negSucc_lt_zero k)];rfl
  rw [e]
  exact s62n (k:=k) (by omega) h
end Go.Proofs.YtmadknpaljaecaaGreatDoor.Ev.D
namespace Go.Proofs.YtmadknpaljaecaaGreatDoor.Ev.D
open Go Go.Proofs.YtmadknpaljaecaaGreatDoor.Ev
theorem atP_all {k:Nat} (hk:k < 420):atP k=true:=by
 rcases Nat.lt_or_ge k 105 with h1|h1
 ·exact allFrom_get _ _ _ _ atP0 (Nat.zero_le _) (by omega)
 rcases Nat.lt_or_ge k 210 with h2|h2
 ·exact allFrom_get _ _ _ _ atP1 h1 (by omega)
 rcases Nat.lt_or_ge k 315 with h3|h3
 ·exact allFrom_get _ _ _ _ atP2 h2 (by omega)
 ·exact allFrom_get _ _ _ _ atP3 h3 (by omega)
theorem atN_all {k:Nat} (hk:k < 420):atN k=true:=by
 rcases Nat.lt_or_ge k 105 with h1|h1
 ·exact allFrom_get _ _ _ _ atN0 (Nat.zero_le _) (by omega)
 rcases Nat.lt_or_ge k 210 with h2|h2
 ·exact allFrom_get _ _ _ _ atN1 h1 (by omega)
 rcases Nat.lt_or_ge k 315 with h3|h3
 ·exact allFrom_get _ _ _ _ atN2 h2 (by omega)
 ·exact allFrom_get _ _ _ _ atN3 h3 (by omega)
theorem s61E {k:Int} (h1:-420≤k) (h2:k < 420) (h:Heap):Does C 61 [.str (BStr.ofBytes (Rf.sgE k::Rf.exB k.natAbs))] h (.tup [.int .i64 k,.nilIf]) h:=by
 cases k with
 |ofNat n=>exact does_val (fn:=X61) rfl rfl rfl (fun _=>mapO_cons conv_str mapO_nil) (atP_all (k:=n) (by have:(n:Int) < 420:=h2;omega)) h
 |negSucc n=>
  have hn:n < 420:=by omega
  rw [show Rf.sgE (Int.negSucc n)=45 from if_pos (Int.negSucc_lt_zero n)]
  exact does_val (fn:=X61) rfl rfl rfl (fun _=>mapO_cons conv_str mapO_nil) (atN_all (k:=n) hn) h
end Go.Proofs.YtmadknpaljaecaaGreatDoor.Ev.D
namespace Go.Proofs.YtmadknpaljaecaaGreatDoor.Ev.D
open Go Go.Proofs.YtmadknpaljaecaaGreatDoor.Ev
noncomputable def spP (k:Nat):Bool:=isVal (callF (exF C 100000000) C 50 [.str (BStr.ofBytes [UInt8.ofNat k])] .empty) (.bool (Rf.spc (UInt8.ofNat k)))
set_option maxRecDepth 1000000
theorem spP0:allFrom spP 256 0=true:=by kernel_rfl
end Go.Proofs.YtmadknpaljaecaaGreatDoor.Ev.D
namespace Go.Proofs.YtmadknpaljaecaaGreatDoor.Ev.D
open Go Go.Proofs.YtmadknpaljaecaaGreatDoor.Ev
theorem s50 {c:UInt8} (h:Heap):Does C 50 [.str (BStr.ofBytes [c])] h (.bool (Rf.spc c)) h:=by
 have hq:=allFrom_get _ _ _ c.toNat spP0 (Nat.zero_le _) (by have:=c.toNat_lt;omega)
 have e:UInt8.ofNat c.toNat=c:=by simp
 unfold spP at hq
 rw [e] at hq
 exact does_val (fn:=X50) rfl rfl rfl (fun _=>mapO_cons conv_str mapO_nil) hq h
noncomputable def infP:Bool:=isVal (callF (exF C 100000000) C 44 [.int .i64 1] .empty) (.float .f64 9218868437227405312) && isVal (callF (exF C 100000000) C 44 [.int .i64 (-1)] .empty) (.float .f64 18442240474082181120)
theorem infP0:infP=true:=by kernel_rfl
theorem s44p (h:Heap):Does C 44 [.int .i64 1] h (.float .f64 9218868437227405312) h:=by
 have hq:=infP0
 unfold infP at hq
 rw [Bool.and_eq_true] at hq
 exact does_val (fn:=X44) rfl rfl rfl (fun _=>mapO_cons conv_int mapO_nil) hq.1 h
theorem s44n (h:Heap):Does C 44 [.int .i64 (-1)] h (.float .f64 18442240474082181120) h:=by
 have hq:=infP0
 unfold infP at hq
 rw [Bool.and_eq_true] at hq
 exact does_val (fn:=X44) rfl rfl rfl (fun _=>mapO_cons conv_int mapO_nil) hq.2 h
end Go.Proofs.YtmadknpaljaecaaGreatDoor.Ev.D
namespace Go.Proofs.YtmadknpaljaecaaGreatDoor.Ev
open Go
def cvSBV (elem:Nat) (x:AV) (h:Heap):OpR:=match x with
 |.str s=>newCells h s.n (byteAVs s.bytes) elem true fun b=>.sl b 0 s.n 1 none
 |_=>.no 70
theorem x_cvSB {call:CallT} {ρ:XO→AV} {h:Heap} {e:Nat} {x:XO}:xop call ρ h (.g (.cvSB e x))=cvSBV e (ρ x) h:=rfl
def sbH (l:List UInt8):Heap:=Heap.empty.new (.cells l.length .undef (wr .nil (byteAVs (l.map UInt8.toNat)) 0) 5 true)
theorem cvSB_of {l:List UInt8}:cvSBV 5 (.str (BStr.ofBytes l)) Heap.empty=.ok (.sl 0 0 l.length 1 none) (sbH l):=by
 show newCells Heap.empty (BStr.ofBytes l).n (byteAVs (BStr.ofBytes l).bytes) 5 true (fun b=>.sl b 0 (BStr.ofBytes l).n 1 none)=_
 rw [BStr.ofBytes_n,show (BStr.ofBytes l).bytes=l.map UInt8.toNat from BStr.bytes_eq l];rfl
theorem byteAVs_drop:∀ (l:List UInt8) (i:Nat) (c:UInt8) (r:List UInt8),l.drop i=c::r→(byteAVs (l.map UInt8.toNat))[i]? =some (.int .u8 ((c.toNat:Nat):Int))
 |[],i,c,r,h=>by rw [List.drop_nil] at h;cases h
 |a::l,0,c,r,h=>by cases h;rfl
 |a::l,i+1,c,r,h=>by
  rw [List.drop_succ_cons] at h
  show (byteAVs (l.map UInt8.toNat))[i]? =_
  exact byteAVs_drop l i c r h
theorem sbH_cell {l:List UInt8} {i:Nat} {c:UInt8} {r:List UInt8} (h:l.drop i=c::r):(sbH l).cell 0 i=.int .u8 ((c.toNat:Nat):Int):=by
 have hi:=(drop_cons h).1
 show ((wr .nil (byteAVs (l.map UInt8.toNat)) 0).get i).getD .undef=_
 rw [get_wr,if_pos ⟨Nat.zero_le _,by rw [byteAVs_len,List.length_map];omega⟩,Nat.sub_zero,byteAVs_drop l i c r h];rfl
theorem sbH_len {l:List UInt8}:(sbH l).len 0=l.length:=rfl
end Go.Proofs.YtmadknpaljaecaaGreatDoor.Ev
namespace Go.Proofs.YtmadknpaljaecaaGreatDoor.Ev.D
open Go Go.Proofs.YtmadknpaljaecaaGreatDoor.Ev
set_option maxRecDepth 100000
theorem s110 {l:List UInt8} (h1:l.length≤10) (hne:l≠[]) (hd:l.all Rf.isD=true) (h:Heap):Does C 110 [.str (BStr.ofBytes l)] h (.tup [.int .i64 (Rf.dval l 0:Nat),.nilIf]) h:=by
 refine does_pure (fn:=X110) rfl rfl rfl (mapO_cons conv_str mapO_nil) ?_
 have hp:0 < l.length:=List.length_pos_iff.2 hne
 obtain ⟨c0,r0,hl0⟩:∃ c r,l=c::r:=by
  cases l with
  |nil=>exact (hne rfl).elim
  |cons c r=>exact ⟨c,r,rfl⟩
 have hc0:48≤c0.toNat∧c0.toNat≤57:=by
  rw [hl0,List.all_cons,Bool.and_eq_true] at hd
  exact isD_iff.1 hd.1
 have ix:=fun h=>ixS_drop (h:=h) (k:=.i64) (l:=l) (i:=0) (c:=c0) (r:=r0) hl0
 have e45:=decide_eq_false (show ¬ ((c0.toNat:Nat):Int)=45 by omega)
 have e43:=decide_eq_false (show ¬ ((c0.toNat:Nat):Int)=43 by omega)
 have ix':∀ h,ixSV (.str (BStr.ofBytes l)) (.int .i64 0) h=.ok (.int .u8 ((c0.toNat:Nat):Int)) h:=ix
 simp only [X110]
 simp (decide:=true) only [BZ,decide_eq_true (show (0:Int) < (l.length:Int) by omega),decide_eq_true (show (l.length:Int) < 19 by omega),ix',e45,e43,x_cvSB,cvSB_of]
 refine go_lp (fun n env h=>h=sbH l∧∃ i rest,l.drop i=rest∧n=rest.length∧i≤l.length∧env.at 0=.str (BStr.ofBytes l)∧env.at 5=.str (BStr.ofBytes l)∧env.at 6=.int .i64 (Rf.dval (l.take i) 0:Nat)∧env.at 47=.sl 0 0 l.length 1 none∧env.at 48=.int .i64 (l.length:Int)∧env.at 49=.int .i64 (i:Int))
  (fun env h=>env.at 5=.str (BStr.ofBytes l)∧env.at 6=.int .i64 (Rf.dval l 0:Nat)) (n:=l.length) ⟨rfl,0,l,rfl,rfl,Nat.zero_le _,?_⟩ ?_ ?_
 ·simp (decide:=true) only [BZ]
  all_goals first|rfl|trivial
 ·rintro n env h1 ⟨rfl,i,rest,hdr,rfl,hi,a0,a5,a6,a47,a48,a49⟩
  cases rest with
  |nil=>
   have:=drop_nil hdr
   rw [List.take_of_length_le this] at a6
   simp (decide:=true) only [BZ,a0,a5,a6,a47,a48,a49,decide_eq_false (show ¬ (i:Int) < (l.length:Int) by omega)]
  |cons c r=>
   obtain ⟨hil,hc,hd'⟩:=drop_cons hdr
   have hcd:48≤c.toNat∧c.toNat≤57:=isD_iff.1 (List.all_eq_true.1 hd c (List.mem_of_getElem? hc))
   have w1:wrapF .i64 ((i:Int)+1)=((i+1:Nat):Int):=by rw [i64_wrap (by omega) (by omega)];rfl
   have hlt:=decide_eq_true (show (i:Int) < (l.length:Int) by omega)
   have wd:wrapF .u8 (((c.toNat:Nat):Int) - 48)=((c.toNat - 48:Nat):Int):=by
    rw [show ((c.toNat:Nat):Int) - 48=((c.toNat - 48:Nat):Int) by omega]
    show ((c.toNat - 48:Nat):Int) % 256=_
    omega
   have wi:wrapF .i64 ((c.toNat - 48:Nat):Int)=((c.toNat - 48:Nat):Int):=i64_wrap (by omega) (by omega)
   have hv:Rf.dval (l.take (i+1)) 0=Rf.dval (l.take i) 0*10+(c.toNat - 48):=by
    rw [List.take_succ,hc,Rf.dval_append];rfl
   have hvb:Rf.dval (l.take (i+1)) 0 < 10 ^ 10:=by
    refine Nat.lt_of_lt_of_le (Rf.dval_lt _ ?_) (Nat.pow_le_pow_right (by decide) (by rw [List.length_take];omega))
    rw [List.all_eq_true] at hd ⊢
    exact fun x hx=>hd x (List.mem_of_mem_take hx)
   have hvb2:Rf.dval (l.take i) 0*10+(c.toNat - 48) < 10000000000:=by rw [← hv];exact hvb
   obtain ⟨V,hV⟩:∃ V,Rf.dval (l.take i) 0=V:=⟨_,rfl⟩
   rw [hV] at hv hvb2 a6
   have wm:wrapF .i64 ((V:Int)*10)=((V*10:Nat):Int):=by rw [i64_wrap (by omega) (by omega)];omega
   have wa:wrapF .i64 (((V*10:Nat):Int)+((c.toNat - 48:Nat):Int))=((V*10+(c.toNat - 48):Nat):Int):=by rw [i64_wrap (by omega) (by omega)];omega
   have ld:=ld1_cell (h:=sbH l) (b:=0) (i:=i) (by rw [sbH_len];exact hil)
   rw [sbH_cell hdr] at ld
   simp (decide:=true) only [BZ,a0,a5,a6,a47,a48,a49,hlt,iaS_sl hil,Nat.mul_one,ld,wd,decide_eq_false (show ¬ (9:Int) < ((c.toNat - 48:Nat):Int) by omega),wi,wm,wa,w1]
   refine ⟨r.length,Nat.lt_succ_self _,i+1,r,hd',rfl,hil,?_,rfl⟩
   rw [hv]
 ·rintro env h1 ⟨a5,a6⟩
  simp (decide:=true) only [BZ,a5,a6,ix',e45]
  try exact ⟨rfl,rfl⟩
theorem s61 {l:List UInt8} (h1:l.length≤10) (hne:l≠[]) (hd:l.all Rf.isD=true) (h:Heap):Does C 61 [.str (BStr.ofBytes l)] h (.tup [.int .i64 (Rf.dval l 0:Nat),.nilIf]) h:=by
 refine does_pure (fn:=X61) rfl rfl rfl (mapO_cons conv_str mapO_nil) ?_
 have q1:∀ n ts h,eqGV n (.iface true ts) .nilIf .nilIf h=.ok (.bool (bif n then false else true)) h:=fun n ts h=>by cases n <;> rfl
 simp (decide:=true) only [BZ,X61,callG_of (s110 h1 hne hd _),q1,cond_true]
 try exact ⟨rfl,rfl⟩
end Go.Proofs.YtmadknpaljaecaaGreatDoor.Ev.D
namespace Go.Proofs.YtmadknpaljaecaaGreatDoor.Rf
theorem dAt_full {l:List UInt8} (h:dAt l=l.length):l.all isD=true:=by
 have:=dAt_all l
 rwa [h,List.take_length] at this
structure Num where
 w:List UInt8
 p:List UInt8
 pt:Bool
 tail:List UInt8
 r:List UInt8
def Num.mant (n:Num):List UInt8:=n.w++(if n.pt then 46::n.p else [])
structure Num.ok (n:Num) (b:List UInt8):Prop where
 eq:b=n.mant++n.tail
 pt0:n.pt=false→n.p=[]
 wd:n.w.all isD=true
 pd:n.p.all isD=true
 ne:n.w≠[]∨n.p≠[]
 tl:(n.tail=[]∧n.r=[])∨∃ c:UInt8,(c.toNat=101∨c.toNat=69)∧n.tail=c::n.r∧sgnD n.r≠[]
 rd:(sgnD n.r).all isD=true
theorem isNum_shape {l:List UInt8} (h:isNum l=true):∃ n:Num,n.ok (sgnD l)∧expo n.tail=some (n.r.head? == some 45,sgnD n.r)∧n.w=(parts (sgnD l)).w∧n.p=(parts (sgnD l)).p∧n.tail=(parts (sgnD l)).rest:=by
 unfold isNum at h
 obtain ⟨b,hb⟩:∃ b,sgnD l=b:=⟨_,rfl⟩
 rw [hb] at h ⊢
 rw [Bool.and_eq_true] at h
 obtain ⟨h1,h2⟩:=h
 have hshape:∃ pt,b=(parts b).w++(if pt then 46::(parts b).p else [])++(parts b).rest∧(pt=false→(parts b).p=[])∧(parts b).w.all isD=true∧(parts b).p.all isD=true:=by
  have hb:=List.take_append_drop (dAt b) b
  have hw:=dAt_all b
  cases hd:b.drop (dAt b) with
  |nil=>
   have e:parts b=⟨b.take (dAt b),false,[],[]⟩:=by unfold parts;rw [hd]
   rw [e]
   rw [hd,List.append_nil] at hb
   exact ⟨false,by simp [hb],fun _=>rfl,hw,rfl⟩
  |cons c q=>
   rw [hd] at hb
   by_cases h46:c=46
   ·subst h46
    have e:parts b=⟨b.take (dAt b),true,q.take (dAt q),q.drop (dAt q)⟩:=by unfold parts;rw [hd];rfl
    rw [e]
    refine ⟨true,?_,(fun h=>by cases h),hw,dAt_all q⟩
    simp only [if_true,List.append_assoc,List.cons_append,List.take_append_drop]
    exact hb.symm
   ·have e:parts b=⟨b.take (dAt b),false,[],c::q⟩:=by unfold parts;rw [hd];simp only;rw [if_neg h46]
    rw [e]
    exact ⟨false,by simp [hb],fun _=>rfl,hw,rfl⟩
 obtain ⟨pt,e1,e2,e3,e4⟩:=hshape
 have hne:(parts b).w≠[]∨(parts b).p≠[]:=by
  by_cases hw:(parts b).w=[]
  ·refine .inr fun hp=>?_
   rw [hw,hp] at h1
   simp at h1
  ·exact .inl hw
 cases hr:(parts b).rest with
 |nil=>
  rw [hr] at e1
  exact ⟨⟨(parts b).w,(parts b).p,pt,[],[]⟩,⟨e1,e2,e3,e4,hne,.inl ⟨rfl,rfl⟩,rfl⟩,rfl,rfl,rfl,rfl⟩
 |cons c r=>
  rw [hr] at h2 e1
  have hx:expo (c::r)=(if c.toNat=101∨c.toNat=69 then (if sgnD r≠[]∧dAt (sgnD r)=(sgnD r).length then some (r.head? == some 45,sgnD r) else none) else none):=rfl
  by_cases hc:c.toNat=101∨c.toNat=69
  ·rw [if_pos hc] at hx
   by_cases hs:sgnD r≠[]∧dAt (sgnD r)=(sgnD r).length
   ·rw [if_pos hs] at hx
    exact ⟨⟨(parts b).w,(parts b).p,pt,c::r,r⟩,⟨e1,e2,e3,e4,hne,.inr ⟨c,hc,rfl,hs.1⟩,dAt_full hs.2⟩,hx,rfl,rfl,rfl⟩
   ·rw [if_neg hs] at hx;rw [hx] at h2;cases h2
  ·rw [if_neg hc] at hx;rw [hx] at h2;cases h2
theorem isD_bnd {c:UInt8} (h:isD c=true):48≤c.toNat∧c.toNat≤57:=by
 unfold isD at h;simpa using h
theorem low_id {l:List UInt8} (h:∀ c∈l,c.toNat≤57):l.map low=l:=by
 induction l with
 |nil=>rfl
 |cons a r ih=>
  rw [List.map_cons,ih fun c hc=>h c (List.mem_cons_of_mem _ hc)]
  have:=h a (List.mem_cons_self ..)
  rw [low,if_neg (by omega)]
theorem sgn_small {r:List UInt8} (h:(sgnD r).all isD=true):∀ c∈r,c.toNat≤57:=by
 intro c hc
 cases r with
 |nil=>cases hc
 |cons a q=>
  rw [sgnD] at h
  by_cases ha:a.toNat=43∨a.toNat=45
  ·rw [if_pos ha] at h
   rcases List.mem_cons.1 hc with rfl|hm
   ·omega
   ·exact (isD_bnd (List.all_eq_true.1 h c hm)).2
  ·rw [if_neg ha] at h
   exact (isD_bnd (List.all_eq_true.1 h c hc)).2
theorem mant_small {n:Num} {b:List UInt8} (h:n.ok b):∀ c∈n.mant,c.toNat≤57:=by
 intro c hc
 unfold Num.mant at hc
 rcases List.mem_append.1 hc with hm|hm
 ·exact (isD_bnd (List.all_eq_true.1 h.wd c hm)).2
 ·cases hp:n.pt with
  |false=>rw [hp] at hm;cases hm
  |true=>
   rw [hp,if_pos rfl] at hm
   rcases List.mem_cons.1 hm with rfl|hm
   ·decide
   ·exact (isD_bnd (List.all_eq_true.1 h.pd c hm)).2
theorem num_ascii {n:Num} {b:List UInt8} (h:n.ok b):∀ c∈b,c.toNat < 128:=by
 intro c hc
 rw [h.eq] at hc
 rcases List.mem_append.1 hc with hm|hm
 ·have:=mant_small h c hm;omega
 ·rcases h.tl with ⟨e,_⟩|⟨a,ha,e,_⟩
  ·rw [e] at hm;cases hm
  ·rw [e] at hm
   rcases List.mem_cons.1 hm with rfl|hm
   ·omega
   ·have:=sgn_small h.rd c hm;omega
theorem num_cut {n:Num} {b:List UInt8} (h:n.ok b):cutA 101 (b.map low)=n.mant∧cutB 101 (b.map low)=n.r∧cutA 46 n.mant=n.w∧cutB 46 n.mant=n.p:=by
 have hm:=mant_small h
 have hne:∀ x∈n.mant,x≠101:=by
  rintro x hx rfl
  exact absurd (hm _ hx) (by decide)
 have hlow:b.map low=n.mant++n.tail.map low:=by rw [h.eq,List.map_append,low_id hm]
 have h46:∀ x∈n.w,x≠46:=by
  rintro x hx rfl
  exact absurd (List.all_eq_true.1 h.wd _ hx) (by decide)
 have second:cutA 46 n.mant=n.w∧cutB 46 n.mant=n.p:=by
  unfold Num.mant
  cases hp:n.pt with
  |false=>
   rw [if_neg (by decide),List.append_nil,h.pt0 hp]
   exact ⟨(cut_out h46).1,(cut_out h46).2.1⟩
  |true=>
   rw [if_pos rfl]
   exact ⟨(cut_in h46).1,(cut_in h46).2.1⟩
 rw [hlow]
 rcases h.tl with ⟨e,e2⟩|⟨a,ha,e,_⟩
 ·rw [e,e2,List.map_nil,List.append_nil]
  exact ⟨(cut_out hne).1,(cut_out hne).2.1,second⟩
 ·have hl:low a=101:=by
   rcases ha with ha|ha
   ·rw [low,if_neg (by omega)];exact UInt8.toNat_inj.1 ha
   ·rw [low,if_pos (by omega)]
    apply UInt8.toNat_inj.1
    rw [UInt8.toNat_add,ha];rfl
  rw [e,List.map_cons,hl,low_id (sgn_small h.rd)]
  exact ⟨(cut_in hne).1,(cut_in hne).2.1,second⟩
theorem tl_all {c:UInt8} {l:List UInt8} (h:l.all isD=true):(tl c l).all isD=true:=by
 induction l with
 |nil=>rfl
 |cons a r ih=>
  rw [tl]
  rw [List.all_cons,Bool.and_eq_true] at h
  split
  ·exact ih h.2
  ·rw [List.all_cons,h.1,h.2];rfl
theorem tl_dval {l:List UInt8}:dval (tl 48 l) 0=dval l 0:=by
 induction l with
 |nil=>rfl
 |cons a r ih=>
  rw [tl]
  split
  ·rename_i e;subst e;exact ih
  ·rfl
theorem tl_ge {l:List UInt8} (h:l.all isD=true) (hne:tl 48 l≠[]):10 ^ ((tl 48 l).length - 1)≤dval (tl 48 l) 0:=by
 induction l with
 |nil=>exact (hne rfl).elim
 |cons a r ih=>
  rw [List.all_cons,Bool.and_eq_true] at h
  rw [tl] at hne ⊢
  split
  ·rename_i e
   rw [if_pos e] at hne
   exact ih h.2 hne
  ·rename_i e
   have hb:=isD_bnd h.1
   have ha:49≤a.toNat:=by
    rcases Nat.eq_or_lt_of_le hb.1 with h0|h0
    ·exact (e (UInt8.toNat_inj.1 h0.symm)).elim
    ·exact h0
   rw [dval,dval_acc,List.length_cons,Nat.add_sub_cancel]
   have:1*10 ^ r.length≤(0*10+(a.toNat - 48))*10 ^ r.length:=Nat.mul_le_mul_right _ (by omega)
   omega
theorem it3_all {k:Nat} (h:k≤400):(it3 k).all isD=true∧it3 k≠[]∧dval (it3 k) 0=k:=by
 have hn:∀ x,x < 10→(UInt8.ofNat (48+x)).toNat=48+x:=fun x hx=>by
  rw [UInt8.toNat_ofNat',Nat.mod_eq_of_lt (by omega)]
 have hD:∀ x,x < 10→isD (UInt8.ofNat (48+x))=true:=fun x hx=>by
  unfold isD;rw [hn x hx];simp;omega
 unfold it3
 split
 ·refine ⟨by simp only [List.all_cons,List.all_nil,hD k (by omega),Bool.and_self],by simp,?_⟩
  simp only [dval,hn k (by omega)];omega
 ·split
  ·refine ⟨by simp only [List.all_cons,List.all_nil,hD (k / 10) (by omega),hD (k % 10) (by omega),Bool.and_self],by simp,?_⟩
   simp only [dval,hn (k / 10) (by omega),hn (k % 10) (by omega)];omega
  ·refine ⟨by simp only [List.all_cons,List.all_nil,hD (k / 100) (by omega),hD (k / 10 % 10) (by omega),hD (k % 10) (by omega),Bool.and_self],by simp,?_⟩
   simp only [dval,hn (k / 100) (by omega),hn (k / 10 % 10) (by omega),hn (k % 10) (by omega)];omega
theorem near_hi {D n:Nat} {P:Int} (hn:0 < n) (hD:10 ^ (n - 1)≤D) (hP:311 < P):Us.Near (Us.nn D (P - n)) (Us.mm (P - n)) Fl.inf:=by
 have hm:0 < D / 10 ^ (n - 1):=Nat.div_pos hD (Nat.pow_pos (by decide))
 have:=near_cut (m:=D / 10 ^ (n - 1)) (k:=n - 1) (ρ:=D % 10 ^ (n - 1)) (p:=P - 1) (Nat.mod_lt _ (Nat.pow_pos (by decide))) (near_top hm (by omega)) (near_top (Nat.succ_pos _) (by omega))
 rw [Nat.mul_comm,Nat.div_add_mod,show P - 1 - ((n - 1:Nat):Int)=P - n by omega] at this
 exact this
theorem near_lo {D n:Nat} {P:Int} (hD:D < 10 ^ n) (hP:P < -345):Us.Near (Us.nn D (P - n)) (Us.mm (P - n)) 0:=by
 have:=near_bot (m:=0) (k:=n) (ρ:=D) (p:=P) (Nat.pow_pos (by decide)) hD hP
 rwa [Nat.zero_mul,Nat.zero_add] at this
theorem near_clamp {D n r:Nat} {c P:Int} (hn:0 < n) (h1:10 ^ (n - 1)≤D) (h2:D < 10 ^ n) (hc:c=P∨(c=400∧400 < P)∨(c=-400∧P < -400)) (H:Us.Near (Us.nn D (c - n)) (Us.mm (c - n)) r):Us.Near (Us.nn D (P - n)) (Us.mm (P - n)) r:=by
 rcases hc with rfl|⟨rfl,h⟩|⟨rfl,h⟩
 ·exact H
 ·have e:=Us.Near.uniq (Us.mm_pos _) H (near_hi hn h1 (by omega))
  rw [e];exact near_hi hn h1 (by omega)
 ·have e:=Us.Near.uniq (Us.mm_pos _) H (near_lo h2 (by omega))
  rw [e];exact near_lo h2 (by omega)
end Go.Proofs.YtmadknpaljaecaaGreatDoor.Rf
namespace Go.Proofs.YtmadknpaljaecaaGreatDoor.Ev.D
open Go Go.Proofs.YtmadknpaljaecaaGreatDoor.Ev
set_option maxRecDepth 100000
theorem itz_post {c:Int} (h1:-400≤c) (h2:c≤400):Post (101::Rf.itz c) c∧(Rf.itz c).length≤4:=by
 obtain ⟨k,hk⟩:∃ k,c.natAbs=k:=⟨_,rfl⟩
 obtain ⟨a1,a2,a3⟩:=Rf.it3_all (k:=k) (by omega)
 have ex:Rf.exv (Rf.it3 k) 0=k:=by rw [Rf.exv_small _ _ a1 (by omega),a3]
 have hl:(Rf.it3 k).length≤3:=by unfold Rf.it3;split <;> (try split) <;> simp
 unfold Rf.itz
 rw [hk]
 split
 ·refine ⟨.inr ⟨Rf.it3 k,a2,a1,.inr ⟨rfl,?_⟩⟩,by simpa using hl⟩
  rw [ex];omega
 ·refine ⟨.inr ⟨Rf.it3 k,a2,a1,.inl ⟨rfl,?_⟩⟩,by omega⟩
  rw [ex];omega
theorem near_text {t:List UInt8} {c:Int} (ht:t.all Rf.isD=true) (hl:t.length≤400) (h1:-400≤c) (h2:c≤400):
  ∃ r e2,(Rf.dval t 0=0→r=0)∧(0 < Rf.dval t 0→Us.Near (Us.nn (Rf.dval t 0) (c - t.length)) (Us.mm (c - t.length)) r)∧∀ h,Does C 96 [.str (BStr.ofBytes ([48,46]++t++[101]++Rf.itz c)),.int .i64 64] h (.tup [.float .f64 r,e2]) h:=by
 obtain ⟨hp,hil⟩:=itz_post h1 h2
 obtain ⟨f1,f2,f3⟩:=Rf.fin_point [48] t (by decide) ht
 have hdv:dvp ([48]++46::t) 0=Rf.dval t 0:=by rw [dvp_point [48] t 0 (by decide) ht];rfl
 rw [show Rf.dval ([48]++t) 0=Rf.dval t 0 from rfl,← hdv] at f1
 have hnd:(Rf.fin Rf.st0 ([48]++46::t)).nd≤t.length:=by
  rcases Nat.eq_zero_or_pos (Rf.fin Rf.st0 ([48]++46::t)).nd with h0|h0
  ·omega
  ·have g:=f1.ge h0
   rw [hdv] at g
   have g2:=Rf.dval_lt t ht
   have:=(Nat.pow_lt_pow_iff_right (show 1 < 10 by decide)).1 (Nat.lt_of_le_of_lt g g2)
   omega
 have hdp:=f1.dp f2
 have hdpF:dpF (Rf.fin Rf.st0 ([48]++46::t))=((Rf.fin Rf.st0 ([48]++46::t)).nd:Int) - t.length:=by
  unfold dpF;rw [if_pos f2];omega
 obtain ⟨r,err,r1,r2,r3,r4⟩:=s233 (l:=[48,46]++t++[101]++Rf.itz c) (mant:=[48]++46::t) (post:=101::Rf.itz c) (x:=c) (n0:=t.length) (c0:=48) (r0:=46::t++[101]++Rf.itz c)
  (by simp;omega) (by simp) (Rf.okM_point [48] t (by decide) ht) (f3 (.inl (by simp))) hp f1 (by omega) (by omega) (by omega) (by simp) (by decide) (by decide)
 rw [hdv,hdpF] at r2
 rw [hdv] at r1
 rw [show ((Rf.fin Rf.st0 ([48]++46::t)).nd:Int) - t.length+c - (Rf.fin Rf.st0 ([48]++46::t)).nd=c - t.length by omega] at r2
 obtain ⟨e2,he2⟩:=s96 (l:=[48,46]++t++[101]++Rf.itz c) (by simp;omega) r3 r4
 exact ⟨r,e2,r1,r2,he2⟩
theorem clampI (P:Int):max (-400) (min 400 P)=if P < -400 then -400 else if 400 < P then 400 else P:=by
 split
 ·omega
 ·split <;> omega
end Go.Proofs.YtmadknpaljaecaaGreatDoor.Ev.D
namespace Go.Proofs.YtmadknpaljaecaaGreatDoor.Ev.D
open Go Go.Proofs.YtmadknpaljaecaaGreatDoor.Ev
set_option maxRecDepth 100000
def expN (n:Rf.Num):Int:=if n.r.head? == some 45 then -((Rf.dval (Rf.sgnD n.r) 0:Nat):Int) else ((Rf.dval (Rf.sgnD n.r) 0:Nat):Int)
theorem preB45 {r:List UInt8}:Rf.tl 48 r=Rf.tl 48 r∧preB r [45]=(r.head? == some 45):=by
 refine ⟨rfl,?_⟩
 rw [pre1]
 cases r with
 |nil=>rfl
 |cons a q=>
  show decide (a=45)=(some a == some 45)
  rw [Bool.eq_iff_iff];simp
theorem s52 {l:List UInt8} (hl:l.length≤400) (hne:l≠[]) {n:Rf.Num} (N:n.ok (Rf.sgnD l)):
  ∃ r,(Rf.dval (n.w++n.p) 0=0→r=0)∧(0 < Rf.dval (n.w++n.p) 0→Us.Near (Us.nn (Rf.dval (n.w++n.p) 0) (expN n - n.p.length)) (Us.mm (expN n - n.p.length)) r)∧
   ∀ h,Does C 52 [.str (BStr.ofBytes l)] h (.float .f64 (bif l.head? == some 45 then Go.Op.negFloat .f64 r else r)) h:=by
 obtain ⟨k1,k2,k3,k4⟩:=Rf.num_cut N
 have hb:=Rf.sgnD_len l
 have hbl:((Rf.sgnD l).map Rf.low).length≤400:=by rw [List.length_map];omega
 have hmt:n.mant.length≤400∧n.r.length≤400:=by
  have h1:(Rf.sgnD l).length=n.mant.length+n.tail.length:=by rw [N.eq,List.length_append]
  rcases N.tl with ⟨e,e2⟩|⟨a,_,e,_⟩
  ·rw [e2];simp;omega
  ·rw [e,List.length_cons] at h1;omega
 have hwp:n.w.length+n.p.length≤400:=by
  have h1:n.w.length+n.p.length≤n.mant.length:=by
   unfold Rf.Num.mant
   rw [List.length_append]
   cases hp:n.pt with
   |false=>rw [N.pt0 hp];simp
   |true=>simp
  omega
 have hwd:(n.w++n.p).all Rf.isD=true:=by rw [List.all_append,N.wd,N.pd];rfl
 have htd:(Rf.tl 48 (n.w++n.p)).all Rf.isD=true:=Rf.tl_all hwd
 have htv:Rf.dval (Rf.tl 48 (n.w++n.p)) 0=Rf.dval (n.w++n.p) 0:=Rf.tl_dval
 have htl:(Rf.tl 48 (n.w++n.p)).length≤400:=by
  have:=Rf.tl_len 48 (n.w++n.p)
  rw [List.length_append] at this;omega
 have htge:Rf.tl 48 (n.w++n.p)≠[]→10 ^ ((Rf.tl 48 (n.w++n.p)).length - 1)≤Rf.dval (n.w++n.p) 0:=fun h=>by
  have:=Rf.tl_ge hwd h
  rwa [htv] at this
 have htlt:Rf.dval (n.w++n.p) 0 < 10 ^ (Rf.tl 48 (n.w++n.p)).length:=by rw [← htv];exact Rf.dval_lt _ htd
 obtain ⟨t,ht⟩:∃ t,Rf.tl 48 (n.w++n.p)=t:=⟨_,rfl⟩
 rw [ht] at htd htv htl htge htlt
 obtain ⟨D,hD⟩:∃ D,Rf.dval (n.w++n.p) 0=D:=⟨_,rfl⟩
 rw [hD] at htv htge htlt ⊢
 have hrd:=N.rd
 have hrs:(Rf.sgnD n.r).length≤400:=Nat.le_trans (Rf.sgnD_len _) hmt.2
 have hev:Rf.dval (Rf.tl 48 (Rf.sgnD n.r)) 0=Rf.dval (Rf.sgnD n.r) 0:=Rf.tl_dval
 have hed:(Rf.tl 48 (Rf.sgnD n.r)).all Rf.isD=true:=Rf.tl_all hrd
 have hel:(Rf.tl 48 (Rf.sgnD n.r)).length≤400:=Nat.le_trans (Rf.tl_len _ _) hrs
 have hege:Rf.tl 48 (Rf.sgnD n.r)≠[]→10 ^ ((Rf.tl 48 (Rf.sgnD n.r)).length - 1)≤Rf.dval (Rf.sgnD n.r) 0:=fun h=>by
  have:=Rf.tl_ge hrd h
  rwa [hev] at this
 obtain ⟨ds,hds⟩:∃ ds,Rf.tl 48 (Rf.sgnD n.r)=ds:=⟨_,rfl⟩
 obtain ⟨ex,hex⟩:∃ ex,Rf.dval (Rf.sgnD n.r) 0=ex:=⟨_,rfl⟩
 rw [hds] at hev hed hel hege
 rw [hex] at hev hege
 obtain ⟨ng,hng⟩:∃ ng,(n.r.head? == some 45)=ng:=⟨_,rfl⟩
 have hE:expN n=if ng then -(ex:Int) else (ex:Int):=by unfold expN;rw [hng,hex]
 rw [hE]
 clear hE
 obtain ⟨a0,l0,hl0⟩:∃ a r,l=a::r:=by
  cases l with
  |nil=>exact (hne rfl).elim
  |cons a r=>exact ⟨a,r,rfl⟩
 have ixl:∀ h,ixSV (.str (BStr.ofBytes l)) (.int .i64 0) h=.ok (.int .u8 ((a0.toNat:Nat):Int)) h:=fun h=>ixS_drop (k:=.i64) (l:=l) (i:=0) (c:=a0) (r:=l0) hl0
 have hmi:decide (((a0.toNat:Nat):Int)=45)=(l.head? == some 45):=by
  rw [hl0]
  show _=(some a0 == some 45)
  rw [Bool.eq_iff_iff]
  simp only [decide_eq_true_eq,beq_iff_eq,Option.some.injEq]
  constructor
  ·intro h;exact UInt8.toNat_inj.1 (by show a0.toNat=45;omega)
  ·rintro rfl;rfl
 obtain ⟨x,hx1,hx2⟩:∃ x:Int,(ds.length < 10→x=ex)∧(¬ ds.length < 10→x=1073741824):=by
  by_cases h:ds.length < 10
  ·exact ⟨ex,fun _=>rfl,fun h2=>(h2 h).elim⟩
  ·exact ⟨1073741824,fun h2=>(h h2).elim,fun _=>rfl⟩
 have hxb:0≤x∧x≤1073741824∧(x=ex∨(x=1073741824∧1000000000≤ex)):=by
  by_cases h:ds.length < 10
  ·rw [hx1 h]
   have h1:ex < 10 ^ ds.length:=by rw [← hev];exact Rf.dval_lt _ hed
   have h2:10 ^ ds.length≤10 ^ 9:=Nat.pow_le_pow_right (by decide) (by omega)
   exact ⟨by omega,by omega,.inl rfl⟩
  ·rw [hx2 h]
   have h1:=hege (fun e=>by rw [e] at h;exact h (by decide))
   have h2:10 ^ 9≤10 ^ (ds.length - 1):=Nat.pow_le_pow_right (by decide) (by omega)
   exact ⟨by omega,by omega,.inr ⟨rfl,by omega⟩⟩
 obtain ⟨y,hy⟩:∃ y:Int,(if ng then -x else x)=y:=⟨_,rfl⟩
 have hyb:-1073741824≤y∧y≤1073741824:=by rw [← hy];split <;> omega
 obtain ⟨c,hc⟩:∃ c:Int,max (-400) (min 400 ((t.length:Int) - n.p.length+y))=c:=⟨_,rfl⟩
 have hcb:-400≤c∧c≤400:=by omega
 have hcP:c=(t.length:Int) - n.p.length+(if ng then -(ex:Int) else (ex:Int))∨(c=400∧400 < (t.length:Int) - n.p.length+(if ng then -(ex:Int) else (ex:Int)))∨(c=-400∧(t.length:Int) - n.p.length+(if ng then -(ex:Int) else (ex:Int)) < -400):=by
  rcases hxb.2.2 with h|⟨h,h'⟩
  ·rw [← hc,← hy,h];omega
  ·rw [← hc,← hy,h]
   cases ng
   ·rw [if_neg (by decide),if_neg (by decide)];omega
   ·rw [if_pos rfl,if_pos rfl];omega
 obtain ⟨r,e2,r1,r2,r3⟩:=near_text (t:=t) (c:=c) htd htl hcb.1 hcb.2
 rw [htv] at r1 r2
 refine ⟨r,r1,fun hp=>?_,fun h=>?_⟩
 ·have htn:t≠[]:=fun e=>by rw [e] at htlt;simp at htlt;omega
  have:=Rf.near_clamp (n:=t.length) (List.length_pos_iff.2 htn) (htge htn) htlt hcP (r2 hp)
  rwa [show (t.length:Int) - n.p.length+(if ng then -(ex:Int) else (ex:Int)) - t.length=(if ng then -(ex:Int) else (ex:Int)) - n.p.length by omega] at this
 refine does_pure (fn:=X52) rfl rfl rfl (mapO_cons conv_str mapO_nil) ?_
 have c78:=fun h=>s78 (l:=l) h
 have c104:=fun h=>s104 (l:=Rf.sgnD l) (by omega) (Rf.num_ascii N) h
 have c35a:∀ h,Does C 35 [.str (BStr.ofBytes ((Rf.sgnD l).map Rf.low)),.str ⟨1,101⟩] h (.tup [.str (BStr.ofBytes n.mant),.str (BStr.ofBytes n.r),.bool (Rf.cutF 101 ((Rf.sgnD l).map Rf.low))]) h:=fun h=>by
  have:=s35 (l:=(Rf.sgnD l).map Rf.low) (c:=101) (by omega) h
  rwa [k1,k2] at this
 have c35b:∀ h,Does C 35 [.str (BStr.ofBytes n.mant),.str ⟨1,46⟩] h (.tup [.str (BStr.ofBytes n.w),.str (BStr.ofBytes n.p),.bool (Rf.cutF 46 n.mant)]) h:=fun h=>by
  have:=s35 (l:=n.mant) (c:=46) (by omega) h
  rwa [k3,k4] at this
 have c105a:∀ h,Does C 105 [.str (BStr.ofBytes (n.w++n.p)),.str ⟨1,48⟩] h (.str (BStr.ofBytes t)) h:=fun h=>by
  have:=s105 (l:=n.w++n.p) (c:=48) (by decide) (by rw [List.length_append];omega) h
  rwa [ht] at this
 have c105b:∀ h,Does C 105 [.str (BStr.ofBytes (Rf.sgnD n.r)),.str ⟨1,48⟩] h (.str (BStr.ofBytes ds)) h:=fun h=>by
  have:=s105 (l:=Rf.sgnD n.r) (c:=48) (by decide) (by omega) h
  rwa [hds] at this
 have c32:∀ h,Does C 32 [.str (BStr.ofBytes n.r),.str ⟨1,45⟩] h (.bool ng) h:=fun h=>by
  have:=s32 (l:=n.r) (p:=[45]) h
  rwa [preB45.2,hng] at this
 have c78b:=fun h=>s78 (l:=n.r) h
 have c61:ds.length < 10→∀ h,Does C 61 [.str (BStr.ofBytes (48::ds))] h (.tup [.int .i64 x,.nilIf]) h:=fun hlt h=>by
  have:=s61 (l:=48::ds) (by rw [List.length_cons];omega) (by simp) (by rw [List.all_cons,hed];rfl) h
  rwa [show Rf.dval (48::ds) 0=ex from hev,← hx1 hlt] at this
 have c62:=fun h=>s62 hcb.1 hcb.2 h
 obtain ⟨_,hzl⟩:=itz_post hcb.1 hcb.2
 have ms:∀ k,k≤1000→k≤maxStr:=fun k hk=>Nat.le_trans hk (by decide)
 have a1:binV .add (.str (BStr.ofBytes n.w)) (.str (BStr.ofBytes n.p))=some (.str (BStr.ofBytes (n.w++n.p))):=sadd_of (ms _ (by omega))
 have a2:binV .add (.str ⟨1,48⟩) (.str (BStr.ofBytes ds))=some (.str (BStr.ofBytes (48::ds))):=sadd_of (a:=[48]) (ms _ (by simp;omega))
 have a3:binV .add (.str ⟨2,12334⟩) (.str (BStr.ofBytes t))=some (.str (BStr.ofBytes ([48,46]++t))):=sadd_of (a:=[48,46]) (ms _ (by simp;omega))
 have a4:binV .add (.str (BStr.ofBytes ([48,46]++t))) (.str ⟨1,101⟩)=some (.str (BStr.ofBytes ([48,46]++t++[101]))):=sadd_of (b:=[101]) (ms _ (by simp;omega))
 have a5:binV .add (.str (BStr.ofBytes ([48,46]++t++[101]))) (.str (BStr.ofBytes (Rf.itz c)))=some (.str (BStr.ofBytes ([48,46]++t++[101]++Rf.itz c))):=sadd_of (ms _ (by simp;omega))
 have w1:wrapF .i64 ((t.length:Int) - n.p.length)=(t.length:Int) - n.p.length:=i64_wrap (by omega) (by omega)
 have w2:wrapF .i64 ((t.length:Int) - n.p.length+y)=(t.length:Int) - n.p.length+y:=i64_wrap (by omega) (by omega)
 have w3:wrapF .i64 (0 - x)=-x:=by rw [i64_wrap (by omega) (by omega)];omega
 have g780:=decide_eq_false (show ¬ (780:Int) < (t.length:Int) by omega)
 have mid:∀ (env:T AV),env.at 3=.bool (l.head? == some 45)→env.at 10=.str (BStr.ofBytes t)→env.at 11=.int .i64 ((t.length:Int) - n.p.length)→env.at 12=.bool ng→env.at 13=.int .i64 x→
   GoP C [.c (seqT 10 X52.body)] env .empty (Back [.tmp 2] true (.float .f64 (bif l.head? == some 45 then Go.Op.negFloat .f64 r else r))):=by
  intro env e3 e10 e11 e12 e13
  simp only [X52,seqT]
  cases hn:ng with
  |true=>
   rw [hn] at e12 hy
   rw [if_pos rfl] at hy
   subst hy
   cases hm:(l.head? == some 45) with
   |true=>
    rw [hm] at e3
    simp (decide:=true) only [BZ,e3,e10,e11,e12,e13,w3,w2,List.map_cons,List.map_nil,hc,g780,a3,a4,a5,callG_of (c62 _),callG_of (r3 _),cond_true]
   |false=>
    rw [hm] at e3
    simp (decide:=true) only [BZ,e3,e10,e11,e12,e13,w3,w2,List.map_cons,List.map_nil,hc,g780,a3,a4,a5,callG_of (c62 _),callG_of (r3 _),cond_false]
  |false=>
   rw [hn] at e12 hy
   rw [if_neg (by decide)] at hy
   subst hy
   cases hm:(l.head? == some 45) with
   |true=>
    rw [hm] at e3
    simp (decide:=true) only [BZ,e3,e10,e11,e12,e13,w2,List.map_cons,List.map_nil,hc,g780,a3,a4,a5,callG_of (c62 _),callG_of (r3 _),cond_true]
   |false=>
    rw [hm] at e3
    simp (decide:=true) only [BZ,e3,e10,e11,e12,e13,w2,List.map_cons,List.map_nil,hc,g780,a3,a4,a5,callG_of (c62 _),callG_of (r3 _),cond_false]
 have eX:X52.body=.seq (seqH X52.body) (.seq (seqH (seqT 1 X52.body)) (.seq (seqH (seqT 2 X52.body)) (.seq (seqH (seqT 3 X52.body)) (.seq (seqH (seqT 4 X52.body)) (.seq (seqH (seqT 5 X52.body)) (.seq (seqH (seqT 6 X52.body)) (.seq (seqH (seqT 7 X52.body)) (.seq (seqH (seqT 8 X52.body)) (.seq (seqH (seqT 9 X52.body)) (seqT 10 X52.body)))))))))):=rfl
 rw [eX]
 generalize hR:seqT 10 X52.body=R at mid ⊢
 simp only [X52,seqT,seqH]
 by_cases hlt:ds.length < 10
 ·simp (decide:=true) only [BZ,ixl,hmi,callG_of (c78 _),callG_of (c104 _),callG_of (c35a _),callG_of (c35b _),a1,callG_of (c105a _),w1,callG_of (c32 _),callG_of (c78b _),callG_of (c105b _),decide_eq_true (show (ds.length:Int) < 10 by omega),a2,callG_of (c61 hlt _)]
  refine mid _ ?_ ?_ ?_ ?_ ?_ <;> simp (decide:=true) only [BZ]
 ·simp (decide:=true) only [BZ,ixl,hmi,callG_of (c78 _),callG_of (c104 _),callG_of (c35a _),callG_of (c35b _),a1,callG_of (c105a _),w1,callG_of (c32 _),callG_of (c78b _),callG_of (c105b _),decide_eq_false (show ¬ (ds.length:Int) < 10 by omega)]
  refine mid _ ?_ ?_ ?_ ?_ ?_ <;> simp (decide:=true) only [BZ]
  rw [hx2 hlt]
end Go.Proofs.YtmadknpaljaecaaGreatDoor.Ev.D
namespace Go.Proofs.YtmadknpaljaecaaGreatDoor.Rf
def trimF:List UInt8→List UInt8
 |[]=>[]
 |a::r=>if spc a then trimF r else a::r
def trm (l:List UInt8):List UInt8:=(trimF (trimF l).reverse).reverse
theorem trimF_len:∀ l:List UInt8,(trimF l).length≤l.length
 |[]=>Nat.le_refl _
 |a::r=>by
  rw [trimF];split
  ·exact Nat.le_succ_of_le (trimF_len r)
  ·exact Nat.le_refl _
theorem trm_len (l:List UInt8):(trm l).length≤l.length:=by
 unfold trm
 rw [List.length_reverse]
 refine Nat.le_trans (trimF_len _) ?_
 rw [List.length_reverse];exact trimF_len _
def numD (m:List UInt8):Nat:=dval ((parts (sgnD m)).w++(parts (sgnD m)).p) 0
def numE (m:List UInt8):Int:=(match expo (parts (sgnD m)).rest with|some (ng,ds)=>(if ng then -((dval ds 0:Nat):Int) else ((dval ds 0:Nat):Int))|none=>0) - (parts (sgnD m)).p.length
structure Val (m:List UInt8) (r:Nat):Prop where
 zero:numD m=0→r=0
 near:0 < numD m→Us.Near (Us.nn (numD m) (numE m)) (Us.mm (numE m)) r
theorem Val.uniq {m:List UInt8} {r r':Nat} (h:Val m r) (h':Val m r'):r=r':=by
 rcases Nat.eq_zero_or_pos (numD m) with h0|h0
 ·rw [h.zero h0,h'.zero h0]
 ·exact Us.Near.uniq (Us.mm_pos _) (h.near h0) (h'.near h0)
end Go.Proofs.YtmadknpaljaecaaGreatDoor.Rf
namespace Go.Proofs.YtmadknpaljaecaaGreatDoor.Ev.D
open Go Go.Proofs.YtmadknpaljaecaaGreatDoor.Ev
set_option maxRecDepth 100000
def PR (m:List UInt8) (v:AV) (ok:Bool):Prop:=
 if m=[78,97,78] then v=.float .f64 9221120237041090561∧ok=true
 else if m=[73,78,70] then v=.float .f64 9218868437227405312∧ok=true
 else if m=[45,73,78,70] then v=.float .f64 18442240474082181120∧ok=true
 else if Rf.isNum m=true then ok=true∧∃ r,Rf.Val m r∧v=.float .f64 (bif m.head? == some 45 then r+9223372036854775808 else r)
 else v=.float .f64 0∧ok=false
theorem PR.uniq {m:List UInt8} {v v':AV} {ok ok':Bool} (h:PR m v ok) (h':PR m v' ok'):v=v'∧ok=ok':=by
 unfold PR at h h'
 split at h
 ·rename_i e;rw [if_pos e] at h';exact ⟨h.1.trans h'.1.symm,h.2.trans h'.2.symm⟩
 ·rename_i e
  rw [if_neg e] at h'
  split at h
  ·rename_i e;rw [if_pos e] at h';exact ⟨h.1.trans h'.1.symm,h.2.trans h'.2.symm⟩
  ·rename_i e
   rw [if_neg e] at h'
   split at h
   ·rename_i e;rw [if_pos e] at h';exact ⟨h.1.trans h'.1.symm,h.2.trans h'.2.symm⟩
   ·rename_i e
    rw [if_neg e] at h'
    split at h
    ·rename_i e
     rw [if_pos e] at h'
     obtain ⟨rfl,r,hr,rfl⟩:=h
     obtain ⟨rfl,r',hr',rfl⟩:=h'
     rw [hr.uniq hr'];exact ⟨rfl,rfl⟩
    ·rename_i e
     rw [if_neg e] at h'
     exact ⟨h.1.trans h'.1.symm,h.2.trans h'.2.symm⟩
theorem inf_bnd {n m r:Nat} (h:Us.Near n m r):r≤9218868437227405312:=h.1
theorem val_bnd {m:List UInt8} {r:Nat} (h:Rf.Val m r):r≤9218868437227405312:=by
 rcases Nat.eq_zero_or_pos (Rf.numD m) with h0|h0
 ·rw [h.zero h0];exact Nat.zero_le _
 ·exact inf_bnd (h.near h0)
theorem s16 {l:List UInt8} (hl:l.length≤400):∃ v ok,(∀ h,Does C 16 [.str (BStr.ofBytes l)] h (.tup [v,.bool ok]) h)∧PR (Rf.trm l) v ok:=by
 obtain ⟨m,hm⟩:∃ m,Rf.trm l=m:=⟨_,rfl⟩
 have hml:m.length≤400:=by rw [← hm];exact Nat.le_trans (Rf.trm_len l) hl
 rw [hm]
 have tail:∃ v ok,PR m v ok∧∀ env:T AV,env.at 0=.str (BStr.ofBytes m)→GoP C [.c (seqT 3 X16.body)] env .empty (Back [.tmp 2,.tmp 3] true (.tup [v,.bool ok])):=by
  have q0:=fun b s (hs:s=BStr.ofBytes b)=>seql_lit (a:=m) (s:=s) b hs
  have q1:=q0 [78,97,78] ⟨3,5136718⟩ rfl
  have q2:=q0 [73,78,70] ⟨3,4804166⟩ rfl
  have q3:=q0 [45,73,78,70] ⟨4,759778886⟩ rfl
  unfold PR
  simp only [X16,seqT]
  by_cases e1:m=[78,97,78]
  ·simp only [if_pos e1]
   refine ⟨_,_,⟨rfl,rfl⟩,fun env a0=>?_⟩
   simp (decide:=true) only [BZ,a0,q1,decide_eq_true e1,callG_of (s46 _)]
  simp only [if_neg e1]
  by_cases e2:m=[73,78,70]
  ·simp only [if_pos e2]
   refine ⟨_,_,⟨rfl,rfl⟩,fun env a0=>?_⟩
   simp (decide:=true) only [BZ,a0,q1,decide_eq_false e1,q2,decide_eq_true e2,callG_of (s44p _)]
  simp only [if_neg e2]
  by_cases e3:m=[45,73,78,70]
  ·simp only [if_pos e3]
   refine ⟨_,_,⟨rfl,rfl⟩,fun env a0=>?_⟩
   simp (decide:=true) only [BZ,a0,q1,decide_eq_false e1,q2,decide_eq_false e2,q3,decide_eq_true e3,callG_of (s44n _)]
  simp only [if_neg e3]
  have c51:=fun h=>s51 (l:=m) (by omega) h
  cases hn:Rf.isNum m with
  |false=>
   rw [hn] at c51
   simp only [Bool.false_eq_true,if_false]
   refine ⟨_,_,⟨rfl,rfl⟩,fun env a0=>?_⟩
   simp (decide:=true) only [BZ,a0,q1,decide_eq_false e1,q2,decide_eq_false e2,q3,decide_eq_false e3,callG_of (c51 _)]
  |true=>
   rw [hn] at c51
   simp only [eq_self_iff_true,if_true]
   obtain ⟨n,N,x1,x2,x3,x4⟩:=Rf.isNum_shape hn
   have hne:m≠[]:=by rintro rfl;cases hn
   obtain ⟨r,r1,r2,r3⟩:=s52 hml hne N
   have eD:Rf.numD m=Rf.dval (n.w++n.p) 0:=by unfold Rf.numD;rw [x2,x3]
   have eE:Rf.numE m=expN n - n.p.length:=by
    unfold Rf.numE expN
    rw [← x4,x1,x3]
   have hv:Rf.Val m r:=⟨fun h=>r1 (by rwa [← eD]),fun h=>by rw [eD,eE];exact r2 (by rwa [← eD])⟩
   have hb:=val_bnd hv
   have hneg:Go.Op.negFloat .f64 r=r+9223372036854775808:=by
    rw [negF_word (show r < 9223372036854775808 by omega)]
    show 2 ^ 63+r=_
    omega
   rw [hneg] at r3
   refine ⟨_,_,⟨rfl,r,hv,rfl⟩,fun env a0=>?_⟩
   simp (decide:=true) only [BZ,a0,q1,decide_eq_false e1,q2,decide_eq_false e2,q3,decide_eq_false e3,callG_of (c51 _),callG_of (r3 _)]
 obtain ⟨v,ok,hpr,ht⟩:=tail
 refine ⟨v,ok,fun h=>?_,hpr⟩
 refine does_pure (fn:=X16) rfl rfl rfl (mapO_cons conv_str mapO_nil) ?_
 rw [show X16.body=.seq (seqH X16.body) (.seq (seqH (seqT 1 X16.body)) (.seq (seqH (seqT 2 X16.body)) (seqT 3 X16.body))) from rfl]
 generalize hR:seqT 3 X16.body=R at ht ⊢
 simp only [X16,seqT,seqH]
 simp (decide:=true) only [BZ]
 refine go_lp (fun k env h=>h=Heap.empty∧∃ r:List UInt8,k=r.length∧Rf.trimF r=Rf.trimF l∧env.at 0=.str (BStr.ofBytes r)) (fun env h=>h=Heap.empty∧env.at 0=.str (BStr.ofBytes (Rf.trimF l))) (n:=l.length) ⟨rfl,l,rfl,rfl,?_⟩ ?_ ?_
 ·simp (decide:=true) only [BZ]
 ·rintro k env h1 ⟨rfl,r,rfl,hr,a0⟩
  cases r with
  |nil=>
   simp (decide:=true) only [BZ,a0,sneq_lit [] e_empty,decide_eq_false (show ¬ (([]:List UInt8)≠[]) from fun h=>h rfl)]
   rw [← hr];rfl
  |cons a q=>
   have hne:=decide_eq_true (show (a::q)≠([]:List UInt8) by simp)
   have t1:∀ h,slSV (.str (BStr.ofBytes (a::q))) none (some (.int .i64 1)) h=.ok (.str (BStr.ofBytes [a])) h:=fun h=>slS_hi (b:=1) (by simp)
   have hd:=fun h=>s50 (c:=a) h
   cases hs:Rf.spc a with
   |true=>
    rw [hs] at hd
    simp (decide:=true) only [BZ,a0,sneq_lit [] e_empty,hne,Option.map_some,Option.map_none,t1,callG_of (hd _),sl1]
    refine ⟨q.length,Nat.lt_succ_self _,q,rfl,?_,rfl⟩
    rw [← hr,Rf.trimF,if_pos hs]
   |false=>
    rw [hs] at hd
    simp (decide:=true) only [BZ,a0,sneq_lit [] e_empty,hne,Option.map_some,Option.map_none,t1,callG_of (hd _)]
    rw [← hr,Rf.trimF,hs,if_neg (by decide)]
 ·rintro env h1 ⟨rfl,a0⟩
  simp (decide:=true) only [BZ]
  refine go_lp (fun k env h=>h=Heap.empty∧∃ r:List UInt8,k=r.length∧r.length≤400∧(Rf.trimF r).reverse=m∧env.at 0=.str (BStr.ofBytes r.reverse)) (fun env h=>h=Heap.empty∧env.at 0=.str (BStr.ofBytes m)) (n:=(Rf.trimF l).length) ⟨rfl,(Rf.trimF l).reverse,by rw [List.length_reverse],?_,hm,?_⟩ ?_ ?_
  ·rw [List.length_reverse];exact Nat.le_trans (Rf.trimF_len l) hl
  ·rw [List.reverse_reverse];exact a0
  ·rintro k env h1 ⟨rfl,r,rfl,hrl,hr,a0⟩
   cases r with
   |nil=>
    rw [List.reverse_nil] at a0
    simp (decide:=true) only [BZ,a0,sneq_lit [] e_empty,decide_eq_false (show ¬ (([]:List UInt8)≠[]) from fun h=>h rfl)]
    rw [← hr];rfl
   |cons a q=>
    rw [List.reverse_cons] at a0
    have hlen:(q.reverse++[a]).length=q.length+1:=by simp
    rw [List.length_cons] at hrl
    have hne:=decide_eq_true (show q.reverse++[a]≠([]:List UInt8) by simp)
    have w1:wrapF .i64 (((q.length+1:Nat):Int) - 1)=((q.length:Nat):Int):=by rw [i64_wrap (by omega) (by omega)];omega
    have t1:∀ h,slSV (.str (BStr.ofBytes (q.reverse++[a]))) (some (.int .i64 (q.length:Int))) none h=.ok (.str (BStr.ofBytes [a])) h:=fun h=>by
     rw [slS_lo (by rw [hlen];omega),List.drop_append_of_le_length (by simp),List.drop_of_length_le (by simp)];rfl
    have t2:∀ h,slSV (.str (BStr.ofBytes (q.reverse++[a]))) none (some (.int .i64 (q.length:Int))) h=.ok (.str (BStr.ofBytes q.reverse)) h:=fun h=>by
     rw [slS_hi (by rw [hlen];omega),List.take_append_of_le_length (by simp),List.take_of_length_le (by simp)]
    have hd:=fun h=>s50 (c:=a) h
    cases hs:Rf.spc a with
    |true=>
     rw [hs] at hd
     simp (decide:=true) only [BZ,a0,sneq_lit [] e_empty,hne,Option.map_some,Option.map_none,hlen,w1,t1,callG_of (hd _),t2]
     refine ⟨q.length,Nat.lt_succ_self _,q,rfl,by omega,?_,rfl⟩
     rw [← hr,Rf.trimF,if_pos hs]
    |false=>
     rw [hs] at hd
     simp (decide:=true) only [BZ,a0,sneq_lit [] e_empty,hne,Option.map_some,Option.map_none,hlen,w1,t1,callG_of (hd _)]
     rw [← hr,Rf.trimF,hs,if_neg (by decide),List.reverse_cons]
  ·rintro env h1 ⟨rfl,a0⟩
   exact ht env a0
end Go.Proofs.YtmadknpaljaecaaGreatDoor.Ev.D
namespace Go.Proofs.YtmadknpaljaecaaGreatDoor.Rf
theorem dAt_app:∀ (w r:List UInt8),w.all isD=true→dAt (w++r)=w.length+dAt r
 |[],r,_=>by simp
 |c::w,r,h=>by
  simp only [List.all_cons,Bool.and_eq_true] at h
  rw [List.cons_append,dAt,if_pos h.1,dAt_app w r h.2,List.length_cons];omega
theorem parts_pt {w p r:List UInt8} (hw:w.all isD=true) (hp:p.all isD=true) (hr:dAt r=0):parts (w++46::(p++r))=⟨w,true,p,r⟩:=by
 have e1:dAt (w++46::(p++r))=w.length:=by
  rw [dAt_app _ _ hw,dAt,if_neg (by decide),Nat.add_zero]
 have e2:dAt (p++r)=p.length:=by rw [dAt_app _ _ hp,hr,Nat.add_zero]
 unfold parts
 rw [e1,List.drop_left,List.take_left]
 simp only [if_true]
 rw [e2,List.drop_left,List.take_left]
theorem parts_no {w:List UInt8} (hw:w.all isD=true):parts w=⟨w,false,[],[]⟩:=by
 have e1:dAt w=w.length:=by
  have:=dAt_app w [] hw
  rw [List.append_nil] at this;exact this
 unfold parts
 rw [e1,List.drop_length,List.take_length]
theorem sgnD_dig {c:UInt8} {r:List UInt8} (h:isD c=true):sgnD (c::r)=c::r:=by
 have:=isD_bnd h
 rw [sgnD,if_neg (by omega)]
theorem dval_zs:∀ (n:Nat) (l:List UInt8),dval (zs n++l) 0=dval l 0
 |0,l=>rfl
 |n+1,l=>by
  show dval (48::(zs n++l)) 0=_
  rw [dval]
  exact dval_zs n l
theorem dval_zs2 (n v:Nat):dval (zs n) v=v*10 ^ n:=by
 rw [dval_acc,zs_len]
 have:=dval_zs n []
 rw [List.append_nil] at this
 rw [this];rfl
theorem zs_isD:∀ n,(zs n).all isD=true
 |0=>rfl
 |n+1=>by
  show (48::zs n).all isD=true
  rw [List.all_cons,zs_isD n];rfl
theorem isD_spc {c:UInt8} (h:isD c=true):spc c=false:=by
 have:=isD_bnd h
 unfold spc
 simp only [Bool.or_eq_false_iff,decide_eq_false_iff_not]
 omega
structure TP (t:List UInt8) (b:Nat):Prop where
 num:isNum t=true
 val:Val t b
 hd:∃ c r,t=c::r∧isD c=true
 nosp:∀ c∈t,spc c=false
 len:t.length≤380
theorem val_of {t:List UInt8} {b D:Nat} {q:Int} (h0:0 < D) (hD:numD t=D) (hE:numE t=q) (H:Us.Near (Us.nn D q) (Us.mm q) b):Val t b:=by
 subst hD hE
 exact ⟨fun h=>by omega,fun _=>H⟩
theorem all_spc {l:List UInt8} (h:l.all isD=true):∀ c∈l,spc c=false:=fun c hc=>isD_spc (List.all_eq_true.1 h c hc)
theorem hd_of {l:List UInt8} (h:l.all isD=true) (hne:l≠[]) (r:List UInt8):∃ c r',l++r=c::r'∧isD c=true:=by
 cases l with
 |nil=>exact (hne rfl).elim
 |cons c q=>exact ⟨c,q++r,rfl,by simp only [List.all_cons,Bool.and_eq_true] at h;exact h.1⟩
theorem tp_pt {w p:List UInt8} {b D:Nat} {q:Int} (hw:w.all isD=true) (hp:p.all isD=true) (hne:w≠[]) (h0:0 < D) (hD:dval (w++p) 0=D) (hq:-(p.length:Int)=q) (H:Us.Near (Us.nn D q) (Us.mm q) b) (hl:w.length+p.length≤379):TP (w++46::p) b:=by
 obtain ⟨c,r',e,hc⟩:=hd_of hw hne (46::p)
 have hs:sgnD (w++46::p)=w++46::p:=by rw [e];exact sgnD_dig hc
 have hP:parts (w++46::p)=⟨w,true,p,[]⟩:=by
  have:=parts_pt (r:=[]) hw hp rfl
  rw [List.append_nil] at this;exact this
 refine ⟨?_,val_of h0 ?_ ?_ H,⟨c,r',e,hc⟩,fun x hx=>?_,by simp;omega⟩
 ·unfold isNum
  rw [hs,hP]
  have:w.length≠0:=fun h=>hne (List.length_eq_zero_iff.1 h)
  simp only [expo,Option.isSome_some,Bool.and_true,bne_iff_ne,ne_eq]
  omega
 ·unfold numD;rw [hs,hP];exact hD
 ·unfold numE;rw [hs,hP]
  show ((dval [] 0:Nat):Int) - (p.length:Int)=q
  rw [← hq,show dval [] 0=0 from rfl];omega
 ·rcases List.mem_append.1 hx with h|h
  ·exact all_spc hw x h
  ·rcases List.mem_cons.1 h with rfl|h
   ·decide
   ·exact all_spc hp x h
theorem tp_no {w:List UInt8} {b D:Nat} (hw:w.all isD=true) (hne:w≠[]) (h0:0 < D) (hD:dval w 0=D) (H:Us.Near (Us.nn D 0) (Us.mm 0) b) (hl:w.length≤380):TP w b:=by
 obtain ⟨c,r',e,hc⟩:=hd_of hw hne []
 rw [List.append_nil] at e
 have hs:sgnD w=w:=by rw [e];exact sgnD_dig hc
 have hP:=parts_no hw
 refine ⟨?_,val_of h0 ?_ ?_ H,⟨c,r',e,hc⟩,all_spc hw,hl⟩
 ·unfold isNum
  rw [hs,hP]
  have:w.length≠0:=fun h=>hne (List.length_eq_zero_iff.1 h)
  simp only [expo,Option.isSome_some,Bool.and_true,bne_iff_ne,ne_eq,List.length_nil]
  omega
 ·unfold numD;rw [hs,hP];rw [List.append_nil];exact hD
 ·unfold numE;rw [hs,hP];simp only [expo];rfl
end Go.Proofs.YtmadknpaljaecaaGreatDoor.Rf
namespace Go.Proofs.YtmadknpaljaecaaGreatDoor.Us
theorem tF {b D nd:Nat} {q:Int} (T:ShT b D nd q):Rf.TP (Rf.fF false (Rf.dec D) ((nd:Int)+q) ((nd:Int) - ((nd:Int)+q)).toNat) b:=by
 have hl:=Rf.dec_len T.one T.lo T.hi
 have hd:=Rf.dec_isD D
 have hv:=Rf.dval_dec D
 have h1:=T.one;have h2:=T.le;have q1:=T.q1;have q2:=T.q2;have e1:=T.e1;have e2:=T.e2
 have D0:0 < D:=Nat.lt_of_lt_of_le (Nat.pow_pos (by decide)) T.lo
 have H:=T.near
 unfold Rf.fF Rf.fI Rf.fP Rf.fK Rf.fZ
 simp only [Bool.false_eq_true,if_false,List.nil_append,hl]
 by_cases c1:0 < (nd:Int)+q
 ·rw [if_pos c1]
  by_cases c2:0≤q
  ·
   rw [show ((nd:Int) - ((nd:Int)+q)).toNat=0 by omega,if_pos rfl,List.append_nil,List.take_of_length_le (by omega)]
   obtain ⟨k,rfl⟩:=Int.eq_ofNat_of_zero_le c2
   rw [show ((nd:Int)+(k:Int)).toNat - nd=k by omega]
   refine Rf.tp_no (D:=D*10 ^ k) ?_ ?_ (Nat.mul_pos D0 (Nat.pow_pos (by decide))) ?_ ?_ ?_
   ·rw [List.all_append,hd,Rf.zs_isD];rfl
   ·intro h;have:=congrArg List.length h;simp [hl] at this;omega
   ·rw [Rf.dval_append,hv,Rf.dval_zs2]
   ·have:=Rf.near_same (m:=D) (k:=k) (p:=(k:Int)) H
    rw [Int.sub_self] at this;exact this
   ·simp [hl,Rf.zs_len];omega
  ·rw [if_neg (show ¬ ((nd:Int) - ((nd:Int)+q)).toNat=0 by omega)]
   obtain ⟨s,hs⟩:∃ s:Nat,(nd:Int)+q=s:=⟨((nd:Int)+q).toNat,by omega⟩
   rw [hs]
   rw [show (s:Int).toNat=s from rfl,show s - nd=0 by omega,show (-(s:Int)).toNat=0 by omega,Nat.min_zero,show ((s:Int)+((0:Nat):Int)).toNat=s by omega,show Rf.zs 0=[] from rfl,List.append_nil,List.nil_append,
    show min (((nd:Int) - (s:Int)).toNat - 0) ((nd:Int) - ((s:Int)+((0:Nat):Int))).toNat=nd - s by omega,show ((nd:Int) - (s:Int)).toNat - 0 - (nd - s)=0 by omega,show Rf.zs 0=[] from rfl,List.append_nil,show ((Rf.dec D).drop s).take (nd - s)=(Rf.dec D).drop s from List.take_of_length_le (by simp [hl])]
   refine Rf.tp_pt (D:=D) (q:=q) ?_ ?_ ?_ D0 ?_ ?_ H ?_
   ·rw [List.all_eq_true] at hd ⊢;exact fun x hx=>hd x (List.mem_of_mem_take hx)
   ·rw [List.all_eq_true] at hd ⊢;exact fun x hx=>hd x (List.mem_of_mem_drop hx)
   ·intro h;have:=congrArg List.length h;simp [hl] at this;omega
   ·rw [List.take_append_drop];exact hv
   ·simp [hl];omega
   ·simp [hl];omega
 ·rw [if_neg c1,if_neg (show ¬ ((nd:Int) - ((nd:Int)+q)).toNat=0 by omega)]
  obtain ⟨s,hs⟩:∃ s:Nat,(nd:Int)+q=-(s:Int):=⟨(-((nd:Int)+q)).toNat,by omega⟩
  rw [hs]
  rw [show (- -(s:Int)).toNat=s by omega,show min ((nd:Int) - -(s:Int)).toNat s=s by omega,show (-(s:Int)+(s:Int)).toNat=0 by omega,show min (((nd:Int) - -(s:Int)).toNat - s) ((nd:Int) - (-(s:Int)+(s:Int))).toNat=nd by omega,
   show ((nd:Int) - -(s:Int)).toNat - s - nd=0 by omega,show Rf.zs 0=[] from rfl,List.append_nil,List.drop_zero,show (Rf.dec D).take nd=Rf.dec D from List.take_of_length_le (by omega)]
  refine Rf.tp_pt (w:=[48]) (D:=D) (q:=q) rfl ?_ (by simp) D0 ?_ ?_ H ?_
  ·rw [List.all_append,hd,Rf.zs_isD];rfl
  ·show Rf.dval (48::(Rf.zs s++Rf.dec D)) 0=D
   rw [Rf.dval]
   exact (Rf.dval_zs s _).trans hv
  ·simp [hl,Rf.zs_len];omega
  ·simp [hl,Rf.zs_len];omega
end Go.Proofs.YtmadknpaljaecaaGreatDoor.Us
namespace Go.Proofs.YtmadknpaljaecaaGreatDoor.Rf
theorem it3_ok:∀ k,k < 1000→(it3 k).all isD=true∧it3 k≠[]∧dval (it3 k) 0=k∧(it3 k).length≤3:=by decide+kernel
theorem itz_ok {n:Int} (h1:-999≤n) (h2:n≤999):expo (69::itz n)=some (decide (n < 0),it3 n.natAbs)∧(∀ c∈itz n,spc c=false)∧(itz n).length≤4∧dAt (69::itz n)=0:=by
 obtain ⟨a1,a2,a3,a4⟩:=it3_ok n.natAbs (by omega)
 obtain ⟨c,r,e⟩:=List.exists_cons_of_ne_nil a2
 have hc:isD c=true:=by rw [e] at a1;simp only [List.all_cons,Bool.and_eq_true] at a1;exact a1.1
 have hcb:=isD_bnd hc
 have hfull:dAt (it3 n.natAbs)=(it3 n.natAbs).length:=by
  have:=dAt_app (it3 n.natAbs) [] a1
  rw [List.append_nil] at this;exact this
 unfold itz
 by_cases hn:n < 0
 ·rw [if_pos hn]
  have hs:sgnD (45::it3 n.natAbs)=it3 n.natAbs:=by rw [sgnD,if_pos (.inr (by decide))]
  refine ⟨?_,?_,by simp;omega,rfl⟩
  ·simp only [expo]
   rw [if_pos (Or.inr (by decide)),hs,if_pos ⟨a2,hfull⟩,decide_eq_true hn];rfl
  ·intro x hx
   rcases List.mem_cons.1 hx with rfl|h
   ·decide
   ·exact all_spc a1 x h
 ·rw [if_neg hn]
  have hs:sgnD (it3 n.natAbs)=it3 n.natAbs:=by rw [e];exact sgnD_dig hc
  refine ⟨?_,all_spc a1,by omega,rfl⟩
  simp only [expo]
  rw [if_pos (Or.inr (by decide)),hs,if_pos ⟨a2,hfull⟩,decide_eq_false hn]
  have:(it3 n.natAbs).head?≠some 45:=by
   rw [e];simp only [List.head?_cons,ne_eq,Option.some.injEq];rintro rfl;simp at hcb
  simp [this]
theorem tp_e {a:UInt8} {p:List UInt8} {b D:Nat} {n q:Int} (ha:isD a=true) (hp:p.all isD=true) (h1:-999≤n) (h2:n≤999) (h0:0 < D) (hD:dval (a::p) 0=D) (hq:n - (p.length:Int)=q) (H:Us.Near (Us.nn D q) (Us.mm q) b) (hl:p.length≤300):TP (a::46::(p++69::itz n)) b:=by
 obtain ⟨x1,x2,x3,x4⟩:=itz_ok h1 h2
 obtain ⟨a1,a2,a3,a4⟩:=it3_ok n.natAbs (by omega)
 have hs:sgnD (a::46::(p++69::itz n))=a::46::(p++69::itz n):=sgnD_dig ha
 have hw:([a]:List UInt8).all isD=true:=by simp [ha]
 have hP:parts (a::46::(p++69::itz n))=⟨[a],true,p,69::itz n⟩:=parts_pt (w:=[a]) hw hp x4
 refine ⟨?_,val_of h0 ?_ ?_ H,⟨a,_,rfl,ha⟩,fun x hx=>?_,by simp;omega⟩
 ·unfold isNum
  rw [hs,hP]
  simp only [x1,Option.isSome_some,Bool.and_true,bne_iff_ne,ne_eq,List.length_cons,List.length_nil]
  omega
 ·unfold numD;rw [hs,hP];exact hD
 ·unfold numE;rw [hs,hP]
  dsimp only
  rw [x1]
  dsimp only
  rw [a3]
  generalize p.length=pl at*
  by_cases hn:n < 0
  ·rw [decide_eq_true hn,if_pos rfl];omega
  ·rw [decide_eq_false hn,if_neg (by decide)];omega
 ·rcases List.mem_cons.1 hx with rfl|h
  ·exact isD_spc ha
  ·rcases List.mem_cons.1 h with rfl|h
   ·decide
   ·rcases List.mem_append.1 h with h|h
    ·exact all_spc hp x h
    ·rcases List.mem_cons.1 h with rfl|h
     ·decide
     ·exact x2 x h
end Go.Proofs.YtmadknpaljaecaaGreatDoor.Rf
namespace Go.Proofs.YtmadknpaljaecaaGreatDoor.Us
theorem tE {b D nd:Nat} {q:Int} (T:ShT b D nd q) {a:UInt8} {r:List UInt8} (har:Rf.dec D=a::r):Rf.TP (a::46::((if r=[] then [48] else r)++69::Rf.itz ((nd:Int)+q - 1))) b:=by
 have hl:=Rf.dec_len T.one T.lo T.hi
 have hd:=Rf.dec_isD D
 have hv:=Rf.dval_dec D
 have h1:=T.one;have h2:=T.le;have q1:=T.q1;have q2:=T.q2;have e1:=T.e1;have e2:=T.e2
 have D0:0 < D:=Nat.lt_of_lt_of_le (Nat.pow_pos (by decide)) T.lo
 have H:=T.near
 rw [har] at hl hd hv
 simp only [List.all_cons,Bool.and_eq_true] at hd
 rw [List.length_cons] at hl
 by_cases hr:r=[]
 ·subst hr
  rw [if_pos rfl]
  refine Rf.tp_e (D:=D*10 ^ 1) (q:=q - 1) hd.1 rfl (by omega) (by omega) (by omega) ?_ ?_ (Rf.near_same (k:=1) H) (by simp)
  ·rw [show ([a,48]:List UInt8)=[a]++[48] from rfl,Rf.dval_append,hv];rfl
  ·simp at hl ⊢;omega
 ·rw [if_neg hr]
  exact Rf.tp_e (D:=D) (q:=q) hd.1 hd.2 (by omega) (by omega) D0 hv (by omega) H (by omega)
end Go.Proofs.YtmadknpaljaecaaGreatDoor.Us
namespace Go.Proofs.YtmadknpaljaecaaGreatDoor.Rf
theorem trimF_id {c:UInt8} {r:List UInt8} (h:spc c=false):trimF (c::r)=c::r:=by rw [trimF,h];rfl
theorem trimF_sp {c:UInt8} {r:List UInt8} (h:spc c=true):trimF (c::r)=trimF r:=by rw [trimF,if_pos h]
theorem trimF_no {l:List UInt8} (h:∀ c∈l,spc c=false):trimF l=l:=by
 cases l with
 |nil=>rfl
 |cons c r=>exact trimF_id (h c (List.mem_cons_self ..))
theorem trm_no {l:List UInt8} (h:∀ c∈l,spc c=false):trm l=l:=by
 unfold trm
 rw [trimF_no h,trimF_no (fun c hc=>h c (List.mem_reverse.1 hc)),List.reverse_reverse]
theorem trimF_app {l x:List UInt8} (hne:l≠[]) (h:∀ c∈l,spc c=false):trimF (l++x)=l++x:=by
 cases l with
 |nil=>exact (hne rfl).elim
 |cons c r=>exact trimF_id (h c (List.mem_cons_self ..))
theorem trm_pad {l:List UInt8} (hne:l≠[]) (h:∀ c∈l,spc c=false):trm ([10,32,9]++l++[13,32])=l:=by
 unfold trm
 rw [show [10,32,9]++l++[13,32]=10::32::9::(l++[13,32]) by simp,trimF_sp (by decide),trimF_sp (by decide),trimF_sp (by decide),trimF_app hne h,List.reverse_append]
 show (trimF (32::13::l.reverse)).reverse=l
 rw [trimF_sp (by decide),trimF_sp (by decide),trimF_no (fun c hc=>h c (List.mem_reverse.1 hc)),List.reverse_reverse]
theorem TP.ne {t:List UInt8} {b:Nat} (T:TP t b):t≠[]:=by
 obtain ⟨c,r,e,_⟩:=T.hd
 rw [e];exact List.cons_ne_nil _ _
end Go.Proofs.YtmadknpaljaecaaGreatDoor.Rf
namespace Go.Proofs.YtmadknpaljaecaaGreatDoor.Ev.D
open Go Go.Proofs.YtmadknpaljaecaaGreatDoor.Ev
theorem tp_pr {t:List UInt8} {b:Nat} (T:Rf.TP t b):PR t (.float .f64 b) true:=by
 obtain ⟨c,r,e,hc⟩:=T.hd
 have hb:=Rf.isD_bnd hc
 have hne:∀ a x,57 < a.toNat→t≠a::x:=fun a x ha h=>by
  rw [e] at h;cases h;omega
 unfold PR
 rw [if_neg (hne 78 _ (by decide)),if_neg (hne 73 _ (by decide))]
 have h45:c≠45:=by rintro rfl;exact absurd hb.1 (by decide)
 rw [if_neg (show ¬ t=[45,73,78,70] from fun h=>by rw [e] at h;cases h;exact h45 rfl),if_pos T.num]
 refine ⟨rfl,b,T.val,?_⟩
 have:(t.head? == some 45)=false:=by rw [e];simp [h45]
 rw [this];rfl
theorem tp_prn {t:List UInt8} {b:Nat} (T:Rf.TP t b):PR (45::t) (.float .f64 (b+9223372036854775808)) true:=by
 obtain ⟨c,r,e,hc⟩:=T.hd
 have hb:=Rf.isD_bnd hc
 have hs:Rf.sgnD (45::t)=t:=by rw [Rf.sgnD,if_pos (Or.inr (by decide))]
 have hs2:Rf.sgnD t=t:=by rw [e];exact Rf.sgnD_dig hc
 have hn:Rf.isNum (45::t)=true:=by
  have:=T.num
  unfold Rf.isNum at this ⊢
  rw [hs];rw [hs2] at this;exact this
 have hD:Rf.numD (45::t)=Rf.numD t:=by unfold Rf.numD;rw [hs,hs2]
 have hE:Rf.numE (45::t)=Rf.numE t:=by unfold Rf.numE;rw [hs,hs2]
 have hv:Rf.Val (45::t) b:=⟨fun h=>T.val.zero (by rwa [← hD]),fun h=>by rw [hD,hE];exact T.val.near (by rwa [← hD])⟩
 unfold PR
 rw [if_neg (show ¬ (45::t)=[78,97,78] by simp),if_neg (show ¬ (45::t)=[73,78,70] by simp)]
 rw [if_neg (show ¬ (45::t)=[45,73,78,70] from fun h=>by
  have h2:=(List.cons.inj h).2
  rw [e] at h2
  have:=(List.cons.inj h2).1
  subst this;exact absurd hb.2 (by decide)),if_pos hn]
 exact ⟨rfl,b,hv,rfl⟩
theorem tp_zero:Rf.TP [48] 0:=⟨rfl,⟨fun _=>rfl,fun h=>absurd h (by decide)⟩,⟨48,[],rfl,rfl⟩,by decide,by decide⟩
structure T0 (r:Nat) (t:List UInt8):Prop where
 len:t.length≤380
 ne:t≠[]
 nosp:∀ c∈t,Rf.spc c=false
 pr:PR t (.float .f64 r) true
 prn:PR (45::t) (.float .f64 (r+9223372036854775808)) true
theorem t0_of {t:List UInt8} {b:Nat} (T:Rf.TP t b):T0 b t:=⟨T.len,T.ne,T.nosp,tp_pr T,tp_prn T⟩
theorem t0_inf:T0 9218868437227405312 [73,78,70]:=by
 refine ⟨by decide,by decide,by decide,?_,?_⟩
 ·unfold PR;rw [if_neg (by decide),if_pos rfl];exact ⟨rfl,rfl⟩
 ·unfold PR;rw [if_neg (by decide),if_neg (by decide),if_pos rfl];exact ⟨rfl,rfl⟩
end Go.Proofs.YtmadknpaljaecaaGreatDoor.Ev.D
namespace Go.Proofs.YtmadknpaljaecaaGreatDoor.Ev.D
open Go Go.Proofs.YtmadknpaljaecaaGreatDoor.Ev
set_option maxRecDepth 100000
theorem s29 {b:Nat} (hb:b < 18446744073709551616) (h:Heap):Does C 29 [.float .f64 b] h (.float .f64 (Fl.rung b)) h:=by
 refine does_pure (fn:=X29) rfl rfl rfl (mapO_cons conv_float mapO_nil) ?_
 simp (decide:=true) only [BW,X29,abs_bits hb]
theorem s28 {b:Nat} (hb:b < 18446744073709551616) (h:Heap):Does C 28 [.float .f64 b,.int .i64 0] h (.bool (decide (Fl.rung b=Fl.inf))) h:=by
 refine does_pure (fn:=X28) rfl rfl rfl (mapO_cons conv_float (mapO_cons conv_int mapO_nil)) ?_
 simp (decide:=true) only [BW,X28,callG_of (s29 hb _),isInf_bits]
theorem s20 {b:Nat} (h:Heap):Does C 20 [.int .u64 (b:Int)] h (.float .f64 b) h:=by
 refine does_pure (fn:=X20) rfl rfl rfl (mapO_cons conv_int mapO_nil) ?_
 simp (decide:=true) only [BW,X20]
theorem s45 {a b:Nat} (ha:a < 18446744073709551616) (hb:b < 18446744073709551616) (h:Heap):Does C 45 [.float .f64 a,.float .f64 b] h (.float .f64 (Ieee.double.word (Fl.neg b) (Fl.rung a))) h:=by
 refine does_pure (fn:=X45) rfl rfl rfl (mapO_cons conv_float (mapO_cons conv_float mapO_nil)) ?_
 simp (decide:=true) only [BW,X45,abs_bits ha,sgn_bits hb]
 have hr:=rung_lt a
 rw [or_u64 (by omega) (by split <;> decide),Fl.word_eq]
 cases Fl.neg b
 ·simp
 ·simp only [if_true,Int.toNat_natCast]
  have:=Nat.shiftLeft_add_eq_or_of_lt (i:=63) (b:=Fl.rung a) (by omega) 1
  rw [Nat.or_comm]
  have e:(9223372036854775808:Nat)=1 <<< 63:=by decide
  rw [e,← this];rfl
theorem s30 {b:Nat} (hb:b < 18446744073709551616) (h:Heap):Does C 30 [.float .f64 b] h (.bool (Fl.neg b)) h:=by
 refine does_pure (fn:=X30) rfl rfl rfl (mapO_cons conv_float mapO_nil) ?_
 simp (decide:=true) only [BW,X30]
 rw [wrapF_eq]
 unfold Fl.neg
 show decide (IntKind.i64.wrap (b:Int) < 0)=(b / 9223372036854775808 % 2 == 1)
 by_cases h0:b < 9223372036854775808
 ·have e1:b / 9223372036854775808 % 2=0:=by omega
  rw [e1,wrap_i64 (by omega) (by omega),decide_eq_false (by omega)];rfl
 ·have e1:b / 9223372036854775808 % 2=1:=by omega
  rw [e1,wrap_i64_big (by omega) (by omega),decide_eq_true (by omega)];rfl
theorem s27 {v:AV} (hv:(∃ b,v=.float .f64 b)∨v=.nan .f64) (h:Heap):Does C 27 [v,v] h (.bool true) h:=by
 rcases hv with ⟨b,rfl⟩|rfl
 ·refine does_pure (fn:=X27) rfl rfl rfl (mapO_cons conv_float (mapO_cons conv_float mapO_nil)) ?_
  cases hn:(FloatKind.f64.format.order b b != some Ordering.eq) <;> simp (decide:=true) only [BW,X27,hn]
 ·refine does_pure (fn:=X27) rfl rfl rfl (mapO_cons conv_nan (mapO_cons conv_nan mapO_nil)) ?_
  have hn:binV .neq (.nan .f64) (.nan .f64)=some (.bool true):=rfl
  simp (decide:=true) only [BW,X27,hn]
theorem s228 {b:Nat} (h:Heap):Does C 228 [.float .f64 b] h (.bool (decide (Fl.inf < Fl.rung b))) h:=by
 refine does_pure (fn:=X228) rfl rfl rfl (mapO_cons conv_float mapO_nil) ?_
 simp (decide:=true) only [BW,X228,neq_self]
end Go.Proofs.YtmadknpaljaecaaGreatDoor.Ev.D
namespace Go.Proofs.YtmadknpaljaecaaGreatDoor.Ev.D
open Go Go.Proofs.YtmadknpaljaecaaGreatDoor.Ev
set_option maxRecDepth 100000
theorem negF_neg {r:Nat} (h:r < 9223372036854775808):Go.Op.negFloat .f64 (r+9223372036854775808)=r:=by
 have e:Go.Op.negFloat .f64 r=r+9223372036854775808:=by
  rw [negF_word (show r < Fl.sgn from h),Fl.word_eq]
  show Fl.sgn+r=_
  rw [Nat.add_comm];rfl
 rw [← e]
 show (r ^^^ _) ^^^ _=r
 rw [Nat.xor_assoc,Nat.xor_self,Nat.xor_zero]
theorem ord_refl {r:Nat} (h:r≤9218868437227405312):(FloatKind.format .f64).order r r=some .eq:=by
 show Ieee.double.order r r=_
 rw [Fl.order_self,if_neg]
 rw [Fl.rung_of_lt (show r < Fl.sgn by unfold Fl.sgn;omega)]
 unfold Fl.inf;omega
theorem ord_pos {x y:Nat} (hx:x≤9218868437227405312) (hy:y≤9218868437227405312):(FloatKind.format .f64).order x y=some (compare x y):=Fl.order_pos (by exact hx) (by exact hy)
theorem s19p {r:Nat} (hr:r≤9218868437227405312):∃ t,(∀ h,Does C 19 [.float .f64 r] h (.str (BStr.ofBytes t)) h)∧T0 r t:=by
 have hsg:r < Fl.sgn:=by unfold Fl.sgn;omega
 have hneg:Fl.neg r=false:=Fl.neg_of_lt hsg
 have hrg:Fl.rung r=r:=Fl.rung_of_lt hsg
 have c30:=fun h=>s30 (b:=r) (by omega) h
 rw [hneg] at c30
 have c28:=fun h=>s28 (b:=r) (by omega) h
 rw [hrg] at c28
 have hnn:((FloatKind.format .f64).order r r != some .eq)=false:=by rw [ord_refl hr];rfl
 have hz:((FloatKind.format .f64).order r 0 == some .eq)=decide (r=0):=by
  rw [ord_pos hr (by decide)]
  by_cases h:r=0
  ·subst h;rfl
  ·rw [decide_eq_false h]
   have:compare r 0=.gt:=Nat.compare_eq_gt.2 (by omega)
   rw [this];rfl
 by_cases hi:r=Fl.inf
 ·refine ⟨[73,78,70],fun h=>?_,by rw [hi];exact t0_inf⟩
  rw [decide_eq_true hi] at c28
  refine does_pure (fn:=X19) rfl rfl rfl (mapO_cons conv_float mapO_nil) ?_
  simp (decide:=true) only [BZ,X19,f_neq,hnn,callG_of (c30 _),callG_of (c28 _)]
  all_goals rfl
 rw [decide_eq_false hi] at c28
 by_cases h0:r=0
 ·subst h0
  refine ⟨[48],fun h=>?_,t0_of tp_zero⟩
  rw [decide_eq_true rfl] at hz
  refine does_pure (fn:=X19) rfl rfl rfl (mapO_cons conv_float mapO_nil) ?_
  simp (decide:=true) only [BZ,X19,f_neq,hnn,callG_of (c30 _),callG_of (c28 _),f_eql,hz]
  all_goals rfl
 rw [decide_eq_false h0] at hz
 have hlt:r < Fl.inf:=by unfold Fl.inf at hi ⊢;omega
 obtain ⟨D,nd,q,T,⟨v1,H1,x1,d1,a,l,har,O1⟩,⟨v2,H2,x2,d2,O2⟩⟩:=s166 (b:=r) (by omega) hlt
 by_cases hrange:4517329193108106637≤r∧r < 4696837146684686336
 ·refine ⟨_,fun h=>?_,t0_of (Us.tF T)⟩
  have g1:((FloatKind.format .f64).order r 4517329193108106637 == some .gt || (FloatKind.format .f64).order r 4517329193108106637 == some .eq)=true:=by
   rw [ord_pos hr (by decide)]
   rcases Nat.lt_or_eq_of_le hrange.1 with h|h
   ·rw [Nat.compare_eq_gt.2 h];rfl
   ·rw [Nat.compare_eq_eq.2 h.symm];rfl
  have g2:((FloatKind.format .f64).order r 4696837146684686336 == some .lt)=true:=by
   rw [ord_pos hr (by decide),Nat.compare_eq_lt.2 hrange.2];rfl
  have c59:=fun h=>s59 (fmt:=102) d2 O2 h
  rw [show ((102:Nat):Int)=102 from rfl] at c59
  refine does_pure (fn:=X19) rfl rfl rfl (mapO_cons conv_float mapO_nil) ?_
  simp (decide:=true) only [BZ,X19,f_neq,hnn,callG_of (c30 _),callG_of (c28 _),f_eql,hz,f_geq,g1,f_lss,g2,callG_of (c59 _)]
 ·refine ⟨_,fun h=>?_,t0_of (Us.tE T har)⟩
  obtain ⟨k,hk⟩:∃ k,(nd:Int)+q - 1=k:=⟨_,rfl⟩
  have e1:=T.e1;have e2:=T.e2
  rw [hk] at O1 ⊢
  have c59:=fun h=>s59 (fmt:=69) d1 O1 h
  rw [show ((69:Nat):Int)=69 from rfl] at c59
  have had:=Rf.dec_isD D
  rw [har] at had
  have had':∀ c∈a::l,c≠69:=fun c hc h=>by
   have:=List.all_eq_true.1 had c hc
   subst h;exact absurd this (by decide)
  have hd46:∀ c∈a::l,c≠46:=fun c hc h=>by
   have:=List.all_eq_true.1 had c hc
   subst h;exact absurd this (by decide)
  have hlen:=Rf.dec_len T.one T.lo T.hi
  rw [har,List.length_cons] at hlen
  have h17:=T.le
  have c61:=fun h=>s61E (k:=k) (by omega) (by omega) h
  have c62:=fun h=>s62 (n:=k) (by omega) (by omega) h
  obtain ⟨xz1,xz2,xz3,xz4⟩:=Rf.itz_ok (n:=k) (by omega) (by omega)
  have hexl:(Rf.exB k.natAbs).length≤3:=by unfold Rf.exB;split <;> (try split) <;> simp
  have cE:∀ h,Does C 59 [.float .f64 r,.int .u8 69,.int .i64 (-1),.int .i64 64] h (.str (BStr.ofBytes ((a::(if l=[] then [] else 46::l))++69::(Rf.sgE k::Rf.exB k.natAbs)))) h:=c59
  have hA:∀ c∈a::(if l=[] then [] else 46::l),c≠69:=by
   intro c hc
   rcases List.mem_cons.1 hc with rfl|h
   ·exact had' _ (List.mem_cons_self ..)
   ·split at h
    ·cases h
    ·rcases List.mem_cons.1 h with rfl|h
     ·decide
     ·exact had' _ (List.mem_cons_of_mem _ h)
  have c35:=fun h=>s35 (l:=(a::(if l=[] then [] else 46::l))++69::(Rf.sgE k::Rf.exB k.natAbs)) (c:=69) (by split <;> simp <;> omega) h
  obtain ⟨k1,k2,k3⟩:=Rf.cut_in (b:=Rf.sgE k::Rf.exB k.natAbs) hA
  rw [k1,k2,k3] at c35
  have c35':∀ h,Does C 35 [.str (BStr.ofBytes ((a::(if l=[] then [] else 46::l))++69::(Rf.sgE k::Rf.exB k.natAbs))),.str ⟨1,69⟩] h (.tup [.str (BStr.ofBytes (a::(if l=[] then [] else 46::l))),.str (BStr.ofBytes (Rf.sgE k::Rf.exB k.natAbs)),.bool true]) h:=c35
  have c60:=fun h=>s60 (l:=a::(if l=[] then [] else 46::l)) (c:=46) h
  have g:((FloatKind.format .f64).order r 4517329193108106637 == some .gt || (FloatKind.format .f64).order r 4517329193108106637 == some .eq)=false∨(((FloatKind.format .f64).order r 4517329193108106637 == some .gt || (FloatKind.format .f64).order r 4517329193108106637 == some .eq)=true∧((FloatKind.format .f64).order r 4696837146684686336 == some .lt)=false):=by
   rw [ord_pos hr (by decide),ord_pos hr (by decide)]
   rcases Nat.lt_or_ge r 4517329193108106637 with h|h
   ·left;rw [Nat.compare_eq_lt.2 h];rfl
   ·right
    refine ⟨?_,?_⟩
    ·rcases Nat.lt_or_eq_of_le h with h|h
     ·rw [Nat.compare_eq_gt.2 h];rfl
     ·rw [Nat.compare_eq_eq.2 h.symm];rfl
    ·rcases Nat.lt_or_eq_of_le (show 4696837146684686336≤r by omega) with h|h
     ·rw [Nat.compare_eq_gt.2 h];rfl
     ·rw [Nat.compare_eq_eq.2 h.symm];rfl
  by_cases hl:l=[]
  ·subst hl
   simp only [eq_self_iff_true,if_true] at*
   have:(decide (Rf.bIx 46 [a] < [a].length))=false:=by
    rw [Rf.bIx_none (c:=46) (l:=[a]) hd46];simp
   rw [this] at c60
   have c60':∀ h,Does C 60 [.str (BStr.ofBytes [a]),.str ⟨1,46⟩] h (.bool false) h:=c60
   have p1:binV .add (.str (BStr.ofBytes [a])) (.str ⟨2,11824⟩)=some (.str (BStr.ofBytes ([a]++[46,48]))):=sadd_of (b:=[46,48]) (show 3≤maxStr by decide)
   have p2:binV .add (.str (BStr.ofBytes ([a]++[46,48]))) (.str ⟨1,69⟩)=some (.str (BStr.ofBytes ([a]++[46,48]++[69]))):=sadd_of (b:=[69]) (show 4≤maxStr by decide)
   have p3:binV .add (.str (BStr.ofBytes ([a]++[46,48]++[69]))) (.str (BStr.ofBytes (Rf.itz k)))=some (.str (BStr.ofBytes ([a]++[46,48]++[69]++Rf.itz k))):=sadd_of (by simp;exact Nat.le_trans (show _≤100 by omega) (by decide))
   refine does_pure (fn:=X19) rfl rfl rfl (mapO_cons conv_float mapO_nil) ?_
   rcases g with g1|⟨g1,g2⟩
   ·simp (decide:=true) only [BZ,X19,f_neq,hnn,callG_of (c30 _),callG_of (c28 _),f_eql,hz,f_geq,g1,callG_of (cE _),callG_of (c35' _),callG_of (c60' _),p1,callG_of (c61 _),p2,callG_of (c62 _),p3]
    all_goals rfl
   ·simp (decide:=true) only [BZ,X19,f_neq,hnn,callG_of (c30 _),callG_of (c28 _),f_eql,hz,f_geq,g1,f_lss,g2,callG_of (cE _),callG_of (c35' _),callG_of (c60' _),p1,callG_of (c61 _),p2,callG_of (c62 _),p3]
    all_goals rfl
  ·simp only [if_neg hl] at*
   have:(decide (Rf.bIx 46 (a::46::l) < (a::46::l).length))=true:=by
    rw [decide_eq_true_eq,Rf.bIx,if_neg (hd46 a (List.mem_cons_self ..)),Rf.bIx,if_pos rfl];simp
   rw [this] at c60
   have c60':∀ h,Does C 60 [.str (BStr.ofBytes (a::46::l)),.str ⟨1,46⟩] h (.bool true) h:=c60
   have p2:binV .add (.str (BStr.ofBytes (a::46::l))) (.str ⟨1,69⟩)=some (.str (BStr.ofBytes (a::46::l++[69]))):=sadd_of (b:=[69]) (by simp;exact Nat.le_trans (show _≤100 by omega) (by decide))
   have p3:binV .add (.str (BStr.ofBytes (a::46::l++[69]))) (.str (BStr.ofBytes (Rf.itz k)))=some (.str (BStr.ofBytes (a::46::l++[69]++Rf.itz k))):=sadd_of (by simp;exact Nat.le_trans (show _≤100 by omega) (by decide))
   have fin:a::46::l++[69]++Rf.itz k=a::46::(l++69::Rf.itz k):=by simp
   rw [fin] at p3
   refine does_pure (fn:=X19) rfl rfl rfl (mapO_cons conv_float mapO_nil) ?_
   rcases g with g1|⟨g1,g2⟩
   ·simp (decide:=true) only [BZ,X19,f_neq,hnn,callG_of (c30 _),callG_of (c28 _),f_eql,hz,f_geq,g1,callG_of (cE _),callG_of (c35' _),callG_of (c60' _),callG_of (c61 _),p2,callG_of (c62 _),p3]
   ·simp (decide:=true) only [BZ,X19,f_neq,hnn,callG_of (c30 _),callG_of (c28 _),f_eql,hz,f_geq,g1,f_lss,g2,callG_of (cE _),callG_of (c35' _),callG_of (c60' _),callG_of (c61 _),p2,callG_of (c62 _),p3]
end Go.Proofs.YtmadknpaljaecaaGreatDoor.Ev.D
