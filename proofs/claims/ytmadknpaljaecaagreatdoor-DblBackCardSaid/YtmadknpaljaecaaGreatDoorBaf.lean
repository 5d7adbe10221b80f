import Derived.KernelRfl
import Derived.Test.YtmadknpaljaecaaGreatDoorBab
import Derived.Test.YtmadknpaljaecaaGreatDoorBac
import Derived.Test.YtmadknpaljaecaaGreatDoorBad
import Derived.Test.YtmadknpaljaecaaGreatDoorBae
set_option linter.all false
set_option maxHeartbeats 1000000
namespace Go.Proofs.YtmadknpaljaecaaGreatDoor.Ev.D
open Go Go.Proofs.YtmadknpaljaecaaGreatDoor.Ev
set_option maxRecDepth 100000
theorem glob4:C.glob 4=.iptr false L4:=rfl
theorem dvp_eq:∀ (l:List UInt8) (v:Nat),l.all Rf.isD=true→dvp l v=Rf.dval l v
 |[],v,_=>rfl
 |c::r,v,h=>by
  simp only [List.all_cons,Bool.and_eq_true] at h
  have:c≠46:=by rintro rfl;exact absurd h.1 (by decide)
  rw [dvp,if_neg this,Rf.dval];exact dvp_eq r _ h.2
theorem dvp_point:∀ (w p:List UInt8) (v:Nat),w.all Rf.isD=true→p.all Rf.isD=true→dvp (w++46::p) v=Rf.dval (w++p) v
 |[],p,v,_,hp=>by rw [List.nil_append,List.nil_append,dvp,if_pos rfl];exact dvp_eq p v hp
 |c::r,p,v,h,hp=>by
  simp only [List.all_cons,Bool.and_eq_true] at h
  have:c≠46:=by rintro rfl;exact absurd h.1 (by decide)
  rw [List.cons_append,List.cons_append,dvp,if_neg this,Rf.dval];exact dvp_point r p _ h.2 hp
theorem eql_pos {x y:Nat} (hx:x≤Fl.inf) (hy:y≤Fl.inf):(FloatKind.f64.format.order x y == some Ordering.eq)=decide (x=y):=by
 show (Ieee.double.order x y == some Ordering.eq)=decide (x=y)
 rw [Fl.order_pos hx hy]
 simp only [compare,compareOfLessAndEq]
 by_cases h:x < y
 ·rw [if_pos h,decide_eq_false (by omega)];rfl
 ·rw [if_neg h]
  by_cases h2:x=y
  ·rw [if_pos h2,decide_eq_true h2];rfl
  ·rw [if_neg h2,decide_eq_false h2];rfl
set_option maxHeartbeats 2000000 in
theorem s233 {l mant post:List UInt8} {x:Int} {n0:Nat} {c0:UInt8} {r0:List UInt8} (hl:l.length≤700) (hd:l=mant++post) (hm:Rf.okM false mant=true) (hsaw:(Rf.fin Rf.st0 mant).saw=true) (hp:Post post x)
  (hOk:Rf.Ok (Rf.fin Rf.st0 mant) (dvp mant 0) n0) (h400:(Rf.fin Rf.st0 mant).nd≤400) (x1:-900≤dpF (Rf.fin Rf.st0 mant)+x) (x2:dpF (Rf.fin Rf.st0 mant)+x≤900) (hc0:l=c0::r0) (k1:48≤c0.toNat) (k2:c0.toNat≤57):
  ∃ r err,(dvp mant 0=0→r=0)∧(0 < dvp mant 0→Us.Near (Us.nn (dvp mant 0) (dpF (Rf.fin Rf.st0 mant)+x - (Rf.fin Rf.st0 mant).nd)) (Us.mm (dpF (Rf.fin Rf.st0 mant)+x - (Rf.fin Rf.st0 mant).nd)) r)∧(err=.nilIf∨err=.iface 160 (.int .i64 1))∧
   ∀ h,Does C 233 [.str (BStr.ofBytes l)] h (.tup [.float .f64 r,.int .i64 (l.length:Int),err]) h:=by
 have c263:=fun h=>s263 hc0 k1 k2 h
 have c264:=fun h=>s264 (l:=l) (neg:=false) (x:=x) (by omega) (by rw [hd];rfl) hm hsaw hp h
 obtain ⟨F,hF⟩:∃ F,Rf.fin Rf.st0 mant=F:=⟨_,rfl⟩
 obtain ⟨D,hD⟩:∃ D,dvp mant 0=D:=⟨_,rfl⟩
 have c270:=fun h0 hlen q1 q2=>s270 (h0:=h0) (b:=0) (ng:=false) (neg0:=false) (tr0:=false) (x:=x) hlen q1 q2 hl (by rw [hd];rfl) hm hsaw hp
 rw [hF] at c264 c270 hOk h400 x1 x2 ⊢
 rw [hD] at c270 hOk ⊢
 clear hp hsaw hm hF hD
 have hz272:∀ h,Does C 272 [.bool false] h (.int .u64 0) h:=fun h=>s272 h
 have hsh:binV .shl (.int .u64 0) (.int .u64 63)=some (.int .u64 0):=by
  have:=b_shln (k':=.u64) (a:=0) (n:=63) (by decide) (by decide);exact this
 have hor0:orF .u64 0 0=0:=by decide
 have hori:orF .u64 0 9218868437227405312=9218868437227405312:=by decide+kernel
 have hn1:(1:Int)≠0:=by decide
 unfold out264 at c264
 by_cases hD0:D=0
 ·
  subst hD0
  have hm0:F.m=0:=by
   obtain ⟨ρ,e,_,_⟩:=hOk.ex
   have hnn:F.m*10 ^ (F.nd - F.nm)=0:=by omega
   rcases Nat.mul_eq_zero.1 hnn with h|h
   ·exact h
   ·have:0 < 10 ^ (F.nd - F.nm):=Nat.pow_pos (by decide)
    omega
  refine ⟨0,.nilIf,fun _=>rfl,fun h=>absurd h (Nat.lt_irrefl _),.inl rfl,fun h=>?_⟩
  refine does_pure (fn:=X233) rfl rfl rfl (mapO_cons conv_str mapO_nil) ?_
  rw [hm0] at c264
  simp (decide:=true) only [BZ,X233,callG_of (c263 _),callG_of (c264 _),glob4,L4,ld1_iptr,callG_of (hz272 _),hsh,show ((0:Nat):Int)=0 from rfl,hor0,x_ffrom,ffV_i]
  all_goals rfl
 ·obtain ⟨m0,nd0,m19⟩:=Rf.m_pos hOk (by omega)
  obtain ⟨ρ,hρ,hρ1,hρ2⟩:=hOk.ex
  have hnm:=hOk.nm
  have hge:=hOk.ge nd0
  have hfe:fexp F x=dpF F+x - F.nm:=by unfold fexp;rw [if_pos (by omega)]
  rw [hfe] at c264
  obtain ⟨k,hk⟩:∃ k,F.nd - F.nm=k:=⟨_,rfl⟩
  obtain ⟨p,hpp⟩:∃ p,dpF F+x - (F.nm:Int)=p:=⟨_,rfl⟩
  have hpk:dpF F+x - (F.nd:Int)=p - (k:Int):=by omega
  rw [hk] at hρ hρ1
  rw [hpp] at c264
  rw [hpk,hρ]
  have m19':F.m < 10000000000000000000:=by have:(10:Nat) ^ 19=10000000000000000000:=rfl;omega
  have em:=decide_eq_false (show ¬ (F.m:Int)=0 by omega)
  by_cases hbig:310 < p
  ·refine ⟨Fl.inf,.iface 160 (.int .i64 1),fun h=>absurd h (by omega),fun _=>?_,.inr rfl,fun h=>?_⟩
   ·refine Us.near_mid (Rf.near_top m0 hbig) (Rf.near_top (d:=F.m+1) (by omega) hbig) (Us.mm_pos _) (Us.mm_pos _) (Us.mm_pos _) ?_ ?_
    ·rw [← Rf.nn_shift F.m k p];exact Nat.mul_le_mul_right _ (Rf.nn_le (Nat.le_add_right _ _))
    ·rw [← Rf.nn_shift (F.m+1) k p];exact Nat.mul_le_mul_right _ (Rf.nn_le (by rw [Nat.add_mul];omega))
   ·refine does_pure (fn:=X233) rfl rfl rfl (mapO_cons conv_str mapO_nil) ?_
    simp (decide:=true) only [BZ,X233,callG_of (c263 _),callG_of (c264 _),glob4,L4,ld1_iptr,callG_of (hz272 _),hsh,em,decide_eq_true hbig,hori,x_ffrom,ffV_i]
    all_goals first|exact ⟨rfl,rfl⟩|rfl
  ·have ebig:=decide_eq_false hbig
   by_cases hsmall:p < -345
   ·refine ⟨0,.nilIf,fun _=>rfl,fun _=>Rf.near_bot m19 hρ1 hsmall,.inl rfl,fun h=>?_⟩
    refine does_pure (fn:=X233) rfl rfl rfl (mapO_cons conv_str mapO_nil) ?_
    simp (decide:=true) only [BZ,X233,callG_of (c263 _),callG_of (c264 _),glob4,L4,ld1_iptr,callG_of (hz272 _),hsh,em,ebig,decide_eq_true hsmall,hor0,x_ffrom,ffV_i]
    all_goals rfl
   ·have esmall:=decide_eq_false hsmall
    obtain ⟨err1,herr1,c275⟩:=s275 (d:=F.m) (s:=0) (p:=p) m0 (by omega) (by omega) (by omega) (.inl rfl)
    have near1:=Us.pf_near (d:=F.m) (p:=p) m0 (by have:(2:Nat) ^ 64=18446744073709551616:=rfl;omega) (by omega) (by omega)
    have hcv1:∀ h,conv false h depth err1=some err1:=by rcases herr1 with rfl|rfl <;> exact fun _=>rfl
    rw [Nat.zero_add] at c275
    have c275':∀ h,Does C 275 [.int .u64 (F.m:Int),.int .i64 p,.int .u64 0] h (.tup [.float .f64 (Us.pf F.m p),err1]) h:=c275
    cases htr:F.tr with
    |false=>
     rw [htr] at c264
     have hρ0:ρ=0:=by
      rcases Nat.eq_zero_or_pos ρ with h|h
      ·exact h
      ·have:=hρ2.2 (by omega);rw [htr] at this;cases this
     subst hρ0
     rw [Nat.add_zero]
     obtain ⟨y,ok,hok,c274⟩:=s274 (d:=F.m) (p:=p) m0 (by omega) (by omega) (by omega) false
     cases ok with
     |true=>
      obtain ⟨r,hr,hyr⟩:=hok rfl
      have hyr:y=r:=hyr
      subst hyr
      refine ⟨y,.nilIf,fun h=>absurd h (by omega),fun _=>Rf.near_same hr,.inl rfl,fun h=>?_⟩
      refine does_pure (fn:=X233) rfl rfl rfl (mapO_cons conv_str mapO_nil) ?_
      simp (decide:=true) only [BZ,X233,callG_of (c263 _),callG_of (c264 _),glob4,L4,ld1_iptr,callG_of (hz272 _),hsh,em,ebig,esmall,callG_of (c274 _)]
     |false=>
      refine ⟨_,err1,fun h=>absurd h (by omega),fun _=>Rf.near_same near1,herr1,fun h=>?_⟩
      refine does_pure (fn:=X233) rfl rfl rfl (mapO_cons conv_str mapO_nil) ?_
      simp (decide:=true) only [BZ,X233,callG_of (c263 _),callG_of (c264 _),glob4,L4,ld1_iptr,callG_of (hz272 _),hsh,em,ebig,esmall,callG_of (c274 _),callG_of (c275' _),hcv1]
    |true=>
     rw [htr] at c264
     obtain ⟨err2,herr2,c275b⟩:=s275 (d:=F.m+1) (s:=0) (p:=p) (by omega) (by omega) (by omega) (by omega) (.inl rfl)
     have near2:=Us.pf_near (d:=F.m+1) (p:=p) (by omega) (by have:(2:Nat) ^ 64=18446744073709551616:=rfl;omega) (by omega) (by omega)
     rw [Nat.zero_add] at c275b
     have c275b':∀ h,Does C 275 [.int .u64 ((F.m+1:Nat):Int),.int .i64 p,.int .u64 0] h (.tup [.float .f64 (Us.pf (F.m+1) p),err2]) h:=c275b
     have w1:wrapF .u64 ((F.m:Int)+1)=((F.m+1:Nat):Int):=u64_wrap (n:=F.m+1) (by omega)
     have heq:=eql_pos near1.le near2.le
     by_cases hsame:Us.pf F.m p=Us.pf (F.m+1) p
     ·rw [decide_eq_true hsame] at heq
      refine ⟨_,err1,fun h=>absurd h (by omega),fun _=>Rf.near_cut hρ1 near1 (by rw [hsame];exact near2),herr1,fun h=>?_⟩
      refine does_pure (fn:=X233) rfl rfl rfl (mapO_cons conv_str mapO_nil) ?_
      simp (decide:=true) only [BZ,X233,callG_of (c263 _),callG_of (c264 _),glob4,L4,ld1_iptr,callG_of (hz272 _),hsh,em,ebig,esmall,callG_of (c275' _),w1,callG_of (c275b' _),heq,hcv1]
     ·rw [decide_eq_false hsame] at heq
      obtain ⟨h1,hd1,DV1,F1⟩:=c270 (Heap.empty.new (.cells 804 (.int .u8 0) (setL [(800,.int .i64 0),(801,.int .i64 0),(802,.bool false),(803,.bool false)] .nil) 208 false)) new_len (new_cell) (new_cell)
      obtain ⟨v,h2,hd2,r,ovf,rfl,hnear,F2⟩:=s271 DV1 ⟨nd0,hge⟩ h400 (by omega) (by omega)
      rw [hpk,hρ] at hnear
      simp only [Bool.false_eq_true,if_false,Nat.zero_add] at hd2
      have hsl:∀ h,slSV (.str (BStr.ofBytes l)) none (some (.int .i64 (l.length:Int))) h=.ok (.str (BStr.ofBytes l)) h:=fun h=>by
       rw [slS_hi (Nat.le_refl _),List.take_length]
      refine ⟨r,if ovf then .iface 160 (.int .i64 1) else .nilIf,fun h=>absurd h (by omega),fun _=>hnear,?_,fun h=>?_⟩
      ·cases ovf
       ·exact .inl rfl
       ·exact .inr rfl
      ·refine does_pure (fn:=X233) rfl rfl rfl (mapO_cons conv_str mapO_nil) ?_
       cases ovf <;> (simp (decide:=true) only [BZ,X233,callG_of (c263 _),callG_of (c264 _),glob4,L4,ld1_iptr,callG_of (hz272 _),hsh,em,ebig,esmall,callG_of (c275' _),w1,callG_of (c275b' _),heq,Option.map_none,Option.map_some,hsl,callG_of hd1,glob10,callG_of hd2,x_ffrom,ffV_i,Int.toNat_natCast])
       all_goals rfl
end Go.Proofs.YtmadknpaljaecaaGreatDoor.Ev.D
namespace Go.Proofs.YtmadknpaljaecaaGreatDoor.Ev
open Go
theorem x_mksl {call:CallT} {ρ:XO→AV} {h:Heap} {e s lim:Nat} {zs:List AV} {l c:XO}:xop call ρ h (.g (.mksl e s lim zs l c))=o_mksl ρ h e s lim zs l c:=rfl
def cpyV (size:Nat) (x y:AV) (h:Heap):OpR:=match x with
 |.sl b off len _ _=>(match lenOf y,slCells size h y with
  |some m,some new=>(match h.get b with
   |some (.cells n d cs e op)=>
    bif Nat.ble (off+min m len*size) n then
     .ok (.int .i64 (.ofNat (min m len))) (h.set b (.cells n d (wr cs (new.take (min m len*size)) off) e op))
    else .no 87
   |_=>.no 88)
  |_,_=>.no 89)
 |_=>.no 91
theorem x_cpy {call:CallT} {ρ:XO→AV} {h:Heap} {size:Nat} {x y:XO}:xop call ρ h (.g (.cpy size x y))=cpyV size (ρ x) (ρ y) h:=rfl
def usV (elem:Nat) (p n:AV) (h:Heap):OpR:=match n with
 |.int .i64 (.ofNat n)=>(match p with
  |.nilPtr=>bif Nat.beq n 0 then .ok (.str .empty) h else .no 95
  |.ref b off=>bif Nat.beq n 0 then .ok (.str .empty) h else
   bif Nat.ble n maxStr && Nat.beq off 0 then
   (match h.get b with
   |some (.cells m d cs e _)=>bif Nat.beq e elem then (match rd m d cs 0 n with
    |some l=>(match bytesOf l .empty with
     |some s=>.ok (.str s) (h.del b)
     |none=>.no 92)
    |none=>.no 93) else .no 94
   |_=>.no 94) else .no 94
  |_=>.no 95)
 |_=>.no 96
theorem x_us {call:CallT} {ρ:XO→AV} {h:Heap} {e:Nat} {p n:XO}:xop call ρ h (.g (.us e p n))=usV e (ρ p) (ρ n) h:=rfl
def mkslV (elem lim:Nat) (z l c:AV) (h:Heap):OpR:=match natTo lim c with
 |none=>.no 81
 |some c=>(match natTo c l with
  |none=>.no 82
  |some l=>.ok (.sl h.next 0 l 1 (some c)) (h.new (.cells c z .nil elem false)))
theorem x_mksl1 {call:CallT} {ρ:XO→AV} {h:Heap} {e lim:Nat} {z:AV} {l c:XO}:xop call ρ h (.g (.mksl e 1 lim [z] l c))=mkslV e lim z (ρ l) (ρ c) h:=by
 show o_mksl ρ h e 1 lim [z] l c=_
 unfold o_mksl mkslV
 cases natTo lim (ρ c) with
 |none=>rfl
 |some c'=>simp only;cases natTo c' (ρ l) <;> rfl
theorem mksl_nat {elem lim l c:Nat} {z:AV} {k k':IntKind} {h:Heap} (h1:c≤lim) (h2:l≤c):mkslV elem lim z (.int k (l:Int)) (.int k' (c:Int)) h=.ok (.sl h.next 0 l 1 (some c)) (h.new (.cells c z .nil elem false)):=by
 unfold mkslV;simp only [natTo_nat h1,natTo_nat h2]
theorem bytesOf_map:∀ (l pre:List UInt8),bytesOf (byteAVs (l.map UInt8.toNat)) (BStr.ofBytes pre)=some (BStr.ofBytes (pre++l))
 |[],pre=>by rw [List.append_nil];rfl
 |c::r,pre=>by
  show (bif Nat.blt c.toNat 256 then bytesOf (byteAVs (r.map UInt8.toNat)) ((BStr.ofBytes pre).push c.toNat) else none)=_
  rw [show Nat.blt c.toNat 256=true from by simp only [Nat.blt];exact Nat.ble_eq_true_of_le c.toNat_lt,cond_true,BStr.push_eq,bytesOf_map r (pre++[c]),List.append_assoc];rfl
theorem byteAVs_len:∀ (l:List Nat),(byteAVs l).length=l.length
 |[]=>rfl
 |_::r=>by simp only [byteAVs,List.length_cons,byteAVs_len r]
theorem rdCells_wr (d:AV) (cs:T AV) (l:List AV) (off:Nat):rdCells d (wr cs l off) l.length off=l:=by
 refine List.ext_getElem? fun i=>?_
 rcases Nat.lt_or_ge i l.length with hi|hi
 ·rw [rdCells_get d _ _ _ _ hi,get_wr,if_pos ⟨by omega,by omega⟩,Nat.add_sub_cancel_left,List.getElem?_eq_getElem hi];rfl
 ·rw [List.getElem?_eq_none (by rw [rdCells_length];exact hi),List.getElem?_eq_none hi]
theorem cpy_us {l:List UInt8} {h:Heap} {e:Nat} (hl:l.length≤maxStr) (h0:l≠[]):
  ∃ h2 h3,cpyV 1 (.sl h.next 0 l.length 1 (some l.length)) (.str (BStr.ofBytes l)) (h.new (.cells l.length (.int .u8 0) .nil e false))=.ok (.int .i64 (l.length:Int)) h2∧usV e (.ref h.next 0) (.int .i64 (l.length:Int)) h2=.ok (.str (BStr.ofBytes l)) h3:=by
 have hg:(h.new (.cells l.length (.int .u8 0) .nil e false)).get h.next=some (.cells l.length (.int .u8 0) .nil e false):=by simp [Heap.new,Heap.get,T.get_set]
 have hb:(BStr.ofBytes l).bytes=l.map UInt8.toNat:=BStr.bytes_eq l
 have hlen:(byteAVs (l.map UInt8.toNat)).length=l.length:=by rw [byteAVs_len,List.length_map]
 refine ⟨(h.new (.cells l.length (.int .u8 0) .nil e false)).set h.next (.cells l.length (.int .u8 0) (wr .nil (byteAVs (l.map UInt8.toNat)) 0) e false),((h.new (.cells l.length (.int .u8 0) .nil e false)).set h.next (.cells l.length (.int .u8 0) (wr .nil (byteAVs (l.map UInt8.toNat)) 0) e false)).del h.next,?_,?_⟩
 ·unfold cpyV
  simp only [lenOf,slCells,BStr.ofBytes_n,hb,Nat.min_self,Nat.mul_one,Nat.zero_add,hg]
  rw [show Nat.beq 1 1=true from rfl,cond_true]
  simp only [Nat.min_self]
  rw [Nat.ble_eq_true_of_le (Nat.le_refl _),cond_true,List.take_of_length_le (by rw [hlen];exact Nat.le_refl _)]
  rfl
 ·have hne:Nat.beq l.length 0=false:=by
   cases l with
   |nil=>exact (h0 rfl).elim
   |cons a r=>rfl
  show usV e (.ref h.next 0) (.int .i64 (.ofNat l.length)) _=_
  unfold usV
  simp only [hne,cond_false,Nat.ble_eq_true_of_le hl,Bool.true_and,Heap.get_set,if_true]
  rw [show Nat.beq 0 0=true from rfl,cond_true]
  rw [show Nat.beq e e=true from by simp,cond_true]
  unfold rd
  rw [Nat.zero_add,Nat.ble_eq_true_of_le (Nat.le_refl _),cond_true]
  simp only
  have:=rdCells_wr (.int .u8 0) .nil (byteAVs (l.map UInt8.toNat)) 0
  rw [hlen] at this
  have hbm:=bytesOf_map l []
  rw [show BStr.ofBytes []=BStr.empty from rfl,List.nil_append] at hbm
  rw [this,hbm]
end Go.Proofs.YtmadknpaljaecaaGreatDoor.Ev
namespace Go.Proofs.YtmadknpaljaecaaGreatDoor.Ev.D
open Go Go.Proofs.YtmadknpaljaecaaGreatDoor.Ev
set_option maxRecDepth 100000
theorem s223 {l:List UInt8} (hl:l.length≤1000000) (h:Heap):Does C 223 [.str (BStr.ofBytes l)] h (.str (BStr.ofBytes l)) h:=by
 refine does_pure (fn:=X223) rfl rfl rfl (mapO_cons conv_str mapO_nil) ?_
 by_cases h0:l=[]
 ·subst h0
  simp (decide:=true) only [BZ,X223,show (([]:List UInt8).length:Int)=0 from rfl]
  all_goals rfl
 ·have hp:0 < l.length:=List.length_pos_iff.2 h0
  have hm:l.length≤maxStr:=Nat.le_trans hl (by decide)
  obtain ⟨h2,h3,e1,e2⟩:=cpy_us (l:=l) (h:=Heap.empty) (e:=5) hm h0
  have ix:∀ hh,iaSV 1 (.sl Heap.empty.next 0 l.length 1 (some l.length)) (.int .i64 0) hh=.ok (.ref Heap.empty.next (0+0*1)) hh:=fun hh=>iaS_sl (i:=0) hp
  rw [empty_next] at e1 e2 ix
  simp (decide:=true) only [BZ,X223,decide_eq_false (show ¬ (l.length:Int)=0 by omega),x_mksl1,mksl_nat (show l.length≤8796093022208 by omega) (Nat.le_refl l.length),x_cpy,e1,ix,Nat.zero_mul,x_us,e2]
theorem glob6:C.glob 6=.iptr false L6:=rfl
theorem x_build {call:CallT} {ρ:XO→AV} {h:Heap} {zs:List AV} {ps:List (Nat×Nat×XO)}:xop call ρ h (.q (.build zs ps))=opR ((fillParts ρ ps zs).map .agg) h 20:=rfl
def errV (a b:List UInt8):AV:=.iptr false [.str (BStr.ofBytes a),.str (BStr.ofBytes b),.iface 246 (.iptr false [(.str ⟨18,10312401295712410520744752698248523139671909⟩)])]
theorem s169 {a b:List UInt8} (hb:b.length≤1000000) (h:Heap):Does C 169 [.str (BStr.ofBytes a),.str (BStr.ofBytes b)] h (errV a b) h:=by
 refine does_pure (fn:=X169) rfl rfl rfl (mapO_cons conv_str (mapO_cons conv_str mapO_nil)) ?_
 simp only [X169]
 simp (decide:=true) only [BZ]
 refine go_drawW rfl ?_
 simp (decide:=true) only [BZ,callG_of (s223 hb _),glob6,L6,ld1_iptr]
 refine (opG_of (v:=.agg [.str (BStr.ofBytes a),.str (BStr.ofBytes b),.iface 246 (.iptr false [(.str ⟨18,10312401295712410520744752698248523139671909⟩)])]) rfl).2 ?_
 simp (decide:=true) only [BZ]
 refine (opG_of (v:=.ref 0 0) (h:=Heap.empty.new (.cells 3 .undef (wr .nil [.str (BStr.ofBytes a),.str (BStr.ofBytes b),.iface 246 (.iptr false [(.str ⟨18,10312401295712410520744752698248523139671909⟩)])] 0) 213 false)) rfl).2 ?_
 simp (decide:=true) only [BZ]
 rfl
theorem eqIf {t t':Nat} {ts:List Nat} {k:IntKind} {a b:Int} {n:Bool} {h:Heap} (ht:(ts.any fun u=>Nat.beq u t)=true) (he:t=t'):eqGV n (.iface false ts) (.iface t (.int k a)) (.iface t' (.int k b)) h=.ok (.bool (bif n then !(decide (a=b)) else decide (a=b))) h:=by
 subst he
 have:eqTop (.iface false ts) (.iface t (.int k a)) (.iface t (.int k b))=some (decide (a=b)):=by
  unfold eqTop
  simp only
  rw [show Nat.beq t t=true from by simp,cond_true,if_pos ⟨ht,trivial⟩,eqI_eq]
  congr 1
 unfold eqGV
 rw [this]
theorem s111 {a b:List UInt8} (hb:b.length≤1000000):∃ v,(∀ h,conv false h depth v=some v)∧∀ h,Does C 111 [.str (BStr.ofBytes a),.str (BStr.ofBytes b),.int .i64 0,.int .i64 64,.iface 160 (.int .i64 1)] h v h:=by
 have hcv:∀ h,conv false h depth (.iface 163 (errV a b))=some (.iface 163 (errV a b)):=fun h=>rfl
 have hd:=fun h=>s169 (a:=a) hb h
 refine ⟨.iface 163 (errV a b),hcv,fun h=>?_⟩
 refine does_pure (fn:=X111) rfl rfl rfl (mapO_cons conv_str (mapO_cons conv_str (mapO_cons conv_int (mapO_cons conv_int (mapO_cons (b:=.iface 160 (.int .i64 1)) rfl mapO_nil))))) ?_
 have q1:∀ n a b h,eqGV n (.iface false [2,3,5,6,12,21,28,35,121,160,168,236,298,299,301,302]) (.iface 160 (.int .i64 a)) (.iface 160 (.int .i64 b)) h=.ok (.bool (bif n then !(decide (a=b)) else decide (a=b))) h:=fun n a b h=>eqIf (by decide) rfl
 simp (decide:=true) only [BZ,X111,q1,cond_false,callG_of (hd _),hcv]
theorem s185 {l:List UInt8} {r:Nat} {err:AV} (herr:err=.nilIf∨err=.iface 160 (.int .i64 1)) (hd:∀ h,Does C 233 [.str (BStr.ofBytes l)] h (.tup [.float .f64 r,.int .i64 (l.length:Int),err]) h) (h:Heap):
  Does C 185 [.str (BStr.ofBytes l),.int .i64 64] h (.tup [.float .f64 r,.int .i64 (l.length:Int),err]) h:=by
 refine does_pure (fn:=X185) rfl rfl rfl (mapO_cons conv_str (mapO_cons conv_int mapO_nil)) ?_
 have hcv:∀ h,conv false h depth err=some err:=by rcases herr with rfl|rfl <;> exact fun _=>rfl
 simp (decide:=true) only [BZ,X185,callG_of (hd _),hcv]
theorem s145 {l:List UInt8} {r:Nat} {err:AV} (herr:err=.nilIf∨err=.iface 160 (.int .i64 1)) (hd:∀ h,Does C 233 [.str (BStr.ofBytes l)] h (.tup [.float .f64 r,.int .i64 (l.length:Int),err]) h) (h:Heap):
  Does C 145 [.str (BStr.ofBytes l),.int .i64 64] h (.tup [.float .f64 r,err]) h:=by
 refine does_pure (fn:=X145) rfl rfl rfl (mapO_cons conv_str (mapO_cons conv_int mapO_nil)) ?_
 have hcv:∀ h,conv false h depth err=some err:=by rcases herr with rfl|rfl <;> exact fun _=>rfl
 simp (decide:=true) only [BZ,X145,callG_of (s185 herr hd _),decide_eq_false (show ¬ (l.length:Int)≠(l.length:Int) from fun h=>h rfl),hcv]
theorem s96 {l:List UInt8} {r:Nat} {err:AV} (hl:l.length≤1000000) (herr:err=.nilIf∨err=.iface 160 (.int .i64 1)) (hd:∀ h,Does C 233 [.str (BStr.ofBytes l)] h (.tup [.float .f64 r,.int .i64 (l.length:Int),err]) h):
  ∃ e2,∀ h,Does C 96 [.str (BStr.ofBytes l),.int .i64 64] h (.tup [.float .f64 r,e2]) h:=by
 rcases herr with rfl|rfl
 ·refine ⟨.nilIf,fun h=>?_⟩
  refine does_pure (fn:=X96) rfl rfl rfl (mapO_cons conv_str (mapO_cons conv_int mapO_nil)) ?_
  have q1:∀ n ts h,eqGV n (.iface true ts) .nilIf .nilIf h=.ok (.bool (bif n then false else true)) h:=fun n ts h=>by cases n <;> rfl
  simp (decide:=true) only [BZ,X96,callG_of (s145 (.inl rfl) hd _),q1,cond_true]
 ·obtain ⟨v,hv,hd2⟩:=s111 (a:=[80,97,114,115,101,70,108,111,97,116]) hl
  have hd2':∀ h,Does C 111 [.str ⟨10,379586899851417230467444⟩,.str (BStr.ofBytes l),.int .i64 0,.int .i64 64,.iface 160 (.int .i64 1)] h v h:=hd2
  refine ⟨v,fun h=>?_⟩
  refine does_pure (fn:=X96) rfl rfl rfl (mapO_cons conv_str (mapO_cons conv_int mapO_nil)) ?_
  have q1:∀ n ts h a,eqGV n (.iface true ts) (.iface 160 (.int .i64 a)) .nilIf h=.ok (.bool (bif n then true else false)) h:=fun n ts h a=>by cases n <;> rfl
  simp (decide:=true) only [BZ,X96,callG_of (s145 (.inr rfl) hd _),q1,cond_true,callG_of (hd2' _),hv]
end Go.Proofs.YtmadknpaljaecaaGreatDoor.Ev.D
namespace Go.Proofs.YtmadknpaljaecaaGreatDoor.Rf
def spc (c:UInt8):Bool:=decide (c.toNat=32) || decide (c.toNat=9) || decide (c.toNat=10) || decide (c.toNat=13)
def dAt:List UInt8→Nat
 |[]=>0
 |c::r=>if isD c then dAt r+1 else 0
theorem dAt_le:∀ l:List UInt8,dAt l≤l.length
 |[]=>Nat.le_refl _
 |c::r=>by unfold dAt;split <;> simp [dAt_le r]
theorem dAt_all:∀ l:List UInt8,(l.take (dAt l)).all isD=true
 |[]=>rfl
 |c::r=>by
  unfold dAt
  split
  ·rename_i h;rw [List.take_succ_cons,List.all_cons,h,dAt_all r];rfl
  ·rfl
theorem dAt_stop:∀ l:List UInt8,l.drop (dAt l)=[]∨∃ c r,l.drop (dAt l)=c::r∧isD c=false
 |[]=>.inl rfl
 |c::r=>by
  unfold dAt
  split
  ·exact dAt_stop r
  ·rename_i h;exact .inr ⟨c,r,rfl,by simpa using h⟩
def sgnD:List UInt8→List UInt8
 |[]=>[]
 |c::r=>if c.toNat=43∨c.toNat=45 then r else c::r
theorem sgnD_len:∀ l:List UInt8,(sgnD l).length≤l.length
 |[]=>Nat.le_refl _
 |c::r=>by
  rw [sgnD]
  by_cases h:c.toNat=43∨c.toNat=45
  ·rw [if_pos h];exact Nat.le_succ _
  ·rw [if_neg h];exact Nat.le_refl _
structure Parts where
 w:List UInt8
 pt:Bool
 p:List UInt8
 rest:List UInt8
def parts (s:List UInt8):Parts:=
 let w:=s.take (dAt s)
 let r:=s.drop (dAt s)
 match r with
 |[]=>⟨w,false,[],[]⟩
 |c::q=>if c=46 then ⟨w,true,q.take (dAt q),q.drop (dAt q)⟩ else ⟨w,false,[],c::q⟩
def expo:List UInt8→Option (Bool×List UInt8)
 |[]=>some (false,[])
 |c::r=>if c.toNat=101∨c.toNat=69 then
   (if sgnD r≠[]∧dAt (sgnD r)=(sgnD r).length then some (r.head? == some 45,sgnD r) else none)
  else none
def isNum (l:List UInt8):Bool:=
 let q:=parts (sgnD l)
 (q.w.length+q.p.length != 0) && (expo q.rest).isSome
end Go.Proofs.YtmadknpaljaecaaGreatDoor.Rf
namespace Go.Proofs.YtmadknpaljaecaaGreatDoor.Ev.D
open Go Go.Proofs.YtmadknpaljaecaaGreatDoor.Ev
set_option maxRecDepth 100000
theorem isD_dec {c:UInt8}:Rf.isD c=(decide ((48:Int)≤((c.toNat:Nat):Int)) && decide (((c.toNat:Nat):Int)≤57)):=by
 unfold Rf.isD
 congr 1 <;> (rw [decide_eq_decide];omega)
theorem s77 {l:List UInt8} (hl:l.length≤1000000) (h:Heap):Does C 77 [.str (BStr.ofBytes l)] h (.int .i64 ((Rf.dAt l:Nat):Int)) h:=by
 refine does_pure (fn:=X77) rfl rfl rfl (mapO_cons conv_str mapO_nil) ?_
 simp only [X77]
 simp (decide:=true) only [BZ]
 refine go_lp (fun n env h=>∃ i rest,l.drop i=rest∧i+Rf.dAt rest=Rf.dAt l∧n=rest.length∧i≤l.length∧env.at 0=.str (BStr.ofBytes l)∧env.at 3=.int .i64 (i:Int)) (fun env h=>env.at 3=.int .i64 ((Rf.dAt l:Nat):Int)) (n:=l.length) ⟨0,l,rfl,by omega,rfl,Nat.zero_le _,?_⟩ ?_ ?_
 ·simp (decide:=true) only [BZ]
  all_goals rfl
 ·rintro n env h1 ⟨i,rest,hd,hi,rfl,i0,a0,a3⟩
  cases rest with
  |nil=>
   have:=drop_nil hd
   simp (decide:=true) only [BZ,a0,a3,decide_eq_false (show ¬ (i:Int) < (l.length:Int) by omega)]
   have:i=Rf.dAt l:=by rw [← hi];rfl
   rw [this]
  |cons c r=>
   obtain ⟨hil,hc,hd'⟩:=drop_cons hd
   have w1:wrapF .i64 ((i:Int)+1)=((i+1:Nat):Int):=by rw [i64_wrap (by omega) (by omega)];rfl
   have hlt:=decide_eq_true (show (i:Int) < (l.length:Int) by omega)
   cases hD:Rf.isD c with
   |true=>
    obtain ⟨k1,k2⟩:=isD_iff.1 hD
    simp (decide:=true) only [BZ,a0,a3,hlt,ixS_drop hd,decide_eq_true (show (48:Int)≤((c.toNat:Nat):Int) by omega),decide_eq_true (show ((c.toNat:Nat):Int)≤57 by omega),w1]
    refine ⟨r.length,Nat.lt_succ_self _,i+1,r,hd',?_,rfl,by omega,?_⟩
    ·rw [← hi,Rf.dAt,if_pos hD];omega
    ·simp (decide:=true) only [BZ,a0]
     all_goals trivial
   |false=>
    have hi':i=Rf.dAt l:=by rw [← hi,Rf.dAt,hD];rfl
    rw [isD_dec] at hD
    cases h48:decide ((48:Int)≤((c.toNat:Nat):Int)) with
    |false=>
     simp (decide:=true) only [BZ,a0,a3,hlt,ixS_drop hd,h48]
     rw [hi']
    |true=>
     rw [h48,Bool.true_and] at hD
     simp (decide:=true) only [BZ,a0,a3,hlt,ixS_drop hd,h48,hD]
     rw [hi']
 ·rintro env h1 a3
  simp (decide:=true) only [BZ,a3]
theorem e_empty:(⟨0,0⟩:BStr)=BStr.ofBytes []:=rfl
theorem ix0 {c:UInt8} {r:List UInt8} {h:Heap}:ixSV (.str (BStr.ofBytes (c::r))) (.int .i64 0) h=.ok (.int .u8 ((c.toNat:Nat):Int)) h:=ixS_drop (l:=c::r) (i:=0) (r:=r) rfl
theorem sl1 {c:UInt8} {r:List UInt8} {h:Heap}:slSV (.str (BStr.ofBytes (c::r))) (some (.int .i64 1)) none h=.ok (.str (BStr.ofBytes r)) h:=by
 have:=slS_lo (l:=c::r) (k:=.i64) (a:=1) (h:=h) (by simp)
 exact this
theorem s78 {l:List UInt8} (h:Heap):Does C 78 [.str (BStr.ofBytes l)] h (.str (BStr.ofBytes (Rf.sgnD l))) h:=by
 refine does_pure (fn:=X78) rfl rfl rfl (mapO_cons conv_str mapO_nil) ?_
 cases l with
 |nil=>
  simp (decide:=true) only [BZ,X78,sneq_lit [] e_empty,decide_eq_false (show ¬ (([]:List UInt8)≠[]) from fun h=>h rfl)]
  all_goals rfl
 |cons c r=>
  have hne:=decide_eq_true (show (c::r)≠([]:List UInt8) by simp)
  by_cases h43:c.toNat=43
  ·simp (decide:=true) only [BZ,X78,sneq_lit [] e_empty,hne,ix0,decide_eq_true (show ((c.toNat:Nat):Int)=43 by omega),Option.map_some,Option.map_none,sl1]
   rw [Rf.sgnD,if_pos (.inl h43)]
  ·by_cases h45:c.toNat=45
   ·simp (decide:=true) only [BZ,X78,sneq_lit [] e_empty,hne,ix0,decide_eq_false (show ¬ ((c.toNat:Nat):Int)=43 by omega),decide_eq_true (show ((c.toNat:Nat):Int)=45 by omega),Option.map_some,Option.map_none,sl1]
    rw [Rf.sgnD,if_pos (.inr h45)]
   ·simp (decide:=true) only [BZ,X78,sneq_lit [] e_empty,hne,ix0,decide_eq_false (show ¬ ((c.toNat:Nat):Int)=43 by omega),decide_eq_false (show ¬ ((c.toNat:Nat):Int)=45 by omega)]
    rw [Rf.sgnD,if_neg (by omega)]
theorem ofb_beq {a b:List UInt8}:(BStr.ofBytes a).beq (BStr.ofBytes b)=decide (a=b):=by
 rw [BStr.beq_eq,Bool.eq_iff_iff];simp
def preB (l p:List UInt8):Bool:=decide (p.length≤l.length) && decide (l.take p.length=p)
theorem s75 {l p:List UInt8} (h:Heap):Does C 75 [.str (BStr.ofBytes l),.str (BStr.ofBytes p)] h (.bool (preB l p)) h:=by
 refine does_pure (fn:=X75) rfl rfl rfl (mapO_cons conv_str (mapO_cons conv_str mapO_nil)) ?_
 by_cases hc:p.length≤l.length
 ·simp (decide:=true) only [BZ,X75,decide_eq_true (show (p.length:Int)≤(l.length:Int) by omega),Option.map_some,Option.map_none,slS_hi hc,ofb_beq]
  unfold preB;rw [decide_eq_true hc,Bool.true_and]
 ·simp (decide:=true) only [BZ,X75,decide_eq_false (show ¬ (p.length:Int)≤(l.length:Int) by omega)]
  unfold preB;rw [decide_eq_false hc,Bool.false_and]
theorem s32 {l p:List UInt8} (h:Heap):Does C 32 [.str (BStr.ofBytes l),.str (BStr.ofBytes p)] h (.bool (preB l p)) h:=by
 refine does_pure (fn:=X32) rfl rfl rfl (mapO_cons conv_str (mapO_cons conv_str mapO_nil)) ?_
 simp (decide:=true) only [BZ,X32,callG_of (s75 _)]
theorem pre1 {l:List UInt8} {c:UInt8}:preB l [c]=(match l with|[]=>false|a::_=>decide (a=c)):=by
 cases l with
 |nil=>rfl
 |cons a r=>simp [preB]
theorem s51 {l:List UInt8} (hl:l.length≤1000000) (h:Heap):Does C 51 [.str (BStr.ofBytes l)] h (.bool (Rf.isNum l)) h:=by
 refine does_pure (fn:=X51) rfl rfl rfl (mapO_cons conv_str mapO_nil) ?_
 have hs:(Rf.sgnD l).length≤1000000:=Nat.le_trans (Rf.sgnD_len l) hl
 unfold Rf.isNum
 obtain ⟨s,hss⟩:∃ s,Rf.sgnD l=s:=⟨_,rfl⟩
 have c78:=fun h=>s78 (l:=l) h
 rw [hss] at hs c78 ⊢
 have hw:=Rf.dAt_le s
 have hwt:(s.take (Rf.dAt s)).length=Rf.dAt s:=by rw [List.length_take];omega
 have l46:(⟨1,46⟩:BStr)=BStr.ofBytes [46]:=rfl
 have c32:∀ h,Does C 32 [.str (BStr.ofBytes (s.drop (Rf.dAt s))),.str ⟨1,46⟩] h (.bool (preB (s.drop (Rf.dAt s)) [46])) h:=fun h=>s32 (p:=[46]) h
 rw [pre1] at c32
 have rest:∀ (env:T AV) (r:List UInt8) (a b:Nat),r.length≤1000000→a≤1000000→b≤1000000→env.at 0=.str (BStr.ofBytes r)→env.at 3=.int .i64 (a:Int)→env.at 4=.int .i64 (b:Int)→
   GoP C [.c (seqT 6 X51.body)] env .empty (Back [.tmp 2] true (.bool ((a+b != 0) && (Rf.expo r).isSome))):=by
  intro env r a b hr ha hb a0 a3 a4
  have w1:wrapF .i64 ((a:Int)+b)=((a+b:Nat):Int):=by rw [i64_wrap (by omega) (by omega)];rfl
  simp only [X51,seqT]
  by_cases h0:a+b=0
  ·simp (decide:=true) only [BZ,a3,a4,w1,decide_eq_true (show ((a+b:Nat):Int)=0 by omega)]
   rw [h0];rfl
  ·have hb0:(a+b != 0)=true:=by simp;omega
   rw [hb0,Bool.true_and]
   have e0:=decide_eq_false (show ¬ ((a+b:Nat):Int)=0 by omega)
   cases r with
   |nil=>
    simp (decide:=true) only [BZ,a0,a3,a4,w1,e0,seql_lit [] e_empty,decide_eq_true (show ([]:List UInt8)=[] from rfl)]
    all_goals rfl
   |cons c q=>
    have hne:=decide_eq_false (show ¬ (c::q)=([]:List UInt8) by simp)
    have hq:(Rf.sgnD q).length≤1000000:=by
     have:=Rf.sgnD_len q
     rw [List.length_cons] at hr
     omega
    by_cases hE:c.toNat=101∨c.toNat=69
    ·have hex:Rf.expo (c::q)=(if Rf.sgnD q≠[]∧Rf.dAt (Rf.sgnD q)=(Rf.sgnD q).length then some (q.head? == some 45,Rf.sgnD q) else none):=by rw [Rf.expo,if_pos hE]
     rw [hex]
     have g1:(decide (((c.toNat:Nat):Int)≠101)=true∧decide (((c.toNat:Nat):Int)≠69)=false)∨decide (((c.toNat:Nat):Int)≠101)=false:=by
      rcases hE with h|h
      ·exact .inr (decide_eq_false (by omega))
      ·exact .inl ⟨decide_eq_true (by omega),decide_eq_false (by omega)⟩
     by_cases hn:Rf.sgnD q=[]
     ·rw [if_neg (fun h=>h.1 hn)]
      rcases g1 with ⟨g1,g2⟩|g1
      ·simp (decide:=true) only [BZ,a0,a3,a4,w1,e0,seql_lit [] e_empty,sneq_lit [] e_empty,hne,ix0,g1,g2,Option.map_some,Option.map_none,sl1,callG_of (s78 _),hn,decide_eq_false (show ¬ (([]:List UInt8)≠[]) from fun h=>h rfl)]
       all_goals rfl
      ·simp (decide:=true) only [BZ,a0,a3,a4,w1,e0,seql_lit [] e_empty,sneq_lit [] e_empty,hne,ix0,g1,Option.map_some,Option.map_none,sl1,callG_of (s78 _),hn,decide_eq_false (show ¬ (([]:List UInt8)≠[]) from fun h=>h rfl)]
       all_goals rfl
     ·have hres:decide (((Rf.dAt (Rf.sgnD q):Nat):Int)=((Rf.sgnD q).length:Int))=(if Rf.sgnD q≠[]∧Rf.dAt (Rf.sgnD q)=(Rf.sgnD q).length then some (q.head? == some 45,Rf.sgnD q) else none).isSome:=by
       by_cases hc:Rf.dAt (Rf.sgnD q)=(Rf.sgnD q).length
       ·rw [if_pos ⟨hn,hc⟩,decide_eq_true (by omega)];rfl
       ·rw [if_neg (fun h=>hc h.2),decide_eq_false (by omega)];rfl
      rcases g1 with ⟨g1,g2⟩|g1
      ·simp (decide:=true) only [BZ,a0,a3,a4,w1,e0,seql_lit [] e_empty,sneq_lit [] e_empty,hne,ix0,g1,g2,Option.map_some,Option.map_none,sl1,callG_of (s78 _),decide_eq_true hn,callG_of (s77 hq _),hres]
      ·simp (decide:=true) only [BZ,a0,a3,a4,w1,e0,seql_lit [] e_empty,sneq_lit [] e_empty,hne,ix0,g1,Option.map_some,Option.map_none,sl1,callG_of (s78 _),decide_eq_true hn,callG_of (s77 hq _),hres]
    ·have hex:Rf.expo (c::q)=none:=by rw [Rf.expo,if_neg hE]
     rw [hex]
     simp (decide:=true) only [BZ,a0,a3,a4,w1,e0,seql_lit [] e_empty,hne,ix0,decide_eq_true (show ((c.toNat:Nat):Int)≠101 by omega),decide_eq_true (show ((c.toNat:Nat):Int)≠69 by omega)]
     all_goals rfl
 have eX:X51.body=.seq (seqH X51.body) (.seq (seqH (seqT 1 X51.body)) (.seq (seqH (seqT 2 X51.body)) (.seq (seqH (seqT 3 X51.body)) (.seq (seqH (seqT 4 X51.body)) (.seq (seqH (seqT 5 X51.body)) (seqT 6 X51.body)))))):=rfl
 rw [eX]
 generalize hR:seqT 6 X51.body=R at rest ⊢
 simp only [X51,seqT,seqH]
 cases hd:s.drop (Rf.dAt s) with
 |nil=>
  rw [hd] at c32
  have hp:Rf.parts s=⟨s.take (Rf.dAt s),false,[],[]⟩:=by unfold Rf.parts;rw [hd]
  rw [hp]
  simp (decide:=true) only [BZ,callG_of (c78 _),callG_of (s77 hs _),Option.map_some,Option.map_none,slS_lo hw,hd,callG_of (c32 _)]
  simp only [hwt,List.length_nil]
  refine rest _ [] (Rf.dAt s) 0 (by simp) (by omega) (by omega) ?_ ?_ ?_ <;> simp (decide:=true) only [BZ]
  all_goals rfl
 |cons c q=>
  rw [hd] at c32
  have hcl:(c::q).length≤1000000:=by
   have:(s.drop (Rf.dAt s)).length≤s.length:=by rw [List.length_drop];omega
   rw [hd] at this;omega
  have hql:q.length≤1000000:=by rw [List.length_cons] at hcl;omega
  by_cases h46:c=46
  ·subst h46
   have hp:Rf.parts s=⟨s.take (Rf.dAt s),true,q.take (Rf.dAt q),q.drop (Rf.dAt q)⟩:=by unfold Rf.parts;rw [hd];rfl
   rw [hp]
   have hqw:=Rf.dAt_le q
   have hqt:(q.take (Rf.dAt q)).length=Rf.dAt q:=by rw [List.length_take];omega
   have c32':∀ h,Does C 32 [.str (BStr.ofBytes (46::q)),.str ⟨1,46⟩] h (.bool true) h:=c32
   have w2:wrapF .i64 (1+((Rf.dAt q:Nat):Int))=((Rf.dAt q+1:Nat):Int):=by rw [i64_wrap (by omega) (by omega)];omega
   simp (decide:=true) only [BZ,callG_of (c78 _),callG_of (s77 hs _),Option.map_some,Option.map_none,slS_lo hw,hd,callG_of (c32' _),sl1,callG_of (s77 hql _),w2,slS_lo (show Rf.dAt q+1≤(46::q).length by simp;omega),List.drop_succ_cons]
   simp only [hwt,hqt]
   refine rest _ (q.drop (Rf.dAt q)) (Rf.dAt s) (Rf.dAt q) (by rw [List.length_drop];omega) (by omega) (by omega) ?_ ?_ ?_ <;> simp (decide:=true) only [BZ]
  ·have hp:Rf.parts s=⟨s.take (Rf.dAt s),false,[],c::q⟩:=by unfold Rf.parts;rw [hd];simp only;rw [if_neg h46]
   rw [hp]
   have c32':∀ h,Does C 32 [.str (BStr.ofBytes (c::q)),.str ⟨1,46⟩] h (.bool false) h:=fun h=>by
    have:=c32 h
    rw [show (match c::q with|[]=>false|a::_=>decide (a=46))=false from decide_eq_false h46] at this
    exact this
   simp (decide:=true) only [BZ,callG_of (c78 _),callG_of (s77 hs _),Option.map_some,Option.map_none,slS_lo hw,hd,callG_of (c32' _)]
   simp only [hwt,List.length_nil]
   refine rest _ (c::q) (Rf.dAt s) 0 hcl (by omega) (by omega) ?_ ?_ ?_ <;> simp (decide:=true) only [BZ]
   all_goals rfl
end Go.Proofs.YtmadknpaljaecaaGreatDoor.Ev.D
namespace Go.Proofs.YtmadknpaljaecaaGreatDoor.Rf
def bIx (c:UInt8):List UInt8→Nat
 |[]=>0
 |a::r=>if a=c then 0 else bIx c r+1
theorem bIx_le (c:UInt8):∀ l:List UInt8,bIx c l≤l.length
 |[]=>Nat.le_refl _
 |a::r=>by unfold bIx;split <;> simp [bIx_le c r]
theorem bIx_app (c:UInt8):∀ (a b:List UInt8),(∀ x∈a,x≠c)→bIx c (a++b)=a.length+bIx c b
 |[],b,_=>by simp
 |x::a,b,h=>by
  rw [List.cons_append,bIx,if_neg (h x (List.mem_cons_self ..)),bIx_app c a b (fun y hy=>h y (List.mem_cons_of_mem _ hy)),List.length_cons];omega
def cutA (c:UInt8) (l:List UInt8):List UInt8:=l.take (bIx c l)
def cutB (c:UInt8) (l:List UInt8):List UInt8:=l.drop (bIx c l+1)
def cutF (c:UInt8) (l:List UInt8):Bool:=decide (bIx c l < l.length)
theorem bIx_none {c:UInt8}:∀ {l:List UInt8},(∀ x∈l,x≠c)→bIx c l=l.length:=fun {l} h=>by
 have:=bIx_app c l [] h
 rw [List.append_nil] at this
 rw [this];rfl
theorem cut_in {c:UInt8} {a b:List UInt8} (h:∀ x∈a,x≠c):cutA c (a++c::b)=a∧cutB c (a++c::b)=b∧cutF c (a++c::b)=true:=by
 have e:bIx c (a++c::b)=a.length:=by rw [bIx_app c a _ h,bIx,if_pos rfl];rfl
 unfold cutA cutB cutF
 rw [e]
 refine ⟨by simp,?_,by simp⟩
 rw [List.drop_append,List.drop_eq_nil_of_le (by omega),show a.length+1 - a.length=1 by omega];rfl
theorem cut_out {c:UInt8} {a:List UInt8} (h:∀ x∈a,x≠c):cutA c a=a∧cutB c a=[]∧cutF c a=false:=by
 unfold cutA cutB cutF
 rw [bIx_none h]
 exact ⟨List.take_length,List.drop_eq_nil_of_le (by omega),by simp⟩
def tl (c:UInt8):List UInt8→List UInt8
 |[]=>[]
 |a::r=>if a=c then tl c r else a::r
theorem tl_len (c:UInt8):∀ l:List UInt8,(tl c l).length≤l.length
 |[]=>Nat.le_refl _
 |a::r=>by unfold tl;split <;> simp;exact Nat.le_succ_of_le (tl_len c r)
def low (c:UInt8):UInt8:=if 65≤c.toNat∧c.toNat≤90 then c+32 else c
def isUp (c:UInt8):Bool:=decide (65≤c.toNat∧c.toNat≤90)
end Go.Proofs.YtmadknpaljaecaaGreatDoor.Rf
namespace Go.Proofs.YtmadknpaljaecaaGreatDoor.Ev
open Go
def ixBV (s c:AV) (h:Heap):OpR:=match s with
 |.str s=>(match c with
  |.int .u8 (.ofNat c)=>bif Nat.blt c 256 then .ok (.int .i64 (findB s c s.n 0)) h else .no 51
  |_=>.no 51)
 |_=>.no 51
theorem findB_of (l:List UInt8) (c:UInt8):∀ (rest:List UInt8) (i:Nat),l.drop i=rest→
  findB (BStr.ofBytes l) c.toNat rest.length i=if Rf.bIx c rest < rest.length then ((i+Rf.bIx c rest:Nat):Int) else -1
 |[],i,_=>by simp [findB,Rf.bIx]
 |a::r,i,hd=>by
  obtain ⟨hi,hc,hd'⟩:=drop_cons hd
  have hat:(BStr.ofBytes l).at_ i=a.toNat:=by
   rw [BStr.at_eq _ _ hi]
   rw [List.getElem?_eq_getElem hi] at hc
   cases hc;rfl
  show (bif Nat.beq ((BStr.ofBytes l).at_ i) c.toNat then Int.ofNat i else findB (BStr.ofBytes l) c.toNat r.length (i+1))=_
  rw [hat,findB_of l c r (i+1) hd',Rf.bIx]
  by_cases hac:a=c
  ·subst hac
   rw [if_pos rfl,if_pos (show 0 < (a::r).length from Nat.succ_pos _),show Nat.beq a.toNat a.toNat=true from Nat.beq_refl _];rfl
  ·have hb:Nat.beq a.toNat c.toNat=false:=by
    rw [BStr.beq_eq_decide];exact decide_eq_false (fun e=>hac (UInt8.toNat_inj.1 e))
   rw [hb,if_neg hac]
   show (if _ then _ else _)=_
   by_cases hlt:Rf.bIx c r < r.length
   ·rw [if_pos hlt,if_pos (by rw [List.length_cons];omega)];congr 1;omega
   ·rw [if_neg hlt,if_neg (by rw [List.length_cons];omega)]
theorem x_ixB {call:CallT} {ρ:XO→AV} {h:Heap} {x y:XO}:xop call ρ h (.q (.ixB x y))=ixBV (ρ x) (ρ y) h:=by
 show o_ixB ρ h x y=_
 unfold o_ixB ixBV;rfl
theorem ixB_of {l:List UInt8} {c:UInt8} {h:Heap}:ixBV (.str (BStr.ofBytes l)) (.int .u8 ((c.toNat:Nat):Int)) h=.ok (.int .i64 (if Rf.bIx c l < l.length then ((Rf.bIx c l:Nat):Int) else -1)) h:=by
 have:=findB_of l c l 0 rfl
 rw [Nat.zero_add] at this
 show (bif Nat.blt c.toNat 256 then OpR.ok (.int .i64 (findB (BStr.ofBytes l) c.toNat (BStr.ofBytes l).n 0)) h else OpR.no 51)=_
 rw [show Nat.blt c.toNat 256=true from by simp only [Nat.blt];exact Nat.ble_eq_true_of_le c.toNat_lt,cond_true,BStr.ofBytes_n,this]
end Go.Proofs.YtmadknpaljaecaaGreatDoor.Ev
namespace Go.Proofs.YtmadknpaljaecaaGreatDoor.Ev.D
open Go Go.Proofs.YtmadknpaljaecaaGreatDoor.Ev
set_option maxRecDepth 100000
theorem s141 {l:List UInt8} {c:UInt8} (h:Heap):Does C 141 [.str (BStr.ofBytes l),.int .u8 ((c.toNat:Nat):Int)] h (.int .i64 (if Rf.bIx c l < l.length then ((Rf.bIx c l:Nat):Int) else -1)) h:=by
 refine does_pure (fn:=X141) rfl rfl rfl (mapO_cons conv_str (mapO_cons rfl mapO_nil)) ?_
 simp (decide:=true) only [BZ,X141,x_ixB,ixB_of]
theorem s95 {l:List UInt8} {c:UInt8} (h:Heap):Does C 95 [.str (BStr.ofBytes l),.str (BStr.ofBytes [c])] h (.int .i64 (if Rf.bIx c l < l.length then ((Rf.bIx c l:Nat):Int) else -1)) h:=by
 refine does_pure (fn:=X95) rfl rfl rfl (mapO_cons conv_str (mapO_cons conv_str mapO_nil)) ?_
 have h1:(([c]:List UInt8).length:Int)=1:=rfl
 rw [show X95.body=.seq (seqH X95.body) (.seq (seqH (seqT 1 X95.body)) (.seq (seqH (seqT 2 X95.body)) (seqT 3 X95.body))) from rfl]
 generalize seqT 3 X95.body=R
 have h0:=decide_eq_false (show ¬ (1:Int)=0 by decide)
 by_cases he:[c]=l
 ·subst he
  simp (decide:=true) only [BZ,X95,seqT,seqH,h1,h0,ofb_beq,decide_eq_true (show [c]=[c] from rfl)]
  rw [show Rf.bIx c [c]=0 from if_pos rfl]
  rfl
 ·simp (decide:=true) only [BZ,X95,seqT,seqH,h1,h0,ofb_beq,decide_eq_false he,ix0,callG_of (s141 _),decide_eq_true (show (1:Int)=1 from rfl)]
theorem s81 {l:List UInt8} {c:UInt8} (hl:l.length≤1000000) (h:Heap):Does C 81 [.str (BStr.ofBytes l),.str (BStr.ofBytes [c])] h (.tup [.str (BStr.ofBytes (Rf.cutA c l)),.str (BStr.ofBytes (Rf.cutB c l)),.bool (Rf.cutF c l)]) h:=by
 refine does_pure (fn:=X81) rfl rfl rfl (mapO_cons conv_str (mapO_cons conv_str mapO_nil)) ?_
 unfold Rf.cutA Rf.cutB Rf.cutF
 by_cases hc:Rf.bIx c l < l.length
 ·have c95:∀ h,Does C 95 [.str (BStr.ofBytes l),.str (BStr.ofBytes [c])] h (.int .i64 ((Rf.bIx c l:Nat):Int)) h:=fun h=>by
   have:=s95 (l:=l) (c:=c) h
   rwa [if_pos hc] at this
  have w1:wrapF .i64 (((Rf.bIx c l:Nat):Int)+(([c]:List UInt8).length:Int))=((Rf.bIx c l+1:Nat):Int):=by
   rw [show (([c]:List UInt8).length:Int)=1 from rfl,i64_wrap (by omega) (by omega)];rfl
  simp (decide:=true) only [BZ,X81,callG_of (c95 _),decide_eq_true (show (0:Int)≤((Rf.bIx c l:Nat):Int) by omega)]
  refine go_drawW rfl ?_
  simp (decide:=true) only [BZ,List.map,Option.map_some,Option.map_none,slS_hi (Nat.le_of_lt hc),w1,slS_lo (show Rf.bIx c l+1≤l.length from hc)]
  simp (decide:=true) only [BZ,decide_eq_true hc]
  all_goals trivial
 ·have c95:∀ h,Does C 95 [.str (BStr.ofBytes l),.str (BStr.ofBytes [c])] h (.int .i64 (-1)) h:=fun h=>by
   have:=s95 (l:=l) (c:=c) h
   rwa [if_neg hc] at this
  have he:Rf.bIx c l=l.length:=Nat.le_antisymm (Rf.bIx_le c l) (by omega)
  simp (decide:=true) only [BZ,X81,callG_of (c95 _),decide_eq_false (show ¬ (0:Int)≤-1 by decide),decide_eq_false hc]
  rw [he,List.take_length,List.drop_eq_nil_of_le (by omega)]
  exact ⟨rfl,rfl⟩
theorem s35 {l:List UInt8} {c:UInt8} (hl:l.length≤1000000) (h:Heap):Does C 35 [.str (BStr.ofBytes l),.str (BStr.ofBytes [c])] h (.tup [.str (BStr.ofBytes (Rf.cutA c l)),.str (BStr.ofBytes (Rf.cutB c l)),.bool (Rf.cutF c l)]) h:=by
 refine does_pure (fn:=X35) rfl rfl rfl (mapO_cons conv_str (mapO_cons conv_str mapO_nil)) ?_
 simp (decide:=true) only [BZ,X35,callG_of (s81 hl _)]
 all_goals trivial
theorem s83 {l:List UInt8} {c:UInt8} (hl:l.length≤1000000) (h:Heap):Does C 83 [.str (BStr.ofBytes l),.int .u8 ((c.toNat:Nat):Int)] h (.str (BStr.ofBytes (Rf.tl c l))) h:=by
 refine does_pure (fn:=X83) rfl rfl rfl (mapO_cons conv_str (mapO_cons rfl mapO_nil)) ?_
 simp only [X83]
 simp (decide:=true) only [BZ]
 refine go_lp (fun n env h=>∃ r:List UInt8,n=r.length∧Rf.tl c r=Rf.tl c l∧r.length≤1000000∧env.at 0=.str (BStr.ofBytes r)∧env.at 1=.int .u8 ((c.toNat:Nat):Int)) (fun env h=>env.at 0=.str (BStr.ofBytes (Rf.tl c l))) (n:=l.length) ⟨l,rfl,rfl,hl,?_⟩ ?_ ?_
 ·simp (decide:=true) only [BZ]
  all_goals trivial
 ·rintro n env h1 ⟨r,rfl,hr,hrl,a0,a1⟩
  cases r with
  |nil=>
   simp (decide:=true) only [BZ,a0,a1,decide_eq_false (show ¬ (0:Int) < (([]:List UInt8).length:Int) by decide)]
   rw [← hr];rfl
  |cons a q=>
   have hp:=decide_eq_true (show (0:Int) < ((a::q).length:Int) by rw [List.length_cons];omega)
   by_cases hac:a=c
   ·subst hac
    simp (decide:=true) only [BZ,a0,a1,hp,ix0,decide_eq_true (show ((a.toNat:Nat):Int)=((a.toNat:Nat):Int) from rfl),Option.map_some,Option.map_none,sl1]
    refine ⟨q.length,Nat.lt_succ_self _,q,rfl,?_,by rw [List.length_cons] at hrl;omega,?_⟩
    ·rw [← hr,Rf.tl,if_pos rfl]
    ·simp (decide:=true) only [BZ,a1]
     all_goals trivial
   ·simp (decide:=true) only [BZ,a0,a1,hp,ix0,decide_eq_false (show ¬ ((a.toNat:Nat):Int)=((c.toNat:Nat):Int) from fun e=>hac (UInt8.toNat_inj.1 (by omega)))]
    rw [← hr,Rf.tl,if_neg hac]
 ·rintro env h1 a0
  simp (decide:=true) only [BZ,a0]
theorem s105 {l:List UInt8} {c:UInt8} (hc:c.toNat < 128) (hl:l.length≤1000000) (h:Heap):Does C 105 [.str (BStr.ofBytes l),.str (BStr.ofBytes [c])] h (.str (BStr.ofBytes (Rf.tl c l))) h:=by
 refine does_pure (fn:=X105) rfl rfl rfl (mapO_cons conv_str (mapO_cons conv_str mapO_nil)) ?_
 rw [show X105.body=.seq (seqH X105.body) (.seq (seqH (seqT 1 X105.body)) (.seq (seqH (seqT 2 X105.body)) (seqT 3 X105.body))) from rfl]
 generalize seqT 3 X105.body=R
 have h1:(([c]:List UInt8).length:Int)=1:=rfl
 have hc2:=decide_eq_true (show ((c.toNat:Nat):Int) < 128 by omega)
 cases l with
 |nil=>
  simp (decide:=true) only [BZ,X105,seqT,seqH,seql_lit [] e_empty,decide_eq_true (show ([]:List UInt8)=[] from rfl)]
  rfl
 |cons a r=>
  simp (decide:=true) only [BZ,X105,seqT,seqH,seql_lit [] e_empty,decide_eq_false (show ¬ (a::r)=([]:List UInt8) by simp),decide_eq_false (show ¬ [c]=([]:List UInt8) by simp),h1,ix0,hc2,decide_eq_true (show (1:Int)=1 from rfl),callG_of (s83 hl _)]
  try rfl
end Go.Proofs.YtmadknpaljaecaaGreatDoor.Ev.D
namespace Go.Proofs.YtmadknpaljaecaaGreatDoor.Ev
open Go
theorem x_app {call:CallT} {ρ:XO→AV} {h:Heap} {e s lim:Nat} {x y:XO}:xop call ρ h (.h (.app e s lim x y))=append e s lim h (ρ x) (ρ y):=rfl
def cvPV (t size:Nat) (x:AV) (h:Heap):OpR:=match x with
 |.ref b 0=>(match h.get b with
  |some (.cells n _ _ e _)=>bif Nat.beq e t && Nat.ble size n then .ok (.ref b 0) h else .no 73
  |_=>.no 74)
 |.nilPtr=>.ok .nilPtr h
 |_=>.no 75
theorem x_cvP {call:CallT} {ρ:XO→AV} {h:Heap} {t size:Nat} {x:XO}:xop call ρ h (.g (.cvP t size x))=cvPV t size (ρ x) h:=rfl
def capSlV (x:AV) (h:Heap):OpR:=match x with
 |.nilSl=>.ok (.int .i64 (.ofNat 0)) h
 |.sl _ _ _ _ (some c)=>.ok (.int .i64 (.ofNat c)) h
 |_=>.no 7
theorem x_capSl {call:CallT} {ρ:XO→AV} {h:Heap} {x:XO}:xop call ρ h (.p (.capSl x))=capSlV (ρ x) h:=rfl
def usdV (x:AV) (h:Heap):OpR:=match x with
 |.sl b off len _ _=>bif Nat.beq len 0 then .no 48 else .ok (.ref b off) h
 |.nilSl=>.ok .nilPtr h
 |_=>.no 48
theorem x_usd {call:CallT} {ρ:XO→AV} {h:Heap} {x:XO}:xop call ρ h (.q (.usd x))=usdV (ρ x) h:=by
 show o_usd ρ h x=_
 unfold o_usd usdV;rfl
def mkNZV (elem:Nat) (x:AV) (h:Heap):OpR:=match x with
 |.int .i64 (.ofNat n)=>bif Nat.ble n maxStr then .ok (.sl h.next 0 n 1 none) (h.new (.cells n .dead .nil elem true)) else .no 97
 |_=>.no 97
theorem x_mkNZ {call:CallT} {ρ:XO→AV} {h:Heap} {elem:Nat} {x:XO}:xop call ρ h (.g (.mkNZ elem x))=mkNZV elem (ρ x) h:=rfl
def slSlV (size:Nat) (x:AV) (lo hi:Option AV) (h:Heap):OpR:=match x with
 |.sl b off len es (some c)=>(match bounds c len lo hi with
  |some (l,u)=>.ok (.sl b (bif Nat.beq l c then off else off+l*size) (u - l) es (some (c - l))) h
  |none=>.no 29)
 |.sl b off len es none=>(match bounds len len lo hi with
  |some (l,u)=>bif Nat.beq es size then (bif Nat.beq l len then .ok (.isl false 0 []) h else .ok (.sl b (off+l*size) (u - l) es none) h) else .no 29
  |none=>.no 29)
 |.isl w len cs=>(match bounds len len lo hi with
  |some (l,u)=>bif Nat.beq l len then .ok (.isl w 0 []) h else .ok (.isl w (u - l) (cs.drop (l*size))) h
  |none=>.no 30)
 |.nilSl=>(match bounds 0 0 lo hi with|some _=>.ok .nilSl h|none=>.no 31)
 |_=>.no 32
theorem x_slSl {call:CallT} {ρ:XO→AV} {h:Heap} {size:Nat} {x:XO} {lo hi:Option XO}:xop call ρ h (.q (.slSl size x lo hi))=slSlV size (ρ x) (lo.map ρ) (hi.map ρ) h:=by
 show o_slSl ρ h size x lo hi=_
 unfold o_slSl slSlV;rfl
structure BS (h:Heap) (b m:Nat) (w:List UInt8):Prop where
 b0:0 < b
 bn:b < h.next
 l0:h.len 0=2
 c0:h.cell 0 0=.ref 0 0
 c1:h.cell 0 1=.sl b 0 w.length 1 none
 g1:∃ d cs op,h.get b=some (.cells m d cs 5 op)∧rdCells d cs w.length 0=byteAVs (w.map UInt8.toNat)
 hm:w.length≤m
theorem byteAVs_app:∀ a b:List Nat,byteAVs (a++b)=byteAVs a++byteAVs b
 |[],_=>rfl
 |_::a,b=>by simp only [List.cons_append,byteAVs,byteAVs_app a b]
theorem rd_wr_app (d:AV) (cs:T AV) (l:List AV) (k:Nat):rdCells d (wr cs l k) (k+l.length) 0=rdCells d cs k 0++l:=by
 refine List.ext_getElem? fun i=>?_
 rcases Nat.lt_or_ge i (k+l.length) with hi|hi
 ·rw [rdCells_get d _ _ _ _ hi,get_wr]
  rcases Nat.lt_or_ge i k with hk|hk
  ·rw [if_neg (by omega),List.getElem?_append_left (by rw [rdCells_length];exact hk),rdCells_get d _ _ _ _ hk]
  ·rw [if_pos ⟨by omega,by omega⟩,List.getElem?_append_right (by rw [rdCells_length];exact hk),rdCells_length,Nat.zero_add,List.getElem?_eq_getElem (by omega)];rfl
 ·rw [List.getElem?_eq_none (by rw [rdCells_length];exact hi),List.getElem?_eq_none (by rw [List.length_append,rdCells_length];exact hi)]
theorem app_bs {h:Heap} {b m:Nat} {w s:List UInt8} (B:BS h b m w) (hs:w.length+s.length≤m) {y:AV} (hy:slCells 1 h y=some (byteAVs (s.map UInt8.toNat))) (hl:lenOf y=some s.length):
  ∃ h2,append 5 1 8796093022208 h (.sl b 0 w.length 1 none) y=.ok (.sl b 0 (w.length+s.length) 1 none) h2∧1 < h2.len 0∧BS (h2.stB 0 1 (.sl b 0 (w.length+s.length) 1 none)) b m (w++s):=by
 obtain ⟨d,cs,op,g,hr⟩:=B.g1
 have hb:=B.b0
 have key:∀ h2:Heap,h2.next=h.next→h2.get 0=h.get 0→(∃ cs2,h2.get b=some (.cells m d cs2 5 op)∧rdCells d cs2 (w.length+s.length) 0=byteAVs (w.map UInt8.toNat)++byteAVs (s.map UInt8.toNat))→1 < h2.len 0∧BS (h2.stB 0 1 (.sl b 0 (w.length+s.length) 1 none)) b m (w++s):=by
  rintro h2 hn h0 ⟨cs2,g2,r2⟩
  have l2:h2.len 0=2:=by have:=B.l0;unfold Heap.len at this ⊢;rw [h0];exact this
  refine ⟨by omega,⟨hb,?_,?_,?_,?_,?_,?_⟩⟩
  ·rw [Heap.stB_next,hn];exact B.bn
  ·rw [Heap.stB_len];exact l2
  ·rw [Heap.stB_cell _ _ _ _ _ _ (by omega),if_neg (by omega)]
   have:=B.c0;unfold Heap.cell at this ⊢;rw [h0];exact this
  ·rw [Heap.stB_cell _ _ _ _ _ _ (by omega),if_pos ⟨rfl,rfl⟩,List.length_append]
  ·refine ⟨d,cs2,op,?_,?_⟩
   ·rw [Heap.stB_get_ne _ _ _ (by omega),g2]
   ·rw [List.length_append,r2,List.map_append,byteAVs_app]
  ·rw [List.length_append];exact hs
 unfold append
 simp only [hy,hl,g]
 by_cases h0:s.length=0
 ·have hs0:s=[]:=List.length_eq_zero_iff.1 h0
  subst hs0
  refine ⟨h,?_,key h rfl rfl ⟨cs,g,?_⟩⟩
  ·simp only [List.length_nil,Nat.add_zero];rfl
  ·simp only [List.length_nil,Nat.add_zero,List.map_nil,byteAVs,List.append_nil];exact hr
 ·have hne:Nat.beq s.length 0=false:=by
   cases hb:Nat.beq s.length 0 with
   |false=>rfl
   |true=>exact (h0 (Nat.eq_of_beq_eq_true hb)).elim
  rw [hne,cond_false,show Nat.beq 1 1=true from rfl,Bool.true_and,Nat.ble_eq_true_of_le (show 0+(w.length+s.length)*1≤m by omega),cond_true]
  refine ⟨_,rfl,key _ rfl ?_ ⟨wr cs (byteAVs (s.map UInt8.toNat)) (0+w.length*1),?_,?_⟩⟩
  ·rw [Heap.get_set,if_neg (by omega)]
  ·rw [Heap.get_set,if_pos rfl]
  ·have:=rd_wr_app d cs (byteAVs (s.map UInt8.toNat)) w.length
   rw [byteAVs_len,List.length_map] at this
   rw [Nat.zero_add,Nat.mul_one,this,hr]
theorem BS.new {h:Heap} {b m:Nat} {w:List UInt8} (B:BS h b m w) (x:Blk):BS (h.new x) b m w:=by
 have hb:=B.b0
 have hn:=B.bn
 have g0:(h.new x).get 0=h.get 0:=by rw [Heap.get_new,if_neg (by omega)]
 have gb:(h.new x).get b=h.get b:=by rw [Heap.get_new,if_neg (by omega)]
 refine ⟨hb,Nat.lt_succ_of_lt hn,?_,?_,?_,?_,B.hm⟩
 ·have:=B.l0;unfold Heap.len at this ⊢;rw [g0];exact this
 ·have:=B.c0;unfold Heap.cell at this ⊢;rw [g0];exact this
 ·have:=B.c1;unfold Heap.cell at this ⊢;rw [g0];exact this
 ·rw [gb];exact B.g1
theorem slCells_str {s:List UInt8} {h:Heap}:slCells 1 h (.str (BStr.ofBytes s))=some (byteAVs (s.map UInt8.toNat)):=by
 show (bif Nat.beq 1 1 then some (byteAVs (BStr.ofBytes s).bytes) else none)=_
 rw [show (BStr.ofBytes s).bytes=s.map UInt8.toNat from BStr.bytes_eq s];rfl
theorem lenOf_str {s:List UInt8}:lenOf (.str (BStr.ofBytes s))=some s.length:=by
 show some (BStr.ofBytes s).n=_
 rw [BStr.ofBytes_n]
theorem us_bs {h:Heap} {b m:Nat} {w:List UInt8} (B:BS h b m w) (hm:m≤maxStr) (h0:w≠[]):usV 5 (.ref b 0) (.int .i64 (w.length:Int)) h=.ok (.str (BStr.ofBytes w)) (h.del b):=by
 obtain ⟨d,cs,op,g,hr⟩:=B.g1
 have hne:Nat.beq w.length 0=false:=by
  cases w with
  |nil=>exact (h0 rfl).elim
  |cons a r=>rfl
 show usV 5 (.ref b 0) (.int .i64 (.ofNat w.length)) h=_
 unfold usV
 simp only [hne,cond_false,Nat.ble_eq_true_of_le (Nat.le_trans B.hm hm),Bool.true_and,g]
 rw [show Nat.beq 0 0=true from rfl,cond_true]
 rw [show Nat.beq 5 5=true from rfl,cond_true]
 unfold rd
 rw [Nat.zero_add,Nat.ble_eq_true_of_le B.hm,cond_true]
 simp only
 have hbm:=bytesOf_map w []
 rw [show BStr.ofBytes []=BStr.empty from rfl,List.nil_append] at hbm
 rw [hr,hbm]
end Go.Proofs.YtmadknpaljaecaaGreatDoor.Ev
namespace Go.Proofs.YtmadknpaljaecaaGreatDoor.Ev.D
open Go Go.Proofs.YtmadknpaljaecaaGreatDoor.Ev
set_option maxRecDepth 100000
theorem s138 {h:Heap} {b m:Nat} {w:List UInt8} (B:BS h b m w):Does C 138 [.ref 0 0] h (.tup []) h:=by
 refine does_any (fn:=X138) rfl rfl rfl ?_
 have q1:∀ h,eqGV false .ptr (.ref 0 0) .nilPtr h=.ok (.bool false) h:=fun _=>rfl
 have q2:∀ h,eqGV true .ptr (.ref 0 0) (.ref 0 0) h=.ok (.bool false) h:=fun _=>rfl
 have l0:=B.l0
 simp (decide:=true) only [BZ,X138,ld1_cell (show 0 < h.len 0 by omega),B.c0,x_eq,q1,q2]
theorem s92 {h:Heap} {b m:Nat} {w s:List UInt8} (B:BS h b m w) (hs:w.length+s.length≤m):∃ v h',Does C 92 [.ref 0 0,.str (BStr.ofBytes s)] h v h'∧BS h' b m (w++s):=by
 obtain ⟨h2,e1,l2,B2⟩:=app_bs B hs slCells_str lenOf_str
 have l0:=B.l0
 refine ⟨.tup [.int .i64 (s.length:Int),.nilIf],h2.stB 0 1 (.sl b 0 (w.length+s.length) 1 none),?_,B2⟩
 refine does_any (fn:=X92) rfl rfl rfl ?_
 simp (decide:=true) only [BZ,X92,callG_of (s138 B),ld1_cell (show 1 < h.len 0 by omega),B.c1,x_app,e1,st1_cell l2 (show okCell (.sl b 0 (w.length+s.length) 1 none)=true from rfl)]
 try exact ⟨back2f.2 ⟨by simp (decide:=true) only [BZ],by simp (decide:=true) only [BZ]⟩,rfl⟩
theorem s160 {h:Heap} {b m:Nat} {w:List UInt8} {c:UInt8} (B:BS h b m w) (hs:w.length+1≤m):∃ v h',Does C 160 [.ref 0 0,.int .u8 ((c.toNat:Nat):Int)] h v h'∧BS h' b m (w++[c]):=by
 have B1:=B.new (.cells 1 .undef (wr .nil [.int .u8 ((c.toNat:Nat):Int)] 0) 5 false)
 have hy:slCells 1 (h.new (.cells 1 .undef (wr .nil [.int .u8 ((c.toNat:Nat):Int)] 0) 5 false)) (.sl h.next 0 1 0 (some 1))=some (byteAVs ([c].map UInt8.toNat)):=by
  simp only [slCells,Heap.get_new,if_true]
  rfl
 obtain ⟨h2,e1,l2,B2⟩:=app_bs (s:=[c]) B1 hs hy rfl
 have l0:=B.l0
 have eb:∀ ρ:XO→AV,ρ (.t 12)=.int .u8 ((c.toNat:Nat):Int)→o_bsl ρ h 5 1 [.int .u8 0] [(0,1,.t 12)]=.ok (.sl h.next 0 1 0 (some 1)) (h.new (.cells 1 .undef (wr .nil [.int .u8 ((c.toNat:Nat):Int)] 0) 5 false)):=by
  intro ρ hρ
  unfold o_bsl
  simp only [fillParts,hρ]
  rfl
 refine ⟨.nilIf,h2.stB 0 1 (.sl b 0 (w.length+[c].length) 1 none),?_,B2⟩
 refine does_any (fn:=X160) rfl rfl rfl ?_
 simp (decide:=true) only [BZ,X160,callG_of (s138 B),ld1_cell (show 1 < h.len 0 by omega),B.c1,x_app]
 refine (opG_of (v:=.sl h.next 0 1 0 (some 1)) (h:=h.new (.cells 1 .undef (wr .nil [.int .u8 ((c.toNat:Nat):Int)] 0) 5 false)) ?_).2 ?_
 ·rw [x_bsl];refine eb _ ?_
  rfl
 simp (decide:=true) only [BZ,x_app,e1,st1_cell l2 (show okCell (.sl b 0 (w.length+[c].length) 1 none)=true from rfl)]
 try exact ⟨back1f.2 (by simp (decide:=true) only [BZ]),rfl⟩
theorem s94 {h:Heap} {b m:Nat} {w:List UInt8} (B:BS h b m w) (hm:m≤maxStr) (h0:w≠[]):∃ h',Does C 94 [.ref 0 0] h (.str (BStr.ofBytes w)) h':=by
 have l0:=B.l0
 have hne:usdV (.sl b 0 w.length 1 none) h=.ok (.ref b 0) h:=by
  unfold usdV
  cases w with
  |nil=>exact (h0 rfl).elim
  |cons a r=>rfl
 refine ⟨h.del b,does_any (fn:=X94) rfl rfl rfl ?_⟩
 simp only [X94]
 simp (decide:=true) only [BZ]
 refine go_drawW rfl ?_
 simp (decide:=true) only [BZ,ld1_cell (show 1 < h.len 0 by omega),B.c1,x_usd,hne,x_us,us_bs B hm h0]
end Go.Proofs.YtmadknpaljaecaaGreatDoor.Ev.D
namespace Go.Proofs.YtmadknpaljaecaaGreatDoor.Ev
open Go
def cvBSV (v:AV) (h:Heap):OpR:=match v with
 |.str _=>.no 72
 |v=>(match slCells 1 h v with
  |some cs=>opR ((bytesOf cs .empty).map .str) h 71
  |none=>.no 72)
theorem x_cvBS {call:CallT} {ρ:XO→AV} {h:Heap} {x:XO}:xop call ρ h (.g (.cvBS x))=cvBSV (ρ x) h:=rfl
theorem bsl1b {ρ:XO→AV} {h:Heap} {t:Nat} {c:UInt8} (hρ:ρ (.t t)=.int .u8 ((c.toNat:Nat):Int)):o_bsl ρ h 5 1 [.int .u8 0] [(0,1,.t t)]=.ok (.sl h.next 0 1 0 (some 1)) (h.new (.cells 1 .undef (wr .nil [.int .u8 ((c.toNat:Nat):Int)] 0) 5 false)):=by
 unfold o_bsl
 simp only [fillParts,hρ]
 rfl
theorem cvBS1 {h:Heap} {c:UInt8}:cvBSV (.sl h.next 0 1 0 (some 1)) (h.new (.cells 1 .undef (wr .nil [.int .u8 ((c.toNat:Nat):Int)] 0) 5 false))=.ok (.str (BStr.ofBytes [c])) (h.new (.cells 1 .undef (wr .nil [.int .u8 ((c.toNat:Nat):Int)] 0) 5 false)):=by
 have hy:slCells 1 (h.new (.cells 1 .undef (wr .nil [.int .u8 ((c.toNat:Nat):Int)] 0) 5 false)) (.sl h.next 0 1 0 (some 1))=some (byteAVs ([c].map UInt8.toNat)):=by
  simp only [slCells,Heap.get_new,if_true]
  rfl
 have hbm:=bytesOf_map [c] []
 rw [show BStr.ofBytes []=BStr.empty from rfl,List.nil_append] at hbm
 unfold cvBSV
 simp only [hy,hbm];rfl
end Go.Proofs.YtmadknpaljaecaaGreatDoor.Ev
namespace Go.Proofs.YtmadknpaljaecaaGreatDoor.Ev
open Go
def OB (p:Nat) (x:Option Blk) (h:Heap) (v:AV) (w:List UInt8):Prop:=p < h.next∧h.get p=x∧∃ b n d cs e op,b≠p∧h.get b=some (.cells n d cs e op)∧b < h.next∧rdCells d cs w.length 0=byteAVs (w.map UInt8.toNat)∧w.length≤n∧
 (v=.sl b 0 w.length 1 (some n)∨(v=.sl b 0 w.length 1 none∧n=w.length∧op=true∧e=5))
theorem OB.new {p:Nat} {x:Option Blk} {h:Heap} {v:AV} {w:List UInt8} (O:OB p x h v w) (y:Blk):OB p x (h.new y) v w:=by
 obtain ⟨hp,hx,b,n,d,cs,e,op,hne,g,hb,hr⟩:=O
 exact ⟨Nat.lt_succ_of_lt hp,by rw [Heap.get_new,if_neg (by omega)];exact hx,b,n,d,cs,e,op,hne,by rw [Heap.get_new,if_neg (by omega)];exact g,Nat.lt_succ_of_lt hb,hr⟩
theorem bA_len (w:List UInt8):(byteAVs (w.map UInt8.toNat)).length=w.length:=by rw [byteAVs_len,List.length_map]
theorem app_ob {p:Nat} {x:Option Blk} {h:Heap} {v y:AV} {w s:List UInt8} (O:OB p x h v w) (hl:w.length+s.length≤8796093022208) (hy:slCells 1 h y=some (byteAVs (s.map UInt8.toNat))) (hn:lenOf y=some s.length):
  ∃ v' h',append 5 1 8796093022208 h v y=.ok v' h'∧OB p x h' v' (w++s):=by
 obtain ⟨hp,hx,b,n,d,cs,e,op,hne,g,hb,hr,hln,hv⟩:=O
 have hlen:(w++s).length=w.length+s.length:=List.length_append
 have hmap:byteAVs ((w++s).map UInt8.toNat)=byteAVs (w.map UInt8.toNat)++byteAVs (s.map UInt8.toNat):=by rw [List.map_append,byteAVs_app]
 have hrw:rdCells d (wr cs (byteAVs (s.map UInt8.toNat)) w.length) (w++s).length 0=byteAVs ((w++s).map UInt8.toNat):=by
  have:=rd_wr_app d cs (byteAVs (s.map UInt8.toNat)) w.length
  rw [bA_len] at this
  rw [hlen,this,hr,hmap]
 unfold append
 simp only [hy,hn]
 rcases hv with rfl|⟨rfl,rfl,rfl,rfl⟩
 ·simp only [g]
  by_cases hc:w.length+s.length≤n
  ·rw [Nat.ble_eq_true_of_le hc,cond_true,Nat.ble_eq_true_of_le (show 0+(w.length+s.length)*1≤n by omega),cond_true]
   refine ⟨_,_,rfl,hp,?_,b,n,d,wr cs (byteAVs (s.map UInt8.toNat)) w.length,e,op,hne,?_,hb,hrw,by rw [hlen];exact hc,.inl ?_⟩
   ·rw [Heap.get_set,if_neg (Ne.symm hne)];exact hx
   ·rw [Heap.get_set,if_pos rfl,Nat.zero_add,Nat.mul_one]
   ·rw [hlen]
  ·have hf:Nat.ble (w.length+s.length) n=false:=by
    cases hb2:Nat.ble (w.length+s.length) n with
    |false=>rfl
    |true=>exact (hc (Nat.le_of_ble_eq_true hb2)).elim
   rw [hf,cond_false,Nat.ble_eq_true_of_le hl,cond_true]
   have hrd:rd n d cs 0 (w.length*1)=some (byteAVs (w.map UInt8.toNat)):=by
    unfold rd
    rw [Nat.mul_one,Nat.zero_add,Nat.ble_eq_true_of_le hln,cond_true,hr]
   simp only [hrd]
   refine ⟨_,_,rfl,Nat.lt_succ_of_lt hp,?_,h.next,(w.length+s.length)*1,.undef,wr .nil (byteAVs (w.map UInt8.toNat)++byteAVs (s.map UInt8.toNat)) 0,5,true,by omega,?_,Nat.lt_succ_self _,?_,by rw [hlen,Nat.mul_one];exact Nat.le_refl _,.inr ⟨?_,?_,rfl,rfl⟩⟩
   ·rw [Heap.get_new,if_neg (by omega)];exact hx
   ·rw [Heap.get_new,if_pos rfl]
   ·have:=rdCells_wr .undef .nil (byteAVs ((w++s).map UInt8.toNat)) 0
    rw [bA_len] at this
    rw [← hmap,this]
   ·rw [hlen]
   ·rw [hlen,Nat.mul_one]
 ·simp only [g]
  by_cases h0:s.length=0
  ·have hs:s=[]:=List.length_eq_zero_iff.1 h0
   subst hs
   rw [show Nat.beq ([]:List UInt8).length 0=true from rfl,cond_true]
   exact ⟨_,_,rfl,hp,hx,b,w.length,d,cs,5,true,hne,g,hb,by rw [List.append_nil];exact hr,by rw [List.append_nil];exact Nat.le_refl _,.inr ⟨by rw [List.append_nil],by rw [List.append_nil],rfl,rfl⟩⟩
  ·have hne0:Nat.beq s.length 0=false:=by
    cases hb:Nat.beq s.length 0 with
    |false=>rfl
    |true=>exact (h0 (Nat.eq_of_beq_eq_true hb)).elim
   have hf:(Nat.beq 1 1 && Nat.ble (0+(w.length+s.length)*1) w.length)=false:=by
    cases hb2:Nat.ble (0+(w.length+s.length)*1) w.length with
    |false=>rfl
    |true=>have:=Nat.le_of_ble_eq_true hb2;omega
   rw [hne0,cond_false,hf,cond_false]
   have ht:(true && Nat.beq 0 0 && Nat.beq (w.length*1) w.length && Nat.beq 1 1 && Nat.ble (w.length+s.length) 8796093022208 && Nat.beq 5 5)=true:=by
    rw [Nat.mul_one,Nat.ble_eq_true_of_le hl,show Nat.beq w.length w.length=true from Nat.beq_refl _];rfl
   rw [ht,cond_true]
   refine ⟨_,_,rfl,Nat.lt_succ_of_lt hp,?_,h.next,(w.length+s.length)*1,d,wr cs (byteAVs (s.map UInt8.toNat)) w.length,5,true,by omega,?_,Nat.lt_succ_self _,hrw,by rw [hlen,Nat.mul_one];exact Nat.le_refl _,.inr ⟨?_,?_,rfl,rfl⟩⟩
   ·rw [Heap.get_new,if_neg (by show p≠h.next;omega)]
    show (h.del b).get p=x
    rw [Heap.get_del,if_neg (Ne.symm hne)];exact hx
   ·rw [Heap.get_new];exact if_pos rfl
   ·rw [hlen]
   ·rw [hlen,Nat.mul_one]
def bsV (cs:List AV) (h:Heap):OpR:=.ok (.sl h.next 0 cs.length 0 (some cs.length)) (h.new (.cells cs.length .undef (wr .nil cs 0) 5 false))
theorem x_bs1 {call:CallT} {ρ:XO→AV} {h:Heap} {x:XO} {n:Int} (hx:ρ x=.int .u8 n):xop call ρ h (.h (.bsl 5 1 [.int .u8 0] [(0,1,x)]))=bsV [.int .u8 n] h:=by
 rw [x_bsl];unfold o_bsl;simp only [fillParts,hx];rfl
theorem x_bs2 {call:CallT} {ρ:XO→AV} {h:Heap} {x y:XO} {n m:Int} (hx:ρ x=.int .u8 n) (hy:ρ y=.int .u8 m):xop call ρ h (.h (.bsl 5 2 [.int .u8 0,.int .u8 0] [(0,1,x),(1,1,y)]))=bsV [.int .u8 n,.int .u8 m] h:=by
 rw [x_bsl];unfold o_bsl;simp only [fillParts,hx,hy];rfl
theorem x_bs3 {call:CallT} {ρ:XO→AV} {h:Heap} {x y z:XO} {n m k:Int} (hx:ρ x=.int .u8 n) (hy:ρ y=.int .u8 m) (hz:ρ z=.int .u8 k):xop call ρ h (.h (.bsl 5 3 [.int .u8 0,.int .u8 0,.int .u8 0] [(0,1,x),(1,1,y),(2,1,z)]))=bsV [.int .u8 n,.int .u8 m,.int .u8 k] h:=by
 rw [x_bsl];unfold o_bsl;simp only [fillParts,hx,hy,hz];rfl
theorem bs_cells {h:Heap} (s:List UInt8):slCells 1 (h.new (.cells s.length .undef (wr .nil (byteAVs (s.map UInt8.toNat)) 0) 5 false)) (.sl h.next 0 s.length 0 (some s.length))=some (byteAVs (s.map UInt8.toNat)):=by
 simp only [slCells,Heap.get_new,if_true]
 unfold rd
 have:=rdCells_wr .undef .nil (byteAVs (s.map UInt8.toNat)) 0
 rw [bA_len] at this
 rw [Nat.mul_one,Nat.zero_add,Nat.ble_eq_true_of_le (Nat.le_refl _),cond_true,this]
theorem app_bsl {p:Nat} {x:Option Blk} {h:Heap} {v:AV} {w:List UInt8} (O:OB p x h v w) (s:List UInt8) (hl:w.length+s.length≤8796093022208):
  ∃ v' h',append 5 1 8796093022208 (h.new (.cells s.length .undef (wr .nil (byteAVs (s.map UInt8.toNat)) 0) 5 false)) v (.sl h.next 0 s.length 0 (some s.length))=.ok v' h'∧OB p x h' v' (w++s):=
 app_ob (O.new _) hl (bs_cells s) rfl
theorem ob_cvBS {p:Nat} {x:Option Blk} {h:Heap} {v:AV} {w:List UInt8} (O:OB p x h v w):cvBSV v h=.ok (.str (BStr.ofBytes w)) h:=by
 obtain ⟨hp,hx,b,n,d,cs,e,op,hne,g,hb,hr,hln,hv⟩:=O
 have hc:∀ k c,slCells 1 h (.sl b 0 w.length k c)=some (byteAVs (w.map UInt8.toNat)):=fun k c=>by
  simp only [slCells,g]
  unfold rd
  rw [Nat.mul_one,Nat.zero_add,Nat.ble_eq_true_of_le hln,cond_true,hr]
 have hbm:=bytesOf_map w []
 rw [show BStr.ofBytes []=BStr.empty from rfl,List.nil_append] at hbm
 rcases hv with rfl|⟨rfl,_⟩
 ·unfold cvBSV;simp only [hc,hbm];rfl
 ·unfold cvBSV;simp only [hc,hbm];rfl
end Go.Proofs.YtmadknpaljaecaaGreatDoor.Ev
namespace Go.Proofs.YtmadknpaljaecaaGreatDoor.Ev.D
open Go Go.Proofs.YtmadknpaljaecaaGreatDoor.Ev
set_option maxRecDepth 100000
abbrev S200:BStr:=⟨200,8369396053099643259884660439900312228746471110943504458504829912206407100469475510520505676855750014530596077689858408204562721349408824591789441711103775826291439126061900675989976254244761425382494394669896706626295868329681710377411642562040512013377776180902291979747008038411282346274188424097310996521951660972735479027990947060043115083917949168200323041593656569302669535377774123378085539195783572932112166539323561441937920580889744256865042652178519653545620815178381625⟩
theorem tabA:∀ v,v < 100→S200.at_ (v*2)=48+v / 10∧S200.at_ (v*2+1)=48+v % 10:=by decide+kernel
theorem tab0 {v:Nat} (hv:v < 100) (h:Heap):ixSV (.str S200) (.int .u32 ((v*2:Nat):Int)) h=.ok (.int .u8 ((48+v / 10:Nat):Int)) h:=by
 rw [ixSV_nat (show v*2 < 200 by omega),(tabA v hv).1]
theorem tab1 {v:Nat} (hv:v < 100) (h:Heap):ixSV (.str S200) (.int .u32 ((v*2+1:Nat):Int)) h=.ok (.int .u8 ((48+v % 10:Nat):Int)) h:=by
 rw [ixSV_nat (show v*2+1 < 200 by omega),(tabA v hv).2]
theorem u32_wrap {n:Nat} (h:n < 4294967296):wrapF .u32 (n:Int)=n:=by
 rw [wrapF_eq,wrap_u32];omega
theorem quo64 {a b:Nat} (hb:0 < b) (ha:a < 18446744073709551616):binV .quo (.int .u64 (a:Int)) (.int .u64 (b:Int))=some (.int .u64 ((a / b:Nat):Int)):=by
 rw [b_quo (by omega),show ((a:Nat):Int).tdiv b=((a / b:Nat):Int) from rfl,u64_wrap (Nat.lt_of_le_of_lt (Nat.div_le_self _ _) ha)]
theorem rem64 {a b:Nat} (hb:0 < b):binV .rem (.int .u64 (a:Int)) (.int .u64 (b:Int))=some (.int .u64 ((a % b:Nat):Int)):=by
 rw [b_rem (by omega)];rfl
theorem quo32 {a b:Nat} (hb:0 < b) (ha:a < 4294967296):binV .quo (.int .u32 (a:Int)) (.int .u32 (b:Int))=some (.int .u32 ((a / b:Nat):Int)):=by
 rw [b_quo (by omega),show ((a:Nat):Int).tdiv b=((a / b:Nat):Int) from rfl,u32_wrap (Nat.lt_of_le_of_lt (Nat.div_le_self _ _) ha)]
theorem rem32 {a b:Nat} (hb:0 < b):binV .rem (.int .u32 (a:Int)) (.int .u32 (b:Int))=some (.int .u32 ((a % b:Nat):Int)):=by
 rw [b_rem (by omega)];rfl
theorem st1_cell2 {H:Heap} {p i j:Nat} {a v:AV} (hi:i < H.len p) (hv:okCell v=true):stV 1 (.ref p i) v (H.stB p j a)=.ok .undef ((H.stB p j a).stB p i v):=st1_cell (by rw [Heap.stB_len];exact hi) hv
structure FBI (h0 h:Heap) (p U nd i:Nat):Prop where
 len:h.len p=h0.len p
 fr:Fr h0 h p
 d:∀ j,i≤j→j < nd→h.cell p j=.int .u8 ((48+dgt U nd j:Nat):Int)
theorem FBI.one {h0 h:Heap} {p U nd i:Nat} (F:FBI h0 h p U nd i) (h1:1≤i) (hi:i≤nd) (hl:nd≤h0.len p) {x:Nat} (hx:x=U / 10 ^ (nd - i) % 10):FBI h0 (h.stB p (i - 1) (.int .u8 ((48+x:Nat):Int))) p U nd (i - 1):=by
 refine ⟨by rw [Heap.stB_len];exact F.len,F.fr.st,fun j h2 h3=>?_⟩
 rw [Heap.stB_cell _ _ _ _ _ _ (by rw [F.len];omega)]
 by_cases hj:j=i - 1
 ·rw [if_pos ⟨rfl,hj⟩,hx]
  unfold dgt
  rw [show nd - 1 - j=nd - i by omega]
 ·rw [if_neg (fun h=>hj h.2)]
  exact F.d j (by omega) h3
theorem div_pow {U k j:Nat}:U / 10 ^ (k+j)=U / 10 ^ k / 10 ^ j:=by rw [Nat.pow_add,Nat.div_div_eq_div_mul]
theorem FBI.two {h0 h:Heap} {p U nd i u:Nat} (F:FBI h0 h p U nd i) (h1:2≤i) (hi:i≤nd) (hl:nd≤h0.len p) (hu:u=U / 10 ^ (nd - i)) {x:Nat} (hx:x=u % 100):
  FBI h0 ((h.stB p (i - 1) (.int .u8 ((48+x % 10:Nat):Int))).stB p (i - 2) (.int .u8 ((48+x / 10:Nat):Int))) p U nd (i - 2)∧u / 100=U / 10 ^ (nd - (i - 2)):=by
 have F1:=F.one (by omega) hi hl (x:=x % 10) (by rw [hx,hu];omega)
 have e:nd - (i - 1)=nd - i+1:=by omega
 have F2:=F1.one (by omega) (by omega) hl (x:=x / 10) (by rw [e,div_pow,← hu,hx,Nat.pow_one];omega)
 refine ⟨F2,?_⟩
 rw [show nd - (i - 2)=nd - i+2 by omega,div_pow,← hu]
theorem s226 {h0:Heap} {p U nd es:Nat} {cap:Option Nat} (hl:nd≤h0.len p) (hU:U < 10 ^ nd) (h19:nd≤19):∃ h',Does C 226 [.sl p 0 nd es cap,.int .u64 (U:Int)] h0 (.tup []) h'∧FBI h0 h' p U nd 0:=by
 have hU64:U < 18446744073709551616:=Nat.lt_of_lt_of_le hU (Nat.le_trans (Nat.pow_le_pow_right (by decide) h19) (by decide))
 refine (does_anyE (fn:=X226) rfl rfl rfl (args:=[.sl p 0 nd es cap,.int .u64 (U:Int)]) (P:=fun v h'=>v=.tup []∧FBI h0 h' p U nd 0) ?_).elim fun v ⟨h',hd,hv,hF⟩=>⟨h',hv ▸ hd,hF⟩
 have tail:∀ (env:T AV) (h:Heap) (u i:Nat),env.at 0=.sl p 0 nd es cap→env.at 1=.int .u64 (u:Int)→env.at 4=.int .i64 (i:Int)→i < 8→i≤nd→u=U / 10 ^ (nd - i)→FBI h0 h p U nd i→
   GoP C [.c (seqT 2 X226.body)] env h (fun e env h2=>∃ v,Back [] false v e env h2∧v=.tup []∧FBI h0 h2 p U nd 0):=by
  intro env h u i a0 a1 a4 h8 hi hu F
  have hui:u < 10 ^ i:=by
   rw [hu]
   refine Nat.div_lt_of_lt_mul ?_
   rw [← Nat.pow_add,show nd - i+i=nd by omega];exact hU
  have hu7:u < 10000000:=Nat.lt_of_lt_of_le hui (Nat.pow_le_pow_right (by decide) (show i≤7 by omega))
  have w32:wrapF .u32 (u:Int)=(u:Int):=u32_wrap (by omega)
  have fin:∀ (env:T AV) (h:Heap) (u i:Nat),env.at 0=.sl p 0 nd es cap→env.at 12=.int .u32 (u:Int)→env.at 4=.int .i64 (i:Int)→i < 2→i≤nd→u < 10 ^ i→u=U / 10 ^ (nd - i)→FBI h0 h p U nd i→
    GoP C [.c (seqT 5 X226.body)] env h (fun e env h2=>∃ v,Back [] false v e env h2∧v=.tup []∧FBI h0 h2 p U nd 0):=by
   intro env h u i a0 a12 a4 h2 hi hui hu F
   simp only [X226,seqT]
   have hi2:i=0∨i=1:=by omega
   rcases hi2 with rfl|rfl
   ·simp (decide:=true) only [BZ,a4]
    exact ⟨_,back0n,rfl,F⟩
   ·have hu10:u < 10:=hui
    have F1:=F.one (Nat.le_refl _) hi hl (x:=u) (by rw [← hu];omega)
    have w1:wrapF .u32 (48+(u:Int))=((48+u:Nat):Int):=u32_wrap (n:=48+u) (by omega)
    have w2:wrapF .u8 ((48+u:Nat):Int)=((48+u:Nat):Int):=by rw [wrapF_eq,wrap_u8];omega
    simp (decide:=true) only [BZ,a0,a12,a4,decide_eq_true (show (0:Int) < ((1:Nat):Int) by decide),w1,w2,x_iaS,iaS_sl (k:=.i64) (i:=0) (show 0 < nd by omega),show iaSV 1 (.sl p 0 nd es cap) (.int .i64 0) h=.ok (.ref p 0) h from iaS_sl (k:=.i64) (i:=0) (show 0 < nd by omega),x_st,st1_cell (show 0 < h.len p by rw [F.len];omega) okc_int]
    exact ⟨_,back0n,rfl,F1⟩
  have mid:∀ (env:T AV) (h:Heap) (u i:Nat),env.at 0=.sl p 0 nd es cap→env.at 12=.int .u32 (u:Int)→env.at 4=.int .i64 (i:Int)→i < 4→i≤nd→u < 10 ^ i→u=U / 10 ^ (nd - i)→FBI h0 h p U nd i→
    GoP C [.c (seqT 4 X226.body)] env h (fun e env h2=>∃ v,Back [] false v e env h2∧v=.tup []∧FBI h0 h2 p U nd 0):=by
   intro env h u i a0 a12 a4 h4 hi hui hu F
   rw [show seqT 4 X226.body=.seq (seqH (seqT 4 X226.body)) (seqT 5 X226.body) from rfl]
   generalize hR:seqT 5 X226.body=R at fin ⊢
   simp only [X226,seqT,seqH]
   by_cases h2:2≤i
   ·have hu4:u < 1000:=Nat.lt_of_lt_of_le hui (Nat.pow_le_pow_right (by decide) (show i≤3 by omega))
    obtain ⟨F1,hu1⟩:=F.two h2 hi hl hu rfl
    have e1:binV .rem (.int .u32 (u:Int)) (.int .u32 100)=some (.int .u32 ((u % 100:Nat):Int)):=rem32 (b:=100) (by decide)
    have e2:binV .quo (.int .u32 (u:Int)) (.int .u32 100)=some (.int .u32 ((u / 100:Nat):Int)):=quo32 (b:=100) (by decide) (by omega)
    have m1:wrapF .u32 (((u % 100:Nat):Int)*2)=((u % 100*2:Nat):Int):=u32_wrap (n:=u % 100*2) (by omega)
    have m2:wrapF .u32 (((u % 100*2:Nat):Int)+1)=((u % 100*2+1:Nat):Int):=u32_wrap (n:=u % 100*2+1) (by omega)
    have i1:wrapF .i64 ((i:Int) - 1)=((i - 1:Nat):Int):=by rw [i64_wrap (by omega) (by omega)];omega
    have i2:wrapF .i64 ((i:Int) - 2)=((i - 2:Nat):Int):=by rw [i64_wrap (by omega) (by omega)];omega
    simp (decide:=true) only [BZ,a0,a12,a4,decide_eq_true (show (2:Int)≤(i:Int) by omega),e1,e2,m1]
    refine go_drawW rfl ?_
    simp only [List.map_cons,List.map_nil]
    simp (decide:=true) only [BZ,a0,a4,m2,i1,i2,tab0 (show u % 100 < 100 by omega),tab1 (show u % 100 < 100 by omega),iaS_sl (show i - 1 < nd by omega),iaS_sl (show i - 2 < nd by omega),Nat.mul_one,st1_cell (show i - 1 < h.len p by rw [F.len];omega) okc_int,st1_cell (show i - 2 < (h.stB p (i - 1) (.int .u8 ((48+u % 100 % 10:Nat):Int))).len p by rw [Heap.stB_len,F.len];omega) okc_int]
    refine fin _ _ (u / 100) (i - 2) ?_ ?_ ?_ (by omega) (by omega) ?_ hu1 F1
    ·simp (decide:=true) only [BZ,a0]
    ·simp (decide:=true) only [BZ]
    ·simp (decide:=true) only [BZ]
    ·refine Nat.div_lt_of_lt_mul ?_
     rw [show (100:Nat)=10 ^ 2 from rfl,← Nat.pow_add,show 2+(i - 2)=i by omega];exact hui
   ·simp (decide:=true) only [BZ,a0,a12,a4,decide_eq_false (show ¬ (2:Int)≤(i:Int) by omega)]
    refine fin _ h u i ?_ ?_ ?_ (by omega) hi hui hu F
    ·simp (decide:=true) only [BZ,a0]
    ·simp (decide:=true) only [BZ,a12]
    ·simp (decide:=true) only [BZ,a4]
  rw [show seqT 2 X226.body=.seq (seqH (seqT 2 X226.body)) (.seq (seqH (seqT 3 X226.body)) (seqT 4 X226.body)) from rfl]
  generalize hR:seqT 4 X226.body=R at mid ⊢
  simp only [X226,seqT,seqH]
  by_cases h4:4≤i
  ·have hu2:u / 100 < 4294967296:=by omega
   obtain ⟨F1,hu1⟩:=F.two (by omega) hi hl hu rfl
   obtain ⟨F2,hu2'⟩:=F1.two (by omega) (by omega) hl hu1 (x:=u % 10000 / 100) (by omega)
   rw [show i - 2 - 1=i - 3 by omega,show i - 2 - 2=i - 4 by omega] at F2
   rw [show i - 2 - 2=i - 4 by omega] at hu2'
   have e1:binV .rem (.int .u32 (u:Int)) (.int .u32 10000)=some (.int .u32 ((u % 10000:Nat):Int)):=rem32 (b:=10000) (by decide)
   have e2:binV .quo (.int .u32 (u:Int)) (.int .u32 10000)=some (.int .u32 ((u / 10000:Nat):Int)):=quo32 (b:=10000) (by decide) (by omega)
   have e3:binV .quo (.int .u32 ((u % 10000:Nat):Int)) (.int .u32 100)=some (.int .u32 ((u % 10000 / 100:Nat):Int)):=quo32 (b:=100) (by decide) (by omega)
   have e4:binV .rem (.int .u32 ((u % 10000:Nat):Int)) (.int .u32 100)=some (.int .u32 ((u % 10000 % 100:Nat):Int)):=rem32 (b:=100) (by decide)
   have e5:u % 10000 % 100=u % 100:=by omega
   rw [e5] at e4
   have m1:wrapF .u32 (((u % 100:Nat):Int)*2)=((u % 100*2:Nat):Int):=u32_wrap (n:=u % 100*2) (by omega)
   have m2:wrapF .u32 (((u % 100*2:Nat):Int)+1)=((u % 100*2+1:Nat):Int):=u32_wrap (n:=u % 100*2+1) (by omega)
   have m3:wrapF .u32 (((u % 10000 / 100:Nat):Int)*2)=((u % 10000 / 100*2:Nat):Int):=u32_wrap (n:=u % 10000 / 100*2) (by omega)
   have m4:wrapF .u32 (((u % 10000 / 100*2:Nat):Int)+1)=((u % 10000 / 100*2+1:Nat):Int):=u32_wrap (n:=u % 10000 / 100*2+1) (by omega)
   have i1:wrapF .i64 ((i:Int) - 1)=((i - 1:Nat):Int):=by rw [i64_wrap (by omega) (by omega)];omega
   have i2:wrapF .i64 ((i:Int) - 2)=((i - 2:Nat):Int):=by rw [i64_wrap (by omega) (by omega)];omega
   have i3:wrapF .i64 ((i:Int) - 3)=((i - 3:Nat):Int):=by rw [i64_wrap (by omega) (by omega)];omega
   have i4:wrapF .i64 ((i:Int) - 4)=((i - 4:Nat):Int):=by rw [i64_wrap (by omega) (by omega)];omega
   simp (decide:=true) only [BZ,a0,a1,a4,w32,decide_eq_true (show (4:Int)≤(i:Int) by omega),e1,e2,e3,e4,m1,m3]
   refine go_drawW rfl ?_
   simp only [List.map_cons,List.map_nil]
   simp (decide:=true) only [BZ,a0,a4,m2,i1,i2,tab0 (show u % 100 < 100 by omega),tab1 (show u % 100 < 100 by omega),iaS_sl (show i - 1 < nd by omega),iaS_sl (show i - 2 < nd by omega),Nat.mul_one,st1_cell (show i - 1 < h.len p by rw [F.len];omega) okc_int,st1_cell (show i - 2 < (h.stB p (i - 1) (.int .u8 ((48+u % 100 % 10:Nat):Int))).len p by rw [Heap.stB_len,F.len];omega) okc_int]
   obtain ⟨H,hH⟩:∃ H,(h.stB p (i - 1) (.int .u8 ((48+u % 100 % 10:Nat):Int))).stB p (i - 2) (.int .u8 ((48+u % 100 / 10:Nat):Int))=H:=⟨_,rfl⟩
   rw [hH] at F1 F2 ⊢
   refine go_drawW rfl ?_
   simp only [List.map_cons,List.map_nil]
   simp (decide:=true) only [BZ,a0,a4,m4,i3,i4,tab0 (show u % 10000 / 100 < 100 by omega),tab1 (show u % 10000 / 100 < 100 by omega),iaS_sl (show i - 3 < nd by omega),iaS_sl (show i - 4 < nd by omega),Nat.mul_one,st1_cell (show i - 3 < H.len p by rw [F1.len];omega) okc_int,st1_cell (show i - 4 < (H.stB p (i - 3) (.int .u8 ((48+u % 10000 / 100 % 10:Nat):Int))).len p by rw [Heap.stB_len,F1.len];omega) okc_int]
   refine mid _ _ (u / 10000) (i - 4) ?_ ?_ ?_ (by omega) (by omega) ?_ (by rw [← hu2'];omega) F2
   ·simp (decide:=true) only [BZ,a0]
   ·simp (decide:=true) only [BZ]
   ·simp (decide:=true) only [BZ]
   ·refine Nat.div_lt_of_lt_mul ?_
    rw [show (10000:Nat)=10 ^ 4 from rfl,← Nat.pow_add,show 4+(i - 4)=i by omega];exact hui
  ·simp (decide:=true) only [BZ,a0,a1,a4,w32,decide_eq_false (show ¬ (4:Int)≤(i:Int) by omega)]
   refine mid _ h u i ?_ ?_ ?_ (by omega) hi hui hu F
   ·simp (decide:=true) only [BZ,a0]
   ·simp (decide:=true) only [BZ]
   ·simp (decide:=true) only [BZ,a4]
 rw [show X226.body=.seq (seqH X226.body) (.seq (seqH (seqT 1 X226.body)) (seqT 2 X226.body)) from rfl]
 generalize hR:seqT 2 X226.body=R at tail ⊢
 simp only [X226,seqT,seqH]
 simp (decide:=true) only [BZ]
 refine go_lp (fun k env h=>∃ u i:Nat,k=i∧env.at 0=.sl p 0 nd es cap∧env.at 1=.int .u64 (u:Int)∧env.at 4=.int .i64 (i:Int)∧i≤nd∧u=U / 10 ^ (nd - i)∧FBI h0 h p U nd i)
  (fun env h=>∃ u i:Nat,env.at 0=.sl p 0 nd es cap∧env.at 1=.int .u64 (u:Int)∧env.at 4=.int .i64 (i:Int)∧i < 8∧i≤nd∧u=U / 10 ^ (nd - i)∧FBI h0 h p U nd i) (n:=nd) ⟨U,nd,rfl,?_,?_,?_,Nat.le_refl _,?_,⟨rfl,Fr.refl _ _,fun j h1 h2=>by omega⟩⟩ ?_ ?_
 ·simp (decide:=true) only [BZ]
 ·simp (decide:=true) only [BZ]
 ·simp (decide:=true) only [BZ]
 ·rw [Nat.sub_self,Nat.pow_zero,Nat.div_one]
 ·rintro k env h ⟨u,i,rfl,a0,a1,a4,hi,hu,F⟩
  by_cases h8:8≤k
  ·have hu64:u < 18446744073709551616:=by rw [hu];exact Nat.lt_of_le_of_lt (Nat.div_le_self _ _) hU64
   obtain ⟨F1,hu1⟩:=F.two (by omega) hi hl hu rfl
   obtain ⟨F2,hu2⟩:=F1.two (by omega) (by omega) hl hu1 (x:=u % 100000000 % 10000 / 100) (by omega)
   obtain ⟨F3,hu3⟩:=F2.two (by omega) (by omega) hl hu2 (x:=u % 100000000 / 10000 % 100) (by omega)
   obtain ⟨F4,hu4⟩:=F3.two (by omega) (by omega) hl hu3 (x:=u % 100000000 / 10000 / 100) (by omega)
   rw [show k - 2 - 1=k - 3 by omega,show k - 2 - 2=k - 4 by omega] at F2
   rw [show k - 2 - 1=k - 3 by omega,show k - 2 - 2=k - 4 by omega,show k - 4 - 1=k - 5 by omega,show k - 4 - 2=k - 6 by omega] at F3
   rw [show k - 2 - 1=k - 3 by omega,show k - 2 - 2=k - 4 by omega,show k - 4 - 1=k - 5 by omega,show k - 4 - 2=k - 6 by omega,show k - 6 - 1=k - 7 by omega,show k - 6 - 2=k - 8 by omega] at F4
   rw [show k - 2 - 2 - 2 - 2=k - 8 by omega] at hu4
   have i1:wrapF .i64 ((k:Int) - 1)=((k - 1:Nat):Int):=by rw [i64_wrap (by omega) (by omega)];omega
   have i2:wrapF .i64 ((k:Int) - 2)=((k - 2:Nat):Int):=by rw [i64_wrap (by omega) (by omega)];omega
   have i3:wrapF .i64 ((k:Int) - 3)=((k - 3:Nat):Int):=by rw [i64_wrap (by omega) (by omega)];omega
   have i4:wrapF .i64 ((k:Int) - 4)=((k - 4:Nat):Int):=by rw [i64_wrap (by omega) (by omega)];omega
   have i5:wrapF .i64 ((k:Int) - 5)=((k - 5:Nat):Int):=by rw [i64_wrap (by omega) (by omega)];omega
   have i6:wrapF .i64 ((k:Int) - 6)=((k - 6:Nat):Int):=by rw [i64_wrap (by omega) (by omega)];omega
   have i7:wrapF .i64 ((k:Int) - 7)=((k - 7:Nat):Int):=by rw [i64_wrap (by omega) (by omega)];omega
   have i8:wrapF .i64 ((k:Int) - 8)=((k - 8:Nat):Int):=by rw [i64_wrap (by omega) (by omega)];omega
   have e1:binV .rem (.int .u64 (u:Int)) (.int .u64 100000000)=some (.int .u64 ((u % 100000000:Nat):Int)):=rem64 (b:=100000000) (by decide)
   have e2:binV .quo (.int .u64 (u:Int)) (.int .u64 100000000)=some (.int .u64 ((u / 100000000:Nat):Int)):=quo64 (b:=100000000) (by decide) hu64
   have w32:wrapF .u32 ((u % 100000000:Nat):Int)=((u % 100000000:Nat):Int):=u32_wrap (by omega)
   have v0:u % 100=u % 100000000 % 10000 % 100:=by omega
   have hk:u / 100 / 100 / 100 / 100=u / 100000000:=by omega
   rw [hk] at hu4
   simp only [v0] at F1 F2 F3 F4
   have ha8:u % 100000000 < 100000000:=by omega
   clear hu1 hu2 hu3 v0 hk
   generalize u % 100000000=a at*
   have q1:binV .quo (.int .u32 (a:Int)) (.int .u32 10000)=some (.int .u32 ((a / 10000:Nat):Int)):=quo32 (b:=10000) (by decide) (by omega)
   have q2:binV .rem (.int .u32 (a:Int)) (.int .u32 10000)=some (.int .u32 ((a % 10000:Nat):Int)):=rem32 (b:=10000) (by decide)
   have q3:binV .quo (.int .u32 ((a / 10000:Nat):Int)) (.int .u32 100)=some (.int .u32 ((a / 10000 / 100:Nat):Int)):=quo32 (b:=100) (by decide) (by omega)
   have q4:binV .rem (.int .u32 ((a / 10000:Nat):Int)) (.int .u32 100)=some (.int .u32 ((a / 10000 % 100:Nat):Int)):=rem32 (b:=100) (by decide)
   have q5:binV .quo (.int .u32 ((a % 10000:Nat):Int)) (.int .u32 100)=some (.int .u32 ((a % 10000 / 100:Nat):Int)):=quo32 (b:=100) (by decide) (by omega)
   have q6:binV .rem (.int .u32 ((a % 10000:Nat):Int)) (.int .u32 100)=some (.int .u32 ((a % 10000 % 100:Nat):Int)):=rem32 (b:=100) (by decide)
   have b0:a % 10000 % 100 < 100:=by omega
   have b1:a % 10000 / 100 < 100:=by omega
   have b2:a / 10000 % 100 < 100:=by omega
   have b3:a / 10000 / 100 < 100:=by omega
   generalize a % 10000 % 100=x0 at*
   generalize a % 10000 / 100=x1 at*
   generalize a / 10000 % 100=x2 at*
   generalize a / 10000 / 100=x3 at*
   have mm:∀ x:Nat,x < 100→wrapF .u32 ((x:Int)*2)=((x*2:Nat):Int):=fun x hx=>u32_wrap (n:=x*2) (by omega)
   have mp:∀ x:Nat,x < 100→wrapF .u32 (((x*2:Nat):Int)+1)=((x*2+1:Nat):Int):=fun x hx=>u32_wrap (n:=x*2+1) (by omega)
   have lk:∀ j,0 < j→k - j < nd∧k - j < h.len p:=fun j hj=>by rw [F.len];omega
   simp (decide:=true) only [BZ,a0,a1,a4,decide_eq_true (show (8:Int)≤(k:Int) by omega),e1,e2,w32,q1,q2,q3,q4,q5,q6,mm x0 b0,mm x1 b1,mm x2 b2,mm x3 b3]
   refine go_drawW rfl ?_
   simp only [List.map_cons,List.map_nil]
   simp (decide:=true) only [BZ,a0,a4,mp x0 b0,i1,i2,tab0 b0,tab1 b0,iaS_sl (lk 1 (by decide)).1,iaS_sl (lk 2 (by decide)).1,Nat.mul_one,st1_cell (lk 1 (by decide)).2 okc_int,st1_cell2 (lk 2 (by decide)).2 okc_int]
   obtain ⟨H1,hH1⟩:∃ H,(h.stB p (k - 1) (.int .u8 ((48+x0 % 10:Nat):Int))).stB p (k - 2) (.int .u8 ((48+x0 / 10:Nat):Int))=H:=⟨_,rfl⟩
   rw [hH1] at F1 F2 F3 F4 ⊢
   have l1:∀ j,0 < j→k - j < H1.len p:=fun j hj=>by rw [F1.len];omega
   refine go_drawW rfl ?_
   simp only [List.map_cons,List.map_nil]
   simp (decide:=true) only [BZ,a0,a4,mp x1 b1,i3,i4,tab0 b1,tab1 b1,iaS_sl (lk 3 (by decide)).1,iaS_sl (lk 4 (by decide)).1,Nat.mul_one,st1_cell (l1 3 (by decide)) okc_int,st1_cell2 (l1 4 (by decide)) okc_int]
   obtain ⟨H2,hH2⟩:∃ H,(H1.stB p (k - 3) (.int .u8 ((48+x1 % 10:Nat):Int))).stB p (k - 4) (.int .u8 ((48+x1 / 10:Nat):Int))=H:=⟨_,rfl⟩
   rw [hH2] at F2 F3 F4 ⊢
   have l2:∀ j,0 < j→k - j < H2.len p:=fun j hj=>by rw [F2.len];omega
   refine go_drawW rfl ?_
   simp only [List.map_cons,List.map_nil]
   simp (decide:=true) only [BZ,a0,a4,mp x2 b2,i5,i6,tab0 b2,tab1 b2,iaS_sl (lk 5 (by decide)).1,iaS_sl (lk 6 (by decide)).1,Nat.mul_one,st1_cell (l2 5 (by decide)) okc_int,st1_cell2 (l2 6 (by decide)) okc_int]
   obtain ⟨H3,hH3⟩:∃ H,(H2.stB p (k - 5) (.int .u8 ((48+x2 % 10:Nat):Int))).stB p (k - 6) (.int .u8 ((48+x2 / 10:Nat):Int))=H:=⟨_,rfl⟩
   rw [hH3] at F3 F4 ⊢
   have l3:∀ j,0 < j→k - j < H3.len p:=fun j hj=>by rw [F3.len];omega
   refine go_drawW rfl ?_
   simp only [List.map_cons,List.map_nil]
   simp (decide:=true) only [BZ,a0,a4,mp x3 b3,i7,i8,tab0 b3,tab1 b3,iaS_sl (lk 7 (by decide)).1,iaS_sl (lk 8 (by decide)).1,Nat.mul_one,st1_cell (l3 7 (by decide)) okc_int,st1_cell2 (l3 8 (by decide)) okc_int]
   exact ⟨k - 8,by omega,u / 100000000,k - 8,rfl,rfl,rfl,by omega,hu4,F4⟩
  ·simp (decide:=true) only [BZ,a4,decide_eq_false (show ¬ (8:Int)≤(k:Int) by omega)]
   exact ⟨u,k,a0,a1,rfl,by omega,hi,hu,F⟩
 ·rintro env h ⟨u,i,a0,a1,a4,h8,hi,hu,F⟩
  exact tail env h u i a0 a1 a4 h8 hi hu F
end Go.Proofs.YtmadknpaljaecaaGreatDoor.Ev.D
namespace Go.Proofs.YtmadknpaljaecaaGreatDoor.Us
def gg2 (p:Int):Nat:=min (127 - lp p).toNat ((-p).toNat+128)
def fine2 (p:Int):Bool:=
 if 0≤p∧p≤27 then decide (cc p % 2 ^ 65=0) && decide (B p=1)
 else if -27≤p∧p < 0 then decide (A p % 2 ^ gg2 p=0) && decide (B p*2 ^ 128 % 2 ^ gg2 p=0) && decide (B p*2 ^ 65≤2 ^ gg2 p)
 else upTo 4 fun j=>far (cc p) (2 ^ (127 - j)) (2 ^ 55 - 1) 1 (2 ^ 55)
set_option maxRecDepth 100000
theorem fines2:upTo 617 (fun i=>fine2 ((i:Int) - 292))=true:=by decide+kernel
theorem scaled2 {p:Int} (h1:-292≤p) (h2:p≤324) {y t j:Nat} (hy0:0 < y) (hy:y < 2 ^ 55) (hj:j≤3) (ht:9≤t) (hx:y*2 ^ t < 2 ^ 64):
  sc (y*2 ^ t) (hi p) (lo p) (2 ^ (t - 1 - j))=un (y*2 ^ t*A p) (B p*(2 ^ (t - 1 - j)*2 ^ 128)):=by
 have hf:fine2 p=true:=by
  have h3:fine2 (((p+292).toNat:Int) - 292)=true:=upTo_get fines2 (p+292).toNat (by omega)
  rwa [show ((p+292).toNat:Int) - 292=p by omega] at h3
 have hx0:0 < y*2 ^ t:=Nat.mul_pos hy0 (Nat.pow_pos (by decide))
 refine sc_ok (Nat.pow_pos (by decide)) hx (B_pos p) (c1 p) (c2 p) (hl p).1 (hl p).2 hx0 fun k k1 k2=>?_
 unfold fine2 at hf
 split at hf
 ·simp only [Bool.and_eq_true,decide_eq_true_eq] at hf
  obtain ⟨hf,hB⟩:=hf
  generalize y*2 ^ t=x at*
  generalize t - 1 - j=s at*
  have hc:cc p=A p:=by
   have a1:=c1 p;have a2:=c2 p
   rw [hB] at a1 a2;omega
  rw [hB,Nat.one_mul,← hc]
  obtain ⟨j,hj⟩:=Nat.dvd_of_mod_eq_zero hf
  have e1:x*cc p=(x*j)*2 ^ 65:=by rw [hj,Nat.mul_comm (2 ^ 65) j,Nat.mul_assoc]
  have e2:k*(2 ^ s*2 ^ 128)=(k*2 ^ s*2 ^ 63)*2 ^ 65:=by
   have p128:(2:Nat) ^ 128=2 ^ 63*2 ^ 65:=by rw [← Nat.pow_add]
   rw [p128];ac_rfl
  rw [e1,e2] at k1 k2
  rw [e1,e2]
  rw [near65 k1 k2]
 split at hf
 ·simp only [Bool.and_eq_true,decide_eq_true_eq] at hf
  generalize y*2 ^ t=x at*
  generalize t - 1 - j=s at*
  obtain ⟨⟨g1,g2⟩,g3⟩:=hf
  obtain ⟨j,hj⟩:=Nat.dvd_of_mod_eq_zero g1
  obtain ⟨i,hi⟩:=Nat.dvd_of_mod_eq_zero g2
  have hB:=B_pos p
  have t1:x*A p≤B p*(x*cc p):=by
   have:=Nat.mul_le_mul_left x (c1 p)
   rw [show x*(cc p*B p)=B p*(x*cc p) from by rw [Nat.mul_comm (B p),Nat.mul_assoc]] at this
   exact this
  have t2:B p*(x*cc p) < x*A p+B p*2 ^ 64:=by
   have h1:x*(cc p*B p) < x*(A p+B p):=Nat.mul_lt_mul_of_pos_left (c2 p) hx0
   rw [show x*(cc p*B p)=B p*(x*cc p) from by rw [Nat.mul_comm (B p),Nat.mul_assoc],Nat.mul_add] at h1
   have h2:x*B p≤B p*2 ^ 64:=by rw [Nat.mul_comm];exact Nat.mul_le_mul_left _ (Nat.le_of_lt hx)
   omega
  have t3:=Nat.mul_le_mul_left (B p) k1
  have t4:=Nat.mul_le_mul_left (B p) k2
  rw [Nat.mul_add] at t3 t4
  have e2:B p*(k*(2 ^ s*2 ^ 128))=(k*2 ^ s*i)*2 ^ gg2 p:=by
   rw [show B p*(k*(2 ^ s*2 ^ 128))=k*2 ^ s*(B p*2 ^ 128) from by ac_rfl,hi];ac_rfl
  have e1:x*A p=(x*j)*2 ^ gg2 p:=by rw [hj];ac_rfl
  rw [show k*(B p*(2 ^ s*2 ^ 128))=B p*(k*(2 ^ s*2 ^ 128)) from by ac_rfl]
  rw [e2] at t3 t4 ⊢
  rw [e1] at t1 t2 ⊢
  have p65:B p*2 ^ 65=B p*2 ^ 64+B p*2 ^ 64:=by rw [show (2:Nat) ^ 65=2 ^ 64+2 ^ 64 from rfl,Nat.mul_add]
  have hg:0 < 2 ^ gg2 p:=Nat.pow_pos (by decide)
  generalize x*j=a at t1 t2 ⊢
  generalize k*2 ^ s*i=b at t3 t4 ⊢
  have l1:a*2 ^ gg2 p < (b+1)*2 ^ gg2 p:=by
   rw [Nat.add_mul]
   have:0 < B p*2 ^ 64:=Nat.mul_pos hB (by decide)
   omega
  have l2:b*2 ^ gg2 p < (a+1)*2 ^ gg2 p:=by
   rw [Nat.add_mul]
   omega
  have:=Nat.lt_of_mul_lt_mul_right l1
  have:=Nat.lt_of_mul_lt_mul_right l2
  have:a=b:=by omega
  rw [this]
 ·exfalso
  have hf:=upTo_get hf j (by omega)
  have hm:0 < 2 ^ (127 - j):=Nat.pow_pos (by decide)
  have:=far_ok hm hf hy0 (Nat.le_sub_one_of_lt hy) hy0 ((k:Nat):Int)
  rw [← Int.natCast_mul,← Int.natCast_mul] at this
  have e1:∀ z:Nat,z*(2 ^ (t - 1 - j)*2 ^ 128)=(z*2 ^ (127 - j))*2 ^ t:=fun z=>by
   have:2 ^ (t - 1 - j)*2 ^ 128=2 ^ (127 - j)*2 ^ t:=by rw [← Nat.pow_add,← Nat.pow_add];congr 1;omega
   rw [this,Nat.mul_assoc]
  have e2:y*2 ^ t*cc p=(y*cc p)*2 ^ t:=by ac_rfl
  have e3:(2:Nat) ^ 64≤2 ^ 55*2 ^ t:=by rw [← Nat.pow_add];exact Nat.pow_le_pow_right (by decide) (by omega)
  have hT:0 < 2 ^ t:=Nat.pow_pos (by decide)
  rw [e1,e2] at k1 k2
  have k1':y*cc p≤k*2 ^ (127 - j)+2 ^ 55:=by
   refine Nat.le_of_mul_le_mul_right (Nat.le_trans k1 ?_) hT
   rw [Nat.add_mul];exact Nat.add_le_add_left e3 _
  have k2':k*2 ^ (127 - j)≤y*cc p+2 ^ 55:=by
   refine Nat.le_of_mul_le_mul_right (Nat.le_trans k2 ?_) hT
   rw [Nat.add_mul];exact Nat.add_le_add_left e3 _
  exact far_not k1' k2' this
end Go.Proofs.YtmadknpaljaecaaGreatDoor.Us
namespace Go.Proofs.YtmadknpaljaecaaGreatDoor.Us
open Fl
def dmin (o N M:Nat):Nat:=(un (4*N) M+o+3) / 4
def dmax (o N M:Nat):Nat:=(un (4*N) M - o) / 4
theorem dmin_le {o N M D:Nat} (hM:0 < M) (ho:o≤1):dmin o N M≤D↔N+o≤D*M:=by
 unfold dmin
 have hd:=Nat.div_add_mod (4*N) M
 have hr:=Nat.mod_lt (4*N) hM
 rw [un_eq]
 generalize 4*N / M=q at*
 generalize 4*N % M=r at*
 have e4:M*(4*D)=4*(D*M):=by rw [Nat.mul_comm D M,Nat.mul_left_comm]
 have h1:q < 4*D→M*q+M≤4*(D*M):=fun h=>by
  have:=Nat.mul_le_mul_left M (show q+1≤4*D from h)
  rw [Nat.mul_add,Nat.mul_one,e4] at this;exact this
 have h2:4*D≤q→4*(D*M)≤M*q:=fun h=>by
  have:=Nat.mul_le_mul_left M h
  rwa [e4] at this
 have h3:q=4*D→M*q=4*(D*M):=fun h=>by rw [h,e4]
 have h4:q > 4*D→4*(D*M)+M≤M*q:=fun h=>by
  have:=Nat.mul_le_mul_left M (show 4*D+1≤q from h)
  rw [Nat.mul_add,Nat.mul_one,e4] at this;exact this
 generalize D*M=X at*
 generalize M*q=P at*
 split <;> omega
theorem le_dmax {o N M D:Nat} (hM:0 < M) (ho:o≤1) (hN:0 < N):D≤dmax o N M↔D*M+o≤N:=by
 unfold dmax
 have hd:=Nat.div_add_mod (4*N) M
 have hr:=Nat.mod_lt (4*N) hM
 rw [un_eq]
 generalize 4*N / M=q at*
 generalize 4*N % M=r at*
 have e4:M*(4*D)=4*(D*M):=by rw [Nat.mul_comm D M,Nat.mul_left_comm]
 have h1:q < 4*D→M*q+M≤4*(D*M):=fun h=>by
  have:=Nat.mul_le_mul_left M (show q+1≤4*D from h)
  rw [Nat.mul_add,Nat.mul_one,e4] at this;exact this
 have h2:4*D≤q→4*(D*M)≤M*q:=fun h=>by
  have:=Nat.mul_le_mul_left M h
  rwa [e4] at this
 have h3:q=4*D→M*q=4*(D*M):=fun h=>by rw [h,e4]
 have h4:q > 4*D→4*(D*M)+M≤M*q:=fun h=>by
  have:=Nat.mul_le_mul_left M (show 4*D+1≤q from h)
  rw [Nat.mul_add,Nat.mul_one,e4] at this;exact this
 have h5:q=0→M*q=0:=fun h=>by rw [h,Nat.mul_zero]
 generalize D*M=X at*
 generalize M*q=P at*
 split <;> omega
def pick (o N1 N0 N2 M:Nat):Nat:=
 if dmin o N1 M≤dmax o N2 M / 10*10 then dmax o N2 M / 10*10
 else if dmin o N1 M < dmax o N2 M then rnd (un (4*N0) M) else dmin o N1 M
theorem pick_in {o N1 N0 N2 M G:Nat} (hM:0 < M) (ho:o≤1) (h2:N2=N0+2*G) (hG:0 < G)
  (h:(N1+2*G=N0∧M≤4*G∧(M=4*G→∃ k,N0=k*M))∨(o=0∧N1+G=N0∧M≤3*G)):
  N1+o≤pick o N1 N0 N2 M*M∧pick o N1 N0 N2 M*M+o≤N2:=by
 have hN2:0 < N2:=by omega
 rw [← dmin_le hM ho,← le_dmax hM ho hN2]
 unfold pick
 have a1:=(dmin_le (N:=N1) hM ho).1 (Nat.le_refl (dmin o N1 M))
 have a2:=fun D=>(dmin_le (N:=N1) (D:=D) hM ho).2
 have c1:=(le_dmax (N:=N2) hM ho hN2).1 (Nat.le_refl (dmax o N2 M))
 have c2:=fun D=>(le_dmax (N:=N2) (D:=D) hM ho hN2).2
 generalize dmin o N1 M=a at*
 generalize dmax o N2 M=c at*
 have a3:∀ r,r < a→r*M < N1+o:=fun r hr=>by
  rcases Nat.lt_or_ge (r*M) (N1+o) with h|h
  ·exact h
  ·have:=a2 r h;omega
 have c3:∀ r,c < r→N2 < r*M+o:=fun r hr=>by
  rcases Nat.lt_or_ge N2 (r*M+o) with h|h
  ·exact h
  ·have:=c2 r h;omega
 have hac:a≤c:=by
  rcases Nat.lt_or_ge c a with hlt|hge
  ·exfalso
   have e1:=a3 (a - 1) (by omega)
   have e2:=c3 a hlt
   have e3:a*M=(a - 1)*M+M:=by
    conv=>lhs;rw [show a=a - 1+1 by omega,Nat.add_mul,Nat.one_mul]
   rcases h with ⟨k1,k2,k3⟩|⟨k1,k2,k3⟩
   ·rcases Nat.lt_or_ge M (4*G) with hl|hg
    ·omega
    ·obtain ⟨k,hk⟩:=k3 (by omega)
     have:=a2 k (by omega)
     have:=c2 k (by omega)
     omega
   ·omega
  ·exact hge
 split
 ·exact ⟨by assumption,Nat.div_mul_le_self _ _⟩
 split
 ·rename_i hlt
  obtain ⟨r1,-,r3,-⟩:=rnd_near (n:=N0) hM
  generalize rnd (un (4*N0) M)=r at*
  have hm:∀ z,M*(2*z)=2*(z*M):=fun z=>by rw [Nat.mul_left_comm,Nat.mul_comm M z]
  rw [Nat.mul_add,Nat.mul_one,hm] at r1
  rw [hm] at r3
  have e3:(a+1)*M≤c*M:=Nat.mul_le_mul_right _ hlt
  rw [Nat.add_mul,Nat.one_mul] at e3
  have low:r < a→r*M+M≤a*M:=fun h=>by
   have:=Nat.mul_le_mul_right M (show r+1≤a from h)
   rw [Nat.add_mul,Nat.one_mul] at this;exact this
  have up:c < r→c*M+M≤r*M:=fun h=>by
   have:=Nat.mul_le_mul_right M (show c+1≤r from h)
   rw [Nat.add_mul,Nat.one_mul] at this;exact this
  rcases h with ⟨k1,k2,k3⟩|⟨k1,k2,k3⟩
  ·rcases Nat.lt_or_ge M (4*G) with hl|hg
   ·refine ⟨?_,?_⟩
    ·rcases Nat.lt_or_ge r a with h|h
     ·have:=a3 r h;have:=low h;omega
     ·exact h
    ·rcases Nat.lt_or_ge c r with h|h
     ·have:=c3 r h;have:=up h;omega
     ·exact h
   ·obtain ⟨k,hk⟩:=k3 (by omega)
    have l1:a≤k:=a2 k (by omega)
    have l2:k≤c:=c2 k (by omega)
    have kr:k≤r:=by
     rcases Nat.lt_or_ge r k with h|h
     ·have:=Nat.mul_le_mul_right M (show r+1≤k from h)
      rw [Nat.add_mul,Nat.one_mul] at this
      omega
     ·exact h
    have rk:r≤k:=by
     rcases Nat.lt_or_ge k r with h|h
     ·have:=Nat.mul_le_mul_right M (show k+1≤r from h)
      rw [Nat.add_mul,Nat.one_mul] at this
      omega
     ·exact h
    omega
  ·refine ⟨?_,?_⟩
   ·rcases Nat.lt_or_ge r a with h|h
    ·have:=a3 r h;have:=low h;omega
    ·exact h
   ·rcases Nat.lt_or_ge c r with h|h
    ·have:=c3 r h;have:=up h;omega
    ·exact h
 ·exact ⟨Nat.le_refl _,hac⟩
end Go.Proofs.YtmadknpaljaecaaGreatDoor.Us
namespace Go.Proofs.YtmadknpaljaecaaGreatDoor.Us
open Fl
def skew (b:Nat):Bool:=decide (mant b=4503599627370496) && decide (0 < ex b)
def shE (b:Nat):Int:=(ex b:Int) - 1074
def shp (b:Nat):Int:=if skew b then -((shE b*631305 - 261663) / 2097152) else -(shE b*78913 / 262144)
def Y1 (b:Nat):Nat:=if skew b then 4*mant b - 1 else 4*mant b - 2
def Y2 (b:Nat):Nat:=4*mant b+2
def GG (b:Nat):Nat:=10 ^ (shp b).toNat*2 ^ ex b
def MM (b:Nat):Nat:=4*(10 ^ (-shp b).toNat*2 ^ 1074)
def shOk (e:Nat):Bool:=
 let E:Int:=(e:Int) - 1074
 let chk:=fun (p:Int) (w:Nat)=>
  let G:=10 ^ p.toNat*2 ^ e
  let M:=4*(10 ^ (-p).toNat*2 ^ 1074)
  decide (-292≤p) && decide (p≤324) && decide (M≤w*G) && decide (w*G < 10*M) && decide (0≤lp p+E) && decide (lp p+E≤3)
 chk (-(E*78913 / 262144)) 4 && (decide (e=0) || chk (-((E*631305 - 261663) / 2097152)) 3)
set_option maxRecDepth 100000
theorem shOks:upTo 2046 shOk=true:=by decide+kernel
theorem ex_lt {b:Nat} (hb:b < inf):ex b < 2046:=by
 unfold ex inf at*
 split <;> omega
structure ShF (b:Nat):Prop where
 p1:-292≤shp b
 p2:shp b≤324
 w:MM b≤(if skew b then 3 else 4)*GG b
 w10:(if skew b then 3 else 4)*GG b < 10*MM b
 j0:0≤lp (shp b)+shE b
 j3:lp (shp b)+shE b≤3
theorem shF {b:Nat} (hb:b < inf):ShF b:=by
 have h:=upTo_get shOks (ex b) (ex_lt hb)
 simp only [shOk,Bool.and_eq_true,Bool.or_eq_true,decide_eq_true_eq] at h
 obtain ⟨⟨⟨⟨⟨⟨a1,a2⟩,a3⟩,a4⟩,a5⟩,a6⟩,h2⟩:=h
 cases hs:skew b with
 |false=>
  have e:shp b=-(shE b*78913 / 262144):=by unfold shp;rw [hs];rfl
  refine ⟨by rw [e];exact a1,by rw [e];exact a2,?_,?_,by rw [e];exact a5,by rw [e];exact a6⟩
  ·unfold MM GG;rw [hs,e];exact a3
  ·unfold MM GG;rw [hs,e];exact a4
 |true=>
  have h0:0 < ex b:=by unfold skew at hs;simp only [Bool.and_eq_true,decide_eq_true_eq] at hs;exact hs.2
  rcases h2 with h2|⟨⟨⟨⟨⟨b1,b2⟩,b3⟩,b4⟩,b5⟩,b6⟩
  ·omega
  have e:shp b=-((shE b*631305 - 261663) / 2097152):=by unfold shp;rw [hs];rfl
  refine ⟨by rw [e];exact b1,by rw [e];exact b2,?_,?_,by rw [e];exact b5,by rw [e];exact b6⟩
  ·unfold MM GG;rw [hs,e];exact b3
  ·unfold MM GG;rw [hs,e];exact b4
theorem GG_pos (b:Nat):0 < GG b:=Nat.mul_pos (Nat.pow_pos (by decide)) (Nat.pow_pos (by decide))
theorem mpos (u k:Nat):0 < 4*(10 ^ u*2 ^ k):=Nat.mul_pos (by decide) (Nat.mul_pos (Nat.pow_pos (by decide)) (Nat.pow_pos (by decide)))
theorem MM_pos (b:Nat):0 < MM b:=mpos (-shp b).toNat 1074
theorem V_next {b:Nat}:V (b+1)=(mant b+1)*2 ^ ex b:=by
 have hr:=re_eq b
 by_cases h:b < 4503599627370496
 ·have e1:mant b=b:=if_pos h
  have e2:ex b=0:=if_pos h
  rw [e1,e2,V_small (by omega),Nat.pow_zero,Nat.mul_one]
 ·have hm:mant b=4503599627370496+b % 4503599627370496:=if_neg h
  have:b+1=ex b*4503599627370496+(mant b+1):=by omega
  rw [this,V_norm' _ _ (by omega) (by omega)]
theorem V_prev {b:Nat} (hb:0 < b):4*V (b - 1)=(if skew b then 4*mant b - 2 else 4*mant b - 4)*2 ^ ex b:=by
 have hr:=re_eq b
 by_cases h:b < 4503599627370496
 ·have e1:mant b=b:=if_pos h
  have e2:ex b=0:=if_pos h
  have hs:skew b=false:=by unfold skew;rw [e2];simp
  rw [hs,e1,e2,V_small (by omega),Nat.pow_zero]
  simp only [Bool.false_eq_true,if_false]
  omega
 ·have hm:mant b=4503599627370496+b % 4503599627370496:=if_neg h
  by_cases hs:mant b=4503599627370496
  ·by_cases h0:ex b=0
   ·have e:skew b=false:=by unfold skew;rw [h0];simp
    have hb2:b=4503599627370496:=by omega
    rw [e,h0,hs,V_small (by omega),Nat.pow_zero,hb2]
    simp
   ·have e:skew b=true:=by unfold skew;rw [hs];simp;omega
    have hb2:b - 1=(ex b - 1)*4503599627370496+9007199254740991:=by omega
    rw [e,hs,hb2,V_norm' _ _ (by omega) (by omega)]
    simp only [if_true]
    have:(2:Nat) ^ ex b=2 ^ (ex b - 1)*2:=by rw [← Nat.pow_succ];congr 1;omega
    rw [this]
    omega
  ·have e:skew b=false:=by unfold skew;simp [hs]
   have hb2:b - 1=ex b*4503599627370496+(mant b - 1):=by omega
   rw [e,hb2,V_norm' _ _ (by omega) (by omega)]
   simp only [Bool.false_eq_true,if_false]
   rw [← Nat.mul_assoc]
   congr 1
   omega
theorem mant_pos {b:Nat} (hb:0 < b):0 < mant b:=by
 unfold mant;split <;> omega
theorem sh_near {b D:Nat} (hb0:0 < b) (hb:b < inf) (h1:Y1 b*GG b+b % 2≤D*MM b) (h2:D*MM b+b % 2≤Y2 b*GG b):Near (nn D (-shp b)) (mm (-shp b)) b:=by
 have hm:=mant_pos hb0
 have hV:V b=mant b*2 ^ ex b:=V_eq b
 have em:mm (-shp b)=10 ^ (shp b).toNat:=by unfold mm;rw [Int.neg_neg]
 have en:D*MM b=4*nn D (-shp b):=by
  unfold MM nn
  rw [Nat.mul_left_comm,Nat.mul_assoc]
 have ey2:Y2 b*GG b=2*(mm (-shp b)*(V b+V (b+1))):=by
  rw [hV,V_next,em]
  unfold Y2 GG
  rw [← Nat.add_mul,show 4*mant b+2=2*(mant b+(mant b+1)) by omega]
  ac_rfl
 have ey1:Y1 b*GG b=2*(mm (-shp b)*(V (b - 1)+V b)):=by
  have hp:=V_prev hb0
  have:Y1 b*2 ^ ex b=2*(V (b - 1)+V b):=by
   have:2*(Y1 b*2 ^ ex b)=4*V (b - 1)+4*V b:=by
    rw [hp,hV]
    unfold Y1
    cases skew b
    ·simp only [Bool.false_eq_true,if_false]
     rw [← Nat.mul_assoc,← Nat.mul_assoc,← Nat.add_mul];congr 1;omega
    ·simp only [if_true]
     rw [← Nat.mul_assoc,← Nat.mul_assoc,← Nat.add_mul];congr 1;omega
   omega
  rw [em]
  unfold GG
  rw [Nat.mul_left_comm,this]
  ac_rfl
 refine ⟨Nat.le_of_lt hb,fun _=>?_,fun _=>?_⟩
 ·omega
 ·omega
def shD (b:Nat):Nat:=pick (b % 2) (Y1 b*GG b) (4*mant b*GG b) (Y2 b*GG b) (MM b)
theorem sh_in {b:Nat} (hb0:0 < b) (hb:b < inf):Y1 b*GG b+b % 2≤shD b*MM b∧shD b*MM b+b % 2≤Y2 b*GG b:=by
 have F:=shF hb
 have hm:=mant_pos hb0
 have hG:=GG_pos b
 have hw:=F.w
 refine pick_in (G:=GG b) (MM_pos b) (by omega) (by unfold Y2;rw [Nat.add_mul]) hG ?_
 cases hs:skew b with
 |false=>
  left
  rw [hs] at hw
  simp only [Bool.false_eq_true,if_false] at hw
  refine ⟨?_,hw,fun e=>⟨mant b,by rw [e];ac_rfl⟩⟩
  unfold Y1
  rw [hs]
  simp only [Bool.false_eq_true,if_false]
  rw [← Nat.add_mul];congr 1;omega
 |true=>
  right
  rw [hs] at hw
  simp only [if_true] at hw
  have hmm:mant b=4503599627370496:=by unfold skew at hs;simp only [Bool.and_eq_true,decide_eq_true_eq] at hs;exact hs.1
  have hr:=re_eq b
  refine ⟨by omega,?_,hw⟩
  unfold Y1
  rw [hs]
  simp only [if_true]
  conv=>lhs;rhs;rw [← Nat.one_mul (GG b)]
  rw [← Nat.add_mul];congr 1;omega
theorem shD_pos {b:Nat} (hb0:0 < b) (hb:b < inf):0 < shD b:=by
 have h:=(sh_in hb0 hb).1
 rcases Nat.eq_zero_or_pos (shD b) with h0|h0
 ·rw [h0,Nat.zero_mul] at h
  have:0 < Y1 b*GG b:=Nat.mul_pos (by have:=mant_pos hb0;unfold Y1;split <;> omega) (GG_pos b)
  omega
 ·exact h0
theorem Y2_lt {b D:Nat} (hb:b < inf) (h:D*MM b≤Y2 b*GG b):D < 100000000000000000:=by
 have F:=shF hb
 have hw:=F.w10
 have hM:=MM_pos b
 have hml:=@mant_lt b
 rcases Nat.lt_or_ge D 100000000000000000 with h1|h1
 ·exact h1
 exfalso
 have e1:100000000000000000*MM b≤D*MM b:=Nat.mul_le_mul_right _ h1
 unfold Y2 at h
 cases hs:skew b with
 |false=>
  rw [hs] at hw
  simp only [Bool.false_eq_true,if_false] at hw
  have e2:(4*mant b+2)*GG b≤36028797018963968*GG b:=Nat.mul_le_mul_right _ (by omega)
  omega
 |true=>
  rw [hs] at hw
  simp only [if_true] at hw
  have hmm:mant b=4503599627370496:=by unfold skew at hs;simp only [Bool.and_eq_true,decide_eq_true_eq] at hs;exact hs.1
  rw [hmm] at h
  omega
theorem shD_lt {b:Nat} (hb0:0 < b) (hb:b < inf):shD b < 100000000000000000:=Y2_lt hb (Nat.le_trans (Nat.le_add_right _ _) (sh_in hb0 hb).2)
theorem shD_near {b:Nat} (hb0:0 < b) (hb:b < inf):Near (nn (shD b) (-shp b)) (mm (-shp b)) b:=sh_near hb0 hb (sh_in hb0 hb).1 (sh_in hb0 hb).2
theorem sh_u {b Y t j:Nat} (hb:b < inf) (hY0:0 < Y) (hY:Y < 2 ^ 55) (hj:(j:Int)=lp (shp b)+shE b) (ht:9≤t) (hx:Y*2 ^ t < 2 ^ 64):
  sc (Y*2 ^ t) (hi (shp b)) (lo (shp b)) (2 ^ (t - 1 - j))=un (4*(Y*GG b)) (MM b):=by
 have F:=shF hb
 have f1:=F.j0
 have f2:=F.j3
 rw [scaled2 F.p1 F.p2 hY0 hY (by omega) ht hx]
 refine un_ratio (Nat.mul_pos (B_pos _) (Nat.mul_pos (Nat.pow_pos (by decide)) (Nat.pow_pos (by decide)))) (MM_pos b) ?_
 rw [A_eq,B_eq]
 unfold GG MM mm
 generalize hT:10 ^ (shp b).toNat=T
 generalize hU:10 ^ (-shp b).toNat=U
 unfold shE at*
 generalize hl:lp (shp b)=l at*
 have e1:∀ a c d e f g:Nat,a+c+d=e+f+(g+128)→Y*2 ^ a*(T*2 ^ c)*(4*(U*2 ^ d))=4*(Y*(T*2 ^ e))*(U*2 ^ f*(2 ^ g*2 ^ 128)):=fun a c d e f g h=>by
  have h2:2 ^ a*2 ^ c*2 ^ d=2 ^ e*2 ^ f*(2 ^ g*2 ^ 128):=by
   rw [← Nat.pow_add,← Nat.pow_add,← Nat.pow_add,← Nat.pow_add,← Nat.pow_add,h]
  generalize (2:Nat) ^ 128=Z at*
  calc Y*2 ^ a*(T*2 ^ c)*(4*(U*2 ^ d))=4*Y*T*U*(2 ^ a*2 ^ c*2 ^ d):=by ac_rfl
   _=4*Y*T*U*(2 ^ e*2 ^ f*(2 ^ g*Z)):=by rw [h2]
   _=4*(Y*(T*2 ^ e))*(U*2 ^ f*(2 ^ g*Z)):=by ac_rfl
 exact e1 t (127 - l).toNat 1074 (ex b) (l - 127).toNat (t - 1 - j) (by omega)
end Go.Proofs.YtmadknpaljaecaaGreatDoor.Us
namespace Go.Proofs.YtmadknpaljaecaaGreatDoor.Us
open Fl
def shR (b:Nat):Bool:=decide (dmin (b % 2) (Y1 b*GG b) (MM b)≤dmax (b % 2) (Y2 b*GG b) (MM b) / 10*10)
def shd (b:Nat):Nat:=if shR b then dmax (b % 2) (Y2 b*GG b) (MM b) / 10 else shD b
def she (b:Nat):Int:=if shR b then -(shp b - 1) else -shp b
theorem pick_R {o N1 N0 N2 M:Nat} (h:dmin o N1 M≤dmax o N2 M / 10*10):pick o N1 N0 N2 M=10*(dmax o N2 M / 10):=(if_pos h).trans (Nat.mul_comm _ _)
theorem shd_R {b:Nat} (h:shR b=true):shd b=dmax (b % 2) (Y2 b*GG b) (MM b) / 10:=by
 unfold shd;rw [h,if_pos rfl]
theorem shR_i {b:Nat} (h:shR b=true):dmin (b % 2) (Y1 b*GG b) (MM b)≤dmax (b % 2) (Y2 b*GG b) (MM b) / 10*10:=by
 unfold shR at h
 rw [decide_eq_true_eq] at h
 exact h
theorem shD_p (b:Nat):shD b=pick (b % 2) (Y1 b*GG b) (4*mant b*GG b) (Y2 b*GG b) (MM b):=by
 unfold shD;exact Eq.refl (pick (b % 2) (Y1 b*GG b) (4*mant b*GG b) (Y2 b*GG b) (MM b))
theorem shD_R {b:Nat} (h:shR b=true):shD b=10*shd b:=by
 rw [shd_R h,shD_p]
 exact pick_R (shR_i h)
theorem shd_N {b:Nat} (h:shR b=false):shd b=shD b:=by unfold shd;rw [h,if_neg (by decide)]
theorem shd_pos {b:Nat} (hb0:0 < b) (hb:b < inf):0 < shd b:=by
 have:=shD_pos hb0 hb
 cases h:shR b with
 |true=>rw [shD_R h] at this;omega
 |false=>rw [shd_N h];exact this
theorem shd_lt {b:Nat} (hb0:0 < b) (hb:b < inf):shd b < 100000000000000000:=by
 have:=shD_lt hb0 hb
 cases h:shR b with
 |true=>rw [shD_R h] at this;omega
 |false=>rw [shd_N h];exact this
theorem shd_near {b:Nat} (hb0:0 < b) (hb:b < inf):Near (nn (shd b) (she b)) (mm (she b)) b:=by
 have H:=shD_near hb0 hb
 unfold she
 cases h:shR b with
 |true=>
  rw [shD_R h] at H
  simp only [if_true]
  have:=Rf.nn_shift (shd b) 1 (-(shp b - 1))
  rw [show -(shp b - 1) - ((1:Nat):Int)=-shp b by omega,Nat.pow_one,Nat.mul_comm (shd b)] at this
  exact Rf.near_ratio (mm_pos _) (mm_pos _) this H
 |false=>rw [shd_N h];exact H
theorem sh_bounds {p:Int} (h1:-292≤p) (h2:p≤324):2 ^ 63≤hi p∧hi p < 2 ^ 64∧lo p < 2 ^ 64:=by
 have h:upTo 617 (fun i=>decide (2 ^ 63≤hi ((i:Int) - 292)) && decide (hi ((i:Int) - 292) < 2 ^ 64))=true:=by decide+kernel
 have h3:=upTo_get h (p+292).toNat (by omega)
 rw [show (((p+292).toNat:Nat):Int) - 292=p by omega] at h3
 simp only [Bool.and_eq_true,decide_eq_true_eq] at h3
 exact ⟨h3.1,h3.2,(hl p).2⟩
theorem u_lt {b Y:Nat} (hb:b < inf) (hY:Y < 2 ^ 55):un (4*(Y*GG b)) (MM b) < 1152921504606846976:=by
 have hw:=(shF hb).w10
 have hM:=MM_pos b
 refine Nat.lt_of_le_of_lt (un_hi) ?_
 have p55:(2:Nat) ^ 55=36028797018963968:=rfl
 rw [p55] at hY
 have h3:3*GG b < 10*MM b:=by
  cases h:skew b <;> rw [h] at hw
  ·simp only [Bool.false_eq_true,if_false] at hw;omega
  ·exact hw
 have:4*(Y*GG b) < 576460752303423488*MM b:=by
  have e1:Y*GG b≤36028797018963968*GG b:=Nat.mul_le_mul_right _ (Nat.le_of_lt hY)
  omega
 have:=(Nat.div_lt_iff_lt_mul hM).2 this
 omega
theorem dmin_lt {b:Nat} (hb:b < inf) {o Y:Nat} (ho:o≤1) (hY:Y < 2 ^ 55):dmin o (Y*GG b) (MM b) < 1152921504606846976:=by
 have:=u_lt hb hY
 unfold dmin;omega
theorem dmax_lt {b:Nat} (hb:b < inf) {o Y:Nat} (hY:Y < 2 ^ 55):dmax o (Y*GG b) (MM b) < 1152921504606846976:=by
 have:=u_lt hb hY
 unfold dmax;omega
end Go.Proofs.YtmadknpaljaecaaGreatDoor.Us
namespace Go.Proofs.YtmadknpaljaecaaGreatDoor.Ev.D
open Go Go.Proofs.YtmadknpaljaecaaGreatDoor.Ev
set_option maxRecDepth 100000
theorem s216 {x:Int} (h1:-3000≤x) (h2:x≤3000) (h:Heap):Does C 216 [.int .i64 x] h (.int .i64 (x*78913 / 262144)) h:=by
 refine does_pure (fn:=X216) rfl rfl rfl (mapO_cons conv_int mapO_nil) ?_
 simp (decide:=true) only [BZ,X216,b_shr' (show (0:Int)≤18 by decide)]
 rw [i64_wrap (by omega) (by omega),shrF_eq]
 exact Int.fdiv_eq_ediv_of_nonneg _ (by decide)
theorem s243 {x:Int} (h1:-3000≤x) (h2:x≤3000) (h:Heap):Does C 243 [.int .i64 x] h (.int .i64 ((x*631305 - 261663) / 2097152)) h:=by
 refine does_pure (fn:=X243) rfl rfl rfl (mapO_cons conv_int mapO_nil) ?_
 simp (decide:=true) only [BZ,X243,b_shr' (show (0:Int)≤21 by decide)]
 rw [i64_wrap (x:=x*631305) (by omega) (by omega),i64_wrap (by omega) (by omega),shrF_eq]
 exact Int.fdiv_eq_ediv_of_nonneg _ (by decide)
theorem s247p {u o:Nat} (hu:u < 1152921504606846976) (ho:o≤1) (h:Heap):Does C 247 [.int .u64 (u:Int),.int .i64 (o:Int)] h (.int .u64 ((u+o:Nat):Int)) h:=by
 refine does_pure (fn:=X247) rfl rfl rfl (mapO_cons conv_int (mapO_cons conv_int mapO_nil)) ?_
 simp (decide:=true) only [BZ,X247,u64_wrap (show o < 18446744073709551616 by omega)]
 rw [← Int.natCast_add]
 exact u64_wrap (by omega)
theorem s247n {u o:Nat} (hu:u < 1152921504606846976) (ho:o≤1) (hou:o≤u) (h:Heap):Does C 247 [.int .u64 (u:Int),.int .i64 (-(o:Int))] h (.int .u64 ((u - o:Nat):Int)) h:=by
 refine does_pure (fn:=X247) rfl rfl rfl (mapO_cons conv_int (mapO_cons conv_int mapO_nil)) ?_
 simp (decide:=true) only [BZ,X247]
 rw [wrapF_eq,wrapF_eq,wrap_u64,wrap_u64]
 omega
theorem s248 {u:Nat} (hu:u < 1152921504606846978) (h:Heap):Does C 248 [.int .u64 (u:Int)] h (.int .u64 (((u+3) / 4:Nat):Int)) h:=by
 refine does_pure (fn:=X248) rfl rfl rfl (mapO_cons conv_int mapO_nil) ?_
 simp (decide:=true) only [BZ,X248,show wrapF .u64 ((u:Int)+3)=((u+3:Nat):Int) from u64_wrap (n:=u+3) (by omega),b_shrn (k':=.u64) (a:=u+3) (n:=2) (by decide),show binV .shr (.int .u64 ((u+3:Nat):Int)) (.int .u64 2)=some (.int .u64 (((u+3) / 4:Nat):Int)) from b_shrn (n:=2) (by decide)]
theorem s249 {u:Nat} (hu:u < 1152921504606846978) (h:Heap):Does C 249 [.int .u64 (u:Int)] h (.int .u64 ((u / 4:Nat):Int)) h:=by
 refine does_pure (fn:=X249) rfl rfl rfl (mapO_cons conv_int mapO_nil) ?_
 simp (decide:=true) only [BZ,X249,show wrapF .u64 ((u:Int)+0)=((u:Nat):Int) from u64_wrap (n:=u) (by omega),show binV .shr (.int .u64 ((u:Nat):Int)) (.int .u64 2)=some (.int .u64 ((u / 4:Nat):Int)) from b_shrn (n:=2) (by decide)]
end Go.Proofs.YtmadknpaljaecaaGreatDoor.Ev.D
namespace Go.Proofs.YtmadknpaljaecaaGreatDoor.Us
open Fl
theorem dmin_eq (o N M:Nat):dmin o N M=(un (4*N) M+o+3) / 4:=rfl
theorem dmax_eq (o N M:Nat):dmax o N M=(un (4*N) M - o) / 4:=rfl
theorem pick_1 {o N1 N0 N2 M:Nat} (h:¬ dmin o N1 M≤dmax o N2 M / 10*10) (h2:dmin o N1 M < dmax o N2 M):pick o N1 N0 N2 M=rnd (un (4*N0) M):=(if_neg h).trans (if_pos h2)
theorem pick_2 {o N1 N0 N2 M:Nat} (h:¬ dmin o N1 M≤dmax o N2 M / 10*10) (h2:¬ dmin o N1 M < dmax o N2 M):pick o N1 N0 N2 M=dmin o N1 M:=(if_neg h).trans (if_neg h2)
theorem shR_f {b:Nat} (h:shR b=false):¬ dmin (b % 2) (Y1 b*GG b) (MM b)≤dmax (b % 2) (Y2 b*GG b) (MM b) / 10*10:=by
 unfold shR at h
 rw [decide_eq_false_iff_not] at h
 exact h
theorem shd_1 {b:Nat} (h:shR b=false) (h2:dmin (b % 2) (Y1 b*GG b) (MM b) < dmax (b % 2) (Y2 b*GG b) (MM b)):shd b=rnd (un (4*(4*mant b*GG b)) (MM b)):=by
 rw [shd_N h,shD_p]
 exact pick_1 (shR_f h) h2
theorem shd_2 {b:Nat} (h:shR b=false) (h2:¬ dmin (b % 2) (Y1 b*GG b) (MM b) < dmax (b % 2) (Y2 b*GG b) (MM b)):shd b=dmin (b % 2) (Y1 b*GG b) (MM b):=by
 rw [shd_N h,shD_p]
 exact pick_2 (shR_f h) h2
theorem she_t {b:Nat} (h:shR b=true):she b=-(shp b - 1):=by unfold she;rw [h,if_pos rfl]
theorem she_f {b:Nat} (h:shR b=false):she b=-shp b:=by unfold she;rw [h,if_neg (by decide)]
structure YF (b s:Nat):Prop where
 y1:0 < Y1 b
 y2:Y1 b < 2 ^ 55
 y3:Y2 b < 2 ^ 55
 y4:4*mant b < 2 ^ 55
 z1:2 ^ 62≤Y1 b*2 ^ (s - 2)
 z2:Y1 b*2 ^ (s - 2) < 2 ^ 64
 z3:2 ^ 62≤Y2 b*2 ^ (s - 2)
 z4:Y2 b*2 ^ (s - 2) < 2 ^ 64
 e0:4*mant b*2 ^ (s - 2)=mant b*2 ^ s
 e1:skew b=false→Y1 b*2 ^ (s - 2)+2 ^ (s - 1)=mant b*2 ^ s
 e2:skew b=true→Y1 b*2 ^ (s - 2)+2 ^ (s - 2)=mant b*2 ^ s
 e3:Y2 b*2 ^ (s - 2)=mant b*2 ^ s+2 ^ (s - 1)
theorem yF {b s:Nat} (hb0:0 < b) (s11:11≤s) (s63:s≤63) (x1:2 ^ 63≤mant b*2 ^ s) (x2:mant b*2 ^ s < 2 ^ 64):YF b s:=by
 have hm:=mant_pos hb0
 have hl:=@mant_lt b
 obtain ⟨t,rfl⟩:∃ t,s=t+2:=⟨s - 2,by omega⟩
 have e1:t+2 - 2=t:=rfl
 have e2:t+2 - 1=t+1:=rfl
 rw [Nat.pow_add] at x1 x2
 have hx:mant b*(2 ^ t*2 ^ 2)=4*(mant b*2 ^ t):=by rw [show (2:Nat) ^ 2=4 from rfl];ac_rfl
 rw [hx] at x1 x2
 have hT:0 < 2 ^ t:=Nat.pow_pos (by decide)
 have p62:(2:Nat) ^ 62=4611686018427387904:=rfl
 have p63:(2:Nat) ^ 63=9223372036854775808:=rfl
 have p64:(2:Nat) ^ 64=18446744073709551616:=rfl
 have p55:(2:Nat) ^ 55=36028797018963968:=rfl
 obtain ⟨k,hk⟩:∃ k,2 ^ 62=k*2 ^ t:=⟨2 ^ (62 - t),by rw [← Nat.pow_add];congr 1;omega⟩
 have hmk:mant b < k:=by
  have h4:4*(mant b*2 ^ t) < 4*(k*2 ^ t):=by rw [← hk,p62];rw [p64] at x2;omega
  have h5:mant b*2 ^ t < k*2 ^ t:=by omega
  exact Nat.lt_of_mul_lt_mul_right h5
 have h6:mant b*2 ^ t+2 ^ t≤2 ^ 62:=by
  have:=Nat.mul_le_mul_right (2 ^ t) hmk
  rw [Nat.succ_mul,← hk] at this;exact this
 have e1':t+2 - 2=t:=rfl
 have d1:(4*mant b - 2)*2 ^ t+2*2 ^ t=4*(mant b*2 ^ t):=by
  rw [← Nat.add_mul,show 4*mant b - 2+2=4*mant b by omega,Nat.mul_assoc]
 have d2:(4*mant b - 1)*2 ^ t+2 ^ t=4*(mant b*2 ^ t):=by
  conv=>lhs;rhs;rw [← Nat.one_mul (2 ^ t)]
  rw [← Nat.add_mul,show 4*mant b - 1+1=4*mant b by omega,Nat.mul_assoc]
 have d3:(4*mant b+2)*2 ^ t=4*(mant b*2 ^ t)+2*2 ^ t:=by rw [Nat.add_mul,Nat.mul_assoc]
 have hs1:(2:Nat) ^ (t+1)=2*2 ^ t:=by rw [Nat.pow_succ,Nat.mul_comm]
 have hmt:2 ^ t≤mant b*2 ^ t:=Nat.le_mul_of_pos_left _ hm
 have yy:(Y1 b=4*mant b - 2∧skew b=false)∨(Y1 b=4*mant b - 1∧skew b=true):=by
  unfold Y1;cases skew b
  ·exact .inl ⟨rfl,rfl⟩
  ·exact .inr ⟨rfl,rfl⟩
 have y2:Y2 b=4*mant b+2:=rfl
 refine ⟨?_,?_,?_,?_,?_,?_,?_,?_,?_,?_,?_,?_⟩
 ·rcases yy with ⟨h,_⟩|⟨h,_⟩ <;> omega
 ·rcases yy with ⟨h,_⟩|⟨h,_⟩ <;> omega
 ·omega
 ·omega
 ·rw [e1];rcases yy with ⟨h,_⟩|⟨h,_⟩ <;> rw [h] <;> omega
 ·rw [e1];rcases yy with ⟨h,_⟩|⟨h,_⟩ <;> rw [h] <;> omega
 ·rw [e1,y2,d3];omega
 ·rw [e1,y2,d3];omega
 ·rw [e1,Nat.pow_add,hx,Nat.mul_assoc]
 ·intro hs;rw [e1,e2,hs1,Nat.pow_add,hx];rcases yy with ⟨h,_⟩|⟨_,h⟩
  ·rw [h];exact d1
  ·rw [h] at hs;cases hs
 ·intro hs;rw [e1,Nat.pow_add,hx];rcases yy with ⟨_,h⟩|⟨h,_⟩
  ·rw [h] at hs;cases hs
  ·rw [h];exact d2
 ·rw [e1,e2,hs1,Nat.pow_add,hx,y2];exact d3
end Go.Proofs.YtmadknpaljaecaaGreatDoor.Us
namespace Go.Proofs.YtmadknpaljaecaaGreatDoor.Ev.D
open Go Go.Proofs.YtmadknpaljaecaaGreatDoor.Ev
set_option maxRecDepth 100000
theorem t221 {b s:Nat} (hb0:0 < b) (hb:b < Fl.inf) (s11:11≤s) (s63:s≤63) (x1:2 ^ 63≤Fl.mant b*2 ^ s) (x2:Fl.mant b*2 ^ s < 2 ^ 64)
  {env:T AV} (a0:env.at 0=.int .u64 ((Fl.mant b*2 ^ s:Nat):Int)) (a1:env.at 1=.int .i64 (Us.shE b - s)) (a5:env.at 5=.int .i64 (Us.shp b))
  (a8:env.at 8=.int .u64 ((Us.Y1 b*2 ^ (s - 2):Nat):Int)) (a9:env.at 9=.int .u64 ((Us.Y2 b*2 ^ (s - 2):Nat):Int)) (a10:env.at 10=.int .i64 ((b % 2:Nat):Int)):
  GoP C [.c (seqT 7 X221.body)] env .empty (Back [.tmp 4,.tmp 5] true (.tup [.int .u64 ((Us.shd b:Nat):Int),.int .i64 (Us.she b)])):=by
 have F:=Us.shF hb
 have Y:=Us.yF hb0 s11 s63 x1 x2
 obtain ⟨q1,q2,q3⟩:=Us.sh_bounds F.p1 F.p2
 have f1:=F.p1;have f2:=F.p2;have f3:=F.j0;have f4:=F.j3
 have hE:-1074≤Us.shE b∧Us.shE b≤972:=by have:=Us.ex_lt hb;unfold Us.shE;omega
 have e245:=fun h=>s245 (p:=Us.shp b) (by omega) (by omega) h
 obtain ⟨j,hj⟩:∃ j:Nat,(j:Int)=Us.lp (Us.shp b)+Us.shE b:=⟨(Us.lp (Us.shp b)+Us.shE b).toNat,by omega⟩
 have c244:=s244 (h:=H275) (b:=0) (e:=Us.shE b - s) (p:=Us.shp b) (l:=Us.lp (Us.shp b)) (by rw [H275_len];decide) (by omega) (by omega) (by omega) (by omega) (by omega) (by omega)
 obtain ⟨H,hH⟩:∃ H,preH H275 0 (Us.shE b - s) (Us.shp b) (Us.lp (Us.shp b))=H:=⟨_,rfl⟩
 have k2:H.cell 0 2=.int .i64 ((s - 2 - 1 - j:Nat):Int):=by
  rw [← hH];unfold preH
  rw [Heap.stB_cell _ _ _ _ _ _ (by rw [Heap.stB_len,Heap.stB_len,H275_len];decide),if_pos ⟨rfl,rfl⟩];congr 1;omega
 have k1:H.cell 0 1=.int .u64 ((Us.lo (Us.shp b):Nat):Int):=by
  rw [← hH];unfold preH
  rw [Heap.stB_cell _ _ _ _ _ _ (by rw [Heap.stB_len,Heap.stB_len,H275_len];decide),if_neg (by decide),Heap.stB_cell _ _ _ _ _ _ (by rw [Heap.stB_len,H275_len];decide),if_pos ⟨rfl,rfl⟩]
 have k0:H.cell 0 0=.int .u64 ((Us.hi (Us.shp b):Nat):Int):=by
  rw [← hH];unfold preH
  rw [Heap.stB_cell _ _ _ _ _ _ (by rw [Heap.stB_len,Heap.stB_len,H275_len];decide),if_neg (by decide),Heap.stB_cell _ _ _ _ _ _ (by rw [Heap.stB_len,H275_len];decide),if_neg (by decide),Heap.stB_cell _ _ _ _ _ _ (by rw [H275_len];decide),if_pos ⟨rfl,rfl⟩]
 have kl:H.len 0=3:=by rw [← hH];unfold preH;rw [Heap.stB_len,Heap.stB_len,Heap.stB_len,H275_len]
 rw [hH] at c244
 clear hH
 have hnew:Heap.empty.new (.cells 3 (.int .u64 0) (setL [(2,.int .i64 0)] .nil) 233 false)=H275:=rfl
 have cU:∀ y,0 < y→y < 2 ^ 55→2 ^ 62≤y*2 ^ (s - 2)→y*2 ^ (s - 2) < 2 ^ 64→Does C 246 [.int .u64 ((y*2 ^ (s - 2):Nat):Int),.ref 0 0] H (.int .u64 ((Us.un (4*(y*Us.GG b)) (Us.MM b):Nat):Int)) H:=fun y y1 y2 y3 y4=>by
  rw [← Us.sh_u hb y1 y2 hj (show 9≤s - 2 by omega) y4]
  refine s246 (by omega) k0 k1 k2 (by omega) y4 q2 q3 ?_
  have:2 ^ 62*2 ^ 63≤y*2 ^ (s - 2)*Us.hi (Us.shp b):=Nat.mul_le_mul y3 q1
  have h3:(2:Nat) ^ 62*2 ^ 63=42535295865117307932921825928971026432:=rfl
  omega
 have c1:=cU _ Y.y1 Y.y2 Y.z1 Y.z2
 have c2:=cU _ (by unfold Us.Y2;omega) Y.y3 Y.z3 Y.z4
 have c0:=cU (4*Fl.mant b) (by have:=Us.mant_pos hb0;omega) Y.y4 (by rw [Y.e0];exact Nat.le_trans (Nat.pow_le_pow_right (by decide) (by decide)) x1) (by rw [Y.e0];exact x2)
 rw [Y.e0] at c0
 have b1:=Us.u_lt hb Y.y2
 have b2:=Us.u_lt hb Y.y3
 have b0:=Us.u_lt hb Y.y4
 have d1:=Us.dmin_eq (b % 2) (Us.Y1 b*Us.GG b) (Us.MM b)
 have d2:=Us.dmax_eq (b % 2) (Us.Y2 b*Us.GG b) (Us.MM b)
 have r1:=fun h=>Us.shR_i (b:=b) h
 have r2:=fun h=>Us.shR_f (b:=b) h
 have r3:=fun h=>Us.shd_R (b:=b) h
 have r4:=fun h h2=>Us.shd_1 (b:=b) h h2
 have r5:=fun h h2=>Us.shd_2 (b:=b) h h2
 have u2pos:1≤Us.un (4*(Us.Y2 b*Us.GG b)) (Us.MM b):=by
  have h:=(Us.sh_in hb0 hb).2
  have h0:=Us.shD_pos hb0 hb
  have:1*Us.MM b≤Us.shD b*Us.MM b:=Nat.mul_le_mul_right _ h0
  have h2:=(Us.le_dmax (o:=0) (N:=Us.Y2 b*Us.GG b) (D:=1) (Us.MM_pos b) (by decide) (by have:=Us.MM_pos b;omega)).2 (by omega)
  rw [Us.dmax_eq] at h2
  omega
 generalize Us.un (4*(Us.Y1 b*Us.GG b)) (Us.MM b)=u1 at*
 generalize Us.un (4*(Us.Y2 b*Us.GG b)) (Us.MM b)=u2 at*
 generalize Us.un (4*(4*Fl.mant b*Us.GG b)) (Us.MM b)=u0 at*
 generalize Us.dmin (b % 2) (Us.Y1 b*Us.GG b) (Us.MM b)=dn at*
 generalize Us.dmax (b % 2) (Us.Y2 b*Us.GG b) (Us.MM b)=dx at*
 have hob:b % 2≤1:=by omega
 generalize hO:b % 2=o at*
 have e247:=fun h=>s247p (u:=u1) (o:=o) b1 hob h
 have e247n:=fun h=>s247n (u:=u2) (o:=o) b2 hob (by omega) h
 have e248:=fun h=>s248 (u:=u1+o) (by omega) h
 have e249:=fun h=>s249 (u:=u2 - o) (by omega) h
 rw [← d1] at e248
 rw [← d2] at e249
 have wo:wrapF .i64 (0 - (o:Int))=-(o:Int):=by rw [i64_wrap (by omega) (by omega)];omega
 have hq:binV .quo (.int .u64 (dx:Int)) (.int .u64 10)=some (.int .u64 ((dx / 10:Nat):Int)):=by
  rw [b_quo (by decide),show ((dx:Nat):Int).tdiv 10=((dx / 10:Nat):Int) from rfl,u64_wrap (by omega)]
 have hm:wrapF .u64 (((dx / 10:Nat):Int)*10)=((dx / 10*10:Nat):Int):=u64_wrap (n:=dx / 10*10) (by omega)
 have w1:wrapF .i64 (Us.shp b - 1)=Us.shp b - 1:=i64_wrap (by omega) (by omega)
 have w2:wrapF .i64 (0 - (Us.shp b - 1))=-(Us.shp b - 1):=by rw [i64_wrap (by omega) (by omega)];omega
 have w3:wrapF .i64 (0 - Us.shp b)=-Us.shp b:=by rw [i64_wrap (by omega) (by omega)];omega
 simp only [X221,seqT]
 cases hR:Us.shR b with
 |true=>
  have h1:=r1 hR
  rw [r3 hR,Us.she_t hR]
  simp (decide:=true) only [BZ,a0,a1,a5,a8,a9,a10,hnew,callG_of (e245 _),callG_of c244,callG_of c1,callG_of c2,callG_of (e247 _),callG_of (e247n _),callG_of (e248 _),callG_of (e249 _),wo,hq,hm,decide_eq_true (show (dn:Int)≤((dx / 10*10:Nat):Int) by omega),w1,w2]
 |false=>
  have h1:=r2 hR
  have eR:=decide_eq_false (show ¬ (dn:Int)≤((dx / 10*10:Nat):Int) by omega)
  rw [Us.she_f hR]
  by_cases hlt:dn < dx
  ·rw [r4 hR hlt]
   have e250:=fun h=>s250 (u:=u0) (by omega) h
   simp (decide:=true) only [BZ,a0,a1,a5,a8,a9,a10,hnew,callG_of (e245 _),callG_of c244,callG_of c1,callG_of c2,callG_of (e247 _),callG_of (e247n _),callG_of (e248 _),callG_of (e249 _),wo,hq,hm,eR,decide_eq_true (show (dn:Int) < (dx:Int) by omega),callG_of c0,callG_of (e250 _),w3]
  ·rw [r5 hR hlt]
   simp (decide:=true) only [BZ,a0,a1,a5,a8,a9,a10,hnew,callG_of (e245 _),callG_of c244,callG_of c1,callG_of c2,callG_of (e247 _),callG_of (e247n _),callG_of (e248 _),callG_of (e249 _),wo,hq,hm,eR,decide_eq_false (show ¬ (dn:Int) < (dx:Int) by omega),w3]
end Go.Proofs.YtmadknpaljaecaaGreatDoor.Ev.D
namespace Go.Proofs.YtmadknpaljaecaaGreatDoor.Ev.D
open Go Go.Proofs.YtmadknpaljaecaaGreatDoor.Ev
set_option maxRecDepth 100000
theorem and1_i64 {a:Nat} (ha:a < 9223372036854775808):andF .i64 (a:Int) 1=((a % 2:Nat):Int):=by
 unfold andF
 have e1:modM .i64 (a:Int)=a:=Nat.mod_eq_of_lt (by show a < 18446744073709551616;omega)
 have e2:modM .i64 1=2 ^ 1 - 1:=by decide
 rw [e1,e2]
 show wrapF .i64 ((a &&& (2 ^ 1 - 1):Nat):Int)=((a % 2:Nat):Int)
 rw [Nat.and_two_pow_sub_one_eq_mod,i64_wrap (by omega) (by omega)]
theorem s_of {m s:Nat} (hl:m < 9007199254740992) (s63:s≤63) (x1:2 ^ 63≤m*2 ^ s) (x2:m*2 ^ s < 2 ^ 64):(4503599627370496≤m∧s=11)∨(m < 4503599627370496∧12≤s):=by
 rcases Nat.lt_or_ge m 4503599627370496 with h|h
 ·right
  refine ⟨h,?_⟩
  rcases Nat.lt_or_ge s 12 with h2|h2
  ·exfalso
   have e1:2 ^ s≤2 ^ 11:=Nat.pow_le_pow_right (by decide) (by omega)
   have e2:m*2 ^ s≤m*2 ^ 11:=Nat.mul_le_mul_left _ e1
   have p63:(2:Nat) ^ 63=9223372036854775808:=rfl
   have p11:(2:Nat) ^ 11=2048:=rfl
   rw [p63] at x1;rw [p11] at e2;omega
  ·exact h2
 ·left
  refine ⟨h,?_⟩
  have a1:s < 12:=by
   rcases Nat.lt_or_ge s 12 with h2|h2
   ·exact h2
   ·exfalso
    have e1:2 ^ 12≤2 ^ s:=Nat.pow_le_pow_right (by decide) h2
    have e2:m*2 ^ 12≤m*2 ^ s:=Nat.mul_le_mul_left _ e1
    have p64:(2:Nat) ^ 64=18446744073709551616:=rfl
    have p12:(2:Nat) ^ 12=4096:=rfl
    rw [p64] at x2;rw [p12] at e2;omega
  rcases Nat.lt_or_ge s 11 with h2|h2
  ·exfalso
   have e1:2 ^ s≤2 ^ 10:=Nat.pow_le_pow_right (by decide) (by omega)
   have e2:m*2 ^ s≤m*2 ^ 10:=Nat.mul_le_mul_left _ e1
   have p63:(2:Nat) ^ 63=9223372036854775808:=rfl
   have p10:(2:Nat) ^ 10=1024:=rfl
   rw [p63] at x1;rw [p10] at e2;omega
  ·omega
theorem s221 {b s:Nat} (hb0:0 < b) (hb:b < Fl.inf) (s63:s≤63) (x1:2 ^ 63≤Fl.mant b*2 ^ s) (x2:Fl.mant b*2 ^ s < 2 ^ 64) (h:Heap):
  Does C 221 [.int .u64 ((Fl.mant b*2 ^ s:Nat):Int),.int .i64 (Us.shE b - s)] h (.tup [.int .u64 ((Us.shd b:Nat):Int),.int .i64 (Us.she b)]) h:=by
 have hl:=@Fl.mant_lt b
 have hsc:=s_of hl s63 x1 x2
 have s11:11≤s:=by omega
 have hE:-1074≤Us.shE b∧Us.shE b≤972:=by have:=Us.ex_lt hb;unfold Us.shE;omega
 have hre:=Fl.re_eq b
 have ht:=fun env a0 a1 a5 a8 a9 a10=>t221 (env:=env) hb0 hb s11 s63 x1 x2 a0 a1 a5 a8 a9 a10
 have Y:=Us.yF hb0 s11 s63 x1 x2
 have p64:(2:Nat) ^ 64=18446744073709551616:=rfl
 have p63:(2:Nat) ^ 63=9223372036854775808:=rfl
 have p62:(2:Nat) ^ 62=4611686018427387904:=rfl
 refine does_pure (fn:=X221) rfl rfl rfl (mapO_cons conv_int (mapO_cons conv_int mapO_nil)) ?_
 rw [show X221.body=.seq (seqH X221.body) (.seq (seqH (seqT 1 X221.body)) (.seq (seqH (seqT 2 X221.body)) (.seq (seqH (seqT 3 X221.body)) (.seq (seqH (seqT 4 X221.body)) (.seq (seqH (seqT 5 X221.body)) (.seq (seqH (seqT 6 X221.body)) (seqT 7 X221.body))))))) from rfl]
 generalize hR:seqT 7 X221.body=R at ht ⊢
 have z1:=Y.z1;have z2:=Y.z2;have z3:=Y.z3;have z4:=Y.z4
 have hodd:andF .i64 ((Fl.mant b:Nat):Int) 1=((b % 2:Nat):Int):=by
  rw [show ((b % 2:Nat):Int)=((Fl.mant b % 2:Nat):Int) by omega]
  exact and1_i64 (by omega)
 have hshr:Fl.mant b*2 ^ s / 2 ^ s=Fl.mant b:=Nat.mul_div_cancel _ (Nat.pow_pos (by decide))
 have wm:wrapF .i64 ((Fl.mant b:Nat):Int)=((Fl.mant b:Nat):Int):=i64_wrap (by omega) (by omega)
 have h1s:∀ k,k≤63→binV .shl (.int .u64 1) (.int .i64 (k:Nat))=some (.int .u64 ((2 ^ k:Nat):Int)):=fun k hk=>by
  have hk2:2 ^ k < 18446744073709551616:=by rw [← p64];exact Nat.pow_lt_pow_right (by decide) (by omega)
  have:=b_shln (k':=.i64) (a:=1) (n:=k) (by omega) (by rw [Nat.one_mul];exact hk2)
  rw [Nat.one_mul] at this;exact this
 have wmul:∀ h,cvIV .i64 (.int .u64 ((Fl.mant b:Nat):Int)) h=.ok (.int .i64 ((Fl.mant b:Nat):Int)) h:=fun h=>by rw [cvIV_int,wm]
 have e52:wrapF .i64 (63 - 52)=((11:Nat):Int):=rfl
 have e64:wrapF .u64 (8*8)=64:=rfl
 rcases hsc with ⟨hm,rfl⟩|⟨hm,h12⟩
 ·have wE:wrapF .i64 (Us.shE b - ((11:Nat):Int)+((11:Nat):Int))=Us.shE b:=by rw [i64_wrap (by omega) (by omega)];omega
  have w10:wrapF .i64 (((11:Nat):Int) - 1)=((10:Nat):Int):=rfl
  have w9:wrapF .i64 (((11:Nat):Int) - 2)=((9:Nat):Int):=rfl
  have hsh:=b_shrn (k':=.i64) (a:=Fl.mant b*2 ^ 11) (n:=11) (by decide)
  rw [hshr] at hsh
  have e3:=Y.e3
  have wx:wrapF .u64 (((Fl.mant b*2 ^ 11:Nat):Int)+((2 ^ 10:Nat):Int))=((Us.Y2 b*2 ^ 9:Nat):Int):=by
   rw [show Us.Y2 b*2 ^ 9=Us.Y2 b*2 ^ (11 - 2) from rfl,← Int.natCast_add,show Fl.mant b*2 ^ 11+2 ^ 10=Us.Y2 b*2 ^ (11 - 2) from e3.symm]
   exact u64_wrap (by rw [← p64];exact z4)
  cases hs:Us.skew b with
  |true=>
   have hmm:Fl.mant b=4503599627370496∧0 < Fl.ex b:=by unfold Us.skew at hs;simpa using hs
   have e2:=Y.e2 hs
   have wn:wrapF .u64 (((Fl.mant b*2 ^ 11:Nat):Int) - ((2 ^ 9:Nat):Int))=((Us.Y1 b*2 ^ 9:Nat):Int):=by
    rw [show ((Fl.mant b*2 ^ 11:Nat):Int) - ((2 ^ 9:Nat):Int)=((Us.Y1 b*2 ^ 9:Nat):Int) by
     have e2':Us.Y1 b*2 ^ 9+2 ^ 9=Fl.mant b*2 ^ 11:=e2
     omega]
    exact u64_wrap (by rw [← p64];exact z2)
   have q1:=decide_eq_true (show ((Fl.mant b*2 ^ 11:Nat):Int)=9223372036854775808 by rw [hmm.1];rfl)
   have q2:=decide_eq_true (show (-1085:Int) < Us.shE b - ((11:Nat):Int) by have:=hmm.2;unfold Us.shE;omega)
   have c243:=fun h=>s243 (x:=Us.shE b) (by omega) (by omega) h
   have wp:wrapF .i64 (0 - (Us.shE b*631305 - 261663) / 2097152)=Us.shp b:=by
    unfold Us.shp;rw [hs,if_pos rfl,i64_wrap (by omega) (by omega)];omega
   simp only [X221,seqT,seqH]
   simp (decide:=true) only [BZ,e64,e52,q1,q2,wE,callG_of (c243 _),wp,w10,w9,h1s 10 (by decide),h1s 9 (by decide),wn,wx,hsh,wmul,hodd]
   refine ht _ ?_ ?_ ?_ ?_ ?_ ?_ <;> simp (decide:=true) only [BZ]
  |false=>
   have e1:=Y.e1 hs
   have wn:wrapF .u64 (((Fl.mant b*2 ^ 11:Nat):Int) - ((2 ^ 10:Nat):Int))=((Us.Y1 b*2 ^ 9:Nat):Int):=by
    rw [show ((Fl.mant b*2 ^ 11:Nat):Int) - ((2 ^ 10:Nat):Int)=((Us.Y1 b*2 ^ 9:Nat):Int) by
     have e1':Us.Y1 b*2 ^ 9+2 ^ 10=Fl.mant b*2 ^ 11:=e1
     omega]
    exact u64_wrap (by rw [← p64];exact z2)
   have hex:0≤Us.shE b+1074:=by omega
   have q2:=decide_eq_true (show (-1085:Int)≤Us.shE b - ((11:Nat):Int) by omega)
   have c216:=fun h=>s216 (x:=Us.shE b) (by omega) (by omega) h
   have wp:wrapF .i64 (0 - Us.shE b*78913 / 262144)=Us.shp b:=by
    unfold Us.shp;rw [hs,if_neg (by decide),i64_wrap (by omega) (by omega)];omega
   simp only [X221,seqT,seqH]
   by_cases hmm:Fl.mant b=4503599627370496
   ·have h0:Fl.ex b=0:=by unfold Us.skew at hs;simp [hmm] at hs;exact hs
    have q1:=decide_eq_true (show ((Fl.mant b*2 ^ 11:Nat):Int)=9223372036854775808 by rw [hmm];rfl)
    have q3:=decide_eq_false (show ¬ (-1085:Int) < Us.shE b - ((11:Nat):Int) by unfold Us.shE;omega)
    simp (decide:=true) only [BZ,e64,e52,q1,q2,q3,wE,callG_of (c216 _),wp,w10,w9,h1s 10 (by decide),h1s 9 (by decide),wn,wx,hsh,wmul,hodd]
    refine ht _ ?_ ?_ ?_ ?_ ?_ ?_ <;> simp (decide:=true) only [BZ]
   ·have q1:=decide_eq_false (show ¬ ((Fl.mant b*2 ^ 11:Nat):Int)=9223372036854775808 from fun h=>hmm (by omega))
    simp (decide:=true) only [BZ,e64,e52,q1,q2,wE,callG_of (c216 _),wp,w10,w9,h1s 10 (by decide),h1s 9 (by decide),wn,wx,hsh,wmul,hodd]
    refine ht _ ?_ ?_ ?_ ?_ ?_ ?_ <;> simp (decide:=true) only [BZ]
 ·have h0:Fl.ex b=0:=by
   have hh:b < 4503599627370496:=by
    rcases Nat.lt_or_ge b 4503599627370496 with h|h
    ·exact h
    ·have:Fl.mant b=4503599627370496+b % 4503599627370496:=if_neg (by omega)
     omega
   exact if_pos hh
  have hs:Us.skew b=false:=by unfold Us.skew;rw [h0];simp
  have hEe:Us.shE b=-1074:=by unfold Us.shE;omega
  have e1:=Y.e1 hs
  have wn:wrapF .u64 (((Fl.mant b*2 ^ s:Nat):Int) - ((2 ^ (s - 1):Nat):Int))=((Us.Y1 b*2 ^ (s - 2):Nat):Int):=by
   rw [show ((Fl.mant b*2 ^ s:Nat):Int) - ((2 ^ (s - 1):Nat):Int)=((Us.Y1 b*2 ^ (s - 2):Nat):Int) by omega]
   exact u64_wrap (by rw [← p64];exact z2)
  have wx:wrapF .u64 (((Fl.mant b*2 ^ s:Nat):Int)+((2 ^ (s - 1):Nat):Int))=((Us.Y2 b*2 ^ (s - 2):Nat):Int):=by
   rw [← Int.natCast_add,← Y.e3]
   exact u64_wrap (by rw [← p64];exact z4)
  have q2:=decide_eq_false (show ¬ (-1085:Int)≤Us.shE b - (s:Int) by omega)
  have q3:=decide_eq_false (show ¬ (-1085:Int) < Us.shE b - (s:Int) by omega)
  have c216:=fun h=>s216 (x:=Us.shE b) (by omega) (by omega) h
  have wp:wrapF .i64 (0 - Us.shE b*78913 / 262144)=Us.shp b:=by
   unfold Us.shp;rw [hs,if_neg (by decide),i64_wrap (by omega) (by omega)];omega
  have wz:wrapF .i64 (((11:Nat):Int)+wrapF .i64 (-1085 - (Us.shE b - (s:Int))))=(s:Int):=by
   rw [i64_wrap (x:=-1085 - (Us.shE b - (s:Int))) (by omega) (by omega),i64_wrap (by omega) (by omega)];omega
  have wE:wrapF .i64 (Us.shE b - (s:Int)+(s:Int))=Us.shE b:=by rw [i64_wrap (by omega) (by omega)];omega
  have w1:wrapF .i64 ((s:Int) - 1)=((s - 1:Nat):Int):=by rw [i64_wrap (by omega) (by omega)];omega
  have hsh:=b_shrn (k':=.i64) (a:=Fl.mant b*2 ^ s) (n:=s) (by omega)
  rw [hshr] at hsh
  simp only [X221,seqT,seqH]
  cases hq:decide (((Fl.mant b*2 ^ s:Nat):Int)=9223372036854775808) with
  |true=>
   simp (decide:=true) only [BZ,e64,e52,hq,q2,q3,wz,wE,callG_of (c216 _),wp,w1,h1s (s - 1) (by omega),wn,wx,hsh,wmul,hodd]
   refine ht _ ?_ ?_ ?_ ?_ ?_ ?_ <;> simp (decide:=true) only [BZ]
  |false=>
   simp (decide:=true) only [BZ,e64,e52,hq,q2,wz,wE,callG_of (c216 _),wp,w1,h1s (s - 1) (by omega),wn,wx,hsh,wmul,hodd]
   refine ht _ ?_ ?_ ?_ ?_ ?_ ?_ <;> simp (decide:=true) only [BZ]
end Go.Proofs.YtmadknpaljaecaaGreatDoor.Ev.D
namespace Go.Proofs.YtmadknpaljaecaaGreatDoor.Ev.D
open Go Go.Proofs.YtmadknpaljaecaaGreatDoor.Ev
set_option maxRecDepth 100000
theorem glob8:C.glob 8=.iptr false L8:=rfl
def tab8B:List AV→Nat→Nat→Bool
 |_,_,0=>true
 |.int .u64 (.ofNat a)::r,i,n+1=>Nat.beq a (10 ^ i) && tab8B r (i+1) n
 |_,_,_=>false
theorem tab8B_get:∀ {n i:Nat} {l:List AV},tab8B l i n=true→∀ j,j < n→∃ r,l.drop j=.int .u64 ((10 ^ (i+j):Nat):Int)::r
 |n+1,i,.int .u64 (.ofNat a)::r,h,j,hj=>by
  simp only [tab8B,Bool.and_eq_true] at h
  have h1:=Nat.eq_of_beq_eq_true h.1
  cases j with
  |zero=>exact ⟨r,by rw [h1];rfl⟩
  |succ j=>
   obtain ⟨r',hr'⟩:=tab8B_get h.2 j (by omega)
   exact ⟨r',by rw [List.drop_succ_cons,hr',show i+1+j=i+(j+1) by omega]⟩
theorem tab8:tab8B L8 0 20=true:=by kernel_rfl
theorem L8_drop {k:Nat} (hk:k < 20):∃ r,L8.drop k=.int .u64 ((10 ^ k:Nat):Int)::r:=by
 obtain ⟨r,hr⟩:=tab8B_get tab8 k hk
 exact ⟨r,by rw [hr,Nat.zero_add]⟩
theorem bits_dec:∀ L,L < 64→1≤L→10 ^ (L*78913 / 262144)≤2 ^ L∧2 ^ L≤10 ^ (L*78913 / 262144+1)∧L*78913 / 262144 < 19∧(0 < L*78913 / 262144→10 ^ (L*78913 / 262144 - 1)≤2 ^ (L - 1)):=by decide+kernel
theorem s215 {d nd:Nat} (h1:10 ^ (nd - 1)≤d) (h2:d < 10 ^ nd) (hnd:1≤nd) (hd:d < 9223372036854775808) (h:Heap):Does C 215 [.int .u64 (d:Int)] h (.int .i64 (nd:Int)) h:=by
 have hd0:0 < d:=Nat.lt_of_lt_of_le (Nat.pow_pos (by decide)) h1
 have h0:d≠0:=by omega
 have l1:=Nat.log2_self_le h0
 have l2:=@Nat.lt_log2_self d
 have l3:d.log2 < 63:=(Nat.log2_lt h0).2 hd
 have hl8:=len8_eq hd0
 have c212:=fun h=>s212 (x:=d) (by omega) h
 rw [hl8] at c212
 obtain ⟨B1,B2,B3,B4⟩:=bits_dec (d.log2+1) (by omega) (by omega)
 have c216:=fun h=>s216 (x:=((d.log2+1:Nat):Int)) (by omega) (by omega) h
 rw [show ((d.log2+1:Nat):Int)*78913 / 262144=(((d.log2+1)*78913 / 262144:Nat):Int) from rfl] at c216
 rw [Nat.add_sub_cancel] at B4
 generalize d.log2+1=L at*
 generalize L*78913 / 262144=k at*
 obtain ⟨r,hr⟩:=L8_drop (k:=k) (by omega)
 have hb:(d < 10 ^ k→k=nd)∧(¬ d < 10 ^ k→k+1=nd):=by
  constructor
  ·intro hlt
   have hk0:0 < k:=by
    rcases Nat.eq_zero_or_pos k with h|h
    ·rw [h,Nat.pow_zero] at hlt;omega
    ·exact h
   have B4:=B4 hk0
   have a1:10 ^ (k - 1)≤d:=Nat.le_trans B4 l1
   have a2:10 ^ (nd - 1) < 10 ^ k:=Nat.lt_of_le_of_lt h1 hlt
   have a3:10 ^ (k - 1) < 10 ^ nd:=Nat.lt_of_le_of_lt a1 h2
   have b1:=(Nat.pow_lt_pow_iff_right (by decide:1 < 10)).1 a2
   have b2:=(Nat.pow_lt_pow_iff_right (by decide:1 < 10)).1 a3
   omega
  ·intro hge
   have a2:10 ^ (nd - 1) < 10 ^ (k+1):=Nat.lt_of_le_of_lt h1 (Nat.lt_of_lt_of_le l2 B2)
   have a3:10 ^ k < 10 ^ nd:=Nat.lt_of_le_of_lt (by omega) h2
   have b1:=(Nat.pow_lt_pow_iff_right (by decide:1 < 10)).1 a2
   have b2:=(Nat.pow_lt_pow_iff_right (by decide:1 < 10)).1 a3
   omega
 refine does_pure (fn:=X215) rfl rfl rfl (mapO_cons conv_int mapO_nil) ?_
 by_cases hlt:d < 10 ^ k
 ·have hk:=hb.1 hlt
  have e1:=decide_eq_false (show ¬ ((10 ^ k:Nat):Int)≤(d:Int) by omega)
  have f251:∀ h,Does C 251 [.bool false] h (.int .i64 0) h:=fun h=>s251 h
  have w1:wrapF .i64 ((k:Int)+0)=(nd:Int):=by rw [i64_wrap (by omega) (by omega)];omega
  simp (decide:=true) only [BZ,X215,callG_of (c212 _),callG_of (c216 _),glob8,iaA_iptr (show k < 20 by omega),Nat.mul_one,hr,ld1_iptr,e1,callG_of (f251 _),w1]
 ·have hk:=hb.2 hlt
  have e1:=decide_eq_true (show ((10 ^ k:Nat):Int)≤(d:Int) by omega)
  have t251:∀ h,Does C 251 [.bool true] h (.int .i64 1) h:=fun h=>s251 h
  have w1:wrapF .i64 ((k:Int)+1)=(nd:Int):=by rw [i64_wrap (by omega) (by omega)];omega
  simp (decide:=true) only [BZ,X215,callG_of (c212 _),callG_of (c216 _),glob8,iaA_iptr (show k < 20 by omega),Nat.mul_one,hr,ld1_iptr,e1,callG_of (t251 _),w1]
end Go.Proofs.YtmadknpaljaecaaGreatDoor.Ev.D
namespace Go.Proofs.YtmadknpaljaecaaGreatDoor.Ev.D
open Go Go.Proofs.YtmadknpaljaecaaGreatDoor.Ev
set_option maxRecDepth 100000
theorem slSl_hi {p m nd:Nat} (hm:0 < m) (h1:nd≤m) (h:Heap):slSlV 1 (.sl p 0 m 1 (some m)) none (some (.int .i64 (nd:Int))) h=.ok (.sl p 0 nd 1 (some m)) h:=by
 unfold slSlV
 simp only [bounds_hi h1]
 have:Nat.beq 0 m=false:=by
  cases hb:Nat.beq 0 m with
  |false=>rfl
  |true=>have:=Nat.eq_of_beq_eq_true hb;omega
 rw [this]
 simp only [cond_false,Nat.zero_mul,Nat.add_zero,Nat.sub_zero]
structure DG (h:Heap) (p D nd:Nat):Prop where
 one:1≤nd
 lo:10 ^ (nd - 1)≤D
 hi:D < 10 ^ nd
 last:D % 10≠0
 d:∀ i,i < nd→h.cell p i=.int .u8 ((48+dgt D nd i:Nat):Int)
theorem s214 {h0:Heap} {p d nd:Nat} {e:Int} (hl:32≤h0.len p) (h1:10 ^ (nd - 1)≤d) (h2:d < 10 ^ nd) (hnd:1≤nd) (h19:nd≤19) (e1:-5000≤e) (e2:e≤5000):
  ∃ (h':Heap) (nd' D z:Nat),Does C 214 [.sl p 0 32 1 (some 32),.int .u64 (d:Int),.int .i64 e,.int .i64 (nd:Int)] h0 (.tup [.int .i64 ((nd:Int)+e),.int .i64 (nd':Int)]) h'∧nd=nd'+z∧d=D*10 ^ z∧DG h' p D nd'∧h'.len p=h0.len p∧Fr h0 h' p:=by
 obtain ⟨h3,c226,F⟩:=s226 (h0:=h0) (p:=p) (U:=d) (nd:=nd) (es:=1) (cap:=some 32) (by omega) h2 h19
 have hd0:0 < d:=Nat.lt_of_lt_of_le (Nat.pow_pos (by decide)) h1
 have w1:wrapF .i64 ((nd:Int)+e)=(nd:Int)+e:=i64_wrap (by omega) (by omega)
 refine (does_anyE (fn:=X214) rfl rfl rfl (args:=[.sl p 0 32 1 (some 32),.int .u64 (d:Int),.int .i64 e,.int .i64 (nd:Int)])
  (P:=fun v h'=>∃ nd' D z:Nat,v=.tup [.int .i64 ((nd:Int)+e),.int .i64 ((nd':Nat):Int)]∧nd=nd'+z∧d=D*10 ^ z∧DG h' p D nd'∧h'.len p=h0.len p∧Fr h0 h' p) ?_).elim fun v ⟨h',hd,nd',D,z,hv,q1,q2,q3,q4,q5⟩=>⟨h',nd',D,z,hv ▸ hd,q1,q2,q3,q4,q5⟩
 simp only [X214]
 simp (decide:=true) only [BZ,decide_eq_true (show (nd:Int)≤32 by omega),show ((32:Nat):Int)=32 from rfl,x_slSl,Option.map_none,Option.map_some,slSl_hi (p:=p) (m:=32) (nd:=nd) (by decide) (by omega),callG_of c226,w1]
 refine go_lp (fun k env h=>h=h3∧∃ D,1≤k∧k≤nd∧d=D*10 ^ (nd - k)∧env.at 0=.sl p 0 32 1 (some 32)∧env.at 3=.int .i64 (k:Int)∧env.at 8=.int .i64 ((nd:Int)+e))
  (fun env h=>h=h3∧∃ k D,1≤k∧k≤nd∧d=D*10 ^ (nd - k)∧D % 10≠0∧env.at 3=.int .i64 (k:Int)∧env.at 8=.int .i64 ((nd:Int)+e)) (n:=nd) ⟨rfl,d,hnd,Nat.le_refl _,by rw [Nat.sub_self,Nat.pow_zero,Nat.mul_one],?_,?_,?_⟩ ?_ ?_
 ·simp (decide:=true) only [BZ]
 ·simp (decide:=true) only [BZ]
 ·simp (decide:=true) only [BZ]
 ·rintro k env h ⟨rfl,D,k1,k2,hD,a0,a3,a8⟩
  have hc:=F.d (k - 1) (Nat.zero_le _) (by omega)
  have hdg:dgt d nd (k - 1)=D % 10:=by
   unfold dgt
   rw [show nd - 1 - (k - 1)=nd - k by omega,hD,Nat.mul_div_cancel _ (Nat.pow_pos (by decide))]
  rw [hdg] at hc
  have i1:wrapF .i64 ((k:Int) - 1)=((k - 1:Nat):Int):=by rw [i64_wrap (by omega) (by omega)];omega
  have hgt:=decide_eq_true (show (0:Int) < (k:Int) by omega)
  by_cases h0':D % 10=0
  ·have e0:=decide_eq_true (show ((48+D % 10:Nat):Int)=48 by omega)
   simp (decide:=true) only [BZ,a0,a3,hgt,i1,iaS_sl (show k - 1 < 32 by omega),Nat.mul_one,ld1_cell (show k - 1 < h.len p by rw [F.len];omega),hc,e0]
   have hDp:0 < D:=by
    rcases Nat.eq_zero_or_pos D with h|h
    ·rw [h,Nat.zero_mul] at hD;omega
    ·exact h
   have hk2:1≤k - 1:=by
    rcases Nat.lt_or_ge 1 k with h|h
    ·omega
    ·exfalso
     have hk:k=1:=by omega
     subst hk
     have hlt:D*10 ^ (nd - 1) < 10 ^ 1*10 ^ (nd - 1):=by rw [← hD,← Nat.pow_add,show 1+(nd - 1)=nd by omega];exact h2
     have:=Nat.lt_of_mul_lt_mul_right hlt
     omega
   refine ⟨k - 1,by omega,D / 10,hk2,by omega,?_,rfl,a8⟩
   rw [show nd - (k - 1)=1+(nd - k) by omega,Nat.pow_add,← Nat.mul_assoc,Nat.pow_one,Nat.div_mul_cancel (Nat.dvd_of_mod_eq_zero h0'),← hD]
  ·have e0:=decide_eq_false (show ¬ ((48+D % 10:Nat):Int)=48 by omega)
   simp (decide:=true) only [BZ,a0,a3,hgt,i1,iaS_sl (show k - 1 < 32 by omega),Nat.mul_one,ld1_cell (show k - 1 < h.len p by rw [F.len];omega),hc,e0]
   exact ⟨k,D,k1,k2,hD,h0',rfl,a8⟩
 ·rintro env h ⟨rfl,k,D,k1,k2,hD,hl0,a3,a8⟩
  simp (decide:=true) only [BZ,a3,a8]
  refine ⟨.tup [.int .i64 ((nd:Int)+e),.int .i64 ((k:Nat):Int)],back2f.2 ⟨?_,?_⟩,k,D,nd - k,rfl,by omega,hD,⟨k1,?_,?_,hl0,fun i hi=>?_⟩,F.len,F.fr⟩
  ·simp (decide:=true) only [BZ,a8]
  ·simp (decide:=true) only [BZ,a3]
  ·have:10 ^ (k - 1)*10 ^ (nd - k)≤D*10 ^ (nd - k):=by rw [← hD,← Nat.pow_add,show k - 1+(nd - k)=nd - 1 by omega];exact h1
   exact Nat.le_of_mul_le_mul_right this (Nat.pow_pos (by decide))
  ·have:D*10 ^ (nd - k) < 10 ^ k*10 ^ (nd - k):=by rw [← hD,← Nat.pow_add,show k+(nd - k)=nd by omega];exact h2
   exact Nat.lt_of_mul_lt_mul_right this
  ·rw [F.d i (Nat.zero_le _) (by omega)]
   unfold dgt
   rw [hD,show nd - 1 - i=nd - k+(k - 1 - i) by omega,div_pow,Nat.mul_div_cancel _ (Nat.pow_pos (by decide))]
end Go.Proofs.YtmadknpaljaecaaGreatDoor.Ev.D
namespace Go.Proofs.YtmadknpaljaecaaGreatDoor.Rf
theorem dec_len {D nd:Nat} (h1:1≤nd) (lo:10 ^ (nd - 1)≤D) (hi:D < 10 ^ nd):(dec D).length=nd:=by
 have a:=dec_len_iff.2 hi
 rcases Nat.lt_or_ge (dec D).length nd with h|h
 ·have:=dec_len_iff.1 (show (dec D).length≤nd - 1 by omega)
  omega
 ·omega
theorem dec_get {D:Nat}:∀ {nd:Nat},1≤nd→10 ^ (nd - 1)≤D→D < 10 ^ nd→∀ i,i < nd→(dec D)[i]? =some (UInt8.ofNat (48+D / 10 ^ (nd - 1 - i) % 10)):=by
 induction D using Nat.strongRecOn with
 |_ D ih=>
  intro nd h1 lo hi i hin
  have hD:0 < D:=Nat.lt_of_lt_of_le (Nat.pow_pos (by decide)) lo
  rw [dec_pos hD]
  rcases Nat.lt_or_ge 1 nd with h2|h2
  ·have lo':10 ^ (nd - 1 - 1)≤D / 10:=by
    rw [Nat.le_div_iff_mul_le (by decide),← Nat.pow_succ,show (nd - 1 - 1).succ=nd - 1 by omega];exact lo
   have hi':D / 10 < 10 ^ (nd - 1):=by
    rw [Nat.div_lt_iff_lt_mul (by decide),← Nat.pow_succ,show (nd - 1).succ=nd by omega];exact hi
   have hl:=dec_len (by omega) lo' hi'
   rcases Nat.lt_or_ge i (nd - 1) with h3|h3
   ·rw [List.getElem?_append_left (by omega),ih (D / 10) (by omega) (by omega) lo' hi' i h3,Nat.div_div_eq_div_mul,← Nat.pow_succ',show (nd - 1 - 1 - i).succ=nd - 1 - i by omega]
   ·have:i=nd - 1:=by omega
    subst this
    rw [List.getElem?_append_right (by omega),hl,Nat.sub_self,Nat.pow_zero,Nat.div_one];rfl
  ·have e1:nd=1:=by omega
   subst e1
   have e0:i=0:=by omega
   subst e0
   have:D / 10=0:=by omega
   rw [this,dec_zero,List.nil_append,Nat.pow_zero,Nat.div_one];rfl
end Go.Proofs.YtmadknpaljaecaaGreatDoor.Rf
namespace Go.Proofs.YtmadknpaljaecaaGreatDoor.Ev
open Go
def DS (x:Option Blk) (ds:List UInt8):Prop:=∃ n d cs e op,x=some (.cells n d cs e op)∧ds.length≤n∧rdCells d cs ds.length 0=byteAVs (ds.map UInt8.toNat)
theorem byteAVs_get:∀ (l:List UInt8) (i:Nat) (c:UInt8),l[i]? =some c→(byteAVs (l.map UInt8.toNat))[i]? =some (.int .u8 ((c.toNat:Nat):Int))
 |a::r,0,c,h=>by simp at h;subst h;rfl
 |a::r,i+1,c,h=>by
  rw [List.getElem?_cons_succ] at h
  show (AV.int .u8 _::byteAVs (r.map UInt8.toNat))[i+1]? =_
  rw [List.getElem?_cons_succ]
  exact byteAVs_get r i c h
theorem DS.cell {x:Option Blk} {ds:List UInt8} (S:DS x ds) {h:Heap} {p i:Nat} {c:UInt8} (hx:h.get p=x) (hc:ds[i]? =some c):i < h.len p∧h.cell p i=.int .u8 ((c.toNat:Nat):Int):=by
 obtain ⟨n,d,cs,e,op,rfl,hn,hr⟩:=S
 have hi:i < ds.length:=by
  rcases Nat.lt_or_ge i ds.length with h|h
  ·exact h
  ·rw [List.getElem?_eq_none h] at hc;cases hc
 have h1:=rdCells_get d cs ds.length 0 i hi
 rw [hr,byteAVs_get ds i c hc,Nat.zero_add] at h1
 refine ⟨by unfold Heap.len;rw [hx];show i < n;omega,?_⟩
 unfold Heap.cell;rw [hx]
 exact (Option.some.inj h1).symm
theorem DS.ld {x:Option Blk} {ds:List UInt8} (S:DS x ds) {h:Heap} {p i:Nat} {c:UInt8} (hx:h.get p=x) (hc:ds[i]? =some c):ldV false 1 (.ref p i) h=.ok (.int .u8 ((c.toNat:Nat):Int)) h:=by
 obtain ⟨h1,h2⟩:=S.cell hx hc
 rw [ld1_cell h1,h2]
theorem DS.sub {x:Option Blk} {ds:List UInt8} (S:DS x ds) {h:Heap} {p off len es:Nat} {cap:Option Nat} (hx:h.get p=x) (hl:off+len≤ds.length):slCells 1 h (.sl p off len es cap)=some (byteAVs (((ds.drop off).take len).map UInt8.toNat)):=by
 obtain ⟨n,d,cs,e,op,rfl,hn,hr⟩:=S
 simp only [slCells,hx]
 unfold rd
 rw [Nat.mul_one,Nat.ble_eq_true_of_le (by omega),cond_true]
 congr 1
 refine List.ext_getElem? fun i=>?_
 rcases Nat.lt_or_ge i len with hi|hi
 ·obtain ⟨c,hc⟩:∃ c,ds[off+i]? =some c:=⟨_,List.getElem?_eq_getElem (by omega)⟩
  have h1:=rdCells_get d cs ds.length 0 (off+i) (by omega)
  rw [hr,byteAVs_get ds _ c hc,Nat.zero_add] at h1
  rw [rdCells_get d cs len off i hi,← h1,byteAVs_get _ i c (by rw [List.getElem?_take_of_lt hi,List.getElem?_drop,hc])]
 ·rw [List.getElem?_eq_none (by rw [rdCells_length];exact hi),List.getElem?_eq_none (by rw [bA_len];simp;omega)]
def hB (s:List UInt8) (h:Heap):Heap:=h.new (.cells s.length .undef (wr .nil (byteAVs (s.map UInt8.toNat)) 0) 5 false)
def vB (s:List UInt8) (h:Heap):AV:=.sl h.next 0 s.length 0 (some s.length)
def bsR (o:Option (List AV)) (n:Nat) (h:Heap):OpR:=match o with
 |some cs=>newCells h n cs 5 false fun b=>.sl b 0 n 0 (some n)
 |none=>.no 68
def sel (a b c:AV):XO→AV|.t 0=>a|.t 1=>b|_=>c
def bs1V (a:AV) (h:Heap):OpR:=bsR (fillParts (sel a a a) [(0,1,.t 0)] [.int .u8 0]) 1 h
def bs2V (a b:AV) (h:Heap):OpR:=bsR (fillParts (sel a b b) [(0,1,.t 0),(1,1,.t 1)] [.int .u8 0,.int .u8 0]) 2 h
def bs3V (a b c:AV) (h:Heap):OpR:=bsR (fillParts (sel a b c) [(0,1,.t 0),(1,1,.t 1),(2,1,.t 2)] [.int .u8 0,.int .u8 0,.int .u8 0]) 3 h
section
variable {call:CallT} {ρ:XO→AV} {h:Heap} {x y z:XO} {a b c:UInt8}
theorem x_b1:xop call ρ h (.h (.bsl 5 1 [.int .u8 0] [(0,1,x)]))=bs1V (ρ x) h:=by
 rw [x_bsl];unfold o_bsl bs1V bsR;rfl
theorem x_b2:xop call ρ h (.h (.bsl 5 2 [.int .u8 0,.int .u8 0] [(0,1,x),(1,1,y)]))=bs2V (ρ x) (ρ y) h:=by
 rw [x_bsl];unfold o_bsl bs2V bsR;rfl
theorem x_b3:xop call ρ h (.h (.bsl 5 3 [.int .u8 0,.int .u8 0,.int .u8 0] [(0,1,x),(1,1,y),(2,1,z)]))=bs3V (ρ x) (ρ y) (ρ z) h:=by
 rw [x_bsl];unfold o_bsl bs3V bsR;rfl
theorem b1_c:bs1V (.int .u8 ((a.toNat:Nat):Int)) h=.ok (vB [a] h) (hB [a] h):=rfl
theorem b2_c:bs2V (.int .u8 ((a.toNat:Nat):Int)) (.int .u8 ((b.toNat:Nat):Int)) h=.ok (vB [a,b] h) (hB [a,b] h):=rfl
theorem b3_c:bs3V (.int .u8 ((a.toNat:Nat):Int)) (.int .u8 ((b.toNat:Nat):Int)) (.int .u8 ((c.toNat:Nat):Int)) h=.ok (vB [a,b,c] h) (hB [a,b,c] h):=rfl
theorem b1_45:bs1V (.int .u8 45) h=.ok (vB [45] h) (hB [45] h):=rfl
theorem b1_43:bs1V (.int .u8 43) h=.ok (vB [43] h) (hB [43] h):=rfl
theorem b1_46:bs1V (.int .u8 46) h=.ok (vB [46] h) (hB [46] h):=rfl
theorem b1_48:bs1V (.int .u8 48) h=.ok (vB [48] h) (hB [48] h):=rfl
theorem b1_69:bs1V (.int .u8 69) h=.ok (vB [69] h) (hB [69] h):=rfl
theorem b2_48:bs2V (.int .u8 48) (.int .u8 ((b.toNat:Nat):Int)) h=.ok (vB [48,b] h) (hB [48,b] h):=rfl
end
theorem app_b {p:Nat} {x:Option Blk} {h:Heap} {v:AV} {w:List UInt8} (O:OB p x h v w) (s:List UInt8) (hl:w.length+s.length≤8796093022208):
  ∃ v' h',append 5 1 8796093022208 (hB s h) v (vB s h)=.ok v' h'∧OB p x h' v' (w++s):=app_bsl O s hl
section
variable {C:Ctx} {env:T AV} {h:Heap} {Q:PostC} {ks:List K}
theorem go_lp0 {a:XCode} {id:Nat} (hs:GoP C [.c a] env h (fun e env' h'=>e=.exit id∧GoP C ks env' h' Q)):GoP C (.c (.loop a)::.blk id::ks) env h Q:=by
 refine go_lp (fun _ env' h'=>env' =env∧h' =h) (fun env' h'=>GoP C ks env' h' Q) (n:=0) ⟨rfl,rfl⟩ ?_ (fun _ _ hq=>hq)
 rintro n env' h' ⟨rfl,rfl⟩
 refine hs.mono fun e env2 h2 hq=>?_
 obtain ⟨rfl,hq⟩:=hq
 exact lpQ_exit.2 hq
end
end Go.Proofs.YtmadknpaljaecaaGreatDoor.Ev
namespace Go.Proofs.YtmadknpaljaecaaGreatDoor.Ev.D
open Go Go.Proofs.YtmadknpaljaecaaGreatDoor.Ev
theorem DG.ds {h:Heap} {p D nd n:Nat} (G:DG h p D nd) (hl:h.len p=n) (hn:nd≤n):DS (h.get p) (Rf.dec D)∧(Rf.dec D).length=nd:=by
 have hlen:=Rf.dec_len G.one G.lo G.hi
 refine ⟨?_,hlen⟩
 have hd:=G.d
 have h1:=G.one
 unfold Heap.len at hl
 split at hl
 ·rename_i m d cs e op hg
  subst hl
  refine ⟨_,d,cs,e,op,hg,by rw [hlen];exact hn,?_⟩
  refine List.ext_getElem? fun i=>?_
  rcases Nat.lt_or_ge i nd with hi|hi
  ·rw [rdCells_get d cs _ 0 i (by rw [hlen];exact hi),Nat.zero_add,byteAVs_get _ i _ (Rf.dec_get h1 G.lo G.hi i hi)]
   have:=hd i hi
   unfold Heap.cell at this
   rw [hg] at this
   rw [show (cs.get i).getD d=_ from this]
   congr 2
   unfold dgt
   rw [Rf.digit_toNat]
  ·rw [List.getElem?_eq_none (by rw [rdCells_length,hlen];exact hi),List.getElem?_eq_none (by rw [bA_len,hlen];exact hi)]
 ·omega
end Go.Proofs.YtmadknpaljaecaaGreatDoor.Ev.D
namespace Go.Proofs.YtmadknpaljaecaaGreatDoor.Rf
def sgE (k:Int):UInt8:=if k < 0 then 45 else 43
def exB (n:Nat):List UInt8:=if n < 10 then [48,UInt8.ofNat (48+n % 10)] else if n < 100 then [UInt8.ofNat (48+n / 10 % 10),UInt8.ofNat (48+n % 10)] else [UInt8.ofNat (48+n / 100 % 10),UInt8.ofNat (48+n / 10 % 10),UInt8.ofNat (48+n % 10)]
def eF (a:UInt8) (r:List UInt8) (k:Int):List UInt8:=a::((if r=[] then [] else 46::r)++69::sgE k::exB k.natAbs)
end Go.Proofs.YtmadknpaljaecaaGreatDoor.Rf
namespace Go.Proofs.YtmadknpaljaecaaGreatDoor.Ev.D
open Go Go.Proofs.YtmadknpaljaecaaGreatDoor.Ev
set_option maxRecDepth 100000
theorem slSl_lh {p m a b:Nat} (ham:a < m) (h1:a≤b) (h2:b≤m) (h:Heap):slSlV 1 (.sl p 0 m 1 (some m)) (some (.int .i64 (a:Int))) (some (.int .i64 (b:Int))) h=.ok (.sl p a (b - a) 1 (some (m - a))) h:=by
 unfold slSlV
 simp only [bounds_lohi h1 h2]
 have:Nat.beq a m=false:=by
  cases hb:Nat.beq a m with
  |false=>rfl
  |true=>have:=Nat.eq_of_beq_eq_true hb;omega
 rw [this]
 simp only [cond_false,Nat.mul_one,Nat.zero_add]
theorem quo_i {a b:Nat} (hb:0 < b) (ha:a < 9223372036854775808):binV .quo (.int .i64 (a:Int)) (.int .i64 (b:Int))=some (.int .i64 ((a / b:Nat):Int)):=by
 have:=Nat.div_le_self a b
 rw [b_quo (by omega),show ((a:Nat):Int).tdiv b=((a / b:Nat):Int) from rfl]
 generalize a / b=q at*
 rw [i64_wrap (by omega) (by omega)]
theorem rem_i {a b:Nat} (hb:0 < b):binV .rem (.int .i64 (a:Int)) (.int .i64 (b:Int))=some (.int .i64 ((a % b:Nat):Int)):=by
 rw [b_rem (by omega)];rfl
theorem wr8 {n:Nat} (h:n < 256):wrapF .u8 (n:Int)=(n:Int):=by rw [wrapF_eq,wrap_u8];omega
theorem ad8 {n m:Nat} (h:n=m % 10):wrapF .u8 ((n:Int)+48)=(((UInt8.ofNat (48+m % 10)).toNat:Nat):Int):=by
 subst h;rw [Rf.digit_toNat,wrapF_eq,wrap_u8];omega
theorem rem_8 {a b:Nat} (hb:0 < b):binV .rem (.int .u8 (a:Int)) (.int .u8 (b:Int))=some (.int .u8 ((a % b:Nat):Int)):=by
 rw [b_rem (by omega)];rfl
set_option maxHeartbeats 4000000 in
theorem s211E {p:Nat} {x:Option Blk} {h:Heap} {v:AV} {w:List UInt8} {a:UInt8} {r:List UInt8} {dp:Int} (O:OB p x h v w) (hw:w.length≤1000) (S:DS x (a::r)) (hr:r.length≤30) (d1:-900≤dp) (d2:dp≤900):
  ∃ v' h',Does C 211 [v,.bool false,.sl p 0 32 1 (some 32),.int .i64 dp,.int .i64 ((r.length+1:Nat):Int),.int .i64 (r.length:Int),.int .u8 69,.bool true] h v' h'∧OB p x h' v' (w++Rf.eF a r (dp - 1)):=by
 have hne:decide (((r.length+1:Nat):Int)≠0)=true:=decide_eq_true (by omega)
 have hne2:decide (((r.length+1:Nat):Int)=0)=false:=decide_eq_false (by omega)
 have i0:∀ h,iaSV 1 (.sl p 0 32 1 (some 32)) (.int .i64 0) h=.ok (.ref p 0) h:=fun h=>iaS_sl (k:=.i64) (i:=0) (by decide)
 have ld0:=S.ld (i:=0) (c:=a) O.2.1 rfl
 obtain ⟨k,hk⟩:∃ k,(dp - 1).natAbs=k:=⟨_,rfl⟩
 have hk1000:k < 1000:=by omega
 have hsg:(∃ z:Int,Rf.sgE (dp - 1)=45∧wrapF .i64 (dp - 1)=z∧decide (z < 0)=true∧wrapF .i64 (0 - z)=(k:Int))∨(Rf.sgE (dp - 1)=43∧wrapF .i64 (dp - 1)=(k:Int)∧decide ((k:Int) < 0)=false):=by
  by_cases hn:dp - 1 < 0
  ·exact .inl ⟨dp - 1,if_pos hn,i64_wrap (by omega) (by omega),decide_eq_true hn,by rw [i64_wrap (by omega) (by omega)];omega⟩
  ·exact .inr ⟨if_neg hn,by rw [i64_wrap (by omega) (by omega)];omega,decide_eq_false (by omega)⟩
 have hex:(Rf.exB k=[48,UInt8.ofNat (48+k % 10)]∧k < 10)∨(Rf.exB k=[UInt8.ofNat (48+k / 10 % 10),UInt8.ofNat (48+k % 10)]∧¬ k < 10∧k < 100)∨(Rf.exB k=[UInt8.ofNat (48+k / 100 % 10),UInt8.ofNat (48+k / 10 % 10),UInt8.ofNat (48+k % 10)]∧¬ k < 10∧¬ k < 100):=by
  unfold Rf.exB
  by_cases h1:k < 10
  ·exact .inl ⟨if_pos h1,h1⟩
  ·by_cases h2:k < 100
   ·exact .inr (.inl ⟨by rw [if_neg h1,if_pos h2],h1,h2⟩)
   ·exact .inr (.inr ⟨by rw [if_neg h1,if_neg h2],h1,h2⟩)
 have g1:binV .quo (.int .i64 (k:Int)) (.int .i64 10)=some (.int .i64 ((k / 10:Nat):Int)):=quo_i (b:=10) (by decide) (by omega)
 have g2:binV .quo (.int .i64 (k:Int)) (.int .i64 100)=some (.int .i64 ((k / 100:Nat):Int)):=quo_i (b:=100) (by decide) (by omega)
 have g3:binV .rem (.int .i64 (k:Int)) (.int .i64 10)=some (.int .i64 ((k % 10:Nat):Int)):=rem_i (b:=10) (by decide)
 have g4:binV .rem (.int .u8 ((k / 10:Nat):Int)) (.int .u8 10)=some (.int .u8 ((k / 10 % 10:Nat):Int)):=rem_8 (b:=10) (by decide)
 have g5:=wr8 (n:=k % 10) (by omega)
 have g6:=wr8 (n:=k / 10) (by omega)
 have g7:=wr8 (n:=k / 100) (by omega)
 have g8:=ad8 (n:=k % 10) (m:=k) rfl
 have g9:=ad8 (n:=k / 10 % 10) (m:=k / 10) rfl
 refine (does_anyE (fn:=X211) rfl rfl rfl (args:=[v,.bool false,.sl p 0 32 1 (some 32),.int .i64 dp,.int .i64 ((r.length+1:Nat):Int),.int .i64 (r.length:Int),.int .u8 69,.bool true]) (P:=fun v' h'=>OB p x h' v' (w++Rf.eF a r (dp - 1))) ?_)
 obtain ⟨v1,h1,e1,O1⟩:=app_b O [a] (by simp;omega)
 unfold Rf.eF
 rw [hk]
 cases r with
 |nil=>
  obtain ⟨v2,h2,e2,O2⟩:=app_b O1 [69] (by simp at hr ⊢;omega)
  obtain ⟨v3,h3,e3,O3⟩:=app_b O2 [Rf.sgE (dp - 1)] (by simp at hr ⊢;omega)
  obtain ⟨v4,h4,e4,O4⟩:=app_b O3 (Rf.exB k) (by rcases hex with ⟨hx,q1⟩|⟨hx,q1,q2⟩|⟨hx,q1,q2⟩ <;> rw [hx] <;> simp at hr ⊢ <;> omega)
  have fin:OB p x h4 v4 (w++a::((if ([]:List UInt8)=[] then [] else 46::[])++69::Rf.sgE (dp - 1)::Rf.exB k)):=by
   have:=O4
   simp only [List.append_assoc,List.cons_append,List.nil_append,eq_self_iff_true,if_true] at this ⊢
   exact this
  rcases hsg with ⟨z,s1,s2,s3,s4⟩|⟨s1,s2,s3⟩
  ·rw [s1] at e3
   rcases hex with ⟨hx,q1⟩|⟨hx,q1,q2⟩|⟨hx,q1,q2⟩
   ·rw [hx] at e4
    simp (decide:=true) only [BZ,X211,hne,hne2,i0,ld0,x_b1,x_b2,x_b3,b1_c,b1_45,b1_43,b1_46,b1_48,b1_69,b2_48,b2_c,b3_c,x_app,s2,s3,s4,show decide ((0:Int) < ((([]:List UInt8).length:Nat):Int))=false from rfl,decide_eq_true (show (k:Int) < 10 by omega),wr8 (show k < 256 by omega),ad8 (show k=k % 10 by omega),e1,e2,e3,e4]
    exact ⟨_,rfl,fin⟩
   ·rw [hx] at e4
    simp (decide:=true) only [BZ,X211,hne,hne2,i0,ld0,x_b1,x_b2,x_b3,b1_c,b1_45,b1_43,b1_46,b1_48,b1_69,b2_48,b2_c,b3_c,x_app,s2,s3,s4,show decide ((0:Int) < ((([]:List UInt8).length:Nat):Int))=false from rfl,decide_eq_false (show ¬ (k:Int) < 10 by omega),decide_eq_true (show (k:Int) < 100 by omega),g1,g3,g5,g6,ad8 (show k / 10=k / 10 % 10 by omega),g8,e1,e2,e3,e4]
    exact ⟨_,rfl,fin⟩
   ·rw [hx] at e4
    simp (decide:=true) only [BZ,X211,hne,hne2,i0,ld0,x_b1,x_b2,x_b3,b1_c,b1_45,b1_43,b1_46,b1_48,b1_69,b2_48,b2_c,b3_c,x_app,s2,s3,s4,show decide ((0:Int) < ((([]:List UInt8).length:Nat):Int))=false from rfl,decide_eq_false (show ¬ (k:Int) < 10 by omega),decide_eq_false (show ¬ (k:Int) < 100 by omega),g1,g2,g3,g4,g5,g6,g7,ad8 (show k / 100=k / 100 % 10 by omega),g8,g9,e1,e2,e3,e4]
    exact ⟨_,rfl,fin⟩
  ·rw [s1] at e3
   rcases hex with ⟨hx,q1⟩|⟨hx,q1,q2⟩|⟨hx,q1,q2⟩
   ·rw [hx] at e4
    simp (decide:=true) only [BZ,X211,hne,hne2,i0,ld0,x_b1,x_b2,x_b3,b1_c,b1_45,b1_43,b1_46,b1_48,b1_69,b2_48,b2_c,b3_c,x_app,s2,s3,show decide ((0:Int) < ((([]:List UInt8).length:Nat):Int))=false from rfl,decide_eq_true (show (k:Int) < 10 by omega),wr8 (show k < 256 by omega),ad8 (show k=k % 10 by omega),e1,e2,e3,e4]
    exact ⟨_,rfl,fin⟩
   ·rw [hx] at e4
    simp (decide:=true) only [BZ,X211,hne,hne2,i0,ld0,x_b1,x_b2,x_b3,b1_c,b1_45,b1_43,b1_46,b1_48,b1_69,b2_48,b2_c,b3_c,x_app,s2,s3,show decide ((0:Int) < ((([]:List UInt8).length:Nat):Int))=false from rfl,decide_eq_false (show ¬ (k:Int) < 10 by omega),decide_eq_true (show (k:Int) < 100 by omega),g1,g3,g5,g6,ad8 (show k / 10=k / 10 % 10 by omega),g8,e1,e2,e3,e4]
    exact ⟨_,rfl,fin⟩
   ·rw [hx] at e4
    simp (decide:=true) only [BZ,X211,hne,hne2,i0,ld0,x_b1,x_b2,x_b3,b1_c,b1_45,b1_43,b1_46,b1_48,b1_69,b2_48,b2_c,b3_c,x_app,s2,s3,show decide ((0:Int) < ((([]:List UInt8).length:Nat):Int))=false from rfl,decide_eq_false (show ¬ (k:Int) < 10 by omega),decide_eq_false (show ¬ (k:Int) < 100 by omega),g1,g2,g3,g4,g5,g6,g7,ad8 (show k / 100=k / 100 % 10 by omega),g8,g9,e1,e2,e3,e4]
    exact ⟨_,rfl,fin⟩
 |cons c q=>
  obtain ⟨v2,h2,e2,O2⟩:=app_b O1 [46] (by simp at hr ⊢;omega)
  have hlen:(c::q).length=q.length+1:=rfl
  have hsub:slCells 1 h2 (.sl p 1 ((c::q).length+1 - 1) 1 (some (32 - 1)))=some (byteAVs ((c::q).map UInt8.toNat)):=by
   rw [S.sub O2.2.1 (by simp;omega)]
   simp
  obtain ⟨v3,h3,e3,O3⟩:=app_ob O2 (s:=c::q) (by simp at hr ⊢;omega) hsub rfl
  have y1:=decide_eq_true (show (0:Int) < (((c::q).length:Nat):Int) by rw [hlen];omega)
  have y2:wrapF .i64 ((((c::q).length:Nat):Int)+1)=(((c::q).length+1:Nat):Int):=by rw [i64_wrap (by rw [hlen];omega) (by omega)];rfl
  have y3:min (((c::q).length+1:Nat):Int) (((c::q).length+1:Nat):Int)=(((c::q).length+1:Nat):Int):=Int.min_self _
  have y4:=decide_eq_true (show (1:Int) < (((c::q).length+1:Nat):Int) by rw [hlen];omega)
  have y5:slSlV 1 (.sl p 0 32 1 (some 32)) (some (.int .i64 1)) (some (.int .i64 (((c::q).length+1:Nat):Int))) h2=.ok (.sl p 1 ((c::q).length+1 - 1) 1 (some (32 - 1))) h2:=slSl_lh (a:=1) (by decide) (by omega) (by omega) _
  have y6:wrapF .i64 ((((c::q).length+1:Nat):Int) - (((c::q).length+1:Nat):Int))=0:=by rw [Int.sub_self];rfl
  have y7:decide ((0:Int) < 0)=false:=rfl
  obtain ⟨v4,h4,e4,O4⟩:=app_b O3 [69] (by simp at hr ⊢;omega)
  obtain ⟨v5,h5,e5,O5⟩:=app_b O4 [Rf.sgE (dp - 1)] (by simp at hr ⊢;omega)
  obtain ⟨v6,h6,e6,O6⟩:=app_b O5 (Rf.exB k) (by rcases hex with ⟨hx,q1⟩|⟨hx,q1,q2⟩|⟨hx,q1,q2⟩ <;> rw [hx] <;> simp at hr ⊢ <;> omega)
  have fin:OB p x h6 v6 (w++a::((if c::q=[] then [] else 46::c::q)++69::Rf.sgE (dp - 1)::Rf.exB k)):=by
   have:=O6
   simp only [List.append_assoc,List.cons_append,List.nil_append,if_neg (List.cons_ne_nil c q)] at this ⊢
   exact this
  rcases hsg with ⟨z,s1,s2,s3,s4⟩|⟨s1,s2,s3⟩
  ·rw [s1] at e5
   rcases hex with ⟨hx,q1⟩|⟨hx,q1,q2⟩|⟨hx,q1,q2⟩
   ·rw [hx] at e6
    simp (decide:=true) only [BZ,X211,hne,hne2,i0,ld0,x_b1,x_b2,x_b3,b1_c,b1_45,b1_43,b1_46,b1_48,b1_69,b2_48,b2_c,b3_c,x_app,s2,s3,s4,y1,y2,x_mn,mn2,y3,y4,x_slSl,Option.map_some,y5,y6,y7,e1,e2,e3,e4,e5,e6]
    refine go_lp0 ?_
    simp (decide:=true) only [BZ,hne,hne2,i0,ld0,x_b1,x_b2,x_b3,b1_c,b1_45,b1_43,b1_46,b1_48,b1_69,b2_48,b2_c,b3_c,x_app,s2,s3,s4,y1,y2,x_mn,mn2,y3,y4,x_slSl,Option.map_some,y5,y6,y7,decide_eq_true (show (k:Int) < 10 by omega),wr8 (show k < 256 by omega),ad8 (show k=k % 10 by omega),e1,e2,e3,e4,e5,e6]
    exact ⟨_,rfl,fin⟩
   ·rw [hx] at e6
    simp (decide:=true) only [BZ,X211,hne,hne2,i0,ld0,x_b1,x_b2,x_b3,b1_c,b1_45,b1_43,b1_46,b1_48,b1_69,b2_48,b2_c,b3_c,x_app,s2,s3,s4,y1,y2,x_mn,mn2,y3,y4,x_slSl,Option.map_some,y5,y6,y7,e1,e2,e3,e4,e5,e6]
    refine go_lp0 ?_
    simp (decide:=true) only [BZ,hne,hne2,i0,ld0,x_b1,x_b2,x_b3,b1_c,b1_45,b1_43,b1_46,b1_48,b1_69,b2_48,b2_c,b3_c,x_app,s2,s3,s4,y1,y2,x_mn,mn2,y3,y4,x_slSl,Option.map_some,y5,y6,y7,decide_eq_false (show ¬ (k:Int) < 10 by omega),decide_eq_true (show (k:Int) < 100 by omega),g1,g3,g5,g6,ad8 (show k / 10=k / 10 % 10 by omega),g8,e1,e2,e3,e4,e5,e6]
    exact ⟨_,rfl,fin⟩
   ·rw [hx] at e6
    simp (decide:=true) only [BZ,X211,hne,hne2,i0,ld0,x_b1,x_b2,x_b3,b1_c,b1_45,b1_43,b1_46,b1_48,b1_69,b2_48,b2_c,b3_c,x_app,s2,s3,s4,y1,y2,x_mn,mn2,y3,y4,x_slSl,Option.map_some,y5,y6,y7,e1,e2,e3,e4,e5,e6]
    refine go_lp0 ?_
    simp (decide:=true) only [BZ,hne,hne2,i0,ld0,x_b1,x_b2,x_b3,b1_c,b1_45,b1_43,b1_46,b1_48,b1_69,b2_48,b2_c,b3_c,x_app,s2,s3,s4,y1,y2,x_mn,mn2,y3,y4,x_slSl,Option.map_some,y5,y6,y7,decide_eq_false (show ¬ (k:Int) < 10 by omega),decide_eq_false (show ¬ (k:Int) < 100 by omega),g1,g2,g3,g4,g5,g6,g7,ad8 (show k / 100=k / 100 % 10 by omega),g8,g9,e1,e2,e3,e4,e5,e6]
    exact ⟨_,rfl,fin⟩
  ·rw [s1] at e5
   rcases hex with ⟨hx,q1⟩|⟨hx,q1,q2⟩|⟨hx,q1,q2⟩
   ·rw [hx] at e6
    simp (decide:=true) only [BZ,X211,hne,hne2,i0,ld0,x_b1,x_b2,x_b3,b1_c,b1_45,b1_43,b1_46,b1_48,b1_69,b2_48,b2_c,b3_c,x_app,s2,s3,y1,y2,x_mn,mn2,y3,y4,x_slSl,Option.map_some,y5,y6,y7,e1,e2,e3,e4,e5,e6]
    refine go_lp0 ?_
    simp (decide:=true) only [BZ,hne,hne2,i0,ld0,x_b1,x_b2,x_b3,b1_c,b1_45,b1_43,b1_46,b1_48,b1_69,b2_48,b2_c,b3_c,x_app,s2,s3,y1,y2,x_mn,mn2,y3,y4,x_slSl,Option.map_some,y5,y6,y7,decide_eq_true (show (k:Int) < 10 by omega),wr8 (show k < 256 by omega),ad8 (show k=k % 10 by omega),e1,e2,e3,e4,e5,e6]
    exact ⟨_,rfl,fin⟩
   ·rw [hx] at e6
    simp (decide:=true) only [BZ,X211,hne,hne2,i0,ld0,x_b1,x_b2,x_b3,b1_c,b1_45,b1_43,b1_46,b1_48,b1_69,b2_48,b2_c,b3_c,x_app,s2,s3,y1,y2,x_mn,mn2,y3,y4,x_slSl,Option.map_some,y5,y6,y7,e1,e2,e3,e4,e5,e6]
    refine go_lp0 ?_
    simp (decide:=true) only [BZ,hne,hne2,i0,ld0,x_b1,x_b2,x_b3,b1_c,b1_45,b1_43,b1_46,b1_48,b1_69,b2_48,b2_c,b3_c,x_app,s2,s3,y1,y2,x_mn,mn2,y3,y4,x_slSl,Option.map_some,y5,y6,y7,decide_eq_false (show ¬ (k:Int) < 10 by omega),decide_eq_true (show (k:Int) < 100 by omega),g1,g3,g5,g6,ad8 (show k / 10=k / 10 % 10 by omega),g8,e1,e2,e3,e4,e5,e6]
    exact ⟨_,rfl,fin⟩
   ·rw [hx] at e6
    simp (decide:=true) only [BZ,X211,hne,hne2,i0,ld0,x_b1,x_b2,x_b3,b1_c,b1_45,b1_43,b1_46,b1_48,b1_69,b2_48,b2_c,b3_c,x_app,s2,s3,y1,y2,x_mn,mn2,y3,y4,x_slSl,Option.map_some,y5,y6,y7,e1,e2,e3,e4,e5,e6]
    refine go_lp0 ?_
    simp (decide:=true) only [BZ,hne,hne2,i0,ld0,x_b1,x_b2,x_b3,b1_c,b1_45,b1_43,b1_46,b1_48,b1_69,b2_48,b2_c,b3_c,x_app,s2,s3,y1,y2,x_mn,mn2,y3,y4,x_slSl,Option.map_some,y5,y6,y7,decide_eq_false (show ¬ (k:Int) < 10 by omega),decide_eq_false (show ¬ (k:Int) < 100 by omega),g1,g2,g3,g4,g5,g6,g7,ad8 (show k / 100=k / 100 % 10 by omega),g8,g9,e1,e2,e3,e4,e5,e6]
    exact ⟨_,rfl,fin⟩
end Go.Proofs.YtmadknpaljaecaaGreatDoor.Ev.D
namespace Go.Proofs.YtmadknpaljaecaaGreatDoor.Rf
def zs (n:Nat):List UInt8:=List.replicate n 48
def fI (ds:List UInt8) (dp:Int):List UInt8:=if 0 < dp then ds.take dp.toNat++zs (dp.toNat - ds.length) else [48]
def fZ (dp:Int) (prec:Nat):Nat:=min prec (-dp).toNat
def fK (ds:List UInt8) (dp:Int) (prec:Nat):Nat:=min (prec - fZ dp prec) ((ds.length:Int) - (dp+fZ dp prec)).toNat
def fP (ds:List UInt8) (dp:Int) (prec:Nat):List UInt8:=if prec=0 then [] else 46::(zs (fZ dp prec)++((ds.drop (dp+fZ dp prec).toNat).take (fK ds dp prec)++zs (prec - fZ dp prec - fK ds dp prec)))
def fF (ng:Bool) (ds:List UInt8) (dp:Int) (prec:Nat):List UInt8:=(if ng then [45] else [])++(fI ds dp++fP ds dp prec)
theorem zs_succ (n:Nat):zs (n+1)=zs n++[48]:=List.replicate_succ'
theorem zs_len (n:Nat):(zs n).length=n:=List.length_replicate
end Go.Proofs.YtmadknpaljaecaaGreatDoor.Rf
namespace Go.Proofs.YtmadknpaljaecaaGreatDoor.Ev
open Go
def cT:XCode→XCode|.cond _ a _=>a|c=>c
def cE:XCode→XCode|.cond _ _ b=>b|c=>c
def bB:XCode→XCode|.block _ b=>b|c=>c
end Go.Proofs.YtmadknpaljaecaaGreatDoor.Ev
namespace Go.Proofs.YtmadknpaljaecaaGreatDoor.Ev.D
open Go Go.Proofs.YtmadknpaljaecaaGreatDoor.Ev
set_option maxRecDepth 100000
def F211:XCode:=cT (seqT 1 (cE (seqT 1 (bB (seqT 1 (seqH (seqT 2 X211.body)))))))
theorem ob_step {p:Nat} {x:Option Blk} {h:Heap} {v:AV} {w:List UInt8} {c:UInt8} {i:Nat} {l:List UInt8} (O:OB p x h v (w++l.take i)) (hc:l[i]? =some c) (hw:w.length≤1000000) (hl:l.length≤1000000):
  ∃ v' h',append 5 1 8796093022208 (hB [c] h) v (vB [c] h)=.ok v' h'∧OB p x h' v' (w++l.take (i+1)):=by
 obtain ⟨v1,h1,e1,O1⟩:=app_b O [c] (by simp;omega)
 refine ⟨v1,h1,e1,?_⟩
 rw [List.append_assoc] at O1
 have:l.take (i+1)=l.take i++[c]:=by rw [List.take_succ,hc];rfl
 rw [this];exact O1
theorem ob_z {p:Nat} {x:Option Blk} {h:Heap} {v:AV} {w:List UInt8} {i:Nat} (O:OB p x h v (w++Rf.zs i)) (hw:w.length≤1000000) (hi:i≤1000000):
  ∃ v' h',append 5 1 8796093022208 (hB [48] h) v (vB [48] h)=.ok v' h'∧OB p x h' v' (w++Rf.zs (i+1)):=by
 obtain ⟨v1,h1,e1,O1⟩:=app_b O [48] (by simp [Rf.zs_len];omega)
 refine ⟨v1,h1,e1,?_⟩
 rw [Rf.zs_succ,← List.append_assoc];exact O1
set_option maxHeartbeats 4000000 in
theorem r211C {p m:Nat} {x:Option Blk} {h:Heap} {v:AV} {w ds:List UInt8} {dp:Int} {prec:Nat} (O:OB p x h v w) (S:DS x ds) (hm:ds.length≤m) (hm2:m≤1000) (hw:w.length≤10000) (d1:-5000≤dp) (d2:dp≤5000) (hp:prec≤5000)
  {env:T AV} (a0:env.at 0=v) (a2:env.at 2=.sl p 0 m 1 (some m)) (a3:env.at 3=.int .i64 dp) (a4:env.at 4=.int .i64 (ds.length:Int)) (a5:env.at 5=.int .i64 (prec:Int)) {ks:List K} {Q:PostC}
  (hQ:∀ (env':T AV) h' v',env'.at 16=v'→OB p x h' v' (w++Rf.fP ds dp prec)→Q .ret env' h'):
  CondG C (.bool (decide ((0:Int) < (prec:Int)))) (cT (seqT 1 (seqH (seqT 2 F211)))) .skip (.c (seqT 3 F211)::ks) env h Q:=by
 simp only [F211,X211,seqT,seqH,cT,cE,bB]
 by_cases hp0:prec=0
 ·subst hp0
  simp (decide:=true) only [BZ,show decide ((0:Int) < ((0:Nat):Int))=false from rfl,a0]
  refine hQ _ h v ?_ ?_
  ·simp (decide:=true) only [BZ]
  ·unfold Rf.fP;rw [if_pos rfl,List.append_nil];exact O
 obtain ⟨z,hz⟩:∃ z,Rf.fZ dp prec=z:=⟨_,rfl⟩
 obtain ⟨k,hk⟩:∃ k,Rf.fK ds dp prec=k:=⟨_,rfl⟩
 have hz2:z=min prec (-dp).toNat:=hz.symm
 have hk2:k=min (prec - z) ((ds.length:Int) - (dp+z)).toNat:=by rw [← hk,← hz];rfl
 have hfP:Rf.fP ds dp prec=46::(Rf.zs z++((ds.drop (dp+z).toNat).take k++Rf.zs (prec - z - k))):=by
  unfold Rf.fP;rw [if_neg hp0,hk,hz]
 rw [hfP] at hQ
 clear hz hk hfP
 obtain ⟨r,hr⟩:∃ r,prec - z - k=r:=⟨_,rfl⟩
 rw [hr] at hQ
 obtain ⟨v1,h1,e1,O1⟩:=app_b O [46] (by simp;omega)
 have y0:=decide_eq_true (show (0:Int) < (prec:Int) by omega)
 have y1:wrapF .i64 (0 - dp)=-dp:=by rw [i64_wrap (by omega) (by omega)];omega
 have y2:min (prec:Int) (max 0 (-dp))=(z:Int):=by omega
 have y3:wrapF .i64 (dp+(z:Int))=dp+z:=i64_wrap (by omega) (by omega)
 have y4:wrapF .i64 ((prec:Int) - (z:Int))=((prec - z:Nat):Int):=by rw [i64_wrap (by omega) (by omega)];omega
 have y5:wrapF .i64 ((ds.length:Int) - (dp+z))=(ds.length:Int) - (dp+z):=i64_wrap (by omega) (by omega)
 have y6:min ((prec - z:Nat):Int) (max 0 ((ds.length:Int) - (dp+z)))=(k:Int):=by omega
 have y7:wrapF .i64 (((prec - z:Nat):Int) - (k:Int))=(r:Int):=by rw [i64_wrap (by omega) (by omega)];omega
 have y8:max 0 (r:Int)=(r:Int):=by omega
 have inc:∀ i:Nat,i≤100000→wrapF .i64 ((i:Int)+1)=((i+1:Nat):Int):=fun i hi=>by rw [i64_wrap (by omega) (by omega)];rfl
 simp (decide:=true) only [BZ,y0,x_b1,b1_46,x_app,a0,a2,a3,a4,a5,e1,y1,y2,x_mn,mn2,x_mx,mx2,y3,y4,y5,y6,y7,y8]
 refine go_lp (fun n env h=>∃ i v',n=z - i∧i≤z∧OB p x h v' (w++[46]++Rf.zs i)∧env.at 0=v'∧env.at 2=.sl p 0 m 1 (some m)∧env.at 27=.int .i64 (dp+z)∧env.at 28=.int .i64 (k:Int)∧env.at 29=.int .i64 (r:Int)∧env.at 239=.int .i64 (z:Int)∧env.at 240=.int .i64 (i:Int))
  (fun env h=>∃ v',OB p x h v' (w++[46]++Rf.zs z)∧env.at 0=v'∧env.at 2=.sl p 0 m 1 (some m)∧env.at 27=.int .i64 (dp+z)∧env.at 28=.int .i64 (k:Int)∧env.at 29=.int .i64 (r:Int)) (n:=z) ⟨0,v1,rfl,Nat.zero_le _,?_,?_,?_,?_,?_,?_,?_,?_⟩ ?_ ?_
 ·rw [show Rf.zs 0=[] from rfl,List.append_nil];exact O1
 ·simp (decide:=true) only [BZ]
 ·simp (decide:=true) only [BZ,a2]
 ·simp (decide:=true) only [BZ]
 ·simp (decide:=true) only [BZ]
 ·simp (decide:=true) only [BZ]
 ·simp (decide:=true) only [BZ]
 ·simp (decide:=true) only [BZ]
  all_goals rfl
 ·rintro n env h ⟨i,v',rfl,hi,O',a0,a2,a27,a28,a29,a239,a240⟩
  by_cases hlt:i < z
  ·obtain ⟨v2,h2,e2,O2⟩:=ob_z O' (by simp;omega) (by omega)
   simp (decide:=true) only [BZ,a239,a240,decide_eq_true (show (i:Int) < (z:Int) by omega),a0,x_b1,b1_48,x_app,e2,inc i (by omega)]
   exact ⟨z - (i+1),by omega,i+1,v2,rfl,by omega,O2,rfl,a2,a27,a28,a29,rfl⟩
  ·have:i=z:=by omega
   subst this
   simp (decide:=true) only [BZ,a239,a240,decide_eq_false (show ¬ (i:Int) < (i:Int) by omega)]
   exact ⟨v',O',a0,a2,a27,a28,a29⟩
 rintro env h ⟨v2,O2,a0,a2,a27,a28,a29⟩
 simp (decide:=true) only [BZ,a28]
 refine go_lp (fun n env h=>∃ i v',n=k - i∧i≤k∧OB p x h v' (w++[46]++Rf.zs z++((ds.drop (dp+z).toNat).take k).take i)∧env.at 0=v'∧env.at 2=.sl p 0 m 1 (some m)∧env.at 27=.int .i64 (dp+z)∧env.at 29=.int .i64 (r:Int)∧env.at 246=.int .i64 (k:Int)∧env.at 247=.int .i64 (i:Int))
  (fun env h=>∃ v',OB p x h v' (w++[46]++Rf.zs z++(ds.drop (dp+z).toNat).take k)∧env.at 0=v'∧env.at 29=.int .i64 (r:Int)) (n:=k) ⟨0,v2,rfl,Nat.zero_le _,?_,?_,?_,?_,?_,?_,?_⟩ ?_ ?_
 ·rw [List.take_zero,List.append_nil];exact O2
 ·simp (decide:=true) only [BZ,a0]
 ·simp (decide:=true) only [BZ,a2]
 ·simp (decide:=true) only [BZ,a27]
 ·simp (decide:=true) only [BZ,a29]
 ·simp (decide:=true) only [BZ]
 ·simp (decide:=true) only [BZ]
  all_goals rfl
 ·rintro n env h ⟨i,v',rfl,hi,O',a0,a2,a27,a29,a246,a247⟩
  by_cases hlt:i < k
  ·obtain ⟨s,hs⟩:∃ s:Nat,dp+z=s:=⟨(dp+z).toNat,by omega⟩
   obtain ⟨c,hc⟩:∃ c,ds[s+i]? =some c:=⟨_,List.getElem?_eq_getElem (by omega)⟩
   have hc2:((ds.drop (dp+z).toNat).take k)[i]? =some c:=by
    rw [List.getElem?_take_of_lt hlt,List.getElem?_drop,hs,Int.toNat_natCast];exact hc
   obtain ⟨v3,h3,e3,O3⟩:=ob_step O' hc2 (by simp [Rf.zs_len];omega) (by simp;omega)
   have hld:=S.ld O'.2.1 hc
   have ix:wrapF .i64 (dp+(z:Int)+(i:Int))=((s+i:Nat):Int):=by rw [i64_wrap (by omega) (by omega)];omega
   simp (decide:=true) only [BZ,a246,a247,decide_eq_true (show (i:Int) < (k:Int) by omega),a0,a2,a27,ix,iaS_sl (show s+i < m by omega),Nat.mul_one,hld,x_b1,b1_c,x_app,e3,inc i (by omega)]
   exact ⟨k - (i+1),by omega,i+1,v3,rfl,by omega,O3,rfl,a29,rfl⟩
  ·have:i=k:=by omega
   subst this
   simp (decide:=true) only [BZ,a246,a247,decide_eq_false (show ¬ (i:Int) < (i:Int) by omega)]
   rw [List.take_of_length_le (by simp;omega)] at O'
   exact ⟨v',O',a0,a29⟩
 rintro env h ⟨v3,O3,a0,a29⟩
 simp (decide:=true) only [BZ,a29]
 refine go_lp (fun n env h=>∃ i v',n=r - i∧i≤r∧OB p x h v' (w++[46]++Rf.zs z++(ds.drop (dp+z).toNat).take k++Rf.zs i)∧env.at 0=v'∧env.at 260=.int .i64 (r:Int)∧env.at 261=.int .i64 (i:Int))
  (fun env h=>∃ v',OB p x h v' (w++[46]++Rf.zs z++(ds.drop (dp+z).toNat).take k++Rf.zs r)∧env.at 0=v') (n:=r) ⟨0,v3,rfl,Nat.zero_le _,?_,?_,?_,?_⟩ ?_ ?_
 ·rw [show Rf.zs 0=[] from rfl,List.append_nil];exact O3
 ·simp (decide:=true) only [BZ,a0]
 ·simp (decide:=true) only [BZ]
 ·simp (decide:=true) only [BZ]
  all_goals rfl
 ·rintro n env h ⟨i,v',rfl,hi,O',a0,a260,a261⟩
  by_cases hlt:i < r
  ·obtain ⟨v4,h4,e4,O4⟩:=ob_z O' (by simp [Rf.zs_len];omega) (by omega)
   simp (decide:=true) only [BZ,a260,a261,decide_eq_true (show (i:Int) < (r:Int) by omega),a0,x_b1,b1_48,x_app,e4,inc i (by omega)]
   exact ⟨r - (i+1),by omega,i+1,v4,rfl,by omega,O4,rfl,rfl⟩
  ·have:i=r:=by omega
   subst this
   simp (decide:=true) only [BZ,a260,a261,decide_eq_false (show ¬ (i:Int) < (i:Int) by omega)]
   exact ⟨v',O',a0⟩
 rintro env h ⟨v4,O4,a0⟩
 simp (decide:=true) only [BZ,a0]
 refine hQ _ h v4 ?_ ?_
 ·simp (decide:=true) only [BZ]
 ·simp only [List.append_assoc,List.cons_append,List.nil_append] at O4 ⊢
  exact O4
end Go.Proofs.YtmadknpaljaecaaGreatDoor.Ev.D
namespace Go.Proofs.YtmadknpaljaecaaGreatDoor.Ev.D
open Go Go.Proofs.YtmadknpaljaecaaGreatDoor.Ev
set_option maxRecDepth 100000
set_option maxHeartbeats 4000000 in
theorem r211B {p m:Nat} {x:Option Blk} {h:Heap} {v:AV} {w ds:List UInt8} {dp:Int} {prec:Nat} (O:OB p x h v w) (S:DS x ds) (m0:0 < m) (hm:ds.length≤m) (hm2:m≤1000) (hw:w.length≤10) (d1:-5000≤dp) (d2:dp≤5000) (hp:prec≤5000)
  {env:T AV} (a0:env.at 0=v) (a2:env.at 2=.sl p 0 m 1 (some m)) (a3:env.at 3=.int .i64 dp) (a4:env.at 4=.int .i64 (ds.length:Int)) (a5:env.at 5=.int .i64 (prec:Int)) {ks:List K} {Q:PostC}
  (hQ:∀ (env':T AV) h' v',env'.at 16=v'→OB p x h' v' (w++(Rf.fI ds dp++Rf.fP ds dp prec))→Q .ret env' h'):
  CondG C (.bool (decide ((0:Int) < dp))) (cT (seqT 1 (seqH (seqT 1 F211)))) (cE (seqT 1 (seqH (seqT 1 F211)))) (.c (seqT 2 F211)::ks) env h Q:=by
 have rest:∀ (env:T AV) (h:Heap) (v:AV) (w2:List UInt8),w2=w++Rf.fI ds dp→OB p x h v w2→env.at 0=v→env.at 2=.sl p 0 m 1 (some m)→env.at 3=.int .i64 dp→env.at 4=.int .i64 (ds.length:Int)→env.at 5=.int .i64 (prec:Int)→
   CondG C (.bool (decide ((0:Int) < (prec:Int)))) (cT (seqT 1 (seqH (seqT 2 F211)))) .skip (.c (seqT 3 F211)::ks) env h Q:=by
  rintro env h v w2 rfl O a0 a2 a3 a4 a5
  refine r211C O S hm hm2 ?_ d1 d2 hp a0 a2 a3 a4 a5 fun env' h' v' hv hO=>hQ env' h' v' hv ?_
  ·unfold Rf.fI;split
   ·simp [Rf.zs_len];omega
   ·simp;omega
  ·rw [← List.append_assoc];exact hO
 have inc:∀ i:Nat,i≤100000→wrapF .i64 ((i:Int)+1)=((i+1:Nat):Int):=fun i hi=>by rw [i64_wrap (by omega) (by omega)];rfl
 simp only [F211,X211,seqT,seqH,cT,cE,bB] at rest ⊢
 by_cases hd:0 < dp
 ·obtain ⟨M,hM⟩:∃ M,min ds.length dp.toNat=M:=⟨_,rfl⟩
  obtain ⟨z,hz⟩:∃ z,dp.toNat - ds.length=z:=⟨_,rfl⟩
  have hfI:Rf.fI ds dp=ds.take M++Rf.zs z:=by
   unfold Rf.fI;rw [if_pos hd,hz,← hM]
   congr 1
   rcases Nat.le_total ds.length dp.toNat with h|h
   ·rw [Nat.min_eq_left h,List.take_of_length_le h,List.take_of_length_le (Nat.le_refl _)]
   ·rw [Nat.min_eq_right h]
  have y1:min (ds.length:Int) dp=(M:Int):=by omega
  have y2:wrapF .i64 (dp - (M:Int))=(z:Int):=by rw [i64_wrap (by omega) (by omega)];omega
  simp (decide:=true) only [BZ,decide_eq_true hd,a0,a2,a3,a4,a5,x_mn,mn2,y1,x_slSl,Option.map_none,Option.map_some,slSl_hi (p:=p) (m:=m) (nd:=M) m0 (by omega)]
  refine go_lp (fun n env h=>∃ i v',n=M - i∧i≤M∧OB p x h v' (w++(ds.take M).take i)∧env.at 0=v'∧env.at 2=.sl p 0 m 1 (some m)∧env.at 3=.int .i64 dp∧env.at 4=.int .i64 (ds.length:Int)∧env.at 5=.int .i64 (prec:Int)∧env.at 23=.int .i64 (M:Int)∧env.at 189=.sl p 0 M 1 (some m)∧env.at 190=.int .i64 (M:Int)∧env.at 191=.int .i64 (i:Int))
   (fun env h=>∃ v',OB p x h v' (w++ds.take M)∧env.at 0=v'∧env.at 2=.sl p 0 m 1 (some m)∧env.at 3=.int .i64 dp∧env.at 4=.int .i64 (ds.length:Int)∧env.at 5=.int .i64 (prec:Int)∧env.at 23=.int .i64 (M:Int)) (n:=M) ⟨0,v,rfl,Nat.zero_le _,?_,?_,?_,?_,?_,?_,?_,?_,?_,?_⟩ ?_ ?_
  ·rw [List.take_zero,List.append_nil];exact O
  ·simp (decide:=true) only [BZ,a0]
  ·simp (decide:=true) only [BZ,a2]
  ·simp (decide:=true) only [BZ,a3]
  ·simp (decide:=true) only [BZ,a4]
  ·simp (decide:=true) only [BZ,a5]
  ·simp (decide:=true) only [BZ]
  ·simp (decide:=true) only [BZ]
  ·simp (decide:=true) only [BZ]
  ·simp (decide:=true) only [BZ]
   all_goals rfl
  ·rintro n env h ⟨i,v',rfl,hi,O',a0,a2,a3,a4,a5,a23,a189,a190,a191⟩
   by_cases hlt:i < M
   ·obtain ⟨c,hc⟩:∃ c,ds[i]? =some c:=⟨_,List.getElem?_eq_getElem (by omega)⟩
    have hc2:(ds.take M)[i]? =some c:=by rw [List.getElem?_take_of_lt hlt];exact hc
    obtain ⟨v3,h3,e3,O3⟩:=ob_step O' hc2 (by omega) (by simp;omega)
    have hld:=S.ld O'.2.1 hc
    simp (decide:=true) only [BZ,a189,a190,a191,decide_eq_true (show (i:Int) < (M:Int) by omega),a0,iaS_sl (show i < M by omega),Nat.mul_one,hld,x_b1,b1_c,x_app,e3,inc i (by omega)]
    exact ⟨M - (i+1),by omega,i+1,v3,rfl,by omega,O3,rfl,a2,a3,a4,a5,a23,rfl⟩
   ·have:i=M:=by omega
    subst this
    simp (decide:=true) only [BZ,a190,a191,decide_eq_false (show ¬ (i:Int) < (i:Int) by omega)]
    rw [List.take_of_length_le (by simp;omega)] at O'
    exact ⟨v',O',a0,a2,a3,a4,a5,a23⟩
  rintro env h ⟨v2,O2,a0,a2,a3,a4,a5,a23⟩
  simp (decide:=true) only [BZ,a3,a23,y2]
  refine go_lp (fun n env h=>∃ i v',n=z - i∧i≤z∧OB p x h v' (w++ds.take M++Rf.zs i)∧env.at 0=v'∧env.at 2=.sl p 0 m 1 (some m)∧env.at 3=.int .i64 dp∧env.at 4=.int .i64 (ds.length:Int)∧env.at 5=.int .i64 (prec:Int)∧env.at 202=.int .i64 (z:Int)∧env.at 203=.int .i64 (i:Int))
   (fun env h=>∃ v',OB p x h v' (w++ds.take M++Rf.zs z)∧env.at 0=v'∧env.at 2=.sl p 0 m 1 (some m)∧env.at 3=.int .i64 dp∧env.at 4=.int .i64 (ds.length:Int)∧env.at 5=.int .i64 (prec:Int)) (n:=z) ⟨0,v2,rfl,Nat.zero_le _,?_,?_,?_,?_,?_,?_,?_,?_⟩ ?_ ?_
  ·rw [show Rf.zs 0=[] from rfl,List.append_nil];exact O2
  ·simp (decide:=true) only [BZ,a0]
  ·simp (decide:=true) only [BZ,a2]
  ·simp (decide:=true) only [BZ,a3]
  ·simp (decide:=true) only [BZ,a4]
  ·simp (decide:=true) only [BZ,a5]
  ·simp (decide:=true) only [BZ]
  ·simp (decide:=true) only [BZ]
   all_goals rfl
  ·rintro n env h ⟨i,v',rfl,hi,O',a0,a2,a3,a4,a5,a202,a203⟩
   by_cases hlt:i < z
   ·obtain ⟨v4,h4,e4,O4⟩:=ob_z O' (by simp;omega) (by omega)
    simp (decide:=true) only [BZ,a202,a203,decide_eq_true (show (i:Int) < (z:Int) by omega),a0,x_b1,b1_48,x_app,e4,inc i (by omega)]
    exact ⟨z - (i+1),by omega,i+1,v4,rfl,by omega,O4,rfl,a2,a3,a4,a5,rfl⟩
   ·have:i=z:=by omega
    subst this
    simp (decide:=true) only [BZ,a202,a203,decide_eq_false (show ¬ (i:Int) < (i:Int) by omega)]
    exact ⟨v',O',a0,a2,a3,a4,a5⟩
  rintro env h ⟨v3,O3,a0,a2,a3,a4,a5⟩
  simp (decide:=true) only [BZ,a5]
  refine rest _ h v3 _ (by rw [hfI,List.append_assoc]) O3 ?_ ?_ ?_ ?_ ?_
  ·simp (decide:=true) only [BZ,a0]
  ·simp (decide:=true) only [BZ,a2]
  ·simp (decide:=true) only [BZ,a3]
  ·simp (decide:=true) only [BZ,a4]
  ·simp (decide:=true) only [BZ,a5]
 ·obtain ⟨v1,h1,e1,O1⟩:=app_b O [48] (by simp;omega)
  simp (decide:=true) only [BZ,decide_eq_false hd,a0,a5,x_b1,b1_48,x_app,e1]
  refine rest _ h1 v1 _ (by unfold Rf.fI;rw [if_neg hd]) O1 ?_ ?_ ?_ ?_ ?_
  ·simp (decide:=true) only [BZ]
  ·simp (decide:=true) only [BZ,a2]
  ·simp (decide:=true) only [BZ,a3]
  ·simp (decide:=true) only [BZ,a4]
  ·simp (decide:=true) only [BZ,a5]
theorem s211F {p m:Nat} {x:Option Blk} {h:Heap} {v:AV} {ds:List UInt8} {dp:Int} {prec:Nat} {ng sh:Bool} (O:OB p x h v []) (S:DS x ds) (m0:0 < m) (hm:ds.length≤m) (hm2:m≤1000) (d1:-5000≤dp) (d2:dp≤5000) (hp:prec≤5000):
  ∃ v' h',Does C 211 [v,.bool ng,.sl p 0 m 1 (some m),.int .i64 dp,.int .i64 (ds.length:Int),.int .i64 (prec:Int),.int .u8 102,.bool sh] h v' h'∧OB p x h' v' (Rf.fF ng ds dp prec):=by
 refine (does_anyE (fn:=X211) rfl rfl rfl (args:=[v,.bool ng,.sl p 0 m 1 (some m),.int .i64 dp,.int .i64 (ds.length:Int),.int .i64 (prec:Int),.int .u8 102,.bool sh]) (P:=fun v' h'=>OB p x h' v' (Rf.fF ng ds dp prec)) ?_)
 have fin:∀ (env:T AV) (h:Heap) (v:AV) (ks:List K),OB p x h v (if ng then [45] else [])→env.at 0=v→env.at 2=.sl p 0 m 1 (some m)→env.at 3=.int .i64 dp→env.at 4=.int .i64 (ds.length:Int)→env.at 5=.int .i64 (prec:Int)→
   CondG C (.bool (decide ((0:Int) < dp))) (cT (seqT 1 (seqH (seqT 1 F211)))) (cE (seqT 1 (seqH (seqT 1 F211)))) (.c (seqT 2 F211)::ks) env h (fun e env h2=>∃ v,Back [.tmp 16] false v e env h2∧OB p x h2 v (Rf.fF ng ds dp prec)):=fun env h v ks O a0 a2 a3 a4 a5=>
  r211B O S m0 hm hm2 (by split <;> simp) d1 d2 hp a0 a2 a3 a4 a5 fun env' h' v' hv hO=>⟨v',back1f.2 hv,hO⟩
 simp only [F211,X211,seqT,seqH,cT,cE,bB] at fin ⊢
 cases ng with
 |true=>
  obtain ⟨v1,h1,e1,O1⟩:=app_b O [45] (by simp)
  simp (decide:=true) only [BZ,x_b1,b1_45,x_app,e1]
  refine fin _ h1 v1 _ O1 ?_ ?_ ?_ ?_ ?_
  ·simp (decide:=true) only [BZ]
  ·simp (decide:=true) only [BZ]
  ·simp (decide:=true) only [BZ]
  ·simp (decide:=true) only [BZ]
  ·simp (decide:=true) only [BZ]
 |false=>
  simp (decide:=true) only [BZ]
  refine fin _ h v _ O ?_ ?_ ?_ ?_ ?_
  ·simp (decide:=true) only [BZ]
  ·simp (decide:=true) only [BZ]
  ·simp (decide:=true) only [BZ]
  ·simp (decide:=true) only [BZ]
  ·simp (decide:=true) only [BZ]
end Go.Proofs.YtmadknpaljaecaaGreatDoor.Ev.D
namespace Go.Proofs.YtmadknpaljaecaaGreatDoor.Us
open Fl
theorem she_bnd {b:Nat} (hb:b < inf):-325≤she b∧she b≤293:=by
 have F:=shF hb
 have f1:=F.p1;have f2:=F.p2
 cases h:shR b with
 |true=>rw [she_t h];generalize shp b=p at*;omega
 |false=>rw [she_f h];generalize shp b=p at*;omega
theorem sh_facts {b:Nat} (hb0:0 < b) (hb:b < inf):∃ (d:Nat) (e:Int),shd b=d∧she b=e∧0 < d∧d < 100000000000000000∧-325≤e∧e≤293∧Near (nn d e) (mm e) b:=
 ⟨_,_,rfl,rfl,shd_pos hb0 hb,shd_lt hb0 hb,(she_bnd hb).1,(she_bnd hb).2,shd_near hb0 hb⟩
structure ShT (b D nd:Nat) (q:Int):Prop where
 one:1≤nd
 le:nd≤17
 lo:10 ^ (nd - 1)≤D
 hi:D < 10 ^ nd
 last:D % 10≠0
 near:Near (nn D q) (mm q) b
 q1:-325≤q
 q2:q≤310
 e1:-324≤(nd:Int)+q
 e2:(nd:Int)+q≤310
theorem sh_len {d:Nat} (d0:0 < d) (d17:d < 100000000000000000):∃ nd,1≤nd∧nd≤17∧10 ^ (nd - 1)≤d∧d < 10 ^ nd:=by
 obtain ⟨nd,h⟩:∃ n,(Rf.dec d).length=n:=⟨_,rfl⟩
 have hi:d < 10 ^ nd:=Rf.dec_len_iff.1 (by omega)
 have n17:nd≤17:=by rw [← h];exact Rf.dec_len_iff.2 (by exact d17)
 have n1:1≤nd:=by
  rcases Nat.eq_zero_or_pos nd with h|h
  ·rw [h,Nat.pow_zero] at hi;omega
  ·exact h
 refine ⟨nd,n1,n17,?_,hi⟩
 rcases Nat.lt_or_ge d (10 ^ (nd - 1)) with h2|h2
 ·have:=Rf.dec_len_iff.2 h2;omega
 ·exact h2
theorem near_cutz {b d D z:Nat} {e:Int} (hD:d=D*10 ^ z) (H:Near (nn d e) (mm e) b):Near (nn D (e+z)) (mm (e+z)) b:=by
 have h2:=Rf.nn_shift D z (e+z)
 rw [show e+(z:Int) - (z:Int)=e by omega,← hD] at h2
 exact Rf.near_ratio (mm_pos _) (mm_pos _) h2 H
end Go.Proofs.YtmadknpaljaecaaGreatDoor.Us
namespace Go.Proofs.YtmadknpaljaecaaGreatDoor.Ev.D
open Go Go.Proofs.YtmadknpaljaecaaGreatDoor.Ev
set_option maxRecDepth 100000
def H24:Heap:=Heap.empty.new (.cells 24 (.int .u8 0) .nil 5 false)
def H25:Heap:=H24.new (.cells 32 (.int .u8 0) (setL [] .nil) 199 false)
theorem slA_all {m p:Nat} (hm:0 < m) {call:CallT} {ρ:XO→AV} {h:Heap} {x:XO} (hx:ρ x=.ref p 0):xop call ρ h (.q (.slA m 1 x none none))=.ok (.sl p 0 m 1 (some m)) h:=by
 show o_slA ρ h m 1 x none none=_
 unfold o_slA
 simp only [hx,Option.map_none,bounds_no]
 have:Nat.beq 0 m=false:=by
  cases hb:Nat.beq 0 m with
  |false=>rfl
  |true=>have:=Nat.eq_of_beq_eq_true hb;omega
 rw [this];simp only [cond_false,Nat.zero_mul,Nat.add_zero,Nat.sub_zero]
def slAV (m s:Nat) (v:AV) (lo hi:Option AV) (h:Heap):OpR:=match v with
 |.ref b off=>(match bounds m m lo hi with
  |some (l,u)=>.ok (.sl b (bif Nat.beq l m then off else off+l*s) (u - l) s (some (m - l))) h
  |none=>.no 33)
 |.iptr w cs=>(match bounds m m lo hi with
  |some (l,u)=>bif Nat.beq l m then .ok (.isl w 0 []) h else .ok (.isl w (u - l) (cs.drop (l*s))) h
  |none=>.no 34)
 |_=>.no 35
theorem x_slA {call:CallT} {ρ:XO→AV} {h:Heap} {m s:Nat} {x:XO} {lo hi:Option XO}:xop call ρ h (.q (.slA m s x lo hi))=slAV m s (ρ x) (lo.map ρ) (hi.map ρ) h:=by
 show o_slA ρ h m s x lo hi=_
 unfold o_slA slAV;rfl
theorem slAV_32 {p:Nat} {h:Heap}:slAV 32 1 (.ref p 0) none none h=.ok (.sl p 0 32 1 (some 32)) h:=rfl
theorem len_fr {h0 h:Heap} {p:Nat} (F:Fr h0 h p):h.next=h0.next:=F.1
theorem bits_parts {b:Nat} (hb0:0 < b) (hb:b < Fl.inf):(b / 4503599627370496=0∧Fl.mant b=b % 4503599627370496∧Fl.ex b=0)∨(0 < b / 4503599627370496∧b / 4503599627370496 < 2047∧Fl.mant b=b % 4503599627370496+4503599627370496∧Fl.ex b+1=b / 4503599627370496):=by
 unfold Fl.mant Fl.ex
 unfold Fl.inf at hb
 by_cases h:b < 4503599627370496
 ·left;rw [if_pos h,if_pos h];omega
 ·right;rw [if_neg h,if_neg h];omega
theorem or52 {a:Nat} (h:a < 4503599627370496):orF .u64 (a:Int) 4503599627370496=((a+4503599627370496:Nat):Int):=by
 have h1:=or_u64 (a:=a) (b:=4503599627370496) (by omega) (by decide)
 rw [show ((4503599627370496:Nat):Int)=4503599627370496 from rfl] at h1
 rw [h1]
 congr 1
 have:=Nat.two_pow_add_eq_or_of_lt (i:=52) (b:=a) (by omega) 1
 rw [Nat.mul_one,show (2:Nat) ^ 52=4503599627370496 from rfl] at this
 rw [Nat.or_comm,← this];omega
theorem and52 {a:Nat} (h:a < 18446744073709551616):andF .u64 (a:Int) 4503599627370495=((a % 4503599627370496:Nat):Int):=by
 have h1:=and_u64 (a:=a) (b:=4503599627370495) h (by decide)
 rw [show ((4503599627370495:Nat):Int)=4503599627370495 from rfl] at h1
 rw [h1]
 congr 1
 exact Nat.and_two_pow_sub_one_eq_mod a 52
set_option maxHeartbeats 4000000 in
theorem s166 {b:Nat} (hb0:0 < b) (hb:b < Fl.inf):∃ (D nd:Nat) (q:Int),Us.ShT b D nd q∧(∃ v h' x,Does C 166 [.sl 0 0 0 1 (some 24),.float .f64 b,.int .u8 69,.int .i64 (-1)] H24 v h'∧∃ a r,Rf.dec D=a::r∧OB 1 x h' v (Rf.eF a r ((nd:Int)+q - 1)))
  ∧(∃ v h' x,Does C 166 [.sl 0 0 0 1 (some 24),.float .f64 b,.int .u8 102,.int .i64 (-1)] H24 v h'∧OB 1 x h' v (Rf.fF false (Rf.dec D) ((nd:Int)+q) ((nd:Int) - ((nd:Int)+q)).toNat)):=by
 have hbi:=hb
 unfold Fl.inf at hbi
 have hm0:=Us.mant_pos hb0
 have hml:=@Fl.mant_lt b
 have hex:=Us.ex_lt hb
 obtain ⟨L1,L2,L3,L4⟩:=Us.log_facts hm0 (Nat.lt_trans hml (by decide))
 have hl8:=len8_eq hm0
 have c212:=fun h=>s212 (x:=Fl.mant b) (by omega) h
 rw [hl8] at c212
 obtain ⟨s,hs⟩:∃ s,64 - (Fl.mant b).log2.succ=s:=⟨_,rfl⟩
 have L2':2 ^ 63≤Fl.mant b*2 ^ s:=by rw [← hs];exact L2
 have L3':Fl.mant b*2 ^ s < 2 ^ 64:=by rw [← hs];exact L3
 have hs63:s≤63:=by rw [← hs];omega
 have c221:=fun h=>s221 hb0 hb hs63 L2' L3' h
 obtain ⟨d,e,hd,he,d0,d17,q1,q2,near⟩:=Us.sh_facts hb0 hb
 rw [hd,he] at c221
 clear hd he
 obtain ⟨nd0,n1,n17,lo0,hi0⟩:=Us.sh_len d0 d17
 have c215:=fun h=>s215 (d:=d) (nd:=nd0) lo0 hi0 n1 (by omega) h
 have hl25:H25.len 1=32:=rfl
 obtain ⟨h3,nd,D,z,c214,hz,hD,G,hl3,Fr3⟩:=s214 (h0:=H25) (p:=1) (d:=d) (nd:=nd0) (e:=e) (by rw [hl25];decide) lo0 hi0 n1 (by omega) (by omega) (by omega)
 obtain ⟨S,hdl⟩:=G.ds (n:=32) (by rw [hl3,hl25]) (by omega)
 have hn1:=G.one
 have T:Us.ShT b D nd (e+z):=⟨hn1,by omega,G.lo,G.hi,G.last,Us.near_cutz hD near,by omega,by omega,by omega,by omega⟩
 have O0:OB 1 (h3.get 1) h3 (.sl 0 0 0 1 (some 24)) []:=by
  refine ⟨by rw [Fr3.1];decide,rfl,0,24,.int .u8 0,.nil,5,false,by decide,?_,by rw [Fr3.1];decide,rfl,Nat.zero_le _,.inl rfl⟩
  rw [Fr3.2 0 (by decide)];rfl
 refine ⟨D,nd,e+z,T,?_⟩
 obtain ⟨dp,hdpe⟩:∃ dp,(nd0:Int)+e=dp:=⟨_,rfl⟩
 have hdp:(nd:Int)+(e+z)=dp:=by omega
 rw [hdp]
 rw [hdpe] at c214
 have hdp1:-400≤dp∧dp≤400:=by omega
 clear T near hD
 have e63:wrapF .i64 (11+52)=((63:Nat):Int):=rfl
 have sh63:binV .shr (.int .u64 (b:Int)) (.int .i64 ((63:Nat):Int))=some (.int .u64 0):=by
  rw [b_shrn (n:=63) (by decide),show b / 2 ^ 63=0 from Nat.div_eq_of_lt (by have:(2:Nat) ^ 63=9223372036854775808:=rfl;omega)];rfl
 have w52:wrapF .i64 ((b / 4503599627370496:Nat):Int)=((b / 4503599627370496:Nat):Int):=i64_wrap (by omega) (by omega)
 have sh11:binV .shl (.int .i64 1) (.int .i64 11)=some (.int .i64 2048):=rfl
 have w2047:wrapF .i64 (2048 - 1)=2047:=rfl
 have a2047:=and_i64_2047 (n:=b / 4503599627370496) (by omega)
 have sh52:binV .shl (.int .u64 1) (.int .i64 52)=some (.int .u64 4503599627370496):=rfl
 have w51:wrapF .u64 (4503599627370496 - 1)=4503599627370495:=rfl
 have am:=and52 (a:=b) (by omega)
 have e2047:=decide_eq_false (show ¬ ((b / 4503599627370496:Nat):Int)=2047 by omega)
 have q64:wrapF .i64 (64 - (((Fl.mant b).log2+1:Nat):Int))=(s:Int):=by rw [i64_wrap (by omega) (by omega)];omega
 have shs:=b_shln (k':=.i64) (a:=Fl.mant b) (n:=s) (by omega) L3'
 have hmne:=decide_eq_false (show ¬ ((Fl.mant b:Nat):Int)=0 by omega)
 have hE:Us.shE b=(Fl.ex b:Int) - 1074:=rfl
 rw [hE] at c221
 have we1:wrapF .i64 (((Fl.ex b+1:Nat):Int)+-1023)=(Fl.ex b:Int) - 1022:=by rw [i64_wrap (by omega) (by omega)];omega
 have we2:wrapF .i64 ((Fl.ex b:Int) - 1022 - (s:Int))=(Fl.ex b:Int) - 1022 - s:=i64_wrap (by omega) (by omega)
 have we3:wrapF .i64 ((Fl.ex b:Int) - 1022 - (s:Int) - 52)=(Fl.ex b:Int) - 1074 - s:=by rw [i64_wrap (by omega) (by omega)];omega
 have hnx:H24.next=1:=rfl
 have hnew:H24.new (.cells 32 (.int .u8 0) (setL [] .nil) 199 false)=H25:=rfl
 have neg1:decide ((-1:Int) < 0)=true:=rfl
 have go:∀ (fmt:Nat) (pr:Int) (P:AV→Heap→Prop),(fmt=69∧pr=(nd:Int) - 1)∨(fmt=102∧pr=max ((nd:Int) - dp) 0)→(∃ v h',Does C 211 [.sl 0 0 0 1 (some 24),.bool false,.sl 1 0 32 1 (some 32),.int .i64 dp,.int .i64 (nd:Int),.int .i64 pr,.int .u8 (fmt:Int),.bool true] h3 v h'∧P v h')→
   ∃ v h',Does C 166 [.sl 0 0 0 1 (some 24),.float .f64 b,.int .u8 (fmt:Int),.int .i64 (-1)] H24 v h'∧P v h':=by
  rintro fmt pr P hf ⟨v,h',hd,hP⟩
  refine ⟨v,h',?_,hP⟩
  refine does_any (fn:=X166) rfl rfl rfl ?_
  have wf1:wrapF .i64 ((nd:Int) - 1)=(nd:Int) - 1:=i64_wrap (by omega) (by omega)
  have wf2:wrapF .i64 ((nd:Int) - dp)=(nd:Int) - dp:=i64_wrap (by omega) (by omega)
  have wf3:max ((nd:Int) - 1) 0=(nd:Int) - 1:=by omega
  have wdp:wrapF .i64 ((nd:Int) - dp)=(nd:Int) - dp:=i64_wrap (by omega) (by omega)
  have fE:decide ((fmt:Int)=98)=false∧decide ((fmt:Int)=120)=false∧decide ((fmt:Int)=88)=false:=by
   rcases hf with ⟨rfl,_⟩|⟨rfl,_⟩ <;> exact ⟨rfl,rfl,rfl⟩
  obtain ⟨fE1,fE2,fE3⟩:=fE
  have tail:∀ (E:Int) (env:T AV),E=(Fl.ex b:Int) - 1022→env.at 0=.sl 0 0 0 1 (some 24)→env.at 2=.int .u8 (fmt:Int)→env.at 3=.int .i64 (-1)→env.at 11=.int .i64 52→env.at 13=.bool false→env.at 14=.int .i64 E→env.at 15=.int .u64 ((Fl.mant b:Nat):Int)→
    GoP C [.c (seqT 10 X166.body)] env H24 (fun e env h2=>Back [.tmp 8] false v e env h2∧h2=h'):=by
   rintro E env rfl a0 a2 a3 a11 a13 a14 a15
   simp only [X166,seqT]
   simp (decide:=true) only [BZ,a0,a2,a3,a11,a13,a14,a15,fE1,fE2,fE3,hmne,neg1,hnx,hnew,callG_of (c212 _),q64,shs,we2,we3,callG_of (c221 _)]
   refine go_drawW rfl ?_
   simp only [List.map_cons,List.map_nil]
   rcases hf with ⟨rfl,rfl⟩|⟨rfl,rfl⟩
   ·have a2':env.at 2=.int .u8 69:=a2
    have hd':Does C 211 [.sl 0 0 0 1 (some 24),.bool false,.sl 1 0 32 1 (some 32),.int .i64 dp,.int .i64 (nd:Int),.int .i64 ((nd:Int) - 1),.int .u8 69,.bool true] h3 v h':=hd
    simp (decide:=true) only [BZ,a0,a2',a3,a13,x_slA,Option.map_none,slAV_32,callG_of (c215 _),callG_of c214,x_mx,mx2,wf1,wf3,callG_of hd']
   ·have a2':env.at 2=.int .u8 102:=a2
    have hd':Does C 211 [.sl 0 0 0 1 (some 24),.bool false,.sl 1 0 32 1 (some 32),.int .i64 dp,.int .i64 (nd:Int),.int .i64 (max ((nd:Int) - dp) 0),.int .u8 102,.bool true] h3 v h':=hd
    simp (decide:=true) only [BZ,a0,a2',a3,a13,x_slA,Option.map_none,slAV_32,callG_of (c215 _),callG_of c214,x_mx,mx2,wdp,callG_of hd']
  rw [show X166.body=.seq (seqH X166.body) (.seq (seqH (seqT 1 X166.body)) (.seq (seqH (seqT 2 X166.body)) (.seq (seqH (seqT 3 X166.body)) (.seq (seqH (seqT 4 X166.body)) (.seq (seqH (seqT 5 X166.body)) (.seq (seqH (seqT 6 X166.body)) (.seq (seqH (seqT 7 X166.body)) (.seq (seqH (seqT 8 X166.body)) (.seq (seqH (seqT 9 X166.body)) (seqT 10 X166.body)))))))))) from rfl]
  generalize hR:seqT 10 X166.body=R at tail ⊢
  simp only [X166,seqT,seqH]
  rcases bits_parts hb0 hb with ⟨p1,p2,p3⟩|⟨p1,p2,p3,p4⟩
  ·have v0:=decide_eq_true (show ((b / 4503599627370496:Nat):Int)=0 by omega)
   have v1:wrapF .i64 (((b / 4503599627370496:Nat):Int)+1)=1:=by rw [p1];rfl
   have v2:wrapF .i64 (1+-1023)=(Fl.ex b:Int) - 1022:=by rw [p3];rfl
   simp (decide:=true) only [BZ,x_fbits,fbV_f,e63,sh63]
   refine go_draw rfl ?_
   simp only [List.map_cons,List.map_nil]
   simp (decide:=true) only [BZ,b_shr52,w52,sh11,w2047,a2047,sh52,w51,am,e2047,v0,v1,v2]
   refine tail _ _ rfl ?_ ?_ ?_ ?_ ?_ ?_ ?_ <;> simp (decide:=true) only [BZ,p2]
  ·have v0:=decide_eq_false (show ¬ ((b / 4503599627370496:Nat):Int)=0 by omega)
   have v2:wrapF .i64 (((b / 4503599627370496:Nat):Int)+-1023)=(Fl.ex b:Int) - 1022:=by rw [i64_wrap (by omega) (by omega)];omega
   have v3:=or52 (a:=b % 4503599627370496) (by omega)
   rw [← p3] at v3
   simp (decide:=true) only [BZ,x_fbits,fbV_f,e63,sh63]
   refine go_draw rfl ?_
   simp only [List.map_cons,List.map_nil]
   simp (decide:=true) only [BZ,b_shr52,w52,sh11,w2047,a2047,sh52,w51,am,e2047,v0,v2,v3]
   refine tail _ _ rfl ?_ ?_ ?_ ?_ ?_ ?_ ?_ <;> simp (decide:=true) only [BZ]
 have hne:Rf.dec D≠[]:=fun h=>by rw [h] at hdl;simp at hdl;omega
 obtain ⟨a,r,har⟩:=List.exists_cons_of_ne_nil hne
 refine ⟨?_,?_⟩
 ·rw [har] at S hdl
  have hr1:nd=r.length+1:=by rw [← hdl];rfl
  obtain ⟨v,h',hd,hO⟩:=s211E (dp:=dp) O0 (by decide) S (by omega) (by omega) (by omega)
  rw [List.nil_append] at hO
  rw [show ((r.length+1:Nat):Int)=(nd:Int) by omega,show ((r.length:Nat):Int)=(nd:Int) - 1 by omega] at hd
  obtain ⟨v2,h2,hd2,hO2⟩:=go 69 ((nd:Int) - 1) (fun v h'=>OB 1 (h3.get 1) h' v (Rf.eF a r (dp - 1))) (.inl ⟨rfl,rfl⟩) ⟨v,h',hd,hO⟩
  exact ⟨v2,h2,h3.get 1,hd2,a,r,har,hO2⟩
 ·obtain ⟨v,h',hd,hO⟩:=s211F (m:=32) (dp:=dp) (prec:=((nd:Int) - dp).toNat) (ng:=false) (sh:=true) O0 S (by decide) (by omega) (by decide) (by omega) (by omega) (by omega)
  rw [hdl,show ((((nd:Int) - dp).toNat:Nat):Int)=max ((nd:Int) - dp) 0 by omega] at hd
  obtain ⟨v2,h2,hd2,hO2⟩:=go 102 (max ((nd:Int) - dp) 0) (fun v h'=>OB 1 (h3.get 1) h' v (Rf.fF false (Rf.dec D) dp ((nd:Int) - dp).toNat)) (.inr ⟨rfl,rfl⟩) ⟨v,h',hd,hO⟩
  exact ⟨v2,h2,h3.get 1,hd2,hO2⟩
end Go.Proofs.YtmadknpaljaecaaGreatDoor.Ev.D
namespace Go.Proofs.YtmadknpaljaecaaGreatDoor.Ev.D
open Go Go.Proofs.YtmadknpaljaecaaGreatDoor.Ev
set_option maxRecDepth 100000
theorem mk24:mkslV 5 8796093022208 (.int .u8 0) (.int .i64 0) (.int .i64 24) .empty=.ok (.sl 0 0 0 1 (some 24)) H24:=rfl
theorem s109 {b fmt:Nat} {v:AV} {h':Heap} {x:Option Blk} {w:List UInt8} (hd:Does C 166 [.sl 0 0 0 1 (some 24),.float .f64 b,.int .u8 (fmt:Int),.int .i64 (-1)] H24 v h') (O:OB 1 x h' v w) (h:Heap):
  Does C 109 [.float .f64 b,.int .u8 (fmt:Int),.int .i64 (-1),.int .i64 64] h (.str (BStr.ofBytes w)) h:=by
 refine does_pure (fn:=X109) rfl rfl rfl (mapO_cons conv_float (mapO_cons conv_int (mapO_cons conv_int (mapO_cons conv_int mapO_nil)))) ?_
 have w1:wrapF .i64 (-1+4)=3:=rfl
 have w2:max (3:Int) 24=24:=rfl
 simp (decide:=true) only [BZ,X109,w1,x_mx,mx2,w2,x_mksl1,mk24,callG_of hd,x_cvBS,ob_cvBS O]
theorem s59 {b fmt:Nat} {v:AV} {h':Heap} {x:Option Blk} {w:List UInt8} (hd:Does C 166 [.sl 0 0 0 1 (some 24),.float .f64 b,.int .u8 (fmt:Int),.int .i64 (-1)] H24 v h') (O:OB 1 x h' v w) (h:Heap):
  Does C 59 [.float .f64 b,.int .u8 (fmt:Int),.int .i64 (-1),.int .i64 64] h (.str (BStr.ofBytes w)) h:=by
 refine does_pure (fn:=X59) rfl rfl rfl (mapO_cons conv_float (mapO_cons conv_int (mapO_cons conv_int (mapO_cons conv_int mapO_nil)))) ?_
 simp (decide:=true) only [BZ,X59,callG_of (s109 hd O _)]
theorem s39 {l:List UInt8} {c:UInt8} (h:Heap):Does C 39 [.str (BStr.ofBytes l),.str (BStr.ofBytes [c])] h (.int .i64 (if Rf.bIx c l < l.length then ((Rf.bIx c l:Nat):Int) else -1)) h:=by
 refine does_pure (fn:=X39) rfl rfl rfl (mapO_cons conv_str (mapO_cons conv_str mapO_nil)) ?_
 simp (decide:=true) only [BZ,X39,callG_of (s95 _)]
theorem s60 {l:List UInt8} {c:UInt8} (h:Heap):Does C 60 [.str (BStr.ofBytes l),.str (BStr.ofBytes [c])] h (.bool (decide (Rf.bIx c l < l.length))) h:=by
 refine does_pure (fn:=X60) rfl rfl rfl (mapO_cons conv_str (mapO_cons conv_str mapO_nil)) ?_
 by_cases hb:Rf.bIx c l < l.length
 ·have c39:=fun h=>s39 (l:=l) (c:=c) h
  rw [if_pos hb] at c39
  simp (decide:=true) only [BZ,X60,callG_of (c39 _),decide_eq_true hb,decide_eq_true (show (0:Int)≤((Rf.bIx c l:Nat):Int) by omega)]
 ·have c39:=fun h=>s39 (l:=l) (c:=c) h
  rw [if_neg hb] at c39
  simp (decide:=true) only [BZ,X60,callG_of (c39 _),decide_eq_false hb,show decide ((0:Int)≤-1)=false from rfl]
end Go.Proofs.YtmadknpaljaecaaGreatDoor.Ev.D
namespace Go.Proofs.YtmadknpaljaecaaGreatDoor.Ev
open Go
theorem does_heapA {C:Ctx} {f:Nat} {fn:XFn} (hs:C.sum f=none) (hf:C.fns f=some fn) (hp:fn.pure=true) {args args':List AV} {v:AV} (ha:∀ h,mapO (conv true h depth) args=some args') (hd:Does C f args .empty v .empty) (h:Heap):Does C f args h v h:=by
 obtain ⟨n,hn⟩:=hd
 refine ⟨n,?_⟩
 simp only [callFn,hs,callB,hf,hp,ha] at hn ⊢
 split at hn
 ·split at hn
  ·split at hn
   ·cases hn
   ·split at hn
    ·cases hn
    ·cases hn;simp_all
  ·split at hn
   ·cases hn
   ·split at hn
    ·cases hn
    ·cases hn;simp_all
  ·split at hn <;> cases hn
  ·cases hn
 ·cases hn
def isVal (o:OpR) (v:AV):Bool:=match o with|.ok w ⟨.nil,0⟩=>avEq depth w v|_=>false
theorem isVal_eq {o:OpR} {v:AV} (h:isVal o v=true):o=.ok v .empty:=by
 unfold isVal at h
 split at h
 ·rw [avEq_sound _ _ _ h];rfl
 ·cases h
theorem does_val {C:Ctx} {f:Nat} {fn:XFn} (hs:C.sum f=none) (hf:C.fns f=some fn) (hp:fn.pure=true) {args args':List AV} {v:AV} (ha:∀ h,mapO (conv true h depth) args=some args') {n:Nat}
  (hk:isVal (callF (exF C n) C f args .empty) v=true) (h:Heap):Does C f args h v h:=by
 refine does_heapA hs hf hp ha ⟨n,?_⟩ h
 have e:=isVal_eq hk
 have:=callF_ex C n f args .empty (by rw [e];trivial)
 rw [this,e]
end Go.Proofs.YtmadknpaljaecaaGreatDoor.Ev
namespace Go.Proofs.YtmadknpaljaecaaGreatDoor.Ev
open Go
theorem go_drawR {C:Ctx} {ops:List (XOper×DI)} {env env':T AV} {h h':Heap} {hs:List Heap} {rs:List Rec} {ks:List K} {Q:PostC}
  (hr:∀ call,runD call C ops env h [] []=some (env',h'::hs,rs)∧(rs.all (again call C (h'::hs).reverse))=true) (hg:GoP C ks env' h' Q):GoP C (.c (.draw ops)::ks) env h Q:=by
 refine ⟨0+1,.nrm,env',h',?_,hg⟩
 show xdraw (callFn (ex C 0) C) C ops env h=_
 unfold xdraw
 rw [(hr _).1]
 simp only [(hr _).2]
 rfl
section
variable {call:CallT} {C:Ctx} {env:T AV} {h:Heap} {hs:List Heap} {rs:List Rec} {r:List (XOper×DI)} {op:XOp} {d:Option Nat}
theorem runD_free {v:AV} {h':Heap} (e:xop call (eval C env) h op=.ok v h'):runD call C ((⟨d,op,none⟩,.free)::r) env h hs rs=runD call C r (put env d v) h hs rs:=by
 simp only [runD,wanted,e]
theorem runD_wr {v:AV} {h':Heap} (e:xop call (eval C env) h op=.ok v h'):runD call C ((⟨d,op,none⟩,.wr)::r) env h hs rs=runD call C r (put env d v) h' (h::hs) rs:=by
 simp only [runD,wanted,e]
theorem runD_rd {v:AV} {h':Heap} {lo hi:Nat} (e:xop call (eval C env) h op=.ok v h'):runD call C ((⟨d,op,none⟩,.rd lo hi)::r) env h hs rs=runD call C r (put env d v) h hs (⟨op,env,lo,hi,v⟩::rs):=by
 simp only [runD,wanted,e]
theorem runD_nil:runD call C [] env h hs rs=some (env,h::hs,rs):=rfl
end
end Go.Proofs.YtmadknpaljaecaaGreatDoor.Ev
namespace Go.Proofs.YtmadknpaljaecaaGreatDoor.Ev.D
open Go Go.Proofs.YtmadknpaljaecaaGreatDoor.Ev
set_option maxRecDepth 100000
def hB:Heap:=Heap.empty.new (.cells 2 .nilPtr (setL [(1,.nilSl)] .nil) 97 false)
def hB1:Heap:=hB.stB 0 0 (.ref 0 0)
theorem s138n:Does C 138 [.ref 0 0] hB (.tup []) hB1:=by
 refine does_any (fn:=X138) rfl rfl rfl ?_
 have q1:eqGV false .ptr .nilPtr .nilPtr hB=.ok (.bool true) hB:=rfl
 have q2:ldV false 1 (.ref 0 0) hB=.ok .nilPtr hB:=rfl
 have q3:cvPV 97 2 (.ref 0 0) hB=.ok (.ref 0 0) hB:=rfl
 have q4:stV 1 (.ref 0 0) (.ref 0 0) hB=.ok .undef hB1:=st1_cell (show 0 < hB.len 0 by decide) rfl
 simp (decide:=true) only [BZ,X138,x_eq,q1,q2,x_cvP,q3,q4]
 try exact ⟨back0n,rfl⟩
def hB2 (n:Nat):Heap:=((hB1.new (.cells n .dead .nil 5 true)).set 1 (.cells n .dead (wr .nil [] 0) 5 true))
def hB3 (n:Nat):Heap:=(hB2 n).stB 0 1 (.sl 1 0 0 1 none)
theorem s139 {n:Nat} (h0:0 < n) (hn:n≤1000000):Does C 139 [.ref 0 0,.int .i64 (n:Int)] hB1 (.tup []) (hB3 n):=by
 refine does_any (fn:=X139) rfl rfl rfl ?_
 have q1:ldV false 1 (.ref 0 1) hB1=.ok .nilSl hB1:=rfl
 have q2:ldV false 1 (.ref 0 1) (hB1.new (.cells n .dead .nil 5 true))=.ok .nilSl (hB1.new (.cells n .dead .nil 5 true)):=rfl
 have c1:∀ h,capSlV .nilSl h=.ok (.int .i64 0) h:=fun _=>rfl
 have w0:wrapF .i64 (2*0)=0:=rfl
 have w1:wrapF .i64 (0+(n:Int))=(n:Int):=by rw [i64_wrap (by omega) (by omega)];omega
 have m1:mkNZV 5 (.int .i64 (n:Int)) hB1=.ok (.sl 1 0 n 1 none) (hB1.new (.cells n .dead .nil 5 true)):=by
  show (bif Nat.ble n maxStr then _ else _)=_
  rw [Nat.ble_eq_true_of_le (Nat.le_trans hn (by decide)),cond_true];rfl
 have hb:bounds n n none (some (.int .i64 0))=some (0,0):=bounds_hi (b:=0) (Nat.zero_le _)
 have hne:Nat.beq 0 n=false:=by
  cases n with
  |zero=>omega
  |succ k=>rfl
 have sl:∀ h,slSlV 1 (.sl 1 0 n 1 none) none (some (.int .i64 0)) h=.ok (.sl 1 0 0 1 none) h:=fun h=>by
  unfold slSlV
  simp only [hb,hne]
  rfl
 have cp:cpyV 1 (.sl 1 0 0 1 none) .nilSl (hB1.new (.cells n .dead .nil 5 true))=.ok (.int .i64 0) (hB2 n):=by
  unfold cpyV
  have hg:(hB1.new (.cells n .dead .nil 5 true)).get 1=some (.cells n .dead .nil 5 true):=rfl
  simp only [lenOf,slCells,hg,Nat.min_self,Nat.zero_mul,Nat.add_zero,Nat.ble_eq_true_of_le (Nat.zero_le n),cond_true]
  rfl
 have q3:ldV false 1 (.ref 0 1) (hB1.new (.cells n .dead .nil 5 true))=.ok .nilSl (hB1.new (.cells n .dead .nil 5 true)):=rfl
 have q4:stV 1 (.ref 0 1) (.sl 1 0 0 1 none) (hB2 n)=.ok .undef (hB3 n):=st1_cell (show 1 < (hB2 n).len 0 from by show 1 < 2;decide) rfl
 simp only [X139]
 simp (decide:=true) only [BZ]
 refine go_drawR (env':=?E) (h':=hB1.new (.cells n .dead .nil 5 true)) (hs:=[hB1]) (rs:=?R) (fun call=>⟨?A,?B⟩) ?D
 case A=>
  rw [runD_free (v:=.ref 0 0) (h':=hB1) rfl,runD_free (v:=.ref 0 0) (h':=hB1) rfl,runD_free (v:=.ref 0 1) (h':=hB1) rfl,runD_rd (v:=.nilSl) (h':=hB1) rfl,runD_free (v:=.int .i64 0) (h':=hB1) rfl,runD_free (v:=.int .i64 0) (h':=hB1) rfl,runD_free (v:=.int .i64 (n:Int)) (h':=hB1) rfl,
   runD_free (v:=.int .i64 (n:Int)) (h':=hB1) ?_,runD_wr (v:=.sl 1 0 n 1 none) (h':=hB1.new (.cells n .dead .nil 5 true)) ?_,
   runD_free (v:=.ref 0 0) (h':=hB1.new (.cells n .dead .nil 5 true)) rfl,runD_free (v:=.ref 0 0) (h':=hB1.new (.cells n .dead .nil 5 true)) rfl,runD_free (v:=.ref 0 1) (h':=hB1.new (.cells n .dead .nil 5 true)) rfl,runD_rd (v:=.nilSl) (h':=hB1.new (.cells n .dead .nil 5 true)) rfl,runD_free (v:=.int .i64 0) (h':=hB1.new (.cells n .dead .nil 5 true)) rfl,
   runD_free (v:=.sl 1 0 0 1 none) (h':=hB1.new (.cells n .dead .nil 5 true)) ?_,runD_free (v:=.sl 1 0 0 1 none) (h':=hB1.new (.cells n .dead .nil 5 true)) rfl,runD_nil]
  ·simp (decide:=true) only [BZ,x_slSl,Option.map_none,Option.map_some,sl]
  ·simp (decide:=true) only [BZ,x_mkNZ,m1]
  ·simp (decide:=true) only [BZ,w1]
 case B=>rfl
 case D=>
  generalize hB1.new (.cells n .dead .nil 5 true)=H at q2 q3 cp ⊢
  generalize hB2 n=H2 at cp q4 ⊢
  generalize hB3 n=H3 at q4 ⊢
  simp (decide:=true) only [BZ,x_cpy,cp,q3,q4]
theorem bs0 {n:Nat} (hn:n≤1000000):BS (hB3 n) 1 n []:=by
 refine ⟨by decide,?_,?_,?_,?_,⟨.dead,.nil,true,?_,rfl⟩,Nat.zero_le _⟩
 ·show 1 < 2;decide
 ·rfl
 ·rfl
 ·rfl
 ·rfl
theorem s91 {n:Nat} (h0:0 < n) (hn:n≤1000000):Does C 91 [.ref 0 0,.int .i64 (n:Int)] hB (.tup []) (hB3 n):=by
 refine does_any (fn:=X91) rfl rfl rfl ?_
 have q1:ldV false 1 (.ref 0 1) hB1=.ok .nilSl hB1:=rfl
 have c1:∀ h,capSlV .nilSl h=.ok (.int .i64 0) h:=fun _=>rfl
 have w0:wrapF .i64 (0 - 0)=0:=rfl
 simp only [X91]
 simp (decide:=true) only [BZ,callG_of s138n,decide_eq_false (show ¬ (n:Int) < 0 by omega)]
 refine go_drawW rfl ?_
 simp (decide:=true) only [BZ,q1,x_capSl,c1,w0,decide_eq_true (show (0:Int) < (n:Int) by omega),callG_of (s139 h0 hn)]
end Go.Proofs.YtmadknpaljaecaaGreatDoor.Ev.D
