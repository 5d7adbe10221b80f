import Derived.KernelRfl
import Derived.Test.YtmadknpaljaecaaGreatDoorPac
import Derived.Test.YtmadknpaljaecaaGreatDoorPad
import Derived.Test.YtmadknpaljaecaaGreatDoorPae
set_option linter.all false
set_option maxHeartbeats 1000000
namespace Go.Proofs.YtmadknpaljaecaaGreatDoor.Ev
open Go
def cpyV (size:Nat) (x y:AV) (h:Heap):OpR:=match x with
 |.sl b off len _ _=>(match lenOf y,slCells size h y with
  |some m,some new=>(match h.get b with
   |some (.cells n d cs e op)=>
    bif Nat.ble (off+min m len*size) n then
     .ok (.int .i64 (.ofNat (min m len))) (h.set b (.cells n d (wr cs (new.take (min m len*size)) off) e op))
    else .no 87
   |_=>.no 88)
  |_,_=>.no 89)
 |_=>.no 91
theorem x_cpy {call:CallT} {ρ:XO→AV} {h:Heap} {size:Nat} {x y:XO}:xop call ρ h (.g (.cpy size x y))=cpyV size (ρ x) (ρ y) h:=rfl
def usV (elem:Nat) (p n:AV) (h:Heap):OpR:=match n with
 |.int .i64 (.ofNat n)=>(match p with
  |.nilPtr=>bif Nat.beq n 0 then .ok (.str .empty) h else .no 95
  |.ref b off=>bif Nat.beq n 0 then .ok (.str .empty) h else
   bif Nat.ble n maxStr && Nat.beq off 0 then
   (match h.get b with
   |some (.cells m d cs e _)=>bif Nat.beq e elem then (match rd m d cs 0 n with
    |some l=>(match bytesOf l .empty with
     |some s=>.ok (.str s) (h.del b)
     |none=>.no 92)
    |none=>.no 93) else .no 94
   |_=>.no 94) else .no 94
  |_=>.no 95)
 |_=>.no 96
theorem x_us {call:CallT} {ρ:XO→AV} {h:Heap} {e:Nat} {p n:XO}:xop call ρ h (.g (.us e p n))=usV e (ρ p) (ρ n) h:=rfl
def mkslV (elem lim:Nat) (z l c:AV) (h:Heap):OpR:=match natTo lim c with
 |none=>.no 81
 |some c=>(match natTo c l with
  |none=>.no 82
  |some l=>.ok (.sl h.next 0 l 1 (some c)) (h.new (.cells c z .nil elem false)))
theorem x_mksl1 {call:CallT} {ρ:XO→AV} {h:Heap} {e lim:Nat} {z:AV} {l c:XO}:xop call ρ h (.g (.mksl e 1 lim [z] l c))=mkslV e lim z (ρ l) (ρ c) h:=by
 show o_mksl ρ h e 1 lim [z] l c=_
 unfold o_mksl mkslV
 cases natTo lim (ρ c) with
 |none=>rfl
 |some c'=>simp only;cases natTo c' (ρ l) <;> rfl
theorem mksl_nat {elem lim l c:Nat} {z:AV} {k k':IntKind} {h:Heap} (h1:c≤lim) (h2:l≤c):mkslV elem lim z (.int k (l:Int)) (.int k' (c:Int)) h=.ok (.sl h.next 0 l 1 (some c)) (h.new (.cells c z .nil elem false)):=by
 unfold mkslV;simp only [natTo_nat h1,natTo_nat h2]
theorem bytesOf_map:∀ (l pre:List UInt8),bytesOf (byteAVs (l.map UInt8.toNat)) (BStr.ofBytes pre)=some (BStr.ofBytes (pre++l))
 |[],pre=>by rw [List.append_nil];rfl
 |c::r,pre=>by
  show (bif Nat.blt c.toNat 256 then bytesOf (byteAVs (r.map UInt8.toNat)) ((BStr.ofBytes pre).push c.toNat) else none)=_
  rw [show Nat.blt c.toNat 256=true from by simp only [Nat.blt];exact Nat.ble_eq_true_of_le c.toNat_lt,cond_true,BStr.push_eq,bytesOf_map r (pre++[c]),List.append_assoc];rfl
theorem byteAVs_len:∀ (l:List Nat),(byteAVs l).length=l.length
 |[]=>rfl
 |_::r=>by simp only [byteAVs,List.length_cons,byteAVs_len r]
theorem rdCells_wr (d:AV) (cs:T AV) (l:List AV) (off:Nat):rdCells d (wr cs l off) l.length off=l:=by
 refine List.ext_getElem? fun i=>?_
 rcases Nat.lt_or_ge i l.length with hi|hi
 ·rw [rdCells_get d _ _ _ _ hi,get_wr,if_pos ⟨by omega,by omega⟩,Nat.add_sub_cancel_left,List.getElem?_eq_getElem hi];rfl
 ·rw [List.getElem?_eq_none (by rw [rdCells_length];exact hi),List.getElem?_eq_none hi]
theorem cpy_us {l:List UInt8} {h:Heap} {e:Nat} (hl:l.length≤maxStr) (h0:l≠[]):
  ∃ h2 h3,cpyV 1 (.sl h.next 0 l.length 1 (some l.length)) (.str (BStr.ofBytes l)) (h.new (.cells l.length (.int .u8 0) .nil e false))=.ok (.int .i64 (l.length:Int)) h2∧usV e (.ref h.next 0) (.int .i64 (l.length:Int)) h2=.ok (.str (BStr.ofBytes l)) h3:=by
 have hg:(h.new (.cells l.length (.int .u8 0) .nil e false)).get h.next=some (.cells l.length (.int .u8 0) .nil e false):=by simp [Heap.new,Heap.get,T.get_set]
 have hb:(BStr.ofBytes l).bytes=l.map UInt8.toNat:=BStr.bytes_eq l
 have hlen:(byteAVs (l.map UInt8.toNat)).length=l.length:=by rw [byteAVs_len,List.length_map]
 refine ⟨(h.new (.cells l.length (.int .u8 0) .nil e false)).set h.next (.cells l.length (.int .u8 0) (wr .nil (byteAVs (l.map UInt8.toNat)) 0) e false),((h.new (.cells l.length (.int .u8 0) .nil e false)).set h.next (.cells l.length (.int .u8 0) (wr .nil (byteAVs (l.map UInt8.toNat)) 0) e false)).del h.next,?_,?_⟩
 ·unfold cpyV
  simp only [lenOf,slCells,BStr.ofBytes_n,hb,Nat.min_self,Nat.mul_one,Nat.zero_add,hg]
  rw [show Nat.beq 1 1=true from rfl,cond_true]
  simp only [Nat.min_self]
  rw [Nat.ble_eq_true_of_le (Nat.le_refl _),cond_true,List.take_of_length_le (by rw [hlen];exact Nat.le_refl _)]
  rfl
 ·have hne:Nat.beq l.length 0=false:=by
   cases l with
   |nil=>exact (h0 rfl).elim
   |cons a r=>rfl
  show usV e (.ref h.next 0) (.int .i64 (.ofNat l.length)) _=_
  unfold usV
  simp only [hne,cond_false,Nat.ble_eq_true_of_le hl,Bool.true_and,Heap.get_set,if_true]
  rw [show Nat.beq 0 0=true from rfl,cond_true]
  rw [show Nat.beq e e=true from by simp,cond_true]
  unfold rd
  rw [Nat.zero_add,Nat.ble_eq_true_of_le (Nat.le_refl _),cond_true]
  simp only
  have:=rdCells_wr (.int .u8 0) .nil (byteAVs (l.map UInt8.toNat)) 0
  rw [hlen] at this
  have hbm:=bytesOf_map l []
  rw [show BStr.ofBytes []=BStr.empty from rfl,List.nil_append] at hbm
  rw [this,hbm]
end Go.Proofs.YtmadknpaljaecaaGreatDoor.Ev
namespace Go.Proofs.YtmadknpaljaecaaGreatDoor.Ev.D
open Go Go.Proofs.YtmadknpaljaecaaGreatDoor.Ev
set_option maxRecDepth 100000
theorem s223 {l:List UInt8} (hl:l.length≤1000000) (h:Heap):Does C 223 [.str (BStr.ofBytes l)] h (.str (BStr.ofBytes l)) h:=by
 refine does_pure (fn:=X223) rfl rfl rfl (mapO_cons conv_str mapO_nil) ?_
 by_cases h0:l=[]
 ·subst h0
  simp (decide:=true) only [BZ,X223,show (([]:List UInt8).length:Int)=0 from rfl]
  all_goals rfl
 ·have hp:0 < l.length:=List.length_pos_iff.2 h0
  have hm:l.length≤maxStr:=Nat.le_trans hl (by decide)
  obtain ⟨h2,h3,e1,e2⟩:=cpy_us (l:=l) (h:=Heap.empty) (e:=5) hm h0
  have ix:∀ hh,iaSV 1 (.sl Heap.empty.next 0 l.length 1 (some l.length)) (.int .i64 0) hh=.ok (.ref Heap.empty.next (0+0*1)) hh:=fun hh=>iaS_sl (i:=0) hp
  rw [empty_next] at e1 e2 ix
  simp (decide:=true) only [BZ,X223,decide_eq_false (show ¬ (l.length:Int)=0 by omega),x_mksl1,mksl_nat (show l.length≤8796093022208 by omega) (Nat.le_refl l.length),x_cpy,e1,ix,Nat.zero_mul,x_us,e2]
theorem glob6:C.glob 6=.iptr false L6:=rfl
theorem x_build {call:CallT} {ρ:XO→AV} {h:Heap} {zs:List AV} {ps:List (Nat×Nat×XO)}:xop call ρ h (.q (.build zs ps))=opR ((fillParts ρ ps zs).map .agg) h 20:=rfl
def errV (a b:List UInt8):AV:=.iptr false [.str (BStr.ofBytes a),.str (BStr.ofBytes b),.iface 246 (.iptr false [(.str ⟨18,10312401295712410520744752698248523139671909⟩)])]
theorem s169 {a b:List UInt8} (hb:b.length≤1000000) (h:Heap):Does C 169 [.str (BStr.ofBytes a),.str (BStr.ofBytes b)] h (errV a b) h:=by
 refine does_pure (fn:=X169) rfl rfl rfl (mapO_cons conv_str (mapO_cons conv_str mapO_nil)) ?_
 simp only [X169]
 simp (decide:=true) only [BZ]
 refine go_drawW rfl ?_
 simp (decide:=true) only [BZ,callG_of (s223 hb _),glob6,L6,ld1_iptr]
 refine (opG_of (v:=.agg [.str (BStr.ofBytes a),.str (BStr.ofBytes b),.iface 246 (.iptr false [(.str ⟨18,10312401295712410520744752698248523139671909⟩)])]) rfl).2 ?_
 simp (decide:=true) only [BZ]
 refine (opG_of (v:=.ref 0 0) (h:=Heap.empty.new (.cells 3 .undef (wr .nil [.str (BStr.ofBytes a),.str (BStr.ofBytes b),.iface 246 (.iptr false [(.str ⟨18,10312401295712410520744752698248523139671909⟩)])] 0) 213 false)) rfl).2 ?_
 simp (decide:=true) only [BZ]
 rfl
theorem eqIf {t t':Nat} {ts:List Nat} {k:IntKind} {a b:Int} {n:Bool} {h:Heap} (ht:(ts.any fun u=>Nat.beq u t)=true) (he:t=t'):eqGV n (.iface false ts) (.iface t (.int k a)) (.iface t' (.int k b)) h=.ok (.bool (bif n then !(decide (a=b)) else decide (a=b))) h:=by
 subst he
 have:eqTop (.iface false ts) (.iface t (.int k a)) (.iface t (.int k b))=some (decide (a=b)):=by
  unfold eqTop
  simp only
  rw [show Nat.beq t t=true from by simp,cond_true,if_pos ⟨ht,trivial⟩,eqI_eq]
  congr 1
 unfold eqGV
 rw [this]
theorem s111 {a b:List UInt8} (hb:b.length≤1000000):∃ v,(∀ h,conv false h depth v=some v)∧∀ h,Does C 111 [.str (BStr.ofBytes a),.str (BStr.ofBytes b),.int .i64 0,.int .i64 64,.iface 160 (.int .i64 1)] h v h:=by
 have hcv:∀ h,conv false h depth (.iface 163 (errV a b))=some (.iface 163 (errV a b)):=fun h=>rfl
 have hd:=fun h=>s169 (a:=a) hb h
 refine ⟨.iface 163 (errV a b),hcv,fun h=>?_⟩
 refine does_pure (fn:=X111) rfl rfl rfl (mapO_cons conv_str (mapO_cons conv_str (mapO_cons conv_int (mapO_cons conv_int (mapO_cons (b:=.iface 160 (.int .i64 1)) rfl mapO_nil))))) ?_
 have q1:∀ n a b h,eqGV n (.iface false [2,3,5,6,12,21,28,35,121,160,168,236,298,299,301,302]) (.iface 160 (.int .i64 a)) (.iface 160 (.int .i64 b)) h=.ok (.bool (bif n then !(decide (a=b)) else decide (a=b))) h:=fun n a b h=>eqIf (by decide) rfl
 simp (decide:=true) only [BZ,X111,q1,cond_false,callG_of (hd _),hcv]
theorem s185 {l:List UInt8} {r:Nat} {err:AV} (herr:err=.nilIf∨err=.iface 160 (.int .i64 1)) (hd:∀ h,Does C 233 [.str (BStr.ofBytes l)] h (.tup [.float .f64 r,.int .i64 (l.length:Int),err]) h) (h:Heap):
  Does C 185 [.str (BStr.ofBytes l),.int .i64 64] h (.tup [.float .f64 r,.int .i64 (l.length:Int),err]) h:=by
 refine does_pure (fn:=X185) rfl rfl rfl (mapO_cons conv_str (mapO_cons conv_int mapO_nil)) ?_
 have hcv:∀ h,conv false h depth err=some err:=by rcases herr with rfl|rfl <;> exact fun _=>rfl
 simp (decide:=true) only [BZ,X185,callG_of (hd _),hcv]
theorem s145 {l:List UInt8} {r:Nat} {err:AV} (herr:err=.nilIf∨err=.iface 160 (.int .i64 1)) (hd:∀ h,Does C 233 [.str (BStr.ofBytes l)] h (.tup [.float .f64 r,.int .i64 (l.length:Int),err]) h) (h:Heap):
  Does C 145 [.str (BStr.ofBytes l),.int .i64 64] h (.tup [.float .f64 r,err]) h:=by
 refine does_pure (fn:=X145) rfl rfl rfl (mapO_cons conv_str (mapO_cons conv_int mapO_nil)) ?_
 have hcv:∀ h,conv false h depth err=some err:=by rcases herr with rfl|rfl <;> exact fun _=>rfl
 simp (decide:=true) only [BZ,X145,callG_of (s185 herr hd _),decide_eq_false (show ¬ (l.length:Int)≠(l.length:Int) from fun h=>h rfl),hcv]
theorem s96 {l:List UInt8} {r:Nat} {err:AV} (hl:l.length≤1000000) (herr:err=.nilIf∨err=.iface 160 (.int .i64 1)) (hd:∀ h,Does C 233 [.str (BStr.ofBytes l)] h (.tup [.float .f64 r,.int .i64 (l.length:Int),err]) h):
  ∃ e2,∀ h,Does C 96 [.str (BStr.ofBytes l),.int .i64 64] h (.tup [.float .f64 r,e2]) h:=by
 rcases herr with rfl|rfl
 ·refine ⟨.nilIf,fun h=>?_⟩
  refine does_pure (fn:=X96) rfl rfl rfl (mapO_cons conv_str (mapO_cons conv_int mapO_nil)) ?_
  have q1:∀ n ts h,eqGV n (.iface true ts) .nilIf .nilIf h=.ok (.bool (bif n then false else true)) h:=fun n ts h=>by cases n <;> rfl
  simp (decide:=true) only [BZ,X96,callG_of (s145 (.inl rfl) hd _),q1,cond_true]
 ·obtain ⟨v,hv,hd2⟩:=s111 (a:=[80,97,114,115,101,70,108,111,97,116]) hl
  have hd2':∀ h,Does C 111 [.str ⟨10,379586899851417230467444⟩,.str (BStr.ofBytes l),.int .i64 0,.int .i64 64,.iface 160 (.int .i64 1)] h v h:=hd2
  refine ⟨v,fun h=>?_⟩
  refine does_pure (fn:=X96) rfl rfl rfl (mapO_cons conv_str (mapO_cons conv_int mapO_nil)) ?_
  have q1:∀ n ts h a,eqGV n (.iface true ts) (.iface 160 (.int .i64 a)) .nilIf h=.ok (.bool (bif n then true else false)) h:=fun n ts h a=>by cases n <;> rfl
  simp (decide:=true) only [BZ,X96,callG_of (s145 (.inr rfl) hd _),q1,cond_true,callG_of (hd2' _),hv]
end Go.Proofs.YtmadknpaljaecaaGreatDoor.Ev.D
namespace Go.Proofs.YtmadknpaljaecaaGreatDoor.Rf
def spc (c:UInt8):Bool:=decide (c.toNat=32) || decide (c.toNat=9) || decide (c.toNat=10) || decide (c.toNat=13)
def dAt:List UInt8→Nat
 |[]=>0
 |c::r=>if isD c then dAt r+1 else 0
theorem dAt_le:∀ l:List UInt8,dAt l≤l.length
 |[]=>Nat.le_refl _
 |c::r=>by unfold dAt;split <;> simp [dAt_le r]
theorem dAt_all:∀ l:List UInt8,(l.take (dAt l)).all isD=true
 |[]=>rfl
 |c::r=>by
  unfold dAt
  split
  ·rename_i h;rw [List.take_succ_cons,List.all_cons,h,dAt_all r];rfl
  ·rfl
def sgnD:List UInt8→List UInt8
 |[]=>[]
 |c::r=>if c.toNat=43∨c.toNat=45 then r else c::r
theorem sgnD_len:∀ l:List UInt8,(sgnD l).length≤l.length
 |[]=>Nat.le_refl _
 |c::r=>by
  rw [sgnD]
  by_cases h:c.toNat=43∨c.toNat=45
  ·rw [if_pos h];exact Nat.le_succ _
  ·rw [if_neg h];exact Nat.le_refl _
structure Parts where
 w:List UInt8
 pt:Bool
 p:List UInt8
 rest:List UInt8
def parts (s:List UInt8):Parts:=
 let w:=s.take (dAt s)
 let r:=s.drop (dAt s)
 match r with
 |[]=>⟨w,false,[],[]⟩
 |c::q=>if c=46 then ⟨w,true,q.take (dAt q),q.drop (dAt q)⟩ else ⟨w,false,[],c::q⟩
def expo:List UInt8→Option (Bool×List UInt8)
 |[]=>some (false,[])
 |c::r=>if c.toNat=101∨c.toNat=69 then
   (if sgnD r≠[]∧dAt (sgnD r)=(sgnD r).length then some (r.head? == some 45,sgnD r) else none)
  else none
def isNum (l:List UInt8):Bool:=
 let q:=parts (sgnD l)
 (q.w.length+q.p.length != 0) && (expo q.rest).isSome
end Go.Proofs.YtmadknpaljaecaaGreatDoor.Rf
namespace Go.Proofs.YtmadknpaljaecaaGreatDoor.Ev.D
open Go Go.Proofs.YtmadknpaljaecaaGreatDoor.Ev
set_option maxRecDepth 100000
theorem isD_dec {c:UInt8}:Rf.isD c=(decide ((48:Int)≤((c.toNat:Nat):Int)) && decide (((c.toNat:Nat):Int)≤57)):=by
 unfold Rf.isD
 congr 1 <;> (rw [decide_eq_decide];omega)
theorem s77 {l:List UInt8} (hl:l.length≤1000000) (h:Heap):Does C 77 [.str (BStr.ofBytes l)] h (.int .i64 ((Rf.dAt l:Nat):Int)) h:=by
 refine does_pure (fn:=X77) rfl rfl rfl (mapO_cons conv_str mapO_nil) ?_
 simp only [X77]
 simp (decide:=true) only [BZ]
 refine go_lp (fun n env h=>∃ i rest,l.drop i=rest∧i+Rf.dAt rest=Rf.dAt l∧n=rest.length∧i≤l.length∧env.at 0=.str (BStr.ofBytes l)∧env.at 3=.int .i64 (i:Int)) (fun env h=>env.at 3=.int .i64 ((Rf.dAt l:Nat):Int)) (n:=l.length) ⟨0,l,rfl,by omega,rfl,Nat.zero_le _,?_⟩ ?_ ?_
 ·simp (decide:=true) only [BZ]
  all_goals rfl
 ·rintro n env h1 ⟨i,rest,hd,hi,rfl,i0,a0,a3⟩
  cases rest with
  |nil=>
   have:=drop_nil hd
   simp (decide:=true) only [BZ,a0,a3,decide_eq_false (show ¬ (i:Int) < (l.length:Int) by omega)]
   have:i=Rf.dAt l:=by rw [← hi];rfl
   rw [this]
  |cons c r=>
   obtain ⟨hil,hc,hd'⟩:=drop_cons hd
   have w1:wrapF .i64 ((i:Int)+1)=((i+1:Nat):Int):=by rw [i64_wrap (by omega) (by omega)];rfl
   have hlt:=decide_eq_true (show (i:Int) < (l.length:Int) by omega)
   cases hD:Rf.isD c with
   |true=>
    obtain ⟨k1,k2⟩:=isD_iff.1 hD
    simp (decide:=true) only [BZ,a0,a3,hlt,ixS_drop hd,decide_eq_true (show (48:Int)≤((c.toNat:Nat):Int) by omega),decide_eq_true (show ((c.toNat:Nat):Int)≤57 by omega),w1]
    refine ⟨r.length,Nat.lt_succ_self _,i+1,r,hd',?_,rfl,by omega,?_⟩
    ·rw [← hi,Rf.dAt,if_pos hD];omega
    ·simp (decide:=true) only [BZ,a0]
     all_goals trivial
   |false=>
    have hi':i=Rf.dAt l:=by rw [← hi,Rf.dAt,hD];rfl
    rw [isD_dec] at hD
    cases h48:decide ((48:Int)≤((c.toNat:Nat):Int)) with
    |false=>
     simp (decide:=true) only [BZ,a0,a3,hlt,ixS_drop hd,h48]
     rw [hi']
    |true=>
     rw [h48,Bool.true_and] at hD
     simp (decide:=true) only [BZ,a0,a3,hlt,ixS_drop hd,h48,hD]
     rw [hi']
 ·rintro env h1 a3
  simp (decide:=true) only [BZ,a3]
theorem e_empty:(⟨0,0⟩:BStr)=BStr.ofBytes []:=rfl
theorem ix0 {c:UInt8} {r:List UInt8} {h:Heap}:ixSV (.str (BStr.ofBytes (c::r))) (.int .i64 0) h=.ok (.int .u8 ((c.toNat:Nat):Int)) h:=ixS_drop (l:=c::r) (i:=0) (r:=r) rfl
theorem sl1 {c:UInt8} {r:List UInt8} {h:Heap}:slSV (.str (BStr.ofBytes (c::r))) (some (.int .i64 1)) none h=.ok (.str (BStr.ofBytes r)) h:=by
 have:=slS_lo (l:=c::r) (k:=.i64) (a:=1) (h:=h) (by simp)
 exact this
theorem s78 {l:List UInt8} (h:Heap):Does C 78 [.str (BStr.ofBytes l)] h (.str (BStr.ofBytes (Rf.sgnD l))) h:=by
 refine does_pure (fn:=X78) rfl rfl rfl (mapO_cons conv_str mapO_nil) ?_
 cases l with
 |nil=>
  simp (decide:=true) only [BZ,X78,sneq_lit [] e_empty,decide_eq_false (show ¬ (([]:List UInt8)≠[]) from fun h=>h rfl)]
  all_goals rfl
 |cons c r=>
  have hne:=decide_eq_true (show (c::r)≠([]:List UInt8) by simp)
  by_cases h43:c.toNat=43
  ·simp (decide:=true) only [BZ,X78,sneq_lit [] e_empty,hne,ix0,decide_eq_true (show ((c.toNat:Nat):Int)=43 by omega),Option.map_some,Option.map_none,sl1]
   rw [Rf.sgnD,if_pos (.inl h43)]
  ·by_cases h45:c.toNat=45
   ·simp (decide:=true) only [BZ,X78,sneq_lit [] e_empty,hne,ix0,decide_eq_false (show ¬ ((c.toNat:Nat):Int)=43 by omega),decide_eq_true (show ((c.toNat:Nat):Int)=45 by omega),Option.map_some,Option.map_none,sl1]
    rw [Rf.sgnD,if_pos (.inr h45)]
   ·simp (decide:=true) only [BZ,X78,sneq_lit [] e_empty,hne,ix0,decide_eq_false (show ¬ ((c.toNat:Nat):Int)=43 by omega),decide_eq_false (show ¬ ((c.toNat:Nat):Int)=45 by omega)]
    rw [Rf.sgnD,if_neg (by omega)]
theorem ofb_beq {a b:List UInt8}:(BStr.ofBytes a).beq (BStr.ofBytes b)=decide (a=b):=by
 rw [BStr.beq_eq,Bool.eq_iff_iff];simp
def preB (l p:List UInt8):Bool:=decide (p.length≤l.length) && decide (l.take p.length=p)
theorem s75 {l p:List UInt8} (h:Heap):Does C 75 [.str (BStr.ofBytes l),.str (BStr.ofBytes p)] h (.bool (preB l p)) h:=by
 refine does_pure (fn:=X75) rfl rfl rfl (mapO_cons conv_str (mapO_cons conv_str mapO_nil)) ?_
 by_cases hc:p.length≤l.length
 ·simp (decide:=true) only [BZ,X75,decide_eq_true (show (p.length:Int)≤(l.length:Int) by omega),Option.map_some,Option.map_none,slS_hi hc,ofb_beq]
  unfold preB;rw [decide_eq_true hc,Bool.true_and]
 ·simp (decide:=true) only [BZ,X75,decide_eq_false (show ¬ (p.length:Int)≤(l.length:Int) by omega)]
  unfold preB;rw [decide_eq_false hc,Bool.false_and]
theorem s32 {l p:List UInt8} (h:Heap):Does C 32 [.str (BStr.ofBytes l),.str (BStr.ofBytes p)] h (.bool (preB l p)) h:=by
 refine does_pure (fn:=X32) rfl rfl rfl (mapO_cons conv_str (mapO_cons conv_str mapO_nil)) ?_
 simp (decide:=true) only [BZ,X32,callG_of (s75 _)]
theorem pre1 {l:List UInt8} {c:UInt8}:preB l [c]=(match l with|[]=>false|a::_=>decide (a=c)):=by
 cases l with
 |nil=>rfl
 |cons a r=>simp [preB]
theorem s51 {l:List UInt8} (hl:l.length≤1000000) (h:Heap):Does C 51 [.str (BStr.ofBytes l)] h (.bool (Rf.isNum l)) h:=by
 refine does_pure (fn:=X51) rfl rfl rfl (mapO_cons conv_str mapO_nil) ?_
 have hs:(Rf.sgnD l).length≤1000000:=Nat.le_trans (Rf.sgnD_len l) hl
 unfold Rf.isNum
 obtain ⟨s,hss⟩:∃ s,Rf.sgnD l=s:=⟨_,rfl⟩
 have c78:=fun h=>s78 (l:=l) h
 rw [hss] at hs c78 ⊢
 have hw:=Rf.dAt_le s
 have hwt:(s.take (Rf.dAt s)).length=Rf.dAt s:=by rw [List.length_take];omega
 have l46:(⟨1,46⟩:BStr)=BStr.ofBytes [46]:=rfl
 have c32:∀ h,Does C 32 [.str (BStr.ofBytes (s.drop (Rf.dAt s))),.str ⟨1,46⟩] h (.bool (preB (s.drop (Rf.dAt s)) [46])) h:=fun h=>s32 (p:=[46]) h
 rw [pre1] at c32
 have rest:∀ (env:T AV) (r:List UInt8) (a b:Nat),r.length≤1000000→a≤1000000→b≤1000000→env.at 0=.str (BStr.ofBytes r)→env.at 3=.int .i64 (a:Int)→env.at 4=.int .i64 (b:Int)→
   GoP C [.c (seqT 6 X51.body)] env .empty (Back [.tmp 2] true (.bool ((a+b != 0) && (Rf.expo r).isSome))):=by
  intro env r a b hr ha hb a0 a3 a4
  have w1:wrapF .i64 ((a:Int)+b)=((a+b:Nat):Int):=by rw [i64_wrap (by omega) (by omega)];rfl
  simp only [X51,seqT]
  by_cases h0:a+b=0
  ·simp (decide:=true) only [BZ,a3,a4,w1,decide_eq_true (show ((a+b:Nat):Int)=0 by omega)]
   rw [h0];rfl
  ·have hb0:(a+b != 0)=true:=by simp;omega
   rw [hb0,Bool.true_and]
   have e0:=decide_eq_false (show ¬ ((a+b:Nat):Int)=0 by omega)
   cases r with
   |nil=>
    simp (decide:=true) only [BZ,a0,a3,a4,w1,e0,seql_lit [] e_empty,decide_eq_true (show ([]:List UInt8)=[] from rfl)]
    all_goals rfl
   |cons c q=>
    have hne:=decide_eq_false (show ¬ (c::q)=([]:List UInt8) by simp)
    have hq:(Rf.sgnD q).length≤1000000:=by
     have:=Rf.sgnD_len q
     rw [List.length_cons] at hr
     omega
    by_cases hE:c.toNat=101∨c.toNat=69
    ·have hex:Rf.expo (c::q)=(if Rf.sgnD q≠[]∧Rf.dAt (Rf.sgnD q)=(Rf.sgnD q).length then some (q.head? == some 45,Rf.sgnD q) else none):=by rw [Rf.expo,if_pos hE]
     rw [hex]
     have g1:(decide (((c.toNat:Nat):Int)≠101)=true∧decide (((c.toNat:Nat):Int)≠69)=false)∨decide (((c.toNat:Nat):Int)≠101)=false:=by
      rcases hE with h|h
      ·exact .inr (decide_eq_false (by omega))
      ·exact .inl ⟨decide_eq_true (by omega),decide_eq_false (by omega)⟩
     by_cases hn:Rf.sgnD q=[]
     ·rw [if_neg (fun h=>h.1 hn)]
      rcases g1 with ⟨g1,g2⟩|g1
      ·simp (decide:=true) only [BZ,a0,a3,a4,w1,e0,seql_lit [] e_empty,sneq_lit [] e_empty,hne,ix0,g1,g2,Option.map_some,Option.map_none,sl1,callG_of (s78 _),hn,decide_eq_false (show ¬ (([]:List UInt8)≠[]) from fun h=>h rfl)]
       all_goals rfl
      ·simp (decide:=true) only [BZ,a0,a3,a4,w1,e0,seql_lit [] e_empty,sneq_lit [] e_empty,hne,ix0,g1,Option.map_some,Option.map_none,sl1,callG_of (s78 _),hn,decide_eq_false (show ¬ (([]:List UInt8)≠[]) from fun h=>h rfl)]
       all_goals rfl
     ·have hres:decide (((Rf.dAt (Rf.sgnD q):Nat):Int)=((Rf.sgnD q).length:Int))=(if Rf.sgnD q≠[]∧Rf.dAt (Rf.sgnD q)=(Rf.sgnD q).length then some (q.head? == some 45,Rf.sgnD q) else none).isSome:=by
       by_cases hc:Rf.dAt (Rf.sgnD q)=(Rf.sgnD q).length
       ·rw [if_pos ⟨hn,hc⟩,decide_eq_true (by omega)];rfl
       ·rw [if_neg (fun h=>hc h.2),decide_eq_false (by omega)];rfl
      rcases g1 with ⟨g1,g2⟩|g1
      ·simp (decide:=true) only [BZ,a0,a3,a4,w1,e0,seql_lit [] e_empty,sneq_lit [] e_empty,hne,ix0,g1,g2,Option.map_some,Option.map_none,sl1,callG_of (s78 _),decide_eq_true hn,callG_of (s77 hq _),hres]
      ·simp (decide:=true) only [BZ,a0,a3,a4,w1,e0,seql_lit [] e_empty,sneq_lit [] e_empty,hne,ix0,g1,Option.map_some,Option.map_none,sl1,callG_of (s78 _),decide_eq_true hn,callG_of (s77 hq _),hres]
    ·have hex:Rf.expo (c::q)=none:=by rw [Rf.expo,if_neg hE]
     rw [hex]
     simp (decide:=true) only [BZ,a0,a3,a4,w1,e0,seql_lit [] e_empty,hne,ix0,decide_eq_true (show ((c.toNat:Nat):Int)≠101 by omega),decide_eq_true (show ((c.toNat:Nat):Int)≠69 by omega)]
     all_goals rfl
 have eX:X51.body=.seq (seqH X51.body) (.seq (seqH (seqT 1 X51.body)) (.seq (seqH (seqT 2 X51.body)) (.seq (seqH (seqT 3 X51.body)) (.seq (seqH (seqT 4 X51.body)) (.seq (seqH (seqT 5 X51.body)) (seqT 6 X51.body)))))):=rfl
 rw [eX]
 generalize hR:seqT 6 X51.body=R at rest ⊢
 simp only [X51,seqT,seqH]
 cases hd:s.drop (Rf.dAt s) with
 |nil=>
  rw [hd] at c32
  have hp:Rf.parts s=⟨s.take (Rf.dAt s),false,[],[]⟩:=by unfold Rf.parts;rw [hd]
  rw [hp]
  simp (decide:=true) only [BZ,callG_of (c78 _),callG_of (s77 hs _),Option.map_some,Option.map_none,slS_lo hw,hd,callG_of (c32 _)]
  simp only [hwt,List.length_nil]
  refine rest _ [] (Rf.dAt s) 0 (by simp) (by omega) (by omega) ?_ ?_ ?_ <;> simp (decide:=true) only [BZ]
  all_goals rfl
 |cons c q=>
  rw [hd] at c32
  have hcl:(c::q).length≤1000000:=by
   have:(s.drop (Rf.dAt s)).length≤s.length:=by rw [List.length_drop];omega
   rw [hd] at this;omega
  have hql:q.length≤1000000:=by rw [List.length_cons] at hcl;omega
  by_cases h46:c=46
  ·subst h46
   have hp:Rf.parts s=⟨s.take (Rf.dAt s),true,q.take (Rf.dAt q),q.drop (Rf.dAt q)⟩:=by unfold Rf.parts;rw [hd];rfl
   rw [hp]
   have hqw:=Rf.dAt_le q
   have hqt:(q.take (Rf.dAt q)).length=Rf.dAt q:=by rw [List.length_take];omega
   have c32':∀ h,Does C 32 [.str (BStr.ofBytes (46::q)),.str ⟨1,46⟩] h (.bool true) h:=c32
   have w2:wrapF .i64 (1+((Rf.dAt q:Nat):Int))=((Rf.dAt q+1:Nat):Int):=by rw [i64_wrap (by omega) (by omega)];omega
   simp (decide:=true) only [BZ,callG_of (c78 _),callG_of (s77 hs _),Option.map_some,Option.map_none,slS_lo hw,hd,callG_of (c32' _),sl1,callG_of (s77 hql _),w2,slS_lo (show Rf.dAt q+1≤(46::q).length by simp;omega),List.drop_succ_cons]
   simp only [hwt,hqt]
   refine rest _ (q.drop (Rf.dAt q)) (Rf.dAt s) (Rf.dAt q) (by rw [List.length_drop];omega) (by omega) (by omega) ?_ ?_ ?_ <;> simp (decide:=true) only [BZ]
  ·have hp:Rf.parts s=⟨s.take (Rf.dAt s),false,[],c::q⟩:=by unfold Rf.parts;rw [hd];simp only;rw [if_neg h46]
   rw [hp]
   have c32':∀ h,Does C 32 [.str (BStr.ofBytes (c::q)),.str ⟨1,46⟩] h (.bool false) h:=fun h=>by
    have:=c32 h
    rw [show (match c::q with|[]=>false|a::_=>decide (a=46))=false from decide_eq_false h46] at this
    exact this
   simp (decide:=true) only [BZ,callG_of (c78 _),callG_of (s77 hs _),Option.map_some,Option.map_none,slS_lo hw,hd,callG_of (c32' _)]
   simp only [hwt,List.length_nil]
   refine rest _ (c::q) (Rf.dAt s) 0 hcl (by omega) (by omega) ?_ ?_ ?_ <;> simp (decide:=true) only [BZ]
   all_goals rfl
end Go.Proofs.YtmadknpaljaecaaGreatDoor.Ev.D
namespace Go.Proofs.YtmadknpaljaecaaGreatDoor.Rf
def bIx (c:UInt8):List UInt8→Nat
 |[]=>0
 |a::r=>if a=c then 0 else bIx c r+1
theorem bIx_le (c:UInt8):∀ l:List UInt8,bIx c l≤l.length
 |[]=>Nat.le_refl _
 |a::r=>by unfold bIx;split <;> simp [bIx_le c r]
theorem bIx_app (c:UInt8):∀ (a b:List UInt8),(∀ x∈a,x≠c)→bIx c (a++b)=a.length+bIx c b
 |[],b,_=>by simp
 |x::a,b,h=>by
  rw [List.cons_append,bIx,if_neg (h x (List.mem_cons_self ..)),bIx_app c a b (fun y hy=>h y (List.mem_cons_of_mem _ hy)),List.length_cons];omega
def cutA (c:UInt8) (l:List UInt8):List UInt8:=l.take (bIx c l)
def cutB (c:UInt8) (l:List UInt8):List UInt8:=l.drop (bIx c l+1)
def cutF (c:UInt8) (l:List UInt8):Bool:=decide (bIx c l < l.length)
theorem bIx_none {c:UInt8}:∀ {l:List UInt8},(∀ x∈l,x≠c)→bIx c l=l.length:=fun {l} h=>by
 have:=bIx_app c l [] h
 rw [List.append_nil] at this
 rw [this];rfl
theorem cut_in {c:UInt8} {a b:List UInt8} (h:∀ x∈a,x≠c):cutA c (a++c::b)=a∧cutB c (a++c::b)=b∧cutF c (a++c::b)=true:=by
 have e:bIx c (a++c::b)=a.length:=by rw [bIx_app c a _ h,bIx,if_pos rfl];rfl
 unfold cutA cutB cutF
 rw [e]
 refine ⟨by simp,?_,by simp⟩
 rw [List.drop_append,List.drop_eq_nil_of_le (by omega),show a.length+1 - a.length=1 by omega];rfl
theorem cut_out {c:UInt8} {a:List UInt8} (h:∀ x∈a,x≠c):cutA c a=a∧cutB c a=[]∧cutF c a=false:=by
 unfold cutA cutB cutF
 rw [bIx_none h]
 exact ⟨List.take_length,List.drop_eq_nil_of_le (by omega),by simp⟩
def tl (c:UInt8):List UInt8→List UInt8
 |[]=>[]
 |a::r=>if a=c then tl c r else a::r
theorem tl_len (c:UInt8):∀ l:List UInt8,(tl c l).length≤l.length
 |[]=>Nat.le_refl _
 |a::r=>by unfold tl;split <;> simp;exact Nat.le_succ_of_le (tl_len c r)
def low (c:UInt8):UInt8:=if 65≤c.toNat∧c.toNat≤90 then c+32 else c
def isUp (c:UInt8):Bool:=decide (65≤c.toNat∧c.toNat≤90)
end Go.Proofs.YtmadknpaljaecaaGreatDoor.Rf
namespace Go.Proofs.YtmadknpaljaecaaGreatDoor.Ev
open Go
def ixBV (s c:AV) (h:Heap):OpR:=match s with
 |.str s=>(match c with
  |.int .u8 (.ofNat c)=>bif Nat.blt c 256 then .ok (.int .i64 (findB s c s.n 0)) h else .no 51
  |_=>.no 51)
 |_=>.no 51
theorem findB_of (l:List UInt8) (c:UInt8):∀ (rest:List UInt8) (i:Nat),l.drop i=rest→
  findB (BStr.ofBytes l) c.toNat rest.length i=if Rf.bIx c rest < rest.length then ((i+Rf.bIx c rest:Nat):Int) else -1
 |[],i,_=>by simp [findB,Rf.bIx]
 |a::r,i,hd=>by
  obtain ⟨hi,hc,hd'⟩:=drop_cons hd
  have hat:(BStr.ofBytes l).at_ i=a.toNat:=by
   rw [BStr.at_eq _ _ hi]
   rw [List.getElem?_eq_getElem hi] at hc
   cases hc;rfl
  show (bif Nat.beq ((BStr.ofBytes l).at_ i) c.toNat then Int.ofNat i else findB (BStr.ofBytes l) c.toNat r.length (i+1))=_
  rw [hat,findB_of l c r (i+1) hd',Rf.bIx]
  by_cases hac:a=c
  ·subst hac
   rw [if_pos rfl,if_pos (show 0 < (a::r).length from Nat.succ_pos _),show Nat.beq a.toNat a.toNat=true from Nat.beq_refl _];rfl
  ·have hb:Nat.beq a.toNat c.toNat=false:=by
    rw [BStr.beq_eq_decide];exact decide_eq_false (fun e=>hac (UInt8.toNat_inj.1 e))
   rw [hb,if_neg hac]
   show (if _ then _ else _)=_
   by_cases hlt:Rf.bIx c r < r.length
   ·rw [if_pos hlt,if_pos (by rw [List.length_cons];omega)];congr 1;omega
   ·rw [if_neg hlt,if_neg (by rw [List.length_cons];omega)]
theorem x_ixB {call:CallT} {ρ:XO→AV} {h:Heap} {x y:XO}:xop call ρ h (.q (.ixB x y))=ixBV (ρ x) (ρ y) h:=by
 show o_ixB ρ h x y=_
 unfold o_ixB ixBV;rfl
theorem ixB_of {l:List UInt8} {c:UInt8} {h:Heap}:ixBV (.str (BStr.ofBytes l)) (.int .u8 ((c.toNat:Nat):Int)) h=.ok (.int .i64 (if Rf.bIx c l < l.length then ((Rf.bIx c l:Nat):Int) else -1)) h:=by
 have:=findB_of l c l 0 rfl
 rw [Nat.zero_add] at this
 show (bif Nat.blt c.toNat 256 then OpR.ok (.int .i64 (findB (BStr.ofBytes l) c.toNat (BStr.ofBytes l).n 0)) h else OpR.no 51)=_
 rw [show Nat.blt c.toNat 256=true from by simp only [Nat.blt];exact Nat.ble_eq_true_of_le c.toNat_lt,cond_true,BStr.ofBytes_n,this]
end Go.Proofs.YtmadknpaljaecaaGreatDoor.Ev
namespace Go.Proofs.YtmadknpaljaecaaGreatDoor.Ev.D
open Go Go.Proofs.YtmadknpaljaecaaGreatDoor.Ev
set_option maxRecDepth 100000
theorem s141 {l:List UInt8} {c:UInt8} (h:Heap):Does C 141 [.str (BStr.ofBytes l),.int .u8 ((c.toNat:Nat):Int)] h (.int .i64 (if Rf.bIx c l < l.length then ((Rf.bIx c l:Nat):Int) else -1)) h:=by
 refine does_pure (fn:=X141) rfl rfl rfl (mapO_cons conv_str (mapO_cons rfl mapO_nil)) ?_
 simp (decide:=true) only [BZ,X141,x_ixB,ixB_of]
theorem s95 {l:List UInt8} {c:UInt8} (h:Heap):Does C 95 [.str (BStr.ofBytes l),.str (BStr.ofBytes [c])] h (.int .i64 (if Rf.bIx c l < l.length then ((Rf.bIx c l:Nat):Int) else -1)) h:=by
 refine does_pure (fn:=X95) rfl rfl rfl (mapO_cons conv_str (mapO_cons conv_str mapO_nil)) ?_
 have h1:(([c]:List UInt8).length:Int)=1:=rfl
 rw [show X95.body=.seq (seqH X95.body) (.seq (seqH (seqT 1 X95.body)) (.seq (seqH (seqT 2 X95.body)) (seqT 3 X95.body))) from rfl]
 generalize seqT 3 X95.body=R
 have h0:=decide_eq_false (show ¬ (1:Int)=0 by decide)
 by_cases he:[c]=l
 ·subst he
  simp (decide:=true) only [BZ,X95,seqT,seqH,h1,h0,ofb_beq,decide_eq_true (show [c]=[c] from rfl)]
  rw [show Rf.bIx c [c]=0 from if_pos rfl]
  rfl
 ·simp (decide:=true) only [BZ,X95,seqT,seqH,h1,h0,ofb_beq,decide_eq_false he,ix0,callG_of (s141 _),decide_eq_true (show (1:Int)=1 from rfl)]
theorem s81 {l:List UInt8} {c:UInt8} (hl:l.length≤1000000) (h:Heap):Does C 81 [.str (BStr.ofBytes l),.str (BStr.ofBytes [c])] h (.tup [.str (BStr.ofBytes (Rf.cutA c l)),.str (BStr.ofBytes (Rf.cutB c l)),.bool (Rf.cutF c l)]) h:=by
 refine does_pure (fn:=X81) rfl rfl rfl (mapO_cons conv_str (mapO_cons conv_str mapO_nil)) ?_
 unfold Rf.cutA Rf.cutB Rf.cutF
 by_cases hc:Rf.bIx c l < l.length
 ·have c95:∀ h,Does C 95 [.str (BStr.ofBytes l),.str (BStr.ofBytes [c])] h (.int .i64 ((Rf.bIx c l:Nat):Int)) h:=fun h=>by
   have:=s95 (l:=l) (c:=c) h
   rwa [if_pos hc] at this
  have w1:wrapF .i64 (((Rf.bIx c l:Nat):Int)+(([c]:List UInt8).length:Int))=((Rf.bIx c l+1:Nat):Int):=by
   rw [show (([c]:List UInt8).length:Int)=1 from rfl,i64_wrap (by omega) (by omega)];rfl
  simp (decide:=true) only [BZ,X81,callG_of (c95 _),decide_eq_true (show (0:Int)≤((Rf.bIx c l:Nat):Int) by omega)]
  refine go_drawW rfl ?_
  simp (decide:=true) only [BZ,List.map,Option.map_some,Option.map_none,slS_hi (Nat.le_of_lt hc),w1,slS_lo (show Rf.bIx c l+1≤l.length from hc)]
  simp (decide:=true) only [BZ,decide_eq_true hc]
  all_goals trivial
 ·have c95:∀ h,Does C 95 [.str (BStr.ofBytes l),.str (BStr.ofBytes [c])] h (.int .i64 (-1)) h:=fun h=>by
   have:=s95 (l:=l) (c:=c) h
   rwa [if_neg hc] at this
  have he:Rf.bIx c l=l.length:=Nat.le_antisymm (Rf.bIx_le c l) (by omega)
  simp (decide:=true) only [BZ,X81,callG_of (c95 _),decide_eq_false (show ¬ (0:Int)≤-1 by decide),decide_eq_false hc]
  rw [he,List.take_length,List.drop_eq_nil_of_le (by omega)]
  exact ⟨rfl,rfl⟩
theorem s35 {l:List UInt8} {c:UInt8} (hl:l.length≤1000000) (h:Heap):Does C 35 [.str (BStr.ofBytes l),.str (BStr.ofBytes [c])] h (.tup [.str (BStr.ofBytes (Rf.cutA c l)),.str (BStr.ofBytes (Rf.cutB c l)),.bool (Rf.cutF c l)]) h:=by
 refine does_pure (fn:=X35) rfl rfl rfl (mapO_cons conv_str (mapO_cons conv_str mapO_nil)) ?_
 simp (decide:=true) only [BZ,X35,callG_of (s81 hl _)]
 all_goals trivial
theorem s83 {l:List UInt8} {c:UInt8} (hl:l.length≤1000000) (h:Heap):Does C 83 [.str (BStr.ofBytes l),.int .u8 ((c.toNat:Nat):Int)] h (.str (BStr.ofBytes (Rf.tl c l))) h:=by
 refine does_pure (fn:=X83) rfl rfl rfl (mapO_cons conv_str (mapO_cons rfl mapO_nil)) ?_
 simp only [X83]
 simp (decide:=true) only [BZ]
 refine go_lp (fun n env h=>∃ r:List UInt8,n=r.length∧Rf.tl c r=Rf.tl c l∧r.length≤1000000∧env.at 0=.str (BStr.ofBytes r)∧env.at 1=.int .u8 ((c.toNat:Nat):Int)) (fun env h=>env.at 0=.str (BStr.ofBytes (Rf.tl c l))) (n:=l.length) ⟨l,rfl,rfl,hl,?_⟩ ?_ ?_
 ·simp (decide:=true) only [BZ]
  all_goals trivial
 ·rintro n env h1 ⟨r,rfl,hr,hrl,a0,a1⟩
  cases r with
  |nil=>
   simp (decide:=true) only [BZ,a0,a1,decide_eq_false (show ¬ (0:Int) < (([]:List UInt8).length:Int) by decide)]
   rw [← hr];rfl
  |cons a q=>
   have hp:=decide_eq_true (show (0:Int) < ((a::q).length:Int) by rw [List.length_cons];omega)
   by_cases hac:a=c
   ·subst hac
    simp (decide:=true) only [BZ,a0,a1,hp,ix0,decide_eq_true (show ((a.toNat:Nat):Int)=((a.toNat:Nat):Int) from rfl),Option.map_some,Option.map_none,sl1]
    refine ⟨q.length,Nat.lt_succ_self _,q,rfl,?_,by rw [List.length_cons] at hrl;omega,?_⟩
    ·rw [← hr,Rf.tl,if_pos rfl]
    ·simp (decide:=true) only [BZ,a1]
     all_goals trivial
   ·simp (decide:=true) only [BZ,a0,a1,hp,ix0,decide_eq_false (show ¬ ((a.toNat:Nat):Int)=((c.toNat:Nat):Int) from fun e=>hac (UInt8.toNat_inj.1 (by omega)))]
    rw [← hr,Rf.tl,if_neg hac]
 ·rintro env h1 a0
  simp (decide:=true) only [BZ,a0]
theorem s105 {l:List UInt8} {c:UInt8} (hc:c.toNat < 128) (hl:l.length≤1000000) (h:Heap):Does C 105 [.str (BStr.ofBytes l),.str (BStr.ofBytes [c])] h (.str (BStr.ofBytes (Rf.tl c l))) h:=by
 refine does_pure (fn:=X105) rfl rfl rfl (mapO_cons conv_str (mapO_cons conv_str mapO_nil)) ?_
 rw [show X105.body=.seq (seqH X105.body) (.seq (seqH (seqT 1 X105.body)) (.seq (seqH (seqT 2 X105.body)) (seqT 3 X105.body))) from rfl]
 generalize seqT 3 X105.body=R
 have h1:(([c]:List UInt8).length:Int)=1:=rfl
 have hc2:=decide_eq_true (show ((c.toNat:Nat):Int) < 128 by omega)
 cases l with
 |nil=>
  simp (decide:=true) only [BZ,X105,seqT,seqH,seql_lit [] e_empty,decide_eq_true (show ([]:List UInt8)=[] from rfl)]
  rfl
 |cons a r=>
  simp (decide:=true) only [BZ,X105,seqT,seqH,seql_lit [] e_empty,decide_eq_false (show ¬ (a::r)=([]:List UInt8) by simp),decide_eq_false (show ¬ [c]=([]:List UInt8) by simp),h1,ix0,hc2,decide_eq_true (show (1:Int)=1 from rfl),callG_of (s83 hl _)]
  try rfl
end Go.Proofs.YtmadknpaljaecaaGreatDoor.Ev.D
namespace Go.Proofs.YtmadknpaljaecaaGreatDoor.Ev
open Go
theorem x_app {call:CallT} {ρ:XO→AV} {h:Heap} {e s lim:Nat} {x y:XO}:xop call ρ h (.h (.app e s lim x y))=append e s lim h (ρ x) (ρ y):=rfl
def cvPV (t size:Nat) (x:AV) (h:Heap):OpR:=match x with
 |.ref b 0=>(match h.get b with
  |some (.cells n _ _ e _)=>bif Nat.beq e t && Nat.ble size n then .ok (.ref b 0) h else .no 73
  |_=>.no 74)
 |.nilPtr=>.ok .nilPtr h
 |_=>.no 75
theorem x_cvP {call:CallT} {ρ:XO→AV} {h:Heap} {t size:Nat} {x:XO}:xop call ρ h (.g (.cvP t size x))=cvPV t size (ρ x) h:=rfl
def capSlV (x:AV) (h:Heap):OpR:=match x with
 |.nilSl=>.ok (.int .i64 (.ofNat 0)) h
 |.sl _ _ _ _ (some c)=>.ok (.int .i64 (.ofNat c)) h
 |_=>.no 7
theorem x_capSl {call:CallT} {ρ:XO→AV} {h:Heap} {x:XO}:xop call ρ h (.p (.capSl x))=capSlV (ρ x) h:=rfl
def usdV (x:AV) (h:Heap):OpR:=match x with
 |.sl b off len _ _=>bif Nat.beq len 0 then .no 48 else .ok (.ref b off) h
 |.nilSl=>.ok .nilPtr h
 |_=>.no 48
theorem x_usd {call:CallT} {ρ:XO→AV} {h:Heap} {x:XO}:xop call ρ h (.q (.usd x))=usdV (ρ x) h:=by
 show o_usd ρ h x=_
 unfold o_usd usdV;rfl
def mkNZV (elem:Nat) (x:AV) (h:Heap):OpR:=match x with
 |.int .i64 (.ofNat n)=>bif Nat.ble n maxStr then .ok (.sl h.next 0 n 1 none) (h.new (.cells n .dead .nil elem true)) else .no 97
 |_=>.no 97
theorem x_mkNZ {call:CallT} {ρ:XO→AV} {h:Heap} {elem:Nat} {x:XO}:xop call ρ h (.g (.mkNZ elem x))=mkNZV elem (ρ x) h:=rfl
def slSlV (size:Nat) (x:AV) (lo hi:Option AV) (h:Heap):OpR:=match x with
 |.sl b off len es (some c)=>(match bounds c len lo hi with
  |some (l,u)=>.ok (.sl b (bif Nat.beq l c then off else off+l*size) (u - l) es (some (c - l))) h
  |none=>.no 29)
 |.sl b off len es none=>(match bounds len len lo hi with
  |some (l,u)=>bif Nat.beq es size then (bif Nat.beq l len then .ok (.isl false 0 []) h else .ok (.sl b (off+l*size) (u - l) es none) h) else .no 29
  |none=>.no 29)
 |.isl w len cs=>(match bounds len len lo hi with
  |some (l,u)=>bif Nat.beq l len then .ok (.isl w 0 []) h else .ok (.isl w (u - l) (cs.drop (l*size))) h
  |none=>.no 30)
 |.nilSl=>(match bounds 0 0 lo hi with|some _=>.ok .nilSl h|none=>.no 31)
 |_=>.no 32
theorem x_slSl {call:CallT} {ρ:XO→AV} {h:Heap} {size:Nat} {x:XO} {lo hi:Option XO}:xop call ρ h (.q (.slSl size x lo hi))=slSlV size (ρ x) (lo.map ρ) (hi.map ρ) h:=by
 show o_slSl ρ h size x lo hi=_
 unfold o_slSl slSlV;rfl
structure BS (h:Heap) (b m:Nat) (w:List UInt8):Prop where
 b0:0 < b
 bn:b < h.next
 l0:h.len 0=2
 c0:h.cell 0 0=.ref 0 0
 c1:h.cell 0 1=.sl b 0 w.length 1 none
 g1:∃ d cs op,h.get b=some (.cells m d cs 5 op)∧rdCells d cs w.length 0=byteAVs (w.map UInt8.toNat)
 hm:w.length≤m
theorem byteAVs_app:∀ a b:List Nat,byteAVs (a++b)=byteAVs a++byteAVs b
 |[],_=>rfl
 |_::a,b=>by simp only [List.cons_append,byteAVs,byteAVs_app a b]
theorem rd_wr_app (d:AV) (cs:T AV) (l:List AV) (k:Nat):rdCells d (wr cs l k) (k+l.length) 0=rdCells d cs k 0++l:=by
 refine List.ext_getElem? fun i=>?_
 rcases Nat.lt_or_ge i (k+l.length) with hi|hi
 ·rw [rdCells_get d _ _ _ _ hi,get_wr]
  rcases Nat.lt_or_ge i k with hk|hk
  ·rw [if_neg (by omega),List.getElem?_append_left (by rw [rdCells_length];exact hk),rdCells_get d _ _ _ _ hk]
  ·rw [if_pos ⟨by omega,by omega⟩,List.getElem?_append_right (by rw [rdCells_length];exact hk),rdCells_length,Nat.zero_add,List.getElem?_eq_getElem (by omega)];rfl
 ·rw [List.getElem?_eq_none (by rw [rdCells_length];exact hi),List.getElem?_eq_none (by rw [List.length_append,rdCells_length];exact hi)]
theorem app_bs {h:Heap} {b m:Nat} {w s:List UInt8} (B:BS h b m w) (hs:w.length+s.length≤m) {y:AV} (hy:slCells 1 h y=some (byteAVs (s.map UInt8.toNat))) (hl:lenOf y=some s.length):
  ∃ h2,append 5 1 8796093022208 h (.sl b 0 w.length 1 none) y=.ok (.sl b 0 (w.length+s.length) 1 none) h2∧1 < h2.len 0∧BS (h2.stB 0 1 (.sl b 0 (w.length+s.length) 1 none)) b m (w++s):=by
 obtain ⟨d,cs,op,g,hr⟩:=B.g1
 have hb:=B.b0
 have key:∀ h2:Heap,h2.next=h.next→h2.get 0=h.get 0→(∃ cs2,h2.get b=some (.cells m d cs2 5 op)∧rdCells d cs2 (w.length+s.length) 0=byteAVs (w.map UInt8.toNat)++byteAVs (s.map UInt8.toNat))→1 < h2.len 0∧BS (h2.stB 0 1 (.sl b 0 (w.length+s.length) 1 none)) b m (w++s):=by
  rintro h2 hn h0 ⟨cs2,g2,r2⟩
  have l2:h2.len 0=2:=by have:=B.l0;unfold Heap.len at this ⊢;rw [h0];exact this
  refine ⟨by omega,⟨hb,?_,?_,?_,?_,?_,?_⟩⟩
  ·rw [Heap.stB_next,hn];exact B.bn
  ·rw [Heap.stB_len];exact l2
  ·rw [Heap.stB_cell _ _ _ _ _ _ (by omega),if_neg (by omega)]
   have:=B.c0;unfold Heap.cell at this ⊢;rw [h0];exact this
  ·rw [Heap.stB_cell _ _ _ _ _ _ (by omega),if_pos ⟨rfl,rfl⟩,List.length_append]
  ·refine ⟨d,cs2,op,?_,?_⟩
   ·rw [Heap.stB_get_ne _ _ _ (by omega),g2]
   ·rw [List.length_append,r2,List.map_append,byteAVs_app]
  ·rw [List.length_append];exact hs
 unfold append
 simp only [hy,hl,g]
 by_cases h0:s.length=0
 ·have hs0:s=[]:=List.length_eq_zero_iff.1 h0
  subst hs0
  refine ⟨h,?_,key h rfl rfl ⟨cs,g,?_⟩⟩
  ·simp only [List.length_nil,Nat.add_zero];rfl
  ·simp only [List.length_nil,Nat.add_zero,List.map_nil,byteAVs,List.append_nil];exact hr
 ·have hne:Nat.beq s.length 0=false:=by
   cases hb:Nat.beq s.length 0 with
   |false=>rfl
   |true=>exact (h0 (Nat.eq_of_beq_eq_true hb)).elim
  rw [hne,cond_false,show Nat.beq 1 1=true from rfl,Bool.true_and,Nat.ble_eq_true_of_le (show 0+(w.length+s.length)*1≤m by omega),cond_true]
  refine ⟨_,rfl,key _ rfl ?_ ⟨wr cs (byteAVs (s.map UInt8.toNat)) (0+w.length*1),?_,?_⟩⟩
  ·rw [Heap.get_set,if_neg (by omega)]
  ·rw [Heap.get_set,if_pos rfl]
  ·have:=rd_wr_app d cs (byteAVs (s.map UInt8.toNat)) w.length
   rw [byteAVs_len,List.length_map] at this
   rw [Nat.zero_add,Nat.mul_one,this,hr]
theorem BS.new {h:Heap} {b m:Nat} {w:List UInt8} (B:BS h b m w) (x:Blk):BS (h.new x) b m w:=by
 have hb:=B.b0
 have hn:=B.bn
 have g0:(h.new x).get 0=h.get 0:=by rw [Heap.get_new,if_neg (by omega)]
 have gb:(h.new x).get b=h.get b:=by rw [Heap.get_new,if_neg (by omega)]
 refine ⟨hb,Nat.lt_succ_of_lt hn,?_,?_,?_,?_,B.hm⟩
 ·have:=B.l0;unfold Heap.len at this ⊢;rw [g0];exact this
 ·have:=B.c0;unfold Heap.cell at this ⊢;rw [g0];exact this
 ·have:=B.c1;unfold Heap.cell at this ⊢;rw [g0];exact this
 ·rw [gb];exact B.g1
theorem slCells_str {s:List UInt8} {h:Heap}:slCells 1 h (.str (BStr.ofBytes s))=some (byteAVs (s.map UInt8.toNat)):=by
 show (bif Nat.beq 1 1 then some (byteAVs (BStr.ofBytes s).bytes) else none)=_
 rw [show (BStr.ofBytes s).bytes=s.map UInt8.toNat from BStr.bytes_eq s];rfl
theorem lenOf_str {s:List UInt8}:lenOf (.str (BStr.ofBytes s))=some s.length:=by
 show some (BStr.ofBytes s).n=_
 rw [BStr.ofBytes_n]
theorem us_bs {h:Heap} {b m:Nat} {w:List UInt8} (B:BS h b m w) (hm:m≤maxStr) (h0:w≠[]):usV 5 (.ref b 0) (.int .i64 (w.length:Int)) h=.ok (.str (BStr.ofBytes w)) (h.del b):=by
 obtain ⟨d,cs,op,g,hr⟩:=B.g1
 have hne:Nat.beq w.length 0=false:=by
  cases w with
  |nil=>exact (h0 rfl).elim
  |cons a r=>rfl
 show usV 5 (.ref b 0) (.int .i64 (.ofNat w.length)) h=_
 unfold usV
 simp only [hne,cond_false,Nat.ble_eq_true_of_le (Nat.le_trans B.hm hm),Bool.true_and,g]
 rw [show Nat.beq 0 0=true from rfl,cond_true]
 rw [show Nat.beq 5 5=true from rfl,cond_true]
 unfold rd
 rw [Nat.zero_add,Nat.ble_eq_true_of_le B.hm,cond_true]
 simp only
 have hbm:=bytesOf_map w []
 rw [show BStr.ofBytes []=BStr.empty from rfl,List.nil_append] at hbm
 rw [hr,hbm]
end Go.Proofs.YtmadknpaljaecaaGreatDoor.Ev
namespace Go.Proofs.YtmadknpaljaecaaGreatDoor.Ev.D
open Go Go.Proofs.YtmadknpaljaecaaGreatDoor.Ev
set_option maxRecDepth 100000
theorem s138 {h:Heap} {b m:Nat} {w:List UInt8} (B:BS h b m w):Does C 138 [.ref 0 0] h (.tup []) h:=by
 refine does_any (fn:=X138) rfl rfl rfl ?_
 have q1:∀ h,eqGV false .ptr (.ref 0 0) .nilPtr h=.ok (.bool false) h:=fun _=>rfl
 have q2:∀ h,eqGV true .ptr (.ref 0 0) (.ref 0 0) h=.ok (.bool false) h:=fun _=>rfl
 have l0:=B.l0
 simp (decide:=true) only [BZ,X138,ld1_cell (show 0 < h.len 0 by omega),B.c0,x_eq,q1,q2]
theorem s92 {h:Heap} {b m:Nat} {w s:List UInt8} (B:BS h b m w) (hs:w.length+s.length≤m):∃ v h',Does C 92 [.ref 0 0,.str (BStr.ofBytes s)] h v h'∧BS h' b m (w++s):=by
 obtain ⟨h2,e1,l2,B2⟩:=app_bs B hs slCells_str lenOf_str
 have l0:=B.l0
 refine ⟨.tup [.int .i64 (s.length:Int),.nilIf],h2.stB 0 1 (.sl b 0 (w.length+s.length) 1 none),?_,B2⟩
 refine does_any (fn:=X92) rfl rfl rfl ?_
 simp (decide:=true) only [BZ,X92,callG_of (s138 B),ld1_cell (show 1 < h.len 0 by omega),B.c1,x_app,e1,st1_cell l2 (show okCell (.sl b 0 (w.length+s.length) 1 none)=true from rfl)]
 try exact ⟨back2f.2 ⟨by simp (decide:=true) only [BZ],by simp (decide:=true) only [BZ]⟩,rfl⟩
theorem s160 {h:Heap} {b m:Nat} {w:List UInt8} {c:UInt8} (B:BS h b m w) (hs:w.length+1≤m):∃ v h',Does C 160 [.ref 0 0,.int .u8 ((c.toNat:Nat):Int)] h v h'∧BS h' b m (w++[c]):=by
 have B1:=B.new (.cells 1 .undef (wr .nil [.int .u8 ((c.toNat:Nat):Int)] 0) 5 false)
 have hy:slCells 1 (h.new (.cells 1 .undef (wr .nil [.int .u8 ((c.toNat:Nat):Int)] 0) 5 false)) (.sl h.next 0 1 0 (some 1))=some (byteAVs ([c].map UInt8.toNat)):=by
  simp only [slCells,Heap.get_new,if_true]
  rfl
 obtain ⟨h2,e1,l2,B2⟩:=app_bs (s:=[c]) B1 hs hy rfl
 have l0:=B.l0
 have eb:∀ ρ:XO→AV,ρ (.t 12)=.int .u8 ((c.toNat:Nat):Int)→o_bsl ρ h 5 1 [.int .u8 0] [(0,1,.t 12)]=.ok (.sl h.next 0 1 0 (some 1)) (h.new (.cells 1 .undef (wr .nil [.int .u8 ((c.toNat:Nat):Int)] 0) 5 false)):=by
  intro ρ hρ
  unfold o_bsl
  simp only [fillParts,hρ]
  rfl
 refine ⟨.nilIf,h2.stB 0 1 (.sl b 0 (w.length+[c].length) 1 none),?_,B2⟩
 refine does_any (fn:=X160) rfl rfl rfl ?_
 simp (decide:=true) only [BZ,X160,callG_of (s138 B),ld1_cell (show 1 < h.len 0 by omega),B.c1,x_app]
 refine (opG_of (v:=.sl h.next 0 1 0 (some 1)) (h:=h.new (.cells 1 .undef (wr .nil [.int .u8 ((c.toNat:Nat):Int)] 0) 5 false)) ?_).2 ?_
 ·rw [x_bsl];refine eb _ ?_
  rfl
 simp (decide:=true) only [BZ,x_app,e1,st1_cell l2 (show okCell (.sl b 0 (w.length+[c].length) 1 none)=true from rfl)]
 try exact ⟨back1f.2 (by simp (decide:=true) only [BZ]),rfl⟩
theorem s94 {h:Heap} {b m:Nat} {w:List UInt8} (B:BS h b m w) (hm:m≤maxStr) (h0:w≠[]):∃ h',Does C 94 [.ref 0 0] h (.str (BStr.ofBytes w)) h':=by
 have l0:=B.l0
 have hne:usdV (.sl b 0 w.length 1 none) h=.ok (.ref b 0) h:=by
  unfold usdV
  cases w with
  |nil=>exact (h0 rfl).elim
  |cons a r=>rfl
 refine ⟨h.del b,does_any (fn:=X94) rfl rfl rfl ?_⟩
 simp only [X94]
 simp (decide:=true) only [BZ]
 refine go_drawW rfl ?_
 simp (decide:=true) only [BZ,ld1_cell (show 1 < h.len 0 by omega),B.c1,x_usd,hne,x_us,us_bs B hm h0]
end Go.Proofs.YtmadknpaljaecaaGreatDoor.Ev.D
namespace Go.Proofs.YtmadknpaljaecaaGreatDoor.Ev
open Go
theorem go_drawR {C:Ctx} {ops:List (XOper×DI)} {env env':T AV} {h h':Heap} {hs:List Heap} {rs:List Rec} {ks:List K} {Q:PostC}
  (hr:∀ call,runD call C ops env h [] []=some (env',h'::hs,rs)∧(rs.all (again call C (h'::hs).reverse))=true) (hg:GoP C ks env' h' Q):GoP C (.c (.draw ops)::ks) env h Q:=by
 refine ⟨0+1,.nrm,env',h',?_,hg⟩
 show xdraw (callFn (ex C 0) C) C ops env h=_
 unfold xdraw
 rw [(hr _).1]
 simp only [(hr _).2]
 rfl
section
variable {call:CallT} {C:Ctx} {env:T AV} {h:Heap} {hs:List Heap} {rs:List Rec} {r:List (XOper×DI)} {op:XOp} {d:Option Nat}
theorem runD_free {v:AV} {h':Heap} (e:xop call (eval C env) h op=.ok v h'):runD call C ((⟨d,op,none⟩,.free)::r) env h hs rs=runD call C r (put env d v) h hs rs:=by
 simp only [runD,wanted,e]
theorem runD_wr {v:AV} {h':Heap} (e:xop call (eval C env) h op=.ok v h'):runD call C ((⟨d,op,none⟩,.wr)::r) env h hs rs=runD call C r (put env d v) h' (h::hs) rs:=by
 simp only [runD,wanted,e]
theorem runD_rd {v:AV} {h':Heap} {lo hi:Nat} (e:xop call (eval C env) h op=.ok v h'):runD call C ((⟨d,op,none⟩,.rd lo hi)::r) env h hs rs=runD call C r (put env d v) h hs (⟨op,env,lo,hi,v⟩::rs):=by
 simp only [runD,wanted,e]
theorem runD_nil:runD call C [] env h hs rs=some (env,h::hs,rs):=rfl
end
end Go.Proofs.YtmadknpaljaecaaGreatDoor.Ev
namespace Go.Proofs.YtmadknpaljaecaaGreatDoor.Ev.D
open Go Go.Proofs.YtmadknpaljaecaaGreatDoor.Ev
set_option maxRecDepth 100000
def hB:Heap:=Heap.empty.new (.cells 2 .nilPtr (setL [(1,.nilSl)] .nil) 97 false)
def hB1:Heap:=hB.stB 0 0 (.ref 0 0)
theorem s138n:Does C 138 [.ref 0 0] hB (.tup []) hB1:=by
 refine does_any (fn:=X138) rfl rfl rfl ?_
 have q1:eqGV false .ptr .nilPtr .nilPtr hB=.ok (.bool true) hB:=rfl
 have q2:ldV false 1 (.ref 0 0) hB=.ok .nilPtr hB:=rfl
 have q3:cvPV 97 2 (.ref 0 0) hB=.ok (.ref 0 0) hB:=rfl
 have q4:stV 1 (.ref 0 0) (.ref 0 0) hB=.ok .undef hB1:=st1_cell (show 0 < hB.len 0 by decide) rfl
 simp (decide:=true) only [BZ,X138,x_eq,q1,q2,x_cvP,q3,q4]
 try exact ⟨back0n,rfl⟩
def hB2 (n:Nat):Heap:=((hB1.new (.cells n .dead .nil 5 true)).set 1 (.cells n .dead (wr .nil [] 0) 5 true))
def hB3 (n:Nat):Heap:=(hB2 n).stB 0 1 (.sl 1 0 0 1 none)
theorem s139 {n:Nat} (h0:0 < n) (hn:n≤1000000):Does C 139 [.ref 0 0,.int .i64 (n:Int)] hB1 (.tup []) (hB3 n):=by
 refine does_any (fn:=X139) rfl rfl rfl ?_
 have q1:ldV false 1 (.ref 0 1) hB1=.ok .nilSl hB1:=rfl
 have q2:ldV false 1 (.ref 0 1) (hB1.new (.cells n .dead .nil 5 true))=.ok .nilSl (hB1.new (.cells n .dead .nil 5 true)):=rfl
 have c1:∀ h,capSlV .nilSl h=.ok (.int .i64 0) h:=fun _=>rfl
 have w0:wrapF .i64 (2*0)=0:=rfl
 have w1:wrapF .i64 (0+(n:Int))=(n:Int):=by rw [i64_wrap (by omega) (by omega)];omega
 have m1:mkNZV 5 (.int .i64 (n:Int)) hB1=.ok (.sl 1 0 n 1 none) (hB1.new (.cells n .dead .nil 5 true)):=by
  show (bif Nat.ble n maxStr then _ else _)=_
  rw [Nat.ble_eq_true_of_le (Nat.le_trans hn (by decide)),cond_true];rfl
 have hb:bounds n n none (some (.int .i64 0))=some (0,0):=bounds_hi (b:=0) (Nat.zero_le _)
 have hne:Nat.beq 0 n=false:=by
  cases n with
  |zero=>omega
  |succ k=>rfl
 have sl:∀ h,slSlV 1 (.sl 1 0 n 1 none) none (some (.int .i64 0)) h=.ok (.sl 1 0 0 1 none) h:=fun h=>by
  unfold slSlV
  simp only [hb,hne]
  rfl
 have cp:cpyV 1 (.sl 1 0 0 1 none) .nilSl (hB1.new (.cells n .dead .nil 5 true))=.ok (.int .i64 0) (hB2 n):=by
  unfold cpyV
  have hg:(hB1.new (.cells n .dead .nil 5 true)).get 1=some (.cells n .dead .nil 5 true):=rfl
  simp only [lenOf,slCells,hg,Nat.min_self,Nat.zero_mul,Nat.add_zero,Nat.ble_eq_true_of_le (Nat.zero_le n),cond_true]
  rfl
 have q3:ldV false 1 (.ref 0 1) (hB1.new (.cells n .dead .nil 5 true))=.ok .nilSl (hB1.new (.cells n .dead .nil 5 true)):=rfl
 have q4:stV 1 (.ref 0 1) (.sl 1 0 0 1 none) (hB2 n)=.ok .undef (hB3 n):=st1_cell (show 1 < (hB2 n).len 0 from by show 1 < 2;decide) rfl
 simp only [X139]
 simp (decide:=true) only [BZ]
 refine go_drawR (env':=?E) (h':=hB1.new (.cells n .dead .nil 5 true)) (hs:=[hB1]) (rs:=?R) (fun call=>⟨?A,?B⟩) ?D
 case A=>
  rw [runD_free (v:=.ref 0 0) (h':=hB1) rfl,runD_free (v:=.ref 0 0) (h':=hB1) rfl,runD_free (v:=.ref 0 1) (h':=hB1) rfl,runD_rd (v:=.nilSl) (h':=hB1) rfl,runD_free (v:=.int .i64 0) (h':=hB1) rfl,runD_free (v:=.int .i64 0) (h':=hB1) rfl,runD_free (v:=.int .i64 (n:Int)) (h':=hB1) rfl,
   runD_free (v:=.int .i64 (n:Int)) (h':=hB1) ?_,runD_wr (v:=.sl 1 0 n 1 none) (h':=hB1.new (.cells n .dead .nil 5 true)) ?_,
   runD_free (v:=.ref 0 0) (h':=hB1.new (.cells n .dead .nil 5 true)) rfl,runD_free (v:=.ref 0 0) (h':=hB1.new (.cells n .dead .nil 5 true)) rfl,runD_free (v:=.ref 0 1) (h':=hB1.new (.cells n .dead .nil 5 true)) rfl,runD_rd (v:=.nilSl) (h':=hB1.new (.cells n .dead .nil 5 true)) rfl,runD_free (v:=.int .i64 0) (h':=hB1.new (.cells n .dead .nil 5 true)) rfl,
   runD_free (v:=.sl 1 0 0 1 none) (h':=hB1.new (.cells n .dead .nil 5 true)) ?_,runD_free (v:=.sl 1 0 0 1 none) (h':=hB1.new (.cells n .dead .nil 5 true)) rfl,runD_nil]
  ·simp (decide:=true) only [BZ,x_slSl,Option.map_none,Option.map_some,sl]
  ·simp (decide:=true) only [BZ,x_mkNZ,m1]
  ·simp (decide:=true) only [BZ,w1]
 case B=>rfl
 case D=>
  generalize hB1.new (.cells n .dead .nil 5 true)=H at q2 q3 cp ⊢
  generalize hB2 n=H2 at cp q4 ⊢
  generalize hB3 n=H3 at q4 ⊢
  simp (decide:=true) only [BZ,x_cpy,cp,q3,q4]
theorem bs0 {n:Nat} (hn:n≤1000000):BS (hB3 n) 1 n []:=by
 refine ⟨by decide,?_,?_,?_,?_,⟨.dead,.nil,true,?_,rfl⟩,Nat.zero_le _⟩
 ·show 1 < 2;decide
 ·rfl
 ·rfl
 ·rfl
 ·rfl
theorem s91 {n:Nat} (h0:0 < n) (hn:n≤1000000):Does C 91 [.ref 0 0,.int .i64 (n:Int)] hB (.tup []) (hB3 n):=by
 refine does_any (fn:=X91) rfl rfl rfl ?_
 have q1:ldV false 1 (.ref 0 1) hB1=.ok .nilSl hB1:=rfl
 have c1:∀ h,capSlV .nilSl h=.ok (.int .i64 0) h:=fun _=>rfl
 have w0:wrapF .i64 (0 - 0)=0:=rfl
 simp only [X91]
 simp (decide:=true) only [BZ,callG_of s138n,decide_eq_false (show ¬ (n:Int) < 0 by omega)]
 refine go_drawW rfl ?_
 simp (decide:=true) only [BZ,q1,x_capSl,c1,w0,decide_eq_true (show (0:Int) < (n:Int) by omega),callG_of (s139 h0 hn)]
end Go.Proofs.YtmadknpaljaecaaGreatDoor.Ev.D
namespace Go.Proofs.YtmadknpaljaecaaGreatDoor.Ev.D
open Go Go.Proofs.YtmadknpaljaecaaGreatDoor.Ev
set_option maxRecDepth 100000
theorem take_step {α:Type} {l:List α} {i:Nat} {c:α} (h:l[i]? =some c):l.take (i+1)=l.take i++[c]:=by
 rw [List.take_succ,h];rfl
theorem low_up {c:UInt8} (h:65≤c.toNat∧c.toNat≤90):wrapF .u8 (((c.toNat:Nat):Int)+32)=(((Rf.low c).toNat:Nat):Int):=by
 have e:(Rf.low c).toNat=c.toNat+32:=by
  rw [Rf.low,if_pos h,UInt8.toNat_add]
  show (c.toNat+32) % 256=_
  omega
 rw [e]
 show (((c.toNat:Nat):Int)+32) % 256=_
 omega
theorem low_no {c:UInt8} (h:¬ (65≤c.toNat∧c.toNat≤90)):Rf.low c=c:=by rw [Rf.low,if_neg h]
theorem map_low {l:List UInt8} (h:l.any Rf.isUp=false):l.map Rf.low=l:=by
 induction l with
 |nil=>rfl
 |cons a r ih=>
  rw [List.any_cons,Bool.or_eq_false_iff] at h
  rw [List.map_cons,ih h.2,low_no (fun hc=>by unfold Rf.isUp at h;rw [decide_eq_true hc] at h;exact absurd h.1 (by decide))]
theorem newB:(Heap.empty.new (.cells 2 .nilPtr (setL [(1,.nilSl)] .nil) 97 false))=hB:=rfl
theorem s104 {l:List UInt8} (hl:l.length≤1000000) (ha:∀ c∈l,c.toNat < 128) (h:Heap):Does C 104 [.str (BStr.ofBytes l)] h (.str (BStr.ofBytes (l.map Rf.low))) h:=by
 refine does_pure (fn:=X104) rfl rfl rfl (mapO_cons conv_str mapO_nil) ?_
 rw [show X104.body=.seq (seqH X104.body) (.seq (seqH (seqT 1 X104.body)) (.seq (seqH (seqT 2 X104.body)) (.seq (seqH (seqT 3 X104.body)) (seqT 4 X104.body)))) from rfl]
 generalize seqT 4 X104.body=R4
 generalize hR3:seqH (seqT 3 X104.body)=R3
 simp only [X104,seqT,seqH]
 simp (decide:=true) only [BZ]
 refine go_lp (fun n env h=>h=Heap.empty∧∃ i rest,l.drop i=rest∧n=rest.length∧i≤l.length∧env.at 0=.str (BStr.ofBytes l)∧env.at 3=.bool true∧env.at 4=.bool ((l.take i).any Rf.isUp)∧env.at 5=.int .i64 (i:Int))
  (fun env h=>h=Heap.empty∧env.at 0=.str (BStr.ofBytes l)∧env.at 3=.bool true∧env.at 4=.bool (l.any Rf.isUp)) (n:=l.length) ⟨rfl,0,l,rfl,rfl,Nat.zero_le _,?_⟩ ?_ ?_
 ·simp (decide:=true) only [BZ]
  all_goals first|rfl|trivial
 ·rintro n env h1 ⟨rfl,i,rest,hd,rfl,hi,a0,a3,a4,a5⟩
  cases rest with
  |nil=>
   have:=drop_nil hd
   rw [List.take_of_length_le this] at a4
   simp (decide:=true) only [BZ,a0,a3,a4,a5,decide_eq_false (show ¬ (i:Int) < (l.length:Int) by omega)]
  |cons c r=>
   obtain ⟨hil,hc,hd'⟩:=drop_cons hd
   have w1:wrapF .i64 ((i:Int)+1)=((i+1:Nat):Int):=by rw [i64_wrap (by omega) (by omega)];rfl
   have hlt:=decide_eq_true (show (i:Int) < (l.length:Int) by omega)
   have hc128:=ha c (List.mem_of_getElem? hc)
   have n128:=decide_eq_false (show ¬ (128:Int)≤((c.toNat:Nat):Int) by omega)
   have hn:(l.take (i+1)).any Rf.isUp=((l.take i).any Rf.isUp || Rf.isUp c):=by
    rw [take_step hc,List.any_append,List.any_cons,List.any_nil,Bool.or_false]
   have fin:∀ b:Bool,b=(l.take (i+1)).any Rf.isUp→∃ m,m < (c::r).length∧∃ j rest,l.drop j=rest∧m=rest.length∧j≤l.length∧b=(l.take j).any Rf.isUp∧((i+1:Nat):Int)=(j:Int):=
    fun b hb=>⟨r.length,Nat.lt_succ_self _,i+1,r,hd',rfl,hil,hb,rfl⟩
   cases hb:(l.take i).any Rf.isUp with
   |true=>
    rw [hb] at a4 hn
    simp (decide:=true) only [BZ,a0,a3,a4,a5,hlt,ixS_drop hd,n128,w1]
    exact fin true (by rw [hn];rfl)
   |false=>
    rw [hb,Bool.false_or] at hn
    rw [hb] at a4
    cases h65:decide ((65:Int)≤((c.toNat:Nat):Int)) with
    |false=>
     simp (decide:=true) only [BZ,a0,a3,a4,a5,hlt,ixS_drop hd,n128,w1,h65]
     exact fin false (by rw [hn];unfold Rf.isUp;rw [decide_eq_false];have:=of_decide_eq_false h65;omega)
    |true=>
     cases h90:decide (((c.toNat:Nat):Int)≤90) with
     |false=>
      simp (decide:=true) only [BZ,a0,a3,a4,a5,hlt,ixS_drop hd,n128,w1,h65,h90]
      exact fin false (by rw [hn];unfold Rf.isUp;rw [decide_eq_false];have:=of_decide_eq_false h90;omega)
     |true=>
      simp (decide:=true) only [BZ,a0,a3,a4,a5,hlt,ixS_drop hd,n128,w1,h65,h90]
      exact fin true (by rw [hn];unfold Rf.isUp;rw [decide_eq_true];have:=of_decide_eq_true h90;have:=of_decide_eq_true h65;omega)
 ·rintro env h1 ⟨rfl,a0,a3,a4⟩
  subst hR3
  simp only [X104,seqT,seqH]
  cases hu:l.any Rf.isUp with
  |false=>
   rw [hu] at a4
   simp (decide:=true) only [BZ,a0,a3,a4]
   rw [map_low hu]
  |true=>
   rw [hu] at a4
   have h0:0 < l.length:=by
    cases l with
    |nil=>cases hu
    |cons a r=>exact Nat.succ_pos _
   simp (decide:=true) only [BZ,a0,a3,a4,newB,callG_of (s91 h0 hl)]
   refine go_lp (fun n env h=>∃ i st w rest,l.drop i=rest∧n=rest.length∧BS h 1 l.length w∧w++(l.drop st).take (i - st)=(l.take i).map Rf.low∧st≤i∧i≤l.length∧env.at 0=.str (BStr.ofBytes l)∧env.at 7=.ref 0 0∧env.at 8=.int .i64 (st:Int)∧env.at 9=.int .i64 (i:Int))
    (fun env h=>∃ st w,BS h 1 l.length w∧w++l.drop st=l.map Rf.low∧st≤l.length∧env.at 0=.str (BStr.ofBytes l)∧env.at 7=.ref 0 0∧env.at 8=.int .i64 (st:Int)) (n:=l.length) ⟨0,0,[],l,rfl,rfl,bs0 hl,rfl,Nat.le_refl _,Nat.zero_le _,?_⟩ ?_ ?_
   ·simp (decide:=true) only [BZ,a0]
    all_goals first|rfl|trivial
   ·rintro n env h1 ⟨i,st,w,rest,hd,rfl,B,hw,hst,hi,a0,a7,a8,a9⟩
    cases rest with
    |nil=>
     have hle:=drop_nil hd
     have hie:i=l.length:=Nat.le_antisymm hi hle
     simp (decide:=true) only [BZ,a0,a7,a8,a9,decide_eq_false (show ¬ (i:Int) < (l.length:Int) by omega)]
     refine ⟨st,w,B,?_,by omega,rfl⟩
     rw [List.take_of_length_le (by rw [List.length_drop];omega),List.take_of_length_le hle] at hw
     exact hw
    |cons c r=>
     obtain ⟨hil,hc,hd'⟩:=drop_cons hd
     have w1:wrapF .i64 ((i:Int)+1)=((i+1:Nat):Int):=by rw [i64_wrap (by omega) (by omega)];rfl
     have hlt:=decide_eq_true (show (i:Int) < (l.length:Int) by omega)
     have hlen:w.length+((l.drop st).take (i - st)).length=i:=by
      have:=congrArg List.length hw
      rw [List.length_append,List.length_map,List.length_take (l:=l)] at this
      omega
     have hxl:((l.drop st).take (i - st)).length=i - st:=by rw [List.length_take,List.length_drop];omega
     have hmap:(l.take (i+1)).map Rf.low=(l.take i).map Rf.low++[Rf.low c]:=by rw [take_step hc,List.map_append];rfl
     have hnot:¬ (65≤c.toNat∧c.toNat≤90)→w++(l.drop st).take (i+1 - st)=(l.take (i+1)).map Rf.low:=fun hn=>by
      rw [hmap,← hw,show i+1 - st=i - st+1 by omega,take_step (c:=c) (by rw [List.getElem?_drop,show st+(i - st)=i by omega,hc]),low_no hn,List.append_assoc]
     cases h65:decide ((65:Int)≤((c.toNat:Nat):Int)) with
     |false=>
      have:=of_decide_eq_false h65
      simp (decide:=true) only [BZ,a0,a7,a8,a9,hlt,ixS_drop hd,w1,h65]
      refine ⟨r.length,Nat.lt_succ_self _,i+1,st,w,r,hd',rfl,B,hnot (by omega),by omega,hil,?_⟩
      simp (decide:=true) only [BZ,a0,a7,a8]
      all_goals trivial
     |true=>
      have g65:=of_decide_eq_true h65
      cases h90:decide (((c.toNat:Nat):Int)≤90) with
      |false=>
       have:=of_decide_eq_false h90
       simp (decide:=true) only [BZ,a0,a7,a8,a9,hlt,ixS_drop hd,w1,h65,h90]
       refine ⟨r.length,Nat.lt_succ_self _,i+1,st,w,r,hd',rfl,B,hnot (by omega),by omega,hil,?_⟩
       simp (decide:=true) only [BZ,a0,a7,a8]
       all_goals trivial
      |true=>
       have g90:=of_decide_eq_true h90
       have hw32:=low_up (c:=c) (by omega)
       by_cases hsi:st < i
       ·obtain ⟨v1,H1,d1,B1⟩:=s92 (s:=(l.drop st).take (i - st)) B (by omega)
        obtain ⟨v2,H2,d2,B2⟩:=s160 (c:=Rf.low c) B1 (by rw [List.length_append];omega)
        simp (decide:=true) only [BZ,a0,a7,a8,a9,hlt,ixS_drop hd,w1,h65,h90,hw32,decide_eq_true (show (st:Int) < (i:Int) by omega),Option.map_some,Option.map_none,slS_lohi hst hi,callG_of d1,callG_of d2]
        refine ⟨r.length,Nat.lt_succ_self _,i+1,i+1,_,r,hd',rfl,B2,?_,Nat.le_refl _,hil,?_⟩
        ·rw [Nat.sub_self,List.take_zero,List.append_nil,hw,hmap]
        ·simp (decide:=true) only [BZ,a0,a7]
         all_goals trivial
       ·have hse:st=i:=by omega
        subst hse
        rw [Nat.sub_self,List.take_zero,List.append_nil] at hw
        obtain ⟨v2,H2,d2,B2⟩:=s160 (c:=Rf.low c) B (by rw [hxl] at hlen;omega)
        simp (decide:=true) only [BZ,a0,a7,a8,a9,hlt,ixS_drop hd,w1,h65,h90,hw32,decide_eq_false (show ¬ (st:Int) < (st:Int) by omega),callG_of d2]
        refine ⟨r.length,Nat.lt_succ_self _,st+1,st+1,_,r,hd',rfl,B2,?_,Nat.le_refl _,hil,?_⟩
        ·rw [Nat.sub_self,List.take_zero,List.append_nil,hw,hmap]
        ·simp (decide:=true) only [BZ,a0,a7]
         all_goals trivial
   ·rintro env h1 ⟨st,w,B,hw,hst,a0,a7,a8⟩
    have hm:l.length≤maxStr:=Nat.le_trans hl (by decide)
    have hlen:w.length+(l.length - st)=l.length:=by
     have:=congrArg List.length hw
     rwa [List.length_append,List.length_map,List.length_drop] at this
    have hne:l.map Rf.low≠[]:=by
     intro he
     have:=congrArg List.length he
     rw [List.length_map] at this
     simp at this
     rw [this] at h0
     exact absurd h0 (Nat.lt_irrefl _)
    by_cases hsl:st < l.length
    ·obtain ⟨v1,H1,d1,B1⟩:=s92 (s:=l.drop st) B (by rw [List.length_drop];omega)
     rw [hw] at B1
     obtain ⟨H2,d2⟩:=s94 B1 hm hne
     simp (decide:=true) only [BZ,a0,a7,a8,decide_eq_true (show (st:Int) < (l.length:Int) by omega),Option.map_some,Option.map_none,slS_lo hst,callG_of d1,callG_of d2]
    ·rw [List.drop_eq_nil_of_le (by omega),List.append_nil] at hw
     rw [hw] at B
     obtain ⟨H2,d2⟩:=s94 B hm hne
     simp (decide:=true) only [BZ,a0,a7,a8,decide_eq_false (show ¬ (st:Int) < (l.length:Int) by omega),callG_of d2]
end Go.Proofs.YtmadknpaljaecaaGreatDoor.Ev.D
namespace Go.Proofs.YtmadknpaljaecaaGreatDoor.Rf
def it3 (k:Nat):List UInt8:=if k < 10 then [UInt8.ofNat (48+k)] else if k < 100 then [UInt8.ofNat (48+k / 10),UInt8.ofNat (48+k % 10)] else [UInt8.ofNat (48+k / 100),UInt8.ofNat (48+k / 10 % 10),UInt8.ofNat (48+k % 10)]
end Go.Proofs.YtmadknpaljaecaaGreatDoor.Rf
namespace Go.Proofs.YtmadknpaljaecaaGreatDoor.Ev.D
open Go Go.Proofs.YtmadknpaljaecaaGreatDoor.Ev
noncomputable def itP (k:Nat):Bool:=isVal (callF (exF C 100000000) C 62 [.int .i64 (.ofNat k)] .empty) (.str (BStr.ofBytes (Rf.it3 k)))
noncomputable def itN (k:Nat):Bool:=isVal (callF (exF C 100000000) C 62 [.int .i64 (.negSucc k)] .empty) (.str (BStr.ofBytes (45::Rf.it3 (k+1))))
def allFrom (f:Nat→Bool):Nat→Nat→Bool
 |0,_=>true
 |n+1,a=>f a && allFrom f n (a+1)
end Go.Proofs.YtmadknpaljaecaaGreatDoor.Ev.D
namespace Go.Proofs.YtmadknpaljaecaaGreatDoor.Ev.D
open Go Go.Proofs.YtmadknpaljaecaaGreatDoor.Ev
noncomputable def spP (k:Nat):Bool:=isVal (callF (exF C 100000000) C 50 [.str (BStr.ofBytes [UInt8.ofNat k])] .empty) (.bool (Rf.spc (UInt8.ofNat k)))
set_option maxRecDepth 1000000
theorem spP0:allFrom spP 256 0=true:=by kernel_rfl
end Go.Proofs.YtmadknpaljaecaaGreatDoor.Ev.D
namespace Go.Proofs.YtmadknpaljaecaaGreatDoor.Ev.D
open Go Go.Proofs.YtmadknpaljaecaaGreatDoor.Ev
set_option maxRecDepth 1000000
theorem itP0:allFrom itP 100 0=true:=by kernel_rfl
theorem itP1:allFrom itP 100 100=true:=by kernel_rfl
theorem itP2:allFrom itP 100 200=true:=by kernel_rfl
theorem itP3:allFrom itP 101 300=true:=by kernel_rfl
theorem itN0:allFrom itN 100 0=true:=by kernel_rfl
theorem itN1:allFrom itN 100 100=true:=by kernel_rfl
theorem itN2:allFrom itN 100 200=true:=by kernel_rfl
theorem itN3:allFrom itN 100 300=true:=by kernel_rfl
end Go.Proofs.YtmadknpaljaecaaGreatDoor.Ev.D
namespace Go.Proofs.YtmadknpaljaecaaGreatDoor.Ev.D
open Go Go.Proofs.YtmadknpaljaecaaGreatDoor.Ev
theorem allFrom_get (f:Nat→Bool):∀ (n a i:Nat),allFrom f n a=true→a≤i→i < a+n→f i=true
 |0,a,i,_,h1,h2=>by omega
 |n+1,a,i,h,h1,h2=>by
  rw [allFrom,Bool.and_eq_true] at h
  rcases Nat.eq_or_lt_of_le h1 with rfl|h3
  ·exact h.1
  ·exact allFrom_get f n (a+1) i h.2 h3 (by omega)
theorem s62p {k:Nat} (hk:k≤400) (h:Heap):Does C 62 [.int .i64 (k:Int)] h (.str (BStr.ofBytes (Rf.it3 k))) h:=by
 have hq:itP k=true:=by
  rcases Nat.lt_or_ge k 100 with h1|h1
  ·exact allFrom_get _ _ _ _ itP0 (Nat.zero_le _) (by omega)
  rcases Nat.lt_or_ge k 200 with h2|h2
  ·exact allFrom_get _ _ _ _ itP1 h1 (by omega)
  rcases Nat.lt_or_ge k 300 with h3|h3
  ·exact allFrom_get _ _ _ _ itP2 h2 (by omega)
  ·exact allFrom_get _ _ _ _ itP3 h3 (by omega)
 exact does_val (fn:=X62) rfl rfl rfl (fun _=>mapO_cons conv_int mapO_nil) hq h
theorem s62n {k:Nat} (hk:k < 400) (h:Heap):Does C 62 [.int .i64 (Int.negSucc k)] h (.str (BStr.ofBytes (45::Rf.it3 (k+1)))) h:=by
 have hq:itN k=true:=by
  rcases Nat.lt_or_ge k 100 with h1|h1
  ·exact allFrom_get _ _ _ _ itN0 (Nat.zero_le _) (by omega)
  rcases Nat.lt_or_ge k 200 with h2|h2
  ·exact allFrom_get _ _ _ _ itN1 h1 (by omega)
  rcases Nat.lt_or_ge k 300 with h3|h3
  ·exact allFrom_get _ _ _ _ itN2 h2 (by omega)
  ·exact allFrom_get _ _ _ _ itN3 h3 (by omega)
 exact does_val (fn:=X62) rfl rfl rfl (fun _=>mapO_cons conv_int mapO_nil) hq h
end Go.Proofs.YtmadknpaljaecaaGreatDoor.Ev.D
namespace Go.Proofs.YtmadknpaljaecaaGreatDoor.Rf
def itz (n:Int):List UInt8:=if n < 0 then 45::it3 n.natAbs else it3 n.natAbs
end Go.Proofs.YtmadknpaljaecaaGreatDoor.Rf
namespace Go.Proofs.YtmadknpaljaecaaGreatDoor.Ev.D
open Go Go.Proofs.YtmadknpaljaecaaGreatDoor.Ev
theorem s62 {n:Int} (h1:-400≤n) (h2:n≤400) (h:Heap):Does C 62 [.int .i64 n] h (.str (BStr.ofBytes (Rf.itz n))) h:=by
 cases n with
 |ofNat k=>exact s62p (k:=k) (by have:(k:Int)≤400:=h2;omega) h
 |negSucc k=>
  have e:Rf.itz (Int.negSucc k)=45::Rf.it3 (k+1):=by
   unfold Rf.itz
   rw [if_pos (Int.negSucc_lt_zero k)];rfl
  rw [e]
  exact s62n (k:=k) (by omega) h
end Go.Proofs.YtmadknpaljaecaaGreatDoor.Ev.D
namespace Go.Proofs.YtmadknpaljaecaaGreatDoor.Ev.D
open Go Go.Proofs.YtmadknpaljaecaaGreatDoor.Ev
theorem s50 {c:UInt8} (h:Heap):Does C 50 [.str (BStr.ofBytes [c])] h (.bool (Rf.spc c)) h:=by
 have hq:=allFrom_get _ _ _ c.toNat spP0 (Nat.zero_le _) (by have:=c.toNat_lt;omega)
 have e:UInt8.ofNat c.toNat=c:=by simp
 unfold spP at hq
 rw [e] at hq
 exact does_val (fn:=X50) rfl rfl rfl (fun _=>mapO_cons conv_str mapO_nil) hq h
noncomputable def infP:Bool:=isVal (callF (exF C 100000000) C 44 [.int .i64 1] .empty) (.float .f64 9218868437227405312) && isVal (callF (exF C 100000000) C 44 [.int .i64 (-1)] .empty) (.float .f64 18442240474082181120)
theorem infP0:infP=true:=by kernel_rfl
theorem s44p (h:Heap):Does C 44 [.int .i64 1] h (.float .f64 9218868437227405312) h:=by
 have hq:=infP0
 unfold infP at hq
 rw [Bool.and_eq_true] at hq
 exact does_val (fn:=X44) rfl rfl rfl (fun _=>mapO_cons conv_int mapO_nil) hq.1 h
theorem s44n (h:Heap):Does C 44 [.int .i64 (-1)] h (.float .f64 18442240474082181120) h:=by
 have hq:=infP0
 unfold infP at hq
 rw [Bool.and_eq_true] at hq
 exact does_val (fn:=X44) rfl rfl rfl (fun _=>mapO_cons conv_int mapO_nil) hq.2 h
end Go.Proofs.YtmadknpaljaecaaGreatDoor.Ev.D
namespace Go.Proofs.YtmadknpaljaecaaGreatDoor.Ev
open Go
def cvSBV (elem:Nat) (x:AV) (h:Heap):OpR:=match x with
 |.str s=>newCells h s.n (byteAVs s.bytes) elem true fun b=>.sl b 0 s.n 1 none
 |_=>.no 70
theorem x_cvSB {call:CallT} {ρ:XO→AV} {h:Heap} {e:Nat} {x:XO}:xop call ρ h (.g (.cvSB e x))=cvSBV e (ρ x) h:=rfl
def sbH (l:List UInt8):Heap:=Heap.empty.new (.cells l.length .undef (wr .nil (byteAVs (l.map UInt8.toNat)) 0) 5 true)
theorem cvSB_of {l:List UInt8}:cvSBV 5 (.str (BStr.ofBytes l)) Heap.empty=.ok (.sl 0 0 l.length 1 none) (sbH l):=by
 show newCells Heap.empty (BStr.ofBytes l).n (byteAVs (BStr.ofBytes l).bytes) 5 true (fun b=>.sl b 0 (BStr.ofBytes l).n 1 none)=_
 rw [BStr.ofBytes_n,show (BStr.ofBytes l).bytes=l.map UInt8.toNat from BStr.bytes_eq l];rfl
theorem byteAVs_drop:∀ (l:List UInt8) (i:Nat) (c:UInt8) (r:List UInt8),l.drop i=c::r→(byteAVs (l.map UInt8.toNat))[i]? =some (.int .u8 ((c.toNat:Nat):Int))
 |[],i,c,r,h=>by rw [List.drop_nil] at h;cases h
 |a::l,0,c,r,h=>by cases h;rfl
 |a::l,i+1,c,r,h=>by
  rw [List.drop_succ_cons] at h
  show (byteAVs (l.map UInt8.toNat))[i]? =_
  exact byteAVs_drop l i c r h
theorem sbH_cell {l:List UInt8} {i:Nat} {c:UInt8} {r:List UInt8} (h:l.drop i=c::r):(sbH l).cell 0 i=.int .u8 ((c.toNat:Nat):Int):=by
 have hi:=(drop_cons h).1
 show ((wr .nil (byteAVs (l.map UInt8.toNat)) 0).get i).getD .undef=_
 rw [get_wr,if_pos ⟨Nat.zero_le _,by rw [byteAVs_len,List.length_map];omega⟩,Nat.sub_zero,byteAVs_drop l i c r h];rfl
theorem sbH_len {l:List UInt8}:(sbH l).len 0=l.length:=rfl
end Go.Proofs.YtmadknpaljaecaaGreatDoor.Ev
namespace Go.Proofs.YtmadknpaljaecaaGreatDoor.Ev.D
open Go Go.Proofs.YtmadknpaljaecaaGreatDoor.Ev
set_option maxRecDepth 100000
theorem s110 {l:List UInt8} (h1:l.length≤10) (hne:l≠[]) (hd:l.all Rf.isD=true) (h:Heap):Does C 110 [.str (BStr.ofBytes l)] h (.tup [.int .i64 (Rf.dval l 0:Nat),.nilIf]) h:=by
 refine does_pure (fn:=X110) rfl rfl rfl (mapO_cons conv_str mapO_nil) ?_
 have hp:0 < l.length:=List.length_pos_iff.2 hne
 obtain ⟨c0,r0,hl0⟩:∃ c r,l=c::r:=by
  cases l with
  |nil=>exact (hne rfl).elim
  |cons c r=>exact ⟨c,r,rfl⟩
 have hc0:48≤c0.toNat∧c0.toNat≤57:=by
  rw [hl0,List.all_cons,Bool.and_eq_true] at hd
  exact isD_iff.1 hd.1
 have ix:=fun h=>ixS_drop (h:=h) (k:=.i64) (l:=l) (i:=0) (c:=c0) (r:=r0) hl0
 have e45:=decide_eq_false (show ¬ ((c0.toNat:Nat):Int)=45 by omega)
 have e43:=decide_eq_false (show ¬ ((c0.toNat:Nat):Int)=43 by omega)
 have ix':∀ h,ixSV (.str (BStr.ofBytes l)) (.int .i64 0) h=.ok (.int .u8 ((c0.toNat:Nat):Int)) h:=ix
 simp only [X110]
 simp (decide:=true) only [BZ,decide_eq_true (show (0:Int) < (l.length:Int) by omega),decide_eq_true (show (l.length:Int) < 19 by omega),ix',e45,e43,x_cvSB,cvSB_of]
 refine go_lp (fun n env h=>h=sbH l∧∃ i rest,l.drop i=rest∧n=rest.length∧i≤l.length∧env.at 0=.str (BStr.ofBytes l)∧env.at 5=.str (BStr.ofBytes l)∧env.at 6=.int .i64 (Rf.dval (l.take i) 0:Nat)∧env.at 47=.sl 0 0 l.length 1 none∧env.at 48=.int .i64 (l.length:Int)∧env.at 49=.int .i64 (i:Int))
  (fun env h=>env.at 5=.str (BStr.ofBytes l)∧env.at 6=.int .i64 (Rf.dval l 0:Nat)) (n:=l.length) ⟨rfl,0,l,rfl,rfl,Nat.zero_le _,?_⟩ ?_ ?_
 ·simp (decide:=true) only [BZ]
  all_goals first|rfl|trivial
 ·rintro n env h1 ⟨rfl,i,rest,hdr,rfl,hi,a0,a5,a6,a47,a48,a49⟩
  cases rest with
  |nil=>
   have:=drop_nil hdr
   rw [List.take_of_length_le this] at a6
   simp (decide:=true) only [BZ,a0,a5,a6,a47,a48,a49,decide_eq_false (show ¬ (i:Int) < (l.length:Int) by omega)]
  |cons c r=>
   obtain ⟨hil,hc,hd'⟩:=drop_cons hdr
   have hcd:48≤c.toNat∧c.toNat≤57:=isD_iff.1 (List.all_eq_true.1 hd c (List.mem_of_getElem? hc))
   have w1:wrapF .i64 ((i:Int)+1)=((i+1:Nat):Int):=by rw [i64_wrap (by omega) (by omega)];rfl
   have hlt:=decide_eq_true (show (i:Int) < (l.length:Int) by omega)
   have wd:wrapF .u8 (((c.toNat:Nat):Int) - 48)=((c.toNat - 48:Nat):Int):=by
    rw [show ((c.toNat:Nat):Int) - 48=((c.toNat - 48:Nat):Int) by omega]
    show ((c.toNat - 48:Nat):Int) % 256=_
    omega
   have wi:wrapF .i64 ((c.toNat - 48:Nat):Int)=((c.toNat - 48:Nat):Int):=i64_wrap (by omega) (by omega)
   have hv:Rf.dval (l.take (i+1)) 0=Rf.dval (l.take i) 0*10+(c.toNat - 48):=by
    rw [List.take_succ,hc,Rf.dval_append];rfl
   have hvb:Rf.dval (l.take (i+1)) 0 < 10 ^ 10:=by
    refine Nat.lt_of_lt_of_le (Rf.dval_lt _ ?_) (Nat.pow_le_pow_right (by decide) (by rw [List.length_take];omega))
    rw [List.all_eq_true] at hd ⊢
    exact fun x hx=>hd x (List.mem_of_mem_take hx)
   have hvb2:Rf.dval (l.take i) 0*10+(c.toNat - 48) < 10000000000:=by rw [← hv];exact hvb
   obtain ⟨V,hV⟩:∃ V,Rf.dval (l.take i) 0=V:=⟨_,rfl⟩
   rw [hV] at hv hvb2 a6
   have wm:wrapF .i64 ((V:Int)*10)=((V*10:Nat):Int):=by rw [i64_wrap (by omega) (by omega)];omega
   have wa:wrapF .i64 (((V*10:Nat):Int)+((c.toNat - 48:Nat):Int))=((V*10+(c.toNat - 48):Nat):Int):=by rw [i64_wrap (by omega) (by omega)];omega
   have ld:=ld1_cell (h:=sbH l) (b:=0) (i:=i) (by rw [sbH_len];exact hil)
   rw [sbH_cell hdr] at ld
   simp (decide:=true) only [BZ,a0,a5,a6,a47,a48,a49,hlt,iaS_sl hil,Nat.mul_one,ld,wd,decide_eq_false (show ¬ (9:Int) < ((c.toNat - 48:Nat):Int) by omega),wi,wm,wa,w1]
   refine ⟨r.length,Nat.lt_succ_self _,i+1,r,hd',rfl,hil,?_,rfl⟩
   rw [hv]
 ·rintro env h1 ⟨a5,a6⟩
  simp (decide:=true) only [BZ,a5,a6,ix',e45]
  try exact ⟨rfl,rfl⟩
theorem s61 {l:List UInt8} (h1:l.length≤10) (hne:l≠[]) (hd:l.all Rf.isD=true) (h:Heap):Does C 61 [.str (BStr.ofBytes l)] h (.tup [.int .i64 (Rf.dval l 0:Nat),.nilIf]) h:=by
 refine does_pure (fn:=X61) rfl rfl rfl (mapO_cons conv_str mapO_nil) ?_
 have q1:∀ n ts h,eqGV n (.iface true ts) .nilIf .nilIf h=.ok (.bool (bif n then false else true)) h:=fun n ts h=>by cases n <;> rfl
 simp (decide:=true) only [BZ,X61,callG_of (s110 h1 hne hd _),q1,cond_true]
 try exact ⟨rfl,rfl⟩
end Go.Proofs.YtmadknpaljaecaaGreatDoor.Ev.D
namespace Go.Proofs.YtmadknpaljaecaaGreatDoor.Rf
theorem dAt_full {l:List UInt8} (h:dAt l=l.length):l.all isD=true:=by
 have:=dAt_all l
 rwa [h,List.take_length] at this
structure Num where
 w:List UInt8
 p:List UInt8
 pt:Bool
 tail:List UInt8
 r:List UInt8
def Num.mant (n:Num):List UInt8:=n.w++(if n.pt then 46::n.p else [])
structure Num.ok (n:Num) (b:List UInt8):Prop where
 eq:b=n.mant++n.tail
 pt0:n.pt=false→n.p=[]
 wd:n.w.all isD=true
 pd:n.p.all isD=true
 ne:n.w≠[]∨n.p≠[]
 tl:(n.tail=[]∧n.r=[])∨∃ c:UInt8,(c.toNat=101∨c.toNat=69)∧n.tail=c::n.r∧sgnD n.r≠[]
 rd:(sgnD n.r).all isD=true
theorem isNum_shape {l:List UInt8} (h:isNum l=true):∃ n:Num,n.ok (sgnD l)∧expo n.tail=some (n.r.head? == some 45,sgnD n.r)∧n.w=(parts (sgnD l)).w∧n.p=(parts (sgnD l)).p∧n.tail=(parts (sgnD l)).rest:=by
 unfold isNum at h
 obtain ⟨b,hb⟩:∃ b,sgnD l=b:=⟨_,rfl⟩
 rw [hb] at h ⊢
 rw [Bool.and_eq_true] at h
 obtain ⟨h1,h2⟩:=h
 have hshape:∃ pt,b=(parts b).w++(if pt then 46::(parts b).p else [])++(parts b).rest∧(pt=false→(parts b).p=[])∧(parts b).w.all isD=true∧(parts b).p.all isD=true:=by
  have hb:=List.take_append_drop (dAt b) b
  have hw:=dAt_all b
  cases hd:b.drop (dAt b) with
  |nil=>
   have e:parts b=⟨b.take (dAt b),false,[],[]⟩:=by unfold parts;rw [hd]
   rw [e]
   rw [hd,List.append_nil] at hb
   exact ⟨false,by simp [hb],fun _=>rfl,hw,rfl⟩
  |cons c q=>
   rw [hd] at hb
   by_cases h46:c=46
   ·subst h46
    have e:parts b=⟨b.take (dAt b),true,q.take (dAt q),q.drop (dAt q)⟩:=by unfold parts;rw [hd];rfl
    rw [e]
    refine ⟨true,?_,(fun h=>by cases h),hw,dAt_all q⟩
    simp only [if_true,List.append_assoc,List.cons_append,List.take_append_drop]
    exact hb.symm
   ·have e:parts b=⟨b.take (dAt b),false,[],c::q⟩:=by unfold parts;rw [hd];simp only;rw [if_neg h46]
    rw [e]
    exact ⟨false,by simp [hb],fun _=>rfl,hw,rfl⟩
 obtain ⟨pt,e1,e2,e3,e4⟩:=hshape
 have hne:(parts b).w≠[]∨(parts b).p≠[]:=by
  by_cases hw:(parts b).w=[]
  ·refine .inr fun hp=>?_
   rw [hw,hp] at h1
   simp at h1
  ·exact .inl hw
 cases hr:(parts b).rest with
 |nil=>
  rw [hr] at e1
  exact ⟨⟨(parts b).w,(parts b).p,pt,[],[]⟩,⟨e1,e2,e3,e4,hne,.inl ⟨rfl,rfl⟩,rfl⟩,rfl,rfl,rfl,rfl⟩
 |cons c r=>
  rw [hr] at h2 e1
  have hx:expo (c::r)=(if c.toNat=101∨c.toNat=69 then (if sgnD r≠[]∧dAt (sgnD r)=(sgnD r).length then some (r.head? == some 45,sgnD r) else none) else none):=rfl
  by_cases hc:c.toNat=101∨c.toNat=69
  ·rw [if_pos hc] at hx
   by_cases hs:sgnD r≠[]∧dAt (sgnD r)=(sgnD r).length
   ·rw [if_pos hs] at hx
    exact ⟨⟨(parts b).w,(parts b).p,pt,c::r,r⟩,⟨e1,e2,e3,e4,hne,.inr ⟨c,hc,rfl,hs.1⟩,dAt_full hs.2⟩,hx,rfl,rfl,rfl⟩
   ·rw [if_neg hs] at hx;rw [hx] at h2;cases h2
  ·rw [if_neg hc] at hx;rw [hx] at h2;cases h2
theorem isD_bnd {c:UInt8} (h:isD c=true):48≤c.toNat∧c.toNat≤57:=by
 unfold isD at h;simpa using h
theorem low_id {l:List UInt8} (h:∀ c∈l,c.toNat≤57):l.map low=l:=by
 induction l with
 |nil=>rfl
 |cons a r ih=>
  rw [List.map_cons,ih fun c hc=>h c (List.mem_cons_of_mem _ hc)]
  have:=h a (List.mem_cons_self ..)
  rw [low,if_neg (by omega)]
theorem sgn_small {r:List UInt8} (h:(sgnD r).all isD=true):∀ c∈r,c.toNat≤57:=by
 intro c hc
 cases r with
 |nil=>cases hc
 |cons a q=>
  rw [sgnD] at h
  by_cases ha:a.toNat=43∨a.toNat=45
  ·rw [if_pos ha] at h
   rcases List.mem_cons.1 hc with rfl|hm
   ·omega
   ·exact (isD_bnd (List.all_eq_true.1 h c hm)).2
  ·rw [if_neg ha] at h
   exact (isD_bnd (List.all_eq_true.1 h c hc)).2
theorem mant_small {n:Num} {b:List UInt8} (h:n.ok b):∀ c∈n.mant,c.toNat≤57:=by
 intro c hc
 unfold Num.mant at hc
 rcases List.mem_append.1 hc with hm|hm
 ·exact (isD_bnd (List.all_eq_true.1 h.wd c hm)).2
 ·cases hp:n.pt with
  |false=>rw [hp] at hm;cases hm
  |true=>
   rw [hp,if_pos rfl] at hm
   rcases List.mem_cons.1 hm with rfl|hm
   ·decide
   ·exact (isD_bnd (List.all_eq_true.1 h.pd c hm)).2
theorem num_ascii {n:Num} {b:List UInt8} (h:n.ok b):∀ c∈b,c.toNat < 128:=by
 intro c hc
 rw [h.eq] at hc
 rcases List.mem_append.1 hc with hm|hm
 ·have:=mant_small h c hm;omega
 ·rcases h.tl with ⟨e,_⟩|⟨a,ha,e,_⟩
  ·rw [e] at hm;cases hm
  ·rw [e] at hm
   rcases List.mem_cons.1 hm with rfl|hm
   ·omega
   ·have:=sgn_small h.rd c hm;omega
theorem num_cut {n:Num} {b:List UInt8} (h:n.ok b):cutA 101 (b.map low)=n.mant∧cutB 101 (b.map low)=n.r∧cutA 46 n.mant=n.w∧cutB 46 n.mant=n.p:=by
 have hm:=mant_small h
 have hne:∀ x∈n.mant,x≠101:=by
  rintro x hx rfl
  exact absurd (hm _ hx) (by decide)
 have hlow:b.map low=n.mant++n.tail.map low:=by rw [h.eq,List.map_append,low_id hm]
 have h46:∀ x∈n.w,x≠46:=by
  rintro x hx rfl
  exact absurd (List.all_eq_true.1 h.wd _ hx) (by decide)
 have second:cutA 46 n.mant=n.w∧cutB 46 n.mant=n.p:=by
  unfold Num.mant
  cases hp:n.pt with
  |false=>
   rw [if_neg (by decide),List.append_nil,h.pt0 hp]
   exact ⟨(cut_out h46).1,(cut_out h46).2.1⟩
  |true=>
   rw [if_pos rfl]
   exact ⟨(cut_in h46).1,(cut_in h46).2.1⟩
 rw [hlow]
 rcases h.tl with ⟨e,e2⟩|⟨a,ha,e,_⟩
 ·rw [e,e2,List.map_nil,List.append_nil]
  exact ⟨(cut_out hne).1,(cut_out hne).2.1,second⟩
 ·have hl:low a=101:=by
   rcases ha with ha|ha
   ·rw [low,if_neg (by omega)];exact UInt8.toNat_inj.1 ha
   ·rw [low,if_pos (by omega)]
    apply UInt8.toNat_inj.1
    rw [UInt8.toNat_add,ha];rfl
  rw [e,List.map_cons,hl,low_id (sgn_small h.rd)]
  exact ⟨(cut_in hne).1,(cut_in hne).2.1,second⟩
theorem tl_all {c:UInt8} {l:List UInt8} (h:l.all isD=true):(tl c l).all isD=true:=by
 induction l with
 |nil=>rfl
 |cons a r ih=>
  rw [tl]
  rw [List.all_cons,Bool.and_eq_true] at h
  split
  ·exact ih h.2
  ·rw [List.all_cons,h.1,h.2];rfl
theorem tl_dval {l:List UInt8}:dval (tl 48 l) 0=dval l 0:=by
 induction l with
 |nil=>rfl
 |cons a r ih=>
  rw [tl]
  split
  ·rename_i e;subst e;exact ih
  ·rfl
theorem tl_ge {l:List UInt8} (h:l.all isD=true) (hne:tl 48 l≠[]):10 ^ ((tl 48 l).length - 1)≤dval (tl 48 l) 0:=by
 induction l with
 |nil=>exact (hne rfl).elim
 |cons a r ih=>
  rw [List.all_cons,Bool.and_eq_true] at h
  rw [tl] at hne ⊢
  split
  ·rename_i e
   rw [if_pos e] at hne
   exact ih h.2 hne
  ·rename_i e
   have hb:=isD_bnd h.1
   have ha:49≤a.toNat:=by
    rcases Nat.eq_or_lt_of_le hb.1 with h0|h0
    ·exact (e (UInt8.toNat_inj.1 h0.symm)).elim
    ·exact h0
   rw [dval,dval_acc,List.length_cons,Nat.add_sub_cancel]
   have:1*10 ^ r.length≤(0*10+(a.toNat - 48))*10 ^ r.length:=Nat.mul_le_mul_right _ (by omega)
   omega
theorem it3_all {k:Nat} (h:k≤400):(it3 k).all isD=true∧it3 k≠[]∧dval (it3 k) 0=k:=by
 have hn:∀ x,x < 10→(UInt8.ofNat (48+x)).toNat=48+x:=fun x hx=>by
  rw [UInt8.toNat_ofNat',Nat.mod_eq_of_lt (by omega)]
 have hD:∀ x,x < 10→isD (UInt8.ofNat (48+x))=true:=fun x hx=>by
  unfold isD;rw [hn x hx];simp;omega
 unfold it3
 split
 ·refine ⟨by simp only [List.all_cons,List.all_nil,hD k (by omega),Bool.and_self],by simp,?_⟩
  simp only [dval,hn k (by omega)];omega
 ·split
  ·refine ⟨by simp only [List.all_cons,List.all_nil,hD (k / 10) (by omega),hD (k % 10) (by omega),Bool.and_self],by simp,?_⟩
   simp only [dval,hn (k / 10) (by omega),hn (k % 10) (by omega)];omega
  ·refine ⟨by simp only [List.all_cons,List.all_nil,hD (k / 100) (by omega),hD (k / 10 % 10) (by omega),hD (k % 10) (by omega),Bool.and_self],by simp,?_⟩
   simp only [dval,hn (k / 100) (by omega),hn (k / 10 % 10) (by omega),hn (k % 10) (by omega)];omega
theorem near_hi {D n:Nat} {P:Int} (hn:0 < n) (hD:10 ^ (n - 1)≤D) (hP:311 < P):Us.Near (Us.nn D (P - n)) (Us.mm (P - n)) Fl.inf:=by
 have hm:0 < D / 10 ^ (n - 1):=Nat.div_pos hD (Nat.pow_pos (by decide))
 have:=near_cut (m:=D / 10 ^ (n - 1)) (k:=n - 1) (ρ:=D % 10 ^ (n - 1)) (p:=P - 1) (Nat.mod_lt _ (Nat.pow_pos (by decide))) (near_top hm (by omega)) (near_top (Nat.succ_pos _) (by omega))
 rw [Nat.mul_comm,Nat.div_add_mod,show P - 1 - ((n - 1:Nat):Int)=P - n by omega] at this
 exact this
theorem near_lo {D n:Nat} {P:Int} (hD:D < 10 ^ n) (hP:P < -345):Us.Near (Us.nn D (P - n)) (Us.mm (P - n)) 0:=by
 have:=near_bot (m:=0) (k:=n) (ρ:=D) (p:=P) (Nat.pow_pos (by decide)) hD hP
 rwa [Nat.zero_mul,Nat.zero_add] at this
theorem near_clamp {D n r:Nat} {c P:Int} (hn:0 < n) (h1:10 ^ (n - 1)≤D) (h2:D < 10 ^ n) (hc:c=P∨(c=400∧400 < P)∨(c=-400∧P < -400)) (H:Us.Near (Us.nn D (c - n)) (Us.mm (c - n)) r):Us.Near (Us.nn D (P - n)) (Us.mm (P - n)) r:=by
 rcases hc with rfl|⟨rfl,h⟩|⟨rfl,h⟩
 ·exact H
 ·have e:=Us.Near.uniq (Us.mm_pos _) H (near_hi hn h1 (by omega))
  rw [e];exact near_hi hn h1 (by omega)
 ·have e:=Us.Near.uniq (Us.mm_pos _) H (near_lo h2 (by omega))
  rw [e];exact near_lo h2 (by omega)
end Go.Proofs.YtmadknpaljaecaaGreatDoor.Rf
namespace Go.Proofs.YtmadknpaljaecaaGreatDoor.Ev.D
open Go Go.Proofs.YtmadknpaljaecaaGreatDoor.Ev
set_option maxRecDepth 100000
theorem itz_post {c:Int} (h1:-400≤c) (h2:c≤400):Post (101::Rf.itz c) c∧(Rf.itz c).length≤4:=by
 obtain ⟨k,hk⟩:∃ k,c.natAbs=k:=⟨_,rfl⟩
 obtain ⟨a1,a2,a3⟩:=Rf.it3_all (k:=k) (by omega)
 have ex:Rf.exv (Rf.it3 k) 0=k:=by rw [Rf.exv_small _ _ a1 (by omega),a3]
 have hl:(Rf.it3 k).length≤3:=by unfold Rf.it3;split <;> (try split) <;> simp
 unfold Rf.itz
 rw [hk]
 split
 ·refine ⟨.inr ⟨Rf.it3 k,a2,a1,.inr ⟨rfl,?_⟩⟩,by simpa using hl⟩
  rw [ex];omega
 ·refine ⟨.inr ⟨Rf.it3 k,a2,a1,.inl ⟨rfl,?_⟩⟩,by omega⟩
  rw [ex];omega
theorem near_text {t:List UInt8} {c:Int} (ht:t.all Rf.isD=true) (hl:t.length≤400) (h1:-400≤c) (h2:c≤400):
  ∃ r e2,(Rf.dval t 0=0→r=0)∧(0 < Rf.dval t 0→Us.Near (Us.nn (Rf.dval t 0) (c - t.length)) (Us.mm (c - t.length)) r)∧∀ h,Does C 96 [.str (BStr.ofBytes ([48,46]++t++[101]++Rf.itz c)),.int .i64 64] h (.tup [.float .f64 r,e2]) h:=by
 obtain ⟨hp,hil⟩:=itz_post h1 h2
 obtain ⟨f1,f2,f3⟩:=Rf.fin_point [48] t (by decide) ht
 have hdv:dvp ([48]++46::t) 0=Rf.dval t 0:=by rw [dvp_point [48] t 0 (by decide) ht];rfl
 rw [show Rf.dval ([48]++t) 0=Rf.dval t 0 from rfl,← hdv] at f1
 have hnd:(Rf.fin Rf.st0 ([48]++46::t)).nd≤t.length:=by
  rcases Nat.eq_zero_or_pos (Rf.fin Rf.st0 ([48]++46::t)).nd with h0|h0
  ·omega
  ·have g:=f1.ge h0
   rw [hdv] at g
   have g2:=Rf.dval_lt t ht
   have:=(Nat.pow_lt_pow_iff_right (show 1 < 10 by decide)).1 (Nat.lt_of_le_of_lt g g2)
   omega
 have hdp:=f1.dp f2
 have hdpF:dpF (Rf.fin Rf.st0 ([48]++46::t))=((Rf.fin Rf.st0 ([48]++46::t)).nd:Int) - t.length:=by
  unfold dpF;rw [if_pos f2];omega
 obtain ⟨r,err,r1,r2,r3,r4⟩:=s233 (l:=[48,46]++t++[101]++Rf.itz c) (mant:=[48]++46::t) (post:=101::Rf.itz c) (x:=c) (n0:=t.length) (c0:=48) (r0:=46::t++[101]++Rf.itz c)
  (by simp;omega) (by simp) (Rf.okM_point [48] t (by decide) ht) (f3 (.inl (by simp))) hp f1 (by omega) (by omega) (by omega) (by simp) (by decide) (by decide)
 rw [hdv,hdpF] at r2
 rw [hdv] at r1
 rw [show ((Rf.fin Rf.st0 ([48]++46::t)).nd:Int) - t.length+c - (Rf.fin Rf.st0 ([48]++46::t)).nd=c - t.length by omega] at r2
 obtain ⟨e2,he2⟩:=s96 (l:=[48,46]++t++[101]++Rf.itz c) (by simp;omega) r3 r4
 exact ⟨r,e2,r1,r2,he2⟩
end Go.Proofs.YtmadknpaljaecaaGreatDoor.Ev.D
namespace Go.Proofs.YtmadknpaljaecaaGreatDoor.Ev.D
open Go Go.Proofs.YtmadknpaljaecaaGreatDoor.Ev
set_option maxRecDepth 100000
def expN (n:Rf.Num):Int:=if n.r.head? == some 45 then -((Rf.dval (Rf.sgnD n.r) 0:Nat):Int) else ((Rf.dval (Rf.sgnD n.r) 0:Nat):Int)
theorem preB45 {r:List UInt8}:Rf.tl 48 r=Rf.tl 48 r∧preB r [45]=(r.head? == some 45):=by
 refine ⟨rfl,?_⟩
 rw [pre1]
 cases r with
 |nil=>rfl
 |cons a q=>
  show decide (a=45)=(some a == some 45)
  rw [Bool.eq_iff_iff];simp
theorem s52 {l:List UInt8} (hl:l.length≤400) (hne:l≠[]) {n:Rf.Num} (N:n.ok (Rf.sgnD l)):
  ∃ r,(Rf.dval (n.w++n.p) 0=0→r=0)∧(0 < Rf.dval (n.w++n.p) 0→Us.Near (Us.nn (Rf.dval (n.w++n.p) 0) (expN n - n.p.length)) (Us.mm (expN n - n.p.length)) r)∧
   ∀ h,Does C 52 [.str (BStr.ofBytes l)] h (.float .f64 (bif l.head? == some 45 then Go.Op.negFloat .f64 r else r)) h:=by
 obtain ⟨k1,k2,k3,k4⟩:=Rf.num_cut N
 have hb:=Rf.sgnD_len l
 have hbl:((Rf.sgnD l).map Rf.low).length≤400:=by rw [List.length_map];omega
 have hmt:n.mant.length≤400∧n.r.length≤400:=by
  have h1:(Rf.sgnD l).length=n.mant.length+n.tail.length:=by rw [N.eq,List.length_append]
  rcases N.tl with ⟨e,e2⟩|⟨a,_,e,_⟩
  ·rw [e2];simp;omega
  ·rw [e,List.length_cons] at h1;omega
 have hwp:n.w.length+n.p.length≤400:=by
  have h1:n.w.length+n.p.length≤n.mant.length:=by
   unfold Rf.Num.mant
   rw [List.length_append]
   cases hp:n.pt with
   |false=>rw [N.pt0 hp];simp
   |true=>simp
  omega
 have hwd:(n.w++n.p).all Rf.isD=true:=by rw [List.all_append,N.wd,N.pd];rfl
 have htd:(Rf.tl 48 (n.w++n.p)).all Rf.isD=true:=Rf.tl_all hwd
 have htv:Rf.dval (Rf.tl 48 (n.w++n.p)) 0=Rf.dval (n.w++n.p) 0:=Rf.tl_dval
 have htl:(Rf.tl 48 (n.w++n.p)).length≤400:=by
  have:=Rf.tl_len 48 (n.w++n.p)
  rw [List.length_append] at this;omega
 have htge:Rf.tl 48 (n.w++n.p)≠[]→10 ^ ((Rf.tl 48 (n.w++n.p)).length - 1)≤Rf.dval (n.w++n.p) 0:=fun h=>by
  have:=Rf.tl_ge hwd h
  rwa [htv] at this
 have htlt:Rf.dval (n.w++n.p) 0 < 10 ^ (Rf.tl 48 (n.w++n.p)).length:=by rw [← htv];exact Rf.dval_lt _ htd
 obtain ⟨t,ht⟩:∃ t,Rf.tl 48 (n.w++n.p)=t:=⟨_,rfl⟩
 rw [ht] at htd htv htl htge htlt
 obtain ⟨D,hD⟩:∃ D,Rf.dval (n.w++n.p) 0=D:=⟨_,rfl⟩
 rw [hD] at htv htge htlt ⊢
 have hrd:=N.rd
 have hrs:(Rf.sgnD n.r).length≤400:=Nat.le_trans (Rf.sgnD_len _) hmt.2
 have hev:Rf.dval (Rf.tl 48 (Rf.sgnD n.r)) 0=Rf.dval (Rf.sgnD n.r) 0:=Rf.tl_dval
 have hed:(Rf.tl 48 (Rf.sgnD n.r)).all Rf.isD=true:=Rf.tl_all hrd
 have hel:(Rf.tl 48 (Rf.sgnD n.r)).length≤400:=Nat.le_trans (Rf.tl_len _ _) hrs
 have hege:Rf.tl 48 (Rf.sgnD n.r)≠[]→10 ^ ((Rf.tl 48 (Rf.sgnD n.r)).length - 1)≤Rf.dval (Rf.sgnD n.r) 0:=fun h=>by
  have:=Rf.tl_ge hrd h
  rwa [hev] at this
 obtain ⟨ds,hds⟩:∃ ds,Rf.tl 48 (Rf.sgnD n.r)=ds:=⟨_,rfl⟩
 obtain ⟨ex,hex⟩:∃ ex,Rf.dval (Rf.sgnD n.r) 0=ex:=⟨_,rfl⟩
 rw [hds] at hev hed hel hege
 rw [hex] at hev hege
 obtain ⟨ng,hng⟩:∃ ng,(n.r.head? == some 45)=ng:=⟨_,rfl⟩
 have hE:expN n=if ng then -(ex:Int) else (ex:Int):=by unfold expN;rw [hng,hex]
 rw [hE]
 clear hE
 obtain ⟨a0,l0,hl0⟩:∃ a r,l=a::r:=by
  cases l with
  |nil=>exact (hne rfl).elim
  |cons a r=>exact ⟨a,r,rfl⟩
 have ixl:∀ h,ixSV (.str (BStr.ofBytes l)) (.int .i64 0) h=.ok (.int .u8 ((a0.toNat:Nat):Int)) h:=fun h=>ixS_drop (k:=.i64) (l:=l) (i:=0) (c:=a0) (r:=l0) hl0
 have hmi:decide (((a0.toNat:Nat):Int)=45)=(l.head? == some 45):=by
  rw [hl0]
  show _=(some a0 == some 45)
  rw [Bool.eq_iff_iff]
  simp only [decide_eq_true_eq,beq_iff_eq,Option.some.injEq]
  constructor
  ·intro h;exact UInt8.toNat_inj.1 (by show a0.toNat=45;omega)
  ·rintro rfl;rfl
 obtain ⟨x,hx1,hx2⟩:∃ x:Int,(ds.length < 10→x=ex)∧(¬ ds.length < 10→x=1073741824):=by
  by_cases h:ds.length < 10
  ·exact ⟨ex,fun _=>rfl,fun h2=>(h2 h).elim⟩
  ·exact ⟨1073741824,fun h2=>(h h2).elim,fun _=>rfl⟩
 have hxb:0≤x∧x≤1073741824∧(x=ex∨(x=1073741824∧1000000000≤ex)):=by
  by_cases h:ds.length < 10
  ·rw [hx1 h]
   have h1:ex < 10 ^ ds.length:=by rw [← hev];exact Rf.dval_lt _ hed
   have h2:10 ^ ds.length≤10 ^ 9:=Nat.pow_le_pow_right (by decide) (by omega)
   exact ⟨by omega,by omega,.inl rfl⟩
  ·rw [hx2 h]
   have h1:=hege (fun e=>by rw [e] at h;exact h (by decide))
   have h2:10 ^ 9≤10 ^ (ds.length - 1):=Nat.pow_le_pow_right (by decide) (by omega)
   exact ⟨by omega,by omega,.inr ⟨rfl,by omega⟩⟩
 obtain ⟨y,hy⟩:∃ y:Int,(if ng then -x else x)=y:=⟨_,rfl⟩
 have hyb:-1073741824≤y∧y≤1073741824:=by rw [← hy];split <;> omega
 obtain ⟨c,hc⟩:∃ c:Int,max (-400) (min 400 ((t.length:Int) - n.p.length+y))=c:=⟨_,rfl⟩
 have hcb:-400≤c∧c≤400:=by omega
 have hcP:c=(t.length:Int) - n.p.length+(if ng then -(ex:Int) else (ex:Int))∨(c=400∧400 < (t.length:Int) - n.p.length+(if ng then -(ex:Int) else (ex:Int)))∨(c=-400∧(t.length:Int) - n.p.length+(if ng then -(ex:Int) else (ex:Int)) < -400):=by
  rcases hxb.2.2 with h|⟨h,h'⟩
  ·rw [← hc,← hy,h];omega
  ·rw [← hc,← hy,h]
   cases ng
   ·rw [if_neg (by decide),if_neg (by decide)];omega
   ·rw [if_pos rfl,if_pos rfl];omega
 obtain ⟨r,e2,r1,r2,r3⟩:=near_text (t:=t) (c:=c) htd htl hcb.1 hcb.2
 rw [htv] at r1 r2
 refine ⟨r,r1,fun hp=>?_,fun h=>?_⟩
 ·have htn:t≠[]:=fun e=>by rw [e] at htlt;simp at htlt;omega
  have:=Rf.near_clamp (n:=t.length) (List.length_pos_iff.2 htn) (htge htn) htlt hcP (r2 hp)
  rwa [show (t.length:Int) - n.p.length+(if ng then -(ex:Int) else (ex:Int)) - t.length=(if ng then -(ex:Int) else (ex:Int)) - n.p.length by omega] at this
 refine does_pure (fn:=X52) rfl rfl rfl (mapO_cons conv_str mapO_nil) ?_
 have c78:=fun h=>s78 (l:=l) h
 have c104:=fun h=>s104 (l:=Rf.sgnD l) (by omega) (Rf.num_ascii N) h
 have c35a:∀ h,Does C 35 [.str (BStr.ofBytes ((Rf.sgnD l).map Rf.low)),.str ⟨1,101⟩] h (.tup [.str (BStr.ofBytes n.mant),.str (BStr.ofBytes n.r),.bool (Rf.cutF 101 ((Rf.sgnD l).map Rf.low))]) h:=fun h=>by
  have:=s35 (l:=(Rf.sgnD l).map Rf.low) (c:=101) (by omega) h
  rwa [k1,k2] at this
 have c35b:∀ h,Does C 35 [.str (BStr.ofBytes n.mant),.str ⟨1,46⟩] h (.tup [.str (BStr.ofBytes n.w),.str (BStr.ofBytes n.p),.bool (Rf.cutF 46 n.mant)]) h:=fun h=>by
  have:=s35 (l:=n.mant) (c:=46) (by omega) h
  rwa [k3,k4] at this
 have c105a:∀ h,Does C 105 [.str (BStr.ofBytes (n.w++n.p)),.str ⟨1,48⟩] h (.str (BStr.ofBytes t)) h:=fun h=>by
  have:=s105 (l:=n.w++n.p) (c:=48) (by decide) (by rw [List.length_append];omega) h
  rwa [ht] at this
 have c105b:∀ h,Does C 105 [.str (BStr.ofBytes (Rf.sgnD n.r)),.str ⟨1,48⟩] h (.str (BStr.ofBytes ds)) h:=fun h=>by
  have:=s105 (l:=Rf.sgnD n.r) (c:=48) (by decide) (by omega) h
  rwa [hds] at this
 have c32:∀ h,Does C 32 [.str (BStr.ofBytes n.r),.str ⟨1,45⟩] h (.bool ng) h:=fun h=>by
  have:=s32 (l:=n.r) (p:=[45]) h
  rwa [preB45.2,hng] at this
 have c78b:=fun h=>s78 (l:=n.r) h
 have c61:ds.length < 10→∀ h,Does C 61 [.str (BStr.ofBytes (48::ds))] h (.tup [.int .i64 x,.nilIf]) h:=fun hlt h=>by
  have:=s61 (l:=48::ds) (by rw [List.length_cons];omega) (by simp) (by rw [List.all_cons,hed];rfl) h
  rwa [show Rf.dval (48::ds) 0=ex from hev,← hx1 hlt] at this
 have c62:=fun h=>s62 hcb.1 hcb.2 h
 obtain ⟨_,hzl⟩:=itz_post hcb.1 hcb.2
 have ms:∀ k,k≤1000→k≤maxStr:=fun k hk=>Nat.le_trans hk (by decide)
 have a1:binV .add (.str (BStr.ofBytes n.w)) (.str (BStr.ofBytes n.p))=some (.str (BStr.ofBytes (n.w++n.p))):=sadd_of (ms _ (by omega))
 have a2:binV .add (.str ⟨1,48⟩) (.str (BStr.ofBytes ds))=some (.str (BStr.ofBytes (48::ds))):=sadd_of (a:=[48]) (ms _ (by simp;omega))
 have a3:binV .add (.str ⟨2,12334⟩) (.str (BStr.ofBytes t))=some (.str (BStr.ofBytes ([48,46]++t))):=sadd_of (a:=[48,46]) (ms _ (by simp;omega))
 have a4:binV .add (.str (BStr.ofBytes ([48,46]++t))) (.str ⟨1,101⟩)=some (.str (BStr.ofBytes ([48,46]++t++[101]))):=sadd_of (b:=[101]) (ms _ (by simp;omega))
 have a5:binV .add (.str (BStr.ofBytes ([48,46]++t++[101]))) (.str (BStr.ofBytes (Rf.itz c)))=some (.str (BStr.ofBytes ([48,46]++t++[101]++Rf.itz c))):=sadd_of (ms _ (by simp;omega))
 have w1:wrapF .i64 ((t.length:Int) - n.p.length)=(t.length:Int) - n.p.length:=i64_wrap (by omega) (by omega)
 have w2:wrapF .i64 ((t.length:Int) - n.p.length+y)=(t.length:Int) - n.p.length+y:=i64_wrap (by omega) (by omega)
 have w3:wrapF .i64 (0 - x)=-x:=by rw [i64_wrap (by omega) (by omega)];omega
 have g780:=decide_eq_false (show ¬ (780:Int) < (t.length:Int) by omega)
 have mid:∀ (env:T AV),env.at 3=.bool (l.head? == some 45)→env.at 10=.str (BStr.ofBytes t)→env.at 11=.int .i64 ((t.length:Int) - n.p.length)→env.at 12=.bool ng→env.at 13=.int .i64 x→
   GoP C [.c (seqT 10 X52.body)] env .empty (Back [.tmp 2] true (.float .f64 (bif l.head? == some 45 then Go.Op.negFloat .f64 r else r))):=by
  intro env e3 e10 e11 e12 e13
  simp only [X52,seqT]
  cases hn:ng with
  |true=>
   rw [hn] at e12 hy
   rw [if_pos rfl] at hy
   subst hy
   cases hm:(l.head? == some 45) with
   |true=>
    rw [hm] at e3
    simp (decide:=true) only [BZ,e3,e10,e11,e12,e13,w3,w2,List.map_cons,List.map_nil,hc,g780,a3,a4,a5,callG_of (c62 _),callG_of (r3 _),cond_true]
   |false=>
    rw [hm] at e3
    simp (decide:=true) only [BZ,e3,e10,e11,e12,e13,w3,w2,List.map_cons,List.map_nil,hc,g780,a3,a4,a5,callG_of (c62 _),callG_of (r3 _),cond_false]
  |false=>
   rw [hn] at e12 hy
   rw [if_neg (by decide)] at hy
   subst hy
   cases hm:(l.head? == some 45) with
   |true=>
    rw [hm] at e3
    simp (decide:=true) only [BZ,e3,e10,e11,e12,e13,w2,List.map_cons,List.map_nil,hc,g780,a3,a4,a5,callG_of (c62 _),callG_of (r3 _),cond_true]
   |false=>
    rw [hm] at e3
    simp (decide:=true) only [BZ,e3,e10,e11,e12,e13,w2,List.map_cons,List.map_nil,hc,g780,a3,a4,a5,callG_of (c62 _),callG_of (r3 _),cond_false]
 have eX:X52.body=.seq (seqH X52.body) (.seq (seqH (seqT 1 X52.body)) (.seq (seqH (seqT 2 X52.body)) (.seq (seqH (seqT 3 X52.body)) (.seq (seqH (seqT 4 X52.body)) (.seq (seqH (seqT 5 X52.body)) (.seq (seqH (seqT 6 X52.body)) (.seq (seqH (seqT 7 X52.body)) (.seq (seqH (seqT 8 X52.body)) (.seq (seqH (seqT 9 X52.body)) (seqT 10 X52.body)))))))))):=rfl
 rw [eX]
 generalize hR:seqT 10 X52.body=R at mid ⊢
 simp only [X52,seqT,seqH]
 by_cases hlt:ds.length < 10
 ·simp (decide:=true) only [BZ,ixl,hmi,callG_of (c78 _),callG_of (c104 _),callG_of (c35a _),callG_of (c35b _),a1,callG_of (c105a _),w1,callG_of (c32 _),callG_of (c78b _),callG_of (c105b _),decide_eq_true (show (ds.length:Int) < 10 by omega),a2,callG_of (c61 hlt _)]
  refine mid _ ?_ ?_ ?_ ?_ ?_ <;> simp (decide:=true) only [BZ]
 ·simp (decide:=true) only [BZ,ixl,hmi,callG_of (c78 _),callG_of (c104 _),callG_of (c35a _),callG_of (c35b _),a1,callG_of (c105a _),w1,callG_of (c32 _),callG_of (c78b _),callG_of (c105b _),decide_eq_false (show ¬ (ds.length:Int) < 10 by omega)]
  refine mid _ ?_ ?_ ?_ ?_ ?_ <;> simp (decide:=true) only [BZ]
  rw [hx2 hlt]
end Go.Proofs.YtmadknpaljaecaaGreatDoor.Ev.D
namespace Go.Proofs.YtmadknpaljaecaaGreatDoor.Rf
def trimF:List UInt8→List UInt8
 |[]=>[]
 |a::r=>if spc a then trimF r else a::r
def trm (l:List UInt8):List UInt8:=(trimF (trimF l).reverse).reverse
theorem trimF_len:∀ l:List UInt8,(trimF l).length≤l.length
 |[]=>Nat.le_refl _
 |a::r=>by
  rw [trimF];split
  ·exact Nat.le_succ_of_le (trimF_len r)
  ·exact Nat.le_refl _
theorem trm_len (l:List UInt8):(trm l).length≤l.length:=by
 unfold trm
 rw [List.length_reverse]
 refine Nat.le_trans (trimF_len _) ?_
 rw [List.length_reverse];exact trimF_len _
def numD (m:List UInt8):Nat:=dval ((parts (sgnD m)).w++(parts (sgnD m)).p) 0
def numE (m:List UInt8):Int:=(match expo (parts (sgnD m)).rest with|some (ng,ds)=>(if ng then -((dval ds 0:Nat):Int) else ((dval ds 0:Nat):Int))|none=>0) - (parts (sgnD m)).p.length
structure Val (m:List UInt8) (r:Nat):Prop where
 zero:numD m=0→r=0
 near:0 < numD m→Us.Near (Us.nn (numD m) (numE m)) (Us.mm (numE m)) r
theorem Val.uniq {m:List UInt8} {r r':Nat} (h:Val m r) (h':Val m r'):r=r':=by
 rcases Nat.eq_zero_or_pos (numD m) with h0|h0
 ·rw [h.zero h0,h'.zero h0]
 ·exact Us.Near.uniq (Us.mm_pos _) (h.near h0) (h'.near h0)
end Go.Proofs.YtmadknpaljaecaaGreatDoor.Rf
namespace Go.Proofs.YtmadknpaljaecaaGreatDoor.Ev.D
open Go Go.Proofs.YtmadknpaljaecaaGreatDoor.Ev
set_option maxRecDepth 100000
def PR (m:List UInt8) (v:AV) (ok:Bool):Prop:=
 if m=[78,97,78] then v=.float .f64 9221120237041090561∧ok=true
 else if m=[73,78,70] then v=.float .f64 9218868437227405312∧ok=true
 else if m=[45,73,78,70] then v=.float .f64 18442240474082181120∧ok=true
 else if Rf.isNum m=true then ok=true∧∃ r,Rf.Val m r∧v=.float .f64 (bif m.head? == some 45 then r+9223372036854775808 else r)
 else v=.float .f64 0∧ok=false
theorem PR.uniq {m:List UInt8} {v v':AV} {ok ok':Bool} (h:PR m v ok) (h':PR m v' ok'):v=v'∧ok=ok':=by
 unfold PR at h h'
 split at h
 ·rename_i e;rw [if_pos e] at h';exact ⟨h.1.trans h'.1.symm,h.2.trans h'.2.symm⟩
 ·rename_i e
  rw [if_neg e] at h'
  split at h
  ·rename_i e;rw [if_pos e] at h';exact ⟨h.1.trans h'.1.symm,h.2.trans h'.2.symm⟩
  ·rename_i e
   rw [if_neg e] at h'
   split at h
   ·rename_i e;rw [if_pos e] at h';exact ⟨h.1.trans h'.1.symm,h.2.trans h'.2.symm⟩
   ·rename_i e
    rw [if_neg e] at h'
    split at h
    ·rename_i e
     rw [if_pos e] at h'
     obtain ⟨rfl,r,hr,rfl⟩:=h
     obtain ⟨rfl,r',hr',rfl⟩:=h'
     rw [hr.uniq hr'];exact ⟨rfl,rfl⟩
    ·rename_i e
     rw [if_neg e] at h'
     exact ⟨h.1.trans h'.1.symm,h.2.trans h'.2.symm⟩
theorem inf_bnd {n m r:Nat} (h:Us.Near n m r):r≤9218868437227405312:=h.1
theorem val_bnd {m:List UInt8} {r:Nat} (h:Rf.Val m r):r≤9218868437227405312:=by
 rcases Nat.eq_zero_or_pos (Rf.numD m) with h0|h0
 ·rw [h.zero h0];exact Nat.zero_le _
 ·exact inf_bnd (h.near h0)
theorem s16 {l:List UInt8} (hl:l.length≤400):∃ v ok,(∀ h,Does C 16 [.str (BStr.ofBytes l)] h (.tup [v,.bool ok]) h)∧PR (Rf.trm l) v ok:=by
 obtain ⟨m,hm⟩:∃ m,Rf.trm l=m:=⟨_,rfl⟩
 have hml:m.length≤400:=by rw [← hm];exact Nat.le_trans (Rf.trm_len l) hl
 rw [hm]
 have tail:∃ v ok,PR m v ok∧∀ env:T AV,env.at 0=.str (BStr.ofBytes m)→GoP C [.c (seqT 3 X16.body)] env .empty (Back [.tmp 2,.tmp 3] true (.tup [v,.bool ok])):=by
  have q0:=fun b s (hs:s=BStr.ofBytes b)=>seql_lit (a:=m) (s:=s) b hs
  have q1:=q0 [78,97,78] ⟨3,5136718⟩ rfl
  have q2:=q0 [73,78,70] ⟨3,4804166⟩ rfl
  have q3:=q0 [45,73,78,70] ⟨4,759778886⟩ rfl
  unfold PR
  simp only [X16,seqT]
  by_cases e1:m=[78,97,78]
  ·simp only [if_pos e1]
   refine ⟨_,_,⟨rfl,rfl⟩,fun env a0=>?_⟩
   simp (decide:=true) only [BZ,a0,q1,decide_eq_true e1,callG_of (s46 _)]
  simp only [if_neg e1]
  by_cases e2:m=[73,78,70]
  ·simp only [if_pos e2]
   refine ⟨_,_,⟨rfl,rfl⟩,fun env a0=>?_⟩
   simp (decide:=true) only [BZ,a0,q1,decide_eq_false e1,q2,decide_eq_true e2,callG_of (s44p _)]
  simp only [if_neg e2]
  by_cases e3:m=[45,73,78,70]
  ·simp only [if_pos e3]
   refine ⟨_,_,⟨rfl,rfl⟩,fun env a0=>?_⟩
   simp (decide:=true) only [BZ,a0,q1,decide_eq_false e1,q2,decide_eq_false e2,q3,decide_eq_true e3,callG_of (s44n _)]
  simp only [if_neg e3]
  have c51:=fun h=>s51 (l:=m) (by omega) h
  cases hn:Rf.isNum m with
  |false=>
   rw [hn] at c51
   simp only [Bool.false_eq_true,if_false]
   refine ⟨_,_,⟨rfl,rfl⟩,fun env a0=>?_⟩
   simp (decide:=true) only [BZ,a0,q1,decide_eq_false e1,q2,decide_eq_false e2,q3,decide_eq_false e3,callG_of (c51 _)]
  |true=>
   rw [hn] at c51
   simp only [eq_self_iff_true,if_true]
   obtain ⟨n,N,x1,x2,x3,x4⟩:=Rf.isNum_shape hn
   have hne:m≠[]:=by rintro rfl;cases hn
   obtain ⟨r,r1,r2,r3⟩:=s52 hml hne N
   have eD:Rf.numD m=Rf.dval (n.w++n.p) 0:=by unfold Rf.numD;rw [x2,x3]
   have eE:Rf.numE m=expN n - n.p.length:=by
    unfold Rf.numE expN
    rw [← x4,x1,x3]
   have hv:Rf.Val m r:=⟨fun h=>r1 (by rwa [← eD]),fun h=>by rw [eD,eE];exact r2 (by rwa [← eD])⟩
   have hb:=val_bnd hv
   have hneg:Go.Op.negFloat .f64 r=r+9223372036854775808:=by
    rw [negF_word (show r < 9223372036854775808 by omega)]
    show 2 ^ 63+r=_
    omega
   rw [hneg] at r3
   refine ⟨_,_,⟨rfl,r,hv,rfl⟩,fun env a0=>?_⟩
   simp (decide:=true) only [BZ,a0,q1,decide_eq_false e1,q2,decide_eq_false e2,q3,decide_eq_false e3,callG_of (c51 _),callG_of (r3 _)]
 obtain ⟨v,ok,hpr,ht⟩:=tail
 refine ⟨v,ok,fun h=>?_,hpr⟩
 refine does_pure (fn:=X16) rfl rfl rfl (mapO_cons conv_str mapO_nil) ?_
 rw [show X16.body=.seq (seqH X16.body) (.seq (seqH (seqT 1 X16.body)) (.seq (seqH (seqT 2 X16.body)) (seqT 3 X16.body))) from rfl]
 generalize hR:seqT 3 X16.body=R at ht ⊢
 simp only [X16,seqT,seqH]
 simp (decide:=true) only [BZ]
 refine go_lp (fun k env h=>h=Heap.empty∧∃ r:List UInt8,k=r.length∧Rf.trimF r=Rf.trimF l∧env.at 0=.str (BStr.ofBytes r)) (fun env h=>h=Heap.empty∧env.at 0=.str (BStr.ofBytes (Rf.trimF l))) (n:=l.length) ⟨rfl,l,rfl,rfl,?_⟩ ?_ ?_
 ·simp (decide:=true) only [BZ]
 ·rintro k env h1 ⟨rfl,r,rfl,hr,a0⟩
  cases r with
  |nil=>
   simp (decide:=true) only [BZ,a0,sneq_lit [] e_empty,decide_eq_false (show ¬ (([]:List UInt8)≠[]) from fun h=>h rfl)]
   rw [← hr];rfl
  |cons a q=>
   have hne:=decide_eq_true (show (a::q)≠([]:List UInt8) by simp)
   have t1:∀ h,slSV (.str (BStr.ofBytes (a::q))) none (some (.int .i64 1)) h=.ok (.str (BStr.ofBytes [a])) h:=fun h=>slS_hi (b:=1) (by simp)
   have hd:=fun h=>s50 (c:=a) h
   cases hs:Rf.spc a with
   |true=>
    rw [hs] at hd
    simp (decide:=true) only [BZ,a0,sneq_lit [] e_empty,hne,Option.map_some,Option.map_none,t1,callG_of (hd _),sl1]
    refine ⟨q.length,Nat.lt_succ_self _,q,rfl,?_,rfl⟩
    rw [← hr,Rf.trimF,if_pos hs]
   |false=>
    rw [hs] at hd
    simp (decide:=true) only [BZ,a0,sneq_lit [] e_empty,hne,Option.map_some,Option.map_none,t1,callG_of (hd _)]
    rw [← hr,Rf.trimF,hs,if_neg (by decide)]
 ·rintro env h1 ⟨rfl,a0⟩
  simp (decide:=true) only [BZ]
  refine go_lp (fun k env h=>h=Heap.empty∧∃ r:List UInt8,k=r.length∧r.length≤400∧(Rf.trimF r).reverse=m∧env.at 0=.str (BStr.ofBytes r.reverse)) (fun env h=>h=Heap.empty∧env.at 0=.str (BStr.ofBytes m)) (n:=(Rf.trimF l).length) ⟨rfl,(Rf.trimF l).reverse,by rw [List.length_reverse],?_,hm,?_⟩ ?_ ?_
  ·rw [List.length_reverse];exact Nat.le_trans (Rf.trimF_len l) hl
  ·rw [List.reverse_reverse];exact a0
  ·rintro k env h1 ⟨rfl,r,rfl,hrl,hr,a0⟩
   cases r with
   |nil=>
    rw [List.reverse_nil] at a0
    simp (decide:=true) only [BZ,a0,sneq_lit [] e_empty,decide_eq_false (show ¬ (([]:List UInt8)≠[]) from fun h=>h rfl)]
    rw [← hr];rfl
   |cons a q=>
    rw [List.reverse_cons] at a0
    have hlen:(q.reverse++[a]).length=q.length+1:=by simp
    rw [List.length_cons] at hrl
    have hne:=decide_eq_true (show q.reverse++[a]≠([]:List UInt8) by simp)
    have w1:wrapF .i64 (((q.length+1:Nat):Int) - 1)=((q.length:Nat):Int):=by rw [i64_wrap (by omega) (by omega)];omega
    have t1:∀ h,slSV (.str (BStr.ofBytes (q.reverse++[a]))) (some (.int .i64 (q.length:Int))) none h=.ok (.str (BStr.ofBytes [a])) h:=fun h=>by
     rw [slS_lo (by rw [hlen];omega),List.drop_append_of_le_length (by simp),List.drop_of_length_le (by simp)];rfl
    have t2:∀ h,slSV (.str (BStr.ofBytes (q.reverse++[a]))) none (some (.int .i64 (q.length:Int))) h=.ok (.str (BStr.ofBytes q.reverse)) h:=fun h=>by
     rw [slS_hi (by rw [hlen];omega),List.take_append_of_le_length (by simp),List.take_of_length_le (by simp)]
    have hd:=fun h=>s50 (c:=a) h
    cases hs:Rf.spc a with
    |true=>
     rw [hs] at hd
     simp (decide:=true) only [BZ,a0,sneq_lit [] e_empty,hne,Option.map_some,Option.map_none,hlen,w1,t1,callG_of (hd _),t2]
     refine ⟨q.length,Nat.lt_succ_self _,q,rfl,by omega,?_,rfl⟩
     rw [← hr,Rf.trimF,if_pos hs]
    |false=>
     rw [hs] at hd
     simp (decide:=true) only [BZ,a0,sneq_lit [] e_empty,hne,Option.map_some,Option.map_none,hlen,w1,t1,callG_of (hd _)]
     rw [← hr,Rf.trimF,hs,if_neg (by decide),List.reverse_cons]
  ·rintro env h1 ⟨rfl,a0⟩
   exact ht env a0
end Go.Proofs.YtmadknpaljaecaaGreatDoor.Ev.D
namespace Go.Proofs.YtmadknpaljaecaaGreatDoor.Rf
theorem spc5 (a:UInt8):(spc a=true∧decide (((a.toNat:Nat):Int)=32)=true)∨(spc a=true∧decide (((a.toNat:Nat):Int)=32)=false∧decide (((a.toNat:Nat):Int)=9)=true)
  ∨(spc a=true∧decide (((a.toNat:Nat):Int)=32)=false∧decide (((a.toNat:Nat):Int)=9)=false∧decide (((a.toNat:Nat):Int)=10)=true)
  ∨(spc a=true∧decide (((a.toNat:Nat):Int)=32)=false∧decide (((a.toNat:Nat):Int)=9)=false∧decide (((a.toNat:Nat):Int)=10)=false∧decide (((a.toNat:Nat):Int)=13)=true)
  ∨(spc a=false∧decide (((a.toNat:Nat):Int)=32)=false∧decide (((a.toNat:Nat):Int)=9)=false∧decide (((a.toNat:Nat):Int)=10)=false∧decide (((a.toNat:Nat):Int)=13)=false):=by
 unfold spc
 simp only [decide_eq_true_eq,decide_eq_false_iff_not,Bool.or_eq_true,Bool.or_eq_false_iff]
 omega
end Go.Proofs.YtmadknpaljaecaaGreatDoor.Rf
namespace Go.Proofs.YtmadknpaljaecaaGreatDoor.Ev.D
open Go Go.Proofs.YtmadknpaljaecaaGreatDoor.Ev
set_option maxRecDepth 100000
theorem s53 {l:List UInt8} (hl:l.length≤400) (h:Heap):Does C 53 [.str (BStr.ofBytes l)] h (.str (BStr.ofBytes (Rf.trm l))) h:=by
 refine does_any (fn:=X53) rfl rfl rfl ?_
 obtain ⟨m,hm⟩:∃ m,Rf.trm l=m:=⟨_,rfl⟩
 rw [hm]
 rw [show X53.body=.seq (seqH X53.body) (.seq (seqH (seqT 1 X53.body)) (.seq (seqH (seqT 2 X53.body)) (seqT 3 X53.body))) from rfl]
 generalize hR:seqT 3 X53.body=R
 simp only [X53,seqT,seqH]
 simp (decide:=true) only [BZ]
 refine go_lp (fun k env h'=>h' =h∧∃ r:List UInt8,k=r.length∧Rf.trimF r=Rf.trimF l∧env.at 0=.str (BStr.ofBytes r)) (fun env h'=>h' =h∧env.at 0=.str (BStr.ofBytes (Rf.trimF l))) (n:=l.length) ⟨rfl,l,rfl,rfl,?_⟩ ?_ ?_
 ·simp (decide:=true) only [BZ]
 ·rintro k env h1 ⟨rfl,r,rfl,hr,a0⟩
  cases r with
  |nil=>
   simp (decide:=true) only [BZ,a0,decide_eq_false (show ¬ (0:Int) < (([]:List UInt8).length:Int) by decide)]
   rw [← hr];rfl
  |cons a q=>
   have hp:=decide_eq_true (show (0:Int) < ((a::q).length:Int) by rw [List.length_cons];omega)
   have go:Rf.spc a=true→∃ m,m < (a::q).length∧∃ r:List UInt8,m=r.length∧Rf.trimF r=Rf.trimF l∧BStr.ofBytes q=BStr.ofBytes r:=fun hs=>by
    refine ⟨q.length,Nat.lt_succ_self _,q,rfl,?_,rfl⟩
    rw [← hr,Rf.trimF,if_pos hs]
   rcases Rf.spc5 a with ⟨hs,e1⟩|⟨hs,e1,e2⟩|⟨hs,e1,e2,e3⟩|⟨hs,e1,e2,e3,e4⟩|⟨hs,e1,e2,e3,e4⟩
   ·simp (decide:=true) only [BZ,a0,hp,ix0,e1,Option.map_some,Option.map_none,sl1];exact go hs
   ·simp (decide:=true) only [BZ,a0,hp,ix0,e1,e2,Option.map_some,Option.map_none,sl1];exact go hs
   ·simp (decide:=true) only [BZ,a0,hp,ix0,e1,e2,e3,Option.map_some,Option.map_none,sl1];exact go hs
   ·simp (decide:=true) only [BZ,a0,hp,ix0,e1,e2,e3,e4,Option.map_some,Option.map_none,sl1];exact go hs
   ·simp (decide:=true) only [BZ,a0,hp,ix0,e1,e2,e3,e4]
    rw [← hr,Rf.trimF,hs,if_neg (by decide)]
 ·rintro env h1 ⟨rfl,a0⟩
  simp (decide:=true) only [BZ]
  refine go_lp (fun k env h'=>h' =h1∧∃ r:List UInt8,k=r.length∧r.length≤400∧(Rf.trimF r).reverse=m∧env.at 0=.str (BStr.ofBytes r.reverse)) (fun env h'=>h' =h1∧env.at 0=.str (BStr.ofBytes m)) (n:=(Rf.trimF l).length) ⟨rfl,(Rf.trimF l).reverse,by rw [List.length_reverse],?_,hm,?_⟩ ?_ ?_
  ·rw [List.length_reverse];exact Nat.le_trans (Rf.trimF_len l) hl
  ·rw [List.reverse_reverse];exact a0
  ·rintro k env h1 ⟨rfl,r,rfl,hrl,hr,a0⟩
   cases r with
   |nil=>
    rw [List.reverse_nil] at a0
    simp (decide:=true) only [BZ,a0,decide_eq_false (show ¬ (0:Int) < (([]:List UInt8).length:Int) by decide)]
    rw [← hr];rfl
   |cons a q=>
    rw [List.reverse_cons] at a0
    have hlen:(q.reverse++[a]).length=q.length+1:=by simp
    rw [List.length_cons] at hrl
    have hp:=decide_eq_true (show (0:Int) < ((q.length+1:Nat):Int) by omega)
    have w1:wrapF .i64 (((q.length+1:Nat):Int) - 1)=((q.length:Nat):Int):=by rw [i64_wrap (by omega) (by omega)];omega
    have t1:∀ h,ixSV (.str (BStr.ofBytes (q.reverse++[a]))) (.int .i64 (q.length:Int)) h=.ok (.int .u8 ((a.toNat:Nat):Int)) h:=fun h=>ixS_drop (r:=[]) (by rw [List.drop_append_of_le_length (by simp),List.drop_of_length_le (by simp)];rfl)
    have t2:∀ h,slSV (.str (BStr.ofBytes (q.reverse++[a]))) none (some (.int .i64 (q.length:Int))) h=.ok (.str (BStr.ofBytes q.reverse)) h:=fun h=>by
     rw [slS_hi (by rw [hlen];omega),List.take_append_of_le_length (by simp),List.take_of_length_le (by simp)]
    have go:Rf.spc a=true→∃ k,k < (a::q).length∧∃ r:List UInt8,k=r.length∧r.length≤400∧(Rf.trimF r).reverse=m∧BStr.ofBytes q.reverse=BStr.ofBytes r.reverse:=fun hs=>by
     refine ⟨q.length,Nat.lt_succ_self _,q,rfl,by omega,?_,rfl⟩
     rw [← hr,Rf.trimF,if_pos hs]
    rcases Rf.spc5 a with ⟨hs,e1⟩|⟨hs,e1,e2⟩|⟨hs,e1,e2,e3⟩|⟨hs,e1,e2,e3,e4⟩|⟨hs,e1,e2,e3,e4⟩
    ·simp (decide:=true) only [BZ,a0,hlen,hp,w1,t1,e1,Option.map_some,Option.map_none,t2];exact go hs
    ·simp (decide:=true) only [BZ,a0,hlen,hp,w1,t1,e1,e2,Option.map_some,Option.map_none,t2];exact go hs
    ·simp (decide:=true) only [BZ,a0,hlen,hp,w1,t1,e1,e2,e3,Option.map_some,Option.map_none,t2];exact go hs
    ·simp (decide:=true) only [BZ,a0,hlen,hp,w1,t1,e1,e2,e3,e4,Option.map_some,Option.map_none,t2];exact go hs
    ·simp (decide:=true) only [BZ,a0,hlen,hp,w1,t1,e1,e2,e3,e4]
     rw [← hr,Rf.trimF,hs,if_neg (by decide),List.reverse_cons]
  ·rintro env h1 ⟨rfl,a0⟩
   subst hR
   simp only [X53,seqT]
   simp (decide:=true) only [BZ,a0]
theorem s54 {l:List UInt8} (hl:l.length≤1000000) (h:Heap):Does C 54 [.str (BStr.ofBytes l)] h (.int .i64 ((Rf.dAt l:Nat):Int)) h:=by
 refine does_pure (fn:=X54) rfl rfl rfl (mapO_cons conv_str mapO_nil) ?_
 simp only [X54]
 simp (decide:=true) only [BZ]
 refine go_lp (fun n env h=>∃ i rest,l.drop i=rest∧i+Rf.dAt rest=Rf.dAt l∧n=rest.length∧i≤l.length∧env.at 0=.str (BStr.ofBytes l)∧env.at 3=.int .i64 (i:Int)) (fun env h=>env.at 3=.int .i64 ((Rf.dAt l:Nat):Int)) (n:=l.length) ⟨0,l,rfl,by omega,rfl,Nat.zero_le _,?_⟩ ?_ ?_
 ·simp (decide:=true) only [BZ]
  all_goals rfl
 ·rintro n env h1 ⟨i,rest,hd,hi,rfl,i0,a0,a3⟩
  cases rest with
  |nil=>
   have:=drop_nil hd
   simp (decide:=true) only [BZ,a0,a3,decide_eq_false (show ¬ (i:Int) < (l.length:Int) by omega)]
   have:i=Rf.dAt l:=by rw [← hi];rfl
   rw [this]
  |cons c r=>
   obtain ⟨hil,hc,hd'⟩:=drop_cons hd
   have w1:wrapF .i64 ((i:Int)+1)=((i+1:Nat):Int):=by rw [i64_wrap (by omega) (by omega)];rfl
   have hlt:=decide_eq_true (show (i:Int) < (l.length:Int) by omega)
   cases hD:Rf.isD c with
   |true=>
    obtain ⟨k1,k2⟩:=isD_iff.1 hD
    simp (decide:=true) only [BZ,a0,a3,hlt,ixS_drop hd,decide_eq_true (show (48:Int)≤((c.toNat:Nat):Int) by omega),decide_eq_true (show ((c.toNat:Nat):Int)≤57 by omega),w1]
    refine ⟨r.length,Nat.lt_succ_self _,i+1,r,hd',?_,rfl,by omega,?_⟩
    ·rw [← hi,Rf.dAt,if_pos hD];omega
    ·simp (decide:=true) only [BZ,a0]
     all_goals trivial
   |false=>
    have hi':i=Rf.dAt l:=by rw [← hi,Rf.dAt,hD];rfl
    rw [isD_dec] at hD
    cases h48:decide ((48:Int)≤((c.toNat:Nat):Int)) with
    |false=>
     simp (decide:=true) only [BZ,a0,a3,hlt,ixS_drop hd,h48]
     rw [hi']
    |true=>
     rw [h48,Bool.true_and] at hD
     simp (decide:=true) only [BZ,a0,a3,hlt,ixS_drop hd,h48,hD]
     rw [hi']
 ·rintro env h1 a3
  simp (decide:=true) only [BZ,a3]
theorem s106 {l:List UInt8} (hl:l.length≤1000000) (h:Heap):Does C 106 [.str (BStr.ofBytes l)] h (.str (BStr.ofBytes (Rf.tl 48 l))) h:=by
 refine does_pure (fn:=X106) rfl rfl rfl (mapO_cons conv_str mapO_nil) ?_
 simp only [X106]
 simp (decide:=true) only [BZ]
 refine go_lp (fun n env h=>∃ r:List UInt8,n=r.length∧Rf.tl 48 r=Rf.tl 48 l∧r.length≤1000000∧env.at 0=.str (BStr.ofBytes r)) (fun env h=>env.at 0=.str (BStr.ofBytes (Rf.tl 48 l))) (n:=l.length) ⟨l,rfl,rfl,hl,?_⟩ ?_ ?_
 ·simp (decide:=true) only [BZ]
 ·rintro n env h1 ⟨r,rfl,hr,hrl,a0⟩
  cases r with
  |nil=>
   simp (decide:=true) only [BZ,a0,decide_eq_false (show ¬ (0:Int) < (([]:List UInt8).length:Int) by decide)]
   rw [← hr];rfl
  |cons a q=>
   have hp:=decide_eq_true (show (0:Int) < ((a::q).length:Int) by rw [List.length_cons];omega)
   by_cases hac:a=48
   ·subst hac
    simp (decide:=true) only [BZ,a0,hp,ix0,decide_eq_true (show (((48:UInt8).toNat:Nat):Int)=48 from rfl),Option.map_some,Option.map_none,sl1]
    refine ⟨q.length,Nat.lt_succ_self _,q,rfl,?_,by rw [List.length_cons] at hrl;omega,rfl⟩
    rw [← hr,Rf.tl,if_pos rfl]
   ·simp (decide:=true) only [BZ,a0,hp,ix0,decide_eq_false (show ¬ ((a.toNat:Nat):Int)=48 from fun e=>hac (UInt8.toNat_inj.1 (by show a.toNat=48;omega)))]
    rw [← hr,Rf.tl,if_neg hac]
 ·rintro env h1 a0
  simp (decide:=true) only [BZ,a0]
end Go.Proofs.YtmadknpaljaecaaGreatDoor.Ev.D
namespace Go.Proofs.YtmadknpaljaecaaGreatDoor.Ev
open Go
def IL (v:AV) (N:Nat):Prop:=(v=.nilSl∧N=0)∨∃ cs,v=.isl false (Rf.dg N).length cs∧∀ i,i < (Rf.dg N).length→cs[i]? =some (.int .i64 ((Rf.dg N).getD i 0:Nat))
theorem il_conv {v:AV} {N:Nat} (H:IL v N) (w:Bool) (h:Heap):conv w h depth v=some v:=by
 rcases H with ⟨rfl,_⟩|⟨cs,rfl,_⟩
 ·rfl
 ·show (if (false && !w)=true then none else some _)=_
  rfl
theorem il_len {v:AV} {N:Nat} (H:IL v N) (h:Heap):lenSlV v h=.ok (.int .i64 ((Rf.dg N).length:Int)) h:=by
 rcases H with ⟨rfl,rfl⟩|⟨cs,rfl,_⟩
 ·rw [Rf.dg_zero];rfl
 ·rfl
theorem il_get {v:AV} {N i:Nat} (H:IL v N) (hi:i < (Rf.dg N).length):∃ p,(∀ h,iaSV 1 v (.int .i64 (i:Int)) h=.ok p h)∧∀ h,ldV false 1 p h=.ok (.int .i64 ((Rf.dg N).getD i 0:Nat)) h:=by
 rcases H with ⟨rfl,rfl⟩|⟨cs,rfl,hc⟩
 ·rw [Rf.dg_zero] at hi;exact absurd hi (Nat.not_lt_zero _)
 ·have hl:i < cs.length:=by
   rcases Nat.lt_or_ge i cs.length with h|h
   ·exact h
   ·have:=hc i hi;rw [List.getElem?_eq_none h] at this;cases this
  refine ⟨.iptr false (cs.drop (i*1)),fun h=>iaS_isl hi,fun h=>?_⟩
  rw [Nat.mul_one,ld1_drop hl,List.getD_eq_getElem?_getD,hc i hi];rfl
def dI (l:List Nat):List AV:=l.map fun x=>.int .i64 ((x:Nat):Int)
def OS (h:Heap) (v:AV) (out:List Nat):Prop:=∃ b n d cs e op,h.get b=some (.cells n d cs e op)∧b < h.next∧rdCells d cs out.length 0=dI out∧out.length≤n∧(∀ i,i < n→∃ k z,(cs.get i).getD d=.int k z)∧
 (v=.sl b 0 out.length 1 (some n)∨(v=.sl b 0 out.length 1 none∧n=out.length∧op=true∧e=3))
theorem OS.new {h:Heap} {v:AV} {out:List Nat} (O:OS h v out) (x:Blk):OS (h.new x) v out:=by
 obtain ⟨b,n,d,cs,e,op,g,hb,hr⟩:=O
 exact ⟨b,n,d,cs,e,op,by rw [Heap.get_new,if_neg (by omega)];exact g,Nat.lt_succ_of_lt hb,hr⟩
theorem dI_len (l:List Nat):(dI l).length=l.length:=List.length_map ..
theorem app_os {h:Heap} {v y:AV} {out:List Nat} {x:Nat} (O:OS h v out) (hl:out.length+1≤1954687338268) (hy:slCells 1 h y=some [.int .i64 ((x:Nat):Int)]) (hn:lenOf y=some 1):
  ∃ v' h',append 3 1 1954687338268 h v y=.ok v' h'∧OS h' v' (out++[x]):=by
 obtain ⟨b,n,d,cs,e,op,g,hb,hr,hln,hint,hv⟩:=O
 have hrw:∀ (d:AV) (cs:T AV),rdCells d cs out.length 0=dI out→rdCells d (wr cs [.int .i64 ((x:Nat):Int)] out.length) (out++[x]).length 0=dI (out++[x]):=fun d cs hr=>by
  have:=rd_wr_app d cs [.int .i64 ((x:Nat):Int)] out.length
  rw [List.length_append]
  show rdCells d _ (out.length+1) 0=_
  rw [show ([.int .i64 ((x:Nat):Int)]:List AV).length=1 from rfl] at this
  rw [this,hr]
  unfold dI;rw [List.map_append];rfl
 have hiw:∀ m i,(∀ i,i < m→∃ k z,(cs.get i).getD d=.int k z)→i < m∨i=out.length→∃ k z,((wr cs [.int .i64 ((x:Nat):Int)] out.length).get i).getD d=.int k z:=fun m i hm hi=>by
  rw [get_wr]
  by_cases h1:i=out.length
  ·rw [if_pos ⟨by omega,by show i < out.length+1;omega⟩,h1,Nat.sub_self];exact ⟨_,_,rfl⟩
  ·rw [if_neg (fun h2=>by have h3:i < out.length+1:=h2.2;omega)]
   exact hm i (hi.resolve_right h1)
 unfold append
 simp only [hy,hn]
 rcases hv with rfl|⟨rfl,rfl,rfl,rfl⟩
 ·simp only [g]
  by_cases hc:out.length+1≤n
  ·rw [Nat.ble_eq_true_of_le hc,cond_true,Nat.ble_eq_true_of_le (show 0+(out.length+1)*1≤n by omega),cond_true]
   refine ⟨_,_,rfl,b,n,d,wr cs [.int .i64 ((x:Nat):Int)] out.length,e,op,?_,hb,hrw d cs hr,by rw [List.length_append];exact hc,fun i hi=>hiw n i hint (.inl hi),.inl ?_⟩
   ·rw [Heap.get_set,if_pos rfl,Nat.zero_add,Nat.mul_one]
   ·rw [List.length_append];rfl
  ·have hf:Nat.ble (out.length+1) n=false:=by
    cases hb2:Nat.ble (out.length+1) n with
    |false=>rfl
    |true=>exact (hc (Nat.le_of_ble_eq_true hb2)).elim
   rw [hf,cond_false,Nat.ble_eq_true_of_le hl,cond_true]
   have hrd:rd n d cs 0 (out.length*1)=some (dI out):=by
    unfold rd
    rw [Nat.mul_one,Nat.zero_add,Nat.ble_eq_true_of_le hln,cond_true,hr]
   simp only [hrd]
   have hlen:(dI out++[AV.int .i64 ((x:Nat):Int)]).length=out.length+1:=by rw [List.length_append,dI_len];rfl
   have hdi:dI out++[AV.int .i64 ((x:Nat):Int)]=dI (out++[x]):=by unfold dI;rw [List.map_append];rfl
   refine ⟨_,_,rfl,h.next,(out.length+1)*1,.undef,wr .nil (dI out++[.int .i64 ((x:Nat):Int)]) 0,3,true,?_,Nat.lt_succ_self _,?_,by rw [List.length_append,Nat.mul_one];exact Nat.le_refl _,fun i hi=>?_,.inr ⟨?_,?_,rfl,rfl⟩⟩
   ·rw [Heap.get_new,if_pos rfl]
   ·have:=rdCells_wr .undef .nil (dI out++[.int .i64 ((x:Nat):Int)]) 0
    rw [hlen] at this
    rw [List.length_append]
    show rdCells _ _ (out.length+1) 0=_
    rw [this,hdi]
   ·rw [Nat.mul_one] at hi
    rw [get_wr,if_pos ⟨Nat.zero_le _,by rw [hlen];omega⟩,Nat.sub_zero,hdi]
    unfold dI
    rw [List.getElem?_map,List.getElem?_eq_getElem (by rw [List.length_append];exact hi)]
    exact ⟨_,_,rfl⟩
   ·rw [List.length_append];rfl
   ·rw [List.length_append,Nat.mul_one];rfl
 ·simp only [g]
  have hf:(Nat.beq 1 1 && Nat.ble (0+(out.length+1)*1) out.length)=false:=by
   cases hb2:Nat.ble (0+(out.length+1)*1) out.length with
   |false=>rfl
   |true=>have:=Nat.le_of_ble_eq_true hb2;omega
  have h0:Nat.beq 1 0=false:=rfl
  rw [h0,cond_false,hf,cond_false]
  have ht:(true && Nat.beq 0 0 && Nat.beq (out.length*1) out.length && Nat.beq 1 1 && Nat.ble (out.length+1) 1954687338268 && Nat.beq 3 3)=true:=by
   rw [Nat.mul_one,Nat.ble_eq_true_of_le hl,show Nat.beq out.length out.length=true from Nat.beq_refl _];rfl
  rw [ht,cond_true]
  refine ⟨_,_,rfl,h.next,(out.length+1)*1,d,wr cs [.int .i64 ((x:Nat):Int)] out.length,3,true,?_,Nat.lt_succ_self _,hrw d cs hr,by rw [List.length_append,Nat.mul_one];exact Nat.le_refl _,fun i hi=>hiw out.length i hint (by omega),.inr ⟨?_,?_,rfl,rfl⟩⟩
  ·rw [Heap.get_new];exact if_pos rfl
  ·rw [List.length_append];rfl
  ·rw [List.length_append,Nat.mul_one];rfl
theorem mapO_ints:∀ (l:List AV) (w:Bool) (h:Heap) (f:Nat),(∀ x∈l,∃ k z,x=.int k z)→mapO (conv w h (f+1)) l=some l
 |[],_,_,_,_=>rfl
 |x::r,w,h,f,hx=>by
  obtain ⟨k,z,rfl⟩:=hx x (List.mem_cons_self ..)
  exact mapO_cons rfl (mapO_ints r w h f fun y hy=>hx y (List.mem_cons_of_mem _ hy))
theorem os_conv {h:Heap} {v:AV} {N:Nat} (O:OS h v (Rf.dg N)):∃ v',conv false h depth v=some v'∧IL v' N:=by
 obtain ⟨b,n,d,cs,e,op,g,hb,hr,hln,hint,hv⟩:=O
 refine ⟨.isl false (Rf.dg N).length (rdCells d cs n 0),?_,.inr ⟨_,rfl,fun i hi=>?_⟩⟩
 ·have hm:mapO (conv false h 999) (rdCells d cs n 0)=some (rdCells d cs n 0):=mapO_ints _ _ _ 998 fun x hx=>by
   obtain ⟨i,hi,rfl⟩:=List.mem_iff_getElem.1 hx
   rw [rdCells_length] at hi
   have:=rdCells_get d cs n 0 i hi
   rw [List.getElem?_eq_getElem (by rw [rdCells_length];exact hi),Nat.zero_add] at this
   rw [Option.some.inj this]
   exact hint i hi
  rcases hv with rfl|⟨rfl,_⟩
  ·show (match h.get b with|some (.cells n d cs _ _)=>bif Nat.ble 0 n then (mapO (conv false h 999) (rdCells d cs (n - 0) 0)).map (AV.isl false (Rf.dg N).length) else none|_=>none)=_
   rw [g]
   simp only [Nat.ble_eq_true_of_le (Nat.zero_le n),cond_true,Nat.sub_zero,hm];rfl
  ·show (match h.get b with|some (.cells n d cs _ _)=>bif Nat.ble 0 n then (mapO (conv false h 999) (rdCells d cs (n - 0) 0)).map (AV.isl false (Rf.dg N).length) else none|_=>none)=_
   rw [g]
   simp only [Nat.ble_eq_true_of_le (Nat.zero_le n),cond_true,Nat.sub_zero,hm];rfl
 ·rw [rdCells_get d cs n 0 i (by omega)]
  have h1:=rdCells_get d cs (Rf.dg N).length 0 i hi
  rw [hr] at h1
  rw [← h1]
  unfold dI
  rw [List.getElem?_map,List.getD_eq_getElem?_getD,List.getElem?_eq_getElem hi];rfl
end Go.Proofs.YtmadknpaljaecaaGreatDoor.Ev
namespace Go.Proofs.YtmadknpaljaecaaGreatDoor.Ev.D
open Go Go.Proofs.YtmadknpaljaecaaGreatDoor.Ev
set_option maxRecDepth 100000
theorem q9 {x:Nat} (h:x < 9223372036854775808):binV .quo (.int .i64 ((x:Nat):Int)) (.int .i64 1000000000)=some (.int .i64 ((x / 1000000000:Nat):Int)):=by
 rw [b_quo (by decide),show ((x:Nat):Int).tdiv 1000000000=((x / 1000000000:Nat):Int) from rfl,i64_wrap (by omega) (by omega)]
theorem r9 {x:Nat}:binV .rem (.int .i64 ((x:Nat):Int)) (.int .i64 1000000000)=some (.int .i64 ((x % 1000000000:Nat):Int)):=by
 rw [b_rem (by decide)];rfl
theorem bsl1 {ρ:XO→AV} {h:Heap} {t:Nat} {x:Nat} (hρ:ρ (.t t)=.int .i64 ((x:Nat):Int)):o_bsl ρ h 3 1 [.int .i64 0] [(0,1,.t t)]=.ok (.sl h.next 0 1 0 (some 1)) (h.new (.cells 1 .undef (wr .nil [.int .i64 ((x:Nat):Int)] 0) 3 false)):=by
 unfold o_bsl
 simp only [fillParts,hρ]
 rfl
theorem bsl1_cells {h:Heap} {x:Nat}:slCells 1 (h.new (.cells 1 .undef (wr .nil [.int .i64 ((x:Nat):Int)] 0) 3 false)) (.sl h.next 0 1 0 (some 1))=some [.int .i64 ((x:Nat):Int)]:=by
 simp only [slCells,Heap.get_new,if_true]
 rfl
set_option maxHeartbeats 1000000 in
theorem lenB {n N b m:Nat} (h1:N < 1000000000 ^ n) (hb:b≤1000000000) (hm:m≤1000000000):N*b+m < 1000000000 ^ (n+10):=by
 have h2:N*b+m < 1000000000 ^ n*1000000000+1000000001:=by
  have:=Nat.mul_le_mul (Nat.le_of_lt h1) hb
  omega
 refine Nat.lt_of_lt_of_le h2 ?_
 rw [Nat.pow_add]
 have h3:1≤1000000000 ^ n:=Nat.pow_pos (by decide)
 generalize 1000000000 ^ n=Z at h3
 have:(1000000000:Nat) ^ 10=1000000000000000000000000000000000000000000000000000000000000000000000000000000000000000000:=by decide
 rw [this];omega
theorem p9 (n:Nat):10 ^ n≤1000000000 ^ n:=Nat.pow_le_pow_left (by decide) n
theorem s173 {v:AV} {N b m:Nat} (H:IL v N) (hb0:0 < b) (hb:b≤1000000000) (hm:m≤1000000000) (hN:(Rf.dg N).length≤1000000):
  ∃ v',(∀ h,Does C 173 [v,.int .i64 (b:Int),.int .i64 (m:Int)] h v' h)∧IL v' (N*b+m):=by
 have hR:∃ R,Rf.dg (N*b+m)=R:=⟨_,rfl⟩
 obtain ⟨R,hR⟩:=hR
 have hRl:R.length≤1000010:=by
  rw [← hR]
  refine Rf.dg_len_iff.2 ?_
  have h1:=Rf.dg_len_iff.1 hN
  rw [show (1000010:Nat)=1000000+10 from rfl]
  exact lenB (n:=1000000) h1 hb hm
 refine does_pureE (fn:=X173) rfl rfl rfl (args:=[v,.int .i64 (b:Int),.int .i64 (m:Int)]) (P:=fun v'=>IL v' (N*b+m)) (fun h=>mapO_cons (il_conv H true h) (mapO_cons conv_int (mapO_cons conv_int mapO_nil))) ?_
 rw [show X173.body=.seq (seqH X173.body) (.seq (seqH (seqT 1 X173.body)) (.seq (seqH (seqT 2 X173.body)) (seqT 3 X173.body))) from rfl]
 generalize hR3:seqT 3 X173.body=R3
 simp only [X173,seqT,seqH]
 have w0:wrapF .i64 (((Rf.dg N).length:Int)+1)=(((Rf.dg N).length+1:Nat):Int):=by rw [i64_wrap (by omega) (by omega)];omega
 simp (decide:=true) only [BZ,il_len H,w0,x_mksl1,mksl_nat (l:=0) (k:=.i64) (show (Rf.dg N).length+1≤1954687338268 by omega) (Nat.zero_le _)]
 have mk:∀ (k:IntKind) (hh:Heap),mkslV 3 1954687338268 (.int .i64 0) (.int k 0) (.int .i64 (((Rf.dg N).length+1:Nat):Int)) hh=.ok (.sl hh.next 0 0 1 (some ((Rf.dg N).length+1))) (hh.new (.cells ((Rf.dg N).length+1) (.int .i64 0) .nil 3 false)):=fun k hh=>mksl_nat (l:=0) (k:=k) (by omega) (Nat.zero_le _)
 simp (decide:=true) only [BZ,mk]
 refine go_lp (fun n env h=>∃ i more out o,n=(Rf.dg N).length - i∧i≤(Rf.dg N).length∧more≤1000000000∧OS h o out∧out++Rf.dg (N / 1000000000 ^ i*b+more)=R∧env.at 0=v∧env.at 1=.int .i64 (b:Int)∧env.at 2=.int .i64 (more:Int)∧env.at 7=o∧env.at 8=.int .i64 (i:Int))
  (fun env h=>∃ more out o,more≤1000000000∧OS h o out∧out++Rf.dg more=R∧env.at 2=.int .i64 (more:Int)∧env.at 7=o) (n:=(Rf.dg N).length) ⟨0,m,[],.sl 0 0 0 1 (some ((Rf.dg N).length+1)),rfl,Nat.zero_le _,hm,?_,by rw [Nat.pow_zero,Nat.div_one];exact hR,?_⟩ ?_ ?_
 ·refine ⟨0,(Rf.dg N).length+1,.int .i64 0,.nil,3,false,rfl,?_,rfl,Nat.zero_le _,fun i _=>⟨_,_,rfl⟩,.inl rfl⟩
  show 0 < 1;decide
 ·simp (decide:=true) only [BZ]
  all_goals first|rfl|trivial
 ·rintro n env h1 ⟨i,more,out,o,rfl,hi,hmo,O,hout,a0,a1,a2,a7,a8⟩
  by_cases hil:i < (Rf.dg N).length
  ·have hlt:=decide_eq_true (show (i:Int) < ((Rf.dg N).length:Int) by omega)
   obtain ⟨p,hp1,hp2⟩:=il_get H hil
   have hM:0 < N / 1000000000 ^ i:=by
    rcases Nat.eq_zero_or_pos (N / 1000000000 ^ i) with h0|h0
    ·have:=Rf.dg_drop i N
     rw [h0,Rf.dg_zero] at this
     have:=List.drop_eq_nil_iff.1 this
     omega
    ·exact h0
   have hstep:=Rf.times_step hM hb0 out hout
   have hg:(Rf.dg N).getD i 0=N / 1000000000 ^ i % 1000000000:=Rf.dg_get N i
   rw [hg] at hp2
   obtain ⟨dgt,hdg⟩:∃ d,N / 1000000000 ^ i % 1000000000=d:=⟨_,rfl⟩
   have hdl:dgt < 1000000000:=by rw [← hdg];exact Nat.mod_lt _ (by decide)
   rw [hdg] at hp2 hstep
   have hprod:dgt*b≤999999999*1000000000:=Nat.mul_le_mul (by omega) hb
   obtain ⟨pr,hpr⟩:∃ pr,dgt*b=pr:=⟨_,rfl⟩
   rw [hpr] at hprod hstep
   have wm:wrapF .i64 ((dgt:Int)*(b:Int))=((pr:Nat):Int):=by
    rw [show (dgt:Int)*(b:Int)=((pr:Nat):Int) by rw [← hpr];exact (Int.natCast_mul _ _).symm,i64_wrap (by omega) (by omega)]
   have wa:wrapF .i64 ((more:Int)+(pr:Int))=((more+pr:Nat):Int):=by rw [i64_wrap (by omega) (by omega)];omega
   have w1:wrapF .i64 ((i:Int)+1)=((i+1:Nat):Int):=by rw [i64_wrap (by omega) (by omega)];rfl
   have hol:out.length+1≤1954687338268:=by
    have:out.length≤R.length:=by rw [← hout,List.length_append];omega
    omega
   obtain ⟨o2,h2,e2,O2⟩:=app_os (x:=(more+pr) % 1000000000) (O.new (.cells 1 .undef (wr .nil [.int .i64 (((more+pr) % 1000000000:Nat):Int)] 0) 3 false)) hol (y:=.sl h1.next 0 1 0 (some 1)) bsl1_cells rfl
   simp (decide:=true) only [BZ,a0,a1,a2,a7,a8,il_len H,hlt,hp1,hp2,wm,wa,r9]
   refine (opG_of (v:=.sl h1.next 0 1 0 (some 1)) (h:=h1.new (.cells 1 .undef (wr .nil [.int .i64 (((more+pr) % 1000000000:Nat):Int)] 0) 3 false)) ?_).2 ?_
   ·rw [x_bsl]
    refine bsl1 ?_
    simp (decide:=true) only [BZ]
   simp (decide:=true) only [BZ,a0,a1,a2,a7,a8,x_app,e2,q9 (show more+pr < 9223372036854775808 by omega),w1]
   refine ⟨(Rf.dg N).length - (i+1),by omega,i+1,(more+pr) / 1000000000,out++[(more+pr) % 1000000000],o2,rfl,by omega,by omega,O2,?_,rfl,rfl,rfl⟩
   rw [Nat.pow_succ,← Nat.div_div_eq_div_mul];exact hstep
  ·have hz:N / 1000000000 ^ i=0:=by
    have:=Rf.dg_drop i N
    rw [List.drop_eq_nil_of_le (by omega)] at this
    exact Rf.dg_nil this.symm
   rw [hz,Nat.zero_mul,Nat.zero_add] at hout
   simp (decide:=true) only [BZ,a0,a1,a2,a7,a8,il_len H,decide_eq_false (show ¬ (i:Int) < ((Rf.dg N).length:Int) by omega)]
   exact ⟨more,out,o,hmo,O,hout,rfl,rfl⟩
 ·rintro env h1 ⟨more,out,o,hmo,O,hout,a2,a7⟩
  subst hR3
  simp only [X173,seqT]
  simp (decide:=true) only [BZ]
  refine go_lp (fun n env h=>∃ out o,n≤1000000000∧OS h o out∧out++Rf.dg n=R∧env.at 2=.int .i64 (n:Int)∧env.at 7=o) (fun env h=>OS h (env.at 7) R) (n:=more) ⟨out,o,hmo,O,hout,a2,a7⟩ ?_ ?_
  ·rintro n env h1 ⟨out,o,hmo,O,hout,a2,a7⟩
   rcases Nat.eq_zero_or_pos n with h0|h0
   ·subst h0
    rw [Rf.dg_zero,List.append_nil] at hout
    simp (decide:=true) only [BZ,a2,a7,decide_eq_false (show ¬ (0:Int) < ((0:Nat):Int) by decide)]
    rw [← hout];exact O
   ·have hol:out.length+1≤1954687338268:=by
     have:out.length≤R.length:=by rw [← hout,List.length_append];omega
     omega
    obtain ⟨o2,h2,e2,O2⟩:=app_os (x:=n % 1000000000) (O.new (.cells 1 .undef (wr .nil [.int .i64 ((n % 1000000000:Nat):Int)] 0) 3 false)) hol (y:=.sl h1.next 0 1 0 (some 1)) bsl1_cells rfl
    have hst:=Rf.times_rest h0 out hout
    simp (decide:=true) only [BZ,a2,a7,decide_eq_true (show (0:Int) < (n:Int) by omega),r9]
    refine (opG_of (v:=.sl h1.next 0 1 0 (some 1)) (h:=h1.new (.cells 1 .undef (wr .nil [.int .i64 ((n % 1000000000:Nat):Int)] 0) 3 false)) ?_).2 ?_
    ·rw [x_bsl]
     refine bsl1 ?_
     simp (decide:=true) only [BZ]
    simp (decide:=true) only [BZ,a2,a7,x_app,e2,q9 (show n < 9223372036854775808 by omega)]
    refine ⟨n / 1000000000,Nat.div_lt_self h0 (by decide),out++[n % 1000000000],o2,by omega,O2,hst,rfl,rfl⟩
  ·rintro env h1 O
   rw [← hR] at O
   obtain ⟨v',hv,hI⟩:=os_conv O
   simp (decide:=true) only [BZ]
   first|exact ⟨v',hv,hI⟩|exact back1E hv hI
end Go.Proofs.YtmadknpaljaecaaGreatDoor.Ev.D
namespace Go.Proofs.YtmadknpaljaecaaGreatDoor.Rf
theorem dg_len_mono {a b:Nat} (h:a≤b):(dg a).length≤(dg b).length:=by
 have h1:=dg_len_iff.1 (Nat.le_refl (dg b).length)
 exact dg_len_iff.2 (Nat.lt_of_le_of_lt h h1)
end Go.Proofs.YtmadknpaljaecaaGreatDoor.Rf
namespace Go.Proofs.YtmadknpaljaecaaGreatDoor.Ev.D
open Go Go.Proofs.YtmadknpaljaecaaGreatDoor.Ev
set_option maxRecDepth 100000
theorem s131 {v:AV} {N a n:Nat} (H:IL v N) (ha0:0 < a) (ha:a≤1000000000) (hn:n≤1000000) (hl:(Rf.dg (N*a ^ n)).length≤1000000):
  ∃ v',(∀ h,Does C 131 [v,.int .i64 (a:Int),.int .i64 (n:Int)] h v' h)∧IL v' (N*a ^ n):=by
 refine does_pureE (fn:=X131) rfl rfl rfl (args:=[v,.int .i64 (a:Int),.int .i64 (n:Int)]) (P:=fun v'=>IL v' (N*a ^ n)) (fun h=>mapO_cons (il_conv H true h) (mapO_cons conv_int (mapO_cons conv_int mapO_nil))) ?_
 simp only [X131]
 simp (decide:=true) only [BZ]
 refine go_lp (fun k env h=>∃ i,k=n - i∧i≤n∧IL (env.at 0) (N*a ^ i)∧env.at 1=.int .i64 (a:Int)∧env.at 2=.int .i64 (n:Int)∧env.at 7=.int .i64 (i:Int)) (fun env h=>IL (env.at 0) (N*a ^ n)) (n:=n) ⟨0,rfl,Nat.zero_le _,?_⟩ ?_ ?_
 ·simp (decide:=true) only [BZ]
  rw [Nat.pow_zero,Nat.mul_one]
  exact H
 ·rintro k env h1 ⟨i,rfl,hi,hI,a1,a2,a7⟩
  by_cases hlt:i < n
  ·have hli:(Rf.dg (N*a ^ i)).length≤1000000:=Nat.le_trans (Rf.dg_len_mono (Nat.mul_le_mul_left _ (Nat.pow_le_pow_right ha0 hi))) hl
   obtain ⟨v',hd,hI'⟩:=s173 (m:=0) hI ha0 ha (by decide) hli
   have w1:wrapF .i64 ((i:Int)+1)=((i+1:Nat):Int):=by rw [i64_wrap (by omega) (by omega)];rfl
   have hd':∀ h,Does C 173 [env.at 0,.int .i64 (a:Int),.int .i64 0] h v' h:=hd
   simp (decide:=true) only [BZ,a1,a2,a7,decide_eq_true (show (i:Int) < (n:Int) by omega),callG_of (hd' _),w1]
   refine ⟨n - (i+1),by omega,i+1,rfl,hlt,?_,rfl⟩
   rw [Nat.pow_succ,← Nat.mul_assoc];exact hI'
  ·have he:i=n:=by omega
   subst he
   simp (decide:=true) only [BZ,a1,a2,a7,decide_eq_false (show ¬ (i:Int) < (i:Int) by omega)]
   exact hI
 ·rintro env h1 hI
  have hc:=il_conv hI false
  simp (decide:=true) only [BZ,hc]
  first|exact ⟨_,rfl,hI⟩|exact ⟨_,hc _,hI⟩|exact back1E (hc _) hI
theorem s130 {v:AV} {N e:Nat} (H:IL v N) (he:e≤1000000) (hl:(Rf.dg (N*2 ^ e)).length≤1000000):
  ∃ v',(∀ h,Does C 130 [v,.int .i64 (e:Int)] h v' h)∧IL v' (N*2 ^ e):=by
 have e1:N*268435456 ^ (e / 28)*2 ^ (e % 28)=N*2 ^ e:=by
  rw [Nat.mul_assoc,show (268435456:Nat)=2 ^ 28 from rfl,← Nat.pow_mul,← Nat.pow_add,Nat.div_add_mod]
 obtain ⟨v1,d1,I1⟩:=s131 (a:=268435456) (n:=e / 28) H (by decide) (by decide) (by omega) (Nat.le_trans (Rf.dg_len_mono (by rw [← e1];exact Nat.le_mul_of_pos_right _ (Nat.two_pow_pos _))) hl)
 obtain ⟨v2,d2,I2⟩:=s131 (a:=2) (n:=e % 28) I1 (by decide) (by decide) (by omega) (by rw [e1];exact hl)
 rw [e1] at I2
 have d1':∀ h,Does C 131 [v,.int .i64 268435456,.int .i64 ((e / 28:Nat):Int)] h v1 h:=d1
 have d2':∀ h,Does C 131 [v1,.int .i64 2,.int .i64 ((e % 28:Nat):Int)] h v2 h:=d2
 have q:binV .quo (.int .i64 (e:Int)) (.int .i64 28)=some (.int .i64 ((e / 28:Nat):Int)):=by
  rw [b_quo (by decide),show ((e:Nat):Int).tdiv 28=((e / 28:Nat):Int) from rfl,i64_wrap (by omega) (by omega)]
 have r:binV .rem (.int .i64 (e:Int)) (.int .i64 28)=some (.int .i64 ((e % 28:Nat):Int)):=by
  rw [b_rem (by decide)];rfl
 refine ⟨v2,fun h=>?_,I2⟩
 refine does_pure (fn:=X130) rfl rfl rfl (mapO_cons (il_conv H true h) (mapO_cons conv_int mapO_nil)) ?_
 simp (decide:=true) only [BZ,X130,q,r,callG_of (d1' _),callG_of (d2' _),il_conv I2]
theorem s163 {v:AV} {N e:Nat} (H:IL v N) (he:e≤1000000) (hl:(Rf.dg (N*10 ^ e)).length≤1000000):
  ∃ v',(∀ h,Does C 163 [v,.int .i64 (e:Int)] h v' h)∧IL v' (N*10 ^ e):=by
 have e1:N*1000000000 ^ (e / 9)*10 ^ (e % 9)=N*10 ^ e:=by
  rw [Nat.mul_assoc,show (1000000000:Nat)=10 ^ 9 from rfl,← Nat.pow_mul,← Nat.pow_add,Nat.div_add_mod]
 obtain ⟨v1,d1,I1⟩:=s131 (a:=1000000000) (n:=e / 9) H (by decide) (by decide) (by omega) (Nat.le_trans (Rf.dg_len_mono (by rw [← e1];exact Nat.le_mul_of_pos_right _ (Nat.pow_pos (by decide)))) hl)
 obtain ⟨v2,d2,I2⟩:=s131 (a:=10) (n:=e % 9) I1 (by decide) (by decide) (by omega) (by rw [e1];exact hl)
 rw [e1] at I2
 have d1':∀ h,Does C 131 [v,.int .i64 1000000000,.int .i64 ((e / 9:Nat):Int)] h v1 h:=d1
 have d2':∀ h,Does C 131 [v1,.int .i64 10,.int .i64 ((e % 9:Nat):Int)] h v2 h:=d2
 have q:binV .quo (.int .i64 (e:Int)) (.int .i64 9)=some (.int .i64 ((e / 9:Nat):Int)):=by
  rw [b_quo (by decide),show ((e:Nat):Int).tdiv 9=((e / 9:Nat):Int) from rfl,i64_wrap (by omega) (by omega)]
 have r:binV .rem (.int .i64 (e:Int)) (.int .i64 9)=some (.int .i64 ((e % 9:Nat):Int)):=by
  rw [b_rem (by decide)];rfl
 refine ⟨v2,fun h=>?_,I2⟩
 refine does_pure (fn:=X163) rfl rfl rfl (mapO_cons (il_conv H true h) (mapO_cons conv_int mapO_nil)) ?_
 simp (decide:=true) only [BZ,X163,q,r,callG_of (d1' _),callG_of (d2' _),il_conv I2]
theorem s128 {l:List UInt8} (hd:l.all Rf.isD=true) (hl:l.length≤1000000):
  ∃ v',(∀ h,Does C 128 [.str (BStr.ofBytes l)] h v' h)∧IL v' (Rf.dval l 0):=by
 refine does_pureE (fn:=X128) rfl rfl rfl (args:=[.str (BStr.ofBytes l)]) (P:=fun v'=>IL v' (Rf.dval l 0)) (fun h=>mapO_cons conv_str mapO_nil) ?_
 simp only [X128]
 simp (decide:=true) only [BZ]
 refine go_lp (fun k env h=>∃ i rest,l.drop i=rest∧k=rest.length∧i≤l.length∧IL (env.at 3) (Rf.dval (l.take i) 0)∧env.at 0=.str (BStr.ofBytes l)∧env.at 4=.int .i64 (i:Int)) (fun env h=>IL (env.at 3) (Rf.dval l 0)) (n:=l.length) ⟨0,l,rfl,rfl,Nat.zero_le _,?_⟩ ?_ ?_
 ·simp (decide:=true) only [BZ]
  exact .inl ⟨rfl,rfl⟩
 ·rintro k env h1 ⟨i,rest,hdr,rfl,hi,hI,a0,a4⟩
  cases rest with
  |nil=>
   have:=drop_nil hdr
   rw [List.take_of_length_le this] at hI
   simp (decide:=true) only [BZ,a0,a4,decide_eq_false (show ¬ (i:Int) < (l.length:Int) by omega)]
   exact hI
  |cons c r=>
   obtain ⟨hil,hc,hd'⟩:=drop_cons hdr
   have hcd:48≤c.toNat∧c.toNat≤57:=isD_iff.1 (List.all_eq_true.1 hd c (List.mem_of_getElem? hc))
   have w1:wrapF .i64 ((i:Int)+1)=((i+1:Nat):Int):=by rw [i64_wrap (by omega) (by omega)];rfl
   have wd:wrapF .u8 (((c.toNat:Nat):Int) - 48)=((c.toNat - 48:Nat):Int):=by
    rw [show ((c.toNat:Nat):Int) - 48=((c.toNat - 48:Nat):Int) by omega]
    show ((c.toNat - 48:Nat):Int) % 256=_
    omega
   have wi:wrapF .i64 ((c.toNat - 48:Nat):Int)=((c.toNat - 48:Nat):Int):=i64_wrap (by omega) (by omega)
   have hv:Rf.dval (l.take (i+1)) 0=Rf.dval (l.take i) 0*10+(c.toNat - 48):=by
    rw [List.take_succ,hc,Rf.dval_append];rfl
   have hb:(Rf.dg (Rf.dval (l.take i) 0)).length≤1000000:=by
    refine Rf.dg_len_iff.2 (Nat.lt_of_lt_of_le (Rf.dval_lt _ ?_) ?_)
    ·rw [List.all_eq_true] at hd ⊢
     exact fun x hx=>hd x (List.mem_of_mem_take hx)
    ·refine Nat.le_trans (Nat.pow_le_pow_right (n:=10) (by decide) (show (l.take i).length≤1000000 by rw [List.length_take];omega)) (p9 1000000)
   obtain ⟨v',hdo,hI'⟩:=s173 (b:=10) (m:=c.toNat - 48) hI (by decide) (by decide) (by omega) hb
   rw [← hv] at hI'
   have hdo':∀ h,Does C 173 [env.at 3,.int .i64 10,.int .i64 ((c.toNat - 48:Nat):Int)] h v' h:=hdo
   simp (decide:=true) only [BZ,a0,a4,decide_eq_true (show (i:Int) < (l.length:Int) by omega),ixS_drop hdr,wd,wi,callG_of (hdo' _),w1]
   exact ⟨r.length,Nat.lt_succ_self _,i+1,r,hd',rfl,hil,hI',rfl⟩
 ·rintro env h1 hI
  have hc:=il_conv hI false
  simp (decide:=true) only [BZ,hc]
  first|exact ⟨_,rfl,hI⟩|exact ⟨_,hc _,hI⟩|exact back1E (hc _) hI
end Go.Proofs.YtmadknpaljaecaaGreatDoor.Ev.D
namespace Go.Proofs.YtmadknpaljaecaaGreatDoor.Ev.D
open Go Go.Proofs.YtmadknpaljaecaaGreatDoor.Ev
set_option maxRecDepth 100000
theorem s164 {v w:AV} {a b:Nat} (H:IL v a) (K:IL w b) (hl:(Rf.dg a).length≤1000000) (hl2:(Rf.dg b).length≤1000000) (h:Heap):Does C 164 [v,w] h (.int .i64 (Rf.sgn a b)) h:=by
 refine does_pure (fn:=X164) rfl rfl rfl (mapO_cons (il_conv H true h) (mapO_cons (il_conv K true h) mapO_nil)) ?_
 simp only [X164]
 by_cases hne:(Rf.dg a).length=(Rf.dg b).length
 ·have e0:=decide_eq_false (show ¬ (((Rf.dg a).length:Int)≠((Rf.dg b).length:Int)) by omega)
  have w0:wrapF .i64 (((Rf.dg a).length:Int) - 1)=((Rf.dg a).length:Int) - 1:=i64_wrap (by omega) (by omega)
  simp (decide:=true) only [BZ,il_len H,il_len K,e0,w0]
  have z:∀ x,x / 1000000000 ^ (Rf.dg x).length=0:=fun x=>Nat.div_eq_of_lt (Rf.dg_len_iff.1 (Nat.le_refl _))
  refine go_lp (fun n env h=>n≤(Rf.dg a).length∧a / 1000000000 ^ n=b / 1000000000 ^ n∧env.at 0=v∧env.at 1=w∧env.at 5=.int .i64 ((n:Int) - 1)) (fun env h=>Rf.sgn a b=0) (n:=(Rf.dg a).length) ⟨Nat.le_refl _,by rw [z a,hne,z b],?_⟩ ?_ ?_
  ·simp (decide:=true) only [BZ]
  ·rintro n env h1 ⟨hn,hq,a0,a1,a5⟩
   cases n with
   |zero=>
    rw [Nat.pow_zero,Nat.div_one,Nat.div_one] at hq
    subst hq
    simp (decide:=true) only [BZ,a0,a1,a5,decide_eq_false (show ¬ (0:Int)≤((0:Nat):Int) - 1 by decide)]
    unfold Rf.sgn
    rw [if_neg (Nat.lt_irrefl _),if_neg (Nat.lt_irrefl _)]
   |succ i=>
    obtain ⟨p,p1,p2⟩:=il_get H (show i < (Rf.dg a).length by omega)
    obtain ⟨q,q1,q2⟩:=il_get K (show i < (Rf.dg b).length by omega)
    have ei:((i+1:Nat):Int) - 1=(i:Int):=by omega
    rw [ei] at a5
    have w1:wrapF .i64 ((i:Int) - 1)=(i:Int) - 1:=i64_wrap (by omega) (by omega)
    simp (decide:=true) only [BZ,a5,decide_eq_true (show (0:Int)≤(i:Int) by omega)]
    refine go_drawW rfl ?_
    rcases Nat.lt_trichotomy ((Rf.dg a).getD i 0) ((Rf.dg b).getD i 0) with hc|hc|hc
    ·have hlt:=Rf.cmp_lt hq hc
     simp (decide:=true) only [BZ,a0,a1,a5,p1,p2,q1,q2,decide_eq_true (show (((Rf.dg a).getD i 0:Nat):Int) < (((Rf.dg b).getD i 0:Nat):Int) by omega)]
     unfold Rf.sgn
     rw [if_pos hlt]
    ·have he:=Rf.cmp_eq hq hc
     simp (decide:=true) only [BZ,a0,a1,a5,p1,p2,q1,q2,decide_eq_false (show ¬ (((Rf.dg a).getD i 0:Nat):Int) < (((Rf.dg b).getD i 0:Nat):Int) by omega)]
     refine go_drawW rfl ?_
     simp (decide:=true) only [BZ,a0,a1,a5,p1,p2,q1,q2,decide_eq_false (show ¬ (((Rf.dg b).getD i 0:Nat):Int) < (((Rf.dg a).getD i 0:Nat):Int) by omega),w1]
     refine ⟨i,Nat.lt_succ_self _,by omega,he,?_⟩
     first|trivial|rfl|exact ⟨rfl,rfl⟩
    ·have hlt:=Rf.cmp_lt hq.symm hc
     simp (decide:=true) only [BZ,a0,a1,a5,p1,p2,q1,q2,decide_eq_false (show ¬ (((Rf.dg a).getD i 0:Nat):Int) < (((Rf.dg b).getD i 0:Nat):Int) by omega)]
     refine go_drawW rfl ?_
     simp (decide:=true) only [BZ,a0,a1,a5,p1,p2,q1,q2,decide_eq_true (show (((Rf.dg b).getD i 0:Nat):Int) < (((Rf.dg a).getD i 0:Nat):Int) by omega)]
     unfold Rf.sgn
     rw [if_neg (by omega),if_pos hlt]
  ·rintro env h1 hs
   simp (decide:=true) only [BZ,hs]
 ·have e0:=decide_eq_true (show (((Rf.dg a).length:Int)≠((Rf.dg b).length:Int)) by omega)
  rcases Nat.lt_or_ge (Rf.dg a).length (Rf.dg b).length with hc|hc
  ·simp (decide:=true) only [BZ,il_len H,il_len K,e0,decide_eq_true (show ((Rf.dg a).length:Int) < ((Rf.dg b).length:Int) by omega)]
   rw [Rf.sgn_len_lt hc]
  ·simp (decide:=true) only [BZ,il_len H,il_len K,e0,decide_eq_false (show ¬ ((Rf.dg a).length:Int) < ((Rf.dg b).length:Int) by omega)]
   rw [Rf.sgn_len_gt (by omega)]
end Go.Proofs.YtmadknpaljaecaaGreatDoor.Ev.D
namespace Go.Proofs.YtmadknpaljaecaaGreatDoor.Ev
open Go
def cvBSV (v:AV) (h:Heap):OpR:=match v with
 |.str _=>.no 72
 |v=>(match slCells 1 h v with
  |some cs=>opR ((bytesOf cs .empty).map .str) h 71
  |none=>.no 72)
theorem x_cvBS {call:CallT} {ρ:XO→AV} {h:Heap} {x:XO}:xop call ρ h (.g (.cvBS x))=cvBSV (ρ x) h:=rfl
theorem bsl1b {ρ:XO→AV} {h:Heap} {t:Nat} {c:UInt8} (hρ:ρ (.t t)=.int .u8 ((c.toNat:Nat):Int)):o_bsl ρ h 5 1 [.int .u8 0] [(0,1,.t t)]=.ok (.sl h.next 0 1 0 (some 1)) (h.new (.cells 1 .undef (wr .nil [.int .u8 ((c.toNat:Nat):Int)] 0) 5 false)):=by
 unfold o_bsl
 simp only [fillParts,hρ]
 rfl
theorem cvBS1 {h:Heap} {c:UInt8}:cvBSV (.sl h.next 0 1 0 (some 1)) (h.new (.cells 1 .undef (wr .nil [.int .u8 ((c.toNat:Nat):Int)] 0) 5 false))=.ok (.str (BStr.ofBytes [c])) (h.new (.cells 1 .undef (wr .nil [.int .u8 ((c.toNat:Nat):Int)] 0) 5 false)):=by
 have hy:slCells 1 (h.new (.cells 1 .undef (wr .nil [.int .u8 ((c.toNat:Nat):Int)] 0) 5 false)) (.sl h.next 0 1 0 (some 1))=some (byteAVs ([c].map UInt8.toNat)):=by
  simp only [slCells,Heap.get_new,if_true]
  rfl
 have hbm:=bytesOf_map [c] []
 rw [show BStr.ofBytes []=BStr.empty from rfl,List.nil_append] at hbm
 unfold cvBSV
 simp only [hy,hbm];rfl
end Go.Proofs.YtmadknpaljaecaaGreatDoor.Ev
namespace Go.Proofs.YtmadknpaljaecaaGreatDoor.Ev
open Go
theorem callFn_heap {C:Ctx} {f:Nat} {fn:XFn} (hs:C.sum f=none) (hf:C.fns f=some fn) (hp:fn.pure=true) {args args':List AV} {v:AV} (ha:∀ h,mapO (conv true h depth) args=some args') {n:Nat} (hn:callFn (ex C n) C f args .empty=.ok v .empty) (h:Heap):callFn (ex C n) C f args h=.ok v h:=by
 simp only [callFn,hs,callB,hf,hp,ha] at hn ⊢
 split at hn
 ·split at hn
  ·split at hn
   ·cases hn
   ·split at hn
    ·cases hn
    ·cases hn;simp_all
  ·split at hn
   ·cases hn
   ·split at hn
    ·cases hn
    ·cases hn;simp_all
  ·split at hn <;> cases hn
  ·cases hn
 ·cases hn
theorem go_drawN {C:Ctx} {ops:List (XOper×DI)} {env env':T AV} {h h':Heap} {hs:List Heap} {rs:List Rec} {ks:List K} {Q:PostC} (N:Nat)
  (hr:runD (callFn (ex C N) C) C ops env h [] []=some (env',h'::hs,rs)) (ha:(rs.all (again (callFn (ex C N) C) C (h'::hs).reverse))=true) (hg:GoP C ks env' h' Q):GoP C (.c (.draw ops)::ks) env h Q:=by
 refine ⟨N+1,.nrm,env',h',?_,hg⟩
 show xdraw (callFn (ex C N) C) C ops env h=_
 unfold xdraw
 rw [hr]
 simp only [ha]
 rfl
theorem avEq_str (l:List UInt8):avEq depth (.str (BStr.ofBytes l)) (.str (BStr.ofBytes l))=true:=by
 show (BStr.ofBytes l).beq (BStr.ofBytes l)=true
 rw [BStr.beq_eq];simp
end Go.Proofs.YtmadknpaljaecaaGreatDoor.Ev
namespace Go.Proofs.YtmadknpaljaecaaGreatDoor.Ev.D
open Go Go.Proofs.YtmadknpaljaecaaGreatDoor.Ev
set_option maxRecDepth 100000
theorem c48 {x:Nat} (hx:x < 10):wrapF .i64 (48+((x:Nat):Int))=((48+x:Nat):Int)∧wrapF .u8 ((48+x:Nat):Int)=(((UInt8.ofNat (48+x % 10)).toNat:Nat):Int):=by
 refine ⟨by rw [i64_wrap (by omega) (by omega)];omega,?_⟩
 rw [Rf.digit_toNat]
 show ((48+x:Nat):Int) % 256=_
 omega
theorem s117 (n:Nat) (hn:n < 9223372036854775808) (h:Heap):Does C 117 [.int .i64 (n:Int)] h (.str (BStr.ofBytes (Rf.dec n))) h:=by
 induction n using Nat.strongRecOn generalizing h with
 |_ n ih=>
  by_cases h10:n < 10
  ·obtain ⟨w1,w2⟩:=c48 h10
   refine does_pure (fn:=X117) rfl rfl rfl (mapO_cons conv_int mapO_nil) ?_
   have hd:=fun h=>s106 (l:=[UInt8.ofNat (48+n % 10)]) (by simp) h
   have he:Rf.tl 48 [UInt8.ofNat (48+n % 10)]=Rf.dec n:=by
    rcases Nat.eq_zero_or_pos n with h0|h0
    ·subst h0;rw [Rf.dec_zero];rfl
    ·rw [Rf.dec_pos h0,show n / 10=0 by omega,Rf.dec_zero,Rf.tl,if_neg];· rfl
     intro e
     have:=congrArg UInt8.toNat e
     rw [Rf.digit_toNat] at this
     have h48:(48:UInt8).toNat=48:=rfl
     omega
   rw [he] at hd
   simp (decide:=true) only [BZ,X117,decide_eq_true (show (n:Int) < 10 by omega),w1,w2]
   refine (opG_of (v:=.sl Heap.empty.next 0 1 0 (some 1)) (h:=Heap.empty.new (.cells 1 .undef (wr .nil [.int .u8 (((UInt8.ofNat (48+n % 10)).toNat:Nat):Int)] 0) 5 false)) ?_).2 ?_
   ·rw [x_bsl]
    refine bsl1b ?_
    simp (decide:=true) only [BZ]
   have cv:=cvBS1 (h:=Heap.empty) (c:=UInt8.ofNat (48+n % 10))
   rw [empty_next] at cv
   simp (decide:=true) only [BZ,x_cvBS,cv,callG_of (hd _)]
  ·obtain ⟨w1,w2⟩:=c48 (Nat.mod_lt n (show 10 > 0 by decide))
   rw [Nat.mod_mod] at w2
   have hlen:(Rf.dec (n / 10)).length≤100:=Rf.dec_len_iff.2 (by
    have:(9223372036854775808:Nat)≤10 ^ 19:=by decide
    have h2:(10:Nat) ^ 19≤10 ^ 100:=Nat.pow_le_pow_right (by decide) (by decide)
    omega)
   have hfin:Rf.dec (n / 10)++[UInt8.ofNat (48+n % 10)]=Rf.dec n:=(Rf.dec_pos (by omega)).symm
   have hadd:binV .add (.str (BStr.ofBytes (Rf.dec (n / 10)))) (.str (BStr.ofBytes [UInt8.ofNat (48+n % 10)]))=some (.str (BStr.ofBytes (Rf.dec n))):=by
    rw [← hfin]
    exact sadd_of (Nat.le_trans (show _≤101 by simp;omega) (by decide))
   obtain ⟨N,hN⟩:=ih (n / 10) (by omega) (by omega) .empty
   have hN2:=callFn_heap (fn:=X117) rfl rfl rfl (fun h=>mapO_cons conv_int mapO_nil) hN
   have q:binV .quo (.int .i64 (n:Int)) (.int .i64 10)=some (.int .i64 ((n / 10:Nat):Int)):=by
    rw [b_quo (by decide),show ((n:Nat):Int).tdiv 10=((n / 10:Nat):Int) from rfl,i64_wrap (by omega) (by omega)]
   have r:binV .rem (.int .i64 (n:Int)) (.int .i64 10)=some (.int .i64 ((n % 10:Nat):Int)):=by
    rw [b_rem (by decide)];rfl
   obtain ⟨c,hc⟩:∃ c,UInt8.ofNat (48+n % 10)=c:=⟨_,rfl⟩
   rw [hc] at w2 hadd
   have cv:=cvBS1 (h:=Heap.empty) (c:=c)
   rw [empty_next] at cv
   obtain ⟨H1,hH1⟩:∃ H,Heap.empty.new (.cells 1 .undef (wr .nil [.int .u8 ((c.toNat:Nat):Int)] 0) 5 false)=H:=⟨_,rfl⟩
   have hb:∀ ρ:XO→AV,ρ (.t 17)=.int .u8 ((c.toNat:Nat):Int)→o_bsl ρ Heap.empty 5 1 [.int .u8 0] [(0,1,.t 17)]=.ok (.sl 0 0 1 0 (some 1)) H1:=fun ρ hρ=>by
    rw [← hH1];exact bsl1b hρ
   rw [hH1] at cv
   have xcall:∀ (ρ:XO→AV) (hh:Heap),ρ (.t 12)=.int .i64 ((n / 10:Nat):Int)→xop (callFn (ex C N) C) ρ hh (.call 117 [.t 12])=.ok (.str (BStr.ofBytes (Rf.dec (n / 10)))) hh:=fun ρ hh hρ=>by
    show callFn (ex C N) C 117 [ρ (.t 12)] hh=_
    rw [hρ];exact hN2 hh
   refine does_pure (fn:=X117) rfl rfl rfl (mapO_cons conv_int mapO_nil) ?_
   simp (decide:=true) only [BZ,X117,decide_eq_false (show ¬ (n:Int) < 10 by omega)]
   refine go_drawN (env':=?E) (h':=H1) (hs:=[Heap.empty]) (rs:=?R) N ?A ?B ?D
   case A=>
    rw [runD_free (v:=.int .i64 (n:Int)) (h':=Heap.empty) ?a1,runD_free (v:=.int .i64 ((n / 10:Nat):Int)) (h':=Heap.empty) ?a2,runD_rd (v:=.str (BStr.ofBytes (Rf.dec (n / 10)))) (h':=Heap.empty) ?a3,
     runD_free (v:=.int .i64 (n:Int)) (h':=Heap.empty) ?a4,runD_free (v:=.int .i64 ((n % 10:Nat):Int)) (h':=Heap.empty) ?a5,runD_free (v:=.int .i64 ((48+n % 10:Nat):Int)) (h':=Heap.empty) ?a6,runD_free (v:=.int .u8 ((c.toNat:Nat):Int)) (h':=Heap.empty) ?a7,
     runD_wr (v:=.sl 0 0 1 0 (some 1)) (h':=H1) ?a8,runD_rd (v:=.str (BStr.ofBytes [c])) (h':=H1) ?a9,runD_free (v:=.str (BStr.ofBytes (Rf.dec n))) (h':=H1) ?a10,runD_free (v:=.str (BStr.ofBytes (Rf.dec n))) (h':=H1) ?a11,runD_nil]
    case a3=>exact xcall _ _ (by simp (decide:=true) only [BZ])
    case a8=>
     rw [x_bsl]
     refine hb _ ?_
     simp (decide:=true) only [BZ]
    case a9=>
     simp (decide:=true) only [BZ,x_cvBS]
     exact cv
    all_goals first|(simp (decide:=true) only [BZ,q,r,w1,w2,hadd];done)|rfl
   case B=>
    simp only [List.all_cons,List.all_nil,Bool.and_true,Bool.and_eq_true]
    refine ⟨rfl,?_⟩
    unfold again
    rw [show Nat.beq 0 1=false from rfl,cond_false]
    show (([Heap.empty,H1]:List Heap).all _)=true
    simp only [List.all_cons,List.all_nil,Bool.and_true,Bool.and_eq_true]
    rw [xcall _ _ (by simp (decide:=true) only [BZ]),xcall _ _ (by simp (decide:=true) only [BZ])]
    exact ⟨avEq_str _,avEq_str _⟩
   case D=>
    simp (decide:=true) only [BZ]
end Go.Proofs.YtmadknpaljaecaaGreatDoor.Ev.D
namespace Go.Proofs.YtmadknpaljaecaaGreatDoor.Rf
theorem pw9 (n m:Nat) (h:n≤m):2 ^ n≤1000000000 ^ m:=Nat.le_trans (Nat.pow_le_pow_left (show 2≤1000000000 by decide) n) (Nat.pow_le_pow_right (by decide) h)
theorem pw2 (n m:Nat) (h:n≤m):2 ^ n≤2 ^ m:=Nat.pow_le_pow_right (by decide) h
theorem dg_small {N:Nat} (h:N < 2 ^ 10000):(dg N).length≤1000000:=by
 exact dg_len_iff.2 (Nat.lt_of_lt_of_le h (pw9 10000 1000000 (by decide)))
theorem ten_two (k:Nat):10 ^ k≤2 ^ (4*k):=by
 rw [Nat.pow_mul];exact Nat.pow_le_pow_left (by decide) k
def sideA (m:Nat) (e p:Int):Nat:=m*2 ^ e.toNat*10 ^ (-p).toNat
def sideB (D:Nat) (e p:Int):Nat:=D*2 ^ (-e).toNat*10 ^ p.toNat
theorem side_gen {m a b K T:Nat} (hm:m < 2 ^ K) (h:K+a+4*b≤T):m*2 ^ a*10 ^ b < 2 ^ T:=by
 have h1:m*2 ^ a < 2 ^ K*2 ^ a:=Nat.mul_lt_mul_of_pos_right hm (Nat.two_pow_pos _)
 have h2:m*2 ^ a*10 ^ b < 2 ^ K*2 ^ a*2 ^ (4*b):=Nat.lt_of_lt_of_le (Nat.mul_lt_mul_of_pos_right h1 (Nat.pow_pos (by decide))) (Nat.mul_le_mul_left _ (ten_two b))
 rw [← Nat.pow_add,← Nat.pow_add] at h2
 exact Nat.lt_of_lt_of_le h2 (Nat.pow_le_pow_right (by decide) h)
theorem side_small {m a b:Nat} (hm:m < 2 ^ 2000) (ha:a≤2000) (hb:b≤1000):m*2 ^ a*10 ^ b < 2 ^ 10000:=side_gen (K:=2000) (T:=10000) hm (by omega)
end Go.Proofs.YtmadknpaljaecaaGreatDoor.Rf
namespace Go.Proofs.YtmadknpaljaecaaGreatDoor.Ev.D
open Go Go.Proofs.YtmadknpaljaecaaGreatDoor.Ev
set_option maxRecDepth 100000
theorem s108 {m:Nat} {e p:Int} {t:List UInt8} (hm:m < 2 ^ 60) (he:-2000≤e∧e≤2000) (hp:-1000≤p∧p≤1000) (ht:t.all Rf.isD=true) (htl:t.length≤500) (h:Heap):
  Does C 108 [.int .i64 (m:Int),.int .i64 e,.agg [.str (BStr.ofBytes t),.int .i64 p]] h (.int .i64 (Rf.sgn (Rf.sideA m e p) (Rf.sideB (Rf.dval t 0) e p))) h:=by
 have hm63:m < 9223372036854775808:=Nat.lt_trans hm (by decide)
 have hm2:m < 2 ^ 2000:=Nat.lt_of_lt_of_le hm (Rf.pw2 60 2000 (by decide))
 have hD2:Rf.dval t 0 < 2 ^ 2000:=by
  refine Nat.lt_of_lt_of_le (Rf.dval_lt t ht) (Nat.le_trans (Rf.ten_two _) (Rf.pw2 _ 2000 (by omega)))
 have hdl:(Rf.dec m).length≤100:=Rf.dec_len_iff.2 (Nat.lt_of_lt_of_le hm63 (Nat.le_trans (show 9223372036854775808≤10 ^ 19 by decide) (Nat.pow_le_pow_right (by decide) (by decide))))
 have c117:=fun h=>s117 m hm63 h
 obtain ⟨vA,dA,IA⟩:=s128 (l:=Rf.dec m) (Rf.dec_isD m) (by omega)
 rw [Rf.dval_dec] at IA
 obtain ⟨vB,dB,IB⟩:=s128 (l:=t) ht (by omega)
 obtain ⟨D,hD⟩:∃ D,Rf.dval t 0=D:=⟨_,rfl⟩
 rw [hD] at IB hD2 ⊢
 clear hm hm63
 have hs2:∀ {x a:Nat},x < 2 ^ 2000→a≤2000→(Rf.dg (x*2 ^ a)).length≤1000000:=fun {x a} hx ha=>by
  have:=Rf.side_small (b:=0) hx ha (by decide)
  rw [Nat.pow_zero,Nat.mul_one] at this
  exact Rf.dg_small this
 have hs10:∀ {x a:Nat},x < 2 ^ 2000→a≤1000→(Rf.dg (x*10 ^ a)).length≤1000000:=fun {x a} hx ha=>by
  have:=Rf.side_small (a:=0) hx (by decide) ha
  rw [Nat.pow_zero,Nat.mul_one] at this
  exact Rf.dg_small this
 have hs:∀ {x a b:Nat},x < 2 ^ 2000→a≤2000→b≤1000→(Rf.dg (x*2 ^ a*10 ^ b)).length≤1000000:=fun {x a b} hx ha hb=>Rf.dg_small (Rf.side_small hx ha hb)
 have hs0:∀ {x:Nat},x < 2 ^ 2000→(Rf.dg x).length≤1000000:=fun {x} hx=>Rf.dg_small (Nat.lt_of_lt_of_le hx (Rf.pw2 2000 10000 (by decide)))
 refine does_pure (fn:=X108) rfl rfl rfl (mapO_cons conv_int (mapO_cons conv_int (mapO_cons (b:=.agg [.str (BStr.ofBytes t),.int .i64 p]) rfl mapO_nil))) ?_
 obtain ⟨HB,hHB⟩:∃ H,Heap.empty.new (.cells 2 .undef (wr .nil [.str (BStr.ofBytes t),.int .i64 p] 0) 67 false)=H:=⟨_,rfl⟩
 have l0:ldV false 1 (.ref 0 0) HB=.ok (.str (BStr.ofBytes t)) HB:=by rw [← hHB];rfl
 have l1:ldV false 1 (.ref 0 1) HB=.ok (.int .i64 p) HB:=by rw [← hHB];rfl
 have wn:∀ {x:Int},-2000≤x→x≤2000→wrapF .i64 (0 - x)=((-x).toNat:Int)∨0 < x:=fun {x} h1 h2=>by
  by_cases h:0 < x
  ·exact .inr h
  ·left;rw [i64_wrap (by omega) (by omega)];omega
 simp only [X108]
 simp (decide:=true) only [BZ]
 refine (opG_of (v:=.ref 0 0) (h:=HB) ?_).2 ?_
 ·rw [← hHB];rfl
 by_cases e0:0≤e
 ·obtain ⟨a,rfl⟩:=Int.eq_ofNat_of_zero_le e0
  obtain ⟨v1,d1,I1⟩:=s130 (e:=a) IA (by omega) (hs2 hm2 (by omega))
  by_cases p0:0≤p
  ·obtain ⟨b,rfl⟩:=Int.eq_ofNat_of_zero_le p0
   obtain ⟨v2,d2,I2⟩:=s163 (e:=b) IB (by omega) (hs10 hD2 (by omega))
   have c:=fun h=>s164 I1 I2 (hs2 hm2 (by omega)) (hs10 hD2 (by omega)) h
   simp (decide:=true) only [BZ,callG_of (c117 _),callG_of (dA _),callG_of (dB _),l0,l1,decide_eq_true e0,decide_eq_true p0,callG_of (d1 _),callG_of (d2 _),callG_of (c _)]
   unfold Rf.sideA Rf.sideB
   rw [Int.toNat_natCast,Int.toNat_natCast,show (-(a:Int)).toNat=0 by omega,show (-(b:Int)).toNat=0 by omega,Nat.pow_zero,Nat.mul_one,Nat.mul_one]
  ·obtain ⟨v2,d2,I2⟩:=s163 (e:=(-p).toNat) I1 (by omega) (hs hm2 (by omega) (by omega))
   have c:=fun h=>s164 I2 IB (hs hm2 (by omega) (by omega)) (hs0 hD2) h
   have w:=(wn (x:=p) (by omega) (by omega)).resolve_right (by omega)
   simp (decide:=true) only [BZ,callG_of (c117 _),callG_of (dA _),callG_of (dB _),l0,l1,decide_eq_true e0,decide_eq_false p0,callG_of (d1 _),w,callG_of (d2 _),callG_of (c _)]
   unfold Rf.sideA Rf.sideB
   rw [Int.toNat_natCast,show (-(a:Int)).toNat=0 by omega,show p.toNat=0 by omega,Nat.pow_zero];simp only [Nat.pow_zero,Nat.mul_one]
 ·have w:=(wn (x:=e) (by omega) (by omega)).resolve_right (by omega)
  obtain ⟨v1,d1,I1⟩:=s130 (e:=(-e).toNat) IB (by omega) (hs2 hD2 (by omega))
  by_cases p0:0≤p
  ·obtain ⟨b,rfl⟩:=Int.eq_ofNat_of_zero_le p0
   obtain ⟨v2,d2,I2⟩:=s163 (e:=b) I1 (by omega) (hs hD2 (by omega) (by omega))
   have c:=fun h=>s164 IA I2 (hs0 hm2) (hs hD2 (by omega) (by omega)) h
   simp (decide:=true) only [BZ,callG_of (c117 _),callG_of (dA _),callG_of (dB _),l0,l1,decide_eq_false e0,decide_eq_true p0,w,callG_of (d1 _),callG_of (d2 _),callG_of (c _)]
   unfold Rf.sideA Rf.sideB
   rw [Int.toNat_natCast,show e.toNat=0 by omega,show (-(b:Int)).toNat=0 by omega,Nat.pow_zero];simp only [Nat.pow_zero,Nat.mul_one]
  ·obtain ⟨v2,d2,I2⟩:=s163 (e:=(-p).toNat) IA (by omega) (hs10 hm2 (by omega))
   have c:=fun h=>s164 I2 I1 (hs10 hm2 (by omega)) (hs2 hD2 (by omega)) h
   have w':=(wn (x:=p) (by omega) (by omega)).resolve_right (by omega)
   simp (decide:=true) only [BZ,callG_of (c117 _),callG_of (dA _),callG_of (dB _),l0,l1,decide_eq_false e0,decide_eq_false p0,w,callG_of (d1 _),w',callG_of (d2 _),callG_of (c _)]
   unfold Rf.sideA Rf.sideB
   rw [show e.toNat=0 by omega,show p.toNat=0 by omega,Nat.pow_zero];simp only [Nat.pow_zero,Nat.mul_one]
end Go.Proofs.YtmadknpaljaecaaGreatDoor.Ev.D
namespace Go.Proofs.YtmadknpaljaecaaGreatDoor.Rf
open Us Fl
theorem sgn_mul {a b c:Nat} (hc:0 < c):sgn (a*c) (b*c)=sgn a b:=by
 unfold sgn
 simp only [Nat.mul_lt_mul_right hc]
def sideA' (m:Nat) (e p:Int):Nat:=m*2 ^ e.toNat*10 ^ (-p).toNat
def sideB' (D:Nat) (e p:Int):Nat:=D*2 ^ (-e).toNat*10 ^ p.toNat
theorem ps2 (n m:Nat) (h:m=n+1):2 ^ m=2 ^ n*2:=by subst h;exact Nat.pow_succ ..
theorem pl3 (a n k:Nat) (h:a+n≤k):10 ^ a*10 ^ n≤10 ^ k:=by rw [← Nat.pow_add];exact Nat.pow_le_pow_right (by decide) h
theorem pl4 (a b c d:Nat) (h:a+b≤c+d):10 ^ a*10 ^ b≤10 ^ c*10 ^ d:=by rw [← Nat.pow_add,← Nat.pow_add];exact Nat.pow_le_pow_right (by decide) h
theorem side_sgn {m D k:Nat} {E p:Int} (hk:E+1075=k):sgn (sideA' m E p) (sideB' D E p)=sgn (m*2 ^ k*mm p) (2*nn D p):=by
 have h2:2*nn D p=D*10 ^ p.toNat*2 ^ 1075:=by
  unfold nn
  rw [ps2 1074 1075 rfl]
  generalize (2:Nat) ^ 1074=Z
  ac_rfl
 have e0:∀ x:Nat,x+k=1075→(2:Nat) ^ 1075=2 ^ x*2 ^ k:=fun x hx=>by rw [← hx,Nat.pow_add]
 rw [h2]
 clear h2
 unfold sideA' sideB' mm
 rcases Int.le_total 0 E with h|h
 ·obtain ⟨a,rfl⟩:=Int.eq_ofNat_of_zero_le h
  have hk':k=a+1075:=by omega
  subst hk'
  have c:=Nat.two_pow_pos 1075
  rw [Int.toNat_natCast,show (-(a:Int)).toNat=0 by omega,Nat.pow_zero,Nat.mul_one,Nat.pow_add 2 a 1075]
  generalize (2:Nat) ^ 1075=Z at c
  rw [show m*(2 ^ a*Z)*10 ^ (-p).toNat=m*2 ^ a*10 ^ (-p).toNat*Z by ac_rfl,sgn_mul c]
 ·rw [show E.toNat=0 by omega,Nat.pow_zero,Nat.mul_one]
  rw [e0 (-E).toNat (by omega)]
  have c:=Nat.two_pow_pos k
  generalize (2:Nat) ^ k=Z at c
  rw [show m*Z*10 ^ (-p).toNat=m*10 ^ (-p).toNat*Z by ac_rfl,show D*10 ^ p.toNat*(2 ^ (-E).toNat*Z)=D*2 ^ (-E).toNat*10 ^ p.toNat*Z by ac_rfl,sgn_mul c]
theorem V_step (b:Nat):V (b+1)=V b+2 ^ ex b:=by
 by_cases h:b < 4503599627370496
 ·rw [V_small (by omega),V_small (by omega)]
  unfold ex;rw [if_pos h]
 ·have e1:b=ex b*4503599627370496+mant b:=by
   unfold ex mant;rw [if_neg h,if_neg h];omega
  have hm:4503599627370496≤mant b∧mant b < 9007199254740992:=by
   unfold mant;rw [if_neg h];omega
  have v1:=V_norm' (ex b) (mant b) hm.1 (by omega)
  have v2:=V_norm' (ex b) (mant b+1) (by omega) (by omega)
  rw [← e1] at v1
  rw [show ex b*4503599627370496+(mant b+1)=b+1 by omega,Nat.add_mul,Nat.one_mul] at v2
  rw [v1,v2]
theorem near_low {n m b:Nat} (hm:0 < m) (hb:b < inf) (h1:m*V b≤n) (h2:2*n≤m*(V b+V (b+1))) (h3:2*n=m*(V b+V (b+1))→b % 2=0):Near n m b:=by
 refine ⟨Nat.le_of_lt hb,fun _=>⟨h2,h3⟩,fun h0=>?_⟩
 have hv:V (b - 1) < V b:=V_lt_iff.2 (by omega)
 have:m*(V (b - 1)+V b) < m*(V b+V b):=Nat.mul_lt_mul_of_pos_left (by omega) hm
 rw [Nat.mul_add m (V b)] at this
 exact ⟨by omega,fun e=>by omega⟩
theorem near_high {n m b:Nat} (hm:0 < m) (hb:b < inf) (h1:b+1=inf∨n < m*V (b+1)) (h2:m*(V b+V (b+1))≤2*n) (h3:m*(V b+V (b+1))=2*n→b % 2=1):Near n m (b+1):=by
 refine ⟨hb,fun h=>?_,fun _=>⟨by rwa [Nat.add_sub_cancel],fun e=>by rw [Nat.add_sub_cancel] at e;have:=h3 e;omega⟩⟩
 have h4:n < m*V (b+1):=h1.resolve_left (by omega)
 have hv:V (b+1) < V (b+1+1):=V_lt_iff.2 (by omega)
 have:m*(V (b+1)+V (b+1)) < m*(V (b+1)+V (b+1+1)):=Nat.mul_lt_mul_of_pos_left (by omega) hm
 rw [Nat.mul_add m (V (b+1)) (V (b+1))] at this
 exact ⟨by omega,fun e=>by omega⟩
theorem near_lo2 {D n:Nat} {p:Int} (hD:D < 10 ^ n) (hP:(n:Int)+p < -330):Near (nn D p) (mm p) 0:=by
 refine zero_near ?_
 unfold nn mm
 rw [show p.toNat=0 by omega,Nat.pow_zero,Nat.mul_one]
 have a2:(10:Nat) ^ 331*10 ^ n≤10 ^ (-p).toNat:=pl3 331 n _ (by omega)
 have a1:2*2 ^ 1074≤10 ^ 331:=by decide+kernel
 have c:=Nat.two_pow_pos 1074
 generalize (2:Nat) ^ 1074=Z at a1 c
 generalize (10:Nat) ^ 331=Y at a1 a2
 rw [Nat.mul_left_comm]
 have h1:D*(2*Z) < 10 ^ n*(2*Z):=Nat.mul_lt_mul_of_pos_right hD (by omega)
 have h2:10 ^ n*(2*Z)≤10 ^ n*Y:=Nat.mul_le_mul_left _ a1
 rw [Nat.mul_comm _ Y] at h2
 omega
theorem near_hi2 {D n:Nat} {p:Int} (hn:0 < n) (hD:10 ^ (n - 1)≤D) (hP:310 < (n:Int)+p):Near (nn D p) (mm p) inf:=by
 have hV:V inf=2 ^ 52*2 ^ 2046:=by decide+kernel
 have h:mm p*V inf≤nn D p:=by
  rw [hV]
  unfold nn mm
  have a2:(10:Nat) ^ (-p).toNat*10 ^ 310≤10 ^ (n - 1)*10 ^ p.toNat:=pl4 _ 310 _ _ (by clear hV;omega)
  have a1:(2:Nat) ^ 52*2 ^ 2046≤10 ^ 310*2 ^ 1074:=by decide+kernel
  generalize (2:Nat) ^ 52*2 ^ 2046=W at a1
  generalize (2:Nat) ^ 1074=Z at a1
  generalize (10:Nat) ^ 310=Y at a1 a2
  refine Nat.le_trans (Nat.mul_le_mul_left _ a1) ?_
  rw [← Nat.mul_assoc]
  exact Nat.mul_le_mul_right _ (Nat.le_trans a2 (Nat.mul_le_mul_right _ hD))
 refine ⟨Nat.le_refl _,fun h=>absurd h (Nat.lt_irrefl _),fun _=>⟨?_,fun _=>by decide⟩⟩
 clear hV
 have h1:V (inf - 1)≤V inf:=V_le_iff.2 (by decide)
 have h2:mm p*(V (inf - 1)+V inf)≤mm p*(V inf+V inf):=Nat.mul_le_mul_left _ (by omega)
 rw [← Nat.two_mul,Nat.mul_left_comm] at h2
 omega
end Go.Proofs.YtmadknpaljaecaaGreatDoor.Rf
namespace Go.Proofs.YtmadknpaljaecaaGreatDoor.Rf
open Us Fl
theorem mant_bnd (b:Nat):mant b < 9007199254740992:=by unfold mant;split <;> omega
theorem ex_bnd {b:Nat} (h:b < inf):ex b≤2046:=by
 have h:b < 9218868437227405312:=h
 unfold ex;split <;> omega
theorem sgn_at {b D:Nat} {p:Int}:sgn (sideA (mant b) ((ex b:Nat) - 1074:Int) p) (sideB D ((ex b:Nat) - 1074:Int) p)=sgn (mm p*V b) (nn D p):=by
 have:=side_sgn (m:=mant b) (D:=D) (E:=((ex b:Nat) - 1074:Int)) (p:=p) (k:=ex b+1) (by omega)
 refine Eq.trans this ?_
 rw [V_eq,Nat.pow_succ]
 rw [show mant b*(2 ^ ex b*2)*mm p=mm p*(mant b*2 ^ ex b)*2 by ac_rfl,Nat.mul_comm 2 (nn D p),sgn_mul (by decide)]
theorem sgn_mid {b D:Nat} {p:Int}:sgn (sideA (mant b*2+1) ((ex b:Nat) - 1075:Int) p) (sideB D ((ex b:Nat) - 1075:Int) p)=sgn (mm p*(V b+V (b+1))) (2*nn D p):=by
 have:=side_sgn (m:=mant b*2+1) (D:=D) (E:=((ex b:Nat) - 1075:Int)) (p:=p) (k:=ex b) (by omega)
 refine Eq.trans this ?_
 have e:(mant b*2+1)*2 ^ ex b*mm p=mm p*(V b+V (b+1)):=by
  rw [V_step,V_eq,Nat.mul_comm (mm p)]
  congr 1
  rw [Nat.add_mul,Nat.mul_assoc,Nat.one_mul,Nat.mul_comm 2,← Nat.mul_assoc]
  omega
 rw [e]
theorem sgn_cases (a b:Nat):(sgn a b=-1∧a < b)∨(sgn a b=0∧a=b)∨(sgn a b=1∧b < a):=by
 unfold sgn
 rcases Nat.lt_trichotomy a b with h|h|h
 ·exact .inl ⟨if_pos h,h⟩
 ·exact .inr (.inl ⟨by rw [if_neg (by omega),if_neg (by omega)],h⟩)
 ·exact .inr (.inr ⟨by rw [if_neg (by omega),if_pos h],h⟩)
end Go.Proofs.YtmadknpaljaecaaGreatDoor.Rf
namespace Go.Proofs.YtmadknpaljaecaaGreatDoor.Ev.D
open Go Go.Proofs.YtmadknpaljaecaaGreatDoor.Ev
set_option maxRecDepth 100000
set_option maxHeartbeats 1000000 in
theorem s57 {t:List UInt8} {p:Int} (ht:t.all Rf.isD=true) (htl:t.length≤400) (hp:-2000000≤p∧p≤2000000):
  ∃ r,(Rf.dval t 0=0→r=0)∧(0 < Rf.dval t 0→Us.Near (Us.nn (Rf.dval t 0) p) (Us.mm p) r)∧∀ h,Does C 57 [.agg [.str (BStr.ofBytes t),.int .i64 p]] h (.int .u64 (r:Int)) h:=by
 have c106:=fun h=>s106 (l:=t) (by omega) h
 have hsd:(Rf.tl 48 t).all Rf.isD=true:=Rf.tl_all ht
 have hsv:Rf.dval (Rf.tl 48 t) 0=Rf.dval t 0:=Rf.tl_dval
 have hsl:(Rf.tl 48 t).length≤400:=Nat.le_trans (Rf.tl_len _ _) htl
 have hge:Rf.tl 48 t≠[]→10 ^ ((Rf.tl 48 t).length - 1)≤Rf.dval t 0:=fun h=>by
  have:=Rf.tl_ge ht h
  rwa [hsv] at this
 obtain ⟨s,hs⟩:∃ s,Rf.tl 48 t=s:=⟨_,rfl⟩
 rw [hs] at hsd hsv hsl hge c106
 have hlt:Rf.dval t 0 < 10 ^ s.length:=by rw [← hsv];exact Rf.dval_lt s hsd
 obtain ⟨D,hD⟩:∃ D,Rf.dval t 0=D:=⟨_,rfl⟩
 rw [hD] at hsv hge hlt ⊢
 obtain ⟨HB,hHB⟩:∃ H,Heap.empty.new (.cells 2 .undef (wr .nil [.str (BStr.ofBytes t),.int .i64 p] 0) 67 false)=H:=⟨_,rfl⟩
 have l0:ldV false 1 (.ref 0 0) HB=.ok (.str (BStr.ofBytes t)) HB:=by rw [← hHB];rfl
 have hlen:HB.len 0=2:=by rw [← hHB];rfl
 obtain ⟨H2,hH2⟩:∃ H,HB.stB 0 0 (.str (BStr.ofBytes s))=H:=⟨_,rfl⟩
 have st0:stV 1 (.ref 0 0) (.str (BStr.ofBytes s)) HB=.ok .undef H2:=by rw [st1_cell (by omega) (show okCell (.str (BStr.ofBytes s))=true from rfl),hH2]
 have m0:ldV false 1 (.ref 0 0) H2=.ok (.str (BStr.ofBytes s)) H2:=by rw [← hH2,← hHB];rfl
 have m1:ldV false 1 (.ref 0 1) H2=.ok (.int .i64 p) H2:=by rw [← hH2,← hHB];rfl
 have mA:ldV true 2 (.ref 0 0) H2=.ok (.agg [.str (BStr.ofBytes s),.int .i64 p]) H2:=by rw [← hH2,← hHB];rfl
 have wl:wrapF .i64 ((s.length:Int)+p)=(s.length:Int)+p:=i64_wrap (by omega) (by omega)
 have box:∀ (ρ:XO→AV),ρ (.t 0)=.agg [.str (BStr.ofBytes t),.int .i64 p]→o_box ρ Heap.empty 67 2 (.t 0)=.ok (.ref 0 0) HB:=fun ρ hρ=>by
  unfold o_box
  rw [hρ,← hHB];rfl
 have ha:∀ h,mapO (conv true h depth) [.agg [.str (BStr.ofBytes t),.int .i64 p]]=some [.agg [.str (BStr.ofBytes t),.int .i64 p]]:=fun h=>mapO_cons rfl mapO_nil
 have x_box:∀ (call:CallT) (ρ:XO→AV) (h:Heap) (e n:Nat) (x:XO),xop call ρ h (.h (.box e n x))=o_box ρ h e n x:=fun _ _ _ _ _ _=>rfl
 by_cases h0:s=[]
 ·have hD0:D=0:=by rw [← hsv,h0];rfl
  refine ⟨0,fun _=>rfl,fun h=>by omega,fun h=>?_⟩
  refine does_pure (fn:=X57) rfl rfl rfl (ha h) ?_
  simp only [X57]
  simp (decide:=true) only [BZ]
  refine (opG_of (v:=.ref 0 0) (h:=HB) ?_).2 ?_
  ·rw [x_box];refine box _ ?_;simp (decide:=true) only [BZ]
  simp (decide:=true) only [BZ,l0,callG_of (c106 _),st0,m0,seql_lit [] e_empty,decide_eq_true h0]
  try rfl
 have e0:=decide_eq_false h0
 have hn0:0 < s.length:=List.length_pos_iff.2 h0
 have hDp:0 < D:=Nat.lt_of_lt_of_le (Nat.pow_pos (by decide)) (hge h0)
 by_cases h1:(s.length:Int)+p < -330
 ·refine ⟨0,fun _=>rfl,fun _=>Rf.near_lo2 hlt h1,fun h=>?_⟩
  refine does_pure (fn:=X57) rfl rfl rfl (ha h) ?_
  simp only [X57]
  simp (decide:=true) only [BZ]
  refine (opG_of (v:=.ref 0 0) (h:=HB) ?_).2 ?_
  ·rw [x_box];refine box _ ?_;simp (decide:=true) only [BZ]
  simp (decide:=true) only [BZ,l0,callG_of (c106 _),st0,m0,m1,seql_lit [] e_empty,e0,wl,decide_eq_true h1]
  try rfl
 have e1:=decide_eq_false h1
 by_cases h2:310 < (s.length:Int)+p
 ·refine ⟨Fl.inf,fun h=>by omega,fun _=>Rf.near_hi2 hn0 (hge h0) h2,fun h=>?_⟩
  refine does_pure (fn:=X57) rfl rfl rfl (ha h) ?_
  simp only [X57]
  simp (decide:=true) only [BZ]
  refine (opG_of (v:=.ref 0 0) (h:=HB) ?_).2 ?_
  ·rw [x_box];refine box _ ?_;simp (decide:=true) only [BZ]
  simp (decide:=true) only [BZ,l0,callG_of (c106 _),st0,m0,m1,seql_lit [] e_empty,e0,wl,e1,decide_eq_true h2]
  try rfl
 have e2:=decide_eq_false h2
 have hpb:-1000≤p∧p≤1000:=by omega
 have c108:∀ {m:Nat} {e:Int},m < 2 ^ 60→(-2000≤e∧e≤2000)→∀ h,Does C 108 [.int .i64 (m:Int),.int .i64 e,.agg [.str (BStr.ofBytes s),.int .i64 p]] h (.int .i64 (Rf.sgn (Rf.sideA m e p) (Rf.sideB D e p))) h:=fun {m e} hm he h=>by
  have:=s108 (t:=s) hm he hpb hsd (by omega) h
  rwa [hsv] at this
 obtain ⟨M,hM⟩:∃ M,Us.mm p=M:=⟨_,rfl⟩
 obtain ⟨Nn,hNn⟩:∃ Nn,Us.nn D p=Nn:=⟨_,rfl⟩
 have hMp:0 < M:=by rw [← hM];exact Us.mm_pos p
 have sat:∀ b,Rf.sgn (Rf.sideA (Fl.mant b) ((Fl.ex b:Nat) - 1074:Int) p) (Rf.sideB D ((Fl.ex b:Nat) - 1074:Int) p)=Rf.sgn (M*Fl.V b) Nn:=fun b=>by rw [← hM,← hNn];exact Rf.sgn_at
 have smid:∀ b,Rf.sgn (Rf.sideA (Fl.mant b*2+1) ((Fl.ex b:Nat) - 1075:Int) p) (Rf.sideB D ((Fl.ex b:Nat) - 1075:Int) p)=Rf.sgn (M*(Fl.V b+Fl.V (b+1))) (2*Nn):=fun b=>by rw [← hM,← hNn];exact Rf.sgn_mid
 rw [hM,hNn]
 clear hM hNn hge hlt hsv
 obtain ⟨r,hr⟩:∃ r,Us.Near Nn M r∧∀ h,Does C 57 [.agg [.str (BStr.ofBytes t),.int .i64 p]] h (.int .u64 (r:Int)) h:=by
  obtain ⟨v,hd,r,rfl,hn⟩:=does_pureE (C:=C) (f:=57) (fn:=X57) rfl rfl rfl (P:=fun v=>∃ r:Nat,v=.int .u64 (r:Int)∧Us.Near Nn M r) ha (by
   rw [show X57.body=.seq (seqH X57.body) (.seq (seqH (seqT 1 X57.body)) (.seq (seqH (seqT 2 X57.body)) (.seq (seqH (seqT 3 X57.body)) (.seq (seqH (seqT 4 X57.body)) (.seq (seqH (seqT 5 X57.body)) (.seq (seqH (seqT 6 X57.body)) (seqT 7 X57.body))))))) from rfl]
   generalize hR:seqT 7 X57.body=R
   simp only [X57,seqT,seqH]
   simp (decide:=true) only [BZ]
   refine (opG_of (v:=.ref 0 0) (h:=HB) ?_).2 ?_
   ·rw [x_box];refine box _ ?_;simp (decide:=true) only [BZ]
   simp (decide:=true) only [BZ,l0,callG_of (c106 _),st0,m0,m1,seql_lit [] e_empty,e0,wl,e1,e2]
   refine go_lp (fun k env h=>h=H2∧∃ lo hi:Nat,k=hi - lo∧lo < hi∧hi≤Fl.inf∧M*Fl.V lo≤Nn∧(hi=Fl.inf∨Nn < M*Fl.V hi)∧env.at 1=.ref 0 0∧env.at 3=.int .u64 (lo:Int)∧env.at 4=.int .u64 (hi:Int))
    (fun env h=>h=H2∧∃ lo:Nat,lo < Fl.inf∧M*Fl.V lo≤Nn∧(lo+1=Fl.inf∨Nn < M*Fl.V (lo+1))∧env.at 1=.ref 0 0∧env.at 3=.int .u64 (lo:Int)) (n:=Fl.inf) ⟨rfl,0,Fl.inf,rfl,by decide,Nat.le_refl _,by rw [Fl.V_zero];exact Nat.zero_le _,.inl rfl,?_⟩ ?_ ?_
   ·simp (decide:=true) only [BZ]
    all_goals exact ⟨rfl,rfl⟩
   ·rintro k env h1 ⟨rfl,lo,hi,rfl,hlh,hhi,hV1,hV2,a1,a3,a4⟩
    have hinf:Fl.inf=9218868437227405312:=rfl
    have wsub:wrapF .u64 ((hi:Int) - (lo:Int))=((hi - lo:Nat):Int):=by
     rw [show (hi:Int) - (lo:Int)=((hi - lo:Nat):Int) by omega,u64_wrap (by omega)]
    by_cases hgt:1 < hi - lo
    ·obtain ⟨mid,hmid⟩:∃ mid,lo+(hi - lo) / 2=mid:=⟨_,rfl⟩
     have q:binV .quo (.int .u64 ((hi - lo:Nat):Int)) (.int .u64 2)=some (.int .u64 (((hi - lo) / 2:Nat):Int)):=by
      rw [b_quo (by decide),show ((hi - lo:Nat):Int).tdiv 2=(((hi - lo) / 2:Nat):Int) from rfl,u64_wrap (by omega)]
     have wadd:wrapF .u64 ((lo:Int)+(((hi - lo) / 2:Nat):Int))=(mid:Int):=by
      rw [show (lo:Int)+(((hi - lo) / 2:Nat):Int)=(mid:Int) by omega,u64_wrap (by omega)]
     have c107:=fun h=>s107 (b:=mid) (by omega) h
     have hmb:=Rf.mant_bnd mid
     have heb:=Rf.ex_bnd (b:=mid) (by omega)
     have c:=fun h=>c108 (m:=Fl.mant mid) (e:=((Fl.ex mid:Nat) - 1074:Int)) (by omega) ⟨by omega,by omega⟩ h
     rw [sat] at c
     have hc:=Rf.sgn_cases (M*Fl.V mid) Nn
     by_cases hle:Rf.sgn (M*Fl.V mid) Nn≤0
     ·simp (decide:=true) only [BZ,a1,a3,a4,wsub,decide_eq_true (show (1:Int) < ((hi - lo:Nat):Int) by omega),q,wadd,callG_of (c107 _),mA,callG_of (c _),decide_eq_true hle]
      refine ⟨hi - mid,by omega,mid,hi,rfl,by omega,hhi,by omega,hV2,rfl,rfl⟩
     ·simp (decide:=true) only [BZ,a1,a3,a4,wsub,decide_eq_true (show (1:Int) < ((hi - lo:Nat):Int) by omega),q,wadd,callG_of (c107 _),mA,callG_of (c _),decide_eq_false hle]
      refine ⟨mid - lo,by omega,lo,mid,rfl,by omega,by omega,hV1,.inr (by omega),rfl,rfl⟩
    ·have he:hi=lo+1:=by omega
     subst he
     simp (decide:=true) only [BZ,a1,a3,a4,wsub,decide_eq_false (show ¬ (1:Int) < ((lo+1 - lo:Nat):Int) by omega)]
     exact ⟨lo,hhi,hV1,hV2,rfl⟩
   ·rintro env h1 ⟨rfl,lo,hlo,hV1,hV2,a1,a3⟩
    subst hR
    have hinf:Fl.inf=9218868437227405312:=rfl
    have c107:=fun h=>s107 (b:=lo) (by omega) h
    have hmb:=Rf.mant_bnd lo
    have heb:=Rf.ex_bnd (b:=lo) hlo
    have c:=fun h=>c108 (m:=Fl.mant lo*2+1) (e:=((Fl.ex lo:Nat) - 1075:Int)) (by omega) ⟨by omega,by omega⟩ h
    rw [smid] at c
    have hc:=Rf.sgn_cases (M*(Fl.V lo+Fl.V (lo+1))) (2*Nn)
    have w2:wrapF .i64 (2*((Fl.mant lo:Nat):Int))=((Fl.mant lo*2:Nat):Int):=by rw [i64_wrap (by omega) (by omega)];omega
    have w3:wrapF .i64 (((Fl.mant lo*2:Nat):Int)+1)=((Fl.mant lo*2+1:Nat):Int):=by rw [i64_wrap (by omega) (by omega)];omega
    have w4:wrapF .i64 (((Fl.ex lo:Nat):Int) - 1074 - 1)=((Fl.ex lo:Nat):Int) - 1075:=by rw [i64_wrap (by omega) (by omega)];omega
    have w5:wrapF .u64 ((lo:Int)+1)=((lo+1:Nat):Int):=by
     rw [show (lo:Int)+1=((lo+1:Nat):Int) by omega,u64_wrap (by omega)]
    have rm:binV .rem (.int .u64 (lo:Int)) (.int .u64 2)=some (.int .u64 ((lo % 2:Nat):Int)):=by
     rw [b_rem (by decide)];rfl
    simp only [X57,seqT]
    obtain ⟨S,hS⟩:∃ S,Rf.sgn (M*(Fl.V lo+Fl.V (lo+1))) (2*Nn)=S:=⟨_,rfl⟩
    rw [hS] at c hc
    rcases hc with ⟨rfl,hlt⟩|⟨rfl,heq⟩|⟨rfl,hgt⟩
    ·simp (decide:=true) only [BZ,a1,a3,callG_of (c107 _),w2,w3,w4,mA,callG_of (c _),decide_eq_true (show (-1:Int) < 0 by decide),w5]
     exact ⟨_,rfl,lo+1,rfl,Rf.near_high hMp hlo hV2 (Nat.le_of_lt hlt) (fun e=>by omega)⟩
    ·by_cases hodd:lo % 2=1
     ·simp (decide:=true) only [BZ,a1,a3,callG_of (c107 _),w2,w3,w4,mA,callG_of (c _),decide_eq_false (show ¬ (0:Int) < 0 by decide),decide_eq_true (show (0:Int)=0 from rfl),rm,decide_eq_true (show ((lo % 2:Nat):Int)=1 by omega),w5]
      exact ⟨_,rfl,lo+1,rfl,Rf.near_high hMp hlo hV2 (by omega) (fun _=>hodd)⟩
     ·simp (decide:=true) only [BZ,a1,a3,callG_of (c107 _),w2,w3,w4,mA,callG_of (c _),decide_eq_false (show ¬ (0:Int) < 0 by decide),decide_eq_true (show (0:Int)=0 from rfl),rm,decide_eq_false (show ¬ ((lo % 2:Nat):Int)=1 by omega)]
      exact ⟨_,rfl,lo,rfl,Rf.near_low hMp hlo hV1 (by omega) (fun _=>by omega)⟩
    ·simp (decide:=true) only [BZ,a1,a3,callG_of (c107 _),w2,w3,w4,mA,callG_of (c _),decide_eq_false (show ¬ (1:Int) < 0 by decide),decide_eq_false (show ¬ (1:Int)=0 by decide)]
     exact ⟨_,rfl,lo,rfl,Rf.near_low hMp hlo hV1 (Nat.le_of_lt hgt) (fun e=>by omega)⟩)
  exact ⟨r,hn,hd⟩
 exact ⟨r,fun h=>by omega,fun _=>hr.1,hr.2⟩
end Go.Proofs.YtmadknpaljaecaaGreatDoor.Ev.D
namespace Go.Proofs.YtmadknpaljaecaaGreatDoor.Ev.D
open Go Go.Proofs.YtmadknpaljaecaaGreatDoor.Ev
set_option maxRecDepth 100000
def xcap (o:Option (Bool×List UInt8)):Int:=match o with
 |some (ng,ds)=>if ng then -((min (Rf.dval ds 0) 1000000:Nat):Int) else ((min (Rf.dval ds 0) 1000000:Nat):Int)
 |none=>0
theorem s55 {l:List UInt8} (hl:l.length≤400) (h:Heap):Does C 55 [.str (BStr.ofBytes l)] h (.tup [.int .i64 (xcap (Rf.expo l)),.bool (Rf.expo l).isSome]) h:=by
 refine does_pure (fn:=X55) rfl rfl rfl (mapO_cons conv_str mapO_nil) ?_
 cases l with
 |nil=>
  simp (decide:=true) only [BZ,X55,seql_lit [] e_empty,decide_eq_true (show ([]:List UInt8)=[] from rfl)]
  all_goals exact ⟨rfl,rfl⟩
 |cons c r=>
  have hne:=decide_eq_false (show ¬ (c::r)=([]:List UInt8) by simp)
  have hx:Rf.expo (c::r)=(if c.toNat=101∨c.toNat=69 then (if Rf.sgnD r≠[]∧Rf.dAt (Rf.sgnD r)=(Rf.sgnD r).length then some (r.head? == some 45,Rf.sgnD r) else none) else none):=rfl
  rw [hx]
  by_cases hE:c.toNat=101∨c.toNat=69
  ·rw [if_pos hE]
   have g1:(decide (((c.toNat:Nat):Int)≠101)=true∧decide (((c.toNat:Nat):Int)≠69)=false)∨decide (((c.toNat:Nat):Int)≠101)=false:=by
    rcases hE with h|h
    ·exact .inr (decide_eq_false (by omega))
    ·exact .inl ⟨decide_eq_true (by omega),decide_eq_false (by omega)⟩
   have hrl:r.length≤400:=by rw [List.length_cons] at hl;omega
   obtain ⟨ng,hng⟩:∃ ng,(r.head? == some 45)=ng:=⟨_,rfl⟩
   rw [hng]
   have rest:∀ (env:T AV) (q:List UInt8),q=Rf.sgnD r→env.at 0=.str (BStr.ofBytes q)→env.at 4=.int .i64 (if ng then -1 else 1)→
     GoP C [.c (seqT 6 X55.body)] env .empty (Back [.tmp 2,.tmp 3] true (.tup [.int .i64 (xcap (if Rf.sgnD r≠[]∧Rf.dAt (Rf.sgnD r)=(Rf.sgnD r).length then some (ng,Rf.sgnD r) else none)),.bool (if Rf.sgnD r≠[]∧Rf.dAt (Rf.sgnD r)=(Rf.sgnD r).length then some (ng,Rf.sgnD r) else none).isSome])):=by
    rintro env q rfl a0 a4
    have hql:(Rf.sgnD r).length≤400:=Nat.le_trans (Rf.sgnD_len r) hrl
    obtain ⟨q,hq⟩:∃ q,Rf.sgnD r=q:=⟨_,rfl⟩
    rw [hq] at a0 hql ⊢
    have c54:=fun h=>s54 (l:=q) (by omega) h
    simp only [X55,seqT]
    by_cases hn:q=[]
    ·rw [if_neg (fun h=>h.1 hn)]
     simp (decide:=true) only [BZ,a0,a4,seql_lit [] e_empty,decide_eq_true hn]
     all_goals exact ⟨rfl,rfl⟩
    by_cases hf:Rf.dAt q=q.length
    ·rw [if_pos ⟨hn,hf⟩]
     have hqd:=Rf.dAt_full hf
     simp (decide:=true) only [BZ,a0,a4,seql_lit [] e_empty,decide_eq_false hn,callG_of (c54 _),decide_eq_false (show ¬ (((Rf.dAt q:Nat):Int)≠(q.length:Int)) by omega)]
     refine go_lp (fun k env h=>∃ i rest,q.drop i=rest∧k=rest.length∧i≤q.length∧env.at 0=.str (BStr.ofBytes q)∧env.at 4=.int .i64 (if ng then -1 else 1)∧env.at 5=.int .i64 ((min (Rf.dval (q.take i) 0) 1000000:Nat):Int)∧env.at 6=.int .i64 (i:Int))
      (fun env h=>env.at 4=.int .i64 (if ng then -1 else 1)∧env.at 5=.int .i64 ((min (Rf.dval q 0) 1000000:Nat):Int)) (n:=q.length) ⟨0,q,rfl,rfl,Nat.zero_le _,?_⟩ ?_ ?_
     ·simp (decide:=true) only [BZ,a0,a4]
      all_goals first|rfl|trivial|exact ⟨rfl,rfl⟩
     ·rintro k env h1 ⟨i,rest,hdr,rfl,hi,a0,a4,a5,a6⟩
      cases rest with
      |nil=>
       have:=drop_nil hdr
       rw [List.take_of_length_le this] at a5
       simp (decide:=true) only [BZ,a0,a4,a5,a6,decide_eq_false (show ¬ (i:Int) < (q.length:Int) by omega)]
      |cons c r=>
       obtain ⟨hil,hc,hd'⟩:=drop_cons hdr
       have hcd:48≤c.toNat∧c.toNat≤57:=isD_iff.1 (List.all_eq_true.1 hqd c (List.mem_of_getElem? hc))
       have w1:wrapF .i64 ((i:Int)+1)=((i+1:Nat):Int):=by rw [i64_wrap (by omega) (by omega)];rfl
       have wd:wrapF .u8 (((c.toNat:Nat):Int) - 48)=((c.toNat - 48:Nat):Int):=by
        rw [show ((c.toNat:Nat):Int) - 48=((c.toNat - 48:Nat):Int) by omega]
        show ((c.toNat - 48:Nat):Int) % 256=_
        omega
       have wi:wrapF .i64 ((c.toNat - 48:Nat):Int)=((c.toNat - 48:Nat):Int):=i64_wrap (by omega) (by omega)
       have hv:Rf.dval (q.take (i+1)) 0=Rf.dval (q.take i) 0*10+(c.toNat - 48):=by
        rw [List.take_succ,hc,Rf.dval_append];rfl
       obtain ⟨V,hV⟩:∃ V,Rf.dval (q.take i) 0=V:=⟨_,rfl⟩
       rw [hV] at hv a5
       have wm:wrapF .i64 (10*((min V 1000000:Nat):Int))=((10*min V 1000000:Nat):Int):=by rw [i64_wrap (by omega) (by omega)];omega
       have wa:wrapF .i64 (((10*min V 1000000:Nat):Int)+((c.toNat - 48:Nat):Int))=((10*min V 1000000+(c.toNat - 48):Nat):Int):=by rw [i64_wrap (by omega) (by omega)];omega
       have hmin:min ((10*min V 1000000+(c.toNat - 48):Nat):Int) 1000000=((min (V*10+(c.toNat - 48)) 1000000:Nat):Int):=by omega
       have hmin':min (1000000:Int) ((10*min V 1000000+(c.toNat - 48):Nat):Int)=((min (V*10+(c.toNat - 48)) 1000000:Nat):Int):=by omega
       simp (decide:=true) only [BZ,a0,a4,a5,a6,decide_eq_true (show (i:Int) < (q.length:Int) by omega),ixS_drop hdr,wd,wi,wm,wa,List.map_cons,List.map_nil,hmin,hmin',w1]
       refine ⟨r.length,Nat.lt_succ_self _,i+1,r,hd',rfl,hil,?_⟩
       rw [hv]
       first|exact ⟨rfl,rfl⟩|rfl|trivial
     ·rintro env h1 ⟨a4,a5⟩
      obtain ⟨X,hX⟩:∃ X,min (Rf.dval q 0) 1000000=X:=⟨_,rfl⟩
      have hXb:X≤1000000:=by omega
      unfold xcap
      simp only [hX,Option.isSome_some]
      rw [hX] at a5
      cases hg:ng with
      |true=>
       rw [hg,if_pos rfl] at a4
       have w:wrapF .i64 (-1*(X:Int))=-(X:Int):=by rw [i64_wrap (by omega) (by omega)];omega
       simp (decide:=true) only [BZ,a4,a5,w]
       try exact ⟨rfl,rfl⟩
      |false=>
       rw [hg,if_neg (by decide)] at a4
       have w:wrapF .i64 (1*(X:Int))=(X:Int):=by rw [i64_wrap (by omega) (by omega)];omega
       simp (decide:=true) only [BZ,a4,a5,w]
       try exact ⟨rfl,rfl⟩
    ·rw [if_neg (fun h=>hf h.2)]
     simp (decide:=true) only [BZ,a0,a4,seql_lit [] e_empty,decide_eq_false hn,callG_of (c54 _),decide_eq_true (show (((Rf.dAt q:Nat):Int)≠(q.length:Int)) by omega)]
     all_goals exact ⟨rfl,rfl⟩
   rw [show X55.body=.seq (seqH X55.body) (.seq (seqH (seqT 1 X55.body)) (.seq (seqH (seqT 2 X55.body)) (.seq (seqH (seqT 3 X55.body)) (.seq (seqH (seqT 4 X55.body)) (.seq (seqH (seqT 5 X55.body)) (seqT 6 X55.body)))))) from rfl]
   generalize hR:seqT 6 X55.body=R at rest ⊢
   simp only [X55,seqT,seqH]
   cases r with
   |nil=>
    have hr:=fun env h0 h4=>rest env [] rfl h0 h4
    rcases g1 with ⟨g1,g2⟩|g1
    ·simp (decide:=true) only [BZ,seql_lit [] e_empty,sneq_lit [] e_empty,hne,ix0,g1,g2,Option.map_some,Option.map_none,sl1,decide_eq_false (show ¬ (([]:List UInt8)≠[]) from fun h=>h rfl)]
     refine hr _ ?_ ?_ <;> simp (decide:=true) only [BZ]
     rw [← hng];rfl
    ·simp (decide:=true) only [BZ,seql_lit [] e_empty,sneq_lit [] e_empty,hne,ix0,g1,Option.map_some,Option.map_none,sl1,decide_eq_false (show ¬ (([]:List UInt8)≠[]) from fun h=>h rfl)]
     refine hr _ ?_ ?_ <;> simp (decide:=true) only [BZ]
     rw [← hng];rfl
   |cons a q=>
    have hne2:=decide_eq_true (show (a::q)≠([]:List UInt8) by simp)
    have hag:ng=decide (a.toNat=45):=by
     rw [← hng]
     show (some a == some 45)=_
     rw [Bool.eq_iff_iff];simp only [beq_iff_eq,Option.some.injEq,decide_eq_true_eq]
     constructor
     ·rintro rfl;rfl
     ·intro h;exact UInt8.toNat_inj.1 h
    rcases g1 with ⟨g1,g2⟩|g1
    ·by_cases h43:a.toNat=43
     ·simp (decide:=true) only [BZ,seql_lit [] e_empty,sneq_lit [] e_empty,hne,hne2,ix0,g1,g2,Option.map_some,Option.map_none,sl1,decide_eq_true (show ((a.toNat:Nat):Int)=43 by omega),decide_eq_false (show ¬ ((a.toNat:Nat):Int)=45 by omega)]
      refine rest _ q (by rw [Rf.sgnD,if_pos (.inl h43)]) ?_ ?_ <;> simp (decide:=true) only [BZ]
      rw [hag,decide_eq_false (by omega)];rfl
     ·by_cases h45:a.toNat=45
      ·simp (decide:=true) only [BZ,seql_lit [] e_empty,sneq_lit [] e_empty,hne,hne2,ix0,g1,g2,Option.map_some,Option.map_none,sl1,decide_eq_false (show ¬ ((a.toNat:Nat):Int)=43 by omega),decide_eq_true (show ((a.toNat:Nat):Int)=45 by omega)]
       refine rest _ q (by rw [Rf.sgnD,if_pos (.inr h45)]) ?_ ?_ <;> simp (decide:=true) only [BZ]
       rw [hag,decide_eq_true h45];rfl
      ·simp (decide:=true) only [BZ,seql_lit [] e_empty,sneq_lit [] e_empty,hne,hne2,ix0,g1,g2,Option.map_some,Option.map_none,sl1,decide_eq_false (show ¬ ((a.toNat:Nat):Int)=43 by omega),decide_eq_false (show ¬ ((a.toNat:Nat):Int)=45 by omega)]
       refine rest _ (a::q) (by rw [Rf.sgnD,if_neg (by omega)]) ?_ ?_ <;> simp (decide:=true) only [BZ]
       rw [hag,decide_eq_false h45];rfl
    ·by_cases h43:a.toNat=43
     ·simp (decide:=true) only [BZ,seql_lit [] e_empty,sneq_lit [] e_empty,hne,hne2,ix0,g1,Option.map_some,Option.map_none,sl1,decide_eq_true (show ((a.toNat:Nat):Int)=43 by omega),decide_eq_false (show ¬ ((a.toNat:Nat):Int)=45 by omega)]
      refine rest _ q (by rw [Rf.sgnD,if_pos (.inl h43)]) ?_ ?_ <;> simp (decide:=true) only [BZ]
      rw [hag,decide_eq_false (by omega)];rfl
     ·by_cases h45:a.toNat=45
      ·simp (decide:=true) only [BZ,seql_lit [] e_empty,sneq_lit [] e_empty,hne,hne2,ix0,g1,Option.map_some,Option.map_none,sl1,decide_eq_false (show ¬ ((a.toNat:Nat):Int)=43 by omega),decide_eq_true (show ((a.toNat:Nat):Int)=45 by omega)]
       refine rest _ q (by rw [Rf.sgnD,if_pos (.inr h45)]) ?_ ?_ <;> simp (decide:=true) only [BZ]
       rw [hag,decide_eq_true h45];rfl
      ·simp (decide:=true) only [BZ,seql_lit [] e_empty,sneq_lit [] e_empty,hne,hne2,ix0,g1,Option.map_some,Option.map_none,sl1,decide_eq_false (show ¬ ((a.toNat:Nat):Int)=43 by omega),decide_eq_false (show ¬ ((a.toNat:Nat):Int)=45 by omega)]
       refine rest _ (a::q) (by rw [Rf.sgnD,if_neg (by omega)]) ?_ ?_ <;> simp (decide:=true) only [BZ]
       rw [hag,decide_eq_false h45];rfl
  ·rw [if_neg hE]
   simp (decide:=true) only [BZ,X55,seql_lit [] e_empty,hne,ix0,decide_eq_true (show ((c.toNat:Nat):Int)≠101 by omega),decide_eq_true (show ((c.toNat:Nat):Int)≠69 by omega)]
   all_goals exact ⟨rfl,rfl⟩
end Go.Proofs.YtmadknpaljaecaaGreatDoor.Ev.D
namespace Go.Proofs.YtmadknpaljaecaaGreatDoor.Rf
theorem parts_ok (b:List UInt8):(parts b).w.all isD=true∧(parts b).p.all isD=true∧(parts b).w.length+(parts b).p.length≤b.length∧(parts b).rest.length≤b.length:=by
 have hw:=dAt_all b
 have hl:(b.take (dAt b)).length+(b.drop (dAt b)).length=b.length:=by rw [← List.length_append,List.take_append_drop]
 cases hd:b.drop (dAt b) with
 |nil=>
  have e:parts b=⟨b.take (dAt b),false,[],[]⟩:=by unfold parts;rw [hd]
  rw [e]
  rw [hd] at hl
  exact ⟨hw,rfl,by simp only [List.length_nil] at hl ⊢;omega,Nat.zero_le _⟩
 |cons c q=>
  rw [hd,List.length_cons] at hl
  by_cases h46:c=46
  ·subst h46
   have e:parts b=⟨b.take (dAt b),true,q.take (dAt q),q.drop (dAt q)⟩:=by unfold parts;rw [hd];rfl
   rw [e]
   have:=dAt_le q
   refine ⟨hw,dAt_all q,?_,?_⟩
   ·show (b.take (dAt b)).length+(q.take (dAt q)).length≤_
    rw [List.length_take (l:=q)];omega
   ·show (q.drop (dAt q)).length≤_
    rw [List.length_drop];omega
  ·have e:parts b=⟨b.take (dAt b),false,[],c::q⟩:=by unfold parts;rw [hd];simp only;rw [if_neg h46]
   rw [e]
   refine ⟨hw,rfl,?_,?_⟩
   ·show (b.take (dAt b)).length+0≤_
    omega
   ·show (c::q).length≤_
    rw [List.length_cons];omega
theorem near_cap {D n r:Nat} {x y:Int} (hn:0 < n) (h4:n≤400) (h1:10 ^ (n - 1)≤D) (h2:D < 10 ^ n) (hxy:x=y∨(10000 < x∧10000 < y)∨(x < -10000∧y < -10000)) (H:Us.Near (Us.nn D x) (Us.mm x) r):Us.Near (Us.nn D y) (Us.mm y) r:=by
 rcases hxy with rfl|⟨a,b⟩|⟨a,b⟩
 ·exact H
 ·have e:=Us.Near.uniq (Us.mm_pos _) H (near_hi2 hn h1 (by omega))
  rw [e];exact near_hi2 hn h1 (by omega)
 ·have e:=Us.Near.uniq (Us.mm_pos _) H (near_lo2 h2 (by omega))
  rw [e];exact near_lo2 h2 (by omega)
end Go.Proofs.YtmadknpaljaecaaGreatDoor.Rf
namespace Go.Proofs.YtmadknpaljaecaaGreatDoor.Ev
open Go
theorem ld2_cell {b:Nat} {h:Heap} (hl:h.len b=2):ldV true 2 (.ref b 0) h=.ok (.agg [h.cell b 0,h.cell b 1]) h:=by
 unfold Heap.len at hl
 split at hl
 ·rename_i n d cs e op eg
  subst hl
  unfold ldV Heap.cell
  simp only [eg]
  rfl
 ·cases hl
end Go.Proofs.YtmadknpaljaecaaGreatDoor.Ev
namespace Go.Proofs.YtmadknpaljaecaaGreatDoor.Ev.D
open Go Go.Proofs.YtmadknpaljaecaaGreatDoor.Ev
set_option maxRecDepth 100000
theorem tail17 {m:List UInt8} (hml:m.length≤400):∃ v ok,(if Rf.isNum m=true then ok=true∧∃ r,Rf.Val m r∧v=.float .f64 (bif m.head? == some 45 then r+9223372036854775808 else r) else v=.float .f64 0∧ok=false)∧
  ∀ (env:T AV) (H:Heap),H.len 0=2→H.cell 0 0=.str (BStr.ofBytes ((Rf.parts (Rf.sgnD m)).w++(Rf.parts (Rf.sgnD m)).p))→H.cell 0 1=.int .i64 (-((Rf.parts (Rf.sgnD m)).p.length:Int))→env.at 0=.str (BStr.ofBytes (Rf.parts (Rf.sgnD m)).rest)→env.at 4=.bool (m.head? == some 45)→env.at 6=.ref 0 0→
   GoP C [.c (seqT 11 X17.body)] env H (Back [.tmp 2,.tmp 3] true (.tup [v,.bool ok])):=by
 obtain ⟨k1,k2,k3,k4⟩:=Rf.parts_ok (Rf.sgnD m)
 have hb:=Rf.sgnD_len m
 have eN:Rf.isNum m=((Rf.parts (Rf.sgnD m)).w.length+(Rf.parts (Rf.sgnD m)).p.length != 0 && (Rf.expo (Rf.parts (Rf.sgnD m)).rest).isSome):=rfl
 have eD:Rf.numD m=Rf.dval ((Rf.parts (Rf.sgnD m)).w++(Rf.parts (Rf.sgnD m)).p) 0:=rfl
 have eE:Rf.numE m=(match Rf.expo (Rf.parts (Rf.sgnD m)).rest with|some (ng,ds)=>(if ng then -((Rf.dval ds 0:Nat):Int) else ((Rf.dval ds 0:Nat):Int))|none=>0) - (Rf.parts (Rf.sgnD m)).p.length:=rfl
 have hall:((Rf.parts (Rf.sgnD m)).w++(Rf.parts (Rf.sgnD m)).p).all Rf.isD=true:=by rw [List.all_append,k1,k2];rfl
 have hlen:((Rf.parts (Rf.sgnD m)).w++(Rf.parts (Rf.sgnD m)).p).length=(Rf.parts (Rf.sgnD m)).w.length+(Rf.parts (Rf.sgnD m)).p.length:=List.length_append
 have c55:=fun h=>s55 (l:=(Rf.parts (Rf.sgnD m)).rest) (by omega) h
 obtain ⟨g,hg⟩:∃ g,(Rf.parts (Rf.sgnD m)).w++(Rf.parts (Rf.sgnD m)).p=g:=⟨_,rfl⟩
 obtain ⟨pl,hpl⟩:∃ pl,(Rf.parts (Rf.sgnD m)).p.length=pl:=⟨_,rfl⟩
 obtain ⟨rs,hrs⟩:∃ rs,(Rf.parts (Rf.sgnD m)).rest=rs:=⟨_,rfl⟩
 rw [hg] at eD hall hlen ⊢
 rw [← hlen,hrs] at eN
 rw [hpl,hrs] at eE
 rw [hrs] at c55
 rw [hpl] at k3 ⊢
 rw [hrs]
 have hgl:g.length≤400:=by rw [hlen,hpl];omega
 have hpl4:pl≤400:=by omega
 obtain ⟨mi,hmi⟩:∃ mi,(m.head? == some 45)=mi:=⟨_,rfl⟩
 rw [hmi]
 obtain ⟨o,ho⟩:∃ o,Rf.expo rs=o:=⟨_,rfl⟩
 rw [ho] at eN eE c55
 clear hg hpl hrs hlen k1 k2 k3 k4 hb hml
 simp only [X17,seqT]
 cases o with
 |none=>
  rw [show (none:Option (Bool×List UInt8)).isSome=false from rfl,Bool.and_false] at eN
  rw [eN]
  simp only [Bool.false_eq_true,if_false]
  have c55':∀ h,Does C 55 [.str (BStr.ofBytes rs)] h (.tup [.int .i64 0,.bool false]) h:=c55
  refine ⟨_,_,⟨rfl,rfl⟩,fun env H hl h0 h1 a0 a4 a6=>?_⟩
  simp (decide:=true) only [BZ,a0,a4,a6,callG_of (c55' _)]
 |some nd=>
  obtain ⟨ng,ds⟩:=nd
  rw [show (some (ng,ds)).isSome=true from rfl,Bool.and_true] at eN
  obtain ⟨x,hx⟩:∃ x,xcap (some (ng,ds))=x:=⟨_,rfl⟩
  rw [hx] at c55
  have c55':∀ h,Does C 55 [.str (BStr.ofBytes rs)] h (.tup [.int .i64 x,.bool true]) h:=c55
  have hxb:-1000000≤x∧x≤1000000:=by
   rw [← hx];unfold xcap;simp only;split <;> omega
  by_cases hg0:g=[]
  ·have hz:Rf.isNum m=false:=by rw [eN,hg0];rfl
   rw [hz]
   simp only [Bool.false_eq_true,if_false]
   refine ⟨_,_,⟨rfl,rfl⟩,fun env H hl h0 h1 a0 a4 a6=>?_⟩
   simp (decide:=true) only [BZ,a0,a4,a6,callG_of (c55' _),ld1_cell (show 0 < H.len 0 by omega),h0,seql_lit [] e_empty,decide_eq_true hg0]
  ·have hz:Rf.isNum m=true:=by
    rw [eN]
    have:0 < g.length:=List.length_pos_iff.2 hg0
    simp;omega
   rw [hz]
   simp only [eq_self_iff_true,if_true]
   obtain ⟨r,r1,r2,r3⟩:=s57 (t:=g) (p:=-(pl:Int)+x) hall hgl ⟨by omega,by omega⟩
   have hv:Rf.Val m r:=by
    refine ⟨fun h=>r1 (by rw [← eD];exact h),fun h=>?_⟩
    rw [eD] at h ⊢
    have hv:=Rf.tl_dval (l:=g)
    have hne:Rf.tl 48 g≠[]:=fun e=>by rw [e] at hv;rw [← hv] at h;exact absurd h (by decide)
    have hge:=Rf.tl_ge hall hne
    have hlt:=Rf.dval_lt _ (Rf.tl_all (c:=48) hall)
    rw [hv] at hge hlt
    refine Rf.near_cap (List.length_pos_iff.2 hne) (Nat.le_trans (Rf.tl_len _ _) hgl) hge hlt ?_ (r2 h)
    rw [eE]
    simp only
    rw [← hx]
    unfold xcap
    simp only
    cases ng with
    |true=>simp only [if_true];omega
    |false=>simp only [Bool.false_eq_true,if_false];omega
   have hrb:=val_bnd hv
   have c56:=fun h=>s56 (a:=r) (by omega) mi h
   have hw:Ieee.double.word mi r=(bif mi then r+9223372036854775808 else r):=by
    rw [Fl.word_eq]
    cases mi with
    |true=>rw [if_pos rfl,Nat.add_comm];rfl
    |false=>rw [if_neg (by decide)];rfl
   rw [hw] at c56
   refine ⟨_,_,⟨rfl,r,hv,rfl⟩,fun env H hl h0 h1 a0 a4 a6=>?_⟩
   have w:wrapF .i64 (-(pl:Int)+x)=-(pl:Int)+x:=i64_wrap (by omega) (by omega)
   have st:=st1_cell (b:=0) (i:=1) (h:=H) (v:=.int .i64 (-(pl:Int)+x)) (by omega) okc_int
   have q0:(H.stB 0 1 (.int .i64 (-(pl:Int)+x))).cell 0 0=.str (BStr.ofBytes g):=by
    rw [Heap.stB_cell _ _ _ _ _ _ (by omega),if_neg (by omega),h0]
   have q1:(H.stB 0 1 (.int .i64 (-(pl:Int)+x))).cell 0 1=.int .i64 (-(pl:Int)+x):=by
    rw [Heap.stB_cell _ _ _ _ _ _ (by omega),if_pos ⟨rfl,rfl⟩]
   have ldA:=ld2_cell (b:=0) (h:=H.stB 0 1 (.int .i64 (-(pl:Int)+x))) (by rw [Heap.stB_len];exact hl)
   rw [q0,q1] at ldA
   simp (decide:=true) only [BZ,a0,a4,a6,callG_of (c55' _),ld1_cell (show 0 < H.len 0 by omega),ld1_cell (show 1 < H.len 0 by omega),h0,h1,seql_lit [] e_empty,decide_eq_false hg0,w,st,ldA,callG_of (r3 _),callG_of (c56 _)]
end Go.Proofs.YtmadknpaljaecaaGreatDoor.Ev.D
namespace Go.Proofs.YtmadknpaljaecaaGreatDoor.Ev.D
open Go Go.Proofs.YtmadknpaljaecaaGreatDoor.Ev
set_option maxRecDepth 100000
theorem x_build' {call:CallT} {ρ:XO→AV} {h:Heap} {t:Nat} {s:BStr} (hρ:ρ (.t t)=.str s):xop call ρ h (.q (.build [.str ⟨0,0⟩,.int .i64 0] [(0,1,.t t)]))=.ok (.agg [.str s,.int .i64 0]) h:=by
 rw [x_build]
 simp only [fillParts,hρ]
 rfl
theorem mid17 {m:List UInt8} (hml:m.length≤400):∃ v ok,(if Rf.isNum m=true then ok=true∧∃ r,Rf.Val m r∧v=.float .f64 (bif m.head? == some 45 then r+9223372036854775808 else r) else v=.float .f64 0∧ok=false)∧
  ∀ (env:T AV),env.at 0=.str (BStr.ofBytes (Rf.sgnD m))→env.at 4=.bool (m.head? == some 45)→
   GoP C [.c (seqT 7 X17.body)] env .empty (Back [.tmp 2,.tmp 3] true (.tup [v,.bool ok])):=by
 obtain ⟨v,ok,hpr,ht⟩:=tail17 hml
 refine ⟨v,ok,hpr,fun env a0 a4=>?_⟩
 clear hpr
 have hb:=Rf.sgnD_len m
 obtain ⟨mi,hmi⟩:∃ mi,(m.head? == some 45)=mi:=⟨_,rfl⟩
 rw [hmi] at ht a4
 obtain ⟨b,hbb⟩:∃ b,Rf.sgnD m=b:=⟨_,rfl⟩
 rw [hbb] at ht a0 hb
 have hbl:b.length≤400:=by omega
 have c54:=fun h=>s54 (l:=b) (by omega) h
 have hw:=Rf.dAt_le b
 have e7:seqT 7 X17.body=.seq (seqH (seqT 7 X17.body)) (.seq (seqH (seqT 8 X17.body)) (.seq (seqH (seqT 9 X17.body)) (.seq (seqH (seqT 10 X17.body)) (seqT 11 X17.body)))):=rfl
 rw [e7]
 generalize hR:seqT 11 X17.body=R at ht ⊢
 simp only [X17,seqT,seqH]
 obtain ⟨H1,hH1⟩:∃ H,(Heap.empty.new (.cells 2 (.str ⟨0,0⟩) (setL [(1,.int .i64 0)] .nil) 67 false)).set 0 (.cells 2 (.str ⟨0,0⟩) (wr (setL [(1,.int .i64 0)] .nil) [.str (BStr.ofBytes (b.take (Rf.dAt b))),.int .i64 0] 0) 67 false)=H:=⟨_,rfl⟩
 have st2:stV 2 (.ref 0 0) (.agg [.str (BStr.ofBytes (b.take (Rf.dAt b))),.int .i64 0]) (Heap.empty.new (.cells 2 (.str ⟨0,0⟩) (setL [(1,.int .i64 0)] .nil) 67 false))=.ok .undef H1:=by rw [← hH1];rfl
 have hl:H1.len 0=2:=by rw [← hH1];rfl
 have h0:H1.cell 0 0=.str (BStr.ofBytes (b.take (Rf.dAt b))):=by rw [← hH1];rfl
 have h1:H1.cell 0 1=.int .i64 0:=by rw [← hH1];rfl
 simp (decide:=true) only [BZ,a0,a4,callG_of (c54 _),Option.map_some,Option.map_none,slS_hi hw]
 refine (opG_of (x_build' (s:=BStr.ofBytes (b.take (Rf.dAt b))) ?_)).2 ?_
 ·simp (decide:=true) only [BZ]
 simp (decide:=true) only [BZ,a0,a4,st2,slS_lo hw,sneq_lit [] e_empty,Option.map_some,Option.map_none]
 cases hd:b.drop (Rf.dAt b) with
 |nil=>
  have e:Rf.parts b=⟨b.take (Rf.dAt b),false,[],[]⟩:=by unfold Rf.parts;rw [hd]
  rw [e] at ht
  simp (decide:=true) only [BZ,sneq_lit [] e_empty,decide_eq_false (show ¬ (([]:List UInt8)≠[]) from fun h=>h rfl)]
  refine ht _ H1 hl (by rw [h0,List.append_nil]) (by rw [h1];rfl) ?_ ?_ ?_ <;> simp (decide:=true) only [BZ,a4]
 |cons c q=>
  have hne:=decide_eq_true (show (c::q)≠([]:List UInt8) by simp)
  by_cases h46:c=46
  ·subst h46
   have e:Rf.parts b=⟨b.take (Rf.dAt b),true,q.take (Rf.dAt q),q.drop (Rf.dAt q)⟩:=by unfold Rf.parts;rw [hd];rfl
   rw [e] at ht
   have hql:q.length+1≤400:=by
    have:(b.drop (Rf.dAt b)).length≤b.length:=by rw [List.length_drop];omega
    rw [hd,List.length_cons] at this;omega
   have hqw:=Rf.dAt_le q
   have hqt:(q.take (Rf.dAt q)).length=Rf.dAt q:=by rw [List.length_take];omega
   have c54q:=fun h=>s54 (l:=q) (by omega) h
   have w1:wrapF .i64 (1+((Rf.dAt q:Nat):Int))=((Rf.dAt q+1:Nat):Int):=by rw [i64_wrap (by omega) (by omega)];omega
   have wn:wrapF .i64 (0 - ((Rf.dAt q:Nat):Int))=-((Rf.dAt q:Nat):Int):=by rw [i64_wrap (by omega) (by omega)];omega
   have sl2:∀ h,slSV (.str (BStr.ofBytes (46::q))) (some (.int .i64 1)) (some (.int .i64 ((Rf.dAt q+1:Nat):Int))) h=.ok (.str (BStr.ofBytes (q.take (Rf.dAt q)))) h:=fun h=>slS_lohi (a:=1) (by omega) (by rw [List.length_cons];omega)
   have hadd:binV .add (.str (BStr.ofBytes (b.take (Rf.dAt b)))) (.str (BStr.ofBytes (q.take (Rf.dAt q))))=some (.str (BStr.ofBytes (b.take (Rf.dAt b)++q.take (Rf.dAt q)))):=sadd_of (Nat.le_trans (show _≤1000 by rw [List.length_take,List.length_take];omega) (by decide))
   simp (decide:=true) only [BZ,sneq_lit [] e_empty,hne,ix0,decide_eq_true (show (((46:UInt8).toNat:Nat):Int)=46 from rfl),sl1,Option.map_some,Option.map_none,callG_of (c54q _)]
   refine go_drawW rfl ?_
   have stA:=st1_cell (b:=0) (i:=0) (h:=H1) (v:=.str (BStr.ofBytes (b.take (Rf.dAt b)++q.take (Rf.dAt q)))) (by omega) rfl
   obtain ⟨H2,hH2⟩:∃ H,H1.stB 0 0 (.str (BStr.ofBytes (b.take (Rf.dAt b)++q.take (Rf.dAt q))))=H:=⟨_,rfl⟩
   rw [hH2] at stA
   have l2:H2.len 0=2:=by rw [← hH2,Heap.stB_len];exact hl
   have stB:=st1_cell (b:=0) (i:=1) (h:=H2) (v:=.int .i64 (-((Rf.dAt q:Nat):Int))) (by omega) okc_int
   simp (decide:=true) only [BZ,List.map,ld1_cell (show 0 < H1.len 0 by omega),h0,w1,sl2,Option.map_some,Option.map_none,hadd,stA]
   simp (decide:=true) only [BZ,wn,stB,slS_lo (show Rf.dAt q+1≤(46::q).length by simp;omega),List.drop_succ_cons,w1,Option.map_some,Option.map_none]
   refine ht _ _ (by rw [Heap.stB_len];exact l2) ?_ ?_ ?_ ?_ ?_
   ·rw [Heap.stB_cell _ _ _ _ _ _ (by omega),if_neg (by omega),← hH2,Heap.stB_cell _ _ _ _ _ _ (by omega),if_pos ⟨rfl,rfl⟩]
   ·rw [Heap.stB_cell _ _ _ _ _ _ (by omega),if_pos ⟨rfl,rfl⟩,hqt]
   all_goals simp (decide:=true) only [BZ,a4]
  ·have e:Rf.parts b=⟨b.take (Rf.dAt b),false,[],c::q⟩:=by unfold Rf.parts;rw [hd];simp only;rw [if_neg h46]
   rw [e] at ht
   simp (decide:=true) only [BZ,sneq_lit [] e_empty,hne,ix0,decide_eq_false (show ¬ ((c.toNat:Nat):Int)=46 from fun e=>h46 (UInt8.toNat_inj.1 (by show c.toNat=46;omega)))]
   refine ht _ H1 hl (by rw [h0,List.append_nil]) (by rw [h1];rfl) ?_ ?_ ?_ <;> simp (decide:=true) only [BZ,a4]
theorem s17 {l:List UInt8} (hl:l.length≤400):∃ v ok,(∀ h,Does C 17 [.str (BStr.ofBytes l)] h (.tup [v,.bool ok]) h)∧PR (Rf.trm l) v ok:=by
 have c53:=fun h=>s53 hl h
 obtain ⟨m,hm⟩:∃ m,Rf.trm l=m:=⟨_,rfl⟩
 have hml:m.length≤400:=by rw [← hm];exact Nat.le_trans (Rf.trm_len l) hl
 rw [hm] at c53 ⊢
 obtain ⟨v,ok,hpr,ht⟩:=mid17 hml
 have q0:=fun b s (hs:s=BStr.ofBytes b)=>seql_lit (a:=m) (s:=s) b hs
 have q1:=q0 [78,97,78] ⟨3,5136718⟩ rfl
 have q2:=q0 [73,78,70] ⟨3,4804166⟩ rfl
 have q3:=q0 [45,73,78,70] ⟨4,759778886⟩ rfl
 have eX:X17.body=.seq (seqH X17.body) (.seq (seqH (seqT 1 X17.body)) (.seq (seqH (seqT 2 X17.body)) (.seq (seqH (seqT 3 X17.body)) (.seq (seqH (seqT 4 X17.body)) (.seq (seqH (seqT 5 X17.body)) (.seq (seqH (seqT 6 X17.body)) (seqT 7 X17.body))))))):=rfl
 have main:∃ v ok,PR m v ok∧∀ h,Does C 17 [.str (BStr.ofBytes l)] h (.tup [v,.bool ok]) h:=by
  unfold PR
  by_cases e1:m=[78,97,78]
  ·simp only [if_pos e1]
   refine ⟨_,_,⟨rfl,rfl⟩,fun h=>?_⟩
   refine does_pure (fn:=X17) rfl rfl rfl (mapO_cons conv_str mapO_nil) ?_
   rw [eX];generalize seqT 7 X17.body=R
   simp (decide:=true) only [BZ,X17,seqT,seqH,callG_of (c53 _),q1,decide_eq_true e1,callG_of (s46 _)]
  simp only [if_neg e1]
  by_cases e2:m=[73,78,70]
  ·simp only [if_pos e2]
   refine ⟨_,_,⟨rfl,rfl⟩,fun h=>?_⟩
   refine does_pure (fn:=X17) rfl rfl rfl (mapO_cons conv_str mapO_nil) ?_
   rw [eX];generalize seqT 7 X17.body=R
   simp (decide:=true) only [BZ,X17,seqT,seqH,callG_of (c53 _),q1,decide_eq_false e1,q2,decide_eq_true e2,callG_of (s44p _)]
  simp only [if_neg e2]
  by_cases e3:m=[45,73,78,70]
  ·simp only [if_pos e3]
   refine ⟨_,_,⟨rfl,rfl⟩,fun h=>?_⟩
   refine does_pure (fn:=X17) rfl rfl rfl (mapO_cons conv_str mapO_nil) ?_
   rw [eX];generalize seqT 7 X17.body=R
   simp (decide:=true) only [BZ,X17,seqT,seqH,callG_of (c53 _),q1,decide_eq_false e1,q2,decide_eq_false e2,q3,decide_eq_true e3,callG_of (s44n _)]
  simp only [if_neg e3]
  refine ⟨v,ok,hpr,fun h=>?_⟩
  refine does_pure (fn:=X17) rfl rfl rfl (mapO_cons conv_str mapO_nil) ?_
  rw [eX]
  generalize hR:seqT 7 X17.body=R at ht ⊢
  simp only [X17,seqT,seqH]
  clear hpr hm
  cases m with
  |nil=>
   simp (decide:=true) only [BZ,callG_of (c53 _),q1,decide_eq_false e1,q2,decide_eq_false e2,q3,decide_eq_false e3,sneq_lit [] e_empty,decide_eq_false (show ¬ (([]:List UInt8)≠[]) from fun h=>h rfl)]
   refine ht _ ?_ ?_ <;> simp (decide:=true) only [BZ]
   all_goals rfl
  |cons a q=>
   have hne:=decide_eq_true (show (a::q)≠([]:List UInt8) by simp)
   have hh:((a::q).head? == some 45)=decide (a.toNat=45):=by
    show (some a == some 45)=_
    rw [Bool.eq_iff_iff];simp only [beq_iff_eq,Option.some.injEq,decide_eq_true_eq]
    constructor
    ·rintro rfl;rfl
    ·intro h;exact UInt8.toNat_inj.1 h
   rw [hh] at ht
   by_cases h45:a.toNat=45
   ·simp (decide:=true) only [BZ,callG_of (c53 _),q1,decide_eq_false e1,q2,decide_eq_false e2,q3,decide_eq_false e3,sneq_lit [] e_empty,hne,ix0,decide_eq_true (show ((a.toNat:Nat):Int)=45 by omega),Option.map_some,Option.map_none,sl1]
    refine ht _ ?_ ?_ <;> simp (decide:=true) only [BZ]
    ·rw [Rf.sgnD,if_pos (.inr h45)]
    ·rw [decide_eq_true h45]
   ·by_cases h43:a.toNat=43
    ·simp (decide:=true) only [BZ,callG_of (c53 _),q1,decide_eq_false e1,q2,decide_eq_false e2,q3,decide_eq_false e3,sneq_lit [] e_empty,hne,ix0,decide_eq_false (show ¬ ((a.toNat:Nat):Int)=45 by omega),decide_eq_true (show ((a.toNat:Nat):Int)=43 by omega),Option.map_some,Option.map_none,sl1]
     refine ht _ ?_ ?_ <;> simp (decide:=true) only [BZ]
     ·rw [Rf.sgnD,if_pos (.inl h43)]
     ·rw [decide_eq_false h45]
    ·simp (decide:=true) only [BZ,callG_of (c53 _),q1,decide_eq_false e1,q2,decide_eq_false e2,q3,decide_eq_false e3,sneq_lit [] e_empty,hne,ix0,decide_eq_false (show ¬ ((a.toNat:Nat):Int)=45 by omega),decide_eq_false (show ¬ ((a.toNat:Nat):Int)=43 by omega),Option.map_some,Option.map_none]
     refine ht _ ?_ ?_ <;> simp (decide:=true) only [BZ]
     ·rw [Rf.sgnD,if_neg (by omega)]
     ·rw [decide_eq_false h45]
 obtain ⟨v,ok,hpr,hd⟩:=main
 exact ⟨v,ok,hd,hpr⟩
end Go.Proofs.YtmadknpaljaecaaGreatDoor.Ev.D
