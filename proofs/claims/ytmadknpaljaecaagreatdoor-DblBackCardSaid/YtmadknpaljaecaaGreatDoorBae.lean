import Derived.KernelRfl
import Derived.Test.YtmadknpaljaecaaGreatDoorBad
set_option linter.all false
set_option maxHeartbeats 1000000
namespace Go.Proofs.YtmadknpaljaecaaGreatDoor.Ev.D
open Go Go.Proofs.YtmadknpaljaecaaGreatDoor.Ev
set_option maxRecDepth 100000
theorem dgt_split {N nd i:Nat} (hi:i < nd):N / 10 ^ (nd - (i+1))=N / 10 ^ (nd - i)*10+dgt N nd i:=by
 unfold dgt
 rw [show nd - 1 - i=nd - (i+1) by omega,show nd - i=nd - (i+1)+1 by omega,Nat.pow_succ,← Nat.div_div_eq_div_mul]
 omega
theorem lt_of_div {a b x y:Nat} (h:a / x < b / y) (hx:0 < x) (hy:0 < y):a*y < b*x:=by
 have h1:a < (a / x+1)*x:=by
  have:=Nat.div_add_mod a x;have:=Nat.mod_lt a hx;rw [Nat.add_mul,Nat.one_mul,Nat.mul_comm (a / x)];omega
 have h2:b / y*y≤b:=Nat.div_mul_le_self b y
 have h3:(a / x+1)*(x*y)≤b / y*(x*y):=Nat.mul_le_mul_right _ h
 have h4:a*y < (a / x+1)*x*y:=Nat.mul_lt_mul_of_pos_right h1 hy
 have h5:b / y*y*x≤b*x:=Nat.mul_le_mul_right _ h2
 have h6:(a / x+1)*x*y=(a / x+1)*(x*y):=Nat.mul_assoc ..
 have h7:b / y*y*x=b / y*(x*y):=by rw [Nat.mul_assoc,Nat.mul_comm y]
 omega
theorem mul_eq_pow {i n:Nat} (h:i≤n):10 ^ n=10 ^ i*10 ^ (n - i):=by rw [← Nat.pow_add];congr 1;omega
theorem lt_scale {N C nd m i:Nat} (hi:i≤nd) (hm:i≤m) (h:N / 10 ^ (nd - i) < C / 10 ^ (m - i)):N*10 ^ m < C*10 ^ nd:=by
 have:=lt_of_div h (Nat.pow_pos (by decide)) (Nat.pow_pos (by decide))
 rw [mul_eq_pow hi,mul_eq_pow hm]
 have h2:=Nat.mul_lt_mul_of_pos_left this (show 0 < 10 ^ i from Nat.pow_pos (by decide))
 calc N*(10 ^ i*10 ^ (m - i))=10 ^ i*(N*10 ^ (m - i)):=by ac_rfl
  _ < 10 ^ i*(C*10 ^ (nd - i)):=h2
  _=C*(10 ^ i*10 ^ (nd - i)):=by ac_rfl
theorem s281 {h:Heap} {b N nd C m:Nat} {dp:Int} {ng tr:Bool} {s:BStr} (D:DV h b N nd dp ng tr) (hm:s.n=m) (hs:∀ i,i < m→s.at_ i=48+dgt C m i) (hC:C % 10≠0) (hC2:C < 10 ^ m) (hm2:m≤1000):
  Does Ev.D.C 281 [.sl b 0 nd 1 (some 800),.str s] h (.bool (decide (N*10 ^ m < C*10 ^ nd))) h:=by
 refine does_any (fn:=X281) rfl rfl rfl ?_
 have hl:=D.len
 have hle:=D.le
 simp only [X281]
 simp (decide:=true) only [BZ]
 refine go_lp (fun n env h'=>∃ i,i≤m∧i≤nd∧n=m - i∧N / 10 ^ (nd - i)=C / 10 ^ (m - i)∧h' =h∧env.at 0=.sl b 0 nd 1 (some 800)∧env.at 1=.str s∧env.at 5=.int .i64 (i:Int)) (fun env h'=>h' =h∧¬ N*10 ^ m < C*10 ^ nd) (n:=m) ⟨0,Nat.zero_le _,Nat.zero_le _,rfl,?_,rfl,?_⟩ ?_ ?_
 ·rw [Nat.sub_zero,Nat.sub_zero,Nat.div_eq_of_lt D.lt,Nat.div_eq_of_lt hC2]
 ·simp (decide:=true) only [BZ]
  all_goals trivial
 ·rintro n env h1 ⟨i,i1,i2,rfl,hdiv,rfl,a0,a1,a5⟩
  have w1:wrapF .i64 ((i:Int)+1)=((i+1:Nat):Int):=by rw [i64_wrap (by omega) (by omega)];rfl
  by_cases c1:i=m
  ·subst c1
   simp (decide:=true) only [BZ,a0,a1,a5,lenS_str,hm,decide_eq_false (show ¬ (i:Int) < (i:Int) by omega)]
   rw [Nat.sub_self,Nat.pow_zero,Nat.div_one] at hdiv
   have:=Nat.div_mul_le_self N (10 ^ (nd - i))
   rw [hdiv] at this
   rw [mul_eq_pow i2,Nat.mul_left_comm,Nat.mul_comm N]
   exact Nat.not_lt.2 (Nat.mul_le_mul_left _ this)
  ·have hlt:=decide_eq_true (show (i:Int) < (m:Int) by omega)
   by_cases c2:nd≤i
   ·have e:i=nd:=by omega
    subst e
    have hres:N*10 ^ m < C*10 ^ i:=by
     rw [Nat.sub_self,Nat.pow_zero,Nat.div_one] at hdiv
     have h2:=Nat.div_add_mod C (10 ^ (m - i))
     have h3:C % 10 ^ (m - i)≠0:=by
      intro h0
      have h4:10∣10 ^ (m - i):=⟨10 ^ (m - i - 1),by rw [← Nat.pow_succ'];congr 1;omega⟩
      exact hC (Nat.mod_eq_zero_of_dvd (Nat.dvd_trans h4 (Nat.dvd_of_mod_eq_zero h0)))
     rw [mul_eq_pow i1,Nat.mul_left_comm,Nat.mul_comm C,hdiv]
     refine Nat.mul_lt_mul_of_pos_left ?_ (Nat.pow_pos (by decide))
     rw [Nat.mul_comm];omega
    simp (decide:=true) only [BZ,a0,a1,a5,lenS_str,hm,hlt,decide_eq_true (show (i:Int)≤(i:Int) by omega)]
    rw [decide_eq_true hres]
   ·have hge:=decide_eq_false (show ¬ (nd:Int)≤(i:Int) by omega)
    have hd:=D.d i (by omega)
    have e1:=dgt_split (N:=N) (nd:=nd) (i:=i) (by omega)
    have e2:=dgt_split (N:=C) (nd:=m) (i:=i) (by omega)
    by_cases c3:dgt N nd i=dgt C m i
    ·simp (decide:=true) only [BZ,a0,a1,a5,lenS_str,hm,hlt,hge]
     refine go_drawW rfl ?_
     simp (decide:=true) only [BZ,a0,a1,a5,iaS_sl (show i < nd by omega),Nat.mul_one,ld1_cell (show i < h1.len b by omega),hd,ixSV_nat (show i < s.n by omega),hs i (by omega),c3,decide_eq_false (show ¬ ((48+dgt C m i:Nat):Int)≠((48+dgt C m i:Nat):Int) from fun h=>h rfl),w1]
     refine ⟨m - (i+1),by omega,i+1,by omega,by omega,rfl,by rw [e1,e2,hdiv,c3],?_⟩
     trivial
    ·have hres:decide (((48+dgt N nd i:Nat):Int) < ((48+dgt C m i:Nat):Int))=decide (N*10 ^ m < C*10 ^ nd):=by
      by_cases c4:dgt N nd i < dgt C m i
      ·rw [decide_eq_true (by omega),decide_eq_true (lt_scale (i:=i+1) (by omega) (by omega) (by omega))]
      ·rw [decide_eq_false (by omega),decide_eq_false]
       have:=lt_scale (N:=C) (C:=N) (nd:=m) (m:=nd) (i:=i+1) (by omega) (by omega) (by omega)
       omega
     simp (decide:=true) only [BZ,a0,a1,a5,lenS_str,hm,hlt,hge]
     refine go_drawW rfl ?_
     simp (decide:=true) only [BZ,a0,a1,a5,iaS_sl (show i < nd by omega),Nat.mul_one,ld1_cell (show i < h1.len b by omega),hd,ixSV_nat (show i < s.n by omega),hs i (by omega),decide_eq_true (show ((48+dgt N nd i:Nat):Int)≠((48+dgt C m i:Nat):Int) by omega)]
     refine go_drawW rfl ?_
     simp (decide:=true) only [BZ,a0,a1,a5,iaS_sl (show i < nd by omega),Nat.mul_one,ld1_cell (show i < h1.len b by omega),hd,ixSV_nat (show i < s.n by omega),hs i (by omega),hres]
 ·rintro env h1 ⟨rfl,hno⟩
  simp (decide:=true) only [BZ,decide_eq_false hno]
end Go.Proofs.YtmadknpaljaecaaGreatDoor.Ev.D
namespace Go.Proofs.YtmadknpaljaecaaGreatDoor.Ev
open Go
def slAV (len size:Nat) (v:AV) (lo hi:Option AV) (h:Heap):OpR:=match v with
 |.ref b off=>(match bounds len len lo hi with
  |some (l,u)=>.ok (.sl b (bif Nat.beq l len then off else off+l*size) (u - l) size (some (len - l))) h
  |none=>.no 33)
 |.iptr w cs=>(match bounds len len lo hi with
  |some (l,u)=>bif Nat.beq l len then .ok (.isl w 0 []) h else .ok (.isl w (u - l) (cs.drop (l*size))) h
  |none=>.no 34)
 |_=>.no 35
theorem x_slA {call:CallT} {ρ:XO→AV} {h:Heap} {len size:Nat} {x:XO} {lo hi:Option XO}:xop call ρ h (.q (.slA len size x lo hi))=slAV len size (ρ x) (lo.map ρ) (hi.map ρ) h:=rfl
theorem slA_0 {b nd len:Nat} {h:Heap} (hn:nd≤len) (h0:0 < len):slAV len 1 (.ref b 0) (some (.int .i64 0)) (some (.int .i64 (nd:Int))) h=.ok (.sl b 0 nd 1 (some len)) h:=by
 unfold slAV
 have:=bounds_lohi (cap:=len) (len:=len) (k:=.i64) (k':=.i64) (Nat.zero_le nd) hn
 rw [show ((0:Nat):Int)=0 from rfl] at this
 simp only [this,Nat.sub_zero]
 have:Nat.beq 0 len=false:=by cases len with|zero=>omega|succ n=>rfl
 rw [this];rfl
end Go.Proofs.YtmadknpaljaecaaGreatDoor.Ev
namespace Go.Proofs.YtmadknpaljaecaaGreatDoor.Ev.D
open Go Go.Proofs.YtmadknpaljaecaaGreatDoor.Ev
set_option maxRecDepth 100000
theorem glob12:C.glob 12=.iptr false L12:=rfl
def K12:List AV:=match L12 with|[.isl _ _ cs]=>cs|_=>[]
theorem L12_eq:L12=[.isl false 61 K12]:=rfl
def chk12 (k:Nat):Bool:=match K12.drop (k*2) with
 |.int .i64 (.ofNat d)::.str s::_=>Nat.ble 1 d && Nat.ble d k && Nat.beq s.n (k+1 - d) && (List.range s.n).all (fun i=>Nat.beq (s.at_ i) (48+dgt (5 ^ k) s.n i)) && Nat.blt (5 ^ k) (10 ^ s.n) && Nat.ble (10 ^ (d - 1)) (2 ^ k) && Nat.blt (2 ^ k) (10 ^ d)
 |_=>false
theorem chk12_ok:((List.range 61).all fun k=>Nat.beq k 0 || chk12 k)=true:=by kernel_rfl
theorem K12_at {k:Nat} (h1:1≤k) (h2:k≤60):∃ (d:Nat) (s:BStr) (r:List AV),K12.drop (k*2)=.int .i64 (d:Int)::.str s::r∧1≤d∧d≤k∧s.n=k+1 - d∧(∀ i,i < k+1 - d→s.at_ i=48+dgt (5 ^ k) (k+1 - d) i)∧5 ^ k < 10 ^ (k+1 - d)∧10 ^ (d - 1)≤2 ^ k∧2 ^ k < 10 ^ d:=by
 have:=List.all_eq_true.1 chk12_ok k (List.mem_range.2 (by omega))
 rw [Bool.or_eq_true] at this
 rcases this with h|h
 ·have:=Nat.eq_of_beq_eq_true h;omega
 ·unfold chk12 at h
  split at h
  ·rename_i d s r e
   simp only [Bool.and_eq_true] at h
   obtain ⟨⟨⟨⟨⟨⟨a1,a2⟩,a3⟩,a4⟩,a5⟩,a6⟩,a7⟩:=h
   have e3:=Nat.eq_of_beq_eq_true a3
   refine ⟨d,s,r,e,Nat.le_of_ble_eq_true a1,Nat.le_of_ble_eq_true a2,e3,fun i hi=>?_,?_,Nat.le_of_ble_eq_true a6,?_⟩
   ·have:=Nat.eq_of_beq_eq_true (List.all_eq_true.1 a4 i (List.mem_range.2 (by omega)))
    rw [this,e3]
   ·rw [← e3];exact Nat.le_of_ble_eq_true a5
   ·exact Nat.le_of_ble_eq_true a7
  ·cases h
theorem five_mod (k:Nat) (h:1≤k):5 ^ k % 10≠0:=by
 have:5 ^ k % 2=1:=by rw [Nat.pow_mod];simp
 omega
theorem shl_len {N nd k d:Nat} (h1:0 < nd) (lo:10 ^ (nd - 1)≤N) (hi:N < 10 ^ nd) (d1:1≤d) (d2:d≤k) (t1:10 ^ (d - 1)≤2 ^ k) (t2:2 ^ k < 10 ^ d):
  let w:=if N*10 ^ (k+1 - d) < 5 ^ k*10 ^ nd then d - 1 else d
  10 ^ (nd+w - 1)≤N*2 ^ k∧N*2 ^ k < 10 ^ (nd+w):=by
 have hp:0 < 2 ^ k:=Nat.two_pow_pos k
 have e10:5 ^ k*2 ^ k=10 ^ k:=by rw [← Nat.mul_pow]
 have key:N*10 ^ (k+1 - d) < 5 ^ k*10 ^ nd↔N*2 ^ k < 10 ^ (nd+(d - 1)):=by
  have e1:5 ^ k*10 ^ nd*2 ^ k=10 ^ (nd+(d - 1))*10 ^ (k+1 - d):=by
   rw [← Nat.pow_add,Nat.mul_right_comm,e10,← Nat.pow_add];congr 1;omega
  have e2:N*10 ^ (k+1 - d)*2 ^ k=N*2 ^ k*10 ^ (k+1 - d):=by ac_rfl
  constructor
  ·intro h
   have:=Nat.mul_lt_mul_of_pos_right h hp
   rw [e1,e2] at this
   exact Nat.lt_of_mul_lt_mul_right this
  ·intro h
   have:=Nat.mul_lt_mul_of_pos_right h (show 0 < 10 ^ (k+1 - d) from Nat.pow_pos (by decide))
   rw [← e1,← e2] at this
   exact Nat.lt_of_mul_lt_mul_right this
 simp only
 split
 ·rename_i h
  refine ⟨?_,key.1 h⟩
  have:10 ^ (nd - 1)*10 ^ (d - 1)≤N*2 ^ k:=Nat.mul_le_mul lo t1
  rw [← Nat.pow_add] at this
  rw [show nd+(d - 1) - 1=nd - 1+(d - 1) by omega];exact this
 ·rename_i h
  refine ⟨?_,?_⟩
  ·rw [show nd+d - 1=nd+(d - 1) by omega]
   exact Nat.le_of_not_lt fun hc=>h (key.2 hc)
  ·rw [Nat.pow_add]
   exact Nat.mul_lt_mul_of_lt_of_le hi (Nat.le_of_lt t2) (Nat.pow_pos (by decide))
end Go.Proofs.YtmadknpaljaecaaGreatDoor.Ev.D
namespace Go.Proofs.YtmadknpaljaecaaGreatDoor.Ev.D
open Go Go.Proofs.YtmadknpaljaecaaGreatDoor.Ev
set_option maxRecDepth 100000
structure LV (h0 h:Heap) (b N nd:Nat) (dp:Int) (ng tr:Bool) (P W s j:Nat):Prop where
 len:h.len b=804
 fr:Fr h0 h b
 un:∀ i,i < j→h.cell b i=.int .u8 ((48+dgt N nd i:Nat):Int)
 dn:∀ p,W - s≤p→p < W→p < 800→h.cell b p=.int .u8 ((48+dgt P W p:Nat):Int)
 c0:h.cell b 800=.int .i64 (nd:Int)
 c1:h.cell b 801=.int .i64 dp
 c2:h.cell b 802=.bool ng
 c3:h.cell b 803=.bool (tr || decide (P % 10 ^ (min s (W - 800))≠0))
section
variable {h0 h:Heap} {b N nd:Nat} {dp:Int} {ng tr:Bool} {P W s j j':Nat}
theorem LV.lo (L:LV h0 h b N nd dp ng tr P W s j) (hs:s < W) (hp:W - 1 - s < 800) (hj:j'≤W - 1 - s) (hj2:j'≤j):
  LV h0 (h.stB b (W - 1 - s) (.int .u8 ((48+dgt P W (W - 1 - s):Nat):Int))) b N nd dp ng tr P W (s+1) j':=by
 have hl:=L.len
 refine ⟨by rw [Heap.stB_len,hl],L.fr.st,fun i hi=>?_,fun p h1 h2 h3=>?_,?_,?_,?_,?_⟩
 ·rw [stB_ne (by omega) (by omega)];exact L.un i (by omega)
 ·by_cases hpe:p=W - 1 - s
  ·subst hpe;rw [stB_at (by omega)]
  ·rw [stB_ne (by omega) hpe];exact L.dn p (by omega) h2 h3
 ·rw [stB_ne (by omega) (by omega)];exact L.c0
 ·rw [stB_ne (by omega) (by omega)];exact L.c1
 ·rw [stB_ne (by omega) (by omega)];exact L.c2
 ·rw [stB_ne (by omega) (by omega),L.c3,show min (s+1) (W - 800)=min s (W - 800) by omega]
theorem mod_succ (P s:Nat):P % 10 ^ (s+1)=P / 10 ^ s % 10*10 ^ s+P % 10 ^ s:=by
 rw [Nat.pow_succ,Nat.mod_mul,Nat.add_comm,Nat.mul_comm]
theorem LV.hi0 (L:LV h0 h b N nd dp ng tr P W s j) (hs:s < W) (hp:800≤W - 1 - s) (hj2:j'≤j) (hz:P / 10 ^ s % 10=0):LV h0 h b N nd dp ng tr P W (s+1) j':=by
 refine ⟨L.len,L.fr,fun i hi=>L.un i (by omega),fun p h1 h2 h3=>L.dn p (by omega) h2 h3,L.c0,L.c1,L.c2,?_⟩
 rw [L.c3,show min (s+1) (W - 800)=s+1 by omega,show min s (W - 800)=s by omega,mod_succ,hz,Nat.zero_mul,Nat.zero_add]
theorem LV.hi1 (L:LV h0 h b N nd dp ng tr P W s j) (hs:s < W) (hp:800≤W - 1 - s) (hj2:j'≤j) (hz:P / 10 ^ s % 10≠0) (hnd:j≤800):LV h0 (h.stB b 803 (.bool true)) b N nd dp ng tr P W (s+1) j':=by
 have hl:=L.len
 refine ⟨by rw [Heap.stB_len,hl],L.fr.st,fun i hi=>?_,fun p h1 h2 h3=>?_,?_,?_,?_,?_⟩
 ·rw [stB_ne (by omega) (by omega)];exact L.un i (by omega)
 ·rw [stB_ne (by omega) (by omega)];exact L.dn p (by omega) h2 h3
 ·rw [stB_ne (by omega) (by omega)];exact L.c0
 ·rw [stB_ne (by omega) (by omega)];exact L.c1
 ·rw [stB_ne (by omega) (by omega)];exact L.c2
 ·rw [stB_at (by omega),show min (s+1) (W - 800)=s+1 by omega,mod_succ]
  have:P / 10 ^ s % 10*10 ^ s+P % 10 ^ s≠0:=by
   have:0 < P / 10 ^ s % 10*10 ^ s:=Nat.mul_pos (by omega) (Nat.pow_pos (by decide))
   omega
  rw [decide_eq_true this,Bool.or_true]
end
theorem rem8 {n:Nat} (h:n < 10):wrapF .u8 (wrapF .u64 ((n:Int)+48))=((48+n:Nat):Int):=by
 rw [show (n:Int)+48=((48+n:Nat):Int) by omega,u64_wrap (by omega),wrap8 (by omega)]
def B255:XCode:=seqT 5 X255.body
def L255:XCode:=loopB (blkB (seqH (seqT 1 (seqH B255))))
def M255:XCode:=loopB (blkB (seqH (seqT 1 B255)))
theorem B255_ok:B255=.seq (.seq (seqH (seqH B255)) (.block 0 (.loop L255))) (.seq (.block 2 (.loop M255)) (seqT 2 B255)):=rfl
end Go.Proofs.YtmadknpaljaecaaGreatDoor.Ev.D
namespace Go.Proofs.YtmadknpaljaecaaGreatDoor.Ev.D
open Go Go.Proofs.YtmadknpaljaecaaGreatDoor.Ev
set_option maxRecDepth 100000
theorem put255 {h0 h:Heap} {b N nd:Nat} {dp:Int} {ng tr:Bool} {P W s j:Nat} (hs:s < W):dgt P W (W - 1 - s)=P / 10 ^ s % 10:=by
 unfold dgt;rw [show W - 1 - (W - 1 - s)=s by omega]
def I255 (h0:Heap) (b N nd:Nat) (dp:Int) (ng tr:Bool) (k δ n:Nat) (env:T AV) (h:Heap):Prop:=
 ∃ c,n≤nd∧c+N / 10 ^ (nd - n)*2 ^ k=N*2 ^ k / 10 ^ (nd - n)∧c < 2 ^ k∧LV h0 h b N nd dp ng tr (N*2 ^ k) (nd+δ) (nd - n) n∧
  env.at 0=.ref b 0∧env.at 1=.int .u64 (k:Int)∧env.at 4=.int .i64 (δ:Int)∧env.at 5=.int .i64 ((n:Int) - 1)∧env.at 6=.int .i64 ((n+δ:Nat):Int)∧env.at 7=.int .u64 (c:Int)
def J255 (h0:Heap) (b N nd:Nat) (dp:Int) (ng tr:Bool) (k δ:Nat) (env:T AV) (h:Heap):Prop:=
 LV h0 h b N nd dp ng tr (N*2 ^ k) (nd+δ) nd 0∧env.at 0=.ref b 0∧env.at 1=.int .u64 (k:Int)∧env.at 4=.int .i64 (δ:Int)∧env.at 6=.int .i64 (δ:Int)∧env.at 7=.int .u64 ((N*2 ^ k / 10 ^ nd:Nat):Int)
theorem quo10 {n:Nat} (h:n < 18446744073709551616):binV .quo (.int .u64 (n:Int)) (.int .u64 10)=some (.int .u64 ((n / 10:Nat):Int)):=by
 rw [b_quo (by decide),show ((n:Int)).tdiv 10=((n / 10:Nat):Int) from rfl,u64_wrap (by omega)]
theorem mul10 {n:Nat} (h:n < 18446744073709551616):wrapF .u64 (10*((n / 10:Nat):Int))=((10*(n / 10):Nat):Int):=by
 rw [show 10*((n / 10:Nat):Int)=((10*(n / 10):Nat):Int) from rfl,u64_wrap (by omega)]
theorem sub10 {n:Nat} (h:n < 18446744073709551616):wrapF .u64 ((n:Int) - ((10*(n / 10):Nat):Int))=((n % 10:Nat):Int):=by
 rw [show (n:Int) - ((10*(n / 10):Nat):Int)=((n % 10:Nat):Int) by omega,u64_wrap (by omega)]
theorem body255 {h0:Heap} {b N nd k δ:Nat} {dp:Int} {ng tr:Bool} {Q:PostC} (hN:N < 10 ^ nd) (h800:nd≤800) (hk:k≤60) (hδ:δ≤60) (n:Nat) (env:T AV) (h:Heap) (hI:I255 h0 b N nd dp ng tr k δ n env h):
  GoP C [.c (match L255 with|c=>c)] env h (LpQ 0 (I255 h0 b N nd dp ng tr k δ) n (J255 h0 b N nd dp ng tr k δ) Q):=by
 obtain ⟨c,hn,hc,hck,L,a0,a1,a4,a5,a6,a7⟩:=hI
 have hl:=L.len
 have p60:2 ^ k≤1152921504606846976:=Nat.le_trans (Nat.pow_le_pow_right (by decide) hk) (by decide:2 ^ 60≤1152921504606846976)
 simp only [L255,B255,X255,seqT,seqH,blkB,loopB]
 by_cases h00:n=0
 ·subst h00
  simp (decide:=true) only [BZ,a0,a5,decide_eq_false (show ¬ (0:Int)≤((0:Nat):Int) - 1 by omega)]
  refine ⟨L,?_⟩
  simp (decide:=true) only [BZ,a0,a1,a4,a6,a7,Nat.sub_zero]
  have h1:N / 10 ^ nd=0:=Nat.div_eq_of_lt hN
  rw [Nat.sub_zero,h1,Nat.zero_mul,Nat.add_zero] at hc
  rw [hc]
 ·obtain ⟨j,rfl⟩:∃ j,n=j+1:=⟨n - 1,by omega⟩
  have hd:=L.un j (by omega)
  have hsplit:=dgt_split (N:=N) (nd:=nd) (i:=j) (by omega)
  have hg:=dgt_lt N nd j
  generalize dgt N nd j=g at*
  have hs1:nd - j=nd - (j+1)+1:=by omega
  have e5:((j+1:Nat):Int) - 1=(j:Int):=by omega
  rw [e5] at a5
  have hgk:g*2 ^ k≤9*2 ^ k:=Nat.mul_le_mul_right _ (by omega)
  have w0:wrapF .u64 ((48+g:Nat):Int)=((48+g:Nat):Int):=u64_wrap (by omega)
  have w1:wrapF .u64 (((48+g:Nat):Int) - 48)=(g:Int):=by rw [show ((48+g:Nat):Int) - 48=(g:Int) by omega,u64_wrap (by omega)]
  have w2:binV .shl (.int .u64 (g:Int)) (.int .u64 (k:Int))=some (.int .u64 ((g*2 ^ k:Nat):Int)):=b_shln (by omega) (by omega)
  have w3:wrapF .u64 ((c:Int)+((g*2 ^ k:Nat):Int))=((c+g*2 ^ k:Nat):Int):=u64_wrap (n:=c+g*2 ^ k) (by omega)
  have hn1:c+g*2 ^ k < 10*2 ^ k:=by omega
  have hrem:(c+g*2 ^ k) % 10=N*2 ^ k / 10 ^ (nd - (j+1)) % 10∧(c+g*2 ^ k) / 10+N / 10 ^ (nd - j)*2 ^ k=N*2 ^ k / 10 ^ (nd - j):=by
   rw [hsplit,Nat.add_mul,Nat.mul_right_comm] at hc
   have e10:N*2 ^ k / 10 ^ (nd - j)=N*2 ^ k / 10 ^ (nd - (j+1)) / 10:=by
    rw [Nat.div_div_eq_div_mul,← Nat.pow_succ];congr 2
   rw [e10,← hc]
   generalize N / 10 ^ (nd - j)*2 ^ k=X
   omega
  have hqk:(c+g*2 ^ k) / 10 < 2 ^ k:=by omega
  have hnb:c+g*2 ^ k < 18446744073709551616:=by omega
  generalize c+g*2 ^ k=n1 at*
  have w4:=quo10 hnb
  have w5:=mul10 hnb
  have w6:=sub10 hnb
  have w7:wrapF .i64 (((j+1+δ:Nat):Int) - 1)=((j+δ:Nat):Int):=by rw [i64_wrap (by omega) (by omega)];omega
  have w8:wrapF .i64 ((j:Int) - 1)=(j:Int) - 1:=i64_wrap (by omega) (by omega)
  have hW:nd+δ - 1 - (nd - (j+1))=j+δ:=by omega
  have hs:nd - (j+1) < nd+δ:=by omega
  have hnj:nd - (j+1)+1=nd - j:=by omega
  have hput:=put255 (h0:=h0) (h:=h) (b:=b) (N:=N) (nd:=nd) (dp:=dp) (ng:=ng) (tr:=tr) (P:=N*2 ^ k) (j:=0) hs
  rw [hW,← hrem.1] at hput
  have hr8:=rem8 (n:=n1 % 10) (Nat.mod_lt _ (by decide))
  by_cases c8:j+δ < 800
  ·have L':=L.lo (j':=j) hs (by omega) (by omega) (by omega)
   rw [hW,hput,hnj] at L'
   simp (decide:=true) only [BZ,a0,a1,a5,a6,a7,decide_eq_true (show (0:Int)≤(j:Int) by omega),iaA_ref (show j < 800 by omega),Nat.mul_one,ld1_cell (show j < h.len b by omega),hd,w0,w1,w2,w3,w4,w5,w6,w7,w8,decide_eq_true (show ((j+δ:Nat):Int) < 800 by omega),hr8,iaA_ref (show j+δ < 800 by omega),st1_cell (show j+δ < h.len b by omega) okc_int]
   refine ⟨j,by omega,n1 / 10,by omega,hrem.2,hqk,L',?_⟩
   simp (decide:=true) only [BZ,a0,a1,a4]
  ·have c8':=decide_eq_false (show ¬ ((j+δ:Nat):Int) < 800 by omega)
   by_cases hz:n1 % 10=0
   ·have L':=L.hi0 (j':=j) hs (by omega) (by omega) (by rw [← hrem.1];exact hz)
    rw [hnj] at L'
    simp (decide:=true) only [BZ,a0,a1,a5,a6,a7,decide_eq_true (show (0:Int)≤(j:Int) by omega),iaA_ref (show j < 800 by omega),Nat.mul_one,ld1_cell (show j < h.len b by omega),hd,w0,w1,w2,w3,w4,w5,w6,w7,w8,c8',decide_eq_false (show ¬ ((n1 % 10:Nat):Int)≠0 by omega)]
    refine ⟨j,by omega,n1 / 10,by omega,hrem.2,hqk,L',?_⟩
    simp (decide:=true) only [BZ,a0,a1,a4]
   ·have L':=L.hi1 (j':=j) hs (by omega) (by omega) (by rw [← hrem.1];exact hz) (by omega)
    rw [hnj] at L'
    simp (decide:=true) only [BZ,a0,a1,a5,a6,a7,decide_eq_true (show (0:Int)≤(j:Int) by omega),iaA_ref (show j < 800 by omega),Nat.mul_one,ld1_cell (show j < h.len b by omega),hd,w0,w1,w2,w3,w4,w5,w6,w7,w8,c8',decide_eq_true (show ((n1 % 10:Nat):Int)≠0 by omega),st1_cell (show 803 < h.len b by omega) okc_bool]
    refine ⟨j,by omega,n1 / 10,by omega,hrem.2,hqk,L',?_⟩
    simp (decide:=true) only [BZ,a0,a1,a4]
def I255b (h0:Heap) (b N nd:Nat) (dp:Int) (ng tr:Bool) (k δ n:Nat) (env:T AV) (h:Heap):Prop:=
 n≤δ∧LV h0 h b N nd dp ng tr (N*2 ^ k) (nd+δ) (nd+δ - n) 0∧env.at 0=.ref b 0∧env.at 4=.int .i64 (δ:Int)∧env.at 6=.int .i64 (n:Int)∧env.at 7=.int .u64 ((N*2 ^ k / 10 ^ (nd+δ - n):Nat):Int)
def J255b (h0:Heap) (b N nd:Nat) (dp:Int) (ng tr:Bool) (k δ:Nat) (env:T AV) (h:Heap):Prop:=
 LV h0 h b N nd dp ng tr (N*2 ^ k) (nd+δ) (nd+δ) 0∧env.at 0=.ref b 0∧env.at 4=.int .i64 (δ:Int)
theorem body255b {h0:Heap} {b N nd k δ:Nat} {dp:Int} {ng tr:Bool} {Q:PostC} (hN:N < 10 ^ nd) (h800:nd≤800) (hk:k≤60) (hδ:δ≤60) (lo:0 < nd+δ→10 ^ (nd+δ - 1)≤N*2 ^ k) (hi:N*2 ^ k < 10 ^ (nd+δ)) (n:Nat) (env:T AV) (h:Heap) (hI:I255b h0 b N nd dp ng tr k δ n env h):
  GoP C [.c (match M255 with|c=>c)] env h (LpQ 2 (I255b h0 b N nd dp ng tr k δ) n (J255b h0 b N nd dp ng tr k δ) Q):=by
 obtain ⟨hn,L,a0,a4,a6,a7⟩:=hI
 have hl:=L.len
 have p60:2 ^ k≤1152921504606846976:=Nat.le_trans (Nat.pow_le_pow_right (by decide) hk) (by decide:2 ^ 60≤1152921504606846976)
 simp only [M255,B255,X255,seqT,seqH,blkB,loopB]
 by_cases h00:n=0
 ·subst h00
  have h1:N*2 ^ k / 10 ^ (nd+δ - 0)=0:=Nat.div_eq_of_lt hi
  rw [h1] at a7
  simp (decide:=true) only [BZ,a7,show ((0:Nat):Int)=0 from rfl]
  refine ⟨L,?_⟩
  simp (decide:=true) only [BZ,a0,a4]
 ·obtain ⟨j,rfl⟩:∃ j,n=j+1:=⟨n - 1,by omega⟩
  obtain ⟨s,hsn⟩:∃ s,nd+δ - (j+1)=s:=⟨_,rfl⟩
  have hsj:nd+δ - j=s+1:=by omega
  rw [hsn] at L a7
  have hpos:0 < N*2 ^ k / 10 ^ s:=by
   rw [Nat.lt_div_iff_mul_lt (Nat.pow_pos (by decide))]
   have:=lo (by omega)
   have h2:10 ^ s≤10 ^ (nd+δ - 1):=Nat.pow_le_pow_right (by decide) (by omega)
   have:0 < 10 ^ s:=Nat.pow_pos (by decide)
   omega
  have hnb:N*2 ^ k / 10 ^ s < 18446744073709551616:=by
   have h2:N*2 ^ k / 10 ^ s≤N*2 ^ k / 10 ^ nd:=Nat.div_le_div_left (Nat.pow_le_pow_right (by decide) (by omega)) (Nat.pow_pos (by decide))
   have h3:N*2 ^ k / 10 ^ nd≤2 ^ k:=by
    refine Nat.div_le_of_le_mul ?_
    exact Nat.mul_le_mul_right _ (Nat.le_of_lt hN)
   omega
  have hdiv:N*2 ^ k / 10 ^ s / 10=N*2 ^ k / 10 ^ (s+1):=by rw [Nat.div_div_eq_div_mul,← Nat.pow_succ]
  have hs:s < nd+δ:=by omega
  have hW:nd+δ - 1 - s=j:=by omega
  have hput:=put255 (h0:=h0) (h:=h) (b:=b) (N:=N) (nd:=nd) (dp:=dp) (ng:=ng) (tr:=tr) (P:=N*2 ^ k) (j:=0) hs
  rw [hW] at hput
  have hrem:True:=trivial
  have key:∀ n1:Nat,n1=N*2 ^ k / 10 ^ s→n1 % 10=N*2 ^ k / 10 ^ s % 10:=fun n1 h=>by rw [h]
  obtain ⟨n1,hn1⟩:∃ n1,n1=N*2 ^ k / 10 ^ s:=⟨_,rfl⟩
  rw [← hn1] at a7 hpos hnb hdiv hput
  have w4:=quo10 hnb
  have w5:=mul10 hnb
  have w6:=sub10 hnb
  have w7:wrapF .i64 (((j+1:Nat):Int) - 1)=(j:Int):=by rw [i64_wrap (by omega) (by omega)];omega
  have hr8:=rem8 (n:=n1 % 10) (Nat.mod_lt _ (by decide))
  have hgt:=decide_eq_true (show (0:Int) < (n1:Int) by omega)
  by_cases c8:j < 800
  ·have L':=L.lo (j':=0) hs (by omega) (by omega) (by omega)
   rw [hW,hput] at L'
   simp (decide:=true) only [BZ,a0,a6,a7,hgt,w4,w5,w6,w7,decide_eq_true (show (j:Int) < 800 by omega),hr8,iaA_ref (show j < 800 by omega),Nat.mul_one,st1_cell (show j < h.len b by omega) okc_int]
   refine ⟨j,by omega,by omega,by rw [hsj];exact L',?_⟩
   simp (decide:=true) only [BZ,a0,a4,hsj,hdiv]
  ·have c8':=decide_eq_false (show ¬ (j:Int) < 800 by omega)
   by_cases hz:n1 % 10=0
   ·have L':=L.hi0 (j':=0) hs (by omega) (by omega) (by rw [← hn1];exact hz)
    simp (decide:=true) only [BZ,a0,a6,a7,hgt,w4,w5,w6,w7,c8',decide_eq_false (show ¬ ((n1 % 10:Nat):Int)≠0 by omega)]
    refine ⟨j,by omega,by omega,by rw [hsj];exact L',?_⟩
    simp (decide:=true) only [BZ,a0,a4,hsj,hdiv]
   ·have L':=L.hi1 (j':=0) hs (by omega) (by omega) (by rw [← hn1];exact hz) (by omega)
    simp (decide:=true) only [BZ,a0,a6,a7,hgt,w4,w5,w6,w7,c8',decide_eq_true (show ((n1 % 10:Nat):Int)≠0 by omega),st1_cell (show 803 < h.len b by omega) okc_bool]
    refine ⟨j,by omega,by omega,by rw [hsj];exact L',?_⟩
    simp (decide:=true) only [BZ,a0,a4,hsj,hdiv]
end Go.Proofs.YtmadknpaljaecaaGreatDoor.Ev.D
namespace Go.Proofs.YtmadknpaljaecaaGreatDoor.Ev.D
open Go Go.Proofs.YtmadknpaljaecaaGreatDoor.Ev
set_option maxRecDepth 100000
def ShlR (h h':Heap) (b N nd:Nat) (dp:Int) (ng tr:Bool) (k:Nat):Prop:=
 ∃ N' nd' W,nd≤W∧W≤nd+60∧10 ^ (W - 1)≤N*2 ^ k∧N*2 ^ k < 10 ^ W∧N*2 ^ k / 10 ^ (W - 800)=N'*10 ^ (min W 800 - nd')∧0 < nd'∧nd'≤min W 800∧N' % 10≠0∧
  DV h' b N' nd' (dp+((W:Int) - nd)) ng (tr || decide (N*2 ^ k % 10 ^ (W - 800)≠0))∧Fr h h' b
set_option exponentiation.threshold 20000 in
theorem tail255 {h0 h:Heap} {b N nd k δ:Nat} {dp:Int} {ng tr:Bool} {env:T AV} {Q:PostC} (h1:0 < nd) (h800:nd≤800) (hδ:δ≤60) (lo:10 ^ (nd+δ - 1)≤N*2 ^ k) (hi:N*2 ^ k < 10 ^ (nd+δ)) (dp1:-1000000≤dp) (dp2:dp≤1000000)
  (hJ:J255b h0 b N nd dp ng tr k δ env h) (hQ:∀ env h',ShlR h0 h' b N nd dp ng tr k→Q .nrm env h'):GoP C [.c (seqT 2 B255)] env h Q:=by
 obtain ⟨L,a0,a4⟩:=hJ
 have hl:=L.len
 have w1:wrapF .i64 ((nd:Int)+(δ:Int))=((nd+δ:Nat):Int):=by rw [i64_wrap (by omega) (by omega)];rfl
 have w2:wrapF .i64 (dp+(δ:Int))=dp+δ:=i64_wrap (by omega) (by omega)
 have hW:dp+(((nd+δ:Nat):Int) - nd)=dp+δ:=by omega
 simp only [B255,X255,seqT]
 by_cases c:nd+δ < 800
 ·have D1:DV ((h.stB b 800 (.int .i64 ((nd+δ:Nat):Int))).stB b 801 (.int .i64 (dp+δ))) b (N*2 ^ k) (nd+δ) (dp+δ) ng (tr || decide (N*2 ^ k % 10 ^ (nd+δ - 800)≠0)):=by
   refine ⟨by rw [Heap.stB_len,Heap.stB_len,hl],by omega,hi,fun i hi'=>?_,?_,?_,?_,?_⟩
   ·rw [stB_ne (by rw [Heap.stB_len];omega) (by omega),stB_ne (by omega) (by omega)]
    exact L.dn i (by omega) hi' (by omega)
   ·rw [stB_ne (by rw [Heap.stB_len];omega) (by omega),stB_at (by omega)]
   ·rw [stB_at (by rw [Heap.stB_len];omega)]
   ·rw [stB_ne (by rw [Heap.stB_len];omega) (by omega),stB_ne (by omega) (by omega)];exact L.c2
   ·rw [stB_ne (by rw [Heap.stB_len];omega) (by omega),stB_ne (by omega) (by omega),L.c3,show min (nd+δ) (nd+δ - 800)=nd+δ - 800 by omega]
  obtain ⟨h',N',nd',hd,e1,e2,e3,D',F⟩:=s254 D1
  have hne:nd'≠0:=by
   rintro rfl
   have:=D'.lt
   have:N' =0:=by simpa using this
   subst this
   have:0 < 10 ^ (nd+δ - 1):=Nat.pow_pos (by decide)
   omega
  rw [if_neg hne] at D'
  simp (decide:=true) only [BZ,a0,a4,ld1_cell (show 800 < h.len b by omega),L.c0,w1,st1_cell (show 800 < h.len b by omega) okc_int,ld1_cell (show 800 < (h.stB b 800 (.int .i64 ((nd+δ:Nat):Int))).len b by rw [Heap.stB_len];omega),stB_at (show 800 < h.len b by omega),decide_eq_false (show ¬ (800:Int)≤((nd+δ:Nat):Int) by omega),
   ld1_cell (show 801 < (h.stB b 800 (.int .i64 ((nd+δ:Nat):Int))).len b by rw [Heap.stB_len];omega),stB_ne (show 800 < h.len b by omega) (show 801≠800 by decide),L.c1,w2,st1_cell (show 801 < (h.stB b 800 (.int .i64 ((nd+δ:Nat):Int))).len b by rw [Heap.stB_len];omega) okc_int,callG_of hd]
  refine hQ _ _ ⟨N',nd',nd+δ,by omega,by omega,lo,hi,?_,by omega,by omega,by omega,?_,(L.fr.st.st).trans F⟩
  ·rw [show nd+δ - 800=0 by omega,Nat.pow_zero,Nat.div_one,show min (nd+δ) 800=nd+δ by omega];exact e1
  ·rw [hW];exact D'
 ·have hp:0 < 10 ^ (nd+δ - 800):=Nat.pow_pos (by decide)
  have D1:DV (((h.stB b 800 (.int .i64 ((nd+δ:Nat):Int))).stB b 800 (.int .i64 800)).stB b 801 (.int .i64 (dp+δ))) b (N*2 ^ k / 10 ^ (nd+δ - 800)) 800 (dp+δ) ng (tr || decide (N*2 ^ k % 10 ^ (nd+δ - 800)≠0)):=by
   refine ⟨by rw [Heap.stB_len,Heap.stB_len,Heap.stB_len,hl],by omega,?_,fun i hi'=>?_,?_,?_,?_,?_⟩
   ·rw [Nat.div_lt_iff_lt_mul hp,← Nat.pow_add,show 800+(nd+δ - 800)=nd+δ by omega];exact hi
   ·rw [stB_ne (by rw [Heap.stB_len,Heap.stB_len];omega) (by omega),stB_ne (by rw [Heap.stB_len];omega) (by omega),stB_ne (by omega) (by omega),L.dn i (by omega) (by omega) hi']
    unfold dgt
    rw [Nat.div_div_eq_div_mul,← Nat.pow_add,show nd+δ - 800+(800 - 1 - i)=nd+δ - 1 - i by omega]
   ·rw [stB_ne (by rw [Heap.stB_len,Heap.stB_len];omega) (by omega),stB_at (by rw [Heap.stB_len];omega)];rfl
   ·rw [stB_at (by rw [Heap.stB_len,Heap.stB_len];omega)]
   ·rw [stB_ne (by rw [Heap.stB_len,Heap.stB_len];omega) (by omega),stB_ne (by rw [Heap.stB_len];omega) (by omega),stB_ne (by omega) (by omega)];exact L.c2
   ·rw [stB_ne (by rw [Heap.stB_len,Heap.stB_len];omega) (by omega),stB_ne (by rw [Heap.stB_len];omega) (by omega),stB_ne (by omega) (by omega),L.c3,show min (nd+δ) (nd+δ - 800)=nd+δ - 800 by omega]
  obtain ⟨h',N',nd',hd,e1,e2,e3,D',F⟩:=s254 D1
  have hne:nd'≠0:=by
   rintro rfl
   have:=D'.lt
   have:N' =0:=by simpa using this
   subst this
   rw [Nat.zero_mul,Nat.div_eq_zero_iff_lt hp] at e1
   have:10 ^ (nd+δ - 800)≤10 ^ (nd+δ - 1):=Nat.pow_le_pow_right (by decide) (by omega)
   omega
  rw [if_neg hne] at D'
  simp (decide:=true) only [BZ,a0,a4,ld1_cell (show 800 < h.len b by omega),L.c0,w1,st1_cell (show 800 < h.len b by omega) okc_int,ld1_cell (show 800 < (h.stB b 800 (.int .i64 ((nd+δ:Nat):Int))).len b by rw [Heap.stB_len];omega),stB_at (show 800 < h.len b by omega),decide_eq_true (show (800:Int)≤((nd+δ:Nat):Int) by omega),
   st1_cell (show 800 < (h.stB b 800 (.int .i64 ((nd+δ:Nat):Int))).len b by rw [Heap.stB_len];omega) okc_int,ld1_cell (show 801 < ((h.stB b 800 (.int .i64 ((nd+δ:Nat):Int))).stB b 800 (.int .i64 800)).len b by rw [Heap.stB_len,Heap.stB_len];omega),stB_ne (show 800 < (h.stB b 800 (.int .i64 ((nd+δ:Nat):Int))).len b by rw [Heap.stB_len];omega) (show 801≠800 by decide),stB_ne (show 800 < h.len b by omega) (show 801≠800 by decide),L.c1,w2,
   st1_cell (show 801 < ((h.stB b 800 (.int .i64 ((nd+δ:Nat):Int))).stB b 800 (.int .i64 800)).len b by rw [Heap.stB_len,Heap.stB_len];omega) okc_int,callG_of hd]
  refine hQ _ _ ⟨N',nd',nd+δ,by omega,by omega,lo,hi,?_,by omega,by omega,by omega,?_,((L.fr.st.st).st).trans F⟩
  ·rw [show min (nd+δ) 800=800 by omega];exact e1
  ·rw [hW];exact D'
theorem s255 {h:Heap} {b N nd k:Nat} {dp:Int} {ng tr:Bool} (D:DV h b N nd dp ng tr) (h1:0 < nd) (hN:10 ^ (nd - 1)≤N) (k1:1≤k) (k2:k≤60) (dp1:-1000000≤dp) (dp2:dp≤1000000):
  ∃ h',Does C 255 [.ref b 0,.int .u64 (k:Int)] h (.tup []) h'∧ShlR h h' b N nd dp ng tr k:=by
 obtain ⟨v,h',hd,rfl,q⟩:=does_anyE (C:=C) (f:=255) (fn:=X255) rfl rfl rfl (args:=[.ref b 0,.int .u64 (k:Int)]) (h:=h)
  (P:=fun v h'=>v=.tup []∧ShlR h h' b N nd dp ng tr k) (by
  obtain ⟨d,s,r,hK,d1,d2,hs,hsa,h5,t1,t2⟩:=K12_at k1 k2
  have hl:=D.len
  have h800:=D.le
  have c281:=s281 D hs (fun i hi=>hsa i hi) (five_mod k k1) h5 (by omega)
  obtain ⟨lo,hi⟩:=shl_len h1 hN D.lt d1 d2 t1 t2
  obtain ⟨δ,hδ⟩:∃ δ,(if N*10 ^ (k+1 - d) < 5 ^ k*10 ^ nd then d - 1 else d)=δ:=⟨_,rfl⟩
  have hδ60:δ≤60:=by rw [← hδ];split <;> omega
  rw [hδ] at lo hi
  have hp:(10:Nat) ^ nd≠0:=Nat.pos_iff_ne_zero.1 (Nat.pow_pos (by decide))
  have w1:wrapF .i64 ((nd:Int)+(δ:Int))=((nd+δ:Nat):Int):=by rw [i64_wrap (by omega) (by omega)];rfl
  have w2:wrapF .i64 ((nd:Int) - 1)=(nd:Int) - 1:=i64_wrap (by omega) (by omega)
  have lp:∀ env:T AV,env.at 0=.ref b 0→env.at 1=.int .u64 (k:Int)→env.at 4=.int .i64 (δ:Int)→env.at 5=.int .i64 ((nd:Int) - 1)→env.at 6=.int .i64 ((nd+δ:Nat):Int)→env.at 7=.int .u64 0→
    GoP C [.c (.loop L255),.blk 0,.c (.seq (.block 2 (.loop M255)) (seqT 2 B255))] env h (fun e env h2=>∃ v,Back X255.results false v e env h2∧v=.tup []∧ShlR h h2 b N nd dp ng tr k):=by
   intro env a0 a1 a4 a5 a6 a7
   refine go_lp (I255 h b N nd dp ng tr k δ) (J255 h b N nd dp ng tr k δ) (n:=nd) ⟨0,Nat.le_refl _,?_,Nat.two_pow_pos _,?_,a0,a1,a4,a5,a6,a7⟩ (fun n env h hI=>body255 D.lt h800 k2 hδ60 n env h hI) ?_
   ·rw [Nat.sub_self,Nat.pow_zero,Nat.div_one,Nat.div_one,Nat.zero_add]
   ·refine ⟨hl,Fr.refl _ _,fun i hi=>D.d i hi,fun p h1 h2 h3=>absurd h2 (by omega),D.nd,D.dp,D.ng,?_⟩
    rw [D.tr,show min (nd - nd) (nd+δ - 800)=0 by omega,Nat.pow_zero,Nat.mod_one,decide_eq_false (fun h=>h rfl),Bool.or_false]
   ·rintro env2 h2 ⟨L,a0,a1,a4,a6,a7⟩
    refine go_seq.2 (go_block.2 (go_lp (I255b h b N nd dp ng tr k δ) (J255b h b N nd dp ng tr k δ) (n:=δ) ⟨Nat.le_refl _,?_,a0,a4,a6,?_⟩ (fun n env h hI=>body255b D.lt h800 k2 hδ60 (fun _=>lo) hi n env h hI) ?_))
    ·rw [Nat.add_sub_cancel];exact L
    ·rw [Nat.add_sub_cancel];exact a7
    ·intro env3 h3 hJ
     exact tail255 h1 h800 hδ60 lo hi dp1 dp2 hJ (fun env h' hr=>⟨.tup [],back0n,rfl,hr⟩)
  have e0:X255.body=.seq (seqH X255.body) (.seq (seqH (seqT 1 X255.body)) (.seq (seqH (seqT 2 X255.body)) (.seq (seqH (seqT 3 X255.body)) (.seq (seqH (seqT 4 X255.body)) (.seq (.seq (seqH (seqH B255)) (.block 0 (.loop L255))) (.seq (.block 2 (.loop M255)) (seqT 2 B255))))))):=rfl
  rw [e0]
  generalize hL:L255=L at lp ⊢
  generalize hM:M255=M at lp ⊢
  generalize hR:seqT 2 B255=R at lp ⊢
  simp only [B255,X255,seqT,seqH] at lp ⊢
  simp (decide:=true) only [BZ,glob12,L12_eq,ld1_iptr,iaS_isl (show k < 61 by omega),hK,List.drop_zero]
  refine go_drawW rfl ?_
  simp (decide:=true) only [BZ,x_slA,Option.map_some,D.nd,ld1_cell (show 800 < h.len b by omega),slA_0 h800 (show 0 < 800 by decide),glob12,L12_eq,ld1_iptr,iaS_isl (show k < 61 by omega),hK,List.drop_succ_cons,List.drop_zero,callG_of c281]
  by_cases c:N*10 ^ (k+1 - d) < 5 ^ k*10 ^ nd
  ·rw [if_pos c] at hδ
   have w3:wrapF .i64 ((d:Int) - 1)=(δ:Int):=by rw [i64_wrap (by omega) (by omega)];omega
   simp (decide:=true) only [BZ,decide_eq_true c,w3,D.nd,ld1_cell (show 800 < h.len b by omega),w1,w2]
   refine lp _ ?_ ?_ ?_ ?_ ?_ ?_ <;> simp (decide:=true) only [BZ]
  ·rw [if_neg c] at hδ
   subst hδ
   simp (decide:=true) only [BZ,decide_eq_false c,D.nd,ld1_cell (show 800 < h.len b by omega),w1,w2]
   refine lp _ ?_ ?_ ?_ ?_ ?_ ?_ <;> simp (decide:=true) only [BZ])
 exact ⟨h',hd,q⟩
end Go.Proofs.YtmadknpaljaecaaGreatDoor.Ev.D
namespace Go.Proofs.YtmadknpaljaecaaGreatDoor.Ev.D
open Go Go.Proofs.YtmadknpaljaecaaGreatDoor.Ev
set_option maxRecDepth 100000
def B256:XCode:=seqT 3 X256.body
def L256:XCode:=loopB (blkB (seqH B256))
def P256:XCode:=loopB (blkB (seqH (seqT 1 (condA (seqT 1 (seqH (blkB (seqH (seqT 1 L256)))))))))
def M256:XCode:=loopB (blkB (seqH (seqT 3 B256)))
def R256:XCode:=loopB (blkB (seqH (seqT 4 B256)))
theorem X256_ok:X256.body=.seq (seqH X256.body) (.seq (seqH (seqT 1 X256.body)) (.seq (seqH (seqT 2 X256.body)) (.seq (.block 0 (.loop L256)) (.seq (seqH (seqT 1 B256)) (.seq (seqH (seqT 2 B256)) (.seq (.block 4 (.loop M256)) (.seq (.block 6 (.loop R256)) (seqT 5 B256)))))))):=rfl
theorem P256_ok:condA (seqT 1 (seqH (blkB (seqH (seqT 1 L256)))))=.seq (seqH (condA (seqT 1 (seqH (blkB (seqH (seqT 1 L256))))))) (.seq (.block 2 (.loop P256)) (.exit 0)):=rfl
def J256 (h0:Heap) (b N nd k:Nat) (env:T AV) (h:Heap):Prop:=
 ∃ r n,1≤r∧r≤nd+20∧n=N*10 ^ (r - nd) / 10 ^ (nd - r)∧2 ^ k≤n∧n < 10*2 ^ k∧h=h0∧env.at 0=.ref b 0∧env.at 1=.int .u64 (k:Int)∧env.at 4=.int .i64 (r:Int)∧env.at 5=.int .i64 0∧env.at 6=.int .u64 (n:Int)
def I256 (h0:Heap) (b N nd k m:Nat) (env:T AV) (h:Heap):Prop:=
 ∃ r,m+r=nd∧N / 10 ^ (nd - r) < 10*2 ^ k∧h=h0∧env.at 0=.ref b 0∧env.at 1=.int .u64 (k:Int)∧env.at 4=.int .i64 (r:Int)∧env.at 5=.int .i64 0∧env.at 6=.int .u64 ((N / 10 ^ (nd - r):Nat):Int)
def I256p (h0:Heap) (b N nd k m:Nat) (env:T AV) (h:Heap):Prop:=
 ∃ r,nd≤r∧m+N*10 ^ (r - nd)=10*2 ^ k∧0 < m∧r≤nd+20∧h=h0∧env.at 0=.ref b 0∧env.at 1=.int .u64 (k:Int)∧env.at 4=.int .i64 (r:Int)∧env.at 5=.int .i64 0∧env.at 6=.int .u64 ((N*10 ^ (r - nd):Nat):Int)
theorem k60 {k:Nat} (hk:k≤60):2 ^ k≤1152921504606846976:=Nat.le_trans (Nat.pow_le_pow_right (by decide) hk) (by decide:2 ^ 60≤1152921504606846976)
theorem shr_zero {n k:Nat}:(n / 2 ^ k=0)↔n < 2 ^ k:=Nat.div_eq_zero_iff_lt (Nat.two_pow_pos k)
theorem body256p {h0:Heap} {b N nd k:Nat} {Q:PostC} (hN:0 < N) (h1:0 < nd) (h800:nd≤800) (hk:k≤60) (m:Nat) (env:T AV) (h:Heap) (hI:I256p h0 b N nd k m env h):
  GoP C [.c (match P256 with|c=>c)] env h (LpQ 2 (I256p h0 b N nd k) m (J256 h0 b N nd k) Q):=by
 obtain ⟨r,hr,hm,hm0,hr20,rfl,a0,a1,a4,a5,a6⟩:=hI
 have p60:=k60 hk
 have hpos:10 ^ (r - nd)≤N*10 ^ (r - nd):=Nat.le_mul_of_pos_left _ hN
 have hnn:N*10 ^ (r - nd)=N*10 ^ (r - nd) / 10 ^ (nd - r):=by rw [show nd - r=0 by omega];simp
 have hstep:N*10 ^ (r+1 - nd)=N*10 ^ (r - nd)*10:=by rw [show r+1 - nd=r - nd+1 by omega,Nat.pow_succ,Nat.mul_assoc]
 have hr18:N*10 ^ (r - nd) < 2 ^ k→r - nd≤18:=fun hlt=>by
  have:10 ^ (r - nd) < 10 ^ 19:=Nat.lt_of_le_of_lt hpos (by have:(10:Nat) ^ 19=10000000000000000000:=rfl;omega)
  have:=(Nat.pow_lt_pow_iff_right (a:=10) (by decide)).1 this
  omega
 generalize hn:N*10 ^ (r - nd)=n at*
 have w1:binV .shr (.int .u64 (n:Int)) (.int .u64 (k:Int))=some (.int .u64 ((n / 2 ^ k:Nat):Int)):=b_shrn (by omega)
 simp only [P256,L256,B256,X256,seqT,seqH,blkB,loopB,condA]
 by_cases c:n < 2 ^ k
 ·have w2:wrapF .u64 ((n:Int)*10)=((n*10:Nat):Int):=u64_wrap (n:=n*10) (by omega)
  have w3:wrapF .i64 ((r:Int)+1)=((r+1:Nat):Int):=by rw [i64_wrap (by omega) (by omega)];rfl
  have hr':=hr18 c
  have hn0:0 < n:=by
   rw [← hn];exact Nat.mul_pos hN (Nat.pow_pos (by decide))
  simp (decide:=true) only [BZ,a0,a1,a4,a6,w1,decide_eq_true (show ((n / 2 ^ k:Nat):Int)=0 by have:=shr_zero.2 c;omega),w2,w3]
  refine ⟨10*2 ^ k - n*10,by omega,r+1,by omega,by rw [hstep];omega,by omega,by omega,rfl,?_⟩
  simp (decide:=true) only [BZ,a0,a1,a5,hstep]
 ·simp (decide:=true) only [BZ,a0,a1,a4,a6,w1,decide_eq_false (show ¬ ((n / 2 ^ k:Nat):Int)=0 by have:=mt shr_zero.1 c;omega)]
  refine ⟨r,n,by omega,hr20,by rw [hn];exact hnn,by omega,by omega,rfl,?_⟩
  simp (decide:=true) only [BZ,a0,a1,a4,a5,a6]
theorem body256 {h0:Heap} {b N nd k:Nat} {dp:Int} {ng tr:Bool} {Q:PostC} (D:DV h0 b N nd dp ng tr) (hN:0 < N) (h1:0 < nd) (hk:k≤60) (m:Nat) (env:T AV) (h:Heap) (hI:I256 h0 b N nd k m env h):
  GoP C [.c (match L256 with|c=>c)] env h (LpQ 0 (I256 h0 b N nd k) m (J256 h0 b N nd k) Q):=by
 obtain ⟨r,hm,hlt10,rfl,a0,a1,a4,a5,a6⟩:=hI
 have p60:=k60 hk
 have hl:=D.len
 have h800:=D.le
 have hN1:r=nd→N / 10 ^ (nd - r)=N:=fun h=>by rw [h,Nat.sub_self,Nat.pow_zero,Nat.div_one]
 have hnn:N / 10 ^ (nd - r)=N*10 ^ (r - nd) / 10 ^ (nd - r):=by rw [show r - nd=0 by omega,Nat.pow_zero,Nat.mul_one]
 have hr0:r=0→N / 10 ^ (nd - r)=0:=fun h=>by rw [h];exact Nat.div_eq_of_lt D.lt
 have hsp:r < nd→N / 10 ^ (nd - (r+1))=N / 10 ^ (nd - r)*10+dgt N nd r:=fun h=>dgt_split h
 have hg:=dgt_lt N nd r
 have hdr:r < nd→h.cell b r=.int .u8 ((48+dgt N nd r:Nat):Int):=fun h=>D.d r h
 have padl:=fun m2 env h2 hI=>body256p (h0:=h) (b:=b) (N:=N) (nd:=nd) (k:=k) (Q:=LpQ 0 (I256 h b N nd k) m (J256 h b N nd k) Q) hN h1 h800 hk m2 env h2 hI
 generalize dgt N nd r=g at*
 generalize hn:N / 10 ^ (nd - r)=n at*
 have w1:binV .shr (.int .u64 (n:Int)) (.int .u64 (k:Int))=some (.int .u64 ((n / 2 ^ k:Nat):Int)):=b_shrn (by omega)
 have eL:L256=.seq (seqH L256) (.seq (.block 1 (.seq (.seq (seqH (seqH (blkB (seqH (seqT 1 L256))))) (.cond (.t 23) (.seq (seqH (condA (seqT 1 (seqH (blkB (seqH (seqT 1 L256))))))) (.seq (.block 2 (.loop P256)) (.exit 0))) .skip)) (seqT 1 (blkB (seqH (seqT 1 L256)))))) (seqT 2 L256)):=rfl
 show GoP C [.c L256] env h _
 rw [eL]
 generalize hP:P256=P at padl ⊢
 simp only [L256,B256,X256,seqT,seqH,blkB,loopB,condA] at padl ⊢
 by_cases c:n < 2 ^ k
 ·have cz:=decide_eq_true (show ((n / 2 ^ k:Nat):Int)=0 by have:=shr_zero.2 c;omega)
  by_cases hr:r < nd
  ·have w2:wrapF .u64 ((n:Int)*10)=((n*10:Nat):Int):=u64_wrap (n:=n*10) (by omega)
   have w3:wrapF .i64 ((r:Int)+1)=((r+1:Nat):Int):=by rw [i64_wrap (by omega) (by omega)];rfl
   have w4:wrapF .u64 ((48+g:Nat):Int)=((48+g:Nat):Int):=u64_wrap (by omega)
   have w5:wrapF .u64 (((n*10:Nat):Int)+((48+g:Nat):Int))=((n*10+(48+g):Nat):Int):=u64_wrap (n:=n*10+(48+g)) (by omega)
   have w6:wrapF .u64 (((n*10+(48+g):Nat):Int) - 48)=((n*10+g:Nat):Int):=by rw [show ((n*10+(48+g):Nat):Int) - 48=((n*10+g:Nat):Int) by omega,u64_wrap (by omega)]
   simp (decide:=true) only [BZ,a0,a1,a4,a6,w1,cz,ld1_cell (show 800 < h.len b by omega),D.nd,decide_eq_false (show ¬ (nd:Int)≤(r:Int) by omega),iaA_ref (show r < 800 by omega),Nat.mul_one,ld1_cell (show r < h.len b by omega),hdr hr,w2,w3,w4,w5,w6]
   refine ⟨m - 1,by omega,r+1,by omega,by rw [hsp hr];omega,rfl,?_⟩
   simp (decide:=true) only [BZ,a0,a1,a5,hsp hr]
  ·have hrn:r=nd:=by omega
   subst hrn
   have hnN:=hN1 rfl
   simp (decide:=true) only [BZ,a0,a1,a4,a6,w1,cz,ld1_cell (show 800 < h.len b by omega),D.nd,decide_eq_true (show (r:Int)≤(r:Int) by omega),decide_eq_false (show ¬ (n:Int)=0 by omega)]
   refine go_lp (I256p h b N r k) (J256 h b N r k) (n:=10*2 ^ k - N) ⟨r,Nat.le_refl _,?_,?_,by omega,rfl,?_⟩ padl ?_
   ·rw [Nat.sub_self,Nat.pow_zero,Nat.mul_one];omega
   ·omega
   ·simp (decide:=true) only [BZ,a0,a1,a4,a5,a6,Nat.sub_self,Nat.pow_zero,Nat.mul_one,hnN]
   ·intro env2 h2 hJ
    simp (decide:=true) only [BZ]
    exact hJ
 ·have cz:=decide_eq_false (show ¬ ((n / 2 ^ k:Nat):Int)=0 by have:=mt shr_zero.1 c;omega)
  simp (decide:=true) only [BZ,a0,a1,a4,a6,w1,cz]
  refine ⟨r,n,?_,by omega,hn.symm.trans (hn ▸ hnn),by omega,hlt10,rfl,?_⟩
  ·rcases Nat.eq_zero_or_pos r with h0|h0
   ·have:=hr0 h0;have:=Nat.two_pow_pos k;omega
   ·exact h0
  ·simp (decide:=true) only [BZ,a0,a1,a4,a5,a6]
end Go.Proofs.YtmadknpaljaecaaGreatDoor.Ev.D
namespace Go.Proofs.YtmadknpaljaecaaGreatDoor.Ev.D
open Go Go.Proofs.YtmadknpaljaecaaGreatDoor.Ev
set_option maxRecDepth 100000
structure RV (h0 h:Heap) (b N nd r:Nat) (dp:Int) (ng tr:Bool) (G w:Nat):Prop where
 len:h.len b=804
 fr:Fr h0 h b
 un:∀ i,r≤i→i < nd→h.cell b i=.int .u8 ((48+dgt N nd i:Nat):Int)
 dn:∀ p,p < w→p < 800→h.cell b p=.int .u8 ((48+dgt G w p:Nat):Int)
 c0:h.cell b 800=.int .i64 (nd:Int)
 c1:h.cell b 801=.int .i64 dp
 c2:h.cell b 802=.bool ng
 c3:h.cell b 803=.bool (tr || decide (G % 10 ^ (w - 800)≠0))
theorem dgt_push {G w dig p:Nat} (hd:dig < 10) (hp:p < w):dgt (10*G+dig) (w+1) p=dgt G w p:=by
 have:=dgt_cut (N:=10*G+dig) (nd:=w+1) (i:=p) (by omega)
 rw [show (10*G+dig) / 10=G by omega,Nat.add_sub_cancel] at this
 exact this.symm
theorem dgt_top {G w dig:Nat} (hd:dig < 10):dgt (10*G+dig) (w+1) w=dig:=by
 have:=dgt_last (10*G+dig) (w+1) (by omega)
 rw [Nat.add_sub_cancel] at this
 omega
section
variable {h0 h:Heap} {b N nd r r':Nat} {dp:Int} {ng tr:Bool} {G w dig:Nat}
theorem RV.put (L:RV h0 h b N nd r dp ng tr G w) (hw:w < 800) (hd:dig < 10) (hr:r≤r') (hr2:w < r'∨nd≤r') (h800:nd≤800):
  RV h0 (h.stB b w (.int .u8 ((48+dig:Nat):Int))) b N nd r' dp ng tr (10*G+dig) (w+1):=by
 have hl:=L.len
 refine ⟨by rw [Heap.stB_len,hl],L.fr.st,fun i h1 h2=>?_,fun p h1 h2=>?_,?_,?_,?_,?_⟩
 ·rw [stB_ne (by omega) (by omega)];exact L.un i (by omega) h2
 ·by_cases hp:p=w
  ·subst hp;rw [stB_at (by omega),dgt_top hd]
  ·rw [stB_ne (by omega) hp,dgt_push hd (by omega)];exact L.dn p (by omega) h2
 ·rw [stB_ne (by omega) (by omega)];exact L.c0
 ·rw [stB_ne (by omega) (by omega)];exact L.c1
 ·rw [stB_ne (by omega) (by omega)];exact L.c2
 ·rw [stB_ne (by omega) (by omega),L.c3,show w+1 - 800=0 by omega,show w - 800=0 by omega,Nat.pow_zero,Nat.mod_one,Nat.mod_one]
theorem RV.drop0 (L:RV h0 h b N nd r dp ng tr G w) (hw:800≤w) (hr:r≤r'):RV h0 h b N nd r' dp ng tr (10*G+0) (w+1):=by
 refine ⟨L.len,L.fr,fun i h1 h2=>L.un i (by omega) h2,fun p h1 h2=>by rw [dgt_push (by decide) (by omega)];exact L.dn p (by omega) h2,L.c0,L.c1,L.c2,?_⟩
 rw [L.c3,show w+1 - 800=w - 800+1 by omega,Nat.add_zero,Nat.pow_succ,Nat.mul_comm _ 10,Nat.mul_mod_mul_left]
 congr 2
 rw [decide_eq_decide];omega
theorem RV.drop1 (L:RV h0 h b N nd r dp ng tr G w) (hw:800≤w) (hr:r≤r') (hd:dig < 10) (hz:dig≠0) (h800:nd≤800):RV h0 (h.stB b 803 (.bool true)) b N nd r' dp ng tr (10*G+dig) (w+1):=by
 have hl:=L.len
 refine ⟨by rw [Heap.stB_len,hl],L.fr.st,fun i h1 h2=>?_,fun p h1 h2=>?_,?_,?_,?_,?_⟩
 ·rw [stB_ne (by omega) (by omega)];exact L.un i (by omega) h2
 ·rw [stB_ne (by omega) (by omega),dgt_push hd (by omega)];exact L.dn p (by omega) h2
 ·rw [stB_ne (by omega) (by omega)];exact L.c0
 ·rw [stB_ne (by omega) (by omega)];exact L.c1
 ·rw [stB_ne (by omega) (by omega)];exact L.c2
 ·rw [stB_at (by omega)]
  have:(10*G+dig) % 10 ^ (w+1 - 800)≠0:=by
   intro h0
   have h1:10∣10 ^ (w+1 - 800):=⟨10 ^ (w - 800),by rw [← Nat.pow_succ'];congr 1;omega⟩
   have:=Nat.mod_eq_zero_of_dvd (Nat.dvd_trans h1 (Nat.dvd_of_mod_eq_zero h0))
   omega
  rw [decide_eq_true this,Bool.or_true]
end
theorem quo_step {n k:Nat} (hk:k≤60) (hn:n < 10*2 ^ k):n / 2 ^ k < 10∧n % 2 ^ k < 2 ^ k∧n=2 ^ k*(n / 2 ^ k)+n % 2 ^ k:=by
 have hp:=Nat.two_pow_pos k
 exact ⟨by rw [Nat.div_lt_iff_lt_mul hp];exact hn,Nat.mod_lt _ hp,(Nat.div_add_mod n (2 ^ k)).symm⟩
theorem and_mask {n k:Nat} (hk:k≤60) (hn:n < 18446744073709551616):andF .u64 (n:Int) ((2 ^ k - 1:Nat):Int)=((n % 2 ^ k:Nat):Int):=by
 have p60:=k60 hk
 rw [and_u64 hn (by omega),Nat.and_two_pow_sub_one_eq_mod]
def Cut (h h':Heap) (b G w:Nat) (dp:Int) (ng tr:Bool):Prop:=
 10 ^ (w - 1)≤G∧G < 10 ^ w∧0 < w∧∃ N' nd',G / 10 ^ (w - 800)=N'*10 ^ (min w 800 - nd')∧0 < nd'∧nd'≤min w 800∧N' % 10≠0∧DV h' b N' nd' dp ng (tr || decide (G % 10 ^ (w - 800)≠0))∧Fr h h' b
def I256m (h0:Heap) (b N nd:Nat) (dp:Int) (ng tr:Bool) (k R m:Nat) (env:T AV) (h:Heap):Prop:=
 ∃ r G w n,m=nd - r∧w+R=r∧(r≤nd∨w=0)∧n+10*2 ^ k*G=N*10 ^ (R - nd) / 10 ^ (nd - r)∧n < 10*2 ^ k∧G < 10 ^ w∧(w=0→2 ^ k≤n)∧(0 < w→10 ^ (w - 1)≤G)∧RV h0 h b N nd r dp ng tr G w∧
  env.at 0=.ref b 0∧env.at 1=.int .u64 (k:Int)∧env.at 4=.int .i64 (r:Int)∧env.at 5=.int .i64 (w:Int)∧env.at 6=.int .u64 (n:Int)∧env.at 8=.int .u64 ((2 ^ k - 1:Nat):Int)
def J256m (h0:Heap) (b N nd:Nat) (dp:Int) (ng tr:Bool) (k R:Nat) (env:T AV) (h:Heap):Prop:=
 ∃ G w n,w+R=nd+(R - nd)∧w < 800∧n+10*2 ^ k*G=N*10 ^ (R - nd)∧n < 10*2 ^ k∧G < 10 ^ w∧(w=0→2 ^ k≤n)∧(0 < w→10 ^ (w - 1)≤G)∧RV h0 h b N nd nd dp ng tr G w∧
  env.at 0=.ref b 0∧env.at 1=.int .u64 (k:Int)∧env.at 5=.int .i64 (w:Int)∧env.at 6=.int .u64 (n:Int)∧env.at 8=.int .u64 ((2 ^ k - 1:Nat):Int)
theorem body256m {h0:Heap} {b N nd k R:Nat} {dp:Int} {ng tr:Bool} {Q:PostC} (hN:N < 10 ^ nd) (h800:nd≤800) (hR:1≤R) (hR2:R≤900) (hk:k≤60) (m:Nat) (env:T AV) (h:Heap) (hI:I256m h0 b N nd dp ng tr k R m env h):
  GoP C [.c (match M256 with|c=>c)] env h (LpQ 4 (I256m h0 b N nd dp ng tr k R) m (J256m h0 b N nd dp ng tr k R) Q):=by
 obtain ⟨r,G,w,n,rfl,hw,hrw,hdiv,hn,hG,hw0,hw1,L,a0,a1,a4,a5,a6,a8⟩:=hI
 have hl:=L.len
 have p60:=k60 hk
 simp only [M256,B256,X256,seqT,seqH,blkB,loopB]
 by_cases hr:r < nd
 ·have hR0:R - nd=0:=by omega
  obtain ⟨q1,q2,q3⟩:=quo_step hk hn
  have hsp:=dgt_split (N:=N) (nd:=nd) (i:=r) hr
  have hun:=L.un r (Nat.le_refl _) hr
  have hg:=dgt_lt N nd r
  rw [hR0,Nat.pow_zero,Nat.mul_one] at hdiv
  rw [← hdiv] at hsp
  have L':=L.put (r':=r+1) (show w < 800 by omega) q1 (by omega) (.inl (by omega)) h800
  generalize dgt N nd r=g at*
  have w1:binV .shr (.int .u64 (n:Int)) (.int .u64 (k:Int))=some (.int .u64 ((n / 2 ^ k:Nat):Int)):=b_shrn (by omega)
  have w2:=and_mask hk (show n < 18446744073709551616 by omega)
  have hd1:2 ^ k≤n→1≤n / 2 ^ k:=fun h=>by rw [Nat.le_div_iff_mul_le (Nat.two_pow_pos k)];omega
  have hrel:n % 2 ^ k*10+g+10*2 ^ k*(10*G+n / 2 ^ k)=(n+10*2 ^ k*G)*10+g:=by
   have e1:10*2 ^ k*(10*G+n / 2 ^ k)=10*2 ^ k*G*10+10*(2 ^ k*(n / 2 ^ k)):=by rw [Nat.mul_add];congr 1 <;> ac_rfl
   omega
  generalize n / 2 ^ k=dig at*
  generalize n % 2 ^ k=rest at*
  have hw1':0 < w+1→10 ^ (w+1 - 1)≤10*G+dig:=fun _=>by
   rw [Nat.add_sub_cancel]
   rcases Nat.eq_zero_or_pos w with h0|h0
   ·subst h0
    have:=hd1 (hw0 rfl)
    rw [Nat.pow_zero];omega
   ·have:=hw1 h0
    have e:10 ^ w=10 ^ (w - 1)*10:=by rw [← Nat.pow_succ];congr 1;omega
    omega
  have hG':10*G+dig < 10 ^ (w+1):=by rw [Nat.pow_succ];omega
  have w3:wrapF .u8 (wrapF .u64 ((dig:Int)+48))=((48+dig:Nat):Int):=rem8 q1
  have w4:wrapF .i64 ((w:Int)+1)=((w+1:Nat):Int):=by rw [i64_wrap (by omega) (by omega)];rfl
  have w5:wrapF .i64 ((r:Int)+1)=((r+1:Nat):Int):=by rw [i64_wrap (by omega) (by omega)];rfl
  have w6:wrapF .u64 ((rest:Int)*10)=((rest*10:Nat):Int):=u64_wrap (n:=rest*10) (by omega)
  have w7:wrapF .u64 ((48+g:Nat):Int)=((48+g:Nat):Int):=u64_wrap (by omega)
  have w8:wrapF .u64 (((rest*10:Nat):Int)+((48+g:Nat):Int))=((rest*10+(48+g):Nat):Int):=u64_wrap (n:=rest*10+(48+g)) (by omega)
  have w9:wrapF .u64 (((rest*10+(48+g):Nat):Int) - 48)=((rest*10+g:Nat):Int):=by rw [show ((rest*10+(48+g):Nat):Int) - 48=((rest*10+g:Nat):Int) by omega,u64_wrap (by omega)]
  simp (decide:=true) only [BZ,a0,a1,a4,a5,a6,a8,ld1_cell (show 800 < h.len b by omega),L.c0,decide_eq_true (show (r:Int) < (nd:Int) by omega),iaA_ref (show r < 800 by omega),Nat.mul_one,ld1_cell (show r < h.len b by omega),hun,w1,w2,w3,w4,w5,iaA_ref (show w < 800 by omega),st1_cell (show w < h.len b by omega) okc_int,w6,w7,w8,w9]
  refine ⟨nd - (r+1),by omega,r+1,10*G+dig,w+1,rest*10+g,rfl,by omega,.inl (by omega),?_,by omega,hG',fun h=>by omega,hw1',L',?_⟩
  ·rw [hR0,Nat.pow_zero,Nat.mul_one,hsp,hrel]
  ·simp (decide:=true) only [BZ,a0,a1,a8]
 ·have hnr:nd - r=0:=by omega
  rw [hnr,Nat.pow_zero,Nat.div_one] at hdiv
  simp (decide:=true) only [BZ,a0,a4,ld1_cell (show 800 < h.len b by omega),L.c0,decide_eq_false (show ¬ (r:Int) < (nd:Int) by omega)]
  refine ⟨G,w,n,by omega,by omega,hdiv,hn,hG,hw0,hw1,⟨L.len,L.fr,fun i h1 h2=>absurd h2 (by omega),L.dn,L.c0,L.c1,L.c2,L.c3⟩,?_⟩
  simp (decide:=true) only [BZ,a0,a1,a5,a6,a8]
end Go.Proofs.YtmadknpaljaecaaGreatDoor.Ev.D
namespace Go.Proofs.YtmadknpaljaecaaGreatDoor.Ev.D
open Go Go.Proofs.YtmadknpaljaecaaGreatDoor.Ev
set_option maxRecDepth 100000
def I256r (h0:Heap) (b N nd:Nat) (dp:Int) (ng tr:Bool) (k R M m:Nat) (env:T AV) (h:Heap):Prop:=
 ∃ t G w n,m+t=k+1∧w+R=nd+(R - nd)+t∧n+10*2 ^ k*G=M*10 ^ t∧n < 10*2 ^ k∧(0 < t→n=10*(M*10 ^ (t - 1) % 2 ^ k))∧G < 10 ^ w∧(w=0→2 ^ k≤n)∧(0 < w→10 ^ (w - 1)≤G)∧RV h0 h b N nd nd dp ng tr G w∧
  env.at 0=.ref b 0∧env.at 1=.int .u64 (k:Int)∧env.at 5=.int .i64 ((min w 800:Nat):Int)∧env.at 6=.int .u64 (n:Int)∧env.at 8=.int .u64 ((2 ^ k - 1:Nat):Int)
def J256r (h0:Heap) (b N nd:Nat) (dp:Int) (ng tr:Bool) (k R M:Nat) (env:T AV) (h:Heap):Prop:=
 ∃ t G w,w+R=nd+(R - nd)+t∧10*2 ^ k*G=M*10 ^ t∧t≤k+1∧0 < w∧G < 10 ^ w∧10 ^ (w - 1)≤G∧RV h0 h b N nd nd dp ng tr G w∧env.at 0=.ref b 0∧env.at 5=.int .i64 ((min w 800:Nat):Int)
theorem body256r {h0:Heap} {b N nd k R M:Nat} {dp:Int} {ng tr:Bool} {Q:PostC} (h800:nd≤800) (hk:k≤60) (hR2:R≤900) (m:Nat) (env:T AV) (h:Heap) (hI:I256r h0 b N nd dp ng tr k R M m env h):
  GoP C [.c (match R256 with|c=>c)] env h (LpQ 6 (I256r h0 b N nd dp ng tr k R M) m (J256r h0 b N nd dp ng tr k R M) Q):=by
 obtain ⟨t,G,w,n,hm,hw,hdiv,hn,ht,hG,hw0,hw1,L,a0,a1,a5,a6,a8⟩:=hI
 have hl:=L.len
 have p60:=k60 hk
 have hpk:=Nat.two_pow_pos k
 simp only [R256,B256,X256,seqT,seqH,blkB,loopB]
 by_cases hz:n=0
 ·subst hz
  simp (decide:=true) only [BZ,a6,show ((0:Nat):Int)=0 from rfl]
  have hwp:0 < w:=by
   rcases Nat.eq_zero_or_pos w with h0|h0
   ·have:=hw0 h0;omega
   ·exact h0
  refine ⟨t,G,w,hw,by omega,by omega,hwp,hG,hw1 hwp,L,?_⟩
  simp (decide:=true) only [BZ,a0,a5]
 ·
  have htk:t≤k:=by
   rcases Nat.lt_or_ge k t with h1|h1
   ·have e:=ht (by omega)
    have e2:M*10 ^ (t - 1) % 2 ^ k=0:=by
     have:t - 1=k:=by omega
     rw [this,show (10:Nat) ^ k=2 ^ k*5 ^ k from by rw [← Nat.mul_pow],Nat.mul_left_comm,Nat.mul_mod_right]
    omega
   ·exact h1
  obtain ⟨q1,q2,q3⟩:=quo_step hk hn
  have w1:binV .shr (.int .u64 (n:Int)) (.int .u64 (k:Int))=some (.int .u64 ((n / 2 ^ k:Nat):Int)):=b_shrn (by omega)
  have w2:=and_mask hk (show n < 18446744073709551616 by omega)
  have hd1:2 ^ k≤n→1≤n / 2 ^ k:=fun h=>by rw [Nat.le_div_iff_mul_le hpk];omega
  have hmod:n % 2 ^ k=M*10 ^ t % 2 ^ k:=by
   rw [← hdiv,show 10*2 ^ k*G=2 ^ k*(10*G) by ac_rfl,Nat.add_mul_mod_self_left]
  have hrel:n % 2 ^ k*10+10*2 ^ k*(10*G+n / 2 ^ k)=M*10 ^ (t+1):=by
   have e1:10*2 ^ k*(10*G+n / 2 ^ k)=10*2 ^ k*G*10+10*(2 ^ k*(n / 2 ^ k)):=by rw [Nat.mul_add];congr 1 <;> ac_rfl
   rw [Nat.pow_succ,← Nat.mul_assoc,← hdiv,e1];omega
  have hput:=fun hlt=>L.put (r':=nd) hlt q1 (Nat.le_refl _) (.inr (Nat.le_refl _)) h800
  have hdr1:=fun hge hz=>L.drop1 (dig:=n / 2 ^ k) (r':=nd) hge (Nat.le_refl _) q1 hz h800
  generalize n / 2 ^ k=dig at*
  generalize n % 2 ^ k=rest at*
  have hw1':0 < w+1→10 ^ (w+1 - 1)≤10*G+dig:=fun _=>by
   rw [Nat.add_sub_cancel]
   rcases Nat.eq_zero_or_pos w with h0|h0
   ·subst h0
    have:=hd1 (hw0 rfl)
    rw [Nat.pow_zero];omega
   ·have:=hw1 h0
    have e:10 ^ w=10 ^ (w - 1)*10:=by rw [← Nat.pow_succ];congr 1;omega
    omega
  have hG':10*G+dig < 10 ^ (w+1):=by rw [Nat.pow_succ];omega
  have w3:wrapF .u8 (wrapF .u64 ((dig:Int)+48))=((48+dig:Nat):Int):=rem8 q1
  have w6:wrapF .u64 ((rest:Int)*10)=((rest*10:Nat):Int):=u64_wrap (n:=rest*10) (by omega)
  have hgt:=decide_eq_true (show (0:Int) < (n:Int) by omega)
  have ht':0 < t+1→rest*10=10*(M*10 ^ (t+1 - 1) % 2 ^ k):=fun _=>by rw [Nat.add_sub_cancel,← hmod,Nat.mul_comm]
  by_cases c8:w < 800
  ·have L':=hput c8
   have a5':env.at 5=.int .i64 (w:Int):=by rw [a5,show min w 800=w by omega]
   have w4:wrapF .i64 ((w:Int)+1)=((min (w+1) 800:Nat):Int):=by rw [i64_wrap (by omega) (by omega)];omega
   simp (decide:=true) only [BZ,a0,a1,a5',a6,a8,hgt,w1,w2,decide_eq_true (show (w:Int) < 800 by omega),iaA_ref (show w < 800 by omega),Nat.mul_one,w3,w4,st1_cell (show w < h.len b by omega) okc_int,w6]
   refine ⟨m - 1,by omega,t+1,10*G+dig,w+1,rest*10,by omega,by omega,hrel,by omega,ht',hG',fun h=>by omega,hw1',L',?_⟩
   simp (decide:=true) only [BZ,a0,a1,a8]
  ·have a5':env.at 5=.int .i64 800:=by rw [a5,show min w 800=800 by omega];rfl
   have hmin:((min (w+1) 800:Nat):Int)=800:=by omega
   by_cases hd0:dig=0
   ·subst hd0
    have L':=L.drop0 (r':=nd) (by omega) (Nat.le_refl _)
    simp (decide:=true) only [BZ,a0,a1,a5',a6,a8,hgt,w1,w2,show ((0:Nat):Int)=0 from rfl,w6]
    refine ⟨m - 1,by omega,t+1,10*G+0,w+1,rest*10,by omega,by omega,hrel,by omega,ht',hG',fun h=>by omega,hw1',L',?_⟩
    simp (decide:=true) only [BZ,a0,a1,a5',a8,hmin]
   ·have L':=hdr1 (by omega) hd0
    simp (decide:=true) only [BZ,a0,a1,a5',a6,a8,hgt,w1,w2,decide_eq_true (show (0:Int) < (dig:Int) by omega),st1_cell (show 803 < h.len b by omega) okc_bool,w6]
    refine ⟨m - 1,by omega,t+1,10*G+dig,w+1,rest*10,by omega,by omega,hrel,by omega,ht',hG',fun h=>by omega,hw1',L',?_⟩
    simp (decide:=true) only [BZ,a0,a1,a5',a8,hmin]
theorem tail256 {h0 h:Heap} {b N nd k R M:Nat} {dp:Int} {ng tr:Bool} {env:T AV} {Q:PostC} (hJ:J256r h0 b N nd dp ng tr k R M env h)
  (hQ:∀ env h' t G w,w+R=nd+(R - nd)+t→10*2 ^ k*G=M*10 ^ t→t≤k+1→Cut h0 h' b G w dp ng tr→Q .nrm env h'):GoP C [.c (seqT 5 B256)] env h Q:=by
 obtain ⟨t,G,w,hw,hrel,htk,hwp,hG,hG1,L,a0,a5⟩:=hJ
 have hl:=L.len
 have hp:0 < 10 ^ (w - 800):=Nat.pow_pos (by decide)
 have D1:DV (h.stB b 800 (.int .i64 ((min w 800:Nat):Int))) b (G / 10 ^ (w - 800)) (min w 800) dp ng (tr || decide (G % 10 ^ (w - 800)≠0)):=by
  refine ⟨by rw [Heap.stB_len,hl],by omega,?_,fun i hi'=>?_,stB_at (by omega),?_,?_,?_⟩
  ·rw [Nat.div_lt_iff_lt_mul hp,← Nat.pow_add,show min w 800+(w - 800)=w by omega];exact hG
  ·rw [stB_ne (by omega) (by omega),L.dn i (by omega) (by omega)]
   unfold dgt
   rw [Nat.div_div_eq_div_mul,← Nat.pow_add,show w - 800+(min w 800 - 1 - i)=w - 1 - i by omega]
  ·rw [stB_ne (by omega) (by omega)];exact L.c1
  ·rw [stB_ne (by omega) (by omega)];exact L.c2
  ·rw [stB_ne (by omega) (by omega)];exact L.c3
 obtain ⟨h',N',nd',hd,e1,e2,e3,D',F⟩:=s254 D1
 have hne:nd'≠0:=by
  rintro rfl
  have:=D'.lt
  have:N' =0:=by simpa using this
  subst this
  rw [Nat.zero_mul,Nat.div_eq_zero_iff_lt hp] at e1
  have:10 ^ (w - 800)≤10 ^ (w - 1):=Nat.pow_le_pow_right (by decide) (by omega)
  omega
 rw [if_neg hne] at D'
 simp only [B256,X256,seqT]
 simp (decide:=true) only [BZ,a0,a5,st1_cell (show 800 < h.len b by omega) okc_int,callG_of hd]
 exact hQ _ _ t G w hw hrel htk ⟨hG1,hG,hwp,N',nd',e1,by omega,e2,by omega,D',(L.fr.st).trans F⟩
def ShrR (h h':Heap) (b N nd:Nat) (dp:Int) (ng tr:Bool) (k:Nat):Prop:=
 ∃ G w R a,w+R=nd+a∧1≤R∧R≤nd+20∧a≤100∧10*2 ^ k*G=N*10 ^ a∧Cut h h' b G w (dp+1 - R) ng tr
theorem s256 {h:Heap} {b N nd k:Nat} {dp:Int} {ng tr:Bool} (D:DV h b N nd dp ng tr) (h1:0 < nd) (hN:0 < N) (k1:1≤k) (k2:k≤60) (dp1:-1000000≤dp) (dp2:dp≤1000000):
  ∃ h',Does C 256 [.ref b 0,.int .u64 (k:Int)] h (.tup []) h'∧ShrR h h' b N nd dp ng tr k:=by
 obtain ⟨v,h',hd,rfl,q⟩:=does_anyE (C:=C) (f:=256) (fn:=X256) rfl rfl rfl (args:=[.ref b 0,.int .u64 (k:Int)]) (h:=h)
  (P:=fun v h'=>v=.tup []∧ShrR h h' b N nd dp ng tr k) (by
  have hl:=D.len
  have h800:=D.le
  have p60:=k60 k2
  have hpk:=Nat.two_pow_pos k
  rw [X256_ok]
  have lp1:=fun Q m env h2 hI=>body256 (Q:=Q) D hN h1 k2 m env h2 hI
  have lp2:∀ (R:Nat) (env:T AV) (h2:Heap),1≤R→R≤nd+20→I256m h b N nd (dp+1 - R) ng tr k R (nd - R) env h2→
    GoP C [.c (.loop M256),.blk 4,.c (.seq (.block 6 (.loop R256)) (seqT 5 B256))] env h2 (fun e env h2=>∃ v,Back X256.results false v e env h2∧v=.tup []∧ShrR h h2 b N nd dp ng tr k):=by
   intro R env h2 r1 r2 hI
   refine go_lp (I256m h b N nd (dp+1 - R) ng tr k R) (J256m h b N nd (dp+1 - R) ng tr k R) hI (fun n env h hI=>body256m D.lt h800 r1 (by omega) k2 n env h hI) ?_
   rintro env3 h3 ⟨G,w,n,hw,hw8,hdiv,hn,hG,hw0,hw1,L,a0,a1,a5,a6,a8⟩
   refine go_seq.2 (go_block.2 (go_lp (I256r h b N nd (dp+1 - R) ng tr k R (N*10 ^ (R - nd))) (J256r h b N nd (dp+1 - R) ng tr k R (N*10 ^ (R - nd))) (n:=k+1) ⟨0,G,w,n,rfl,by omega,by rw [Nat.pow_zero,Nat.mul_one];exact hdiv,hn,fun h=>absurd h (Nat.lt_irrefl _),hG,hw0,hw1,L,a0,a1,by rw [show min w 800=w by omega];exact a5,a6,a8⟩ (fun n env h hI=>body256r h800 k2 (by omega) n env h hI) ?_))
   intro env4 h4 hJ
   refine tail256 hJ fun env h' t G w hw hrel htk hcut=>⟨.tup [],back0n,rfl,G,w,R,R - nd+t,by omega,r1,r2,by omega,?_,hcut⟩
   rw [hrel,Nat.mul_assoc,← Nat.pow_add]
  generalize hL:L256=L at lp1 ⊢
  generalize hM:M256=M at lp2 ⊢
  generalize hR:R256=R6 at lp2 ⊢
  generalize hT:seqT 5 B256=T5 at lp2 ⊢
  simp only [B256,X256,seqT,seqH] at lp1 lp2 ⊢
  simp (decide:=true) only [BZ]
  refine go_lp (I256 h b N nd k) (J256 h b N nd k) (n:=nd) ⟨0,rfl,?_,rfl,?_⟩ (lp1 _) ?_
  ·rw [Nat.sub_zero,Nat.div_eq_of_lt D.lt];omega
  ·simp (decide:=true) only [BZ,Nat.sub_zero,Nat.div_eq_of_lt D.lt]
   all_goals trivial
  ·rintro env2 h2 ⟨r,n,r1,r2,hn,hlo,hhi,rfl,a0,a1,a4,a5,a6⟩
   have w1:wrapF .i64 ((r:Int) - 1)=(r:Int) - 1:=i64_wrap (by omega) (by omega)
   have w2:wrapF .i64 (dp - ((r:Int) - 1))=dp+1 - r:=by rw [i64_wrap (by omega) (by omega)];omega
   have w3:binV .shl (.int .u64 1) (.int .u64 (k:Int))=some (.int .u64 ((2 ^ k:Nat):Int)):=by
    have:=b_shln (k':=.u64) (a:=1) (n:=k) (by omega) (by omega)
    rw [Nat.one_mul] at this;exact this
   have w4:wrapF .u64 (((2 ^ k:Nat):Int) - 1)=((2 ^ k - 1:Nat):Int):=by
    rw [show ((2 ^ k:Nat):Int) - 1=((2 ^ k - 1:Nat):Int) by omega,u64_wrap (by omega)]
   simp (decide:=true) only [BZ,a0,a1,a4,a5,a6,ld1_cell (show 801 < h2.len b by omega),D.dp,w1,w2,w3,w4,st1_cell (show 801 < h2.len b by omega) okc_int]
   refine lp2 r _ _ r1 r2 ⟨r,0,0,n,rfl,by omega,.inr rfl,by rw [Nat.mul_zero,Nat.add_zero];exact hn,hhi,by decide,fun _=>hlo,fun h=>absurd h (Nat.lt_irrefl _),?_,?_⟩
   ·have D':=D.setDp (dp+1 - r)
    refine ⟨D'.len,Fr.stB _ _ _ _,fun i h1 h2=>D'.d i h2,fun p h1=>absurd h1 (Nat.not_lt_zero _),D'.nd,D'.dp,D'.ng,?_⟩
    rw [D'.tr,Nat.zero_mod,decide_eq_false (fun h=>h rfl),Bool.or_false]
   ·simp (decide:=true) only [BZ,a0,a1,a4,a5,a6]
    all_goals trivial)
 exact ⟨h',hd,q⟩
end Go.Proofs.YtmadknpaljaecaaGreatDoor.Ev.D
namespace Go.Proofs.YtmadknpaljaecaaGreatDoor.Dc
def Yv (N nd:Nat) (dp:Int):Nat:=N*10 ^ (dp - nd+3000).toNat
structure CutV (t X:Nat) (dp':Int) (tr0:Bool) (N' nd':Nat) (tr':Bool):Prop where
 le:Yv N' nd' dp'≤X
 near:X*(10*t)≤Yv N' nd' dp'*(10*t+1)
 tr:tr' =(tr0 || decide (Yv N' nd' dp'≠X))
 lo:10 ^ (dp' - 1+3000).toNat≤X
 hi:X < 10 ^ (dp'+3000).toNat
 nd0:0 < nd'
 n0:10 ^ (nd' - 1)≤N'
 nl:N' < 10 ^ nd'
 m10:N' % 10≠0
 ex:∀ e:Nat,dp'+3000≤e+800→10 ^ e∣X→Yv N' nd' dp' =X
theorem pow_split {a b c:Nat} (h:c=a+b):10 ^ c=10 ^ a*10 ^ b:=by rw [h,Nat.pow_add]
theorem cut_val {t G w N' nd':Nat} {dp':Int} {tr0:Bool} (g1:10 ^ (w - 1)≤G) (g2:G < 10 ^ w) (hw:0 < w) (hw2:w≤900) (e:G / 10 ^ (w - 800)=N'*10 ^ (min w 800 - nd')) (h0:0 < nd') (hn:nd'≤min w 800) (hm:N' % 10≠0) (hl:N' < 10 ^ nd') (d1:-2000≤dp') (ht:∀ n,799≤n→10*t≤10 ^ n):
  CutV t (G*10 ^ (dp' - w+3000).toNat) dp' tr0 N' nd' (tr0 || decide (G % 10 ^ (w - 800)≠0)):=by
 obtain ⟨x,hx⟩:∃ x:Nat,dp' - w+3000=x:=⟨(dp' - w+3000).toNat,by omega⟩
 obtain ⟨c,hc⟩:∃ c:Nat,w - 800=c:=⟨_,rfl⟩
 obtain ⟨m,hmm⟩:∃ m:Nat,min w 800=m:=⟨_,rfl⟩
 rw [hx,Int.toNat_natCast,hc]
 rw [hc,hmm] at e
 rw [hmm] at hn
 have hY:Yv N' nd' dp' =G / 10 ^ c*10 ^ (c+x):=by
  unfold Yv
  rw [show (dp' - nd'+3000).toNat=(m - nd')+(c+x) by omega,Nat.pow_add _ (m - nd'),← Nat.mul_assoc,← e]
 have hp:0 < 10 ^ c:=Nat.pow_pos (by decide)
 have hpx:0 < 10 ^ x:=Nat.pow_pos (by decide)
 have hdm:=Nat.div_add_mod G (10 ^ c)
 have hml:=Nat.mod_lt G hp
 have hX:G*10 ^ x=Yv N' nd' dp'+G % 10 ^ c*10 ^ x:=by
  conv=>lhs;rw [← hdm]
  rw [Nat.add_mul,hY,Nat.pow_add,Nat.mul_comm (10 ^ c),Nat.mul_assoc (G / 10 ^ c)]
 have hne:(Yv N' nd' dp'≠G*10 ^ x)↔G % 10 ^ c≠0:=by
  rw [hX]
  constructor
  ·intro h h0;rw [h0,Nat.zero_mul] at h;exact h rfl
  ·intro h h2
   have:0 < G % 10 ^ c*10 ^ x:=Nat.mul_pos (by omega) hpx
   omega
 refine ⟨by omega,?_,?_,?_,?_,h0,?_,hl,hm,?_⟩
 ·rcases Nat.eq_zero_or_pos c with hc0|hc0
  ·have:G % 10 ^ c=0:=by rw [hc0];exact Nat.mod_one _
   rw [hX,this,Nat.zero_mul,Nat.add_zero,Nat.mul_add];omega
  ·have hQ:10*t≤G / 10 ^ c:=by
    rw [Nat.le_div_iff_mul_le hp]
    refine Nat.le_trans (Nat.mul_le_mul_right _ (ht (w - 1 - c) (by omega))) ?_
    rw [← Nat.pow_add,show w - 1 - c+c=w - 1 by omega]
    exact g1
   generalize 10*t=T at*
   have h1:G % 10 ^ c*10 ^ x*T≤Yv N' nd' dp':=by
    rw [hY,Nat.pow_add]
    calc G % 10 ^ c*10 ^ x*T≤10 ^ c*10 ^ x*T:=Nat.mul_le_mul_right _ (Nat.mul_le_mul_right _ (Nat.le_of_lt hml))
     _=T*(10 ^ c*10 ^ x):=Nat.mul_comm _ _
     _≤_:=Nat.mul_le_mul_right _ hQ
   rw [hX,Nat.add_mul,Nat.mul_add,Nat.mul_one]
   exact Nat.add_le_add_left h1 _
 ·exact congrArg (tr0 || ·) (decide_eq_decide.2 hne.symm)
 ·rw [show (dp' - 1+3000).toNat=(w - 1)+x by omega,Nat.pow_add]
  exact Nat.mul_le_mul_right _ g1
 ·rw [show (dp'+3000).toNat=w+x by omega,Nat.pow_add]
  exact Nat.mul_lt_mul_of_pos_right g2 hpx
 ·
  have h1:10 ^ (m - 1)≤G / 10 ^ c:=by
   rw [Nat.le_div_iff_mul_le hp,← Nat.pow_add,show m - 1+c=w - 1 by omega];exact g1
  rw [e,show m - 1=(nd' - 1)+(m - nd') by omega,Nat.pow_add] at h1
  exact Nat.le_of_mul_le_mul_right h1 (Nat.pow_pos (by decide))
 ·intro e' he' hd
  rcases Nat.eq_zero_or_pos c with hc0|hc0
  ·have:G % 10 ^ c=0:=by rw [hc0];exact Nat.mod_one _
   rw [hX,this,Nat.zero_mul,Nat.add_zero]
  ·have h2:10 ^ (c+x)∣G*10 ^ x:=Nat.dvd_trans (Nat.pow_dvd_pow 10 (by omega)) hd
   rw [Nat.pow_add] at h2
   have h3:=Nat.dvd_of_mul_dvd_mul_right hpx h2
   have:G % 10 ^ c=0:=Nat.mod_eq_zero_of_dvd h3
   rw [hX,this,Nat.zero_mul,Nat.add_zero]
theorem near_step {t A j X Y':Nat} (ht:0 < t) (hj:j≤t) (h1:A*t≤X*(t+j)) (h2:X*(10*t)≤Y'*(10*t+1)):A*t≤Y'*(t+(j+1)):=by
 have a1:A*t*(10*t)≤X*(t+j)*(10*t):=Nat.mul_le_mul_right _ h1
 have a2:X*(t+j)*(10*t)=X*(10*t)*(t+j):=by ac_rfl
 have a3:X*(10*t)*(t+j)≤Y'*(10*t+1)*(t+j):=Nat.mul_le_mul_right _ h2
 have a4:(10*t+1)*(t+j)≤10*t*(t+(j+1)):=by
  rw [Nat.add_mul,Nat.one_mul,show t+(j+1)=t+j+1 from rfl,Nat.mul_add (10*t) (t+j) 1,Nat.mul_one]
  omega
 have a5:Y'*(10*t+1)*(t+j)=Y'*((10*t+1)*(t+j)):=by ac_rfl
 have a6:Y'*((10*t+1)*(t+j))≤Y'*(10*t*(t+(j+1))):=Nat.mul_le_mul_left _ a4
 have a7:Y'*(10*t*(t+(j+1)))=Y'*(t+(j+1))*(10*t):=by ac_rfl
 have:A*t*(10*t)≤Y'*(t+(j+1))*(10*t):=by rw [← a7];rw [a2] at a1;rw [a5] at a3;exact Nat.le_trans a1 (Nat.le_trans a3 a6)
 exact Nat.le_of_mul_le_mul_right this (by omega)
structure Rl (t A B j:Nat) (Y:Nat) (tr:Bool):Prop where
 le:Y*B≤A
 near:A*t≤Y*B*(t+j)
 eq:tr=false→Y*B=A
 lt:tr=true→Y*B < A
section
variable {t A B j Y X Y':Nat} {tr:Bool}
theorem Rl.exact (h:Y*B=A):Rl t A B 0 Y false:=⟨by omega,by rw [h];exact Nat.le_refl _,fun _=>h,fun h=>(by cases h)⟩
theorem Rl.step (hB:0 < B) (ht:0 < t) (hj:j≤t) (R:Rl t A B j X tr) (h1:Y'≤X) (h2:X*(10*t)≤Y'*(10*t+1)):Rl t A B (j+1) Y' (tr || decide (Y'≠X)):=by
 have hle:Y'*B≤X*B:=Nat.mul_le_mul_right _ h1
 refine ⟨Nat.le_trans hle R.le,?_,fun h=>?_,fun h=>?_⟩
 ·have a1:A*t*(10*t)≤X*B*(t+j)*(10*t):=Nat.mul_le_mul_right _ R.near
  have a2:X*B*(t+j)*(10*t)=X*(10*t)*(B*(t+j)):=by ac_rfl
  have a3:X*(10*t)*(B*(t+j))≤Y'*(10*t+1)*(B*(t+j)):=Nat.mul_le_mul_right _ h2
  have a4:(10*t+1)*(t+j)≤10*t*(t+(j+1)):=by
   rw [Nat.add_mul,Nat.one_mul,show t+(j+1)=t+j+1 from rfl,Nat.mul_add (10*t) (t+j) 1,Nat.mul_one]
   omega
  have a5:Y'*(10*t+1)*(B*(t+j))=Y'*B*((10*t+1)*(t+j)):=by ac_rfl
  have a6:Y'*B*((10*t+1)*(t+j))≤Y'*B*(10*t*(t+(j+1))):=Nat.mul_le_mul_left _ a4
  have a7:Y'*B*(10*t*(t+(j+1)))=Y'*B*(t+(j+1))*(10*t):=by ac_rfl
  have:A*t*(10*t)≤Y'*B*(t+(j+1))*(10*t):=by rw [← a7];rw [a2] at a1;rw [a5] at a3;exact Nat.le_trans a1 (Nat.le_trans a3 a6)
  exact Nat.le_of_mul_le_mul_right this (by omega)
 ·rw [Bool.or_eq_false_iff,decide_eq_false_iff_not,Decidable.not_not] at h
  rw [h.2];exact R.eq h.1
 ·rw [Bool.or_eq_true,decide_eq_true_eq] at h
  by_cases h3:tr=true
  ·exact Nat.lt_of_le_of_lt hle (R.lt h3)
  ·rcases h with h|h
   ·exact absurd h h3
   ·exact Nat.lt_of_lt_of_le (Nat.mul_lt_mul_of_pos_right (by omega) hB) R.le
theorem Rl.up (R:Rl t A B j Y tr) (k:Nat):Rl t (2 ^ k*A) B j (2 ^ k*Y) tr:=by
 have hp:=Nat.two_pow_pos k
 refine ⟨?_,?_,fun h=>?_,fun h=>?_⟩
 ·rw [Nat.mul_assoc];exact Nat.mul_le_mul_left _ R.le
 ·rw [Nat.mul_assoc,Nat.mul_assoc (2 ^ k),Nat.mul_assoc (2 ^ k)];exact Nat.mul_le_mul_left _ R.near
 ·rw [Nat.mul_assoc,R.eq h]
 ·rw [Nat.mul_assoc];exact Nat.mul_lt_mul_of_pos_left (R.lt h) hp
theorem Rl.down {k:Nat} (R:Rl t A B j (2 ^ k*X) tr):Rl t A (2 ^ k*B) j X tr:=by
 have e:X*(2 ^ k*B)=2 ^ k*X*B:=by ac_rfl
 exact ⟨by rw [e];exact R.le,by rw [e];exact R.near,fun h=>by rw [e];exact R.eq h,fun h=>by rw [e];exact R.lt h⟩
end
end Go.Proofs.YtmadknpaljaecaaGreatDoor.Dc
namespace Go.Proofs.YtmadknpaljaecaaGreatDoor.Ev.D
open Go Go.Proofs.YtmadknpaljaecaaGreatDoor.Ev
set_option maxRecDepth 100000
def OpV (t:Nat) (h h':Heap) (b X:Nat) (dp:Int) (ng tr:Bool) (dlo dhi:Int):Prop:=
 ∃ N' nd' dp' tr',DV h' b N' nd' dp' ng tr'∧Fr h h' b∧dp+dlo≤dp'∧dp'≤dp+dhi∧Dc.CutV t X dp' tr N' nd' tr'
theorem s255V {t:Nat} (ht:∀ n,799≤n→10*t≤10 ^ n) {h:Heap} {b N nd k:Nat} {dp:Int} {ng tr:Bool} (D:DV h b N nd dp ng tr) (h1:0 < nd) (hN:10 ^ (nd - 1)≤N) (k1:1≤k) (k2:k≤60) (dp1:-2000≤dp) (dp2:dp≤100000):
  ∃ h',Does C 255 [.ref b 0,.int .u64 (k:Int)] h (.tup []) h'∧OpV t h h' b (2 ^ k*Dc.Yv N nd dp) dp ng tr 0 60:=by
 obtain ⟨h',hd,N',nd',W,w1,w2,lo,hi,e,n0,nl,m10,D',F⟩:=s255 D h1 hN k1 k2 (by omega) (by omega)
 have h800:=D.le
 refine ⟨h',hd,N',nd',_,_,D',F,by omega,by omega,?_⟩
 have:=Dc.cut_val (t:=t) (tr0:=tr) (dp':=dp+((W:Int) - nd)) lo hi (by omega) (by omega) e n0 nl m10 D'.lt (by omega) ht
 rw [show N*2 ^ k*10 ^ (dp+((W:Int) - nd) - W+3000).toNat=2 ^ k*Dc.Yv N nd dp by
  unfold Dc.Yv
  rw [show dp+((W:Int) - nd) - W+3000=dp - nd+3000 by omega,Nat.mul_comm N,Nat.mul_assoc]] at this
 exact this
theorem s256V {t:Nat} (ht:∀ n,799≤n→10*t≤10 ^ n) {h:Heap} {b N nd k:Nat} {dp:Int} {ng tr:Bool} (D:DV h b N nd dp ng tr) (h1:0 < nd) (hN:10 ^ (nd - 1)≤N) (k1:1≤k) (k2:k≤60) (dp1:-1900≤dp) (dp2:dp≤100000):
  ∃ h' X,Does C 256 [.ref b 0,.int .u64 (k:Int)] h (.tup []) h'∧2 ^ k*X=Dc.Yv N nd dp∧OpV t h h' b X dp ng tr (-19) 0:=by
 have hN0:0 < N:=Nat.lt_of_lt_of_le (Nat.pow_pos (by decide)) hN
 obtain ⟨h',hd,G,w,R,a,hw,r1,r2,ha,hrel,g1,g2,hw0,N',nd',e,n0,nl,m10,D',F⟩:=s256 D h1 hN0 k1 k2 (by omega) (by omega)
 have h800:=D.le
 have hR:R≤20:=by
  have p60:=k60 k2
  have a1:10 ^ (nd - 1)*10 ^ a≤10*2 ^ k*G:=by rw [hrel];exact Nat.mul_le_mul_right _ hN
  have a2:10*2 ^ k*G < 10 ^ 20*10 ^ w:=by
   refine Nat.lt_of_lt_of_le (Nat.mul_lt_mul_of_pos_left g2 (by have:=Nat.two_pow_pos k;omega)) (Nat.mul_le_mul_right _ ?_)
   have:(10:Nat) ^ 20=100000000000000000000:=rfl
   omega
  have a3:=Nat.lt_of_le_of_lt a1 a2
  rw [← Nat.pow_add,← Nat.pow_add] at a3
  have:=(Nat.pow_lt_pow_iff_right (a:=10) (by decide)).1 a3
  omega
 refine ⟨h',G*10 ^ (dp+1 - (R:Int) - w+3000).toNat,hd,?_,N',nd',_,_,D',F,by omega,by omega,?_⟩
 ·unfold Dc.Yv
  obtain ⟨z,hz⟩:∃ z:Nat,dp+1 - (R:Int) - w+3000=z:=⟨(dp+1 - (R:Int) - w+3000).toNat,by omega⟩
  rw [hz,Int.toNat_natCast]
  have e1:10*(2 ^ k*(G*10 ^ z))=10*(N*10 ^ (dp - nd+3000).toNat):=by
   rw [show 10*(2 ^ k*(G*10 ^ z))=10*2 ^ k*G*10 ^ z by ac_rfl,hrel,Nat.mul_assoc,← Nat.pow_add,show a+z=(dp - nd+3000).toNat+1 by omega,Nat.pow_succ]
   ac_rfl
  omega
 ·exact Dc.cut_val (t:=t) (tr0:=tr) (dp':=dp+1 - (R:Int)) g1 g2 hw0 (by omega) e n0 nl m10 D'.lt (by omega) ht
end Go.Proofs.YtmadknpaljaecaaGreatDoor.Ev.D
namespace Go.Proofs.YtmadknpaljaecaaGreatDoor.Ev.D
open Go Go.Proofs.YtmadknpaljaecaaGreatDoor.Ev
set_option maxRecDepth 100000
def Nrm (N nd:Nat):Prop:=0 < nd∧10 ^ (nd - 1)≤N
def L219:XCode:=loopB (blkB (seqH (condA (seqT 1 (condB (seqT 1 (blkB X219.body)))))))
def R219:XCode:=loopB (blkB (seqH (condA (seqT 1 (condB (seqT 1 (condB (seqT 1 (blkB X219.body)))))))))
theorem L219_ok:condA (seqT 1 (condB (seqT 1 (blkB X219.body))))=.seq (.block 1 (.loop L219)) (seqT 1 (condA (seqT 1 (condB (seqT 1 (blkB X219.body)))))):=rfl
theorem R219_ok:condA (seqT 1 (condB (seqT 1 (condB (seqT 1 (blkB X219.body))))))=.seq (.block 3 (.loop R219)) (seqT 1 (condA (seqT 1 (condB (seqT 1 (condB (seqT 1 (blkB X219.body)))))))):=rfl
def LftS (t:Nat) (h0:Heap) (b A B j Y0:Nat) (dp0:Int) (ng tr0:Bool) (k s m:Nat) (h:Heap):Prop:=
 ∃ N nd dp tr,DV h b N nd dp ng tr∧Fr h0 h b∧Nrm N nd∧dp0≤dp∧dp≤dp0+60*m∧Dc.Rl t (2 ^ s*A) B (j+m) (Dc.Yv N nd dp) tr∧(0 < m→N % 10≠0)∧(Dc.Yv N nd dp≤2 ^ s*Y0∧2 ^ s*Y0*t≤Dc.Yv N nd dp*(t+m))∧
  (∀ e,tr0=false→10 ^ e∣Y0→2 ^ k*Y0 < 10 ^ (e+800)→tr=false∧Dc.Yv N nd dp=2 ^ s*Y0)
theorem lft_step {t:Nat} (ht:∀ n,799≤n→10*t≤10 ^ n) (t0:100000≤t) {h0 h:Heap} {b A B j Y0:Nat} {dp0:Int} {ng tr0:Bool} {k s m q:Nat} (hB:0 < B) (hj:j+m≤90000) (L:LftS t h0 b A B j Y0 dp0 ng tr0 k s m h) (q1:1≤q) (q2:q≤60) (hs:s+q≤k) (d1:-2000≤dp0) (d2:dp0+60*m≤100000):
  ∃ h',Does C 255 [.ref b 0,.int .u64 (q:Int)] h (.tup []) h'∧LftS t h0 b A B j Y0 dp0 ng tr0 k (s+q) (m+1) h':=by
 obtain ⟨N,nd,dp,tr,D,F,⟨n1,n2⟩,l1,l2,R,_,⟨y1,y2⟩,hE⟩:=L
 obtain ⟨h',hd,N',nd',dp',tr',D',F',a1,a2,Cv⟩:=s255V (t:=t) ht D n1 n2 q1 q2 (by omega) (by omega)
 have Ru:=R.up q
 have Rs:=Ru.step hB (by omega) (by omega) Cv.le Cv.near
 rw [← Cv.tr] at Rs
 have hpow:2 ^ q*(2 ^ s*A)=2 ^ (s+q)*A:=by rw [← Nat.mul_assoc,← Nat.pow_add,Nat.add_comm]
 rw [hpow] at Rs
 refine ⟨h',hd,N',nd',dp',tr',D',F.trans F',⟨Cv.nd0,Cv.n0⟩,by omega,by omega,Rs,fun _=>Cv.m10,⟨?_,Dc.near_step (X:=2 ^ q*Dc.Yv N nd dp) (by omega) (by omega) ?_ Cv.near⟩,fun e ht0 hdv hlt=>?_⟩
 ·rw [Nat.pow_add,Nat.mul_comm (2 ^ s),Nat.mul_assoc];exact Nat.le_trans Cv.le (Nat.mul_le_mul_left _ y1)
 ·rw [Nat.pow_add,Nat.mul_comm (2 ^ s),Nat.mul_assoc (2 ^ q),Nat.mul_assoc (2 ^ q),Nat.mul_assoc (2 ^ q)];exact Nat.mul_le_mul_left _ y2
 obtain ⟨e1,e2⟩:=hE e ht0 hdv hlt
 have hX:2 ^ q*Dc.Yv N nd dp=2 ^ (s+q)*Y0:=by rw [e2,← Nat.mul_assoc,← Nat.pow_add,Nat.add_comm]
 have h3:10 ^ e∣2 ^ q*Dc.Yv N nd dp:=by rw [hX];exact Nat.dvd_trans hdv (Nat.dvd_mul_left _ _)
 have hb:dp'+3000≤e+800:=by
  have h4:10 ^ (dp' - 1+3000).toNat < 10 ^ (e+800):=by
   refine Nat.lt_of_le_of_lt Cv.lo (Nat.lt_of_le_of_lt ?_ hlt)
   rw [hX];exact Nat.mul_le_mul_right _ (Nat.pow_le_pow_right (by decide) hs)
  have:=(Nat.pow_lt_pow_iff_right (a:=10) (by decide)).1 h4
  omega
 have h5:=Cv.ex e hb h3
 refine ⟨?_,by rw [h5,hX]⟩
 rw [Cv.tr,e1,h5];simp
theorem s219L {t:Nat} (ht:∀ n,799≤n→10*t≤10 ^ n) (t0:100000≤t) {h:Heap} {b A B j N nd k:Nat} {dp:Int} {ng tr:Bool} (hB:0 < B) (hj:j≤60000) (D:DV h b N nd dp ng tr) (hn:Nrm N nd) (R:Dc.Rl t A B j (Dc.Yv N nd dp) tr) (k1:1≤k) (k2:k≤2000) (d1:-2000≤dp) (d2:dp≤5000):
  ∃ h' m,Does C 219 [.ref b 0,.int .i64 (k:Int)] h (.tup []) h'∧LftS t h b A B j (Dc.Yv N nd dp) dp ng tr k k m h'∧0 < m∧60*m < k+60:=by
 obtain ⟨v,h',hd,rfl,m,q⟩:=does_anyE (C:=C) (f:=219) (fn:=X219) rfl rfl rfl (args:=[.ref b 0,.int .i64 (k:Int)]) (h:=h)
  (P:=fun v h'=>v=.tup []∧∃ m,LftS t h b A B j (Dc.Yv N nd dp) dp ng tr k k m h'∧0 < m∧60*m < k+60) (by
  have hl:=D.len
  have e0:X219.body=.block 0 (.seq (seqH (blkB X219.body)) (.cond (.t 4) .skip (.seq (seqH (condB (seqT 1 (blkB X219.body)))) (.cond (.t 10) (.seq (.block 1 (.loop L219)) (seqT 1 (condA (seqT 1 (condB (seqT 1 (blkB X219.body))))))) (condB (seqT 1 (condB (seqT 1 (blkB X219.body))))))))):=rfl
  rw [e0]
  have hlp:∀ (Q:PostC) (r:Nat) (env:T AV) (h2:Heap),(∃ m,60*m+r=k∧0 < r∧LftS t h b A B j (Dc.Yv N nd dp) dp ng tr k (60*m) m h2∧env.at 0=.ref b 0∧env.at 1=.int .i64 (r:Int))→
    GoP C [.c L219] env h2 (LpQ 1 (fun r env h2=>∃ m,60*m+r=k∧0 < r∧LftS t h b A B j (Dc.Yv N nd dp) dp ng tr k (60*m) m h2∧env.at 0=.ref b 0∧env.at 1=.int .i64 (r:Int)) r
     (fun env h2=>∃ m r,60*m+r=k∧0 < r∧r≤60∧LftS t h b A B j (Dc.Yv N nd dp) dp ng tr k (60*m) m h2∧env.at 0=.ref b 0∧env.at 1=.int .i64 (r:Int)) Q):=by
   rintro Q r env h2 ⟨m,hm,hr,L,a0,a1⟩
   simp only [L219,X219,seqT,seqH,blkB,loopB,condA,condB]
   by_cases c:r≤60
   ·simp (decide:=true) only [BZ,a1,decide_eq_false (show ¬ (60:Int) < (r:Int) by omega)]
    refine ⟨m,r,hm,hr,c,L,?_⟩
    simp (decide:=true) only [BZ,a0,a1]
   ·obtain ⟨h3,hd3,L3⟩:=lft_step ht t0 (q:=60) hB (by omega) L (by decide) (by decide) (by omega) d1 (by omega)
    have w1:wrapF .i64 ((r:Int) - 60)=((r - 60:Nat):Int):=by rw [i64_wrap (by omega) (by omega)];omega
    simp (decide:=true) only [BZ,a0,a1,decide_eq_true (show (60:Int) < (r:Int) by omega),callG_of (show Does C 255 [.ref b 0,.int .u64 60] h2 (.tup []) h3 from hd3),w1]
    refine ⟨r - 60,by omega,m+1,by omega,by omega,by rw [show 60*(m+1)=60*m+60 by omega];exact L3,?_⟩
    simp (decide:=true) only [BZ,a0]
  generalize hL:L219=Lp at hlp ⊢
  simp only [X219,seqT,seqH,blkB,loopB,condA,condB]
  simp (decide:=true) only [BZ,ld1_cell (show 800 < h.len b by omega),D.nd,decide_eq_false (show ¬ (nd:Int)=0 by have:=hn.1;omega),decide_eq_true (show (0:Int) < (k:Int) by omega)]
  refine go_lp _ _ (n:=k) ⟨0,by omega,by omega,⟨N,nd,dp,tr,D,Fr.refl _ _,hn,by omega,by omega,by rw [Nat.mul_zero,Nat.pow_zero,Nat.one_mul];exact R,fun h=>absurd h (Nat.lt_irrefl _),⟨by rw [Nat.mul_zero,Nat.pow_zero,Nat.one_mul];exact Nat.le_refl _,by rw [Nat.mul_zero,Nat.pow_zero,Nat.one_mul];exact Nat.le_refl _⟩,fun e h1 _ _=>⟨h1,by rw [Nat.mul_zero,Nat.pow_zero,Nat.one_mul]⟩⟩,?_⟩ (fun n env h hI=>hlp _ n env h hI) ?_
  rotate_left
  ·simp (decide:=true) only [BZ]
  ·rintro env2 h2 ⟨m,r,hm,hr,hr60,L,a0,a1⟩
   obtain ⟨h3,hd3,L3⟩:=lft_step ht t0 (q:=r) hB (by omega) L (by omega) (by omega) (by omega) d1 (by omega)
   have w1:wrapF .u64 (r:Int)=(r:Int):=u64_wrap (by omega)
   simp (decide:=true) only [BZ,a0,a1,w1,callG_of hd3]
   refine ⟨.tup [],back0n,rfl,m+1,?_,by omega,by omega⟩
   rw [hm] at L3;exact L3)
 exact ⟨h',m,hd,q⟩
end Go.Proofs.YtmadknpaljaecaaGreatDoor.Ev.D
namespace Go.Proofs.YtmadknpaljaecaaGreatDoor.Ev.D
open Go Go.Proofs.YtmadknpaljaecaaGreatDoor.Ev
set_option maxRecDepth 100000
def RgtS (t:Nat) (h0:Heap) (b A B j Y0:Nat) (dp0:Int) (ng tr0:Bool) (k s m:Nat) (h:Heap):Prop:=
 ∃ N nd dp tr,DV h b N nd dp ng tr∧Fr h0 h b∧Nrm N nd∧dp0 - 19*m≤dp∧dp≤dp0∧Dc.Rl t A (2 ^ s*B) (j+m) (Dc.Yv N nd dp) tr∧(0 < m→N % 10≠0)∧(2 ^ s*Dc.Yv N nd dp≤Y0∧Y0*t≤2 ^ s*Dc.Yv N nd dp*(t+m))∧
  (∀ e X,tr0=false→2 ^ k*X=Y0→10 ^ e∣X→Y0 < 10 ^ (e+800)→tr=false∧2 ^ s*Dc.Yv N nd dp=Y0)
theorem rgt_step {t:Nat} (ht:∀ n,799≤n→10*t≤10 ^ n) (t0:100000≤t) {h0 h:Heap} {b A B j Y0:Nat} {dp0:Int} {ng tr0:Bool} {k s m q:Nat} (hB:0 < B) (hj:j+m≤90000) (L:RgtS t h0 b A B j Y0 dp0 ng tr0 k s m h) (q1:1≤q) (q2:q≤60) (hs:s+q≤k) (d1:-1900+19*m≤dp0) (d2:dp0≤100000):
  ∃ h',Does C 256 [.ref b 0,.int .u64 (q:Int)] h (.tup []) h'∧RgtS t h0 b A B j Y0 dp0 ng tr0 k (s+q) (m+1) h':=by
 obtain ⟨N,nd,dp,tr,D,F,⟨n1,n2⟩,l1,l2,R,_,⟨y1,y2⟩,hE⟩:=L
 obtain ⟨h',X,hd,hX,N',nd',dp',tr',D',F',a1,a2,Cv⟩:=s256V (t:=t) ht D n1 n2 q1 q2 (by omega) (by omega)
 rw [← hX] at R
 have Rd:=R.down
 have Rs:=Rd.step (Nat.mul_pos (Nat.two_pow_pos _) (Nat.mul_pos (Nat.two_pow_pos _) hB)) (by omega) (by omega) Cv.le Cv.near
 rw [← Cv.tr] at Rs
 have hpow:2 ^ q*(2 ^ s*B)=2 ^ (s+q)*B:=by rw [← Nat.mul_assoc,← Nat.pow_add,Nat.add_comm]
 rw [hpow] at Rs
 refine ⟨h',hd,N',nd',dp',tr',D',F.trans F',⟨Cv.nd0,Cv.n0⟩,by omega,by omega,Rs,fun _=>Cv.m10,⟨?_,?_⟩,fun e X0 ht0 hY0 hdv hlt=>?_⟩
 ·refine Nat.le_trans ?_ y1
  rw [Nat.pow_add,Nat.mul_assoc,← hX];exact Nat.mul_le_mul_left _ (Nat.mul_le_mul_left _ Cv.le)
 ·have q1:Y0*t≤2 ^ s*(2 ^ q*X)*(t+m):=by rw [hX];exact y2
  refine Dc.near_step (X:=2 ^ s*(2 ^ q*X)) (by omega) (by omega) q1 ?_
  rw [Nat.pow_add,Nat.mul_assoc (2 ^ s),Nat.mul_assoc (2 ^ q),Nat.mul_assoc (2 ^ s) (2 ^ q),Nat.mul_assoc (2 ^ s),Nat.mul_assoc (2 ^ q)]
  exact Nat.mul_le_mul_left _ (Nat.mul_le_mul_left _ Cv.near)
 obtain ⟨e1,e2⟩:=hE e X0 ht0 hY0 hdv hlt
 have hXX:2 ^ (s+q)*X=Y0:=by rw [← e2,← hX,Nat.pow_add,Nat.mul_assoc]
 have hX2:X=2 ^ (k - (s+q))*X0:=by
  have:2 ^ (s+q)*X=2 ^ (s+q)*(2 ^ (k - (s+q))*X0):=by rw [hXX,← hY0,← Nat.mul_assoc,← Nat.pow_add,show s+q+(k - (s+q))=k by omega]
  exact Nat.eq_of_mul_eq_mul_left (Nat.two_pow_pos _) this
 have h3:10 ^ e∣X:=by rw [hX2];exact Nat.dvd_trans hdv (Nat.dvd_mul_left _ _)
 have hb:dp'+3000≤e+800:=by
  have h4:10 ^ (dp' - 1+3000).toNat < 10 ^ (e+800):=by
   refine Nat.lt_of_le_of_lt Cv.lo (Nat.lt_of_le_of_lt ?_ hlt)
   rw [← hXX];exact Nat.le_mul_of_pos_left _ (Nat.two_pow_pos _)
  have:=(Nat.pow_lt_pow_iff_right (a:=10) (by decide)).1 h4
  omega
 have h5:=Cv.ex e hb h3
 refine ⟨?_,by rw [h5,hXX]⟩
 rw [Cv.tr,e1,h5];simp
theorem s219R {t:Nat} (ht:∀ n,799≤n→10*t≤10 ^ n) (t0:100000≤t) {h:Heap} {b A B j N nd k:Nat} {dp:Int} {ng tr:Bool} (hB:0 < B) (hj:j≤60000) (D:DV h b N nd dp ng tr) (hn:Nrm N nd) (R:Dc.Rl t A B j (Dc.Yv N nd dp) tr) (k1:1≤k) (k2:k≤2000) (d1:-1200≤dp) (d2:dp≤5000):
  ∃ h' m,Does C 219 [.ref b 0,.int .i64 (-(k:Int))] h (.tup []) h'∧RgtS t h b A B j (Dc.Yv N nd dp) dp ng tr k k m h'∧0 < m∧60*m < k+60:=by
 obtain ⟨v,h',hd,rfl,m,q⟩:=does_anyE (C:=C) (f:=219) (fn:=X219) rfl rfl rfl (args:=[.ref b 0,.int .i64 (-(k:Int))]) (h:=h)
  (P:=fun v h'=>v=.tup []∧∃ m,RgtS t h b A B j (Dc.Yv N nd dp) dp ng tr k k m h'∧0 < m∧60*m < k+60) (by
  have hl:=D.len
  have e0:X219.body=.block 0 (.seq (seqH (blkB X219.body)) (.cond (.t 4) .skip (.seq (seqH (condB (seqT 1 (blkB X219.body)))) (.cond (.t 10) (condA (seqT 1 (condB (seqT 1 (blkB X219.body))))) (.seq (seqH (condB (seqT 1 (condB (seqT 1 (blkB X219.body)))))) (.cond (.t 23) (.seq (.block 3 (.loop R219)) (seqT 1 (condA (seqT 1 (condB (seqT 1 (condB (seqT 1 (blkB X219.body))))))))) .skip)))))):=rfl
  rw [e0]
  have hlp:∀ (Q:PostC) (r:Nat) (env:T AV) (h2:Heap),(∃ m,60*m+r=k∧0 < r∧RgtS t h b A B j (Dc.Yv N nd dp) dp ng tr k (60*m) m h2∧env.at 0=.ref b 0∧env.at 1=.int .i64 (-(r:Int)))→
    GoP C [.c R219] env h2 (LpQ 3 (fun r env h2=>∃ m,60*m+r=k∧0 < r∧RgtS t h b A B j (Dc.Yv N nd dp) dp ng tr k (60*m) m h2∧env.at 0=.ref b 0∧env.at 1=.int .i64 (-(r:Int))) r
     (fun env h2=>∃ m r,60*m+r=k∧0 < r∧r≤60∧RgtS t h b A B j (Dc.Yv N nd dp) dp ng tr k (60*m) m h2∧env.at 0=.ref b 0∧env.at 1=.int .i64 (-(r:Int))) Q):=by
   rintro Q r env h2 ⟨m,hm,hr,L,a0,a1⟩
   simp only [R219,X219,seqT,seqH,blkB,loopB,condA,condB]
   by_cases c:r≤60
   ·simp (decide:=true) only [BZ,a1,decide_eq_false (show ¬ (-(r:Int) < -60) by omega)]
    refine ⟨m,r,hm,hr,c,L,?_⟩
    simp (decide:=true) only [BZ,a0,a1]
   ·obtain ⟨h3,hd3,L3⟩:=rgt_step ht t0 (q:=60) hB (by omega) L (by decide) (by decide) (by omega) (by omega) (by omega)
    have w1:wrapF .i64 (-(r:Int)+60)=-((r - 60:Nat):Int):=by rw [i64_wrap (by omega) (by omega)];omega
    simp (decide:=true) only [BZ,a0,a1,decide_eq_true (show (-(r:Int) < -60) by omega),callG_of (show Does C 256 [.ref b 0,.int .u64 60] h2 (.tup []) h3 from hd3),w1]
    refine ⟨r - 60,by omega,m+1,by omega,by omega,by rw [show 60*(m+1)=60*m+60 by omega];exact L3,?_⟩
    simp (decide:=true) only [BZ,a0]
  generalize hL:R219=Lp at hlp ⊢
  simp only [X219,seqT,seqH,blkB,loopB,condA,condB]
  simp (decide:=true) only [BZ,ld1_cell (show 800 < h.len b by omega),D.nd,decide_eq_false (show ¬ (nd:Int)=0 by have:=hn.1;omega),decide_eq_false (show ¬ (0:Int) < -(k:Int) by omega),decide_eq_true (show -(k:Int) < 0 by omega)]
  refine go_lp _ _ (n:=k) ⟨0,by omega,by omega,⟨N,nd,dp,tr,D,Fr.refl _ _,hn,by omega,by omega,by rw [Nat.mul_zero,Nat.pow_zero,Nat.one_mul];exact R,fun h=>absurd h (Nat.lt_irrefl _),⟨by rw [Nat.mul_zero,Nat.pow_zero,Nat.one_mul];exact Nat.le_refl _,by rw [Nat.mul_zero,Nat.pow_zero,Nat.one_mul];exact Nat.le_refl _⟩,fun e X h1 _ _ _=>⟨h1,by rw [Nat.mul_zero,Nat.pow_zero,Nat.one_mul]⟩⟩,?_⟩ (fun n env h hI=>hlp _ n env h hI) ?_
  rotate_left
  ·simp (decide:=true) only [BZ]
  ·rintro env2 h2 ⟨m,r,hm,hr,hr60,L,a0,a1⟩
   obtain ⟨h3,hd3,L3⟩:=rgt_step ht t0 (q:=r) hB (by omega) L (by omega) (by omega) (by omega) (by omega) (by omega)
   have w0:wrapF .i64 (0 - -(r:Int))=(r:Int):=by rw [i64_wrap (by omega) (by omega)];omega
   have w1:wrapF .u64 (r:Int)=(r:Int):=u64_wrap (by omega)
   simp (decide:=true) only [BZ,a0,a1,w0,w1,callG_of hd3]
   refine ⟨.tup [],back0n,rfl,m+1,?_,by omega,by omega⟩
   rw [hm] at L3;exact L3)
 exact ⟨h',m,hd,q⟩
end Go.Proofs.YtmadknpaljaecaaGreatDoor.Ev.D
namespace Go.Proofs.YtmadknpaljaecaaGreatDoor.Ev.D
open Go Go.Proofs.YtmadknpaljaecaaGreatDoor.Ev
set_option maxRecDepth 100000
def ruB (N nd:Nat) (x:Int) (tr:Bool):Bool:=
 if x < 0∨(nd:Int)≤x then false else if (nd:Int)=x+1∧N % 10=5 then tr || decide (N / 10 % 2≠0) else decide (5≤dgt N nd x.toNat)
theorem s257 {h:Heap} {b N nd:Nat} {dp x:Int} {ng tr:Bool} (D:DV h b N nd dp ng tr) (x1:-1000000≤x) (x2:x≤1000000):Does C 257 [.ref b 0,.int .i64 x] h (.bool (ruB N nd x tr)) h:=by
 refine does_any (fn:=X257) rfl rfl rfl ?_
 have hl:=D.len
 have h800:=D.le
 simp only [X257]
 by_cases c1:x < 0
 ·have hr:ruB N nd x tr=false:=by unfold ruB;rw [if_pos (.inl c1)]
  simp (decide:=true) only [BZ,decide_eq_true c1,hr]
  all_goals trivial
 ·obtain ⟨i,rfl⟩:∃ i:Nat,x=i:=⟨x.toNat,by omega⟩
  have c1':=decide_eq_false c1
  by_cases c2:nd≤i
  ·have hr:ruB N nd i tr=false:=by unfold ruB;rw [if_pos (.inr (by omega))]
   simp (decide:=true) only [BZ,c1',ld1_cell (show 800 < h.len b by omega),D.nd,decide_eq_true (show (nd:Int)≤(i:Int) by omega),hr]
   all_goals trivial
  ·have hr0:¬ ((i:Int) < 0∨(nd:Int)≤(i:Int)):=by omega
   have c2':=decide_eq_false (show ¬ (nd:Int)≤(i:Int) by omega)
   have hd:=D.d i (by omega)
   have hg:=dgt_lt N nd i
   have w1:wrapF .i64 ((i:Int)+1)=((i+1:Nat):Int):=by rw [i64_wrap (by omega) (by omega)];rfl
   have w8:∀ y:Nat,y < 10→wrapF .u8 (((48+y:Nat):Int) - 48)=(y:Int):=fun y hy=>by rw [show ((48+y:Nat):Int) - 48=(y:Int) by omega,wrap8 (by omega)]
   have hge:decide ((53:Int)≤((48+dgt N nd i:Nat):Int))=decide (5≤dgt N nd i):=by rw [decide_eq_decide];omega
   by_cases c3:dgt N nd i=5
   ·have e5:=decide_eq_true (show ((48+dgt N nd i:Nat):Int)=53 by omega)
    by_cases c4:nd=i+1
    ·have hN5:N % 10=5:=by
      have:=dgt_last N nd (by omega)
      rw [show nd - 1=i by omega,c3] at this;omega
     have hr:ruB N nd i tr=(tr || decide (N / 10 % 2≠0)):=by unfold ruB;rw [if_neg hr0,if_pos ⟨by omega,hN5⟩]
     rw [hr]
     cases tr with
     |true=>
      simp (decide:=true) only [BZ,c1',ld1_cell (show 800 < h.len b by omega),D.nd,c2',iaA_ref (show i < 800 by omega),Nat.mul_one,ld1_cell (show i < h.len b by omega),hd,e5,w1,decide_eq_true (show ((i+1:Nat):Int)=(nd:Int) by omega),ld1_cell (show 803 < h.len b by omega),D.tr]
      all_goals trivial
     |false=>
      by_cases c5:i=0
      ·subst c5
       have:N / 10=0:=by have:=D.lt;rw [c4] at this;omega
       simp (decide:=true) only [BZ,c1',ld1_cell (show 800 < h.len b by omega),D.nd,c2',iaA_ref (show 0 < 800 by omega),Nat.mul_one,ld1_cell (show 0 < h.len b by omega),hd,e5,w1,decide_eq_true (show ((0+1:Nat):Int)=(nd:Int) by omega),ld1_cell (show 803 < h.len b by omega),D.tr,decide_eq_false (show ¬ (0:Int) < ((0:Nat):Int) by omega),this]
       all_goals trivial
      ·have hd2:=D.d (i - 1) (by omega)
       have hdd:dgt N nd (i - 1)=N / 10 % 10:=by unfold dgt;rw [show nd - 1 - (i - 1)=1 by omega,Nat.pow_one]
       have w2:wrapF .i64 ((i:Int) - 1)=((i - 1:Nat):Int):=by rw [i64_wrap (by omega) (by omega)];omega
       have hpar:decide (((N / 10 % 10 % 2:Nat):Int)≠0)=decide (N / 10 % 2≠0):=by rw [decide_eq_decide];omega
       rw [hdd] at hd2
       simp (decide:=true) only [BZ,c1',ld1_cell (show 800 < h.len b by omega),D.nd,c2',iaA_ref (show i < 800 by omega),Nat.mul_one,ld1_cell (show i < h.len b by omega),hd,e5,w1,decide_eq_true (show ((i+1:Nat):Int)=(nd:Int) by omega),ld1_cell (show 803 < h.len b by omega),D.tr,decide_eq_true (show (0:Int) < (i:Int) by omega),w2,iaA_ref (show i - 1 < 800 by omega),ld1_cell (show i - 1 < h.len b by omega),hd2,w8 (N / 10 % 10) (Nat.mod_lt _ (by decide)),b_rem (show (2:Int)≠0 by decide),show ((N / 10 % 10:Nat):Int).tmod 2=((N / 10 % 10 % 2:Nat):Int) from rfl,hpar]
       all_goals trivial
    ·have hr:ruB N nd i tr=decide (5≤dgt N nd i):=by unfold ruB;rw [if_neg hr0,if_neg (fun h=>c4 (by omega)),Int.toNat_natCast]
     rw [hr]
     simp (decide:=true) only [BZ,c1',ld1_cell (show 800 < h.len b by omega),D.nd,c2',iaA_ref (show i < 800 by omega),Nat.mul_one,ld1_cell (show i < h.len b by omega),hd,e5,w1,decide_eq_false (show ¬ ((i+1:Nat):Int)=(nd:Int) by omega),hge]
     all_goals trivial
   ·have e5:=decide_eq_false (show ¬ ((48+dgt N nd i:Nat):Int)=53 by omega)
    have hr:ruB N nd i tr=decide (5≤dgt N nd i):=by
     unfold ruB
     rw [if_neg hr0,if_neg,Int.toNat_natCast]
     rintro ⟨h1,h2⟩
     have:=dgt_last N nd (by omega)
     rw [show nd - 1=i by omega] at this
     omega
    rw [hr]
    simp (decide:=true) only [BZ,c1',ld1_cell (show 800 < h.len b by omega),D.nd,c2',iaA_ref (show i < 800 by omega),Nat.mul_one,ld1_cell (show i < h.len b by omega),hd,e5,hge]
    all_goals trivial
def ipN (N nd:Nat) (dp:Int):Nat:=N*10 ^ (dp.toNat - nd) / 10 ^ (nd - dp.toNat)
def L288:XCode:=loopB (blkB (seqT 1 (seqH (seqT 4 X288.body))))
def M288:XCode:=loopB (blkB (seqH (seqT 5 X288.body)))
theorem X288_ok:X288.body=.seq (seqH X288.body) (.seq (seqH (seqT 1 X288.body)) (.seq (seqH (seqT 2 X288.body)) (.seq (seqH (seqT 3 X288.body)) (.seq (.seq (seqH (seqH (seqT 4 X288.body))) (.block 0 (.loop L288))) (.seq (.block 2 (.loop M288)) (seqT 6 X288.body)))))):=rfl
theorem s288 {h:Heap} {b N nd:Nat} {dp:Int} {ng tr:Bool} (D:DV h b N nd dp ng tr) (h20:dp≤20) (d1:-1000000≤dp) (hI:0 < dp→ipN N nd dp < 1000000000000000000):
  Does C 288 [.ref b 0] h (.int .u64 (((if 0 < dp then ipN N nd dp else 0)+(ruB N nd dp tr).toNat:Nat):Int)) h:=by
 refine does_any (fn:=X288) rfl rfl rfl ?_
 have hl:=D.len
 have h800:=D.le
 rw [X288_ok]
 obtain ⟨d,hd⟩:∃ d:Nat,dp.toNat=d:=⟨_,rfl⟩
 have hlp:∀ (Q:PostC) (r:Nat) (env:T AV) (h2:Heap),(∃ i,r+i=min d nd∧env.at 0=.ref b 0∧env.at 3=.int .i64 (i:Int)∧env.at 4=.int .u64 ((N / 10 ^ (nd - i):Nat):Int)∧h2=h)→
   GoP C [.c L288] env h2 (LpQ 0 (fun r env h2=>∃ i,r+i=min d nd∧env.at 0=.ref b 0∧env.at 3=.int .i64 (i:Int)∧env.at 4=.int .u64 ((N / 10 ^ (nd - i):Nat):Int)∧h2=h) r
    (fun env h2=>env.at 0=.ref b 0∧env.at 3=.int .i64 ((min d nd:Nat):Int)∧env.at 4=.int .u64 ((N / 10 ^ (nd - min d nd):Nat):Int)∧h2=h) Q):=by
  rintro Q r env h2 ⟨i,hi,a0,a3,a4,rfl⟩
  simp only [L288,X288,seqT,seqH,blkB,loopB]
  by_cases c:i < min d nd
  ·have hdig:=D.d i (by omega)
   have hsp:=dgt_split (N:=N) (nd:=nd) (i:=i) (by omega)
   have hg:=dgt_lt N nd i
   have hle:N / 10 ^ (nd - (i+1)) < 1000000000000000000:=by
    refine Nat.lt_of_le_of_lt ?_ (hI (by omega))
    unfold ipN
    rw [hd]
    rcases Nat.le_total d nd with h1|h1
    ·rw [show d - nd=0 by omega,Nat.pow_zero,Nat.mul_one]
     exact Nat.div_le_div_left (Nat.pow_le_pow_right (by decide) (by omega)) (Nat.pow_pos (by decide))
    ·rw [show nd - d=0 by omega,Nat.pow_zero,Nat.div_one]
     exact Nat.le_trans (Nat.div_le_self _ _) (Nat.le_mul_of_pos_right _ (Nat.pow_pos (by decide)))
   rw [hsp] at hle
   generalize hn:N / 10 ^ (nd - i)=n at*
   generalize dgt N nd i=g at*
   have w1:wrapF .i64 ((i:Int)+1)=((i+1:Nat):Int):=by rw [i64_wrap (by omega) (by omega)];rfl
   have w2:wrapF .u64 ((n:Int)*10)=((n*10:Nat):Int):=u64_wrap (n:=n*10) (by omega)
   have w3:wrapF .u8 (((48+g:Nat):Int) - 48)=(g:Int):=by rw [show ((48+g:Nat):Int) - 48=(g:Int) by omega,wrap8 (by omega)]
   have w4:wrapF .u64 (g:Int)=(g:Int):=u64_wrap (by omega)
   have w5:wrapF .u64 (((n*10:Nat):Int)+(g:Int))=((n*10+g:Nat):Int):=u64_wrap (n:=n*10+g) (by omega)
   simp (decide:=true) only [BZ,a0,a3,a4,ld1_cell (show 801 < h2.len b by omega),D.dp,decide_eq_true (show (i:Int) < dp by omega),ld1_cell (show 800 < h2.len b by omega),D.nd,decide_eq_true (show (i:Int) < (nd:Int) by omega),iaA_ref (show i < 800 by omega),Nat.mul_one,ld1_cell (show i < h2.len b by omega),hdig,w1,w2,w3,w4,w5]
   refine ⟨r - 1,by omega,i+1,by omega,?_⟩
   simp (decide:=true) only [BZ,a0,hsp]
   all_goals trivial
  ·have him:i=min d nd:=by omega
   by_cases c2:(i:Int) < dp
   ·simp (decide:=true) only [BZ,a0,a3,a4,ld1_cell (show 801 < h2.len b by omega),D.dp,decide_eq_true c2,ld1_cell (show 800 < h2.len b by omega),D.nd,decide_eq_false (show ¬ (i:Int) < (nd:Int) by omega)]
    rw [← him]
    exact ⟨rfl,rfl⟩
   ·simp (decide:=true) only [BZ,a0,a3,a4,ld1_cell (show 801 < h2.len b by omega),D.dp,decide_eq_false c2]
    rw [← him]
    exact ⟨rfl,rfl⟩
 have hlp2:∀ (Q:PostC) (r:Nat) (env:T AV) (h2:Heap),(∃ i,r+i=d∧min d nd≤i∧env.at 0=.ref b 0∧env.at 3=.int .i64 (i:Int)∧env.at 4=.int .u64 ((N*10 ^ (i - nd) / 10 ^ (nd - i):Nat):Int)∧h2=h)→
   GoP C [.c M288] env h2 (LpQ 2 (fun r env h2=>∃ i,r+i=d∧min d nd≤i∧env.at 0=.ref b 0∧env.at 3=.int .i64 (i:Int)∧env.at 4=.int .u64 ((N*10 ^ (i - nd) / 10 ^ (nd - i):Nat):Int)∧h2=h) r
    (fun env h2=>env.at 0=.ref b 0∧env.at 4=.int .u64 ((ipN N nd dp:Nat):Int)∧h2=h) Q):=by
  rintro Q r env h2 ⟨i,hi,him,a0,a3,a4,rfl⟩
  simp only [M288,X288,seqT,seqH,blkB,loopB]
  by_cases c:i < d
  ·have hni:nd≤i:=by omega
   have hle:N*10 ^ (i+1 - nd) < 1000000000000000000:=by
    refine Nat.lt_of_le_of_lt ?_ (hI (by omega))
    unfold ipN
    rw [hd,show nd - d=0 by omega,Nat.pow_zero,Nat.div_one]
    exact Nat.mul_le_mul_left _ (Nat.pow_le_pow_right (by decide) (by omega))
   have e1:N*10 ^ (i - nd) / 10 ^ (nd - i)=N*10 ^ (i - nd):=by rw [show nd - i=0 by omega,Nat.pow_zero,Nat.div_one]
   have e2:N*10 ^ (i+1 - nd) / 10 ^ (nd - (i+1))=N*10 ^ (i - nd)*10:=by rw [show nd - (i+1)=0 by omega,Nat.pow_zero,Nat.div_one,show i+1 - nd=i - nd+1 by omega,Nat.pow_succ,Nat.mul_assoc]
   rw [show i+1 - nd=i - nd+1 by omega,Nat.pow_succ,← Nat.mul_assoc] at hle
   rw [e1] at a4
   generalize N*10 ^ (i - nd)=n at*
   have w1:wrapF .i64 ((i:Int)+1)=((i+1:Nat):Int):=by rw [i64_wrap (by omega) (by omega)];rfl
   have w2:wrapF .u64 ((n:Int)*10)=((n*10:Nat):Int):=u64_wrap (n:=n*10) (by omega)
   simp (decide:=true) only [BZ,a0,a3,a4,ld1_cell (show 801 < h2.len b by omega),D.dp,decide_eq_true (show (i:Int) < dp by omega),w1,w2]
   refine ⟨r - 1,by omega,i+1,by omega,by omega,?_⟩
   simp (decide:=true) only [BZ,a0,e2]
   all_goals trivial
  ·have hid:i=d:=by omega
   simp (decide:=true) only [BZ,a0,a3,a4,ld1_cell (show 801 < h2.len b by omega),D.dp,decide_eq_false (show ¬ (i:Int) < dp by omega)]
   unfold ipN
   rw [hd,hid]
   all_goals first|rfl|exact ⟨rfl,trivial⟩
 generalize hL:L288=Lp at hlp ⊢
 generalize hM:M288=Mp at hlp2 ⊢
 simp only [X288,seqT,seqH,blkB,loopB] at hlp hlp2 ⊢
 have c257:=s257 D d1 (x2:=by omega)
 simp (decide:=true) only [BZ,ld1_cell (show 801 < h.len b by omega),D.dp,decide_eq_false (show ¬ (20:Int) < dp by omega)]
 refine go_lp _ _ (n:=min d nd) ⟨0,rfl,?_⟩ (fun n env h hI=>hlp _ n env h hI) ?_
 rotate_left
 ·simp (decide:=true) only [BZ,Nat.sub_zero,Nat.div_eq_of_lt D.lt]
  all_goals trivial
 ·rintro env2 h2 ⟨a0,a3,a4,rfl⟩
  refine go_seq.2 (go_block.2 (go_lp _ _ (n:=d - min d nd) ⟨min d nd,by omega,Nat.le_refl _,a0,a3,?_,rfl⟩ (fun n env h hI=>hlp2 _ n env h hI) ?_))
  rotate_left
  ·rw [a4,show min d nd - nd=0 by omega,Nat.pow_zero,Nat.mul_one]
  ·rintro env3 h3 ⟨a0,a4,rfl⟩
   have hip:ipN N nd dp=if 0 < dp then ipN N nd dp else 0:=by
    split
    ·rfl
    ·unfold ipN
     rw [show dp.toNat=0 by omega,show 0 - nd=0 by omega,Nat.sub_zero,Nat.pow_zero,Nat.mul_one,Nat.div_eq_of_lt D.lt]
   have hIb:ipN N nd dp < 1000000000000000000:=by
    rw [hip];split
    ·rename_i h;exact hI h
    ·decide
   rw [← hip]
   generalize ipN N nd dp=n at*
   cases hr:ruB N nd dp tr with
   |true=>
    rw [hr] at c257
    have w1:wrapF .u64 ((n:Int)+1)=((n+1:Nat):Int):=u64_wrap (n:=n+1) (by omega)
    simp (decide:=true) only [BZ,a0,a4,ld1_cell (show 801 < h3.len b by omega),D.dp,callG_of c257,w1]
    all_goals trivial
   |false=>
    rw [hr] at c257
    simp (decide:=true) only [BZ,a0,a4,ld1_cell (show 801 < h3.len b by omega),D.dp,callG_of c257]
    all_goals trivial
end Go.Proofs.YtmadknpaljaecaaGreatDoor.Ev.D
namespace Go.Proofs.YtmadknpaljaecaaGreatDoor.Ev.D
open Go Go.Proofs.YtmadknpaljaecaaGreatDoor.Ev
set_option maxRecDepth 100000
def B271:XCode:=match X271.body with|.seq _ (.scope c)=>c|c=>c
def O271:XCode:=seqT 21 B271
theorem O271_ok:findLabel B271 0=some (.seq .skip O271):=rfl
def V271:XCode:=seqT 17 B271
theorem V271_ok:findLabel B271 1=some (.seq .skip V271):=rfl
theorem nilchk_iptr {h:Heap} {w:Bool} {cs:List AV}:nilchkV (.iptr w cs) h=.ok (.iptr w cs) h:=rfl
theorem and2047 {n:Nat} (h:n < 2048):andF .i64 (n:Int) 2047=(n:Int):=and_i64_2047 h
theorem out271 {env:T AV} {h:Heap} {b m x:Nat} {ng ovf:Bool} {Q:PostC} (hl:h.len b=804) (hng:h.cell b 802=.bool ng) (hm:m < 18446744073709551616) (hx:x < 2048) (a0:env.at 0=.ref b 0) (a1:env.at 1=.iptr false L10) (a5:env.at 5=.bool ovf) (a6:env.at 6=.int .i64 ((x:Int) - 1023)) (a7:env.at 7=.int .u64 (m:Int))
  (hQ:∀ env':T AV,env'.at 4=.int .u64 (((if ng then 9223372036854775808 else 0)+(m % 4503599627370496+x*4503599627370496):Nat):Int)→env'.at 5=.bool ovf→Q .ret env' h):GoP C [.c (.seq .skip O271)] env h Q:=by
 have e1:andF .u64 (m:Int) 4503599627370495=((m % 4503599627370496:Nat):Int):=low52 hm
 have s1:binV .shl (.int .u64 1) (.int .u64 52)=some (.int .u64 4503599627370496):=by
  have:=b_shln (k':=.u64) (a:=1) (n:=52) (by decide) (by decide);exact this
 have s2:binV .shl (.int .i64 1) (.int .u64 11)=some (.int .i64 2048):=by
  rw [b_shl' (by decide)];rfl
 have w1:wrapF .u64 (4503599627370496 - 1)=4503599627370495:=by decide
 have w2:wrapF .i64 ((x:Int) - 1023 - -1023)=(x:Int):=by rw [i64_wrap (by omega) (by omega)];omega
 have w3:wrapF .i64 (2048 - 1)=2047:=by decide
 have w4:wrapF .u64 (x:Int)=(x:Int):=u64_wrap (by omega)
 have s3:binV .shl (.int .u64 (x:Int)) (.int .u64 52)=some (.int .u64 ((x*4503599627370496:Nat):Int)):=b_shl52 (by omega)
 have o1:orF .u64 ((m % 4503599627370496:Nat):Int) ((x*4503599627370496:Nat):Int)=((m % 4503599627370496+x*4503599627370496:Nat):Int):=by
  rw [or52 x (Nat.mod_lt _ (by decide)) (by omega),Nat.add_comm]
 have hlt:m % 4503599627370496+x*4503599627370496 < 9223372036854775808:=by omega
 simp only [O271,B271,X271,seqT]
 simp (decide:=true) only [BZ,a0,a1,a7,L10,nilchk_iptr,List.drop_succ_cons,List.drop_zero,ld1_iptr,s1,w1,e1]
 refine go_drawW rfl ?_
 simp (decide:=true) only [BZ,a0,a1,a6,L10,nilchk_iptr,List.drop_succ_cons,List.drop_zero,ld1_iptr,s2,w2,w3,and2047 hx,w4,s3,o1,ld1_cell (show 802 < h.len b by omega),hng]
 cases ng with
 |false=>
  simp (decide:=true) only [BZ,a5]
  refine hQ _ ?_ ?_ <;> simp (decide:=true) only [BZ]
  all_goals rw [Nat.zero_add]
 |true=>
  simp (decide:=true) only [BZ]
  refine go_drawW rfl ?_
  have s4:binV .shl (.int .u64 4503599627370496) (.int .u64 11)=some (.int .u64 9223372036854775808):=by
   have:=b_shln (k':=.u64) (a:=4503599627370496) (n:=11) (by decide) (by decide);exact this
  have o2:orF .u64 ((m % 4503599627370496+x*4503599627370496:Nat):Int) 9223372036854775808=((9223372036854775808+(m % 4503599627370496+x*4503599627370496):Nat):Int):=by
   have:=or_u64 (a:=m % 4503599627370496+x*4503599627370496) (b:=9223372036854775808) (by omega) (by decide)
   refine this.trans ?_
   rw [Nat.or_comm,or_sgn (.inr rfl) hlt]
  simp (decide:=true) only [BZ,a0,a1,a5,L10,nilchk_iptr,List.drop_succ_cons,List.drop_zero,ld1_iptr,s1,s4,o2]
  refine hQ _ ?_ ?_ <;> simp (decide:=true) only [BZ]
theorem ovf271 {env:T AV} {h:Heap} {b:Nat} {ng:Bool} {Q:PostC} (hl:h.len b=804) (hng:h.cell b 802=.bool ng) (a0:env.at 0=.ref b 0) (a1:env.at 1=.iptr false L10)
  (hQ:∀ env':T AV,env'.at 4=.int .u64 (((if ng then 9223372036854775808 else 0)+Fl.inf:Nat):Int)→env'.at 5=.bool true→Q .ret env' h):GoP C [.c (.seq .skip V271)] env h Q:=by
 have s2:binV .shl (.int .i64 1) (.int .u64 11)=some (.int .i64 2048):=by
  rw [b_shl' (by decide)];rfl
 have w3:wrapF .i64 (2048 - 1)=2047:=by decide
 have w4:wrapF .i64 (2047+-1023)=((2047:Nat):Int) - 1023:=by decide
 have e1:V271=.seq (seqH V271) (.seq (seqH (seqT 1 V271)) (.seq (seqH (seqT 2 V271)) (.seq (.label 0) O271))):=rfl
 rw [e1]
 have fin:=fun env a0 a1 a5 a6 a7=>out271 (env:=env) (h:=h) (b:=b) (m:=0) (x:=2047) (ng:=ng) (ovf:=true) (Q:=Q) hl hng (by decide) (by decide) a0 a1 a5 a6 a7 (fun env' q4 q5=>hQ env' q4 q5)
 generalize hO:O271=O at fin ⊢
 simp only [V271,B271,X271,seqT,seqH]
 simp (decide:=true) only [BZ]
 refine go_drawW rfl ?_
 simp (decide:=true) only [BZ,a1,L10,nilchk_iptr,List.drop_succ_cons,List.drop_zero,ld1_iptr,s2,w3,w4]
 refine go_skip.1 (go_seq.1 (fin _ ?_ ?_ ?_ ?_ ?_)) <;> simp (decide:=true) only [BZ,a0,a1]
 all_goals rfl
end Go.Proofs.YtmadknpaljaecaaGreatDoor.Ev.D
namespace Go.Proofs.YtmadknpaljaecaaGreatDoor.Ev.D
open Go Go.Proofs.YtmadknpaljaecaaGreatDoor.Ev
set_option maxRecDepth 100000
def ipI (N nd:Nat) (dp:Int):Nat:=if 0 < dp then ipN N nd dp else 0
theorem nmod (N s:Nat):N % 10 ^ (s+1)=N / 10 ^ s % 10*10 ^ s+N % 10 ^ s:=mod_succ N s
set_option exponentiation.threshold 20000 in
theorem ru_half {N nd:Nat} {dp:Int} {tr:Bool} {K:Nat} (hK:∀ s x:Nat,s+x=3000→K=10 ^ s*10 ^ x) (hn:N < 10 ^ nd) (h0:0 < nd) (hle:nd≤800) (hm:N % 10≠0) (d1:-2000≤dp) (d2:dp≤20):
  ∃ f,Dc.Yv N nd dp=ipI N nd dp*K+f∧f < K∧(ruB N nd dp tr=true↔K < 2*f∨(2*f=K∧(tr=true∨ipI N nd dp % 2=1))):=by
 have hKp:0 < K:=by rw [hK 0 3000 rfl];exact Nat.mul_pos (Nat.pow_pos (by decide)) (Nat.pow_pos (by decide))
 by_cases c1:dp < 0
 ·have hI:ipI N nd dp=0:=by unfold ipI;rw [if_neg (by omega)]
  have hr:ruB N nd dp tr=false:=by unfold ruB;rw [if_pos (.inl c1)]
  have hlt:Dc.Yv N nd dp*10 < K:=by
   unfold Dc.Yv
   obtain ⟨e,he⟩:∃ e:Nat,dp - nd+3000=e∨(dp - nd+3000 < 0∧e=0):=by
    by_cases h:0≤dp - nd+3000
    ·exact ⟨(dp - nd+3000).toNat,.inl (by omega)⟩
    ·exact ⟨0,.inr ⟨by omega,rfl⟩⟩
   have he:dp - nd+3000=e:=by rcases he with h|h <;> omega
   rw [he,Int.toNat_natCast,hK (nd+e+1) (3000 - (nd+e+1)) (by omega),Nat.pow_succ,Nat.pow_add]
   have a1:N*10 ^ e*10 < 10 ^ nd*10 ^ e*10:=Nat.mul_lt_mul_of_pos_right (Nat.mul_lt_mul_of_pos_right hn (Nat.pow_pos (by decide))) (by decide)
   exact Nat.lt_of_lt_of_le a1 (Nat.le_mul_of_pos_right _ (Nat.pow_pos (by decide)))
  refine ⟨Dc.Yv N nd dp,by rw [hI];omega,by omega,?_⟩
  rw [hr]
  constructor
  ·intro h;cases h
  ·rintro (h|⟨h,_⟩) <;> omega
 ·obtain ⟨d,rfl⟩:∃ d:Nat,dp=d:=⟨dp.toNat,by omega⟩
  have hI:ipI N nd d=N*10 ^ (d - nd) / 10 ^ (nd - d):=by
   unfold ipI
   split
   ·unfold ipN;rw [Int.toNat_natCast]
   ·have:d=0:=by omega
    subst this
    rw [show 0 - nd=0 by omega,Nat.pow_zero,Nat.mul_one,Nat.sub_zero,Nat.div_eq_of_lt hn]
  by_cases c2:nd≤d
  ·have hr:ruB N nd d tr=false:=by unfold ruB;rw [if_pos (.inr (by omega))]
   have hY:Dc.Yv N nd d=ipI N nd d*K:=by
    rw [hI,show nd - d=0 by omega,Nat.pow_zero,Nat.div_one,hK 0 3000 rfl,Nat.pow_zero,Nat.one_mul]
    unfold Dc.Yv
    rw [show ((d:Int) - nd+3000).toNat=(d - nd)+3000 by omega,Nat.pow_add,Nat.mul_assoc]
   refine ⟨0,by rw [hY];rfl,hKp,?_⟩
   rw [hr]
   constructor
   ·intro h;cases h
   ·rintro (h|⟨h,_⟩) <;> omega
  ·obtain ⟨s,hs⟩:∃ s,nd=d+(s+1):=⟨nd - d - 1,by omega⟩
   have hIs:ipI N nd d=N / 10 ^ (s+1):=by rw [hI,show d - nd=0 by omega,Nat.pow_zero,Nat.mul_one,show nd - d=s+1 by omega]
   have hKs:=hK (s+1) (3000 - (s+1)) (by omega)
   have hY:Dc.Yv N nd d=N*10 ^ (3000 - (s+1)):=by
    unfold Dc.Yv
    rw [show ((d:Int) - nd+3000).toNat=3000 - (s+1) by omega]
   have hdg:dgt N nd d=N / 10 ^ s % 10:=by unfold dgt;rw [show nd - 1 - d=s by omega]
   have hx:0 < 10 ^ (3000 - (s+1)):=Nat.pow_pos (by decide)
   generalize 10 ^ (3000 - (s+1))=x at*
   have hdm:=Nat.div_add_mod N (10 ^ (s+1))
   have hml:=Nat.mod_lt N (show 0 < 10 ^ (s+1) from Nat.pow_pos (by decide))
   refine ⟨N % 10 ^ (s+1)*x,?_,?_,?_⟩
   ·rw [hY,hIs,hKs]
    conv=>lhs;rw [← hdm]
    rw [Nat.add_mul,Nat.mul_comm (10 ^ (s+1)),Nat.mul_assoc]
   ·rw [hKs];exact Nat.mul_lt_mul_of_pos_right hml hx
   ·have hcmp:(K < 2*(N % 10 ^ (s+1)*x)↔10 ^ (s+1) < 2*(N % 10 ^ (s+1)))∧(2*(N % 10 ^ (s+1)*x)=K↔2*(N % 10 ^ (s+1))=10 ^ (s+1)):=by
     rw [hKs,← Nat.mul_assoc]
     exact ⟨⟨fun h=>Nat.lt_of_mul_lt_mul_right h,fun h=>Nat.mul_lt_mul_of_pos_right h hx⟩,⟨fun h=>Nat.eq_of_mul_eq_mul_right hx h,fun h=>by rw [h]⟩⟩
    rw [hcmp.1,hcmp.2,hIs]
    have hr0:¬ ((d:Int) < 0∨(nd:Int)≤(d:Int)):=by omega
    unfold ruB
    rw [if_neg hr0,Int.toNat_natCast,hdg]
    rw [nmod]
    have hp:0 < 10 ^ s:=Nat.pow_pos (by decide)
    have hg:N / 10 ^ s % 10 < 10:=Nat.mod_lt _ (by decide)
    have hrm:=Nat.mod_lt N hp
    have hps:10 ^ (s+1)=10 ^ s*10:=Nat.pow_succ ..
    have hpar:N / 10 ^ (s+1)=N / 10 ^ s / 10:=by rw [Nat.div_div_eq_div_mul,← Nat.pow_succ]
    by_cases s0:s=0
    ·subst s0
     simp only [Nat.pow_zero,Nat.mod_one,Nat.div_one,Nat.zero_add,Nat.pow_one,Nat.mul_one,Nat.add_zero]
     by_cases h5:N % 10=5
     ·rw [if_pos ⟨by omega,h5⟩,Bool.or_eq_true,decide_eq_true_eq]
      constructor
      ·intro h;exact .inr ⟨by omega,h.imp id (fun h=>by omega)⟩
      ·rintro (h|⟨_,h⟩)
       ·omega
       ·exact h.imp id (fun h=>by omega)
     ·rw [if_neg (fun h=>h5 h.2),decide_eq_true_eq]
      constructor
      ·intro h;exact .inl (by omega)
      ·rintro (h|⟨h,_⟩) <;> omega
    ·have hne:N % 10 ^ s≠0:=by
      intro h
      have h4:10∣10 ^ s:=⟨10 ^ (s - 1),by rw [← Nat.pow_succ'];congr 1;omega⟩
      exact hm (Nat.mod_eq_zero_of_dvd (Nat.dvd_trans h4 (Nat.dvd_of_mod_eq_zero h)))
     rw [if_neg (fun h=>by have:=h.1;omega),decide_eq_true_eq,hps]
     generalize N / 10 ^ s % 10=g at*
     generalize N % 10 ^ s=r at*
     generalize 10 ^ s=p at*
     have hgs:g=0∨g=1∨g=2∨g=3∨g=4∨g=5∨g=6∨g=7∨g=8∨g=9:=by omega
     rcases hgs with rfl|rfl|rfl|rfl|rfl|rfl|rfl|rfl|rfl|rfl
     all_goals
      constructor
      ·intro h;first|omega|exact .inl (by omega)
      ·rintro (h|⟨h,_⟩) <;> omega
theorem rnd_rhe {t A B j Y I f K:Nat} {tr ru:Bool} (hB:0 < B) (hK:0 < K) (R:Dc.Rl t A B j Y tr) (hY:Y=I*K+f) (hf:f < K) (hru:ru=true↔K < 2*f∨(2*f=K∧(tr=true∨I % 2=1)))
  (G:∀ g,2*Y < g*K→2*A < g*K*B):Us.RHE A (B*K) (I+ru.toNat):=by
 have e1:2*Y=2*I*K+2*f:=by rw [hY,Nat.mul_add,Nat.mul_assoc]
 have le:=R.le
 have e2:∀ x:Nat,B*K*x=x*K*B:=fun x=>by ac_rfl
 have e3:2*(Y*B)=2*I*K*B+2*f*B:=by rw [← Nat.mul_assoc,e1,Nat.add_mul]
 have hKB:0 < K*B:=Nat.mul_pos hK hB
 have e4:(2*I+1)*K*B=2*I*K*B+K*B:=by rw [Nat.add_mul,Nat.add_mul,Nat.one_mul]
 have e5:(2*I+2)*K*B=2*I*K*B+2*(K*B):=by rw [Nat.add_mul,Nat.add_mul,Nat.mul_assoc 2 K]
 have e6:(2*I+3)*K*B=2*I*K*B+3*(K*B):=by rw [Nat.add_mul,Nat.add_mul,Nat.mul_assoc 3 K]
 cases ru with
 |false=>
  have hno:¬ (K < 2*f∨(2*f=K∧(tr=true∨I % 2=1))):=fun h=>by cases hru.2 h
  rw [Bool.toNat_false,Nat.add_zero]
  unfold Us.RHE
  rw [e2,e2,e4,Nat.mul_comm B K]
  by_cases h2:2*f=K
  ·have htr:tr=false:=by cases tr with|false=>rfl|true=>exact (hno (.inr ⟨h2,.inl rfl⟩)).elim
   have hev:I % 2=0:=by
    rcases Nat.mod_two_eq_zero_or_one I with h|h
    ·exact h
    ·exact (hno (.inr ⟨h2,.inr h⟩)).elim
   have hA:=R.eq htr
   rw [h2] at e3
   omega
  ·have:=G (2*I+1) (by rw [e1,Nat.add_mul,Nat.one_mul];omega)
   rw [e4] at this
   omega
 |true=>
  have hyes:=hru.1 rfl
  rw [Bool.toNat_true]
  unfold Us.RHE
  rw [e2,e2,show 2*(I+1)+1=2*I+3 by omega,show 2*(I+1)=2*I+2 by omega,e6,e5,Nat.mul_comm B K]
  have hup:=G (2*I+2) (by rw [e1,Nat.add_mul];omega)
  rw [e5] at hup
  have hfB:K*B≤2*f*B:=Nat.mul_le_mul_right _ (by rcases hyes with h|h <;> omega)
  refine ⟨by omega,fun h=>by omega,by omega,fun h=>?_⟩
  have h1:2*(Y*B)=2*A:=by omega
  have htr:tr=false:=by
   cases tr with
   |false=>rfl
   |true=>have:=R.lt rfl;omega
  rcases hyes with h3|⟨h3,h4⟩
  ·have:K*B < 2*f*B:=Nat.mul_lt_mul_of_pos_right h3 hB
   omega
  ·rw [htr] at h4
   rcases h4 with h4|h4
   ·cases h4
   ·omega
end Go.Proofs.YtmadknpaljaecaaGreatDoor.Ev.D
namespace Go.Proofs.YtmadknpaljaecaaGreatDoor.Dc
theorem yv_bounds {N nd:Nat} {dp:Int} (h0:0 < nd) (hle:nd≤800) (n1:10 ^ (nd - 1)≤N) (n2:N < 10 ^ nd) (d1:-2000≤dp):10 ^ (dp - 1+3000).toNat≤Yv N nd dp∧Yv N nd dp < 10 ^ (dp+3000).toNat:=by
 unfold Yv
 refine ⟨?_,?_⟩
 ·rw [show (dp - 1+3000).toNat=nd - 1+(dp - nd+3000).toNat by omega,Nat.pow_add]
  exact Nat.mul_le_mul_right _ n1
 ·rw [show (dp+3000).toNat=nd+(dp - nd+3000).toNat by omega,Nat.pow_add]
  exact Nat.mul_lt_mul_of_pos_right n2 (Nat.pow_pos (by decide))
theorem rhe_ratio {a M a' M' R:Nat} (hM:0 < M) (hM':0 < M') (h:a*M' =a'*M) (H:Us.RHE a M R):Us.RHE a' M' R:=by
 obtain ⟨h1,h2,h3,h4⟩:=H
 have e:∀ x,M*x*M' =M'*x*M:=fun x=>by ac_rfl
 have e2:2*a*M' =2*a'*M:=by rw [Nat.mul_assoc,h,Nat.mul_assoc]
 refine ⟨?_,fun hq=>h2 ?_,?_,fun hq=>h4 ?_⟩
 ·have:=Nat.mul_le_mul_right M' h1
  rw [e,e2] at this
  exact Nat.le_of_mul_le_mul_right this hM
 ·have:2*a*M' =M*(2*R+1)*M':=by rw [e,e2,hq]
  exact Nat.eq_of_mul_eq_mul_right hM' this
 ·have:=Nat.mul_le_mul_right M' h3
  rw [e,Nat.add_mul,e2,Nat.mul_comm M M',← Nat.add_mul] at this
  exact Nat.le_of_mul_le_mul_right this hM
 ·have:M*(2*R)*M' =(2*a+M)*M':=by rw [e,hq,Nat.add_mul,Nat.add_mul,e2,Nat.mul_comm M M']
  exact Nat.eq_of_mul_eq_mul_right hM' this
theorem gap {t Y0 u v j Y K D:Nat} {tr:Bool} (ht:0 < t) (R:Rl t (2 ^ u*Y0) (2 ^ v) j Y tr) (hj:0 < j) (hY:Y≤2 ^ 53*K) (d1:D∣2*(2 ^ u*Y0)) (d2:D∣K*2 ^ v)
  (big:2 ^ 54*K*2 ^ v*j < D*t) (hex:∀ g,2*(2 ^ u*Y0)=g*K*2 ^ v→tr=false) (g:Nat) (hg:2*Y < g*K):2*(2 ^ u*Y0) < g*K*2 ^ v:=by
 have hB:=Nat.two_pow_pos v
 rcases Nat.lt_trichotomy (2*(2 ^ u*Y0)) (g*K*2 ^ v) with h|h|h
 ·exact h
 ·exfalso
  have:=R.eq (hex g h)
  have h2:2*Y*2 ^ v < g*K*2 ^ v:=Nat.mul_lt_mul_of_pos_right hg hB
  rw [Nat.mul_assoc,this,h] at h2
  exact Nat.lt_irrefl _ h2
 ·exfalso
  generalize hA:2 ^ u*Y0=A at*
  have h2:2*Y*2 ^ v < g*K*2 ^ v:=Nat.mul_lt_mul_of_pos_right hg hB
  have hd:D∣2*A - g*K*2 ^ v:=Nat.dvd_sub d1 (by rw [Nat.mul_assoc];exact Nat.dvd_trans d2 (Nat.dvd_mul_left _ _))
  have h3:D≤2*A - g*K*2 ^ v:=Nat.le_of_dvd (by omega) hd
  have h4:2*A - g*K*2 ^ v≤2*A - 2*Y*2 ^ v:=by omega
  have h5:(2*A - 2*Y*2 ^ v)*t≤2*(Y*2 ^ v)*j:=by
   have:=R.near
   rw [Nat.sub_mul,Nat.mul_assoc 2 A,Nat.mul_assoc 2 Y,Nat.mul_assoc 2 (Y*2 ^ v),Nat.mul_assoc 2 (Y*2 ^ v)]
   rw [Nat.mul_add] at this
   omega
  have h6:D*t≤2*(Y*2 ^ v)*j:=Nat.le_trans (Nat.mul_le_mul_right _ (Nat.le_trans h3 h4)) h5
  have h7:2*(Y*2 ^ v)*j≤2 ^ 54*K*2 ^ v*j:=by
   refine Nat.mul_le_mul_right _ ?_
   rw [← Nat.mul_assoc]
   refine Nat.mul_le_mul_right _ ?_
   have:2 ^ 54*K=2*(2 ^ 53*K):=by rw [← Nat.mul_assoc]
   rw [this]
   exact Nat.mul_le_mul_left _ hY
  exact Nat.lt_irrefl _ (Nat.lt_of_lt_of_le big (Nat.le_trans h6 h7))
theorem near_yv {N0 nd:Nat} {dp:Int} {r:Nat} (h:-3000≤dp - nd) (hn:Us.Near (Yv N0 nd dp*2 ^ 1074) (10 ^ 3000) r):Us.Near (Us.nn N0 (dp - nd)) (Us.mm (dp - nd)) r:=by
 have key:∀ (x y z:Nat) (K:Nat),K=10 ^ x*10 ^ y→Us.Near (N0*10 ^ (z+x)*2 ^ 1074) K r→Us.Near (N0*10 ^ z*2 ^ 1074) (10 ^ y) r:=by
  intro x y z K hK hn
  refine Us.Near.unscale (10 ^ x) (Nat.pow_pos (by decide)) ?_
  rw [← hK]
  generalize 2 ^ 1074=W at*
  rw [show 10 ^ x*(N0*10 ^ z*W)=N0*(10 ^ z*10 ^ x)*W by ac_rfl,← Nat.pow_add]
  exact hn
 unfold Us.nn Us.mm
 refine key (3000 - (-(dp - nd)).toNat) _ _ (10 ^ 3000) (by rw [← Nat.pow_add];congr 1;omega) ?_
 unfold Yv at hn
 rw [show (dp - nd).toNat+(3000 - (-(dp - nd)).toNat)=(dp - nd+3000).toNat by omega]
 exact hn
end Go.Proofs.YtmadknpaljaecaaGreatDoor.Dc
namespace Go.Proofs.YtmadknpaljaecaaGreatDoor.Ev.D
open Go Go.Proofs.YtmadknpaljaecaaGreatDoor.Ev
set_option maxRecDepth 100000
theorem glob14:C.glob 14=.iptr false L14:=rfl
def K14:List AV:=match L14 with|[.isl _ _ cs]=>cs|_=>[]
theorem L14_eq:L14=[.isl false 9 K14]:=rfl
def pt (d:Nat):Nat:=[1,3,6,9,13,16,19,23,26].getD d 27
theorem pt_le (d:Nat):1≤pt d∧pt d≤27:=by
 unfold pt
 rcases d with _|_|_|_|_|_|_|_|_|d <;> simp
theorem pt_ge {d:Nat} (h:1≤d):3≤pt d:=by
 unfold pt
 rcases d with _|_|_|_|_|_|_|_|_|d <;> simp at h ⊢
theorem pt_pow {d:Nat} (h:1≤d):2 ^ pt d < 10 ^ d:=by
 unfold pt
 rcases d with _|_|_|_|_|_|_|_|_|d
 ·omega
 all_goals first|decide|skip
 have:(10:Nat) ^ 9≤10 ^ (d+1+1+1+1+1+1+1+1+1):=Nat.pow_le_pow_right (by decide) (by omega)
 simp only [List.getD_eq_getElem?_getD,List.getElem?_cons_succ,List.getElem?_nil,Option.getD_none]
 have h2:(2:Nat) ^ 27 < 10 ^ 9:=by decide
 exact Nat.lt_of_lt_of_le h2 this
theorem pt_pow2 {d:Nat} (h:1≤d):2 ^ pt d*119≤100*10 ^ d:=by
 unfold pt
 rcases d with _|_|_|_|_|_|_|_|_|d
 ·omega
 all_goals first|decide|skip
 have:(10:Nat) ^ 9≤10 ^ (d+1+1+1+1+1+1+1+1+1):=Nat.pow_le_pow_right (by decide) (by omega)
 simp only [List.getD_eq_getElem?_getD,List.getElem?_cons_succ,List.getElem?_nil,Option.getD_none]
 have h2:(2:Nat) ^ 27*119≤100*10 ^ 9:=by decide
 exact Nat.le_trans h2 (Nat.mul_le_mul_left _ this)
theorem pt_big {d:Nat} (h:9≤d):pt d=27:=by
 unfold pt
 rcases d with _|_|_|_|_|_|_|_|_|d <;> simp at h ⊢
theorem ld14 {d:Nat} (h:d < 9) {hp:Heap}:ldV false 1 (.iptr false (K14.drop (d*1))) hp=.ok (.int .i64 ((pt d:Nat):Int)) hp:=by
 rcases d with _|_|_|_|_|_|_|_|_|d <;> first|rfl|omega
def L271:XCode:=loopB (blkB (seqH (seqT 6 B271)))
def M271:XCode:=loopB (blkB (seqH (seqT 7 B271)))
theorem X271_ok:B271=.seq (seqH B271) (.seq (seqH (seqT 1 B271)) (.seq (seqH (seqT 2 B271)) (.seq (seqH (seqT 3 B271)) (.seq (seqH (seqT 4 B271)) (.seq (seqH (seqT 5 B271)) (.seq (.block 0 (.loop L271)) (.seq (.block 2 (.loop M271)) (seqT 8 B271)))))))):=rfl
def F1 (t:Nat) (h0:Heap) (b Y0:Nat) (ng:Bool) (v n:Nat) (h:Heap) (dp:Int):Prop:=
 ∃ N nd tr j,n=Dc.Yv N nd dp∧DV h b N nd dp ng tr∧Fr h0 h b∧Nrm N nd∧dp≤310∧Dc.Rl t Y0 (2 ^ v) j n tr∧3*j≤v∧v≤1040∧
  (∀ w X0,v≤w→Y0=2 ^ w*X0→10 ^ 2940∣X0→Y0 < 10 ^ 3310→tr=false∧2 ^ v*n=Y0)
def I271 (t:Nat) (h0:Heap) (b Y0:Nat) (ng:Bool) (n:Nat) (env:T AV) (h:Heap):Prop:=
 ∃ v dp,F1 t h0 b Y0 ng v n h dp∧0≤dp∧env.at 0=.ref b 0∧env.at 1=.iptr false L10∧env.at 5=.bool false∧env.at 6=.int .i64 (v:Int)∧env.at 7=.int .u64 0
def J271 (t:Nat) (h0:Heap) (b Y0:Nat) (ng:Bool) (env:T AV) (h:Heap):Prop:=
 ∃ v n,F1 t h0 b Y0 ng v n h 0∧env.at 0=.ref b 0∧env.at 1=.iptr false L10∧env.at 5=.bool false∧env.at 6=.int .i64 (v:Int)∧env.at 7=.int .u64 0
set_option exponentiation.threshold 20000 in
theorem f1_step {t:Nat} (ht:∀ n,799≤n→10*t≤10 ^ n) (t0:100000≤t) {h0 h:Heap} {b Y0 v n d:Nat} {ng:Bool} (hY0:Y0 < 10 ^ 3310) (F:F1 t h0 b Y0 ng v n h (d:Int)) (hd:1≤d):
  ∃ h' n' dp',Does C 219 [.ref b 0,.int .i64 (-((pt d:Nat):Int))] h (.tup []) h'∧F1 t h0 b Y0 ng (v+pt d) n' h' dp'∧0≤dp'∧n' < n:=by
 obtain ⟨N,nd,tr,j,rfl,D,Fr0,hn,hdp,R,hj,hv,hE⟩:=F
 have hpt:=pt_le d
 have hp3:=pt_ge hd
 have hpw:=pt_pow hd
 obtain ⟨h',m,hdo,⟨N',nd',dp',tr',D',F',hn',l1,l2,R',_,_,hE'⟩,m0,m60⟩:=s219R ht t0 (b:=b) (k:=pt d) (Nat.two_pow_pos v) (by omega) D hn R (by omega) (by omega) (by omega) (by omega)
 have hm1:m=1:=by omega
 subst hm1
 obtain ⟨b1,b2⟩:=Dc.yv_bounds (dp:=(d:Int)) hn.1 D.le hn.2 D.lt (by omega)
 obtain ⟨c1,c2⟩:=Dc.yv_bounds (dp:=dp') hn'.1 D'.le hn'.2 D'.lt (by omega)
 have hpow:2 ^ pt d*2 ^ v=2 ^ (v+pt d):=by rw [← Nat.pow_add,Nat.add_comm]
 rw [hpow] at R'
 have hp8:8≤2 ^ pt d:=Nat.pow_le_pow_right (n:=2) (i:=3) (by decide) hp3
 have hp2:=pt_pow2 hd
 have hvp:=Nat.two_pow_pos v
 have k1:Dc.Yv N nd d*t≤Dc.Yv N' nd' dp'*2 ^ pt d*(t+(j+1)):=by
  have a1:=Nat.mul_le_mul_right t R.le
  have a2:=Nat.le_trans a1 R'.near
  have e1:Dc.Yv N nd d*2 ^ v*t=Dc.Yv N nd d*t*2 ^ v:=by ac_rfl
  have e2:Dc.Yv N' nd' dp'*2 ^ (v+pt d)*(t+(j+1))=Dc.Yv N' nd' dp'*2 ^ pt d*(t+(j+1))*2 ^ v:=by rw [← hpow];ac_rfl
  rw [e1,e2] at a2
  exact Nat.le_of_mul_le_mul_right a2 hvp
 have k2:Dc.Yv N' nd' dp'*2 ^ pt d*t≤Dc.Yv N nd d*(t+j):=by
  have a1:=Nat.mul_le_mul_right t R'.le
  have a2:=Nat.le_trans a1 R.near
  have e1:Dc.Yv N' nd' dp'*2 ^ (v+pt d)*t=Dc.Yv N' nd' dp'*2 ^ pt d*t*2 ^ v:=by rw [← hpow];ac_rfl
  have e2:Dc.Yv N nd d*2 ^ v*(t+j)=Dc.Yv N nd d*(t+j)*2 ^ v:=by ac_rfl
  rw [e1,e2] at a2
  exact Nat.le_of_mul_le_mul_right a2 hvp
 have hYp:0 < Dc.Yv N nd d:=Nat.lt_of_lt_of_le (Nat.pow_pos (by decide)) b1
 have hdp':0≤dp':=by
  refine Int.not_lt.1 fun hl=>?_
  have a1:Dc.Yv N' nd' dp' < 10 ^ 2999:=Nat.lt_of_lt_of_le c2 (Nat.pow_le_pow_right (by decide) (by omega))
  have a2:10 ^ d*10 ^ 2999≤Dc.Yv N nd d:=by
   rw [← Nat.pow_add];exact Nat.le_trans (Nat.pow_le_pow_right (by decide) (by omega)) b1
  have hZ:0 < 10 ^ 2999:=Nat.pow_pos (by decide)
  clear hY0 hE hE' b1 b2 c1 c2 R R' Fr0
  generalize 10 ^ 2999=Z at*
  generalize 10 ^ d=T at*
  generalize 2 ^ pt d=q at*
  generalize Dc.Yv N nd d=y at*
  generalize Dc.Yv N' nd' dp' =y' at*
  have a3:T*Z*t≤y*t:=Nat.mul_le_mul_right _ a2
  have a4:y'*q*(t+(j+1))≤Z*q*(t+(j+1)):=Nat.mul_le_mul_right _ (Nat.mul_le_mul_right _ (Nat.le_of_lt a1))
  have a5:T*t*Z≤q*(t+(j+1))*Z:=by
   rw [show T*t*Z=T*Z*t by ac_rfl,show q*(t+(j+1))*Z=Z*q*(t+(j+1)) by ac_rfl]
   exact Nat.le_trans a3 (Nat.le_trans k1 a4)
  have a6:=Nat.le_of_mul_le_mul_right a5 hZ
  have a7:q*119*(t+(j+1))≤100*T*(t+(j+1)):=Nat.mul_le_mul_right _ hp2
  have a8:T*t*119≤q*(t+(j+1))*119:=Nat.mul_le_mul_right _ a6
  rw [show q*(t+(j+1))*119=q*119*(t+(j+1)) by ac_rfl,show T*t*119=T*(t*119) by ac_rfl] at a8
  rw [show 100*T*(t+(j+1))=T*(100*(t+(j+1))) by ac_rfl] at a7
  have hT:0 < T:=by omega
  have a9:=Nat.le_of_mul_le_mul_left (Nat.le_trans a8 a7) hT
  omega
 have hlt:Dc.Yv N' nd' dp' < Dc.Yv N nd d:=by
  clear hY0 hE hE' b1 b2 c1 c2 R R' Fr0 k1
  generalize 2 ^ pt d=q at*
  generalize Dc.Yv N nd d=y at*
  generalize Dc.Yv N' nd' dp' =y' at*
  refine Nat.not_le.1 fun hge=>?_
  have a1:y*8*t≤y'*q*t:=Nat.mul_le_mul_right _ (Nat.mul_le_mul hge hp8)
  have a2:y*(8*t)≤y*(t+j):=by rw [← Nat.mul_assoc];exact Nat.le_trans a1 k2
  have:=Nat.le_of_mul_le_mul_left a2 hYp
  omega
 have hv':v+pt d≤1040:=by
  have a1:10 ^ 2999≤Dc.Yv N' nd' dp':=Nat.le_trans (Nat.pow_le_pow_right (by decide) (by omega)) c1
  have a2:10 ^ 2999*2 ^ (v+pt d) < 10 ^ 2999*10 ^ 311:=by
   rw [← Nat.pow_add]
   exact Nat.lt_of_le_of_lt (Nat.mul_le_mul_right _ a1) (Nat.lt_of_le_of_lt R'.le hY0)
  have a3:=Nat.lt_of_mul_lt_mul_left a2
  have a4:2 ^ (v+pt d) < 2 ^ 1034:=Nat.lt_of_lt_of_le a3 (by decide+kernel)
  have:=(Nat.pow_lt_pow_iff_right (a:=2) (by decide)).1 a4
  clear hY0 hE hE' b1 b2 c1 c2 R R' Fr0 k1 k2 a1 a2 a3 a4
  omega
 refine ⟨h',_,dp',hdo,⟨N',nd',tr',j+1,rfl,D',Fr0.trans F',hn',by omega,R',by omega,hv',fun w X0 hw hY hdv hlt=>?_⟩,hdp',hlt⟩
 obtain ⟨e1,e2⟩:=hE w X0 (by omega) hY hdv hlt
 have hYX:2 ^ pt d*(2 ^ (w - (v+pt d))*X0)=Dc.Yv N nd d:=by
  have:2 ^ v*(2 ^ pt d*(2 ^ (w - (v+pt d))*X0))=2 ^ v*Dc.Yv N nd d:=by
   rw [e2,hY,← Nat.mul_assoc,← Nat.mul_assoc,← Nat.pow_add,← Nat.pow_add];congr 2;omega
  exact Nat.eq_of_mul_eq_mul_left (Nat.two_pow_pos v) this
 obtain ⟨f1,f2⟩:=hE' 2940 _ e1 hYX (Nat.dvd_trans hdv (Nat.dvd_mul_left _ _)) (Nat.lt_of_lt_of_le b2 (Nat.pow_le_pow_right (by decide) (by omega)))
 refine ⟨f1,?_⟩
 rw [Nat.pow_add,Nat.mul_assoc,f2,e2]
end Go.Proofs.YtmadknpaljaecaaGreatDoor.Ev.D
namespace Go.Proofs.YtmadknpaljaecaaGreatDoor.Ev.D
open Go Go.Proofs.YtmadknpaljaecaaGreatDoor.Ev
set_option maxRecDepth 100000
theorem body271 {t:Nat} (ht:∀ n,799≤n→10*t≤10 ^ n) (t0:100000≤t) {h0:Heap} {b Y0:Nat} {ng:Bool} {Q:PostC} (hY0:Y0 < 10 ^ 3310) (n:Nat) (env:T AV) (h:Heap) (hI:I271 t h0 b Y0 ng n env h):
  GoP C [.c (match L271 with|c=>c)] env h (LpQ 0 (I271 t h0 b Y0 ng) n (J271 t h0 b Y0 ng) Q):=by
 obtain ⟨v,dp,F,hdp,a0,a1,a5,a6,a7⟩:=hI
 have hlen:h.len b=804:=by obtain ⟨N,nd,tr,j,_,D,_⟩:=F;exact D.len
 have hcdp:h.cell b 801=.int .i64 dp:=by obtain ⟨N,nd,tr,j,_,D,_⟩:=F;exact D.dp
 have hv:v≤1040:=by obtain ⟨N,nd,tr,j,_,_,_,_,_,_,_,hv,_⟩:=F;exact hv
 have hd310:dp≤310:=by obtain ⟨N,nd,tr,j,_,_,_,_,q,_⟩:=F;exact q
 obtain ⟨d,rfl⟩:∃ d:Nat,dp=d:=⟨dp.toNat,by omega⟩
 simp only [L271,B271,X271,seqT,seqH,blkB,loopB]
 by_cases hd0:d=0
 ·subst hd0
  simp (decide:=true) only [BZ,a0,ld1_cell (show 801 < h.len b by omega),hcdp,show ((0:Nat):Int)=0 from rfl]
  refine ⟨v,n,F,?_⟩
  simp (decide:=true) only [BZ,a0,a1,a5,a6,a7]
 ·obtain ⟨h',n',dp',hdo,F',hdp',hlt⟩:=f1_step ht t0 hY0 F (show 1≤d by omega)
  have hpt:=pt_le d
  have w1:wrapF .i64 (0 - ((pt d:Nat):Int))=-((pt d:Nat):Int):=by rw [i64_wrap (by omega) (by omega)];omega
  have w2:wrapF .i64 ((v:Int)+((pt d:Nat):Int))=((v+pt d:Nat):Int):=by rw [i64_wrap (by omega) (by omega)];rfl
  by_cases h9:9≤d
  ·have e27:=pt_big h9
   rw [e27] at w1 w2 hdo F'
   have w1':wrapF .i64 (0 - 27)=-27:=by decide
   have hdo':Does C 219 [.ref b 0,.int .i64 (-27)] h (.tup []) h':=hdo
   have w2':wrapF .i64 ((v:Int)+27)=((v+27:Nat):Int):=w2
   simp (decide:=true) only [BZ,a0,ld1_cell (show 801 < h.len b by omega),hcdp,decide_eq_true (show (0:Int) < (d:Int) by omega)]
   refine go_drawW rfl ?_
   simp (decide:=true) only [BZ,a0,ld1_cell (show 801 < h.len b by omega),hcdp,glob14,L14_eq,ld1_iptr,decide_eq_true (show ((9:Nat):Int)≤(d:Int) by omega),a6,w1',callG_of hdo',w2']
   refine ⟨n',hlt,v+27,dp',F',hdp',?_⟩
   simp (decide:=true) only [BZ,a0,a1,a5,a7]
  ·simp (decide:=true) only [BZ,a0,ld1_cell (show 801 < h.len b by omega),hcdp,decide_eq_true (show (0:Int) < (d:Int) by omega)]
   refine go_drawW rfl ?_
   simp (decide:=true) only [BZ,a0,ld1_cell (show 801 < h.len b by omega),hcdp,glob14,L14_eq,ld1_iptr,decide_eq_false (show ¬ ((9:Nat):Int)≤(d:Int) by omega)]
   refine go_drawW rfl ?_
   simp (decide:=true) only [BZ,a0,ld1_cell (show 801 < h.len b by omega),hcdp,glob14,L14_eq,ld1_iptr,iaS_isl (show d < 9 by omega),ld14 (show d < 9 by omega),a6,w1,callG_of hdo,w2]
   refine ⟨n',hlt,v+pt d,dp',F',hdp',?_⟩
   simp (decide:=true) only [BZ,a0,a1,a5,a7]
def F2 (t:Nat) (h0:Heap) (b Y0 Y1 v:Nat) (tr1:Bool) (ng:Bool) (u y:Nat) (h:Heap) (dp:Int):Prop:=
 ∃ N nd tr j,y=Dc.Yv N nd dp∧DV h b N nd dp ng tr∧Fr h0 h b∧Nrm N nd∧-331≤dp∧dp≤0∧Dc.Rl t (2 ^ u*Y0) (2 ^ v) j y tr∧j≤400+u∧u≤1110∧(u=0→y=Y1)∧
  (∀ e,tr1=false→10 ^ e∣Y1→2200≤e→tr=false∧y=2 ^ u*Y1)
set_option exponentiation.threshold 20000 in
theorem f2_step {t:Nat} (ht:∀ n,799≤n→10*t≤10 ^ n) (t0:100000≤t) {h0 h:Heap} {b Y0 Y1 v u y d:Nat} {tr1 ng:Bool} (hY1:10 ^ 2669≤Y1) (hYY:2 ^ v*Y1≤Y0) (F:F2 t h0 b Y0 Y1 v tr1 ng u y h (-(d:Int))) (hd:d=0→2*y < 10 ^ 3000):
  ∃ h' y' dp',Does C 219 [.ref b 0,.int .i64 ((pt d:Nat):Int)] h (.tup []) h'∧F2 t h0 b Y0 Y1 v tr1 ng (u+pt d) y' h' dp'∧y < y'∧y' < 10 ^ 3000:=by
 obtain ⟨N,nd,tr,j,rfl,D,Fr0,hn,hdp1,hdp2,R,hj,hu,hu0,hE⟩:=F
 have hpt:=pt_le d
 have hvp:=Nat.two_pow_pos v
 obtain ⟨h',m,hdo,⟨N',nd',dp',tr',D',F',hn',l1,l2,R',_,⟨y1,y2⟩,hE'⟩,m0,m60⟩:=s219L ht t0 (b:=b) (k:=pt d) hvp (by omega) D hn R (by omega) (by omega) (by omega) (by omega)
 have hm1:m=1:=by omega
 subst hm1
 obtain ⟨b1,b2⟩:=Dc.yv_bounds (dp:=-(d:Int)) hn.1 D.le hn.2 D.lt (by omega)
 obtain ⟨c1,c2⟩:=Dc.yv_bounds (dp:=dp') hn'.1 D'.le hn'.2 D'.lt (by omega)
 have hpow:2 ^ pt d*(2 ^ u*Y0)=2 ^ (u+pt d)*Y0:=by rw [← Nat.mul_assoc,← Nat.pow_add,Nat.add_comm]
 rw [hpow] at R'
 have hlt1:2 ^ pt d*Dc.Yv N nd (-(d:Int)) < 10 ^ 3000:=by
  by_cases h0:d=0
  ·subst h0;exact hd rfl
  ·have a1:2 ^ pt d*Dc.Yv N nd (-(d:Int)) < 10 ^ d*10 ^ (-(d:Int)+3000).toNat:=Nat.mul_lt_mul_of_lt_of_lt (pt_pow (by omega)) b2
   rw [← Nat.pow_add,show d+(-(d:Int)+3000).toNat=3000 by omega] at a1
   exact a1
 have hY:Dc.Yv N' nd' dp' < 10 ^ 3000:=Nat.lt_of_le_of_lt y1 hlt1
 have hYp:0 < Dc.Yv N nd (-(d:Int)):=Nat.lt_of_lt_of_le (Nat.pow_pos (by decide)) b1
 have hgt:Dc.Yv N nd (-(d:Int)) < Dc.Yv N' nd' dp':=by
  have hp2:2≤2 ^ pt d:=Nat.pow_le_pow_right (n:=2) (i:=1) (by decide) hpt.1
  clear hE hE' hlt1 hY b1 b2 c1 c2 R R' Fr0 hYY hY1 hd
  generalize 2 ^ pt d=q at*
  generalize Dc.Yv N nd (-(d:Int))=y at*
  generalize Dc.Yv N' nd' dp' =y' at*
  refine Nat.not_le.1 fun hge=>?_
  have a1:2*y*t≤q*y*t:=Nat.mul_le_mul_right _ (Nat.mul_le_mul_right _ hp2)
  have a2:y'*(t+1)≤y*(t+1):=Nat.mul_le_mul_right _ hge
  have a3:y*(2*t)≤y*(t+1):=by
   rw [show y*(2*t)=2*y*t by ac_rfl]
   exact Nat.le_trans a1 (Nat.le_trans y2 a2)
  have:=Nat.le_of_mul_le_mul_left a3 hYp
  omega
 have hdp0:dp'≤0:=by
  have a1:10 ^ (dp' - 1+3000).toNat < 10 ^ 3000:=Nat.lt_of_le_of_lt c1 hY
  have:=(Nat.pow_lt_pow_iff_right (a:=10) (by decide)).1 a1
  omega
 have hu':u+pt d≤1110:=by
  have a1:2 ^ (u+pt d)*Y0*t≤Dc.Yv N' nd' dp'*2 ^ v*(t+(j+1)):=R'.near
  have a2:2 ^ (u+pt d)*(2 ^ v*Y1)*t≤2 ^ (u+pt d)*Y0*t:=Nat.mul_le_mul_right _ (Nat.mul_le_mul_left _ hYY)
  have a3:Dc.Yv N' nd' dp'*2 ^ v*(t+(j+1))≤10 ^ 3000*2 ^ v*(2*t):=Nat.mul_le_mul (Nat.mul_le_mul_right _ (Nat.le_of_lt hY)) (by omega)
  have a4:2 ^ (u+pt d)*Y1*(2 ^ v*t)≤10 ^ 3000*2*(2 ^ v*t):=by
   rw [show 2 ^ (u+pt d)*Y1*(2 ^ v*t)=2 ^ (u+pt d)*(2 ^ v*Y1)*t by ac_rfl]
   have e9:∀ K:Nat,K*2 ^ v*(2*t)=K*2*(2 ^ v*t):=fun K=>by ac_rfl
   rw [← e9]
   exact Nat.le_trans a2 (Nat.le_trans a1 a3)
  have a5:=Nat.le_of_mul_le_mul_right a4 (Nat.mul_pos hvp (by omega))
  have a6:2 ^ (u+pt d)*10 ^ 2669≤10 ^ 331*2*10 ^ 2669:=by
   have e8:(10:Nat) ^ 331*2*10 ^ 2669=10 ^ 3000*2:=by rw [Nat.mul_right_comm,← Nat.pow_add]
   rw [e8]
   exact Nat.le_trans (Nat.mul_le_mul_left _ hY1) a5
  have a7:=Nat.le_of_mul_le_mul_right a6 (Nat.pow_pos (by decide))
  have a8:2 ^ (u+pt d) < 2 ^ 1102:=Nat.lt_of_le_of_lt a7 (by decide+kernel)
  have:=(Nat.pow_lt_pow_iff_right (a:=2) (by decide)).1 a8
  clear a1 a2 a3 a4 a5 a6 a7 a8 hE hE' hlt1 hY b1 b2 c1 c2 R R' Fr0 hYY hY1 hd y1 y2
  omega
 refine ⟨h',_,dp',hdo,⟨N',nd',tr',j+1,rfl,D',Fr0.trans F',hn',by omega,hdp0,R',by omega,hu',fun h=>by omega,fun e ht1 hdv he=>?_⟩,hgt,hY⟩
 obtain ⟨e1,e2⟩:=hE e ht1 hdv he
 obtain ⟨f1,f2⟩:=hE' e e1 (by rw [e2];exact Nat.dvd_trans hdv (Nat.dvd_mul_left _ _)) (Nat.lt_of_lt_of_le hlt1 (Nat.pow_le_pow_right (by decide) (by omega)))
 refine ⟨f1,?_⟩
 rw [f2,e2,← Nat.mul_assoc,← Nat.pow_add,Nat.add_comm]
theorem iaA_zero {len b:Nat} {k:IntKind} {h:Heap} (h0:0 < len):iaAV len 1 (.ref b 0) (.int k 0) h=.ok (.ref b 0) h:=iaA_ref (i:=0) h0
def I271b (t:Nat) (h0:Heap) (b Y0 Y1 v:Nat) (tr1 ng:Bool) (n:Nat) (env:T AV) (h:Heap):Prop:=
 ∃ u y dp,n+y=10 ^ 3000∧F2 t h0 b Y0 Y1 v tr1 ng u y h dp∧env.at 0=.ref b 0∧env.at 1=.iptr false L10∧env.at 5=.bool false∧env.at 6=.int .i64 ((v:Int) - u)∧env.at 7=.int .u64 0
def J271b (t:Nat) (h0:Heap) (b Y0 Y1 v:Nat) (tr1 ng:Bool) (env:T AV) (h:Heap):Prop:=
 ∃ u y,F2 t h0 b Y0 Y1 v tr1 ng u y h 0∧10 ^ 3000≤2*y∧env.at 0=.ref b 0∧env.at 1=.iptr false L10∧env.at 5=.bool false∧env.at 6=.int .i64 ((v:Int) - u)∧env.at 7=.int .u64 0
theorem half_digit {N nd:Nat} (h0:0 < nd) (hle:nd≤800) (hn:N < 10 ^ nd):(dgt N nd 0 < 5→2*Dc.Yv N nd 0 < 10 ^ 3000)∧(5≤dgt N nd 0→10 ^ 3000≤2*Dc.Yv N nd 0):=by
 have hg:dgt N nd 0=N / 10 ^ (nd - 1):=by
  unfold dgt
  rw [Nat.sub_zero,Nat.mod_eq_of_lt]
  rw [Nat.div_lt_iff_lt_mul (Nat.pow_pos (by decide)),← Nat.pow_succ',show (nd - 1).succ=nd by omega]
  exact hn
 have hp:0 < 10 ^ (nd - 1):=Nat.pow_pos (by decide)
 have hq:0 < 10 ^ (3000 - nd):=Nat.pow_pos (by decide)
 have e1:Dc.Yv N nd 0=N*10 ^ (3000 - nd):=by unfold Dc.Yv;rw [show ((0:Int) - nd+3000).toNat=3000 - nd by omega]
 have e2:10 ^ 3000=10*10 ^ (nd - 1)*10 ^ (3000 - nd):=by rw [← Nat.pow_succ',← Nat.pow_add];congr 1;omega
 rw [hg,e1,e2]
 generalize 10 ^ (3000 - nd)=q at*
 generalize 10 ^ (nd - 1)=p at*
 refine ⟨fun h=>?_,fun h=>?_⟩
 ·rw [Nat.div_lt_iff_lt_mul hp] at h
  rw [← Nat.mul_assoc]
  exact Nat.mul_lt_mul_of_pos_right (by omega) hq
 ·rw [Nat.le_div_iff_mul_le hp] at h
  rw [← Nat.mul_assoc]
  exact Nat.mul_le_mul_right _ (by omega)
set_option exponentiation.threshold 20000 in
theorem body271b {t:Nat} (ht:∀ n,799≤n→10*t≤10 ^ n) (t0:100000≤t) {h0:Heap} {b Y0 Y1 v:Nat} {tr1 ng:Bool} {Q:PostC} (hv:v≤1040) (hY1:10 ^ 2669≤Y1) (hYY:2 ^ v*Y1≤Y0) (n:Nat) (env:T AV) (h:Heap) (hI:I271b t h0 b Y0 Y1 v tr1 ng n env h):
  GoP C [.c (match M271 with|c=>c)] env h (LpQ 2 (I271b t h0 b Y0 Y1 v tr1 ng) n (J271b t h0 b Y0 Y1 v tr1 ng) Q):=by
 obtain ⟨u,y,dp,hn,F,a0,a1,a5,a6,a7⟩:=hI
 have F':=F
 obtain ⟨N,nd,tr,j,rfl,D,Fr0,hnm,hdp1,hdp2,R,hj,hu,hu0,hE⟩:=F'
 have hl:=D.len
 obtain ⟨d,rfl⟩:∃ d:Nat,dp=-(d:Int):=⟨(-dp).toNat,by omega⟩
 have hh:=half_digit hnm.1 D.le D.lt
 have hd0:=D.d 0 hnm.1
 have hg:=dgt_lt N nd 0
 simp only [M271,B271,X271,seqT,seqH,blkB,loopB]
 by_cases c:d=0∧5≤dgt N nd 0
 ·obtain ⟨rfl,hge⟩:=c
  have D0:h.cell b 801=.int .i64 0:=D.dp
  simp (decide:=true) only [BZ,a0,ld1_cell (show 801 < h.len b by omega),D0,iaA_zero (show 0 < 800 by decide),ld1_cell (show 0 < h.len b by omega),hd0,decide_eq_false (show ¬ ((48+dgt N nd 0:Nat):Int) < 53 by omega)]
  refine ⟨u,_,F,hh.2 hge,?_⟩
  simp (decide:=true) only [BZ,a0,a1,a5,a6,a7]
 ·have hlt2:d=0→2*Dc.Yv N nd (-(d:Int)) < 10 ^ 3000:=by
   rintro rfl
   exact hh.1 (by omega)
  obtain ⟨h',y',dp',hdo,F',hgt,hlt⟩:=f2_step ht t0 hY1 hYY F hlt2
  have hpt:=pt_le d
  have w0:wrapF .i64 (0 - -(d:Int))=(d:Int):=by rw [i64_wrap (by omega) (by omega)];omega
  have w2:wrapF .i64 ((v:Int) - u - ((pt d:Nat):Int))=(v:Int) - ((u+pt d:Nat):Int):=by rw [i64_wrap (by omega) (by omega)];omega
  have fin:∀ n',n'+y' =10 ^ 3000→n' < n:=by intro n' hn';generalize 10 ^ 3000=K at*;omega
  have hsum:10 ^ 3000 - y'+y' =10 ^ 3000:=Nat.sub_add_cancel (Nat.le_of_lt hlt)
  clear hE hn hlt2 hlt
  have rest:∀ ee:T AV,GoP C [.c (seqT 1 (blkB (seqT 1 (loopB (blkB (seqH (seqT 7 B271)))))))] ee h (LpQ 2 (I271b t h0 b Y0 Y1 v tr1 ng) n (J271b t h0 b Y0 Y1 v tr1 ng) Q)→True:=fun _ _=>trivial
  by_cases h0:d=0
  ·subst h0
   have D0:h.cell b 801=.int .i64 0:=D.dp
   have w0':wrapF .i64 (0 - 0)=0:=by decide
   have w2':wrapF .i64 ((v:Int) - u - 1)=(v:Int) - ((u+1:Nat):Int):=w2
   have hdo':Does C 219 [.ref b 0,.int .i64 1] h (.tup []) h':=hdo
   simp (decide:=true) only [BZ,a0,ld1_cell (show 801 < h.len b by omega),D0,iaA_zero (show 0 < 800 by decide),ld1_cell (show 0 < h.len b by omega),hd0,decide_eq_true (show ((48+dgt N nd 0:Nat):Int) < 53 by omega)]
   refine go_drawW rfl ?_
   simp (decide:=true) only [BZ,a0,ld1_cell (show 801 < h.len b by omega),D0,w0',glob14,L14_eq,ld1_iptr,decide_eq_false (show ¬ ((9:Nat):Int)≤0 by decide)]
   refine go_drawW rfl ?_
   have ix0:∀ hp,iaSV 1 (.isl false 9 K14) (.int .i64 0) hp=.ok (.iptr false (K14.drop (0*1))) hp:=fun hp=>iaS_isl (i:=0) (by decide)
   have ld0:∀ hp,ldV false 1 (.iptr false (K14.drop (0*1))) hp=.ok (.int .i64 1) hp:=fun hp=>ld14 (d:=0) (by decide)
   simp (decide:=true) only [BZ,a0,ld1_cell (show 801 < h.len b by omega),D0,w0',glob14,L14_eq,ld1_iptr,ix0,ld0,a6,callG_of hdo',w2']
   refine ⟨10 ^ 3000 - y',fin _ hsum,u+1,y',dp',hsum,F',?_⟩
   simp (decide:=true) only [BZ,a0,a1,a5,a7]
  ·by_cases h9:9≤d
   ·have e27:=pt_big h9
    rw [e27] at w2 hdo F'
    have hdo':Does C 219 [.ref b 0,.int .i64 27] h (.tup []) h':=hdo
    have w2':wrapF .i64 ((v:Int) - u - 27)=(v:Int) - ((u+27:Nat):Int):=w2
    simp (decide:=true) only [BZ,a0,ld1_cell (show 801 < h.len b by omega),D.dp,decide_eq_true (show (-(d:Int)) < 0 by omega)]
    refine go_drawW rfl ?_
    simp (decide:=true) only [BZ,a0,ld1_cell (show 801 < h.len b by omega),D.dp,w0,glob14,L14_eq,ld1_iptr,decide_eq_true (show ((9:Nat):Int)≤(d:Int) by omega),a6,callG_of hdo',w2']
    refine ⟨10 ^ 3000 - y',fin _ hsum,u+27,y',dp',hsum,F',?_⟩
    simp (decide:=true) only [BZ,a0,a1,a5,a7]
   ·simp (decide:=true) only [BZ,a0,ld1_cell (show 801 < h.len b by omega),D.dp,decide_eq_true (show (-(d:Int)) < 0 by omega)]
    refine go_drawW rfl ?_
    simp (decide:=true) only [BZ,a0,ld1_cell (show 801 < h.len b by omega),D.dp,w0,glob14,L14_eq,ld1_iptr,decide_eq_false (show ¬ ((9:Nat):Int)≤(d:Int) by omega)]
    refine go_drawW rfl ?_
    simp (decide:=true) only [BZ,a0,ld1_cell (show 801 < h.len b by omega),D.dp,w0,glob14,L14_eq,ld1_iptr,iaS_isl (show d < 9 by omega),ld14 (show d < 9 by omega),a6,callG_of hdo,w2]
    refine ⟨10 ^ 3000 - y',fin _ hsum,u+pt d,y',dp',hsum,F',?_⟩
    simp (decide:=true) only [BZ,a0,a1,a5,a7]
end Go.Proofs.YtmadknpaljaecaaGreatDoor.Ev.D
namespace Go.Proofs.YtmadknpaljaecaaGreatDoor.Ev.D
open Go Go.Proofs.YtmadknpaljaecaaGreatDoor.Ev
set_option maxRecDepth 100000
def minI (a:Nat):Nat:=min a Fl.inf
theorem tail271 {env:T AV} {h:Heap} {b g R:Nat} {ng:Bool} {Q:PostC} (hl:h.len b=804) (hng:h.cell b 802=.bool ng) (hR:R≤9007199254740992) (hg:g < 2046) (hg0:g=0∨4503599627370496≤R) (a0:env.at 0=.ref b 0) (a1:env.at 1=.iptr false L10) (a5:env.at 5=.bool false) (a6:env.at 6=.int .i64 ((g:Int) - 1022)) (a7:env.at 7=.int .u64 (R:Int))
  (hQ:∀ (env':T AV) ovf,env'.at 4=.int .u64 (((if ng then 9223372036854775808 else 0)+minI (g*4503599627370496+R):Nat):Int)→env'.at 5=.bool ovf→Q .ret env' h):GoP C [.c (seqT 13 B271)] env h (SgQ C B271 [] Q):=by
 have hinf:Fl.inf=2047*4503599627370496:=by decide
 have s1:binV .shl (.int .u64 1) (.int .u64 52)=some (.int .u64 4503599627370496):=by
  have:=b_shln (k':=.u64) (a:=1) (n:=52) (by decide) (by decide);exact this
 have s1':binV .shl (.int .u64 2) (.int .u64 52)=some (.int .u64 9007199254740992):=by
  have:=b_shln (k':=.u64) (a:=2) (n:=52) (by decide) (by decide);exact this
 have s2:binV .shl (.int .i64 1) (.int .u64 11)=some (.int .i64 2048):=by
  rw [b_shl' (by decide)];rfl
 have w3:wrapF .i64 (2048 - 1)=2047:=by decide
 have o0:∀ (env:T AV) (m x:Nat),m < 18446744073709551616→x < 2048→m % 4503599627370496+x*4503599627370496=minI (g*4503599627370496+R)→env.at 0=.ref b 0→env.at 1=.iptr false L10→env.at 5=.bool false→env.at 6=.int .i64 ((x:Int) - 1023)→env.at 7=.int .u64 (m:Int)→SgQ C B271 [] Q (.goto 0) env h:=
  fun env m x hm hx e a0 a1 a5 a6 a7=>(sgQ_goto O271_ok).2 (go_scopeAt (out271 (ng:=ng) (ovf:=false) hl hng hm hx a0 a1 a5 a6 a7 fun env' q4 q5=>sgQ_ret.2 (hQ env' false (by rw [← e];exact q4) q5)))
 have o1:∀ (env:T AV),Fl.inf=minI (g*4503599627370496+R)→env.at 0=.ref b 0→env.at 1=.iptr false L10→SgQ C B271 [] Q (.goto 1) env h:=
  fun env e a0 a1=>(sgQ_goto V271_ok).2 (go_scopeAt (ovf271 (ng:=ng) hl hng a0 a1 fun env' q4 q5=>sgQ_ret.2 (hQ env' true (by rw [← e];exact q4) q5)))
 have e1:seqT 13 B271=.seq (seqH (seqT 13 B271)) (.seq (seqH (seqT 14 B271)) (.seq (.goto 0) (seqT 16 B271))):=rfl
 rw [e1]
 generalize hB:SgQ C B271 [] Q=QQ at o0 o1 ⊢
 generalize hT:seqT 16 B271=TT
 simp only [B271,X271,seqT,seqH]
 by_cases c:R=9007199254740992
 ·have s3:binV .shr (.int .u64 (R:Int)) (.int .u64 1)=some (.int .u64 4503599627370496):=by
   have:=b_shrn (k':=.u64) (a:=R) (n:=1) (by decide)
   rw [c] at this ⊢;exact this
  have w1:wrapF .i64 ((g:Int) - 1022+1)=(g:Int) - 1021:=by rw [i64_wrap (by omega) (by omega)];omega
  have w2:wrapF .i64 ((g:Int) - 1021 - -1023)=(g:Int)+2:=by rw [i64_wrap (by omega) (by omega)];omega
  have an:andF .u64 4503599627370496 4503599627370496=4503599627370496:=by decide+kernel
  simp (decide:=true) only [BZ,a1,a7,L10,nilchk_iptr,List.drop_succ_cons,List.drop_zero,ld1_iptr,s1',decide_eq_true (show (R:Int)=9007199254740992 by omega),s3,a6,w1]
  refine go_drawW rfl ?_
  by_cases c2:2045≤g
  ·simp (decide:=true) only [BZ,a1,L10,nilchk_iptr,List.drop_succ_cons,List.drop_zero,ld1_iptr,w2,s2,w3,decide_eq_true (show (2047:Int)≤(g:Int)+2 by omega),go_goto]
   refine o1 _ (by unfold minI;omega) ?_ ?_ <;> simp (decide:=true) only [BZ,a0,a1]
  ·simp (decide:=true) only [BZ,a1,L10,nilchk_iptr,List.drop_succ_cons,List.drop_zero,ld1_iptr,w2,s2,w3,decide_eq_false (show ¬ (2047:Int)≤(g:Int)+2 by omega),s1,an,go_goto]
   refine o0 _ 4503599627370496 (g+2) (by decide) (by omega) (by unfold minI;omega) ?_ ?_ ?_ ?_ ?_ <;> simp (decide:=true) only [BZ,a0,a1,a5]
   ·omega
   all_goals · rfl
 ·have cf:=decide_eq_false (show ¬ (R:Int)=9007199254740992 by omega)
  have an:andF .u64 (R:Int) 4503599627370496=((if 4503599627370496≤R then 4503599627370496 else 0:Nat):Int):=by
   have:=and_u64 (a:=R) (b:=4503599627370496) (by omega) (by decide)
   refine this.trans ?_
   have h:=sgn52 (s:=0) (R:=R) (.inl rfl) (by omega)
   rw [Nat.zero_add] at h
   rw [bit52,h]
   simp only [decide_eq_true_eq]
  by_cases c2:4503599627370496≤R
  ·rw [if_pos c2] at an
   have an':andF .u64 (R:Int) 4503599627370496=4503599627370496:=an
   simp (decide:=true) only [BZ,a1,a7,L10,nilchk_iptr,List.drop_succ_cons,List.drop_zero,ld1_iptr,s1',cf,s1,an',go_goto]
   refine o0 _ R (g+1) (by omega) (by omega) (by unfold minI;omega) ?_ ?_ ?_ ?_ ?_ <;> simp (decide:=true) only [BZ,a0,a1,a5,a6,a7]
   omega
  ·rw [if_neg c2] at an
   have an':andF .u64 (R:Int) 4503599627370496=0:=an
   have hg1:g=0:=by rcases hg0 with h|h <;> omega
   simp (decide:=true) only [BZ,a1,a7,L10,nilchk_iptr,List.drop_succ_cons,List.drop_zero,ld1_iptr,s1',cf,s1,an',go_goto]
   refine o0 _ R 0 (by omega) (by omega) (by unfold minI;omega) ?_ ?_ ?_ ?_ ?_ <;> simp (decide:=true) only [BZ,a0,a1,a5,a7]
   all_goals rfl
end Go.Proofs.YtmadknpaljaecaaGreatDoor.Ev.D
namespace Go.Proofs.YtmadknpaljaecaaGreatDoor.Ev.D
open Go Go.Proofs.YtmadknpaljaecaaGreatDoor.Ev
set_option maxRecDepth 100000
theorem pp10 (n k:Nat):0 < 10 ^ n*10 ^ k:=Nat.mul_pos (Nat.pow_pos (by decide)) (Nat.pow_pos (by decide))
theorem ten3000:∀ s x:Nat,s+x=3000→10 ^ 3000=10 ^ s*10 ^ x:=fun s x h=>by rw [← Nat.pow_add,h]
theorem hrat_aux {a b c d Y K:Nat} (e:a*b=c*d):a*Y*(K*b)=Y*c*(d*K):=by
 have e1:a*Y*(K*b)=a*b*(Y*K):=by ac_rfl
 have e2:Y*c*(d*K)=c*d*(Y*K):=by ac_rfl
 rw [e1,e2,e]
theorem shift_aux {a b c d Y:Nat} (e:a*b=c*d):a*Y*b=Y*c*d:=by
 have e1:a*Y*b=a*b*Y:=by ac_rfl
 have e2:Y*c*d=c*d*Y:=by ac_rfl
 rw [e1,e2,e]
theorem fb_near {t Y0 v u n g j N nd K D:Nat} {dp:Int} {tr:Bool} (hK:∀ s x:Nat,s+x=3000→K=10 ^ s*10 ^ x) (ht:0 < t) (hg:g+u+1=v+n+1022) (hn:N < 10 ^ nd) (h0:0 < nd) (hle:nd≤800) (hm:N % 10≠0) (d1:-2000≤dp) (d2:dp≤20)
  (R:Dc.Rl t (2 ^ (u+53)*Y0) (2 ^ (v+n)) j (Dc.Yv N nd dp) tr) (hj:0 < j) (hY:Dc.Yv N nd dp < 2 ^ 53*K) (hlow:g=0∨(n=0∧K*2 ^ v≤2 ^ (u+1)*Y0))
  (dv1:D∣2*(2 ^ (u+53)*Y0)) (dv2:D∣K*2 ^ (v+n)) (big:2 ^ 54*K*2 ^ (v+n)*j < D*t) (hex:∀ g,2*(2 ^ (u+53)*Y0)=g*K*2 ^ (v+n)→tr=false):
  Us.Near (Y0*2 ^ 1074) K (minI (g*4503599627370496+(ipI N nd dp+(ruB N nd dp tr).toNat)))∧ipI N nd dp+(ruB N nd dp tr).toNat≤9007199254740992∧(g=0∨4503599627370496≤ipI N nd dp+(ruB N nd dp tr).toNat)∧ipI N nd dp≤9007199254740992:=by
 have hKp:0 < K:=by rw [hK 0 3000 rfl];exact pp10 0 3000
 obtain ⟨f,hf1,hf2,hru⟩:=ru_half (tr:=tr) hK hn h0 hle hm d1 d2
 have G:=fun g' hg'=>Dc.gap ht R hj (Nat.le_of_lt hY) dv1 dv2 big hex g' hg'
 have hB:0 < 2 ^ (v+n):=Nat.two_pow_pos _
 have hI:ipI N nd dp≤9007199254740992:=by
  have:ipI N nd dp*K < 2 ^ 53*K:=by omega
  have:=Nat.lt_of_mul_lt_mul_right this
  have:(2:Nat) ^ 53=9007199254740992:=rfl
  omega
 have hrhe:=rnd_rhe hB hKp R hf1 hf2 hru G
 obtain ⟨Rr,hRr⟩:∃ Rr,ipI N nd dp+(ruB N nd dp tr).toNat=Rr:=⟨_,rfl⟩
 rw [hRr] at hrhe ⊢
 have hM:0 < K*2 ^ g:=Nat.mul_pos hKp (Nat.two_pow_pos _)
 have hrat:2 ^ (u+53)*Y0*(K*2 ^ g)=Y0*2 ^ 1074*(2 ^ (v+n)*K):=by
  have e:(2:Nat) ^ (u+53)*2 ^ g=2 ^ 1074*2 ^ (v+n):=by rw [← Nat.pow_add 2 (u+53) g,← Nat.pow_add 2 1074 (v+n)];congr 1;omega
  exact hrat_aux e
 have hrhe2:=Dc.rhe_ratio (Nat.mul_pos hB hKp) hM hrat hrhe
 have hlt:Y0*2 ^ 1074 < 9007199254740992*(K*2 ^ g):=by
  have a1:=G (2 ^ 54) (by
   have:2 ^ 54*K=2*(2 ^ 53*K):=by rw [← Nat.mul_assoc]
   omega)
  have a2:2 ^ 54*K*2 ^ (v+n)=2*(9007199254740992*(K*2 ^ (v+n))):=by
   rw [show (2:Nat) ^ 54=2*9007199254740992 from rfl,Nat.mul_assoc 2,Nat.mul_assoc 2,Nat.mul_assoc 9007199254740992]
  rw [a2] at a1
  have a3:2 ^ (u+53)*Y0 < 9007199254740992*(K*2 ^ (v+n)):=by omega
  have a4:=Nat.mul_lt_mul_of_pos_right a3 hM
  rw [hrat] at a4
  have a5:9007199254740992*(K*2 ^ (v+n))*(K*2 ^ g)=9007199254740992*(K*2 ^ g)*(2 ^ (v+n)*K):=by ac_rfl
  rw [a5] at a4
  exact Nat.lt_of_mul_lt_mul_right a4
 have hge:g=0∨4503599627370496*(K*2 ^ g)≤Y0*2 ^ 1074:=by
  rcases hlow with h|⟨rfl,h⟩
  ·exact .inl h
  ·refine .inr ?_
   have a1:K*2 ^ v*2 ^ 1073≤2 ^ (u+1)*Y0*2 ^ 1073:=Nat.mul_le_mul_right _ h
   have a2:4503599627370496*(K*2 ^ g)*2 ^ u≤Y0*2 ^ 1074*2 ^ u:=by
    have e1:4503599627370496*(K*2 ^ g)*2 ^ u=K*2 ^ v*2 ^ 1073:=by
     have e5:(4503599627370496:Nat)*2 ^ g*2 ^ u=2 ^ v*2 ^ 1073:=by
      rw [show (4503599627370496:Nat)=2 ^ 52 from rfl,← Nat.pow_add 2 52 g,← Nat.pow_add 2 (52+g) u,← Nat.pow_add 2 v 1073];congr 1;omega
     rw [Nat.mul_left_comm,Nat.mul_assoc,e5,Nat.mul_assoc]
    have e2:2 ^ (u+1)*Y0*2 ^ 1073=Y0*2 ^ 1074*2 ^ u:=by
     have e3:(2:Nat) ^ (u+1)*2 ^ 1073=2 ^ 1074*2 ^ u:=by rw [← Nat.pow_add 2 (u+1) 1073,← Nat.pow_add 2 1074 u];congr 1;omega
     exact shift_aux e3
    rw [e1,← e2];exact a1
   exact Nat.le_of_mul_le_mul_right a2 (Nat.two_pow_pos u)
 generalize Y0*2 ^ 1074=n' at*
 have hReq:Rr=Us.rnd (Us.un (4*n') (K*2 ^ g)):=Us.RHE.uniq hM hrhe2 (Us.rnd_near hM)
 have hnear:=Us.near_core hKp hlt hge hReq
 obtain ⟨r1,r2,r3,r4⟩:=hrhe2
 have hle53:Rr≤9007199254740992:=by
  rcases Nat.lt_or_ge 9007199254740992 Rr with h|h
  ·have:K*2 ^ g*(2*9007199254740993)≤K*2 ^ g*(2*Rr):=Nat.mul_le_mul_left _ (by omega)
   omega
  ·exact h
 refine ⟨hnear,hle53,?_,hI⟩
 rcases hge with h|h
 ·exact .inl h
 ·refine .inr ?_
  rcases Nat.lt_or_ge Rr 4503599627370496 with h2|h2
  ·have:K*2 ^ g*(2*Rr+1)≤K*2 ^ g*(2*4503599627370495+1):=Nat.mul_le_mul_left _ (by omega)
   omega
  ·exact h2
end Go.Proofs.YtmadknpaljaecaaGreatDoor.Ev.D
namespace Go.Proofs.YtmadknpaljaecaaGreatDoor.Ev.D
open Go Go.Proofs.YtmadknpaljaecaaGreatDoor.Ev
set_option maxRecDepth 100000
def Out271 (h0:Heap) (b Y0:Nat) (ng:Bool) (Q:PostC):Prop:=∀ (env':T AV) (h':Heap) (r:Nat) (ovf:Bool),Us.Near (Y0*2 ^ 1074) (10 ^ 3000) r→env'.at 4=.int .u64 (((if ng then 9223372036854775808 else 0)+r:Nat):Int)→env'.at 5=.bool ovf→Fr h0 h' b→Q .ret env' h'
theorem V_inf:Fl.V Fl.inf=2 ^ 52*2 ^ 2046:=by decide+kernel
theorem near_inf {n m:Nat} (h:m*Fl.V Fl.inf≤n):Us.Near n m Fl.inf:=by
 refine ⟨Nat.le_refl _,fun h=>absurd h (Nat.lt_irrefl _),fun _=>⟨?_,fun _=>by decide⟩⟩
 have h1:Fl.V (Fl.inf - 1)≤Fl.V Fl.inf:=Fl.V_le_iff.2 (by decide)
 have h2:m*(Fl.V (Fl.inf - 1)+Fl.V Fl.inf)≤m*(Fl.V Fl.inf+Fl.V Fl.inf):=Nat.mul_le_mul_left _ (by omega)
 rw [← Nat.two_mul,Nat.mul_left_comm] at h2
 omega
set_option exponentiation.threshold 20000 in
theorem post271 {t:Nat} (ht:∀ n,799≤n→10*t≤10 ^ n) (t0:100000≤t) {h0 h:Heap} {b Y0 v u n g j N nd D:Nat} {dp:Int} {ng tr:Bool} {env:T AV} {Q:PostC} (hg:g+u+1=v+n+1022) (hg2:g≤3000)
  (DD:DV h b N nd dp ng tr) (Fr0:Fr h0 h b) (hn:Nrm N nd) (d1:-1000≤dp) (d2:dp≤100) (R:Dc.Rl t (2 ^ u*Y0) (2 ^ (v+n)) j (Dc.Yv N nd dp) tr) (hj:j≤3000) (hy:Dc.Yv N nd dp < 10 ^ 3000) (hlow:g=0∨(n=0∧10 ^ 3000*2 ^ v≤2 ^ (u+1)*Y0))
  (dv1:D∣2*(2 ^ (u+53)*Y0)) (dv2:D∣10 ^ 3000*2 ^ (v+n)) (big:2 ^ 54*10 ^ 3000*2 ^ (v+n)*3001 < D*t) (hex:∀ g,2*(2 ^ (u+53)*Y0)=g*10 ^ 3000*2 ^ (v+n)→tr=false∧∃ e,2230≤e∧10 ^ e∣Dc.Yv N nd dp)
  (a0:env.at 0=.ref b 0) (a1:env.at 1=.iptr false L10) (a5:env.at 5=.bool false) (a6:env.at 6=.int .i64 ((g:Int) - 1022)) (hQ:Out271 h0 b Y0 ng Q):GoP C [.c (seqT 10 B271)] env h (SgQ C B271 [] Q):=by
 have hl:=DD.len
 have s2:binV .shl (.int .i64 1) (.int .u64 11)=some (.int .i64 2048):=by
  rw [b_shl' (by decide)];rfl
 have w1:wrapF .i64 ((g:Int) - 1022 - -1023)=(g:Int)+1:=by rw [i64_wrap (by omega) (by omega)];omega
 have w3:wrapF .i64 (2048 - 1)=2047:=by decide
 have w4:wrapF .u64 (1+52)=53:=by decide
 have w5:wrapF .i64 53=53:=by decide
 have e1:seqT 10 B271=.seq (seqH (seqT 10 B271)) (.seq (seqH (seqT 11 B271)) (.seq (seqH (seqT 12 B271)) (seqT 13 B271))):=rfl
 rw [e1]
 by_cases c:2046≤g
 ·
  have hnear:Us.Near (Y0*2 ^ 1074) (10 ^ 3000) Fl.inf:=by
   refine near_inf ?_
   rcases hlow with h|⟨rfl,h⟩
   ·omega
   ·rw [V_inf]
    have a1:10 ^ 3000*2 ^ v*2 ^ 1073≤2 ^ (u+1)*Y0*2 ^ 1073:=Nat.mul_le_mul_right _ h
    have e3:(2:Nat) ^ (u+1)*2 ^ 1073=2 ^ 1074*2 ^ u:=by rw [← Nat.pow_add,← Nat.pow_add];congr 1;omega
    rw [shift_aux e3] at a1
    have a2:10 ^ 3000*(2 ^ 52*2 ^ 2046)*2 ^ u≤10 ^ 3000*2 ^ v*2 ^ 1073:=by
     rw [Nat.mul_assoc,Nat.mul_assoc (10 ^ 3000)]
     refine Nat.mul_le_mul_left _ ?_
     rw [← Nat.pow_add,← Nat.pow_add,← Nat.pow_add]
     exact Nat.pow_le_pow_right (by decide) (by omega)
    exact Nat.le_of_mul_le_mul_right (Nat.le_trans a2 a1) (Nat.two_pow_pos u)
  have o1:∀ (env:T AV),env.at 0=.ref b 0→env.at 1=.iptr false L10→SgQ C B271 [] Q (.goto 1) env h:=
   fun env a0 a1=>(sgQ_goto V271_ok).2 (go_scopeAt (ovf271 (ng:=ng) hl DD.ng a0 a1 fun env' q4 q5=>sgQ_ret.2 (hQ env' h _ true hnear q4 q5 Fr0)))
  generalize hB:SgQ C B271 [] Q=QQ at o1 ⊢
  generalize hT:seqT 13 B271=TT
  simp only [B271,X271,seqT,seqH]
  simp (decide:=true) only [BZ]
  refine go_drawW rfl ?_
  simp (decide:=true) only [BZ,a1,a6,L10,nilchk_iptr,List.drop_succ_cons,List.drop_zero,ld1_iptr,w1,s2,w3,decide_eq_true (show (2047:Int)≤(g:Int)+1 by omega),go_goto]
  refine o1 _ ?_ ?_ <;> simp (decide:=true) only [BZ,a0,a1]
 ·obtain ⟨h2,m,hd2,⟨N',nd',dp',tr',D',F',hn',l1,l2,R',hm10,⟨y1,y2⟩,hE'⟩,m0,m60⟩:=s219L ht t0 (b:=b) (k:=53) (Nat.two_pow_pos _) (by omega) DD hn R (by decide) (by decide) (by omega) (by omega)
  have hm1:m=1:=by omega
  subst hm1
  have hm10:=hm10 (by decide)
  have hY:Dc.Yv N' nd' dp' < 2 ^ 53*10 ^ 3000:=Nat.lt_of_le_of_lt y1 (Nat.mul_lt_mul_of_pos_left hy (by decide))
  obtain ⟨c1,c2⟩:=Dc.yv_bounds (dp:=dp') hn'.1 D'.le hn'.2 D'.lt (by omega)
  have hdp':dp'≤20:=by
   have a1:10 ^ (dp' - 1+3000).toNat < 10 ^ 3016:=by
    refine Nat.lt_of_le_of_lt c1 (Nat.lt_trans hY ?_)
    have e:(10:Nat) ^ 3016=10 ^ 16*10 ^ 3000:=by rw [← Nat.pow_add]
    rw [e]
    exact Nat.mul_lt_mul_of_pos_right (by decide) (Nat.pow_pos (by decide))
   have:=(Nat.pow_lt_pow_iff_right (a:=10) (by decide)).1 a1
   omega
  have hpow:2 ^ 53*(2 ^ u*Y0)=2 ^ (u+53)*Y0:=by rw [← Nat.mul_assoc,← Nat.pow_add,Nat.add_comm]
  rw [hpow] at R'
  have hex':∀ g,2*(2 ^ (u+53)*Y0)=g*10 ^ 3000*2 ^ (v+n)→tr' =false:=fun g' hg'=>by
   obtain ⟨q1,e,q2,q3⟩:=hex g' hg'
   refine (hE' e q1 q3 ?_).1
   have a1:2 ^ 53*Dc.Yv N nd dp < 2 ^ 53*10 ^ 3000:=Nat.mul_lt_mul_of_pos_left hy (by decide)
   refine Nat.lt_of_lt_of_le a1 ?_
   have a2:2 ^ 53*10 ^ 3000≤10 ^ 16*10 ^ 3000:=Nat.mul_le_mul_right _ (by decide)
   rw [← Nat.pow_add] at a2
   exact Nat.le_trans a2 (Nat.pow_le_pow_right (by decide) (by omega))
  have hbig:2 ^ 54*10 ^ 3000*2 ^ (v+n)*(j+1) < D*t:=Nat.lt_of_le_of_lt (Nat.mul_le_mul_left _ (by omega)) big
  obtain ⟨f1,f2,f3,f4⟩:=fb_near ten3000 (by omega) hg D'.lt hn'.1 D'.le hm10 (by omega) hdp' R' (by omega) hY hlow dv1 dv2 hbig hex'
  have c288:=s288 D' hdp' (by omega) (fun h=>by
   have:ipI N' nd' dp' =ipN N' nd' dp':=by unfold ipI;rw [if_pos h]
   omega)
  rw [show (if 0 < dp' then ipN N' nd' dp' else 0)=ipI N' nd' dp' from rfl] at c288
  generalize ipI N' nd' dp'+(ruB N' nd' dp' tr').toNat=Rr at*
  have tl:=fun env a0 a1 a5 a6 a7=>tail271 (env:=env) (h:=h2) (b:=b) (g:=g) (R:=Rr) (ng:=ng) (Q:=Q) D'.len D'.ng f2 (by omega) f3 a0 a1 a5 a6 a7 (fun env' ovf q4 q5=>hQ env' h2 _ ovf f1 q4 q5 (Fr0.trans F'))
  generalize hB:SgQ C B271 [] Q=QQ at tl ⊢
  generalize hT:seqT 13 B271=TT at tl ⊢
  clear hE' hex hex' hbig big dv1 dv2 f1 hY y1 y2 c1 c2 R R' hlow hy hQ
  simp only [B271,X271,seqT,seqH]
  simp (decide:=true) only [BZ]
  refine go_drawW rfl ?_
  simp (decide:=true) only [BZ,a1,a6,L10,nilchk_iptr,List.drop_succ_cons,List.drop_zero,ld1_iptr,w1,s2,w3,decide_eq_false (show ¬ (2047:Int)≤(g:Int)+1 by omega),a0,w4,w5,callG_of (show Does C 219 [.ref b 0,.int .i64 53] h (.tup []) h2 from hd2),callG_of c288]
  refine tl _ ?_ ?_ ?_ ?_ ?_ <;> simp (decide:=true) only [BZ,a0,a1,a5,a6]
end Go.Proofs.YtmadknpaljaecaaGreatDoor.Ev.D
namespace Go.Proofs.YtmadknpaljaecaaGreatDoor.Ev.D
open Go Go.Proofs.YtmadknpaljaecaaGreatDoor.Ev
set_option maxRecDepth 100000
theorem half_dvd {Z W g e a v:Nat} (he:e+a=3000) (h:2 ^ a*W=g*10 ^ 3000*2 ^ v):W=2 ^ v*(g*5 ^ a*10 ^ e):=by
 have e1:(10:Nat) ^ 3000=2 ^ a*(5 ^ a*10 ^ e):=by
  rw [← Nat.mul_assoc,← Nat.mul_pow,show 2*5=10 from rfl,← Nat.pow_add,Nat.add_comm a,he]
 rw [e1] at h
 have e2:g*(2 ^ a*(5 ^ a*10 ^ e))*2 ^ v=2 ^ a*(2 ^ v*(g*5 ^ a*10 ^ e)):=by ac_rfl
 rw [e2] at h
 exact Nat.eq_of_mul_eq_mul_left (Nat.two_pow_pos a) h
set_option exponentiation.threshold 20000 in
theorem big_aux {t c f vn:Nat} (htt:∀ a b,a+798=b→10 ^ a*t=10 ^ b) (hc:2270≤c∨True) (h1:2 ^ vn≤2 ^ f*2 ^ 980) (hc2:2600≤c):2 ^ 54*10 ^ 3000*2 ^ vn*3001 < 10 ^ c*2 ^ f*t:=by
 have e1:10 ^ c*2 ^ f*t=10 ^ (c+798)*2 ^ f:=by rw [Nat.mul_right_comm,htt c _ rfl]
 rw [e1]
 have a1:2 ^ 54*10 ^ 3000*2 ^ vn*3001≤2 ^ 54*3001*2 ^ 980*(10 ^ 3000*2 ^ f):=by
  have:=Nat.mul_le_mul_left (2 ^ 54*3001*10 ^ 3000) h1
  have e2:2 ^ 54*3001*10 ^ 3000*2 ^ vn=2 ^ 54*10 ^ 3000*2 ^ vn*3001:=by
   rw [Nat.mul_right_comm _ (2 ^ vn) 3001,Nat.mul_right_comm (2 ^ 54) (10 ^ 3000) 3001]
  have e3:2 ^ 54*3001*10 ^ 3000*(2 ^ f*2 ^ 980)=2 ^ 54*3001*2 ^ 980*(10 ^ 3000*2 ^ f):=by
   have:∀ A K F G:Nat,A*K*(F*G)=A*G*(K*F):=fun A K F G=>by ac_rfl
   exact this _ _ _ _
  rw [e2,e3] at this
  exact this
 refine Nat.lt_of_le_of_lt a1 ?_
 have a2:2 ^ 54*3001*2 ^ 980 < 10 ^ 398:=by decide+kernel
 have a3:2 ^ 54*3001*2 ^ 980*(10 ^ 3000*2 ^ f) < 10 ^ 398*(10 ^ 3000*2 ^ f):=Nat.mul_lt_mul_of_pos_right a2 (Nat.mul_pos (Nat.pow_pos (by decide)) (Nat.two_pow_pos _))
 refine Nat.lt_of_lt_of_le a3 ?_
 rw [← Nat.mul_assoc,← Nat.pow_add]
 exact Nat.mul_le_mul_right _ (Nat.pow_le_pow_right (by decide) (by omega))
set_option exponentiation.threshold 20000 in
theorem big_aux2 {t f:Nat} (htt:∀ a b,a+798=b→10 ^ a*t=10 ^ b):2 ^ 54*10 ^ 3000*2 ^ f*3001 < 10 ^ 2270*2 ^ f*t:=by
 have e1:10 ^ 2270*2 ^ f*t=10 ^ 3068*2 ^ f:=by rw [Nat.mul_right_comm,htt 2270 3068 (by decide)]
 rw [e1]
 have e2:2 ^ 54*10 ^ 3000*2 ^ f*3001=2 ^ 54*3001*10 ^ 3000*2 ^ f:=by
  rw [Nat.mul_right_comm _ (2 ^ f) 3001,Nat.mul_right_comm (2 ^ 54) (10 ^ 3000) 3001]
 rw [e2]
 refine Nat.mul_lt_mul_of_pos_right ?_ (Nat.two_pow_pos _)
 have e3:(10:Nat) ^ 3068=10 ^ 68*10 ^ 3000:=by rw [← Nat.pow_add]
 rw [e3]
 exact Nat.mul_lt_mul_of_pos_right (by decide+kernel) (Nat.pow_pos (by decide))
def CaseB (Y0 Y1 v:Nat) (tr1:Bool):Prop:=v=0∧tr1=false∧Y1=Y0∧10 ^ 2270∣Y0
def CaseA (Y0 Y1 v:Nat) (tr1:Bool):Prop:=10 ^ 2600∣Y0∧Y0 < 10 ^ 3310∧10 ^ 2999≤Y1∧v≤1034∧(∀ w X0,v≤w→Y0=2 ^ w*X0→10 ^ 2940∣X0→Y0 < 10 ^ 3310→tr1=false∧2 ^ v*Y1=Y0)
set_option exponentiation.threshold 20000 in
theorem fin271 {t:Nat} (ht:∀ n,799≤n→10*t≤10 ^ n) (htt:∀ a b,a+798=b→10 ^ a*t=10 ^ b) (t0:100000≤t) {h0:Heap} {b Y0 Y1 v:Nat} {tr1 ng:Bool} {env:T AV} {h:Heap} {Q:PostC} (hv:v≤1040) (hYY:2 ^ v*Y1≤Y0)
  (hcase:CaseB Y0 Y1 v tr1∨CaseA Y0 Y1 v tr1) (hJ:J271b t h0 b Y0 Y1 v tr1 ng env h) (hQ:Out271 h0 b Y0 ng Q):GoP C [.c (seqT 8 B271)] env h (SgQ C B271 [] Q):=by
 obtain ⟨u,y,⟨N,nd,tr,j,rfl,D,Fr0,hn,hdp1,hdp2,R,hj,hu,hu0,hE⟩,hhalf,a0,a1,a5,a6,a7⟩:=hJ
 have hl:=D.len
 obtain ⟨b1,b2⟩:=Dc.yv_bounds (dp:=0) hn.1 D.le hn.2 D.lt (by omega)
 have hy3:Dc.Yv N nd 0 < 10 ^ 3000:=b2
 have hKv:10 ^ 3000*2 ^ v≤2 ^ (u+1)*Y0:=by
  have a1:=Nat.mul_le_mul_right (2 ^ v) hhalf
  have a2:=Nat.mul_le_mul_left 2 R.le
  rw [Nat.mul_assoc] at a1
  have e:2 ^ (u+1)*Y0=2*(2 ^ u*Y0):=by rw [Nat.pow_succ,Nat.mul_comm (2 ^ u) 2,Nat.mul_assoc]
  rw [e]
  exact Nat.le_trans a1 a2
 have hu4:CaseA Y0 Y1 v tr1→u≤4:=fun ⟨_,_,c3,_,_⟩=>by
  have a1:2 ^ u*(2 ^ v*Y1)*t≤2 ^ u*Y0*t:=Nat.mul_le_mul_right _ (Nat.mul_le_mul_left _ hYY)
  have a2:2 ^ u*Y0*t≤Dc.Yv N nd 0*2 ^ v*(t+j):=R.near
  have a3:Dc.Yv N nd 0*2 ^ v*(t+j)≤10 ^ 3000*2 ^ v*(2*t):=Nat.mul_le_mul (Nat.mul_le_mul_right _ (Nat.le_of_lt hy3)) (by omega)
  have a4:2 ^ u*(2 ^ v*10 ^ 2999)*t≤2 ^ u*(2 ^ v*Y1)*t:=Nat.mul_le_mul_right _ (Nat.mul_le_mul_left _ (Nat.mul_le_mul_left _ c3))
  have a5:=Nat.le_trans a4 (Nat.le_trans a1 (Nat.le_trans a2 a3))
  have e1:(10:Nat) ^ 3000=10 ^ 2999*10:=by rw [← Nat.pow_succ]
  rw [e1] at a5
  have e2:∀ Z:Nat,2 ^ u*(2 ^ v*Z)*t=2 ^ u*(2 ^ v*Z*t):=fun Z=>Nat.mul_assoc ..
  have e3:∀ Z:Nat,Z*10*2 ^ v*(2*t)=20*(2 ^ v*Z*t):=fun Z=>by
   have:Z*10*2 ^ v*(2*t)=10*2*(2 ^ v*Z*t):=by ac_rfl
   rw [this]
  rw [e2,e3] at a5
  have a6:=Nat.le_of_mul_le_mul_right a5 (Nat.mul_pos (Nat.mul_pos (Nat.two_pow_pos v) (Nat.pow_pos (by decide))) (by omega))
  have a7:2 ^ u < 2 ^ 5:=by have:(2:Nat) ^ 5=32:=rfl;omega
  have:=(Nat.pow_lt_pow_iff_right (a:=2) (by decide)).1 a7
  clear a1 a2 a3 a4 a5 a6 a7 hKv hhalf b1 b2 hy3 hE R c3 hcase hYY
  omega
 have w1:wrapF .i64 ((v:Int) - u - 1)=(v:Int) - u - 1:=i64_wrap (by omega) (by omega)
 have w2:wrapF .i64 (-1023+1)=-1022:=by decide
 have e1:seqT 8 B271=.seq (seqH (seqT 8 B271)) (.seq (seqH (seqT 9 B271)) (seqT 10 B271)):=rfl
 rw [e1]
 by_cases c:u≤v+1021
 ·
  obtain ⟨g,hg⟩:∃ g:Nat,g+u=v+1021:=⟨v+1021 - u,by omega⟩
  have hpost:∀ env:T AV,env.at 0=.ref b 0→env.at 1=.iptr false L10→env.at 5=.bool false→env.at 6=.int .i64 ((g:Int) - 1022)→GoP C [.c (seqT 10 B271)] env h (SgQ C B271 [] Q):=by
   intro env b0 b1' b5 b6
   rcases hcase with ⟨rfl,rfl,rfl,hd⟩|hA
   ·refine post271 ht t0 (g:=g) (u:=u) (v:=0) (n:=0) (D:=10 ^ 2270*2 ^ 0) (by omega) (by omega) D Fr0 hn (by omega) (by omega) R (by omega) hy3 (.inr ⟨rfl,hKv⟩) ?_ ?_ (big_aux2 htt) (fun g' hg'=>?_) b0 b1' b5 b6 hQ
    ·rw [Nat.pow_zero,Nat.mul_one];exact Nat.dvd_trans hd (Nat.dvd_trans (Nat.dvd_mul_left _ _) (Nat.dvd_mul_left _ _))
    ·exact Nat.mul_dvd_mul (Nat.pow_dvd_pow 10 (by decide)) (Nat.dvd_refl _)
    ·obtain ⟨q1,q2⟩:=hE 2270 rfl hd (by decide)
     exact ⟨q1,2270,by decide,by rw [q2];exact Nat.dvd_trans hd (Nat.dvd_mul_left _ _)⟩
   ·have hu4':=hu4 hA
    obtain ⟨hd,c2,c3,c4,hE1⟩:=hA
    obtain ⟨f,hf⟩:∃ f,min v (u+54)=f:=⟨_,rfl⟩
    refine post271 ht t0 (g:=g) (u:=u) (v:=v) (n:=0) (D:=10 ^ 2600*2 ^ f) (by omega) (by omega) D Fr0 hn (by omega) (by omega) R (by omega) hy3 (.inr ⟨rfl,hKv⟩) ?_ ?_ (big_aux htt (.inr trivial) ?_ (by decide)) (fun g' hg'=>?_) b0 b1' b5 b6 hQ
    ·have:2*(2 ^ (u+53)*Y0)=Y0*2 ^ (u+54):=by rw [Nat.pow_succ 2 (u+53),← Nat.mul_assoc,Nat.mul_comm 2,Nat.mul_comm Y0]
     rw [this]
     exact Nat.mul_dvd_mul hd (Nat.pow_dvd_pow 2 (by omega))
    ·exact Nat.mul_dvd_mul (Nat.pow_dvd_pow 10 (by decide)) (Nat.pow_dvd_pow 2 (by omega))
    ·rw [← Nat.pow_add];exact Nat.pow_le_pow_right (by decide) (by omega)
    ·
     have h1:2 ^ 58*Y0=g'*2 ^ (4 - u)*10 ^ 3000*2 ^ v:=by
      have e2:(2:Nat) ^ 58=2 ^ (4 - u)*(2*2 ^ (u+53)):=by rw [← Nat.pow_succ',← Nat.pow_add];congr 1;omega
      have hg'':2*(2 ^ (u+53)*Y0)=g'*10 ^ 3000*2 ^ v:=hg'
      rw [e2,Nat.mul_assoc,Nat.mul_assoc 2,hg'']
      have:∀ K:Nat,2 ^ (4 - u)*(g'*K*2 ^ v)=g'*2 ^ (4 - u)*K*2 ^ v:=fun K=>by ac_rfl
      exact this _
     have h2:=half_dvd (Z:=0) (e:=2942) (by decide) h1
     have hdX:10 ^ 2940∣g'*2 ^ (4 - u)*5 ^ 58*10 ^ 2942:=Nat.dvd_trans (Nat.pow_dvd_pow 10 (by decide)) (Nat.dvd_mul_left _ _)
     obtain ⟨q1,q2⟩:=hE1 v _ (Nat.le_refl _) h2 hdX c2
     have q3:Y1=g'*2 ^ (4 - u)*5 ^ 58*10 ^ 2942:=Nat.eq_of_mul_eq_mul_left (Nat.two_pow_pos v) (q2.trans h2)
     have hd1:10 ^ 2940∣Y1:=by rw [q3];exact hdX
     obtain ⟨q4,q5⟩:=hE 2940 q1 hd1 (by decide)
     exact ⟨q4,2940,by decide,by rw [q5];exact Nat.dvd_trans hd1 (Nat.dvd_mul_left _ _)⟩
  generalize hT:seqT 10 B271=TT at hpost ⊢
  generalize hB:SgQ C B271 [] Q=QQ at hpost ⊢
  simp only [B271,X271,seqT,seqH]
  simp (decide:=true) only [BZ,a1,a6,L10,nilchk_iptr,List.drop_succ_cons,List.drop_zero,ld1_iptr,w1,w2,decide_eq_false (show ¬ ((v:Int) - u - 1 < -1022) by omega)]
  refine hpost _ ?_ ?_ ?_ ?_ <;> simp (decide:=true) only [BZ,a0,a1,a5]
  omega
 ·
  have hB:CaseB Y0 Y1 v tr1:=by
   rcases hcase with h|h
   ·exact h
   ·have:=hu4 h;omega
  obtain ⟨rfl,rfl,rfl,hd⟩:=hB
  obtain ⟨n,hnn⟩:∃ n:Nat,n+1021=u:=⟨u - 1021,by omega⟩
  obtain ⟨q1,q2⟩:=hE 2270 rfl hd (by decide)
  obtain ⟨h2,m,hd2,⟨N',nd',dp',tr',D',F',hn',l1,l2,R',hm10,⟨y1,y2⟩,hE'⟩,m0,m60⟩:=s219R ht t0 (b:=b) (k:=n) (Nat.two_pow_pos _) (by omega) D hn R (by omega) (by omega) (by omega) (by omega)
  have hpost:∀ env:T AV,env.at 0=.ref b 0→env.at 1=.iptr false L10→env.at 5=.bool false→env.at 6=.int .i64 (((0:Nat):Int) - 1022)→GoP C [.c (seqT 10 B271)] env h2 (SgQ C B271 [] Q):=by
   intro env b0 b1' b5 b6
   have R2:Dc.Rl t (2 ^ u*Y1) (2 ^ (0+n)) (j+m) (Dc.Yv N' nd' dp') tr':=by
    rw [Nat.pow_zero,Nat.mul_one] at R';rw [Nat.zero_add];exact R'
   refine post271 ht t0 (g:=0) (u:=u) (v:=0) (n:=n) (D:=10 ^ 2270*2 ^ (0+n)) (by omega) (by omega) D' (Fr0.trans F') hn' (by omega) (by omega) R2 (by omega) ?_ (.inl rfl) ?_ ?_ (big_aux2 htt) (fun g' hg'=>?_) b0 b1' b5 b6 hQ
   ·exact Nat.lt_of_le_of_lt (Nat.le_trans (Nat.le_mul_of_pos_left _ (Nat.two_pow_pos n)) y1) hy3
   ·have:2*(2 ^ (u+53)*Y1)=Y1*2 ^ (u+54):=by rw [Nat.pow_succ 2 (u+53),← Nat.mul_assoc,Nat.mul_comm 2,Nat.mul_comm Y1]
    rw [this]
    exact Nat.mul_dvd_mul hd (Nat.pow_dvd_pow 2 (by omega))
   ·exact Nat.mul_dvd_mul (Nat.pow_dvd_pow 10 (by decide)) (Nat.dvd_refl _)
   ·have h1:2 ^ 54*(2 ^ u*Y1)=g'*10 ^ 3000*2 ^ n:=by
     have hg'':2*(2 ^ (u+53)*Y1)=g'*10 ^ 3000*2 ^ (0+n):=hg'
     rw [Nat.zero_add] at hg''
     rw [← hg'',← Nat.mul_assoc,← Nat.mul_assoc,← Nat.pow_add,← Nat.pow_succ']
     congr 2;omega
    have h3:=half_dvd (Z:=0) (e:=2946) (by decide) h1
    rw [← q2] at h3
    have hdX:10 ^ 2946∣g'*5 ^ 54*10 ^ 2946:=Nat.dvd_mul_left _ _
    obtain ⟨f1,f2⟩:=hE' 2946 _ q1 h3.symm hdX (Nat.lt_of_lt_of_le hy3 (Nat.pow_le_pow_right (by decide) (by decide)))
    have f3:Dc.Yv N' nd' dp' =g'*5 ^ 54*10 ^ 2946:=Nat.eq_of_mul_eq_mul_left (Nat.two_pow_pos n) (f2.trans h3)
    exact ⟨f1,2946,by decide,by rw [f3];exact hdX⟩
  generalize hT:seqT 10 B271=TT at hpost ⊢
  generalize hB:SgQ C B271 [] Q=QQ at hpost ⊢
  have w3:wrapF .i64 (-1022 - (((0:Nat):Int) - u - 1))=(n:Int):=by rw [i64_wrap (by omega) (by omega)];omega
  have w4:wrapF .i64 (0 - (n:Int))=-(n:Int):=by rw [i64_wrap (by omega) (by omega)];omega
  have w5:wrapF .i64 (((0:Nat):Int) - u - 1+n)=((0:Nat):Int) - 1022:=by rw [i64_wrap (by omega) (by omega)];omega
  clear hE' y1 y2 R R' hKv hhalf b1 b2 hd hu4 hQ hE q1 q2 hy3
  simp only [B271,X271,seqT,seqH]
  simp (decide:=true) only [BZ,a0,a1,a6,L10,nilchk_iptr,List.drop_succ_cons,List.drop_zero,ld1_iptr,w1,w2,decide_eq_true (show (((0:Nat):Int) - u - 1 < -1022) by omega),w3,w4,callG_of hd2,w5]
  refine hpost _ ?_ ?_ ?_ ?_ <;> simp (decide:=true) only [BZ,a0,a1,a5]
end Go.Proofs.YtmadknpaljaecaaGreatDoor.Ev.D
namespace Go.Proofs.YtmadknpaljaecaaGreatDoor.Ev.D
open Go Go.Proofs.YtmadknpaljaecaaGreatDoor.Ev
set_option maxRecDepth 100000
set_option exponentiation.threshold 20000 in
theorem s271 {h:Heap} {b N nd:Nat} {dp:Int} {ng:Bool} (D:DV h b N nd dp ng false) (hn:Nrm N nd) (h400:nd≤400) (d1:-1000≤dp) (d2:dp≤1000):
  ∃ v h',Does C 271 [.ref b 0,.iptr false L10] h v h'∧∃ r ovf,v=.tup [.int .u64 (((if ng then 9223372036854775808 else 0)+r:Nat):Int),.bool ovf]∧Us.Near (Us.nn N (dp - nd)) (Us.mm (dp - nd)) r∧Fr h h' b:=by
 refine does_anyE (fn:=X271) rfl rfl rfl ?_
 obtain ⟨t,ht,htt,t0⟩:∃ t:Nat,(∀ n,799≤n→10*t≤10 ^ n)∧(∀ a b,a+798=b→10 ^ a*t=10 ^ b)∧100000≤t:=
  ⟨10 ^ 798,fun n hn=>by rw [← Nat.pow_succ'];exact Nat.pow_le_pow_right (by decide) hn,fun a b hab=>by rw [← Nat.pow_add,hab],Nat.le_trans (by decide:100000≤10 ^ 5) (Nat.pow_le_pow_right (by decide) (by decide))⟩
 have hl:=D.len
 obtain ⟨Y0,hY0⟩:∃ Y0,Dc.Yv N nd dp=Y0:=⟨_,rfl⟩
 obtain ⟨b1,b2⟩:=Dc.yv_bounds (dp:=dp) hn.1 D.le hn.2 D.lt (by omega)
 rw [hY0] at b1 b2
 obtain ⟨Q,hQe⟩:∃ Q:PostC,Q=fun e env h2=>∃ v,Back X271.results false v e env h2∧∃ r ovf,v=.tup [.int .u64 (((if ng then 9223372036854775808 else 0)+r:Nat):Int),.bool ovf]∧Us.Near (Us.nn N (dp - nd)) (Us.mm (dp - nd)) r∧Fr h h2 b:=⟨_,rfl⟩
 rw [← hQe]
 have hQ:Out271 h b Y0 ng Q:=by
  intro env' h' r ovf hnear q4 q5 hfr
  rw [hQe]
  refine ⟨_,back2f.2 ⟨q4,q5⟩,r,ovf,rfl,?_,hfr⟩
  refine Dc.near_yv (by omega) ?_
  rw [hY0];exact hnear
 clear hQe
 have eX:X271.body=.seq (seqH X271.body) (.scope B271):=rfl
 rw [eX]
 have seg2:∀ (env:T AV) (h2:Heap) (v Y1:Nat) (tr1:Bool) (j:Nat) (N1 nd1:Nat) (dp1:Int),v≤1040→10 ^ 2669≤Y1→2 ^ v*Y1≤Y0→(CaseB Y0 Y1 v tr1∨CaseA Y0 Y1 v tr1)→Y1=Dc.Yv N1 nd1 dp1→DV h2 b N1 nd1 dp1 ng tr1→Fr h h2 b→Nrm N1 nd1→-331≤dp1→dp1≤0→Dc.Rl t Y0 (2 ^ v) j Y1 tr1→j≤400→
   env.at 0=.ref b 0→env.at 1=.iptr false L10→env.at 5=.bool false→env.at 6=.int .i64 (v:Int)→env.at 7=.int .u64 0→
   GoP C [.c (.seq (.block 2 (.loop M271)) (seqT 8 B271))] env h2 (SgQ C B271 [] Q):=by
  intro env h2 v Y1 tr1 j N1 nd1 dp1 hv hY1 hYY hcase hYe D1 F1 hn1 l1 l2 R hj a0 a1 a5 a6 a7
  have hlt:Y1 < 10 ^ 3000:=by
   obtain ⟨_,c2⟩:=Dc.yv_bounds (dp:=dp1) hn1.1 D1.le hn1.2 D1.lt (by omega)
   rw [hYe]
   exact Nat.lt_of_lt_of_le c2 (Nat.pow_le_pow_right (by decide) (by omega))
  refine go_seq.2 (go_block.2 (go_lp (I271b t h b Y0 Y1 v tr1 ng) (J271b t h b Y0 Y1 v tr1 ng) (n:=10 ^ 3000 - Y1) ⟨0,Y1,dp1,Nat.sub_add_cancel (Nat.le_of_lt hlt),⟨N1,nd1,tr1,j,hYe,D1,F1,hn1,l1,l2,by rw [Nat.pow_zero,Nat.one_mul];exact R,by omega,by omega,fun _=>rfl,fun e q1 _ _=>⟨q1,by rw [Nat.pow_zero,Nat.one_mul]⟩⟩,a0,a1,a5,by rw [a6,show ((v:Int) - ((0:Nat):Int))=v by omega],a7⟩ (fun n env h hI=>body271b ht t0 hv hY1 hYY n env h hI) (fun env h hJ=>fin271 ht htt t0 hv hYY hcase hJ hQ)))
 have o0:∀ (env:T AV),Us.Near (Y0*2 ^ 1074) (10 ^ 3000) 0→env.at 0=.ref b 0→env.at 1=.iptr false L10→env.at 5=.bool false→env.at 6=.int .i64 (-1023)→env.at 7=.int .u64 0→SgQ C B271 [] Q (.goto 0) env h:=
  fun env hnear a0 a1 a5 a6 a7=>(sgQ_goto O271_ok).2 (go_scopeAt (out271 (ng:=ng) (ovf:=false) (m:=0) (x:=0) hl D.ng (by decide) (by decide) a0 a1 a5 a6 a7 fun env' q4 q5=>sgQ_ret.2 (hQ env' h 0 false hnear q4 q5 (Fr.refl _ _))))
 have o1:∀ (env:T AV),Us.Near (Y0*2 ^ 1074) (10 ^ 3000) Fl.inf→env.at 0=.ref b 0→env.at 1=.iptr false L10→SgQ C B271 [] Q (.goto 1) env h:=
  fun env hnear a0 a1=>(sgQ_goto V271_ok).2 (go_scopeAt (ovf271 (ng:=ng) hl D.ng a0 a1 fun env' q4 q5=>sgQ_ret.2 (hQ env' h _ true hnear q4 q5 (Fr.refl _ _))))
 have lp1:=fun env h2 n hI=>body271 ht t0 (h0:=h) (b:=b) (Y0:=Y0) (ng:=ng) (Q:=SgQ C B271 [] Q) (n:=n) (env:=env) (h:=h2) (hI:=hI)
 have eB:GoP C [.c B271]=GoP C [.c (.seq (seqH B271) (.seq (seqH (seqT 1 B271)) (.seq (seqH (seqT 2 B271)) (.seq (seqH (seqT 3 B271)) (.seq (seqH (seqT 4 B271)) (.seq (seqH (seqT 5 B271)) (.seq (.block 0 (.loop L271)) (.seq (.block 2 (.loop M271)) (seqT 8 B271)))))))))]:=by rw [← X271_ok]
 have start:GoP C [.c (seqH X271.body),.c (.scope B271)] (initEnv [.ref b 0,.iptr false L10] 0 .nil) h Q:=by
  simp only [X271,seqH]
  simp (decide:=true) only [BZ]
  refine go_scopeG (go_scopeAt ?_)
  rw [eB]
  clear eB hQ
  generalize hL:L271=Lp at lp1 ⊢
  generalize hM:M271=Mp at seg2 ⊢
  generalize hT:seqT 8 B271=TT at seg2 ⊢
  generalize hB:SgQ C B271 [] Q=QQ at seg2 o0 o1 lp1 ⊢
  simp only [B271,X271,seqT,seqH]
  have hnd:=hn.1
  have n0:=decide_eq_false (show ¬ (nd:Int)=0 by omega)
  by_cases c1:310 < dp
  ·have hnear:Us.Near (Y0*2 ^ 1074) (10 ^ 3000) Fl.inf:=by
    refine near_inf ?_
    rw [V_inf]
    have a1:10 ^ 3310≤Y0:=Nat.le_trans (Nat.pow_le_pow_right (by decide) (by omega)) b1
    refine Nat.le_trans ?_ (Nat.mul_le_mul_right _ a1)
    have e:(10:Nat) ^ 3310=10 ^ 3000*10 ^ 310:=by rw [← Nat.pow_add]
    rw [e,Nat.mul_assoc]
    exact Nat.mul_le_mul_left _ (by decide+kernel)
   simp (decide:=true) only [BZ,ld1_cell (show 800 < h.len b by omega),D.nd,n0,ld1_cell (show 801 < h.len b by omega),D.dp,decide_eq_true c1,go_goto]
   refine o1 _ hnear ?_ ?_ <;> simp (decide:=true) only [BZ]
  ·have c1':=decide_eq_false c1
   by_cases c2:dp < -330
   ·have hnear:Us.Near (Y0*2 ^ 1074) (10 ^ 3000) 0:=by
     refine Us.zero_near ?_
     have a1:Y0 < 10 ^ 2669:=Nat.lt_of_lt_of_le b2 (Nat.pow_le_pow_right (by decide) (by omega))
     have e:(10:Nat) ^ 3000=10 ^ 2669*10 ^ 331:=by rw [← Nat.pow_add]
     rw [e,Nat.mul_left_comm]
     exact Nat.mul_lt_mul_of_lt_of_le a1 (by decide+kernel) (Nat.pow_pos (by decide))
    simp (decide:=true) only [BZ,ld1_cell (show 800 < h.len b by omega),D.nd,n0,ld1_cell (show 801 < h.len b by omega),D.dp,c1',decide_eq_true c2,nilchk_iptr,L10,List.drop_succ_cons,List.drop_zero,ld1_iptr,go_goto]
    refine o0 _ hnear ?_ ?_ ?_ ?_ ?_ <;> simp (decide:=true) only [BZ]
    rfl
   ·have hR0:Dc.Rl t Y0 (2 ^ 0) 0 Y0 false:=Dc.Rl.exact (by rw [Nat.pow_zero,Nat.mul_one])
    have c2':=decide_eq_false c2
    by_cases c3:0 < dp
    ·
     have hlt:Y0 < 10 ^ 3310:=Nat.lt_of_lt_of_le b2 (Nat.pow_le_pow_right (by decide) (by omega))
     have lp1:=fun env h2 n hI=>lp1 env h2 n hI hlt
     simp (decide:=true) only [BZ,ld1_cell (show 800 < h.len b by omega),D.nd,n0,ld1_cell (show 801 < h.len b by omega),D.dp,c1',c2']
     refine go_lp (I271 t h b Y0 ng) (J271 t h b Y0 ng) (n:=Y0) ⟨0,dp,⟨N,nd,false,0,hY0.symm,D,Fr.refl _ _,hn,by omega,hR0,by omega,by omega,fun w X0 _ _ _ _=>⟨rfl,by rw [Nat.pow_zero,Nat.one_mul]⟩⟩,by omega,?_⟩ (fun n env h2 hI=>lp1 env h2 n hI) ?_
     ·simp (decide:=true) only [BZ]
      all_goals rfl
     ·rintro env2 h2 ⟨v,Y1,⟨N1,nd1,tr1,j1,hY1e,D1,F1,hn1,l1,R1,hj,hv,hE1⟩,a0,a1,a5,a6,a7⟩
      obtain ⟨q1,q2⟩:=Dc.yv_bounds (dp:=0) hn1.1 D1.le hn1.2 D1.lt (by omega)
      rw [← hY1e] at q1 q2
      have q1':10 ^ 2999≤Y1:=q1
      have hle:2 ^ v*Y1≤Y0:=by rw [Nat.mul_comm];exact R1.le
      have hv34:v≤1034:=by
       have a2:2 ^ v*10 ^ 2999 < 10 ^ 311*10 ^ 2999:=by
        rw [← Nat.pow_add]
        exact Nat.lt_of_le_of_lt (Nat.mul_le_mul_left _ q1') (Nat.lt_of_le_of_lt hle hlt)
       have a3:=Nat.lt_of_mul_lt_mul_right a2
       have a4:2 ^ v < 2 ^ 1034:=Nat.lt_of_lt_of_le a3 (by decide+kernel)
       have:=(Nat.pow_lt_pow_iff_right (a:=2) (by decide)).1 a4
       clear a2 a3 a4 hlt q1' q1 q2 b1 b2
       omega
      refine seg2 env2 h2 v Y1 tr1 j1 N1 nd1 0 hv (Nat.le_trans (Nat.pow_le_pow_right (by decide) (by decide)) q1') hle (.inr ⟨?_,hlt,q1',hv34,hE1⟩) hY1e D1 F1 hn1 (by omega) (by omega) R1 (by omega) a0 a1 a5 a6 a7
      rw [← hY0]
      exact Nat.dvd_trans (Nat.pow_dvd_pow 10 (by omega)) (Nat.dvd_mul_left _ _)
    ·simp (decide:=true) only [BZ,ld1_cell (show 800 < h.len b by omega),D.nd,n0,ld1_cell (show 801 < h.len b by omega),D.dp,c1',c2']
     refine go_lp (fun _ env h2=>h2=h∧env.at 0=.ref b 0∧env.at 1=.iptr false L10∧env.at 5=.bool false∧env.at 6=.int .i64 0∧env.at 7=.int .u64 0) (fun env h2=>h2=h∧env.at 0=.ref b 0∧env.at 1=.iptr false L10∧env.at 5=.bool false∧env.at 6=.int .i64 0∧env.at 7=.int .u64 0) (n:=0) ⟨rfl,?_⟩ ?_ ?_
     ·simp (decide:=true) only [BZ]
      all_goals trivial
     ·rintro n env2 h2 ⟨rfl,a0,a1,a5,a6,a7⟩
      rw [← hL]
      simp only [L271,B271,X271,seqT,seqH,blkB,loopB]
      simp (decide:=true) only [BZ,a0,ld1_cell (show 801 < h2.len b by omega),D.dp,decide_eq_false c3]
      exact ⟨a1,a5,a6,a7⟩
     ·rintro env2 h2 ⟨rfl,a0,a1,a5,a6,a7⟩
      refine seg2 env2 h2 0 Y0 false 0 N nd dp (by omega) (Nat.le_trans (Nat.pow_le_pow_right (by decide) (by omega)) b1) (by rw [Nat.pow_zero,Nat.one_mul];exact Nat.le_refl _) (.inl ⟨rfl,rfl,rfl,?_⟩) hY0.symm D (Fr.refl _ _) hn (by omega) (by omega) hR0 (by omega) a0 a1 a5 a6 a7
      rw [← hY0]
      exact Nat.dvd_trans (Nat.pow_dvd_pow 10 (by omega)) (Nat.dvd_mul_left _ _)
 exact go_seq.2 start
end Go.Proofs.YtmadknpaljaecaaGreatDoor.Ev.D
namespace Go.Proofs.YtmadknpaljaecaaGreatDoor.Ev.D
open Go Go.Proofs.YtmadknpaljaecaaGreatDoor.Ev
set_option maxRecDepth 100000
def dvp:List UInt8→Nat→Nat
 |[],v=>v
 |c::r,v=>dvp r (if c=46 then v else v*10+(c.toNat - 48))
theorem DV.push {h:Heap} {b N nd g:Nat} {dp:Int} {ng tr:Bool} (D:DV h b N nd dp ng tr) (hg:g < 10) (h8:nd < 800):
  DV ((h.stB b nd (.int .u8 ((48+g:Nat):Int))).stB b 800 (.int .i64 ((nd+1:Nat):Int))) b (10*N+g) (nd+1) dp ng tr:=by
 have hl:=D.len
 refine ⟨by rw [Heap.stB_len,Heap.stB_len,hl],h8,?_,fun i hi=>?_,?_,?_,?_,?_⟩
 ·have:=D.lt;rw [Nat.pow_succ];omega
 ·rw [stB_ne (by rw [Heap.stB_len];omega) (by omega)]
  by_cases he:i=nd
  ·subst he;rw [stB_at (by omega),dgt_top hg]
  ·rw [stB_ne (by omega) he,dgt_push hg (by omega)];exact D.d i (by omega)
 ·rw [stB_at (by rw [Heap.stB_len];omega)]
 ·rw [stB_ne (by rw [Heap.stB_len];omega) (by decide),stB_ne (by omega) (by omega)];exact D.dp
 ·rw [stB_ne (by rw [Heap.stB_len];omega) (by decide),stB_ne (by omega) (by omega)];exact D.ng
 ·rw [stB_ne (by rw [Heap.stB_len];omega) (by decide),stB_ne (by omega) (by omega)];exact D.tr
def B270:XCode:=seqT 7 X270.body
def T270:XCode:=seqT 1 B270
def L270:XCode:=loopB (blkB (seqH T270))
def E270:XCode:=condA (seqT 1 (seqH (seqT 3 T270)))
def M270:XCode:=loopB (blkB (seqH (seqT 6 E270)))
theorem T270_ok:(match T270 with|.seq (.block 1 (.loop _)) _=>true|_=>false)=true:=rfl
theorem E270_ok:(match seqT 6 E270 with|.seq (.block 5 (.loop _)) _=>true|_=>false)=true:=rfl
def S270 (h0:Heap) (b:Nat) (l:List UInt8) (ng:Bool) (st:Rf.St) (D i:Nat) (env:T AV) (h:Heap):Prop:=
 (i≤l.length∧st.nd≤i∧-(i:Int)≤st.dp∧st.dp≤i∧DV h b D st.nd st.dp ng false∧Fr h0 h b)∧
 env.at 0=.ref b 0∧env.at 1=.str (BStr.ofBytes l)∧env.at 4=.bool false∧env.at 5=.int .i64 (i:Int)∧env.at 6=.bool st.dot∧env.at 7=.bool st.saw
def I270 (h0:Heap) (b:Nat) (l post:List UInt8) (ng:Bool) (F:Rf.St) (DF:Nat) (n:Nat) (env:T AV) (h:Heap):Prop:=
 ∃ st D rest i,l.drop i=rest++post∧Rf.fin st rest=F∧dvp rest D=DF∧Rf.okM st.dot rest=true∧rest.length=n∧S270 h0 b l ng st D i env h
def J270 (h0:Heap) (b:Nat) (l post:List UInt8) (ng:Bool) (F:Rf.St) (DF:Nat) (env:T AV) (h:Heap):Prop:=
 ∃ i,l.drop i=post∧S270 h0 b l ng F DF i env h
theorem body270 {h0:Heap} {b:Nat} {l post:List UInt8} {ng:Bool} {F:Rf.St} {DF:Nat} {Q:PostC} (hl:l.length≤700) (hp:post=[]∨∃ r,post=101::r) (n:Nat) (env:T AV) (h:Heap) (hI:I270 h0 b l post ng F DF n env h):
  GoP C [.c (match L270 with|c=>c)] env h (LpQ 1 (I270 h0 b l post ng F DF) n (J270 h0 b l post ng F DF) Q):=by
 obtain ⟨st,D,rest,i,hd,hf,hv,hk,hn,⟨i0,d0,d1,d2,DD,Fr0⟩,a0,a1,a4,a5,a6,a7⟩:=hI
 have hlen:=DD.len
 have wi:wrapF .i64 ((i:Int)+1)=((i+1:Nat):Int):=by rw [i64_wrap (by omega) (by omega)];rfl
 cases rest with
 |nil=>
  have hF:st=F:=hf
  have hD:D=DF:=hv
  subst hF hD
  rcases hp with rfl|⟨r,rfl⟩
  ·have hil:=drop_nil hd
   simp only [L270,T270,B270,X270,seqT,seqH,blkB,loopB]
   simp (decide:=true) only [BZ,a1,a5,decide_eq_false (show ¬ (i:Int) < (l.length:Int) by omega)]
   refine ⟨i,hd,?_⟩
   simp (decide:=true) only [BZ,S270,a0,a1,a4,a5,a6,a7]
   exact ⟨i0,d0,d1,d2,DD,Fr0⟩
  ·obtain ⟨hil,hc,hd'⟩:=drop_cons hd
   simp only [L270,T270,B270,X270,seqT,seqH,blkB,loopB]
   simp (decide:=true) only [BZ,a1,a5,a6,decide_eq_true (show (i:Int) < (l.length:Int) by omega),ixS_drop hd,show (101:UInt8).toNat=101 from rfl,show ((101:Nat):Int)=101 from rfl]
   refine ⟨i,hd,?_⟩
   simp (decide:=true) only [BZ,S270,a0,a1,a4,a5,a6,a7]
   exact ⟨i0,d0,d1,d2,DD,Fr0⟩
 |cons c r=>
  obtain ⟨hil,hc,hd'⟩:=drop_cons hd
  have hlt:=decide_eq_true (show (i:Int) < (l.length:Int) by omega)
  by_cases c46:c=46
  ·subst c46
   rw [Rf.okM,if_pos rfl,Bool.and_eq_true,Bool.not_eq_true'] at hk
   rw [hk.1] at a6
   simp only [L270,T270,B270,X270,seqT,seqH,blkB,loopB]
   simp (decide:=true) only [BZ,a0,a1,a5,a6,hlt,ixS_drop hd,show (46:UInt8).toNat=46 from rfl,show ((46:Nat):Int)=46 from rfl,ld1_cell (show 800 < h.len b by omega),DD.nd,st1_cell (show 801 < h.len b by omega) okc_int,wi]
   refine ⟨r.length,by rw [← hn];exact Nat.lt_succ_self _,Rf.stp st 46,D,r,i+1,hd',hf,hv,?_,rfl,?_⟩
   ·unfold Rf.stp;rw [if_pos rfl];exact hk.2
   ·unfold Rf.stp;rw [if_pos rfl]
    simp (decide:=true) only [BZ,S270,a0,a1,a4,a5,a6,a7]
    exact ⟨by omega,by omega,by omega,by omega,DD.setDp _,Fr0.st⟩
  ·rw [Rf.okM,if_neg c46,Bool.and_eq_true] at hk
   obtain ⟨k1,k2⟩:=isD_iff.1 hk.1
   have e95:=decide_eq_false (show ¬ ((c.toNat:Nat):Int)=95 by omega)
   have e46:=decide_eq_false (show ¬ ((c.toNat:Nat):Int)=46 by omega)
   have e48:=decide_eq_true (show (48:Int)≤((c.toNat:Nat):Int) by omega)
   have e57:=decide_eq_true (show ((c.toNat:Nat):Int)≤57 by omega)
   have hz:c=48↔c.toNat=48:=⟨fun h=>by rw [h];rfl,fun h=>UInt8.toNat_inj.1 h⟩
   have hvn:dvp r (D*10+(c.toNat - 48))=DF:=by rw [← hv,dvp,if_neg c46]
   by_cases z:c=48∧st.nd=0
   ·have ez:=decide_eq_true (show ((c.toNat:Nat):Int)=48 by have:=hz.1 z.1;omega)
    have en:=decide_eq_true (show (st.nd:Int)=0 by omega)
    have hs:Rf.stp st c={ st with saw:=true,dp:=st.dp - 1 }:=by unfold Rf.stp;rw [if_neg c46,if_pos z]
    have hD0:D=0:=by have:=DD.lt;rw [z.2] at this;simpa using this
    have w1:wrapF .i64 (st.dp - 1)=st.dp - 1:=i64_wrap (by omega) (by omega)
    simp only [L270,T270,B270,X270,seqT,seqH,blkB,loopB]
    simp (decide:=true) only [BZ,a0,a1,a5,a6,hlt,ixS_drop hd,e95,e46,e48,e57,ez,ld1_cell (show 800 < h.len b by omega),DD.nd,en,ld1_cell (show 801 < h.len b by omega),DD.dp,w1,st1_cell (show 801 < h.len b by omega) okc_int,wi]
    refine ⟨r.length,by rw [← hn];exact Nat.lt_succ_self _,Rf.stp st c,D,r,i+1,hd',hf,?_,by rw [hs];exact hk.2,rfl,?_⟩
    ·rw [← hvn,hD0];have:=hz.1 z.1;congr 1;omega
    ·rw [hs]
     simp (decide:=true) only [BZ,S270,a0,a1,a4,a5,a6,a7]
     exact ⟨by omega,by omega,by omega,by omega,DD.setDp _,Fr0.st⟩
   ·have ez:(decide (((c.toNat:Nat):Int)=48)=true∧decide ((st.nd:Int)=0)=false)∨decide (((c.toNat:Nat):Int)=48)=false:=by
     by_cases h1:c=48
     ·exact .inl ⟨decide_eq_true (by have:=hz.1 h1;omega),decide_eq_false (fun h=>z ⟨h1,by omega⟩)⟩
     ·exact .inr (decide_eq_false fun h=>h1 (hz.2 (by omega)))
    have w1:wrapF .i64 ((st.nd:Int)+1)=((st.nd+1:Nat):Int):=by rw [i64_wrap (by omega) (by omega)];rfl
    have hs:(Rf.stp st c).dot=st.dot∧(Rf.stp st c).saw=true∧(Rf.stp st c).nd=st.nd+1∧(Rf.stp st c).dp=st.dp:=by
     unfold Rf.stp
     rw [if_neg c46,if_neg z]
     split <;> exact ⟨rfl,rfl,rfl,rfl⟩
    have hP:=DD.push (g:=c.toNat - 48) (by omega) (by omega)
    rw [show 48+(c.toNat - 48)=c.toNat by omega,show 10*D+(c.toNat - 48)=D*10+(c.toNat - 48) by omega] at hP
    simp only [L270,T270,B270,X270,seqT,seqH,blkB,loopB]
    rcases ez with ⟨ez,en⟩|ez
    all_goals
     first
     |simp (decide:=true) only [BZ,a0,a1,a5,a6,hlt,ixS_drop hd,e95,e46,e48,e57,ez,ld1_cell (show 800 < h.len b by omega),DD.nd,en,decide_eq_true (show (st.nd:Int) < 800 by omega)]
     |simp (decide:=true) only [BZ,a0,a1,a5,a6,hlt,ixS_drop hd,e95,e46,e48,e57,ez,ld1_cell (show 800 < h.len b by omega),DD.nd,decide_eq_true (show (st.nd:Int) < 800 by omega)]
     refine go_drawW rfl ?_
     simp (decide:=true) only [BZ,a0,a1,a5,ixS_drop hd,ld1_cell (show 800 < h.len b by omega),DD.nd,iaA_ref (show st.nd < 800 by omega),Nat.mul_one,st1_cell (show st.nd < h.len b by omega) okc_int,ld1_cell (show 800 < (h.stB b st.nd (.int .u8 ((c.toNat:Nat):Int))).len b by rw [Heap.stB_len];omega),stB_ne (show st.nd < h.len b by omega) (show 800≠st.nd by omega),w1,st1_cell (show 800 < (h.stB b st.nd (.int .u8 ((c.toNat:Nat):Int))).len b by rw [Heap.stB_len];omega) okc_int,wi]
     refine ⟨r.length,by rw [← hn];exact Nat.lt_succ_self _,Rf.stp st c,_,r,i+1,hd',hf,hvn,by rw [hs.1];exact hk.2,rfl,?_⟩
     simp (decide:=true) only [BZ,S270,a0,a1,a4,a5,a6,a7,hs.1,hs.2.1,hs.2.2.1,hs.2.2.2]
     exact ⟨by omega,by omega,by omega,by omega,hP,Fr0.st.st⟩
end Go.Proofs.YtmadknpaljaecaaGreatDoor.Ev.D
namespace Go.Proofs.YtmadknpaljaecaaGreatDoor.Ev.D
open Go Go.Proofs.YtmadknpaljaecaaGreatDoor.Ev
set_option maxRecDepth 100000
def I270e (h0:Heap) (b:Nat) (l:List UInt8) (sg:Int) (E n:Nat) (env:T AV) (h:Heap):Prop:=
 ∃ e rest i,l.drop i=rest∧rest.all Rf.isD=true∧Rf.exv rest e=E∧rest.length=n∧(i≤l.length∧e≤100000)∧h=h0∧env.at 0=.ref b 0∧env.at 1=.str (BStr.ofBytes l)∧env.at 5=.int .i64 (i:Int)∧env.at 8=.int .i64 sg∧env.at 9=.int .i64 (e:Int)
def J270e (h0:Heap) (b:Nat) (l:List UInt8) (sg:Int) (E:Nat) (env:T AV) (h:Heap):Prop:=
 h=h0∧E≤100000∧env.at 0=.ref b 0∧env.at 1=.str (BStr.ofBytes l)∧env.at 5=.int .i64 (l.length:Int)∧env.at 8=.int .i64 sg∧env.at 9=.int .i64 (E:Int)
theorem body270e {h0:Heap} {b:Nat} {l:List UInt8} {sg:Int} {E:Nat} {Q:PostC} (hl:l.length≤1000000) (n:Nat) (env:T AV) (h:Heap) (hI:I270e h0 b l sg E n env h):
  GoP C [.c (match M270 with|c=>c)] env h (LpQ 5 (I270e h0 b l sg E) n (J270e h0 b l sg E) Q):=by
 obtain ⟨e,rest,i,hd,hk,hf,hn,⟨i0,e0⟩,rfl,a0,a1,a5,a8,a9⟩:=hI
 have wi:wrapF .i64 ((i:Int)+1)=((i+1:Nat):Int):=by rw [i64_wrap (by omega) (by omega)];rfl
 cases rest with
 |nil=>
  have hF:e=E:=hf
  subst hF
  have hil:=drop_nil hd
  have hi:i=l.length:=by omega
  subst hi
  simp only [M270,E270,T270,B270,X270,seqT,seqH,blkB,loopB,condA]
  simp (decide:=true) only [BZ,a1,a5,decide_eq_false (show ¬ (l.length:Int) < (l.length:Int) by omega)]
  refine ⟨rfl,e0,?_⟩
  simp (decide:=true) only [BZ,a0,a1,a5,a8,a9]
 |cons c r=>
  obtain ⟨hil,hc,hd'⟩:=drop_cons hd
  have hlt:=decide_eq_true (show (i:Int) < (l.length:Int) by omega)
  simp only [List.all_cons,Bool.and_eq_true] at hk
  obtain ⟨k1,k2⟩:=isD_iff.1 hk.1
  have e95:=decide_eq_false (show ¬ ((c.toNat:Nat):Int)=95 by omega)
  have e48:=decide_eq_true (show (48:Int)≤((c.toNat:Nat):Int) by omega)
  have e57:=decide_eq_true (show ((c.toNat:Nat):Int)≤57 by omega)
  simp only [M270,E270,T270,B270,X270,seqT,seqH,blkB,loopB,condA]
  by_cases he:e < 10000
  ·have w1:wrapF .i64 ((e:Int)*10)=((e*10:Nat):Int):=by rw [i64_wrap (by omega) (by omega)];rfl
   have w2:wrapF .i64 ((c.toNat:Nat):Int)=((c.toNat:Nat):Int):=i64_wrap (by omega) (by omega)
   have w3:wrapF .i64 (((e*10:Nat):Int)+((c.toNat:Nat):Int))=((e*10+c.toNat:Nat):Int):=by rw [i64_wrap (by omega) (by omega)];rfl
   have w4:wrapF .i64 (((e*10+c.toNat:Nat):Int) - 48)=((e*10+(c.toNat - 48):Nat):Int):=by rw [i64_wrap (by omega) (by omega)];omega
   simp (decide:=true) only [BZ,a1,a5,a9,hlt,ixS_drop hd,e95,e48,e57,wi,decide_eq_true (show (e:Int) < 10000 by omega),w1,w2,w3,w4]
   refine ⟨r.length,by rw [← hn];exact Nat.lt_succ_self _,e*10+(c.toNat - 48),r,i+1,hd',hk.2,?_,rfl,⟨by omega,by omega⟩,rfl,?_⟩
   ·rw [← hf,Rf.exv,if_pos he]
   ·simp (decide:=true) only [BZ,a0,a1,a8]
    all_goals trivial
  ·simp (decide:=true) only [BZ,a1,a5,a9,hlt,ixS_drop hd,e95,e48,e57,wi,decide_eq_false (show ¬ (e:Int) < 10000 by omega)]
   refine ⟨r.length,by rw [← hn];exact Nat.lt_succ_self _,e,r,i+1,hd',hk.2,?_,rfl,⟨by omega,by omega⟩,rfl,?_⟩
   ·rw [← hf,Rf.exv,if_neg he]
   ·simp (decide:=true) only [BZ,a0,a1,a8,a9]
    all_goals trivial
def Ok270 (h0:Heap) (b:Nat) (ng:Bool) (F:Rf.St) (DF:Nat) (x:Int) (Q:PostC):Prop:=∀ (env':T AV) (h':Heap),env'.at 4=.bool true→DV h' b DF F.nd (dpF F+x) ng false→Fr h0 h' b→Q .ret env' h'
theorem exp270 {h0 h:Heap} {b:Nat} {l post:List UInt8} {ng:Bool} {F:Rf.St} {DF:Nat} {x:Int} {env:T AV} {i:Nat} {Q:PostC} (hl:l.length≤700) (hp:Post post x) (hd:l.drop i=post) (i0:i≤l.length) (hdp:-1000000≤dpF F∧dpF F≤1000000)
  (DD:DV h b DF F.nd (dpF F) ng false) (Fr0:Fr h0 h b) (a0:env.at 0=.ref b 0) (a1:env.at 1=.str (BStr.ofBytes l)) (a4:env.at 4=.bool false) (a5:env.at 5=.int .i64 (i:Int)) (hQ:Ok270 h0 b ng F DF x Q):GoP C [.c (seqT 3 T270)] env h Q:=by
 have hlen:=DD.len
 have e1:seqT 3 T270=.seq (seqH (seqT 3 T270)) (seqT 4 T270):=rfl
 rw [e1]
 have fin:∀ (env:T AV) (h':Heap),DV h' b DF F.nd (dpF F+x) ng false→Fr h0 h' b→env.at 1=.str (BStr.ofBytes l)→env.at 5=.int .i64 (l.length:Int)→GoP C [.c (seqT 4 T270)] env h' Q:=by
  intro env h' D' F' a1 a5
  simp only [T270,B270,X270,seqT]
  simp (decide:=true) only [BZ,a1,a5,decide_eq_false (show ¬ (l.length:Int)≠(l.length:Int) from fun h=>h rfl)]
  refine hQ _ _ ?_ D' F'
  simp (decide:=true) only [BZ]
 generalize hR:seqT 4 T270=R at fin ⊢
 rcases hp with ⟨rfl,rfl⟩|⟨ds,hne,hds,hx⟩
 ·have hil:=drop_nil hd
  have hi:i=l.length:=by omega
  subst hi
  simp only [T270,B270,X270,seqT,seqH]
  simp (decide:=true) only [BZ,a1,a5,decide_eq_false (show ¬ (l.length:Int) < (l.length:Int) by omega)]
  refine fin _ _ (by rw [Int.add_zero];exact DD) Fr0 ?_ ?_ <;> simp (decide:=true) only [BZ,a1,a5]
 ·have hE0:=Rf.exv_le ds 0 hds (by decide)
  obtain ⟨c,hc⟩:∃ c:List UInt8,l.drop i=101::c:=by rcases hx with ⟨h1,_⟩|⟨h1,_⟩ <;> exact ⟨_,hd.trans h1⟩
  obtain ⟨hil,_,hd1⟩:=drop_cons hc
  have hlt:=decide_eq_true (show (i:Int) < (l.length:Int) by omega)
  have wi:wrapF .i64 ((i:Int)+1)=((i+1:Nat):Int):=by rw [i64_wrap (by omega) (by omega)];rfl
  have l101:∀ h,Does C 242 [.int .u8 101] h (.int .u8 101) h:=fun h=>s242 (c:=101) (by decide) h
  have ebody:seqH (seqT 3 T270)=.seq (seqH (seqH (seqT 3 T270))) (.cond (.t 138) E270 (condB (seqT 1 (seqH (seqT 3 T270))))):=rfl
  rw [ebody]
  have eE:E270=.seq (seqH E270) (.seq (seqH (seqT 1 E270)) (.seq (seqH (seqT 2 E270)) (.seq (seqH (seqT 3 E270)) (.seq (seqH (seqT 4 E270)) (.seq (seqH (seqT 5 E270)) (.seq (.block 5 (.loop M270)) (seqT 7 E270))))))):=rfl
  rw [eE]
  have lp:=fun sg n env h2=>body270e (h0:=h) (b:=b) (l:=l) (sg:=sg) (E:=Rf.exv ds 0) (Q:=Q) (by omega) n env h2
  have aft:∀ sg env h2,(sg=1∧x=(Rf.exv ds 0:Nat)∨sg=-1∧x=-(Rf.exv ds 0:Nat))→J270e h b l sg (Rf.exv ds 0) env h2→GoP C [.c (seqT 7 E270),.c R] env h2 Q:=by
   rintro sg env h2 hsg ⟨rfl,e0,a0,a1,a5,a8,a9⟩
   have w1:wrapF .i64 ((Rf.exv ds 0:Nat)*sg:Int)=x:=by
    rcases hsg with ⟨rfl,rfl⟩|⟨rfl,rfl⟩
    ·rw [Int.mul_one,i64_wrap (by omega) (by omega)]
    ·rw [Int.mul_neg,Int.mul_one,i64_wrap (by omega) (by omega)]
   have w2:wrapF .i64 (dpF F+x)=dpF F+x:=i64_wrap (by rcases hsg with ⟨_,h⟩|⟨_,h⟩ <;> omega) (by rcases hsg with ⟨_,h⟩|⟨_,h⟩ <;> omega)
   simp only [E270,T270,B270,X270,seqT,seqH,condA]
   simp (decide:=true) only [BZ,a0,a8,a9,ld1_cell (show 801 < h2.len b by omega),DD.dp,w1,w2,st1_cell (show 801 < h2.len b by omega) okc_int]
   refine fin _ _ (DD.setDp _) Fr0.st ?_ ?_ <;> simp (decide:=true) only [BZ,a1,a5]
  generalize hM:M270=M at lp ⊢
  generalize hT:seqT 7 E270=T7 at aft ⊢
  rcases hx with ⟨rfl,hx⟩|⟨rfl,hx⟩
  ·obtain ⟨c0,r0,hds0⟩:∃ c0 r0,ds=c0::r0:=by cases ds with|nil=>exact (hne rfl).elim|cons a b=>exact ⟨a,b,rfl⟩
   have hd1':l.drop (i+1)=ds:=(drop_cons hd).2.2
   have hd2:l.drop (i+1)=c0::r0:=hd1'.trans hds0
   have hil2:=(drop_cons hd2).1
   have kd:48≤c0.toNat∧c0.toNat≤57:=by
    rw [hds0,List.all_cons,Bool.and_eq_true] at hds
    exact isD_iff.1 hds.1
   simp only [E270,T270,B270,X270,seqT,seqH,condA]
   simp (decide:=true) only [BZ,a1,a5,hlt,ixS_drop hc,show (101:UInt8).toNat=101 from rfl,show ((101:Nat):Int)=101 from rfl,callG_of (l101 _),wi,decide_eq_false (show ¬ (l.length:Int)≤((i+1:Nat):Int) by omega),ixS_drop hd2,
    decide_eq_false (show ¬ ((c0.toNat:Nat):Int)=43 by omega),decide_eq_false (show ¬ ((c0.toNat:Nat):Int)=45 by omega),decide_eq_false (show ¬ ((c0.toNat:Nat):Int) < 48 by omega),decide_eq_false (show ¬ (57:Int) < ((c0.toNat:Nat):Int) by omega)]
   refine go_lp (I270e h b l 1 (Rf.exv ds 0)) (J270e h b l 1 (Rf.exv ds 0)) (n:=ds.length) ⟨0,ds,i+1,hd1',hds,rfl,rfl,⟨by omega,by omega⟩,rfl,?_⟩ (lp 1) (fun env h2 hJ=>aft 1 env h2 (.inl ⟨rfl,hx⟩) hJ)
   simp (decide:=true) only [BZ,a0,a1]
   all_goals rfl
  ·obtain ⟨c0,r0,hds0⟩:∃ c0 r0,ds=c0::r0:=by cases ds with|nil=>exact (hne rfl).elim|cons a b=>exact ⟨a,b,rfl⟩
   have hd1':l.drop (i+1)=45::ds:=(drop_cons hd).2.2
   have hil1:=(drop_cons hd1').1
   have hd2':l.drop (i+1+1)=ds:=(drop_cons hd1').2.2
   have hd2:l.drop (i+1+1)=c0::r0:=hd2'.trans hds0
   have hil2:=(drop_cons hd2).1
   have wi2:wrapF .i64 (((i+1:Nat):Int)+1)=((i+1+1:Nat):Int):=by rw [i64_wrap (by omega) (by omega)];rfl
   have kd:48≤c0.toNat∧c0.toNat≤57:=by
    rw [hds0,List.all_cons,Bool.and_eq_true] at hds
    exact isD_iff.1 hds.1
   simp only [E270,T270,B270,X270,seqT,seqH,condA]
   simp (decide:=true) only [BZ,a1,a5,hlt,ixS_drop hc,show (101:UInt8).toNat=101 from rfl,show ((101:Nat):Int)=101 from rfl,callG_of (l101 _),wi,decide_eq_false (show ¬ (l.length:Int)≤((i+1:Nat):Int) by omega),ixS_drop hd1',show (45:UInt8).toNat=45 from rfl,show ((45:Nat):Int)=45 from rfl,wi2,
    decide_eq_false (show ¬ (l.length:Int)≤((i+1+1:Nat):Int) by omega),ixS_drop hd2,decide_eq_false (show ¬ ((c0.toNat:Nat):Int) < 48 by omega),decide_eq_false (show ¬ (57:Int) < ((c0.toNat:Nat):Int) by omega)]
   refine go_lp (I270e h b l (-1) (Rf.exv ds 0)) (J270e h b l (-1) (Rf.exv ds 0)) (n:=ds.length) ⟨0,ds,i+1+1,hd2',hds,rfl,rfl,⟨by omega,by omega⟩,rfl,?_⟩ (lp (-1)) (fun env h2 hJ=>aft (-1) env h2 (.inr ⟨rfl,hx⟩) hJ)
   simp (decide:=true) only [BZ,a0,a1]
   all_goals rfl
theorem s270 {h0:Heap} {b:Nat} {l mant post:List UInt8} {ng neg0 tr0:Bool} {x:Int} (hlen:h0.len b=804) (c800:h0.cell b 800=.int .i64 0) (c801:h0.cell b 801=.int .i64 0) (hl:l.length≤700) (hd:l=(if ng then [45] else [])++(mant++post)) (hm:Rf.okM false mant=true) (hsaw:(Rf.fin Rf.st0 mant).saw=true) (hp:Post post x):
  ∃ h',Does C 270 [.ref b 0,.str (BStr.ofBytes l)] h0 (.bool true) h'∧DV h' b (dvp mant 0) (Rf.fin Rf.st0 mant).nd (dpF (Rf.fin Rf.st0 mant)+x) ng false∧Fr h0 h' b:=by
 obtain ⟨v,h',hdo,rfl,q⟩:=does_anyE (C:=C) (f:=270) (fn:=X270) rfl rfl rfl (args:=[.ref b 0,.str (BStr.ofBytes l)]) (h:=h0)
  (P:=fun v h'=>v=.bool true∧DV h' b (dvp mant 0) (Rf.fin Rf.st0 mant).nd (dpF (Rf.fin Rf.st0 mant)+x) ng false∧Fr h0 h' b) (by
  obtain ⟨Q,hQe⟩:∃ Q:PostC,Q=fun e env h2=>∃ v,Back X270.results false v e env h2∧v=.bool true∧DV h2 b (dvp mant 0) (Rf.fin Rf.st0 mant).nd (dpF (Rf.fin Rf.st0 mant)+x) ng false∧Fr h0 h2 b:=⟨_,rfl⟩
  rw [← hQe]
  have hQ:Ok270 h0 b ng (Rf.fin Rf.st0 mant) (dvp mant 0) x Q:=by
   intro env' h' q4 D' F'
   rw [hQe]
   exact ⟨_,back1f.2 q4,rfl,D',F'⟩
  clear hQe
  have hp':post=[]∨∃ r,post=101::r:=by
   rcases hp with ⟨h,_⟩|⟨ds,_,_,⟨h,_⟩|⟨h,_⟩⟩
   ·exact .inl h
   ·exact .inr ⟨_,h⟩
   ·exact .inr ⟨_,h⟩
  have eX:X270.body=.seq (seqH X270.body) (.seq (seqH (seqT 1 X270.body)) (.seq (seqH (seqT 2 X270.body)) (.seq (seqH (seqT 3 X270.body)) (.seq (seqH (seqT 4 X270.body)) (.seq (seqH (seqT 5 X270.body)) (.seq (seqH (seqT 6 X270.body)) (.seq (seqH B270) (.seq (.block 1 (.loop L270)) (.seq (seqH (seqT 1 T270)) (.seq (seqH (seqT 2 T270)) (seqT 3 T270))))))))))):=rfl
  have lp:∀ (env:T AV) (h:Heap),I270 h0 b l post ng (Rf.fin Rf.st0 mant) (dvp mant 0) mant.length env h→GoP C [.c (.loop L270),.blk 1,.c (.seq (seqH (seqT 1 T270)) (.seq (seqH (seqT 2 T270)) (seqT 3 T270)))] env h Q:=fun env h hI=>by
   refine go_lp (I270 h0 b l post ng (Rf.fin Rf.st0 mant) (dvp mant 0)) (J270 h0 b l post ng (Rf.fin Rf.st0 mant) (dvp mant 0)) hI (fun n env h hI=>body270 hl hp' n env h hI) ?_
   rintro env h ⟨i,hdi,⟨i0,d0,d1,d2,DD,Fr0⟩,a0,a1,a4,a5,a6,a7⟩
   rw [hsaw] at a7
   have hlen:=DD.len
   have hdp:-1000000≤dpF (Rf.fin Rf.st0 mant)∧dpF (Rf.fin Rf.st0 mant)≤1000000:=by unfold dpF;split <;> omega
   have fin:=fun env h DD Fr0 a0 a1 a4 a5=>exp270 (h0:=h0) (h:=h) (b:=b) (l:=l) (post:=post) (ng:=ng) (F:=Rf.fin Rf.st0 mant) (DF:=dvp mant 0) (x:=x) (env:=env) (i:=i) (Q:=Q) hl hp hdi i0 hdp DD Fr0 a0 a1 a4 a5 hQ
   generalize hR:seqT 3 T270=R at fin ⊢
   simp only [T270,B270,X270,seqT,seqH]
   cases hdot:(Rf.fin Rf.st0 mant).dot with
   |true=>
    have ed:dpF (Rf.fin Rf.st0 mant)=(Rf.fin Rf.st0 mant).dp:=by unfold dpF;rw [hdot];rfl
    rw [hdot] at a6
    simp (decide:=true) only [BZ,a6,a7]
    refine fin _ _ (by rw [ed];exact DD) Fr0 ?_ ?_ ?_ ?_ <;> simp (decide:=true) only [BZ,a0,a1,a4,a5]
   |false=>
    have ed:dpF (Rf.fin Rf.st0 mant)=(Rf.fin Rf.st0 mant).nd:=by unfold dpF;rw [hdot];rfl
    rw [hdot] at a6
    simp (decide:=true) only [BZ,a0,a6,a7,ld1_cell (show 800 < h.len b by omega),DD.nd,st1_cell (show 801 < h.len b by omega) okc_int]
    refine fin _ _ (by rw [ed];exact DD.setDp _) Fr0.st ?_ ?_ ?_ ?_ <;> simp (decide:=true) only [BZ,a0,a1,a4,a5]
  rw [eX]
  generalize hL:L270=L at lp ⊢
  generalize hR:XCode.seq (seqH (seqT 1 T270)) (XCode.seq (seqH (seqT 2 T270)) (seqT 3 T270))=R at lp ⊢
  simp only [B270,X270,seqT,seqH]
  have D1:∀ n2:Bool,DV ((h0.stB b 802 (.bool n2)).stB b 803 (.bool false)) b 0 0 0 n2 false:=fun n2=>by
   refine ⟨by rw [Heap.stB_len,Heap.stB_len,hlen],by omega,by decide,fun i hi=>absurd hi (by omega),?_,?_,?_,?_⟩
   ·rw [stB_ne (by rw [Heap.stB_len];omega) (by decide),stB_ne (by omega) (by decide)];exact c800
   ·rw [stB_ne (by rw [Heap.stB_len];omega) (by decide),stB_ne (by omega) (by decide)];exact c801
   ·rw [stB_ne (by rw [Heap.stB_len];omega) (by decide),stB_at (by omega)]
   ·rw [stB_at (by rw [Heap.stB_len];omega)]
  obtain ⟨c,tl,hmt⟩:∃ c tl,mant=c::tl:=by
   cases mant with
   |nil=>exact absurd hsaw (by decide)
   |cons c t=>exact ⟨c,t,rfl⟩
  have hc:c.toNat≠43∧c.toNat≠45:=by
   rcases okM_char hm c (by rw [hmt];simp) with rfl|h
   ·decide
   ·have:=isD_iff.1 h;omega
  cases ng with
  |false=>
   have hd0:l.drop 0=c::(tl++post):=by rw [hd,hmt];rfl
   have hi:=(drop_cons hd0).1
   have ix:∀ h,ixSV (.str (BStr.ofBytes l)) (.int .i64 0) h=.ok (.int .u8 ((c.toNat:Nat):Int)) h:=fun h=>ixS_drop (h:=h) (k:=.i64) hd0
   simp (decide:=true) only [BZ,st1_cell (show 802 < h0.len b by omega) okc_bool,st1_cell (show 803 < (h0.stB b 802 (.bool false)).len b by rw [Heap.stB_len];omega) okc_bool,decide_eq_false (show ¬ ((l.length:Int)≤0) by omega),ix,decide_eq_false (show ¬ ((c.toNat:Nat):Int)=43 by omega),decide_eq_false (show ¬ ((c.toNat:Nat):Int)=45 by omega)]
   refine lp _ _ ⟨Rf.st0,0,mant,0,by rw [hd];rfl,rfl,rfl,hm,rfl,⟨Nat.zero_le _,Nat.le_refl _,by decide,by decide,D1 false,(Fr.stB _ _ _ _).st⟩,?_⟩
   simp (decide:=true) only [BZ]
   all_goals exact ⟨rfl,rfl,rfl⟩
  |true=>
   have hd0:l.drop 0=45::(mant++post):=by rw [hd];rfl
   have hd1:l.drop 1=mant++post:=(drop_cons hd0).2.2
   have hi:=(drop_cons hd0).1
   have ix:∀ h,ixSV (.str (BStr.ofBytes l)) (.int .i64 0) h=.ok (.int .u8 45) h:=fun h=>ixS_drop (h:=h) (k:=.i64) hd0
   have D2:DV (((h0.stB b 802 (.bool false)).stB b 803 (.bool false)).stB b 802 (.bool true)) b 0 0 0 true false:=by
    have D:=D1 false
    have hl3:=D.len
    refine ⟨by rw [Heap.stB_len,hl3],by omega,by decide,fun i hi=>absurd hi (by omega),?_,?_,stB_at (by omega),?_⟩
    ·rw [stB_ne (by omega) (by decide)];exact D.nd
    ·rw [stB_ne (by omega) (by decide)];exact D.dp
    ·rw [stB_ne (by omega) (by decide)];exact D.tr
   simp (decide:=true) only [BZ,st1_cell (show 802 < h0.len b by omega) okc_bool,st1_cell (show 803 < (h0.stB b 802 (.bool false)).len b by rw [Heap.stB_len];omega) okc_bool,decide_eq_false (show ¬ ((l.length:Int)≤0) by omega),ix,st1_cell (show 802 < ((h0.stB b 802 (.bool false)).stB b 803 (.bool false)).len b by rw [Heap.stB_len,Heap.stB_len];omega) okc_bool]
   refine lp _ _ ⟨Rf.st0,0,mant,1,hd1,rfl,rfl,hm,rfl,⟨hi,Nat.zero_le _,by decide,by decide,D2,(Fr.stB _ _ _ _).st.st⟩,?_⟩
   simp (decide:=true) only [BZ]
   all_goals exact ⟨rfl,rfl,rfl⟩)
 exact ⟨h',hdo,q⟩
end Go.Proofs.YtmadknpaljaecaaGreatDoor.Ev.D
namespace Go.Proofs.YtmadknpaljaecaaGreatDoor.Rf
open Us Fl
theorem near_ratio {n m n' m' r:Nat} (hm:0 < m) (hm':0 < m') (h:n*m' =n'*m) (H:Near n m r):Near n' m' r:=
 near_mid H H hm' hm hm (Nat.le_of_eq h) (Nat.le_of_eq h.symm)
theorem nn_shift (d k:Nat) (p:Int):nn (d*10 ^ k) (p - k)*mm p=nn d p*mm (p - k):=by
 unfold nn mm
 have key:∀ (a b c e W:Nat),k+a+b=c+e→d*10 ^ k*10 ^ a*W*10 ^ b=d*10 ^ c*W*10 ^ e:=fun a b c e W h=>by
  have e1:d*10 ^ k*10 ^ a*W*10 ^ b=d*W*(10 ^ k*10 ^ a*10 ^ b):=by ac_rfl
  have e2:d*10 ^ c*W*10 ^ e=d*W*(10 ^ c*10 ^ e):=by ac_rfl
  rw [e1,e2,← Nat.pow_add,← Nat.pow_add,← Nat.pow_add,h]
 exact key _ _ _ _ _ (by omega)
theorem nn_le {d d':Nat} {p:Int} (h:d≤d'):nn d p≤nn d' p:=Nat.mul_le_mul_right _ (Nat.mul_le_mul_right _ h)
theorem near_cut {m k ρ r:Nat} {p:Int} (hr:ρ < 10 ^ k) (h1:Near (nn m p) (mm p) r) (h2:Near (nn (m+1) p) (mm p) r):Near (nn (m*10 ^ k+ρ) (p - k)) (mm (p - k)) r:=by
 have e1:=nn_shift m k p
 have e2:=nn_shift (m+1) k p
 refine near_mid h1 h2 (mm_pos _) (mm_pos _) (mm_pos _) ?_ ?_
 ·rw [← e1];exact Nat.mul_le_mul_right _ (nn_le (Nat.le_add_right _ _))
 ·rw [← e2];exact Nat.mul_le_mul_right _ (nn_le (by rw [Nat.add_mul];omega))
theorem near_same {m k r:Nat} {p:Int} (h1:Near (nn m p) (mm p) r):Near (nn (m*10 ^ k) (p - k)) (mm (p - k)) r:=
 near_ratio (mm_pos _) (mm_pos _) (nn_shift m k p).symm h1
set_option exponentiation.threshold 20000 in
theorem near_top {d:Nat} {p:Int} (hd:0 < d) (hp:310 < p):Near (nn d p) (mm p) inf:=by
 have hV:V inf=2 ^ 52*2 ^ 2046:=by decide+kernel
 have hm:mm p=1:=by unfold mm;rw [show (-p).toNat=0 by omega,Nat.pow_zero]
 have h:mm p*V inf≤nn d p:=by
  rw [hm,hV,Nat.one_mul]
  unfold nn
  have a1:10 ^ 311≤d*10 ^ p.toNat:=Nat.le_trans (Nat.pow_le_pow_right (by decide) (by omega)) (Nat.le_mul_of_pos_left _ hd)
  refine Nat.le_trans ?_ (Nat.mul_le_mul_right _ a1)
  decide+kernel
 refine ⟨Nat.le_refl _,fun h=>absurd h (Nat.lt_irrefl _),fun _=>⟨?_,fun _=>by decide⟩⟩
 have h1:V (inf - 1)≤V inf:=V_le_iff.2 (by decide)
 have h2:mm p*(V (inf - 1)+V inf)≤mm p*(V inf+V inf):=Nat.mul_le_mul_left _ (by omega)
 rw [← Nat.two_mul,Nat.mul_left_comm] at h2
 omega
set_option exponentiation.threshold 20000 in
theorem near_bot {m k ρ:Nat} {p:Int} (hm:m < 10 ^ 19) (hr:ρ < 10 ^ k) (hp:p < -345):Near (nn (m*10 ^ k+ρ) (p - k)) (mm (p - k)) 0:=by
 refine zero_near ?_
 unfold nn mm
 rw [show (p - k).toNat=0 by omega,Nat.pow_zero,Nat.mul_one]
 have a1:m*10 ^ k+ρ < 10 ^ 19*10 ^ k:=by
  have:(m+1)*10 ^ k≤10 ^ 19*10 ^ k:=Nat.mul_le_mul_right _ hm
  rw [Nat.add_mul] at this;omega
 have a2:2*((m*10 ^ k+ρ)*2 ^ 1074) < 10 ^ 19*10 ^ k*(2*2 ^ 1074):=by
  rw [Nat.mul_left_comm]
  exact Nat.mul_lt_mul_of_pos_right a1 (Nat.mul_pos (by decide) (Nat.two_pow_pos _))
 refine Nat.lt_of_lt_of_le a2 ?_
 have a3:10 ^ 19*10 ^ k*(2*2 ^ 1074)=10 ^ 19*(2*2 ^ 1074)*10 ^ k:=Nat.mul_right_comm ..
 rw [a3]
 have a4:10 ^ 19*(2*2 ^ 1074)≤10 ^ 346:=by decide+kernel
 refine Nat.le_trans (Nat.mul_le_mul_right _ a4) ?_
 rw [← Nat.pow_add]
 exact Nat.pow_le_pow_right (by decide) (by omega)
theorem m_pos {s:St} {D n:Nat} (h:Ok s D n) (hD:0 < D):0 < s.m∧0 < s.nd∧s.m < 10 ^ 19:=by
 have hnd:0 < s.nd:=by
  rcases Nat.eq_zero_or_pos s.nd with h0|h0
  ·have:=h.lt;rw [h0,Nat.pow_zero] at this;omega
  ·exact h0
 obtain ⟨ρ,e,h1,_⟩:=h.ex
 have hge:=h.ge hnd
 have hnm:=h.nm
 refine ⟨?_,hnd,?_⟩
 ·rcases Nat.eq_zero_or_pos s.m with h0|h0
  ·rw [h0,Nat.zero_mul,Nat.zero_add] at e
   have:10 ^ (s.nd - s.nm)≤10 ^ (s.nd - 1):=Nat.pow_le_pow_right (by decide) (by omega)
   omega
  ·exact h0
 ·have hlt:=h.lt
  have a1:s.m*10 ^ (s.nd - s.nm) < 10 ^ 19*10 ^ (s.nd - s.nm):=by
   rw [← Nat.pow_add]
   refine Nat.lt_of_le_of_lt (by omega:s.m*10 ^ (s.nd - s.nm)≤D) (Nat.lt_of_lt_of_le hlt ?_)
   exact Nat.pow_le_pow_right (by decide) (by omega)
  exact Nat.lt_of_mul_lt_mul_right a1
end Go.Proofs.YtmadknpaljaecaaGreatDoor.Rf
