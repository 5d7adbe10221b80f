import Derived.KernelRfl
import Derived.Test.YtmadknpaljaecaaGreatDoorBab
import Derived.Test.YtmadknpaljaecaaGreatDoorBac
set_option linter.all false
set_option maxHeartbeats 1000000
set_option maxRecDepth 100000
set_option maxHeartbeats 4000000
namespace Go.Proofs.YtmadknpaljaecaaGreatDoor.Ev.D
open Go Go.Proofs.YtmadknpaljaecaaGreatDoor.Ev
def L2:List AV:=(fun x (_:gcells Go.Proofs.Tryz.prog "*errors.errorString" 246 3000 177 (Go.Proofs.YtmadknpaljaecaaGreatDoor.Rows.laid_unicode_utf8_first)=some x)=>x) _ (by conv=>lhs;reduce;simp only [↓J])
def L3:List AV:=(fun x (_:gcells Go.Proofs.Tryz.prog "*errors.errorString" 246 3000 180 (Go.Proofs.YtmadknpaljaecaaGreatDoor.Rows.laid_unicode_utf8_acceptRanges)=some x)=>x) _ (by conv=>lhs;reduce;simp only [↓J])
def L4:List AV:=(fun x (_:gcells Go.Proofs.Tryz.prog "*errors.errorString" 246 3000 4 (Go.Proofs.YtmadknpaljaecaaGreatDoor.Rows.laid_internal_strconv_optimize)=some x)=>x) _ (by conv=>lhs;reduce;simp only [↓J])
def L5:List AV:=(fun x (_:gcells Go.Proofs.Tryz.prog "*errors.errorString" 246 3000 75 (Go.Proofs.YtmadknpaljaecaaGreatDoor.Rows.laid_strconv_ErrSyntax)=some x)=>x) _ (by conv=>lhs;reduce;simp only [↓J])
def L6:List AV:=(fun x (_:gcells Go.Proofs.Tryz.prog "*errors.errorString" 246 3000 75 (Go.Proofs.YtmadknpaljaecaaGreatDoor.Rows.laid_strconv_ErrRange)=some x)=>x) _ (by conv=>lhs;reduce;simp only [↓J])
def L7:List AV:=(fun x (_:gcells Go.Proofs.Tryz.prog "*errors.errorString" 246 3000 228 (Go.Proofs.YtmadknpaljaecaaGreatDoor.Rows.laid_unicode_CaseRanges)=some x)=>x) _ (by conv=>lhs;reduce;simp only [↓J])
def L8:List AV:=(fun x (_:gcells Go.Proofs.Tryz.prog "*errors.errorString" 246 3000 241 (Go.Proofs.YtmadknpaljaecaaGreatDoor.Rows.laid_internal_strconv_uint64pow10)=some x)=>x) _ (by conv=>lhs;reduce;simp only [↓J])
def L9:List AV:=(fun x (_:gcells Go.Proofs.Tryz.prog "*errors.errorString" 246 3000 259 (Go.Proofs.YtmadknpaljaecaaGreatDoor.Rows.laid_internal_strconv_float32info)=some x)=>x) _ (by conv=>lhs;reduce;simp only [↓J])
def L10:List AV:=(fun x (_:gcells Go.Proofs.Tryz.prog "*errors.errorString" 246 3000 259 (Go.Proofs.YtmadknpaljaecaaGreatDoor.Rows.laid_internal_strconv_float64info)=some x)=>x) _ (by conv=>lhs;reduce;simp only [↓J])
def L11:List AV:=(fun x (_:gcells Go.Proofs.Tryz.prog "*errors.errorString" 246 3000 277 (Go.Proofs.YtmadknpaljaecaaGreatDoor.Rows.laid_internal_strconv_pow10Tab)=some x)=>x) _ (by conv=>lhs;reduce;simp only [↓J])
def L12:List AV:=(fun x (_:gcells Go.Proofs.Tryz.prog "*errors.errorString" 246 3000 281 (Go.Proofs.YtmadknpaljaecaaGreatDoor.Rows.laid_internal_strconv_leftcheats)=some x)=>x) _ (by conv=>lhs;reduce;simp only [↓J])
def L13:List AV:=(fun x (_:gcells Go.Proofs.Tryz.prog "*errors.errorString" 246 3000 284 (Go.Proofs.YtmadknpaljaecaaGreatDoor.Rows.laid_internal_strconv_float32pow10)=some x)=>x) _ (by conv=>lhs;reduce;simp only [↓J])
def L14:List AV:=(fun x (_:gcells Go.Proofs.Tryz.prog "*errors.errorString" 246 3000 127 (Go.Proofs.YtmadknpaljaecaaGreatDoor.Rows.laid_internal_strconv_powtab)=some x)=>x) _ (by conv=>lhs;reduce;simp only [↓J])
def L15:List AV:=(fun x (_:gcells Go.Proofs.Tryz.prog "*errors.errorString" 246 3000 286 (Go.Proofs.YtmadknpaljaecaaGreatDoor.Rows.laid_internal_strconv_float64pow10)=some x)=>x) _ (by conv=>lhs;reduce;simp only [↓J])
def L16:List AV:=(fun x (_:gcells Go.Proofs.Tryz.prog "*errors.errorString" 246 3000 199 (Go.Proofs.YtmadknpaljaecaaGreatDoor.Rows.laid_math_bits_deBruijn32tab)=some x)=>x) _ (by conv=>lhs;reduce;simp only [↓J])
def L17:List AV:=(fun x (_:gcells Go.Proofs.Tryz.prog "*errors.errorString" 246 3000 292 (Go.Proofs.YtmadknpaljaecaaGreatDoor.Rows.laid_math_bits_deBruijn64tab)=some x)=>x) _ (by conv=>lhs;reduce;simp only [↓J])
end Go.Proofs.YtmadknpaljaecaaGreatDoor.Ev.D
set_option maxRecDepth 100000
set_option maxHeartbeats 4000000
namespace Go.Proofs.YtmadknpaljaecaaGreatDoor.Ev.D
open Go Go.Proofs.YtmadknpaljaecaaGreatDoor.Ev
def fnsT:T XFn:=(.node (.node (.node (.node (.node (.node (.node (.node (.node .nil (some X255) .nil) none .nil) none .nil) none (.node (.node .nil (some X159) .nil) (some X95) (.node .nil (some X223) .nil))) (some X15) (.node (.node (.node (.node .nil (some X271) .nil) none .nil) none .nil) none (.node .nil (some X111) .nil))) (some X7) (.node (.node (.node (.node (.node .nil (some X263) .nil) none .nil) (some X71) .nil) (some X39) (.node .nil (some X103) .nil)) none (.node (.node .nil none (.node .nil (some X215) .nil)) none (.node .nil (some X119) (.node .nil (some X247) .nil))))) none (.node (.node (.node (.node (.node (.node .nil (some X259) .nil) none .nil) (some X67) .nil) (some X35) .nil) (some X19) (.node (.node (.node (.node .nil (some X275) .nil) none .nil) (some X83) (.node .nil (some X211) .nil)) (some X51) (.node .nil none (.node .nil (some X243) .nil)))) none (.node (.node (.node (.node .nil (some X139) .nil) (some X75) .nil) none (.node .nil (some X107) .nil)) (some X27) (.node (.node .nil (some X91) (.node .nil (some X219) .nil)) (some X59) (.node .nil none (.node .nil (some X251) .nil)))))) none (.node (.node (.node (.node (.node (.node (.node .nil (some X257) .nil) none .nil) none .nil) (some X33) (.node (.node (.node .nil (some X289) .nil) none .nil) none (.node .nil (some X225) .nil))) none (.node (.node (.node .nil (some X145) .nil) (some X81) .nil) none .nil)) none (.node (.node .nil none (.node (.node .nil (some X169) .nil) (some X105) (.node .nil (some X233) .nil))) none (.node (.node (.node (.node .nil (some X281) .nil) none .nil) none .nil) none (.node (.node .nil (some X185) .nil) none (.node .nil (some X249) .nil))))) none (.node (.node (.node (.node .nil (some X69) .nil) none (.node .nil (some X101) (.node .nil (some X229) .nil))) none (.node .nil none (.node .nil none (.node .nil (some X245) .nil)))) none (.node (.node (.node (.node .nil (some X141) .nil) (some X77) .nil) (some X45) (.node .nil (some X109) .nil)) (some X29) (.node (.node .nil none (.node .nil (some X221) .nil)) (some X61) (.node .nil (some X125) .nil)))))) none (.node (.node (.node (.node (.node (.node (.node (.node .nil (some X256) .nil) none .nil) none .nil) (some X32) (.node (.node (.node .nil (some X288) .nil) (some X160) .nil) (some X96) .nil)) (some X16) (.node (.node (.node (.node .nil (some X272) .nil) none .nil) none .nil) none (.node (.node .nil (some X176) .nil) (some X112) .nil))) none (.node (.node (.node (.node (.node .nil (some X264) .nil) none .nil) none .nil) (some X40) (.node .nil (some X104) .nil)) (some X24) (.node (.node .nil none (.node .nil (some X216) .nil)) (some X56) (.node .nil (some X120) (.node .nil (some X248) .nil))))) none (.node (.node (.node (.node (.node .nil (some X132) .nil) none .nil) none (.node .nil none (.node .nil (some X228) .nil))) (some X20) (.node (.node .nil (some X84) (.node .nil (some X212) .nil)) (some X52) (.node .nil none (.node .nil (some X244) .nil)))) none (.node (.node (.node .nil (some X76) .nil) (some X44) (.node (.node .nil (some X172) .nil) none .nil)) (some X28) (.node (.node .nil (some X92) (.node .nil (some X220) .nil)) (some X60) (.node .nil none (.node .nil (some X252) .nil)))))) none (.node (.node (.node (.node .nil none (.node .nil none (.node .nil (some X226) .nil))) (some X18) (.node (.node (.node (.node .nil (some X274) .nil) none .nil) (some X82) .nil) (some X50) (.node (.node .nil (some X178) .nil) none (.node .nil (some X242) .nil)))) none (.node (.node (.node (.node .nil (some X138) .nil) none .nil) none .nil) none (.node (.node .nil none (.node .nil (some X218) .nil)) none (.node .nil none (.node .nil (some X250) .nil))))) none (.node (.node (.node (.node .nil (some X70) .nil) none (.node (.node .nil (some X166) .nil) (some X102) .nil)) (some X22) (.node (.node .nil none (.node .nil (some X214) .nil)) none (.node .nil (some X118) (.node .nil (some X246) .nil)))) none (.node (.node (.node (.node (.node .nil (some X270) .nil) none .nil) (some X78) .nil) (some X46) (.node .nil (some X110) .nil)) (some X30) (.node (.node .nil (some X94) .nil) (some X62) (.node .nil none (.node .nil (some X254) .nil))))))))
def globT:T AV:=(.node (.node (.node (.node (.node .nil (some (.iptr false L15)) .nil) (some (.iptr false L7)) .nil) (some (.iptr false L3)) (.node .nil (some (.iptr false L11)) .nil)) none (.node (.node (.node .nil (some (.iptr false L17)) .nil) (some (.iptr false L9)) .nil) (some (.iptr false L5)) (.node .nil (some (.iptr false L13)) .nil))) none (.node (.node (.node (.node .nil (some (.iptr false L16)) .nil) (some (.iptr false L8)) .nil) (some (.iptr false L4)) (.node .nil (some (.iptr false L12)) .nil)) (some (.iptr false L2)) (.node (.node .nil (some (.iptr false L10)) .nil) (some (.iptr false L6)) (.node .nil (some (.iptr false L14)) .nil))))
def C:Ctx:={ fns:=fun i=>fnsT.get i,glob:=fun g=>(globT.get g).getD .dead }
end Go.Proofs.YtmadknpaljaecaaGreatDoor.Ev.D
namespace Go.Proofs.YtmadknpaljaecaaGreatDoor.Ev.D
open Go Go.Proofs.YtmadknpaljaecaaGreatDoor.Ev
set_option maxRecDepth 100000
theorem s46 (h:Heap):Does C 46 [] h (.float .f64 9221120237041090561) h:=by
 refine does_pure (fn:=X46) rfl rfl rfl mapO_nil ?_
 simp (decide:=true) only [BW,X46]
 all_goals decide
theorem s107 {b:Nat} (hb:b < 9218868437227405312) (h:Heap):Does C 107 [.int .u64 (b:Int)] h (.tup [.int .i64 (Fl.mant b:Nat),.int .i64 ((Fl.ex b:Nat) - 1074:Int)]) h:=by
 refine does_pure (fn:=X107) rfl rfl rfl (mapO_cons conv_int mapO_nil) ?_
 simp (decide:=true) only [BW,X107,b_rem (show (4503599627370496:Int)≠0 by decide),b_shr52,condG_dec]
 have e0:(b:Int).tmod 4503599627370496=((b % 4503599627370496:Nat):Int):=rfl
 rw [e0,i64_wrap (x:=((b % 4503599627370496:Nat):Int)) (by omega) (by omega),i64_wrap (x:=((b / 4503599627370496:Nat):Int)) (by omega) (by omega)]
 refine ⟨fun h0=>?_,fun h0=>?_⟩
 ·unfold Fl.mant Fl.ex
  rw [if_pos (by omega),if_pos (by omega)]
  omega
 ·rw [i64_wrap (by omega) (by omega),i64_wrap (by omega) (by omega)]
  unfold Fl.mant Fl.ex
  rw [if_neg (by omega),if_neg (by omega)]
  omega
theorem sgn_bits {b:Nat} (hb:b < 18446744073709551616):andF .u64 (b:Int) 9223372036854775808=((if Fl.neg b then 9223372036854775808 else 0:Nat):Int):=by
 have:=and_u64 (a:=b) (b:=9223372036854775808) hb (by decide)
 refine this.trans ?_
 congr 1
 have ht:b.testBit 63=Fl.neg b:=by rw [Nat.testBit_eq_decide_div_mod_eq];unfold Fl.neg;show decide (b / 9223372036854775808 % 2=1)=(b / 9223372036854775808 % 2 == 1);simp [BEq.beq,instBEqOfDecidableEq]
 rw [← ht]
 apply Nat.eq_of_testBit_eq
 intro i
 have h2:Nat.testBit 9223372036854775808 i=decide (63=i):=by rw [show (9223372036854775808:Nat)=2 ^ 63 by decide,Nat.testBit_two_pow]
 rw [Nat.testBit_and,h2]
 by_cases hi:63=i
 ·subst hi
  cases b.testBit 63
  ·simp
  ·rw [if_pos rfl,h2];simp
 ·cases b.testBit 63
  ·simp [hi]
  ·rw [if_pos rfl,h2];simp [hi]
theorem and_top {b:Nat} (hb:b < 9223372036854775808):b &&& 9223372036854775808=0:=by
 have h1:=and_u64 (a:=b) (b:=9223372036854775808) (by omega) (by decide)
 have h2:=sgn_bits (b:=b) (by omega)
 have h3:((b &&& 9223372036854775808:Nat):Int)=_:=h1.symm.trans h2
 rw [Fl.neg_of_lt hb] at h3
 exact Int.ofNat.inj h3
theorem s56 {a:Nat} (ha:a < 9223372036854775808) (s:Bool) (h:Heap):Does C 56 [.int .u64 (a:Int),.bool s] h (.float .f64 (Ieee.double.word s a)) h:=by
 refine does_pure (fn:=X56) rfl rfl rfl (mapO_cons conv_int (mapO_cons conv_bool mapO_nil)) ?_
 cases s <;> simp (decide:=true) only [BW,X56]
 ·rfl
 ·have e:(a:Int)+9223372036854775808=((a+9223372036854775808:Nat):Int):=rfl
  rw [e,u64_wrap (by omega),Int.toNat_natCast,Fl.word_eq,if_pos rfl,Nat.add_comm];rfl
theorem s18 {v:AV} (hv:(∃ b,v=.float .f64 b)∨v=.nan .f64) (h:Heap):Does C 18 [v,v] h (.bool true) h:=by
 rcases hv with ⟨b,rfl⟩|rfl
 ·refine does_pure (fn:=X18) rfl rfl rfl (mapO_cons conv_float (mapO_cons conv_float mapO_nil)) ?_
  cases hn:(FloatKind.f64.format.order b b != some Ordering.eq) <;> simp (decide:=true) only [BW,X18,hn]
 ·refine does_pure (fn:=X18) rfl rfl rfl (mapO_cons conv_nan (mapO_cons conv_nan mapO_nil)) ?_
  have hn:binV .neq (.nan .f64) (.nan .f64)=some (.bool true):=rfl
  simp (decide:=true) only [BW,X18,hn]
end Go.Proofs.YtmadknpaljaecaaGreatDoor.Ev.D
namespace Go.Proofs.YtmadknpaljaecaaGreatDoor.Us
theorem apart {c m X L R q1 d1 q2 d2 k1 k2:Int} (h1:q1*c - k1*m=d1) (h2:q2*c - k2*m=-d2) (hdet:q1*d2+q2*d1=m)
  (hq1:0 < q1) (hq2:0≤q2) (hd1:0 < d1) (hd2:0 < d2) (hX:X < q1+q2) (hR1:R / d1*q1 < L) (hR2:R / d2*q2 < L)
  {x k:Int} (hx0:0 < x) (hxX:x≤X) (hxL:L≤x):R < x*c - k*m∨x*c - k*m < -R:=by
 generalize hy:x*c - k*m=y
 have hm:0 < m:=by
  have a1:0 < q1*d2:=Int.mul_pos hq1 hd2
  have a2:0≤q2*d1:=Int.mul_nonneg hq2 (Int.le_of_lt hd1)
  omega
 have hu:∃ u,x*d2+y*q2=u*m:=⟨x*k2 - k*q2,by
  rw [← hy,Int.sub_mul,Int.sub_mul]
  have e1:x*d2=x*(k2*m) - x*(q2*c):=by
   have:d2=k2*m - q2*c:=by omega
   rw [this,Int.mul_sub]
  rw [e1]
  have e2:x*c*q2=x*(q2*c):=by rw [Int.mul_assoc,Int.mul_comm c q2]
  have e3:k*m*q2=k*q2*m:=by rw [Int.mul_assoc,Int.mul_comm m q2,Int.mul_assoc]
  have e4:x*(k2*m)=x*k2*m:=by rw [Int.mul_assoc]
  omega⟩
 have hv:∃ v,x*d1 - y*q1=v*m:=⟨k*q1 - x*k1,by
  rw [← hy,Int.sub_mul,Int.sub_mul]
  have e1:x*d1=x*(q1*c) - x*(k1*m):=by
   have:d1=q1*c - k1*m:=by omega
   rw [this,Int.mul_sub]
  rw [e1]
  have e2:x*c*q1=x*(q1*c):=by rw [Int.mul_assoc,Int.mul_comm c q1]
  have e3:k*m*q1=k*q1*m:=by rw [Int.mul_assoc,Int.mul_comm m q1,Int.mul_assoc]
  have e4:x*(k1*m)=x*k1*m:=by rw [Int.mul_assoc]
  omega⟩
 obtain ⟨u,hu⟩:=hu
 obtain ⟨v,hv⟩:=hv
 have hxe:x=u*q1+v*q2:=by
  have:x*m=(u*q1+v*q2)*m:=by
   rw [Int.add_mul]
   have e1:u*q1*m=(u*m)*q1:=by rw [Int.mul_assoc,Int.mul_comm q1 m,Int.mul_assoc]
   have e2:v*q2*m=(v*m)*q2:=by rw [Int.mul_assoc,Int.mul_comm q2 m,Int.mul_assoc]
   rw [e1,e2,← hu,← hv,← hdet,Int.mul_add,Int.add_mul,Int.sub_mul]
   have a1:x*(q1*d2)=x*d2*q1:=by rw [Int.mul_comm q1 d2,Int.mul_assoc]
   have a2:x*(q2*d1)=x*d1*q2:=by rw [Int.mul_comm q2 d1,Int.mul_assoc]
   have a3:y*q2*q1=y*q1*q2:=by rw [Int.mul_assoc,Int.mul_comm q2 q1,Int.mul_assoc]
   omega
  exact Int.eq_of_mul_eq_mul_right (by omega) this
 have hye:y=u*d1 - v*d2:=by
  have:y*m=(u*d1 - v*d2)*m:=by
   rw [Int.sub_mul]
   have e1:u*d1*m=(u*m)*d1:=by rw [Int.mul_assoc,Int.mul_comm d1 m,Int.mul_assoc]
   have e2:v*d2*m=(v*m)*d2:=by rw [Int.mul_assoc,Int.mul_comm d2 m,Int.mul_assoc]
   rw [e1,e2,← hu,← hv,← hdet,Int.mul_add,Int.add_mul,Int.sub_mul]
   have a1:x*d2*d1=x*d1*d2:=by rw [Int.mul_assoc,Int.mul_comm d2 d1,Int.mul_assoc]
   have a2:y*(q1*d2)=y*q1*d2:=by rw [Int.mul_assoc]
   have a3:y*(q2*d1)=y*q2*d1:=by rw [Int.mul_assoc]
   omega
  exact Int.eq_of_mul_eq_mul_right (by omega) this
 by_cases h0:0≤y
 ·left
  rcases (show R < y∨y≤R by omega) with h|h
  ·exact h
  exfalso
  rcases (show 0 < v∨v≤0 by omega) with hvp|hvn
  ·have hup:0 < u:=by
    rcases (show 0 < u∨u≤0 by omega) with h|h
    ·exact h
    ·have a1:u*d1≤0:=Int.mul_nonpos_of_nonpos_of_nonneg h (Int.le_of_lt hd1)
     have a2:0 < v*d2:=Int.mul_pos hvp hd2
     omega
   have a1:q1≤u*q1:=by have:=Int.mul_le_mul_of_nonneg_right (show 1≤u by omega) (Int.le_of_lt hq1);omega
   have a2:q2≤v*q2:=by have:=Int.mul_le_mul_of_nonneg_right (show 1≤v by omega) hq2;omega
   omega
  ·have a1:v*q2≤0:=Int.mul_nonpos_of_nonpos_of_nonneg hvn hq2
   have a2:v*d2≤0:=Int.mul_nonpos_of_nonpos_of_nonneg hvn (Int.le_of_lt hd2)
   have hud:u*d1≤R:=by omega
   have hule:u≤R / d1:=(Int.le_ediv_iff_mul_le hd1).2 hud
   have a3:u*q1≤R / d1*q1:=Int.mul_le_mul_of_nonneg_right hule (Int.le_of_lt hq1)
   omega
 ·right
  rcases (show y < (-R)∨(-R)≤y by omega) with h|h
  ·exact h
  exfalso
  rcases (show 0 < u∨u≤0 by omega) with hup|hun
  ·have hvp:0 < v:=by
    rcases (show 0 < v∨v≤0 by omega) with h|h
    ·exact h
    ·have a1:v*d2≤0:=Int.mul_nonpos_of_nonpos_of_nonneg h (Int.le_of_lt hd2)
     have a2:0 < u*d1:=Int.mul_pos hup hd1
     omega
   have a1:q1≤u*q1:=by have:=Int.mul_le_mul_of_nonneg_right (show 1≤u by omega) (Int.le_of_lt hq1);omega
   have a2:q2≤v*q2:=by have:=Int.mul_le_mul_of_nonneg_right (show 1≤v by omega) hq2;omega
   omega
  ·have a1:u*q1≤0:=Int.mul_nonpos_of_nonpos_of_nonneg hun (Int.le_of_lt hq1)
   have a2:u*d1≤0:=Int.mul_nonpos_of_nonpos_of_nonneg hun (Int.le_of_lt hd1)
   have hvd:v*d2≤R:=by omega
   have hvle:v≤R / d2:=(Int.le_ediv_iff_mul_le hd2).2 hvd
   have a3:v*q2≤R / d2*q2:=Int.mul_le_mul_of_nonneg_right hvle hq2
   omega
def eu (X:Nat):Nat→Nat→Nat→Nat→Nat→Nat×Nat×Nat×Nat
 |0,q1,d1,q2,d2=>(q1,d1,q2,d2)
 |f+1,q1,d1,q2,d2=>
  if X < q1+q2 then (q1,d1,q2,d2) else
  if d2 < d1 then
   (let k:=min ((d1 - 1) / d2) (if q2=0 then (d1 - 1) / d2 else (X - q1 - q2) / q2+1)
    eu X f (q1+k*q2) (d1 - k*d2) q2 d2)
  else
   (let k:=min ((d2 - 1) / d1) ((X - q1 - q2) / q1+1)
    eu X f q1 d1 (q2+k*q1) (d2 - k*d1))
structure Nb (c m:Int) (q1 d1 q2 d2:Nat):Prop where
 e1:∃ k,(q1:Int)*c - k*m=d1
 e2:∃ k,(q2:Int)*c - k*m=-d2
 det:(q1:Int)*d2+q2*d1=m
 q1:0 < q1
 d1:0 < d1
 d2:0 < d2
theorem eu_nb {c m:Int} (X:Nat):∀ (f q1 d1 q2 d2:Nat),Nb c m q1 d1 q2 d2→Nb c m (eu X f q1 d1 q2 d2).1 (eu X f q1 d1 q2 d2).2.1 (eu X f q1 d1 q2 d2).2.2.1 (eu X f q1 d1 q2 d2).2.2.2
 |0,q1,d1,q2,d2,h=>h
 |f+1,q1,d1,q2,d2,h=>by
  simp only [eu]
  split
  ·exact h
  split
  ·rename_i hlt
   generalize hk:min ((d1 - 1) / d2) (if q2=0 then (d1 - 1) / d2 else (X - q1 - q2) / q2+1)=k
   have hkd:k*d2 < d1:=by
    have h1:k≤(d1 - 1) / d2:=by rw [← hk];exact Nat.min_le_left _ _
    have h2:=(Nat.le_div_iff_mul_le h.d2).1 h1
    have:=h.d1
    omega
   refine eu_nb X f _ _ _ _ ⟨?_,h.e2,?_,by have:=h.q1;omega,by omega,h.d2⟩
   ·obtain ⟨a,ha⟩:=h.e1
    obtain ⟨b,hb⟩:=h.e2
    refine ⟨a+k*b,?_⟩
    rw [Int.natCast_sub (Nat.le_of_lt hkd)]
    push_cast
    rw [Int.add_mul,Int.add_mul,← ha]
    have e1:(k:Int)*q2*c=k*(q2*c):=by rw [Int.mul_assoc]
    have e2:(k:Int)*b*m=k*(b*m):=by rw [Int.mul_assoc]
    have e3:(k:Int)*(q2*c) - k*(b*m)=-(k*d2):=by rw [← Int.mul_sub,hb,Int.mul_neg]
    omega
   ·rw [Int.natCast_sub (Nat.le_of_lt hkd),← h.det]
    push_cast
    rw [Int.add_mul,Int.mul_sub]
    have e1:(k:Int)*q2*d2=q2*(k*d2):=by rw [Int.mul_comm (k:Int) q2,Int.mul_assoc]
    omega
  ·rename_i hlt
   generalize hk:min ((d2 - 1) / d1) ((X - q1 - q2) / q1+1)=k
   have hkd:k*d1 < d2:=by
    have h1:k≤(d2 - 1) / d1:=by rw [← hk];exact Nat.min_le_left _ _
    have h2:=(Nat.le_div_iff_mul_le h.d1).1 h1
    have:=h.d2
    omega
   refine eu_nb X f _ _ _ _ ⟨h.e1,?_,?_,h.q1,h.d1,by omega⟩
   ·obtain ⟨a,ha⟩:=h.e1
    obtain ⟨b,hb⟩:=h.e2
    refine ⟨b+k*a,?_⟩
    rw [Int.natCast_sub (Nat.le_of_lt hkd)]
    push_cast
    rw [Int.add_mul,Int.add_mul]
    have e1:(k:Int)*q1*c=k*(q1*c):=by rw [Int.mul_assoc]
    have e2:(k:Int)*a*m=k*(a*m):=by rw [Int.mul_assoc]
    have e3:(k:Int)*(q1*c) - k*(a*m)=k*d1:=by rw [← Int.mul_sub,ha]
    omega
   ·rw [Int.natCast_sub (Nat.le_of_lt hkd),← h.det]
    push_cast
    rw [Int.add_mul,Int.mul_sub]
    have e1:(k:Int)*q1*d1=q1*(k*d1):=by rw [Int.mul_comm (k:Int) q1,Int.mul_assoc]
    omega
def far (c m X L R:Nat):Bool:=
 match eu X 80 1 (c % m) 0 m with
 |(q1,d1,q2,d2)=>decide (0 < c % m) && decide (X < q1+q2) && decide (R / d1*q1 < L) && decide (R / d2*q2 < L)
theorem far_ok {c m X L R:Nat} (hm:0 < m) (h:far c m X L R=true) {x:Nat} (hx0:0 < x) (hxX:x≤X) (hxL:L≤x) (k:Int):
  (R:Int) < (x:Int)*c - k*m∨(x:Int)*c - k*m < -(R:Int):=by
 unfold far at h
 have hnb:0 < c % m→Nb c m 1 (c % m) 0 m:=fun h0=>
  ⟨⟨(c / m:Nat),by
   have:=Nat.div_add_mod c m
   generalize c / m=a at this
   generalize c % m=b at this
   have e:((m*a+b:Nat):Int)=c:=by rw [this]
   rw [Int.natCast_add,Int.natCast_mul,Int.mul_comm] at e
   omega⟩,⟨1,by simp⟩,by simp,by omega,h0,hm⟩
 have hnb2:=fun h0=>eu_nb X 80 1 (c % m) 0 m (hnb h0)
 generalize eu X 80 1 (c % m) 0 m=r at h hnb2
 obtain ⟨q1,d1,q2,d2⟩:=r
 simp only [Bool.and_eq_true,decide_eq_true_eq] at h hnb2
 obtain ⟨⟨⟨h0,h1⟩,h2⟩,h3⟩:=h
 have nb:=hnb2 h0
 obtain ⟨k1,e1⟩:=nb.e1
 obtain ⟨k2,e2⟩:=nb.e2
 have c1:(R:Int) / d1*q1 < L:=by exact_mod_cast h2
 have c2:(R:Int) / d2*q2 < L:=by exact_mod_cast h3
 exact apart (X:=X) (L:=L) e1 e2 nb.det (by have:=nb.q1;omega) (by omega) (by have:=nb.d1;omega) (by have:=nb.d2;omega) (by omega) c1 c2 (by omega) (by omega) (by omega)
end Go.Proofs.YtmadknpaljaecaaGreatDoor.Us
namespace Go.Proofs.YtmadknpaljaecaaGreatDoor.Us
def sc (x hi lo S:Nat):Nat:=
 let h:=x*hi / 2 ^ 64
 let mid:=x*hi % 2 ^ 64
 let mid2:=x*lo / 2 ^ 64
 if h / S*S≠h then h / S ||| 1 else (if mid < mid2 then h - 1 else h) / S ||| (if (mid+2 ^ 64 - mid2) % 2 ^ 64 > 1 then 1 else 0)
def un (n m:Nat):Nat:=n / m ||| (if n % m=0 then 0 else 1)
theorem un_in {n m q:Nat} (h1:q*m < n) (h2:n < (q+1)*m):un n m=q ||| 1:=by
 have hd:n / m=q:=Nat.div_eq_of_lt_le (by omega) h2
 have hm:n % m≠0:=by
  intro h
  have:=Nat.div_add_mod n m
  rw [hd,h,Nat.mul_comm] at this
  omega
 unfold un
 rw [hd,if_neg hm]
theorem un_at {n m q:Nat} (hm:0 < m) (h:n=q*m):un n m=q ||| 0:=by
 subst h
 unfold un
 rw [Nat.mul_div_cancel _ hm,Nat.mul_mod_left,if_pos rfl]
theorem sc_ok {x A B c hi lo S:Nat} (hS:0 < S) (hx:x < 2 ^ 64) (hB:0 < B) (hc1:A≤c*B) (hc2:c*B < A+B) (hhl:hi*2 ^ 64=c+lo) (hlo:lo < 2 ^ 64) (hxp:0 < x)
  (H:∀ k:Nat,x*c≤k*(S*2 ^ 128)+2 ^ 64→k*(S*2 ^ 128)≤x*c+2 ^ 64→x*A=k*(B*(S*2 ^ 128))):sc x hi lo S=un (x*A) (B*(S*2 ^ 128)):=by
 have p64:(2:Nat) ^ 64=18446744073709551616:=rfl
 have p128:(2:Nat) ^ 128=340282366920938463463374607431768211456:=rfl
 rw [p64] at hx hhl hlo H
 rw [p128] at H
 unfold sc
 rw [p64,p128]
 generalize hh:x*hi / 18446744073709551616=h
 generalize hmid:x*hi % 18446744073709551616=mid
 generalize hmid2:x*lo / 18446744073709551616=mid2
 simp only
 have e1:=Nat.div_add_mod (x*hi) 18446744073709551616
 rw [hh,hmid] at e1
 have hmidlt:mid < 18446744073709551616:=by rw [← hmid];exact Nat.mod_lt _ (by decide)
 have e2:=Nat.div_add_mod (x*lo) 18446744073709551616
 rw [hmid2] at e2
 have hlo2:x*lo % 18446744073709551616 < 18446744073709551616:=Nat.mod_lt _ (by decide)
 generalize x*lo % 18446744073709551616=lo2 at e2 hlo2
 have hm2:mid2≤18446744073709551614:=by
  have h1:x*lo≤18446744073709551615*18446744073709551615:=Nat.mul_le_mul (by omega) (by omega)
  omega
 have eN:x*c+x*lo=x*hi*18446744073709551616:=by rw [← Nat.mul_add,← hhl,Nat.mul_assoc]
 have hN:x*c+mid2*18446744073709551616+lo2=h*340282366920938463463374607431768211456+mid*18446744073709551616:=by omega
 have t1:x*A≤B*(x*c):=by
  have:=Nat.mul_le_mul_left x hc1
  rw [show x*(c*B)=B*(x*c) from by rw [Nat.mul_comm B,Nat.mul_assoc]] at this
  exact this
 have t2:B*(x*c) < x*A+B*18446744073709551616:=by
  have h1:x*(c*B) < x*(A+B):=Nat.mul_lt_mul_of_pos_left hc2 hxp
  rw [show x*(c*B)=B*(x*c) from by rw [Nat.mul_comm B,Nat.mul_assoc],Nat.mul_add] at h1
  have h2:x*B≤B*18446744073709551616:=by rw [Nat.mul_comm];exact Nat.mul_le_mul_left _ (by omega)
  omega
 clear e1 e2 eN hh hmid hmid2 hc1 hc2 hhl
 generalize x*c=N at*
 generalize x*A=T at*
 have above:∀ q:Nat,N < (q+1)*(S*340282366920938463463374607431768211456)→T < (q+1)*(B*(S*340282366920938463463374607431768211456)):=by
  intro q hq
  have h1:B*N < B*((q+1)*(S*340282366920938463463374607431768211456)):=Nat.mul_lt_mul_of_pos_left hq hB
  rw [Nat.mul_left_comm] at h1
  omega
 have below:∀ q:Nat,q*(S*340282366920938463463374607431768211456)+18446744073709551616≤N→q*(B*(S*340282366920938463463374607431768211456)) < T:=by
  intro q hq
  have h1:B*(q*(S*340282366920938463463374607431768211456)+18446744073709551616)≤B*N:=Nat.mul_le_mul_left _ hq
  rw [Nat.mul_add,Nat.mul_left_comm] at h1
  omega
 have hdm:=Nat.div_add_mod h S
 have hr:=Nat.mod_lt h hS
 generalize h / S=q at hdm ⊢
 generalize h % S=r at hdm hr
 have eM:∀ k:Nat,k*(S*340282366920938463463374607431768211456)=S*k*340282366920938463463374607431768211456:=fun k=>by rw [← Nat.mul_assoc,Nat.mul_comm k S]
 by_cases hrz:q*S≠h
 ·rw [if_pos hrz]
  have hr1:1≤r:=by
   rw [Nat.mul_comm] at hrz
   omega
  refine (un_in (below q ?_) (above q ?_)).symm
  ·rw [eM];omega
  ·rw [eM,Nat.mul_add,Nat.mul_one];omega
 ·rw [if_neg hrz]
  have hrz:S*q=h:=by rw [Nat.mul_comm];omega
  have hr0:r=0:=by omega
  by_cases hlt:mid < mid2
  ·rw [if_pos hlt]
   have hh1:1≤h:=by
    rcases Nat.eq_zero_or_pos h with h0|h0
    ·subst h0;omega
    ·exact h0
   have hq1:1≤q:=by
    rcases Nat.eq_zero_or_pos q with h0|h0
    ·subst h0;simp at hrz;omega
    ·exact h0
   have hmod:(mid+18446744073709551616 - mid2) % 18446744073709551616=mid+18446744073709551616 - mid2:=Nat.mod_eq_of_lt (by omega)
   rw [hmod,if_pos (by omega)]
   obtain ⟨q',rfl⟩:∃ q',q=q'+1:=⟨q - 1,by omega⟩
   have hdiv:(h - 1) / S=q':=Nat.div_eq_of_lt_le (by rw [Nat.mul_comm];rw [Nat.mul_add] at hrz;omega) (by rw [Nat.mul_comm];omega)
   rw [hdiv]
   rw [Nat.mul_add,Nat.mul_one] at hrz
   refine (un_in (below q' ?_) (above q' ?_)).symm
   ·rw [eM];omega
   ·rw [eM,Nat.mul_add,Nat.mul_one];omega
  ·rw [if_neg hlt]
   have hdiv:h / S=q:=by rw [← hrz];exact Nat.mul_div_cancel_left _ hS
   have hmod:(mid+18446744073709551616 - mid2) % 18446744073709551616=mid - mid2:=by
    rw [show mid+18446744073709551616 - mid2=mid - mid2+18446744073709551616 from by omega,Nat.add_mod_right,Nat.mod_eq_of_lt (by omega)]
   rw [hmod,hdiv]
   by_cases hd:mid - mid2 > 1
   ·rw [if_pos hd]
    refine (un_in (below q ?_) (above q ?_)).symm
    ·rw [eM];omega
    ·rw [eM,Nat.mul_add,Nat.mul_one];omega
   ·rw [if_neg hd]
    refine (un_at (Nat.mul_pos hB (Nat.mul_pos hS (by decide))) (H q ?_ ?_)).symm
    ·rw [eM];omega
    ·rw [eM];omega
end Go.Proofs.YtmadknpaljaecaaGreatDoor.Us
namespace Go.Proofs.YtmadknpaljaecaaGreatDoor.Us
def lp (p:Int):Int:=p*108853 / 32768
def A (p:Int):Nat:=10 ^ p.toNat*2 ^ (127 - lp p).toNat
def B (p:Int):Nat:=10 ^ (-p).toNat*2 ^ (lp p - 127).toNat
def cc (p:Int):Nat:=(A p+B p - 1) / B p
def hi (p:Int):Nat:=(cc p+(2 ^ 64 - 1)) / 2 ^ 64
def lo (p:Int):Nat:=hi p*2 ^ 64 - cc p
def gg (p:Int):Nat:=min (127 - lp p).toNat ((-p).toNat+136)
def fine (p:Int):Bool:=
 if 0≤p∧p≤27 then decide (cc p % 2 ^ 65=0) && decide (B p=1)
 else if -27≤p∧p < 0 then decide (A p % 2 ^ gg p=0) && decide (B p*2 ^ 136 % 2 ^ gg p=0) && decide (B p*2 ^ 65≤2 ^ gg p)
 else far (cc p) (2 ^ 136) (2 ^ 64 - 1) (2 ^ 63) (2 ^ 64)
def sized (p:Int):Bool:=decide (2 ^ 127*B p≤A p) && decide (A p*2 ^ 21 < 2 ^ 128*B p*(2 ^ 21 - 1))
def upTo:Nat→(Nat→Bool)→Bool
 |0,_=>true
 |n+1,f=>f n && upTo n f
theorem upTo_get {f:Nat→Bool}:∀ {n:Nat},upTo n f=true→∀ i,i < n→f i=true
 |n+1,h,i,hi=>by
  simp only [upTo,Bool.and_eq_true] at h
  rcases Nat.lt_or_ge i n with h1|h1
  ·exact upTo_get h.2 i h1
  ·have:i=n:=by omega
   subst this;exact h.1
set_option maxRecDepth 100000
theorem fines:upTo 656 (fun i=>fine ((i:Int) - 345))=true:=by decide+kernel
theorem sizeds:upTo 656 (fun i=>sized ((i:Int) - 345))=true:=by decide+kernel
theorem B_pos (p:Int):0 < B p:=Nat.mul_pos (Nat.pow_pos (by decide)) (Nat.pow_pos (by decide))
theorem A_pos (p:Int):0 < A p:=Nat.mul_pos (Nat.pow_pos (by decide)) (Nat.pow_pos (by decide))
theorem c1 (p:Int):A p≤cc p*B p:=by
 have hB:=B_pos p
 have h:=Nat.div_add_mod (A p+B p - 1) (B p)
 have h2:=Nat.mod_lt (A p+B p - 1) hB
 unfold cc
 rw [Nat.mul_comm] at h
 omega
theorem c2 (p:Int):cc p*B p < A p+B p:=by
 have hB:=B_pos p
 have h:=Nat.div_mul_le_self (A p+B p - 1) (B p)
 unfold cc
 omega
theorem hl (p:Int):hi p*2 ^ 64=cc p+lo p∧lo p < 2 ^ 64:=by
 unfold lo
 have h:=Nat.div_add_mod (cc p+(2 ^ 64 - 1)) (2 ^ 64)
 have h2:=Nat.mod_lt (cc p+(2 ^ 64 - 1)) (show 0 < 2 ^ 64 by decide)
 unfold hi
 have p64:(2:Nat) ^ 64=18446744073709551616:=rfl
 rw [p64] at h h2 ⊢
 omega
theorem near65 {a b:Nat} (h1:a*2 ^ 65≤b*2 ^ 65+2 ^ 64) (h2:b*2 ^ 65≤a*2 ^ 65+2 ^ 64):a=b:=by omega
theorem far_not {N K R:Nat} (h1:N≤K+R) (h2:K≤N+R) (h:(R:Int) < (N:Int) - (K:Int)∨(N:Int) - (K:Int) < -(R:Int)):False:=by omega
theorem scaled {p:Int} (h1:-345≤p) (h2:p≤310) {x s:Nat} (hx0:2 ^ 63≤x) (hx:x < 2 ^ 64) (hs:8≤s):sc x (hi p) (lo p) (2 ^ s)=un (x*A p) (B p*(2 ^ s*2 ^ 128)):=by
 have hf:fine p=true:=by
  have h3:fine (((p+345).toNat:Int) - 345)=true:=upTo_get fines (p+345).toNat (by omega)
  rwa [show ((p+345).toNat:Int) - 345=p by omega] at h3
 have p63:(2:Nat) ^ 63=9223372036854775808:=rfl
 have p64:(2:Nat) ^ 64=18446744073709551616:=rfl
 refine sc_ok (Nat.pow_pos (by decide)) hx (B_pos p) (c1 p) (c2 p) (hl p).1 (hl p).2 (by omega) fun k k1 k2=>?_
 have eM:2 ^ s*2 ^ 128=2 ^ (s - 8)*2 ^ 136:=by rw [← Nat.pow_add,← Nat.pow_add];congr 1;omega
 unfold fine at hf
 split at hf
 ·
  simp only [Bool.and_eq_true,decide_eq_true_eq] at hf
  obtain ⟨hf,hB⟩:=hf
  have hc:cc p=A p:=by
   have a1:=c1 p;have a2:=c2 p
   rw [hB] at a1 a2;omega
  rw [hB,Nat.one_mul,← hc]
  obtain ⟨j,hj⟩:=Nat.dvd_of_mod_eq_zero hf
  have e1:x*cc p=(x*j)*2 ^ 65:=by rw [hj,Nat.mul_comm (2 ^ 65) j,Nat.mul_assoc]
  have e2:k*(2 ^ s*2 ^ 128)=(k*2 ^ s*2 ^ 63)*2 ^ 65:=by
   have p128:(2:Nat) ^ 128=2 ^ 63*2 ^ 65:=by rw [← Nat.pow_add]
   rw [p128];ac_rfl
  rw [e1,e2] at k1 k2
  rw [e1,e2]
  have p65:(2:Nat) ^ 65=36893488147419103232:=rfl
  rw [near65 k1 k2]
 split at hf
 ·
  simp only [Bool.and_eq_true,decide_eq_true_eq] at hf
  obtain ⟨⟨g1,g2⟩,g3⟩:=hf
  obtain ⟨j,hj⟩:=Nat.dvd_of_mod_eq_zero g1
  obtain ⟨i,hi⟩:=Nat.dvd_of_mod_eq_zero g2
  have hB:=B_pos p
  have t1:x*A p≤B p*(x*cc p):=by
   have:=Nat.mul_le_mul_left x (c1 p)
   rw [show x*(cc p*B p)=B p*(x*cc p) from by rw [Nat.mul_comm (B p),Nat.mul_assoc]] at this
   exact this
  have t2:B p*(x*cc p) < x*A p+B p*2 ^ 64:=by
   have h1:x*(cc p*B p) < x*(A p+B p):=Nat.mul_lt_mul_of_pos_left (c2 p) (by omega)
   rw [show x*(cc p*B p)=B p*(x*cc p) from by rw [Nat.mul_comm (B p),Nat.mul_assoc],Nat.mul_add] at h1
   have h2:x*B p≤B p*2 ^ 64:=by rw [Nat.mul_comm];exact Nat.mul_le_mul_left _ (by omega)
   omega
  have t3:=Nat.mul_le_mul_left (B p) k1
  have t4:=Nat.mul_le_mul_left (B p) k2
  rw [Nat.mul_add] at t3 t4
  have e2:B p*(k*(2 ^ s*2 ^ 128))=(k*2 ^ (s - 8)*i)*2 ^ gg p:=by
   rw [eM,show B p*(k*(2 ^ (s - 8)*2 ^ 136))=k*2 ^ (s - 8)*(B p*2 ^ 136) from by ac_rfl,hi];ac_rfl
  have e1:x*A p=(x*j)*2 ^ gg p:=by rw [hj];ac_rfl
  rw [show k*(B p*(2 ^ s*2 ^ 128))=B p*(k*(2 ^ s*2 ^ 128)) from by ac_rfl]
  rw [e2] at t3 t4 ⊢
  rw [e1] at t1 t2 ⊢
  have p65:B p*2 ^ 65=B p*2 ^ 64+B p*2 ^ 64:=by rw [show (2:Nat) ^ 65=2 ^ 64+2 ^ 64 from rfl,Nat.mul_add]
  have hg:0 < 2 ^ gg p:=Nat.pow_pos (by decide)
  generalize x*j=a at t1 t2 ⊢
  generalize k*2 ^ (s - 8)*i=b at t3 t4 ⊢
  have l1:a*2 ^ gg p < (b+1)*2 ^ gg p:=by
   rw [Nat.add_mul]
   have:0 < B p*2 ^ 64:=Nat.mul_pos hB (by decide)
   omega
  have l2:b*2 ^ gg p < (a+1)*2 ^ gg p:=by
   rw [Nat.add_mul]
   omega
  have:=Nat.lt_of_mul_lt_mul_right l1
  have:=Nat.lt_of_mul_lt_mul_right l2
  have:a=b:=by omega
  rw [this]
 ·
  exfalso
  have hx3:0 < x:=Nat.lt_of_lt_of_le (Nat.pow_pos (by decide)) hx0
  have hx4:x≤2 ^ 64 - 1:=Nat.le_sub_one_of_lt hx
  have hm:0 < 2 ^ 136:=Nat.pow_pos (by decide)
  have:=far_ok hm hf hx3 hx4 hx0 ((k*2 ^ (s - 8):Nat):Int)
  rw [eM,← Nat.mul_assoc] at k1 k2
  rw [← Int.natCast_mul,← Int.natCast_mul] at this
  exact far_not k1 k2 this
end Go.Proofs.YtmadknpaljaecaaGreatDoor.Us
namespace Go.Proofs.YtmadknpaljaecaaGreatDoor.Us
open Fl
structure Near (n m b:Nat):Prop where
 le:b≤inf
 up:b < inf→2*n≤m*(V b+V (b+1))∧(2*n=m*(V b+V (b+1))→b % 2=0)
 down:0 < b→m*(V (b - 1)+V b)≤2*n∧(m*(V (b - 1)+V b)=2*n→b % 2=0)
theorem Near.lt {n m b b':Nat} (hm:0 < m) (h:Near n m b) (h':Near n m b') (hlt:b < b'):False:=by
 have hb:=h'.le
 obtain ⟨u1,u2⟩:=h.up (by omega)
 obtain ⟨d1,d2⟩:=h'.down (by omega)
 have v1:V b≤V (b' - 1):=V_le_iff.2 (by omega)
 have v2:V (b+1)≤V b':=V_le_iff.2 (by omega)
 have e1:m*(V b+V (b+1))≤m*(V (b' - 1)+V b'):=Nat.mul_le_mul_left _ (by omega)
 have e2:m*(V b+V (b+1))=m*(V (b' - 1)+V b'):=by omega
 have e3:=Nat.eq_of_mul_eq_mul_left hm e2
 have e4:V (b+1)=V b':=by omega
 have e5:=V_inj e4
 have p1:=u2 (by omega)
 have p2:=d2 (by omega)
 omega
theorem Near.uniq {n m b b':Nat} (hm:0 < m) (h:Near n m b) (h':Near n m b'):b=b':=by
 rcases Nat.lt_trichotomy b b' with h1|h1|h1
 ·exact (h.lt hm h' h1).elim
 ·exact h1
 ·exact (h'.lt hm h h1).elim
theorem Near.scale {n m b:Nat} (k:Nat) (hk:0 < k) (h:Near n m b):Near (k*n) (k*m) b:=by
 refine ⟨h.le,fun hb=>?_,fun hb=>?_⟩
 ·obtain ⟨u1,u2⟩:=h.up hb
  have:=Nat.mul_le_mul_left k u1
  rw [Nat.mul_assoc k m,← Nat.mul_left_comm k 2]
  exact ⟨this,fun e=>u2 (Nat.eq_of_mul_eq_mul_left hk e)⟩
 ·obtain ⟨u1,u2⟩:=h.down hb
  have:=Nat.mul_le_mul_left k u1
  rw [Nat.mul_assoc k m]
  refine ⟨by rw [Nat.mul_left_comm 2 k];exact this,fun e=>u2 ?_⟩
  rw [Nat.mul_left_comm 2 k] at e
  exact Nat.eq_of_mul_eq_mul_left hk e
def rnd (u:Nat):Nat:=(u+1+u / 4 % 2) / 4
theorem un_lo {n m:Nat}:n / m≤un n m:=Nat.left_le_or
theorem or_one (q:Nat):q ||| 1=q / 2*2+1:=by
 have h:(q ||| 1) % 2=1:=by simp
 have h2:(q ||| 1) / 2=q / 2:=by rw [Nat.or_div_two];simp
 omega
theorem un_eq (n m:Nat):un n m=if n % m=0 then n / m else n / m / 2*2+1:=by
 unfold un
 split
 ·simp
 ·exact or_one _
theorem rnd_near {n M:Nat} (hM:0 < M):let R:=rnd (un (4*n) M)
  2*n≤M*(2*R+1)∧(2*n=M*(2*R+1)→R % 2=0)∧M*(2*R)≤2*n+M∧(M*(2*R)=2*n+M→R % 2=0):=by
 have hd:=Nat.div_add_mod (4*n) M
 have hr:=Nat.mod_lt (4*n) hM
 rw [un_eq]
 generalize 4*n / M=q at*
 generalize 4*n % M=r at*
 obtain ⟨F,t,rfl,ht⟩:∃ F t,q=4*F+t∧t < 4:=⟨q / 4,q % 4,by omega,Nat.mod_lt _ (by decide)⟩
 have eF:M*(4*F+t)=4*(M*F)+M*t:=by rw [Nat.mul_add,Nat.mul_left_comm]
 rw [eF] at hd
 have e3:∀ R:Nat,M*(2*R+1)=2*(M*R)+M:=fun R=>by rw [Nat.mul_add,Nat.mul_left_comm,Nat.mul_one]
 have e4:∀ R:Nat,M*(2*R)=2*(M*R):=fun R=>by rw [Nat.mul_left_comm]
 simp only [e3,e4]
 have hFR:∀ R:Nat,R=F→M*R=M*F:=fun R h=>by rw [h]
 have hFS:∀ R:Nat,R=F+1→M*R=M*F+M:=fun R h=>by rw [h,Nat.mul_add,Nat.mul_one]
 generalize M*F=G at*
 unfold rnd
 have ht4:t=0∨t=1∨t=2∨t=3:=by omega
 rcases ht4 with rfl|rfl|rfl|rfl
 ·have hR:∀ u,(u=4*F∨u=4*F+1)→(u+1+u / 4 % 2) / 4=F:=fun u hu=>by omega
  have:(((if r=0 then 4*F+0 else (4*F+0) / 2*2+1)+1+(if r=0 then 4*F+0 else (4*F+0) / 2*2+1) / 4 % 2) / 4)=F:=hR _ (by split <;> omega)
  rw [hFR _ this,this]
  omega
 ·have hR:∀ u,u=4*F+1→(u+1+u / 4 % 2) / 4=F:=fun u hu=>by omega
  have:(((if r=0 then 4*F+1 else (4*F+1) / 2*2+1)+1+(if r=0 then 4*F+1 else (4*F+1) / 2*2+1) / 4 % 2) / 4)=F:=hR _ (by split <;> omega)
  rw [hFR _ this,this]
  omega
 ·by_cases h0:r=0
  ·subst h0
   simp only [if_true]
   by_cases hp:F % 2=0
   ·have:(4*F+2+1+(4*F+2) / 4 % 2) / 4=F:=by omega
    rw [hFR _ this,this]
    omega
   ·have:(4*F+2+1+(4*F+2) / 4 % 2) / 4=F+1:=by omega
    rw [hFS _ this,this]
    omega
  ·simp only [if_neg h0]
   have:((4*F+2) / 2*2+1+1+((4*F+2) / 2*2+1) / 4 % 2) / 4=F+1:=by omega
   rw [hFS _ this,this]
   omega
 ·have hR:∀ u,u=4*F+3→(u+1+u / 4 % 2) / 4=F+1:=fun u hu=>by omega
  have:(((if r=0 then 4*F+3 else (4*F+3) / 2*2+1)+1+(if r=0 then 4*F+3 else (4*F+3) / 2*2+1) / 4 % 2) / 4)=F+1:=hR _ (by split <;> omega)
  rw [hFS _ this,this]
  omega
theorem un_half {n M:Nat} (hM:0 < M):un n M / 2 ||| un n M % 2=un n (2*M):=by
 have e1:n / (2*M)=n / M / 2:=by rw [Nat.mul_comm,Nat.div_div_eq_div_mul]
 have hd:=Nat.div_add_mod n M
 have hr:=Nat.mod_lt n hM
 have e2:n % (2*M)=0↔n % M=0∧n / M % 2=0:=by
  have hd2:=Nat.div_add_mod n (2*M)
  have hr2:=Nat.mod_lt n (show 0 < 2*M by omega)
  rw [e1] at hd2
  have hq:=Nat.div_add_mod (n / M) 2
  generalize n / M=q at*
  generalize n % M=r at*
  generalize n % (2*M)=r2 at*
  have eq:M*q=2*M*(q / 2)+M*(q % 2):=by
   conv=>lhs;rw [← hq]
   rw [Nat.mul_add];congr 1;ac_rfl
  rcases Nat.mod_two_eq_zero_or_one q with h|h
  ·rw [h] at eq ⊢;simp at eq ⊢;omega
  ·rw [h] at eq ⊢;simp at eq ⊢;omega
 rw [un_eq n M]
 unfold un
 rw [e1]
 by_cases h0:n % M=0
 ·rw [if_pos h0]
  rcases Nat.mod_two_eq_zero_or_one (n / M) with h|h
  ·rw [if_pos (e2.2 ⟨h0,h⟩),h]
  ·rw [if_neg (fun hc=>by have:=(e2.1 hc).2;omega),h]
 ·rw [if_neg h0,if_neg (fun hc=>h0 (e2.1 hc).1)]
  congr 1 <;> omega
theorem un_ratio {n m n' m':Nat} (hm:0 < m) (hm':0 < m') (h:n*m' =n'*m):un n m=un n' m':=by
 have e1:n / m=n' / m':=by
  rw [← Nat.mul_div_mul_right n m hm',h,Nat.mul_comm m m',Nat.mul_div_mul_right _ _ hm]
 have e2:n % m=0↔n' % m' =0:=by
  constructor
  ·intro h0
   obtain ⟨k,rfl⟩:=Nat.dvd_of_mod_eq_zero h0
   have:n' =m'*k:=by
    have:m*(k*m')=m*n':=by rw [← Nat.mul_assoc,h,Nat.mul_comm]
    have:=Nat.eq_of_mul_eq_mul_left hm this
    rw [← this,Nat.mul_comm]
   rw [this,Nat.mul_mod_right]
  ·intro h0
   obtain ⟨k,rfl⟩:=Nat.dvd_of_mod_eq_zero h0
   have:n=m*k:=by
    have:m'*n=m'*(k*m):=by rw [Nat.mul_comm m' n,h,Nat.mul_assoc]
    have:=Nat.eq_of_mul_eq_mul_left hm' this
    rw [this,Nat.mul_comm]
   rw [this,Nat.mul_mod_right]
 unfold un
 rw [e1]
 by_cases h0:n % m=0
 ·rw [if_pos h0,if_pos (e2.1 h0)]
 ·rw [if_neg h0,if_neg (fun hc=>h0 (e2.2 hc))]
end Go.Proofs.YtmadknpaljaecaaGreatDoor.Us
namespace Go.Proofs.YtmadknpaljaecaaGreatDoor.Us
open Fl
theorem V_norm' (k M:Nat) (h1:4503599627370496≤M) (h2:M≤9007199254740992):V (k*4503599627370496+M)=M*2 ^ k:=by
 rcases Nat.lt_or_ge M 9007199254740992 with h|h
 ·exact V_norm k M h1 h
 ·have hM:M=9007199254740992:=by omega
  subst hM
  rw [show k*4503599627370496+9007199254740992=(k+1)*4503599627370496+4503599627370496 from by omega,V_norm (k+1) 4503599627370496 (by decide) (by decide),Nat.pow_succ]
  omega
theorem V_small {r:Nat} (h:r≤9007199254740992):V r=r:=by
 rcases Nat.lt_or_ge r 4503599627370496 with h1|h1
 ·unfold V;rw [if_pos h1]
 ·have:=V_norm' 0 r h1 h
  simpa using this
theorem near_of {n m b:Nat} (u1:2*n≤m*(V b+V (b+1))) (u2:2*n=m*(V b+V (b+1))→b % 2=0) (d1:0 < b→m*(V (b - 1)+V b)≤2*n) (d2:0 < b→m*(V (b - 1)+V b)=2*n→b % 2=0):
  Near n m (if b < inf then b else inf):=by
 split
 ·rename_i h
  exact ⟨by omega,fun _=>⟨u1,u2⟩,fun hb=>⟨d1 hb,d2 hb⟩⟩
 ·rename_i h
  have hi:0 < inf:=by decide
  refine ⟨Nat.le_refl _,fun h=>absurd h (Nat.lt_irrefl _),fun _=>⟨?_,fun _=>by decide⟩⟩
  have v1:V (inf - 1)≤V (b - 1):=V_le_iff.2 (by omega)
  have v2:V inf≤V b:=V_le_iff.2 (by omega)
  exact Nat.le_trans (Nat.mul_le_mul_left _ (by omega)) (d1 (by omega))
theorem two_add (R:Nat):R+(R+1)=2*R+1:=by omega
theorem b_succ (g R:Nat):g*4503599627370496+R+1=g*4503599627370496+(R+1):=Nat.add_assoc _ _ _
theorem b_pred (g R:Nat) (h:0 < R):g*4503599627370496+R - 1=g*4503599627370496+(R - 1):=by omega
theorem b_low (g:Nat):(g+1)*4503599627370496+4503599627370496 - 1=g*4503599627370496+9007199254740991:=by omega
theorem b_par (g R:Nat) (h:R % 2=0):(g*4503599627370496+R) % 2=0:=by omega
theorem near_up {n m G R:Nat} (a1:2*n≤m*G*(2*R+1)):2*n≤m*(R*G+(R+1)*G):=by
 rw [← Nat.add_mul,Nat.mul_comm _ G,← Nat.mul_assoc,two_add];exact a1
theorem near_up_eq {n m G R:Nat} (e:2*n=m*(R*G+(R+1)*G)):2*n=m*G*(2*R+1):=by
 rw [← Nat.add_mul,Nat.mul_comm _ G,← Nat.mul_assoc,two_add] at e;exact e
theorem down_eq {m G R:Nat} (h:0 < R):m*((R - 1)*G+R*G)+m*G=m*G*(2*R):=by
 obtain ⟨r,rfl⟩:∃ r,R=r+1:=⟨R - 1,by omega⟩
 rw [Nat.add_sub_cancel,← Nat.add_mul,Nat.mul_comm _ G,← Nat.mul_assoc,← Nat.mul_succ]
 congr 1;omega
theorem down_low {m G:Nat}:2*(m*(9007199254740991*G+4503599627370496*(G*2)))+m*(G*2)=m*(G*2)*(4*4503599627370496):=by
 have e1:m*(9007199254740991*G+4503599627370496*(G*2))=m*G*18014398509481983:=by
  rw [Nat.mul_assoc];congr 1;omega
 rw [e1,← Nat.mul_assoc m]
 generalize m*G=z
 omega
theorem le_of_down {a b c d:Nat} (h1:a+b=c) (h2:c≤d+b):a≤d:=by omega
theorem le_of_down2 {a b c d:Nat} (h1:2*a+b=c) (h2:c≤4*d+b):a≤2*d:=by omega
theorem eq_of_down {a b c d:Nat} (h1:a+b=c) (h2:a=d):c=d+b:=by omega
theorem rung_near {n m g:Nat} (hm:0 < m) {R:Nat} (hR:R=rnd (un (4*n) (m*2 ^ g))) (h1:4503599627370496≤R) (h2:R < 9007199254740992) (hlow:R=4503599627370496→g=0∨m*2 ^ g*(4*R)≤4*n+m*2 ^ g):
  Near n m (if g*4503599627370496+R < inf then g*4503599627370496+R else inf):=by
 obtain ⟨a1,a2,a3,a4⟩:=rnd_near (n:=n) (M:=m*2 ^ g) (Nat.mul_pos hm (Nat.pow_pos (by decide)))
 rw [← hR] at a1 a2 a3 a4
 have v0:=V_norm' g R h1 (Nat.le_of_lt h2)
 have v1:V (g*4503599627370496+R+1)=(R+1)*2 ^ g:=by rw [b_succ];exact V_norm' g (R+1) (Nat.le_succ_of_le h1) h2
 have hR0:0 < R:=Nat.lt_of_lt_of_le (by decide) h1
 by_cases hc:R=4503599627370496∧g≠0
 ·obtain ⟨hc,hg⟩:=hc
  have hl:=(hlow hc).resolve_left hg
  subst hc
  obtain ⟨g',rfl⟩:∃ g',g=g'+1:=⟨g - 1,(Nat.sub_one_add_one hg).symm⟩
  have v2:V ((g'+1)*4503599627370496+4503599627370496 - 1)=9007199254740991*2 ^ g':=by
   rw [b_low]
   exact V_norm' g' _ (by decide) (by decide)
  rw [Nat.pow_succ] at v0 hl
  refine near_of (by rw [v0,v1,← Nat.pow_succ];exact near_up a1) (by rw [v0,v1,← Nat.pow_succ];exact fun e=>b_par _ _ (a2 (near_up_eq e))) (fun _=>?_) (fun _ _=>b_par _ _ (by decide))
  rw [v0,v2]
  exact le_of_down2 down_low hl
 ·have v2:V (g*4503599627370496+R - 1)=(R - 1)*2 ^ g:=by
   by_cases hg:g=0
   ·subst hg
    simp only [Nat.zero_mul,Nat.zero_add,Nat.pow_zero,Nat.mul_one]
    exact V_small (Nat.le_trans (Nat.sub_le _ _) (Nat.le_of_lt h2))
   ·have hne:R≠4503599627370496:=fun e=>hc ⟨e,hg⟩
    rw [b_pred g R hR0]
    exact V_norm' g (R - 1) (Nat.le_sub_one_of_lt (Nat.lt_of_le_of_ne h1 (Ne.symm hne))) (Nat.le_trans (Nat.sub_le _ _) (Nat.le_of_lt h2))
  refine near_of (by rw [v0,v1];exact near_up a1) (by rw [v0,v1];exact fun e=>b_par _ _ (a2 (near_up_eq e))) (fun _=>?_) (fun _ e=>?_)
  ·rw [v0,v2]
   exact le_of_down (down_eq hR0) a3
  ·rw [v0,v2] at e
   exact b_par _ _ (a4 (eq_of_down (down_eq hR0) e))
theorem rung_small {n m:Nat} (hm:0 < m) {R:Nat} (hR:R=rnd (un (4*n) m)) (h2:R < 4503599627370496):Near n m R:=by
 obtain ⟨a1,a2,a3,a4⟩:=rnd_near (n:=n) (M:=m) hm
 rw [← hR] at a1 a2 a3 a4
 have v0:V R=R:=V_small (by omega)
 have v1:V (R+1)=R+1:=V_small (by omega)
 have v2:V (R - 1)=R - 1:=V_small (by omega)
 have hi:(9007199254740992:Nat) < inf:=by decide
 have:=near_of (n:=n) (m:=m) (b:=R) (by rw [v0,v1,show R+(R+1)=2*R+1 from by omega];exact a1) (by rw [v0,v1,show R+(R+1)=2*R+1 from by omega];exact a2)
  (fun hb=>by
   rw [v0,v2,show R - 1+R=2*R - 1 from by omega,Nat.mul_sub,Nat.mul_one];omega)
  (fun hb e=>by
   rw [v0,v2,show R - 1+R=2*R - 1 from by omega,Nat.mul_sub,Nat.mul_one] at e
   have:m≤m*(2*R):=Nat.le_mul_of_pos_right _ (by omega)
   exact a4 (by omega))
 rwa [if_pos (by omega)] at this
def pf (d:Nat) (p:Int):Nat:=
 let b:=d.log2+1
 let e:Int:=min 1074 (53 - b - lp p)
 let s:Int:=61 - e - b - lp p
 if 64≤s then 0 else
 let u:=sc (d*2 ^ (64 - b)) (hi p) (lo p) (2 ^ s.toNat)
 let u':=if 36028797018963966≤u then u / 2 ||| u % 2 else u
 let e':=if 36028797018963966≤u then e - 1 else e
 let R:=rnd u'
 if R < 4503599627370496 then R else if 972≤-e' then inf else R+(1074 - e').toNat*4503599627370496
theorem rnd_lo {u k:Nat} (h:4*k≤u+1):k≤rnd u:=by unfold rnd;omega
theorem rnd_hi {u k:Nat} (h:u+2 < 4*k):rnd u < k:=by unfold rnd;omega
theorem un_hi {n m:Nat}:un n m≤n / m+1:=by rw [un_eq];split <;> omega
theorem un_even {n m k:Nat} (h:2*k≤un n m):2*k≤n / m:=by rw [un_eq] at h;split at h <;> omega
theorem fin_eq {R g:Nat} (h1:4503599627370496≤R) (h2:R < 9007199254740992):(if g*4503599627370496+R < inf then g*4503599627370496+R else inf)=if 2046≤g then inf else R+g*4503599627370496:=by
 have hi:inf=2047*4503599627370496:=by decide
 rw [hi]
 by_cases h:2046≤g
 ·rw [if_pos h,if_neg (by omega)]
 ·rw [if_neg h,if_pos (by omega)];omega
end Go.Proofs.YtmadknpaljaecaaGreatDoor.Us
namespace Go.Proofs.YtmadknpaljaecaaGreatDoor.Us
open Fl
theorem sized_ok {p:Int} (h1:-345≤p) (h2:p≤310):2 ^ 127*B p≤A p∧A p*2 ^ 21 < 2 ^ 128*B p*(2 ^ 21 - 1):=by
 have h3:sized (((p+345).toNat:Int) - 345)=true:=upTo_get sizeds (p+345).toNat (by omega)
 rw [show ((p+345).toNat:Int) - 345=p by omega] at h3
 simpa only [sized,Bool.and_eq_true,decide_eq_true_eq] using h3
theorem mul_cancel_le {a b k:Nat} (hk:0 < k) (h:k*a≤k*b):a≤b:=Nat.le_of_mul_le_mul_left h hk
theorem join' (d P Q a b g c s k r:Nat) (h:a+b+g=2+k+c+s+r):d*2 ^ a*(P*2 ^ b)*(Q*2 ^ g)=2 ^ 2*(d*P*2 ^ k)*(Q*2 ^ c*(2 ^ s*2 ^ r)):=by
 have e1:d*2 ^ a*(P*2 ^ b)*(Q*2 ^ g)=d*P*Q*2 ^ (a+b+g):=by rw [Nat.pow_add,Nat.pow_add];ac_rfl
 have e2:2 ^ 2*(d*P*2 ^ k)*(Q*2 ^ c*(2 ^ s*2 ^ r))=d*P*Q*2 ^ (2+k+c+s+r):=by
  rw [Nat.pow_add,Nat.pow_add,Nat.pow_add,Nat.pow_add 2 2 k];ac_rfl
 rw [e1,e2,h]
theorem join (d P Q a b g c s:Nat) (h:a+b+g=2+1074+c+s+128):d*2 ^ a*(P*2 ^ b)*(Q*2 ^ g)=4*(d*P*2 ^ 1074)*(Q*2 ^ c*(2 ^ s*2 ^ 128)):=join' d P Q a b g c s 1074 128 h
theorem join0' (d P Q t l k:Nat) (h:l=t+k):d*P*2 ^ k*(Q*2 ^ t)=d*(P*2 ^ l)*Q:=by
 rw [h,Nat.pow_add];ac_rfl
theorem join0 (d P Q t l:Nat) (h:l=t+1074):d*P*2 ^ 1074*(Q*2 ^ t)=d*(P*2 ^ l)*Q:=join0' d P Q t l 1074 h
theorem assoc4 (a b c M:Nat):a*b*c*M=a*(b*M)*c:=by ac_rfl
def nn (d:Nat) (p:Int):Nat:=d*10 ^ p.toNat*2 ^ 1074
def mm (p:Int):Nat:=10 ^ (-p).toNat
theorem mm_pos (p:Int):0 < mm p:=Nat.pow_pos (by decide)
theorem zero_near {n m:Nat} (h:2*n < m):Near n m 0:=by
 have v0:V 0=0:=V_small (by decide)
 have v1:V 1=1:=V_small (by decide)
 have hi:0 < inf:=by decide
 exact ⟨Nat.zero_le _,fun _=>⟨by rw [v0,show 0+1=1 from rfl,v1];omega,fun _=>rfl⟩,fun h=>absurd h (Nat.lt_irrefl _)⟩
theorem lt_chain {n m d A0 B0 t b:Nat} (hB:0 < B0) (h1:n*(B0*2 ^ t)=d*A0*m) (hA:A0 < 2 ^ 128*B0) (hd:d < 2 ^ b) (ht:b+130≤t) (hm:0 < m):4*n≤m:=by
 have e1:n*(B0*2 ^ t)≤2 ^ b*(2 ^ 128*B0)*m:=by
  rw [h1]
  exact Nat.mul_le_mul_right _ (Nat.mul_le_mul (Nat.le_of_lt hd) (Nat.le_of_lt hA))
 have e2:n*(B0*2 ^ (b+130))≤n*(B0*2 ^ t):=Nat.mul_le_mul_left _ (Nat.mul_le_mul_left _ (Nat.pow_le_pow_right (by decide) ht))
 have e3:n*(B0*2 ^ (b+130))=(2 ^ b*(2 ^ 128*B0))*(4*n):=by
  rw [Nat.pow_add,show (2:Nat) ^ 130=2 ^ 128*4 from rfl];ac_rfl
 rw [e3] at e2
 exact Nat.le_of_mul_le_mul_left (Nat.le_trans e2 e1) (Nat.mul_pos (Nat.pow_pos (by decide)) (Nat.mul_pos (by decide) hB))
theorem bounds {xA n4 M BS B0 S x A0:Nat} (hr:xA*M=n4*BS) (hx:xA=x*A0) (hBS:BS=B0*(S*2 ^ 128)) (hB:0 < B0) (hS:0 < S) (hx1:x < 2 ^ 64) (hS8:256≤S) (hM:0 < M)
  (hA2:A0*2 ^ 21 < 2 ^ 128*B0*(2 ^ 21 - 1)):n4*2 ^ 21 < 2 ^ 56*(2 ^ 21 - 1)*M:=by
 have hBSp:0 < BS:=by rw [hBS];exact Nat.mul_pos hB (Nat.mul_pos hS (by decide))
 have h1:xA*2 ^ 21 < 2 ^ 56*(2 ^ 21 - 1)*BS:=by
  have a1:x*(A0*2 ^ 21)≤2 ^ 64*(A0*2 ^ 21):=Nat.mul_le_mul_right _ (Nat.le_of_lt hx1)
  have a2:2 ^ 64*(A0*2 ^ 21) < 2 ^ 64*(2 ^ 128*B0*(2 ^ 21 - 1)):=Nat.mul_lt_mul_of_pos_left hA2 (by decide)
  have a3:2 ^ 64*(2 ^ 128*B0*(2 ^ 21 - 1))=2 ^ 56*(2 ^ 21 - 1)*(B0*(256*2 ^ 128)):=by
   rw [show (2:Nat) ^ 64=2 ^ 56*256 from rfl];ac_rfl
  have a4:2 ^ 56*(2 ^ 21 - 1)*(B0*(256*2 ^ 128))≤2 ^ 56*(2 ^ 21 - 1)*BS:=by
   rw [hBS]
   exact Nat.mul_le_mul_left _ (Nat.mul_le_mul_left _ (Nat.mul_le_mul_right _ hS8))
  rw [hx,Nat.mul_assoc]
  exact Nat.lt_of_le_of_lt a1 (Nat.lt_of_lt_of_le (a3 ▸ a2) a4)
 have h2:xA*2 ^ 21*M < 2 ^ 56*(2 ^ 21 - 1)*BS*M:=Nat.mul_lt_mul_of_pos_right h1 hM
 have e1:xA*2 ^ 21*M=n4*2 ^ 21*BS:=by
  rw [Nat.mul_right_comm,hr];ac_rfl
 have e2:2 ^ 56*(2 ^ 21 - 1)*BS*M=2 ^ 56*(2 ^ 21 - 1)*M*BS:=by ac_rfl
 rw [e1,e2] at h2
 exact Nat.lt_of_mul_lt_mul_right h2
theorem bounds2 {xA n4 M BS B0 x A0:Nat} (hr:xA*M=n4*BS) (hx:xA=x*A0) (hBS:BS=B0*(256*2 ^ 128)) (hB:0 < B0) (hx1:2 ^ 63≤x) (hA1:2 ^ 127*B0≤A0):2 ^ 54*M≤n4:=by
 have hBSp:0 < BS:=by rw [hBS];exact Nat.mul_pos hB (by decide)
 have h1:2 ^ 54*BS≤xA:=by
  rw [hx,hBS]
  have a1:2 ^ 63*(2 ^ 127*B0)≤x*A0:=Nat.mul_le_mul hx1 hA1
  have a2:2 ^ 63*(2 ^ 127*B0)=2 ^ 54*(B0*(256*2 ^ 128)):=by
   rw [show (2:Nat) ^ 63*(2 ^ 127*B0)=2 ^ 190*B0 from by rw [← Nat.mul_assoc],show 2 ^ 54*(B0*(256*2 ^ 128))=2 ^ 190*B0 from by
    rw [Nat.mul_comm B0,← Nat.mul_assoc]]
  rw [← a2];exact a1
 have h2:2 ^ 54*BS*M≤n4*BS:=by rw [← hr];exact Nat.mul_le_mul_right _ h1
 rw [Nat.mul_right_comm] at h2
 exact Nat.le_of_mul_le_mul_right h2 hBSp
theorem div_lo {n M k:Nat} (hM:0 < M) (h:k*M≤n):k≤n / M:=(Nat.le_div_iff_mul_le hM).2 h
theorem le_div {n M k:Nat} (hM:0 < M) (h:k≤n / M):k*M≤n:=(Nat.le_div_iff_mul_le hM).1 h
theorem ofNat_eq {g:Nat} {e:Int} (h:(1074 - e).toNat=g):True:=trivial
theorem heart {n m g:Nat} (hm:0 < m) (hlow:g=0∨2 ^ 54*(m*2 ^ g)≤4*n) (hup:4*n*2 ^ 21 < 2 ^ 56*(2 ^ 21 - 1)*(m*2 ^ g)):
  Near n m (let u:=un (4*n) (m*2 ^ g)
   let u':=if 36028797018963966≤u then u / 2 ||| u % 2 else u
   let g':=if 36028797018963966≤u then g+1 else g
   let R:=rnd u'
   if R < 4503599627370496 then R else if 2046≤g' then inf else R+g'*4503599627370496):=by
 have hM:0 < m*2 ^ g:=Nat.mul_pos hm (Nat.pow_pos (by decide))
 have hq2:4*n / (2*(m*2 ^ g)) < 36028779839094784:=by
  rw [Nat.div_lt_iff_lt_mul (by omega)]
  have e:(2:Nat) ^ 56*(2 ^ 21 - 1)=36028779839094784*2*2 ^ 21:=by decide
  rw [e,assoc4] at hup
  exact Nat.lt_of_mul_lt_mul_right hup
 simp only
 split
 ·rename_i hu
  rw [un_half hM]
  have hMs:2*(m*2 ^ g)=m*2 ^ (g+1):=by rw [Nat.pow_succ];ac_rfl
  have hq:36028797018963966≤4*n / (m*2 ^ g):=un_even (k:=18014398509481983) hu
  have hl:=le_div hM hq
  have hlo:4503599627370496≤rnd (un (4*n) (2*(m*2 ^ g))):=by
   refine rnd_lo ?_
   have h1:18014398509481983≤4*n / (2*(m*2 ^ g)):=by
    refine div_lo (Nat.mul_pos (by decide) hM) ?_
    rw [← Nat.mul_assoc];exact hl
   have h2:=un_lo (n:=4*n) (m:=2*(m*2 ^ g))
   omega
  have hhi:rnd (un (4*n) (2*(m*2 ^ g))) < 9007199254740992:=by
   refine rnd_hi ?_
   have h2:=un_hi (n:=4*n) (m:=2*(m*2 ^ g))
   omega
  rw [if_neg (Nat.not_lt.2 hlo),← fin_eq hlo hhi]
  refine rung_near hm (by rw [hMs]) hlo hhi fun e=>.inr ?_
  rw [e,← hMs]
  generalize m*2 ^ g=M at hl
  omega
 ·rename_i hu
  have hhi:rnd (un (4*n) (m*2 ^ g)) < 9007199254740992:=rnd_hi (by omega)
  split
  ·rename_i hs
   have hg:g=0:=by
    rcases hlow with h|h
    ·exact h
    ·exfalso
     have h1:2 ^ 54≤4*n / (m*2 ^ g):=div_lo hM h
     have h2:=un_lo (n:=4*n) (m:=m*2 ^ g)
     have h3:4503599627370496≤rnd (un (4*n) (m*2 ^ g)):=rnd_lo (by
      have p54:(2:Nat) ^ 54=18014398509481984:=rfl
      omega)
     omega
   subst hg
   rw [Nat.pow_zero,Nat.mul_one] at hs ⊢
   exact rung_small hm rfl hs
  ·rename_i hs
   have hlo:=Nat.not_lt.1 hs
   rw [← fin_eq hlo hhi]
   refine rung_near hm rfl hlo hhi fun e=>?_
   rcases hlow with h|h
   ·exact .inl h
   ·refine .inr ?_
    rw [e]
    have p54:(2:Nat) ^ 54=18014398509481984:=rfl
    rw [p54] at h
    generalize m*2 ^ g=M at h
    omega
end Go.Proofs.YtmadknpaljaecaaGreatDoor.Us
namespace Go.Proofs.YtmadknpaljaecaaGreatDoor.Us
open Fl
theorem log_facts {d:Nat} (hd:0 < d) (h64:d < 2 ^ 64):d.log2+1≤64∧2 ^ 63≤d*2 ^ (64 - (d.log2+1))∧d*2 ^ (64 - (d.log2+1)) < 2 ^ 64∧d < 2 ^ (d.log2+1):=by
 have h0:d≠0:=by omega
 have h1:=Nat.log2_self_le h0
 have h2:=@Nat.lt_log2_self d
 have h3:d.log2 < 64:=(Nat.log2_lt h0).2 h64
 generalize d.log2=b at*
 refine ⟨h3,?_,?_,h2⟩
 ·have:2 ^ b*2 ^ (64 - (b+1))≤d*2 ^ (64 - (b+1)):=Nat.mul_le_mul_right _ h1
  rw [← Nat.pow_add,show b+(64 - (b+1))=63 by omega] at this
  exact this
 ·have:d*2 ^ (64 - (b+1)) < 2 ^ (b+1)*2 ^ (64 - (b+1)):=Nat.mul_lt_mul_of_pos_right h2 (Nat.pow_pos (by decide))
  rw [← Nat.pow_add,show b+1+(64 - (b+1))=64 by omega] at this
  exact this
theorem pow256 {s:Nat} (h:8≤s):256≤2 ^ s:=Nat.pow_le_pow_right (show 0 < 2 by decide) h
theorem A_eq (p:Int):A p=10 ^ p.toNat*2 ^ (127 - lp p).toNat:=rfl
theorem B_eq (p:Int):B p=mm p*2 ^ (lp p - 127).toNat:=rfl
set_option exponentiation.threshold 20000 in
theorem pf_near {d:Nat} {p:Int} (hd:0 < d) (h64:d < 2 ^ 64) (h1:-345≤p) (h2:p≤310):Near (nn d p) (mm p) (pf d p):=by
 obtain ⟨b64,x1,x2,hdb⟩:=log_facts hd h64
 obtain ⟨s1,s2⟩:=sized_ok h1 h2
 have hm:=mm_pos p
 have hB:=B_pos p
 unfold pf
 simp only
 generalize d.log2+1=b at*
 generalize hl:lp p=l at*
 generalize he:min (1074:Int) (53 - b - l)=e
 have he1:e≤1074:=by omega
 have he2:e≤53 - b - l:=by omega
 have he3:e=1074∨e=53 - b - l:=by omega
 split
 ·
  rename_i hs
  have he4:e=1074:=by omega
  subst he4
  refine zero_near ?_
  have hA:A p=10 ^ p.toNat*2 ^ (127 - l).toNat:=by rw [A_eq,hl]
  have hBm:B p=mm p:=by rw [B_eq,hl,show (l - 127).toNat=0 by omega];simp
  have hj:=join0 d (10 ^ p.toNat) (mm p) (127 - l - 1074).toNat (127 - l).toNat (by omega)
  rw [← hA] at hj
  have hn:0 < nn d p:=Nat.mul_pos (Nat.mul_pos hd (Nat.pow_pos (by decide))) (Nat.pow_pos (by decide))
  have hA2:A p < 2 ^ 128*mm p:=by
   rw [hBm] at s2
   have e1:2 ^ 128*mm p*(2 ^ 21 - 1)≤2 ^ 128*mm p*2 ^ 21:=Nat.mul_le_mul_left _ (by decide)
   exact Nat.lt_of_mul_lt_mul_right (Nat.lt_of_lt_of_le s2 e1)
  have:=lt_chain (n:=nn d p) (m:=mm p) (b:=b) hm hj hA2 hdb (by omega) hm
  omega
 ·rename_i hs
  have hx:=scaled h1 h2 x1 x2 (s:=(61 - e - b - l).toNat) (by omega)
  have hr:d*2 ^ (64 - b)*A p*(mm p*2 ^ (1074 - e).toNat)=4*nn d p*(B p*(2 ^ (61 - e - b - l).toNat*2 ^ 128)):=by
   rw [A_eq,B_eq,hl]
   exact join d (10 ^ p.toNat) (mm p) (64 - b) (127 - l).toNat (1074 - e).toNat (l - 127).toNat (61 - e - b - l).toNat (by omega)
  have hun:un (d*2 ^ (64 - b)*A p) (B p*(2 ^ (61 - e - b - l).toNat*2 ^ 128))=un (4*nn d p) (mm p*2 ^ (1074 - e).toNat):=
   un_ratio (Nat.mul_pos hB (Nat.mul_pos (Nat.pow_pos (by decide)) (Nat.pow_pos (by decide)))) (Nat.mul_pos hm (Nat.pow_pos (by decide))) hr
  have hup:=bounds hr rfl rfl hB (Nat.pow_pos (by decide)) x2 (pow256 (by omega)) (Nat.mul_pos hm (Nat.pow_pos (by decide))) s2
  have hlow:(1074 - e).toNat=0∨2 ^ 54*(mm p*2 ^ (1074 - e).toNat)≤4*nn d p:=by
   rcases he3 with h|h
   ·exact .inl (by omega)
   ·refine .inr (bounds2 hr rfl ?_ hB x1 s1)
    rw [show (61 - e - b - l).toNat=8 by omega]
  have:=heart hm hlow hup
  rw [hx,hun]
  simp only at this
  generalize un (4*nn d p) (mm p*2 ^ (1074 - e).toNat)=u at this ⊢
  have fin:∀ (R g':Nat) (e':Int),g' =(1074 - e').toNat→e'≤1074→(if R < 4503599627370496 then R else if 972≤-e' then inf else R+(1074 - e').toNat*4503599627370496)=(if R < 4503599627370496 then R else if 2046≤g' then inf else R+g'*4503599627370496):=by
   intro R g' e' hg he'
   subst hg
   by_cases hc:972≤-e'
   ·rw [if_pos hc,if_pos (show 2046≤(1074 - e').toNat by omega)]
   ·rw [if_neg hc,if_neg (show ¬ 2046≤(1074 - e').toNat by omega)]
  by_cases hu:36028797018963966≤u
  ·simp only [if_pos hu] at this ⊢
   rw [fin _ ((1074 - e).toNat+1) (e - 1) (by omega) (by omega)]
   exact this
  ·simp only [if_neg hu] at this ⊢
   rw [fin _ (1074 - e).toNat e rfl he1]
   exact this
end Go.Proofs.YtmadknpaljaecaaGreatDoor.Us
namespace Go.Proofs.YtmadknpaljaecaaGreatDoor.Ev.D
open Go Go.Proofs.YtmadknpaljaecaaGreatDoor.Ev
set_option maxRecDepth 100000
theorem s245 {p:Int} (h1:-400≤p) (h2:p≤400) (h:Heap):Does C 245 [.int .i64 p] h (.int .i64 (Us.lp p)) h:=by
 refine does_pure (fn:=X245) rfl rfl rfl (mapO_cons conv_int mapO_nil) ?_
 simp (decide:=true) only [BW,X245,b_shr' (show (0:Int)≤15 by decide)]
 rw [i64_wrap (by omega) (by omega),shrF_eq]
 unfold Us.lp
 exact Int.fdiv_eq_ediv_of_nonneg _ (by decide)
theorem s272 {b:Bool} (h:Heap):Does C 272 [.bool b] h (.int .u64 ((b.toNat:Nat):Int)) h:=by
 refine does_pure (fn:=X272) rfl rfl rfl (mapO_cons conv_bool mapO_nil) ?_
 cases b <;> (simp (decide:=true) only [BW,X272];all_goals rfl)
theorem s251 {b:Bool} (h:Heap):Does C 251 [.bool b] h (.int .i64 ((b.toNat:Nat):Int)) h:=by
 refine does_pure (fn:=X251) rfl rfl rfl (mapO_cons conv_bool mapO_nil) ?_
 cases b <;> (simp (decide:=true) only [BW,X251];all_goals rfl)
theorem shl_nat {a n k:Nat} (hk:k=a*2 ^ n) (hn:n < 64) (h:k < 18446744073709551616):shlF .u64 (a:Int) (min n (kbits .u64))=(k:Int):=by
 subst hk
 rw [show min n (kbits .u64)=n from Nat.min_eq_left (Nat.le_of_lt hn),shlF_nat]
 exact u64_wrap h
theorem shr_nat {a n:Nat} (hn:n < 64):shrF (a:Int) (min n (kbits .u64))=((a / 2 ^ n:Nat):Int):=by
 rw [show min n (kbits .u64)=n from Nat.min_eq_left (Nat.le_of_lt hn),shrF_nat]
theorem and1 {a:Nat} (h:a < 18446744073709551616):andF .u64 (a:Int) 1=((a % 2:Nat):Int):=by
 have:=and_u64 (a:=a) (b:=1) h (by decide)
 rw [Nat.and_one_is_mod] at this
 exact this
theorem or_nat {a b:Nat} (h1:a < 18446744073709551616) (h2:b < 18446744073709551616):orF .u64 (a:Int) (b:Int)=((a ||| b:Nat):Int):=by
 exact or_u64 h1 h2
theorem s252 {x:Nat} (h1:1≤x) (h2:x < 4611686018427387904) (h:Heap):Does C 252 [.int .u64 (x:Int)] h (.int .u64 ((4*x - 2:Nat):Int)) h:=by
 refine does_pure (fn:=X252) rfl rfl rfl (mapO_cons conv_int mapO_nil) ?_
 simp (decide:=true) only [BW,X252,b_shl' (show (0:Int)≤2 by decide)]
 rw [show shlF .u64 (x:Int) (min (Int.toNat 2) (kbits .u64))=((x*4:Nat):Int) from shl_nat (n:=2) rfl (by decide) (by omega),show ((x*4:Nat):Int) - 2=((4*x - 2:Nat):Int) by omega]
 exact u64_wrap (by omega)
theorem s250 {u:Nat} (hu:u+2 < 18446744073709551616) (h:Heap):Does C 250 [.int .u64 (u:Int)] h (.int .u64 ((Us.rnd u:Nat):Int)) h:=by
 refine does_pure (fn:=X250) rfl rfl rfl (mapO_cons conv_int mapO_nil) ?_
 simp (decide:=true) only [BW,X250,b_shr' (show (0:Int)≤2 by decide)]
 rw [show shrF (u:Int) (min (Int.toNat 2) (kbits .u64))=((u / 4:Nat):Int) from shr_nat (n:=2) (by decide),and1 (by omega),
  show (u:Int)+1=((u+1:Nat):Int) from rfl,u64_wrap (by omega),← Int.natCast_add,u64_wrap (by omega),
  show shrF ((u+1+u / 4 % 2:Nat):Int) (min (Int.toNat 2) (kbits .u64))=(((u+1+u / 4 % 2) / 4:Nat):Int) from shr_nat (n:=2) (by decide)]
 rfl
end Go.Proofs.YtmadknpaljaecaaGreatDoor.Ev.D
namespace Go.Proofs.YtmadknpaljaecaaGreatDoor.Ev.D
open Go Go.Proofs.YtmadknpaljaecaaGreatDoor.Ev
set_option maxRecDepth 100000
theorem T8_at:∀ y,y < 256→BStr.at_ ⟨256,496986003408712215933005303621146343841837811690876167382323004466384420695090407243345123874780946046625255262057845613767806773758184921447759720770971536008171983842311960805720366577116933250839345203839274948261284255908394484732272583221484877694546905335834403051067785895034095251181560891789708940188598129052595634438001880866652824740680664595948164050600812232986714152902334120417949232733424961741260388658846598210939813666227264727603044226856020347194099943897342244906131705541414413428559898943151040826816076322978570758226444464494629814583418847495712557856038296917933182380796641777551368⟩ y=if y=0 then 0 else y.log2+1:=by decide+kernel
def len8 (y:Nat):Nat:=if y=0 then 0 else y.log2+1
theorem ix8 {y:Nat} (hy:y < 256) {h:Heap}:ixSV (.str ⟨256,496986003408712215933005303621146343841837811690876167382323004466384420695090407243345123874780946046625255262057845613767806773758184921447759720770971536008171983842311960805720366577116933250839345203839274948261284255908394484732272583221484877694546905335834403051067785895034095251181560891789708940188598129052595634438001880866652824740680664595948164050600812232986714152902334120417949232733424961741260388658846598210939813666227264727603044226856020347194099943897342244906131705541414413428559898943151040826816076322978570758226444464494629814583418847495712557856038296917933182380796641777551368⟩) (.int .u8 (y:Int)) h=.ok (.int .u8 ((len8 y:Nat):Int)) h:=by
 rw [ixSV_nat hy,T8_at y hy];rfl
theorem wrap8 {y:Nat} (h:y < 256):wrapF .u8 (y:Int)=y:=by
 rw [wrapF_eq]
 show IntKind.u8.wrap y=y
 have:IntKind.u8.wrap (y:Int)=(y:Int) % 256:=rfl
 rw [this];omega
theorem len8_shift {x k z:Nat} (hk:k=2 ^ z) (h:k≤x):len8 x=z+len8 (x / k):=by
 have hk0:0 < k:=by rw [hk];exact Nat.pow_pos (by decide)
 have hy:1≤x / k:=(Nat.le_div_iff_mul_le hk0).2 (by omega)
 unfold len8
 rw [if_neg (by omega),if_neg (by omega)]
 have h1:=Nat.log2_self_le (show x / k≠0 by omega)
 have h2:=@Nat.lt_log2_self (x / k)
 have:x.log2=(x / k).log2+z:=by
  rw [Nat.log2_eq_iff (by omega)]
  constructor
  ·rw [Nat.pow_add,← hk]
   exact (Nat.le_div_iff_mul_le hk0).1 h1
  ·rw [show (x / k).log2+z+1=(x / k).log2+1+z by omega,Nat.pow_add,← hk]
   exact (Nat.div_lt_iff_lt_mul hk0).1 h2
 omega
theorem len8_le {y:Nat} (h:y < 256):len8 y≤8:=by
 unfold len8
 split
 ·omega
 ·have:=(Nat.log2_lt (n:=y) (k:=8) (by omega)).2 (by omega)
  omega
theorem shr16 {y:Nat}:shrF (y:Int) (min (Int.toNat 16) (kbits .u64))=((y / 65536:Nat):Int):=shr_nat (n:=16) (by decide)
theorem shr8 {y:Nat}:shrF (y:Int) (min (Int.toNat 8) (kbits .u64))=((y / 256:Nat):Int):=shr_nat (n:=8) (by decide)
theorem shr32 {y:Nat}:shrF (y:Int) (min (Int.toNat 32) (kbits .u64))=((y / 4294967296:Nat):Int):=shr_nat (n:=32) (by decide)
theorem w48:wrapF .i64 (32+16)=48:=by decide
theorem w40:wrapF .i64 (32+8)=40:=by decide
theorem w24:wrapF .i64 (16+8)=24:=by decide
theorem w56:wrapF .i64 (48+8)=56:=by decide
theorem w16:wrapF .i64 (0+16)=16:=by decide
theorem w8:wrapF .i64 (0+8)=8:=by decide
theorem s212 {x:Nat} (hx:x < 18446744073709551616) (h:Heap):Does C 212 [.int .u64 (x:Int)] h (.int .i64 ((len8 x:Nat):Int)) h:=by
 refine does_pure (fn:=X212) rfl rfl rfl (mapO_cons conv_int mapO_nil) ?_
 by_cases c32:(4294967296:Int)≤((x:Nat):Int)
 ·have l32:=len8_shift (x:=x) (k:=4294967296) (z:=32) rfl (by omega)
  by_cases c16:(65536:Int)≤((x / 4294967296:Nat):Int)
  ·have l16:=len8_shift (x:=x / 4294967296) (k:=65536) (z:=16) rfl (by omega)
   by_cases c8:(256:Int)≤((x / 4294967296 / 65536:Nat):Int)
   ·have l8:=len8_shift (x:=x / 4294967296 / 65536) (k:=256) (z:=8) rfl (by omega)
    have hy:x / 4294967296 / 65536 / 256 < 256:=by omega
    have hl:=len8_le hy
    simp (decide:=true) only [BW,X212,decide_eq_true c32,decide_eq_true c16,decide_eq_true c8,b_shr' (show (0:Int)≤32 by decide),b_shr' (show (0:Int)≤16 by decide),b_shr' (show (0:Int)≤8 by decide),shr32,shr16,shr8,x_ixS,wrap8 hy,ix8 hy,w48,w40,w24,w56,w16,w8]
    rw [i64_wrap (x:=((len8 (x / 4294967296 / 65536 / 256):Nat):Int)) (by omega) (by omega)]
    repeat rw [i64_wrap (by omega) (by omega)]
    omega
   ·have c8n:x / 4294967296 / 65536 < 256:=by omega
    have hy:x / 4294967296 / 65536 < 256:=by omega
    have hl:=len8_le hy
    simp (decide:=true) only [BW,X212,decide_eq_true c32,decide_eq_true c16,decide_eq_false c8,b_shr' (show (0:Int)≤32 by decide),b_shr' (show (0:Int)≤16 by decide),b_shr' (show (0:Int)≤8 by decide),shr32,shr16,shr8,x_ixS,wrap8 hy,ix8 hy,w48,w40,w24,w56,w16,w8]
    rw [i64_wrap (x:=((len8 (x / 4294967296 / 65536):Nat):Int)) (by omega) (by omega)]
    repeat rw [i64_wrap (by omega) (by omega)]
    omega
  ·have c16n:x / 4294967296 < 65536:=by omega
   by_cases c8:(256:Int)≤((x / 4294967296:Nat):Int)
   ·have l8:=len8_shift (x:=x / 4294967296) (k:=256) (z:=8) rfl (by omega)
    have hy:x / 4294967296 / 256 < 256:=by omega
    have hl:=len8_le hy
    simp (decide:=true) only [BW,X212,decide_eq_true c32,decide_eq_false c16,decide_eq_true c8,b_shr' (show (0:Int)≤32 by decide),b_shr' (show (0:Int)≤16 by decide),b_shr' (show (0:Int)≤8 by decide),shr32,shr16,shr8,x_ixS,wrap8 hy,ix8 hy,w48,w40,w24,w56,w16,w8]
    rw [i64_wrap (x:=((len8 (x / 4294967296 / 256):Nat):Int)) (by omega) (by omega)]
    repeat rw [i64_wrap (by omega) (by omega)]
    omega
   ·have c8n:x / 4294967296 < 256:=by omega
    have hy:x / 4294967296 < 256:=by omega
    have hl:=len8_le hy
    simp (decide:=true) only [BW,X212,decide_eq_true c32,decide_eq_false c16,decide_eq_false c8,b_shr' (show (0:Int)≤32 by decide),b_shr' (show (0:Int)≤16 by decide),b_shr' (show (0:Int)≤8 by decide),shr32,shr16,shr8,x_ixS,wrap8 hy,ix8 hy,w48,w40,w24,w56,w16,w8]
    rw [i64_wrap (x:=((len8 (x / 4294967296):Nat):Int)) (by omega) (by omega)]
    repeat rw [i64_wrap (by omega) (by omega)]
    omega
 ·have c32n:x < 4294967296:=by omega
  by_cases c16:(65536:Int)≤((x:Nat):Int)
  ·have l16:=len8_shift (x:=x) (k:=65536) (z:=16) rfl (by omega)
   by_cases c8:(256:Int)≤((x / 65536:Nat):Int)
   ·have l8:=len8_shift (x:=x / 65536) (k:=256) (z:=8) rfl (by omega)
    have hy:x / 65536 / 256 < 256:=by omega
    have hl:=len8_le hy
    simp (decide:=true) only [BW,X212,decide_eq_false c32,decide_eq_true c16,decide_eq_true c8,b_shr' (show (0:Int)≤32 by decide),b_shr' (show (0:Int)≤16 by decide),b_shr' (show (0:Int)≤8 by decide),shr32,shr16,shr8,x_ixS,wrap8 hy,ix8 hy,w48,w40,w24,w56,w16,w8]
    rw [i64_wrap (x:=((len8 (x / 65536 / 256):Nat):Int)) (by omega) (by omega)]
    repeat rw [i64_wrap (by omega) (by omega)]
    omega
   ·have c8n:x / 65536 < 256:=by omega
    have hy:x / 65536 < 256:=by omega
    have hl:=len8_le hy
    simp (decide:=true) only [BW,X212,decide_eq_false c32,decide_eq_true c16,decide_eq_false c8,b_shr' (show (0:Int)≤32 by decide),b_shr' (show (0:Int)≤16 by decide),b_shr' (show (0:Int)≤8 by decide),shr32,shr16,shr8,x_ixS,wrap8 hy,ix8 hy,w48,w40,w24,w56,w16,w8]
    rw [i64_wrap (x:=((len8 (x / 65536):Nat):Int)) (by omega) (by omega)]
    repeat rw [i64_wrap (by omega) (by omega)]
    omega
  ·have c16n:x < 65536:=by omega
   by_cases c8:(256:Int)≤((x:Nat):Int)
   ·have l8:=len8_shift (x:=x) (k:=256) (z:=8) rfl (by omega)
    have hy:x / 256 < 256:=by omega
    have hl:=len8_le hy
    simp (decide:=true) only [BW,X212,decide_eq_false c32,decide_eq_false c16,decide_eq_true c8,b_shr' (show (0:Int)≤32 by decide),b_shr' (show (0:Int)≤16 by decide),b_shr' (show (0:Int)≤8 by decide),shr32,shr16,shr8,x_ixS,wrap8 hy,ix8 hy,w48,w40,w24,w56,w16,w8]
    rw [i64_wrap (x:=((len8 (x / 256):Nat):Int)) (by omega) (by omega)]
    repeat rw [i64_wrap (by omega) (by omega)]
    omega
   ·have c8n:x < 256:=by omega
    have hy:x < 256:=by omega
    have hl:=len8_le hy
    simp (decide:=true) only [BW,X212,decide_eq_false c32,decide_eq_false c16,decide_eq_false c8,b_shr' (show (0:Int)≤32 by decide),b_shr' (show (0:Int)≤16 by decide),b_shr' (show (0:Int)≤8 by decide),shr32,shr16,shr8,x_ixS,wrap8 hy,ix8 hy,w48,w40,w24,w56,w16,w8]
    rw [i64_wrap (x:=((len8 (x):Nat):Int)) (by omega) (by omega)]
    repeat rw [i64_wrap (by omega) (by omega)]
    omega
end Go.Proofs.YtmadknpaljaecaaGreatDoor.Ev.D
namespace Go.Proofs.YtmadknpaljaecaaGreatDoor.Ev.D
open Go Go.Proofs.YtmadknpaljaecaaGreatDoor.Ev
set_option maxRecDepth 100000
theorem and32 {a:Nat} (h:a < 18446744073709551616):andF .u64 (a:Int) 4294967295=((a % 4294967296:Nat):Int):=by
 have:=and_u64 (a:=a) (b:=4294967295) h (by decide)
 refine this.trans ?_
 congr 1
 exact Nat.and_two_pow_sub_one_eq_mod a 32
theorem mul_u64 {a b:Nat} (h:a*b < 18446744073709551616):wrapF .u64 ((a:Int)*(b:Int))=((a*b:Nat):Int):=by
 rw [← Int.natCast_mul];exact u64_wrap h
theorem add_u64 {a b:Nat} (h:a+b < 18446744073709551616):wrapF .u64 ((a:Int)+(b:Int))=((a+b:Nat):Int):=by
 rw [← Int.natCast_add];exact u64_wrap h
theorem mulw_u64 {a b:Nat}:wrapF .u64 ((a:Int)*(b:Int))=((a*b % 18446744073709551616:Nat):Int):=by
 rw [← Int.natCast_mul,wrapF_eq]
 show (((a*b:Nat):Int) % 18446744073709551616)=_
 omega
theorem school {x0 x1 y0 y1:Nat} (hx0:x0 < 4294967296) (hx1:x1 < 4294967296) (hy0:y0 < 4294967296) (hy1:y1 < 4294967296):
  x1*y0+x0*y0 / 4294967296 < 18446744073709551616∧(x1*y0+x0*y0 / 4294967296) % 4294967296+x0*y1 < 18446744073709551616∧x1*y1+(x1*y0+x0*y0 / 4294967296) / 4294967296+((x1*y0+x0*y0 / 4294967296) % 4294967296+x0*y1) / 4294967296=(x1*4294967296+x0)*(y1*4294967296+y0) / 18446744073709551616∧
  x0*y0 < 18446744073709551616∧x0*y1 < 18446744073709551616∧x1*y0 < 18446744073709551616∧x1*y1≤18446744065119617025:=by
 have h1:x1*y0≤4294967295*4294967295:=Nat.mul_le_mul (by omega) (by omega)
 have h2:x0*y0≤4294967295*4294967295:=Nat.mul_le_mul (by omega) (by omega)
 have h3:x0*y1≤4294967295*4294967295:=Nat.mul_le_mul (by omega) (by omega)
 have h4:x1*y1≤4294967295*4294967295:=Nat.mul_le_mul (by omega) (by omega)
 have e:(x1*4294967296+x0)*(y1*4294967296+y0)=x1*y1*18446744073709551616+(x1*y0+x0*y1)*4294967296+x0*y0:=by
  rw [Nat.add_mul,Nat.mul_add,Nat.mul_add,Nat.add_mul]
  have a1:x1*4294967296*(y1*4294967296)=x1*y1*18446744073709551616:=by
   rw [Nat.mul_mul_mul_comm]
  have a2:x1*4294967296*y0=x1*y0*4294967296:=by rw [Nat.mul_right_comm]
  have a3:x0*(y1*4294967296)=x0*y1*4294967296:=by rw [Nat.mul_assoc]
  rw [a1,a2,a3];omega
 rw [e]
 generalize x1*y0=a at*
 generalize x0*y0=b at*
 generalize x0*y1=c at*
 generalize x1*y1=d at*
 omega
theorem s178 {x y:Nat} (hx:x < 18446744073709551616) (hy:y < 18446744073709551616) (h:Heap):Does C 178 [.int .u64 (x:Int),.int .u64 (y:Int)] h (.tup [.int .u64 ((x*y / 18446744073709551616:Nat):Int),.int .u64 ((x*y % 18446744073709551616:Nat):Int)]) h:=by
 refine does_pure (fn:=X178) rfl rfl rfl (mapO_cons conv_int (mapO_cons conv_int mapO_nil)) ?_
 have ex:x=x / 4294967296*4294967296+x % 4294967296:=by omega
 have ey:y=y / 4294967296*4294967296+y % 4294967296:=by omega
 obtain ⟨q1,q2,q3,q4,q5,q6,q7⟩:=school (x0:=x % 4294967296) (x1:=x / 4294967296) (y0:=y % 4294967296) (y1:=y / 4294967296) (by omega) (by omega) (by omega) (by omega)
 rw [← ex,← ey] at q3
 simp (decide:=true) only [BW,X178,b_shr' (show (0:Int)≤32 by decide),shr32,and32 hx,and32 hy,mul_u64 q4,mul_u64 q5,mul_u64 q6,add_u64 q1,mulw_u64]
 rw [Nat.mod_eq_of_lt (show x / 4294967296*(y / 4294967296) < 18446744073709551616 by omega),and32 q1,add_u64 q2,shr32]
 have hlt:x*y / 18446744073709551616 < 18446744073709551616:=Nat.div_lt_of_lt_mul (by
  have:x*y≤18446744073709551615*18446744073709551615:=Nat.mul_le_mul (by omega) (by omega)
  omega)
 rw [← q3] at hlt ⊢
 rw [add_u64 (by omega),add_u64 hlt]
end Go.Proofs.YtmadknpaljaecaaGreatDoor.Ev.D
namespace Go.Proofs.YtmadknpaljaecaaGreatDoor.Ev.D
open Go Go.Proofs.YtmadknpaljaecaaGreatDoor.Ev
set_option maxRecDepth 100000
theorem bit52 {a:Nat}:a &&& 4503599627370496=if a.testBit 52 then 4503599627370496 else 0:=by
 apply Nat.eq_of_testBit_eq
 intro i
 have h2:Nat.testBit 4503599627370496 i=decide (52=i):=by rw [show (4503599627370496:Nat)=2 ^ 52 by decide,Nat.testBit_two_pow]
 rw [Nat.testBit_and,h2]
 by_cases hi:52=i
 ·subst hi
  cases a.testBit 52
  ·simp
  ·simp only [if_true,h2];simp
 ·simp only [hi,decide_false,Bool.and_false]
  split
  ·rw [h2];simp [hi]
  ·simp
theorem or_sgn {s R:Nat} (hs:s=0∨s=9223372036854775808) (hR:R < 9223372036854775808):s ||| R=s+R:=by
 rcases hs with rfl|rfl
 ·simp
 ·rw [show (9223372036854775808:Nat)=2 ^ 63*1 by decide,← Nat.two_pow_add_eq_or_of_lt hR]
theorem sgn52 {s R:Nat} (hs:s=0∨s=9223372036854775808) (hR:R < 9007199254740992):(s+R).testBit 52=decide (4503599627370496≤R):=by
 rw [Nat.testBit_eq_decide_div_mod_eq]
 rcases hs with rfl|rfl <;> (congr 1;apply propext;simp only [show (2:Nat) ^ 52=4503599627370496 from rfl];omega)
theorem wrapk {x:Int} (h0:0≤x) (h1:x < 18446744073709551616):wrapF .u64 x=((x.toNat:Nat):Int):=by
 obtain ⟨k,rfl⟩:=Int.eq_ofNat_of_zero_le h0
 rw [Int.toNat_natCast]
 exact u64_wrap (by omega)
theorem c52:∀ i,i < 64→Nat.testBit (18446744073709551615 - 4503599627370496) i=decide (i≠52):=by decide
theorem clear52 {s R:Nat} (hs:s=0∨s=9223372036854775808) (h1:4503599627370496≤R) (hR:R < 9007199254740992):(s+R) &&& (18446744073709551615 - 4503599627370496)=s+(R - 4503599627370496):=by
 have e1:R=4503599627370496 ||| (R - 4503599627370496):=by
  have:=Nat.two_pow_add_eq_or_of_lt (i:=52) (b:=R - 4503599627370496) (by omega) 1
  rw [Nat.mul_one] at this
  rw [show (4503599627370496:Nat)=2 ^ 52 from rfl,← this]
  omega
 have hlo:R - 4503599627370496 < 4503599627370496:=by omega
 rw [← or_sgn hs (by omega),← or_sgn hs (by omega)]
 obtain ⟨lo,hl⟩:∃ lo,lo=R - 4503599627370496:=⟨_,rfl⟩
 rw [← hl] at e1 hlo ⊢
 rw [e1]
 clear e1 hl h1 hR
 have hs64:s < 2 ^ 64:=by rcases hs with rfl|rfl <;> decide
 apply Nat.eq_of_testBit_eq
 intro i
 simp only [Nat.testBit_and,Nat.testBit_or]
 by_cases hi:i < 64
 ·rw [c52 i hi]
  have h2:Nat.testBit 4503599627370496 i=decide (52=i):=by rw [show (4503599627370496:Nat)=2 ^ 52 by decide,Nat.testBit_two_pow]
  rw [h2]
  by_cases h52:i=52
  ·subst h52
   have l52:lo.testBit 52=false:=Nat.testBit_lt_two_pow hlo
   have s52:s.testBit 52=false:=by rcases hs with rfl|rfl <;> decide
   rw [l52,s52];rfl
  ·have:¬ 52=i:=fun e=>h52 e.symm
   simp [h52,this]
 ·have l1:lo.testBit i=false:=Nat.testBit_lt_two_pow (Nat.lt_of_lt_of_le (show lo < 2 ^ 64 by omega) (Nat.pow_le_pow_right (by decide) (by omega)))
  have s1:s.testBit i=false:=Nat.testBit_lt_two_pow (Nat.lt_of_lt_of_le hs64 (Nat.pow_le_pow_right (by decide) (by omega)))
  have k1:Nat.testBit (18446744073709551615 - 4503599627370496) i=false:=Nat.testBit_lt_two_pow (Nat.lt_of_lt_of_le (show 18446744073709551615 - 4503599627370496 < 2 ^ 64 by decide) (Nat.pow_le_pow_right (by decide) (by omega)))
  rw [l1,s1,k1];simp
theorem pack_or {s R k g:Nat} (hs:s=0∨s=9223372036854775808) (h1:4503599627370496≤R) (hR:R < 9007199254740992) (hk:k=g+1) (hk2:k < 2048):(s+(R - 4503599627370496)) ||| k*4503599627370496=s+(R+g*4503599627370496):=by
 obtain ⟨lo,rfl⟩:∃ lo,R=4503599627370496+lo:=⟨R - 4503599627370496,by omega⟩
 rw [Nat.add_sub_cancel_left]
 have h1:=Nat.shiftLeft_add_eq_or_of_lt (i:=52) (show lo < 2 ^ 52 by omega) k
 rw [Nat.shiftLeft_eq] at h1
 rw [← or_sgn hs (by omega),Nat.or_assoc,Nat.or_comm lo]
 have h3:k*4503599627370496 ||| lo=k*4503599627370496+lo:=h1.symm
 rw [h3,or_sgn hs (by omega)]
 omega
theorem s289 {s R:Nat} {e:Int} (hs:s=0∨s=9223372036854775808) (hR:R < 9007199254740992) (he1:-1074≤e) (he2:e≤3000) (h:Heap):
  Does C 289 [.int .u64 ((s+R:Nat):Int),.int .i64 e] h (.tup [.float .f64 (s+(if R < 4503599627370496 then R else if 972≤e then Fl.inf else R+(1074+e).toNat*4503599627370496)),if R < 4503599627370496 then .nilIf else if 972≤e then .iface 160 (.int .i64 1) else .nilIf]) h:=by
 refine does_pure (fn:=X289) rfl rfl rfl (mapO_cons conv_int (mapO_cons conv_int mapO_nil)) ?_
 have h64:s+R < 18446744073709551616:=by omega
 have ea:andF .u64 ((s+R:Nat):Int) 4503599627370496=((if 4503599627370496≤R then 4503599627370496 else 0:Nat):Int):=by
  have:=and_u64 (a:=s+R) (b:=4503599627370496) h64 (by decide)
  refine this.trans ?_
  rw [bit52,sgn52 hs hR]
  simp
 by_cases c1:R < 4503599627370496
 ·rw [if_pos c1,if_pos c1]
  have ea0:andF .u64 ((s+R:Nat):Int) 4503599627370496=0:=by rw [ea,if_neg (by omega)];rfl
  simp (decide:=true) only [BW,X289,ea0]
  rfl
 ·have ea1:andF .u64 ((s+R:Nat):Int) 4503599627370496=4503599627370496:=by rw [ea,if_pos (by omega)];rfl
  rw [if_neg c1,if_neg c1]
  by_cases c2:(972:Int)≤e
  ·rw [if_pos c2,if_pos c2]
   have es:andF .u64 ((s+R:Nat):Int) 9223372036854775808=(s:Int):=by
    rw [sgn_bits h64]
    unfold Fl.neg Fl.sgn
    rcases hs with rfl|rfl
    ·have:(0+R) / 9223372036854775808=0:=by omega
     rw [this];rfl
    ·have:(9223372036854775808+R) / 9223372036854775808=1:=by omega
     rw [this];rfl
   have eo:orF .u64 (s:Int) 9218868437227405312=((s+Fl.inf:Nat):Int):=by
    have:=or_u64 (a:=s) (b:=9218868437227405312) (by omega) (by decide)
    refine this.trans ?_
    rw [or_sgn hs (by decide)];rfl
   simp (decide:=true) only [BW,X289,ea1,decide_eq_true c2,es,eo]
   refine (opG_of rfl).2 ?_
   simp (decide:=true) only [BW,X289]
   rfl
  ·rw [if_neg c2,if_neg c2]
   have en:andNotF .u64 ((s+R:Nat):Int) 4503599627370496=((s+(R - 4503599627370496):Nat):Int):=by
    rw [← clear52 hs (by omega) hR]
    exact andNot_u64 (a:=s+R) (b:=4503599627370496) h64 (by decide)
   have ew:wrapF .u64 (wrapF .i64 (1075+e))=(((1075+e).toNat:Nat):Int):=by
    rw [i64_wrap (by omega) (by omega)]
    exact wrapk (by omega) (by omega)
   have hk0:(1075+e).toNat*4503599627370496 < 18446744073709551616:=by
    have:(1075+e).toNat≤2046:=by omega
    exact Nat.lt_of_le_of_lt (Nat.mul_le_mul_right _ this) (by decide)
   have hs1:s+(R - 4503599627370496) < 18446744073709551616:=by omega
   have esh:shlF .u64 (((1075+e).toNat:Nat):Int) (min (Int.toNat 52) (kbits .u64))=(((1075+e).toNat*4503599627370496:Nat):Int):=shl_nat (n:=52) rfl (by decide) hk0
   have eo:orF .u64 ((s+(R - 4503599627370496):Nat):Int) (((1075+e).toNat*4503599627370496:Nat):Int)=((s+(R+(1074+e).toNat*4503599627370496):Nat):Int):=by
    rw [or_u64 (a:=s+(R - 4503599627370496)) (b:=(1075+e).toNat*4503599627370496) hs1 hk0,pack_or hs (by omega) (by omega) (show (1075+e).toNat=(1074+e).toNat+1 by omega) (by omega)]
   simp (decide:=true) only [BW,X289,ea1,decide_eq_false c2,en,ew,b_shl' (show (0:Int)≤52 by decide),esh,eo]
   rfl
end Go.Proofs.YtmadknpaljaecaaGreatDoor.Ev.D
namespace Go.Proofs.YtmadknpaljaecaaGreatDoor.Ev.D
open Go Go.Proofs.YtmadknpaljaecaaGreatDoor.Ev
set_option maxRecDepth 100000
def tabB:List AV→Nat→Nat→Bool
 |_,_,0=>true
 |.int .u64 (.ofNat a)::.int .u64 (.ofNat b)::r,i,n+1=>Nat.beq a (Us.hi ((i:Int) - 348)) && Nat.beq b (Us.lo ((i:Int) - 348)) && tabB r (i+1) n
 |_,_,_=>false
theorem tabB_get:∀ {n i:Nat} {l:List AV},tabB l i n=true→∀ j,j < n→∃ r,l.drop (2*j)=.int .u64 ((Us.hi (((i+j:Nat):Int) - 348):Nat):Int)::.int .u64 ((Us.lo (((i+j:Nat):Int) - 348):Nat):Int)::r
 |n+1,i,.int .u64 (.ofNat a)::.int .u64 (.ofNat b)::r,h,j,hj=>by
  simp only [tabB,Bool.and_eq_true] at h
  obtain ⟨⟨h1,h2⟩,h3⟩:=h
  have h1:=Nat.eq_of_beq_eq_true h1
  have h2:=Nat.eq_of_beq_eq_true h2
  cases j with
  |zero=>exact ⟨r,by rw [h1,h2];rfl⟩
  |succ j=>
   obtain ⟨r',hr'⟩:=tabB_get h3 j (by omega)
   refine ⟨r',?_⟩
   rw [show 2*(j+1)=2*j+1+1 by omega,List.drop_succ_cons,List.drop_succ_cons,hr',show i+1+j=i+(j+1) by omega]
theorem tab11:tabB L11 0 696=true:=by kernel_rfl
theorem L11_drop {p:Int} (h1:-348≤p) (h2:p≤347):∃ r,L11.drop ((p+348).toNat*2)=.int .u64 ((Us.hi p:Nat):Int)::.int .u64 ((Us.lo p:Nat):Int)::r:=by
 obtain ⟨r,hr⟩:=tabB_get tab11 (p+348).toNat (by omega)
 refine ⟨r,?_⟩
 rw [Nat.mul_comm,hr,Nat.zero_add,show (((p+348).toNat:Nat):Int) - 348=p by omega]
end Go.Proofs.YtmadknpaljaecaaGreatDoor.Ev.D
namespace Go.Proofs.YtmadknpaljaecaaGreatDoor.Ev.D
open Go Go.Proofs.YtmadknpaljaecaaGreatDoor.Ev
set_option maxRecDepth 100000
theorem glob11:C.glob 11=.iptr false L11:=rfl
theorem okc_int {k:IntKind} {n:Int}:okCell (.int k n)=true:=rfl
def preH (h:Heap) (b:Nat) (e p l:Int):Heap:=((h.stB b 0 (.int .u64 ((Us.hi p:Nat):Int))).stB b 1 (.int .u64 ((Us.lo p:Nat):Int))).stB b 2 (.int .i64 (-(e+l+3)))
theorem s244 {e p l:Int} {b:Nat} {h:Heap} (hb:2 < h.len b) (h1:-348≤p) (h2:p≤347) (e1:-10000≤e) (e2:e≤10000) (l1:-10000≤l) (l2:l≤10000):
  Does C 244 [.ref b 0,.int .i64 e,.int .i64 p,.int .i64 l] h (.tup []) (preH h b e p l):=by
 obtain ⟨r,hr⟩:=L11_drop h1 h2
 obtain ⟨i,hi⟩:∃ i:Nat,p+348=i:=⟨(p+348).toNat,by omega⟩
 have ew:wrapF .i64 (p - -348)=(i:Int):=by rw [i64_wrap (by omega) (by omega)];omega
 rw [hi,Int.toNat_natCast] at hr
 have hi2:i < 696:=by omega
 have es:wrapF .i64 (0 - wrapF .i64 (wrapF .i64 (e+l)+3))=-(e+l+3):=by
  rw [i64_wrap (x:=e+l) (by omega) (by omega),i64_wrap (x:=e+l+3) (by omega) (by omega),i64_wrap (by omega) (by omega)];omega
 refine does_any (fn:=X244) rfl rfl rfl ?_
 simp (decide:=true) only [BW,X244,glob11,ew,x_iaA,iaA_iptr hi2,hr,x_fa,fa_iptr,List.drop_zero,x_ld,ld1_iptr,x_nilchk,nilchk_ref,fa_ref,x_st,st1_cell (show 0+0 < h.len b by omega) okc_int,Heap.stB_len,st1_cell (show 0+1 < (h.stB b 0 (.int .u64 ((Us.hi p:Nat):Int))).len b by rw [Heap.stB_len];omega) okc_int,List.drop_succ_cons,Nat.zero_add]
 refine (opG_of (v:=.int .i64 (wrapF .i64 (0 - wrapF .i64 (wrapF .i64 (e+l)+3)))) rfl).2 ?_
 simp (decide:=true) only [BW,es,x_fa,x_nilchk,nilchk_ref,fa_ref,x_st,st1_cell (show 2 < ((h.stB b 0 (.int .u64 ((Us.hi p:Nat):Int))).stB b 1 (.int .u64 ((Us.lo p:Nat):Int))).len b by rw [Heap.stB_len,Heap.stB_len];omega) okc_int,Nat.zero_add]
 trivial
end Go.Proofs.YtmadknpaljaecaaGreatDoor.Ev.D
namespace Go.Proofs.YtmadknpaljaecaaGreatDoor.Ev.D
open Go Go.Proofs.YtmadknpaljaecaaGreatDoor.Ev
set_option maxRecDepth 100000
theorem and63 {s:Nat} (h:s < 64):andF .i64 (s:Int) 63=(s:Int):=by
 revert h;revert s;decide
theorem b_shrn {k':IntKind} {a n:Nat} (hn:n < 64):binV .shr (.int .u64 (a:Int)) (.int k' (n:Int))=some (.int .u64 ((a / 2 ^ n:Nat):Int)):=by
 rw [b_shr' (Int.natCast_nonneg n),Int.toNat_natCast,shr_nat hn]
theorem b_shln {k':IntKind} {a n:Nat} (hn:n < 64) (h:a*2 ^ n < 18446744073709551616):binV .shl (.int .u64 (a:Int)) (.int k' (n:Int))=some (.int .u64 ((a*2 ^ n:Nat):Int)):=by
 rw [b_shl' (Int.natCast_nonneg n),Int.toNat_natCast,shl_nat rfl hn h]
theorem p64:(2:Nat) ^ 64=18446744073709551616:=rfl
theorem u64_sub {a b:Nat} (ha:a < 18446744073709551616) (hb:b < 18446744073709551616):wrapF .u64 ((a:Int) - (b:Int))=(((a+18446744073709551616 - b) % 18446744073709551616:Nat):Int):=by
 rw [wrapF_eq,wrap_u64];omega
theorem s246 {x hv lv s b:Nat} {h:Heap} (hb:2 < h.len b) (g0:h.cell b 0=.int .u64 (hv:Int)) (g1:h.cell b 1=.int .u64 (lv:Int)) (g2:h.cell b 2=.int .i64 (s:Int))
  (hs:s < 64) (hx:x < 18446744073709551616) (hh:hv < 18446744073709551616) (hl:lv < 18446744073709551616) (h0:0 < x*hv / 18446744073709551616):Does C 246 [.int .u64 (x:Int),.ref b 0] h (.int .u64 ((Us.sc x hv lv (2 ^ s):Nat):Int)) h:=by
 refine does_any (fn:=X246) rfl rfl rfl ?_
 have bnd:∀ v:Nat,v < 18446744073709551616→x*v / 18446744073709551616 < 18446744073709551616:=fun v hv=>Nat.div_lt_of_lt_mul (by
  have:x*v≤18446744073709551615*18446744073709551615:=Nat.mul_le_mul (by omega) (by omega)
  omega)
 have hq:=bnd hv hh
 have hq2:=bnd lv hl
 have hsl:x*hv / 18446744073709551616 / 2 ^ s*2 ^ s < 18446744073709551616:=Nat.lt_of_le_of_lt (Nat.div_mul_le_self _ _) hq
 have hqs:x*hv / 18446744073709551616 / 2 ^ s < 18446744073709551616:=Nat.lt_of_le_of_lt (Nat.div_le_self _ _) hq
 simp (decide:=true) only [BW,X246,x_nilchk,nilchk_ref,x_fa,fa_ref,x_ld,ld1_cell (show 0+0 < h.len b by omega),ld1_cell (show 0+1 < h.len b by omega),ld1_cell (show 0+2 < h.len b by omega),Nat.zero_add,g0,g1,g2,callG_of (s178 hx hh _),callG_of (s178 hx hl _),and63 hs,b_shrn hs,b_shln hs hsl]
 have hor:orF .u64 ((x*hv / 18446744073709551616 / 2 ^ s:Nat):Int) 1=((x*hv / 18446744073709551616 / 2 ^ s ||| 1:Nat):Int):=or_u64 (b:=1) hqs (by decide)
 by_cases c1:x*hv / 18446744073709551616 / 2 ^ s*2 ^ s≠x*hv / 18446744073709551616
 ·have hsc:Us.sc x hv lv (2 ^ s)=(x*hv / 18446744073709551616 / 2 ^ s ||| 1):=by
   unfold Us.sc
   rw [p64]
   simp only
   rw [if_pos c1]
  have c1':(((x*hv / 18446744073709551616 / 2 ^ s*2 ^ s:Nat):Int)≠((x*hv / 18446744073709551616:Nat):Int)):=fun e=>c1 (Int.natCast_inj.1 e)
  simp (decide:=true) only [BW,decide_eq_true c1',b_shrn hs,hor,hsc]
 ·have hsc:Us.sc x hv lv (2 ^ s)=((if x*hv % 18446744073709551616 < x*lv / 18446744073709551616 then x*hv / 18446744073709551616 - 1 else x*hv / 18446744073709551616) / 2 ^ s ||| (if (x*hv % 18446744073709551616+18446744073709551616 - x*lv / 18446744073709551616) % 18446744073709551616 > 1 then 1 else 0)):=by
   unfold Us.sc
   rw [p64]
   simp only
   rw [if_neg c1]
  have c1':¬ (((x*hv / 18446744073709551616 / 2 ^ s*2 ^ s:Nat):Int)≠((x*hv / 18446744073709551616:Nat):Int)):=fun e=>c1 fun e2=>e (by rw [e2])
  simp (decide:=true) only [BW,decide_eq_false c1',x_nilchk,nilchk_ref,x_fa,fa_ref,x_ld,ld1_cell (show 1 < h.len b by omega),Nat.zero_add,g1,callG_of (s178 hx hl _),callG_of (s272 _)]
  generalize x*hv / 18446744073709551616=q at*
  have hm1:x*hv % 18446744073709551616 < 18446744073709551616:=Nat.mod_lt _ (by decide)
  generalize x*hv % 18446744073709551616=mid at*
  generalize x*lv / 18446744073709551616=mid2 at*
  rw [hsc]
  have e1:wrapF .u64 ((q:Int) - (((decide ((mid:Int) < (mid2:Int))).toNat:Nat):Int))=(((if mid < mid2 then q - 1 else q:Nat)):Int):=by
   by_cases hlt:mid < mid2
   ·rw [decide_eq_true (show (mid:Int) < (mid2:Int) by omega),if_pos hlt,show (q:Int) - ((true.toNat:Nat):Int)=((q - 1:Nat):Int) by simp;omega]
    exact u64_wrap (by omega)
   ·rw [decide_eq_false (show ¬ (mid:Int) < (mid2:Int) by omega),if_neg hlt,show (q:Int) - ((false.toNat:Nat):Int)=((q:Nat):Int) by simp]
    exact u64_wrap (by omega)
  have e2:=u64_sub hm1 hq2
  have e3:(1:Int) < (((mid+18446744073709551616 - mid2) % 18446744073709551616:Nat):Int)↔(mid+18446744073709551616 - mid2) % 18446744073709551616 > 1:=by omega
  generalize (mid+18446744073709551616 - mid2) % 18446744073709551616=r at*
  have hw:(if mid < mid2 then q - 1 else q) < 18446744073709551616:=by split <;> omega
  generalize (if mid < mid2 then q - 1 else q)=w at*
  refine go_draw rfl ?_
  have e4:orF .u64 ((w / 2 ^ s:Nat):Int) (((decide ((1:Int) < (r:Int))).toNat:Nat):Int)=((w / 2 ^ s ||| (if r > 1 then 1 else 0):Nat):Int):=by
   have:=or_u64 (a:=w / 2 ^ s) (b:=(decide ((1:Int) < (r:Int))).toNat) (Nat.lt_of_le_of_lt (Nat.div_le_self _ _) hw) (by cases decide ((1:Int) < (r:Int)) <;> decide)
   rw [this]
   congr 2
   by_cases h:r > 1
   ·rw [if_pos h,decide_eq_true (e3.2 h)];rfl
   ·rw [if_neg h,decide_eq_false (fun hc=>h (e3.1 hc))];rfl
  simp (decide:=true) only [BW,callG_of (s272 _),e1,b_shrn hs,e2,e4]
end Go.Proofs.YtmadknpaljaecaaGreatDoor.Ev.D
namespace Go.Proofs.YtmadknpaljaecaaGreatDoor.Ev
open Go
section
variable {C:Ctx} {env:T AV} {h:Heap} {Q:PostC} {ks:List K}
def LpQ (id:Nat) (I:Nat→T AV→Heap→Prop) (n:Nat) (J:T AV→Heap→Prop) (Q:PostC):PostC:=fun e env h=>match e with
 |.nrm=>∃ m,m < n∧I m env h
 |.exit j=>j=id∧J env h
 |.ret=>Q .ret env h
 |_=>False
theorem lpQ_nrm {id:Nat} {I:Nat→T AV→Heap→Prop} {n:Nat} {J:T AV→Heap→Prop}:LpQ id I n J Q .nrm env h↔∃ m,m < n∧I m env h:=Iff.rfl
theorem lpQ_exit {id:Nat} {I:Nat→T AV→Heap→Prop} {n:Nat} {J:T AV→Heap→Prop}:LpQ id I n J Q (.exit id) env h↔J env h:=⟨fun h=>h.2,fun h=>⟨rfl,h⟩⟩
theorem lpQ_ret {id:Nat} {I:Nat→T AV→Heap→Prop} {n:Nat} {J:T AV→Heap→Prop}:LpQ id I n J Q .ret env h↔Q .ret env h:=Iff.rfl
theorem go_lp {a:XCode} {id:Nat} (I:Nat→T AV→Heap→Prop) (J:T AV→Heap→Prop) {n:Nat} (h0:I n env h)
  (hs:∀ n env h,I n env h→GoP C [.c a] env h (LpQ id I n J Q)) (hk:∀ env h,J env h→GoP C ks env h Q):
  GoP C (.c (.loop a)::.blk id::ks) env h Q:=by
 refine go_loop I h0 fun n env h hi=>(hs n env h hi).mono fun e env' h' hq=>?_
 cases e with
 |nrm=>exact hq
 |exit j=>
  obtain ⟨rfl,hj⟩:=hq
  exact cont_exit.2 (exitG_blk.2 (by rw [if_pos rfl];exact hk _ _ hj))
 |ret=>exact cont_ret'.2 hq
 |goto l=>exact hq.elim
 |panic v=>exact hq.elim
def ScQ (C:Ctx) (ks:List K) (Q:PostC):PostC:=fun e env h=>match e with|.goto _=>False|e=>Cont C ks Q e env h
theorem scQ_ret:ScQ C ks Q .ret env h↔Q .ret env h:=cont_ret'
theorem scQ_nrm:ScQ C ks Q .nrm env h↔GoP C ks env h Q:=Iff.rfl
theorem go_scope {a:XCode}:GoP C [.c a] env h (ScQ C ks Q)→GoP C (.c (.scope a)::ks) env h Q:=by
 rintro ⟨n,e,env',h',hx,hq⟩
 have hq':ScQ C ks Q e env' h':=by cases e <;> exact hq
 refine wpc_scope.2 ⟨n+1,e,env',h',?_,?_⟩
 ·cases e with
  |goto l=>exact hq'.elim
  |nrm=>simp only [ex,step,hx]
  |exit j=>simp only [ex,step,hx]
  |ret=>simp only [ex,step,hx]
  |panic v=>simp only [ex,step,hx]
 ·cases e with
  |goto l=>exact hq'.elim
  |nrm=>exact hq'
  |exit j=>exact hq'
  |ret=>exact hq'
  |panic v=>exact hq'
end
theorem drop_cons {α:Type} {l:List α} {i:Nat} {c:α} {r:List α} (h:l.drop i=c::r):i < l.length∧l[i]? =some c∧l.drop (i+1)=r:=by
 have hi:i < l.length:=by
  rcases Nat.lt_or_ge i l.length with h1|h1
  ·exact h1
  ·rw [List.drop_eq_nil_iff.2 h1] at h;cases h
 rw [List.drop_eq_getElem_cons hi] at h
 obtain ⟨e1,e2⟩:=List.cons.inj h
 exact ⟨hi,by rw [List.getElem?_eq_getElem hi,e1],e2⟩
theorem drop_nil {α:Type} {l:List α} {i:Nat} (h:l.drop i=[]):l.length≤i:=List.drop_eq_nil_iff.1 h
theorem ixS_drop {h:Heap} {l:List UInt8} {k:IntKind} {i:Nat} {c:UInt8} {r:List UInt8} (hd:l.drop i=c::r):ixSV (.str (BStr.ofBytes l)) (.int k (i:Int)) h=.ok (.int .u8 ((c.toNat:Nat):Int)) h:=by
 obtain ⟨hi,hc,_⟩:=drop_cons hd
 rw [ixS_of hi,List.getD_eq_getElem?_getD,hc];rfl
end Go.Proofs.YtmadknpaljaecaaGreatDoor.Ev
namespace Go.Proofs.YtmadknpaljaecaaGreatDoor.Ev
open Go
def mnV (vs:List AV) (h:Heap):OpR:=match vs with
 |v::r=>(match v with|.int k a=>opR (minL k r a) h 44|_=>.no 45)
 |_=>.no 45
def mxV (vs:List AV) (h:Heap):OpR:=match vs with
 |v::r=>(match v with|.int k a=>opR (maxL k r a) h 46|_=>.no 47)
 |_=>.no 47
section
variable {call:CallT} {ρ:XO→AV} {h:Heap} {k:IntKind}
theorem x_mn {l:List XO}:xop call ρ h (.q (.mn l))=mnV (l.map ρ) h:=by
 show o_mn ρ h l=_
 unfold o_mn mnV;rfl
theorem x_mx {l:List XO}:xop call ρ h (.q (.mx l))=mxV (l.map ρ) h:=by
 show o_mx ρ h l=_
 unfold o_mx mxV;rfl
theorem mn2 {a b:Int}:mnV [.int k a,.int k b] h=.ok (.int k (min a b)) h:=by
 have:(bif ltI b a then b else a)=min a b:=by
  rw [ltI_eq]
  by_cases hc:b < a
  ·rw [decide_eq_true hc];simp;omega
  ·rw [decide_eq_false hc];simp;omega
 simp only [mnV,minL,opR,this]
theorem mx2 {a b:Int}:mxV [.int k a,.int k b] h=.ok (.int k (max a b)) h:=by
 have:(bif ltI a b then b else a)=max a b:=by
  rw [ltI_eq]
  by_cases hc:a < b
  ·rw [decide_eq_true hc];simp;omega
  ·rw [decide_eq_false hc];simp;omega
 simp only [mxV,maxL,opR,this]
end
theorem new_len {h:Heap} {n:Nat} {d:AV} {cs:T AV} {e:Nat} {op:Bool}:(h.new (.cells n d cs e op)).len h.next=n:=by
 unfold Heap.len;rw [show (h.new (.cells n d cs e op)).get h.next=some (.cells n d cs e op) from by simp [Heap.new,Heap.get,T.get_set]]
theorem new_cell {h:Heap} {n:Nat} {d:AV} {cs:T AV} {e i:Nat} {op:Bool}:(h.new (.cells n d cs e op)).cell h.next i=(cs.get i).getD d:=by
 unfold Heap.cell;rw [show (h.new (.cells n d cs e op)).get h.next=some (.cells n d cs e op) from by simp [Heap.new,Heap.get,T.get_set]]
theorem u_negI {k:IntKind} {n:Int}:unV .neg (.int k n)=some (.int k (wrapF k (0 - n))):=rfl
theorem u_negF {b:Nat}:unV .neg (.float .f64 b)=some (.float .f64 (Go.Op.negFloat .f64 b)):=rfl
theorem u_not {b:Bool}:unV .not (.bool b)=some (.bool !b):=rfl
theorem empty_next:Heap.empty.next=0:=rfl
theorem true_beq (b:Bool):(true == b)=b:=by cases b <;> rfl
theorem conv_nilIf {w:Bool} {h:Heap}:conv w h depth .nilIf=some .nilIf:=rfl
theorem x_mkI {call:CallT} {ρ:XO→AV} {h:Heap} {t:Nat} {x:XO}:xop call ρ h (.q (.mkI t x))=.ok (.iface t (ρ x)) h:=rfl
theorem back3r {env:T AV} {h:Heap} {t u s:Nat} {v w x:AV}:Back [.tmp t,.tmp u,.tmp s] true (.tup [v,w,x]) .ret env h↔(conv false h depth (env.at t)=some v∧conv false h depth (env.at u)=some w∧conv false h depth (env.at s)=some x):=by
 constructor
 ·rintro ⟨_,vs,ws,h1,h2,h3⟩
  rw [results_tmp (results_tmp (results_tmp results_nil))] at h1;cases h1
  simp only [if_true,mapO] at h2
  cases c1:conv false h depth (env.at t) with
  |none=>rw [c1] at h2;cases h2
  |some a=>
   cases c2:conv false h depth (env.at u) with
   |none=>rw [c1,c2] at h2;cases h2
   |some b=>
    cases c3:conv false h depth (env.at s) with
    |none=>rw [c1,c2,c3] at h2;cases h2
    |some c=>
     rw [c1,c2,c3] at h2;cases h2
     simp only [one,AV.tup.injEq,List.cons.injEq,and_true] at h3
     rw [h3.1,h3.2.1,h3.2.2];exact ⟨rfl,rfl,rfl⟩
 ·rintro ⟨h1,h2,h3⟩
  exact backN (ts:=[t,u,s]) (vs:=[v,w,x]) (by simp [mapO,h1,h2,h3]) rfl
def BY:=(And.intro (And.intro (And.intro (And.intro (And.intro @x_lenS @lenS_of) (And.intro @x_ixS @x_slS)) (And.intro (And.intro @x_fa @fa_ref) (And.intro @fa_iptr (And.intro @x_ld @x_st)))) (And.intro (And.intro (And.intro @x_nilchk @nilchk_ref) (And.intro @x_iaS @x_iaA)) (And.intro (And.intro @x_lenSl @lenSl_isl) (And.intro @lenSl_sl (And.intro @lenSl_nil @x_mn))))) (And.intro (And.intro (And.intro (And.intro @mn2 @x_mx) (And.intro @mx2 @u_not)) (And.intro (And.intro @u_negI @u_negF) (And.intro @true_beq (And.intro @lpQ_nrm @lpQ_exit)))) (And.intro (And.intro (And.intro @lpQ_ret @scQ_ret) (And.intro @scQ_nrm (And.intro @back3r @conv_nilIf))) (And.intro (And.intro @x_mkI @x_new) (And.intro @empty_next (And.intro @Nat.zero_add @Nat.add_zero))))))
def BZ:=And.intro BY BW
end Go.Proofs.YtmadknpaljaecaaGreatDoor.Ev
namespace Go.Proofs.YtmadknpaljaecaaGreatDoor.Us
open Fl
theorem near_mid {n1 m1 n2 m2 n m b:Nat} (h1:Near n1 m1 b) (h2:Near n2 m2 b) (p0:0 < m) (p1:0 < m1) (p2:0 < m2) (l1:n1*m≤n*m1) (l2:n*m2≤n2*m):Near n m b:=by
 refine ⟨h1.le,fun hb=>?_,fun hb=>?_⟩
 ·obtain ⟨u1,u2⟩:=h2.up hb
  generalize V b+V (b+1)=S at*
  have e1:2*n*m2≤m*S*m2:=by
   have a1:2*(n*m2)≤2*(n2*m):=Nat.mul_le_mul_left _ l2
   have a2:2*n2*m≤m2*S*m:=Nat.mul_le_mul_right _ u1
   calc 2*n*m2=2*(n*m2):=by ac_rfl
    _≤2*(n2*m):=a1
    _=2*n2*m:=by ac_rfl
    _≤m2*S*m:=a2
    _=m*S*m2:=by ac_rfl
  refine ⟨Nat.le_of_mul_le_mul_right e1 p2,fun e=>u2 ?_⟩
  have a1:2*(n*m2)≤2*(n2*m):=Nat.mul_le_mul_left _ l2
  have a3:2*n*m2=m*S*m2:=by rw [e]
  have a4:m2*S*m≤2*n2*m:=by
   calc m2*S*m=m*S*m2:=by ac_rfl
    _=2*n*m2:=a3.symm
    _=2*(n*m2):=by ac_rfl
    _≤2*(n2*m):=a1
    _=2*n2*m:=by ac_rfl
  exact Nat.le_antisymm u1 (Nat.le_of_mul_le_mul_right a4 p0)
 ·obtain ⟨d1,d2⟩:=h1.down hb
  generalize V (b - 1)+V b=S at*
  have e1:m*S*m1≤2*n*m1:=by
   have a1:2*(n1*m)≤2*(n*m1):=Nat.mul_le_mul_left _ l1
   have a2:m1*S*m≤2*n1*m:=Nat.mul_le_mul_right _ d1
   calc m*S*m1=m1*S*m:=by ac_rfl
    _≤2*n1*m:=a2
    _=2*(n1*m):=by ac_rfl
    _≤2*(n*m1):=a1
    _=2*n*m1:=by ac_rfl
  refine ⟨Nat.le_of_mul_le_mul_right e1 p1,fun e=>d2 ?_⟩
  have a1:2*(n1*m)≤2*(n*m1):=Nat.mul_le_mul_left _ l1
  have a3:m*S*m1=2*n*m1:=by rw [e]
  have a4:2*n1*m≤m1*S*m:=by
   calc 2*n1*m=2*(n1*m):=by ac_rfl
    _≤2*(n*m1):=a1
    _=2*n*m1:=by ac_rfl
    _=m*S*m1:=a3.symm
    _=m1*S*m:=by ac_rfl
  exact Nat.le_antisymm d1 (Nat.le_of_mul_le_mul_right a4 p0)
end Go.Proofs.YtmadknpaljaecaaGreatDoor.Us
namespace Go.Proofs.YtmadknpaljaecaaGreatDoor.Us
open Fl
theorem sc_lt {p:Int} (h1:-345≤p) (h2:p≤310) {x s:Nat} (hx0:2 ^ 63≤x) (hx:x < 2 ^ 64) (hs:8≤s):sc x (hi p) (lo p) (2 ^ s) < 72057594037927936 - 17179869184:=by
 rw [scaled h1 h2 hx0 hx hs]
 obtain ⟨s1,s2⟩:=sized_ok h1 h2
 have hB:=B_pos p
 have hS:=pow256 hs
 refine Nat.lt_of_le_of_lt un_hi ?_
 have hpos:0 < B p*(2 ^ s*2 ^ 128):=Nat.mul_pos hB (Nat.mul_pos (Nat.pow_pos (by decide)) (by decide))
 have:x*A p / (B p*(2 ^ s*2 ^ 128)) < 72057594037927936 - 34359738368:=by
  rw [Nat.div_lt_iff_lt_mul hpos]
  have a1:x*(A p*2 ^ 21)≤2 ^ 64*(A p*2 ^ 21):=Nat.mul_le_mul_right _ (Nat.le_of_lt hx)
  have a2:2 ^ 64*(A p*2 ^ 21) < 2 ^ 64*(2 ^ 128*B p*(2 ^ 21 - 1)):=Nat.mul_lt_mul_of_pos_left s2 (by decide)
  have a3:2 ^ 64*(2 ^ 128*B p*(2 ^ 21 - 1))=(72057594037927936 - 34359738368)*(B p*(256*2 ^ 128))*2 ^ 21:=by
   generalize B p=b
   rw [show (2:Nat) ^ 64*(2 ^ 128*b*(2 ^ 21 - 1))=2 ^ 64*2 ^ 128*(2 ^ 21 - 1)*b from by ac_rfl,show (72057594037927936 - 34359738368)*(b*(256*2 ^ 128))*2 ^ 21=(72057594037927936 - 34359738368)*(256*2 ^ 128)*2 ^ 21*b from by ac_rfl]
  have a4:(72057594037927936 - 34359738368)*(B p*(256*2 ^ 128))*2 ^ 21≤(72057594037927936 - 34359738368)*(B p*(2 ^ s*2 ^ 128))*2 ^ 21:=
   Nat.mul_le_mul_right _ (Nat.mul_le_mul_left _ (Nat.mul_le_mul_left _ (Nat.mul_le_mul_right _ hS)))
  have a5:x*A p*2 ^ 21 < (72057594037927936 - 34359738368)*(B p*(2 ^ s*2 ^ 128))*2 ^ 21:=by
   rw [Nat.mul_assoc];omega
  exact Nat.lt_of_mul_lt_mul_right a5
 omega
theorem hi_bounds {p:Int} (h1:-345≤p) (h2:p≤310):2 ^ 63≤hi p∧hi p < 2 ^ 64∧lo p < 2 ^ 64:=by
 obtain ⟨s1,s2⟩:=sized_ok h1 h2
 have hB:=B_pos p
 have hc:2 ^ 127≤cc p:=by
  unfold cc
  rw [Nat.le_div_iff_mul_le hB];omega
 have hc2:cc p < 2 ^ 128 - 2 ^ 106:=by
  unfold cc
  rw [Nat.div_lt_iff_lt_mul hB]
  have e1:2 ^ 128*B p*(2 ^ 21 - 1)=(2 ^ 128 - 2 ^ 107)*B p*2 ^ 21:=by
   generalize B p=b
   rw [show (2:Nat) ^ 128*b*(2 ^ 21 - 1)=2 ^ 128*(2 ^ 21 - 1)*b from by ac_rfl,show ((2:Nat) ^ 128 - 2 ^ 107)*b*2 ^ 21=(2 ^ 128 - 2 ^ 107)*2 ^ 21*b from by ac_rfl]
  rw [e1] at s2
  have h3:=Nat.lt_of_mul_lt_mul_right s2
  have e2:((2:Nat) ^ 128 - 2 ^ 106)*B p=(2 ^ 128 - 2 ^ 107)*B p+2 ^ 106*B p:=by rw [← Nat.add_mul]
  rw [e2]
  have:B p≤2 ^ 106*B p:=Nat.le_mul_of_pos_left _ (by decide)
  omega
 unfold hi lo
 have h4:(cc p+(2 ^ 64 - 1)) / 2 ^ 64*2 ^ 64≤cc p+(2 ^ 64 - 1):=Nat.div_mul_le_self _ _
 refine ⟨?_,?_,?_⟩
 ·rw [Nat.le_div_iff_mul_le (by decide)]
  exact Nat.le_trans (by decide:2 ^ 63*2 ^ 64≤2 ^ 127) (Nat.le_trans hc (Nat.le_add_right _ _))
 ·rw [Nat.div_lt_iff_lt_mul (by decide)]
  exact Nat.lt_of_lt_of_le (Nat.add_lt_add_right hc2 _) (by decide:2 ^ 128 - 2 ^ 106+(2 ^ 64 - 1)≤2 ^ 64*2 ^ 64)
 ·exact Nat.lt_of_le_of_lt (Nat.sub_le_of_le_add (by rw [Nat.add_comm];exact h4)) (by decide:2 ^ 64 - 1 < 2 ^ 64)
end Go.Proofs.YtmadknpaljaecaaGreatDoor.Us
namespace Go.Proofs.YtmadknpaljaecaaGreatDoor.Ev.D
open Go Go.Proofs.YtmadknpaljaecaaGreatDoor.Ev
set_option maxRecDepth 100000
theorem len8_eq {d:Nat} (hd:0 < d):len8 d=d.log2+1:=by unfold len8;rw [if_neg (by omega)]
def H275:Heap:=Heap.empty.new (.cells 3 (.int .u64 0) (setL [(2,.int .i64 0)] .nil) 233 false)
theorem H275_len:H275.len 0=3:=new_len
def pk (R:Nat) (e:Int):Nat:=if R < 4503599627370496 then R else if 972≤e then Fl.inf else R+(1074+e).toNat*4503599627370496
theorem half_or {u:Nat} (h:u < 72057594037927936):u / 2 ||| u % 2 < 36028797018963968:=by
 rcases Nat.mod_two_eq_zero_or_one u with h1|h1 <;> rw [h1]
 ·rw [Nat.or_zero];omega
 ·rw [Us.or_one];omega
theorem half_or2 {u:Nat} (h:u < 72057594037927936 - 17179869184):u / 2 ||| u % 2 < 36028797018963966:=by
 rcases Nat.mod_two_eq_zero_or_one u with h1|h1 <;> rw [h1]
 ·rw [Nat.or_zero];omega
 ·rw [Us.or_one];omega
theorem s289E {s R:Nat} {e:Int} (hs:s=0∨s=9223372036854775808) (hR:R < 9007199254740992) (he1:-1074≤e) (he2:e≤3000):
  ∃ err,(err=.nilIf∨err=.iface 160 (.int .i64 1))∧∀ h,Does C 289 [.int .u64 ((s+R:Nat):Int),.int .i64 e] h (.tup [.float .f64 (s+pk R e),err]) h:=by
 refine ⟨if R < 4503599627370496 then .nilIf else if 972≤e then .iface 160 (.int .i64 1) else .nilIf,?_,fun h=>s289 hs hR he1 he2 h⟩
 split
 ·exact .inl rfl
 ·split
  ·exact .inr rfl
  ·exact .inl rfl
theorem s275 {d s:Nat} {p:Int} (hd:0 < d) (h64:d < 18446744073709551616) (h1:-345≤p) (h2:p≤310) (hs:s=0∨s=9223372036854775808):
  ∃ err,(err=.nilIf∨err=.iface 160 (.int .i64 1))∧∀ h,Does C 275 [.int .u64 (d:Int),.int .i64 p,.int .u64 (s:Int)] h (.tup [.float .f64 (s+Us.pf d p),err]) h:=by
 obtain ⟨b64,x1,x2,hdb⟩:=Us.log_facts hd h64
 obtain ⟨q1,q2,q3⟩:=Us.hi_bounds h1 h2
 have hlp:-1200≤Us.lp p∧Us.lp p≤1100:=by unfold Us.lp;omega
 have hl8:=len8_eq hd
 have scl:=fun s (hs:8≤s)=>Us.sc_lt h1 h2 x1 x2 hs
 have e245:=fun h=>s245 (show -400≤p by omega) (show p≤400 by omega) h
 unfold Us.pf
 simp only
 generalize d.log2+1=b at*
 generalize Us.lp p=l at*
 generalize he:min (1074:Int) (53 - b - l)=e at*
 have he1:e≤1074:=by omega
 have he2:e≤53 - b - l:=by omega
 have he3:e=1074∨e=53 - b - l:=by omega
 have hb1:(b:Int)≤64:=by omega
 have w0:wrapF .i64 (53 - (b:Int))=53 - b:=i64_wrap (by omega) (by omega)
 have w1:wrapF .i64 (53 - (b:Int) - l)=53 - b - l:=i64_wrap (by omega) (by omega)
 have w2:wrapF .i64 (64 - (b:Int))=((64 - b:Nat):Int):=by rw [i64_wrap (by omega) (by omega)];omega
 have w3:wrapF .i64 (e - ((64 - b:Nat):Int))=e - 64+b:=by rw [i64_wrap (by omega) (by omega)];omega
 have c244:=s244 (h:=H275) (b:=0) (e:=e - 64+b) (p:=p) (l:=l) (by rw [H275_len];decide) (by omega) (by omega) (by omega) (by omega) (by omega) (by omega)
 obtain ⟨H,hH⟩:∃ H,preH H275 0 (e - 64+b) p l=H:=⟨_,rfl⟩
 have k2:H.cell 0 2=.int .i64 (61 - e - b - l):=by
  rw [← hH];unfold preH
  rw [Heap.stB_cell _ _ _ _ _ _ (by rw [Heap.stB_len,Heap.stB_len,H275_len];decide),if_pos ⟨rfl,rfl⟩];congr 1;omega
 have k1:H.cell 0 1=.int .u64 ((Us.lo p:Nat):Int):=by
  rw [← hH];unfold preH
  rw [Heap.stB_cell _ _ _ _ _ _ (by rw [Heap.stB_len,Heap.stB_len,H275_len];decide),if_neg (by decide),Heap.stB_cell _ _ _ _ _ _ (by rw [Heap.stB_len,H275_len];decide),if_pos ⟨rfl,rfl⟩]
 have k0:H.cell 0 0=.int .u64 ((Us.hi p:Nat):Int):=by
  rw [← hH];unfold preH
  rw [Heap.stB_cell _ _ _ _ _ _ (by rw [Heap.stB_len,Heap.stB_len,H275_len];decide),if_neg (by decide),Heap.stB_cell _ _ _ _ _ _ (by rw [Heap.stB_len,H275_len];decide),if_neg (by decide),Heap.stB_cell _ _ _ _ _ _ (by rw [H275_len];decide),if_pos ⟨rfl,rfl⟩]
 have kl:H.len 0=3:=by rw [← hH];unfold preH;rw [Heap.stB_len,Heap.stB_len,Heap.stB_len,H275_len]
 rw [hH] at c244
 clear hH
 have hnew:Heap.empty.new (.cells 3 (.int .u64 0) (setL [(2,.int .i64 0)] .nil) 233 false)=H275:=rfl
 by_cases c64:(64:Int)≤61 - e - b - l
 ·refine ⟨.nilIf,.inl rfl,fun h=>?_⟩
  refine does_pure (fn:=X275) rfl rfl rfl (mapO_cons conv_int (mapO_cons conv_int (mapO_cons conv_int mapO_nil))) ?_
  rw [if_pos c64]
  have eo:orF .u64 (s:Int) 0=(s:Int):=by
   have:=or_u64 (a:=s) (b:=0) (by omega) (by decide)
   rw [Nat.or_zero] at this;exact this
  simp (decide:=true) only [BW,X275,callG_of (s212 h64 _),hl8,callG_of (e245 _),w0,w1,x_mn,mn2,he,x_new,w2,w3,hnew,empty_next,callG_of c244,x_fa,fa_ref,x_ld,ld1_cell (show 0+2 < H.len 0 by omega),Nat.zero_add,k2,decide_eq_true c64,eo,Int.toNat_natCast]
  exact ⟨rfl,rfl⟩
 ·obtain ⟨S,hS⟩:∃ S:Nat,61 - e - b - l=S:=⟨(61 - e - b - l).toNat,by omega⟩
  have hS8:8≤S:=by omega
  have hS64:S < 64:=by omega
  have hlt:=scl S hS8
  rw [if_neg c64,hS,Int.toNat_natCast]
  rw [hS] at k2
  have hq0:0 < d*2 ^ (64 - b)*Us.hi p / 18446744073709551616:=by
   have:2 ^ 63*2 ^ 63≤d*2 ^ (64 - b)*Us.hi p:=Nat.mul_le_mul x1 q1
   have h3:(2:Nat) ^ 63*2 ^ 63=85070591730234615865843651857942052864:=rfl
   omega
  have c246:=fun (h':H=H)=>s246 (h:=H) (b:=0) (x:=d*2 ^ (64 - b)) (hv:=Us.hi p) (lv:=Us.lo p) (s:=S) (by omega) k0 k1 k2 hS64 x2 q2 q3 hq0
  have c246:=c246 rfl
  generalize Us.sc (d*2 ^ (64 - b)) (Us.hi p) (Us.lo p) (2 ^ S)=u at*
  have hw:∀ {x:Nat},x < 18446744073709551616→wrapF .u64 (x:Int)=x:=fun h=>u64_wrap h
  obtain ⟨R,e',hR,hRlt,he'⟩:∃ (R:Nat) (e':Int),R=Us.rnd (if 36028797018963966≤u then u / 2 ||| u % 2 else u)∧R < 9007199254740992∧e' =(if 36028797018963966≤u then e - 1 else e):=by
   refine ⟨_,_,rfl,?_,rfl⟩
   split
   ·exact Us.rnd_hi (by have:=half_or2 hlt;omega)
   ·exact Us.rnd_hi (by omega)
  have eR:orF .u64 (s:Int) (R:Int)=((s+R:Nat):Int):=by
   rw [or_u64 (a:=s) (b:=R) (by omega) (by omega),or_sgn hs (by omega)]
  have hu:u < 18446744073709551616:=by omega
  have t251:∀ h,Does C 251 [.bool true] h (.int .i64 1) h:=fun h=>s251 h
  have f251:∀ h,Does C 251 [.bool false] h (.int .i64 0) h:=fun h=>s251 h
  have sh1:binV .shr (.int .u64 (u:Int)) (.int .i64 1)=some (.int .u64 ((u / 2:Nat):Int)):=b_shrn (n:=1) (by decide)
  have sh0:binV .shr (.int .u64 (u:Int)) (.int .i64 0)=some (.int .u64 ((u:Nat):Int)):=by
   have:=b_shrn (k':=.i64) (a:=u) (n:=0) (by decide)
   simpa using this
  have an1:=and1 hu
  have eb:=b_shln (k':=.i64) (a:=d) (n:=64 - b)
  have c252:∀ h,Does C 252 [.int .u64 9007199254740992] h (.int .u64 36028797018963966) h:=fun h=>s252 (x:=9007199254740992) (by decide) (by decide) h
  obtain ⟨err,herr,fin⟩:=s289E (s:=s) (R:=R) (e:=-e') hs hRlt (by have:=he';split at this <;> omega) (by have:=he';split at this <;> omega)
  have hcv:∀ h,conv false h depth err=some err:=by rcases herr with rfl|rfl <;> exact fun _=>rfl
  rw [← hR,← he']
  refine ⟨err,herr,fun h=>?_⟩
  rw [show (if R < 4503599627370496 then R else if 972≤-e' then Fl.inf else R+(1074 - e').toNat*4503599627370496)=pk R (-e') from rfl]
  generalize pk R (-e')=res at*
  refine does_pure (fn:=X275) rfl rfl rfl (mapO_cons conv_int (mapO_cons conv_int (mapO_cons conv_int mapO_nil))) ?_
  have hb0:0 < b:=by
   rcases Nat.eq_zero_or_pos b with h|h
   ·subst h;rw [Nat.pow_zero] at hdb;omega
   ·exact h
  by_cases cu:36028797018963966≤u
  ·rw [if_pos cu] at hR he'
   have o1:=or_nat (a:=u / 2) (b:=u % 2) (by omega) (by omega)
   have hu2:=half_or2 hlt
   have c250:=fun h=>s250 (u:=u / 2 ||| u % 2) (by omega) h
   rw [← hR] at c250
   have we:wrapF .i64 (e - 1)=e':=by rw [i64_wrap (by omega) (by omega),he']
   have we2:wrapF .i64 (0 - e')=-e':=by rw [i64_wrap (by omega) (by omega)];omega
   simp (decide:=true) only [BW,X275,callG_of (s212 h64 _),hl8,callG_of (e245 _),w0,w1,x_mn,mn2,he,x_new,w2,w3,hnew,empty_next,callG_of c244,x_fa,fa_ref,x_ld,ld1_cell (show 0+2 < H.len 0 by omega),Nat.zero_add,k2,decide_eq_false (show ¬ (64:Int)≤(S:Int) by omega),
    b_shln (show 64 - b < 64 by omega) x2,callG_of c246,callG_of (c252 _),decide_eq_true (show (36028797018963966:Int)≤(u:Int) by omega),callG_of (t251 _),sh1,an1,o1,we,callG_of (c250 _),eR,u_negI,we2,callG_of (fin _),hcv]
  ·rw [if_neg cu] at hR he'
   have hu1:u ||| u % 2=u:=by
    rcases Nat.mod_two_eq_zero_or_one u with h1|h1 <;> rw [h1]
    ·exact Nat.or_zero u
    ·rw [Us.or_one];omega
   have o1:=or_nat (a:=u) (b:=u % 2) (by omega) (by omega)
   rw [hu1] at o1
   have c250:=fun h=>s250 (u:=u) (by omega) h
   rw [← hR] at c250
   have we:wrapF .i64 (e - 0)=e':=by rw [i64_wrap (by omega) (by omega),he'];omega
   have we2:wrapF .i64 (0 - e')=-e':=by rw [i64_wrap (by omega) (by omega)];omega
   simp (decide:=true) only [BW,X275,callG_of (s212 h64 _),hl8,callG_of (e245 _),w0,w1,x_mn,mn2,he,x_new,w2,w3,hnew,empty_next,callG_of c244,x_fa,fa_ref,x_ld,ld1_cell (show 0+2 < H.len 0 by omega),Nat.zero_add,k2,decide_eq_false (show ¬ (64:Int)≤(S:Int) by omega),
    b_shln (show 64 - b < 64 by omega) x2,callG_of c246,callG_of (c252 _),decide_eq_false (show ¬ (36028797018963966:Int)≤(u:Int) by omega),callG_of (f251 _),sh0,an1,o1,we,callG_of (c250 _),eR,u_negI,we2,callG_of (fin _),hcv]
end Go.Proofs.YtmadknpaljaecaaGreatDoor.Ev.D
namespace Go.Proofs.YtmadknpaljaecaaGreatDoor.Us
open Fl Ieee
def RHE (n M R:Nat):Prop:=2*n≤M*(2*R+1)∧(2*n=M*(2*R+1)→R % 2=0)∧M*(2*R)≤2*n+M∧(M*(2*R)=2*n+M→R % 2=0)
theorem RHE.lt {n M R R':Nat} (hM:0 < M) (h:RHE n M R) (h':RHE n M R') (hl:R < R'):False:=by
 obtain ⟨a1,a2,a3,a4⟩:=h
 obtain ⟨b1,b2,b3,b4⟩:=h'
 have e1:M*(2*R+1)+M≤M*(2*R'):=by
  have:M*(2*R+2)≤M*(2*R'):=Nat.mul_le_mul_left _ (by omega)
  rw [Nat.mul_add] at this ⊢;omega
 have e2:M*(2*R')=2*n+M:=by omega
 have e3:2*n=M*(2*R+1):=by omega
 have p1:=a2 e3
 have p2:=b4 e2
 have e4:M*(2*R+2)=M*(2*R'):=by rw [Nat.mul_add] at e3 ⊢;omega
 have:=Nat.eq_of_mul_eq_mul_left hM e4
 omega
theorem RHE.uniq {n M R R':Nat} (hM:0 < M) (h:RHE n M R) (h':RHE n M R'):R=R':=by
 rcases Nat.lt_trichotomy R R' with h1|h1|h1
 ·exact (h.lt hM h' h1).elim
 ·exact h1
 ·exact (h'.lt hM h h1).elim
theorem cut_small (s:Bool) (n drop:Nat) (h:n.log2+2 < drop):Toward.even.cut s n drop=rnd (un (4*n) (2 ^ drop)):=by
 have hn:n < 2 ^ (n.log2+1):=Nat.lt_log2_self
 have h4:4*n < 2 ^ drop:=by
  have:2 ^ (n.log2+3)≤2 ^ drop:=Nat.pow_le_pow_right (by decide) h
  rw [show n.log2+3=n.log2+1+2 by omega,Nat.pow_add _ (n.log2+1)] at this
  omega
 have hu:un (4*n) (2 ^ drop)≤1:=by
  unfold un
  rw [Nat.div_eq_of_lt h4]
  split <;> decide
 have hr:rnd (un (4*n) (2 ^ drop))=0:=by unfold rnd;omega
 rw [hr]
 unfold Toward.cut
 rw [Nat.min_eq_right (by omega),Nat.one_shiftLeft]
 have hg:n < 2 ^ (n.log2+2):=Nat.lt_of_lt_of_le hn (Nat.pow_le_pow_right (by decide) (by omega))
 simp only [Nat.div_eq_of_lt hg,Nat.mod_eq_of_lt hg]
 have h2:2*n < 2 ^ (n.log2+2):=by rw [show n.log2+2=n.log2+1+1 by omega,Nat.pow_succ];omega
 have e1:decide (2 ^ (n.log2+2) < 2*n)=false:=decide_eq_false (by omega)
 have e2:(2 ^ (n.log2+2) == 2*n)=false:=by rw [beq_eq_false_iff_ne];omega
 rw [e1,e2];rfl
theorem cut_rnd (s:Bool) (n drop:Nat):Toward.even.cut s n drop=rnd (un (4*n) (2 ^ drop)):=by
 rcases Nat.lt_or_ge (n.log2+2) drop with hd|hd
 ·exact cut_small s n drop hd
 ·have hM:0 < 2 ^ drop:=Nat.two_pow_pos _
  refine RHE.uniq hM ?_ (rnd_near hM)
  unfold Toward.cut
  rw [Nat.min_eq_left hd,Nat.one_shiftLeft]
  generalize 2 ^ drop=M at*
  have e:=Nat.div_add_mod n M
  have hr:=Nat.mod_lt n hM
  simp only
  generalize n / M=q at*
  generalize n % M=r at*
  subst e
  have a1:∀ x,M*(2*x+1)=2*(M*x)+M:=fun x=>by rw [Nat.mul_add,Nat.mul_left_comm,Nat.mul_one]
  have a2:∀ x,M*(2*x)=2*(M*x):=fun x=>by rw [Nat.mul_left_comm]
  have a3:M*(q+1)=M*q+M:=Nat.mul_succ _ _
  unfold RHE
  by_cases c1:M < 2*r
  ·rw [decide_eq_true c1,Bool.true_or,Bool.toNat_true,a1,a2,a3]
   omega
  ·by_cases c2:M=2*r
   ·by_cases c3:q % 2=1
    ·have:(decide (M < 2*r) || (M == 2*r && q % 2 == 1))=true:=by simp [c2,c3]
     rw [this,Bool.toNat_true,a1,a2,a3];omega
    ·have:(decide (M < 2*r) || (M == 2*r && q % 2 == 1))=false:=by simp [c2];omega
     simp only [this,Bool.toNat_false,Nat.add_zero];rw [a1,a2];omega
   ·have:(decide (M < 2*r) || (M == 2*r && q % 2 == 1))=false:=by
     rw [decide_eq_false c1,beq_eq_false_iff_ne.2 c2];rfl
    simp only [this,Bool.toNat_false,Nat.add_zero];rw [a1,a2];omega
theorem rnd_carry {n M:Nat} (hM:0 < M) (hn:n < 9007199254740992*M) (hR:rnd (un (4*n) M)=9007199254740992):
  rnd (un (4*n) (2*M))=4503599627370496∧2*M*(4*4503599627370496)≤4*n+2*M:=by
 obtain ⟨a1,a2,a3,a4⟩:=rnd_near (n:=n) (M:=M) hM
 rw [hR] at a3
 have h1:4*n / (2*M)=18014398509481983:=by
  rw [show 4*n=2*(2*n) by omega,Nat.mul_div_mul_left _ _ (by decide)]
  have hd:=Nat.div_add_mod (2*n) M
  have hr:=Nat.mod_lt (2*n) hM
  have h2:2*n / M < 18014398509481984:=by rw [Nat.div_lt_iff_lt_mul hM];clear hd hr a1 a2 a3 a4;omega
  have h3:18014398509481983≤2*n / M:=by rw [Nat.le_div_iff_mul_le hM];clear hd hr a1 a2 a4;rw [Nat.mul_comm M] at a3;omega
  clear hd hr a1 a2 a3 a4
  omega
 refine ⟨?_,by clear a1 a2 a4;rw [Nat.mul_comm M] at a3;rw [Nat.mul_comm (2*M)];omega⟩
 rw [un_eq,h1]
 split <;> rfl
theorem near_core {n m g:Nat} (hm:0 < m) (hlt:n < 9007199254740992*(m*2 ^ g)) (hge:g=0∨4503599627370496*(m*2 ^ g)≤n) {R:Nat} (hR:R=rnd (un (4*n) (m*2 ^ g))):
  Near n m (min (g*4503599627370496+R) inf):=by
 have hM:0 < m*2 ^ g:=Nat.mul_pos hm (Nat.two_pow_pos _)
 have hRle:R≤9007199254740992:=by
  obtain ⟨a1,a2,a3,a4⟩:=rnd_near (n:=n) (M:=m*2 ^ g) hM
  rw [← hR] at a3
  rcases Nat.lt_or_ge 9007199254740992 R with h|h
  ·have:m*2 ^ g*(2*9007199254740993)≤m*2 ^ g*(2*R):=Nat.mul_le_mul_left _ (by omega)
   omega
  ·exact h
 have hmin:∀ x:Nat,min x inf=if x < inf then x else inf:=fun x=>by split <;> omega
 rw [hmin]
 rcases hge with hz|hz
 ·subst hz
  rcases Nat.lt_or_ge R 4503599627370496 with h|h
  ·have:=rung_small (n:=n) hm (by rw [hR,Nat.pow_zero,Nat.mul_one]) h
   rw [if_pos (by have:inf=9218868437227405312:=rfl;omega),Nat.zero_mul,Nat.zero_add]
   exact this
  ·rcases Nat.lt_or_ge R 9007199254740992 with h2|h2
   ·exact rung_near hm hR h h2 fun _=>.inl rfl
   ·have hR2:R=9007199254740992:=by omega
    rw [Nat.pow_zero,Nat.mul_one] at hlt hR
    obtain ⟨c1,c2⟩:=rnd_carry hm hlt (by rw [← hR,hR2])
    have hpw:m*2 ^ 1=2*m:=by rw [Nat.pow_one,Nat.mul_comm]
    have:=rung_near (g:=1) (n:=n) hm (R:=4503599627370496) (by rw [← c1,hpw]) (Nat.le_refl _) (by decide) (fun _=>.inr (by rw [hpw];exact c2))
    rw [hR2];exact this
 ·have hR52:4503599627370496≤R:=by
   rw [hR]
   refine rnd_lo ?_
   have:18014398509481984≤4*n / (m*2 ^ g):=by rw [Nat.le_div_iff_mul_le hM];omega
   have:=un_lo (n:=4*n) (m:=m*2 ^ g)
   omega
  rcases Nat.lt_or_ge R 9007199254740992 with h2|h2
  ·exact rung_near hm hR hR52 h2 fun hR3=>.inr (by rw [hR3];omega)
  ·have hR2:R=9007199254740992:=by omega
   obtain ⟨c1,c2⟩:=rnd_carry hM hlt (by rw [← hR,hR2])
   have hpw:m*2 ^ (g+1)=2*(m*2 ^ g):=by rw [Nat.pow_succ];ac_rfl
   have:=rung_near (g:=g+1) (n:=n) hm (R:=4503599627370496) (by rw [← c1,hpw]) (Nat.le_refl _) (by decide) (fun _=>.inr (by rw [hpw];exact c2))
   rw [hR2]
   rw [show g*4503599627370496+9007199254740992=(g+1)*4503599627370496+4503599627370496 by omega]
   exact this
theorem nearest_near' (s:Bool) {mag n m:Nat} {place:Int} (h0:mag≠0) (hm:0 < m)
  (H:∀ g u d:Nat,(u:Int) - d=place+1074 - g→(u=0∨d=0)→(g=0∨mag.log2+u=52+d)→mag.log2+u≤52+d→
   un (4*(mag*2 ^ u)) (2 ^ d)=un (4*n) (m*2 ^ g)∧n < 9007199254740992*(m*2 ^ g)∧(g=0∨4503599627370496*(m*2 ^ g)≤n)):
  ∃ r,Near n m r∧double.nearest s mag place=double.word s r:=by
 have e2:double.binade=4503599627370496:=rfl
 have e3:double.infRung=inf:=rfl
 have e4:double.leastPlace=-1074:=rfl
 have e5:double.fractionBits=52:=rfl
 unfold Format.nearest
 rw [if_neg h0]
 simp only [e2,e3,e4,e5,cut_rnd,Nat.shiftLeft_eq]
 generalize mag.log2=L at*
 obtain ⟨g,hg⟩:∃ g:Nat,max (place+L - ((52:Nat):Int)) (-1074)+1074=g:=⟨(max (place+L - ((52:Nat):Int)) (-1074)+1074).toNat,by omega⟩
 obtain ⟨u,hu⟩:∃ u:Nat,(place - max (place+L - ((52:Nat):Int)) (-1074)).toNat=u:=⟨_,rfl⟩
 obtain ⟨d,hd⟩:∃ d:Nat,(max (place+L - ((52:Nat):Int)) (-1074) - place).toNat=d:=⟨_,rfl⟩
 have hg':(max (place+L - ((52:Nat):Int)) (-1074) - -1074).toNat=g:=by omega
 rw [hu,hd,hg']
 obtain ⟨H1,H2,H3⟩:=H g u d (by omega) (by omega) (by omega) (by omega)
 rw [H1]
 exact ⟨_,near_core hm H2 H3 rfl,rfl⟩
theorem nearest_near (s:Bool) {mag p q:Nat} {place:Int} (hp:place+1074=(p:Int) - q):∃ r,Near (mag*2 ^ p) (2 ^ q) r∧double.nearest s mag place=double.word s r:=by
 by_cases h0:mag=0
 ·subst h0
  exact ⟨0,zero_near (by rw [Nat.zero_mul];exact Nat.two_pow_pos _),by unfold Format.nearest;simp⟩
 have l1:=Nat.log2_self_le h0
 have l2:mag < 2 ^ (mag.log2+1):=Nat.lt_log2_self
 refine nearest_near' s h0 (Nat.two_pow_pos _) fun g u d e1 e2 e3 e4=>⟨?_,?_,?_⟩
 ·have hM:0 < 2 ^ q*2 ^ g:=Nat.mul_pos (Nat.two_pow_pos _) (Nat.two_pow_pos _)
  refine un_ratio (Nat.two_pow_pos _) hM ?_
  have hrat:mag*2 ^ u*(2 ^ q*2 ^ g)=mag*2 ^ p*2 ^ d:=by
   rw [← Nat.pow_add,Nat.mul_assoc,Nat.mul_assoc,← Nat.pow_add,← Nat.pow_add]
   congr 2;omega
  rw [Nat.mul_assoc 4,hrat,Nat.mul_assoc 4]
 ·have a1:mag*2 ^ p < 2 ^ (mag.log2+1)*2 ^ p:=Nat.mul_lt_mul_of_pos_right l2 (Nat.two_pow_pos _)
  refine Nat.lt_of_lt_of_le a1 ?_
  rw [show (9007199254740992:Nat)=2 ^ 53 from rfl,← Nat.pow_add,← Nat.pow_add,← Nat.pow_add]
  exact Nat.pow_le_pow_right (by decide) (by omega)
 ·rcases e3 with e3|e3
  ·exact .inl e3
  ·refine .inr (Nat.le_trans ?_ (Nat.mul_le_mul_right _ l1))
   rw [show (4503599627370496:Nat)=2 ^ 52 from rfl,← Nat.pow_add,← Nat.pow_add,← Nat.pow_add]
   exact Nat.pow_le_pow_right (by decide) (by omega)
theorem mul_near (s t:Bool) {x y:Nat} (hx:x < inf) (hy:y < inf):∃ r,Near (V x*V y) (2 ^ 1074) r∧double.mul (double.word s x) (double.word t y)=some (double.word (s ^^ t) r):=by
 have lx:x < sgn:=Nat.lt_trans hx inf_lt_sgn
 have ly:y < sgn:=Nat.lt_trans hy inf_lt_sgn
 obtain ⟨r,h1,h2⟩:=nearest_near (s ^^ t) (mag:=mant x*mant y) (p:=ex x+ex y) (q:=1074) (place:=-1074+(ex x:Nat)+(-1074+(ex y:Nat))) (by omega)
 refine ⟨r,?_,?_⟩
 ·rw [V_eq,V_eq,show mant x*2 ^ ex x*(mant y*2 ^ ex y)=mant x*mant y*2 ^ (ex x+ex y) by rw [Nat.pow_add];ac_rfl]
  exact h1
 ·unfold Format.mul
  rw [read_num (by rw [rung_word lx];exact hx),read_num (by rw [rung_word ly];exact hy),neg_word lx,neg_word ly,rung_word lx,rung_word ly]
  simp only [Datum.product,Option.map_some,Format.write,Option.some.injEq]
  exact h2
theorem un_shift {a b M K:Nat} (hM:0 < M) (hK:0 < K) (h:un a M=un b K):∀ k,un a (M*2 ^ k)=un b (K*2 ^ k)
 |0=>by simpa using h
 |k+1=>by
  have ih:=un_shift hM hK h k
  have e1:M*2 ^ (k+1)=2*(M*2 ^ k):=by rw [Nat.pow_succ];ac_rfl
  have e2:K*2 ^ (k+1)=2*(K*2 ^ k):=by rw [Nat.pow_succ];ac_rfl
  rw [e1,e2,← un_half (Nat.mul_pos hM (Nat.two_pow_pos _)),← un_half (Nat.mul_pos hK (Nat.two_pow_pos _)),ih]
theorem un_sticky {D n:Nat} (hn:0 < n):un (2*D) n=2*(D / n)+(D % n != 0).toNat:=by
 rw [un_eq]
 have hd:=Nat.div_add_mod D n
 have hr:=Nat.mod_lt D hn
 generalize D / n=q at*
 generalize D % n=r at*
 have e:2*D=n*(2*q)+2*r:=by rw [← hd,Nat.mul_add];congr 1;ac_rfl
 by_cases h0:r=0
 ·subst h0
  have:2*D % n=0:=by rw [e];simp
  rw [if_pos this,e];simp [Nat.mul_div_cancel_left _ hn]
 ·have ht:(r != 0).toNat=1:=by simp [h0]
  rw [ht]
  by_cases h2:2*r < n
  ·have a1:2*D / n=2*q:=by rw [e,Nat.mul_add_div hn,Nat.div_eq_of_lt h2,Nat.add_zero]
   have a2:2*D % n≠0:=by rw [e,Nat.mul_add_mod,Nat.mod_eq_of_lt h2];omega
   rw [if_neg a2,a1];omega
  ·have a1:2*D / n=2*q+1:=by
    rw [e,Nat.mul_add_div hn]
    have:2*r / n=1:=by
     rw [Nat.div_eq_iff hn];omega
    omega
   split <;> rw [a1] <;> omega
theorem mulpow (n a b c:Nat):2 ^ a*(n*2 ^ b*2 ^ c)=n*2 ^ (a+b+c):=by rw [Nat.pow_add,Nat.pow_add];ac_rfl
theorem key_eq (m more i Z:Nat):2*(m*2 ^ more)*2 ^ (i+Z)=2 ^ (1+more)*(m*2 ^ i*2 ^ Z):=by rw [Nat.pow_add,Nat.pow_add,Nat.pow_one];ac_rfl
theorem key4 {n a b:Nat}:2 ^ a*n*2 ^ b=n*2 ^ (a+b):=by rw [Nat.pow_add];ac_rfl
theorem key3 (m n more i j g k Z:Nat) (h:1+more+j+g=i+Z+2+k):4*(2*(m*2 ^ more))*(n*2 ^ j*2 ^ g)=4*(m*2 ^ i*2 ^ Z)*(4*n*2 ^ k):=by
 have h1:4*(2*(m*2 ^ more))*(n*2 ^ j*2 ^ g)=4*n*(m*2 ^ (1+more+j+g)):=by
  rw [Nat.pow_add,Nat.pow_add,Nat.pow_add,Nat.pow_one];ac_rfl
 have h2:4*(m*2 ^ i*2 ^ Z)*(4*n*2 ^ k)=4*n*(m*2 ^ (i+Z+2+k)):=by
  rw [Nat.pow_add _ (i+Z+2),Nat.pow_add _ (i+Z),Nat.pow_add _ i,show (2:Nat) ^ 2=4 from rfl];ac_rfl
 rw [h1,h2,h]
theorem div_near (s t:Bool) {x y:Nat} (hx0:0 < x) (hy0:0 < y) (hx:x < inf) (hy:y < inf):∃ r,Near (V x*2 ^ 1074) (V y) r∧double.div (double.word s x) (double.word t y)=some (double.word (s ^^ t) r):=by
 have lx:x < sgn:=Nat.lt_trans hx inf_lt_sgn
 have ly:y < sgn:=Nat.lt_trans hy inf_lt_sgn
 have hm0:0 < mant x:=by
  have:=V_lt hx0;rw [V_zero,V_eq] at this
  exact Nat.pos_of_mul_pos_right this
 have hn0:0 < mant y:=by
  have:=V_lt hy0;rw [V_zero,V_eq] at this
  exact Nat.pos_of_mul_pos_right this
 unfold Format.div
 rw [read_num (by rw [rung_word lx];exact hx),read_num (by rw [rung_word ly];exact hy),neg_word lx,neg_word ly,rung_word lx,rung_word ly]
 simp only [Datum.quotient,if_neg (Nat.pos_iff_ne_zero.1 hn0),Option.map_some,Format.write,Option.some.injEq]
 rw [V_eq,V_eq]
 generalize mant x=m at*
 generalize mant y=n at*
 generalize ex x=i at*
 generalize ex y=j at*
 rw [show double.fractionBits+2=54 from rfl,Nat.shiftLeft_eq]
 obtain ⟨more,hmore⟩:∃ more,54+n.log2 - m.log2=more:=⟨_,rfl⟩
 rw [hmore]
 have hq:2 ^ 53≤m*2 ^ more / n:=by
  rw [Nat.le_div_iff_mul_le hn0]
  have a1:n < 2 ^ (n.log2+1):=Nat.lt_log2_self
  have a2:=Nat.log2_self_le (show m≠0 by omega)
  have a3:2 ^ 53*n≤2 ^ 53*2 ^ (n.log2+1):=Nat.mul_le_mul_left _ (Nat.le_of_lt a1)
  have a4:2 ^ m.log2*2 ^ more≤m*2 ^ more:=Nat.mul_le_mul_right _ a2
  refine Nat.le_trans a3 (Nat.le_trans ?_ a4)
  rw [← Nat.pow_add,← Nat.pow_add]
  exact Nat.pow_le_pow_right (by decide) (by omega)
 clear hmore
 have hst:=un_sticky (D:=m*2 ^ more) hn0
 have hb:(m*2 ^ more % n != 0).toNat≤1:=by cases (m*2 ^ more % n != 0) <;> decide
 have hd:=Nat.div_add_mod (m*2 ^ more) n
 have hr:=Nat.mod_lt (m*2 ^ more) hn0
 obtain ⟨mag,hmag⟩:∃ mag,2*(m*2 ^ more / n)+(m*2 ^ more % n != 0).toNat=mag:=⟨_,rfl⟩
 rw [hmag] at hst ⊢
 have h0:mag≠0:=by have:(2:Nat) ^ 53=9007199254740992:=rfl;omega
 have l1:=Nat.log2_self_le h0
 have l2:mag < 2 ^ (mag.log2+1):=Nat.lt_log2_self
 have hL:54≤mag.log2:=(Nat.le_log2 h0).2 (by have:(2:Nat) ^ 53=9007199254740992:=rfl;have:(2:Nat) ^ 54=18014398509481984:=rfl;omega)
 have hA:2*(m*2 ^ more) < 2 ^ (mag.log2+1)*n:=by
  have e1:2*(m*2 ^ more / n)+2≤2 ^ (mag.log2+1):=by
   rw [Nat.pow_succ] at l2 ⊢;omega
  have e2:=Nat.mul_le_mul_right n e1
  have e3:(2*(m*2 ^ more / n)+2)*n=2*(n*(m*2 ^ more / n))+2*n:=by rw [Nat.add_mul,Nat.mul_assoc,Nat.mul_comm n]
  omega
 have hB:2 ^ mag.log2*n≤2*(m*2 ^ more):=by
  have e1:2 ^ mag.log2≤2*(m*2 ^ more / n):=by
   obtain ⟨L,hLL⟩:∃ L,mag.log2=L+1:=⟨mag.log2 - 1,by omega⟩
   rw [hLL,Nat.pow_succ] at l1 ⊢;omega
  have e2:=Nat.mul_le_mul_right n e1
  have e3:(2*(m*2 ^ more / n))*n=2*(n*(m*2 ^ more / n)):=by rw [Nat.mul_assoc,Nat.mul_comm n]
  omega
 refine nearest_near' (s ^^ t) h0 (Nat.mul_pos hn0 (Nat.two_pow_pos _)) fun g u d e1 e2 e3 e4=>?_
 have hu:u=0:=by omega
 subst hu
 have key:2*(m*2 ^ more)*2 ^ (i+1074)=2 ^ (1+more)*(m*2 ^ i*2 ^ 1074):=key_eq m more i 1074
 have key2:m*2 ^ i*2 ^ 1074*2 ^ (1+more)=2*(m*2 ^ more)*2 ^ (i+1074):=by rw [key,Nat.mul_comm]
 refine ⟨?_,?_,?_⟩
 ·obtain ⟨k,rfl⟩:∃ k,d=2+k:=⟨d - 2,by omega⟩
  have b1:un (4*mag) 4=mag:=by rw [un_eq,if_pos (by omega)];omega
  have b2:un (4*(2*(m*2 ^ more))) (4*n)=un (2*(m*2 ^ more)) n:=un_ratio (by omega) hn0 (by ac_rfl)
  have a2:=un_shift (a:=4*mag) (b:=4*(2*(m*2 ^ more))) (M:=4) (K:=4*n) (by decide) (by omega) (by rw [b1,b2,hst]) k
  rw [Nat.pow_zero,Nat.mul_one,show 2 ^ (2+k)=4*2 ^ k by rw [Nat.pow_add],a2]
  refine un_ratio (Nat.mul_pos (by omega) (Nat.two_pow_pos _)) (Nat.mul_pos (Nat.mul_pos hn0 (Nat.two_pow_pos _)) (Nat.two_pow_pos _)) ?_
  exact key3 m n more i j g k 1074 (by omega)
 ·have h1:9007199254740992*(n*2 ^ j*2 ^ g)=n*2 ^ (53+j+g):=mulpow n 53 j g
  rw [h1]
  have h2:m*2 ^ i*2 ^ 1074*2 ^ (1+more) < n*2 ^ (53+j+g)*2 ^ (1+more):=by
   rw [key2]
   refine Nat.lt_of_lt_of_le (Nat.mul_lt_mul_of_pos_right hA (Nat.two_pow_pos _)) ?_
   rw [key4,Nat.mul_assoc,← Nat.pow_add]
   exact Nat.mul_le_mul_left _ (Nat.pow_le_pow_right (by decide) (by clear key key2 h1 hA hB hst hd hr hb hq hmag l1 l2;omega))
  exact Nat.lt_of_mul_lt_mul_right h2
 ·rcases e3 with e3|e3
  ·exact .inl e3
  ·refine .inr ?_
   have h1:4503599627370496*(n*2 ^ j*2 ^ g)=n*2 ^ (52+j+g):=mulpow n 52 j g
   rw [h1]
   have h2:n*2 ^ (52+j+g)*2 ^ (1+more)≤m*2 ^ i*2 ^ 1074*2 ^ (1+more):=by
    rw [key2]
    refine Nat.le_trans ?_ (Nat.mul_le_mul_right _ hB)
    rw [key4,Nat.mul_assoc,← Nat.pow_add]
    exact Nat.mul_le_mul_left _ (Nat.pow_le_pow_right (by decide) (by clear key key2 h1 hA hB hst hd hr hb hq hmag l1 l2;omega))
   exact Nat.le_of_mul_le_mul_right h2 (Nat.two_pow_pos _)
end Go.Proofs.YtmadknpaljaecaaGreatDoor.Us
namespace Go.Proofs.YtmadknpaljaecaaGreatDoor.Us
open Fl Ieee
theorem Near.unscale {n m b:Nat} (k:Nat) (hk:0 < k) (h:Near (k*n) (k*m) b):Near n m b:=by
 refine ⟨h.le,fun hb=>?_,fun hb=>?_⟩
 ·obtain ⟨u1,u2⟩:=h.up hb
  rw [Nat.mul_assoc k m,← Nat.mul_left_comm k 2] at u1 u2
  exact ⟨Nat.le_of_mul_le_mul_left u1 hk,fun e=>u2 (by rw [e])⟩
 ·obtain ⟨u1,u2⟩:=h.down hb
  rw [Nat.mul_assoc k m,← Nat.mul_left_comm k 2] at u1 u2
  exact ⟨Nat.le_of_mul_le_mul_left u1 hk,fun e=>u2 (by rw [e])⟩
theorem Near.le_of {n m b c:Nat} (hm:0 < m) (h:Near n m b) (hc:n≤m*V c):b≤c:=by
 rcases Nat.lt_or_ge c b with hl|hl
 ·obtain ⟨d1,_⟩:=h.down (by omega)
  have v1:V c≤V (b - 1):=V_le_iff.2 (by omega)
  have v2:V c < V b:=V_lt hl
  have e:m*(V c+V c) < m*(V (b - 1)+V b):=Nat.mul_lt_mul_of_pos_left (by omega) hm
  rw [← Nat.two_mul,Nat.mul_left_comm] at e
  omega
 ·exact hl
theorem Near.ge_of {n m b c:Nat} (hm:0 < m) (h:Near n m b) (hc:m*V c≤n) (hi:c≤inf):c≤b:=by
 rcases Nat.lt_or_ge b c with hl|hl
 ·obtain ⟨d1,_⟩:=h.up (by omega)
  have v1:V (b+1)≤V c:=V_le_iff.2 (by omega)
  have v2:V b < V c:=V_lt hl
  have e:m*(V b+V (b+1)) < m*(V c+V c):=Nat.mul_lt_mul_of_pos_left (by omega) hm
  rw [← Nat.two_mul,Nat.mul_left_comm] at e
  omega
 ·exact hl
theorem near_exact {n m b:Nat} (hm:0 < m) (hb:b < inf) (h:n=m*V b):Near n m b:=by
 refine ⟨Nat.le_of_lt hb,fun _=>?_,fun h0=>?_⟩
 ·have:V b < V (b+1):=V_succ b
  have e:m*(V b+V b) < m*(V b+V (b+1)):=Nat.mul_lt_mul_of_pos_left (by omega) hm
  rw [← Nat.two_mul,Nat.mul_left_comm] at e
  omega
 ·have:V (b - 1) < V b:=V_lt (by omega)
  have e:m*(V (b - 1)+V b) < m*(V b+V b):=Nat.mul_lt_mul_of_pos_left (by omega) hm
  rw [← Nat.two_mul,Nat.mul_left_comm m 2] at e
  omega
set_option exponentiation.threshold 20000 in
theorem whole {d:Nat} (hd:d < 9007199254740992):∃ r,r < inf∧V r=d*2 ^ 1074∧double.nearest false d 0=r:=by
 obtain ⟨r,hr⟩:=repr d 1074 hd
 have hlt:r < inf:=by
  rw [← V_lt_iff,hr]
  have:V inf=9007199254740992*2 ^ 1074*2 ^ 971:=by decide+kernel
  rw [this]
  have h1:d*2 ^ 1074 < 9007199254740992*2 ^ 1074:=Nat.mul_lt_mul_of_pos_right hd (Nat.two_pow_pos _)
  exact Nat.lt_of_lt_of_le h1 (Nat.le_mul_of_pos_right _ (Nat.two_pow_pos _))
 exact ⟨r,hlt,hr,nearest_exact (p:=1074) (q:=0) false (by omega) hlt (by rw [hr,Nat.pow_zero,Nat.mul_one])⟩
def t10:List Nat:=[4607182418800017408,4621819117588971520,4636737291354636288,4652007308841189376,4666723172467343360,4681608360884174848,4696837146684686336,4711630319722168320,4726483295884279808,4741671816366391296,4756540486875873280,4771362005757984768,4786511204640096256,4801453603149578240,4816244402031689728,4831355200913801216,4846369599423283200,4861130398305394688,4876203697187506176,4891288408196988160,4906019910204099648,4921056587992461136,4936209963552724370]
theorem t10_ok:∀ k,k < 23→(t10.getD k 0) < inf∧V (t10.getD k 0)=10 ^ k*2 ^ 1074:=by decide+kernel
end Go.Proofs.YtmadknpaljaecaaGreatDoor.Us
namespace Go.Proofs.YtmadknpaljaecaaGreatDoor.Us
open Fl Ieee
theorem ac1 (a b Z:Nat):Z*(a*b*Z)=a*Z*(b*Z):=by ac_rfl
set_option exponentiation.threshold 20000 in
theorem mulT (s:Bool) {N r k:Nat} (hv:V r=N*2 ^ 1074) (hr:r < inf) (hk:k < 23):∃ r1,Near (N*10 ^ k*2 ^ 1074) 1 r1∧double.mul (double.word s r) (t10.getD k 0)=some (double.word s r1):=by
 obtain ⟨t1,t2⟩:=t10_ok k hk
 obtain ⟨r1,h1,h2⟩:=mul_near s false hr t1
 refine ⟨r1,Near.unscale (2 ^ 1074) (Nat.two_pow_pos _) ?_,?_⟩
 ·rw [hv,t2] at h1
  rw [Nat.mul_one,ac1]
  exact h1
 ·rw [Bool.xor_false] at h2;exact h2
set_option exponentiation.threshold 20000 in
theorem divT (s:Bool) {N r k:Nat} (hN:0 < N) (hv:V r=N*2 ^ 1074) (hr:r < inf) (hk:k < 23):∃ r1,Near (N*2 ^ 1074) (10 ^ k) r1∧double.div (double.word s r) (t10.getD k 0)=some (double.word s r1):=by
 obtain ⟨t1,t2⟩:=t10_ok k hk
 have r0:0 < r:=by
  rw [← V_lt_iff,V_zero,hv];exact Nat.mul_pos hN (Nat.two_pow_pos _)
 have t0:0 < t10.getD k 0:=by
  rw [← V_lt_iff,V_zero,t2];exact Nat.mul_pos (Nat.pow_pos (by decide)) (Nat.two_pow_pos _)
 obtain ⟨r1,h1,h2⟩:=div_near s false r0 t0 hr t1
 refine ⟨r1,Near.unscale (2 ^ 1074) (Nat.two_pow_pos _) ?_,?_⟩
 ·rw [hv,t2] at h1
  rw [Nat.mul_comm _ (N*2 ^ 1074),Nat.mul_comm _ (10 ^ k)]
  exact h1
 ·rw [Bool.xor_false] at h2;exact h2
set_option exponentiation.threshold 20000 in
theorem small_exact {N r:Nat} (h:Near (N*2 ^ 1074) 1 r) (hr:r≤4831355200913801216):r < inf∧V r=N*2 ^ 1074:=by
 have hi:inf=9218868437227405312:=rfl
 have c15:V 4831355200913801216=10 ^ 15*2 ^ 1074:=(t10_ok 15 (by decide)).2
 have hN:N≤10 ^ 15:=by
  rcases Nat.lt_or_ge (10 ^ 15) N with hl|hl
  ·obtain ⟨c,hc⟩:=repr (10 ^ 15+1) 1074 (by decide)
   have h2:4831355200913801216 < c:=by
    rw [← V_lt_iff,c15,hc];exact Nat.mul_lt_mul_of_pos_right (by decide) (Nat.two_pow_pos _)
   have hci:c < inf:=by
    rw [← V_lt_iff,hc]
    have:V inf=9007199254740992*2 ^ 1074*2 ^ 971:=by decide+kernel
    rw [this]
    have h1:(10 ^ 15+1)*2 ^ 1074 < 9007199254740992*2 ^ 1074:=Nat.mul_lt_mul_of_pos_right (by decide) (Nat.two_pow_pos _)
    exact Nat.lt_of_lt_of_le h1 (Nat.le_mul_of_pos_right _ (Nat.two_pow_pos _))
   have:=h.ge_of (by decide) (c:=c) (by rw [hc,Nat.one_mul];exact Nat.mul_le_mul_right _ hl) (Nat.le_of_lt hci)
   omega
  ·exact hl
 obtain ⟨r',h1,h2,h3⟩:=whole (d:=N) (Nat.lt_of_le_of_lt hN (by decide))
 have:=Near.uniq (by decide) h (near_exact (by decide) h1 (by rw [h2,Nat.one_mul]))
 rw [this];exact ⟨h1,h2⟩
theorem cmp15' (s:Bool) {r c:Nat} (hr:r < inf) (ci:c < inf) (hp:0 < V c):(double.order (double.word s r) (double.word false c) == some .gt)=(!s && decide (c < r))∧(double.order (double.word s r) (double.word true c) == some .lt)=(s && decide (c < r)):=by
 have lr:r < sgn:=Nat.lt_trans hr inf_lt_sgn
 have cs:c < sgn:=Nat.lt_trans ci inf_lt_sgn
 rw [order_num (by rw [rung_word lr];exact hr) (by rw [rung_word cs];exact ci),order_num (by rw [rung_word lr];exact hr) (by rw [rung_word cs];exact ci)]
 unfold sV
 rw [neg_word lr,neg_word cs,rung_word lr,rung_word cs,neg_word cs,rung_word cs]
 have hlt:(c < r)↔V c < V r:=V_lt_iff.symm
 generalize V c=A at*
 generalize V r=X at*
 cases s
 ·refine ⟨?_,?_⟩
  ·simp only [Bool.false_eq_true,if_false,Bool.not_false,Bool.true_and]
   rw [cmpNat]
   simp only [compare,compareOfLessAndEq]
   by_cases h:A < X
   ·rw [if_neg (by omega),if_neg (by omega),decide_eq_true (hlt.2 h)];rfl
   ·rw [decide_eq_false (fun hc=>h (hlt.1 hc))]
    split
    ·rfl
    ·rw [if_pos (by omega)];rfl
  ·simp only [Bool.false_eq_true,if_false,if_true,Bool.false_and]
   simp only [compare,compareOfLessAndEq]
   rw [if_neg (by omega)];split <;> rfl
 ·refine ⟨?_,?_⟩
  ·simp only [Bool.false_eq_true,if_false,if_true,Bool.not_true,Bool.false_and]
   simp only [compare,compareOfLessAndEq]
   rw [if_pos (by omega)];rfl
  ·simp only [if_true,Bool.true_and]
   simp only [compare,compareOfLessAndEq]
   by_cases h:A < X
   ·rw [if_pos (by omega),decide_eq_true (hlt.2 h)];rfl
   ·rw [if_neg (by omega),decide_eq_false (fun hc=>h (hlt.1 hc))];split <;> rfl
set_option exponentiation.threshold 20000 in
theorem cmp15 (s:Bool) {r:Nat} (hr:r < inf):(double.order (double.word s r) 4831355200913801216 == some .gt)=(!s && decide (4831355200913801216 < r))∧(double.order (double.word s r) 14054727237768577024 == some .lt)=(s && decide (4831355200913801216 < r)):=by
 have hp:0 < V 4831355200913801216:=by
  have:=(t10_ok 15 (by decide)).2
  rw [show t10.getD 15 0=4831355200913801216 from rfl] at this
  rw [this];exact Nat.mul_pos (by decide) (Nat.two_pow_pos _)
 exact cmp15' s (c:=4831355200913801216) hr (by decide) hp
end Go.Proofs.YtmadknpaljaecaaGreatDoor.Us
namespace Go.Proofs.YtmadknpaljaecaaGreatDoor.Ev.D
open Go Go.Proofs.YtmadknpaljaecaaGreatDoor.Ev
set_option maxRecDepth 100000
theorem glob10:C.glob 10=.iptr false L10:=rfl
theorem glob15:C.glob 15=.iptr false L15:=rfl
def K15:List AV:=match L15 with|[.isl _ _ cs]=>cs|_=>[]
theorem L15_eq:L15=[.isl false 23 K15]:=rfl
theorem ldK {k:Nat} (hk:k < 23) {h:Heap}:ldV false 1 (.iptr false (K15.drop (k*1))) h=.ok (.float .f64 (Us.t10.getD k 0)) h:=by
 rcases k with _|_|_|_|_|_|_|_|_|_|_|_|_|_|_|_|_|_|_|_|_|_|_|k <;> first|rfl|omega
theorem ixK {k:Nat} (hk:k < 23) {h:Heap}:iaSV 1 (.isl false 23 K15) (.int .i64 (k:Int)) h=.ok (.iptr false (K15.drop (k*1))) h:=iaS_isl hk
theorem ixK22 {h:Heap}:iaSV 1 (.isl false 23 K15) (.int .i64 22) h=.ok (.iptr false (K15.drop (22*1))) h:=ixK (k:=22) (by decide)
theorem negF_word {r:Nat} (h:r < Fl.sgn):Go.Op.negFloat .f64 r=Ieee.double.word true r:=by
 show r ^^^ 2 ^ 63=2 ^ 63+r
 have h2:r < 2 ^ 63:=h
 have:=Nat.two_pow_add_eq_or_of_lt h2 1
 rw [Nat.mul_one] at this
 rw [this]
 apply Nat.eq_of_testBit_eq
 intro i
 rw [Nat.testBit_xor,Nat.testBit_or,Nat.testBit_two_pow]
 by_cases hi:63=i
 ·subst hi
  rw [Nat.testBit_lt_two_pow h2];rfl
 ·rw [decide_eq_false hi];cases r.testBit i <;> rfl
theorem f_div {a b r:Nat} (h:Ieee.double.div a b=some r):binV .quo (.float .f64 a) (.float .f64 b)=some (.float .f64 r):=by
 have e:binV .quo (.float .f64 a) (.float .f64 b)=floatR .f64 (Ieee.double.div a b):=by simp only [binV,if_true,floatBin];rfl
 rw [e,h];rfl
set_option exponentiation.threshold 20000 in
theorem s274 {d:Nat} {p:Int} (hd:0 < d) (h64:d < 18446744073709551616) (p1:-1000≤p) (p2:p≤1000) (s:Bool):
  ∃ x ok,(ok=true→∃ r,Us.Near (Us.nn d p) (Us.mm p) r∧x=Ieee.double.word s r)∧∀ h,Does C 274 [.int .u64 (d:Int),.int .i64 p,.bool s] h (.tup [.float .f64 x,.bool ok]) h:=by
 have e52:binV .shr (.int .u64 (d:Int)) (.int .u64 52)=some (.int .u64 ((d / 4503599627370496:Nat):Int)):=b_shr52
 by_cases big:d / 4503599627370496≠0
 ·refine ⟨0,false,fun h=>(by cases h),fun h=>?_⟩
  refine does_pure (fn:=X274) rfl rfl rfl (mapO_cons conv_int (mapO_cons conv_int (mapO_cons conv_bool mapO_nil))) ?_
  simp (decide:=true) only [BW,X274,glob10,x_fa,fa_iptr,List.drop_zero,x_ld,L10,ld1_iptr,e52,decide_eq_true (show (((d / 4503599627370496:Nat):Int)≠0) by omega)]
 ·obtain ⟨r,r1,r2,r3⟩:=Us.whole (d:=d) (by omega)
  have lr:r < Fl.sgn:=Nat.lt_trans r1 Fl.inf_lt_sgn
  have hcv:FloatKind.f64.nearest (d:Int)=Ieee.double.word false r:=by rw [nearest_cast];exact r3
  have hng:Go.Op.negFloat .f64 (Ieee.double.word false r)=Ieee.double.word true r:=negF_word lr
  have hbig:=decide_eq_false (show ¬ (((d / 4503599627370496:Nat):Int)≠0) by omega)
  by_cases p0:p=0
  ·subst p0
   refine ⟨Ieee.double.word s r,true,fun _=>⟨r,Us.near_exact (by decide) r1 ?_,rfl⟩,fun h=>?_⟩
   ·rw [r2];simp [Us.nn,Us.mm]
   ·refine does_pure (fn:=X274) rfl rfl rfl (mapO_cons conv_int (mapO_cons conv_int (mapO_cons conv_bool mapO_nil))) ?_
    cases s <;> (simp (decide:=true) only [BW,X274,glob10,x_fa,fa_iptr,List.drop_zero,x_ld,L10,ld1_iptr,e52,hbig,hcv,u_negF,hng];done)
  ·by_cases pp:0 < p
   ·obtain ⟨k,rfl⟩:∃ k:Nat,p=k:=⟨p.toNat,by omega⟩
    have e0:=decide_eq_false p0
    have e1:=decide_eq_true pp
    have hnn:Us.nn d k=d*10 ^ k*2 ^ 1074:=by unfold Us.nn;rw [Int.toNat_natCast]
    have hmm:Us.mm k=1:=by unfold Us.mm;rw [show (-(k:Int)).toNat=0 by omega,Nat.pow_zero]
    rw [hnn,hmm]
    by_cases p37:k≤37
    ·have e2:=decide_eq_true (show (k:Int)≤37 by omega)
     by_cases p22:22 < k
     ·have e3:=decide_eq_true (show (22:Int) < (k:Int) by omega)
      have w1:wrapF .i64 ((k:Int) - 22)=((k - 22:Nat):Int):=by rw [i64_wrap (by omega) (by omega)];omega
      obtain ⟨q,q1,q2⟩:=Us.mulT s (k:=k - 22) r2 r1 (by omega)
      have qi:q < Fl.inf:=by
       have h1:d*10 ^ (k - 22)*2 ^ 1074≤1*Fl.V 9218868437227405311:=by
        have a1:10 ^ (k - 22)≤10 ^ 15:=Nat.pow_le_pow_right (by decide) (by omega)
        have a2:d*10 ^ (k - 22)*2 ^ 1074≤4503599627370496*10 ^ 15*2 ^ 1074:=Nat.mul_le_mul_right _ (Nat.mul_le_mul (by omega) a1)
        exact Nat.le_trans a2 (by decide+kernel)
       have:=q1.le_of (by decide) h1
       have hi:Fl.inf=9218868437227405312:=rfl
       omega
      obtain ⟨c1,c2⟩:=Us.cmp15 s qi
      by_cases big:4831355200913801216 < q
      ·refine ⟨Ieee.double.word s q,false,fun h=>(by cases h),fun h=>?_⟩
       refine does_pure (fn:=X274) rfl rfl rfl (mapO_cons conv_int (mapO_cons conv_int (mapO_cons conv_bool mapO_nil))) ?_
       rw [decide_eq_true big] at c1 c2
       have c1':(FloatKind.f64.format.order (Ieee.double.word s q) 4831355200913801216 == some .gt)=(!s && true):=c1
       have c2':(FloatKind.f64.format.order (Ieee.double.word s q) 14054727237768577024 == some .lt)=(s && true):=c2
       cases s <;> (simp (decide:=true) only [BW,X274,glob10,x_fa,fa_iptr,List.drop_zero,x_ld,L10,ld1_iptr,e52,hbig,hcv,u_negF,hng,e0,e1,e2,e3,glob15,L15_eq,w1,x_iaS,ixK (show k - 22 < 23 by omega),ldK (show k - 22 < 23 by omega),f_mul q2,c1',c2'])
      ·have big':=decide_eq_false big
       obtain ⟨x1,x2⟩:=Us.small_exact q1 (by omega)
       obtain ⟨z,z1,z2⟩:=Us.mulT s (k:=22) x2 x1 (by omega)
       refine ⟨Ieee.double.word s z,true,fun _=>⟨z,?_,rfl⟩,fun h=>?_⟩
       ·rw [show d*10 ^ k*2 ^ 1074=d*10 ^ (k - 22)*10 ^ 22*2 ^ 1074 by rw [Nat.mul_assoc d (10 ^ (k - 22)),← Nat.pow_add,show k - 22+22=k by omega]]
        exact z1
       ·refine does_pure (fn:=X274) rfl rfl rfl (mapO_cons conv_int (mapO_cons conv_int (mapO_cons conv_bool mapO_nil))) ?_
        rw [big'] at c1 c2
        have c1':(FloatKind.f64.format.order (Ieee.double.word s q) 4831355200913801216 == some .gt)=(!s && false):=c1
        have c2':(FloatKind.f64.format.order (Ieee.double.word s q) 14054727237768577024 == some .lt)=(s && false):=c2
        cases s <;> (simp (decide:=true) only [BW,X274,glob10,x_fa,fa_iptr,List.drop_zero,x_ld,L10,ld1_iptr,e52,hbig,hcv,u_negF,hng,e0,e1,e2,e3,glob15,L15_eq,w1,x_iaS,ixK (show k - 22 < 23 by omega),ldK (show k - 22 < 23 by omega),f_mul q2,c1',c2',ixK22,ldK (show 22 < 23 by omega),f_mul z2])
     ·have e3:=decide_eq_false (show ¬ (22:Int) < (k:Int) by omega)
      obtain ⟨c1,c2⟩:=Us.cmp15 s r1
      by_cases big:4831355200913801216 < r
      ·refine ⟨Ieee.double.word s r,false,fun h=>(by cases h),fun h=>?_⟩
       refine does_pure (fn:=X274) rfl rfl rfl (mapO_cons conv_int (mapO_cons conv_int (mapO_cons conv_bool mapO_nil))) ?_
       rw [decide_eq_true big] at c1 c2
       have c1':(FloatKind.f64.format.order (Ieee.double.word s r) 4831355200913801216 == some .gt)=(!s && true):=c1
       have c2':(FloatKind.f64.format.order (Ieee.double.word s r) 14054727237768577024 == some .lt)=(s && true):=c2
       cases s <;> (simp (decide:=true) only [BW,X274,glob10,x_fa,fa_iptr,List.drop_zero,x_ld,L10,ld1_iptr,e52,hbig,hcv,u_negF,hng,e0,e1,e2,e3,c1',c2'])
      ·have big':=decide_eq_false big
       obtain ⟨z,z1,z2⟩:=Us.mulT s (k:=k) r2 r1 (by omega)
       refine ⟨Ieee.double.word s z,true,fun _=>⟨z,z1,rfl⟩,fun h=>?_⟩
       refine does_pure (fn:=X274) rfl rfl rfl (mapO_cons conv_int (mapO_cons conv_int (mapO_cons conv_bool mapO_nil))) ?_
       rw [big'] at c1 c2
       have c1':(FloatKind.f64.format.order (Ieee.double.word s r) 4831355200913801216 == some .gt)=(!s && false):=c1
       have c2':(FloatKind.f64.format.order (Ieee.double.word s r) 14054727237768577024 == some .lt)=(s && false):=c2
       cases s <;> (simp (decide:=true) only [BW,X274,glob10,x_fa,fa_iptr,List.drop_zero,x_ld,L10,ld1_iptr,e52,hbig,hcv,u_negF,hng,e0,e1,e2,e3,glob15,L15_eq,x_iaS,c1',c2',ixK (show k < 23 by omega),ldK (show k < 23 by omega),f_mul z2])
    ·have e2:=decide_eq_false (show ¬ (k:Int)≤37 by omega)
     have e3:=decide_eq_false (show ¬ (k:Int) < 0 by omega)
     refine ⟨Ieee.double.word s r,false,fun h=>(by cases h),fun h=>?_⟩
     refine does_pure (fn:=X274) rfl rfl rfl (mapO_cons conv_int (mapO_cons conv_int (mapO_cons conv_bool mapO_nil))) ?_
     cases s <;> (simp (decide:=true) only [BW,X274,glob10,x_fa,fa_iptr,List.drop_zero,x_ld,L10,ld1_iptr,e52,hbig,hcv,u_negF,hng,e0,e1,e2,e3])
   ·obtain ⟨k,rfl⟩:∃ k:Nat,p=-(k:Int):=⟨(-p).toNat,by omega⟩
    have e0:=decide_eq_false p0
    have e1:=decide_eq_false pp
    have e2:=decide_eq_true (show -(k:Int) < 0 by omega)
    have w1:wrapF .i64 (0 - -(k:Int))=(k:Int):=by rw [i64_wrap (by omega) (by omega)];omega
    by_cases p22:k≤22
    ·have e3:=decide_eq_true (show -22≤-(k:Int) by omega)
     obtain ⟨z,z1,z2⟩:=Us.divT s (k:=k) hd r2 r1 (by omega)
     refine ⟨Ieee.double.word s z,true,fun _=>⟨z,?_,rfl⟩,fun h=>?_⟩
     ·unfold Us.nn Us.mm
      rw [show (-(k:Int)).toNat=0 by omega,show (- -(k:Int)).toNat=k by omega,Nat.pow_zero,Nat.mul_one]
      exact z1
     ·refine does_pure (fn:=X274) rfl rfl rfl (mapO_cons conv_int (mapO_cons conv_int (mapO_cons conv_bool mapO_nil))) ?_
      cases s <;> (simp (decide:=true) only [BW,X274,glob10,x_fa,fa_iptr,List.drop_zero,x_ld,L10,ld1_iptr,e52,hbig,hcv,u_negF,hng,e0,e1,e2,e3,glob15,L15_eq,x_iaS,u_negI,w1,ixK (show k < 23 by omega),ldK (show k < 23 by omega),f_div z2])
    ·have e3:=decide_eq_false (show ¬ -22≤-(k:Int) by omega)
     refine ⟨Ieee.double.word s r,false,fun h=>(by cases h),fun h=>?_⟩
     refine does_pure (fn:=X274) rfl rfl rfl (mapO_cons conv_int (mapO_cons conv_int (mapO_cons conv_bool mapO_nil))) ?_
     cases s <;> (simp (decide:=true) only [BW,X274,glob10,x_fa,fa_iptr,List.drop_zero,x_ld,L10,ld1_iptr,e52,hbig,hcv,u_negF,hng,e0,e1,e2,e3])
end Go.Proofs.YtmadknpaljaecaaGreatDoor.Ev.D
namespace Go.Proofs.YtmadknpaljaecaaGreatDoor.Rf
def dg (N:Nat):List Nat:=if h:N=0 then [] else N % 1000000000::dg (N / 1000000000)
termination_by N
decreasing_by omega
theorem dg_zero:dg 0=[]:=by rw [dg];rfl
theorem dg_pos {N:Nat} (h:0 < N):dg N=N % 1000000000::dg (N / 1000000000):=by
 rw [dg,dif_neg (by omega)]
theorem dg_nil {N:Nat} (h:dg N=[]):N=0:=by
 rcases Nat.eq_zero_or_pos N with h0|h0
 ·exact h0
 ·rw [dg_pos h0] at h;cases h
theorem dg_len_pos {N:Nat} (h:0 < N):0 < (dg N).length:=by rw [dg_pos h];simp
theorem dg_drop:∀ (i N:Nat),(dg N).drop i=dg (N / 1000000000 ^ i)
 |0,N=>by simp
 |i+1,N=>by
  rcases Nat.eq_zero_or_pos N with h0|h0
  ·subst h0;simp [dg_zero]
  ·rw [dg_pos h0,List.drop_succ_cons,dg_drop i,Nat.div_div_eq_div_mul,Nat.pow_succ,Nat.mul_comm (1000000000 ^ i)]
theorem dg_get (N i:Nat):(dg N).getD i 0=N / 1000000000 ^ i % 1000000000:=by
 have h:=dg_drop i N
 rcases Nat.eq_zero_or_pos (N / 1000000000 ^ i) with h0|h0
 ·rw [h0,dg_zero] at h
  have:=List.drop_eq_nil_iff.1 h
  rw [List.getD_eq_getElem?_getD,List.getElem?_eq_none this,h0];rfl
 ·rw [dg_pos h0] at h
  have:i < (dg N).length:=by
   rcases Nat.lt_or_ge i (dg N).length with hl|hl
   ·exact hl
   ·rw [List.drop_eq_nil_iff.2 hl] at h;cases h
  rw [List.drop_eq_getElem_cons this] at h
  rw [List.getD_eq_getElem?_getD,List.getElem?_eq_getElem this]
  exact (List.cons.inj h).1
theorem dg_get_lt (N i:Nat):(dg N).getD i 0 < 1000000000:=by rw [dg_get];exact Nat.mod_lt _ (by decide)
theorem dg_len_iff {N n:Nat}:(dg N).length≤n↔N < 1000000000 ^ n:=by
 have h:=dg_drop n N
 constructor
 ·intro hl
  rw [List.drop_eq_nil_iff.2 hl] at h
  have:=dg_nil h.symm
  exact (Nat.div_eq_zero_iff_lt (Nat.pow_pos (by decide))).1 this
 ·intro hl
  rw [Nat.div_eq_of_lt hl,dg_zero] at h
  exact List.drop_eq_nil_iff.1 h
theorem dg_lt_of_len {a b:Nat} (h:(dg a).length < (dg b).length):a < b:=by
 have h1:=(dg_len_iff (N:=a) (n:=(dg a).length)).1 (Nat.le_refl _)
 rcases Nat.lt_or_ge b (1000000000 ^ (dg a).length) with h2|h2
 ·have:=dg_len_iff.2 h2;omega
 ·omega
theorem dg_inj {a b:Nat} (h:dg a=dg b):a=b:=by
 induction a using Nat.strongRecOn generalizing b with
 |_ a ih=>
  rcases Nat.eq_zero_or_pos a with h0|h0
  ·subst h0;rw [dg_zero] at h;exact (dg_nil h.symm).symm
  ·rcases Nat.eq_zero_or_pos b with h1|h1
   ·subst h1;rw [dg_zero] at h;exact dg_nil h
   ·rw [dg_pos h0,dg_pos h1] at h
    have ⟨e1,e2⟩:=List.cons.inj h
    have:=ih (a / 1000000000) (by omega) e2
    omega
theorem times_step {M by_ more:Nat} (hM:0 < M) (hb:0 < by_) (out:List Nat) {R:List Nat} (h:out++dg (M*by_+more)=R):
  out++[(more+M % 1000000000*by_) % 1000000000]++dg (M / 1000000000*by_+(more+M % 1000000000*by_) / 1000000000)=R:=by
 rw [← h,List.append_assoc]
 congr 1
 have hp:0 < M*by_+more:=Nat.lt_of_lt_of_le (Nat.mul_pos hM hb) (Nat.le_add_right _ _)
 rw [dg_pos hp]
 have e:M*by_+more=1000000000*(M / 1000000000*by_)+(more+M % 1000000000*by_):=by
  conv=>lhs;rw [← Nat.div_add_mod M 1000000000]
  rw [Nat.add_mul,Nat.mul_assoc];omega
 rw [e]
 generalize M / 1000000000*by_=x
 generalize more+M % 1000000000*by_=y
 rw [Nat.mul_add_mod,Nat.mul_add_div (by decide)]
 rfl
theorem times_rest {more:Nat} (hm:0 < more) (out:List Nat) {R:List Nat} (h:out++dg more=R):out++[more % 1000000000]++dg (more / 1000000000)=R:=by
 rw [← h,List.append_assoc,dg_pos hm];rfl
def sgn (a b:Nat):Int:=if a < b then -1 else if b < a then 1 else 0
theorem sgn_len_lt {a b:Nat} (h:(dg a).length < (dg b).length):sgn a b=-1:=by
 unfold sgn;rw [if_pos (dg_lt_of_len h)]
theorem sgn_len_gt {a b:Nat} (h:(dg b).length < (dg a).length):sgn a b=1:=by
 have:=dg_lt_of_len h
 unfold sgn;rw [if_neg (by omega),if_pos this]
theorem cmp_lt {a b i:Nat} (h:a / 1000000000 ^ (i+1)=b / 1000000000 ^ (i+1)) (hl:(dg a).getD i 0 < (dg b).getD i 0):a < b:=by
 rw [dg_get,dg_get] at hl
 rw [Nat.pow_succ,← Nat.div_div_eq_div_mul,← Nat.div_div_eq_div_mul] at h
 have:a / 1000000000 ^ i < b / 1000000000 ^ i:=by omega
 rcases Nat.lt_or_ge a b with h1|h1
 ·exact h1
 ·have:=Nat.div_le_div_right (c:=1000000000 ^ i) h1;omega
theorem cmp_eq {a b i:Nat} (h:a / 1000000000 ^ (i+1)=b / 1000000000 ^ (i+1)) (hl:(dg a).getD i 0=(dg b).getD i 0):a / 1000000000 ^ i=b / 1000000000 ^ i:=by
 rw [dg_get,dg_get] at hl
 rw [Nat.pow_succ,← Nat.div_div_eq_div_mul,← Nat.div_div_eq_div_mul] at h
 omega
def dval:List UInt8→Nat→Nat
 |[],v=>v
 |c::r,v=>dval r (v*10+(c.toNat - 48))
def isD (c:UInt8):Bool:=decide (48≤c.toNat) && decide (c.toNat≤57)
theorem dval_append (a b:List UInt8) (v:Nat):dval (a++b) v=dval b (dval a v):=by
 induction a generalizing v with
 |nil=>rfl
 |cons c r ih=>exact ih _
theorem dval_acc:∀ (l:List UInt8) (v:Nat),dval l v=v*10 ^ l.length+dval l 0
 |[],v=>by simp [dval]
 |c::r,v=>by
  simp only [dval,List.length_cons]
  rw [dval_acc r (v*10+(c.toNat - 48)),dval_acc r (0*10+(c.toNat - 48)),Nat.pow_succ,Nat.add_mul,Nat.add_mul]
  have:v*10*10 ^ r.length=v*(10 ^ r.length*10):=by rw [Nat.mul_assoc,Nat.mul_comm 10]
  omega
theorem dval_lt:∀ (l:List UInt8),l.all isD=true→dval l 0 < 10 ^ l.length
 |[],_=>by simp [dval]
 |c::r,h=>by
  simp only [List.all_cons,Bool.and_eq_true] at h
  have ih:=dval_lt r h.2
  simp only [dval,List.length_cons]
  rw [dval_acc,Nat.pow_succ]
  have hc:c.toNat - 48≤9:=by
   have:=h.1
   simp only [isD,Bool.and_eq_true,decide_eq_true_eq] at this;omega
  have:(0*10+(c.toNat - 48))*10 ^ r.length≤9*10 ^ r.length:=Nat.mul_le_mul_right _ (by omega)
  omega
def dec (n:Nat):List UInt8:=if h:n=0 then [] else dec (n / 10)++[UInt8.ofNat (48+n % 10)]
termination_by n
decreasing_by omega
theorem dec_zero:dec 0=[]:=by rw [dec];rfl
theorem dec_pos {n:Nat} (h:0 < n):dec n=dec (n / 10)++[UInt8.ofNat (48+n % 10)]:=by rw [dec,dif_neg (by omega)]
theorem digit_toNat (n:Nat):(UInt8.ofNat (48+n % 10)).toNat=48+n % 10:=by
 rw [UInt8.toNat_ofNat',Nat.mod_eq_of_lt (by have:=Nat.mod_lt n (show 10 > 0 by decide);omega)]
theorem dval_dec (n:Nat):dval (dec n) 0=n:=by
 induction n using Nat.strongRecOn with
 |_ n ih=>
  rcases Nat.eq_zero_or_pos n with h|h
  ·subst h;rw [dec_zero];rfl
  ·rw [dec_pos h,dval_append,ih _ (by omega)]
   simp only [dval,digit_toNat]
   omega
theorem dec_isD (n:Nat):(dec n).all isD=true:=by
 induction n using Nat.strongRecOn with
 |_ n ih=>
  rcases Nat.eq_zero_or_pos n with h|h
  ·subst h;rw [dec_zero];rfl
  ·rw [dec_pos h,List.all_append,ih _ (by omega)]
   simp only [List.all_cons,List.all_nil,isD,digit_toNat,Bool.and_true,Bool.true_and,Bool.and_eq_true,decide_eq_true_eq]
   have:=Nat.mod_lt n (show 10 > 0 by decide);omega
theorem dec_len_iff {n k:Nat}:(dec n).length≤k↔n < 10 ^ k:=by
 induction n using Nat.strongRecOn generalizing k with
 |_ n ih=>
  rcases Nat.eq_zero_or_pos n with h|h
  ·subst h;rw [dec_zero];simp [Nat.pow_pos]
  ·rw [dec_pos h,List.length_append]
   simp only [List.length_singleton]
   cases k with
   |zero=>simp;omega
   |succ k=>
    rw [Nat.add_le_add_iff_right,ih _ (by omega),Nat.pow_succ]
    constructor <;> intro h <;> omega
end Go.Proofs.YtmadknpaljaecaaGreatDoor.Rf
namespace Go.Proofs.YtmadknpaljaecaaGreatDoor.Rf
structure St where
 dot:Bool
 saw:Bool
 nd:Nat
 nm:Nat
 dp:Int
 m:Nat
 tr:Bool
def st0:St:=⟨false,false,0,0,0,0,false⟩
def stp (s:St) (c:UInt8):St:=
 if c=46 then { s with dot:=true,dp:=s.nd } else
 if c=48∧s.nd=0 then { s with saw:=true,dp:=s.dp - 1 } else
 if s.nm < 19 then { s with saw:=true,nd:=s.nd+1,nm:=s.nm+1,m:=s.m*10+(c.toNat - 48) } else
 { s with saw:=true,nd:=s.nd+1,tr:=s.tr || decide (c≠48) }
def fin (s:St):List UInt8→St
 |[]=>s
 |c::r=>fin (stp s c) r
def okM:Bool→List UInt8→Bool
 |_,[]=>true
 |d,c::r=>(if c=46 then !d && okM true r else isD c && okM d r)
theorem okM_digits:∀ (l:List UInt8) (d:Bool),l.all isD=true→okM d l=true
 |[],_,_=>rfl
 |c::r,d,h=>by
  simp only [List.all_cons,Bool.and_eq_true] at h
  have:c≠46:=by rintro rfl;exact absurd h.1 (by decide)
  rw [okM,if_neg this,h.1,okM_digits r d h.2];rfl
theorem okM_point:∀ (w p:List UInt8),w.all isD=true→p.all isD=true→okM false (w++46::p)=true
 |[],p,_,hp=>by
  rw [List.nil_append,okM,if_pos rfl,okM_digits p true hp];rfl
 |c::r,p,h,hp=>by
  simp only [List.all_cons,Bool.and_eq_true] at h
  have:c≠46:=by rintro rfl;exact absurd h.1 (by decide)
  rw [List.cons_append,okM,if_neg this,h.1,okM_point r p h.2 hp];rfl
structure Ok (s:St) (D n:Nat):Prop where
 lt:D < 10 ^ s.nd
 ge:0 < s.nd→10 ^ (s.nd - 1)≤D
 nm:s.nm=min s.nd 19
 ex:∃ r,D=s.m*10 ^ (s.nd - s.nm)+r∧r < 10 ^ (s.nd - s.nm)∧(s.tr=true↔r≠0)
 dp:s.dot=true→(s.nd:Int) - s.dp=n
 n0:s.dot=false→n=0
theorem ok0:Ok st0 0 0:=⟨by decide,fun h=>absurd h (by decide),rfl,⟨0,rfl,by decide,by decide⟩,fun h=>(by cases h),fun _=>rfl⟩
theorem ok_point {s:St} {D:Nat} (h:Ok s D 0):Ok (stp s 46) D 0:=by
 unfold stp
 rw [if_pos rfl]
 exact ⟨h.lt,h.ge,h.nm,h.ex,fun _=>(by simp),fun h=>(by cases h)⟩
theorem ok_digit {s:St} {D n:Nat} {c:UInt8} (h:Ok s D n) (hc:isD c=true):Ok (stp s c) (D*10+(c.toNat - 48)) (if s.dot then n+1 else 0):=by
 have hd:48≤c.toNat∧c.toNat≤57:=by simpa [isD] using hc
 have h46:c≠46:=by rintro rfl;exact absurd hd.1 (by decide)
 have hpos:s.dot=true→(s.nd:Int) - s.dp=n:=h.dp
 unfold stp
 rw [if_neg h46]
 by_cases hz:c=48∧s.nd=0
 ·rw [if_pos hz]
  obtain ⟨rfl,hn⟩:=hz
  have hD:D=0:=by have:=h.lt;rw [hn] at this;simpa using this
  subst hD
  refine ⟨by rw [hn];decide,fun hp=>absurd hp (by simp [hn]),h.nm,?_,fun hdot=>?_,fun hdot=>?_⟩
  ·exact h.ex
  ·have hdot':s.dot=true:=hdot
   rw [hdot',if_pos rfl]
   have:=hpos hdot'
   show (s.nd:Int) - (s.dp - 1)=((n+1:Nat):Int)
   omega
  ·have hdot':s.dot=false:=hdot
   rw [hdot'];rfl
 ·rw [if_neg hz]
  have e9:c.toNat - 48≤9:=by omega
  have hge:10 ^ s.nd≤D*10+(c.toNat - 48):=by
   rcases Nat.eq_zero_or_pos s.nd with h0|h0
   ·rw [h0,Nat.pow_zero]
    have:c≠48:=fun e=>hz ⟨e,h0⟩
    have:c.toNat≠48:=fun e=>this (UInt8.toNat_inj.1 e)
    omega
   ·have:=h.ge h0
    have e:10 ^ s.nd=10 ^ (s.nd - 1)*10:=by rw [← Nat.pow_succ];congr 1;omega
    omega
  have hlt:D*10+(c.toNat - 48) < 10 ^ (s.nd+1):=by
   have:=h.lt
   rw [Nat.pow_succ];omega
  have hdp:∀ dot:Bool,s.dot=dot→dot=true→((s.nd+1:Nat):Int) - s.dp=((if s.dot then n+1 else 0:Nat):Int):=fun dot h1 h2=>by
   rw [h1,h2,if_pos rfl]
   have:=hpos (h1.trans h2)
   omega
  have hn0:s.dot=false→(if s.dot then n+1 else 0)=0:=fun hdot=>by rw [hdot];rfl
  obtain ⟨r,x1,x2,x3⟩:=h.ex
  by_cases hm:s.nm < 19
  ·rw [if_pos hm]
   have hnd:s.nd < 19:=by have:=h.nm;omega
   have hnm:s.nm=s.nd:=by have:=h.nm;omega
   have h0:s.nd - s.nm=0:=by omega
   rw [h0] at x1 x2
   have hr:r=0:=by simpa using x2
   subst hr
   refine ⟨hlt,fun _=>hge,?_,⟨0,?_,Nat.pow_pos (by decide),by simpa using x3⟩,hdp _ rfl,hn0⟩
   ·show s.nm+1=min (s.nd+1) 19
    omega
   ·show D*10+(c.toNat - 48)=(s.m*10+(c.toNat - 48))*10 ^ (s.nd+1 - (s.nm+1))+0
    rw [show s.nd+1 - (s.nm+1)=0 by omega,x1];simp
  ·rw [if_neg hm]
   have hnm:s.nm=19:=by have:=h.nm;omega
   have hnd:19≤s.nd:=by have:=h.nm;omega
   have hsub:s.nd+1 - s.nm=s.nd - s.nm+1:=by omega
   refine ⟨hlt,fun _=>hge,?_,⟨r*10+(c.toNat - 48),?_,?_,?_⟩,hdp _ rfl,hn0⟩
   ·show s.nm=min (s.nd+1) 19
    omega
   ·show D*10+(c.toNat - 48)=s.m*10 ^ (s.nd+1 - s.nm)+(r*10+(c.toNat - 48))
    rw [hsub,Nat.pow_succ,x1,Nat.add_mul,Nat.mul_assoc];omega
   ·show r*10+(c.toNat - 48) < 10 ^ (s.nd+1 - s.nm)
    rw [hsub,Nat.pow_succ];omega
   ·show (s.tr || decide (c≠48))=true↔r*10+(c.toNat - 48)≠0
    have h48:c≠48↔c.toNat≠48:=by
     constructor
     ·exact fun h1 h2=>h1 (UInt8.toNat_inj.1 h2)
     ·rintro h1 rfl;exact h1 rfl
    rw [Bool.or_eq_true,decide_eq_true_eq,x3,h48]
    omega
theorem stp_saw {s:St} {c:UInt8} (hc:c≠46):(stp s c).saw=true:=by
 unfold stp;rw [if_neg hc]
 split
 ·rfl
 ·split <;> rfl
theorem fin_digits:∀ (l:List UInt8) (s:St) (D n:Nat),l.all isD=true→Ok s D n→Ok (fin s l) (dval l D) (if s.dot then n+l.length else 0)∧(fin s l).dot=s.dot∧(l≠[]∨s.saw=true→(fin s l).saw=true)
 |[],s,D,n,_,h=>by
  refine ⟨?_,rfl,fun h=>h.elim (fun h=>absurd rfl h) id⟩
  have:(if s.dot then n+0 else 0)=n:=by
   cases hd:s.dot with
   |true=>rfl
   |false=>rw [h.n0 hd];rfl
  show Ok s D _
  rw [List.length_nil,this];exact h
 |c::r,s,D,n,hl,h=>by
  simp only [List.all_cons,Bool.and_eq_true] at hl
  have h46:c≠46:=by rintro rfl;exact absurd hl.1 (by decide)
  have hdot:(stp s c).dot=s.dot:=by
   unfold stp;rw [if_neg h46]
   split
   ·rfl
   ·split <;> rfl
  obtain ⟨i1,i2,i3⟩:=fin_digits r (stp s c) _ _ hl.2 (ok_digit h hl.1)
  refine ⟨?_,i2.trans hdot,fun _=>i3 (.inr (stp_saw h46))⟩
  rw [hdot] at i1
  have:(if s.dot then (if s.dot then n+1 else 0)+r.length else 0)=(if s.dot then n+(c::r).length else 0):=by
   cases s.dot <;> simp
   omega
  rw [this] at i1
  exact i1
theorem fin_point (w p:List UInt8) (hw:w.all isD=true) (hp:p.all isD=true):Ok (fin st0 (w++46::p)) (dval (w++p) 0) p.length∧(fin st0 (w++46::p)).dot=true∧(w≠[]∨p≠[]→(fin st0 (w++46::p)).saw=true):=by
 have app:∀ (a b:List UInt8) (s:St),fin s (a++b)=fin (fin s a) b:=fun a=>by
  induction a with
  |nil=>exact fun _ _=>rfl
  |cons c r ih=>exact fun b s=>ih b _
 obtain ⟨a1,a2,a3⟩:=fin_digits w st0 0 0 hw ok0
 rw [show (if st0.dot then 0+w.length else 0)=0 from rfl] at a1
 have b:=ok_point a1
 have hd:(stp (fin st0 w) 46).dot=true:=by unfold stp;rw [if_pos rfl]
 have hs:(stp (fin st0 w) 46).saw=(fin st0 w).saw:=by unfold stp;rw [if_pos rfl]
 obtain ⟨c1,c2,c3⟩:=fin_digits p (stp (fin st0 w) 46) _ _ hp b
 rw [hd,if_pos rfl,Nat.zero_add] at c1
 rw [app,dval_append]
 refine ⟨c1,c2.trans hd,fun h=>c3 ?_⟩
 rcases h with h|h
 ·exact .inr (hs.trans (a3 (.inl h)))
 ·exact .inl h
theorem fin_whole (w:List UInt8) (hw:w.all isD=true):Ok (fin st0 w) (dval w 0) 0∧(fin st0 w).dot=false∧(w≠[]→(fin st0 w).saw=true):=by
 obtain ⟨a1,a2,a3⟩:=fin_digits w st0 0 0 hw ok0
 exact ⟨a1,a2,fun h=>a3 (.inl h)⟩
def exv:List UInt8→Nat→Nat
 |[],e=>e
 |c::r,e=>exv r (if e < 10000 then e*10+(c.toNat - 48) else e)
theorem exv_small:∀ (l:List UInt8) (e:Nat),l.all isD=true→dval l e < 10000→exv l e=dval l e
 |[],e,_,_=>rfl
 |c::r,e,h,hl=>by
  simp only [List.all_cons,Bool.and_eq_true] at h
  have:e < 10000:=by
   simp only [dval] at hl
   rw [dval_acc] at hl
   have:0 < 10 ^ r.length:=Nat.pow_pos (by decide)
   have:(e*10+(c.toNat - 48))*1≤(e*10+(c.toNat - 48))*10 ^ r.length:=Nat.mul_le_mul_left _ this
   omega
  rw [exv,if_pos this]
  exact exv_small r _ h.2 hl
theorem exv_le:∀ (l:List UInt8) (e:Nat),l.all isD=true→e≤100000→exv l e≤100000
 |[],e,_,h=>h
 |c::r,e,h,he=>by
  simp only [List.all_cons,Bool.and_eq_true] at h
  have hd:48≤c.toNat∧c.toNat≤57:=by simpa [isD] using h.1
  rw [exv]
  refine exv_le r _ h.2 ?_
  split <;> omega
end Go.Proofs.YtmadknpaljaecaaGreatDoor.Rf
namespace Go.Proofs.YtmadknpaljaecaaGreatDoor.Ev.D
open Go Go.Proofs.YtmadknpaljaecaaGreatDoor.Ev
set_option maxRecDepth 100000
theorem or8 {c:Nat} (hc:c < 256):orF .u8 (c:Int) 32=((c ||| 32:Nat):Int):=by
 revert hc;revert c;decide+kernel
theorem s242 {c:Nat} (hc:c < 256) (h:Heap):Does C 242 [.int .u8 (c:Int)] h (.int .u8 ((c ||| 32:Nat):Int)) h:=by
 refine does_pure (fn:=X242) rfl rfl rfl (mapO_cons conv_int mapO_nil) ?_
 simp (decide:=true) only [BW,X242,or8 hc]
def B264:XCode:=match X264.body with|.seq _ (.scope c)=>c|c=>c
def T264:XCode:=seqT 13 B264
def L264:XCode:=loopB (blkB (seqH T264))
def E264:XCode:=condA (seqT 1 (seqH (seqT 4 T264)))
def M264:XCode:=loopB (blkB (seqH (seqT 6 E264)))
theorem B264_ok:(match T264 with|.seq (.block 1 (.loop _)) _=>true|_=>false)=true:=rfl
theorem E264_ok:(match seqT 6 E264 with|.seq (.block 5 (.loop _)) _=>true|_=>false)=true:=rfl
end Go.Proofs.YtmadknpaljaecaaGreatDoor.Ev.D
namespace Go.Proofs.YtmadknpaljaecaaGreatDoor.Ev.D
open Go Go.Proofs.YtmadknpaljaecaaGreatDoor.Ev
set_option maxRecDepth 100000
def S264 (l:List UInt8) (neg:Bool) (st:Rf.St) (i:Nat) (env:T AV) (h:Heap):Prop:=
 (i≤l.length∧st.m < 10 ^ st.nm∧st.nm≤19∧st.nd≤i∧-(i:Int)≤st.dp∧st.dp≤i)∧
 env.at 0=.str (BStr.ofBytes l)∧env.at 2=.int .u64 (st.m:Int)∧env.at 3=.int .i64 0∧env.at 4=.bool neg∧env.at 5=.bool st.tr∧env.at 6=.bool false∧env.at 7=.int .i64 (i:Int)∧
 env.at 8=.bool false∧env.at 9=.bool false∧env.at 10=.int .u64 10∧env.at 11=.int .i64 19∧env.at 12=.int .u8 101∧env.at 13=.bool st.dot∧env.at 14=.bool st.saw∧env.at 15=.int .i64 (st.nd:Int)∧
 env.at 16=.int .i64 (st.nm:Int)∧env.at 17=.int .i64 st.dp∧h=.empty
def I264 (l post:List UInt8) (neg:Bool) (F:Rf.St) (n:Nat) (env:T AV) (h:Heap):Prop:=
 ∃ st rest i,l.drop i=rest++post∧Rf.fin st rest=F∧Rf.okM st.dot rest=true∧rest.length=n∧S264 l neg st i env h
def J264 (l post:List UInt8) (neg:Bool) (F:Rf.St) (env:T AV) (h:Heap):Prop:=
 ∃ i,l.drop i=post∧S264 l neg F i env h
theorem isD_iff {c:UInt8}:Rf.isD c=true↔48≤c.toNat∧c.toNat≤57:=by simp [Rf.isD]
theorem m_lt {m k:Nat} (h:m < 10 ^ k) (hk:k < 19):m*10+9 < 18446744073709551616∧m*10+9 < 10 ^ (k+1):=by
 have e:10 ^ (k+1)=10 ^ k*10:=Nat.pow_succ ..
 have:10 ^ (k+1)≤10 ^ 19:=Nat.pow_le_pow_right (by decide) (by omega)
 have:(10:Nat) ^ 19=10000000000000000000:=rfl
 omega
theorem body264 {l post:List UInt8} {neg:Bool} {F:Rf.St} {Q:PostC} (hl:l.length≤1000000) (hp:post=[]∨∃ r,post=101::r) (n:Nat) (env:T AV) (h:Heap) (hI:I264 l post neg F n env h):
  GoP C [.c (match L264 with|c=>c)] env h (LpQ 1 (I264 l post neg F) n (J264 l post neg F) Q):=by
 obtain ⟨st,rest,i,hd,hf,hk,hn,S⟩:=hI
 obtain ⟨⟨i0,m0,m1,d0,d1,d2⟩,a0,a2,a3,a4,a5,a6,a7,a8,a9,a10,a11,a12,a13,a14,a15,a16,a17,rfl⟩:=S
 have wi:wrapF .i64 ((i:Int)+1)=((i+1:Nat):Int):=by rw [i64_wrap (by omega) (by omega)];rfl
 cases rest with
 |nil=>
  have hF:st=F:=hf
  subst hF
  rcases hp with rfl|⟨r,rfl⟩
  ·have hil:=drop_nil hd
   simp only [L264,T264,B264,X264,seqT,seqH,blkB,loopB]
   simp (decide:=true) only [BW,a0,a7,x_lenS,lenS_of,decide_eq_false (show ¬ (i:Int) < (l.length:Int) by omega),lpQ_exit]
   refine ⟨i,hd,?_⟩
   simp (decide:=true) only [BW,S264,a0,a2,a3,a4,a5,a6,a7,a8,a9,a10,a11,a12,a13,a14,a15,a16,a17]
   exact ⟨i0,m0,m1,d0,d1,d2⟩
  ·obtain ⟨hil,hc,hd'⟩:=drop_cons hd
   simp only [L264,T264,B264,X264,seqT,seqH,blkB,loopB]
   simp (decide:=true) only [BW,a0,a7,a10,a13,x_lenS,lenS_of,decide_eq_true (show (i:Int) < (l.length:Int) by omega),x_ixS,ixS_drop hd,show (101:UInt8).toNat=101 from rfl,show ((101:Nat):Int)=101 from rfl,true_beq,lpQ_exit]
   refine ⟨i,hd,?_⟩
   simp (decide:=true) only [BW,S264,a0,a2,a3,a4,a5,a6,a7,a8,a9,a10,a11,a12,a13,a14,a15,a16,a17]
   exact ⟨i0,m0,m1,d0,d1,d2⟩
 |cons c r=>
  obtain ⟨hil,hc,hd'⟩:=drop_cons hd
  have hlt:=decide_eq_true (show (i:Int) < (l.length:Int) by omega)
  by_cases c46:c=46
  ·subst c46
   rw [Rf.okM,if_pos rfl,Bool.and_eq_true,Bool.not_eq_true'] at hk
   rw [hk.1] at a13
   simp only [L264,T264,B264,X264,seqT,seqH,blkB,loopB]
   simp (decide:=true) only [BW,a0,a7,a10,a13,a15,x_lenS,lenS_of,hlt,x_ixS,ixS_drop hd,show (46:UInt8).toNat=46 from rfl,show ((46:Nat):Int)=46 from rfl,true_beq,lpQ_nrm,wi]
   refine ⟨r.length,by rw [← hn];exact Nat.lt_succ_self _,Rf.stp st 46,r,i+1,hd',hf,?_,rfl,?_⟩
   ·unfold Rf.stp;rw [if_pos rfl];exact hk.2
   ·unfold Rf.stp;rw [if_pos rfl]
    simp (decide:=true) only [BW,S264,a0,a2,a3,a4,a5,a6,a7,a8,a9,a10,a11,a12,a13,a14,a15,a16,a17]
    exact ⟨by omega,m0,m1,by omega,by omega,by omega⟩
  ·rw [Rf.okM,if_neg c46,Bool.and_eq_true] at hk
   obtain ⟨k1,k2⟩:=isD_iff.1 hk.1
   have n46:c.toNat≠46:=by omega
   have e95:=decide_eq_false (show ¬ ((c.toNat:Nat):Int)=95 by omega)
   have e46:=decide_eq_false (show ¬ ((c.toNat:Nat):Int)=46 by omega)
   have e48:=decide_eq_true (show (48:Int)≤((c.toNat:Nat):Int) by omega)
   have e57:=decide_eq_true (show ((c.toNat:Nat):Int)≤57 by omega)
   have hz:c=48↔c.toNat=48:=⟨fun h=>by rw [h];rfl,fun h=>UInt8.toNat_inj.1 h⟩
   by_cases z:c=48∧st.nd=0
   ·have ez:=decide_eq_true (show ((c.toNat:Nat):Int)=48 by have:=hz.1 z.1;omega)
    have en:=decide_eq_true (show (st.nd:Int)=0 by omega)
    have hs:Rf.stp st c={ st with saw:=true,dp:=st.dp - 1 }:=by unfold Rf.stp;rw [if_neg c46,if_pos z]
    have w1:wrapF .i64 (st.dp - 1)=st.dp - 1:=i64_wrap (by omega) (by omega)
    simp only [L264,T264,B264,X264,seqT,seqH,blkB,loopB]
    simp (decide:=true) only [BW,a0,a7,a10,a13,a15,a17,x_lenS,lenS_of,hlt,x_ixS,ixS_drop hd,true_beq,lpQ_nrm,wi,e95,e46,e48,e57,ez,en,w1]
    refine ⟨r.length,by rw [← hn];exact Nat.lt_succ_self _,Rf.stp st c,r,i+1,hd',hf,by rw [hs];exact hk.2,rfl,?_⟩
    rw [hs]
    simp (decide:=true) only [BW,S264,a0,a2,a3,a4,a5,a6,a7,a8,a9,a10,a11,a12,a13,a14,a15,a16,a17]
    exact ⟨by omega,m0,m1,by omega,by omega,by omega⟩
   ·have ez:(decide (((c.toNat:Nat):Int)=48)=true∧decide ((st.nd:Int)=0)=false)∨decide (((c.toNat:Nat):Int)=48)=false:=by
     by_cases h1:c=48
     ·exact .inl ⟨decide_eq_true (by have:=hz.1 h1;omega),decide_eq_false (fun h=>z ⟨h1,by omega⟩)⟩
     ·exact .inr (decide_eq_false fun h=>h1 (hz.2 (by omega)))
    have w1:wrapF .i64 ((st.nd:Int)+1)=((st.nd+1:Nat):Int):=by rw [i64_wrap (by omega) (by omega)];rfl
    have w2:wrapF .i64 ((st.nm:Int)+1)=((st.nm+1:Nat):Int):=by rw [i64_wrap (by omega) (by omega)];rfl
    by_cases hm:st.nm < 19
    ·obtain ⟨b1,b2⟩:=m_lt m0 hm
     have em:=decide_eq_true (show (st.nm:Int) < 19 by omega)
     have w3:wrapF .u64 ((st.m:Int)*10)=((st.m*10:Nat):Int):=u64_wrap (n:=st.m*10) (by omega)
     have w4:wrapF .u8 (((c.toNat:Nat):Int) - 48)=((c.toNat - 48:Nat):Int):=by
      rw [show ((c.toNat:Nat):Int) - 48=((c.toNat - 48:Nat):Int) by omega,wrap8 (by omega)]
     have w5:wrapF .u64 ((c.toNat - 48:Nat):Int)=((c.toNat - 48:Nat):Int):=u64_wrap (by omega)
     have w6:wrapF .u64 (((st.m*10:Nat):Int)+((c.toNat - 48:Nat):Int))=((st.m*10+(c.toNat - 48):Nat):Int):=u64_wrap (n:=st.m*10+(c.toNat - 48)) (by omega)
     have hs:Rf.stp st c={ st with saw:=true,nd:=st.nd+1,nm:=st.nm+1,m:=st.m*10+(c.toNat - 48) }:=by unfold Rf.stp;rw [if_neg c46,if_neg z,if_pos hm]
     simp only [L264,T264,B264,X264,seqT,seqH,blkB,loopB]
     rcases ez with ⟨ez,en⟩|ez
     all_goals
      first
      |simp (decide:=true) only [BW,a0,a2,a7,a10,a11,a13,a15,a16,a17,x_lenS,lenS_of,hlt,x_ixS,ixS_drop hd,true_beq,lpQ_nrm,wi,e95,e46,e48,e57,ez,en,w1,w2,em,w3,w4,w5,w6]
      |simp (decide:=true) only [BW,a0,a2,a7,a10,a11,a13,a15,a16,a17,x_lenS,lenS_of,hlt,x_ixS,ixS_drop hd,true_beq,lpQ_nrm,wi,e95,e46,e48,e57,ez,w1,w2,em,w3,w4,w5,w6]
      refine ⟨r.length,by rw [← hn];exact Nat.lt_succ_self _,Rf.stp st c,r,i+1,hd',hf,by rw [hs];exact hk.2,rfl,?_⟩
      rw [hs]
      simp (decide:=true) only [BW,S264,a0,a2,a3,a4,a5,a6,a7,a8,a9,a10,a11,a12,a13,a14,a15,a16,a17]
      exact ⟨by omega,by omega,by omega,by omega,by omega,by omega⟩
    ·have em:=decide_eq_false (show ¬ (st.nm:Int) < 19 by omega)
     have hs:Rf.stp st c={ st with saw:=true,nd:=st.nd+1,tr:=st.tr || decide (c≠48) }:=by unfold Rf.stp;rw [if_neg c46,if_neg z,if_neg hm]
     simp only [L264,T264,B264,X264,seqT,seqH,blkB,loopB]
     rcases ez with ⟨ez,en⟩|ez
     ·have h48:c=48:=hz.2 (by have:=of_decide_eq_true ez;omega)
      simp (decide:=true) only [BW,a0,a2,a7,a10,a11,a13,a15,a16,a17,x_lenS,lenS_of,hlt,x_ixS,ixS_drop hd,true_beq,lpQ_nrm,wi,e95,e46,e48,e57,ez,en,w1,w2,em,decide_eq_false (show ¬ ((c.toNat:Nat):Int)≠48 by have:=of_decide_eq_true ez;omega)]
      refine ⟨r.length,by rw [← hn];exact Nat.lt_succ_self _,Rf.stp st c,r,i+1,hd',hf,by rw [hs];exact hk.2,rfl,?_⟩
      rw [hs,decide_eq_false (show ¬ c≠48 from fun h=>h h48),Bool.or_false]
      simp (decide:=true) only [BW,S264,a0,a2,a3,a4,a5,a6,a7,a8,a9,a10,a11,a12,a13,a14,a15,a16,a17]
      exact ⟨by omega,by omega,by omega,by omega,by omega,by omega⟩
     ·have h48:c≠48:=fun h=>(of_decide_eq_false ez) (by have:=hz.1 h;omega)
      simp (decide:=true) only [BW,a0,a2,a7,a10,a11,a13,a15,a16,a17,x_lenS,lenS_of,hlt,x_ixS,ixS_drop hd,true_beq,lpQ_nrm,wi,e95,e46,e48,e57,ez,w1,w2,em,decide_eq_true (show ((c.toNat:Nat):Int)≠48 by have:=of_decide_eq_false ez;omega)]
      refine ⟨r.length,by rw [← hn];exact Nat.lt_succ_self _,Rf.stp st c,r,i+1,hd',hf,by rw [hs];exact hk.2,rfl,?_⟩
      rw [hs,decide_eq_true h48,Bool.or_true]
      simp (decide:=true) only [BW,S264,a0,a2,a3,a4,a5,a6,a7,a8,a9,a10,a11,a12,a13,a14,a15,a16,a17]
      exact ⟨by omega,by omega,by omega,by omega,by omega,by omega⟩
end Go.Proofs.YtmadknpaljaecaaGreatDoor.Ev.D
namespace Go.Proofs.YtmadknpaljaecaaGreatDoor.Ev.D
open Go Go.Proofs.YtmadknpaljaecaaGreatDoor.Ev
set_option maxRecDepth 100000
def S264e (l:List UInt8) (neg:Bool) (F:Rf.St) (dp sg:Int) (e i:Nat) (env:T AV) (h:Heap):Prop:=
 (i≤l.length∧e≤100000)∧
 env.at 0=.str (BStr.ofBytes l)∧env.at 2=.int .u64 (F.m:Int)∧env.at 3=.int .i64 0∧env.at 4=.bool neg∧env.at 5=.bool F.tr∧env.at 6=.bool false∧env.at 7=.int .i64 (i:Int)∧
 env.at 8=.bool false∧env.at 9=.bool false∧env.at 10=.int .u64 10∧env.at 16=.int .i64 (F.nm:Int)∧env.at 17=.int .i64 dp∧env.at 19=.int .i64 sg∧env.at 20=.int .i64 (e:Int)∧h=.empty
def I264e (l:List UInt8) (neg:Bool) (F:Rf.St) (dp sg:Int) (E n:Nat) (env:T AV) (h:Heap):Prop:=
 ∃ e rest i,l.drop i=rest∧rest.all Rf.isD=true∧Rf.exv rest e=E∧rest.length=n∧S264e l neg F dp sg e i env h
def J264e (l:List UInt8) (neg:Bool) (F:Rf.St) (dp sg:Int) (E:Nat) (env:T AV) (h:Heap):Prop:=
 ∃ i,i=l.length∧S264e l neg F dp sg E i env h
theorem body264e {l:List UInt8} {neg:Bool} {F:Rf.St} {dp sg:Int} {E:Nat} {Q:PostC} (hl:l.length≤1000000) (n:Nat) (env:T AV) (h:Heap) (hI:I264e l neg F dp sg E n env h):
  GoP C [.c (match M264 with|c=>c)] env h (LpQ 5 (I264e l neg F dp sg E) n (J264e l neg F dp sg E) Q):=by
 obtain ⟨e,rest,i,hd,hk,hf,hn,⟨i0,e0⟩,a0,a2,a3,a4,a5,a6,a7,a8,a9,a10,a16,a17,a19,a20,rfl⟩:=hI
 have wi:wrapF .i64 ((i:Int)+1)=((i+1:Nat):Int):=by rw [i64_wrap (by omega) (by omega)];rfl
 cases rest with
 |nil=>
  have hF:e=E:=hf
  subst hF
  have hil:=drop_nil hd
  simp only [M264,E264,T264,B264,X264,seqT,seqH,blkB,loopB,condA]
  simp (decide:=true) only [BW,a0,a7,x_lenS,lenS_of,decide_eq_false (show ¬ (i:Int) < (l.length:Int) by omega),lpQ_exit]
  refine ⟨i,by omega,?_⟩
  simp (decide:=true) only [BW,S264e,a0,a2,a3,a4,a5,a6,a7,a8,a9,a10,a16,a17,a19,a20]
  exact ⟨i0,e0⟩
 |cons c r=>
  obtain ⟨hil,hc,hd'⟩:=drop_cons hd
  have hlt:=decide_eq_true (show (i:Int) < (l.length:Int) by omega)
  simp only [List.all_cons,Bool.and_eq_true] at hk
  obtain ⟨k1,k2⟩:=isD_iff.1 hk.1
  have e95:=decide_eq_false (show ¬ ((c.toNat:Nat):Int)=95 by omega)
  have e48:=decide_eq_true (show (48:Int)≤((c.toNat:Nat):Int) by omega)
  have e57:=decide_eq_true (show ((c.toNat:Nat):Int)≤57 by omega)
  simp only [M264,E264,T264,B264,X264,seqT,seqH,blkB,loopB,condA]
  by_cases he:e < 10000
  ·have w1:wrapF .i64 ((e:Int)*10)=((e*10:Nat):Int):=by rw [i64_wrap (by omega) (by omega)];rfl
   have w2:wrapF .i64 ((c.toNat:Nat):Int)=((c.toNat:Nat):Int):=i64_wrap (by omega) (by omega)
   have w3:wrapF .i64 (((e*10:Nat):Int)+((c.toNat:Nat):Int))=((e*10+c.toNat:Nat):Int):=by rw [i64_wrap (by omega) (by omega)];rfl
   have w4:wrapF .i64 (((e*10+c.toNat:Nat):Int) - 48)=((e*10+(c.toNat - 48):Nat):Int):=by rw [i64_wrap (by omega) (by omega)];omega
   simp (decide:=true) only [BW,a0,a7,a20,x_lenS,lenS_of,hlt,x_ixS,ixS_drop hd,e95,e48,e57,lpQ_nrm,wi,decide_eq_true (show (e:Int) < 10000 by omega),w1,w2,w3,w4]
   refine ⟨r.length,by rw [← hn];exact Nat.lt_succ_self _,e*10+(c.toNat - 48),r,i+1,hd',hk.2,?_,rfl,?_⟩
   ·rw [← hf,Rf.exv,if_pos he]
   ·simp (decide:=true) only [BW,S264e,a0,a2,a3,a4,a5,a6,a7,a8,a9,a10,a16,a17,a19,a20]
    exact ⟨by omega,by omega⟩
  ·simp (decide:=true) only [BW,a0,a7,a20,x_lenS,lenS_of,hlt,x_ixS,ixS_drop hd,e95,e48,e57,lpQ_nrm,wi,decide_eq_false (show ¬ (e:Int) < 10000 by omega)]
   refine ⟨r.length,by rw [← hn];exact Nat.lt_succ_self _,e,r,i+1,hd',hk.2,?_,rfl,?_⟩
   ·rw [← hf,Rf.exv,if_neg he]
   ·simp (decide:=true) only [BW,S264e,a0,a2,a3,a4,a5,a6,a7,a8,a9,a10,a16,a17,a19,a20]
    exact ⟨by omega,by omega⟩
end Go.Proofs.YtmadknpaljaecaaGreatDoor.Ev.D
namespace Go.Proofs.YtmadknpaljaecaaGreatDoor.Ev.D
open Go Go.Proofs.YtmadknpaljaecaaGreatDoor.Ev
set_option maxRecDepth 100000
def dpF (F:Rf.St):Int:=if F.dot then F.dp else F.nd
def fexp (F:Rf.St) (x:Int):Int:=if F.m≠0 then dpF F+x - F.nm else 0
def out264 (l:List UInt8) (neg:Bool) (F:Rf.St) (x:Int):AV:=.tup [.int .u64 (F.m:Int),.int .i64 (fexp F x),.bool neg,.bool F.tr,.bool false,.int .i64 (l.length:Int),.bool true]
theorem tail264 {l:List UInt8} {neg:Bool} {F:Rf.St} {x:Int} {env:T AV} (hl:l.length≤1000000) (hm:F.nm≤19) (hb:-10000000≤dpF F+x∧dpF F+x≤10000000) (a2:env.at 2=.int .u64 (F.m:Int)) (a3:env.at 3=.int .i64 0) (a4:env.at 4=.bool neg) (a5:env.at 5=.bool F.tr) (a6:env.at 6=.bool false)
  (a7:env.at 7=.int .i64 (l.length:Int)) (a9:env.at 9=.bool false) (a16:env.at 16=.int .i64 (F.nm:Int)) (a17:env.at 17=.int .i64 (dpF F+x)):
  GoP C [.c (seqT 5 T264)] env .empty (ScQ C [] (Back [.tmp 2,.tmp 3,.tmp 4,.tmp 5,.tmp 6,.tmp 7,.tmp 8] true (out264 l neg F x))):=by
 have w1:wrapF .i64 (dpF F+x - (F.nm:Int))=dpF F+x - F.nm:=i64_wrap (by omega) (by omega)
 by_cases h0:F.m=0
 ·have e0:=decide_eq_false (show ¬ ((F.m:Int)≠0) by omega)
  have hx:fexp F x=0:=by unfold fexp;rw [if_neg (by omega)]
  simp only [T264,B264,X264,seqT]
  simp (decide:=true) only [BW,a2,a9,e0,scQ_ret]
  refine backN (ts:=[2,3,4,5,6,7,8]) (vs:=[.int .u64 (F.m:Int),.int .i64 (fexp F x),.bool neg,.bool F.tr,.bool false,.int .i64 (l.length:Int),.bool true]) ?_ rfl
  simp (decide:=true) only [BW,a2,a3,a4,a5,a6,a7,mapO,hx]
 ·have e0:=decide_eq_true (show ((F.m:Int)≠0) by omega)
  have hx:fexp F x=dpF F+x - F.nm:=by unfold fexp;rw [if_pos (by omega)]
  simp only [T264,B264,X264,seqT]
  simp (decide:=true) only [BW,a2,a9,a16,a17,e0,w1,scQ_ret]
  refine backN (ts:=[2,3,4,5,6,7,8]) (vs:=[.int .u64 (F.m:Int),.int .i64 (fexp F x),.bool neg,.bool F.tr,.bool false,.int .i64 (l.length:Int),.bool true]) ?_ rfl
  simp (decide:=true) only [BW,a2,a3,a4,a5,a6,a7,mapO,hx]
def Post (post:List UInt8) (x:Int):Prop:=(post=[]∧x=0)∨∃ ds,ds≠[]∧ds.all Rf.isD=true∧((post=101::ds∧x=(Rf.exv ds 0:Nat))∨(post=101::45::ds∧x=-(Rf.exv ds 0:Nat)))
theorem exp264 {l post:List UInt8} {neg:Bool} {F:Rf.St} {x:Int} {env:T AV} {i:Nat} (hl:l.length≤1000000) (hp:Post post x) (hd:l.drop i=post) (i0:i≤l.length) (m1:F.nm≤19) (hdp:-1000000≤dpF F∧dpF F≤1000000) (a0:env.at 0=.str (BStr.ofBytes l)) (a2:env.at 2=.int .u64 (F.m:Int)) (a3:env.at 3=.int .i64 0) (a4:env.at 4=.bool neg) (a5:env.at 5=.bool F.tr) (a6:env.at 6=.bool false)
  (a7:env.at 7=.int .i64 (i:Int)) (a8:env.at 8=.bool false) (a9:env.at 9=.bool false) (a10:env.at 10=.int .u64 10) (a12:env.at 12=.int .u8 101) (a16:env.at 16=.int .i64 (F.nm:Int)) (a17:env.at 17=.int .i64 (dpF F)):
  GoP C [.c (seqT 4 T264)] env .empty (ScQ C [] (Back [.tmp 2,.tmp 3,.tmp 4,.tmp 5,.tmp 6,.tmp 7,.tmp 8] true (out264 l neg F x))):=by
 have e1:seqT 4 T264=.seq (seqH (seqT 4 T264)) (seqT 5 T264):=rfl
 rw [e1]
 generalize hR:seqT 5 T264=R
 have fin:=fun env=>tail264 (l:=l) (neg:=neg) (F:=F) (x:=x) (env:=env) hl m1
 rw [hR] at fin
 rcases hp with ⟨rfl,rfl⟩|⟨ds,hne,hds,hx⟩
 ·have hil:=drop_nil hd
  have hi:i=l.length:=by omega
  subst hi
  simp only [T264,B264,X264,seqT,seqH]
  simp (decide:=true) only [BW,a0,a7,a10,x_lenS,lenS_of,decide_eq_false (show ¬ (l.length:Int) < (l.length:Int) by omega)]
  refine fin _ (by omega) ?_ ?_ ?_ ?_ ?_ ?_ ?_ ?_ ?_ <;> simp (decide:=true) only [BW,a0,a2,a3,a4,a5,a6,a7,a9,a16,a17,Int.add_zero]
 ·have hE0:=Rf.exv_le ds 0 hds (by decide)
  obtain ⟨c,hc⟩:∃ c:List UInt8,l.drop i=101::c:=by rcases hx with ⟨h1,_⟩|⟨h1,_⟩ <;> exact ⟨_,hd.trans h1⟩
  obtain ⟨hil,_,hd1⟩:=drop_cons hc
  have hlt:=decide_eq_true (show (i:Int) < (l.length:Int) by omega)
  have wi:wrapF .i64 ((i:Int)+1)=((i+1:Nat):Int):=by rw [i64_wrap (by omega) (by omega)];rfl
  have l101:∀ h,Does C 242 [.int .u8 101] h (.int .u8 101) h:=fun h=>s242 (c:=101) (by decide) h
  have ebody:seqH (seqT 4 T264)=.seq (seqH (seqH (seqT 4 T264))) (.cond (.t 161) E264 (condB (seqT 1 (seqH (seqT 4 T264))))):=rfl
  rw [ebody]
  have eE:E264=.seq (seqH E264) (.seq (seqH (seqT 1 E264)) (.seq (seqH (seqT 2 E264)) (.seq (seqH (seqT 3 E264)) (.seq (seqH (seqT 4 E264)) (.seq (seqH (seqT 5 E264)) (.seq (.block 5 (.loop M264)) (seqT 7 E264))))))):=rfl
  rw [eE]
  have lp:=fun sg env h n=>body264e (l:=l) (neg:=neg) (F:=F) (dp:=dpF F) (sg:=sg) (E:=Rf.exv ds 0) (Q:=ScQ C [] (Back [.tmp 2,.tmp 3,.tmp 4,.tmp 5,.tmp 6,.tmp 7,.tmp 8] true (out264 l neg F x))) hl n env h
  have aft:∀ sg env h,(sg=1∧x=(Rf.exv ds 0:Nat)∨sg=-1∧x=-(Rf.exv ds 0:Nat))→J264e l neg F (dpF F) sg (Rf.exv ds 0) env h→GoP C [.c (seqT 7 E264),.c R] env h (ScQ C [] (Back [.tmp 2,.tmp 3,.tmp 4,.tmp 5,.tmp 6,.tmp 7,.tmp 8] true (out264 l neg F x))):=by
   rintro sg env h hsg ⟨i,hi,⟨i0,e0⟩,a0,a2,a3,a4,a5,a6,a7,a8,a9,a10,a16,a17,a19,a20,rfl⟩
   subst hi
   have w1:wrapF .i64 ((Rf.exv ds 0:Nat)*sg:Int)=x:=by
    rcases hsg with ⟨rfl,rfl⟩|⟨rfl,rfl⟩
    ·rw [Int.mul_one,i64_wrap (by omega) (by omega)]
    ·rw [Int.mul_neg,Int.mul_one,i64_wrap (by omega) (by omega)]
   have w2:wrapF .i64 (dpF F+x)=dpF F+x:=i64_wrap (by rcases hsg with ⟨_,h⟩|⟨_,h⟩ <;> omega) (by rcases hsg with ⟨_,h⟩|⟨_,h⟩ <;> omega)
   simp only [E264,T264,B264,X264,seqT,seqH,condA]
   simp (decide:=true) only [BW,a17,a19,a20,w1,w2]
   refine fin _ (by rcases hsg with ⟨_,h⟩|⟨_,h⟩ <;> omega) ?_ ?_ ?_ ?_ ?_ ?_ ?_ ?_ ?_ <;> simp (decide:=true) only [BW,a0,a2,a3,a4,a5,a6,a7,a9,a16,a17]
  generalize hM:M264=M at lp ⊢
  generalize hT:seqT 7 E264=T7 at aft ⊢
  rcases hx with ⟨rfl,hx⟩|⟨rfl,hx⟩
  ·obtain ⟨c0,r0,hds0⟩:∃ c0 r0,ds=c0::r0:=by cases ds with|nil=>exact (hne rfl).elim|cons a b=>exact ⟨a,b,rfl⟩
   have hd1':l.drop (i+1)=ds:=(drop_cons hd).2.2
   have hd2:l.drop (i+1)=c0::r0:=hd1'.trans hds0
   have hil2:=(drop_cons hd2).1
   have kd:48≤c0.toNat∧c0.toNat≤57:=by
    rw [hds0,List.all_cons,Bool.and_eq_true] at hds
    exact isD_iff.1 hds.1
   simp only [E264,T264,B264,X264,seqT,seqH,condA]
   simp (decide:=true) only [BW,a0,a7,a10,a12,x_lenS,lenS_of,hlt,x_ixS,ixS_drop hc,show (101:UInt8).toNat=101 from rfl,show ((101:Nat):Int)=101 from rfl,callG_of (l101 _),wi,decide_eq_false (show ¬ (l.length:Int)≤((i+1:Nat):Int) by omega),ixS_drop hd2,
    decide_eq_false (show ¬ ((c0.toNat:Nat):Int)=43 by omega),decide_eq_false (show ¬ ((c0.toNat:Nat):Int)=45 by omega),decide_eq_false (show ¬ ((c0.toNat:Nat):Int) < 48 by omega),decide_eq_false (show ¬ (57:Int) < ((c0.toNat:Nat):Int) by omega)]
   refine go_lp (I264e l neg F (dpF F) 1 (Rf.exv ds 0)) (J264e l neg F (dpF F) 1 (Rf.exv ds 0)) (n:=ds.length) ⟨0,ds,i+1,hd1',hds,rfl,rfl,?_⟩ (fun n env h hI=>lp 1 env h n hI) (fun env h hJ=>aft 1 env h (.inl ⟨rfl,hx⟩) hJ)
   simp (decide:=true) only [BW,S264e,a0,a2,a3,a4,a5,a6,a7,a8,a9,a10,a16,a17]
   omega
  ·obtain ⟨c0,r0,hds0⟩:∃ c0 r0,ds=c0::r0:=by cases ds with|nil=>exact (hne rfl).elim|cons a b=>exact ⟨a,b,rfl⟩
   have hd1':l.drop (i+1)=45::ds:=(drop_cons hd).2.2
   have hil1:=(drop_cons hd1').1
   have hd2':l.drop (i+1+1)=ds:=(drop_cons hd1').2.2
   have hd2:l.drop (i+1+1)=c0::r0:=hd2'.trans hds0
   have hil2:=(drop_cons hd2).1
   have wi2:wrapF .i64 (((i+1:Nat):Int)+1)=((i+1+1:Nat):Int):=by rw [i64_wrap (by omega) (by omega)];rfl
   have kd:48≤c0.toNat∧c0.toNat≤57:=by
    rw [hds0,List.all_cons,Bool.and_eq_true] at hds
    exact isD_iff.1 hds.1
   simp only [E264,T264,B264,X264,seqT,seqH,condA]
   simp (decide:=true) only [BW,a0,a7,a10,a12,x_lenS,lenS_of,hlt,x_ixS,ixS_drop hc,show (101:UInt8).toNat=101 from rfl,show ((101:Nat):Int)=101 from rfl,callG_of (l101 _),wi,decide_eq_false (show ¬ (l.length:Int)≤((i+1:Nat):Int) by omega),ixS_drop hd1',show (45:UInt8).toNat=45 from rfl,show ((45:Nat):Int)=45 from rfl,wi2,
    decide_eq_false (show ¬ (l.length:Int)≤((i+1+1:Nat):Int) by omega),ixS_drop hd2,decide_eq_false (show ¬ ((c0.toNat:Nat):Int) < 48 by omega),decide_eq_false (show ¬ (57:Int) < ((c0.toNat:Nat):Int) by omega)]
   refine go_lp (I264e l neg F (dpF F) (-1) (Rf.exv ds 0)) (J264e l neg F (dpF F) (-1) (Rf.exv ds 0)) (n:=ds.length) ⟨0,ds,i+1+1,hd2',hds,rfl,rfl,?_⟩ (fun n env h hI=>lp (-1) env h n hI) (fun env h hJ=>aft (-1) env h (.inr ⟨rfl,hx⟩) hJ)
   simp (decide:=true) only [BW,S264e,a0,a2,a3,a4,a5,a6,a7,a8,a9,a10,a16,a17]
   omega
theorem after264 {l post:List UInt8} {neg:Bool} {F:Rf.St} {x:Int} {env:T AV} {h:Heap} (hl:l.length≤1000000) (hsaw:F.saw=true) (hp:Post post x) (hJ:J264 l post neg F env h):
  GoP C [.c (seqT 1 T264)] env h (ScQ C [] (Back [.tmp 2,.tmp 3,.tmp 4,.tmp 5,.tmp 6,.tmp 7,.tmp 8] true (out264 l neg F x))):=by
 obtain ⟨i,hd,⟨i0,m0,m1,d0,d1,d2⟩,a0,a2,a3,a4,a5,a6,a7,a8,a9,a10,a11,a12,a13,a14,a15,a16,a17,rfl⟩:=hJ
 rw [hsaw] at a14
 have hdp:-1000000≤dpF F∧dpF F≤1000000:=by unfold dpF;split <;> omega
 have fin:=fun env=>exp264 (l:=l) (post:=post) (neg:=neg) (F:=F) (x:=x) (env:=env) (i:=i) hl hp hd i0 m1 hdp
 have e1:seqT 1 T264=.seq (seqH (seqT 1 T264)) (.seq (seqH (seqT 2 T264)) (.seq (seqH (seqT 3 T264)) (seqT 4 T264))):=rfl
 rw [e1]
 generalize hR:seqT 4 T264=R at fin ⊢
 simp only [T264,B264,X264,seqT,seqH]
 cases hdot:F.dot with
 |true=>
  rw [hdot] at a13
  have ed:dpF F=F.dp:=by unfold dpF;rw [hdot];rfl
  simp (decide:=true) only [BW,a10,a13,a14,u_not]
  refine fin _ ?_ ?_ ?_ ?_ ?_ ?_ ?_ ?_ ?_ ?_ ?_ ?_ ?_ <;> simp (decide:=true) only [BW,a0,a2,a3,a4,a5,a6,a7,a8,a9,a10,a12,a16,a17,ed]
 |false=>
  rw [hdot] at a13
  have ed:dpF F=F.nd:=by unfold dpF;rw [hdot];rfl
  simp (decide:=true) only [BW,a10,a13,a14,a15,u_not]
  refine fin _ ?_ ?_ ?_ ?_ ?_ ?_ ?_ ?_ ?_ ?_ ?_ ?_ ?_ <;> simp (decide:=true) only [BW,a0,a2,a3,a4,a5,a6,a7,a8,a9,a10,a12,a16,a17,ed]
end Go.Proofs.YtmadknpaljaecaaGreatDoor.Ev.D
namespace Go.Proofs.YtmadknpaljaecaaGreatDoor.Ev.D
open Go Go.Proofs.YtmadknpaljaecaaGreatDoor.Ev
set_option maxRecDepth 100000
theorem okM_char {d:Bool} {l:List UInt8} (h:Rf.okM d l=true):∀ c∈l,c=46∨Rf.isD c=true:=by
 induction l generalizing d with
 |nil=>intro c hc;cases hc
 |cons a r ih=>
  intro c hc
  rw [Rf.okM] at h
  rcases List.mem_cons.1 hc with rfl|hc
  ·by_cases h46:c=46
   ·exact .inl h46
   ·rw [if_neg h46,Bool.and_eq_true] at h;exact .inr h.1
  ·by_cases h46:a=46
   ·rw [if_pos h46,Bool.and_eq_true] at h;exact ih h.2 c hc
   ·rw [if_neg h46,Bool.and_eq_true] at h;exact ih h.2 c hc
theorem low120 {c:UInt8} (h:c=46∨Rf.isD c=true∨c=101):(c.toNat ||| 32)≠120:=by
 rcases h with rfl|h|rfl
 ·decide
 ·obtain ⟨h1,h2⟩:=isD_iff.1 h
  have:∀ n,48≤n→n≤57→(n ||| 32)≠120:=by
   intro n a b
   have:n=48∨n=49∨n=50∨n=51∨n=52∨n=53∨n=54∨n=55∨n=56∨n=57:=by omega
   rcases this with rfl|rfl|rfl|rfl|rfl|rfl|rfl|rfl|rfl|rfl <;> decide
  exact this _ h1 h2
 ·decide
theorem dig264 {l mant post:List UInt8} {neg:Bool} {x:Int} {k:Nat} {env:T AV} (hl:l.length≤1000000) (hd:l.drop k=mant++post) (hk:k≤l.length) (hm:Rf.okM false mant=true) (hsaw:(Rf.fin Rf.st0 mant).saw=true) (hp:Post post x)
  (a0:env.at 0=.str (BStr.ofBytes l)) (a2:env.at 2=.int .u64 0) (a3:env.at 3=.int .i64 0) (a4:env.at 4=.bool neg) (a5:env.at 5=.bool false) (a6:env.at 6=.bool false) (a7:env.at 7=.int .i64 (k:Int)) (a8:env.at 8=.bool false) (a9:env.at 9=.bool false):
  GoP C [.c (seqT 3 B264)] env .empty (ScQ C [] (Back [.tmp 2,.tmp 3,.tmp 4,.tmp 5,.tmp 6,.tmp 7,.tmp 8] true (out264 l neg (Rf.fin Rf.st0 mant) x))):=by
 have hp':post=[]∨∃ r,post=101::r:=by
  rcases hp with ⟨h,_⟩|⟨ds,_,_,⟨h,_⟩|⟨h,_⟩⟩
  ·exact .inl h
  ·exact .inr ⟨_,h⟩
  ·exact .inr ⟨_,h⟩
 have lp:∀ env h,I264 l post neg (Rf.fin Rf.st0 mant) mant.length env h→GoP C [.c (.loop L264),.blk 1,.c (seqT 1 T264)] env h (ScQ C [] (Back [.tmp 2,.tmp 3,.tmp 4,.tmp 5,.tmp 6,.tmp 7,.tmp 8] true (out264 l neg (Rf.fin Rf.st0 mant) x))):=fun env h hI=>
  go_lp (I264 l post neg (Rf.fin Rf.st0 mant)) (J264 l post neg (Rf.fin Rf.st0 mant)) hI (fun n env h hI=>body264 hl hp' n env h hI) (fun env h hJ=>after264 hl hsaw hp hJ)
 have e1:seqT 3 B264=.seq (seqH (seqT 3 B264)) (.seq (seqH (seqT 4 B264)) (.seq (seqH (seqT 5 B264)) (.seq (seqH (seqT 6 B264)) (.seq (seqH (seqT 7 B264)) (.seq (seqH (seqT 8 B264)) (.seq (seqH (seqT 9 B264)) (.seq (seqH (seqT 10 B264)) (.seq (seqH (seqT 11 B264)) (.seq (seqH (seqT 12 B264)) (.seq (.block 1 (.loop L264)) (seqT 1 T264))))))))))):=rfl
 rw [e1]
 have ini:∀ env:T AV,env.at 0=.str (BStr.ofBytes l)→env.at 2=.int .u64 0→env.at 3=.int .i64 0→env.at 4=.bool neg→env.at 5=.bool false→env.at 6=.bool false→env.at 7=.int .i64 (k:Int)→env.at 8=.bool false→env.at 9=.bool false→env.at 10=.int .u64 10→env.at 11=.int .i64 19→env.at 12=.int .u8 101→env.at 13=.bool false→env.at 14=.bool false→env.at 15=.int .i64 0→env.at 16=.int .i64 0→env.at 17=.int .i64 0→
   I264 l post neg (Rf.fin Rf.st0 mant) mant.length env .empty:=fun env b0 b2 b3 b4 b5 b6 b7 b8 b9 b10 b11 b12 b13 b14 b15 b16 b17=>
  ⟨Rf.st0,mant,k,hd,rfl,hm,rfl,⟨hk,by decide,by decide,Nat.zero_le _,by show -(k:Int)≤0;omega,by show (0:Int)≤k;omega⟩,b0,b2,b3,b4,b5,b6,b7,b8,b9,b10,b11,b12,b13,b14,b15,b16,b17,rfl⟩
 generalize hL:L264=L at lp ⊢
 generalize hT:seqT 1 T264=T1 at lp ⊢
 have w2:wrapF .i64 ((k:Int)+2)=((k+2:Nat):Int):=by rw [i64_wrap (by omega) (by omega)];rfl
 have w1:wrapF .i64 ((k:Int)+1)=((k+1:Nat):Int):=by rw [i64_wrap (by omega) (by omega)];rfl
 simp only [T264,B264,X264,seqT,seqH]
 by_cases h2:k+2 < l.length
 ·obtain ⟨c1,c2,r,hr⟩:∃ c1 c2 r,l.drop k=c1::c2::r:=by
   have hlen:(l.drop k).length=l.length - k:=List.length_drop ..
   cases h:l.drop k with
   |nil=>rw [h] at hlen;simp at hlen;omega
   |cons a t=>cases t with
    |nil=>rw [h] at hlen;simp at hlen;omega
    |cons b t=>exact ⟨a,b,t,rfl⟩
  have hr2:=(drop_cons hr).2.2
  have hc2:c2=46∨Rf.isD c2=true∨c2=101:=by
   rw [hd] at hr
   cases hmm:mant with
   |nil=>subst hmm;exact absurd hsaw (by decide)
   |cons a t=>
    subst hmm
    cases ht:t with
    |nil=>
     subst ht
     rcases hp' with rfl|⟨q,rfl⟩
     ·simp at hr
     ·simp at hr;exact .inr (.inr hr.2.1.symm)
    |cons b t'=>
     subst ht
     simp at hr
     rcases okM_char hm b (by simp) with h|h
     ·exact .inl (hr.2.1 ▸ h)
     ·exact .inr (.inl (hr.2.1 ▸ h))
  have hlo:=low120 hc2
  have e120:=decide_eq_false (show ¬ (((c2.toNat ||| 32:Nat):Int)=120) by omega)
  have l242:=fun h=>s242 (c:=c2.toNat) c2.toNat_lt h
  have e2:=decide_eq_true (show (((k+2:Nat):Int) < (l.length:Int)) by omega)
  by_cases h48:c1.toNat=48
  ·simp (decide:=true) only [BW,a0,a7,w2,w1,x_lenS,lenS_of,e2,x_ixS,ixS_drop hr,ixS_drop hr2,decide_eq_true (show ((c1.toNat:Nat):Int)=48 by omega),callG_of (l242 _),e120]
   refine lp _ _ (ini _ ?_ ?_ ?_ ?_ ?_ ?_ ?_ ?_ ?_ ?_ ?_ ?_ ?_ ?_ ?_ ?_ ?_) <;> simp (decide:=true) only [BW,a0,a2,a3,a4,a5,a6,a7,a8,a9]
  ·simp (decide:=true) only [BW,a0,a7,w2,w1,x_lenS,lenS_of,e2,x_ixS,ixS_drop hr,decide_eq_false (show ¬ ((c1.toNat:Nat):Int)=48 by omega)]
   refine lp _ _ (ini _ ?_ ?_ ?_ ?_ ?_ ?_ ?_ ?_ ?_ ?_ ?_ ?_ ?_ ?_ ?_ ?_ ?_) <;> simp (decide:=true) only [BW,a0,a2,a3,a4,a5,a6,a7,a8,a9]
 ·simp (decide:=true) only [BW,a0,a7,w2,x_lenS,lenS_of,decide_eq_false (show ¬ (((k+2:Nat):Int) < (l.length:Int)) by omega)]
  refine lp _ _ (ini _ ?_ ?_ ?_ ?_ ?_ ?_ ?_ ?_ ?_ ?_ ?_ ?_ ?_ ?_ ?_ ?_ ?_) <;> simp (decide:=true) only [BW,a0,a2,a3,a4,a5,a6,a7,a8,a9]
theorem s264 {l mant post:List UInt8} {neg:Bool} {x:Int} (hl:l.length≤1000000) (hd:l=(if neg then [45] else [])++(mant++post)) (hm:Rf.okM false mant=true) (hsaw:(Rf.fin Rf.st0 mant).saw=true) (hp:Post post x) (h:Heap):
  Does C 264 [.str (BStr.ofBytes l)] h (out264 l neg (Rf.fin Rf.st0 mant) x) h:=by
 refine does_pure (fn:=X264) rfl rfl rfl (mapO_cons conv_str mapO_nil) ?_
 have e0:X264.body=.seq (seqH X264.body) (.scope B264):=rfl
 have e1:B264=.seq (seqH B264) (.seq (seqH (seqT 1 B264)) (.seq (seqH (seqT 2 B264)) (seqT 3 B264))):=rfl
 rw [e0,e1]
 have fin:=fun k env hd hk=>dig264 (l:=l) (mant:=mant) (post:=post) (neg:=neg) (x:=x) (k:=k) (env:=env) hl hd hk hm hsaw hp
 generalize hR:seqT 3 B264=R at fin ⊢
 simp only [B264,X264,seqT,seqH]
 obtain ⟨c,t,hmt⟩:∃ c t,mant=c::t:=by
  cases mant with
  |nil=>exact absurd hsaw (by decide)
  |cons c t=>exact ⟨c,t,rfl⟩
 have hc:c.toNat≠43∧c.toNat≠45:=by
  rcases okM_char hm c (by rw [hmt];simp) with rfl|h
  ·decide
  ·have:=isD_iff.1 h;omega
 cases neg with
 |false=>
  have hd0:l.drop 0=c::(t++post):=by rw [hd,hmt];rfl
  have hi:=(drop_cons hd0).1
  have ix:=fun h=>ixS_drop (h:=h) (k:=.i64) hd0
  simp (decide:=true) only [BW,x_lenS,lenS_of,decide_eq_false (show ¬ ((l.length:Int)≤0) by omega),x_ixS,show ∀ h,ixSV (.str (BStr.ofBytes l)) (.int .i64 0) h=.ok (.int .u8 ((c.toNat:Nat):Int)) h from ix,decide_eq_false (show ¬ ((c.toNat:Nat):Int)=43 by omega),decide_eq_false (show ¬ ((c.toNat:Nat):Int)=45 by omega)]
  refine go_scope ?_
  simp (decide:=true) only [BW,x_lenS,lenS_of,decide_eq_false (show ¬ ((l.length:Int)≤0) by omega),x_ixS,show ∀ h,ixSV (.str (BStr.ofBytes l)) (.int .i64 0) h=.ok (.int .u8 ((c.toNat:Nat):Int)) h from ix,decide_eq_false (show ¬ ((c.toNat:Nat):Int)=43 by omega),decide_eq_false (show ¬ ((c.toNat:Nat):Int)=45 by omega)]
  refine fin 0 _ (by rw [hd];rfl) (Nat.zero_le _) ?_ ?_ ?_ ?_ ?_ ?_ ?_ ?_ ?_ <;> simp (decide:=true) only [BW]
  all_goals rfl
 |true=>
  have hd0:l.drop 0=45::(mant++post):=by rw [hd];rfl
  have hd1:l.drop 1=mant++post:=(drop_cons hd0).2.2
  have hi:=(drop_cons hd0).1
  have ix:=fun h=>ixS_drop (h:=h) (k:=.i64) hd0
  simp (decide:=true) only [BW]
  refine go_scope ?_
  simp (decide:=true) only [BW,x_lenS,lenS_of,decide_eq_false (show ¬ ((l.length:Int)≤0) by omega),x_ixS,show ∀ h,ixSV (.str (BStr.ofBytes l)) (.int .i64 0) h=.ok (.int .u8 45) h from ix]
  refine fin 1 _ hd1 hi ?_ ?_ ?_ ?_ ?_ ?_ ?_ ?_ ?_ <;> simp (decide:=true) only [BW]
  all_goals rfl
end Go.Proofs.YtmadknpaljaecaaGreatDoor.Ev.D
namespace Go.Proofs.YtmadknpaljaecaaGreatDoor.Ev.D
open Go Go.Proofs.YtmadknpaljaecaaGreatDoor.Ev
set_option maxRecDepth 100000
theorem s263 {l r:List UInt8} {c:UInt8} (hl:l=c::r) (h1:48≤c.toNat) (h2:c.toNat≤57) (h:Heap):Does C 263 [.str (BStr.ofBytes l)] h (.tup [.float .f64 0,.int .i64 0,.bool false]) h:=by
 refine does_pure (fn:=X263) rfl rfl rfl (mapO_cons conv_str mapO_nil) ?_
 have hd0:l.drop 0=c::r:=hl
 have hi:=(drop_cons hd0).1
 have ix:=fun h=>ixS_drop (h:=h) (k:=.i64) hd0
 simp (decide:=true) only [BZ,X263,decide_eq_false (show ¬ ((l.length:Int)=0) by omega),show ∀ h,ixSV (.str (BStr.ofBytes l)) (.int .i64 0) h=.ok (.int .u8 ((c.toNat:Nat):Int)) h from ix,
  decide_eq_false (show ¬ ((c.toNat:Nat):Int)=43 by omega),decide_eq_false (show ¬ ((c.toNat:Nat):Int)=45 by omega),decide_eq_false (show ¬ ((c.toNat:Nat):Int)=105 by omega),decide_eq_false (show ¬ ((c.toNat:Nat):Int)=73 by omega),decide_eq_false (show ¬ ((c.toNat:Nat):Int)=110 by omega),decide_eq_false (show ¬ ((c.toNat:Nat):Int)=78 by omega)]
end Go.Proofs.YtmadknpaljaecaaGreatDoor.Ev.D
namespace Go.Proofs.YtmadknpaljaecaaGreatDoor.Ev
open Go
def drawW (C:Ctx) (ops:List (XOper×DI)):Bool:=ops.all fun p=>match p.2 with
 |.free=>!wrS (purC C) p.1.op
 |.rd a b=>!wrS (purC C) p.1.op && Nat.beq a b
 |.wr=>true
theorem runDW {C:Ctx} {call:CallT} (hp:PureOk (purC C) call):∀ (ops:List (XOper×DI)) (env:T AV) (h:Heap) (hs:List Heap) (rs:List Rec) (env1:T AV) (h1:Heap),drawW C ops=true→
  xops call C (ops.map (·.1)) env h=.ok .nrm env1 h1→(rs.all fun r=>Nat.beq r.lo r.hi)=true→
  ∃ hs' rs',runD call C ops env h hs rs=some (env1,h1::hs',rs')∧(rs'.all fun r=>Nat.beq r.lo r.hi)=true
 |[],env,h,hs,rs,env1,h1,_,hx,hr=>by
  simp only [List.map_nil,xops,Out.ok.injEq,true_and] at hx
  obtain ⟨rfl,rfl⟩:=hx
  exact ⟨hs,rs,rfl,hr⟩
 |p::r,env,h,hs,rs,env1,h1,hb,hx,hr=>by
  simp only [drawW,List.all_cons,Bool.and_eq_true] at hb
  obtain ⟨hd,hb⟩:=hb
  have hb:drawW C r=true:=by
   unfold drawW;rw [List.all_eq_true] at hb ⊢
   exact fun x hx=>by
    have:=hb x hx
    cases h2:x.2 <;> rw [h2] at this <;> simp at this ⊢ <;> exact this
  simp only [List.map_cons,xops] at hx
  simp only [runD]
  cases hwant:wanted env p.1.grd with
  |none=>rw [hwant] at hx;cases hx
  |some b=>
   rw [hwant] at hx
   cases b with
   |false=>
    simp only at hx ⊢
    cases hdi:p.2 with
    |wr=>exact runDW hp r _ h (h::hs) rs env1 h1 hb hx hr
    |free=>exact runDW hp r _ h hs rs env1 h1 hb hx hr
    |rd lo hi=>exact runDW hp r _ h hs rs env1 h1 hb hx hr
   |true=>
    simp only at hx ⊢
    cases hop:xop call (eval C env) h p.1.op with
    |no w=>rw [hop] at hx;cases hx
    |panic v h'=>rw [hop] at hx;cases hx
    |ok v h'=>
     rw [hop] at hx
     simp only at hx ⊢
     cases hdi:p.2 with
     |wr=>exact runDW hp r _ h' (h::hs) rs env1 h1 hb hx hr
     |free=>
      rw [hdi] at hd
      have hw:wrS (purC C) p.1.op=false:=by simpa using hd
      have:=reader_ok hp hw hop
      subst this
      exact runDW hp r _ _ hs rs env1 h1 hb hx hr
     |rd lo hi=>
      rw [hdi] at hd
      simp only [Bool.and_eq_true,Bool.not_eq_true'] at hd
      have:=reader_ok hp hd.1 hop
      subst this
      exact runDW hp r _ _ hs (⟨p.1.op,env,lo,hi,v⟩::rs) env1 h1 hb hx (by simp only [List.all_cons,Bool.and_eq_true];exact ⟨hd.2,hr⟩)
theorem go_drawW {C:Ctx} {ops:List (XOper×DI)} (hb:drawW C ops=true) {ks:List K} {env:T AV} {h:Heap} {Q:PostC}
  (hg:GoP C [.o (ops.map (·.1))] env h fun e env' h'=>e=.nrm∧GoP C ks env' h' Q):GoP C (.c (.draw ops)::ks) env h Q:=by
 obtain ⟨n,e,env',h',hx,hq⟩:=hg
 obtain ⟨he,hq2⟩:e=.nrm∧GoP C ks env' h' Q:=by cases e <;> exact hq
 subst he
 obtain ⟨hs',rs',e2,e3⟩:=runDW (purC_ok C (ex C n)) ops env h [] [] env' h' hb hx rfl
 refine ⟨n+1,.nrm,env',h',?_,hq2⟩
 show xdraw (callFn (ex C n) C) C ops env h=_
 unfold xdraw
 rw [e2]
 have:(rs'.all (again (callFn (ex C n) C) C (h'::hs').reverse))=true:=by
  rw [List.all_eq_true] at e3 ⊢
  intro r hr
  unfold again
  rw [e3 r hr];rfl
 simp only [this,cond_true]
end Go.Proofs.YtmadknpaljaecaaGreatDoor.Ev
namespace Go.Proofs.YtmadknpaljaecaaGreatDoor.Ev
open Go
section
variable {C:Ctx} {env:T AV} {h:Heap} {Q:PostC} {ks:List K}
theorem cont_goto {l:Nat}:∀ (ks:List K),Cont C ks Q (.goto l) env h↔Q (.goto l) env h
 |[]=>Iff.rfl
 |k::ks=>by cases k <;> exact cont_goto ks
theorem go_goto {l:Nat}:GoP C (.c (.goto l)::ks) env h Q↔Q (.goto l) env h:=wpc_goto.trans (cont_goto ks)
def SgQ (C:Ctx) (c:XCode) (ks:List K) (Q:PostC):PostC:=fun e env h=>match e with
 |.goto l=>(match findLabel c l with
  |some r=>GoP C (.c (.scopeAt c r)::ks) env h Q
  |none=>False)
 |e=>Cont C ks Q e env h
theorem go_scopeAt {c cur:XCode} (hg:GoP C [.c cur] env h (SgQ C c ks Q)):GoP C (.c (.scopeAt c cur)::ks) env h Q:=by
 obtain ⟨n,e,env',h',hx,hq⟩:=hg
 have hq':SgQ C c ks Q e env' h':=by cases e <;> exact hq
 cases e with
 |goto l=>
  have hq2:(match findLabel c l with
   |some r=>GoP C (.c (.scopeAt c r)::ks) env' h' Q
   |none=>False):=hq'
  cases hf:findLabel c l with
  |none=>rw [hf] at hq2;exact hq2.elim
  |some r=>
   rw [hf] at hq2
   obtain ⟨n2,e2,env2,h2,hx2,hq3⟩:=hq2
   refine ⟨max n n2+1,e2,env2,h2,?_,hq3⟩
   simp only [ex,step]
   rw [ex_le C (Nat.le_max_left n n2) cur env h (by rw [hx];trivial),hx]
   simp only [hf]
   exact (ex_le C (Nat.le_max_right n n2) _ env' h' (by rw [hx2];trivial)).trans hx2
 |nrm=>exact ⟨n+1,.nrm,env',h',by simp only [ex,step,hx],hq'⟩
 |exit j=>exact ⟨n+1,.exit j,env',h',by simp only [ex,step,hx],hq'⟩
 |ret=>exact ⟨n+1,.ret,env',h',by simp only [ex,step,hx],hq'⟩
 |panic v=>exact ⟨n+1,.panic v,env',h',by simp only [ex,step,hx],hq'⟩
theorem go_scopeG {c:XCode} (hg:GoP C (.c (.scopeAt c c)::ks) env h Q):GoP C (.c (.scope c)::ks) env h Q:=wpc_scope.2 hg
theorem sgQ_ret {c:XCode}:SgQ C c ks Q .ret env h↔Q .ret env h:=cont_ret'
theorem sgQ_goto {c r:XCode} {l:Nat} (hf:findLabel c l=some r):SgQ C c ks Q (.goto l) env h↔GoP C (.c (.scopeAt c r)::ks) env h Q:=by
 show (match findLabel c l with
  |some r=>GoP C (.c (.scopeAt c r)::ks) env h Q
  |none=>False)↔_
 rw [hf]
end
end Go.Proofs.YtmadknpaljaecaaGreatDoor.Ev
namespace Go.Proofs.YtmadknpaljaecaaGreatDoor.Ev
open Go
def Fr (h h':Heap) (b:Nat):Prop:=h'.next=h.next∧∀ c,c≠b→h'.get c=h.get c
theorem Fr.refl (h:Heap) (b:Nat):Fr h h b:=⟨rfl,fun _ _=>rfl⟩
theorem Fr.trans {h1 h2 h3:Heap} {b:Nat} (x:Fr h1 h2 b) (y:Fr h2 h3 b):Fr h1 h3 b:=⟨y.1.trans x.1,fun c hc=>(y.2 c hc).trans (x.2 c hc)⟩
theorem Fr.stB (h:Heap) (b i:Nat) (v:AV):Fr h (h.stB b i v) b:=⟨Heap.stB_next ..,fun _ hc=>Heap.stB_get_ne h i v hc⟩
theorem Fr.st {h h':Heap} {b i:Nat} {v:AV} (x:Fr h h' b):Fr h (h'.stB b i v) b:=x.trans (Fr.stB ..)
theorem stB_at {h:Heap} {b i:Nat} {v:AV} (hi:i < h.len b):(h.stB b i v).cell b i=v:=by rw [Heap.stB_cell _ _ _ _ _ _ hi,if_pos ⟨rfl,rfl⟩]
theorem stB_ne {h:Heap} {b i j:Nat} {v:AV} (hi:i < h.len b) (hj:j≠i):(h.stB b i v).cell b j=h.cell b j:=by rw [Heap.stB_cell _ _ _ _ _ _ hi,if_neg (fun h=>hj h.2)]
theorem okc_bool {b:Bool}:okCell (.bool b)=true:=rfl
end Go.Proofs.YtmadknpaljaecaaGreatDoor.Ev
namespace Go.Proofs.YtmadknpaljaecaaGreatDoor.Ev.D
open Go Go.Proofs.YtmadknpaljaecaaGreatDoor.Ev
set_option maxRecDepth 100000
def dgt (N nd i:Nat):Nat:=N / 10 ^ (nd - 1 - i) % 10
structure DV (h:Heap) (b N nd:Nat) (dp:Int) (ng tr:Bool):Prop where
 len:h.len b=804
 le:nd≤800
 lt:N < 10 ^ nd
 d:∀ i,i < nd→h.cell b i=.int .u8 ((48+dgt N nd i:Nat):Int)
 nd:h.cell b 800=.int .i64 (nd:Int)
 dp:h.cell b 801=.int .i64 dp
 ng:h.cell b 802=.bool ng
 tr:h.cell b 803=.bool tr
theorem dgt_last (N nd:Nat) (h:0 < nd):dgt N nd (nd - 1)=N % 10:=by unfold dgt;rw [Nat.sub_self,Nat.pow_zero,Nat.div_one]
theorem dgt_cut {N nd i:Nat} (hi:i < nd - 1):dgt (N / 10) (nd - 1) i=dgt N nd i:=by
 unfold dgt
 rw [Nat.div_div_eq_div_mul,← Nat.pow_succ']
 congr 3;omega
theorem dgt_lt (N nd i:Nat):dgt N nd i < 10:=Nat.mod_lt _ (by decide)
theorem DV.setNd {h:Heap} {b N nd:Nat} {dp:Int} {ng tr:Bool} (D:DV h b N nd dp ng tr) {N' nd':Nat} (hle:nd'≤800) (hlt:N' < 10 ^ nd') (hd:∀ i,i < nd'→h.cell b i=.int .u8 ((48+dgt N' nd' i:Nat):Int)):
  DV (h.stB b 800 (.int .i64 (nd':Int))) b N' nd' dp ng tr:=by
 have hl:=D.len
 refine ⟨by rw [Heap.stB_len,hl],hle,hlt,fun i hi=>?_,stB_at (by omega),?_,?_,?_⟩
 ·rw [stB_ne (by omega) (by omega)];exact hd i hi
 ·rw [stB_ne (by omega) (by decide)];exact D.dp
 ·rw [stB_ne (by omega) (by decide)];exact D.ng
 ·rw [stB_ne (by omega) (by decide)];exact D.tr
theorem DV.setDp {h:Heap} {b N nd:Nat} {dp:Int} {ng tr:Bool} (D:DV h b N nd dp ng tr) (dp':Int):DV (h.stB b 801 (.int .i64 dp')) b N nd dp' ng tr:=by
 have hl:=D.len
 have hle:=D.le
 refine ⟨by rw [Heap.stB_len,hl],hle,D.lt,fun i hi=>?_,?_,stB_at (by omega),?_,?_⟩
 ·rw [stB_ne (by omega) (by omega)];exact D.d i hi
 ·rw [stB_ne (by omega) (by decide)];exact D.nd
 ·rw [stB_ne (by omega) (by decide)];exact D.ng
 ·rw [stB_ne (by omega) (by decide)];exact D.tr
theorem DV.setTr {h:Heap} {b N nd:Nat} {dp:Int} {ng tr:Bool} (D:DV h b N nd dp ng tr) (tr':Bool):DV (h.stB b 803 (.bool tr')) b N nd dp ng tr':=by
 have hl:=D.len
 have hle:=D.le
 refine ⟨by rw [Heap.stB_len,hl],hle,D.lt,fun i hi=>?_,?_,?_,?_,stB_at (by omega)⟩
 ·rw [stB_ne (by omega) (by omega)];exact D.d i hi
 ·rw [stB_ne (by omega) (by decide)];exact D.nd
 ·rw [stB_ne (by omega) (by decide)];exact D.dp
 ·rw [stB_ne (by omega) (by decide)];exact D.ng
def I254 (h0:Heap) (b N nd:Nat) (dp:Int) (ng tr:Bool) (n:Nat) (env:T AV) (h:Heap):Prop:=
 ∃ N',N=N'*10 ^ (nd - n)∧n≤nd∧DV h b N' n dp ng tr∧Fr h0 h b∧env.at 0=.ref b 0
theorem s254 {h:Heap} {b N nd:Nat} {dp:Int} {ng tr:Bool} (D:DV h b N nd dp ng tr):
  ∃ h' N' nd',Does C 254 [.ref b 0] h (.tup []) h'∧N=N'*10 ^ (nd - nd')∧nd'≤nd∧(nd' =0∨N' % 10≠0)∧DV h' b N' nd' (if nd' =0 then 0 else dp) ng tr∧Fr h h' b:=by
 obtain ⟨v,h',hd,rfl,N',nd',q⟩:=does_anyE (C:=C) (f:=254) (fn:=X254) rfl rfl rfl (args:=[.ref b 0]) (h:=h)
  (P:=fun v h'=>v=.tup []∧∃ N' nd',N=N'*10 ^ (nd - nd')∧nd'≤nd∧(nd' =0∨N' % 10≠0)∧DV h' b N' nd' (if nd' =0 then 0 else dp) ng tr∧Fr h h' b) (by
  simp only [X254]
  simp (decide:=true) only [BZ]
  refine go_lp (I254 h b N nd dp ng tr) (fun env h'=>env.at 0=.ref b 0∧∃ N' nd',N=N'*10 ^ (nd - nd')∧nd'≤nd∧(nd' =0∨N' % 10≠0)∧DV h' b N' nd' dp ng tr∧Fr h h' b) (n:=nd) ⟨N,by simp,Nat.le_refl _,D,Fr.refl _ _,by simp (decide:=true) only [BZ]⟩ ?_ ?_
  ·rintro n env h1 ⟨N',hN,hn,D',F,a0⟩
   have hl:=D'.len
   have hle:=D'.le
   have l800:800 < h1.len b:=by omega
   refine go_seq.2 (go_seq.2 (go_drawW rfl ?_))
   by_cases h0:n=0
   ·subst h0
    simp (decide:=true) only [BZ,a0,ld1_cell l800,D'.nd,show ((0:Nat):Int)=0 from rfl]
    exact ⟨N',0,hN,hn,.inl rfl,D',F⟩
   ·have w1:wrapF .i64 ((n:Int) - 1)=((n - 1:Nat):Int):=by rw [i64_wrap (by omega) (by omega)];omega
    have hlt:=decide_eq_true (show (0:Int) < (n:Int) by omega)
    have hlast:=D'.d (n - 1) (by omega)
    rw [dgt_last _ _ (by omega)] at hlast
    by_cases hz:N' % 10=0
    ·have hz':=decide_eq_true (show ((48+N' % 10:Nat):Int)=48 by omega)
     simp (decide:=true) only [BZ,a0,ld1_cell l800,D'.nd,hlt,w1,iaA_ref (show n - 1 < 800 by omega),Nat.mul_one,ld1_cell (show n - 1 < h1.len b by omega),hlast,hz',st1_cell l800 okc_int]
     refine ⟨n - 1,by omega,N' / 10,?_,by omega,?_,F.st,?_⟩
     ·rw [hN,show nd - (n - 1)=nd - n+1 by omega,Nat.pow_succ,Nat.mul_comm _ 10,← Nat.mul_assoc]
      congr 1;omega
     ·refine D'.setNd (by omega) ?_ fun i hi=>?_
      ·have:=D'.lt
       rw [show n=n - 1+1 by omega,Nat.pow_succ] at this
       omega
      ·rw [dgt_cut hi];exact D'.d i (by omega)
     ·simp (decide:=true) only [BZ,a0]
    ·have hz':=decide_eq_false (show ¬ ((48+N' % 10:Nat):Int)=48 by omega)
     simp (decide:=true) only [BZ,a0,ld1_cell l800,D'.nd,hlt,w1,iaA_ref (show n - 1 < 800 by omega),Nat.mul_one,ld1_cell (show n - 1 < h1.len b by omega),hlast,hz']
     exact ⟨N',n,hN,hn,.inr hz,D',F⟩
  ·rintro env h1 ⟨a0,N',nd',hN,hn,hz,D',F⟩
   have hl:=D'.len
   have hle:=D'.le
   have l800:800 < h1.len b:=by omega
   by_cases h0:nd' =0
   ·subst h0
    simp (decide:=true) only [BZ,a0,ld1_cell l800,D'.nd,show ((0:Nat):Int)=0 from rfl,st1_cell (show 801 < h1.len b by omega) okc_int]
    refine ⟨.tup [],back0n,rfl,N',0,hN,hn,.inl rfl,?_,F.st⟩
    rw [if_pos rfl];exact D'.setDp 0
   ·simp (decide:=true) only [BZ,a0,ld1_cell l800,D'.nd,decide_eq_false (show ¬ (nd':Int)=0 by omega)]
    refine ⟨.tup [],back0n,rfl,N',nd',hN,hn,hz,?_,F⟩
    rw [if_neg h0];exact D')
 exact ⟨h',N',nd',hd,q⟩
end Go.Proofs.YtmadknpaljaecaaGreatDoor.Ev.D
