import Derived.Laws.BytesString
import Derived.Lib.UnsafeStr
import Derived.MapKept
import Derived.Scope
import Ieee.Arith
import Derived.Test.YtmadknpaljaecaaGreatDoorBaa
set_option linter.all false
set_option maxHeartbeats 1000000
namespace Go.Proofs.YtmadknpaljaecaaGreatDoor.Ev
open Go
theorem bif_ok {c:Bool} {x:OpR} {w:Nat} {v:AV} {h:Heap} (e:(bif c then x else .no w)=.ok v h):c=true∧x=.ok v h:=by
 cases c with
 |true=>exact ⟨rfl,e⟩
 |false=>cases e
theorem HR.change {E:Env} {W:World} {h:Heap} {x x':Blk} (hr:HR E W (h.new x)) (hb:BR E W h.next x→BR E W h.next x'):HR E W (h.new x'):=by
 have old:∀ b y,(h.new x').get b=some y→∃ z,(h.new x).get b=some z∧(b≠h.next→z=y):=fun b y hy=>by
  rw [Heap.get_new] at hy ⊢
  by_cases e:b=h.next
  ·rw [if_pos e];exact ⟨x,rfl,fun g=>absurd e g⟩
  ·rw [if_neg e] at hy ⊢;exact ⟨y,hy,fun _=>rfl⟩
 refine ⟨hr.nx,fun b y hy=>?_,fun b y hy=>?_,fun b b' y y' h1 h2 e=>?_,fun b y hy=>?_,hr.there⟩
 ·obtain ⟨z,hz,_⟩:=old b y hy;exact hr.lt b z hz
 ·rw [Heap.get_new] at hy
  split at hy
  ·rename_i e;cases hy;rw [e];exact hb (hr.blk h.next x (by rw [Heap.get_new,if_pos rfl]))
  ·rename_i e;exact hr.blk b y (by rw [Heap.get_new,if_neg e];exact hy)
 ·obtain ⟨z,hz,_⟩:=old b y h1
  obtain ⟨z',hz',_⟩:=old b' y' h2
  exact hr.inj b b' z z' hz hz' e
 ·obtain ⟨z,hz,_⟩:=old b y hy;exact hr.apart b z hz
theorem app_run {P:Program} {E:Env} {W:World} {h h':Heap} (hr:HR E W h) {ats:Array TypeId} {t0 t1 e:TypeId} {d1:TypeDesc} {i:TypeInfo} {zv:Value} {tt:TypeId}
  (h0:ats[0]? =some t0) (ht0:P.underlying t0=some (.slice e)) (h1:ats[1]? =some t1) (ht1:P.underlying t1=some d1) (hd1:∀ k,d1≠.int k) (hi:P.info? e=some i) (hz:i.zero=some zv) (hzs:zv.cells.size=i.size) (hs0:i.size≠0)
  {ax ay v:AV} {x y:Value} (hx:VR E W ax x) (hy:VR E W ay y) (ho:append e i.size (limOf i.bytes) h ax ay=.ok v h'):
  Goes1 P E W (Builtin.append_ ats tt #[x,y]) v h':=by
 unfold append at ho
 split at ho
 ·cases ho
 rename_i new hnew
 split at ho
 ·cases ho
 rename_i n hn
 obtain ⟨s1,s2,ns,s3,s4,s5⟩:=slCells_run (P:=P) hr hy hnew hn
 have s5n:=s5 n (Nat.le_refl _)
 have hnsl:ns.length=n*i.size:=by rw [← s3.length,s2]
 rw [List.take_of_length_le (by omega)] at s5n
 obtain ⟨_,_,ns',d3,d4,d5⟩:=slCells_run (P:=P) (hr.of_heap (W:=W) (W':=W.drew) ⟨rfl,rfl,rfl⟩) (hy.of_heap (W:=W) (W':=W.drew) ⟨rfl,rfl,rfl⟩) hnew hn
 have d5n:=d5 n (Nat.le_refl _)
 have hnsl':ns'.length=n*i.size:=by rw [← d3.length,s2]
 rw [List.take_of_length_le (by omega)] at d5n
 split at ho
 ·
  have:=hx.nilSl_inv;subst this
  rcases beq_cases n 0 with ⟨e0,eb⟩|⟨e0,eb⟩ <;> rw [eb] at ho
  ·simp only [cond_true,OpR.ok.injEq] at ho
   obtain ⟨rfl,rfl⟩:=ho
   subst e0
   exact (Yes.goes hr ⟨_,append_nil_eq h0 ht0 h1 ht1 hd1 hi s1 s5n,.nilSl⟩)
  ·simp only [cond_false] at ho
   obtain ⟨hl,ho⟩:=bif_ok ho
   have hl:=Nat.le_of_ble_eq_true hl
   simp only [newCells,OpR.ok.injEq] at ho
   obtain ⟨rfl,rfl⟩:=ho
   have:=append_grow (tt:=tt) hr h0 ht0 h1 ht1 hd1 hi hz hzs (base:=none) (sLen:=0) (sCap:=0) (ol:=[]) (os:=[]) s1 d5n (by simp [Builtin.firstCells]) (d3.of_heap (W:=W.drew) (W':=W) ⟨rfl,rfl,rfl⟩) d4 .nil (by simp) (by simp) s2 (by omega) (by omega)
   simpa using this
 ·
  rename_i w len cs
  rcases beq_cases n 0 with ⟨e0,eb⟩|⟨e0,eb⟩ <;> rw [eb] at ho
  ·simp only [cond_true,OpR.ok.injEq] at ho
   obtain ⟨rfl,rfl⟩:=ho
   subst e0
   have hns0:ns=[]:=List.eq_nil_of_length_eq_zero (by simpa using hnsl)
   subst hns0
   obtain ⟨bl,off,c,xs,rfl,h2,h3,h4,h5⟩:=hx.isl_inv
   refine Yes.goes hr ⟨_,append_room_eq h0 ht0 h1 ht1 hd1 hi s1 s5n (W':=W) (by simp [storeCells]) (by omega),?_⟩
   exact .isl h2 h3 h4 h5
  ·cases ho
 ·rename_i b off len es cap
  split at ho
  ·rename_i m d cs e' op hb
   split at ho
   ·
    rename_i c
    obtain ⟨rfl,hbn,hlc⟩:=hx.slc_inv
    rcases ble_cases (len+n) c with ⟨hl,eb⟩|⟨hl,eb⟩ <;> rw [eb] at ho
    ·simp only [cond_true] at ho
     obtain ⟨hle,ho⟩:=bif_ok ho
     have hle:=Nat.le_of_ble_eq_true hle
     simp only [OpR.ok.injEq] at ho
     obtain ⟨rfl,rfl⟩:=ho
     obtain ⟨W',r,p,q⟩:=storeCells_run (P:=P) hr hb s3 s4 (show off+len*i.size+new.length≤m by rw [s2,Nat.add_assoc,← Nat.add_mul];exact hle)
     refine ⟨E,W',_,append_room_eq h0 ht0 h1 ht1 hd1 hi s1 s5n r hl,p,q,?_⟩
     exact .slc hbn hl
    ·simp only [cond_false] at ho
     obtain ⟨hlim,ho⟩:=bif_ok ho
     have hlim:=Nat.le_of_ble_eq_true hlim
     split at ho
     ·cases ho
     ·rename_i old hold
      simp only [newCells,OpR.ok.injEq] at ho
      obtain ⟨rfl,rfl⟩:=ho
      have hs:slCells i.size h (.sl b off len es (some c))=some old:=by simp only [slCells,hb];exact hold
      obtain ⟨_,o2,os,o3,o4,o5⟩:=slCells_run (P:=P) (hr.of_heap (W:=W) (W':=W.drew) ⟨rfl,rfl,rfl⟩) (hx.of_heap (W:=W) (W':=W.drew) ⟨rfl,rfl,rfl⟩) hs rfl
      have o5n:=o5 len (Nat.le_refl _)
      have hosl:os.length=len*i.size:=by rw [← o3.length,o2]
      rw [List.take_of_length_le (by omega)] at o5n
      exact append_grow (tt:=tt) hr h0 ht0 h1 ht1 hd1 hi hz hzs s1 d5n o5n (d3.of_heap (W:=W.drew) (W':=W) ⟨rfl,rfl,rfl⟩) d4 (o3.of_heap (W:=W.drew) (W':=W) ⟨rfl,rfl,rfl⟩) o4 o2 s2 (by omega) hlim
   ·
    rename_i hcap
    obtain ⟨c,rfl,hbn,hlc,hroom⟩:=hx.slo_inv
    rcases beq_cases n 0 with ⟨e0,eb⟩|⟨e0,eb⟩ <;> rw [eb] at ho
    ·simp only [cond_true,OpR.ok.injEq] at ho
     obtain ⟨rfl,rfl⟩:=ho
     subst e0
     have hns0:ns=[]:=List.eq_nil_of_length_eq_zero (by simpa using hnsl)
     subst hns0
     refine Yes.goes hr ⟨_,append_room_eq h0 ht0 h1 ht1 hd1 hi s1 s5n (W':=W) (by simp [storeCells]) (by omega),?_⟩
     exact .slo hbn hlc hroom
    ·simp only [cond_false] at ho
     cases hin:(Nat.beq es i.size && Nat.ble (off+(len+n)*i.size) m) with
     |true=>
      rw [hin] at ho
      simp only [cond_true,OpR.ok.injEq] at ho
      obtain ⟨rfl,rfl⟩:=ho
      simp only [Bool.and_eq_true] at hin
      have hes:=Nat.eq_of_beq_eq_true hin.1
      have hle:=Nat.le_of_ble_eq_true hin.2
      subst hes
      have hl:len+n≤c:=by
       obtain ⟨ca,fz,b1,b2,b3,b4,b5,b6⟩:=hr.blk b _ hb
       have h1:(len+n)*i.size≤c*i.size:=by omega
       exact Nat.le_of_mul_le_mul_right h1 (by omega)
      obtain ⟨W',r,p,q⟩:=storeCells_run (P:=P) hr hb s3 s4 (show off+len*i.size+new.length≤m by rw [s2,Nat.add_assoc,← Nat.add_mul];exact hle)
      refine ⟨E,W',_,append_room_eq h0 ht0 h1 ht1 hd1 hi s1 s5n r hl,p,q,?_⟩
      exact .slo hbn hl hroom
     |false=>
     rw [hin] at ho
     simp only [cond_false] at ho
     obtain ⟨hc,ho2⟩:=bif_ok ho
     clear ho
     simp only [Bool.and_eq_true] at hc
     obtain ⟨⟨⟨⟨⟨hop,hoff⟩,hm⟩,hes⟩,hlim⟩,hel⟩:=hc
     have hoff:=Nat.eq_of_beq_eq_true hoff
     have hm:=Nat.eq_of_beq_eq_true hm
     have hes:=Nat.eq_of_beq_eq_true hes
     have hlim:=Nat.le_of_ble_eq_true hlim
     have hel:=Nat.eq_of_beq_eq_true hel
     subst hoff;subst hes;subst hel
     simp only [OpR.ok.injEq] at ho2
     obtain ⟨rfl,rfl⟩:=ho2
     by_cases hle:len+n≤c
     ·
      obtain ⟨ca,fz,b1,b2,b3,b4,b5,b6⟩:=hr.blk b _ hb
      have hca:(len+n)*i.size≤ca.size:=by
       rw [b3]
       exact Nat.le_trans (Nat.mul_le_mul_right _ hle) (by rw [← hroom];omega)
      have hsplit:(len+n)*i.size=len*i.size+n*i.size:=Nat.add_mul ..
      obtain ⟨W',r1,r2,r3,r4⟩:=run_storeCells (P:=P) ns W ca e' fz 0 b1 (by omega) (fun j hj1 hj2=>b6 j (by omega)) s4 (off:=len*i.size)
      obtain ⟨p,q⟩:=hr.move (W':=W') hb (x:=.cells ((len+n)*i.size) d (wr cs new m) e' true) r2 r4 fun hk=>by
       refine ⟨wrA ca ns (len*i.size+0),fz,by rw [Env.add_β];exact r3,by rw [wrA_size];exact hca,by rw [wrA_size,Env.add_csz];exact b3,fun e=>(by cases e),fun j hj=>?_,fun j hj=>b6 j (by rw [wrA_size] at hj;exact hj)⟩
       rw [wrA_get _ _ _ _ (by omega),get_wr,Nat.add_zero,hnsl,s2,← hm]
       by_cases hin:len*i.size≤j∧j < len*i.size+n*i.size
       ·rw [if_pos hin,if_pos hin]
        have hlt:j - len*i.size < new.length:=by omega
        obtain ⟨z,hz,hv⟩:=s3.get (List.getElem?_eq_getElem hlt)
        refine ⟨z,hz,s4 z (List.mem_of_getElem? hz),?_⟩
        rw [List.getElem?_eq_getElem hlt]
        exact hv.mono (E.le_add _ _) hk
       ·rw [if_neg hin,if_neg hin]
        obtain ⟨z,hz,hfz,hv⟩:=b5 j (by omega)
        exact ⟨z,hz,hfz,hv.mono (E.le_add _ _) hk⟩
      refine ⟨_,W',_,append_room_eq h0 ht0 h1 ht1 hd1 hi s1 s5n (by simpa using r1) hle,.add q,p,?_⟩
      have:=VR.slo (E:=E.add (E.β b) (E.csz b)) (W:=W') (b:=h.next) (off:=0) (len:=len+n) (es:=i.size) (c:=c) (hr.nx_lt _ _) hle (by rw [hr.csz_new];exact hroom)
      rw [hr.β_new] at this
      exact this
     ·
      have hs:slCells i.size h (.sl b 0 len i.size none)=some (rdCells d cs (len*i.size) 0):=by
       simp only [slCells,hb,rd,Nat.zero_add,hm]
       rw [Nat.ble_eq_true_of_le (Nat.le_refl _)];rfl
      obtain ⟨_,o2,os,o3,o4,o5⟩:=slCells_run (P:=P) (hr.of_heap (W:=W) (W':=W.drew) ⟨rfl,rfl,rfl⟩) (hx.of_heap (W:=W) (W':=W.drew) ⟨rfl,rfl,rfl⟩) hs rfl
      have o5n:=o5 len (Nat.le_refl _)
      have hosl:os.length=len*i.size:=by rw [← o3.length,o2]
      rw [List.take_of_length_le (by omega)] at o5n
      obtain ⟨E',W',z,g1,g2,g3,g4⟩:=append_grow (tt:=tt) (hr.del b) h0 ht0 h1 ht1 hd1 hi hz hzs s1 d5n o5n (d3.of_heap (W:=W.drew) (W':=W) ⟨rfl,rfl,rfl⟩) d4 (o3.of_heap (W:=W.drew) (W':=W) ⟨rfl,rfl,rfl⟩) o4 o2 s2 (by omega) hlim
      refine ⟨E',W',z,g1,g2,?_,g4⟩
      refine g3.change ?_
      rintro ⟨c',fz,b1,b2,b3,b4,b5,b6⟩
      refine ⟨c',fz,b1,b2,b3,b4,fun j hj=>?_,b6⟩
      obtain ⟨z,hz1,hz2,hz3⟩:=b5 j hj
      refine ⟨z,hz1,hz2,?_⟩
      rw [get_wr] at hz3
      rw [get_wr]
      have hsplit:(len+n)*i.size=len*i.size+n*i.size:=Nat.add_mul ..
      have hrl:(rdCells d cs (len*i.size) 0).length=len*i.size:=rdCells_length ..
      rw [if_pos (by rw [List.length_append,hrl,s2];omega),Nat.sub_zero] at hz3
      by_cases hin:m≤j∧j < m+new.length
      ·rw [if_pos hin]
       rw [List.getElem?_append_right (by omega),hrl,hm] at hz3
       have hlt:j - m < new.length:=by omega
       rw [List.getElem?_eq_getElem hlt] at hz3 ⊢
       exact hz3
      ·rw [if_neg hin]
       have hjm:j < len*i.size:=by omega
       rw [List.getElem?_append_left (by omega),rdCells_get _ _ _ _ _ hjm] at hz3
       simpa using hz3
  ·cases ho
 ·cases ho
end Go.Proofs.YtmadknpaljaecaaGreatDoor.Ev
namespace Go.Proofs.YtmadknpaljaecaaGreatDoor.Ev
open Go
section
variable {P:Program} {E:Env} {W:World} {h:Heap}
theorem rep_eq_repL (z:List AV):∀ n,repL z n=rep n z
 |0=>rfl
 |n+1=>by simp [repL,rep,rep_eq_repL z n]
theorem cpy_run (hr:HR E W h) {ats:Array TypeId} {t0 e:TypeId} {size:Nat} {tt:TypeId} (h0:ats[0]? =some t0) (ht0:P.underlying t0=some (.slice e)) (hs:sizeT P e=some size)
  {b off len es:Nat} {cap:Option Nat} {ay:AV} {x y:Value} (hx:VR E W (.sl b off len es cap) x) (hy:VR E W ay y) {m n el:Nat} {new:List AV} {d:AV} {cs:T AV} {op:Bool}
  (hm:lenOf ay=some m) (hnew:slCells size h ay=some new) (hb:h.get b=some (.cells n d cs el op)) (hle:off+min m len*size≤n):
  Goes1 P E W (Builtin.copy_ ats tt #[x,y]) (.int .i64 (.ofNat (min m len))) (h.set b (.cells n d (wr cs (new.take (min m len*size)) off) el op)):=by
 obtain ⟨c,rfl,hbn,hlc⟩:=hx.sl_inv
 obtain ⟨ti,hti,rfl⟩:=sizeT_some hs
 obtain ⟨s1,s2,ns,s3,s4,s5⟩:=slCells_run (P:=P) hr hy hnew hm
 have s5n:=s5 (min m len) (Nat.min_le_left _ _)
 have htl:(new.take (min m len*ti.size)).length=min m len*ti.size:=by
  rw [List.length_take,s2];exact Nat.min_eq_left (Nat.mul_le_mul_right _ (Nat.min_le_left _ _))
 obtain ⟨W',r,p,q⟩:=storeCells_run (P:=P) hr hb (s3.take (min m len*ti.size)) (fun z hz=>s4 z (List.mem_of_mem_take hz)) (by rw [htl];exact hle)
 refine ⟨E,W',goInt (min m len:Nat),?_,p,q,.int⟩
 have hmin:Nat.min m len=min m len:=rfl
 simp [Builtin.copy_,h0,run_underlying ht0,s1,run_sizeOf hti,hmin,s5n,r]
theorem freeze_new {W:World} {cells:Array Value} {e:TypeId} {W1:World} (hw:W1.heap=W.heap.push (.cells cells e)) (hc:1≠0):
  (W1.freeze ⟨W.heap.size,cells.size,none⟩ 1).heap=W.heap.push (.cells cells e (cells.size,cells.size+1)):=by
 unfold World.freeze
 rw [if_neg hc]
 apply Array.ext
 ·simp [hw]
 ·intro i h1 h2
  simp only [Array.size_push] at h2
  simp only [Array.getElem_modify,hw]
  by_cases hi:W.heap.size=i
  ·subst hi;simp
  ·simp only [hi,if_false]
   rw [Array.getElem_push_lt (by omega),Array.getElem_push_lt (by omega)]
theorem cvSB_run (hr:HR E W h) {s d e:TypeId} (hsd:P.underlying s=some .string) (hd:P.underlying d=some (.slice e)) (he:P.underlying e=some (.int .u8)) {x:ByteArray}:
  Goes1 P E W (convert s d (.string x)) (.sl h.next 0 (BStr.ofBytes x.data.toList).n 1 none)
   (h.new (.cells (BStr.ofBytes x.data.toList).n .undef (wr .nil (byteAVs (BStr.ofBytes x.data.toList).bytes) 0) e true)):=by
 have hn:(BStr.ofBytes x.data.toList).n=x.size:=by rw [BStr.ofBytes_n];simp
 rw [hn]
 let cap:=grownCap W x.size 0 e
 have hcap:x.size≤cap:=Nat.le_add_right _ _
 let cells:Array Value:=x.data.map (fun b:UInt8=>Value.int .u8 (b.toNat:Int))++Array.replicate (cap - x.size) (Value.int .u8 0)
 have hsz:cells.size=cap:=by
  show (x.data.map (fun b:UInt8=>Value.int .u8 (b.toNat:Int))++Array.replicate (cap - x.size) (Value.int .u8 0)).size=cap
  have:x.data.size=x.size:=rfl
  simp only [Array.size_append,Array.size_map,Array.size_replicate,this];omega
 let W1:World:=W.drew.alloc (.cells cells e)
 let W':World:=W1.freeze ⟨W.heap.size,cells.size,none⟩ 1
 have hw:W'.heap=W.heap.push (.cells cells e (cells.size,cells.size+1)):=freeze_new (W:=W) (W1:=W1) rfl (by decide)
 have hbl:(byteAVs (BStr.ofBytes x.data.toList).bytes).length=x.size:=by rw [byteAVs_map,BStr.bytes_eq];simp
 obtain ⟨p,q⟩:=newCells_run (E:=E) (W:=W) (W':=W') hr (cells:=cells) (e:=e) (n:=x.size) (op:=true) (fz:=(cells.size,cells.size+1)) (bytes_VRs x.data.toList)
  (fun z hz=>by simp only [List.mem_map] at hz;obtain ⟨b,_,rfl⟩:=hz;trivial) hbl
  (by
   show (x.data.map (fun b:UInt8=>Value.int .u8 (b.toNat:Int))++Array.replicate (cap - x.size) (Value.int .u8 0)).toList.take x.size=_
   rw [Array.toList_append,List.take_append_of_le_length (by simp)]
   rw [List.take_of_length_le (by simp)];simp)
  (fun e=>by cases e) (fun i hi hi2=>by simp only at hi2;omega) ⟨hw,freeze_out W1 _ _⟩
 refine ⟨_,W',.slice (some ⟨W.heap.size,0,none⟩) x.size cap,?_,q,p,?_⟩
 ·have hsh:(W1.shape? W.heap.size)=some (e,cells.size):=by
   show (match (W.heap.push (.cells cells e))[W.heap.size]? with|some (.cells c elem _)=>some (elem,c.size)|_=>none)=_
   simp
  simp only [convert,Sem.run_bind,run_underlying hsd,run_underlying hd,run_underlying he,Result.andThen_ok,Conv.stringToBytes,run_choose,forced_appendCap,Bool.false_eq_true,if_false,newRow,run_newObj,Sem.run_pure,markStringish,run_shape]
  have e1:(({ W with drawn:=W.drawn+1 }:World).heap.push (.cells cells e))=W1.heap:=rfl
  show Result.andThen (Sem.run P (match W1.shape? W.heap.size with
   |some (_,n)=>freeze ⟨W.heap.size,n,none⟩ 1
   |_=>pure ()) W1) _=_
  rw [hsh]
  rfl
 ·have:=VR.slo (E:=E.add W.heap.size cells.size) (W:=W') (b:=h.next) (off:=0) (len:=x.size) (es:=1) (c:=cap) (hr.nx_lt _ _) hcap (by rw [hr.csz_new,hsz];omega)
  rw [hr.β_new] at this
  exact this
theorem bytesOf_some {E:Env} {W:World}:∀ (l:List AV) (xs:List Value) (pre:List UInt8) (s:BStr),VRs E W l xs→bytesOf l (BStr.ofBytes pre)=some s→
  ∃ bs:List UInt8,xs=bs.map (fun b=>Value.int .u8 (b.toNat:Int))∧s=BStr.ofBytes (pre++bs)
 |[],_,pre,s,.nil,h=>by simp [bytesOf] at h;exact ⟨[],rfl,by simp [h]⟩
 |v::r,_,pre,s,.cons (x:=x) (xs:=xs) hv hr,h=>by
  simp only [bytesOf] at h
  split at h
  ·rename_i n
   have:=hv.int_inv;subst this
   rcases blt_cases n 256 with ⟨hl,eb⟩|⟨hl,eb⟩ <;> rw [eb] at h
   ·simp only [cond_true] at h
    have e1:n=(n.toUInt8).toNat:=by simp [Nat.toUInt8];omega
    rw [e1,BStr.push_eq] at h
    obtain ⟨bs,h1,h2⟩:=bytesOf_some r xs (pre++[n.toUInt8]) s hr h
    refine ⟨n.toUInt8::bs,?_,by rw [h2];simp⟩
    rw [h1,List.map_cons,← e1];rfl
   ·cases h
  ·cases h
theorem empty_ofBytes:BStr.empty=BStr.ofBytes []:=rfl
theorem cvBS_run (hr:HR E W h) {s d e:TypeId} (hsd:P.underlying s=some (.slice e)) (hd:P.underlying d=some .string) (he:P.underlying e=some (.int .u8)) {a:AV} {x:Value} (hx:VR E W a x) (hns:∀ s,a≠.str s)
  {cs:List AV} {str:BStr} (hc:slCells 1 h a=some cs) (hb:bytesOf cs .empty=some str):Yes P E W (convert s d x) (.str str):=by
 have hlen:∃ n,lenOf a=some n:=by
  cases a <;> simp only [slCells] at hc <;> first|(cases hc;done)|exact ⟨_,rfl⟩|skip
 obtain ⟨n,hn⟩:=hlen
 obtain ⟨s1,s2,xs,s3,s4,s5⟩:=slCells_run (P:=P) hr hx hc hn
 rw [empty_ofBytes] at hb
 obtain ⟨bs,h1,h2⟩:=bytesOf_some cs xs [] str s3 hb
 subst h1;subst h2
 have hbl:bs.length=n:=by have:=s3.length;rw [s2] at this;simpa using this.symm
 have s5n:=s5 n (Nat.le_refl _)
 rw [List.take_of_length_le (by simp [hbl])] at s5n
 have fold:∀ (l:List UInt8) (acc:ByteArray),(l.map fun b=>(b.toNat:Int)).foldl (fun (r:ByteArray) (n:Int)=>r.push (UInt8.ofNat n.toNat)) acc=⟨acc.data++l.toArray⟩:=by
  intro l
  induction l with
  |nil=>intro acc;cases acc;simp
  |cons b r ih=>intro acc;simp only [List.map_cons,List.foldl_cons,ih];congr 1;simp [ByteArray.push]
 have shape:(x=.slice none 0 0)∨∃ ad len c,x=.slice (some ad) len c:=by
  cases hx <;> simp only [lenOf] at hn <;> first|(cases hn;done)|exact .inl rfl|exact .inr ⟨_,_,_,rfl⟩|(exact absurd rfl (hns _))
 rcases shape with rfl|⟨ad,len,c,rfl⟩
 ·have:n=0:=by simp [Builtin.lenOf] at s1;omega
  subst this
  have:bs=[]:=List.eq_nil_of_length_eq_zero hbl
  subst this
  exact ⟨.string .empty,by rw [run_convert_bytes_string W s d e _ _ _ hsd he hd];rfl,.str rfl⟩
 ·have:len=n:=by simp [Builtin.lenOf] at s1;exact s1
  subst this
  refine ⟨.string ⟨bs.toArray⟩,?_,.str (by simp)⟩
  rw [run_convert_bytes_string W s d e _ _ _ hsd he hd]
  have hld:(loadCells ad len).run P W=.ok ((bs.map fun b=>(b.toNat:Int)).map (Value.int .u8)).toArray W:=by
   have:=s5n
   simp only [Builtin.firstCells,Nat.mul_one] at this
   rw [this];simp
  rw [run_bytesToString W ad len c _ hld,fold]
  simp
theorem mksl_run (hr:HR E W h) {t e:TypeId} {i:TypeInfo} {z:List AV} {l c:Nat} {kl kc:IntKind} (ht:P.underlying t=some (.slice e)) (hi:P.info? e=some i) (hz:zcells P e=some z) (hs0:i.size≠0)
  (hc:c≤limOf i.bytes) (hl:l≤c) {n:Nat} {d:AV} {tr:T AV} (hn:n=c*i.size) (htr:∀ j,j < n→(tr.get j).getD d=(rep c z)[j]?.getD .undef):
  Goes1 P E W (Instr.makeSlice t (.int kl (l:Int)) (.int kc (c:Int))) (.sl h.next 0 l i.size (some c)) (h.new (.cells n d tr e false)):=by
 obtain ⟨i',v,hi',hv,h1,h2,h3,h4⟩:=zcells_some (E:=E) (W:=W) hz
 have:i' =i:=by rw [hi] at hi';exact (Option.some.inj hi').symm
 subst this
 obtain ⟨hl1,hl2⟩:=limOf_le hc
 obtain ⟨zr1,zr2⟩:=zero_row h3 h2 c
 let cells:Array Value:=(Array.range (c*v.cells.size)).map (v.cells[· % v.cells.size]!)
 have hsz:cells.size=c*i'.size:=by simp [cells,h1]
 let W':World:=W.alloc (.cells cells e)
 obtain ⟨p,q⟩:=new_run (E:=E) (W:=W) (W':=W') hr (cells:=cells) (e:=e) (n:=n) (d:=d) (l:=tr) (op:=false) (fz:=(0,0)) (by omega) (fun _=>by omega)
  (fun j hj=>by
   have hj2:j < (rep c z).length:=by rw [rep_length,h4];omega
   obtain ⟨x,hx,hvr⟩:=zr1.get (List.getElem?_eq_getElem hj2)
   refine ⟨x,by rw [← Array.getElem?_toList];exact hx,zr2 x (List.mem_of_getElem? hx),?_⟩
   rw [htr j hj,List.getElem?_eq_getElem hj2]
   exact hvr) (fun i _ hi=>absurd hi.2 (Nat.not_lt_zero i)) ⟨rfl,rfl,rfl⟩
 refine ⟨_,W',.slice (some ⟨W.heap.size,0,none⟩) l c,?_,q,p,?_⟩
 ·have hw1:IntKind.i64.wrap (l:Int)=l:=wrap_i64 (by omega) (by omega)
  have hw2:IntKind.i64.wrap (c:Int)=c:=wrap_i64 (by omega) (by omega)
  have hb1:¬ ((i'.bytes:Int)*(c:Int) > 2 ^ 48):=by
   have:((i'.bytes*c:Nat):Int)≤((2 ^ 44:Nat):Int):=by rw [Nat.mul_comm];exact Int.ofNat_le.2 hl1
   have e2:((i'.bytes*c:Nat):Int)=(i'.bytes:Int)*(c:Int):=Int.natCast_mul ..
   rw [← e2]
   omega
  have e2:(Array.range (c*i'.size)).map (v.cells[· % v.cells.size]!)=cells:=by simp [cells,h1]
  by_cases h0:c*i'.size=0
  ·have e3:(Array.range (c*i'.size)).map ((#[]:Array Value)[· % (#[]:Array Value).size]!)=cells:=by
    have:cells.size=0:=by omega
    rw [Array.eq_empty_of_size_eq_zero this,h0];simp
   simp only [Instr.makeSlice,Sem.run_bind,run_underlying ht,Result.andThen_ok,asInt,asIntOf,Sem.run_pure,run_typeInfo hi,hw1,hw2]
   rw [if_neg (by simp only [Bool.or_eq_true,decide_eq_true_eq];omega)]
   simp only [Sem.run_bind,Sem.run_pure,Result.andThen_ok,run_askRoom,run_sizeOf hi,Int.toNat_natCast]
   rw [if_pos h0]
   simp only [Sem.run_bind,Sem.run_pure,Result.andThen_ok,e3,newRow,run_newObj]
   rfl
  ·simp only [Instr.makeSlice,Sem.run_bind,run_underlying ht,Result.andThen_ok,asInt,asIntOf,Sem.run_pure,run_typeInfo hi,hw1,hw2]
   rw [if_neg (by simp only [Bool.or_eq_true,decide_eq_true_eq];omega)]
   simp only [Sem.run_bind,Sem.run_pure,Result.andThen_ok,run_askRoom,run_sizeOf hi,Int.toNat_natCast]
   rw [if_neg h0]
   simp only [Sem.run_bind,Sem.run_pure,Result.andThen_ok,run_zeroValue hi hv,e2,newRow,run_newObj]
   rfl
 ·have:=VR.slc (E:=E.add W.heap.size cells.size) (W:=W') (b:=h.next) (off:=0) (len:=l) (es:=i'.size) (c:=c) (hr.nx_lt _ _) hl
  rw [hr.β_new] at this
  exact this
end
end Go.Proofs.YtmadknpaljaecaaGreatDoor.Ev
namespace Go.Proofs.YtmadknpaljaecaaGreatDoor.Ev
open Go
section
variable {P:Program} {E:Env} {W:World} {h:Heap}
theorem get_bang (x:ByteArray) (i:Nat) (h:i < x.data.toList.length):(x.get! i).toNat=(BStr.ofBytes x.data.toList).at_ i:=by
 rw [BStr.at_eq _ _ h]
 have h':i < x.data.size:=by simpa using h
 have:x.get! i=x.data[i]!:=rfl
 rw [this,getElem!_pos x.data i h']
 simp
def dec (b0:Nat) (c1 c2 c3:Bool) (a1 a2 a3:Nat):Nat×Nat:=
 bif Nat.blt b0 0x80 then (b0,1)
 else bif Nat.beq (b0 / 32) 6 && c1 then
  bif Nat.ble 0x80 ((b0 % 32)*64+a1 % 64) then ((b0 % 32)*64+a1 % 64,2) else (0xFFFD,1)
 else bif Nat.beq (b0 / 16) 14 && c1 && c2 then
  bif Nat.ble 0x800 ((b0 % 16)*4096+(a1 % 64)*64+a2 % 64) && Go.Utf8.valid ((b0 % 16)*4096+(a1 % 64)*64+a2 % 64:Nat) then ((b0 % 16)*4096+(a1 % 64)*64+a2 % 64,3) else (0xFFFD,1)
 else bif Nat.beq (b0 / 8) 30 && c1 && c2 && c3 then
  bif Nat.ble 0x10000 ((b0 % 8)*262144+(a1 % 64)*4096+(a2 % 64)*64+a3 % 64) && Go.Utf8.valid ((b0 % 8)*262144+(a1 % 64)*4096+(a2 % 64)*64+a3 % 64:Nat) then
   ((b0 % 8)*262144+(a1 % 64)*4096+(a2 % 64)*64+a3 % 64,4) else (0xFFFD,1)
 else (0xFFFD,1)
theorem dec_congr (b0:Nat) (c1 c2 c3:Bool) (a1 a2 a3 b1 b2 b3:Nat) (h1:c1=true→a1=b1) (h2:c2=true→a2=b2) (h3:c3=true→a3=b3):
  dec b0 c1 c2 c3 a1 a2 a3=dec b0 c1 c2 c3 b1 b2 b3:=by
 unfold dec
 cases c1 with
 |false=>simp only [Bool.and_false,Bool.false_and,cond_false]
 |true=>
  rw [h1 rfl]
  cases c2 with
  |false=>simp only [Bool.and_false,Bool.false_and,cond_false]
  |true=>
   rw [h2 rfl]
   cases c3 with
   |false=>simp only [Bool.and_false,Bool.false_and,cond_false]
   |true=>rw [h3 rfl]
theorem bif_if {α:Type} {c:Bool} {p:Prop} [Decidable p] (h:c=true↔p) (x y:α):(bif c then x else y)=if p then x else y:=by
 cases c with
 |true=>rw [if_pos (h.1 rfl)];rfl
 |false=>rw [if_neg (fun hp=>by have:=h.2 hp;cases this)];rfl
theorem beq_iff (a b:Nat):Nat.beq a b=(a == b):=by
 rw [BStr.beq_eq_decide];rfl
theorem ble_iff (a b:Nat):Nat.ble a b=decide (a≤b):=by
 rcases ble_cases a b with ⟨h,e⟩|⟨h,e⟩ <;> rw [e] <;> simp <;> omega
theorem decode_dec (x:ByteArray) (i:Nat):Go.Utf8.decode x i=dec (x.get! (i+0)).toNat (decide (i+1 < x.size) && ((x.get! (i+1)).toNat / 64 == 2)) (decide (i+2 < x.size) && ((x.get! (i+2)).toNat / 64 == 2)) (decide (i+3 < x.size) && ((x.get! (i+3)).toNat / 64 == 2))
  (x.get! (i+1)).toNat (x.get! (i+2)).toNat (x.get! (i+3)).toNat:=by
 unfold Go.Utf8.decode dec
 simp only
 rw [bif_if (p:=(x.get! (i+0)).toNat < 0x80) (by rw [Nat.blt_eq])]
 rw [beq_iff,beq_iff,beq_iff,ble_iff,ble_iff,ble_iff]
 simp only [cond_eq_ite,Go.Utf8.runeError]
 split
 ·rfl
 ·split
  ·simp only [decide_eq_true_eq]
  ·split
   ·rfl
   ·split <;> rfl
theorem decodeB_eq (x:ByteArray) (i:Nat) (h:i < x.data.toList.length):decodeB (BStr.ofBytes x.data.toList) i=Go.Utf8.decode x i:=by
 have hsz:x.size=x.data.toList.length:=by simp
 have hn:(BStr.ofBytes x.data.toList).n=x.data.toList.length:=BStr.ofBytes_n _
 have g0:=get_bang x (i+0) (by omega)
 have cont:∀ k,(Nat.blt (i+k) (BStr.ofBytes x.data.toList).n && Nat.beq ((BStr.ofBytes x.data.toList).at_ (i+k) / 64) 2)=(decide (i+k < x.size) && ((x.get! (i+k)).toNat / 64 == 2)):=by
  intro k
  rw [hn,hsz,beq_iff,BStr.blt_eq_decide]
  by_cases hl:i+k < x.data.toList.length
  ·rw [get_bang x (i+k) hl]
  ·simp only [hl,decide_false,Bool.false_and]
 have used:∀ k,(decide (i+k < x.size) && ((x.get! (i+k)).toNat / 64 == 2))=true→(BStr.ofBytes x.data.toList).at_ (i+k)=(x.get! (i+k)).toNat:=by
  intro k hk
  simp only [Bool.and_eq_true,decide_eq_true_eq] at hk
  exact (get_bang x (i+k) (by omega)).symm
 rw [decode_dec]
 have e:decodeB (BStr.ofBytes x.data.toList) i=dec ((BStr.ofBytes x.data.toList).at_ (i+0))
  (Nat.blt (i+1) (BStr.ofBytes x.data.toList).n && Nat.beq ((BStr.ofBytes x.data.toList).at_ (i+1) / 64) 2)
  (Nat.blt (i+2) (BStr.ofBytes x.data.toList).n && Nat.beq ((BStr.ofBytes x.data.toList).at_ (i+2) / 64) 2)
  (Nat.blt (i+3) (BStr.ofBytes x.data.toList).n && Nat.beq ((BStr.ofBytes x.data.toList).at_ (i+3) / 64) 2)
  ((BStr.ofBytes x.data.toList).at_ (i+1)) ((BStr.ofBytes x.data.toList).at_ (i+2)) ((BStr.ofBytes x.data.toList).at_ (i+3)):=rfl
 rw [e,cont,cont,cont,← g0]
 exact dec_congr _ _ _ _ _ _ _ _ _ _ (used 1) (used 2) (used 3)
theorem rngS_run (hr:HR E W h) {t:TypeId} {x:ByteArray} (ht:P.underlying t=some .string):
  Goes1 P E W (Instr.range t (.string x)) (.ref h.next 0) (h.new (.siter (BStr.ofBytes x.data.toList) 0)):=by
 let W':World:=W.alloc (.stringIter x 0)
 obtain ⟨p,q⟩:=hr.new (W':=W') (o:=.stringIter x 0) (x:=.siter (BStr.ofBytes x.data.toList) 0) 0 ⟨rfl,rfl,rfl⟩ fun _ hk hget=>⟨x,rfl,by rw [Env.add_β];exact hget⟩
 refine ⟨_,W',.pointer (some ⟨W.heap.size,0,none⟩),by simp [Instr.range,run_underlying ht,W'],.add q,p,?_⟩
 have:=VR.ref (E:=E.add W.heap.size 0) (W:=W') (b:=h.next) (off:=0) (hr.nx_lt _ _)
 rw [hr.β_new] at this
 exact this
theorem nxtS_run (hr:HR E W h) {b:Nat} {s:BStr} {pos:Nat} {tt:TypeId} {x:Value} (hx:VR E W (.ref b 0) x) (hb:h.get b=some (.siter s pos)) {v:AV} {h':Heap}
  (he:(bif Nat.blt pos s.n then
    .ok (.tup [.bool true,.int .i64 (.ofNat pos),.int .i32 (.ofNat (decodeB s pos).1)]) (h.set b (.siter s (pos+(decodeB s pos).2)))
   else .ok (.tup [.bool false]) h:OpR)=.ok v h'):Goes1 P E W (Instr.next x true tt) v h':=by
 obtain ⟨rfl,hbn⟩:=hx.ref_inv
 obtain ⟨y,rfl,hy⟩:=hr.blk b _ hb
 have hn:(BStr.ofBytes y.data.toList).n=y.data.toList.length:=BStr.ofBytes_n _
 have hsz:y.size=y.data.toList.length:=by simp
 have hlt:=hr.lt_size hb
 have hget:(getObj (E.β b)).run P W=.ok (.stringIter y pos) W:=by simp [getObj,Sem.run,hy]
 rcases blt_cases pos (BStr.ofBytes y.data.toList).n with ⟨hl,e⟩|⟨hl,e⟩ <;> rw [e] at he
 ·simp only [cond_true,OpR.ok.injEq] at he
  obtain ⟨rfl,rfl⟩:=he
  rw [decodeB_eq y pos (by omega)]
  let W':World:={ W with heap:=W.heap.setIfInBounds (E.β b) (.stringIter y (pos+(Go.Utf8.decode y pos).2)) }
  have hset:(setObj (E.β b) (.stringIter y (pos+(Go.Utf8.decode y pos).2))).run P W=.ok () W':=by
   simp [setObj,Sem.run,hy,W']
  obtain ⟨p,q⟩:=hr.put (W':=W') hb (x:=.siter (BStr.ofBytes y.data.toList) (pos+(Go.Utf8.decode y pos).2)) ⟨by simp [W'],rfl,rfl⟩
   (fun i hi=>by simp [W',Array.getElem?_setIfInBounds_ne (Ne.symm hi)]) fun hk=>⟨y,rfl,by simp [W',hlt]⟩
  refine ⟨E,W',.tuple #[.bool true,goInt pos,.int .i32 (Go.Utf8.decode y pos).1],?_,⟨.refl E,q,fun _ h=>.inl h,fun _ h=>h⟩,p,.tup (.cons .bool (.cons .int (.cons .int .nil)))⟩
  have hps:pos < y.size:=by omega
  simp only [Instr.next,Sem.run_bind,hget,Result.andThen_ok]
  rw [if_pos hps]
  simp only [Sem.run_bind,hset,Result.andThen_ok,Sem.run_pure]
 ·simp only [cond_false,OpR.ok.injEq] at he
  obtain ⟨rfl,rfl⟩:=he
  refine Yes.goes hr ⟨.tuple #[.bool false],?_,.tup (.cons .bool .nil)⟩
  have hps:¬ pos < y.size:=by omega
  simp only [Instr.next,Sem.run_bind,hget,Result.andThen_ok]
  rw [if_neg hps]
  rfl
theorem us_run (hr:HR E W h) {ats:Array TypeId} {t0 e:TypeId} {tt:TypeId} (h0:ats[0]? =some t0) (h2:ats.size=2) (ht0:P.underlying t0=some (.pointer e)) (hc:P.cellsOf e=1) {ap:AV} {n:Nat} {x:Value}
  {v:AV} {h':Heap} (he:(match ap with
  |.nilPtr=>bif Nat.beq n 0 then .ok (.str .empty) h else .no 95
  |.ref b off=>bif Nat.beq n 0 then .ok (.str .empty) h else
   bif Nat.ble n maxStr && Nat.beq off 0 then
   (match h.get b with
   |some (.cells m d cs e' _)=>bif Nat.beq e' e then (match rd m d cs 0 n with
    |some l=>(match bytesOf l .empty with
     |some s=>.ok (.str s) (h.del b)
     |none=>.no 92)
    |none=>.no 93) else .no 94
   |_=>.no 94) else .no 94
  |_=>.no 95:OpR)=.ok v h') (hx:VR E W ap x):Goes1 P E W (Builtin.unsafeString_ ats tt #[x,.int .i64 n]) v h':=by
 obtain ⟨t1,rfl⟩:∃ t1,ats=#[t0,t1]:=by
  have:ats.toList=[t0,ats[1]]:=by
   apply List.ext_getElem?
   intro i
   match i with
   |0=>simpa using h0
   |1=>simp [h2]
   |i+2=>simp [h2]
  exact ⟨ats[1],Array.toList_inj.1 (by simpa using this)⟩
 cases ap <;> try (exact OpR.noConfusion he)
 case nilPtr=>
  have:=hx.nilPtr_inv;subst this
  rcases beq_cases n 0 with ⟨e0,eb⟩|⟨e0,eb⟩ <;> rw [eb] at he
  ·simp only [cond_true,OpR.ok.injEq] at he
   obtain ⟨rfl,rfl⟩:=he
   subst e0
   exact Yes.goes hr ⟨_,Go.Lib.run_unsafeString_none W t0 t1 tt none,.str rfl⟩
  ·cases he
 case ref b off=>
  obtain ⟨rfl,hbn⟩:=hx.ref_inv
  rcases beq_cases n 0 with ⟨e0,eb⟩|⟨e0,eb⟩ <;> rw [eb] at he
  ·simp only [cond_true,OpR.ok.injEq] at he
   obtain ⟨rfl,rfl⟩:=he
   subst e0
   exact Yes.goes hr ⟨_,Go.Lib.run_unsafeString_none W t0 t1 tt _,.str rfl⟩
  ·simp only [cond_false] at he
   obtain ⟨hcond,he2⟩:=bif_ok he
   clear he
   simp only [Bool.and_eq_true] at hcond
   have hm:=Nat.le_of_ble_eq_true hcond.1
   have hoff:=Nat.eq_of_beq_eq_true hcond.2
   subst hoff
   split at he2
   ·rename_i m d cs e' op hb
    obtain ⟨hee,he3⟩:=bif_ok he2
    clear he2
    have hee:=Nat.eq_of_beq_eq_true hee
    subst hee
    split at he3
    ·rename_i l hrd
     split at he3
     ·rename_i s hbs
      simp only [OpR.ok.injEq] at he3
      obtain ⟨rfl,rfl⟩:=he3
      obtain ⟨h3,rfl⟩:=rd_some hrd
      have hblk:=hr.blk b _ hb
      obtain ⟨xs,h4,h5,h6⟩:=hblk.reads h3
      rw [empty_ofBytes] at hbs
      obtain ⟨bs,h7,h8⟩:=bytesOf_some _ xs [] s h5 hbs
      subst h7;subst h8
      have hbl:bs.length=n:=by simpa using h6
      obtain ⟨c,fz,b1,b2,_⟩:=hblk
      have hsh:W.shape? (E.β b)=some (e',c.size):=by simp [World.shape?,b1]
      have hmx:n≤9223372036854775807:=by unfold maxStr at hm;omega
      have hrun:=Go.Lib.run_unsafeString_row W t0 t1 tt e' ht0 hc (E.β b) c.size hsh bs (by intro hb0;subst hb0;simp at hbl;omega) (by omega) (by omega) (fun j y hj=>by
       obtain ⟨c',e'',fz',h9,h10⟩:=h4
       rw [Addr_add]
       refine cell?_of h9 ?_
       exact (h10 j (.int .u8 y.toNat) (by rw [List.getElem?_map,hj];rfl)).1)
      rw [hbl] at hrun
      let W':World:=W.freeze ⟨E.β b,0,none⟩ n
      have hheap:W'.heap.size=W.heap.size∧∀ i,i≠E.β b→W'.heap[i]? =W.heap[i]?:=by
       constructor
       ·show (W.freeze ⟨E.β b,0,none⟩ n).heap.size=_
        unfold World.freeze;rw [if_neg e0];simp
       ·intro i hi
        show (W.freeze ⟨E.β b,0,none⟩ n).heap[i]? =_
        unfold World.freeze;rw [if_neg e0]
        simp only [Array.getElem?_modify]
        rw [if_neg (Ne.symm hi)]
      have hk:Keep E W W':=⟨by rw [hheap.1];exact Nat.le_refl _,fun i hi=>hheap.2 i fun e=>hr.apart b _ hb (e ▸ hi),freeze_out W _ _⟩
      refine ⟨E,W',.string ⟨bs.toArray⟩,hrun,⟨.refl E,hk,fun _ h=>.inl h,fun _ h=>h⟩,?_,.str (by simp)⟩
      refine (hr.del b).other hk fun b' y hy=>hheap.2 _ fun e=>?_
      rw [Heap.get_del] at hy
      split at hy
      ·cases hy
      ·rename_i hne;exact hne (hr.inj _ _ _ _ hy hb e)
     ·cases he3
    ·cases he3
   ·cases he2
end
end Go.Proofs.YtmadknpaljaecaaGreatDoor.Ev
namespace Go.Proofs.YtmadknpaljaecaaGreatDoor.Ev
open Go
section
variable {P:Program} {E:Env} {W:World} {h:Heap}
theorem mkMap_run (hr:HR E W h) {t:TypeId}:Goes1 P E W (Instr.makeMap t none) (.mref h.next) (h.new (.amap [] [])):=by
 let W':World:=W.alloc (.map #[] 0)
 obtain ⟨p,q⟩:=hr.new (W':=W') (o:=.map #[] 0) (x:=.amap [] []) 0 ⟨rfl,rfl,rfl⟩ fun _ hk hget=>⟨#[],0,by rw [Env.add_β];exact hget,.nil,.nil,fun e he=>by simp at he⟩
 refine ⟨_,W',.map (some W.heap.size),by simp [Instr.makeMap,W'],.add q,p,?_⟩
 have:=VR.mref (E:=E.add W.heap.size 0) (W:=W') (b:=h.next) (hr.nx_lt _ _)
 rw [hr.β_new] at this
 exact this
theorem lenM_run (hr:HR E W h) {ats:Array TypeId} {t0 k v:TypeId} {tt:TypeId} (h0:ats[0]? =some t0) (ht0:P.underlying t0=some (.map k v)) {ax:AV} {x:Value} (hx:VR E W ax x) {p:List AV×List AV} (hm:mapOf h ax=some p):
  Yes P E W (Builtin.len_ ats tt #[x]) (.int .i64 (.ofNat p.1.length)):=by
 cases ax <;> simp only [mapOf] at hm <;> try (cases hm;done)
 case nilMap=>
  have:=hx.nilMap_inv;subst this
  cases hm
  exact ⟨goInt 0,by simp [Builtin.len_,h0,run_underlying ht0],.int⟩
 case mref b=>
  obtain ⟨rfl,_⟩:=hx.mref_inv
  split at hm
  ·rename_i ks vs hb
   cases hm
   obtain ⟨es,clock,h1,h2,h3,_⟩:=hr.blk b _ hb
   have hget:(getObj (E.β b)).run P W=.ok (.map es clock) W:=by simp [getObj,Sem.run,h1]
   have hl:=h2.length
   simp at hl
   exact ⟨goInt es.size,by simp [Builtin.len_,h0,run_underlying ht0,hget],by rw [hl];exact .int⟩
  ·cases hm
 case imap w ks vs=>
  cases hm
  cases hx with
  |imap h1 h2 h3 h4 h5 h6=>
   rename_i r clock es
   have hget:(getObj r).run P W=.ok (.map es clock) W:=by simp [getObj,Sem.run,h4]
   have hl:=h5.length
   simp at hl
   exact ⟨goInt es.size,by simp [Builtin.len_,h0,run_underlying ht0,hget],by rw [hl];exact .int⟩
theorem digits_size:∀ (n t:Nat) (acc:Array Value),(Extern.BytealgMakeNoZero.digits n t acc).size=acc.size+n
 |0,t,acc=>rfl
 |n+1,t,acc=>by simp [Extern.BytealgMakeNoZero.digits,digits_size n];omega
theorem digits_flat:∀ (n t:Nat) (acc:Array Value),(∀ y∈acc.toList,Flat y)→∀ y∈(Extern.BytealgMakeNoZero.digits n t acc).toList,Flat y
 |0,t,acc,h=>h
 |n+1,t,acc,h=>by
  simp only [Extern.BytealgMakeNoZero.digits]
  refine digits_flat n _ _ fun y hy=>?_
  simp only [Array.toList_push,List.mem_append,List.mem_singleton] at hy
  rcases hy with hy|rfl
  ·exact h y hy
  ·trivial
theorem mkNZ_run (hr:HR E W h) {ps rs:Array TypeId} {t e:TypeId} {n:Nat} (h0:rs[0]? =some t) (ht:P.underlying t=some (.slice e)) (hn:n≤maxStr):
  Goes1 P E W (Extern.BytealgMakeNoZero.makeNoZero ps rs #[.int .i64 (n:Int)]) (.sl h.next 0 n 1 none) (h.new (.cells n .dead .nil e true)):=by
 let cap:=grownCap W n 0 e
 have hcap:n≤cap:=Nat.le_add_right _ _
 let q2:Question:=.extern "internal/bytealg.MakeNoZero.bytes" 0
 let bytes:=q2.cut (W.drew.tape W.drew.drawn q2)
 let cells:=Extern.BytealgMakeNoZero.digits cap bytes #[]
 have hsz:cells.size=cap:=by simp [cells,digits_size]
 let W':World:=W.drew.drew.alloc (.cells cells e)
 obtain ⟨p,q⟩:=new_run (E:=E) (W:=W) (W':=W') hr (cells:=cells) (e:=e) (n:=n) (d:=.dead) (l:=.nil) (op:=true) (fz:=(0,0)) (by omega) (fun h=>by cases h)
  (fun j hj=>by
   have hlt:j < cells.size:=by omega
   exact ⟨cells[j],by simp [hlt],digits_flat cap bytes #[] (by simp) _ (Array.getElem_mem_toList hlt),.dead⟩) (fun i _ hi=>absurd hi.2 (Nat.not_lt_zero i)) ⟨rfl,rfl,rfl⟩
 refine ⟨_,W',.slice (some ⟨W.heap.size,0,none⟩) n cap,?_,q,p,?_⟩
 ·have hdef:Extern.BytealgMakeNoZero.makeNoZero ps rs #[.int .i64 (n:Int)]=(do
   let some t:=rs[0]?|stuck "bytealg.MakeNoZero: no result type"
   let .slice elem ← underlying t|stuck "bytealg.MakeNoZero: slice type expected"
   if (n:Int) < 0 || (n:Int) > 2 ^ 48 then runtimePanic (.error "makeslice: len out of range")
   let cap ← choose (.appendCap (n:Int).toNat 0 elem)
   askRoom cap
   let bytes ← choose (.extern "internal/bytealg.MakeNoZero.bytes" 0)
   let a ← newRow elem (Extern.BytealgMakeNoZero.digits cap bytes #[])
   pure (.slice (some a) (n:Int).toNat cap)):=rfl
  rw [hdef]
  simp only [h0,Sem.run_bind,run_underlying ht,Result.andThen_ok]
  rw [if_neg (by unfold maxStr at hn;simp only [Bool.or_eq_true,decide_eq_true_eq];omega)]
  simp only [Sem.run_bind,Sem.run_pure,Result.andThen_ok,Int.toNat_natCast,run_choose,forced_appendCap,Bool.false_eq_true,if_false,run_askRoom,newRow,run_newObj,Question.forced]
  rfl
 ·have:=VR.slo (E:=E.add W.heap.size cells.size) (W:=W') (b:=h.next) (off:=0) (len:=n) (es:=1) (c:=cap) (hr.nx_lt _ _) hcap (by rw [hr.csz_new,hsz];omega)
  rw [hr.β_new] at this
  exact this
theorem liesAt_self {e:TypeId} (hc:P.cellsOf e≠0) (count:Nat) (hn:1≤count):liesAt P P.depth e count 0 e 1=true:=by
 have hd:P.depth=(2*(P.types.size+Made.depth)+1)+1:=rfl
 rw [hd]
 simp only [liesAt,Bool.or_eq_true]
 left
 rw [hd]
 simp [rowAt,hc,hn,sameLayout]
theorem cellsOf_size {t:TypeId} {n:Nat} (h:sizeT P t=some n):P.cellsOf t=n:=by
 unfold sizeT at h
 unfold Program.cellsOf
 rw [h];rfl
theorem cvP_run (hr:HR E W h) {s d:TypeId} {s' d':TypeDesc} {t n:Nat} (hs:P.underlying s=some s') (hd:P.underlying d=some d') (hsd:(s' =.pointer t∧d' =.unsafePointer)∨(s' =.unsafePointer∧d' =.pointer t))
  (hn:sizeT P t=some n) (h0:n≠0) {ax v:AV} {x:Value} {h':Heap}
  (he:(match ax with
   |.ref b 0=>(match h.get b with
    |some (.cells m _ _ e _)=>bif Nat.beq e t && Nat.ble n m then .ok (.ref b 0) h else .no 73
    |_=>.no 74)
   |.nilPtr=>.ok .nilPtr h
   |_=>.no 75:OpR)=.ok v h') (hx:VR E W ax x):Goes1 P E W (convert s d x) v h':=by
 obtain ⟨ti,hti,hsz⟩:=sizeT_some hn
 cases ax <;> try (exact OpR.noConfusion he)
 case nilPtr=>
  cases he
  have:=hx.nilPtr_inv;subst this
  refine Yes.goes hr ⟨.pointer none,?_,.nilPtr⟩
  rcases hsd with ⟨rfl,rfl⟩|⟨rfl,rfl⟩ <;> simp [convert,run_underlying hs,run_underlying hd,Conv.unsafePointer]
 case ref b off=>
  cases off with
  |succ o=>cases he
  |zero=>
   simp only at he
   split at he
   ·rename_i m dd cs e op hb
    obtain ⟨hc,he2⟩:=bif_ok he
    clear he
    simp only [Bool.and_eq_true] at hc
    have hee:=Nat.eq_of_beq_eq_true hc.1
    have hle:=Nat.le_of_ble_eq_true hc.2
    subst hee
    cases he2
    obtain ⟨rfl,hbn⟩:=hx.ref_inv
    obtain ⟨c,fz,b1,b2,_⟩:=hr.blk b _ hb
    have hsh:W.shape? (E.β b)=some (e,c.size):=by simp [World.shape?,b1]
    have hcs:P.cellsOf e=n:=cellsOf_size hn
    have hcnt:1≤c.size / n:=(Nat.le_div_iff_mul_le (by omega)).2 (by omega)
    have hlies:=liesAt_self (P:=P) (e:=e) (by omega) (c.size / P.cellsOf e) (by rw [hcs];exact hcnt)
    have hseen:(Conv.seenAt ⟨E.β b,0,none⟩).run P W=.ok ⟨E.β b,0,none⟩ W:=by
     simp [Conv.seenAt,viewAt,hsh]
    have hz:ti.size≠0:=by omega
    have hc0:c.size≠0:=by omega
    refine Yes.goes hr ⟨.pointer (some ⟨E.β b,0,none⟩),?_,hx⟩
    rcases hsd with ⟨rfl,rfl⟩|⟨rfl,rfl⟩
    ·simp [convert,run_underlying hs,run_underlying hd,Conv.unsafePointer,hseen,cellsIn,hsh,run_sizeOf hti,hz,hc0]
    ·simp [convert,run_underlying hs,run_underlying hd,Conv.unsafePointer,hseen,run_sizeOf hti,hz,variablesAt,hsh,hlies]
   ·cases he
end
end Go.Proofs.YtmadknpaljaecaaGreatDoor.Ev
namespace Go.Proofs.YtmadknpaljaecaaGreatDoor.Ev
open Go
def kindOk (s:Bool) (d:TypeDesc):Prop:=match s with
 |true=>d=.string
 |false=>∃ k,d=.int k
theorem eqk_now {E:Env} {W:World} {s:Bool} {d:TypeDesc} (hd:kindOk s d) {a b:AV} {x y:Value} (hx:VR E W a x) (hy:VR E W b y) {r:Bool} (h:eqk s a b=some r):Instr.sameNow d x y=some r:=by
 unfold eqk at h
 split at h
 ·cases h
  obtain ⟨x',rfl,rfl⟩:=hx.str_inv
  obtain ⟨y',rfl,rfl⟩:=hy.str_inv
  have hd:d=.string:=hd
  subst hd
  simp only [Instr.sameNow,BStr.beq_eq]
  congr 1
  rw [Bool.eq_iff_iff,Go.MapKept.bytes_beq]
  simp only [beq_iff_eq]
  constructor
  ·intro e;rw [e]
  ·intro e
   exact ByteArray.ext (Array.toList_inj.1 e)
 ·rw [hx.int_inv,hy.int_inv]
  obtain ⟨kk,rfl⟩:∃ k,d=.int k:=hd
  rename_i k a k' b
  by_cases hk:k=k'
  ·rw [if_pos hk] at h;cases h
   simp only [Instr.sameNow,if_pos hk,eqI_eq]
  ·rw [if_neg hk] at h;cases h
 ·cases h
theorem eqk_bits {E:Env} {W:World} {s:Bool} {a b:AV} {x y:Value} (hx:VR E W a x) (hy:VR E W b y) (h:eqk s a b=some true):Instr.sameBits 10000 y x=true:=by
 unfold eqk at h
 split at h
 ·simp only [Option.some.injEq] at h
  obtain ⟨x',rfl,rfl⟩:=hx.str_inv
  obtain ⟨y',rfl,rfl⟩:=hy.str_inv
  rw [BStr.beq_eq] at h
  have:=ByteArray.ext (Array.toList_inj.1 (eq_of_beq h))
  subst this
  show (x' == x')=true
  exact (Go.MapKept.bytes_beq x' x').2 rfl
 ·rw [hx.int_inv,hy.int_inv]
  rename_i k a k' b
  by_cases hk:k=k'
  ·rw [if_pos hk] at h
   simp only [Option.some.injEq] at h
   subst hk
   rw [eqI_sound h]
   simp [Instr.sameBits]
  ·rw [if_neg hk] at h;cases h
 ·cases h
theorem findNow_run {E:Env} {W:World} {s:Bool} {d:TypeDesc} (hd:kindOk s d) {key:AV} {kx:Value} (hk:VR E W key kx):∀ (ks vs:List AV) (es:List MapEntry) (i:Nat) (r:Option AV),VRs E W ks (es.map (·.key))→VRs E W vs (es.map (·.val))→
  findKV s key ks vs=some r→∃ o,Instr.findNow d kx es i=some o∧(match r,o with
   |none,none=>True
   |some v,some (_,x)=>VR E W v x
   |_,_=>False)
 |[],[],[],i,r,_,_,h=>by simp [findKV] at h;subst h;exact ⟨none,rfl,trivial⟩
 |k'::ks,v'::vs,e::es,i,r,.cons h1 h2,.cons h3 h4,h=>by
  simp only [findKV] at h
  split at h
  ·rename_i heq
   cases h
   simp only [Instr.findNow,eqk_now hd hk h1 heq]
   exact ⟨_,rfl,h3⟩
  ·rename_i heq
   simp only [Instr.findNow,eqk_now hd hk h1 heq]
   exact findNow_run hd hk ks vs es (i+1) r h2 h4 h
  ·cases h
 |[],v::vs,[],i,r,_,h3,h=>by simp [findKV] at h
 |k::ks,[],_::_,i,r,_,h3,h=>by simp [findKV] at h
theorem keyS_some {P:Program} {k:TypeId} {s:Bool} (h:keyS P k=some s):∃ d,P.underlying k=some d∧kindOk s d:=by
 unfold keyS at h
 split at h
 ·rename_i hu;cases h;exact ⟨.string,hu,rfl⟩
 ·rename_i k' hu;cases h;exact ⟨.int k',hu,k',rfl⟩
 ·cases h
theorem checkKey_run {P:Program} {W:World} {s:Bool} {d:TypeDesc} {k:TypeId} (hd:P.underlying k=some d) (hk:kindOk s d) (e:Bool) (n:Nat) (x:Value):(Instr.checkKey e (n+1) k x).run P W=.ok () W:=by
 cases s with
 |true=>
  have:d=.string:=hk
  subst this
  simp [Instr.checkKey,run_underlying hd]
 |false=>
  obtain ⟨k',rfl⟩:∃ k,d=.int k:=hk
  simp [Instr.checkKey,run_underlying hd]
theorem mapOf_es {P:Program} {E:Env} {W:World} {h:Heap} (hr:HR E W h) {ax:AV} {x:Value} (hx:VR E W ax x) {p:List AV×List AV} (hm:mapOf h ax=some p):
  ∃ es:Array MapEntry,VRs E W p.1 (es.toList.map (·.key))∧VRs E W p.2 (es.toList.map (·.val))∧
   ((x=.map none∧es=#[])∨∃ r clock,x=.map (some r)∧(getObj r).run P W=.ok (.map es clock) W):=by
 cases ax <;> simp only [mapOf] at hm <;> try (cases hm;done)
 case nilMap=>
  cases hm
  exact ⟨#[],.nil,.nil,.inl ⟨hx.nilMap_inv,rfl⟩⟩
 case mref b=>
  obtain ⟨rfl,_⟩:=hx.mref_inv
  split at hm
  ·rename_i ks vs hb
   cases hm
   obtain ⟨es,clock,h1,h2,h3,_⟩:=hr.blk b _ hb
   exact ⟨es,h2,h3,.inr ⟨_,clock,rfl,by simp [getObj,Sem.run,h1]⟩⟩
  ·cases hm
 case imap w ks vs=>
  cases hm
  cases hx with
  |imap h1 h2 h3 h4 h5 h6=>
   rename_i r clock es
   exact ⟨es,h5,h6,.inr ⟨r,clock,rfl,by simp [getObj,Sem.run,h4]⟩⟩
theorem lkp_run {P:Program} {E:Env} {W:World} {h:Heap} (hr:HR E W h) {t k e:TypeId} {s:Bool} (ht:P.underlying t=some (.map k e)) (hs:keyS P k=some s) {zero:AV} {i:TypeInfo} {zv:Value} (hi:P.info? e=some i) (hz:i.zero=some zv) (hzr:VR E W zero zv)
  {ax ai:AV} {x ix:Value} (hx:VR E W ax x) (hix:VR E W ai ix) {p:List AV×List AV} (hm:mapOf h ax=some p) {r:Option AV} (hf:findKV s ai p.1 p.2=some r) (ok:Bool):
  Yes P E W (Instr.lookup t x ix ok) (match r with|some v=>bif ok then .tup [v,.bool true] else v|none=>bif ok then .tup [zero,.bool false] else zero):=by
 obtain ⟨d,hd,hk⟩:=keyS_some hs
 obtain ⟨es,h1,h2,hes⟩:=mapOf_es (P:=P) hr hx hm
 obtain ⟨o,h3,h4⟩:=findNow_run hk hix p.1 p.2 es.toList 0 r h1 h2 hf
 have hck:=checkKey_run (P:=P) (W:=W) hd hk es.isEmpty 9999 ix
 have hfk:(Instr.findKey k ix es.toList).run P W=.ok o W:=by simp [Instr.findKey,run_underlying hd,h3]
 unfold Yes
 rcases hes with ⟨rfl,rfl⟩|⟨rr,clock,rfl,hget⟩
 ·have hck':(Instr.checkKey (#[]:Array MapEntry).isEmpty 10000 k ix).run P W=.ok () W:=hck
  cases r with
  |none=>
   cases o with
   |some _=>exact h4.elim
   |none=>
    cases ok
    ·exact ⟨zv,by simp only [Instr.lookup,Sem.run_bind,run_underlying ht,Result.andThen_ok,Sem.run_pure,hck',hfk,run_zeroValue hi hz];rfl,hzr⟩
    ·exact ⟨.tuple #[zv,.bool false],by simp only [Instr.lookup,Sem.run_bind,run_underlying ht,Result.andThen_ok,Sem.run_pure,hck',hfk,run_zeroValue hi hz];rfl,.tup (.cons hzr (.cons .bool .nil))⟩
  |some v=>
   cases o with
   |none=>exact h4.elim
   |some q=>
    obtain ⟨j,w⟩:=q
    cases ok
    ·exact ⟨w,by simp only [Instr.lookup,Sem.run_bind,run_underlying ht,Result.andThen_ok,Sem.run_pure,hck',hfk];rfl,h4⟩
    ·exact ⟨.tuple #[w,.bool true],by simp only [Instr.lookup,Sem.run_bind,run_underlying ht,Result.andThen_ok,Sem.run_pure,hck',hfk];rfl,.tup (.cons h4 (.cons .bool .nil))⟩
 ·have hck':(Instr.checkKey es.isEmpty 10000 k ix).run P W=.ok () W:=hck
  cases r with
  |none=>
   cases o with
   |some _=>exact h4.elim
   |none=>
    cases ok
    ·exact ⟨zv,by simp only [Instr.lookup,Sem.run_bind,run_underlying ht,hget,Result.andThen_ok,Sem.run_pure,hck',hfk,run_zeroValue hi hz];rfl,hzr⟩
    ·exact ⟨.tuple #[zv,.bool false],by simp only [Instr.lookup,Sem.run_bind,run_underlying ht,hget,Result.andThen_ok,Sem.run_pure,hck',hfk,run_zeroValue hi hz];rfl,.tup (.cons hzr (.cons .bool .nil))⟩
  |some v=>
   cases o with
   |none=>exact h4.elim
   |some q=>
    obtain ⟨j,w⟩:=q
    cases ok
    ·exact ⟨w,by simp only [Instr.lookup,Sem.run_bind,run_underlying ht,hget,Result.andThen_ok,Sem.run_pure,hck',hfk];rfl,h4⟩
    ·exact ⟨.tuple #[w,.bool true],by simp only [Instr.lookup,Sem.run_bind,run_underlying ht,hget,Result.andThen_ok,Sem.run_pure,hck',hfk];rfl,.tup (.cons h4 (.cons .bool .nil))⟩
def upd (kx vx:Value) (e:MapEntry):MapEntry:={ e with key:=kx,val:=vx }
theorem born_modify {es:Array MapEntry} {j clock:Nat} {kx vx:Value} (h:∀ e∈es.toList,e.born < clock):∀ e∈(es.modify j (upd kx vx)).toList,e.born < clock:=by
 intro e he
 obtain ⟨i,hi⟩:=List.mem_iff_getElem?.1 he
 simp only [Array.getElem?_toList,Array.getElem?_modify] at hi
 split at hi
 ·obtain ⟨x,hx,rfl⟩:=Option.map_eq_some_iff.1 hi
  exact h x (List.mem_of_getElem? (by simpa using hx))
 ·exact h e (List.mem_of_getElem? (by simpa using hi))
theorem insKV_run {E:Env} {W:World} {s:Bool} {d:TypeDesc} (hd:kindOk s d) {key val:AV} {kx vx:Value} (hk:VR E W key kx) (hv:VR E W val vx):∀ (ks vs:List AV) (es:List MapEntry) (i:Nat) (p:List AV×List AV),
  VRs E W ks (es.map (·.key))→VRs E W vs (es.map (·.val))→insKV s key val ks vs=some p→
  (∃ j x old,Instr.findNow d kx es i=some (some (i+j,x))∧es[j]? =some old∧Instr.sameBits 10000 old.key kx=true∧
   VRs E W p.1 ((es.modify j (upd kx vx)).map (·.key))∧VRs E W p.2 ((es.modify j (upd kx vx)).map (·.val)))∨
  (Instr.findNow d kx es i=some none∧∀ b,VRs E W p.1 ((es++[(⟨kx,vx,b⟩:MapEntry)]).map (·.key))∧VRs E W p.2 ((es++[(⟨kx,vx,b⟩:MapEntry)]).map (·.val)))
 |[],[],[],i,p,_,_,h=>by
  simp only [insKV,Option.some.injEq] at h;subst h
  exact .inr ⟨rfl,fun b=>⟨.cons hk .nil,.cons hv .nil⟩⟩
 |k'::ks,v'::vs,e::es,i,p,.cons h1 h2,.cons h3 h4,h=>by
  simp only [insKV] at h
  split at h
  ·rename_i heq
   cases h
   refine .inl ⟨0,e.val,e,?_,rfl,eqk_bits hk h1 heq,.cons hk h2,.cons hv h4⟩
   simp only [Instr.findNow,eqk_now hd hk h1 heq,Nat.add_zero]
  ·rename_i heq
   obtain ⟨q,hq,rfl⟩:=Option.map_eq_some_iff.1 h
   rcases insKV_run hd hk hv ks vs es (i+1) q h2 h4 hq with ⟨j,x,old,g1,g2,g3,g4,g5⟩|⟨g1,g2⟩
   ·refine .inl ⟨j+1,x,old,?_,by simpa using g2,g3,.cons h1 g4,.cons h3 g5⟩
    simp only [Instr.findNow,eqk_now hd hk h1 heq]
    rw [g1];congr 3;omega
   ·refine .inr ⟨?_,fun b=>⟨.cons h1 (g2 b).1,.cons h3 (g2 b).2⟩⟩
    simp only [Instr.findNow,eqk_now hd hk h1 heq]
    exact g1
  ·cases h
 |[],v::vs,[],i,p,_,h3,h=>by simp [insKV] at h
 |k::ks,[],_::_,i,p,_,h3,h=>by simp [insKV] at h
theorem ins_run {P:Program} {E:Env} {W:World} {h:Heap} (hr:HR E W h) {t k e:TypeId} {s:Bool} (ht:P.underlying t=some (.map k e)) (hs:keyS P k=some s) {b:Nat} {ak av:AV} {x kx vx:Value} (hx:VR E W (.mref b) x)
  (hk:VR E W ak kx) (hv:VR E W av vx) {ks vs:List AV} (hb:h.get b=some (.amap ks vs)) {p:List AV×List AV} (hp:insKV s ak av ks vs=some p):
  ∃ W',(Instr.mapUpdate t x kx vx).run P W=.ok () W'∧Stp E W E W'∧HR E W' (h.set b (.amap p.1 p.2)):=by
 obtain ⟨rfl,_⟩:=hx.mref_inv
 obtain ⟨d,hd,hko⟩:=keyS_some hs
 obtain ⟨es,clock,b1,b2,b3,b4⟩:=hr.blk b _ hb
 have hck:(Instr.checkKey false 10000 k kx).run P W=.ok () W:=checkKey_run hd hko false 9999 kx
 have hget:(getObj (E.β b)).run P W=.ok (.map es clock) W:=by simp [getObj,Sem.run,b1]
 have hlt:=hr.lt_size hb
 have fin:∀ (es':Array MapEntry) (clock':Nat),VRs E W p.1 (es'.toList.map (·.key))→VRs E W p.2 (es'.toList.map (·.val))→(∀ e∈es'.toList,e.born < clock')→
   (setObj (E.β b) (.map es' clock')).run P W=.ok () { W with heap:=W.heap.setIfInBounds (E.β b) (.map es' clock') }∧
   Stp E W E { W with heap:=W.heap.setIfInBounds (E.β b) (.map es' clock') }∧HR E { W with heap:=W.heap.setIfInBounds (E.β b) (.map es' clock') } (h.set b (.amap p.1 p.2)):=by
  intro es' clock' h1 h2 h3
  obtain ⟨q1,q2⟩:=hr.put (W':={ W with heap:=W.heap.setIfInBounds (E.β b) (.map es' clock') }) hb (x:=.amap p.1 p.2) ⟨by simp,rfl,rfl⟩
   (fun i hi=>by simp [Array.getElem?_setIfInBounds_ne (Ne.symm hi)]) fun hkp=>⟨es',clock',by simp [hlt],h1.mono (.refl E) hkp,h2.mono (.refl E) hkp,h3⟩
  exact ⟨by simp [setObj,Sem.run,b1],⟨.refl E,q2,fun _ h=>.inl h,fun _ h=>h⟩,q1⟩
 rcases insKV_run hko hk hv ks vs es.toList 0 p b2 b3 hp with ⟨j,z,old,g1,g2,g3,g4,g5⟩|⟨g1,g2⟩
 ·rw [Nat.zero_add] at g1
  have hfk:(Instr.findKey k kx es.toList).run P W=.ok (some (j,z)) W:=by simp [Instr.findKey,run_underlying hd,g1]
  have g2':es[j]? =some old:=by simpa using g2
  obtain ⟨f1,f2,f3⟩:=fin (es.modify j (upd kx vx)) clock (by simpa using g4) (by simpa using g5) (born_modify b4)
  refine ⟨_,?_,f2,f3⟩
  have hks:(Instr.keyThatStays (((es[j]?).map (·.key)).getD kx) kx).run P W=.ok kx W:=by
   rw [g2']
   simp [Instr.keyThatStays,g3]
  simp only [Instr.mapUpdate,Sem.run_bind,run_underlying ht,Result.andThen_ok,hget,hck,hfk,hks]
  exact f1
 ·have hfk:(Instr.findKey k kx es.toList).run P W=.ok none W:=by simp [Instr.findKey,run_underlying hd,g1]
  obtain ⟨f1,f2,f3⟩:=fin (es.push { key:=kx,val:=vx,born:=clock }) (clock+1) (by simpa using (g2 clock).1) (by simpa using (g2 clock).2) (by simp;exact fun e he=>he.elim (fun he=>Nat.lt_succ_of_lt (b4 e (by simpa using he))) (fun he=>by subst he;exact Nat.lt_succ_self _))
  refine ⟨_,?_,f2,f3⟩
  simp only [Instr.mapUpdate,Sem.run_bind,run_underlying ht,Result.andThen_ok,hget,hck,hfk]
  exact f1
end Go.Proofs.YtmadknpaljaecaaGreatDoor.Ev
namespace Go.Proofs.YtmadknpaljaecaaGreatDoor.Ev
open Go
def simple:XOp→Bool
 |.call ..|.callv ..|.panic _|.bad=>false
 |_=>true
theorem opR_some {o:Option AV} {h h':Heap} {w:Nat} {v:AV} (e:opR o h w=.ok v h'):o=some v∧h' =h:=opR_ok e
theorem mapO_two {α β:Type} {f:α→Option β} {l:List α} {x y:β} (h:mapO f l=some [x,y]):∃ a b,l=[a,b]∧f a=some x∧f b=some y:=by
 obtain ⟨h1,h2⟩:=mapO_get h
 match l,h1 with
 |[a,b],_=>
  obtain ⟨u,hu,hf⟩:=h2 0 a rfl
  obtain ⟨w,hw,hg⟩:=h2 1 b rfl
  simp at hu hw;subst hu;subst hw
  exact ⟨a,b,rfl,hf,hg⟩
theorem mapO_one {α β:Type} {f:α→Option β} {l:List α} {x:β} (h:mapO f l=some [x]):∃ a,l=[a]∧f a=some x:=by
 obtain ⟨h1,h2⟩:=mapO_get h
 match l,h1 with
 |[a],_=>
  obtain ⟨u,hu,hf⟩:=h2 0 a rfl
  simp at hu;subst hu
  exact ⟨a,rfl,hf⟩
section
variable {P:Program} {E:Env} {W:World} {h h':Heap} {σ:Operand→Value} {ρ:XO→AV} {v:AV}
theorem nil_goes {s:Sem Unit} {W':World} (hrun:s.run P W=.ok () W') (hs:Stp E W E W') (hr:HR E W' h'):Goes P E W (do s;pure Next.skip) .undef h':=
 ⟨E,W',.skip,undef,by simp [hrun],.inr ⟨rfl,rfl⟩,hs,hr,.undef⟩
theorem yes_next (hr:HR E W h) {s:Sem Value} (hy:Yes P E W s v) (e:h' =h):Goes P E W (do pure (Next.value (← s))) v h':=by
 subst e;exact (Yes.goes hr hy).next
variable (hρ:∀ X x,xo X=some x→VR E W (ρ x) (σ X)) (hr:HR E W h)
include hρ hr
theorem g_move {X:Operand} {x:XO} (hX:xo X=some x) (he:OpR.ok (ρ x) h=.ok v h'):Goes P E W (pure (.value (σ X))) v h':=by
 cases he
 exact ⟨E,W,_,_,rfl,.inl rfl,.refl E W,hr,hρ X x hX⟩
theorem g_pick {C A B:Operand} {c a b:XO} (hC:xo C=some c) (hA:xo A=some a) (hB:xo B=some b)
  (he:(match ρ c with|.bool true=>.ok (ρ a) h|.bool false=>.ok (ρ b) h|_=>.no 110:OpR)=.ok v h'):
  Goes P E W (do pure (.value (if ← asBool (σ C) then σ A else σ B))) v h':=by
 have hc:=hρ C c hC
 split at he
 ·rename_i e;rw [e] at hc;have:=hc.bool_inv;rw [this];cases he
  exact ⟨E,W,_,_,rfl,.inl rfl,.refl E W,hr,hρ A a hA⟩
 ·rename_i e;rw [e] at hc;have:=hc.bool_inv;rw [this];cases he
  exact ⟨E,W,_,_,rfl,.inl rfl,.refl E W,hr,hρ B b hB⟩
 ·cases he
theorem g_build {t:TypeId} {ps:Array (Nat×Operand)} {x:XOp} {call:CallT} (hc:(match zcells P t,P.underlying t with
  |some z,some (.struct fs)=>if fs.toList.all (fun f=>(sizeT P f.type).isSome) then (xparts (fieldAtP P fs) ps.toList).map fun l=>XOp.q (.build z l) else none
  |some z,some (.array _ e)=>match sizeT P e with
   |some s=>(xparts (fun i=>some (i*s,s)) ps.toList).map fun l=>.q (.build z l)
   |none=>none
  |_,_=>none)=some x) (he:xop call ρ h x=.ok v h'):Goes P E W (do pure (.value (← Instr.build t (ps.map fun (i,x)=>(i,σ x))))) v h':=by
 split at hc
 ·rename_i z fs hz ht
  split at hc
  ·rename_i hfs
   obtain ⟨l,hl,rfl⟩:=Option.map_eq_some_iff.1 hc
   obtain ⟨h1,h2⟩:=opR_ok (show opR ((fillParts ρ l z).map .agg) h 20=.ok v h' from he)
   obtain ⟨cs,h3,rfl⟩:=Option.map_eq_some_iff.1 h1
   exact yes_next hr (build_struct_run hρ hz ht hfs hl h3) h2
  ·cases hc
 ·rename_i z n e hz ht
  split at hc
  ·rename_i s hs
   obtain ⟨l,hl,rfl⟩:=Option.map_eq_some_iff.1 hc
   obtain ⟨h1,h2⟩:=opR_ok (show opR ((fillParts ρ l z).map .agg) h 20=.ok v h' from he)
   obtain ⟨cs,h3,rfl⟩:=Option.map_eq_some_iff.1 h1
   exact yes_next hr (build_array_run hρ hz ht hs hl h3) h2
  ·cases hc
 ·cases hc
theorem g_bsl {t:TypeId} {len:Nat} {ps:Array (Nat×Operand)} {x:XOp} {call:CallT} (hc:(match P.underlying t with
  |some (.slice e)=>match sizeT P e,zcells P e with
   |some s,some z=>if len*s≤2 ^ 24 then (xparts (fun i=>some (i*s,s)) ps.toList).map fun l=>XOp.h (.bsl e len (rep len z) l) else none
   |_,_=>none
  |_=>none)=some x) (he:xop call ρ h x=.ok v h'):Goes P E W (do pure (.value (← Instr.buildSlice t len (ps.map fun (i,x)=>(i,σ x))))) v h':=by
 split at hc
 ·rename_i e ht
  split at hc
  ·rename_i s z hs hz
   split at hc
   ·rename_i hle
    obtain ⟨l,hl,rfl⟩:=Option.map_eq_some_iff.1 hc
    simp only [xop,eHA,o_bsl] at he
    split at he
    ·rename_i cs hf
     simp only [newCells,OpR.ok.injEq] at he
     obtain ⟨rfl,rfl⟩:=he
     exact (bsl_run hρ hr ht hs hz hle hl hf).next
    ·cases he
   ·cases hc
  ·cases hc
 ·cases hc
theorem g_load {t:TypeId} {A:Operand} {x:XOp} {call:CallT} (hc:(match aggT P t,sizeT P t,xo A with|some g,some n,some x=>some (XOp.h (.ld g (if g then n else 1) x))|_,_,_=>none)=some x)
  (he:xop call ρ h x=.ok v h'):Goes P E W (do pure (.value (← Instr.loadAt t (σ A)))) v h':=by
 split at hc
 ·rename_i g n p hg hn hA
  cases hc
  have hp:=hρ A p hA
  simp only [xop,eHA,o_ld] at he
  split at he
  ·rename_i b off e
   rw [e] at hp
   split at he
   ·rename_i m d cs el op hb
    obtain ⟨h1,h2⟩:=opR_ok he
    exact yes_next hr (ld_ref_run hg hn hp (hr.blk b _ hb) h1) h2
   ·cases he
  ·rename_i w cs e
   rw [e] at hp
   obtain ⟨h1,h2⟩:=opR_ok he
   exact yes_next hr (ld_iptr_run hg hn hp h1) h2
  ·cases he
 ·cases hc
theorem g_store {t:TypeId} {A X:Operand} {x:XOp} {call:CallT} (hc:(match sizeT P t,xo A,xo X with|some n,some a,some v=>some (XOp.h (.st n a v))|_,_,_=>none)=some x)
  (he:xop call ρ h x=.ok v h'):Goes P E W (do Instr.storeAt t (σ A) (σ X);pure Next.skip) v h':=by
 split at hc
 ·rename_i n p y hn hA hX
  cases hc
  have hp:=hρ A p hA
  have hy:=hρ X y hX
  simp only [xop,eHA,o_st] at he
  split at he
  ·rename_i b off e
   rw [e] at hp
   split at he
   ·rename_i m d cs el op hb
    obtain ⟨hc,he2⟩:=bif_ok he
    simp only [Bool.and_eq_true] at hc
    cases he2
    obtain ⟨W',r,p,q⟩:=st_run (P:=P) hr hn hp hb hy (Nat.eq_of_beq_eq_true hc.1.1) (Nat.le_of_ble_eq_true hc.1.2) hc.2
    exact nil_goes r p q
   ·cases he
  ·cases he
 ·cases hc
omit hρ in
theorem g_nilchk {x:Value} {ax:AV} (he:(match ax with
 |.ref b off=>.ok (.ref b off) h
 |.iptr w cs=>.ok (.iptr w cs) h
 |.iface t v=>.ok (.iface t v) h
 |.fn f a b=>.ok (.fn f a b) h
 |_=>.no 8:OpR)=.ok v h') (hx:VR E W ax x) (s:Sem Next) (hs:(∃ a,x=.pointer (some a))∨(∃ t v,x=.iface t v)∨(∃ f a b,x=.func (.func f) a b)→s.run P W=.ok (.value x) W):Goes P E W s v h':=by
 cases ax <;> try (exact OpR.noConfusion he)
 case ref b off=>
  cases he
  exact ⟨E,W,_,x,hs (.inl ⟨_,hx.ref_inv.1⟩),.inl rfl,.refl E W,hr,hx⟩
 case iptr w cs=>
  cases he
  obtain ⟨bl,off,xs,e,_⟩:=hx.iptr_inv
  exact ⟨E,W,_,x,hs (.inl ⟨_,e⟩),.inl rfl,.refl E W,hr,hx⟩
 case iface t v=>
  cases he
  obtain ⟨y,e,_⟩:=hx.iface_inv
  exact ⟨E,W,_,x,hs (.inr (.inl ⟨_,_,e⟩)),.inl rfl,.refl E W,hr,hx⟩
 case fn f a b=>
  cases he
  obtain ⟨p,q,e,_⟩:=hx.fn_inv
  exact ⟨E,W,_,x,hs (.inr (.inr ⟨_,_,_,e⟩)),.inl rfl,.refl E W,hr,hx⟩
end
end Go.Proofs.YtmadknpaljaecaaGreatDoor.Ev
namespace Go.Proofs.YtmadknpaljaecaaGreatDoor.Ev
open Go
section
variable {P:Program} {E:Env} {W:World} {h h':Heap} {σ:Operand→Value} {ρ:XO→AV} {v:AV}
variable (hρ:∀ X x,xo X=some x→VR E W (ρ x) (σ X)) (hr:HR E W h)
include hρ hr
theorem g_bin {op:BinOp} {t:TypeId} {X Y:Operand} {x:XOp} {call:CallT} (hc:(match xo X,xo Y,P.underlying t with
  |some x',some y',some d=>(match op with
   |.eql|.neq=>if isScalar d then some (XOp.p (.bin op x' y')) else
    (match eqKind P d (isConstO X || isConstO Y) with
    |some k=>some (.p (.eq (op == .neq) k x' y'))
    |_=>none)
   |op=>some (.p (.bin op x' y')))
  |_,_,_=>none)=some x) (he:xop call ρ h x=.ok v h'):Goes P E W (do pure (.value (← (do eqGuard op t X Y (σ X) (σ Y);Go.binOp op t (σ X) (σ Y):Sem Value)))) v h':=by
 split at hc
 ·rename_i x' y' d hX hY hd
  have hx:=hρ X x' hX
  have hy:=hρ Y y' hY
  have bin:x=.p (.bin op x' y')→Goes P E W (do pure (.value (← (do eqGuard op t X Y (σ X) (σ Y);Go.binOp op t (σ X) (σ Y):Sem Value)))) v h':=by
   rintro rfl
   obtain ⟨h1,h2⟩:=opR_ok (show opR (binV op (ρ x') (ρ y')) h 1=.ok v h' from he)
   obtain ⟨z,W',h3,h4,h5⟩:=bin_run (P:=P) (op:=op) (t:=t) (X:=X) (Y:=Y) hx hy h1
   subst h2
   exact (show Goes1 P E W _ v h' from ⟨E,W',z,h3,.of_heap h4,hr.of_heap h4,h5.of_heap h4⟩).next
  have eq:(op=.eql∨op=.neq)→∀ k,eqKind P d (isConstO X || isConstO Y)=some k→x=.p (.eq (op == .neq) k x' y')→Goes P E W (do pure (.value (← (do eqGuard op t X Y (σ X) (σ Y);Go.binOp op t (σ X) (σ Y):Sem Value)))) v h':=by
   rintro hop k hk rfl
   simp only [xop,ePA,o_eq] at he
   split at he
   ·rename_i b hb
    cases he
    exact yes_next hr (eq_run hr hop hd hk hx hy hb) rfl
   ·cases he
  split at hc
  ·split at hc
   ·exact bin (Option.some.inj hc).symm
   ·split at hc
    ·rename_i k hk
     exact eq (.inl rfl) k hk (Option.some.inj hc).symm
    ·cases hc
  ·split at hc
   ·exact bin (Option.some.inj hc).symm
   ·split at hc
    ·rename_i k hk
     exact eq (.inr rfl) k hk (Option.some.inj hc).symm
    ·cases hc
  ·exact bin (Option.some.inj hc).symm
 ·cases hc
theorem g_convert {s d:TypeId} {X:Operand} {x:XOp} {call:CallT} (hc:(match P.underlying s,P.underlying d,xo X with
  |some s',some d',some x=>(match s',d' with
   |.int _,.int k=>some (XOp.p (.cvI k x))
   |.int _,.float k=>some (.q (.cvF k x))
   |.float _,.int k=>some (.q (.cvFI k x))
   |.float _,.float k=>some (.q (.cvFF k x))
   |.int _,.string=>some (.q (.cvIS x))
   |.string,.string=>some (.p (.sid x))
   |.string,.slice e=>(match P.underlying e with|some (.int .u8)=>some (.g (.cvSB e x))|_=>none)
   |.slice e,.string=>(match P.underlying e with|some (.int .u8)=>some (.g (.cvBS x))|_=>none)
   |.pointer t,.unsafePointer=>(match sizeT P t with|some n=>if n≠0 then some (.g (.cvP t n x)) else none|none=>none)
   |.unsafePointer,.pointer t=>(match sizeT P t with|some n=>if n≠0 then some (.g (.cvP t n x)) else none|none=>none)
   |_,_=>none)
  |_,_,_=>none)=some x) (he:xop call ρ h x=.ok v h'):Goes P E W (do pure (.value (← convert s d (σ X)))) v h':=by
 split at hc
 case h_2=>cases hc
 rename_i s' d' x' hs hd hX
 have hx:=hρ X x' hX
 split at hc
 ·cases hc
  simp only [xop,ePA,o_cvI] at he
  split at he
  ·rename_i k' n e;rw [e] at hx;rw [hx.int_inv];cases he
   exact yes_next hr (cvI_run hs hd) rfl
  ·cases he
 ·cases hc
  simp only [xop,ePB,o_cvF] at he
  split at he
  ·rename_i k' n e;rw [e] at hx;rw [hx.int_inv];cases he
   exact yes_next hr (cvF_run hs hd) rfl
  ·cases he
 ·cases hc
  simp only [xop,ePB,o_cvFI] at he
  split at he
  ·rename_i k' n e;rw [e] at hx;rw [hx.float_inv]
   split at he
   ·rename_i m hm
    split at he
    ·rename_i hk;cases he
     exact yes_next hr (cvFI_run hs hd hm hk) rfl
    ·cases he
   ·cases he
  ·cases he
 ·cases hc
  simp only [xop,ePB,o_cvFF] at he
  split at he
  ·rename_i k' n e;rw [e] at hx;rw [hx.float_inv]
   obtain ⟨h1,h2⟩:=cvFF_run (E:=E) (W:=W) hs hd he
   exact yes_next hr h2 h1
  ·cases he
 ·cases hc
  simp only [xop,ePB,o_cvIS] at he
  split at he
  ·rename_i k' n e;rw [e] at hx;rw [hx.int_inv];cases he
   exact yes_next hr (cvIS_run hs hd) rfl
  ·cases he
 ·cases hc
  simp only [xop,ePA] at he
  split at he
  ·rename_i n e;rw [e] at hx;obtain ⟨y,hy,rfl⟩:=hx.str_inv;rw [hy];cases he
   exact yes_next hr ⟨_,cvSS_run hs hd,.str rfl⟩ rfl
  ·cases he
 ·split at hc
  ·rename_i e he8
   cases hc
   simp only [xop,eHB,o_cvSB] at he
   split at he
   ·rename_i n e;rw [e] at hx;obtain ⟨y,hy,rfl⟩:=hx.str_inv;rw [hy]
    simp only [newCells,OpR.ok.injEq] at he
    obtain ⟨rfl,rfl⟩:=he
    exact (cvSB_run hr hs hd he8).next
   ·cases he
  ·cases hc
 ·split at hc
  ·rename_i e he8
   cases hc
   simp only [xop,eHB,o_cvBS] at he
   split at he
   ·cases he
   ·rename_i hns
    split at he
    ·rename_i cs hcs
     obtain ⟨h1,h2⟩:=opR_ok he
     obtain ⟨str,h3,rfl⟩:=Option.map_eq_some_iff.1 h1
     exact yes_next hr (cvBS_run hr hs hd he8 hx (fun s e=>hns s e) hcs h3) h2
    ·cases he
  ·cases hc
 ·split at hc
  ·rename_i t _ n hn
   split at hc
   ·rename_i h0
    cases hc
    exact (cvP_run hr hs hd (.inl ⟨rfl,rfl⟩) hn h0 he hx).next
   ·cases hc
  ·cases hc
 ·split at hc
  ·rename_i t _ n hn
   split at hc
   ·rename_i h0
    cases hc
    exact (cvP_run hr hs hd (.inr ⟨rfl,rfl⟩) hn h0 he hx).next
   ·cases hc
  ·cases hc
 ·cases hc
omit hr in
theorem mapO_vals {l:List Operand} {m:List XO} (h:mapO xo l=some m):VRs E W (m.map ρ) (l.map σ):=by
 obtain ⟨h1,h2⟩:=mapO_get h
 refine VRs.of_get (by simp [h1]) fun i v x hv hx=>?_
 rw [List.getElem?_map] at hv hx
 cases hl:l[i]? with
 |none=>rw [hl] at hx;cases hx
 |some X=>
  rw [hl] at hx;cases hx
  obtain ⟨y,hy,hX⟩:=h2 i X hl
  rw [hy] at hv;cases hv
  exact hρ X y hX
theorem g_makeFunc {f:FuncId} {A B:Array Operand} {x:XOp} {call:CallT} (hc:(match mapO xo A.toList,mapO xo B.toList with|some a,some b=>some (XOp.q (.mkF f a b))|_,_=>none)=some x)
  (he:xop call ρ h x=.ok v h'):Goes P E W (do pure (.value (← Instr.makeFunc (.func f) (A.map σ) (B.map σ)))) v h':=by
 split at hc
 ·rename_i a b ha hb
  cases hc;cases he
  exact yes_next hr ⟨.func (.func f) (A.map σ) (B.map σ),rfl,.fn (by simpa using mapO_vals hρ ha) (by simpa using mapO_vals hρ hb)⟩ rfl
 ·cases hc
theorem g_makeInterface {t:TypeId} {X:Operand} {x:XOp} {call:CallT} (hc:(match P.underlying t,xo X with
  |some d,some x=>(match d with|.interface _=>none|_=>some (XOp.q (.mkI t x)))
  |_,_=>none)=some x) (he:xop call ρ h x=.ok v h'):Goes P E W (do pure (.value (← Instr.makeInterface t (σ X)))) v h':=by
 split at hc
 ·rename_i d x' hd hX
  split at hc
  ·cases hc
  ·rename_i hni
   cases hc;cases he
   refine yes_next hr ⟨.iface t (σ X),?_,.iface (hρ X x' hX)⟩ rfl
   cases d <;> first|(exact absurd rfl (hni _))|simp [Instr.makeInterface,run_underlying hd]
 ·cases hc
theorem g_makeSlice {t:TypeId} {L C:Operand} {x:XOp} {call:CallT} (hc:(match P.underlying t with
  |some (.slice e)=>match P.info? e,zcells P e,xo L,xo C with
   |some i,some z,some l,some c=>if i.size≠0 then some (XOp.g (.mksl e i.size (limOf i.bytes) z l c)) else none
   |_,_,_,_=>none
  |_=>none)=some x) (he:xop call ρ h x=.ok v h'):Goes P E W (do pure (.value (← Instr.makeSlice t (σ L) (σ C)))) v h':=by
 split at hc
 ·rename_i e ht
  split at hc
  ·rename_i i z l c hi hz hL hC
   split at hc
   ·rename_i h0
    cases hc
    have hl:=hρ L l hL
    have hcc:=hρ C c hC
    simp only [xop,eHB,o_mksl] at he
    split at he
    ·cases he
    ·rename_i cn hcn
     obtain ⟨kc,e1,hle⟩:=natTo_some hcn hcc
     split at he
     ·cases he
     ·rename_i ln hln
      obtain ⟨kl,e2,hll⟩:=natTo_some hln hl
      obtain ⟨i',zv,hi',hv,h1,h2,h3,h4⟩:=zcells_some (E:=E) (W:=W) hz
      have:i' =i:=by rw [hi] at hi';exact (Option.some.inj hi').symm
      subst this
      rw [e1,e2]
      split at he
      ·rename_i z1
       obtain ⟨hs1,he2⟩:=bif_ok he
       clear he
       have hs1:=Nat.eq_of_beq_eq_true hs1
       cases he2
       have:=mksl_run (P:=P) hr (kl:=kl) (kc:=kc) ht hi hz h0 hle hll (n:=cn) (d:=z1) (tr:=.nil) (by rw [hs1];omega) (fun j hj=>by
        rw [rep_get [z1] (by simp) cn j (by simpa using hj)]
        simp [nil_get,Nat.mod_one])
       rw [hs1] at this
       exact this.next
      ·simp only [newCells,OpR.ok.injEq] at he
       obtain ⟨rfl,rfl⟩:=he
       rw [rep_eq_repL]
       refine (mksl_run (P:=P) hr (kl:=kl) (kc:=kc) ht hi hz h0 hle hll (n:=cn*i'.size) (d:=.undef) rfl (fun j hj=>?_)).next
       rw [get_wr,if_pos (by rw [rep_length,h4];omega)]
       simp
   ·cases hc
  ·cases hc
 ·cases hc
end
end Go.Proofs.YtmadknpaljaecaaGreatDoor.Ev
namespace Go.Proofs.YtmadknpaljaecaaGreatDoor.Ev
open Go
theorem bounds_more {len c l u:Nat} {lo hi:Option AV} (hlc:len≤c) (h:bounds len len lo hi=some (l,u)):bounds c len lo hi=some (l,u)∧l≤u∧u≤len:=by
 unfold bounds at h ⊢
 have natTo_more:∀ {n m k:Nat} {v:AV},n≤m→natTo n v=some k→natTo m v=some k∧k≤n:=by
  intro n m k v hnm hv
  unfold natTo at hv ⊢
  split at hv
  ·rename_i a
   rcases ble_cases a n with ⟨hl,e⟩|⟨hl,e⟩ <;> rw [e] at hv <;> simp at hv
   subst hv
   exact ⟨by simp only [Nat.ble_eq_true_of_le (Nat.le_trans hl hnm),cond_true],hl⟩
  ·cases hv
 split at h
 ·cases h
 ·rename_i u' hu
  have hu2:natToO c len hi=some u'∧u'≤len:=by
   cases hi with
   |none=>simp only [natToO,Option.some.injEq] at hu ⊢;exact ⟨hu,by omega⟩
   |some v=>exact natTo_more hlc hu
  split at h
  ·cases h
  ·rename_i l' hl
   simp only [Option.some.injEq,Prod.mk.injEq] at h
   obtain ⟨rfl,rfl⟩:=h
   have hl2:l'≤u':=by
    cases lo with
    |none=>simp only [natToO,Option.some.injEq] at hl;omega
    |some v=>exact (natTo_more (Nat.le_refl _) hl).2
   rw [hu2.1]
   simp only [hl]
   exact ⟨trivial,hl2,hu2.2⟩
section
variable {P:Program} {E:Env} {W:World} {h h':Heap} {σ:Operand→Value} {ρ:XO→AV} {v:AV}
theorem ref_run {s:Sem Value} (hr:HR E W h) {b off:Nat} {bl:Nat} (hb:b < E.nx) (hbl:bl=E.β b) (hrun:s.run P W=.ok (.pointer (some ⟨bl,off,none⟩)) W):Goes P E W (do pure (.value (← s))) (.ref b off) h:=by
 subst hbl
 exact yes_next hr ⟨_,hrun,.ref hb⟩ rfl
variable (hρ:∀ X x,xo X=some x→VR E W (ρ x) (σ X)) (hr:HR E W h)
include hρ hr
theorem g_slice {t:TypeId} {X:Operand} {lo hi:Option Operand} {x:XOp} {call:CallT} (hc:(match xo X,xoO lo,xoO hi,P.underlying t with
  |some x,some lo,some hi,some d=>(match d with
   |.string=>some (XOp.p (.slS x lo hi))
   |.slice e=>(sizeT P e).map fun s=>.q (.slSl s x lo hi)
   |.array n e=>(sizeT P e).map fun s=>.q (.slA n s x lo hi)
   |.pointer a=>(match P.underlying a with
    |some (.array n e)=>(sizeT P e).map fun s=>.q (.slA n s x lo hi)
    |_=>none)
   |_=>none)
  |_,_,_,_=>none)=some x) (he:xop call ρ h x=.ok v h'):Goes P E W (do pure (.value (← Instr.sliceAt t (σ X) (lo.map σ) (hi.map σ) none))) v h':=by
 split at hc
 case h_2=>cases hc
 rename_i x' lo' hi' d hX hlo hhi hd
 have hx:=hρ X x' hX
 have hl:=xoO_opt hρ hlo
 have hh:=xoO_opt hρ hhi
 have arr:∀ (n s:Nat) {e:TypeId} (run:∀ {bl off l u:Nat},bounds n n (lo'.map ρ) (hi'.map ρ)=some (l,u)→(Instr.sliceAt t (.pointer (some ⟨bl,off,none⟩)) (lo.map σ) (hi.map σ) none).run P W=.ok (.slice (some (if n=l then ⟨bl,off,none⟩ else ⟨bl,off+l*s,none⟩)) (u - l) (n - l)) W∧l≤u∧u≤n),
   o_slA ρ h n s x' lo' hi' =.ok v h'→Goes P E W (do pure (.value (← Instr.sliceAt t (σ X) (lo.map σ) (hi.map σ) none))) v h':=by
  intro n s e run he
  simp only [o_slA] at he
  split at he
  ·rename_i b off e;rw [e] at hx
   obtain ⟨hs,hb⟩:=hx.ref_inv
   rw [hs]
   split at he
   ·rename_i l u hb2
    obtain ⟨h1,h2,h3⟩:=run (bl:=E.β b) (off:=off) hb2
    cases he
    refine yes_next hr ⟨_,h1,?_⟩ rfl
    rcases beq_cases l n with ⟨e1,eb⟩|⟨e1,eb⟩ <;> rw [eb]
    ·subst e1;simp only [cond_true,if_true];exact .slc hb (by omega)
    ·simp only [cond_false];rw [if_neg (Ne.symm e1)];exact .slc hb (by omega)
   ·cases he
  ·rename_i w cs e;rw [e] at hx
   obtain ⟨bl,off,xs,hs,q1,q2,q3,q4⟩:=hx.iptr_inv
   rw [hs]
   split at he
   ·rename_i l u hb2
    obtain ⟨h1,h2,h3⟩:=run (bl:=bl) (off:=off) hb2
    rcases beq_cases l n with ⟨e1,eb⟩|⟨e1,eb⟩ <;> rw [eb] at he
    ·cases he
     subst e1
     have:u=l:=by omega
     subst this
     refine yes_next hr ⟨_,h1,?_⟩ rfl
     simp only [if_true,Nat.sub_self]
     exact .isl (.inl ⟨rfl,rfl⟩) (by simp) (Nat.le_refl _) .nil
    ·cases he
     refine yes_next hr ⟨_,h1,?_⟩ rfl
     rw [if_neg (Ne.symm e1)]
     exact .isl (.inr ⟨q1,q3.drop _⟩) (fun c hc=>q2 c (List.mem_of_mem_drop hc)) (by omega) (q4.drop _)
   ·cases he
  ·cases he
 split at hc
 ·
  cases hc
  simp only [xop,ePA,o_slS] at he
  split at he
  ·rename_i s e;rw [e] at hx
   obtain ⟨y,hy,rfl⟩:=hx.str_inv
   rw [hy]
   split at he
   ·rename_i l u hb
    cases he
    have hn:(BStr.ofBytes y.data.toList).n=y.size:=by rw [BStr.ofBytes_n];simp
    rw [hn] at hb
    obtain ⟨z,h1,h2⟩:=run_slice_string (P:=P) (E:=E) hd hl hh hb
    exact yes_next hr ⟨z,by rw [sliceAt_string hd];exact h1,h2⟩ rfl
   ·cases he
  ·cases he
 ·
  rename_i e
  obtain ⟨s,hs,rfl⟩:=Option.map_eq_some_iff.1 hc
  simp only [xop,ePB,o_slSl] at he
  split at he
  ·rename_i b off len es c e;rw [e] at hx
   obtain ⟨hsx,hb,hlc⟩:=hx.slc_inv
   rw [hsx]
   split at he
   ·rename_i l u hb2
    obtain ⟨h1,h2,h3⟩:=slice_slice_run (P:=P) (a:=some ⟨E.β b,off,none⟩) hd hs hlc hl hh hb2
    cases he
    refine yes_next hr ⟨_,by rw [sliceAt_slice hd];exact h1,?_⟩ rfl
    rcases beq_cases l c with ⟨e1,eb⟩|⟨e1,eb⟩ <;> rw [eb]
    ·subst e1;simp only [cond_true,if_true];exact .slc hb (by omega)
    ·simp only [cond_false];rw [if_neg (Ne.symm e1)];simp only [Option.map_some,Addr_add];exact .slc hb (by omega)
   ·cases he
  ·rename_i b off len es e;rw [e] at hx
   obtain ⟨c,hsx,hb,hlc,hroom⟩:=hx.slo_inv
   rw [hsx]
   split at he
   ·rename_i l u hb2
    obtain ⟨hb3,hlu,hul⟩:=bounds_more hlc hb2
    obtain ⟨h1,h2,h3⟩:=slice_slice_run (P:=P) (a:=some ⟨E.β b,off,none⟩) hd hs hlc hl hh hb3
    obtain ⟨hes,he2⟩:=bif_ok he
    clear he
    have hes:=Nat.eq_of_beq_eq_true hes
    subst hes
    rcases beq_cases l len with ⟨e1,eb⟩|⟨e1,eb⟩ <;> rw [eb] at he2
    ·cases he2
     subst e1
     have:u=l:=by omega
     subst this
     refine yes_next hr ⟨_,by rw [sliceAt_slice hd];exact h1,?_⟩ rfl
     simp only [Nat.sub_self]
     split
     ·exact .isl (.inl ⟨rfl,rfl⟩) (by simp) (Nat.zero_le _) .nil
     ·simp only [Option.map_some,Addr_add];exact .isl (.inl ⟨rfl,rfl⟩) (by simp) (Nat.zero_le _) .nil
    ·cases he2
     refine yes_next hr ⟨_,by rw [sliceAt_slice hd];exact h1,?_⟩ rfl
     rw [if_neg (by omega)]
     simp only [Option.map_some,Addr_add]
     refine .slo hb (by omega) ?_
     have:l*es+(c - l)*es=c*es:=by rw [← Nat.add_mul];congr 1;omega
     omega
   ·cases he
  ·rename_i w len cs e;rw [e] at hx
   obtain ⟨bl,off,c,xs,hsx,q1,q2,q3,q4⟩:=hx.isl_inv
   rw [hsx]
   split at he
   ·rename_i l u hb2
    obtain ⟨hb3,hlu,hul⟩:=bounds_more q3 hb2
    obtain ⟨h1,h2,h3⟩:=slice_slice_run (P:=P) (a:=some ⟨bl,off,none⟩) hd hs q3 hl hh hb3
    rcases beq_cases l len with ⟨e1,eb⟩|⟨e1,eb⟩ <;> rw [eb] at he
    ·cases he
     subst e1
     have:u=l:=by omega
     subst this
     refine yes_next hr ⟨_,by rw [sliceAt_slice hd];exact h1,?_⟩ rfl
     simp only [Nat.sub_self]
     split
     ·exact .isl (.inl ⟨rfl,rfl⟩) (by simp) (Nat.zero_le _) .nil
     ·simp only [Option.map_some,Addr_add];exact .isl (.inl ⟨rfl,rfl⟩) (by simp) (Nat.zero_le _) .nil
    ·cases he
     refine yes_next hr ⟨_,by rw [sliceAt_slice hd];exact h1,?_⟩ rfl
     rw [if_neg (by omega)]
     simp only [Option.map_some,Addr_add]
     exact .isl (q1.imp (fun e=>absurd e.1 (by omega)) fun ⟨a,b⟩=>⟨a,b.drop _⟩) (fun c hc=>q2 c (List.mem_of_mem_drop hc)) (by omega) (q4.drop _)
   ·cases he
  ·rename_i e;rw [e] at hx
   rw [hx.nilSl_inv]
   split at he
   ·rename_i p hb2
    obtain ⟨l,u⟩:=p
    obtain ⟨h1,h2,h3⟩:=slice_slice_run (P:=P) (a:=none) (len:=0) (c:=0) hd hs (Nat.le_refl _) hl hh hb2
    cases he
    have hu:u=0:=by omega
    have hl0:l=0:=by omega
    subst hu;subst hl0
    exact yes_next hr ⟨_,by rw [sliceAt_slice hd];exact h1,by simp;exact .nilSl⟩ rfl
   ·cases he
  ·cases he
 ·rename_i n e
  obtain ⟨s,hs,rfl⟩:=Option.map_eq_some_iff.1 hc
  exact arr n s (e:=e) (fun hb=>slice_array_run hd hs hl hh hb) he
 ·rename_i a
  split at hc
  ·rename_i n e ha
   obtain ⟨s,hs,rfl⟩:=Option.map_eq_some_iff.1 hc
   exact arr n s (e:=e) (fun hb=>by rw [sliceAt_ptr hd];exact slice_ptr_run hd ha hs hl hh hb) he
  ·cases hc
 ·cases hc
theorem g_fieldAddr {t:TypeId} {X:Operand} {i:Nat} {x:XOp} {call:CallT} (hc:(match P.underlying t,xo X with
  |some (.struct fs),some x=>(match fs[i]? with
   |some f=>(match sizeT P f.type with|some n=>if n≠0 then some (XOp.p (.fa f.offset x)) else none|none=>none)
   |none=>none)
  |_,_=>none)=some x) (he:xop call ρ h x=.ok v h'):Goes P E W (do pure (.value (← Instr.fieldAt t (σ X) i))) v h':=by
 split at hc
 ·rename_i fs x' ht hX
  have hx:=hρ X x' hX
  split at hc
  ·rename_i f hf
   split at hc
   ·rename_i n hn
    split at hc
    ·rename_i h0
     cases hc
     simp only [xop,ePA,o_fa] at he
     split at he
     ·rename_i b o e;rw [e] at hx
      obtain ⟨hs,hb⟩:=hx.ref_inv
      cases he
      rw [hs]
      exact yes_next hr ⟨_,fieldAt_run ht hf hn h0,.ref hb⟩ rfl
     ·rename_i w cs e;rw [e] at hx
      obtain ⟨bl,off,hs,hk⟩:=iptr_drop hx
      cases he
      rw [hs]
      exact yes_next hr ⟨_,fieldAt_run ht hf hn h0,hk _⟩ rfl
     ·cases he
    ·cases hc
   ·cases hc
  ·cases hc
 ·cases hc
theorem g_field {t:TypeId} {X:Operand} {i:Nat} {x:XOp} {call:CallT} (hc:(match P.underlying t,xo X with
  |some (.struct fs),some x=>(match fs[i]? with
   |some f=>(match aggT P f.type,sizeT P f.type with|some g,some n=>some (XOp.q (.fld g f.offset (if g then n else 1) x))|_,_=>none)
   |none=>none)
  |_,_=>none)=some x) (he:xop call ρ h x=.ok v h'):Goes P E W (do pure (.value (← Instr.field t (σ X) i))) v h':=by
 split at hc
 ·rename_i fs x' ht hX
  have hx:=hρ X x' hX
  split at hc
  ·rename_i f hf
   split at hc
   ·rename_i g n hg hn
    cases hc
    simp only [xop,ePB,o_fld] at he
    split at he
    ·rename_i cs e;rw [e] at hx
     obtain ⟨c,hs,h1,h2⟩:=hx.agg_inv
     obtain ⟨d,hd,rfl⟩:=aggT_some hg
     obtain ⟨ti,hti,rfl⟩:=sizeT_some hn
     obtain ⟨h3,h4⟩:=opR_ok he
     obtain ⟨z,h5,h6⟩:=part_run hd hti h1 h2 rfl h3
     rw [hs]
     exact yes_next hr ⟨z,by simp [Instr.field,run_underlying ht,hf,asAgg,h5],h6⟩ h4
    ·cases he
   ·cases hc
  ·cases hc
 ·cases hc
theorem g_indexAddr {t:TypeId} {X I:Operand} {x:XOp} {call:CallT} (hc:(match P.underlying t,xo X,xo I with
  |some d,some x,some i=>(match d with
   |.slice e=>(sizeT P e).map fun s=>XOp.p (.iaS s x i)
   |.array n e=>(sizeT P e).map fun s=>.p (.iaA n s x i)
   |_=>none)
  |_,_,_=>none)=some x) (he:xop call ρ h x=.ok v h'):Goes P E W (do pure (.value (← Instr.indexAt t (σ X) (σ I)))) v h':=by
 split at hc
 case h_2=>cases hc
 rename_i d x' i' hd hX hI
 have hx:=hρ X x' hX
 have hi:=hρ I i' hI
 split at hc
 ·rename_i e
  obtain ⟨s,hs,rfl⟩:=Option.map_eq_some_iff.1 hc
  simp only [xop,ePA,o_iaS] at he
  split at he
  ·rename_i b off len es cap e;rw [e] at hx
   obtain ⟨c,hsx,hb,hlc⟩:=hx.sl_inv
   split at he
   ·rename_i k hk
    obtain ⟨kk,e2,hlt⟩:=natBelow_some hk hi
    cases he
    rw [hsx,e2]
    exact yes_next hr ⟨_,indexAt_slice_run hd hs hlt,.ref hb⟩ rfl
   ·cases he
  ·rename_i w len cs e;rw [e] at hx
   obtain ⟨bl,off,c,xs,hsx,q1,q2,q3,q4⟩:=hx.isl_inv
   split at he
   ·rename_i k hk
    obtain ⟨kk,e2,hlt⟩:=natBelow_some hk hi
    cases he
    rw [hsx,e2]
    refine yes_next hr ⟨_,indexAt_slice_run hd hs hlt,?_⟩ rfl
    rcases q1 with ⟨h0,_⟩|⟨q5,q6⟩
    ·omega
    ·exact .iptr q5 (fun c hc=>q2 c (List.mem_of_mem_drop hc)) (q6.drop _) (q4.drop _)
   ·cases he
  ·cases he
 ·rename_i n e
  obtain ⟨s,hs,rfl⟩:=Option.map_eq_some_iff.1 hc
  simp only [xop,ePA,o_iaA] at he
  split at he
  ·cases he
  ·rename_i k hk
   obtain ⟨kk,e2,hlt⟩:=natBelow_some hk hi
   rw [e2]
   split at he
   ·rename_i b off e;rw [e] at hx
    obtain ⟨hsx,hb⟩:=hx.ref_inv
    cases he
    rw [hsx]
    exact yes_next hr ⟨_,indexAt_array_run hd hs hlt,.ref hb⟩ rfl
   ·rename_i w cs e;rw [e] at hx
    obtain ⟨bl,off,hsx,hkk⟩:=iptr_drop hx
    cases he
    rw [hsx]
    exact yes_next hr ⟨_,indexAt_array_run hd hs hlt,hkk _⟩ rfl
   ·cases he
 ·cases hc
theorem g_index {t:TypeId} {X I:Operand} {x:XOp} {call:CallT} (hc:(match P.underlying t,xo X,xo I with
  |some d,some x,some i=>(match d with
   |.string=>some (XOp.p (.ixS x i))
   |.array n e=>(match aggT P e,sizeT P e with
    |some g,some s=>if g=true∨s=1 then some (.q (.ixA g n s x i)) else none
    |_,_=>none)
   |_=>none)
  |_,_,_=>none)=some x) (he:xop call ρ h x=.ok v h'):Goes P E W (do pure (.value (← Instr.index t (σ X) (σ I)))) v h':=by
 split at hc
 case h_2=>cases hc
 rename_i d x' i' hd hX hI
 have hx:=hρ X x' hX
 have hi:=hρ I i' hI
 split at hc
 ·cases hc
  simp only [xop,ePA,o_ixS] at he
  split at he
  ·rename_i s e;rw [e] at hx
   obtain ⟨y,hy,rfl⟩:=hx.str_inv
   split at he
   ·rename_i k hk
    obtain ⟨kk,e2,hlt⟩:=natBelow_some hk hi
    cases he
    rw [hy,e2]
    have hn:(BStr.ofBytes y.data.toList).n=y.size:=by rw [BStr.ofBytes_n];simp
    rw [hn] at hlt
    exact yes_next hr ⟨_,run_index_string (E:=E) hd hlt,.int⟩ rfl
   ·cases he
  ·cases he
 ·rename_i n e
  split at hc
  ·rename_i g s hg hs
   split at hc
   ·rename_i hgs
    cases hc
    simp only [xop,ePB,o_ixA] at he
    split at he
    ·rename_i cs e;rw [e] at hx
     obtain ⟨c,hsx,h1,h2⟩:=hx.agg_inv
     split at he
     ·rename_i k hk
      obtain ⟨kk,e2,hlt⟩:=natBelow_some hk hi
      obtain ⟨d',hd',rfl⟩:=aggT_some hg
      obtain ⟨ti,hti,rfl⟩:=sizeT_some hs
      obtain ⟨h3,h4⟩:=opR_ok he
      obtain ⟨z,h5,h6⟩:=part_run (P:=P) hd' hti h1 h2 (n:=ti.size) (by
       rcases hgs with hg1|hs1
       ·rw [hg1];simp
       ·rw [hs1];simp) h3
      rw [hsx,e2]
      exact yes_next hr ⟨z,by simp [Instr.index,asIntOf,run_underlying hd,hlt,run_sizeOf hti,h5],h6⟩ h4
     ·cases he
    ·cases he
   ·cases hc
  ·cases hc
 ·cases hc
end
end Go.Proofs.YtmadknpaljaecaaGreatDoor.Ev
namespace Go.Proofs.YtmadknpaljaecaaGreatDoor.Ev
open Go
section
variable {P:Program} {E:Env} {W:World} {h h':Heap} {σ:Operand→Value} {ρ:XO→AV} {v:AV}
theorem ite_cases {c:Prop} [Decidable c] {α:Type} {a b r:α} (h:(if c then a else b)=r):(c∧a=r)∨(¬ c∧b=r):=by
 by_cases hc:c
 ·rw [if_pos hc] at h;exact .inl ⟨hc,h⟩
 ·rw [if_neg hc] at h;exact .inr ⟨hc,h⟩
theorem zval_some {t:TypeId} {z:AV} (h:zval P t=some z):∃ i zv,P.info? t=some i∧i.zero=some zv∧VR E W z zv:=by
 unfold zval at h
 cases hi:P.info? t with
 |none=>rw [hi] at h;cases h
 |some i=>
  rw [hi] at h
  simp only at h
  cases hz:i.zero with
  |none=>rw [hz] at h;cases h
  |some zv=>rw [hz] at h;exact ⟨i,zv,rfl,hz,toAV_sound h⟩
theorem extern_goes {c:Call} {t:TypeId} {f:FuncId} {fn:Func} {ex:Array Value→Sem Value} {X:Operand} (hcal:c.callee=.value X) (hX:σ X=.func (.func f) #[] #[]) (hf:P.funcs[f]? =some fn) (hn:(fn.name == "runtime.NumGoroutine")=false)
  (hb:fn.body.isSome=false) (hnx:(Extern.findNext fn).isSome=false) (hfind:Extern.find fn=some ex) (hg:Goes1 P E W (ex (c.args.map σ)) v h'):
  Goes P E W (do let d ← resolve σ c t;invoke d.target d.args) v h':=by
 obtain ⟨E',W',z,h1,h2,h3,h4⟩:=hg
 have hnx':Extern.findNext fn=none:=by cases e:Extern.findNext fn with|none=>rfl|some _=>rw [e] at hnx;cases hnx
 have hbn:fn.body.isNone=true:=by cases e:fn.body with|none=>rfl|some _=>rw [e] at hb;cases hb
 have hn2:fn.name≠ "runtime.NumGoroutine" :=by simpa using hn
 have hb2:fn.body=none:=by simpa using hbn
 refine ⟨E',W',.value z,z,?_,.inl rfl,h2,h3,h4⟩
 simp [resolve,hcal,hX,Deferred.ofValue,invoke,callFunc,hf,hn2,hb2,hnx',hfind,h1]
theorem builtin_goes {c:Call} {t:TypeId} {b:Builtin} {s:Sem Value} (hcal:c.callee=.builtin b)
  (hs:∀ cs,Go.builtin b c.argTypes t cs (c.args.map σ)=(do pure (.value (← s)))) (hg:Goes1 P E W s v h'):Goes P E W (do let d ← resolve σ c t;invoke d.target d.args) v h':=by
 obtain ⟨E',W',n,z,h1,h2,h3,h4,h5⟩:=hg.next
 refine ⟨E',W',n,z,?_,h2,h3,h4,h5⟩
 simp only [resolve,hcal,Sem.run_bind,Sem.run_pure,Result.andThen_ok,invoke]
 rw [hs];exact h1
variable (hρ:∀ X x,xo X=some x→VR E W (ρ x) (σ X)) (hr:HR E W h) (hc0:∀ v,ρ (.c v)=v)
include hρ hr
theorem g_ta {t a:TypeId} {ok:Bool} {X:Operand} {x:XOp} {call:CallT} (hc:(match P.underlying a,zval P a,xo X with
  |some d,some z,some x=>(match d with|.interface _=>none|_=>some (XOp.q (.ta a z ok x)))
  |_,_,_=>none)=some x) (he:xop call ρ h x=.ok v h'):Goes P E W (do pure (.value (← Instr.typeAssert (σ X) t a ok))) v h':=by
 split at hc
 case h_2=>cases hc
 rename_i d z x' hd hz hX
 have hx:=hρ X x' hX
 obtain ⟨i,zv,hi,hzv,hzr⟩:=zval_some (E:=E) (W:=W) hz
 split at hc
 ·cases hc
 ·rename_i hni
  cases hc
  have hm:∀ (y:Value),(Instr.typeAssert y t a ok).run P W=(match y with
    |.nilIface=>(if ok=true then (do pure (Value.tuple #[← zeroValue a,.bool false])) else runtimePanic (.typeAssertion (some t) none a ""):Sem Value)
    |.iface t' v=>if t' =a then (pure (if ok=true then .tuple #[v,.bool true] else v):Sem Value) else (if ok=true then (do pure (Value.tuple #[← zeroValue a,.bool false])) else runtimePanic (.typeAssertion (some t) (some t') a ""):Sem Value)
    |_=>stuck "TypeAssert: interface value expected").run P W:=by
   intro y
   unfold Instr.typeAssert
   simp only [Sem.run_bind,run_underlying hd,Result.andThen_ok]
   cases d <;> first|(exact absurd rfl (hni _))|(cases y <;> rfl)
  simp only [xop,ePB,o_ta] at he
  split at he
  ·rename_i t' w e;rw [e] at hx
   obtain ⟨y,hy,hv⟩:=hx.iface_inv
   rw [hy]
   rcases beq_cases t' a with ⟨e1,eb⟩|⟨e1,eb⟩ <;> rw [eb] at he
   ·simp only [cond_true,OpR.ok.injEq] at he
    obtain ⟨rfl,rfl⟩:=he
    refine yes_next hr ⟨if ok=true then .tuple #[y,.bool true] else y,?_,?_⟩ rfl
    ·rw [hm];simp [e1]
    ·cases ok
     ·exact hv
     ·exact .tup (.cons hv (.cons .bool .nil))
   ·simp only [cond_false] at he
    obtain ⟨hok,he2⟩:=bif_ok he
    clear he
    subst hok
    cases he2
    refine yes_next hr ⟨.tuple #[zv,.bool false],?_,.tup (.cons hzr (.cons .bool .nil))⟩ rfl
    rw [hm];simp [e1,run_zeroValue hi hzv]
  ·rename_i e;rw [e] at hx
   rw [hx.nilIf_inv]
   obtain ⟨hok,he2⟩:=bif_ok he
   clear he
   subst hok
   cases he2
   refine yes_next hr ⟨.tuple #[zv,.bool false],?_,.tup (.cons hzr (.cons .bool .nil))⟩ rfl
   rw [hm];simp [run_zeroValue hi hzv]
  ·cases he
include hc0
theorem fn_self (f:FuncId):σ (.func f)=.func (.func f) #[] #[]:=by
 have:=hρ (.func f) _ rfl
 rw [hc0] at this
 obtain ⟨p,q,h1,h2,h3⟩:=this.fn_inv
 have hp:p.toList=[]:=List.eq_nil_of_length_eq_zero h2.length.symm
 have hq:q.toList=[]:=List.eq_nil_of_length_eq_zero h3.length.symm
 rw [h1,Array.toList_eq_nil_iff.1 hp,Array.toList_eq_nil_iff.1 hq]
theorem g_builtin {c:Call} {t:TypeId} {b:Builtin} {args:List XO} {x:XOp} {call:CallT} (hcal:c.callee=.builtin b) (hargs:mapO xo c.args.toList=some args) (hc:xbuiltin P b c.argTypes args t=some x)
  (he:xop call ρ h x=.ok v h'):Goes P E W (do let d ← resolve σ c t;invoke d.target d.args) v h':=by
 have vals:=mapO_vals hρ hargs
 have one:∀ {x'},args=[x']→∃ X,c.args.map σ=#[σ X]∧VR E W (ρ x') (σ X):=by
  rintro x' rfl
  obtain ⟨X,h1,h2⟩:=mapO_one hargs
  exact ⟨X,Array.toList_inj.1 (by simp [h1]),hρ X x' h2⟩
 have two:∀ {x' y'},args=[x',y']→∃ X Y,c.args.map σ=#[σ X,σ Y]∧VR E W (ρ x') (σ X)∧VR E W (ρ y') (σ Y):=by
  rintro x' y' rfl
  obtain ⟨X,Y,h1,h2,h3⟩:=mapO_two hargs
  exact ⟨X,Y,Array.toList_inj.1 (by simp [h1]),hρ X x' h2,hρ Y y' h3⟩
 unfold xbuiltin at hc
 split at hc
 ·cases hc
 rename_i t0 h0
 split at hc
 ·cases hc
 rename_i d hd
 split at hc
 ·
  split at hc
  ·rename_i x'
   obtain ⟨X,e1,hx⟩:=one rfl
   refine builtin_goes (s:=Builtin.len_ c.argTypes t #[σ X]) hcal (fun cs=>by rw [e1];rfl) ?_
   split at hc
   ·cases hc
    simp only [xop,ePA,o_lenS] at he
    split at he
    ·rename_i s e;rw [e] at hx
     obtain ⟨y,hy,rfl⟩:=hx.str_inv
     cases he
     have hn:(BStr.ofBytes y.data.toList).n=y.size:=by rw [BStr.ofBytes_n];simp
     exact Yes.goes hr ⟨goInt y.size,by simp [Builtin.len_,h0,run_underlying hd,hy],by rw [hn];exact .int⟩
    ·cases he
   ·cases hc
    simp only [xop,ePA,o_lenSl] at he
    split at he
    ·rename_i e;rw [e] at hx
     cases he
     exact Yes.goes hr ⟨goInt 0,by simp [Builtin.len_,h0,run_underlying hd,hx.nilSl_inv],.int⟩
    ·rename_i w len cs e;rw [e] at hx
     obtain ⟨bl,off,cc,xs,hy,_⟩:=hx.isl_inv
     cases he
     exact Yes.goes hr ⟨goInt len,by simp [Builtin.len_,h0,run_underlying hd,hy],.int⟩
    ·rename_i b off len es cap e;rw [e] at hx
     obtain ⟨cc,hy,_⟩:=hx.sl_inv
     cases he
     exact Yes.goes hr ⟨goInt len,by simp [Builtin.len_,h0,run_underlying hd,hy],.int⟩
    ·cases he
   ·cases hc
    simp only [xop,eHB,o_lenM] at he
    split at he
    ·rename_i p hp
     cases he
     exact Yes.goes hr (lenM_run hr h0 hd hx hp)
    ·cases he
   ·rename_i n e
    cases hc
    simp only [xop,hc0] at he
    cases he
    exact Yes.goes hr ⟨goInt n,by simp [Builtin.len_,h0,run_underlying hd],.int⟩
   ·rename_i a
    split at hc
    ·rename_i n e ha
     cases hc
     simp only [xop,hc0] at he
     cases he
     exact Yes.goes hr ⟨goInt n,by simp [Builtin.len_,h0,run_underlying hd,run_underlying ha],.int⟩
    ·cases hc
   ·cases hc
  ·cases hc
 ·
  split at hc
  ·rename_i x'
   obtain ⟨X,e1,hx⟩:=one rfl
   refine builtin_goes (s:=Builtin.cap_ c.argTypes t #[σ X]) hcal (fun cs=>by rw [e1];rfl) ?_
   split at hc
   ·cases hc
    simp only [xop,ePA,o_capSl] at he
    split at he
    ·rename_i e;rw [e] at hx
     cases he
     exact Yes.goes hr ⟨goInt 0,by simp [Builtin.cap_,h0,run_underlying hd,hx.nilSl_inv],.int⟩
    ·rename_i b off len es cap e;rw [e] at hx
     obtain ⟨hy,_⟩:=hx.slc_inv
     cases he
     exact Yes.goes hr ⟨goInt cap,by simp [Builtin.cap_,h0,run_underlying hd,hy],.int⟩
    ·cases he
   ·cases hc
  ·cases hc
 ·
  split at hc
  ·rename_i x' y'
   obtain ⟨X,Y,e1,hx,hy⟩:=two rfl
   refine builtin_goes (s:=Builtin.append_ c.argTypes t #[σ X,σ Y]) hcal (fun cs=>by rw [e1];rfl) ?_
   split at hc
   ·rename_i e
    split at hc
    ·rename_i i t1 hi h1
     split at hc
     ·rename_i d1 z hd1 hz
      obtain ⟨i',zv,hi',hzv,hzs,_,_,_⟩:=zcells_some (E:=E) (W:=W) hz
      have:i' =i:=by rw [hi] at hi';exact (Option.some.inj hi').symm
      subst this
      split at hc
      ·cases hc
      ·rename_i hni
       split at hc
       ·rename_i hcond
        cases hc
        exact app_run hr h0 hd h1 hd1 (fun k hk=>hni k hk) hi hzv hzs hcond.1 hx hy he
       ·cases hc
     ·cases hc
    ·cases hc
   ·cases hc
  ·cases hc
 ·
  split at hc
  ·rename_i x' y'
   obtain ⟨X,Y,e1,hx,hy⟩:=two rfl
   refine builtin_goes (s:=Builtin.copy_ c.argTypes t #[σ X,σ Y]) hcal (fun cs=>by rw [e1];rfl) ?_
   split at hc
   ·rename_i e
    obtain ⟨s,hs,rfl⟩:=Option.map_eq_some_iff.1 hc
    simp only [xop,eHB,o_cpy] at he
    split at he
    ·rename_i b off len es cap e;rw [e] at hx
     split at he
     ·rename_i m new hm hnew
      split at he
      ·rename_i n d' cs el op hb
       obtain ⟨hle,he2⟩:=bif_ok he
       cases he2
       exact cpy_run hr h0 hd hs hx hy hm hnew hb (Nat.le_of_ble_eq_true hle)
      ·cases he
     ·cases he
    ·cases he
   ·cases hc
  ·cases hc
 ·
  cases hc
  refine builtin_goes (s:=Builtin.min_ c.argTypes t (c.args.map σ)) hcal (fun cs=>rfl) ?_
  simp only [xop,ePB,o_mn] at he
  split at he
  ·rename_i v0 r e
   rw [e] at vals
   split at he
   ·rename_i k a
    obtain ⟨h1,h2⟩:=opR_ok he
    cases hl:c.args.toList.map σ with
    |nil=>rw [hl] at vals;cases vals
    |cons y ys=>
     rw [hl] at vals
     cases vals with
     |cons hv hrr=>
      have:=hv.int_inv;subst this
      subst h2
      obtain ⟨z,q1,q2⟩:=minL_run (P:=P) r ys a _ hrr h1
      refine Yes.goes hr ⟨z,?_,q2⟩
      have hl2:(c.args.map σ).toList=.int k a::ys:=by simpa using hl
      simp only [Builtin.min_,hl2];exact q1
   ·cases he
  ·cases he
 ·
  cases hc
  refine builtin_goes (s:=Builtin.max_ c.argTypes t (c.args.map σ)) hcal (fun cs=>rfl) ?_
  simp only [xop,ePB,o_mx] at he
  split at he
  ·rename_i v0 r e
   rw [e] at vals
   split at he
   ·rename_i k a
    obtain ⟨h1,h2⟩:=opR_ok he
    cases hl:c.args.toList.map σ with
    |nil=>rw [hl] at vals;cases vals
    |cons y ys=>
     rw [hl] at vals
     cases vals with
     |cons hv hrr=>
      have:=hv.int_inv;subst this
      subst h2
      obtain ⟨z,q1,q2⟩:=maxL_run (P:=P) r ys a _ hrr h1
      refine Yes.goes hr ⟨z,?_,q2⟩
      have hl2:(c.args.map σ).toList=.int k a::ys:=by simpa using hl
      simp only [Builtin.max_,hl2];exact q1
   ·cases he
  ·cases he
 ·cases hc
 ·
  split at hc
  ·rename_i x'
   obtain ⟨X,e1,hx⟩:=one rfl
   refine builtin_goes (s:=Builtin.unsafeSliceData_ c.argTypes t #[σ X]) hcal (fun cs=>by rw [e1];rfl) ?_
   cases hc
   simp only [xop,ePB,o_usd] at he
   split at he
   ·rename_i b off len es cap e;rw [e] at hx
    rcases beq_cases len 0 with ⟨e1,eb⟩|⟨e1,eb⟩ <;> rw [eb] at he
    ·cases he
    ·cases he
     exact Yes.goes hr (usd_run hx e1)
   ·rename_i e;rw [e] at hx
    rw [hx.nilSl_inv]
    cases he
    exact Yes.goes hr ⟨.pointer none,rfl,.nilPtr⟩
   ·cases he
  ·cases hc
 ·
  split at hc
  ·rename_i x' y'
   obtain ⟨X,Y,e1,hx,hy⟩:=two rfl
   refine builtin_goes (s:=Builtin.unsafeString_ c.argTypes t #[σ X,σ Y]) hcal (fun cs=>by rw [e1];rfl) ?_
   split at hc
   ·rename_i e
    split at hc
    ·rename_i he8
     split at hc
     ·rename_i hcond
      cases hc
      simp only [xop,eHB,o_us] at he
      split at he
      ·rename_i n en;rw [en] at hy
       rw [hy.int_inv]
       exact us_run hr h0 hcond.2 hd hcond.1 he hx
      ·cases he
     ·cases hc
    ·cases hc
   ·cases hc
  ·cases hc
 ·cases hc
theorem g_extern {c:Call} {t:TypeId} {f:FuncId} {fn:Func} {args:List XO} {x:XOp} {call:CallT} (hcal:c.callee=.value (.func f)) (hargs:mapO xo c.args.toList=some args) (hf:P.funcs[f]? =some fn)
  (hn:(fn.name == "runtime.NumGoroutine")=false) (hb:fn.body.isSome=false) (hc:xextern P fn t args=some x) (he:xop call ρ h x=.ok v h'):Goes P E W (do let d ← resolve σ c t;invoke d.target d.args) v h':=by
 have self:=fn_self hρ hr hc0 f
 unfold xextern at hc
 cases hnx:(Extern.findNext fn).isSome with
 |true=>rw [hnx] at hc;cases hc
 |false=>
 rw [hnx] at hc
 rw [if_neg Bool.false_ne_true] at hc
 have fin:∀ ex,Extern.find fn=some ex→Goes1 P E W (ex (c.args.map σ)) v h'→Goes P E W (do let d ← resolve σ c t;invoke d.target d.args) v h':=fun ex hfind hg=>
  extern_goes hcal self hf hn hb hnx hfind hg
 split at hc
 ·rename_i x'
  obtain ⟨X,h1,h2⟩:=mapO_one hargs
  have e1:c.args.map σ=#[σ X]:=Array.toList_inj.1 (by simp [h1])
  have hx:=hρ X x' h2
  rw [e1] at fin
  have b64:Extern.find fn=some Extern.MathFloatBits.float64bits→o_fbits ρ h .f64 x' =.ok v h'→Goes P E W (do let d ← resolve σ c t;invoke d.target d.args) v h':=by
   intro e4 he
   refine fin _ e4 ?_
   simp only [o_fbits] at he
   split at he
   ·rename_i b e;rw [e] at hx;rw [hx.float_inv];cases he
    exact Yes.goes hr ⟨.int .u64 b,rfl,.int⟩
   ·cases he
   ·cases he
  have b32:Extern.find fn=some Extern.MathFloatBits.float32bits→o_fbits ρ h .f32 x' =.ok v h'→Goes P E W (do let d ← resolve σ c t;invoke d.target d.args) v h':=by
   intro e4 he
   refine fin _ e4 ?_
   simp only [o_fbits] at he
   split at he
   ·cases he
   ·rename_i b e;rw [e] at hx;rw [hx.float_inv];cases he
    exact Yes.goes hr ⟨.int .u32 b,rfl,.int⟩
   ·cases he
  have f64:Extern.find fn=some Extern.MathFloatBits.float64frombits→o_ffrom ρ h .f64 x' =.ok v h'→Goes P E W (do let d ← resolve σ c t;invoke d.target d.args) v h':=by
   intro e4 he
   refine fin _ e4 ?_
   simp only [o_ffrom] at he
   split at he
   ·rename_i b e;rw [e] at hx;rw [hx.int_inv];cases he
    exact Yes.goes hr ⟨.float .f64 b.toNat,rfl,.float⟩
   ·cases he
   ·cases he
  have f32:Extern.find fn=some Extern.MathFloatBits.float32frombits→o_ffrom ρ h .f32 x' =.ok v h'→Goes P E W (do let d ← resolve σ c t;invoke d.target d.args) v h':=by
   intro e4 he
   refine fin _ e4 ?_
   simp only [o_ffrom] at he
   split at he
   ·cases he
   ·rename_i b e;rw [e] at hx;rw [hx.int_inv];cases he
    exact Yes.goes hr ⟨.float .f32 b.toNat,rfl,.float⟩
   ·cases he
  rcases ite_cases hc with ⟨hname,hc⟩|⟨_,hc⟩
  ·cases hc
   exact b64 (find_fbits64 fn (eq_of_beq hname)) he
  rcases ite_cases hc with ⟨hname,hc⟩|⟨_,hc⟩
  ·cases hc
   exact b64 (find_fbits64' fn (eq_of_beq hname)) he
  rcases ite_cases hc with ⟨hname,hc⟩|⟨_,hc⟩
  ·cases hc
   exact b32 (find_fbits32 fn (eq_of_beq hname)) he
  rcases ite_cases hc with ⟨hname,hc⟩|⟨_,hc⟩
  ·cases hc
   exact b32 (find_fbits32' fn (eq_of_beq hname)) he
  rcases ite_cases hc with ⟨hname,hc⟩|⟨_,hc⟩
  ·cases hc
   exact f64 (find_ffrom64 fn (eq_of_beq hname)) he
  rcases ite_cases hc with ⟨hname,hc⟩|⟨_,hc⟩
  ·cases hc
   exact f64 (find_ffrom64' fn (eq_of_beq hname)) he
  rcases ite_cases hc with ⟨hname,hc⟩|⟨_,hc⟩
  ·cases hc
   exact f32 (find_ffrom32 fn (eq_of_beq hname)) he
  rcases ite_cases hc with ⟨hname,hc⟩|⟨_,hc⟩
  ·cases hc
   exact f32 (find_ffrom32' fn (eq_of_beq hname)) he
  rcases ite_cases hc with ⟨hname,hc⟩|⟨_,hc⟩
  ·cases hc
   refine fin _ (find_noescape fn (eq_of_beq hname)) ?_
   simp only [xop] at he
   cases he
   exact Yes.goes hr ⟨σ X,rfl,hx⟩
  rcases ite_cases hc with ⟨hname,hc⟩|⟨_,hc⟩
  ·cases hc
   refine fin _ (find_trunc fn (eq_of_beq hname)) ?_
   simp only [xop,ePB,o_trunc] at he
   split at he
   ·rename_i b e;rw [e] at hx;rw [hx.float_inv]
    have hdef:Extern.MathFloor.toIntegral "math.archTrunc" .zero #[.float .f64 b]=(match FloatKind.f64.decode b with
     |.nan s t=>
      if FloatKind.f64.format.quiet t=t then pure (.float .f64 b) else do
      let kept ← choose (.extern "math.Floor,Ceil,Trunc,RoundToEven.signallingNaN kept" 2)
      pure (.float .f64 (if kept == 1 then b else FloatKind.f64.encode (.nan s (FloatKind.f64.format.quiet t))))
     |d=>pure (.float .f64 (FloatKind.f64.encode (d.integral .zero)))):=rfl
    rw [hdef]
    split at he
    ·cases he
    ·rename_i s hs;cases he
     rw [hs]
     exact Yes.goes hr ⟨_,rfl,.float⟩
    ·rename_i s m e2 hs;cases he
     rw [hs]
     exact Yes.goes hr ⟨_,rfl,.float⟩
   ·cases he
  rcases ite_cases hc with ⟨hname,hc⟩|⟨_,hc⟩
  ·split at hc
   ·rename_i t' ht'
    split at hc
    ·rename_i e hte
     cases hc
     refine fin _ (find_mknz fn (eq_of_beq hname)) ?_
     simp only [xop,eHB,o_mkNZ] at he
     split at he
     ·rename_i n en;rw [en] at hx;rw [hx.int_inv]
      obtain ⟨hle,he2⟩:=bif_ok he
      cases he2
      exact mkNZ_run hr ht' hte (Nat.le_of_ble_eq_true hle)
     ·cases he
    ·cases hc
   ·cases hc
  ·cases hc
 ·rename_i x' y'
  obtain ⟨X,Y,h1,h2,h3⟩:=mapO_two hargs
  have e1:c.args.map σ=#[σ X,σ Y]:=Array.toList_inj.1 (by simp [h1])
  have hx:=hρ X x' h2
  have hy:=hρ Y y' h3
  rw [e1] at fin
  rcases ite_cases hc with ⟨hname,hc⟩|⟨_,hc⟩
  ·cases hc
   refine fin _ (find_ixb fn (eq_of_beq hname)) ?_
   simp only [xop,ePB,o_ixB] at he
   split at he
   ·rename_i s es;rw [es] at hx
    obtain ⟨z,hz,rfl⟩:=hx.str_inv
    rw [hz]
    split at he
    ·rename_i n en;rw [en] at hy;rw [hy.int_inv]
     obtain ⟨hlt,he2⟩:=bif_ok he
     cases he2
     rw [Nat.blt_eq] at hlt
     exact Yes.goes hr (ixB_run hlt)
    ·cases he
   ·cases he
  rcases ite_cases hc with ⟨hname,hc⟩|⟨_,hc⟩
  ·cases hc
   refine fin _ (find_cnt fn (eq_of_beq hname)) ?_
   simp only [xop,ePB,o_cnt] at he
   split at he
   ·rename_i s es;rw [es] at hx
    obtain ⟨z,hz,rfl⟩:=hx.str_inv
    rw [hz]
    split at he
    ·rename_i n en;rw [en] at hy;rw [hy.int_inv]
     obtain ⟨hlt,he2⟩:=bif_ok he
     cases he2
     rw [Nat.blt_eq] at hlt
     exact Yes.goes hr (cnt_run hlt)
    ·cases he
   ·cases he
  ·cases hc
 ·cases hc
end
end Go.Proofs.YtmadknpaljaecaaGreatDoor.Ev
namespace Go.Proofs.YtmadknpaljaecaaGreatDoor.Ev
open Go
section
variable {P:Program} {E:Env} {W:World} {h h':Heap} {σ:Operand→Value} {ρ:XO→AV} {v:AV}
variable (hρ:∀ X x,xo X=some x→VR E W (ρ x) (σ X)) (hr:HR E W h) (hc0:∀ v,ρ (.c v)=v)
include hρ hr hc0
theorem map1 {α β:Type} {f:α→β} {o:Option α} {r:β} (h:o.map f=some r):∃ a,o=some a∧f a=r:=Option.map_eq_some_iff.1 h
omit hc0 in
theorem g_ins {t:TypeId} {M K X:Operand} {x:XOp} {call:CallT} (hc:xins P t M K X=some x) (he:xop call ρ h x=.ok v h'):Goes P E W (do Instr.mapUpdate t (σ M) (σ K) (σ X);pure Next.skip) v h':=by
 unfold xins at hc
 split at hc
 ·rename_i kt e m k y ht hM hK hX
  split at hc
  ·rename_i s hs
   cases hc
   have hm:=hρ M m hM
   simp only [xop,eHB,o_ins] at he
   split at he
   ·rename_i b eb;rw [eb] at hm
    split at he
    ·rename_i ks vs hb
     split at he
     ·rename_i p hp
      cases he
      obtain ⟨W',r,q1,q2⟩:=ins_run (P:=P) hr ht hs hm (hρ K k hK) (hρ X y hX) hb hp
      exact nil_goes r q1 q2
     ·cases he
    ·cases he
   ·cases he
  ·cases hc
 ·cases hc
omit hc0 in
theorem g_lkp {t:TypeId} {X I:Operand} {ok:Bool} {x:XOp} {call:CallT} (hc:(match P.underlying t,xo X,xo I with
  |some (.map k e),some x,some i=>(match keyS P k,zval P e with
   |some s,some z=>some (XOp.g (.lkp s z ok x i))
   |_,_=>none)
  |_,_,_=>none)=some x) (he:xop call ρ h x=.ok v h'):Goes P E W (do pure (Next.value (← Instr.lookup t (σ X) (σ I) ok))) v h':=by
 split at hc
 ·rename_i k e x' i' ht hX hI
  split at hc
  ·rename_i s z hs hz
   cases hc
   obtain ⟨ti,zv,hi,hzv,hzr⟩:=zval_some (E:=E) (W:=W) hz
   simp only [xop,eHB,o_lkp] at he
   split at he
   ·cases he
   ·rename_i p hp
    split at he
    ·rename_i w hw
     cases he
     exact yes_next hr (lkp_run hr ht hs hi hzv hzr (hρ X x' hX) (hρ I i' hI) hp hw ok) rfl
    ·rename_i hw
     cases he
     exact yes_next hr (lkp_run hr ht hs hi hzv hzr (hρ X x' hX) (hρ I i' hI) hp hw ok) rfl
    ·cases he
  ·cases hc
 ·cases hc
theorem op_run {o:Oper} {x:XOp} (hc:xopOf P o=some x) (hs:simple x=true) {call:CallT} (he:xop call ρ h x=.ok v h'):Goes P E W (execOp σ o) v h':=by
 obtain ⟨dst,op,type,pos,after,guard⟩:=o
 cases op <;> simp only [xopOf] at hc <;> simp only [execOp]
 case move X=>
  obtain ⟨x',hX,rfl⟩:=Option.map_eq_some_iff.1 hc
  exact g_move hρ hr hX he
 case assign X=>
  obtain ⟨x',hX,rfl⟩:=Option.map_eq_some_iff.1 hc
  exact g_move hρ hr hX he
 case pick C A B=>
  split at hc
  ·rename_i c a b hC hA hB
   cases hc
   exact g_pick hρ hr hC hA hB he
  ·cases hc
 case alloc t=>
  obtain ⟨z,hz,rfl⟩:=Option.map_eq_some_iff.1 hc
  simp only [xop,eHA,o_new,OpR.ok.injEq] at he
  obtain ⟨rfl,rfl⟩:=he
  exact (alloc_run hr hz).next
 case box t X=>
  split at hc
  ·rename_i n x' hn hX
   cases hc
   simp only [xop,eHA,o_box] at he
   obtain ⟨hcond,he2⟩:=bif_ok he
   clear he
   simp only [Bool.and_eq_true] at hcond
   have hlen:=Nat.eq_of_beq_eq_true hcond.1
   simp only [newCells,OpR.ok.injEq] at he2
   obtain ⟨rfl,rfl⟩:=he2
   have:=(box_run (P:=P) hr (t:=t) (hρ X x' hX) hcond.2).next
   rw [hlen] at this
   exact this
  ·cases hc
 case build t ps=>exact g_build hρ hr hc he
 case buildSlice t len ps=>exact g_bsl hρ hr hc he
 case load t A=>exact g_load hρ hr hc he
 case store t A X=>exact g_store hρ hr hc he
 case nilCheck X=>
  obtain ⟨x',hX,rfl⟩:=Option.map_eq_some_iff.1 hc
  refine g_nilchk hr he (hρ X x' hX) _ fun hx=>?_
  rcases hx with ⟨a,e⟩|⟨t,w,e⟩|⟨f,a,b,e⟩ <;> rw [e] <;> rfl
 case binOp op t X Y _=>exact g_bin hρ hr hc he
 case unOp op t X=>
  obtain ⟨x',hX,rfl⟩:=Option.map_eq_some_iff.1 hc
  obtain ⟨h1,h2⟩:=opR_ok (show opR (unV op (ρ x')) h 3=.ok v h' from he)
  exact yes_next hr (un_run (hρ X x' hX) h1) h2
 case convert s d X=>exact g_convert hρ hr hc he
 case makeInterface t X=>exact g_makeInterface hρ hr hc he
 case makeFunc fn A B=>
  cases fn <;> simp only [reduceCtorEq] at hc
  exact g_makeFunc hρ hr hc he
 case makeMap t r=>
  cases r with
  |some _=>cases hc
  |none=>
   cases hc
   simp only [xop,eHB,OpR.ok.injEq] at he
   obtain ⟨rfl,rfl⟩:=he
   exact (mkMap_run hr).next
 case lookup t X I ok=>exact g_lkp hρ hr hc he
 case mapUpdate t M K X=>exact g_ins hρ hr hc he
 case insert t M K X=>exact g_ins hρ hr hc he
 case makeSlice t l c=>exact g_makeSlice hρ hr hc he
 case slice t X lo hi mx=>
  cases mx with
  |some _=>cases hc
  |none=>exact g_slice hρ hr hc he
 case fieldAddr t X i=>exact g_fieldAddr hρ hr hc he
 case field t X i=>exact g_field hρ hr hc he
 case indexAddr t X i=>exact g_indexAddr hρ hr hc he
 case index t X i=>exact g_index hρ hr hc he
 case range t X=>
  split at hc
  ·rename_i x' ht hX
   cases hc
   have hx:=hρ X x' hX
   simp only [xop,eHB,o_rngS] at he
   split at he
   ·rename_i s e;rw [e] at hx
    obtain ⟨y,hy,rfl⟩:=hx.str_inv
    cases he
    rw [hy]
    exact (rngS_run hr ht).next
   ·cases he
  ·cases hc
 case next it isS=>
  cases isS with
  |false=>cases hc
  |true=>
   obtain ⟨x',hX,rfl⟩:=Option.map_eq_some_iff.1 hc
   have hx:=hρ it x' hX
   simp only [xop,eHB,o_nxtS] at he
   split at he
   ·rename_i b e;rw [e] at hx
    split at he
    ·rename_i s pos hb
     exact (nxtS_run hr hx hb he).next
    ·cases he
   ·cases he
 case typeAssert X t a ok=>exact g_ta hρ hr hc he
 case extract X i=>
  obtain ⟨x',hX,rfl⟩:=Option.map_eq_some_iff.1 hc
  have hx:=hρ X x' hX
  simp only [xop,ePA,o_ext] at he
  split at he
  ·rename_i vs e;rw [e] at hx
   obtain ⟨h1,h2⟩:=opR_ok he
   exact yes_next hr (ext_run hx h1) h2
  ·cases he
 case panic X=>
  obtain ⟨x',hX,rfl⟩:=Option.map_eq_some_iff.1 hc
  cases hs
 case call c=>
  split at hc
  ·rename_i args hargs
   split at hc
   ·rename_i f hcal
    split at hc
    ·rename_i fn hf
     cases hn:(fn.name == "runtime.NumGoroutine") with
     |true=>rw [hn] at hc;cases hc
     |false=>
      rw [hn] at hc
      rw [if_neg Bool.false_ne_true] at hc
      cases hb:fn.body.isSome with
      |true=>rw [hb] at hc;cases hc;cases hs
      |false=>
       rw [hb] at hc
       rw [if_neg Bool.false_ne_true] at hc
       exact g_extern hρ hr hc0 hcal hargs hf hn hb hc he
    ·cases hc
   ·obtain ⟨f',hf',rfl⟩:=Option.map_eq_some_iff.1 hc
    cases hs
   ·rename_i b hcal
    exact g_builtin hρ hr hc0 hcal hargs hc he
   ·cases hc
  ·cases hc
 all_goals (cases hc)
omit hρ hr hc0 in
theorem xbuiltin_simple {b:Builtin} {ats:Array TypeId} {args:List XO} {t:TypeId} {x:XOp} (hc:xbuiltin P b ats args t=some x):simple x=true:=by
 unfold xbuiltin at hc
 split at hc
 ·cases hc
 split at hc
 ·cases hc
 split at hc
 ·split at hc
  ·split at hc
   ·cases hc;rfl
   ·cases hc;rfl
   ·cases hc;rfl
   ·cases hc;rfl
   ·split at hc
    ·cases hc;rfl
    ·cases hc
   ·cases hc
  ·cases hc
 ·split at hc
  ·split at hc
   ·cases hc;rfl
   ·cases hc
  ·cases hc
 ·split at hc
  ·split at hc
   ·split at hc
    ·split at hc
     ·split at hc
      ·cases hc
      ·split at hc
       ·cases hc;rfl
       ·cases hc
     ·cases hc
    ·cases hc
   ·cases hc
  ·cases hc
 ·split at hc
  ·split at hc
   ·obtain ⟨s,hs,rfl⟩:=Option.map_eq_some_iff.1 hc;rfl
   ·cases hc
  ·cases hc
 ·cases hc;rfl
 ·cases hc;rfl
 ·cases hc
 ·split at hc
  ·cases hc;rfl
  ·cases hc
 ·split at hc
  ·split at hc
   ·split at hc
    ·split at hc
     ·cases hc;rfl
     ·cases hc
    ·cases hc
   ·cases hc
  ·cases hc
 ·cases hc
omit hρ hr hc0 in
theorem xextern_simple {fn:Func} {args:List XO} {t:TypeId} {x:XOp} (hc:xextern P fn t args=some x):simple x=true:=by
 unfold xextern at hc
 rcases ite_cases hc with ⟨_,hc⟩|⟨_,hc⟩
 ·cases hc
 split at hc
 ·rcases ite_cases hc with ⟨_,hc⟩|⟨_,hc⟩
  ·cases hc;rfl
  rcases ite_cases hc with ⟨_,hc⟩|⟨_,hc⟩
  ·cases hc;rfl
  rcases ite_cases hc with ⟨_,hc⟩|⟨_,hc⟩
  ·cases hc;rfl
  rcases ite_cases hc with ⟨_,hc⟩|⟨_,hc⟩
  ·cases hc;rfl
  rcases ite_cases hc with ⟨_,hc⟩|⟨_,hc⟩
  ·cases hc;rfl
  rcases ite_cases hc with ⟨_,hc⟩|⟨_,hc⟩
  ·cases hc;rfl
  rcases ite_cases hc with ⟨_,hc⟩|⟨_,hc⟩
  ·cases hc;rfl
  rcases ite_cases hc with ⟨_,hc⟩|⟨_,hc⟩
  ·cases hc;rfl
  rcases ite_cases hc with ⟨_,hc⟩|⟨_,hc⟩
  ·cases hc;rfl
  rcases ite_cases hc with ⟨_,hc⟩|⟨_,hc⟩
  ·cases hc;rfl
  rcases ite_cases hc with ⟨_,hc⟩|⟨_,hc⟩
  ·split at hc
   ·split at hc
    ·cases hc;rfl
    ·cases hc
   ·cases hc
  ·cases hc
 ·rcases ite_cases hc with ⟨_,hc⟩|⟨_,hc⟩
  ·cases hc;rfl
  rcases ite_cases hc with ⟨_,hc⟩|⟨_,hc⟩
  ·cases hc;rfl
  ·cases hc
 ·cases hc
omit hρ hr hc0 in
theorem op_shape {o:Oper} {x:XOp} (hc:xopOf P o=some x) (hs:simple x=false):
  (∃ X x',o.op=.panic X∧xo X=some x'∧x=.panic x')∨
  (∃ c args,o.op=.call c∧mapO xo c.args.toList=some args∧
   ((∃ f fn,c.callee=.value (.func f)∧P.funcs[f]? =some fn∧(fn.name == "runtime.NumGoroutine")=false∧fn.body.isSome=true∧x=.call f args)∨
    (∃ F F',c.callee=.value F∧xo F=some F'∧x=.callv F' args))):=by
 have no:∀ {q:Prop},simple x=true→q:=fun h=>by rw [h] at hs;cases hs
 obtain ⟨dst,op,type,pos,after,guard⟩:=o
 cases op <;> simp only [xopOf] at hc
 case panic X=>
  obtain ⟨x',hX,rfl⟩:=Option.map_eq_some_iff.1 hc
  exact .inl ⟨X,x',rfl,hX,rfl⟩
 case call c=>
  split at hc
  ·rename_i args hargs
   refine .inr ⟨c,args,rfl,hargs,?_⟩
   split at hc
   ·rename_i f hcal
    split at hc
    ·rename_i fn hf
     cases hn:(fn.name == "runtime.NumGoroutine") with
     |true=>rw [hn] at hc;cases hc
     |false=>
      rw [hn] at hc
      rw [if_neg Bool.false_ne_true] at hc
      cases hb:fn.body.isSome with
      |true=>rw [hb] at hc;cases hc;exact .inl ⟨f,fn,hcal,hf,hn,hb,rfl⟩
      |false=>
       rw [hb] at hc
       rw [if_neg Bool.false_ne_true] at hc
       exact no (xextern_simple hc)
    ·cases hc
   ·rename_i F _ hcal
    obtain ⟨f',hf',rfl⟩:=Option.map_eq_some_iff.1 hc
    exact .inr ⟨_,f',hcal,hf',rfl⟩
   ·exact no (xbuiltin_simple hc)
   ·cases hc
  ·cases hc
 case mapUpdate t M K X=>
  unfold xins at hc
  (repeat' (split at hc)) <;> first|(cases hc;done)|(cases hc;cases hs;done)
 case insert t M K X=>
  unfold xins at hc
  (repeat' (split at hc)) <;> first|(cases hc;done)|(cases hc;cases hs;done)
 case makeFunc fn A B=>
  cases fn <;> first|(cases hc;done)|skip
  simp only at hc
  split at hc <;> cases hc
  cases hs
 case makeMap t r=>
  cases r <;> cases hc
  cases hs
 case next it b=>
  cases b
  ·cases hc
  ·obtain ⟨x',hX,rfl⟩:=Option.map_eq_some_iff.1 hc;cases hs
 case slice t X lo hi mx=>
  cases mx
  case some=>cases hc
  simp only at hc
  (repeat' (split at hc)) <;> first|(cases hc;done)|(cases hc;cases hs;done)|(obtain ⟨x',hX,rfl⟩:=Option.map_eq_some_iff.1 hc;cases hs;done)
 all_goals first
  |(cases hc;done)
  |(obtain ⟨x',hX,rfl⟩:=Option.map_eq_some_iff.1 hc;cases hs;done)
  |skip
 all_goals (repeat' (split at hc)) <;> first|(cases hc;done)|(cases hc;cases hs;done)|(obtain ⟨x',hX,rfl⟩:=Option.map_eq_some_iff.1 hc;cases hs;done)
theorem call_run {o:Oper} {f:Nat} {args:List XO} (hc:xopOf P o=some (.call f args)):
  ∃ xs:Array Value,VRs E W (args.map ρ) xs.toList∧(execOp σ o).run P W=.ok (.enter f xs) W:=by
 rcases op_shape hc rfl with ⟨X,x',_,_,h⟩|⟨c,args',hop,hargs,⟨f',fn,hcal,hf,hn,hb,he⟩|⟨F,F',_,_,he⟩⟩
 ·cases h
 ·cases he
  have self:=fn_self hρ hr hc0 f
  refine ⟨c.args.map σ,by simpa using mapO_vals hρ hargs,?_⟩
  have hn2:fn.name≠ "runtime.NumGoroutine" :=by simpa using hn
  have hb2:¬ fn.body=none:=by intro e;rw [e] at hb;cases hb
  obtain ⟨dst,op,type,pos,after,guard⟩:=o
  simp only at hop;subst hop
  simp [execOp,resolve,hcal,self,Deferred.ofValue,invoke,callFunc,hf,hn2,hb2]
 ·cases he
theorem callv_run {o:Oper} {F:XO} {args:List XO} (hc:xopOf P o=some (.callv F args)) {f:Nat} {a b:List AV} (hf:ρ F=.fn f a b) {fn:Func} (hfn:P.funcs[f]? =some fn) (hb:fn.body.isSome=true) (hn:(fn.name == "runtime.NumGoroutine")=false):
  ∃ xs:Array Value,VRs E W (a++args.map ρ++b) xs.toList∧(execOp σ o).run P W=.ok (.enter f xs) W:=by
 rcases op_shape hc rfl with ⟨X,x',_,_,h⟩|⟨c,args',hop,hargs,⟨f',fn,hcal,_,_,_,he⟩|⟨F0,F',hcal,hF,he⟩⟩
 ·cases h
 ·cases he
 ·cases he
  have hx:=hρ F0 F hF
  rw [hf] at hx
  obtain ⟨p,q,hs,hp,hq⟩:=hx.fn_inv
  refine ⟨p++c.args.map σ++q,?_,?_⟩
  ·simp only [Array.toList_append,Array.toList_map]
   exact (hp.append (mapO_vals hρ hargs)).append hq
  have hn2:fn.name≠ "runtime.NumGoroutine" :=by simpa using hn
  have hb2:¬ fn.body=none:=by intro e;rw [e] at hb;cases hb
  obtain ⟨dst,op,type,pos,after,guard⟩:=o
  simp only at hop;subst hop
  simp [execOp,resolve,hcal,hs,Deferred.ofValue,invoke,callFunc,hfn,hn2,hb2]
theorem panic_run {o:Oper} {X:XO} (hc:xopOf P o=some (.panic X)) {t:Nat} {w:AV} (hX:ρ X=.iface t w):∃ z,VR E W (.iface t w) z∧(execOp σ o).run P W=.halt (.panic z) W:=by
 rcases op_shape hc rfl with ⟨X0,x',hop,hX0,h⟩|⟨c,args',hop,hargs,⟨f',fn,hcal,_,_,_,he⟩|⟨F0,F',hcal,hF,he⟩⟩
 ·cases h
  have hx:=hρ X0 X hX0
  rw [hX] at hx
  obtain ⟨y,hy,hv⟩:=hx.iface_inv
  refine ⟨σ X0,hx,?_⟩
  obtain ⟨dst,op,type,pos,after,guard⟩:=o
  simp only at hop;subst hop
  simp [execOp,Instr.panic,hy]
 ·cases he
 ·cases he
end
end Go.Proofs.YtmadknpaljaecaaGreatDoor.Ev
namespace Go.Proofs.YtmadknpaljaecaaGreatDoor.Ev
open Go
def OpR.np:OpR→Bool
 |.panic _ _=>false
 |_=>true
def simple0:XOp→Bool
 |.call ..|.callv ..|.panic _|.bad=>false
 |_=>true
theorem np_opR (o:Option AV) (h:Heap) (w:Nat):(opR o h w).np=true:=by cases o <;> rfl
theorem np_bif (c:Bool) (x y:OpR) (hx:x.np=true) (hy:y.np=true):(bif c then x else y).np=true:=by cases c <;> assumption
theorem np_ite (c:Prop) [Decidable c] (x y:OpR) (hx:x.np=true) (hy:y.np=true):(if c then x else y).np=true:=by split <;> assumption
section
variable (ρ:XO→AV) (h:Heap)
theorem np_append (e s l:Nat) (x y:AV):(append e s l h x y).np=true:=by
 unfold append
 repeat' first
  |rfl
  |exact np_opR ..
  |refine np_bif _ _ _ ?_ ?_
  |split
theorem np_PA (p:PA):(ePA ρ h p).np=true:=by
 cases p <;> simp only [ePA,o_bin,o_eq,o_un,o_ext,o_lenS,o_lenSl,o_capSl,o_nilchk,o_fa,o_iaS,o_iaA,o_ixS,o_cvI,o_slS]
 all_goals repeat' first
  |rfl
  |exact np_opR ..
  |refine np_bif _ _ _ ?_ ?_
  |refine np_ite _ _ _ ?_ ?_
  |split
theorem np_PB (p:PB):(ePB ρ h p).np=true:=by
 cases p <;> simp only [ePB,o_build,o_cvF,o_cvFI,o_cvFF,o_cvIS,o_slSl,o_slA,o_fld,o_ixA,o_ta,o_mn,o_mx,o_usd,o_fbits,o_ffrom,o_ixB,o_cnt,o_trunc]
 all_goals repeat' first
  |rfl
  |exact np_opR ..
  |refine np_bif _ _ _ ?_ ?_
  |refine np_ite _ _ _ ?_ ?_
  |split
theorem np_HA (p:HA):(eHA ρ h p).np=true:=by
 cases p <;> simp only [eHA,o_ld,o_st,o_new,o_box,o_bsl,newCells]
 all_goals repeat' first
  |rfl
  |exact np_opR ..
  |exact np_append ..
  |refine np_bif _ _ _ ?_ ?_
  |refine np_ite _ _ _ ?_ ?_
  |split
theorem np_HB (p:HB):(eHB ρ h p).np=true:=by
 cases p <;> simp only [eHB,o_cvSB,o_cvBS,o_cvP,o_ins,o_lkp,o_mksl,o_rngS,o_nxtS,o_lenM,o_cpy,o_us,o_mkNZ,newCells]
 all_goals repeat' first
  |rfl
  |exact np_opR ..
  |refine np_bif _ _ _ ?_ ?_
  |refine np_ite _ _ _ ?_ ?_
  |split
theorem free_PA {p:PA} {v:AV} {h1:Heap} (e:ePA ρ h p=.ok v h1):h1=h∧∀ h2,ePA ρ h2 p=.ok v h2:=by
 have o:∀ {o:Option AV} {w:Nat},opR o h w=.ok v h1→h1=h∧∀ h2,opR o h2 w=.ok v h2:=by
  intro o w e;cases o <;> simp only [opR,OpR.ok.injEq,reduceCtorEq] at e
  exact ⟨e.2.symm,fun h2=>by simp [opR,e.1]⟩
 cases p <;> simp only [ePA,o_bin,o_eq,o_un,o_ext,o_lenS,o_lenSl,o_capSl,o_nilchk,o_fa,o_iaS,o_iaA,o_ixS,o_cvI,o_slS] at e ⊢
 all_goals first
  |exact o e
  |skip
 all_goals repeat' first
  |(cases e;exact ⟨rfl,fun _=>rfl⟩)
  |(exact o e)
  |(cases e;done)
  |split at e
theorem free_PB {p:PB} {v:AV} {h1:Heap} (e:ePB ρ h p=.ok v h1):h1=h∧∀ h2,ePB ρ h2 p=.ok v h2:=by
 have o:∀ {o:Option AV} {w:Nat},opR o h w=.ok v h1→h1=h∧∀ h2,opR o h2 w=.ok v h2:=by
  intro o w e;cases o <;> simp only [opR,OpR.ok.injEq,reduceCtorEq] at e
  exact ⟨e.2.symm,fun h2=>by simp [opR,e.1]⟩
 have b:∀ {c:Bool} {x y:Heap→OpR},((x h=.ok v h1)→h1=h∧∀ h2,x h2=.ok v h2)→((y h=.ok v h1)→h1=h∧∀ h2,y h2=.ok v h2)→((bif c then x h else y h)=.ok v h1)→h1=h∧∀ h2,(bif c then x h2 else y h2)=.ok v h2:=by
  intro c x y hx hy hc;cases c
  ·exact hy hc
  ·exact hx hc
 have ok:∀ {w:AV},(OpR.ok w h=.ok v h1)→h1=h∧∀ h2,OpR.ok w h2=.ok v h2:=by intro w e;cases e;exact ⟨rfl,fun _=>rfl⟩
 have no:∀ {w:Nat},(OpR.no w=.ok v h1)→h1=h∧∀ h2:Heap,OpR.no w=.ok v h2:=by intro w e;cases e
 cases p <;> simp only [ePB,o_build,o_cvF,o_cvFI,o_cvFF,o_cvIS,o_slSl,o_slA,o_fld,o_ixA,o_ta,o_mn,o_mx,o_usd,o_fbits,o_ffrom,o_ixB,o_cnt,o_trunc] at e ⊢
 case cvFI k x=>
  split at e
  ·split at e
   ·rename_i n _
    by_cases hc:k.min≤n∧n≤k.max
    ·rw [if_pos hc] at e
     cases e
     exact ⟨rfl,fun _=>if_pos hc⟩
    ·rw [if_neg hc] at e;cases e
   ·cases e
  ·cases e
 case cvFF k x=>
  split at e
  ·rename_i s b _
   by_cases hs:s=k
   ·rw [if_pos hs] at e
    cases e
    exact ⟨rfl,fun _=>if_pos hs⟩
   ·rw [if_neg hs] at e
    simp only [if_neg hs]
    split at e
    ·cases e;exact ⟨rfl,fun _=>rfl⟩
    ·rename_i t m e' _
     by_cases hi:(k.decode (k.encode (.number t m e'))).isInfinity=true
     ·rw [if_pos hi] at e;cases e
     ·rw [if_neg hi] at e
      cases e
      exact ⟨rfl,fun _=>if_neg hi⟩
    ·cases e
  ·cases e
 all_goals first
  |exact o e
  |skip
 all_goals repeat' first
  |exact ok e
  |exact o e
  |exact no e
  |exact b (x:=fun h=>.ok _ h) (y:=fun h=>.ok _ h) ok ok e
  |exact b (x:=fun h=>.ok _ h) (y:=fun h=>.no _) ok no e
  |exact b (x:=fun h=>.no _) (y:=fun h=>.ok _ h) no ok e
  |exact b (x:=fun h=>bif _ then .ok _ h else .ok _ h) (y:=fun h=>.no _) (b (x:=fun h=>.ok _ h) (y:=fun h=>.ok _ h) ok ok) no e
  |exact b (x:=fun h=>.ok _ h) (y:=fun h=>bif _ then .ok _ h else .no _) ok (b (x:=fun h=>.ok _ h) (y:=fun h=>.no _) ok no) e
  |split at e
theorem np_simple (call:CallT) {x:XOp} (hs:simple0 x=true):(xop call ρ h x).np=true:=by
 cases x with
 |mv _=>rfl
 |p o=>exact np_PA ρ h o
 |h o=>exact np_HA ρ h o
 |pick c a b=>simp only [xop];split <;> rfl
 |q o=>exact np_PB ρ h o
 |g o=>exact np_HB ρ h o
 |call f l=>cases hs
 |callv f l=>cases hs
 |panic _=>cases hs
 |bad=>cases hs
end
end Go.Proofs.YtmadknpaljaecaaGreatDoor.Ev
namespace Go.Proofs.YtmadknpaljaecaaGreatDoor.Ev
open Go
structure EnvR (E:Env) (W:World) (nt:Nat) (env:Nat→AV) (a:Act):Prop where
 size:nt≤a.tmps.size
 vals:∀ t,VR E W (env t) (a.tmps.getD t undef)
def GlobR (E:Env) (W:World) (C:Ctx):Prop:=∀ g,VR E W (C.glob g) (.pointer (some ⟨g,0,none⟩))
theorem EnvR.mono {E E':Env} {W W':World} {nt:Nat} {env:Nat→AV} {a:Act} (h:EnvR E W nt env a) (hl:E.le E') (hk:Keep E W W'):EnvR E' W' nt env a:=
 ⟨h.size,fun t=>(h.vals t).mono hl hk⟩
theorem GlobR.mono {E E':Env} {W W':World} {C:Ctx} (h:GlobR E W C) (hl:E.le E') (hk:Keep E W W'):GlobR E' W' C:=fun g=>(h g).mono hl hk
def evalF (C:Ctx) (env:Nat→AV):XO→AV
 |.t n=>env n
 |.c v=>v
 |.g k=>C.glob k
theorem evalF_at (C:Ctx) (env:T AV):evalF C env.at=eval C env:=by funext x;cases x <;> rfl
theorem xo_rel {E:Env} {W:World} {C:Ctx} {nt:Nat} {env:Nat→AV} {a:Act} (he:EnvR E W nt env a) (hg:GlobR E W C) (X:Operand) (x:XO) (h:xo X=some x):VR E W (evalF C env x) (a.eval X):=by
 cases X with
 |tmp t=>simp only [xo,Option.some.injEq] at h;subst h;exact he.vals t
 |const v=>
  obtain ⟨w,hw,rfl⟩:=Option.map_eq_some_iff.1 (show (toAV v).map XO.c=some x from h)
  exact toAV_sound hw
 |global g=>simp only [xo,Option.some.injEq] at h;subst h;exact hg g
 |func f=>
  simp only [xo,Option.some.injEq] at h;subst h
  exact .fn .nil .nil
theorem EnvR.put {E:Env} {W:World} {nt:Nat} {env:Nat→AV} {a:Act} (he:EnvR E W nt env a) {d:Option Nat} (hd:∀ t,d=some t→t < nt) {v:AV} {z:Value} (hv:VR E W v z):
  EnvR E W nt (fun t=>if d=some t then v else env t) (a.put d z):=by
 cases d with
 |none=>exact ⟨he.size,fun t=>by simp [Act.put];simpa using he.vals t⟩
 |some d=>
  have hlt:d < a.tmps.size:=Nat.lt_of_lt_of_le (hd d rfl) he.size
  refine ⟨by simp [Act.put];exact he.size,fun t=>?_⟩
  by_cases h:d=t
  ·subst h
   simp [Act.put,hlt]
   exact hv
  ·have:=he.vals t
   simp only [Option.some.injEq,h,if_false,Act.put,Array.getD_eq_getD_getElem?,Array.getElem?_setIfInBounds_ne h] at this ⊢
   exact this
theorem put_at (env:T AV) (d:Option Nat) (v:AV):(put env d v).at=fun t=>if d=some t then v else env.at t:=by
 funext t
 cases d with
 |none=>simp [Ev.put]
 |some d=>
  simp only [Ev.put,T.at_set,Option.some.injEq]
  by_cases h:t=d
  ·subst h;simp
  ·rw [if_neg h,if_neg (Ne.symm h)]
def CallPost (E:Env) (W:World) (r:OpR) (e:Ending) (W':World):Prop:=
 ∃ E',Stp E W E' W'∧match r with
  |.ok v h'=>HR E' W' h'∧∃ z,e=.returned z∧VR E' W' v z
  |.panic v h'=>HR E' W' h'∧∃ z,e=.panicked [{ v:=z,recovered:=false }]∧VR E' W' v z
  |.no _=>False
def OpR.told:OpR→Prop
 |.no _=>False
 |_=>True
def Out.told:Out→Prop
 |.no _=>False
 |_=>True
def FnOk (P:Program) (C:Ctx) (f:Nat) (args:List AV) (h:Heap) (r:OpR):Prop:=
 (∃ pf,P.funcs[f]? =some pf∧pf.body.isSome=true∧(pf.name == "runtime.NumGoroutine")=false)∧
  ∀ E W (xs:Array Value),HR E W h→GlobR E W C→VRs E W args xs.toList→Calls P f xs W (CallPost E W r)
def CallOk (P:Program) (C:Ctx) (call:CallT):Prop:=
 ∀ f args h,(call f args h).told→FnOk P C f args h (call f args h)
def exitOf:XExit→Exit
 |.nrm=>.normal
 |.exit id=>.exit id
 |.goto l=>.goto l
 |.ret=>.ret
 |.panic _=>.normal
def Post (E:Env) (W:World) (nt:Nat) (a₀:Act) (o:Out) (e:Exit) (a:Act) (W':World):Prop:=
 ∃ E',Stp E W E' W'∧a.defers=a₀.defers∧match o with
  |.ok (.panic v) _ h'=>HR E' W' h'∧∃ z,e=.panic [{ v:=z,recovered:=false }]∧VR E' W' v z
  |.ok x env h'=>HR E' W' h'∧e=exitOf x∧EnvR E' W' nt env.at a
  |.no _=>False
theorem Post.pre {E E1:Env} {W W1:World} {nt:Nat} {a₀ a₁:Act} {o:Out} (hs:Stp E W E1 W1) (hd:a₁.defers=a₀.defers) {e:Exit} {a:Act} {W':World} (h:Post E1 W1 nt a₁ o e a W'):Post E W nt a₀ o e a W':=by
 obtain ⟨E',h1,h2,h3⟩:=h
 exact ⟨E',hs.trans h1,h2.trans hd,h3⟩
structure St (C:Ctx) (nt:Nat) (E:Env) (W:World) (env:Nat→AV) (h:Heap) (a:Act):Prop where
 hr:HR E W h
 env:EnvR E W nt env a
 glob:GlobR E W C
structure CtxOk (P:Program) (C:Ctx) (pur:Nat→Bool):Prop where
 fns:∀ f fn,C.fns f=some fn→∃ pf code,P.funcs[f]? =some pf∧pf.body=some code∧(pf.name == "runtime.NumGoroutine")=false∧xcode P pur pf.ntmps code=some fn.body∧
  mapO (fun r=>match r with|ResultVar.tmp t=>some (XRes.tmp t)|.cell t ty=>(match aggT P ty,sizeT P ty with|some g,some n=>some (.cell t g (if g then n else 1))|_,_=>none)) pf.results.toList=some fn.results∧
  fn.pure=pur f
 mixed:P.follows .mixedOrders=true
 sums:∀ f g,C.sum f=some g→∀ args h,(g args h).told→FnOk P C f args h (g args h)
 sumPure:∀ f g,C.sum f=some g→pur f=true→∀ args h v h',g args h=.ok v h'→h' =h
theorem guard_run {E:Env} {W:World} {nt:Nat} {ops:Array Oper} {o:Oper} {g:Option (Nat×Bool)} {env:T AV} {a:Act} (he:EnvR E W nt env.at a) (hg:xgrd ops o.guard=some g) {b:Bool} (hw:wanted env g=some b):
  Region.wanted o (yielded ops a.tmps)=b:=by
 unfold xgrd at hg
 unfold Region.wanted
 split at hg
 ·rename_i e;cases hg;rw [e]
  simp only [wanted,Option.some.injEq] at hw
  exact hw
 ·rename_i j want e
  rw [e]
  split at hg
  ·rename_i t ht
   cases hg
   simp only [wanted] at hw
   have hv:=he.vals t
   simp only
   have hy:yielded ops a.tmps j=(match a.tmps[t]? with|some (.bool b)=>some b|_=>none):=by
    unfold yielded;rw [ht];rfl
   rw [hy]
   split at hw
   ·rename_i x ex
    cases hw
    rw [ex] at hv
    have:=hv.bool_inv
    rw [Array.getD_eq_getD_getElem?] at this
    cases ht2:a.tmps[t]? with
    |none=>rw [ht2] at this;simp [undef] at this
    |some z=>
     rw [ht2] at this
     simp at this
     subst this
     cases x <;> cases want <;> rfl
   ·rename_i ex
    cases hw
    rw [ex] at hv
    rw [Array.getD_eq_getD_getElem?] at hv
    cases ht2:a.tmps[t]? with
    |none=>rfl
    |some z=>
     rw [ht2] at hv
     simp at hv
     generalize hz:z=z' at hv
     cases hv
     rfl
   ·cases hw
  ·cases hg
theorem xoper_some {P:Program} {nt:Nat} {ops:Array Oper} {o:Oper} {x:XOper} (h:xoper P nt ops o=some x):
  (xopOf P o=some x.op∨x.op=.bad)∧xgrd ops o.guard=some x.grd∧x.dst=o.dst∧∀ t,o.dst=some t→t < nt:=by
 have key:∀ (q:XOp),q=(xopOf P o).getD .bad→(xopOf P o=some q∨q=.bad):=fun q hq=>by
  cases hx:xopOf P o with
  |none=>rw [hx] at hq;exact .inr hq
  |some y=>rw [hx] at hq;exact .inl (by rw [hq];rfl)
 unfold xoper at h
 split at h
 ·rename_i g hg
  split at h
  ·rename_i d hd
   split at h
   ·rename_i hlt
    cases h
    exact ⟨key _ rfl,hg,hd.symm,fun t ht=>by rw [hd] at ht;cases ht;exact hlt⟩
   ·cases h
  ·rename_i hd
   cases h
   exact ⟨key _ rfl,hg,hd.symm,fun t ht=>by rw [hd] at ht;cases ht⟩
 ·cases h
theorem oper_ok {P:Program} {C:Ctx} {call:CallT} (hcall:CallOk P C call) {nt:Nat} {E:Env} {W:World} {env:Nat→AV} {h:Heap} {a:Act} (st:St C nt E W env h a) {o:Oper} {x:XOp} (hx:xopOf P o=some x∨x=.bad)
  {next:Act→World→Prop} {Q:Exit→Act→World→Prop}
  (hok:match xop call (evalF C env) h x with
   |.ok v h'=>∀ E' W' z,Stp E W E' W'→HR E' W' h'→VR E' W' v z→next (a.put o.dst z) W'
   |.panic v h'=>∀ E' W' z,Stp E W E' W'→HR E' W' h'→VR E' W' v z→Q (.panic [{ v:=z,recovered:=false }]) a W'
   |.no _=>False):o.wp P a W next Q:=by
 have hρ:=xo_rel st.env st.glob
 have hc0:∀ v,evalF C env (.c v)=v:=fun _=>rfl
 rcases hx with hx|rfl
 case inr=>exact hok.elim
 have called:∀ f args (xs:Array Value),(execOp a.eval o).run P W=.ok (.enter f xs) W→VRs E W args xs.toList→(∀ r,call f args h=r→(match r with
   |.ok v h'=>∀ E' W' z,Stp E W E' W'→HR E' W' h'→VR E' W' v z→next (a.put o.dst z) W'
   |.panic v h'=>∀ E' W' z,Stp E W E' W'→HR E' W' h'→VR E' W' v z→Q (.panic [{ v:=z,recovered:=false }]) a W'
   |.no _=>False))→o.wp P a W next Q:=by
  intro f args xs hrun hxs hr
  unfold Oper.wp
  rw [hrun]
  simp only [Oper.upon]
  have told:(call f args h).told:=by
   have:=hr _ rfl
   cases e:call f args h with
   |no w=>rw [e] at this;exact this.elim
   |ok v h'=>trivial
   |panic v h'=>trivial
  refine ((hcall f args h told).2 E W xs st.hr st.glob hxs).mono fun e W' hp=>?_
  obtain ⟨E',hs,hp⟩:=hp
  have hr2:=hr _ rfl
  cases er:call f args h with
  |no w=>rw [er] at told;exact told.elim
  |ok v h'=>
   rw [er] at hp hr2
   obtain ⟨h1,z,rfl,h2⟩:=hp
   exact hr2 E' W' z hs h1 h2
  |panic v h'=>
   rw [er] at hp hr2
   obtain ⟨h1,z,rfl,h2⟩:=hp
   exact hr2 E' W' z hs h1 h2
 cases hs:simple x with
 |true=>
  cases he:xop call (evalF C env) h x with
  |ok v h'=>
   rw [he] at hok
   obtain ⟨E',W',n,z,h1,h2,h3,h4,h5⟩:=op_run hρ st.hr hc0 hx hs he
   unfold Oper.wp
   rw [h1]
   rcases h2 with rfl|⟨rfl,rfl⟩
   ·exact hok E' W' z h3 h4 h5
   ·exact hok E' W' undef h3 h4 h5
  |panic v h'=>
   have hnp:=np_simple (evalF C env) h call (x:=x) (by cases x <;> first|rfl|(cases hs;done))
   rw [he] at hnp
   cases hnp
  |no w=>rw [he] at hok;exact hok.elim
 |false=>
  cases x with
  |call f args=>
   obtain ⟨xs,h1,h2⟩:=call_run hρ st.hr hc0 hx
   refine called f _ xs h2 h1 fun r hr=>?_
   subst hr
   exact hok
  |callv F args=>
   simp only [xop] at hok
   split at hok
   ·rename_i r0 v0 h0 e
    split at e
    ·rename_i f a1 b1 ef
     have told:(call f (a1++args.map (evalF C env)++b1) h).told:=by rw [e];trivial
     obtain ⟨pf,q1,q2,q3⟩:=(hcall _ _ _ told).1
     obtain ⟨xs,h1,h2⟩:=callv_run hρ st.hr hc0 hx ef q1 q2 q3
     refine called f _ xs h2 h1 fun r hr=>?_
     subst hr
     rw [e];exact hok
    ·cases e
   ·rename_i r0 v0 h0 e
    split at e
    ·rename_i f a1 b1 ef
     have told:(call f (a1++args.map (evalF C env)++b1) h).told:=by rw [e];trivial
     obtain ⟨pf,q1,q2,q3⟩:=(hcall _ _ _ told).1
     obtain ⟨xs,h1,h2⟩:=callv_run hρ st.hr hc0 hx ef q1 q2 q3
     refine called f _ xs h2 h1 fun r hr=>?_
     subst hr
     rw [e];exact hok
    ·cases e
   ·exact hok.elim
  |panic X=>
   simp only [xop] at hok
   split at hok
   ·rename_i e;split at e <;> cases e
   ·rename_i v0 h0 e
    split at e
    ·rename_i t w ew
     cases e
     obtain ⟨z,h1,h2⟩:=panic_run hρ st.hr hc0 hx ew
     unfold Oper.wp
     rw [h2]
     exact hok E W z (.refl E W) st.hr h1
    ·cases e
   ·exact hok.elim
  |bad=>exact hok.elim
  |mv _=>cases hs
  |p _=>cases hs
  |h _=>cases hs
  |pick _ _ _=>cases hs
  |q _=>cases hs
  |g _=>cases hs
end Go.Proofs.YtmadknpaljaecaaGreatDoor.Ev
namespace Go.Proofs.YtmadknpaljaecaaGreatDoor.Ev
open Go
def CallLe (a b:CallT):Prop:=∀ f args h,(a f args h).told→b f args h=a f args h
def ExLe (a b:XCode→T AV→Heap→Out):Prop:=∀ c env h,(a c env h).told→b c env h=a c env h
theorem xop_le {a b:CallT} (hle:CallLe a b) {ρ:XO→AV} {h:Heap} {x:XOp} (ht:(xop a ρ h x).told):xop b ρ h x=xop a ρ h x:=by
 cases x with
 |call f args=>exact hle f _ h ht
 |callv f args=>
  simp only [xop] at ht ⊢
  split
  ·rename_i g first cap e;rw [e] at ht;exact hle g _ h ht
  ·rfl
 |mv _=>rfl
 |p _=>rfl
 |h _=>rfl
 |pick _ _ _=>rfl
 |q _=>rfl
 |g _=>rfl
 |panic _=>rfl
 |bad=>rfl
theorem xops_le {a b:CallT} (hle:CallLe a b) {C:Ctx}:∀ (l:List XOper) (env:T AV) (h:Heap),(xops a C l env h).told→xops b C l env h=xops a C l env h
 |[],env,h,_=>rfl
 |o::r,env,h,ht=>by
  simp only [xops] at ht ⊢
  cases hw:wanted env o.grd with
  |none=>rfl
  |some w=>
   rw [hw] at ht
   cases w with
   |false=>simp only at ht ⊢;exact xops_le hle r _ h ht
   |true=>
    simp only at ht ⊢
    cases hx:xop a (eval C env) h o.op with
    |ok v h'=>
     rw [hx] at ht
     rw [xop_le hle (by rw [hx];trivial),hx]
     simp only at ht ⊢
     exact xops_le hle r _ h' ht
    |panic v h'=>rw [xop_le hle (by rw [hx];trivial),hx]
    |no w=>rw [hx] at ht;exact ht.elim
theorem runD_le {a b:CallT} (hle:CallLe a b) {C:Ctx}:∀ (l:List (XOper×DI)) (env:T AV) (h:Heap) (hs:List Heap) (rs:List Rec) {x},runD a C l env h hs rs=some x→runD b C l env h hs rs=some x
 |[],env,h,hs,rs,x,e=>e
 |p::r,env,h,hs,rs,x,e=>by
  simp only [runD] at e ⊢
  cases hw:wanted env p.1.grd with
  |none=>rw [hw] at e;cases e
  |some w=>
   rw [hw] at e
   cases w with
   |false=>
    simp only at e ⊢
    cases hd:p.2 <;> rw [hd] at e <;> exact runD_le hle r _ _ _ _ e
   |true=>
    simp only at e ⊢
    cases hx:xop a (eval C env) h p.1.op with
    |ok v h'=>
     rw [hx] at e
     rw [xop_le hle (by rw [hx];trivial),hx]
     simp only at e ⊢
     cases hd:p.2 <;> rw [hd] at e <;> exact runD_le hle r _ _ _ _ e
    |panic v h'=>rw [hx] at e;cases e
    |no w=>rw [hx] at e;cases e
theorem again_le {a b:CallT} (hle:CallLe a b) {C:Ctx} {hs:List Heap} {r:Rec} (e:again a C hs r=true):again b C hs r=true:=by
 unfold again at e ⊢
 cases hq:Nat.beq r.lo r.hi with
 |true=>rfl
 |false=>
  rw [hq] at e
  simp only [cond_false] at e ⊢
  rw [List.all_eq_true] at e ⊢
  intro h hm
  have:=e h hm
  cases hx:xop a (eval C r.env) h r.op with
  |ok v h'=>rw [hx] at this;rw [xop_le hle (by rw [hx];trivial),hx];exact this
  |panic v h'=>rw [hx] at this;cases this
  |no w=>rw [hx] at this;cases this
theorem xdraw_le {a b:CallT} (hle:CallLe a b) {C:Ctx} {l:List (XOper×DI)} {env:T AV} {h:Heap} (ht:(xdraw a C l env h).told):xdraw b C l env h=xdraw a C l env h:=by
 unfold xdraw at ht ⊢
 cases hr:runD a C l env h [] [] with
 |none=>rw [hr] at ht;exact ht.elim
 |some x=>
  obtain ⟨env',hs,rs⟩:=x
  rw [hr] at ht
  rw [runD_le hle _ _ _ _ _ hr]
  simp only at ht ⊢
  cases hq:rs.all (again a C hs.reverse) with
  |false=>rw [hq] at ht;exact ht.elim
  |true=>
   have:rs.all (again b C hs.reverse)=true:=by
    rw [List.all_eq_true] at hq ⊢
    exact fun r hm=>again_le hle (hq r hm)
   rw [this]
theorem callB_le {a b:XCode→T AV→Heap→Out} (hle:ExLe a b) {C:Ctx} {f:Nat} {args:List AV} {h:Heap} (ht:(callB a C f args h).told):callB b C f args h=callB a C f args h:=by
 unfold callB at ht ⊢
 cases hf:C.fns f with
 |none=>rfl
 |some fn=>
  rw [hf] at ht
  simp only at ht ⊢
  cases hp:fn.pure with
  |true=>
   rw [hp] at ht
   simp only at ht ⊢
   cases hm:mapO (conv true h depth) args with
   |none=>rfl
   |some args'=>
    rw [hm] at ht
    simp only at ht ⊢
    have:(a fn.body (initEnv args' 0 .nil) .empty).told:=by
     cases e:a fn.body (initEnv args' 0 .nil) .empty with
     |ok _ _ _=>trivial
     |no w=>rw [e] at ht;exact ht
    rw [hle _ _ _ this]
  |false=>
   rw [hp] at ht
   simp only at ht ⊢
   have:(a fn.body (initEnv args 0 .nil) h).told:=by
    cases e:a fn.body (initEnv args 0 .nil) h with
    |ok _ _ _=>trivial
    |no w=>rw [e] at ht;exact ht
   rw [hle _ _ _ this]
theorem callFn_le {a b:XCode→T AV→Heap→Out} (hle:ExLe a b) {C:Ctx}:CallLe (callFn a C) (callFn b C):=by
 intro f args h ht
 unfold callFn at ht ⊢
 cases hs:C.sum f with
 |some g=>rfl
 |none=>rw [hs] at ht;exact callB_le hle ht
theorem step_le {a b:XCode→T AV→Heap→Out} (hle:ExLe a b) {C:Ctx}:ExLe (step C a) (step C b):=by
 intro c env h ht
 have told:∀ {c env h} {k:XExit→T AV→Heap→Out},(match a c env h with|.ok e env h=>k e env h|.no w=>.no w:Out).told→(a c env h).told:=by
  intro c env h k ht
  cases e:a c env h with
  |ok _ _ _=>trivial
  |no w=>rw [e] at ht;exact ht
 cases c with
 |skip=>rfl
 |reg ops=>exact xops_le (callFn_le hle) ops env h ht
 |draw ops=>exact xdraw_le (callFn_le hle) ht
 |seq x y=>
  simp only [step] at ht ⊢
  have t1:=told ht
  rw [hle _ _ _ t1]
  cases e:a x env h with
  |no w=>rfl
  |ok e' env' h'=>
   rw [e] at ht
   simp only at ht ⊢
   cases e' <;> first|rfl|exact hle _ _ _ ht
 |cond x y z=>
  simp only [step] at ht ⊢
  split
  ·rename_i e;rw [e] at ht;exact hle _ _ _ ht
  ·rename_i e;rw [e] at ht;exact hle _ _ _ ht
  ·rfl
 |block id x=>simp only [step] at ht ⊢;rw [hle _ _ _ (told ht)]
 |loop x=>
  simp only [step] at ht ⊢
  have t1:=told ht
  rw [hle _ _ _ t1]
  cases e:a x env h with
  |no w=>rfl
  |ok e' env' h'=>
   rw [e] at ht
   simp only at ht ⊢
   cases e' <;> first|rfl|exact hle _ _ _ ht
 |exit id=>rfl
 |scope x=>exact hle _ _ _ ht
 |scopeAt x y=>
  simp only [step] at ht ⊢
  have t1:=told ht
  rw [hle _ _ _ t1]
  cases e:a y env h with
  |no w=>rfl
  |ok e' env' h'=>
   rw [e] at ht
   simp only at ht ⊢
   cases e' with
   |goto l=>
    simp only at ht ⊢
    cases hf:findLabel x l with
    |none=>rfl
    |some r=>rw [hf] at ht;exact hle _ _ _ ht
   |_=>rfl
 |label l=>rfl
 |goto l=>rfl
 |ret=>rfl
 |bad=>rfl
theorem ex_le1 (C:Ctx):∀ n,ExLe (ex C n) (ex C (n+1))
 |0=>fun c env h ht=>ht.elim
 |n+1=>step_le (ex_le1 C n)
theorem ex_le (C:Ctx) {n m:Nat} (h:n≤m):ExLe (ex C n) (ex C m):=by
 induction h with
 |refl=>exact fun c env h _=>rfl
 |step _ ih=>
  intro c env h ht
  have:=ih c env h ht
  rw [ex_le1 C _ c env h (by rw [this];exact ht),this]
theorem ex_det {C:Ctx} {n m:Nat} {c env h o p} (h1:ex C n c env h=o) (h2:ex C m c env h=p) (t1:o.told) (t2:p.told):o=p:=by
 subst h1;subst h2
 rw [← ex_le C (Nat.le_max_left n m) c env h t1,← ex_le C (Nat.le_max_right n m) c env h t2]
theorem call_det {C:Ctx} {n m:Nat} {f args h o p} (h1:callFn (ex C n) C f args h=o) (h2:callFn (ex C m) C f args h=p) (t1:o.told) (t2:p.told):o=p:=by
 subst h1;subst h2
 rw [← callFn_le (ex_le C (Nat.le_max_left n m)) f args h t1,← callFn_le (ex_le C (Nat.le_max_right n m)) f args h t2]
end Go.Proofs.YtmadknpaljaecaaGreatDoor.Ev
namespace Go.Proofs.YtmadknpaljaecaaGreatDoor.Ev
open Go
abbrev PostC:=XExit→T AV→Heap→Prop
def WPc (C:Ctx) (c:XCode) (env:T AV) (h:Heap) (Q:PostC):Prop:=∃ n e env' h',ex C n c env h=.ok e env' h'∧Q e env' h'
def WPo (C:Ctx) (l:List XOper) (env:T AV) (h:Heap) (Q:PostC):Prop:=∃ n e env' h',xops (callFn (ex C n) C) C l env h=.ok e env' h'∧Q e env' h'
def Does (C:Ctx) (f:Nat) (args:List AV) (h:Heap) (v:AV) (h':Heap):Prop:=∃ n,callFn (ex C n) C f args h=.ok v h'
def Dies (C:Ctx) (f:Nat) (args:List AV) (h:Heap) (v:AV) (h':Heap):Prop:=∃ n,callFn (ex C n) C f args h=.panic v h'
inductive K where
 |c (x:XCode)
 |o (l:List XOper)
 |blk (id:Nat)
def Cont (C:Ctx):List K→PostC→PostC
 |[],Q=>Q
 |k::ks,Q=>fun e env h=>match k,e with
  |.c x,.nrm=>WPc C x env h (Cont C ks Q)
  |.o l,.nrm=>WPo C l env h (Cont C ks Q)
  |.blk i,.exit j=>if j=i then Cont C ks Q .nrm env h else Cont C ks Q (.exit j) env h
  |_,e=>Cont C ks Q e env h
def GoP (C:Ctx) (ks:List K) (env:T AV) (h:Heap) (Q:PostC):Prop:=Cont C ks Q .nrm env h
section
variable {C:Ctx} {env:T AV} {h:Heap} {Q:PostC} {ks:List K}
theorem WPc.mono {c:XCode} {Q R:PostC} (hq:∀ e env h,Q e env h→R e env h) (hw:WPc C c env h Q):WPc C c env h R:=by
 obtain ⟨n,e,env',h',h1,h2⟩:=hw;exact ⟨n,e,env',h',h1,hq _ _ _ h2⟩
theorem WPo.mono {c:List XOper} {Q R:PostC} (hq:∀ e env h,Q e env h→R e env h) (hw:WPo C c env h Q):WPo C c env h R:=by
 obtain ⟨n,e,env',h',h1,h2⟩:=hw;exact ⟨n,e,env',h',h1,hq _ _ _ h2⟩
theorem Cont.mono {Q R:PostC} (hq:∀ e env h,Q e env h→R e env h):∀ (ks:List K) (e:XExit) (env:T AV) (h:Heap),Cont C ks Q e env h→Cont C ks R e env h
 |[],e,env,h,hc=>hq _ _ _ hc
 |k::ks,e,env,h,hc=>by
  have ih:=Cont.mono hq ks
  cases k with
  |c x=>cases e <;> first|exact ih _ _ _ hc|exact WPc.mono ih hc
  |o x=>cases e <;> first|exact ih _ _ _ hc|exact WPo.mono ih hc
  |blk i=>
   cases e with
   |exit j=>
    have hc:if j=i then Cont C ks Q .nrm env h else Cont C ks Q (.exit j) env h:=hc
    show if j=i then Cont C ks R .nrm env h else Cont C ks R (.exit j) env h
    split
    ·rename_i e;rw [if_pos e] at hc;exact ih _ _ _ hc
    ·rename_i e;rw [if_neg e] at hc;exact ih _ _ _ hc
   |_=>exact ih _ _ _ hc
theorem GoP.mono {Q R:PostC} (hq:∀ e env h,Q e env h→R e env h) (hw:GoP C ks env h Q):GoP C ks env h R:=Cont.mono hq ks _ _ _ hw
theorem wpc_ex {n:Nat} {c:XCode} {e:XExit} {env':T AV} {h':Heap} (hx:ex C n c env h=.ok e env' h'):WPc C c env h Q↔Q e env' h':=by
 constructor
 ·rintro ⟨m,e2,env2,h2,k1,k2⟩
  have:=ex_det k1 hx trivial trivial
  cases this;exact k2
 ·exact fun hq=>⟨n,e,env',h',hx,hq⟩
theorem wpc_skip:WPc C .skip env h Q↔Q .nrm env h:=wpc_ex (n:=1) rfl
theorem wpc_exit {i:Nat}:WPc C (.exit i) env h Q↔Q (.exit i) env h:=wpc_ex (n:=1) rfl
theorem wpc_ret:WPc C .ret env h Q↔Q .ret env h:=wpc_ex (n:=1) rfl
theorem wpc_goto {i:Nat}:WPc C (.goto i) env h Q↔Q (.goto i) env h:=wpc_ex (n:=1) rfl
theorem wpc_label {i:Nat}:WPc C (.label i) env h Q↔Q .nrm env h:=wpc_ex (n:=1) rfl
def seqK (C:Ctx) (b:XCode) (Q:PostC):PostC:=fun e env h=>match e with|.nrm=>WPc C b env h Q|e=>Q e env h
theorem wpc_seq {a b:XCode}:WPc C (.seq a b) env h Q↔WPc C a env h (seqK C b Q):=by
 constructor
 ·rintro ⟨n,e,env',h',k1,k2⟩
  cases n with
  |zero=>cases k1
  |succ n=>
  simp only [ex,step] at k1
  cases ha:ex C n a env h with
  |no w=>rw [ha] at k1;cases k1
  |ok e1 env1 h1=>
   rw [ha] at k1
   refine ⟨n,e1,env1,h1,ha,?_⟩
   cases e1 <;> simp only at k1 <;> first|(cases k1;exact k2)|exact ⟨n,e,env',h',k1,k2⟩
 ·rintro ⟨n,e1,env1,h1,ha,hq⟩
  have other:(∀ b',step C (ex C n) (.seq a b') env h=.ok e1 env1 h1)→Q e1 env1 h1→WPc C (.seq a b) env h Q:=fun hs hq=>⟨n+1,e1,env1,h1,hs b,hq⟩
  cases e1 with
  |nrm=>
   obtain ⟨m,e,env',h',hb,hq⟩:=hq
   refine ⟨max n m+1,e,env',h',?_,hq⟩
   simp only [ex,step]
   rw [ex_le C (Nat.le_max_left n m) a env h (by rw [ha];trivial),ha]
   simp only
   rw [ex_le C (Nat.le_max_right n m) b env1 h1 (by rw [hb];trivial),hb]
  |_=>exact other (fun b'=>by simp only [step,ha]) hq
theorem wpc_block {id:Nat} {a:XCode}:WPc C (.block id a) env h Q↔WPc C a env h (fun e env h=>match e with|.exit j=>if j=id then Q .nrm env h else Q (.exit j) env h|e=>Q e env h):=by
 constructor
 ·rintro ⟨n,e,env',h',k1,k2⟩
  cases n with
  |zero=>cases k1
  |succ n=>
  simp only [ex,step] at k1
  cases ha:ex C n a env h with
  |no w=>rw [ha] at k1;cases k1
  |ok e1 env1 h1=>
   rw [ha] at k1
   refine ⟨n,e1,env1,h1,ha,?_⟩
   cases e1 with
   |exit j=>
    simp only at k1 ⊢
    rcases beq_cases j id with ⟨e1,eb⟩|⟨e1,eb⟩ <;> rw [eb] at k1 <;> cases k1
    ·rw [if_pos e1];exact k2
    ·rw [if_neg e1];exact k2
   |_=>simp only at k1;cases k1;exact k2
 ·rintro ⟨n,e1,env1,h1,ha,hq⟩
  cases e1 with
  |exit j=>
   simp only at hq
   rcases beq_cases j id with ⟨e1,eb⟩|⟨e1,eb⟩
   ·rw [if_pos e1] at hq;exact ⟨n+1,.nrm,env1,h1,by simp only [ex,step,ha,eb,cond_true],hq⟩
   ·rw [if_neg e1] at hq;exact ⟨n+1,.exit j,env1,h1,by simp only [ex,step,ha,eb,cond_false],hq⟩
  |_=>exact ⟨n+1,_,env1,h1,by simp only [ex,step,ha],hq⟩
theorem wpc_cond {x:XO} {a b:XCode} {p:Bool} (hx:eval C env x=.bool p):WPc C (.cond x a b) env h Q↔WPc C (bif p then a else b) env h Q:=by
 constructor
 ·rintro ⟨n,e,env',h',k1,k2⟩
  cases n with
  |zero=>cases k1
  |succ n=>
  simp only [ex,step,hx] at k1
  cases p <;> exact ⟨n,e,env',h',k1,k2⟩
 ·rintro ⟨n,e,env',h',k1,k2⟩
  refine ⟨n+1,e,env',h',?_,k2⟩
  simp only [ex,step,hx]
  cases p <;> exact k1
theorem wpc_reg {l:List XOper}:WPc C (.reg l) env h Q↔WPo C l env h Q:=by
 constructor
 ·rintro ⟨n,e,env',h',k1,k2⟩
  cases n with
  |zero=>cases k1
  |succ n=>exact ⟨n,e,env',h',k1,k2⟩
 ·rintro ⟨n,e,env',h',k1,k2⟩
  exact ⟨n+1,e,env',h',k1,k2⟩
theorem wpc_scope {a:XCode}:WPc C (.scope a) env h Q↔WPc C (.scopeAt a a) env h Q:=by
 constructor
 ·rintro ⟨n,e,env',h',k1,k2⟩
  cases n with
  |zero=>cases k1
  |succ n=>exact ⟨n,e,env',h',k1,k2⟩
 ·rintro ⟨n,e,env',h',k1,k2⟩
  exact ⟨n+1,e,env',h',k1,k2⟩
theorem wpc_loop {a:XCode} (I:Nat→T AV→Heap→Prop) (hs:∀ n env h,I n env h→WPc C a env h (fun e env' h'=>match e with|.nrm=>∃ m,m < n∧I m env' h'|e=>Q e env' h')):
  ∀ n env h,I n env h→WPc C (.loop a) env h Q:=by
 intro n
 induction n using Nat.strongRecOn with
 |_ n ih=>
  intro env h hi
  obtain ⟨k,e1,env1,h1,ha,hq⟩:=hs n env h hi
  cases e1 with
  |nrm=>
   obtain ⟨m,hm,hi'⟩:=hq
   obtain ⟨k2,e,env',h',hb,hq⟩:=ih m hm env1 h1 hi'
   refine ⟨max k k2+1,e,env',h',?_,hq⟩
   simp only [ex,step]
   rw [ex_le C (Nat.le_max_left k k2) a env h (by rw [ha];trivial),ha]
   simp only
   rw [ex_le C (Nat.le_max_right k k2) _ env1 h1 (by rw [hb];trivial),hb]
  |_=>exact ⟨k+1,_,env1,h1,by simp only [ex,step,ha],hq⟩
theorem go_nil:GoP C [] env h Q↔Q .nrm env h:=Iff.rfl
theorem go_blk {i:Nat}:GoP C (.blk i::ks) env h Q↔GoP C ks env h Q:=Iff.rfl
theorem go_c {x:XCode}:GoP C (.c x::ks) env h Q↔WPc C x env h (Cont C ks Q):=Iff.rfl
theorem go_o {l:List XOper}:GoP C (.o l::ks) env h Q↔WPo C l env h (Cont C ks Q):=Iff.rfl
theorem go_skip:GoP C (.c .skip::ks) env h Q↔GoP C ks env h Q:=wpc_skip
theorem go_label {l:Nat}:GoP C (.c (.label l)::ks) env h Q↔GoP C ks env h Q:=wpc_label
theorem iff_of_post {A:PostC→Prop} (hm:∀ Q R,(∀ e env h,Q e env h→R e env h)→A Q→A R) {Q R:PostC} (h:∀ e env h,Q e env h↔R e env h):A Q↔A R:=
 ⟨hm _ _ fun e env h'=>(h e env h').1,hm _ _ fun e env h'=>(h e env h').2⟩
theorem go_seq {a b:XCode}:GoP C (.c (.seq a b)::ks) env h Q↔GoP C (.c a::.c b::ks) env h Q:=
 wpc_seq.trans (iff_of_post (A:=fun R=>WPc C a env h R) (fun _ _=>WPc.mono) fun e env h=>by cases e <;> exact Iff.rfl)
theorem go_block {i:Nat} {a:XCode}:GoP C (.c (.block i a)::ks) env h Q↔GoP C (.c a::.blk i::ks) env h Q:=
 wpc_block.trans (iff_of_post (A:=fun R=>WPc C a env h R) (fun _ _=>WPc.mono) fun e env h=>by cases e <;> exact Iff.rfl)
theorem go_reg {l:List XOper}:GoP C (.c (.reg l)::ks) env h Q↔GoP C (.o l::ks) env h Q:=wpc_reg
def CondG (C:Ctx) (v:AV) (a b:XCode) (ks:List K) (env:T AV) (h:Heap) (Q:PostC):Prop:=∃ p,v=.bool p∧GoP C (.c (bif p then a else b)::ks) env h Q
theorem go_cond {x:XO} {a b:XCode}:GoP C (.c (.cond x a b)::ks) env h Q↔CondG C (eval C env x) a b ks env h Q:=by
 constructor
 ·rintro ⟨n,e,env',h',k1,k2⟩
  have hx:∃ p,eval C env x=.bool p:=by
   cases n with
   |zero=>cases k1
   |succ n=>
    simp only [ex,step] at k1
    split at k1
    ·rename_i e;exact ⟨_,e⟩
    ·rename_i e;exact ⟨_,e⟩
    ·cases k1
  obtain ⟨p,hp⟩:=hx
  exact ⟨p,hp,(wpc_cond hp).1 ⟨n,e,env',h',k1,k2⟩⟩
 ·rintro ⟨p,hp,hg⟩
  exact (wpc_cond hp).2 hg
theorem condG_bool {p:Bool} {a b:XCode}:CondG C (.bool p) a b ks env h Q↔GoP C (.c (bif p then a else b)::ks) env h Q:=
 ⟨fun ⟨q,e,hg⟩=>by cases e;exact hg,fun hg=>⟨p,rfl,hg⟩⟩
theorem condG_true {a b:XCode}:CondG C (.bool true) a b ks env h Q↔GoP C (.c a::ks) env h Q:=condG_bool
theorem condG_false {a b:XCode}:CondG C (.bool false) a b ks env h Q↔GoP C (.c b::ks) env h Q:=condG_bool
def ExitG (C:Ctx) (i:Nat) (ks:List K) (env:T AV) (h:Heap) (Q:PostC):Prop:=Cont C ks Q (.exit i) env h
theorem go_exit {i:Nat}:GoP C (.c (.exit i)::ks) env h Q↔ExitG C i ks env h Q:=wpc_exit
theorem exitG_c {i:Nat} {x:XCode}:ExitG C i (.c x::ks) env h Q↔ExitG C i ks env h Q:=Iff.rfl
theorem exitG_o {i:Nat} {x:List XOper}:ExitG C i (.o x::ks) env h Q↔ExitG C i ks env h Q:=Iff.rfl
theorem exitG_blk {i j:Nat}:ExitG C i (.blk j::ks) env h Q↔if i=j then GoP C ks env h Q else ExitG C i ks env h Q:=Iff.rfl
theorem exitG_nil {i:Nat}:ExitG C i [] env h Q↔Q (.exit i) env h:=Iff.rfl
theorem cont_ret:∀ (ks:List K),Cont C ks Q .ret env h↔Q .ret env h
 |[]=>Iff.rfl
 |k::ks=>by cases k <;> exact cont_ret ks
theorem go_ret:GoP C (.c .ret::ks) env h Q↔Q .ret env h:=wpc_ret.trans (cont_ret ks)
theorem cont_panic {v:AV}:∀ (ks:List K),Cont C ks Q (.panic v) env h↔Q (.panic v) env h
 |[]=>Iff.rfl
 |k::ks=>by cases k <;> exact cont_panic ks
theorem go_loop {a:XCode} (I:Nat→T AV→Heap→Prop) {n:Nat} (h0:I n env h) (hs:∀ n env h,I n env h→GoP C [.c a] env h (fun e env' h'=>match e with|.nrm=>∃ m,m < n∧I m env' h'|e=>Cont C ks Q e env' h')):
  GoP C (.c (.loop a)::ks) env h Q:=
 wpc_loop I (fun n env h hi=>hs n env h hi) n env h h0
theorem wpo_nil:WPo C [] env h Q↔Q .nrm env h:=by
 constructor
 ·rintro ⟨n,e,env',h',k1,k2⟩;cases k1;exact k2
 ·exact fun hq=>⟨0,_,_,_,rfl,hq⟩
theorem go_o_nil:GoP C (.o []::ks) env h Q↔GoP C ks env h Q:=wpo_nil
def OpG (C:Ctx) (r:OpR) (dst:Option Nat) (l:List XOper) (ks:List K) (env:T AV) (Q:PostC):Prop:=∃ v h,r=.ok v h∧GoP C (.o l::ks) (put env dst v) h Q
theorem opG_ok {v:AV} {dst:Option Nat} {l:List XOper}:OpG C (.ok v h) dst l ks env Q↔GoP C (.o l::ks) (put env dst v) h Q:=
 ⟨fun ⟨_,_,e,hg⟩=>by cases e;exact hg,fun hg=>⟨_,_,rfl,hg⟩⟩
def plain:XOp→Bool
 |.call ..|.callv ..|.panic _|.bad=>false
 |_=>true
theorem xop_plain {x:XOp} (hp:plain x=true) (a b:CallT) (ρ:XO→AV) (h:Heap):xop a ρ h x=xop b ρ h x:=by
 cases x <;> first|rfl|(cases hp;done)
def noCall:CallT:=fun _ _ _=>.no 0
theorem wpo_plain {dst:Option Nat} {x:XOp} {l:List XOper} (hp:plain x=true) (hnp:∀ v h',xop noCall (eval C env) h x≠.panic v h'):
  WPo C (⟨dst,x,none⟩::l) env h Q↔∃ v h',xop noCall (eval C env) h x=.ok v h'∧WPo C l (put env dst v) h' Q:=by
 constructor
 ·rintro ⟨n,e,env',h',k1,k2⟩
  simp only [xops,wanted] at k1
  rw [xop_plain hp _ noCall] at k1
  split at k1
  ·rename_i v h1 ex;exact ⟨v,h1,ex,n,e,env',h',k1,k2⟩
  ·rename_i v h1 ex;exact (hnp _ _ ex).elim
  ·cases k1
 ·rintro ⟨v,h1,ex,n,e,env',h',k1,k2⟩
  refine ⟨n,e,env',h',?_,k2⟩
  simp only [xops,wanted]
  rw [xop_plain hp _ noCall,ex]
  exact k1
theorem np_plain {x:XOp} (hp:plain x=true) (v:AV) (h':Heap):xop noCall (eval C env) h x≠.panic v h':=by
 have:=np_simple (eval C env) h noCall (x:=x) (by cases x <;> first|rfl|(cases hp;done))
 intro e;rw [e] at this;cases this
theorem go_op {dst:Option Nat} {x:XOp} {l:List XOper} (hp:plain x=true):GoP C (.o (⟨dst,x,none⟩::l)::ks) env h Q↔OpG C (xop noCall (eval C env) h x) dst l ks env Q:=
 wpo_plain hp (np_plain hp)
def GrdG (C:Ctx) (v:AV) (b:Bool) (dst:Option Nat) (x:XOp) (l:List XOper) (ks:List K) (env:T AV) (h:Heap) (Q:PostC):Prop:=
 match v with
 |.bool p=>if p=b then GoP C (.o (⟨dst,x,none⟩::l)::ks) env h Q else GoP C (.o l::ks) (put env dst .undef) h Q
 |.undef=>GoP C (.o l::ks) (put env dst .undef) h Q
 |_=>False
theorem wpo_grd {dst:Option Nat} {x:XOp} {l:List XOper} {t:Nat} {b:Bool}:WPo C (⟨dst,x,some (t,b)⟩::l) env h Q↔
  (match env.at t with
   |.bool p=>if p=b then WPo C (⟨dst,x,none⟩::l) env h Q else WPo C l (put env dst .undef) h Q
   |.undef=>WPo C l (put env dst .undef) h Q
   |_=>False):=by
 have skip:wanted env (some (t,b))=some false→(WPo C (⟨dst,x,some (t,b)⟩::l) env h Q↔WPo C l (put env dst .undef) h Q):=fun hw=>by
  constructor
  ·rintro ⟨n,e,env',h',k1,k2⟩
   simp only [xops,hw] at k1
   exact ⟨n,e,env',h',k1,k2⟩
  ·rintro ⟨n,e,env',h',k1,k2⟩
   exact ⟨n,e,env',h',by simp only [xops,hw];exact k1,k2⟩
 have run:wanted env (some (t,b))=some true→(WPo C (⟨dst,x,some (t,b)⟩::l) env h Q↔WPo C (⟨dst,x,none⟩::l) env h Q):=fun hw=>by
  constructor
  ·rintro ⟨n,e,env',h',k1,k2⟩
   simp only [xops,hw] at k1
   exact ⟨n,e,env',h',by simp only [xops,wanted];exact k1,k2⟩
  ·rintro ⟨n,e,env',h',k1,k2⟩
   simp only [xops,wanted] at k1
   exact ⟨n,e,env',h',by simp only [xops,hw];exact k1,k2⟩
 split
 ·rename_i p e
  split
  ·rename_i hpb;exact run (by simp only [wanted,e];simp [hpb])
  ·rename_i hpb;exact skip (by simp only [wanted,e];simp [hpb])
 ·rename_i e;exact skip (by simp only [wanted,e])
 ·rename_i n1 n2
  constructor
  ·rintro ⟨n,e,env',h',k1,k2⟩
   have:wanted env (some (t,b))=none:=by
    simp only [wanted]
   simp only [xops,this] at k1
   exact Out.noConfusion k1
  ·exact fun e=>e.elim
theorem go_grd {dst:Option Nat} {x:XOp} {l:List XOper} {t:Nat} {b:Bool}:GoP C (.o (⟨dst,x,some (t,b)⟩::l)::ks) env h Q↔GrdG C (env.at t) b dst x l ks env h Q:=by
 refine wpo_grd.trans ?_
 unfold GrdG
 split <;> rfl
section
variable {dst:Option Nat} {x:XOp} {l:List XOper} {b:Bool}
theorem grdG_bool {p:Bool}:GrdG C (.bool p) b dst x l ks env h Q↔if p=b then GoP C (.o (⟨dst,x,none⟩::l)::ks) env h Q else GoP C (.o l::ks) (put env dst .undef) h Q:=Iff.rfl
theorem grdG_tt:GrdG C (.bool true) true dst x l ks env h Q↔GoP C (.o (⟨dst,x,none⟩::l)::ks) env h Q:=Iff.rfl
theorem grdG_ff:GrdG C (.bool false) false dst x l ks env h Q↔GoP C (.o (⟨dst,x,none⟩::l)::ks) env h Q:=Iff.rfl
theorem grdG_tf:GrdG C (.bool true) false dst x l ks env h Q↔GoP C (.o l::ks) (put env dst .undef) h Q:=Iff.rfl
theorem grdG_ft:GrdG C (.bool false) true dst x l ks env h Q↔GoP C (.o l::ks) (put env dst .undef) h Q:=Iff.rfl
theorem grdG_undef:GrdG C .undef b dst x l ks env h Q↔GoP C (.o l::ks) (put env dst .undef) h Q:=Iff.rfl
end
def CallG (C:Ctx) (f:Nat) (args:List AV) (dst:Option Nat) (l:List XOper) (ks:List K) (env:T AV) (h:Heap) (Q:PostC):Prop:=
 (∃ v h',Does C f args h v h'∧GoP C (.o l::ks) (put env dst v) h' Q)∨(∃ v h',Dies C f args h v h'∧Q (.panic v) env h')
theorem go_callA {f:Nat} {args:List AV} {dst:Option Nat} {x:XOp} {l:List XOper} (hx:∀ call,xop call (eval C env) h x=call f args h):GoP C (.o (⟨dst,x,none⟩::l)::ks) env h Q↔CallG C f args dst l ks env h Q:=by
 constructor
 ·rintro ⟨n,e,env',h',k1,k2⟩
  simp only [xops,wanted,hx] at k1
  cases hc:callFn (ex C n) C f args h with
  |ok v h1=>rw [hc] at k1;exact .inl ⟨v,h1,⟨n,hc⟩,n,e,env',h',k1,k2⟩
  |panic v h1=>rw [hc] at k1;cases k1;exact .inr ⟨v,_,⟨n,hc⟩,(cont_panic ks).1 k2⟩
  |no w=>rw [hc] at k1;cases k1
 ·rintro (⟨v,h1,⟨n,hc⟩,m,e,env',h',k1,k2⟩|⟨v,h1,⟨n,hc⟩,hq⟩)
  ·refine ⟨max n m,e,env',h',?_,k2⟩
   simp only [xops,wanted,hx]
   rw [callFn_le (ex_le C (Nat.le_max_left n m)) f args h (by rw [hc];trivial),hc]
   simp only
   rw [xops_le (callFn_le (ex_le C (Nat.le_max_right n m))) _ _ _ (by rw [k1];trivial),k1]
  ·refine ⟨n,.panic v,env,h1,?_,(cont_panic ks).2 hq⟩
   simp only [xops,wanted,hx,hc]
theorem go_call {f:Nat} {args:List XO} {dst:Option Nat} {l:List XOper}:GoP C (.o (⟨dst,.call f args,none⟩::l)::ks) env h Q↔CallG C f (args.map (eval C env)) dst l ks env h Q:=go_callA fun _=>rfl
theorem callG_of {f:Nat} {args:List AV} {dst:Option Nat} {l:List XOper} {v:AV} {h':Heap} (hd:Does C f args h v h'):CallG C f args dst l ks env h Q↔GoP C (.o l::ks) (put env dst v) h' Q:=by
 obtain ⟨n,hn⟩:=hd
 constructor
 ·rintro (⟨v2,h2,⟨m,hm⟩,hg⟩|⟨v2,h2,⟨m,hm⟩,hq⟩)
  ·have:=call_det hn hm trivial trivial;cases this;exact hg
  ·have:=call_det hn hm trivial trivial;cases this
 ·exact fun hg=>.inl ⟨v,h',⟨n,hn⟩,hg⟩
theorem callG_dies {f:Nat} {args:List AV} {dst:Option Nat} {l:List XOper} {v:AV} {h':Heap} (hd:Dies C f args h v h'):CallG C f args dst l ks env h Q↔Q (.panic v) env h':=by
 obtain ⟨n,hn⟩:=hd
 constructor
 ·rintro (⟨v2,h2,⟨m,hm⟩,hg⟩|⟨v2,h2,⟨m,hm⟩,hq⟩)
  ·have:=call_det hn hm trivial trivial;cases this
  ·have:=call_det hn hm trivial trivial;cases this;exact hq
 ·exact fun hg=>.inr ⟨v,h',⟨n,hn⟩,hg⟩
def CallvG (C:Ctx) (fv:AV) (args:List AV) (dst:Option Nat) (l:List XOper) (ks:List K) (env:T AV) (h:Heap) (Q:PostC):Prop:=
 ∃ f a b,fv=.fn f a b∧CallG C f (a++args++b) dst l ks env h Q
theorem callvG_fn {f:Nat} {a b args:List AV} {dst:Option Nat} {l:List XOper}:CallvG C (.fn f a b) args dst l ks env h Q↔CallG C f (a++args++b) dst l ks env h Q:=
 ⟨fun ⟨_,_,_,e,hg⟩=>by cases e;exact hg,fun hg=>⟨_,_,_,rfl,hg⟩⟩
theorem go_callv {x:XO} {args:List XO} {dst:Option Nat} {l:List XOper}:GoP C (.o (⟨dst,.callv x args,none⟩::l)::ks) env h Q↔CallvG C (eval C env x) (args.map (eval C env)) dst l ks env h Q:=by
 by_cases hf:∃ f a b,eval C env x=.fn f a b
 ·obtain ⟨f,a,b,e⟩:=hf
  rw [e,callvG_fn]
  exact go_callA fun call=>by simp only [xop,e]
 ·constructor
  ·rintro ⟨n,e,env',h',k1,k2⟩
   simp only [xops,wanted,xop] at k1
   split at k1
   ·rename_i r v h1 ex
    split at ex
    ·rename_i f a b ef;exact (hf ⟨f,a,b,ef⟩).elim
    ·cases ex
   ·rename_i r v h1 ex
    split at ex
    ·rename_i f a b ef;exact (hf ⟨f,a,b,ef⟩).elim
    ·cases ex
   ·cases k1
  ·rintro ⟨f,a,b,e,_⟩;exact (hf ⟨f,a,b,e⟩).elim
def PanG (v:AV) (env:T AV) (h:Heap) (Q:PostC):Prop:=∃ t w,v=.iface t w∧Q (.panic v) env h
theorem panG_iface {t:Nat} {w:AV}:PanG (.iface t w) env h Q↔Q (.panic (.iface t w)) env h:=⟨fun ⟨_,_,_,hq⟩=>hq,fun hq=>⟨_,_,rfl,hq⟩⟩
theorem go_panic {x:XO} {dst:Option Nat} {l:List XOper}:GoP C (.o (⟨dst,.panic x,none⟩::l)::ks) env h Q↔PanG (eval C env x) env h Q:=by
 constructor
 ·rintro ⟨n,e,env',h',k1,k2⟩
  simp only [xops,wanted,xop] at k1
  split at k1
  ·rename_i ex;split at ex <;> cases ex
  ·rename_i v h1 ex
   split at ex
   ·rename_i t w ew;cases ex;cases k1;exact ⟨t,w,ew,by rw [ew];exact (cont_panic ks).1 k2⟩
   ·cases ex
  ·cases k1
 ·rintro ⟨t,w,e,hq⟩
  refine ⟨0,.panic (.iface t w),env,h,?_,(cont_panic ks).2 (by rw [← e];exact hq)⟩
  simp only [xops,wanted,xop,e]
def Back (rs:List XRes) (cp:Bool) (v:AV) (e:XExit) (env:T AV) (h:Heap):Prop:=
 (e=.nrm∨e=.ret)∧∃ vs ws,results env h rs=some vs∧(if cp then mapO (conv false h depth) vs else some vs)=some ws∧one ws=v
theorem does_pure {f:Nat} {fn:XFn} (hs:C.sum f=none) (hf:C.fns f=some fn) (hp:fn.pure=true) {args args':List AV} {h:Heap} {v:AV} (ha:mapO (conv true h depth) args=some args')
  (hb:GoP C [.c fn.body] (initEnv args' 0 .nil) .empty (Back fn.results true v)):Does C f args h v h:=by
 obtain ⟨n,e,env',h',k1,k2,vs,ws,k3,k4,k5⟩:=hb
 refine ⟨n,?_⟩
 simp only [callFn,hs,callB,hf,hp,ha,k1]
 simp only [if_true] at k4
 rcases k2 with rfl|rfl <;> simp only [k3,k4,k5]
theorem does_any {f:Nat} {fn:XFn} (hs:C.sum f=none) (hf:C.fns f=some fn) (hp:fn.pure=false) {args:List AV} {h h':Heap} {v:AV}
  (hb:GoP C [.c fn.body] (initEnv args 0 .nil) h (fun e env h2=>Back fn.results false v e env h2∧h2=h')):Does C f args h v h':=by
 obtain ⟨n,e,env',h2,k1,⟨k2,vs,ws,k3,k4,k5⟩,rfl⟩:=hb
 refine ⟨n,?_⟩
 simp only [callFn,hs,callB,hf,hp,k1]
 simp only [Bool.false_eq_true,if_false,Option.some.injEq] at k4
 subst k4
 rcases k2 with rfl|rfl <;> simp only [k3,k5]
end
end Go.Proofs.YtmadknpaljaecaaGreatDoor.Ev
namespace Go.Proofs.YtmadknpaljaecaaGreatDoor.Ev
open Go
theorem eval_t {C:Ctx} {env:T AV} {n:Nat}:eval C env (.t n)=env.at n:=rfl
theorem eval_c {C:Ctx} {env:T AV} {v:AV}:eval C env (.c v)=v:=rfl
theorem eval_g {C:Ctx} {env:T AV} {n:Nat}:eval C env (.g n)=C.glob n:=rfl
theorem put_some {env:T AV} {d:Nat} {v:AV}:put env (some d) v=env.set d v:=rfl
theorem put_none {env:T AV} {v:AV}:put env none v=env:=rfl
theorem at_nil {n:Nat}:(T.nil:T AV).at n=.undef:=rfl
theorem initEnv_nil {i:Nat} {e:T AV}:initEnv [] i e=e:=rfl
theorem initEnv_cons {v:AV} {r:List AV} {i:Nat} {e:T AV}:initEnv (v::r) i e=initEnv r (i+1) (e.set i v):=rfl
theorem opR_some' {v:AV} {h:Heap} {w:Nat}:opR (some v) h w=.ok v h:=rfl
def pickV':AV→AV→AV→Heap→OpR|.bool true,a,_,h=>.ok a h|.bool false,_,b,h=>.ok b h|_,_,_,_=>.no 110
theorem pickV_t {a b:AV} {h:Heap}:pickV' (.bool true) a b h=.ok a h:=rfl
theorem pickV_f {a b:AV} {h:Heap}:pickV' (.bool false) a b h=.ok b h:=rfl
section
variable {C:Ctx} {env:T AV} {h:Heap} {Q:PostC} {ks:List K} {dst:Option Nat} {l:List XOper}
theorem go_mv {x:XO}:GoP C (.o (⟨dst,.mv x,none⟩::l)::ks) env h Q↔GoP C (.o l::ks) (put env dst (eval C env x)) h Q:=(go_op rfl).trans opG_ok
theorem go_p {x:PA}:GoP C (.o (⟨dst,.p x,none⟩::l)::ks) env h Q↔OpG C (xop noCall (eval C env) h (.p x)) dst l ks env Q:=go_op rfl
theorem go_q {x:PB}:GoP C (.o (⟨dst,.q x,none⟩::l)::ks) env h Q↔OpG C (xop noCall (eval C env) h (.q x)) dst l ks env Q:=go_op rfl
theorem go_h {x:HA}:GoP C (.o (⟨dst,.h x,none⟩::l)::ks) env h Q↔OpG C (xop noCall (eval C env) h (.h x)) dst l ks env Q:=go_op rfl
theorem go_g {x:HB}:GoP C (.o (⟨dst,.g x,none⟩::l)::ks) env h Q↔OpG C (xop noCall (eval C env) h (.g x)) dst l ks env Q:=go_op rfl
theorem go_pick {c a b:XO}:GoP C (.o (⟨dst,.pick c a b,none⟩::l)::ks) env h Q↔OpG C (pickV' (eval C env c) (eval C env a) (eval C env b) h) dst l ks env Q:=by
 refine (go_op rfl).trans ?_
 have:xop noCall (eval C env) h (.pick c a b)=pickV' (eval C env c) (eval C env a) (eval C env b) h:=by
  simp only [xop];unfold pickV';split <;> simp_all
 rw [this]
end
section
variable {call:CallT} {ρ:XO→AV} {h:Heap}
theorem x_mv {x:XO}:xop call ρ h (.mv x)=.ok (ρ x) h:=rfl
theorem x_bin {op:BinOp} {x y:XO}:xop call ρ h (.p (.bin op x y))=opR (binV op (ρ x) (ρ y)) h 1:=rfl
theorem x_un {op:UnOp} {x:XO}:xop call ρ h (.p (.un op x))=opR (unV op (ρ x)) h 3:=rfl
def extV:AV→Nat→Heap→OpR|.tup vs,i,h=>opR vs[i]? h 4|_,_,_=>.no 4
theorem x_ext {x:XO} {i:Nat}:xop call ρ h (.p (.ext x i))=extV (ρ x) i h:=by
 show o_ext ρ h x i=_
 unfold o_ext extV;split <;> simp_all
theorem extV_tup {vs:List AV} {i:Nat}:extV (.tup vs) i h=opR vs[i]? h 4:=rfl
def lenSV:AV→Heap→OpR|.str s,h=>.ok (.int .i64 (.ofNat s.n)) h|_,_=>.no 5
theorem x_lenS {x:XO}:xop call ρ h (.p (.lenS x))=lenSV (ρ x) h:=by
 show o_lenS ρ h x=_
 unfold o_lenS lenSV;split <;> simp_all
def cvIV (k:IntKind):AV→Heap→OpR|.int _ n,h=>.ok (.int k (wrapF k n)) h|_,_=>.no 17
theorem x_cvI {k:IntKind} {x:XO}:xop call ρ h (.p (.cvI k x))=cvIV k (ρ x) h:=by
 show o_cvI ρ h k x=_
 unfold o_cvI cvIV;split <;> simp_all
theorem cvIV_int {k k':IntKind} {n:Int}:cvIV k (.int k' n) h=.ok (.int k (wrapF k n)) h:=rfl
def cvFV (k:FloatKind):AV→Heap→OpR|.int _ n,h=>.ok (.float k (k.nearest n)) h|_,_=>.no 21
theorem x_cvF {k:FloatKind} {x:XO}:xop call ρ h (.q (.cvF k x))=cvFV k (ρ x) h:=by
 show o_cvF ρ h k x=_
 unfold o_cvF cvFV;split <;> simp_all
theorem cvFV_int {k:FloatKind} {k':IntKind} {n:Int}:cvFV k (.int k' n) h=.ok (.float k (k.nearest n)) h:=rfl
def fbV:AV→Heap→OpR|.float .f64 b,h=>.ok (.int .u64 (b:Int)) h|_,_=>.no 49
theorem x_fbits {x:XO}:xop call ρ h (.q (.fbits .f64 x))=fbV (ρ x) h:=by
 show o_fbits ρ h .f64 x=_
 unfold o_fbits fbV;split <;> simp_all <;> rfl
theorem fbV_f {b:Nat}:fbV (.float .f64 b) h=.ok (.int .u64 (b:Int)) h:=rfl
def ffV:AV→Heap→OpR|.int .u64 n,h=>.ok (.float .f64 n.toNat) h|_,_=>.no 50
theorem x_ffrom {x:XO}:xop call ρ h (.q (.ffrom .f64 x))=ffV (ρ x) h:=by
 show o_ffrom ρ h .f64 x=_
 unfold o_ffrom ffV;split <;> simp_all
theorem ffV_i {n:Int}:ffV (.int .u64 n) h=.ok (.float .f64 n.toNat) h:=rfl
def eqGV (neg:Bool) (k:EqK) (x y:AV) (h:Heap):OpR:=match eqTop k x y with|some b=>.ok (.bool (bif neg then !b else b)) h|none=>.no 2
theorem x_eq {neg:Bool} {k:EqK} {x y:XO}:xop call ρ h (.p (.eq neg k x y))=eqGV neg k (ρ x) (ρ y) h:=rfl
theorem eqGV_bool {a b:Bool}:eqGV false .bool (.bool a) (.bool b) h=.ok (.bool (a == b)) h:=rfl
theorem x_bsl {elem len:Nat} {zs:List AV} {ps:List (Nat×Nat×XO)}:xop call ρ h (.h (.bsl elem len zs ps))=o_bsl ρ h elem len zs ps:=rfl
end
theorem beqI (a b:Int):(a == b)=decide (a=b):=by by_cases h:a=b <;> simp [h]
section
variable {k:IntKind} {a b:Int}
theorem b_add:binV .add (.int k a) (.int k b)=some (.int k (wrapF k (a+b))):=by simp [binV,intArith]
theorem b_sub:binV .sub (.int k a) (.int k b)=some (.int k (wrapF k (a - b))):=by simp [binV,intArith]
theorem b_mul:binV .mul (.int k a) (.int k b)=some (.int k (wrapF k (a*b))):=by simp [binV,intArith]
theorem b_rem (h:b≠0):binV .rem (.int k a) (.int k b)=some (.int k (a.tmod b)):=by
 have:eqI b 0=false:=by rw [eqI_eq];simpa using h
 simp [binV,intArith,this]
theorem b_quo (h:b≠0):binV .quo (.int k a) (.int k b)=some (.int k (wrapF k (a.tdiv b))):=by
 have:eqI b 0=false:=by rw [eqI_eq];simpa using h
 simp [binV,intArith,this]
theorem b_and:binV .and (.int k a) (.int k b)=some (.int k (andF k a b)):=by simp [binV,intArith]
theorem b_or:binV .or (.int k a) (.int k b)=some (.int k (orF k a b)):=by simp [binV,intArith]
theorem b_xor:binV .xor (.int k a) (.int k b)=some (.int k (xorF k a b)):=by simp [binV,intArith]
theorem b_andNot:binV .andNot (.int k a) (.int k b)=some (.int k (andNotF k a b)):=by simp [binV,intArith]
theorem b_eql:binV .eql (.int k a) (.int k b)=some (.bool (decide (a=b))):=by simp [binV,intArith,eqI_eq,beqI]
theorem b_neq:binV .neq (.int k a) (.int k b)=some (.bool (decide (a≠b))):=by simp [binV,intArith,eqI_eq,bne,beqI]
theorem b_lss:binV .lss (.int k a) (.int k b)=some (.bool (decide (a < b))):=by simp [binV,intArith,ltI_eq]
theorem b_leq:binV .leq (.int k a) (.int k b)=some (.bool (decide (a≤b))):=by simp [binV,intArith,leI_eq]
theorem b_gtr:binV .gtr (.int k a) (.int k b)=some (.bool (decide (b < a))):=by simp [binV,intArith,ltI_eq]
theorem b_geq:binV .geq (.int k a) (.int k b)=some (.bool (decide (b≤a))):=by simp [binV,intArith,leI_eq]
theorem b_shl {k':IntKind} {n:Nat}:binV .shl (.int k a) (.int k' (n:Int))=some (.int k (shlF k a (min n (kbits k)))):=rfl
theorem b_shr {k':IntKind} {n:Nat}:binV .shr (.int k a) (.int k' (n:Int))=some (.int k (shrF a (min n (kbits k)))):=rfl
end
theorem u64_wrap {n:Nat} (h:n < 18446744073709551616):wrapF .u64 (n:Int)=n:=by
 rw [wrapF_eq,wrap_u64];omega
theorem i64_wrap {x:Int} (h0:-9223372036854775808≤x) (h1:x < 9223372036854775808):wrapF .i64 x=x:=by
 rw [wrapF_eq,wrap_i64 h0 h1]
theorem modM_u64 {n:Nat} (h:n < 18446744073709551616):modM .u64 (n:Int)=n:=Nat.mod_eq_of_lt h
theorem and_u64 {a b:Nat} (ha:a < 18446744073709551616) (hb:b < 18446744073709551616):andF .u64 (a:Int) (b:Int)=((a &&& b:Nat):Int):=by
 unfold andF
 rw [modM_u64 ha,modM_u64 hb]
 exact u64_wrap (Nat.lt_of_le_of_lt Nat.and_le_left ha)
theorem or_u64 {a b:Nat} (ha:a < 18446744073709551616) (hb:b < 18446744073709551616):orF .u64 (a:Int) (b:Int)=((a ||| b:Nat):Int):=by
 unfold orF
 rw [modM_u64 ha,modM_u64 hb]
 exact u64_wrap (Nat.or_lt_two_pow (n:=64) ha hb)
theorem andNot_u64 {a b:Nat} (ha:a < 18446744073709551616) (hb:b < 18446744073709551616):andNotF .u64 (a:Int) (b:Int)=((a &&& (18446744073709551615 - b):Nat):Int):=by
 unfold andNotF
 rw [modM_u64 ha,modM_u64 hb]
 exact u64_wrap (Nat.lt_of_le_of_lt Nat.and_le_left ha)
theorem b_shr' {k k':IntKind} {a y:Int} (h:0≤y):binV .shr (.int k a) (.int k' y)=some (.int k (shrF a (min y.toNat (kbits k)))):=by
 obtain ⟨n,rfl⟩:=Int.eq_ofNat_of_zero_le h;rfl
theorem b_shl' {k k':IntKind} {a y:Int} (h:0≤y):binV .shl (.int k a) (.int k' y)=some (.int k (shlF k a (min y.toNat (kbits k)))):=by
 obtain ⟨n,rfl⟩:=Int.eq_ofNat_of_zero_le h;rfl
theorem shrF_nat {a n:Nat}:shrF (a:Int) n=((a / 2 ^ n:Nat):Int):=by
 show ((a >>> n:Nat):Int)=_;rw [Nat.shiftRight_eq_div_pow]
theorem shlF_nat {k:IntKind} {a n:Nat}:shlF k (a:Int) n=wrapF k ((a*2 ^ n:Nat):Int):=by
 show wrapF k ((a <<< n:Nat):Int)=_;rw [Nat.shiftLeft_eq]
theorem tmod_nat {a b:Nat}:(a:Int).tmod (b:Int)=((a % b:Nat):Int):=rfl
theorem tdiv_nat {a b:Nat}:(a:Int).tdiv (b:Int)=((a / b:Nat):Int):=rfl
section
variable {k:FloatKind} {a b:Nat}
theorem f_eql:binV .eql (.float k a) (.float k b)=some (.bool (k.format.order a b == some .eq)):=by simp [binV,floatBin]
theorem f_neq:binV .neq (.float k a) (.float k b)=some (.bool (k.format.order a b != some .eq)):=by simp [binV,floatBin]
theorem f_lss:binV .lss (.float k a) (.float k b)=some (.bool (k.format.order a b == some .lt)):=by simp [binV,floatBin]
theorem f_leq:binV .leq (.float k a) (.float k b)=some (.bool (k.format.order a b == some .lt || k.format.order a b == some .eq)):=by simp [binV,floatBin]
theorem f_gtr:binV .gtr (.float k a) (.float k b)=some (.bool (k.format.order a b == some .gt)):=by simp [binV,floatBin]
theorem f_geq:binV .geq (.float k a) (.float k b)=some (.bool (k.format.order a b == some .gt || k.format.order a b == some .eq)):=by simp [binV,floatBin]
end
theorem beq_lit {n v m w:Nat}:BStr.beq ⟨n,v⟩ ⟨m,w⟩=(decide (n=m) && decide (v=w)):=by simp only [BStr.beq,BStr.beq_eq_decide]
theorem b_seql {a b:BStr}:binV .eql (.str a) (.str b)=some (.bool (a.beq b)):=rfl
theorem b_sneq {a b:BStr}:binV .neq (.str a) (.str b)=some (.bool !(a.beq b)):=rfl
theorem conv_int {w:Bool} {h:Heap} {k:IntKind} {n:Int}:conv w h depth (.int k n)=some (.int k n):=rfl
theorem conv_bool {w:Bool} {h:Heap} {n:Bool}:conv w h depth (.bool n)=some (.bool n):=rfl
theorem conv_float {w:Bool} {h:Heap} {k:FloatKind} {n:Nat}:conv w h depth (.float k n)=some (.float k n):=rfl
theorem conv_nan {w:Bool} {h:Heap} {k:FloatKind}:conv w h depth (.nan k)=some (.nan k):=rfl
theorem conv_str {w:Bool} {h:Heap} {n:BStr}:conv w h depth (.str n)=some (.str n):=rfl
theorem mapO_nil {α β:Type} {f:α→Option β}:mapO f []=some []:=rfl
theorem mapO_cons {α β:Type} {f:α→Option β} {a:α} {r:List α} {b:β} {bs:List β} (h1:f a=some b) (h2:mapO f r=some bs):mapO f (a::r)=some (b::bs):=by simp [mapO,h1,h2]
theorem results_nil {env:T AV} {h:Heap}:results env h []=some []:=rfl
theorem results_tmp {env:T AV} {h:Heap} {t:Nat} {r:List XRes} {vs:List AV} (hr:results env h r=some vs):results env h (.tmp t::r)=some (env.at t::vs):=by simp [results,hr]
theorem back1 {env:T AV} {h:Heap} {t:Nat} {e:XExit} {v w:AV} (he:e=.nrm∨e=.ret) (hv:env.at t=w) (hc:conv false h depth w=some v):Back [.tmp t] true v e env h:=
 ⟨he,[w],[v],by rw [results_tmp results_nil,hv],by simp [mapO,hc],rfl⟩
theorem back2 {env:T AV} {h:Heap} {t u:Nat} {e:XExit} {v w v' w':AV} (he:e=.nrm∨e=.ret) (hv:env.at t=w) (hc:conv false h depth w=some v) (hv':env.at u=w') (hc':conv false h depth w' =some v'):
  Back [.tmp t,.tmp u] true (.tup [v,v']) e env h:=
 ⟨he,[w,w'],[v,v'],by rw [results_tmp (results_tmp results_nil),hv,hv'],by simp [mapO,hc,hc'],rfl⟩
theorem one_conv {w:Bool} {h:Heap} {x v:AV}:(∃ ws,mapO (conv w h depth) [x]=some ws∧one ws=v)↔conv w h depth x=some v:=by
 constructor
 ·rintro ⟨ws,h1,h2⟩
  simp only [mapO] at h1
  split at h1
  ·cases h1
  ·rename_i b hb;cases h1;subst h2;exact hb
 ·intro hc;exact ⟨[v],by simp [mapO,hc],rfl⟩
theorem back1r {env:T AV} {h:Heap} {t:Nat} {v:AV}:Back [.tmp t] true v .ret env h↔conv false h depth (env.at t)=some v:=by
 constructor
 ·rintro ⟨_,vs,ws,h1,h2,h3⟩
  rw [results_tmp results_nil] at h1;cases h1
  exact one_conv.1 ⟨ws,h2,h3⟩
 ·intro hc
  obtain ⟨ws,h1,h2⟩:=one_conv.2 hc
  exact ⟨.inr rfl,_,ws,results_tmp results_nil,h1,h2⟩
theorem back2r {env:T AV} {h:Heap} {t u:Nat} {v w:AV}:Back [.tmp t,.tmp u] true (.tup [v,w]) .ret env h↔(conv false h depth (env.at t)=some v∧conv false h depth (env.at u)=some w):=by
 constructor
 ·rintro ⟨_,vs,ws,h1,h2,h3⟩
  rw [results_tmp (results_tmp results_nil)] at h1;cases h1
  simp only [if_true,mapO] at h2
  split at h2
  ·cases h2
  ·rename_i b hb
   split at h2
   ·cases h2
   ·rename_i bs hbs
    split at hbs
    ·cases hbs
    ·rename_i c hc;cases hbs;cases h2
     simp only [one,AV.tup.injEq,List.cons.injEq,and_true] at h3
     rw [hb,hc,h3.1,h3.2];exact ⟨rfl,rfl⟩
 ·rintro ⟨h1,h2⟩
  exact ⟨.inr rfl,_,[v,w],results_tmp (results_tmp results_nil),by simp [mapO,h1,h2],rfl⟩
theorem cont_exit {C:Ctx} {ks:List K} {env:T AV} {h:Heap} {Q:PostC} {j:Nat}:Cont C ks Q (.exit j) env h↔ExitG C j ks env h Q:=Iff.rfl
theorem cont_ret' {C:Ctx} {ks:List K} {env:T AV} {h:Heap} {Q:PostC}:Cont C ks Q .ret env h↔Q .ret env h:=cont_ret ks
theorem cont_panic' {C:Ctx} {ks:List K} {env:T AV} {h:Heap} {Q:PostC} {v:AV}:Cont C ks Q (.panic v) env h↔Q (.panic v) env h:=cont_panic ks
theorem opG_of {C:Ctx} {r:OpR} {v:AV} {h:Heap} {dst:Option Nat} {l:List XOper} {ks:List K} {env:T AV} {Q:PostC} (e:r=.ok v h):OpG C r dst l ks env Q↔GoP C (.o l::ks) (put env dst v) h Q:=by rw [e];exact opG_ok
end Go.Proofs.YtmadknpaljaecaaGreatDoor.Ev
namespace Go.Proofs.YtmadknpaljaecaaGreatDoor.Fl
open Ieee
def V (r:Nat):Nat:=if r < 4503599627370496 then r else (4503599627370496+r % 4503599627370496)*2 ^ (r / 4503599627370496 - 1)
theorem V_succ (r:Nat):V r < V (r+1):=by
 unfold V
 by_cases h:r+1 < 4503599627370496
 ·rw [if_pos (by omega),if_pos h];omega
 ·rw [if_neg h]
  by_cases h0:r < 4503599627370496
  ·rw [if_pos h0]
   have:r+1=4503599627370496:=by omega
   rw [this];simp;omega
  ·rw [if_neg h0]
   by_cases hf:r % 4503599627370496+1 < 4503599627370496
   ·have e1:(r+1) % 4503599627370496=r % 4503599627370496+1:=by omega
    have e2:(r+1) / 4503599627370496=r / 4503599627370496:=by omega
    rw [e1,e2]
    exact Nat.mul_lt_mul_of_pos_right (by omega) (Nat.two_pow_pos _)
   ·have e1:(r+1) % 4503599627370496=0:=by omega
    have e2:(r+1) / 4503599627370496 - 1=(r / 4503599627370496 - 1)+1:=by omega
    rw [e1,e2,Nat.pow_succ,Nat.mul_comm (2 ^ _) 2,← Nat.mul_assoc]
    exact Nat.mul_lt_mul_of_pos_right (by omega) (Nat.two_pow_pos _)
theorem V_lt {r s:Nat} (h:r < s):V r < V s:=by
 induction h with
 |refl=>exact V_succ r
 |step _ ih=>exact Nat.lt_trans ih (V_succ _)
theorem V_lt_iff {r s:Nat}:V r < V s↔r < s:=by
 constructor
 ·intro h
  rcases Nat.lt_trichotomy r s with h1|h1|h1
  ·exact h1
  ·subst h1;omega
  ·have:=V_lt h1;omega
 ·exact V_lt
theorem V_le_iff {r s:Nat}:V r≤V s↔r≤s:=by
 have:=@V_lt_iff s r;omega
theorem V_inj {r s:Nat} (h:V r=V s):r=s:=by
 rcases Nat.lt_trichotomy r s with h1|h1|h1
 ·have:=V_lt h1;omega
 ·exact h1
 ·have:=V_lt h1;omega
theorem V_zero:V 0=0:=by decide
theorem log2_mul_pow (a k:Nat) (h:a≠0):Nat.log2 (a*2 ^ k)=Nat.log2 a+k:=by
 have hp:a*2 ^ k≠0:=Nat.mul_ne_zero h (Nat.ne_of_gt (Nat.two_pow_pos _))
 have h1:2 ^ (a.log2+k)≤a*2 ^ k:=by rw [Nat.pow_add];exact Nat.mul_le_mul_right _ (Nat.log2_self_le h)
 have h2:a*2 ^ k < 2 ^ (a.log2+k+1):=by
  have:a < 2 ^ (a.log2+1):=Nat.lt_log2_self
  rw [show a.log2+k+1=a.log2+1+k by omega,Nat.pow_add]
  exact Nat.mul_lt_mul_of_pos_right this (Nat.two_pow_pos _)
 have h3:=(Nat.le_log2 hp).2 h1
 have h4:=(Nat.log2_lt hp).2 h2
 omega
def inf:Nat:=9218868437227405312
def sgn:Nat:=9223372036854775808
def neg (b:Nat):Bool:=b / sgn % 2 == 1
def rung (b:Nat):Nat:=b % sgn
def mant (r:Nat):Nat:=if r < 4503599627370496 then r else 4503599627370496+r % 4503599627370496
def ex (r:Nat):Nat:=if r < 4503599627370496 then 0 else r / 4503599627370496 - 1
theorem V_eq (r:Nat):V r=mant r*2 ^ ex r:=by unfold V mant ex;split <;> simp
theorem read_num {b:Nat} (h:rung b < inf):double.read b=.number (neg b) (mant (rung b)) (-1074+(ex (rung b):Nat)):=by
 have e1:double.signWeight=sgn:=rfl
 have e2:double.binade=4503599627370496:=rfl
 have e3:double.infRung=inf:=rfl
 have e4:double.leastPlace=-1074:=rfl
 unfold Format.read
 simp only [e1,e2,e3,e4]
 show (if rung b < _ then _ else if rung b < inf then _ else _)=_
 unfold mant ex
 by_cases h0:rung b < 4503599627370496
 ·rw [if_pos h0,if_pos h0,if_pos h0];rfl
 ·rw [if_neg h0,if_pos h,if_neg h0,if_neg h0];rfl
theorem read_inf {b:Nat} (h:rung b=inf):double.read b=.infinity (neg b):=by
 have e2:double.binade=4503599627370496:=rfl
 have e3:double.infRung=inf:=rfl
 unfold Format.read
 show (if rung b < double.binade then _ else if rung b < double.infRung then _ else if rung b=double.infRung then _ else _)=_
 rw [e2,e3,h,if_neg (by decide),if_neg (by decide),if_pos rfl];rfl
theorem read_nan {b:Nat} (h:inf < rung b):double.read b=.nan (neg b) (rung b - inf):=by
 have e2:double.binade=4503599627370496:=rfl
 have e3:double.infRung=inf:=rfl
 unfold Format.read
 show (if rung b < double.binade then _ else if rung b < double.infRung then _ else if rung b=double.infRung then _ else _)=_
 have:(4503599627370496:Nat) < inf:=by decide
 rw [e2,e3,if_neg (by omega),if_neg (by omega),if_neg (by omega)];rfl
def sV (b:Nat):Int:=if neg b then -(V (rung b):Int) else (V (rung b):Int)
theorem signed_scale (s:Bool) (m k B:Nat):signed s m k*(2 ^ B:Nat)=if s then -((m*2 ^ (k+B):Nat):Int) else ((m*2 ^ (k+B):Nat):Int):=by
 unfold signed
 rw [Nat.shiftLeft_eq,Nat.pow_add]
 cases s
 ·simp [Int.mul_assoc]
 ·simp [Int.mul_assoc,Int.neg_mul]
theorem compare_scale (x y:Int) (c:Nat) (hc:0 < c):compare (x*c) (y*c)=compare x y:=by
 have hc':(0:Int) < c:=by omega
 have h1:x*c < y*c↔x < y:=⟨fun h=>Int.lt_of_mul_lt_mul_right h (by omega),fun h=>Int.mul_lt_mul_of_pos_right h hc'⟩
 have h2:x*c=y*c↔x=y:=⟨fun h=>Int.eq_of_mul_eq_mul_right (by omega) h,fun h=>by rw [h]⟩
 simp only [compare,compareOfLessAndEq,h1,h2]
theorem order_num {b c:Nat} (hb:rung b < inf) (hc:rung c < inf):double.order b c=some (compare (sV b) (sV c)):=by
 unfold Format.order
 rw [read_num hb,read_num hc]
 simp only [Datum.order,Option.some.injEq]
 have hB:∀ x:Nat,((-1074+(x:Nat):Int) - min (-1074+(ex (rung b):Nat):Int) (-1074+(ex (rung c):Nat):Int)).toNat+min (ex (rung b)) (ex (rung c))=max x (min (ex (rung b)) (ex (rung c))):=by intro x;omega
 rw [← compare_scale _ _ (2 ^ (min (ex (rung b)) (ex (rung c)))) (Nat.two_pow_pos _)]
 rw [signed_scale,signed_scale,hB,hB]
 rw [show max (ex (rung b)) (min (ex (rung b)) (ex (rung c)))=ex (rung b) by omega,show max (ex (rung c)) (min (ex (rung b)) (ex (rung c)))=ex (rung c) by omega,← V_eq,← V_eq]
 rfl
theorem order_nan_l {b c:Nat} (hb:inf < rung b):double.order b c=none:=by
 unfold Format.order;rw [read_nan hb];rfl
theorem order_nan_r {b c:Nat} (hc:inf < rung c):double.order b c=none:=by
 unfold Format.order;rw [read_nan hc];cases double.read b <;> rfl
theorem order_inf_l {b c:Nat} (hb:rung b=inf) (hc:rung c < inf):double.order b c=some (if neg b then .lt else .gt):=by
 unfold Format.order;rw [read_inf hb,read_num hc];rfl
theorem order_inf_r {b c:Nat} (hb:rung b < inf) (hc:rung c=inf):double.order b c=some (if neg c then .gt else .lt):=by
 unfold Format.order;rw [read_num hb,read_inf hc];rfl
theorem order_inf {b c:Nat} (hb:rung b=inf) (hc:rung c=inf):double.order b c=some (compare (neg c).toNat (neg b).toNat):=by
 unfold Format.order;rw [read_inf hb,read_inf hc];rfl
theorem re_eq (r:Nat):ex r*4503599627370496+mant r=r:=by
 unfold ex mant
 split
 ·simp
 ·omega
theorem cut_exact (s:Bool) (low drop:Nat) (h:low≠0):Toward.even.cut s (low*2 ^ drop) drop=low:=by
 unfold Toward.cut
 have hl:min drop ((low*2 ^ drop).log2+2)=drop:=by rw [log2_mul_pow _ _ h];omega
 simp only [hl,Nat.one_shiftLeft]
 rw [Nat.mul_div_cancel _ (Nat.two_pow_pos _),Nat.mul_mod_left]
 have hp:0 < 2 ^ drop:=Nat.two_pow_pos _
 have h1:decide (2 ^ drop < 2*0)=false:=by simp
 have h2:(2 ^ drop == 2*0)=false:=by simp
 simp only [h1,h2,Bool.false_and,Bool.or_false,Bool.toNat_false,Nat.add_zero]
theorem word_eq (s:Bool) (r:Nat):double.word s r=if s then sgn+r else r:=rfl
theorem nearest_exact (s:Bool) {mag:Nat} {place:Int} {p q r:Nat} (he:place+1074=(p:Int) - q) (hr:r < inf) (hv:mag*2 ^ p=V r*2 ^ q):double.nearest s mag place=double.word s r:=by
 have e2:double.binade=4503599627370496:=rfl
 have e3:double.infRung=inf:=rfl
 have e4:double.leastPlace=-1074:=rfl
 have e5:double.fractionBits=52:=rfl
 unfold Format.nearest
 by_cases h0:mag=0
 ·subst h0
  have:V r=0:=by
   rw [Nat.zero_mul] at hv
   rcases Nat.mul_eq_zero.1 hv.symm with h|h
   ·exact h
   ·have:=Nat.two_pow_pos q;omega
  have:r=0:=V_inj (this.trans V_zero.symm)
  subst this
  simp
 ·rw [if_neg h0]
  have hVr:V r≠0:=by
   intro h;rw [h,Nat.zero_mul] at hv
   rcases Nat.mul_eq_zero.1 hv with h|h
   ·exact h0 h
   ·have:=Nat.two_pow_pos p;omega
  have hm0:mant r≠0:=fun h=>hVr (by rw [V_eq,h,Nat.zero_mul])
  have hlog:mag.log2+p=(mant r).log2+ex r+q:=by
   rw [← log2_mul_pow _ _ h0,hv,log2_mul_pow _ _ hVr,V_eq,log2_mul_pow _ _ hm0]
  have hlast:max (place+mag.log2 - double.fractionBits) (-1074)=-1074+(ex r:Int):=by
   rw [e5]
   by_cases hs:r < 4503599627370496
   ·have e0:ex r=0:=by unfold ex;rw [if_pos hs]
    have em:mant r=r:=by unfold mant;rw [if_pos hs]
    have hlt:(mant r).log2 < 52:=(Nat.log2_lt hm0).2 (by rw [em];omega)
    rw [e0] at hlog ⊢
    omega
   ·have em:mant r=4503599627370496+r % 4503599627370496:=by unfold mant;rw [if_neg hs]
    have h1:(mant r).log2 < 53:=(Nat.log2_lt hm0).2 (by rw [em];omega)
    have h2:52≤(mant r).log2:=(Nat.le_log2 hm0).2 (by rw [em];omega)
    omega
  simp only [e4,e2,e3,hlast]
  have hkept:Toward.even.cut s (mag <<< (place - (-1074+(ex r:Int))).toNat) (-1074+(ex r:Int) - place).toNat=mant r:=by
   rw [Nat.shiftLeft_eq]
   have hE:∃ d u,(place - (-1074+(ex r:Int))).toNat=u∧(-1074+(ex r:Int) - place).toNat=d∧p+d=ex r+q+u∧(u=0∨d=0):=⟨_,_,rfl,rfl,by omega,by omega⟩
   obtain ⟨d,u,hu,hd,hpd,_⟩:=hE
   rw [hu,hd]
   have:mag*2 ^ u=mant r*2 ^ d:=by
    have h1:mag*2 ^ p*2 ^ (u+d)=mant r*2 ^ ex r*2 ^ q*2 ^ (u+d):=by rw [hv,V_eq]
    have h2:mag*2 ^ u*2 ^ (p+d)=mant r*2 ^ d*2 ^ (p+d):=by
     have a1:mag*2 ^ u*2 ^ (p+d)=mag*2 ^ p*2 ^ (u+d):=by
      rw [Nat.mul_assoc,Nat.mul_assoc,← Nat.pow_add,← Nat.pow_add];congr 2;omega
     have a2:mant r*2 ^ d*2 ^ (p+d)=mant r*2 ^ ex r*2 ^ q*2 ^ (u+d):=by
      rw [Nat.mul_assoc,Nat.mul_assoc,Nat.mul_assoc,← Nat.pow_add,← Nat.pow_add,← Nat.pow_add];congr 2;omega
     rw [a1,a2,h1]
    exact Nat.mul_right_cancel (Nat.two_pow_pos _) h2
   rw [this]
   exact cut_exact s _ _ hm0
  have hx:(-1074+(ex r:Int) - -1074).toNat=ex r:=by omega
  have hre:ex r*4503599627370496+mant r=r:=re_eq r
  rw [hkept,hx,hre,Nat.min_eq_left (Nat.le_of_lt hr)]
end Go.Proofs.YtmadknpaljaecaaGreatDoor.Fl
namespace Go.Proofs.YtmadknpaljaecaaGreatDoor.Fl
open Ieee
theorem rung_of_lt {r:Nat} (h:r < sgn):rung r=r:=Nat.mod_eq_of_lt h
theorem neg_of_lt {r:Nat} (h:r < sgn):neg r=false:=by unfold neg;rw [Nat.div_eq_of_lt h];rfl
theorem inf_lt_sgn:inf < sgn:=by decide
theorem sV_pos {r:Nat} (h:r < sgn):sV r=V r:=by unfold sV;rw [neg_of_lt h,rung_of_lt h];rfl
theorem cmpNat (x y:Nat):compare (x:Int) (y:Int)=compare x y:=by
 simp only [compare,compareOfLessAndEq,Int.ofNat_lt,Int.ofNat_inj]
theorem cmpV (x y:Nat):compare (V x) (V y)=compare x y:=by
 have h1:V x=V y↔x=y:=⟨V_inj,fun h=>by rw [h]⟩
 simp only [compare,compareOfLessAndEq,V_lt_iff,h1]
theorem order_pos {x y:Nat} (hx:x≤inf) (hy:y≤inf):double.order x y=some (compare x y):=by
 have lx:x < sgn:=Nat.lt_of_le_of_lt hx inf_lt_sgn
 have ly:y < sgn:=Nat.lt_of_le_of_lt hy inf_lt_sgn
 rcases Nat.lt_or_eq_of_le hx with h1|h1 <;> rcases Nat.lt_or_eq_of_le hy with h2|h2
 ·rw [order_num (by rw [rung_of_lt lx];exact h1) (by rw [rung_of_lt ly];exact h2),sV_pos lx,sV_pos ly,cmpNat,cmpV]
 ·rw [order_inf_r (by rw [rung_of_lt lx];exact h1) (by rw [rung_of_lt ly];exact h2),neg_of_lt ly]
  subst h2
  simp only [Bool.false_eq_true,if_false,compare,compareOfLessAndEq,h1,if_true]
 ·rw [order_inf_l (by rw [rung_of_lt lx];exact h1) (by rw [rung_of_lt ly];exact h2),neg_of_lt lx]
  subst h1
  have:¬ inf < y:=by omega
  have h3:¬ inf=y:=by omega
  simp only [Bool.false_eq_true,if_false,compare,compareOfLessAndEq,this,h3]
 ·rw [order_inf (by rw [rung_of_lt lx];exact h1) (by rw [rung_of_lt ly];exact h2),neg_of_lt lx,neg_of_lt ly,h1,h2]
  simp [compare,compareOfLessAndEq]
theorem order_self (b:Nat):double.order b b=if inf < rung b then none else some .eq:=by
 rcases Nat.lt_trichotomy (rung b) inf with h|h|h
 ·rw [order_num h h,if_neg (by omega)];simp [compare,compareOfLessAndEq]
 ·rw [order_inf h h,if_neg (by omega)];simp [compare,compareOfLessAndEq]
 ·rw [order_nan_l h,if_pos h]
theorem eq_zero (b:Nat):(double.order b 0 == some .eq)=decide (rung b=0):=by
 have h0:rung 0=0:=rfl
 have hs:sV 0=0:=rfl
 rcases Nat.lt_trichotomy (rung b) inf with h|h|h
 ·rw [order_num h (by rw [h0];decide),hs]
  have:(sV b=0)↔rung b=0:=by
   unfold sV
   have hv:V (rung b)=0↔rung b=0:=⟨fun e=>V_inj (e.trans V_zero.symm),fun e=>by rw [e];exact V_zero⟩
   rw [← hv]
   split <;> omega
  by_cases hz:rung b=0
  ·have:=this.2 hz;rw [this,decide_eq_true hz];rfl
  ·have h2:¬ sV b=0:=fun e=>hz (this.1 e)
   rw [decide_eq_false hz]
   simp only [compare,compareOfLessAndEq,h2,if_false]
   split <;> rfl
 ·rw [order_inf_l h (by rw [h0];decide),decide_eq_false (by rw [h];decide)];split <;> rfl
 ·rw [order_nan_l h,decide_eq_false (by have:0 < inf:=(by decide);omega)];rfl
theorem lt_zero (b:Nat):(double.order b 0 == some .lt)=(neg b && decide (0 < rung b) && decide (rung b≤inf)):=by
 have h0:rung 0=0:=rfl
 have hs:sV 0=0:=rfl
 rcases Nat.lt_trichotomy (rung b) inf with h|h|h
 ·rw [order_num h (by rw [h0];decide),hs,decide_eq_true (by omega:rung b≤inf),Bool.and_true]
  unfold sV
  cases hn:neg b with
  |false=>
   simp only [Bool.false_eq_true,if_false,Bool.false_and,compare,compareOfLessAndEq]
   have:¬ ((V (rung b):Nat):Int) < 0:=by omega
   simp only [this,if_false]
   split <;> rfl
  |true=>
   simp only [if_true,Bool.true_and,compare,compareOfLessAndEq]
   by_cases hz:rung b=0
   ·rw [hz,V_zero,decide_eq_false (by omega)];simp
   ·have h1:0 < V (rung b):=by
     have:=@V_lt 0 (rung b) (by omega);rw [V_zero] at this;exact this
    have h2:-((V (rung b):Nat):Int) < 0:=by omega
    simp only [h2,if_true,decide_eq_true (by omega:0 < rung b)];rfl
 ·rw [order_inf_l h (by rw [h0];decide),h,decide_eq_true (by decide:0 < inf),decide_eq_true (by decide:inf≤inf)]
  cases neg b <;> rfl
 ·rw [order_nan_l h,decide_eq_false (by omega:¬ rung b≤inf),Bool.and_false];rfl
theorem V_norm (k M:Nat) (h1:4503599627370496≤M) (h2:M < 9007199254740992):V (k*4503599627370496+M)=M*2 ^ k:=by
 unfold V
 rw [if_neg (by omega)]
 have e1:(k*4503599627370496+M) % 4503599627370496=M - 4503599627370496:=by omega
 have e2:(k*4503599627370496+M) / 4503599627370496 - 1=k:=by omega
 rw [e1,e2,show 4503599627370496+(M - 4503599627370496)=M by omega]
theorem ex_norm (k M:Nat) (h1:4503599627370496≤M) (h2:M < 9007199254740992):ex (k*4503599627370496+M)=k∧mant (k*4503599627370496+M)=M:=by
 unfold ex mant
 rw [if_neg (by omega),if_neg (by omega)]
 omega
theorem scale_eq (m a b c d e:Nat) (h:a+b+c=d+e):2 ^ a*(m*2 ^ b)*2 ^ c=m*2 ^ d*2 ^ e:=by
 rw [Nat.mul_assoc m,← Nat.pow_add,← h,Nat.pow_add,Nat.pow_add]
 ac_rfl
theorem knorm (K M:Nat) (h:1≤K) (h1:4503599627370496≤M):K*4503599627370496+(M - 4503599627370496)=(K - 1)*4503599627370496+M:=by omega
theorem repr (t e:Nat) (h:t < 9007199254740992):∃ r,V r=t*2 ^ e:=by
 by_cases h0:t=0
 ·exact ⟨0,by rw [h0,V_zero];simp⟩
 ·have hl:t.log2 < 53:=(Nat.log2_lt h0).2 (by omega)
  have h1:=Nat.log2_self_le h0
  have h2:t < 2 ^ (t.log2+1):=Nat.lt_log2_self
  by_cases he:52≤t.log2+e
  ·refine ⟨(t.log2+e - 52)*4503599627370496+t*2 ^ (52 - t.log2),?_⟩
   have hM1:4503599627370496≤t*2 ^ (52 - t.log2):=by
    have:2 ^ t.log2*2 ^ (52 - t.log2)≤t*2 ^ (52 - t.log2):=Nat.mul_le_mul_right _ h1
    rw [← Nat.pow_add,show t.log2+(52 - t.log2)=52 by omega] at this
    exact this
   have hM2:t*2 ^ (52 - t.log2) < 9007199254740992:=by
    have:t*2 ^ (52 - t.log2) < 2 ^ (t.log2+1)*2 ^ (52 - t.log2):=Nat.mul_lt_mul_of_pos_right h2 (Nat.two_pow_pos _)
    rw [← Nat.pow_add,show t.log2+1+(52 - t.log2)=53 by omega] at this
    exact this
   rw [V_norm _ _ hM1 hM2,Nat.mul_assoc,← Nat.pow_add,show 52 - t.log2+(t.log2+e - 52)=e by omega]
  ·refine ⟨t*2 ^ e,?_⟩
   unfold V
   rw [if_pos]
   have:t*2 ^ e < 2 ^ (t.log2+1)*2 ^ e:=Nat.mul_lt_mul_of_pos_right h2 (Nat.two_pow_pos _)
   rw [← Nat.pow_add] at this
   exact Nat.lt_of_lt_of_le this (Nat.pow_le_pow_right (n:=2) (by decide) (show t.log2+1+e≤52 by omega))
theorem mant_lt {r:Nat}:mant r < 9007199254740992:=by unfold mant;split <;> omega
theorem word_false {r:Nat}:double.word false r=r:=rfl
theorem word_split {b:Nat} (h:b < 18446744073709551616):double.word (neg b) (rung b)=b:=by
 rw [word_eq]
 unfold neg rung
 have:sgn=9223372036854775808:=rfl
 rw [this]
 by_cases hb:b < 9223372036854775808
 ·have:b / 9223372036854775808 % 2=0:=by omega
  rw [this]
  simp only [Nat.reduceBEq,Bool.false_eq_true,if_false]
  omega
 ·have:b / 9223372036854775808 % 2=1:=by omega
  rw [this]
  simp only [Nat.reduceBEq,if_true]
  omega
theorem rung_word {s:Bool} {r:Nat} (h:r < sgn):rung (double.word s r)=r:=by
 rw [word_eq];unfold rung
 have:sgn=9223372036854775808:=rfl
 rw [this] at h ⊢
 cases s
 ·simp only [Bool.false_eq_true,if_false];omega
 ·simp only [if_true];omega
theorem neg_word {s:Bool} {r:Nat} (h:r < sgn):neg (double.word s r)=s:=by
 rw [word_eq];unfold neg
 have:sgn=9223372036854775808:=rfl
 rw [this] at h ⊢
 cases s
 ·simp only [Bool.false_eq_true,if_false]
  have:r / 9223372036854775808 % 2=0:=by omega
  rw [this];rfl
 ·simp only [if_true]
  have:(9223372036854775808+r) / 9223372036854775808 % 2=1:=by omega
  rw [this];rfl
theorem word_lt {s:Bool} {r:Nat} (h:r < sgn):double.word s r < 18446744073709551616:=by
 rw [word_eq]
 have:sgn=9223372036854775808:=rfl
 rw [this] at h ⊢
 split <;> omega
theorem mul_pow {c x r:Nat} {p q:Nat} (hc:c < inf) (hx:x < inf) (hr:r < inf) (he:(ex c:Int)+ex x - 1074=(p:Int) - q) (hv:mant c*mant x*2 ^ p=V r*2 ^ q):double.mul c x=some r:=by
 have lc:c < sgn:=Nat.lt_trans hc inf_lt_sgn
 have lx:x < sgn:=Nat.lt_trans hx inf_lt_sgn
 unfold Format.mul
 rw [read_num (by rw [rung_of_lt lc];exact hc),read_num (by rw [rung_of_lt lx];exact hx),neg_of_lt lc,neg_of_lt lx,rung_of_lt lc,rung_of_lt lx]
 simp only [Datum.product,Option.map_some,Format.write,Option.some.injEq]
 rw [nearest_exact (p:=p) (q:=q) (r:=r) _ (by omega) hr hv]
 rfl
theorem nearest_nat {m:Nat} (hm:0 < m) (h:m < 9007199254740992):double.nearest false m 0=(m.log2+1022)*4503599627370496+m*2 ^ (52 - m.log2)∧
  4503599627370496≤m*2 ^ (52 - m.log2)∧m*2 ^ (52 - m.log2) < 9007199254740992∧m.log2 < 53:=by
 have h0:m≠0:=by omega
 have hl:m.log2 < 53:=(Nat.log2_lt h0).2 (by omega)
 have h1:=Nat.log2_self_le h0
 have h2:m < 2 ^ (m.log2+1):=Nat.lt_log2_self
 have hM1:4503599627370496≤m*2 ^ (52 - m.log2):=by
  have:2 ^ m.log2*2 ^ (52 - m.log2)≤m*2 ^ (52 - m.log2):=Nat.mul_le_mul_right _ h1
  rw [← Nat.pow_add,show m.log2+(52 - m.log2)=52 by omega] at this
  exact this
 have hM2:m*2 ^ (52 - m.log2) < 9007199254740992:=by
  have:m*2 ^ (52 - m.log2) < 2 ^ (m.log2+1)*2 ^ (52 - m.log2):=Nat.mul_lt_mul_of_pos_right h2 (Nat.two_pow_pos _)
  rw [← Nat.pow_add,show m.log2+1+(52 - m.log2)=53 by omega] at this
  exact this
 refine ⟨?_,hM1,hM2,hl⟩
 rw [nearest_exact (p:=1074) (q:=0) (r:=(m.log2+1022)*4503599627370496+m*2 ^ (52 - m.log2)) false (by omega)]
 ·rfl
 ·show _ < 9218868437227405312
  generalize m*2 ^ (52 - m.log2)=M at hM1 hM2
  omega
 ·rw [V_norm _ _ hM1 hM2,Nat.pow_zero,Nat.mul_one,Nat.mul_assoc,← Nat.pow_add,show 52 - m.log2+(m.log2+1022)=1074 by omega]
end Go.Proofs.YtmadknpaljaecaaGreatDoor.Fl
namespace Go.Proofs.YtmadknpaljaecaaGreatDoor.Ev
open Go
theorem wrap_i64_big {n:Int} (h0:9223372036854775808≤n) (h1:n < 18446744073709551616):IntKind.i64.wrap n=n - 18446744073709551616:=by
 simp only [IntKind.wrap,IntKind.signed,IntKind.bits];simp;omega
theorem and_i64_2047 {n:Nat} (h:n < 2048):andF .i64 (n:Int) 2047=n:=by
 unfold andF
 have e1:modM .i64 (n:Int)=n:=Nat.mod_eq_of_lt (by show n < 18446744073709551616;omega)
 have e2:modM .i64 2047=2 ^ 11 - 1:=by decide
 rw [e1,e2]
 show wrapF .i64 ((n &&& (2 ^ 11 - 1):Nat):Int)=n
 rw [Nat.and_two_pow_sub_one_eq_mod,i64_wrap (by omega) (by omega)]
 omega
theorem f_mul {a b r:Nat} (h:Ieee.double.mul a b=some r):binV .mul (.float .f64 a) (.float .f64 b)=some (.float .f64 r):=by
 have e:binV .mul (.float .f64 a) (.float .f64 b)=floatR .f64 (Ieee.double.mul a b):=by simp only [binV,if_true,floatBin];rfl
 rw [e,h];rfl
theorem abs_bits {b:Nat} (hb:b < 18446744073709551616):andNotF .u64 (b:Int) 9223372036854775808=((Fl.rung b:Nat):Int):=by
 have:=andNot_u64 (a:=b) (b:=9223372036854775808) hb (by decide)
 refine this.trans ?_
 rw [show 18446744073709551615 - 9223372036854775808=2 ^ 63 - 1 by decide,Nat.and_two_pow_sub_one_eq_mod];rfl
theorem low52 {b:Nat} (hb:b < 18446744073709551616):andF .u64 (b:Int) 4503599627370495=((b % 4503599627370496:Nat):Int):=by
 have:=and_u64 (a:=b) (b:=4503599627370495) hb (by decide)
 refine this.trans ?_
 rw [show 4503599627370495=2 ^ 52 - 1 by decide,Nat.and_two_pow_sub_one_eq_mod]
theorem or52 {f:Nat} (k:Nat) (hf:f < 4503599627370496) (hk:k*4503599627370496 < 18446744073709551616):orF .u64 (f:Int) ((k*4503599627370496:Nat):Int)=((k*4503599627370496+f:Nat):Int):=by
 rw [or_u64 (by omega) hk,Nat.or_comm]
 have:=Nat.shiftLeft_add_eq_or_of_lt (i:=52) hf k
 rw [Nat.shiftLeft_eq] at this
 rw [this]
theorem b_shr52 {k':IntKind} {b:Nat}:binV .shr (.int .u64 (b:Int)) (.int k' 52)=some (.int .u64 ((b / 4503599627370496:Nat):Int)):=by
 rw [b_shr' (by decide)]
 show some (AV.int .u64 (shrF (b:Int) 52))=_
 rw [shrF_nat]
theorem b_shl52 {k':IntKind} {b:Nat} (h:b*4503599627370496 < 18446744073709551616):binV .shl (.int .u64 (b:Int)) (.int k' 52)=some (.int .u64 ((b*4503599627370496:Nat):Int)):=by
 rw [b_shl' (by decide)]
 show some (AV.int .u64 (shlF .u64 (b:Int) 52))=_
 rw [shlF_nat,u64_wrap h]
theorem isInf_bits (b:Nat):(FloatKind.f64.format.order (Fl.rung b) 9218868437227405311 == some Ordering.gt)=decide (Fl.rung b=Fl.inf):=by
 show (Ieee.double.order (Fl.rung b) 9218868437227405311 == some Ordering.gt)=_
 have hl:Fl.rung b < Fl.sgn:=Nat.mod_lt _ (by decide)
 have hi:Fl.inf=9218868437227405312:=rfl
 rcases Nat.lt_or_ge Fl.inf (Fl.rung b) with h|h
 ·rw [Fl.order_nan_l (by rw [Fl.rung_of_lt hl];exact h),decide_eq_false (by omega)];rfl
 ·rw [Fl.order_pos h (by decide)]
  by_cases he:Fl.rung b=Fl.inf
  ·rw [decide_eq_true he,he];rfl
  ·rw [decide_eq_false he]
   have:Fl.rung b≤9218868437227405311:=by omega
   simp only [compare,compareOfLessAndEq]
   by_cases h2:Fl.rung b < 9218868437227405311
   ·rw [if_pos h2];rfl
   ·rw [if_neg h2,if_pos (by omega)];rfl
theorem neq_self (b:Nat):(FloatKind.f64.format.order b b != some Ordering.eq)=decide (Fl.inf < Fl.rung b):=by
 show (Ieee.double.order b b != some Ordering.eq)=_
 rw [Fl.order_self]
 split
 ·rename_i h;rw [decide_eq_true h];rfl
 ·rename_i h;rw [decide_eq_false h];rfl
theorem eqz (b:Nat):(FloatKind.f64.format.order b 0 == some Ordering.eq)=decide (Fl.rung b=0):=Fl.eq_zero b
theorem ltz (b:Nat):(FloatKind.f64.format.order b 0 == some Ordering.lt)=(Fl.neg b && decide (0 < Fl.rung b) && decide (Fl.rung b≤Fl.inf)):=Fl.lt_zero b
theorem lt_pos {x y:Nat} (hx:x≤Fl.inf) (hy:y≤Fl.inf):(FloatKind.f64.format.order x y == some Ordering.lt)=decide (x < y):=by
 show (Ieee.double.order x y == some Ordering.lt)=_
 rw [Fl.order_pos hx hy]
 simp only [compare,compareOfLessAndEq]
 by_cases h:x < y
 ·rw [if_pos h,decide_eq_true h];rfl
 ·rw [if_neg h,decide_eq_false h];split <;> rfl
theorem le_pos {x y:Nat} (hx:x≤Fl.inf) (hy:y≤Fl.inf):(FloatKind.f64.format.order x y == some Ordering.lt || FloatKind.f64.format.order x y == some Ordering.eq)=decide (x≤y):=by
 show (Ieee.double.order x y == some Ordering.lt || Ieee.double.order x y == some Ordering.eq)=_
 rw [Fl.order_pos hx hy]
 simp only [compare,compareOfLessAndEq]
 by_cases h:x < y
 ·rw [if_pos h,decide_eq_true (by omega)];rfl
 ·rw [if_neg h]
  by_cases h2:x=y
  ·rw [if_pos h2,decide_eq_true (by omega)];rfl
  ·rw [if_neg h2,decide_eq_false (by omega)];rfl
theorem condG_dec {C:Ctx} {p:Prop} [Decidable p] {a b:XCode} {ks:List K} {env:T AV} {h:Heap} {Q:PostC}:CondG C (.bool (decide p)) a b ks env h Q↔((p→GoP C (.c a::ks) env h Q)∧(¬ p→GoP C (.c b::ks) env h Q)):=by
 rw [condG_bool]
 by_cases hp:p
 ·simp [hp]
 ·simp [hp]
theorem rung_lt (b:Nat):Fl.rung b < 9223372036854775808:=Nat.mod_lt _ (by decide)
end Go.Proofs.YtmadknpaljaecaaGreatDoor.Ev
namespace Go.Proofs.YtmadknpaljaecaaGreatDoor.Ev
open Go
def seqT:Nat→XCode→XCode
 |0,c=>c
 |n+1,.seq _ b=>seqT n b
 |_,c=>c
def seqH:XCode→XCode
 |.seq a _=>a
 |c=>c
def blkB:XCode→XCode
 |.block _ c=>c
 |c=>c
def loopB:XCode→XCode
 |.loop c=>c
 |c=>c
def condA:XCode→XCode
 |.cond _ a _=>a
 |c=>c
def condB:XCode→XCode
 |.cond _ _ b=>b
 |c=>c
theorem mulmod (a b n:Nat):(a % n*b) % n=(a*b) % n:=by rw [Nat.mul_mod,Nat.mod_mod,← Nat.mul_mod]
theorem nearest_cast (t:Nat):FloatKind.f64.nearest (t:Int)=Ieee.double.nearest false t 0:=by
 have:decide ((t:Int) < 0)=false:=decide_eq_false (by omega)
 simp only [FloatKind.nearest,this,Int.natAbs_natCast]
 rfl
theorem b_shl1 {k':IntKind} {b:Nat} (h:2*b < 18446744073709551616):binV .shl (.int .u64 (b:Int)) (.int k' 1)=some (.int .u64 ((2*b:Nat):Int)):=by
 rw [b_shl' (by decide)]
 show some (AV.int .u64 (shlF .u64 (b:Int) 1))=_
 rw [shlF_nat,u64_wrap (by omega),Nat.pow_one,Nat.mul_comm]
end Go.Proofs.YtmadknpaljaecaaGreatDoor.Ev
