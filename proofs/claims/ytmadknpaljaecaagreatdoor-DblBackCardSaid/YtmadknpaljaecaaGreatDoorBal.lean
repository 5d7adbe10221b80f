import Derived.Test.YtmadknpaljaecaaGreatDoorBad
import Derived.Test.YtmadknpaljaecaaGreatDoorBak
set_option linter.all false
set_option maxHeartbeats 1000000
set_option maxRecDepth 100000
set_option maxHeartbeats 4000000
namespace Go.Proofs.YtmadknpaljaecaaGreatDoor.Ev.D
open Go Go.Proofs.YtmadknpaljaecaaGreatDoor.Ev
theorem star: "*" ++ "errors.errorString" = "*errors.errorString" :=by decide
theorem hrow (u:Nat) (h:Go.Proofs.Tryz.prog.typeName? 3 u=some "*errors.errorString"):u=246:=
 typeName_ptr_named (nm:= "errors.errorString") (by rw [star];kernel_rfl) (by kernel_rfl) (by decide) u (by rw [star];exact h)
theorem g16:gcells Go.Proofs.Tryz.prog "*errors.errorString" 246 3000 199 (Go.Proofs.YtmadknpaljaecaaGreatDoor.Rows.laid_math_bits_deBruijn32tab)=some L16:=by kernel_rfl
theorem n16:Go.Proofs.Tryz.prog.globalNamed "math/bits.deBruijn32tab" =some 16:=by kernel_rfl
theorem t16:(Go.Proofs.Tryz.prog.globals[16]?).map (·.type)=some 199:=by kernel_rfl
theorem g17:gcells Go.Proofs.Tryz.prog "*errors.errorString" 246 3000 292 (Go.Proofs.YtmadknpaljaecaaGreatDoor.Rows.laid_math_bits_deBruijn64tab)=some L17:=by kernel_rfl
theorem n17:Go.Proofs.Tryz.prog.globalNamed "math/bits.deBruijn64tab" =some 17:=by kernel_rfl
theorem t17:(Go.Proofs.Tryz.prog.globals[17]?).map (·.type)=some 292:=by kernel_rfl
theorem g9:gcells Go.Proofs.Tryz.prog "*errors.errorString" 246 3000 259 (Go.Proofs.YtmadknpaljaecaaGreatDoor.Rows.laid_internal_strconv_float32info)=some L9:=by kernel_rfl
theorem n9:Go.Proofs.Tryz.prog.globalNamed "internal/strconv.float32info" =some 9:=by kernel_rfl
theorem t9:(Go.Proofs.Tryz.prog.globals[9]?).map (·.type)=some 259:=by kernel_rfl
theorem g10:gcells Go.Proofs.Tryz.prog "*errors.errorString" 246 3000 259 (Go.Proofs.YtmadknpaljaecaaGreatDoor.Rows.laid_internal_strconv_float64info)=some L10:=by kernel_rfl
theorem n10:Go.Proofs.Tryz.prog.globalNamed "internal/strconv.float64info" =some 10:=by kernel_rfl
theorem t10:(Go.Proofs.Tryz.prog.globals[10]?).map (·.type)=some 259:=by kernel_rfl
theorem g4:gcells Go.Proofs.Tryz.prog "*errors.errorString" 246 3000 4 (Go.Proofs.YtmadknpaljaecaaGreatDoor.Rows.laid_internal_strconv_optimize)=some L4:=by kernel_rfl
theorem n4:Go.Proofs.Tryz.prog.globalNamed "internal/strconv.optimize" =some 4:=by kernel_rfl
theorem t4:(Go.Proofs.Tryz.prog.globals[4]?).map (·.type)=some 4:=by kernel_rfl
theorem g14:gcells Go.Proofs.Tryz.prog "*errors.errorString" 246 3000 127 (Go.Proofs.YtmadknpaljaecaaGreatDoor.Rows.laid_internal_strconv_powtab)=some L14:=by kernel_rfl
theorem n14:Go.Proofs.Tryz.prog.globalNamed "internal/strconv.powtab" =some 14:=by kernel_rfl
theorem t14:(Go.Proofs.Tryz.prog.globals[14]?).map (·.type)=some 127:=by kernel_rfl
theorem g15:gcells Go.Proofs.Tryz.prog "*errors.errorString" 246 3000 286 (Go.Proofs.YtmadknpaljaecaaGreatDoor.Rows.laid_internal_strconv_float64pow10)=some L15:=by kernel_rfl
theorem n15:Go.Proofs.Tryz.prog.globalNamed "internal/strconv.float64pow10" =some 15:=by kernel_rfl
theorem t15:(Go.Proofs.Tryz.prog.globals[15]?).map (·.type)=some 286:=by kernel_rfl
theorem g13:gcells Go.Proofs.Tryz.prog "*errors.errorString" 246 3000 284 (Go.Proofs.YtmadknpaljaecaaGreatDoor.Rows.laid_internal_strconv_float32pow10)=some L13:=by kernel_rfl
theorem n13:Go.Proofs.Tryz.prog.globalNamed "internal/strconv.float32pow10" =some 13:=by kernel_rfl
theorem t13:(Go.Proofs.Tryz.prog.globals[13]?).map (·.type)=some 284:=by kernel_rfl
theorem g8:gcells Go.Proofs.Tryz.prog "*errors.errorString" 246 3000 241 (Go.Proofs.YtmadknpaljaecaaGreatDoor.Rows.laid_internal_strconv_uint64pow10)=some L8:=by kernel_rfl
theorem n8:Go.Proofs.Tryz.prog.globalNamed "internal/strconv.uint64pow10" =some 8:=by kernel_rfl
theorem t8:(Go.Proofs.Tryz.prog.globals[8]?).map (·.type)=some 241:=by kernel_rfl
theorem g3:gcells Go.Proofs.Tryz.prog "*errors.errorString" 246 3000 180 (Go.Proofs.YtmadknpaljaecaaGreatDoor.Rows.laid_unicode_utf8_acceptRanges)=some L3:=by kernel_rfl
theorem n3:Go.Proofs.Tryz.prog.globalNamed "unicode/utf8.acceptRanges" =some 3:=by kernel_rfl
theorem t3:(Go.Proofs.Tryz.prog.globals[3]?).map (·.type)=some 180:=by kernel_rfl
theorem g6:gcells Go.Proofs.Tryz.prog "*errors.errorString" 246 3000 75 (Go.Proofs.YtmadknpaljaecaaGreatDoor.Rows.laid_strconv_ErrRange)=some L6:=by kernel_rfl
theorem n6:Go.Proofs.Tryz.prog.globalNamed "strconv.ErrRange" =some 6:=by kernel_rfl
theorem t6:(Go.Proofs.Tryz.prog.globals[6]?).map (·.type)=some 75:=by kernel_rfl
theorem g5:gcells Go.Proofs.Tryz.prog "*errors.errorString" 246 3000 75 (Go.Proofs.YtmadknpaljaecaaGreatDoor.Rows.laid_strconv_ErrSyntax)=some L5:=by kernel_rfl
theorem n5:Go.Proofs.Tryz.prog.globalNamed "strconv.ErrSyntax" =some 5:=by kernel_rfl
theorem t5:(Go.Proofs.Tryz.prog.globals[5]?).map (·.type)=some 75:=by kernel_rfl
theorem g12:gcells Go.Proofs.Tryz.prog "*errors.errorString" 246 3000 281 (Go.Proofs.YtmadknpaljaecaaGreatDoor.Rows.laid_internal_strconv_leftcheats)=some L12:=by kernel_rfl
theorem n12:Go.Proofs.Tryz.prog.globalNamed "internal/strconv.leftcheats" =some 12:=by kernel_rfl
theorem t12:(Go.Proofs.Tryz.prog.globals[12]?).map (·.type)=some 281:=by kernel_rfl
theorem g11:gcells Go.Proofs.Tryz.prog "*errors.errorString" 246 3000 277 (Go.Proofs.YtmadknpaljaecaaGreatDoor.Rows.laid_internal_strconv_pow10Tab)=some L11:=by kernel_rfl
theorem n11:Go.Proofs.Tryz.prog.globalNamed "internal/strconv.pow10Tab" =some 11:=by kernel_rfl
theorem t11:(Go.Proofs.Tryz.prog.globals[11]?).map (·.type)=some 277:=by kernel_rfl
theorem g7:gcells Go.Proofs.Tryz.prog "*errors.errorString" 246 3000 228 (Go.Proofs.YtmadknpaljaecaaGreatDoor.Rows.laid_unicode_CaseRanges)=some L7:=by kernel_rfl
theorem n7:Go.Proofs.Tryz.prog.globalNamed "unicode.CaseRanges" =some 7:=by kernel_rfl
theorem t7:(Go.Proofs.Tryz.prog.globals[7]?).map (·.type)=some 228:=by kernel_rfl
theorem g2:gcells Go.Proofs.Tryz.prog "*errors.errorString" 246 3000 177 (Go.Proofs.YtmadknpaljaecaaGreatDoor.Rows.laid_unicode_utf8_first)=some L2:=by kernel_rfl
theorem n2:Go.Proofs.Tryz.prog.globalNamed "unicode/utf8.first" =some 2:=by kernel_rfl
theorem t2:(Go.Proofs.Tryz.prog.globals[2]?).map (·.type)=some 177:=by kernel_rfl
def globL:List (Nat×AV):=[(3,.iptr false L3),(7,.iptr false L7),(15,.iptr false L15),(11,.iptr false L11),(5,.iptr false L5),(9,.iptr false L9),(17,.iptr false L17),(13,.iptr false L13),(2,.iptr false L2),(4,.iptr false L4),(8,.iptr false L8),(16,.iptr false L16),(12,.iptr false L12),(6,.iptr false L6),(10,.iptr false L10),(14,.iptr false L14)]
theorem globL_eq:globT.toL (fun n=>n)=globL:=by kernel_rfl
theorem glob_vr {E:Env} {W:World} (h:laidMet Go.Proofs.Tryz.prog Go.Proofs.YtmadknpaljaecaaGreatDoor.Rows.dblOpsRow.laid W) (hI:∀ b,b < W.heap.size→E.I b):∀ p∈globL,VR E W p.2 (.pointer (some ⟨p.1,0,none⟩)):=
 List.forall_mem_cons.2 ⟨glob_of h hI hrow (.tail _ (.tail _ (.tail _ (.tail _ (.tail _ (.tail _ (.tail _ (.tail _ (.tail _ (.head _)))))))))) n3 t3 g3,List.forall_mem_cons.2 ⟨glob_of h hI hrow (.tail _ (.tail _ (.tail _ (.tail _ (.tail _ (.tail _ (.tail _ (.tail _ (.tail _ (.tail _ (.tail _ (.tail _ (.tail _ (.tail _ (.head _))))))))))))))) n7 t7 g7,List.forall_mem_cons.2 ⟨glob_of h hI hrow (.tail _ (.tail _ (.tail _ (.tail _ (.tail _ (.tail _ (.head _))))))) n15 t15 g15,List.forall_mem_cons.2 ⟨glob_of h hI hrow (.tail _ (.tail _ (.tail _ (.tail _ (.tail _ (.tail _ (.tail _ (.tail _ (.tail _ (.tail _ (.tail _ (.tail _ (.tail _ (.head _)))))))))))))) n11 t11 g11,List.forall_mem_cons.2 ⟨glob_of h hI hrow (.tail _ (.tail _ (.tail _ (.tail _ (.tail _ (.tail _ (.tail _ (.tail _ (.tail _ (.tail _ (.tail _ (.head _)))))))))))) n5 t5 g5,List.forall_mem_cons.2 ⟨glob_of h hI hrow (.tail _ (.tail _ (.head _))) n9 t9 g9,List.forall_mem_cons.2 ⟨glob_of h hI hrow (.tail _ (.head _)) n17 t17 g17,List.forall_mem_cons.2 ⟨glob_of h hI hrow (.tail _ (.tail _ (.tail _ (.tail _ (.tail _ (.tail _ (.tail _ (.head _)))))))) n13 t13 g13,List.forall_mem_cons.2 ⟨glob_of h hI hrow (.tail _ (.tail _ (.tail _ (.tail _ (.tail _ (.tail _ (.tail _ (.tail _ (.tail _ (.tail _ (.tail _ (.tail _ (.tail _ (.tail _ (.tail _ (.head _)))))))))))))))) n2 t2 g2,List.forall_mem_cons.2 ⟨glob_of h hI hrow (.tail _ (.tail _ (.tail _ (.tail _ (.head _))))) n4 t4 g4,List.forall_mem_cons.2 ⟨glob_of h hI hrow (.tail _ (.tail _ (.tail _ (.tail _ (.tail _ (.tail _ (.tail _ (.tail _ (.head _))))))))) n8 t8 g8,List.forall_mem_cons.2 ⟨glob_of h hI hrow (.head _) n16 t16 g16,List.forall_mem_cons.2 ⟨glob_of h hI hrow (.tail _ (.tail _ (.tail _ (.tail _ (.tail _ (.tail _ (.tail _ (.tail _ (.tail _ (.tail _ (.tail _ (.tail _ (.head _))))))))))))) n12 t12 g12,List.forall_mem_cons.2 ⟨glob_of h hI hrow (.tail _ (.tail _ (.tail _ (.tail _ (.tail _ (.tail _ (.tail _ (.tail _ (.tail _ (.tail _ (.head _))))))))))) n6 t6 g6,List.forall_mem_cons.2 ⟨glob_of h hI hrow (.tail _ (.tail _ (.tail _ (.head _)))) n10 t10 g10,List.forall_mem_cons.2 ⟨glob_of h hI hrow (.tail _ (.tail _ (.tail _ (.tail _ (.tail _ (.head _)))))) n14 t14 g14,(by simp)⟩⟩⟩⟩⟩⟩⟩⟩⟩⟩⟩⟩⟩⟩⟩⟩
theorem globR {E:Env} {W:World} (h:laidMet Go.Proofs.Tryz.prog Go.Proofs.YtmadknpaljaecaaGreatDoor.Rows.dblOpsRow.laid W) (hI:∀ b,b < W.heap.size→E.I b):GlobR E W C:=by
 intro g
 show VR E W ((globT.get g).getD .dead) _
 cases e:globT.get g with
 |none=>exact .dead
 |some v=>exact glob_vr h hI (g,v) (globL_eq ▸ T.get_mem globT (fun n=>n) g v e)
theorem globL_clean:globL.all (fun p=>cleanB 20 p.2)=true:=by kernel_rfl
theorem globClean (g:Nat):Clean false (C.glob g)∨C.glob g=.dead:=by
 show Clean false ((globT.get g).getD .dead)∨(globT.get g).getD .dead=.dead
 cases e:globT.get g with
 |none=>exact .inr rfl
 |some v=>exact .inl (cleanB_sound 20 v (List.all_eq_true.1 globL_clean (g,v) (globL_eq ▸ T.get_mem globT (fun n=>n) g v e)))
end Go.Proofs.YtmadknpaljaecaaGreatDoor.Ev.D
