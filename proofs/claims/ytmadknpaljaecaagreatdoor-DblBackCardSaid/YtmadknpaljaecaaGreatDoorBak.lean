import Derived.Test.YtmadknpaljaecaaGreatDoorBac
import Derived.Test.YtmadknpaljaecaaGreatDoorBaj
set_option linter.all false
set_option maxHeartbeats 1000000
namespace Go.Proofs.YtmadknpaljaecaaGreatDoor.Ev
open Go
def cleanB:Nat→AV→Bool
 |0,_=>false
 |n+1,v=>match v with
  |.undef|.bool _|.int _ _|.float _ _|.nan _|.str _|.nilPtr|.nilSl|.nilMap|.nilFn|.nilIf=>true
  |.agg cs=>cs.all (cleanB n)
  |.iptr b cs=>!b && cs.all (cleanB n)
  |.isl b _ cs=>!b && cs.all (cleanB n)
  |.iface _ v=>cleanB n v
  |_=>false
theorem cleanB_sound:∀ (n:Nat) (v:AV),cleanB n v=true→Clean false v
 |0,v,h=>by simp [cleanB] at h
 |n+1,v,h=>by
  have lst:∀ cs:List AV,cs.all (cleanB n)=true→∀ c∈cs,Clean false c:=fun cs hc c hm=>cleanB_sound n c (List.all_eq_true.1 hc c hm)
  unfold cleanB at h
  split at h
  all_goals first
   |constructor;done
   |(cases h;done)
   |skip
  ·exact .agg (lst _ h)
  ·simp only [Bool.and_eq_true,Bool.not_eq_true'] at h
   rw [h.1];exact .iptr (fun e=>by cases e) (lst _ h.2)
  ·simp only [Bool.and_eq_true,Bool.not_eq_true'] at h
   rw [h.1];exact .isl (fun e=>by cases e) (lst _ h.2)
  ·exact .iface (cleanB_sound n _ h)
theorem call_ok {P:Program} {C:Ctx} {pur:Nat→Bool} (hctx:CtxOk P C pur) (hglob:∀ g,Clean false (C.glob g)∨C.glob g=.dead) (n:Nat):CallOk P C (callFn (ex C n) C):=
 callFn_ok hctx hglob (ex_sound hctx hglob n)
end Go.Proofs.YtmadknpaljaecaaGreatDoor.Ev
set_option maxRecDepth 100000
set_option maxHeartbeats 4000000
namespace Go.Proofs.YtmadknpaljaecaaGreatDoor.Ev.D
open Go Go.Proofs.YtmadknpaljaecaaGreatDoor.Ev
def fnsL:List (Nat×XFn):=[(7,X7),(15,X15),(255,X255),(95,X95),(159,X159),(223,X223),(271,X271),(111,X111),(39,X39),(71,X71),(263,X263),(103,X103),(215,X215),(119,X119),(247,X247),(19,X19),(35,X35),(67,X67),(259,X259),(51,X51),(83,X83),(275,X275),(211,X211),(243,X243),(27,X27),(75,X75),(139,X139),(107,X107),(59,X59),(91,X91),(219,X219),(251,X251),(33,X33),(257,X257),(289,X289),(225,X225),(81,X81),(145,X145),(105,X105),(169,X169),(233,X233),(281,X281),(185,X185),(249,X249),(69,X69),(101,X101),(229,X229),(245,X245),(29,X29),(45,X45),(77,X77),(141,X141),(109,X109),(61,X61),(221,X221),(125,X125),(16,X16),(32,X32),(256,X256),(96,X96),(160,X160),(288,X288),(272,X272),(112,X112),(176,X176),(24,X24),(40,X40),(264,X264),(104,X104),(56,X56),(216,X216),(120,X120),(248,X248),(20,X20),(132,X132),(228,X228),(52,X52),(84,X84),(212,X212),(244,X244),(28,X28),(44,X44),(76,X76),(172,X172),(60,X60),(92,X92),(220,X220),(252,X252),(18,X18),(226,X226),(50,X50),(82,X82),(274,X274),(178,X178),(242,X242),(138,X138),(218,X218),(250,X250),(22,X22),(70,X70),(102,X102),(166,X166),(214,X214),(118,X118),(246,X246),(30,X30),(46,X46),(78,X78),(270,X270),(110,X110),(62,X62),(94,X94),(254,X254)]
theorem fnsL_eq:fnsT.toL (fun n=>n)=fnsL:=by kernel_rfl
theorem all:∀ p∈fnsL,chk Go.Proofs.Tryz.prog pur p.1=some p.2:=List.forall_mem_cons.2 ⟨ck7,List.forall_mem_cons.2 ⟨ck15,List.forall_mem_cons.2 ⟨ck255,List.forall_mem_cons.2 ⟨ck95,List.forall_mem_cons.2 ⟨ck159,List.forall_mem_cons.2 ⟨ck223,List.forall_mem_cons.2 ⟨ck271,List.forall_mem_cons.2 ⟨ck111,List.forall_mem_cons.2 ⟨ck39,List.forall_mem_cons.2 ⟨ck71,List.forall_mem_cons.2 ⟨ck263,List.forall_mem_cons.2 ⟨ck103,List.forall_mem_cons.2 ⟨ck215,List.forall_mem_cons.2 ⟨ck119,List.forall_mem_cons.2 ⟨ck247,List.forall_mem_cons.2 ⟨ck19,List.forall_mem_cons.2 ⟨ck35,List.forall_mem_cons.2 ⟨ck67,List.forall_mem_cons.2 ⟨ck259,List.forall_mem_cons.2 ⟨ck51,List.forall_mem_cons.2 ⟨ck83,List.forall_mem_cons.2 ⟨ck275,List.forall_mem_cons.2 ⟨ck211,List.forall_mem_cons.2 ⟨ck243,List.forall_mem_cons.2 ⟨ck27,List.forall_mem_cons.2 ⟨ck75,List.forall_mem_cons.2 ⟨ck139,List.forall_mem_cons.2 ⟨ck107,List.forall_mem_cons.2 ⟨ck59,List.forall_mem_cons.2 ⟨ck91,List.forall_mem_cons.2 ⟨ck219,List.forall_mem_cons.2 ⟨ck251,List.forall_mem_cons.2 ⟨ck33,List.forall_mem_cons.2 ⟨ck257,List.forall_mem_cons.2 ⟨ck289,List.forall_mem_cons.2 ⟨ck225,List.forall_mem_cons.2 ⟨ck81,List.forall_mem_cons.2 ⟨ck145,List.forall_mem_cons.2 ⟨ck105,List.forall_mem_cons.2 ⟨ck169,List.forall_mem_cons.2 ⟨ck233,List.forall_mem_cons.2 ⟨ck281,List.forall_mem_cons.2 ⟨ck185,List.forall_mem_cons.2 ⟨ck249,List.forall_mem_cons.2 ⟨ck69,List.forall_mem_cons.2 ⟨ck101,List.forall_mem_cons.2 ⟨ck229,List.forall_mem_cons.2 ⟨ck245,List.forall_mem_cons.2 ⟨ck29,List.forall_mem_cons.2 ⟨ck45,List.forall_mem_cons.2 ⟨ck77,List.forall_mem_cons.2 ⟨ck141,List.forall_mem_cons.2 ⟨ck109,List.forall_mem_cons.2 ⟨ck61,List.forall_mem_cons.2 ⟨ck221,List.forall_mem_cons.2 ⟨ck125,List.forall_mem_cons.2 ⟨ck16,List.forall_mem_cons.2 ⟨ck32,List.forall_mem_cons.2 ⟨ck256,List.forall_mem_cons.2 ⟨ck96,List.forall_mem_cons.2 ⟨ck160,List.forall_mem_cons.2 ⟨ck288,List.forall_mem_cons.2 ⟨ck272,List.forall_mem_cons.2 ⟨ck112,List.forall_mem_cons.2 ⟨ck176,List.forall_mem_cons.2 ⟨ck24,List.forall_mem_cons.2 ⟨ck40,List.forall_mem_cons.2 ⟨ck264,List.forall_mem_cons.2 ⟨ck104,List.forall_mem_cons.2 ⟨ck56,List.forall_mem_cons.2 ⟨ck216,List.forall_mem_cons.2 ⟨ck120,List.forall_mem_cons.2 ⟨ck248,List.forall_mem_cons.2 ⟨ck20,List.forall_mem_cons.2 ⟨ck132,List.forall_mem_cons.2 ⟨ck228,List.forall_mem_cons.2 ⟨ck52,List.forall_mem_cons.2 ⟨ck84,List.forall_mem_cons.2 ⟨ck212,List.forall_mem_cons.2 ⟨ck244,List.forall_mem_cons.2 ⟨ck28,List.forall_mem_cons.2 ⟨ck44,List.forall_mem_cons.2 ⟨ck76,List.forall_mem_cons.2 ⟨ck172,List.forall_mem_cons.2 ⟨ck60,List.forall_mem_cons.2 ⟨ck92,List.forall_mem_cons.2 ⟨ck220,List.forall_mem_cons.2 ⟨ck252,List.forall_mem_cons.2 ⟨ck18,List.forall_mem_cons.2 ⟨ck226,List.forall_mem_cons.2 ⟨ck50,List.forall_mem_cons.2 ⟨ck82,List.forall_mem_cons.2 ⟨ck274,List.forall_mem_cons.2 ⟨ck178,List.forall_mem_cons.2 ⟨ck242,List.forall_mem_cons.2 ⟨ck138,List.forall_mem_cons.2 ⟨ck218,List.forall_mem_cons.2 ⟨ck250,List.forall_mem_cons.2 ⟨ck22,List.forall_mem_cons.2 ⟨ck70,List.forall_mem_cons.2 ⟨ck102,List.forall_mem_cons.2 ⟨ck166,List.forall_mem_cons.2 ⟨ck214,List.forall_mem_cons.2 ⟨ck118,List.forall_mem_cons.2 ⟨ck246,List.forall_mem_cons.2 ⟨ck30,List.forall_mem_cons.2 ⟨ck46,List.forall_mem_cons.2 ⟨ck78,List.forall_mem_cons.2 ⟨ck270,List.forall_mem_cons.2 ⟨ck110,List.forall_mem_cons.2 ⟨ck62,List.forall_mem_cons.2 ⟨ck94,List.forall_mem_cons.2 ⟨ck254,(by simp)⟩⟩⟩⟩⟩⟩⟩⟩⟩⟩⟩⟩⟩⟩⟩⟩⟩⟩⟩⟩⟩⟩⟩⟩⟩⟩⟩⟩⟩⟩⟩⟩⟩⟩⟩⟩⟩⟩⟩⟩⟩⟩⟩⟩⟩⟩⟩⟩⟩⟩⟩⟩⟩⟩⟩⟩⟩⟩⟩⟩⟩⟩⟩⟩⟩⟩⟩⟩⟩⟩⟩⟩⟩⟩⟩⟩⟩⟩⟩⟩⟩⟩⟩⟩⟩⟩⟩⟩⟩⟩⟩⟩⟩⟩⟩⟩⟩⟩⟩⟩⟩⟩⟩⟩⟩⟩⟩⟩⟩⟩⟩⟩⟩
theorem ctx:CtxOk Go.Proofs.Tryz.prog C pur:=ctx_of mixed (fun f fn hf=>all (f,fn) (fnsL_eq ▸ T.get_mem fnsT (fun n=>n) f fn hf)) (fun f g h=>by cases h) (fun f g h=>by cases h)
end Go.Proofs.YtmadknpaljaecaaGreatDoor.Ev.D
