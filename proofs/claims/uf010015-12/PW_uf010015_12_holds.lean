import PyProof.Rows.All
import Wide.All
import OpenK.AllK
import Wide.FinOn
import PySem.Challenge.RW_uf010015_12
set_option autoImplicit false
set_option linter.all false
set_option bootstrap.genMatcherCode false
set_option compiler.extract_closed false
set_option genSizeOf false
set_option genInjectivity false
set_option maxRecDepth 40000
namespace Mine.Internal
noncomputable abbrev Tt:List Nat:=[99,117,114,114,101,110,99,105,101,115]
noncomputable abbrev Tu:List Nat:=[110,97,109,101,115]
noncomputable abbrev Tv:List Nat:=[101,110,116,114,105,101,115]
noncomputable abbrev Tw:List Nat:=[100,101,101,100,115]
noncomputable abbrev Ty:List Nat:=[101,110,116,114,121]
noncomputable abbrev Tz:List Nat:=[99,108,111,115,101]
noncomputable abbrev TA:List Nat:=[114,97,116,101]
noncomputable abbrev TB:List Nat:=[99,104,97,110,103,101]
noncomputable abbrev TC:List Nat:=[98,97,99,107]
noncomputable abbrev TD:List Nat:=[97,99,99,111,117,110,116]
noncomputable abbrev TF:List Nat:=[99,108,111,115,101,32]
noncomputable abbrev TG:List Nat:=[101,110,100,115]
noncomputable abbrev TH:List Nat:=[101,120,99,104,97,110,103,101]
noncomputable abbrev TI:List Nat:=[65,66,67,68,69,70,71,72,73,74,75,76,77,78,79,80,81,82,83,84,85,86,87,88,89,90]
noncomputable abbrev TJ:List Nat:=[97,98,99,100,101,102,103,104,105,106,107,108,109,110,111,112,113,114,115,116,117,118,119,120,121,122]
noncomputable abbrev TL:List Nat:=[48,49,50,51,52,53,54,55,56,57]
noncomputable abbrev TM:List Nat:=[114,97,116,101,32]
noncomputable abbrev TN:List Nat:=[104,111,109,101,32,69,85,82]
noncomputable abbrev TO:List Nat:=[66,97,100,68,97,121]
noncomputable abbrev TP:List Nat:=[66,97,100,67,117,114,114,101,110,99,121]
noncomputable abbrev TQ:List Nat:=[32,53,32,101,120,99,104,97,110,103,101,32]
noncomputable abbrev TS:List Nat:=[108,105,110,101,32,97,32,69,85,82,32,53]
noncomputable abbrev TU:List Nat:=[108,105,110,101,32,101,120,99,104,97,110,103,101,32,69,85,82,32,53,10,108,105,110,101,32,101,120,99,104,97,110,103,101,32,69,85,82,32,45,53]
noncomputable abbrev TV:List Nat:=[99,104,97,110,103,101,32,57,57,57,57,57,32,101,120,99,104,97,110,103,101,32,69,85,82,32,48,32,101,120,99,104,97,110,103,101,32,69,85,82,32]
noncomputable abbrev TX:List Nat:=[101,110,116,114,121,32,57,57,57,57,57,32,50,32,120,10,108,105,110,101,32,110,111,98,111,100,121,32,69,85,82,32,53,10,108,105,110,101,32,101,120,99,104,97,110,103,101,32,69,85,82,32,45,53]
noncomputable abbrev TZ:List Nat:=[101,110,116,114,121,32,57,57,57,57,57,32,50,32,120,10,108,105,110,101,32,101,120,99,104,97,110,103,101,32,69,85,82,32,48,10,108,105,110,101,32,101,120,99,104,97,110,103,101,32,69,85,82,32,53]
noncomputable abbrev T0:List Nat:=[32,57,57,57,57,57,32,49,48,48,48,48,48,48,48,48,48,32,49,10,99,104,97,110,103,101,32,57,57,57,57,57,32,101,120,99,104,97,110,103,101,32]
noncomputable abbrev T3:List Nat:=[99,104,97,110,103,101,32,53,32,101,120,99,104,97,110,103,101,32,69,85,82,32,53,32,101,120,99,104,97,110,103,101,32,85,83,68]
noncomputable abbrev T4:List Nat:=[32,33,34,35,36,38,39,40,41,42,43,44,45,46,47,48,49,50,51,52,53,54,55,56,57,58,59,60,61,62,63,64]
noncomputable abbrev T5:List Nat:=[65,66,67,68,69,70,71,72,73,74,75,76,77,78,79,80,81,82,83,84,85,86,87,88,89,90,91,92,93,94,95,96]
noncomputable abbrev T6:List Nat:=[97,98,99,100,101,102,103,104,105,106,107,108,109,110,111,112,113,114,115,116,117,118,119,120,121,122,123,124,125,126]
noncomputable abbrev T7:List Nat:=[97,98,99,100,101,102,103,104,105,106,107,108,109,110,111,112,113,114,115,116,117,118,119,120,121,122,48,49,50,51,52,53,54,55,56,57]
def Sk:=@List.length_map
def Sl:=@Option.bind_some
def Sm:=@List.mem_cons
def Sn:=@List.length_append
def So:=@List.getElem?_eq_some_iff
def Sp:=@List.getElem?_eq_getElem
def Sq:=@List.mem_singleton
def Sr:=@Nat.le_of_ble_eq_true
def Ss:=@List.length_cons
def Su:=@PySem.Heap.get?_push_of_some
def Sv:=@Nat.le_trans
def Sw:=@List.length_singleton
def Sy:=@Nat.le_refl
def Sz:=@PySem.wpAny_bind
def SA:=@PySem.wpAny_pure
def SC:=@decide_eq_true
def SD:=@List.mem_map
def SE:=@List.getElem?_map
def SF:=@List.mem_append
def SG:=@List.getD_eq_getElem?_getD
def SH:=@PySem.Heap.get?_push_size
def SI:=@List.not_mem_nil
def SJ:=@List.size_toArray
def SK:=@List.getElem?_append_right
def SL:=@Bool.false_ne_true
def SM:=@Nat.lt_of_le_of_lt
def SN:=@Nat.lt_of_lt_of_le
def SO:=@List.length_set
def SP:=@Nat.le_succ_of_le
def SQ:=@Nat.zero_le
def SR:=@List.mem_of_getElem?
def SS:=@List.getElem?_set_ne
def ST:=@List.filter_cons_of_pos
def SU:=@PySem.Heap.lt_size
def SV:=@Int.le_trans
def SW:=@Int.lt_of_le_of_lt
def SY:=@Int.lt_of_lt_of_le
def SZ:=@Int.ofNat_le
def S0:=@Int.ofNat_lt
def S3:=@Nat.le_of_lt
def S4:=@Int.toNat_of_nonneg
def S5:=@Nat.add_le_add_left
def S6:=@of_decide_eq_true
def S7:=@Nat.lt_irrefl
def S8:=@Nat.le_succ
def S9:=@List.nodup_cons
def S_:=@List.getElem?_append_left
def Ta:=@Option.map_eq_some_iff
def Tb:=@List.nodup_nil
def Tc:=@Option.some.inj
def Td:=@Nat.le_of_eq
def Te:=@List.length_nil
def Tf:=@decide_eq_false
def Tg:=@Nat.zero_add
def Th:=@Nat.le_add_right
def Ti:=@Int.le_add_of_nonneg_right
def Tj:=@Nat.lt_trans
def Tk:=@Int.le_of_lt
def Tl:=@Nat.succ_le_succ
def Tm:=@Int.min_le_left
def Tn:=@Int.natCast_nonneg
def To:=@Nat.not_lt
def Tp:=@Int.not_lt
def Tq:=@Nat.mul_le_mul_left
def Tr:=@Nat.le_of_lt_succ
open PySem PySem.W PySem.Calls PyProof.Rows
set_option Elab.async false
set_option maxRecDepth 100000
set_option maxHeartbeats 8000000
theorem ft {a b:Bool} (h1:a=true) (h2:b=true):(a&&b)=true:=by rw[h1,h2];rfl
noncomputable def iC:{p:(OpenLaw->Bool)×(OpenLaw->Bool)×(OpenLaw->Bool)×(OpenLaw->Bool)×(OpenLaw->Bool)×(OpenLaw->Bool)×(OpenLaw->Bool)×(OpenLaw->Bool)×(OpenLaw->Bool)×(OpenLaw->Bool)×(OpenLaw->Bool)×(OpenLaw->Bool)×(OpenLaw->Bool)×(OpenLaw->Bool)×(OpenLaw->Bool)×(OpenLaw->Bool)×(OpenLaw->Bool)×(OpenLaw->Bool)×(OpenLaw->Bool) // ∀ l:OpenLaw,l.wellSaid=(p.1 l&&p.2.1 l&&p.2.2.1 l&&p.2.2.2.1 l&&p.2.2.2.2.1 l&&p.2.2.2.2.2.1 l&&p.2.2.2.2.2.2.1 l&&p.2.2.2.2.2.2.2.1 l&&p.2.2.2.2.2.2.2.2.1 l&&p.2.2.2.2.2.2.2.2.2.1 l&&p.2.2.2.2.2.2.2.2.2.2.1 l&&p.2.2.2.2.2.2.2.2.2.2.2.1 l&&p.2.2.2.2.2.2.2.2.2.2.2.2.1 l&&p.2.2.2.2.2.2.2.2.2.2.2.2.2.1 l&&p.2.2.2.2.2.2.2.2.2.2.2.2.2.2.1 l&&p.2.2.2.2.2.2.2.2.2.2.2.2.2.2.2.1 l&&p.2.2.2.2.2.2.2.2.2.2.2.2.2.2.2.2.1 l&&p.2.2.2.2.2.2.2.2.2.2.2.2.2.2.2.2.2.1 l&&p.2.2.2.2.2.2.2.2.2.2.2.2.2.2.2.2.2.2 l)}:=⟨(_,_,_,_,_,_,_,_,_,_,_,_,_,_,_,_,_,_,_),fun l=>rfl⟩
theorem R6:iC.1.1 PySem.Challenge.rw_uf010015_12=true:=by kernel_rfl
theorem R4:iC.1.2.1 PySem.Challenge.rw_uf010015_12=true:=by kernel_rfl
theorem R3:iC.1.2.2.1 PySem.Challenge.rw_uf010015_12=true:=by kernel_rfl
theorem R2:iC.1.2.2.2.1 PySem.Challenge.rw_uf010015_12=true:=by kernel_rfl
theorem R1:iC.1.2.2.2.2.1 PySem.Challenge.rw_uf010015_12=true:=by kernel_rfl
theorem R0:iC.1.2.2.2.2.2.1 PySem.Challenge.rw_uf010015_12=true:=by kernel_rfl
theorem RZ:iC.1.2.2.2.2.2.2.1 PySem.Challenge.rw_uf010015_12=true:=by kernel_rfl
theorem RY:iC.1.2.2.2.2.2.2.2.1 PySem.Challenge.rw_uf010015_12=true:=by kernel_rfl
theorem RX:iC.1.2.2.2.2.2.2.2.2.1 PySem.Challenge.rw_uf010015_12=true:=by kernel_rfl
theorem RW:iC.1.2.2.2.2.2.2.2.2.2.1 PySem.Challenge.rw_uf010015_12=true:=by kernel_rfl
theorem N_:iC.1.2.2.2.2.2.2.2.2.2.2.1 PySem.Challenge.rw_uf010015_12=true:=by kernel_rfl
theorem N9:iC.1.2.2.2.2.2.2.2.2.2.2.2.1 PySem.Challenge.rw_uf010015_12=true:=by kernel_rfl
theorem N8:iC.1.2.2.2.2.2.2.2.2.2.2.2.2.1 PySem.Challenge.rw_uf010015_12=true:=by kernel_rfl
theorem N7:iC.1.2.2.2.2.2.2.2.2.2.2.2.2.2.1 PySem.Challenge.rw_uf010015_12=true:=by kernel_rfl
theorem N6:iC.1.2.2.2.2.2.2.2.2.2.2.2.2.2.2.1 PySem.Challenge.rw_uf010015_12=true:=by kernel_rfl
theorem N5:iC.1.2.2.2.2.2.2.2.2.2.2.2.2.2.2.2.1 PySem.Challenge.rw_uf010015_12=true:=by kernel_rfl
theorem N4:iC.1.2.2.2.2.2.2.2.2.2.2.2.2.2.2.2.2.1 PySem.Challenge.rw_uf010015_12=true:=by kernel_rfl
theorem N3:iC.1.2.2.2.2.2.2.2.2.2.2.2.2.2.2.2.2.2.1 PySem.Challenge.rw_uf010015_12=true:=by kernel_rfl
theorem N2:iC.1.2.2.2.2.2.2.2.2.2.2.2.2.2.2.2.2.2.2 PySem.Challenge.rw_uf010015_12=true:=by kernel_rfl
theorem LN:PySem.Challenge.rw_uf010015_12.wellSaid=true:=(iC.2 PySem.Challenge.rw_uf010015_12).trans (ft (ft (ft (ft (ft (ft (ft (ft (ft (ft (ft (ft (ft (ft (ft (ft (ft (ft (R6) R4) R3) R2) R1) R0) RZ) RY) RX) RW) N_) N9) N8) N7) N6) N5) N4) N3) N2)
open PySem PySem.W PySem.Calls PyProof.Rows
noncomputable def eO (p:Program) (w:World) (n₀:Nat) (ann:Option Value):Nat->SharedT->Thread->Option SharedT
 |0,_,_=>none
 |n+1,s,t=>match through t with
  |true=>some s
  |false=>match PySem.W.Fast.tw6613529449190102663 n₀ ann t with
   |false=>none
   |true=>match PySem.W.Fast.tw10156331382660048174 (PySem.W.Fast.tw11892475500146522536 PySem.W.Fast.tw14364793385576792824) p w s t with
    |some (s',t')=>eO p w n₀ ann n s' t'
    |none=>none
theorem pP {p:Program} {w:World} {n₀:Nat} {ann:Option Value}:∀ {n:Nat} {s s':SharedT} {t:Thread},eO p w n₀ ann n s t=some s'->topRun treeTable p w n₀ ann n s.abs t=some s'.abs
 |0,_,_,_,h=>by cases h
 |n+1,s,s',t,h=>by
  unfold eO at h;rw[<-PySem.W.Fast.te6613529449190102663,<-PySem.W.Fast.te10156331382660048174,<-PySem.W.Fast.te11892475500146522536,<-PySem.W.Fast.te14364793385576792824] at h;unfold topRun;cases ht:through t with
  |true=>rw[ht] at h;cases h;rfl
  |false=>
   rw[ht] at h;cases hk:stepOk n₀ ann t with
   |false=>rw[hk] at h;cases h
   |true=>
    rw[hk] at h;cases hs:stepT (denote treeTable) p w s t with
    |none=>rw[hs] at h;cases h
    |some x=>
     obtain ⟨s₂,t₂⟩:=x;rw[hs] at h;dsimp only;rw[stepT_spec hs];exact pP h
noncomputable def gq (l:List Obj):BT:=(l.foldl (fun (x:BT×Nat) o=>(x.1.ins x.2 o,x.2+1)) (.nil,0)).1
theorem He {p q:Program} {loose:List Str} {Xt:Shared->Bool} {Yf:Shared->Prop} {Yt:SharedT->Bool} {N n0:Nat} {life0:Life} {ann:Option Value}
  (e:opening p=plainProg p.main.scope.names) (hN:Nat.ble 600 N=true) (f:∀ s,fenceModules? p s=some s)
  (hT:∀ P:Params,absHeap (gq (boot_heap P).objs.toList) n0 life0=boot_heap P)
  (size:∀ w:World,((boot_heap w.params).isNs mainGlobals,(boot_heap w.params).objs.size,(boot_heap w.params).nsMap mainGlobals "__annotations__")=(true,n0,ann))
  (hY:∀ s,Yt s=true->Yf s.abs)
  (run1:∀ (w:World) (os:OsState),(eO p w n0 ann N ⟨gq (boot_heap w.params).objs.toList,n0,life0,Array.mk [],boot_drawn,boot_toks,os⟩ (topStub p)).map (fun s=>
   (staticsOk (PySem.W.Fast.tw5923862056798008813 p.main.body) (boot_heap w.params) s.abs.heap&&namesBound p s.abs.heap&&gensDone s.abs&&laidKept (boot_heap w.params) s.abs.heap,Yt s))=some (true,true))
  (run2:∀ (w:World) (os:OsState),(eO p w n0 ann N ⟨gq (boot_heap w.params).objs.toList,n0,life0,Array.mk [],boot_drawn,boot_toks,os⟩ (topStub p)).map (fun s=>
   PySem.W.Fast.tw4187177175401517315 q loose (PySem.W.Fast.tw5923862056798008813 p.main.body) Xt true s.abs)=some (openGood q loose)):
  LeftO p q loose Xt Yf (fun _=>True) N:=fun w=>by
 obtain ⟨⟨h,gs,d,k,os⟩,e1,e2⟩:=Ta.mp (boot_open e hN f w);obtain ⟨rfl,rfl,rfl,rfl⟩:h=boot_heap w.params/\gs=Array.mk []/\d=boot_drawn/\k=boot_toks:=by simpa using e2
 obtain ⟨z1,z2,z3⟩:_/\_/\_:=by simpa only [Prod.mk.injEq] using size w
 obtain ⟨s',r1,r2⟩:=Ta.mp (run1 w os);have l2:=run2 w os;rw[r1] at l2;have l2:=Tc l2;rw[<-PySem.W.Fast.te5923862056798008813] at r2;rw[<-PySem.W.Fast.te5923862056798008813,<-PySem.W.Fast.te4187177175401517315] at l2;obtain ⟨l1,l3⟩:_/\_:=by simpa only [Prod.mk.injEq] using r2
 have r:=pP r1;have ha:(SharedT.abs ⟨gq (boot_heap w.params).objs.toList,n0,life0,Array.mk [],boot_drawn,boot_toks,os⟩)=⟨boot_heap w.params,Array.mk [],boot_drawn,boot_toks,os⟩:=by
  show Shared.mk (absHeap _ _ _) _ _ _ _=_;rw[hT]
 rw[ha] at r;unfold openEnds;rw[e1];show (topFrom treeTable p w N _).map _=_;have t:topFrom treeTable p w N ⟨boot_heap w.params,Array.mk [],boot_drawn,boot_toks,os⟩=some s'.abs:=by
  unfold topFrom;dsimp only;rw[z1,z2,z3,r];show (match staticsOk (importedModules p.main.body) (boot_heap w.params) s'.abs.heap&&namesBound p s'.abs.heap&&gensDone s'.abs&&laidKept (boot_heap w.params) s'.abs.heap with|true=>some s'.abs|false=>none)=_
  rw[l1]
 rw[t];exact congrArg some (Prod.ext l2 (eq_true (hY s' l3)))
open PySem PySem.W PySem.Calls PyProof.Rows
theorem Gw {α:Type} {o:Option α} {f g:α->Bool} (h1:o.map f=some true) (h2:o.map g=some true):o.map (fun s=>(f s,g s))=some (true,true):=by
 cases o with
 |none=>cases h1
 |some a=>exact congrArg some (Prod.ext (Tc h1) (Tc h2))
theorem Gv {α:Type} {o:Option α} {F:α->Shared} {q:Program} {loose mods:List Str} {Xt:Shared->Bool}
  (hA:o.map (fun s=>((PySem.W.Fast.tw4187177175401517315 q loose mods Xt true (F s)).1,(PySem.W.Fast.tw4187177175401517315 q loose mods Xt true (F s)).2.1))=some (expectedOf q,bltViewBooted))
  (hB:o.map (fun s=>((PySem.W.Fast.tw4187177175401517315 q loose mods Xt true (F s)).2.2.1,(PySem.W.Fast.tw4187177175401517315 q loose mods Xt true (F s)).2.2.2.1))=some (true,true))
  (hC:o.map (fun s=>(PySem.W.Fast.tw4187177175401517315 q loose mods Xt true (F s)).2.2.2.2.2.1)=some (plainGoodE q (looseW q loose)))
  (hD:o.map (fun s=>((PySem.W.Fast.tw4187177175401517315 q loose mods Xt true (F s)).2.2.2.2.1,(PySem.W.Fast.tw4187177175401517315 q loose mods Xt true (F s)).2.2.2.2.2.2))=some (pinGoodD (drecsOf q),plainGoodD q loose,wideGood q,clsGoodW q loose)):
  o.map (fun s=>PySem.W.Fast.tw4187177175401517315 q loose mods Xt true (F s))=some (openGood q loose):=by
 cases o with
 |none=>cases hA
 |some a=>
  obtain ⟨a1,a2⟩:=Prod.mk.inj (Tc hA);obtain ⟨b1,b2⟩:=Prod.mk.inj (Tc hB);have c1:=Tc hC;obtain ⟨d1,d2⟩:=Prod.mk.inj (Tc hD);exact congrArg some (Prod.ext a1 (Prod.ext a2 (Prod.ext b1 (Prod.ext b2 (Prod.ext d1 (Prod.ext c1 d2))))))
open PySem PySem.W PySem.Calls PyProof.Rows
set_option Elab.async false
set_option maxRecDepth 100000
set_option maxHeartbeats 8000000
noncomputable def pN:Program:=PySem.Challenge.pw_uf010015_12
noncomputable def qN:Program:=view pN ((List.range 1).map (· +0)++(List.range 17).map (· +2)++(List.range 2).map (· +20)++(List.range 10).map (· +23)++(List.range 2).map (· +34)++(List.range 10).map (· +37)++(List.range 33).map (· +48))
theorem z1:opening pN=plainProg pN.main.scope.names:=by kernel_rfl
theorem z2:∀ s,fenceModules? pN s=some s:=fun s=>by kernel_rfl
theorem z3:∀ P:Params,absHeap (gq (boot_heap P).objs.toList) 11 {}=boot_heap P:=fun P=>by kernel_rfl
theorem z4:∀ w:World,((boot_heap w.params).isNs mainGlobals,(boot_heap w.params).objs.size,(boot_heap w.params).nsMap mainGlobals "__annotations__")=(true,11,some (.ref 6)):=fun w=>by kernel_rfl
theorem RQ:∀ (w:World) (os:OsState),(eO pN w 11 (some (.ref 6)) 40178 ⟨gq (boot_heap w.params).objs.toList,11,{},Array.mk [],boot_drawn,boot_toks,os⟩ (topStub pN)).map (fun s=>staticsOk (PySem.W.Fast.tw5923862056798008813 pN.main.body) (boot_heap w.params) s.abs.heap&&namesBound pN s.abs.heap&&gensDone s.abs&&laidKept (boot_heap w.params) s.abs.heap)=some true:=fun w os=>by kernel_rfl
theorem RN:∀ (w:World) (os:OsState),(eO pN w 11 (some (.ref 6)) 40178 ⟨gq (boot_heap w.params).objs.toList,11,{},Array.mk [],boot_drawn,boot_toks,os⟩ (topStub pN)).map (fun s=>((PySem.W.Fast.tw4187177175401517315 qN ["BOUND","GREATEST"] (PySem.W.Fast.tw5923862056798008813 pN.main.body) (fun _=>true) true s.abs).1,(PySem.W.Fast.tw4187177175401517315 qN ["BOUND","GREATEST"] (PySem.W.Fast.tw5923862056798008813 pN.main.body) (fun _=>true) true s.abs).2.1))=some (expectedOf qN,bltViewBooted):=fun w os=>by kernel_rfl
theorem RM:∀ (w:World) (os:OsState),(eO pN w 11 (some (.ref 6)) 40178 ⟨gq (boot_heap w.params).objs.toList,11,{},Array.mk [],boot_drawn,boot_toks,os⟩ (topStub pN)).map (fun s=>((PySem.W.Fast.tw4187177175401517315 qN ["BOUND","GREATEST"] (PySem.W.Fast.tw5923862056798008813 pN.main.body) (fun _=>true) true s.abs).2.2.1,(PySem.W.Fast.tw4187177175401517315 qN ["BOUND","GREATEST"] (PySem.W.Fast.tw5923862056798008813 pN.main.body) (fun _=>true) true s.abs).2.2.2.1))=some (true,true):=fun w os=>by kernel_rfl
theorem RL:∀ (w:World) (os:OsState),(eO pN w 11 (some (.ref 6)) 40178 ⟨gq (boot_heap w.params).objs.toList,11,{},Array.mk [],boot_drawn,boot_toks,os⟩ (topStub pN)).map (fun s=>(PySem.W.Fast.tw4187177175401517315 qN ["BOUND","GREATEST"] (PySem.W.Fast.tw5923862056798008813 pN.main.body) (fun _=>true) true s.abs).2.2.2.2.2.1)=some (plainGoodE qN (looseW qN ["BOUND","GREATEST"])):=fun w os=>by kernel_rfl
theorem RK:∀ (w:World) (os:OsState),(eO pN w 11 (some (.ref 6)) 40178 ⟨gq (boot_heap w.params).objs.toList,11,{},Array.mk [],boot_drawn,boot_toks,os⟩ (topStub pN)).map (fun s=>((PySem.W.Fast.tw4187177175401517315 qN ["BOUND","GREATEST"] (PySem.W.Fast.tw5923862056798008813 pN.main.body) (fun _=>true) true s.abs).2.2.2.2.1,(PySem.W.Fast.tw4187177175401517315 qN ["BOUND","GREATEST"] (PySem.W.Fast.tw5923862056798008813 pN.main.body) (fun _=>true) true s.abs).2.2.2.2.2.2))=some (pinGoodD (drecsOf qN),plainGoodD qN ["BOUND","GREATEST"],wideGood qN,clsGoodW qN ["BOUND","GREATEST"]):=fun w os=>by kernel_rfl
noncomputable abbrev nX:Nat:=17
end Mine.Internal
namespace Mine.Internal
theorem bu {T:Prop} (h:∀ G:Prop,(T->G)->G):T:=h T id
section
variable {a b c d e f g h:Nat} {i j k l m n p:Int}
theorem c3 (u:a<b) (v:b<c) (w:c<d):3<=d:=Sv (Nat.succ_le_of_lt (SM (Nat.succ_le_of_lt (SM (Nat.succ_le_of_lt (SM (SQ a) u)) v)) w)) (Sy d)
theorem gK (u:a<=b+c) (v:d<=a+e*c):d<=b+(e+1)*c:=Sv v (Sv (Nat.add_le_add_right u _) (Td (by rw[Nat.succ_mul,Nat.add_assoc,Nat.add_comm c])))
theorem nA (u:0<=i) (v:i<(b:Int)):i.natAbs<b:=S0.mp (by rw[Int.natAbs_of_nonneg u];exact v)
theorem tA (u:i.toNat<a*2) (v:¬j.toNat<a):(i - j).toNat<a/\i - j<j:=by
 have h1:=SW (Int.self_le_toNat i) (S0.mpr u);cases a with
 |zero=>exact absurd u (Nat.not_lt_zero _)
 |succ q=>
  have h2:(q:Int)<j:=Int.lt_toNat.mp (Nat.lt_of_succ_le (To.mp v));exact ⟨(Int.toNat_lt' (Nat.succ_pos q)).mpr (by omega),by omega⟩
theorem qB (u:0<=i/\i<(c:Int)) (v:i=(a:Int)):a<c:=S0.mp (v ▸ u.2)
theorem o0:a<=800->b<=a->b<=1000:=fun u v=>Sv v (Sv u (Sr rfl))
theorem o1:a<=800->b<=a->b<=900:=fun u v=>Sv v (Sv u (Sr rfl))
theorem o2:1<=i->0<i:=fun u=>Int.lt_of_add_one_le u
theorem o3:a<=7->a<=1000:=fun u=>Sv u (Sr rfl)
theorem o4:a<64->a<=1000:=fun u=>Sv (Tr u) (Sr rfl)
theorem o5:a+(b+1)=c->a<c:=fun u=>u ▸ Nat.lt_add_of_pos_right (Nat.succ_pos b)
theorem o6:a<=800->a<=900:=fun u=>Sv u (Sr rfl)
theorem o7:a<64->b=a->b<64:=fun u v=>lt_of_eq_of_lt v u
theorem o8:i<=(a:Int)->0<=j/\j<i->j.toNat<a:=fun u v=>(Int.toNat_lt v.1).mpr (SY v.2 u)
theorem o9:0<=(a:Int):=Tn a
theorem CV:¬(a:Int)<0:=Int.not_ofNat_neg a
theorem LC:a<=8->a<=1000:=fun u=>Sv u (Sr rfl)
theorem LB:3<=a->0<(a:Int):=fun u=>S0.mpr (SN (Sr rfl) u)
theorem Ml:i<=(a:Int)->a<=1000->i<2^250:=fun u v=>SW (SV u (SZ.mpr v)) (by decide)
theorem Mk:0<=i/\i<j->i=(i.toNat:Int):=fun u=>(S4 u.1).symm
theorem Mj:a<=1000->i.toNat<a->i.toNat<=100000:=fun u v=>Sv (S3 v) (Sv u (by decide))
theorem DW: -1000<=(a:Int):=Int.neg_ofNat_le_natCast 1000 a
theorem Rx:1<=a+1:=Nat.le_add_left 1 a
theorem Qc:1<=i/\i<=10^9->i.natAbs<2^64:=fun u=>nA (SV (by decide) u.1) (SW u.2 (by decide))
theorem NG:a<=900->b<=a->b<=1000:=fun u v=>Sv v (Sv u (Sr rfl))
theorem NF:3<=a->0<(a:Int) - 1:=fun u=>Int.sub_pos_of_lt (S0.mpr (SN (by decide) u))
theorem LA:0<a->0<(a:Int):=fun u=>Int.natCast_pos.mpr u
theorem Rv:1<=i/\i<=10^9->0<i:=fun u=>SY (by decide) u.1
theorem PL:2<=a/\a<=60->a<=1000:=fun u=>Sv u.2 (by decide)
theorem PK:a+(b+1)=a+1+b:=Eq.symm (Nat.succ_add_eq_add_succ a b)
theorem PJ:(a:Int)<=(a:Int):=Int.le_refl ↑a
theorem PI:1<=i->i<=10^9->i.natAbs<2^64:=fun u v=>nA (SV (by decide) u) (SW v (by decide))
theorem PH:2<=a+1+1:=Nat.le_add_left 2 a
theorem PC:a+(b+1)≠a:=by lia
theorem Pe:a<=2^24->(a:Int)<9223372036854775808:=fun u=>S0.mpr (SM u (Sr rfl))
theorem Pc:a<b->b - (a+1)<b - a:=fun u=>Nat.sub_succ_lt_self b a u
theorem Ru:i<=10^9*10^9->i<2^250:=fun u=>SW u (by decide)
theorem NE:a<=1000->(a:Int)<=100000000:=fun u=>SZ.mpr (Sv u (by decide))
theorem Rt:a<=a+0+1*b:=Th a (1*b)
theorem Rs:a<=b+c->d+e+a<=d+b+(c+e):=by lia
theorem O1:a+(b+1)<=1000000->a+1+b<=1000000:=fun u=>Sv (Td (Nat.succ_add a b)) u
theorem Rr:0<=i/\i<41->i=(a:Int)->a<=1000:=fun u v=>Sv (S3 (S0.mp (v ▸ u.2:(a:Int)<((41:Nat):Int)))) (by decide)
theorem Rq:a<=900->b<=a->0+b<=1000000:=fun u v=>Sv (Td (Tg b)) (Sv v (Sv u (by decide)))
theorem Ro:a<=900->b<=a->c<=b->c<=1000:=fun u v w=>Sv w (Sv v (Sv u (by decide)))
theorem R_:a+(b+1)<=1000->a+1+b<=1000:=fun u=>Sv (Td (Nat.succ_add a b)) u
theorem Rn:a<=900->a<=1000:=fun u=>Sv u (by decide)
theorem Rm:a<=1000->0+a<=1000000:=fun u=>Sv (Td (Tg a)) (Sv u (by decide))
theorem Rl:a<b+1+c->a<b+(c+1):=fun u=>SN u (Td (Nat.succ_add b c))
theorem Rj:0<=i/\i<12->i=(a:Int)->a<=1000:=fun u v=>Sv (S3 (S0.mp (v ▸ u.2:(a:Int)<((12:Nat):Int)))) (by decide)
theorem Ow:¬a+1=0:=Nat.add_one_ne_zero a
theorem Ri:a<=8->(a:Int) - 1<2^250:=fun u=>SW (Int.sub_le_sub_right (SZ.mpr u) 1) (by decide)
theorem Rh:0<=i/\i<40->1<=1+i/\1+i<=10^9:=fun u=>⟨Ti u.1,SV (Int.add_le_add_left (Tk u.2) 1) (by decide)⟩
theorem Rg:0<=i/\i<10^9->1<=1+i/\1+i<=10^9:=fun u=>⟨Ti u.1,by rw[Int.add_comm];exact Int.add_one_le_of_lt u.2⟩
theorem Rf:0<max 1 (a:Int):=SY (by decide) (Int.le_max_left _ _)
theorem Re:a<=800->b<=a->max 1 (b:Int)<2^250:=fun u v=>Int.max_lt.mpr ⟨by decide,SW (SZ.mpr (Sv v u)) (by decide)⟩
theorem Rd:1<=i/\i<=4*10^29->i<10^30:=fun u=>SW u.2 (by decide)
theorem Rc:0<=i/\i<=500-> -1000<=min ((a:Int) - 2) i:=fun u=>Int.le_min.mpr ⟨SV (by decide:(-1000:Int)<=0 - 2) (Int.sub_le_sub_right (Tn a) 2),SV (by decide) u.1⟩
theorem ND:a+(b+1)<=100->a+1+b<=100:=fun u=>Sv (Td (Nat.succ_add a b)) u
theorem Mr:a+1+b=a+(b+1):=by lia
theorem Mq: -2^62<i/\i<2^62-> -2^63<=i:=fun u=>SV (by decide) u.1
theorem Mp: -2^62<i/\i<2^62->i<2^63:=fun u=>SV u.2 (by decide)
theorem QJ:a=b->c<a->c<b:=fun u v=>u ▸ v
theorem Mo:i.natAbs<2^64-> -2^64<i:=fun u=>Int.neg_lt_of_neg_lt (SW (Int.natAbs_neg i ▸ Int.le_natAbs) (SY (S0.mpr u) (by decide)))
theorem Mn:i.natAbs<2^64->i<2^64:=fun u=>SW Int.le_natAbs (SY (S0.mpr u) (by decide))
theorem Mm:a+64<b->c<=9->a+1+min c d<b:=fun u v=>SM (Sv (S5 (Sv (Nat.min_le_left _ _) v) _) (S5 (by decide:10<=64) a)) u
theorem QI:¬((a+1:Nat):Int)<1:=of_decide_eq_false rfl
theorem QH:¬b<a->¬(b:Int)<(a:Int):=fun u v=>u (S0.mp v)
theorem QG:i<=(a:Int)->0<=j/\j<i->j.toNat<min i.toNat a:=fun u v=>Nat.lt_min.mpr ⟨(Int.toNat_lt v.1).mpr (SY v.2 (Int.self_le_toNat i)),(Int.toNat_lt v.1).mpr (SY v.2 u)⟩
theorem QF:((a:Int) - 0 - 1+1).toNat=a:=by rw[Int.sub_zero,Int.sub_add_cancel];rfl
theorem QE:¬0<(a:Int)->0=a:=fun u=>(Nat.eq_zero_of_not_pos fun q=>u (S0.mpr q)).symm
theorem QD:0<=i/\i<(a:Int)->i=(b:Int)->(b:Int)<=(a:Int):=fun u v=>v ▸ Tk u.2
theorem QC:0<=(a:Int)+1:=Int.zero_le_ofNat (a+1)
theorem QA:0<=i/\i<(a:Int)->i=(b:Int)->(b:Int)+1<=(a:Int):=fun u v=>Int.add_one_le_of_lt (v ▸ u.2)
theorem Qz:((a:Int)+1).toNat=a+1:=Int.toNat_natCast_add_one
theorem Qy:a<=11->1<=a+1/\a+1<=12:=fun u=>⟨Tl (SQ a),Tl u⟩
theorem Qx:a<b->c<b->d<b->a≠c->a≠d->c≠d->3<=b:=fun u v w x y z=>(Nat.lt_or_gt_of_ne x).elim (fun p=>(Nat.lt_or_gt_of_ne z).elim (fun q=>c3 p q w) fun q=>(Nat.lt_or_gt_of_ne y).elim (fun r=>c3 r q v) fun r=>c3 r p v) fun p=>(Nat.lt_or_gt_of_ne y).elim (fun q=>c3 p q w) fun q=>(Nat.lt_or_gt_of_ne z).elim (fun r=>c3 r q u) fun r=>c3 r p u
theorem Qw:a<=b->c<=d->c+a<=b+d:=fun u v=>Sv (Nat.add_le_add v u) (Td (Nat.add_comm d b))
theorem Qv:i=j->¬j<i:=fun u=>by subst u;exact Int.lt_irrefl _
theorem Qu:a+(b+1)<=40->a+1+b<=40:=fun u=>Sv (Td (Nat.succ_add a b)) u
theorem Qt:a+(b+1)<=40->a+1<=1000:=fun u=>Sv (S5 (Tl (SQ b)) a) (Sv u (by decide))
theorem Qs:0<=i/\i<41->i=(a:Int)->0+a<=40:=fun u v=>Sv (Td (Tg a)) (Tr (S0.mp (v ▸ u.2:(a:Int)<((41:Nat):Int))))
theorem Qr:0<=i/\i<41->i=(a:Int)->b<a->b<100:=fun u v w=>Tj w (SN (S0.mp (v ▸ u.2:(a:Int)<((41:Nat):Int))) (by decide))
theorem Qq:a<=1000->a - 1<=100000:=fun u=>Sv (Nat.sub_le a 1) (Sv u (by decide))
theorem Qp:2<=a/\a<=60->0+a<=1000000:=fun u=>Sv (Td (Tg a)) (Sv u.2 (by decide))
theorem Qo:i<j->j<=i->False:=fun u v=>Int.not_le.mpr u v
theorem Qn:a<=900->0+a<=1000:=fun u=>by rw[Tg];exact Sv u (Sr rfl)
theorem Qm:0<=i/\i<12->i=(a:Int)->b<0+a->b+1+1<=1000:=fun u v w=>Sv (Tl (Nat.succ_le_of_lt (SN w (Sv (Td (Tg a)) (S3 (S0.mp (v ▸ u.2:(a:Int)<((12:Nat):Int)))))))) (by decide)
theorem Ql:0<=i/\i<12->i=(a:Int)->b<0+a->((b:Int)).natAbs<2^64:=fun u v w=>SN w (Sv (Td (Tg a)) (Sv (S3 (S0.mp (v ▸ u.2:(a:Int)<((12:Nat):Int)))) (by decide)))
theorem Qk:0<=i/\i<12->i=(a:Int)->a<=11:=fun u v=>Tr (S0.mp (v ▸ u.2:(a:Int)<((12:Nat):Int)))
theorem Qj:0<= -1+((a+1:Nat):Int):=by rw[Int.natCast_add,Int.add_comm,Int.add_assoc];exact SV (Tn a) (Int.le_of_eq (Int.add_zero _).symm)
theorem Mi:(-1+((a+1:Nat):Int)).toNat=a:=by rw[Int.natCast_add,Int.add_comm,Int.add_assoc];exact congrArg Int.toNat (Int.add_zero _)
theorem Qi:a<a+1:=Nat.lt_succ_self a
theorem Qh:1+a=a+1:=Nat.add_comm 1 a
theorem Qg:0<=i/\i<99999 - j->j+1+i<=99999:=fun u=>by rw[Int.add_assoc,Int.add_comm 1 i,Int.add_comm j];exact Int.add_le_of_le_sub_right (Int.add_one_le_of_lt u.2)
theorem Qf:0<=i/\i<99999 - j->j<j+1+i:=fun u=>SY (Int.lt_succ j) (Ti u.1)
theorem Qe:min 99999 (i+1+j)<=99999:=Tm 99999 (i+1+j)
theorem Qd:i<99999->0<=j/\j<7->i<min 99999 (i+1+j):=fun u v=>Int.lt_min.mpr ⟨u,SY (Int.lt_succ i) (Ti v.1)⟩
theorem Qb:0<=i/\i<4*10^29->1+i<=4*10^29:=fun u=>by rw[Int.add_comm];exact Int.add_one_le_of_lt u.2
theorem Qa:0<=i/\i<(a:Int) - 1->1+i.toNat<a:=fun u=>by rw[Nat.add_comm];exact S0.mp (by rw[Int.natCast_add,S4 u.1];exact Int.add_lt_of_lt_sub_right u.2)
theorem P_:0<=i/\i<(a:Int) - 1->1+i=((1+i.toNat:Nat):Int):=fun u=>by rw[Int.natCast_add,S4 u.1];rfl
theorem P9:0<=i/\i<(a:Int)->i.toNat=b->1+i=(b:Int)+1:=fun u v=>by rw[<-v,S4 u.1,Int.add_comm]
theorem P8:a<=60->0+a<=1000000:=fun u=>Sv (Td (Tg a)) (Sv u (by decide))
theorem P7:i+j=k->i+l=k+m->l - j=m:=fun u v=>by subst u;rw[Int.add_assoc] at v;rw[Int.add_left_cancel v,Int.add_comm,Int.add_sub_cancel]
theorem P6:0<i->j=i->j<=0->False:=fun u v w=>absurd (v ▸ w) (Int.not_le.mpr u)
theorem P5:i<j->k=i->j<=k->False:=fun u v w=>absurd (v ▸ w) (Int.not_le.mpr u)
theorem P0:0<=i/\i<(a:Int) - 1->1+i<(a:Int):=fun u=>by rw[Int.add_comm];exact Int.add_lt_of_lt_sub_right u.2
theorem PZ:0<=i/\i<(a:Int)->0<=j/\j<(a:Int)->i.toNat=j.toNat->i≠j->False:=fun u v w x=>x (by rw[<-S4 u.1,w,S4 v.1])
theorem PY:0<=i->¬i=0->1<=i:=fun u v=>Int.lt_iff_le_and_ne.mpr ⟨u,fun h=>v h.symm⟩
theorem PX:0<=i/\i<3->(i - 1).natAbs<2^64:=fun u=>(Int.le_total 0 (i - 1)).elim (fun h=>nA h (Int.lt_trans (Int.sub_lt_sub_right u.2 1) (by decide))) fun h=>Int.natAbs_neg (i - 1) ▸ nA (Int.neg_nonneg_of_nonpos h) (by rw[Int.neg_sub];exact SW (Int.sub_le_self 1 u.1) (by decide))
theorem PW:3*a+3=3*(a+1):=Eq.symm (Nat.mul_succ 3 a)
theorem PU:1<=i/\i<=4*10^29->j=0->0 - i - j≠0:=fun u v w=>by subst v;exact absurd (SV u.1 (Int.le_of_eq (Int.neg_eq_zero.mp (by rwa [Int.sub_zero,Int.zero_sub] at w)))) (by decide)
theorem PT:2<=a->2*b<=c->2*(b+1)<=c+a:=fun u v=>Nat.add_le_add v u
theorem PS:0<=i/\i<20->(1+i).toNat<=20:=fun u=>Int.toNat_le.mpr (by rw[Int.add_comm];exact Int.add_one_le_of_lt u.2)
theorem PR:a<0->i+(a:Int)*3<j:=fun u=>absurd u (Nat.not_lt_zero a)
theorem PQ:0<=i/\i<=500->i+(a:Int)*3=((i.toNat+a*3:Nat):Int):=fun u=>by obtain ⟨n,rfl⟩:=Int.eq_ofNat_of_zero_le u.1;rfl
theorem JN:0<=i/\i<=500->i+(a:Int)*3<min ((b:Int) - 2) j->i.toNat+a*3+2<b:=fun u v=>by obtain ⟨n,rfl⟩:=Int.eq_ofNat_of_zero_le u.1;exact S0.mp (Int.add_lt_of_lt_sub_right (SY v (Tm _ _)))
theorem PN:0<=i/\i<=500->i+(a:Int)*3<min ((b:Int) - 2) j->i.toNat+a*3+1<b:=fun u v=>Nat.lt_of_succ_lt (JN u v)
theorem Mh:a+(b+1)<=100->a+1<=1000:=fun u=>Sv (S5 (Tl (SQ b)) a) (Sv u (by decide))
theorem Mg:b+(a+1)<=100->b+1<=1000:=fun u=>Sv (S5 (Tl (SQ a)) b) (Sv u (by decide))
theorem PG:¬0<=i->0<=i+(a:Int)->(i+(a:Int)).toNat<a:=fun u v=>(Int.toNat_lt v).mpr (by have:=Int.add_lt_add_right (Int.not_le.mp u) (a:Int);rwa [Int.zero_add] at this)
theorem PE:i<0->i+(a:Int)<=(a:Int):=fun u=>SV (Int.add_le_add_right (Tk u) a) (Int.le_of_eq (Int.zero_add _))
theorem PD:((a:Int)+(b:Int)*1).toNat=a+b:=by rw[Int.mul_one];exact Int.toNat_natCast (a+b)
theorem PB:1≠a+1+1:=Nat.ne_of_beq_eq_false rfl
theorem PA:a+(b+1)<=7->c<b->a+(c+1)<7:=fun u v=>SN (Nat.add_lt_add_left (Nat.succ_lt_succ v) a) u
theorem Pz:a+(b+1)<=7->a+1+b<=7:=fun u=>Sv (Td (Nat.succ_add a b)) u
theorem Py:a+0<a+(b+1):=Nat.add_lt_add_left (Nat.succ_pos b) a
theorem Px:a=b->b<=7->0+a<=7:=fun u v=>Sv (Td ((Tg a).trans u)) v
theorem Pw:a=b->b<=7->c<0+a->c<7:=fun u v w=>SN w (Sv (Td ((Tg a).trans u)) v)
theorem Pv:a+8*b+150<c->a+1+8*b+144<c:=fun u=>by rw[Nat.add_right_comm a 1];exact SM (S5 (by decide:145<=150) _) u
theorem Pu:a+64*b+1000<c->d<=a+10->d+64*b+945<c:=fun u v=>SM (Sv (Nat.add_le_add_right (Nat.add_le_add_right v _) _) (by rw[Nat.add_right_comm a 10];exact S5 (by decide:955<=1000) _)) u
theorem Ps:a<7->a=b->c=b->d<0+c->d<7:=fun u v w x=>by subst v;subst w;rw[Tg] at x;exact Tj x u
theorem Pq:a=b->c=b->d<0+c->d=a->False:=fun u v w x=>by rw[x,v,u,Tg] at w;exact S7 _ w
theorem Pp:a<7->a=b->c=b->c<=999:=fun u v w=>by subst v;subst w;exact Sv (S3 u) (by decide)
theorem Po:a<7->a=b->b<=6:=fun u v=>v ▸ Tr u
theorem Pn: -2^63<=(a:Int):=Int.neg_ofNat_le_natCast (2^63) a
theorem Pm:(a:Int) - ((b:Int)+1)=(a:Int) - (b:Int) - 1:=Eq.symm (Int.sub_sub (↑a) (↑b) 1)
theorem Pk:a=b->(a:Int) - (b:Int)<=0:=fun u=>by rw[u,Int.sub_self];exact Int.le_refl 0
theorem Pj:a+8*(b+1)+144<c->a<c:=fun u=>SM (Sv (Th a _) (Th _ 144)) u
theorem Pi:a+8*(b+1)+144<c->a+1+8*b+150<c:=fun u=>SM (by rw[Nat.mul_succ,<-Nat.add_assoc,Nat.add_right_comm a 1];exact S5 (by decide:151<=152) _) u
theorem Ph:a+64*(b+1)+945<c->a+3+64*b+1000<c:=fun u=>SM (by rw[Nat.mul_succ,<-Nat.add_assoc,Nat.add_right_comm a 3];exact S5 (by decide:1003<=1009) _) u
theorem Pg:a+8*(b+1)+144<c->a+1+8*b+151<c:=fun u=>SM (by rw[Nat.mul_succ,<-Nat.add_assoc,Nat.add_right_comm a 1];exact Sy _) u
theorem Pf:a+64*(b+1)+945<c->a+3+64*b+1005<c:=fun u=>SM (by rw[Nat.mul_succ,<-Nat.add_assoc,Nat.add_right_comm a 3];exact S5 (by decide:1008<=1009) _) u
theorem Pd:a+b<=1048576->c<=a+d->d<=b*15->c<=2^24:=fun u v w=>Sv v (Sv (Nat.add_le_add (Sv (Th a b) u) (Sv w (Nat.mul_le_mul_right 15 (Sv (Nat.le_add_left b a) u)))) (by decide))
theorem Pb:a<=50->b=300->1+b+8*(a+1)+144<1000:=fun u v=>by subst v;exact SM (Nat.add_le_add_right (S5 (Tq 8 (Tl u)) _) _) (by decide)
theorem O':a<=2^24->¬a>(2^63 - 1) / 8:=fun u=>fun q=>absurd (SN q u) (by decide)
theorem O_:b<a+2->b<a+c+2:=fun u=>SN u (Nat.add_le_add_right (Th a c) 2)
theorem O9:a+b+2<=2^27->(c:Int)+(d:Int)>((2^27:Nat):Int)->c<=a+1->d<=b+1->False:=fun u v w x=>absurd (S0.mp v) (To.mpr (Sv (Nat.add_le_add w x) (Sv (Td (Nat.add_add_add_comm a 1 b 1)) u)))
theorem O8:1<=i/\i<=1000/\a=1->1*i<=2^63 - 1:=fun u=>by rw[Int.one_mul];exact SV u.2.1 (by decide)
theorem O7:¬(a:Int)+1=0:=Int.ne_of_gt (Int.lt_add_one_of_le (Tn a))
theorem O6:a+64*b+1000<c->a+64<c:=fun u=>SM (Nat.add_le_add (Th a _) (by decide)) u
theorem O5:a+(b+1)<=c->a+1+b<=c:=fun u=>Sv (Td (Nat.succ_add a b)) u
theorem O4:0<i->i<2^250->i.natAbs<2^250:=fun u v=>Int.natAbs_lt_natAbs_of_nonneg_of_lt (b:=2^250) (Tk u) v
theorem Mf:a=b->¬a<b:=fun u=>u ▸ S7 a
theorem O3:¬(0<=i/\i<=99999)->¬i<0->99999<i:=fun u v=>Int.not_le.mp fun q=>u ⟨Tp.mp v,q⟩
theorem O2:a+(b+1)<=100000->a+1+b<=100000:=fun u=>by rw[Nat.add_right_comm];exact u
theorem Me:a - b<=a - b:=Sy _
theorem Md:¬60<a->¬60<(a:Int):=fun u=>Tp.mpr (SZ.mpr (To.mp u))
theorem O0:¬a=b->(a:Int)≠(b:Int):=fun u=>fun h=>u (Int.ofNat.inj h)
theorem vP:a<=500->a<=1000:=fun u=>Sv (u) (Sr rfl)
theorem OZ:a=4->1<a:=fun u=>by subst u;decide
theorem OY:a=4->2<a:=fun u=>by subst u;decide
theorem OX:a=4->3<a:=fun u=>by subst u;decide
theorem JM:a<=b->b<=10000->(a:Int)<=100000000:=fun u v=>SV (SZ.mpr (Sv u v)) (by decide)
theorem Mc:8<=a->b<=6->b<a:=fun u v=>SM v (SN (Nat.lt_succ_self _) (Nat.le_of_succ_le u))
theorem OW:a - b=c+1->a=b+1+c:=fun u=>((Nat.sub_eq_iff_eq_add (S3 (Nat.lt_of_sub_pos (u ▸ Nat.succ_pos c)))).mp u).trans (by rw[Nat.add_comm,Nat.add_comm c,Nat.add_assoc])
theorem Mb:a<=9000->a=b+1+c->b<=100000:=fun u v=>Sv (Sv (v ▸ Sv (S8 _) (Th _ _)) u) (Sr rfl)
theorem OV:b+1<=b+1+a:=Th _ _
theorem OU:a<=9000->a=b+1+c->c<=9000:=fun u v=>Sv (v ▸ Nat.le_add_left _ _) u
theorem OT:a<=9000->a=b+1+c->0+min d c<=1000000:=fun u v=>Sv (Td (Tg _)) (Sv (Nat.min_le_right _ _) (Sv (v ▸ Nat.le_add_left _ _) (Sv u (Sr rfl))))
theorem OS:a=5->1<a:=fun u=>by subst u;decide
theorem OR:a=5->2<a:=fun u=>by subst u;decide
theorem OQ:a=5->3<a:=fun u=>by subst u;decide
theorem OP:a=5->4<a:=fun u=>by subst u;decide
theorem OO:a=3->1<a:=fun u=>by subst u;decide
theorem ON:a=3->2<a:=fun u=>by subst u;decide
theorem OM:a=2->1<a:=fun u=>by subst u;decide
theorem OL:a=b+1+c->(b:Int)<(a:Int):=fun v=>S0.mpr (v ▸ SN (Nat.lt_succ_self _) (Th _ _))
theorem OK:a<=b+(c+1)->a<=b+1+d+c:=fun u=>Sv u (by rw[Nat.add_right_comm b 1 d,Nat.add_assoc (b+d),Nat.add_comm 1];exact Nat.add_le_add_right (Th _ _) _)
theorem OJ:a<=0+a:=Nat.le_add_left _ _
theorem JL:a<=8000->a+1+1<=10000:=fun u=>Sv (Nat.add_le_add_right (Nat.add_le_add_right (u) _) _) (Sr rfl)
theorem OI:1<=1+a:=Th _ _
theorem OH:a=3->a<=32:=fun u=>by subst u;decide
theorem OG:0<=i->i<=99999->i.natAbs<10^31:=fun u v=>SN (nA (b:=100000) u (Int.lt_add_one_of_le v)) (by decide)
theorem BA:1<=i/\i<=10^9->i.natAbs<10^31:=fun u=>SN (nA (b:=1000000001) (SV (by decide) u.1) (Int.lt_add_one_of_le u.2)) (by decide)
theorem JK:a<=60->((a:Int)).natAbs<10^31:=fun u=>SM (show a<=60 from u) (by decide)
theorem OF:(a:Int)<=((a+b:Nat):Int):=SZ.mpr (Th _ _)
theorem JJ:1<=i/\i<=1000->i.natAbs<10^31:=fun u=>SN (nA (b:=1001) (SV (by decide) u.1) (Int.lt_add_one_of_le u.2)) (by decide)
theorem OE:b<=a+b:=Nat.le_add_left _ _
theorem Ma:a<=32->a<=40:=fun u=>Sv u (Sr rfl)
theorem OD:a<=12->b=3->4+(a+(b+0))+3<=149:=fun u v=>Sv (Nat.add_le_add_right (S5 (Nat.add_le_add (u) (Nat.add_le_add_right (Td v) _)) _) _) (Sr rfl)
theorem OC:a<=32->b<=32->c=3->4+(c+(a+(b+0)))+4<=149:=fun u v w=>Sv (Nat.add_le_add_right (S5 (Nat.add_le_add (Td w) (Nat.add_le_add (u) (Nat.add_le_add_right (v) _))) _) _) (Sr rfl)
theorem OB:a<=32->b<=32->5+(a+(b+0))+3<=149:=fun u v=>Sv (Nat.add_le_add_right (S5 (Nat.add_le_add (u) (Nat.add_le_add_right (v) _)) _) _) (Sr rfl)
theorem OA:a<=32->b<=32->c<=12->d<=12->e=3->f=3->6+(a+(c+(e+(b+(d+(f+0))))))+7<=149:=fun u v w x y z=>Sv (Nat.add_le_add_right (S5 (Nat.add_le_add (u) (Nat.add_le_add (w) (Nat.add_le_add (Td y) (Nat.add_le_add (v) (Nat.add_le_add (x) (Nat.add_le_add_right (Td z) _)))))) _) _) (Sr rfl)
theorem Oz:a<=32->4+(a+0)+2<=149:=fun u=>Sv (Nat.add_le_add_right (S5 (Nat.add_le_add_right (u) _) _) _) (Sr rfl)
theorem Oy:a<=61->b<=61*c->a+b<=61*(c+1):=fun u v=>by rw[Nat.mul_succ,Nat.add_comm];exact Nat.add_le_add v u
theorem Ox:a<=b->c<=d->c+(a+1)<=b+(d+1):=fun u v=>by rw[Nat.add_comm b,Nat.add_assoc,Nat.add_comm 1];exact Nat.add_le_add v (Tl u)
theorem L_:a+(b+1)<=5000->a+1+b<=5000:=fun u=>by rw[Nat.add_assoc,Nat.add_comm 1];exact u
theorem L9:a+b+1<=7->a<=6:=fun u=>Nat.le_of_succ_le_succ (Sv (Tl (Th _ _)) u)
theorem Ov:a=3->5+a<=1000:=fun u=>by subst u;decide
theorem JI:a+b<=9000->a+1<=20000:=fun u=>Sv (Nat.add_le_add_right (Sv (Th _ _) u) _) (Sr rfl)
theorem JH:a+b<=9000->a+1+b<=20000:=fun u=>Sv (Nat.add_le_add (Nat.add_le_add_right (Sv (Th _ _) u) _) (Sv (Nat.le_add_left _ _) u)) (Sr rfl)
theorem Ou:a+(b+1)<=4900->a+1+b<=5000:=fun u=>by rw[Nat.add_assoc,Nat.add_comm 1];exact Sv u (Sr rfl)
theorem Ot:a<=b+c->d+e+a<=d+e+b+c:=fun u=>by rw[Nat.add_assoc (d+e)];exact S5 u _
theorem Os:0<=i/\i<3->i.natAbs<2^64:=fun u=>SN (nA (b:=3) u.1 u.2) (by decide)
theorem Oq:0<=i->(-1 - i+(a:Int)).toNat=a - 1 - i.toNat:=fun u=>by obtain ⟨n,rfl⟩:=Int.eq_ofNat_of_zero_le u;rw[show -1 - (n:Int)+(a:Int)=(a:Int) - ((n+1:Nat):Int) by lia,Int.toNat_sub,Int.toNat_natCast,Nat.sub_sub,Nat.add_comm]
theorem Op:5 - 1 - i.toNat<5:=SM (Nat.sub_le _ _) (Sr rfl)
theorem Oo:0<=i/\i<3->i.toNat=0∨i.toNat=1∨i.toNat=2:=fun u=>(show ∀ k<3,k=0∨k=1∨k=2 by decide) _ ((Int.toNat_lt u.1).mpr u.2)
theorem On:2<=a->a=b->1<=b - 1:=fun u v=>Nat.le_sub_of_add_le (v ▸ u)
theorem Om:2<=a->a=b->b - 1<b:=fun u v=>Nat.sub_lt (SN Nat.zero_lt_two (v ▸ u)) Nat.one_pos
theorem Ol:2<=a->a=b->0<(b:Int):=fun u v=>S0.mpr (SN Nat.zero_lt_two (v ▸ u))
theorem Ok:2<=a->a=b->1<=b:=fun u v=>Nat.le_of_succ_le (v ▸ u)
theorem Oj:a<=190->a=b+(c+1)->b<=200:=fun u v=>Sv (v ▸ Th _ _) (Sv u (Sr rfl))
theorem JG:a<=4900->b+c+1=a->b+c<=9000:=fun u v=>Sv (S3 (v ▸ Nat.lt_succ_self _)) (Sv u (Sr rfl))
theorem Oi:i=99999->99999<=i:=fun u=>by subst u;decide
theorem L8:a=3->5+a+10<=300:=fun u=>by subst u;decide
theorem Oh:0<=i/\i<16->i=(a:Int)->a<16:=fun u v=>S0.mp (v ▸ u.2)
theorem Og:0<=i/\i<16->i=(a:Int)->a<=100000:=fun u v=>Sv (S3 (S0.mp (v ▸ u.2))) (Sr rfl)
theorem Of:0<=i/\i<(a:Int)->i=(b:Int)->b<a:=fun u v=>S0.mp (v ▸ u.2)
end
inductive D where
 |none
 |bool (b:Bool)
 |int (i:Int)
 |str (s:List Nat)
 |tup (l:List D)
 |lst (l:List D)
 |dct (ks vs:List D)
 |rng (a b c:Int)
 |exc (c:Nat)
inductive PV where
 |d (x:D)
 |p (n j:Nat)
inductive cD where
 |d (x:D)
 |list (l:List D)
 |dict (ks vs:List D)
inductive PO where
 |fld (f:cD)
 |rcd (i:Bool) (l:List cD)
 |dead
 |wrp (f:cD)
noncomputable abbrev aE:=List PO
noncomputable abbrev bj:=List (Option PV)
inductive R (α:Type) where
 |ok (a:α)
 |ex (c:Nat)
noncomputable abbrev PM (α:Type):=aE->Option (R α×aE)
inductive Out where
 |next (ρ:bj)
 |ret (v:PV)
 |ex (c:Nat) (ρ:bj)
section
variable {α β:Type}
noncomputable def ret (a:α):PM α:=fun σ=>some (.ok a,σ)
noncomputable def Lg (f:α->PM β):Option (R α×aE)->Option (R β×aE)
 |some (.ok a,σ)=>f a σ
 |some (.ex c,σ)=>some (.ex c,σ)
 |none=>none
noncomputable def bU (m:PM α) (f:α->PM β):PM β:=fun σ=>Lg f (m σ)
noncomputable def GN (o:Option α):PM α:=fun σ=>o.map fun a=>(.ok a,σ)
def Wp (K:R α->aE->Prop):Option (R α×aE)->Prop
 |some (r,σ)=>K r σ
 |none=>False
def bK (K:R β->aE->Prop) (f:α->PM β):R α->aE->Prop
 | .ok a,σ=>Wp K (f a σ)
 | .ex c,σ=>K (.ex c) σ
theorem aQ {K:R β->aE->Prop} {f:α->PM β}:∀ {o:Option (R α×aE)},Wp K (Lg f o)->Wp (bK K f) o
 |none,h=>h
 |some (.ok _,_),h=>h
 |some (.ex _,_),h=>h
theorem fO {K:R α->aE->Prop} {σ:aE}:∀ {o:Option α},Wp K (o.map fun a=>(.ok a,σ))->∃ a,o=some a/\K (.ok a) σ
 |none,h=>h.elim
 |some a,h=>⟨a,rfl,h⟩
end
noncomputable def dZ:Nat:=2^24
noncomputable def cD.toD:cD->D
 | .d x=>x
 | .list l=>.lst l
 | .dict ks vs=>.dct ks vs
noncomputable def PO.at:PO->Nat->Option cD
 | .fld f,0=>some f
 | .rcd _ l,j+2=>l[j]?
 | .wrp f,2=>some f
 |_,_=>none
noncomputable def PO.put:PO->Nat->cD->PO
 | .fld _,_,f=>.fld f
 | .rcd i l,j,f=>.rcd i (l.set (j - 2) f)
 | .dead,_,_=>.dead
 | .wrp _,_,f=>.wrp f
noncomputable def b_ (σ:aE) (n j:Nat):Option cD:=(σ[n]?).bind fun o=>o.at j
noncomputable def dX (σ:aE) (n j:Nat) (f:cD):aE:=match σ[n]? with
 |some o=>σ.set n (o.put j f)
 |none=>σ
noncomputable def cD.rd:cD->Option D
 | .d _=>none
 | .list l=>some (.lst l)
 | .dict ks vs=>some (.dct ks vs)
noncomputable def rd (σ:aE):PV->Option D
 | .d x=>some x
 | .p n j=>(b_ σ n j).bind cD.rd
noncomputable def mZ:PV->Option D
 | .d x=>some x
 | .p _ _=>none
noncomputable def sG:List PV->Option (List D)
 |[]=>some []
 |v::r=>(mZ v).bind fun x=>(sG r).map (x::·)
noncomputable def jo (o:PO):PM PV:=fun σ=>some (.ok (.p σ.length 0),σ++[o])
set_option genCtorIdx false
structure c9 where
 Φ:Bool->Nat->List PV->PM PV
 hd:Bool
noncomputable def c9.up (K:c9):c9:=⟨K.Φ,true⟩
noncomputable def mL (a b:Int):Bool:=decide (a.natAbs<2^64)||decide (b.natAbs<2^64)||decide (a.natAbs.log2+b.natAbs.log2+2<=2^27)
noncomputable def ow (b:Int):Bool:=b !=0&&decide (b.natAbs<2^9000)
noncomputable def bA (i:Int):Bool:=decide (-(2^62)<i)&&decide (i<2^62)
noncomputable def cZ (i:Int) (n:Nat):Option Nat:=
 if 0<=i then (if i<n then some i.toNat else none) else if 0<=i+n then some (i+n).toNat else none
noncomputable def cY (i:Int) (n:Nat):Nat:=if i<0 then (i+n).toNat else min i.toNat n
noncomputable def bC {α:Type} (l:List α) (lo hi:Nat):List α:=(l.drop lo).take (hi - lo)
noncomputable def DG {α:Type} (l:List α):Nat->List α
 |0=>[]
 |n+1=>l++DG l n
noncomputable def iD:D->Option Int
 | .int i=>some i
 |_=>none
noncomputable def bD:D->Option Bool
 | .bool b=>some b
 |_=>none
noncomputable def sD:D->Option (List Nat)
 | .str s=>some s
 |_=>none
noncomputable def tD:D->Option (List D)
 | .tup l=>some l
 |_=>none
noncomputable def lD:D->Option (List D)
 | .lst l=>some l
 |_=>none
noncomputable def ax {α:Type} (c:Prop) [Decidable c] (a:α):Option α:=if c then some a else none
noncomputable def wJ:D->Bool
 | .int _=>true
 | .str _=>true
 |_=>false
noncomputable def cP (a b c:Int):Nat:=if a<b then ((b - a - 1) / c+1).toNat else 0
noncomputable def items:D->Option (List D)
 | .tup l=>some l
 | .lst l=>ax (l.length<=dZ) l
 | .str s=>ax (s.length<=dZ) (s.map fun c=>.str [c])
 | .rng a b c=>ax ((bA a&&bA b&&decide (0<c)&&decide (c<1000)&&decide (cP a b c<=100000))=true) ((List.range (cP a b c)).map fun (i:Nat)=>.int (a+(i:Int)*c))
 | .dct ks _=>ax (ks.length<=100000/\ks.all wJ=true) ks
 |_=>none
open Classical in
noncomputable def bP (σ:aE) (x:D):PV->Bool
 | .d _=>true
 |v=>decide (rd σ v=some x)
noncomputable def fe (v:PV) (x:D) (i:Nat) (body:bj->aE->Option (Out×aE)):List D->bj->aE->Option (Out×aE)
 |[],ρ,σ=>some (.next ρ,σ)
 |y::r,ρ,σ=>match body (ρ.set i (some (.d y))) σ with
  |some (.next ρ',σ')=>if bP σ' x v then fe v x i body r ρ' σ' else none
  |z=>z
noncomputable def dy (v:PV) (x:D) (i:Nat) (test:bj->PM Bool) (bT:bj->PM PV) (ρ:bj):List D->List D->PM (List D)
 |[],acc=>ret acc
 |y::r,acc=>fun σ=>match test (ρ.set i (some (.d y))) σ with
  |some (.ok false,σ')=>if bP σ' x v then dy v x i test bT ρ r acc σ' else none
  |some (.ok true,σ')=>(match bT (ρ.set i (some (.d y))) σ' with
   |some (.ok (.d z),σ'')=>if bP σ'' x v/\acc.length<dZ then dy v x i test bT ρ r (acc++[z]) σ'' else none
   |some (.ex c,σ'')=>some (.ex c,σ'')
   |_=>none)
  |_=>none
noncomputable def cO {α:Type} (ρ:bj) (m:PM α) (k:α->aE->Option (Out×aE)):aE->Option (Out×aE):=fun σ=>match m σ with
 |some (.ok v,σ')=>k v σ'
 |some (.ex n,σ')=>some (.ex n ρ,σ')
 |none=>none
noncomputable def og (z:Option (Out×aE)) (k:bj->aE->Option (Out×aE)):Option (Out×aE):=match z with
 |some (.next ρ,σ)=>k ρ σ
 |z=>z
noncomputable def Br (keep:Bool) (n:Nat) (σ:aE):Nat->Option PO->Option (R PV×aE)
 |0,some (.fld f)=>(match keep with
  |false=>some (.ok (.d f.toD),σ.take n)
  |true=>some (.ok (.p n 0),σ.take n++[.fld f]))
 |0,some o=>some (.ok (.p n 0),σ.take n++[o])
 |_,_=>none
noncomputable def Jv (keep:Bool) (n:Nat):PV->aE->Option (R PV×aE)
 | .d x,σ=>some (.ok (.d x),σ.take n)
 | .p m j,σ=>if m<n then some (.ok (.p m j),σ.take n) else Br keep n σ j σ[m]?
noncomputable def E5 (keep:Bool) (n:Nat):Option (Out×aE)->Option (R PV×aE)
 |some (.next _,σ')=>some (.ok (.d .none),σ'.take n)
 |some (.ret v,σ')=>Jv keep n v σ'
 |some (.ex c _,σ')=>some (.ex c,σ'.take n)
 |none=>none
end Mine.Internal
namespace Mine.Internal
open PySem PyProof.Rows
variable {a:Addr} {o:Obj} {v:Value} {c:Const} {j n n' t:Nat} {G:List (Addr×Obj)} {e z:Expr} {σ:aE} {α:Type} {po:PO}
structure Fm where
 L:Addr
 m:Str->Option Value
 cells:List Addr
 cv:Addr->Option Value
noncomputable def Fm.adr (f:Fm):List Addr:=f.L::f.cells
def Fm.like (f g:Fm):Prop:=g.L=f.L/\g.cells=f.cells
theorem Fm.like.refl (f:Fm):f.like f:=⟨rfl,rfl⟩
theorem Fm.like.trans {f g k:Fm} (a:f.like g) (b:g.like k):f.like k:=⟨b.1.trans a.1,b.2.trans a.2⟩
structure PF where
 params:Nat
 slots:Nat
 keep:Bool
 body:c9->bj->aE->Option (Out×aE)
noncomputable def Jr (K:c9) (f:PF) (args:List PV):PM PV:=fun σ=>
 if args.length=f.params then E5 f.keep σ.length (f.body K (args.map some++List.replicate (f.slots - f.params) none) σ) else none
noncomputable def lB (T:Nat->Option PF):Nat->Bool->Nat->List PV->PM PV
 |0,_,_,_=>fun _=>none
 |d+1,hd,f,args=>match T f with
  |some pf=>Jr ⟨lB T d,hd⟩ pf args
  |none=>fun _=>none
structure CY where
 c:Addr
 P:Addr
 pos:Pos
 qual:Str
structure bF where
 prog:Program
 w:World
 H:Heap
 book:Addr
 exc:Nat->Addr
 K:List (Addr×Obj)
 mg:Str->Option Value
 mb:Str->Option Value
 fnm:Nat->Str×Bool
 fadr:Nat->Addr
 att:Nat->Str
 key:Nat->Str
 gls:List (Str×(Option Int×List Nat))
 T:Nat->Option PF
 lam:Option CY
variable {C:bF}
noncomputable abbrev bF.M (C:bF):Model:=model C.prog C.w
noncomputable abbrev dA (vs:List Value) (n:Nat):Obj:={cls:=.type "tuple",data:=.seq vs.toArray n}
noncomputable abbrev bp (vs:List Value) (n:Nat):Obj:={cls:=.type "list",data:=.seq vs.toArray n}
structure Nm where
 n:Nat
 d:Option Addr
 sl:Array (Option Value)
noncomputable abbrev sj (vs:List Value) (r:Nm):Obj:={cls:=.type "list",dict:=r.d,data:=.seq vs.toArray r.n,slots:=r.sl}
noncomputable abbrev DB (a b c:Int) (t u v:Tok):Obj:={cls:=.type "range",data:=.fields #[.int a t,.int b u,.int c v]}
noncomputable abbrev nJ (c d:Addr):Obj:={cls:=.ref c,dict:=some d,data:=.plain}
noncomputable abbrev ef (es:List DictEntry) (n:Nat):Obj:={cls:=.type "dict",data:=.dict es.toArray n}
set_option genCtorIdx true in
inductive dt where
 |no
 |fz (o:Obj)
 |cell (n j:Nat)
 |gh
 |fr
variable {x:dt}
noncomputable abbrev bJ:=Addr->dt
variable {w:bJ}
def jN (s:List Nat):Prop:=(∀ c∈s,c<0x110000)/\s.length<=dZ
noncomputable abbrev b7 (s:List Nat):Str:=⟨s.toArray⟩
structure KD (C:bF) where
 K:Type
 dec:DecidableEq K
 knd:KeyKind C.prog C.w K
 toD:K->D
 ok:K->Prop
inductive xi (C:bF):KD C->Prop
 |str:xi C ⟨Str,inferInstance,strKind C.prog C.w,fun s=>.str s.cps.toList,fun s=>jN s.cps.toList⟩
 |int:xi C ⟨Int,inferInstance,intKind C.prog C.w,fun i=>.int i,fun _=>True⟩
def xh (C:bF) (w:bJ) (ks:List Str) (a:Addr):Prop:=∃ vs n,w a= .fz (dA vs n)/\ItemsAre (strKind C.prog C.w) ks vs/\ks.length=2/\∀ s∈ks,jN s.cps.toList
noncomputable def Q9 (ks:List Str):D:=.tup (ks.map fun s=>.str s.cps.toList)
inductive gQ (C:bF) (w:bJ) (o:Obj) (ks:List D) (vs:List Value):Prop
 |mk (k:KD C) (l:List (k.K×Value)):xi C k->(letI:=k.dec;o.IsDictOf k.knd l)->ks=l.map (fun p=>k.toD p.1)->vs=l.map (·.2)->(∀ p∈l,k.ok p.1)->gQ C w o ks vs
 |pr (xs:List (List Str×Addr×Value)) (es:Array DictEntry) (ep:Nat):o.ExactDict->o.data= .dict es ep->es.toList=xs.map (entryOfKey (tupleKind (strKind C.prog C.w)))->(∀ x∈xs,xh C w x.1 x.2.1)->(xs.map (·.1)).Nodup->ks=xs.map (fun x=>Q9 x.1)->vs=xs.map (·.2.2)->xs≠[]->gQ C w o ks vs
mutual
inductive RD (C:bF) (w:bJ):D->Value->Prop
 |none:RD C w .none .none
 |bool (b:Bool):RD C w (.bool b) (.bool b)
 |int (i:Int) (t:Tok):RD C w (.int i) (.int i t)
 |str (s:List Nat) (t:Tok):jN s->RD C w (.str s) (.str (b7 s) t)
 |tup {a:Addr} {vs:List Value} {n:Nat} {ps:List D}:w a= .fz (dA vs n)->RDs C w ps vs->RD C w (.tup ps) (.ref a)
 |lst {a:Addr} {vs:List Value} {n:Nm} {ps:List D}:w a= .fz (sj vs n)->RDs C w ps vs->RD C w (.lst ps) (.ref a)
 |dct {a:Addr} {o:Obj} {vs:List Value} {ks ps:List D}:w a= .fz o->gQ C w o ks vs->RDs C w ps vs->RD C w (.dct ks ps) (.ref a)
 |rng {r:Addr} (a b c:Int) (t u v:Tok):w r= .fz (DB a b c t u v)->RD C w (.rng a b c) (.ref r)
 |exc {a:Addr} {o:Obj} {c:Nat} (vs:Array Value):w a= .fz o->o.cls= .ref (C.exc c)->o.data= .fields vs->RD C w (.exc c) (.ref a)
inductive RDs (C:bF) (w:bJ):List D->List Value->Prop
 |nil:RDs C w [] []
 |cons {p:D} {v:Value} {ps:List D} {vs:List Value}:RD C w p v->RDs C w ps vs->RDs C w (p::ps) (v::vs)
end
section
variable {w':bJ}
abbrev Fz (w w':bJ):Prop:=∀ a o,w a= .fz o->w' a= .fz o
theorem xh.ext (x:Fz w w') {ks:List Str}:xh C w ks a->xh C w' ks a
 |⟨vs,n,h,r⟩=>⟨vs,n,x _ _ h,r⟩
theorem gQ.ext (x:Fz w w') {ks:List D} {vs:List Value}:gQ C w o ks vs->gQ C w' o ks vs
 | .mk k l a b c d e=>.mk k l a b c d e
 | .pr xs es ep a b c d e f g h=>.pr xs es ep a b c (fun y hy=>(d y hy).ext x) e f g h
theorem RD.ext (x:Fz w w') {p:D} (h:RD C w p v):RD C w' p v:=
 RD.rec (motive_1:=fun p v _=>RD C w' p v) (motive_2:=fun p v _=>RDs C w' p v) .none .bool .int .str (fun h _ r=>.tup (x _ _ h) r) (fun h _ r=>.lst (x _ _ h) r) (fun h d _ r=>.dct (x _ _ h) (d.ext x) r) (fun a b c t u v h=>.rng a b c t u v (x _ _ h)) (fun vs h a b=>.exc vs (x _ _ h) a b) .nil (fun _ _ h r=>.cons h r) h
theorem RDs.ext (x:Fz w w') {p:List D} {v:List Value} (h:RDs C w p v):RDs C w' p v:=
 RDs.rec (motive_1:=fun p v _=>RD C w' p v) (motive_2:=fun p v _=>RDs C w' p v) .none .bool .int .str (fun h _ r=>.tup (x _ _ h) r) (fun h _ r=>.lst (x _ _ h) r) (fun h d _ r=>.dct (x _ _ h) (d.ext x) r) (fun a b c t u v h=>.rng a b c t u v (x _ _ h)) (fun vs h a b=>.exc vs (x _ _ h) a b) .nil (fun _ _ h r=>.cons h r) h
inductive n9 {ι:Type} (C:bF) (w:bJ) (mk:List Value->ι->Obj) (ps:List D):Value->Prop
 |mk {a:Addr} {vs:List Value} {n:ι}:w a= .fz (mk vs n)->RDs C w ps vs->n9 C w mk ps (.ref a)
inductive Ip (C:bF) (w:bJ) (ks ps:List D):Value->Prop
 |mk {a:Addr} {o:Obj} {vs:List Value}:w a= .fz o->gQ C w o ks vs->RDs C w ps vs->Ip C w ks ps (.ref a)
inductive Lr (w:bJ) (a b c:Int):Value->Prop
 |mk {r:Addr} (t u v:Tok):w r= .fz (DB a b c t u v)->Lr w a b c (.ref r)
inductive Io (C:bF) (w:bJ) (c:Nat):Value->Prop
 |mk {a:Addr} {o:Obj}:w a= .fz o->o.cls= .ref (C.exc c)->Io C w c (.ref a)
def Nl (C:bF) (w:bJ) (v:Value):D->Prop
 | .none=>v= .none
 | .bool b=>v= .bool b
 | .int i=>∃ t,v= .int i t
 | .str s=>jN s/\∃ t,v= .str (b7 s) t
 | .tup ps=>n9 C w dA ps v
 | .lst ps=>n9 C w sj ps v
 | .dct ks ps=>Ip C w ks ps v
 | .rng a b c=>Lr w a b c v
 | .exc c=>Io C w c v
theorem RD.view {p:D} (h:RD C w p v):Nl C w v p:=by
 cases h with
 |none=>rfl
 |bool b=>rfl
 |int i t=>exact ⟨t,rfl⟩
 |str s t h=>exact ⟨h,t,rfl⟩
 |tup h r=>exact .mk h r
 |lst h r=>exact .mk h r
 |dct h d r=>exact .mk h d r
 |rng a b c t u v h=>exact .mk t u v h
 |exc vs h a b=>exact .mk h a
inductive hO (C:bF) (w:bJ) (p:D) (ps:List D):List Value->Prop
 |mk {v:Value} {vs:List Value}:RD C w p v->RDs C w ps vs->hO C w p ps (v::vs)
def Nk (C:bF) (w:bJ) (vs:List Value):List D->Prop
 |[]=>vs=[]
 |p::ps=>hO C w p ps vs
theorem RDs.view {ps:List D} {vs:List Value} (h:RDs C w ps vs):Nk C w vs ps:=by
 cases h with
 |nil=>rfl
 |cons h r=>exact .mk h r
theorem RDs.length:∀ {ps:List D} {vs:List Value},RDs C w ps vs->vs.length=ps.length:=by
 intro ps
 induction ps with
 |nil=>
  intro vs h;rw[show vs=[] from h.view];rfl
 |cons p ps ih=>
  intro vs h;obtain ⟨_,r⟩:hO C w p ps vs:=h.view;exact congrArg Nat.succ (ih r)
theorem RDs.append:∀ {ps qs:List D} {vs ws:List Value},RDs C w ps vs->RDs C w qs ws->RDs C w (ps++qs) (vs++ws):=by
 intro ps
 induction ps with
 |nil=>
  intro _ vs _ h k;rw[show vs=[] from h.view];exact k
 |cons p ps ih=>
  intro _ vs _ h k;obtain ⟨h1,r⟩:hO C w p ps vs:=h.view;exact .cons h1 (ih r k)
theorem RDs.get:∀ {ps:List D} {vs:List Value},RDs C w ps vs->∀ {k:Nat} {p:D},ps[k]? =some p->∃ v,vs[k]? =some v/\RD C w p v:=by
 intro ps
 induction ps with
 |nil=>
  intro _ _ _ _ e;exact nomatch e
 |cons p ps ih=>
  intro vs h k q e;obtain ⟨h1,r⟩:hO C w p ps vs:=h.view;cases k with
  |zero=>cases e;exact ⟨_,rfl,h1⟩
  |succ k=>exact ih r (k:=k) e
theorem RDs.set:∀ {ps:List D} {vs:List Value},RDs C w ps vs->∀ {k:Nat} {p:D} {v:Value},RD C w p v->RDs C w (ps.set k p) (vs.set k v):=by
 intro ps
 induction ps with
 |nil=>
  intro vs h _ _ _ _;rw[show vs=[] from h.view];exact .nil
 |cons p ps ih=>
  intro vs h k q v e;obtain ⟨h1,r⟩:hO C w p ps vs:=h.view;cases k with
  |zero=>exact .cons e r
  |succ k=>exact .cons h1 (ih r e)
theorem RDs.drop:∀ {ps:List D} {vs:List Value},RDs C w ps vs->∀ k:Nat,RDs C w (ps.drop k) (vs.drop k)
 |ps,vs,h,0=>h
 |[],vs,h,k+1=>by rw[show vs=[] from h.view];exact .nil
 |p::ps,vs,h,k+1=>by
  obtain ⟨h,r⟩:hO C w p ps vs:=h.view;exact r.drop k
theorem RDs.take:∀ {ps:List D} {vs:List Value},RDs C w ps vs->∀ k:Nat,RDs C w (ps.take k) (vs.take k)
 |ps,vs,h,0=>.nil
 |[],vs,h,k+1=>by rw[show vs=[] from h.view];exact .nil
 |p::ps,vs,h,k+1=>by
  obtain ⟨h1,r⟩:hO C w p ps vs:=h.view;exact .cons h1 (r.take k)
end
def RF (C:bF) (w:bJ) (o:Obj):cD->Prop
 | .d _=>False
 | .list ps=>∃ vs n,o=bp vs n/\RDs C w ps vs
 | .dict ks ps=>∃ vs,gQ C w o ks vs/\RDs C w ps vs
inductive kE (C:bF) (w:bJ) (h:Heap) (n j:Nat) (f:cD):Value->Prop
 |mk {a:Addr} {o:Obj}:w a= .cell n j->h.get? a=some o->RF C w o f->kE C w h n j f (.ref a)
def FA (C:bF) (w:bJ) (h:Heap) (n i:Nat) (v:Value):cD->Prop
 | .d x=>RD C w x v
 | .list l=>kE C w h n (i+2) (.list l) v
 | .dict ks ps=>kE C w h n (i+2) (.dict ks ps) v
def rO (C:bF) (es:List DictEntry):Prop:=∀ i e,es[i]? =some e->(∃ t,e.key= .str (C.att i) t)/\e.hash=PyData.keyHash C.w.params (C.att i)
inductive jv (C:bF) (w:bJ) (h:Heap) (n:Nat) (l:List cD):Prop
 |mk {x d:Addr} {es:List DictEntry} {k:Nat}:w x= .cell n 0->h.get? x=some (nJ C.book d)->w d= .cell n 1->h.get? d=some (ef es k)->rO C es->es.length=l.length->l.length<=7->
  (∀ i f e,l[i]? =some f->es[i]? =some e->FA C w h n i e.val f)->jv C w h n l
inductive rY (C:bF) (w:bJ) (h:Heap) (n:Nat) (l:List cD):Prop
 |mk {d:Addr} {o:Obj} {kvs:List (Str×Value)}:w d= .cell n 0->h.get? d=some o->o.IsDictOf (strKind C.prog C.w) kvs->kvs.length=l.length->l.length<=100->(∀ i p,kvs[i]? =some p->p.1=C.key i)->
  (∀ i f p,l[i]? =some f->kvs[i]? =some p->FA C w h n i p.2 f)->rY C w h n l
def RO (C:bF) (w:bJ) (h:Heap) (n:Nat):PO->Prop
 | .fld f=>∃ v,kE C w h n 0 f v
 | .rcd true l=>jv C w h n l
 | .rcd false l=>rY C w h n l
 | .dead=>True
 | .wrp f=>∃ t vs k v,w t= .cell n 0/\h.get? t=some (dA vs k)/\vs[2]? =some v/\kE C w h n 2 f v
structure Pt where
 s:Shared
 fs:List Fm
 own:bJ
 G:List (Addr×Obj)
 σ:aE
variable {P:Pt}
noncomputable abbrev Pt.h (P:Pt):Heap:=P.s.heap
def PO.has (j:Nat):PO->Prop
 | .fld _=>j=0
 | .rcd _ l=>j<l.length+2
 | .dead=>True
 | .wrp _=>j<3
def d8 (σ:aE) (n j:Nat):Prop:=∃ o,σ[n]? =some o/\o.has j
def RV (C:bF) (P:Pt) (v:Value):PV->Prop
 | .d x=>RD C P.own x v
 | .p n j=>d8 P.σ n j/\∀ a,P.own a= .cell n j->v= .ref a
inductive mj (C:bF) (P:Pt):List PV->List Value->Prop
 |nil:mj C P [] []
 |cons {p:PV} {v:Value} {ps:List PV} {vs:List Value}:RV C P v p->mj C P ps vs->mj C P (p::ps) (v::vs)
structure Im (C:bF) (h:Heap) (w:bJ) (fs:List Fm):Prop where
 ns:∀ f∈fs,h.Ns f.L f.m/\w f.L= .fr/\C.H.objs.size<=f.L
 cl:∀ f∈fs,∀ c∈f.cells,h.IsCell c (f.cv c)/\w c= .fr/\f.L<c
 ord:fs.Pairwise fun f g=>∀ a∈g.adr,a<f.L
 all:∀ a,w a= .fr->∃ f∈fs,a∈f.adr
noncomputable abbrev vw (ps:Array Value):Obj:={cls:=.none,data:=.fields ps}
def NS (h:Heap) (w:bJ) (G:List (Addr×Obj)) (a:Addr) (o:Obj):Prop:=h.get? a=some o/\w a= .gh/\∀ p∈G,p.1≠a
def A2 (h:Heap) (w:bJ) (G:List (Addr×Obj)) (l:CY):Prop:=NS h w G l.P (vw #[])∨∃ c oc vs t,NS h w G l.P (vw #[rawInt l.pos.line,rawInt l.pos.col,.ref c])/\w c= .fz oc/\oc.data= .fields vs/\vs[1]? =some (.str l.qual t)
structure Il (l:Option CY) (h:Heap) (w:bJ) (G:List (Addr×Obj)):Prop where
 at_:∀ p∈G,h.get? p.1=some p.2/\w p.1= .gh
 nd:(G.map (·.1)).Nodup
 tab:∀ z,l=some z->A2 h w G z
structure aR (C:bF) (P:Pt):Prop where
 base:∀ b o,C.H.get? b=some o->P.h.get? b=some o/\P.own b= .no
 fz:∀ a o,P.own a= .fz o->P.h.get? a=some o
 live:∀ a,P.own a≠ .no->∃ o,P.h.get? a=some o
 fr:Im C P.h P.own P.fs
 gh:Il C.lam P.h P.own P.G
 one:∀ a b n j,P.own a= .cell n j->P.own b= .cell n j->a=b
 bd:∀ a n j,P.own a= .cell n j->d8 P.σ n j
 obj:∀ n o,P.σ[n]? =some o->RO C P.own P.h n o
def rW (s s':Shared):Prop:=∃ h tk,s'={s with heap:=h,toks:=tk}
theorem rW.refl (s:Shared):rW s s:=⟨s.heap,s.toks,rfl⟩
theorem rW.trans {s s' s'':Shared} (a:rW s s') (b:rW s' s''):rW s s'':=by
 obtain ⟨_,_,rfl⟩:=a;obtain ⟨h',tk',rfl⟩:=b;exact ⟨h',tk',rfl⟩
structure Ext (P P':Pt):Prop where
 sm:rW P.s P'.s
 G:P'.G=P.G
 fz:Fz P.own P'.own
 val:∀ n j,d8 P.σ n j->d8 P'.σ n j
 cell:∀ n j a,d8 P.σ n j->P'.own a= .cell n j->P.own a= .cell n j
structure cj (P P':Pt):Prop extends Ext P P' where
 fs:P'.fs=P.fs
inductive sK:List Fm->List Fm->Prop
 |mk {f f':Fm} {r:List Fm}:f.like f'->sK (f::r) (f'::r)
structure fu (P P':Pt):Prop extends Ext P P' where
 fs:sK P.fs P'.fs
section
variable {P' P'':Pt}
theorem Ext.refl (P:Pt):Ext P P:=⟨.refl _,rfl,fun _ _ h=>h,fun _ _ h=>h,fun _ _ _ _ h=>h⟩
theorem Ext.trans (a:Ext P P') (b:Ext P' P''):Ext P P'':=
 ⟨a.sm.trans b.sm,b.G.trans a.G,fun x o h=>b.fz x o (a.fz x o h),fun n j h=>b.val n j (a.val n j h),fun n j x h k=>a.cell n j x h (b.cell n j x (a.val n j h) k)⟩
theorem cj.refl (P:Pt):cj P P:=⟨.refl P,rfl⟩
theorem cj.trans (a:cj P P') (b:cj P' P''):cj P P'':=⟨a.toExt.trans b.toExt,b.fs.trans a.fs⟩
theorem sK.trans {a b c:List Fm}:sK a b->sK b c->sK a c:=fun h g=>by
 obtain ⟨x⟩:=h;obtain ⟨y⟩:=g;exact ⟨x.trans y⟩
theorem fu.trans (a:fu P P') (b:fu P' P''):fu P P'':=⟨a.toExt.trans b.toExt,a.fs.trans b.fs⟩
theorem fu.grow (a:fu P P') (b:cj P' P''):fu P P'':=⟨a.toExt.trans b.toExt,b.fs ▸ a.fs⟩
theorem RV.ext (x:Ext P P'):∀ {p:PV},RV C P v p->RV C P' v p
 | .d _,h=>RD.ext x.fz h
 | .p n j,h=>⟨x.val n j h.1,fun a e=>h.2 a (x.cell n j a h.1 e)⟩
theorem mj.ext (x:Ext P P') {p:List PV} {v:List Value} (h:mj C P p v):mj C P' p v:=by
 induction h with
 |nil=>exact .nil
 |cons h _ ih=>exact .cons (h.ext x) ih
end
section
variable {P':Pt} {w':bJ} {h h':Heap}
theorem RF.ext (x:Fz w w'):∀ {f:cD},RF C w o f->RF C w' o f:=by
 intro Z0 Z2;cases Z0 with
 |d _=>exact Z2
 |list _=>
  obtain ⟨vs,n,e,r⟩:=Z2;exact ⟨vs,n,e,r.ext x⟩
 |dict _ _=>
  obtain ⟨vs,e,r⟩:=Z2;exact ⟨vs,e.ext x,r.ext x⟩
theorem kE.mv {f:cD} (x:Fz w w') (k:∀ b j o,w b= .cell n j->h.get? b=some o->w' b= .cell n' j/\h'.get? b=some o):kE C w h n j f v->kE C w' h' n' j f v:=fun h=>by
 obtain ⟨a,b,c⟩:=h;exact ⟨(k _ _ _ a b).1,(k _ _ _ a b).2,c.ext x⟩
theorem FA.mv {i:Nat} (x:Fz w w') (k:∀ b j o,w b= .cell n j->h.get? b=some o->w' b= .cell n' j/\h'.get? b=some o):∀ {f:cD},FA C w h n i v f->FA C w' h' n' i v f
 | .d _,r=>RD.ext x r
 | .list _,r=>kE.mv x k r
 | .dict _ _,r=>kE.mv x k r
theorem RO.mv (x:Fz w w') (k:∀ b j o,w b= .cell n j->h.get? b=some o->w' b= .cell n' j/\h'.get? b=some o):∀ {o:PO},RO C w h n o->RO C w' h' n' o:=by
 intro o r;cases o with
 |fld _=>
  obtain ⟨v,r⟩:=r;exact ⟨v,r.mv x k⟩
 |rcd b l=>
  cases b with
  |true=>
   obtain ⟨a,b,c,d,e,f,g,z⟩:jv C w h n l:=r;exact jv.mk (k _ _ _ a b).1 (k _ _ _ a b).2 (k _ _ _ c d).1 (k _ _ _ c d).2 e f g fun i y u p q=>FA.mv x k (z i y u p q)
  |false=>
   obtain ⟨a,b,c,d,e,f,z⟩:rY C w h n l:=r;exact rY.mk (k _ _ _ a b).1 (k _ _ _ a b).2 c d e f fun i y u p q=>FA.mv x k (z i y u p q)
 |dead=>trivial
 |wrp _=>
  obtain ⟨t,vs,q,v,a,b,c,r⟩:=r;exact ⟨t,vs,q,v,(k _ _ _ a b).1,(k _ _ _ a b).2,c,r.mv x k⟩
theorem Im.mv {fs:List Fm} (F:Im C h w fs) (k:∀ b o,w b= .fr->h.get? b=some o->w' b= .fr/\h'.get? b=some o) (k':∀ b,w' b= .fr->w b= .fr):Im C h' w' fs:=by
 refine ⟨fun f hf=> ?_,fun f hf c hc=> ?_,F.ord,fun a e=>F.all a (k' a e)⟩
 .obtain ⟨⟨o,es,ep,ho,r⟩,e,z⟩:=F.ns f hf;exact ⟨⟨o,es,ep,(k _ _ e ho).2,r⟩,(k _ _ e ho).1,z⟩
 .obtain ⟨⟨o,ho,r⟩,e,z⟩:=F.cl f hf c hc;exact ⟨⟨o,(k _ _ e ho).2,r⟩,(k _ _ e ho).1,z⟩
theorem A2.map {G':List (Addr×Obj)} {z:CY} (x:Fz w w') (k:∀ a o,NS h w G a o->NS h' w' G' a o):A2 h w G z->A2 h' w' G' z:=fun h=>by
 rcases h with a|⟨c,oc,vs,t,a,b,r⟩
 .exact .inl (k _ _ a)
 .exact .inr ⟨c,oc,vs,t,k _ _ a,x _ _ b,r⟩
theorem Il.mv {l:Option CY} (F:Il l h w G) (x:Fz w w') (k:∀ b o,w b= .gh->h.get? b=some o->w' b= .gh/\h'.get? b=some o):Il l h' w' G:=
 ⟨fun p hp=>⟨(k _ _ (F.at_ p hp).2 (F.at_ p hp).1).2,(k _ _ (F.at_ p hp).2 (F.at_ p hp).1).1⟩,F.nd,fun z e=>(F.tab z e).map x fun a o q=>⟨(k a o q.2.1 q.1).2,(k a o q.2.1 q.1).1,q.2.2⟩⟩
noncomputable def hR (w:bJ) (a:Addr) (x:dt):bJ:=fun b=>if b=a then x else w b
theorem cc (w:bJ) (a:Addr) (x:dt):hR w a x a=x:=if_pos rfl
theorem bB {b:Addr} (e:b≠a):hR w a x b=w b:=if_neg e
theorem df (w:bJ) (a:Addr) (x:dt) (b:Addr):(b=a/\hR w a x b=x)∨(b≠a/\hR w a x b=w b):=by
 by_cases e:b=a
 .exact .inl ⟨e,if_pos e⟩
 .exact .inr ⟨e,if_neg e⟩
theorem kF {l:aE}:d8 σ n j->d8 (σ++l) n j
 |⟨o,e,r⟩=>⟨o,by rw[S_ (So.mp e).1];exact e,r⟩
theorem d8.lt:d8 σ n j->n<σ.length
 |⟨_,e,_⟩=>(So.mp e).1
theorem pK {b:Addr} (hx:x≠ .fr) (h:hR w a x b= .fr):w b= .fr:=by
 rcases df w a x b with ⟨_,r⟩|⟨_,r⟩
 .exact absurd (r.symm.trans h) hx
 .exact r.symm.trans h
structure Mv (C:bF) (P P':Pt) (a:Addr):Prop where
 k:∀ b o,b≠a->P.h.get? b=some o->P'.h.get? b=some o/\P'.own b=P.own b
 n:∀ b,b≠a->P'.own b=P.own b
 H:C.H.get? a=none
theorem aR.step (I:aR C P) {a:Addr} {z:Nat} (m:Mv C P P' a) (hfs:P'.fs=P.fs) (hG:P'.G=P.G) (h0:P.own a= .no∨∃ j,P.own a= .cell z j) (h1:(∃ o,P'.own a= .fz o/\P'.h.get? a=some o)∨(∃ o j,P'.own a= .cell z j/\P'.h.get? a=some o/\∀ b,b≠a->P.own b≠ .cell z j))
  (hz:∀ j,P'.own a= .cell z j->d8 P'.σ z j) (hs:∀ n o,n≠z->P'.σ[n]? =some o->P.σ[n]? =some o) (hl:∀ n j,d8 P.σ n j->d8 P'.σ n j) (ho:∀ o,P'.σ[z]? =some o->RO C P'.own P'.h z o):aR C P':=by
 have na:∀ {b x},P.own b=x->x≠ .no->(∀ j,x≠ .cell z j)->b≠a:=fun e h3 h4 q=>by
  subst q;rcases h0 with q|⟨j,q⟩
  .exact h3 (e.symm.trans q)
  .exact h4 j (e.symm.trans q)
 have fz:Fz P.own P'.own:=fun b o e=>(m.n b (na e (nofun) (nofun))).trans e;have frb:∀ b,P'.own b= .fr->P.own b= .fr:=fun b e=>by
  by_cases q:b=a
  .rw[q] at e;rcases h1 with ⟨_,e1,_⟩|⟨_,_,e1,_⟩
   .cases e1.symm.trans e
   .cases e1.symm.trans e
  .rw[<-m.n b q];exact e
 have kk:∀ b o x,P.own b=x->x≠ .no->(∀ j,x≠ .cell z j)->P.h.get? b=some o->P'.own b=x/\P'.h.get? b=some o:=fun b o x e h3 h4 q=>
  have ne:=na e h3 h4
  ⟨(m.k b o ne q).2.trans e,(m.k b o ne q).1⟩
 refine ⟨fun b o e=> ?_,fun b o e=> ?_,fun b e=> ?_,hfs ▸ I.fr.mv (fun b o e q=>kk b o _ e nofun nofun q) frb,hG ▸ I.gh.mv fz fun b o e q=>kk b o _ e nofun nofun q,fun b c n j e f=> ?_,fun b n j e=> ?_,fun n o e=> ?_⟩
 .have ne:b≠a:=fun q=>by rw[q,m.H] at e;cases e
  obtain ⟨e1,e2⟩:=I.base b o e;exact ⟨(m.k b o ne e1).1,(m.k b o ne e1).2.trans e2⟩
 .by_cases q:b=a
  .subst q;rcases h1 with ⟨o',e1,e2⟩|⟨o',j,e1,_⟩
   .rw[e1] at e;cases e;exact e2
   .rw[e1] at e;cases e
  .rw[m.n b q] at e;exact (m.k b o q (I.fz b o e)).1
 .by_cases q:b=a
  .subst q;rcases h1 with ⟨o',e1,e2⟩|⟨o',j,e1,e2,_⟩
   .exact ⟨_,e2⟩
   .exact ⟨_,e2⟩
  .rw[m.n b q] at e;obtain ⟨o,ho⟩:=I.live b e;exact ⟨o,(m.k b o q ho).1⟩
 .have key:∀ {b c},b=a->c≠a->P'.own b= .cell n j->P'.own c= .cell n j->False:=fun {b c} q r e f=>by
   subst q;rw[m.n c r] at f;rcases h1 with ⟨o',e1,e2⟩|⟨o',j',e1,e2,e3⟩
   .rw[e1] at e;cases e
   .rw[e1] at e;cases e;exact e3 c r f
  by_cases q:b=a
  .by_cases r:c=a
   .rw[q,r]
   .exact (key q r e f).elim
  .by_cases r:c=a
   .exact (key r q f e).elim
   .rw[m.n b q] at e;rw[m.n c r] at f;exact I.one b c n j e f
 .by_cases q:b=a
  .subst q;rcases h1 with ⟨o',e1,e2⟩|⟨o',j',e1,_⟩
   .rw[e1] at e;cases e
   .rw[e1] at e;cases e;exact hz _ e1
  .rw[m.n b q] at e;exact hl n j (I.bd b n j e)
 .by_cases q:n=z
  .subst q;exact ho o e
  .exact (I.obj n o (hs n o q e)).mv fz fun b j o e' q'=>kk b o _ e' nofun (fun j q2=>by cases q2;exact q rfl) q'
theorem aR.off (I:aR C P) (e:P.h.objs.size<=a):P.own a= .no:=by
 by_cases q:P.own a= .no
 .exact q
 .obtain ⟨o,ho⟩:=I.live a q;exact absurd (SU ho) (To.mpr e)
theorem aR.offH (I:aR C P) (e:P.own a≠ .no):C.H.get? a=none:=by
 cases q:C.H.get? a with
 |none=>rfl
 |some o=>exact absurd (I.base a o q).2 e
theorem aR.out (I:aR C P) (e:P.h.objs.size<=a):C.H.get? a=none:=by
 cases q:C.H.get? a with
 |none=>rfl
 |some o=>exact absurd (SU (I.base a o q).1) (To.mpr e)
noncomputable def Pt.to (P:Pt) (h:Heap) (t:Nat):Pt:={P with s:={P.s with heap:=h,toks:=t}}
theorem cj.to (P:Pt) (h:Heap) (t:Nat):cj P (P.to h t):=⟨⟨⟨h,t,rfl⟩,rfl,fun _ _ e=>e,fun _ _ e=>e,fun _ _ _ _ e=>e⟩,rfl⟩
theorem aR.to (I:aR C P) (k:∀ b o,P.h.get? b=some o->h'.get? b=some o):aR C (P.to h' t):=
 ⟨fun b o e=>⟨k b o (I.base b o e).1,(I.base b o e).2⟩,fun a o e=>k a o (I.fz a o e),fun a e=>(I.live a e).imp fun o q=>k a o q,I.fr.mv (fun b o e q=>⟨e,k b o q⟩) (fun _ e=>e),I.gh.mv (fun _ _ e=>e) fun b o e q=>⟨e,k b o q⟩,I.one,I.bd,fun n o e=>(I.obj n o e).mv (fun _ _ e=>e) fun b j o e q=>⟨e,k b o q⟩⟩
structure FX (C:bF) (P:Pt) (h':Heap) (a:Addr) (o:Obj):Prop where
 keep:∀ b o,P.h.get? b=some o->h'.get? b=some o
 own:P.own a= .no
 H:C.H.get? a=none
 at_:h'.get? a=some o
theorem aR.push (I:aR C P) (ho:o.isFreed=false):FX C P (P.h.push o) P.h.objs.size o:=
 ⟨fun b o e=>Su _ e,I.off (Sy _),I.out (Sy _),SH _ ho⟩
noncomputable def Pt.note (P:Pt) (h:Heap) (t:Nat) (a:Addr) (o:Obj):Pt:={P.to h t with own:=hR P.own a (.fz o)}
theorem fR (e:P.own a= .no):Fz P.own (hR P.own a x):=fun b o q=>(bB fun r=>by rw[r,e] at q;cases q).trans q
theorem cj.note (e:P.own a= .no):cj P (P.note h' t a o):=
 ⟨⟨⟨h',t,rfl⟩,rfl,fR e,fun _ _ e=>e,fun n j b _ q=>by
  rcases df P.own a (.fz o) b with ⟨_,r⟩|⟨_,r⟩
  .cases r.symm.trans q
  .exact r.symm.trans q⟩,rfl⟩
theorem Mv.new (n:FX C P h' a o) (hh:P'.h=h') (hw:P'.own=hR P.own a x):Mv C P P' a:=
 ⟨fun b o ne e=>⟨hh ▸ n.keep b o e,hw ▸ bB ne⟩,fun b ne=>hw ▸ bB ne,n.H⟩
theorem aR.note (I:aR C P) (n:FX C P h' a o):aR C (P.note h' t a o):=
 I.step (z:=P.σ.length) (Mv.new n rfl rfl) rfl rfl (.inl n.own) (.inl ⟨o,cc _ _ _,n.at_⟩) (fun j e=>by cases (cc P.own a (.fz o)).symm.trans e) (fun n o _ e=>e) (fun _ _ v=>v) fun o e=>absurd (So.mp e).1 (S7 _)
noncomputable def Pt.make (P:Pt) (h:Heap) (t:Nat) (a:Addr) (o:PO):Pt:={P.to h t with own:=hR P.own a (.cell P.σ.length 0),σ:=P.σ++[o]}
theorem cj.make {o:PO} (e:P.own a= .no):cj P (P.make h' t a o):=
 ⟨⟨⟨h',t,rfl⟩,rfl,fR e,fun _ _ e=>kF e,fun n j b v q=>by
  rcases df P.own a (.cell P.σ.length 0) b with ⟨_,r⟩|⟨_,r⟩
  .cases r.symm.trans q;exact absurd v.lt (S7 _)
  .exact r.symm.trans q⟩,rfl⟩
theorem d6 {l:List α} {x:α} {y:α} (e:(l++[x])[n]? =some y):(n≠l.length->l[n]? =some y)/\(n=l.length->y=x):=by
 rcases Nat.lt_trichotomy n l.length with q|q|q
 .rw[S_ q] at e;exact ⟨fun _=>e,fun r=>absurd r (Nat.ne_of_lt q)⟩
 .subst q;rw[SK (Sy _),Nat.sub_self] at e;exact ⟨fun r=>absurd rfl r,fun _=>(Tc e).symm⟩
 .rw[List.getElem?_eq_none (by rw[Sn];exact q)] at e;cases e
theorem eS {l:List α} {x:α}:(l++[x])[l.length]? =some x:=by rw[SK (Sy _),Nat.sub_self];rfl
theorem aR.make (I:aR C P) (h0:po.has 0) (n:FX C P h' a o) (r:RO C (hR P.own a (.cell P.σ.length 0)) h' P.σ.length po):aR C (P.make h' t a po):=
 I.step (z:=P.σ.length) (Mv.new n rfl rfl) rfl rfl (.inl n.own) (.inr ⟨o,0,cc _ _ _,n.at_,fun b _ q=>absurd (I.bd b _ _ q).lt (S7 _)⟩) (fun j e=>by cases (cc P.own a (.cell P.σ.length 0)).symm.trans e;exact ⟨po,eS,h0⟩)
  (fun n o ne e=>(d6 e).1 ne) (fun _ _ v=>kF v) fun o e=>(d6 e).2 rfl ▸ r
theorem Dv {s:Shared} {fs:List Fm} (h0:po.has 0) (h:∀ b,w b= .cell P.σ.length 0->b=a):RV C ⟨s,fs,w,G,P.σ++[po]⟩ (.ref a) (.p P.σ.length 0):=
 ⟨⟨po,by rw[SK (Sy _),Nat.sub_self];rfl,h0⟩,fun b e=>by rw[h b e]⟩
theorem aR.rvMake (I:aR C P) (h0:po.has 0):RV C (P.make h' t a po) (.ref a) (.p P.σ.length 0):=
 Dv h0 fun b e=>by
  rcases df P.own a (.cell P.σ.length 0) b with ⟨q,_⟩|⟨_,r⟩
  .exact q
  .exact absurd (I.bd b _ _ (r.symm.trans e)).lt (S7 _)
noncomputable def Pt.turn (P:Pt) (h:Heap) (t n:Nat) (o:PO):Pt:={P.to h t with σ:=P.σ.set n o}
theorem ew {m:Nat} {o o':PO} (e:σ[n]? =some o) (k:∀ j,o.has j->o'.has j):d8 σ m j->d8 (σ.set n o') m j
 |⟨x,q,r⟩=>by
  by_cases c:n=m
  .subst c;rw[e] at q;cases q;exact ⟨o',by rw[List.getElem?_set_self (So.mp e).1],k j r⟩
  .exact ⟨x,by rw[SS c];exact q,r⟩
theorem cj.turn {o o':PO} (e:P.σ[n]? =some o) (k:∀ j,o.has j->o'.has j):cj P (P.turn h' t n o'):=
 ⟨⟨⟨h',t,rfl⟩,rfl,fun _ _ e=>e,fun m j v=>ew e k v,fun _ _ _ _ q=>q⟩,rfl⟩
theorem aR.turn (I:aR C P) {po':PO} (kp:∀ j,po.has j->po'.has j) (e:P.σ[n]? =some po) (ha:P.own a= .cell n j) (hs:∀ b o,b≠a->P.h.get? b=some o->h'.get? b=some o) (ho:h'.get? a=some o) (r:RO C P.own h' n po'):aR C (P.turn h' t n po'):=
 have hn:=(So.mp e).1
 I.step (z:=n) ⟨fun b o ne e=>⟨hs b o ne e,rfl⟩,fun _ _=>rfl,I.offH (by rw[ha];nofun)⟩ rfl rfl (.inr ⟨j,ha⟩) (.inr ⟨o,j,ha,ho,fun b ne q=>ne (I.one b a n j q ha)⟩) (fun j q=>ew e kp (I.bd a n j q))
  (fun m o ne e=>by rwa [show (P.turn h' t n po').σ[m]? =P.σ[m]? from SS (Ne.symm ne)] at e) (fun _ _ v=>ew e kp v)
  fun o e=>by
   rw[show (P.turn h' t n po').σ[n]? =some po' from List.getElem?_set_self hn] at e;cases e;exact r
noncomputable def Pt.ice (P:Pt) (n:Nat) (a:Addr) (o:Obj):Pt:={P with own:=hR P.own a (.fz o),σ:=P.σ.set n .dead}
theorem aR.ice (I:aR C P) (e:P.σ[n]? =some po) (ha:P.own a= .cell n j) (ho:P.h.get? a=some o):aR C (P.ice n a o):=
 I.step (z:=n) ⟨fun b o ne e=>⟨e,bB ne⟩,fun _ ne=>bB ne,I.offH (by rw[ha];nofun)⟩ rfl rfl (.inr ⟨j,ha⟩) (.inl ⟨o,cc _ _ _,ho⟩) (fun j e=>by cases (cc P.own a (.fz o)).symm.trans e)
  (fun m o ne e=>by rwa [show (P.ice n a _).σ[m]? =P.σ[m]? from SS (Ne.symm ne)] at e) (fun _ _ v=>ew e (fun _ _=>trivial) v)
  fun o e=>by
   by_cases q:n<P.σ.length
   .rw[show (P.ice n a _).σ[n]? =some .dead from List.getElem?_set_self q] at e;cases e;exact True.intro
   .rw[show (P.ice n a _).σ[n]? =none from List.getElem?_eq_none (by show (P.σ.set n .dead).length<=n;rw[SO];exact To.mp q)] at e;cases e
theorem cj.ice (e:P.σ[n]? =some po) (ha:P.own a= .cell n j):cj P (P.ice n a o):=
 ⟨⟨.refl _,rfl,fun b o q=>(bB fun r=>by rw[r,ha] at q;cases q).trans q,fun m j v=>ew e (fun _ _=>trivial) v,fun n j b _ q=>by
  rcases df P.own a (.fz o) b with ⟨_,r⟩|⟨_,r⟩
  .cases r.symm.trans q
  .exact r.symm.trans q⟩,rfl⟩
end
theorem br {p:Prop} [Decidable p] {a:p->Bool} (h:(if h:p then a h else false)=true):p:=by
 by_cases k:p
 .exact k
 .rw[dif_neg k] at h;cases h
theorem ah {a b:Bool} (h:(a&&b)=true):a=true:=(Bool.and_eq_true_iff.mp h).1
theorem aq {a b:Bool} (h:(a&&b)=true):b=true:=(Bool.and_eq_true_iff.mp h).2
theorem bN [BEq α] [LawfulBEq α] {a b:α} (h:(a==b)=true):a=b:=beq_iff_eq.mp h
noncomputable def kD (f:BoolOp->List Expr->Pos->Bool) (z:Expr):Bool:=if h:z.ctorIdx=0 then Expr.BoolOp.elim z h f else false
theorem ig (q:Expr->Prop) {f:BoolOp->List Expr->Pos->Bool} (h:kD f z=true) (k:∀ op es pos,f op es pos=true->q (.BoolOp op es pos)):q z:=Expr.BoolOp.elim (motive_1:=fun z=>kD f z=true->q z) z (br h) k h
noncomputable def ji (f:Expr->Operator->Expr->Pos->Bool) (z:Expr):Bool:=if h:z.ctorIdx=2 then Expr.BinOp.elim z h f else false
theorem gb (q:Expr->Prop) {f:Expr->Operator->Expr->Pos->Bool} (h:ji f z=true) (k:∀ l op r pos,f l op r pos=true->q (.BinOp l op r pos)):q z:=Expr.BinOp.elim (motive_1:=fun z=>ji f z=true->q z) z (br h) k h
noncomputable def gk (f:UnaryOp->Expr->Pos->Bool) (z:Expr):Bool:=if h:z.ctorIdx=3 then Expr.UnaryOp.elim z h f else false
theorem ky (q:Expr->Prop) {f:UnaryOp->Expr->Pos->Bool} (h:gk f z=true) (k:∀ op x pos,f op x pos=true->q (.UnaryOp op x pos)):q z:=Expr.UnaryOp.elim (motive_1:=fun z=>gk f z=true->q z) z (br h) k h
noncomputable def pJ (f:Expr->Expr->Expr->Pos->Bool) (z:Expr):Bool:=if h:z.ctorIdx=5 then Expr.IfExp.elim z h f else false
theorem vb (q:Expr->Prop) {f:Expr->Expr->Expr->Pos->Bool} (h:pJ f z=true) (k:∀ t a b pos,f t a b pos=true->q (.IfExp t a b pos)):q z:=Expr.IfExp.elim (motive_1:=fun z=>pJ f z=true->q z) z (br h) k h
noncomputable def kB (f:List (Option Expr)->List Expr->Pos->Bool) (z:Expr):Bool:=if h:z.ctorIdx=6 then Expr.Dict.elim z h f else false
theorem kA (q:Expr->Prop) {f:List (Option Expr)->List Expr->Pos->Bool} (h:kB f z=true) (k:∀ ks vs pos,f ks vs pos=true->q (.Dict ks vs pos)):q z:=Expr.Dict.elim (motive_1:=fun z=>kB f z=true->q z) z (br h) k h
noncomputable def ma (f:Expr->List Comprehension->Scope->Pos->Bool) (z:Expr):Bool:=if h:z.ctorIdx=8 then Expr.ListComp.elim z h f else false
theorem oU (q:Expr->Prop) {f:Expr->List Comprehension->Scope->Pos->Bool} (h:ma f z=true) (k:∀ el gs scope pos,f el gs scope pos=true->q (.ListComp el gs scope pos)):q z:=Expr.ListComp.elim (motive_1:=fun z=>ma f z=true->q z) z (br h) k h
noncomputable def kU (f:Expr->List CmpOp->List Expr->Pos->Bool) (z:Expr):Bool:=if h:z.ctorIdx=15 then Expr.Compare.elim z h f else false
theorem kC (q:Expr->Prop) {f:Expr->List CmpOp->List Expr->Pos->Bool} (h:kU f z=true) (k:∀ l ops rs pos,f l ops rs pos=true->q (.Compare l ops rs pos)):q z:=Expr.Compare.elim (motive_1:=fun z=>kU f z=true->q z) z (br h) k h
noncomputable def vc (f:Expr->List Expr->List Keyword->Pos->Bool) (z:Expr):Bool:=if h:z.ctorIdx=16 then Expr.Call.elim z h f else false
theorem oF (q:Expr->Prop) {f:Expr->List Expr->List Keyword->Pos->Bool} (h:vc f z=true) (k:∀ g es kw pos,f g es kw pos=true->q (.Call g es kw pos)):q z:=Expr.Call.elim (motive_1:=fun z=>vc f z=true->q z) z (br h) k h
noncomputable def cz (f:Const->Nat->Pos->Bool) (z:Expr):Bool:=if h:z.ctorIdx=19 then Expr.Constant.elim z h f else false
theorem bO (q:Expr->Prop) {f:Const->Nat->Pos->Bool} (h:cz f z=true) (k:∀ c k pos,f c k pos=true->q (.Constant c k pos)):q z:=Expr.Constant.elim (motive_1:=fun z=>cz f z=true->q z) z (br h) k h
noncomputable def dH (f:Expr->Str->Pos->Bool) (z:Expr):Bool:=if h:z.ctorIdx=20 then Expr.Attribute.elim z h f else false
theorem fC (q:Expr->Prop) {f:Expr->Str->Pos->Bool} (h:dH f z=true) (k:∀ v x pos,f v x pos=true->q (.Attribute v x pos)):q z:=Expr.Attribute.elim (motive_1:=fun z=>dH f z=true->q z) z (br h) k h
noncomputable def cq (f:Expr->Expr->Pos->Bool) (z:Expr):Bool:=if h:z.ctorIdx=21 then Expr.Subscript.elim z h f else false
theorem c7 (q:Expr->Prop) {f:Expr->Expr->Pos->Bool} (h:cq f z=true) (k:∀ v i pos,f v i pos=true->q (.Subscript v i pos)):q z:=Expr.Subscript.elim (motive_1:=fun z=>cq f z=true->q z) z (br h) k h
noncomputable def dB (f:Str->Pos->Bool) (z:Expr):Bool:=if h:z.ctorIdx=23 then Expr.Name.elim z h f else false
theorem cJ (q:Expr->Prop) {f:Str->Pos->Bool} (h:dB f z=true) (k:∀ x pos,f x pos=true->q (.Name x pos)):q z:=Expr.Name.elim (motive_1:=fun z=>dB f z=true->q z) z (br h) k h
noncomputable def me (f:List Expr->Pos->Bool) (z:Expr):Bool:=if h:z.ctorIdx=24 then Expr.List.elim z h f else false
theorem kz (q:Expr->Prop) {f:List Expr->Pos->Bool} (h:me f z=true) (k:∀ es pos,f es pos=true->q (.List es pos)):q z:=Expr.List.elim (motive_1:=fun z=>me f z=true->q z) z (br h) k h
noncomputable def pI (f:List Expr->Nat->Pos->Bool) (z:Expr):Bool:=if h:z.ctorIdx=25 then Expr.Tuple.elim z h f else false
theorem u7 (q:Expr->Prop) {f:List Expr->Nat->Pos->Bool} (h:pI f z=true) (k:∀ es k pos,f es k pos=true->q (.Tuple es k pos)):q z:=Expr.Tuple.elim (motive_1:=fun z=>pI f z=true->q z) z (br h) k h
noncomputable def u9 (f:Option Expr->Option Expr->Option Expr->Pos->Bool) (z:Expr):Bool:=if h:z.ctorIdx=26 then Expr.Slice.elim z h f else false
theorem u8 (q:Expr->Prop) {f:Option Expr->Option Expr->Option Expr->Pos->Bool} (h:u9 f z=true) (k:∀ l u st pos,f l u st pos=true->q (.Slice l u st pos)):q z:=Expr.Slice.elim (motive_1:=fun z=>u9 f z=true->q z) z (br h) k h
noncomputable def q8 (f:Option Expr->Pos->Bool) (z:Stmt):Bool:=if h:z.ctorIdx=3 then Stmt.Return.elim z h f else false
theorem sq (q:Stmt->Prop) {f:Option Expr->Pos->Bool} {z:Stmt} (h:q8 f z=true) (k:∀ v pos,f v pos=true->q (.Return v pos)):q z:=Stmt.Return.elim (motive_2:=fun z=>q8 f z=true->q z) z (br h) k h
noncomputable def q_ (f:List Expr->Expr->Pos->Bool) (z:Stmt):Bool:=if h:z.ctorIdx=5 then Stmt.Assign.elim z h f else false
theorem sr (q:Stmt->Prop) {f:List Expr->Expr->Pos->Bool} {z:Stmt} (h:q_ f z=true) (k:∀ ts e pos,f ts e pos=true->q (.Assign ts e pos)):q z:=Stmt.Assign.elim (motive_2:=fun z=>q_ f z=true->q z) z (br h) k h
noncomputable def Aq (f:Expr->Expr->List Stmt->List Stmt->Pos->Bool) (z:Stmt):Bool:=if h:z.ctorIdx=9 then Stmt.For.elim z h f else false
theorem yJ (q:Stmt->Prop) {f:Expr->Expr->List Stmt->List Stmt->Pos->Bool} {z:Stmt} (h:Aq f z=true) (k:∀ t e b el pos,f t e b el pos=true->q (.For t e b el pos)):q z:=Stmt.For.elim (motive_2:=fun z=>Aq f z=true->q z) z (br h) k h
noncomputable def pu (f:Expr->List Stmt->List Stmt->Pos->Bool) (z:Stmt):Bool:=if h:z.ctorIdx=11 then Stmt.While.elim z h f else false
theorem uC (q:Stmt->Prop) {f:Expr->List Stmt->List Stmt->Pos->Bool} {z:Stmt} (h:pu f z=true) (k:∀ t b el pos,f t b el pos=true->q (.While t b el pos)):q z:=Stmt.While.elim (motive_2:=fun z=>pu f z=true->q z) z (br h) k h
noncomputable def KC (f:Expr->List Stmt->List Stmt->Pos->Bool) (z:Stmt):Bool:=if h:z.ctorIdx=12 then Stmt.If.elim z h f else false
theorem B8 (q:Stmt->Prop) {f:Expr->List Stmt->List Stmt->Pos->Bool} {z:Stmt} (h:KC f z=true) (k:∀ t a b pos,f t a b pos=true->q (.If t a b pos)):q z:=Stmt.If.elim (motive_2:=fun z=>KC f z=true->q z) z (br h) k h
noncomputable def uE (f:Option Expr->Option Expr->Pos->Bool) (z:Stmt):Bool:=if h:z.ctorIdx=16 then Stmt.Raise.elim z h f else false
theorem uD (q:Stmt->Prop) {f:Option Expr->Option Expr->Pos->Bool} {z:Stmt} (h:uE f z=true) (k:∀ x cause pos,f x cause pos=true->q (.Raise x cause pos)):q z:=Stmt.Raise.elim (motive_2:=fun z=>uE f z=true->q z) z (br h) k h
noncomputable def An (f:List Stmt->List ExceptHandler->List Stmt->List Stmt->Pos->Bool) (z:Stmt):Bool:=if h:z.ctorIdx=17 then Stmt.Try.elim z h f else false
theorem yI (q:Stmt->Prop) {f:List Stmt->List ExceptHandler->List Stmt->List Stmt->Pos->Bool} {z:Stmt} (h:An f z=true) (k:∀ b hs el fin pos,f b hs el fin pos=true->q (.Try b hs el fin pos)):q z:=Stmt.Try.elim (motive_2:=fun z=>An f z=true->q z) z (br h) k h
noncomputable def yK (f:Expr->Pos->Bool) (z:Stmt):Bool:=if h:z.ctorIdx=24 then Stmt.Expr.elim z h f else false
theorem wB (q:Stmt->Prop) {f:Expr->Pos->Bool} {z:Stmt} (h:yK f z=true) (k:∀ e pos,f e pos=true->q (.Expr e pos)):q z:=Stmt.Expr.elim (motive_2:=fun z=>yK f z=true->q z) z (br h) k h
noncomputable def H_ (f:Bool->Bool) (c:Const):Bool:=if h:c.ctorIdx=1 then Const.bool.elim c h f else false
theorem CK (q:Const->Prop) {f:Bool->Bool} (h:H_ f c=true) (k:∀ b,f b=true->q (.bool b)):q c:=Const.bool.elim (motive:=fun c=>H_ f c=true->q c) c (br h) k h
noncomputable def H8 (f:Int->Bool) (c:Const):Bool:=if h:c.ctorIdx=2 then Const.int.elim c h f else false
theorem tC (q:Const->Prop) {f:Int->Bool} (h:H8 f c=true) (k:∀ b,f b=true->q (.int b)):q c:=Const.int.elim (motive:=fun c=>H8 f c=true->q c) c (br h) k h
noncomputable def CD (f:Str->Bool) (c:Const):Bool:=if h:c.ctorIdx=5 then Const.str.elim c h f else false
theorem iH (q:Const->Prop) {f:Str->Bool} (h:CD f c=true) (k:∀ b,f b=true->q (.str b)):q c:=Const.str.elim (motive:=fun c=>CD f c=true->q c) c (br h) k h
noncomputable def H7 (c:Const):Bool:=if h:c.ctorIdx=0 then Const.none.elim c h true else false
theorem CJ (q:Const->Prop) (h:H7 c=true) (k:q .none):q c:=Const.none.elim (motive:=fun c=>H7 c=true->q c) c (br h) (fun _=>k) h
noncomputable def Lx (b:Bool) (o:UnaryOp):Bool:=match b with
 |true=>o.ctorIdx==UnaryOp.Not.ctorIdx
 |false=>o.ctorIdx==UnaryOp.USub.ctorIdx
theorem F' (q:UnaryOp->Prop) {o:UnaryOp} (h:Lx true o=true) (k:q .Not):q o:=by cases o<;>first|exact k|cases h
theorem Ga (q:UnaryOp->Prop) {o:UnaryOp} (h:Lx false o=true) (k:q .USub):q o:=by cases o<;>first|exact k|cases h
noncomputable def Nd:Bool->BoolOp->Bool
 |true,.And=>true
 |false,.Or=>true
 |_,_=>false
theorem AX (q:BoolOp->Prop) {o:BoolOp} (h:Nd true o=true) (k:q .And):q o:=by cases o<;>first|exact k|cases h
theorem Lk (q:BoolOp->Prop) {o:BoolOp} (h:Nd false o=true) (k:q .Or):q o:=by cases o<;>first|exact k|cases h
section
noncomputable def one (f:α->Bool):List α->Bool
 |[a]=>f a
 |_=>false
theorem gw (q:List α->Prop) {f:α->Bool}:∀ {l:List α},one f l=true->(∀ a,f a=true->q [a])->q l
 |[a],h,k=>k a h
 |[],h,_=>nomatch h
 |_::_::_,h,_=>nomatch h
noncomputable def two (f:α->α->Bool):List α->Bool
 |[a,b]=>f a b
 |_=>false
theorem pL (q:List α->Prop) {f:α->α->Bool}:∀ {l:List α},two f l=true->(∀ a b,f a b=true->q [a,b])->q l
 |[a,b],h,k=>k a b h
 |[],h,_=>nomatch h
 |[_],h,_=>nomatch h
 |_::_::_::_,h,_=>nomatch h
theorem bY (q:List α->Prop):∀ {l:List α},l.isEmpty=true->q []->q l:=by
 intro l
 induction l with
 |nil=>
  intro _ k;exact k
 |cons _ _ ih=>
  intro h _;exact nomatch h
noncomputable def Hh (f:α->Bool):Option α->Bool
 |some a=>f a
 |none=>false
theorem iu (q:Option α->Prop) {f:α->Bool}:∀ {o:Option α},Hh f o=true->(∀ a,f a=true->q (some a))->q o
 |some a,h,k=>k a h
 |none,h,_=>nomatch h
theorem qe (q:Option α->Prop):∀ {o:Option α},o.isNone=true->q none->q o
 |none,_,k=>k
 |some _,h,_=>nomatch h
end
noncomputable def fj (f:Str->List Expr->Bool) (e:Expr):Bool:=vc (fun g es kw _=>kw.isEmpty&&dB (fun x _=>f x es) g) e
theorem fi (q:Expr->Prop) {f:Str->List Expr->Bool} (h:fj f e=true) (k:∀ x px es pos,f x es=true->q (.Call (.Name x px) es [] pos)):q e:=
 oF q h fun g es kw pos h=>bY (fun kw=>q (.Call g es kw pos)) (ah h) (cJ (fun g=>q (.Call g es [] pos)) (aq h) fun x px h=>k x px es pos h)
noncomputable def kW (f:Expr->Str->Pos->List Expr->Pos->Bool) (e:Expr):Bool:=vc (fun g es kw pos=>kw.isEmpty&&dH (fun v x ap=>f v x ap es pos) g) e
theorem jh (q:Expr->Prop) {f:Expr->Str->Pos->List Expr->Pos->Bool} (h:kW f e=true) (k:∀ v x ap es pos,f v x ap es pos=true->q (.Call (.Attribute v x ap) es [] pos)):q e:=
 oF q h fun g es kw pos h=>bY (fun kw=>q (.Call g es kw pos)) (ah h) (fC (fun g=>q (.Call g es [] pos)) (aq h) fun v x ap h=>k v x ap es pos h)
noncomputable def xd (f:Expr->CmpOp->Expr->Bool) (e:Expr):Bool:=kU (fun l ops rs _=>one (fun o=>one (fun r=>f l o r) rs) ops) e
theorem rR (q:Expr->Prop) {f:Expr->CmpOp->Expr->Bool} (h:xd f e=true) (k:∀ l o r pos,f l o r=true->q (.Compare l [o] [r] pos)):q e:=
 kC q h fun l ops rs pos h=>gw (fun ops=>q (.Compare l ops rs pos)) h fun o h=>gw (fun rs=>q (.Compare l [o] rs pos)) h fun r h=>k l o r pos h
noncomputable def rT (f:Expr->CmpOp->CmpOp->Expr->Expr->Bool) (e:Expr):Bool:=kU (fun l ops rs _=>two (fun o p=>two (fun r q=>f l o p r q) rs) ops) e
theorem oE (q:Expr->Prop) {f:Expr->CmpOp->CmpOp->Expr->Expr->Bool} (h:rT f e=true) (k:∀ l o p r s pos,f l o p r s=true->q (.Compare l [o,p] [r,s] pos)):q e:=
 kC q h fun l ops rs pos h=>pL (fun ops=>q (.Compare l ops rs pos)) h fun o p h=>pL (fun rs=>q (.Compare l [o,p] rs pos)) h fun r s h=>k l o p r s pos h
noncomputable def u_ (f:Expr->Option Expr->Option Expr->Bool) (e:Expr):Bool:=cq (fun v i _=>u9 (fun l u st _=>st.isNone&&f v l u) i) e
theorem oC (q:Expr->Prop) {f:Expr->Option Expr->Option Expr->Bool} (h:u_ f e=true) (k:∀ v l u p pos,f v l u=true->q (.Subscript v (.Slice l u none p) pos)):q e:=
 c7 q h fun v i pos h=>u8 (fun i=>q (.Subscript v i pos)) h fun l u st p h=>qe (fun st=>q (.Subscript v (.Slice l u st p) pos)) (ah h) (k v l u p pos (aq h))
noncomputable def Ll (f:Expr->Str->Expr->List Expr->Int->Scope->Bool) (e:Expr):Bool:=ma (fun el gs scope _=>one (fun g=>dB (fun x _=>f el x g.iter g.ifs g.is_async scope) g.target) gs) e
theorem n7 (q:Expr->Prop) {f:Expr->Str->Expr->List Expr->Int->Scope->Bool} (h:Ll f e=true) (k:∀ el x px iter cs ay scope pos,f el x iter cs ay scope=true->q (.ListComp el [⟨.Name x px,iter,cs,ay⟩] scope pos)):q e:=
 oU q h fun el gs scope pos h=>gw (fun gs=>q (.ListComp el gs scope pos)) h fun g h=>match g,h with
  |⟨t,iter,cs,ay⟩,h=>cJ (fun t=>q (.ListComp el [⟨t,iter,cs,ay⟩] scope pos)) h fun x px h=>k el x px iter cs ay scope pos h
noncomputable def oM (f:Expr->Expr->Bool) (s:Stmt):Bool:=q_ (fun ts e _=>one (fun t=>f t e) ts) s
theorem gi (q:Stmt->Prop) {f:Expr->Expr->Bool} {s:Stmt} (h:oM f s=true) (k:∀ t e pos,f t e=true->q (.Assign [t] e pos)):q s:=
 sr q h fun ts e pos h=>gw (fun ts=>q (.Assign ts e pos)) h fun t h=>k t e pos h
noncomputable abbrev FY:=List (Str×Nat)
noncomputable def oI (sc:Scope) (x:Str):Bool:=sc.names.lookup x==some .local||sc.names.lookup x==some .cell||sc.names.lookup x==some .free
noncomputable def fo (sc:Scope) (x:Str):Bool:=sc.names.lookup x==some .globalImplicit&& !(x==("__debug__":Str))
noncomputable def fM (e:Expr):Bool:=e.ctorIdx !=16|| !fj (fun _ es=>es.isEmpty) e
noncomputable def dY (e:Expr):Bool:=e.ctorIdx !=26
noncomputable def kS (sc scope:Scope) (x:Str):Bool:=
 scope.kind== .function&&scope.names.all (fun p=>p.2 != .cell)&&scope.names.lookup x==some .local&&
 scope.names.all (fun p=>p.2 != .local||(scope.names.lookup p.1==some .local&&(p.1==x||p.1==(".0":Str))))&&scope.names.all (fun p=>p.2 != .free||sc.names.lookup p.1==some .cell)
noncomputable def iR (e:Expr):Bool:=e.ctorIdx !=22
noncomputable def i8 (e:Expr):Bool:=e.ctorIdx==8||e.ctorIdx==9||e.ctorIdx==10
noncomputable def fY (sc:Scope) (x:Str):Bool:=sc.names.lookup x==some .local||sc.names.lookup x==some .cell
noncomputable def qf {α:Type} [BEq α]:List α->Bool
 |[]=>true
 |a::r=> !r.contains a&&qf r
structure Sx where
 fnm:Nat->Str×Bool
 att:Nat->Str
 key:Nat->Str
 gls:List (Str×(Option Int×List Nat))
 sc:Scope
 Γ:FY
 lm:Option CY
end Mine.Internal
namespace Mine.Internal
open PySem PyProof.Rows PySem.W
variable {α β:Type} {C:bF} {A:Around} {P P' P₀:Pt} {E Q:Value->Shared->Prop} {ρ:bj} {hi lo u z:D} {fl v vl vu y:Value} {h h':Heap} {L a:Addr} {o o':Obj} {K:R PV->aE->Prop} {w:bJ} {c i j k n t:Nat} {f f':cD} {p x:PV} {e:Expr} {s:Shared} {pos:Pos} {b keep:Bool} {l:List D} {vs:List Value} {m:Int} {g:Fm} {σ:aE} {es:List Expr} {env:Env} {ps:List PV} {st:Stmt} {G:List (Addr×Obj)} {ls:List Env} {fs:List Fm} {sc scope:Scope} {cl:List (Str×Addr)}
noncomputable def zg (K:Frag) (D:Addr):Bool:=
 findIn K (.ref D) "__getattribute__"==some (some (.builtin "BaseException.__getattribute__"))&&findIn K (.ref D) "__getattr__"==some none&&
 findIn K (.ref D) "__class__"==some (some (.builtin "object.__class__"))&&specialIn K (.builtin "object.__class__") "__get__"==some (some (.builtin "getset_descriptor.__get__"))&&
 takesIn K (.builtin "object.__class__")==some true&&mroIn K D (.type "object")==some true&&mroIn K D (.type "BaseException")==some true&&(clsIn K D).isSome
noncomputable def jc:Nat->Str
 |0=>"LedgerError"|1=>"BadName"|2=>"BadCurrency"|3=>"BadAmount"|4=>"BadDay"|5=>"BadNote"|6=>"BadRate"|7=>"Unbalanced"|8=>"Closed"|9=>"Taken"
 |10=>"TakenBack"|11=>"NoAccount"|12=>"NoEntry"|13=>"NoRate"|14=>"TooSmall"|15=>"NoPeriod"|16=>"BadText"|_=>"?"
noncomputable def f_:List (Str×Value):=[("len",.builtin "len"),("range",.type "range"),("min",.builtin "min"),("max",.builtin "max"),("abs",.builtin "abs"),("int",.type "int"),("str",.type "str"),("list",.type "list"),("tuple",.type "tuple"),
 ("dict",.type "dict"),("all",.builtin "all"),("sum",.builtin "sum"),("sorted",.builtin "sorted"),("isinstance",.builtin "isinstance"),("bool",.type "bool"),("ValueError",.type "ValueError")]
structure IY (C:bF):Prop where
 X:Frag.In C.K C.H
 name:C.mg "Book"=some (.ref C.book)
 cd:∃ cd,clsIn C.K C.book=some cd/\cd.hasDict=true
 plain:plainOver C.K C.book=true
 makes:makesIn C.K C.book=true
 ga:findIn C.K (.ref C.book) "__getattribute__"=some (some (.builtin "object.__getattribute__"))
 gattr:findIn C.K (.ref C.book) "__getattr__"=some none
 sattr:findIn C.K (.ref C.book) "__setattr__"=some (some (.builtin "object.__setattr__"))
 no:∀ k,k<7->findIn C.K (.ref C.book) (C.att k)=some none
 inj:∀ i,i<7->∀ k,k<7->C.att i=C.att k->i=k
 init:findIn C.K (.ref C.book) "__init__"=some (some (.ref (C.fadr 0)))/\typeIn C.K (.ref (C.fadr 0))=some (.type "function")
 meth:∀ m,(C.fnm m).2=true->findIn C.K (.ref C.book) (C.fnm m).1=some (some (.ref (C.fadr m)))/\typeIn C.K (.ref (C.fadr m))=some (.type "function")/\(∀ k,k<7->C.att k≠(C.fnm m).1)/\∃ o fd,C.H.get? (C.fadr m)=some o/\o.data= .func fd
def KO (v:Value):Option Int×List Nat->Prop
 |(some i,_)=>∃ t,v= .int i t
 |(none,s)=>jN s/\∃ t,v= .str (b7 s) t
structure gd (C:bF):Prop where
 g:C.H.Ns mainGlobals C.mg
 b:C.H.Ns builtinsNs C.mb
 nolimit:C.H.NoLimit
 nodigits:∃ mc,C.H.Ns cStatics mc/\mc "sys.int_max_str_digits"=none
 big:∃ o,C.H.get? sysModules=some o
 cls:IY C
 exc:∀ c,c<nX->OwnCls (jc c) (C.exc c) [.type "ValueError",.type "Exception",.type "BaseException",.type "object"] "ValueError.__new__" C.mg C.H
 exk:∀ c,c<nX->zg C.K (C.exc c)=true
 kit:∀ c,c<nX->∀ k,k<nX->kitOne C.K (.ref (C.exc c)) (.ref (C.exc k))=some (c==k||k==0)
 kitV:∀ c,c<nX->kitOne C.K (.ref (C.exc c)) (.type "ValueError")=some true
 exm:∀ c,c<nX->∀ k,k<nX->exmOne C.K (.ref (C.exc c)) (.ref (C.exc k))=some (c==k||k==0)
 fn:∀ f,(C.fnm f).2=false->C.mg (C.fnm f).1=some (.ref (C.fadr f))/\∃ o fd,C.H.get? (C.fadr f)=some o/\o.data= .func fd
 bi:∀ p∈f_,C.mg p.1=none/\C.mb p.1=some p.2
 gl:∀ x q,C.gls.lookup x=some q->∃ v,C.mg x=some v/\KO v q
 keys:∀ i j,i<100->j<100->C.key i=C.key j->i=j
 lam:∀ l,C.lam=some l->CodeHd C.H l.c l.P/\C.H.BuiltinsAt C.mg l.P/\mainGlobals≠l.P
def tH (A:Around) (fs:List Fm):Prop:=∃ ls,A.frames=some ls/\∀ e∈ls,e.scope.kind≠ .module/\∃ f∈fs,e.frame=some f.L
def kept:dt->Prop
 | .no| .fr=>False
 |_=>True
def tI (C:bF) (P:Pt) (ls:List Env) (e:Addr) (c:Nat):Prop:=
 ∃ B:Heap,B.StaysIn P.h/\B.get? e=none/\P.h.FunFrames B ls/\(∀ b o,C.H.get? b=some o->B.get? b=some o)/\(∀ b o,kept (P.own b)->P.h.get? b=some o->B.get? b=some o)/\
  ((∃ oe vs a0,P.h.get? e=some oe/\oe.cls= .ref (C.exc c)/\oe.data= .fields vs/\vs[1]? =some Value.none/\vs[0]? =some a0)∨
  (∃ a0,P.h.TracedW B e (.ref (C.exc c)) a0)∨
  (∃ a0 env L,ls.head? =some env/\env.frame=some L/\P.h.TracedAtW B e (.ref (C.exc c)) a0 (rawInt L)))
inductive sL (C:bF) (A:Around) (P:Pt) (c:Nat):Value->Prop
 |mk {a:Addr} {ls:List Env}:A.frames=some ls->tI C P ls a c->sL C A P c (.ref a)
structure dN {α β:Type} (C:bF) (A:Around) (Rel:Pt->β->α->Prop) (P:Pt) (K:R α->aE->Prop) (Q:β->Shared->Prop) (E:Value->Shared->Prop):Prop where
 ok:∀ p v P',cj P P'->aR C P'->Rel P' v p->K (.ok p) P'.σ->Q v P'.s
 ex:∀ c e P',cj P P'->aR C P'->sL C A P' c e->K (.ex c) P'.σ->E e P'.s
abbrev No (C:bF) (P:Pt) (vs:List Value) (ps:List PV):Prop:=mj C P ps vs
abbrev oW (_:Pt) (c b:Bool):Prop:=c=b
section
variable {γ δ:Type} {Rel:Pt->β->α->Prop} {Rel':Pt->δ->γ->Prop} {K:R α->aE->Prop} {Q:β->Shared->Prop}
theorem dN.mono (h:dN C A Rel P K Q E) (g:cj P P'):dN C A Rel P' K Q E:=
 ⟨fun p v P'' g'=>h.ok p v P'' (g.trans g'),fun c e P'' g'=>h.ex c e P'' (g.trans g')⟩
theorem dN.bind {f:γ->PM α} {Q':δ->Shared->Prop} (h:dN C A Rel P K Q E) (k:∀ p v P',cj P P'->aR C P'->Rel' P' v p->Wp K (f p P'.σ)->dN C A Rel P' K Q E->Q' v P'.s):dN C A Rel' P (bK K f) Q' E:=
 ⟨fun p v P' g i r w=>k p v P' g i r w (h.mono g),h.ex⟩
end
def vf (C:bF) (d:Nat):Prop:=∀ (hd:Bool) (A:Around) (P:Pt) (f:Nat) (args:List PV) (vs:List Value) (K:R PV->aE->Prop) (Q E:Value->Shared->Prop),
 tH A P.fs->C.H.objs.size<=P.h.objs.size->A.depth+8*d+144<recursionLimit->A.units+64*d+945<cLine->(hd=false->A.handled=none)->aR C P->mj C P args vs->Wp K (lB C.T d hd f args P.σ)->dN C A (RV C) P K Q E->
 codeAny C.M A (.call (.ref (C.fadr f)) ⟨vs,[]⟩) (fun r s'=>match r with| .ok (.ret v)=>Q v s'| .ok _=>False| .error e=>E e s') P.s
def A4 (sc:Scope) (env:Env):Prop:=∀ x,(oI sc x=true->oI env.scope x=true)/\(fo sc x=true->env.kindOf x=some .globalImplicit)/\(sc.names.lookup x=some .cell->env.kindOf x=some .cell/\∃ c,env.cells.lookup x=some c)
structure Cx where
 C:bF
 A:Around
 env:Env
 sc:Scope
 Γ:FY
 d:Nat
 hd:Bool
 good:gd C
 calls:vf C d
 kinds:A4 sc env
 kind:env.scope.kind= .function
 glob:env.globals=mainGlobals
 blt:env.builtins=builtinsNs
 dep:A.depth+8*d+150<recursionLimit
 uni:A.units+64*d+1000<cLine
 hnd:hd=false->A.handled=none
 lm:Option CY
variable {X:Cx}
noncomputable abbrev Cx.M (X:Cx):Model:=X.C.M
noncomputable def Cx.ker (X:Cx):c9:=⟨lB X.C.T X.d,X.hd⟩
noncomputable def Cx.sx (X:Cx):Sx:=⟨X.C.fnm,X.C.att,X.C.key,X.C.gls,X.sc,X.Γ,X.lm⟩
def A3 (env:Env) (fs:List Fm) (x:Str) (v:Value):Prop:=
 (env.kindOf x=some .local/\∃ f∈fs,f.L=env.locals/\f.m x=some v)∨
 ((env.kindOf x=some .cell∨env.kindOf x=some .free)/\∃ c,env.cells.lookup x=some c/\∃ f∈fs,c∈f.cells/\f.cv c=some v)
structure EnvOK (X:Cx) (P:Pt) (ρ:bj):Prop where
 frs:tH X.A P.fs
 ne:P.fs≠[]
 var:∀ x i p,X.Γ.lookup x=some i->oI X.env.scope x=true->ρ[i]? =some (some p)->∃ v,RV X.C P v p/\A3 X.env P.fs x v
theorem EnvOK.ext (h:EnvOK X P ρ) (g:cj P P'):EnvOK X P' ρ:=
 ⟨g.fs ▸ h.frs,g.fs ▸ h.ne,fun x i p a b c=>by
  obtain ⟨v,r,l⟩:=h.var x i p a b c;exact ⟨v,r.ext g.toExt,g.fs ▸ l⟩⟩
abbrev bx {α β:Type} (X:Cx) (Rel:Pt->β->α->Prop) (P:Pt) (K:R α->aE->Prop) (Q:β->Shared->Prop) (E:Value->Shared->Prop):Prop:=dN X.C X.A Rel P K Q E
abbrev We (X:Cx) (e:Expr) (Q E:Value->Shared->Prop) (P:Pt):Prop:=wpAny X.M X.A (eval e X.env) Q E P.s
structure CE where
 ev:c9->bj->PM PV
 is:Sx->Expr->Bool
 ok:∀ (X:Cx) (e:Expr) (ρ:bj) (P:Pt) (K:R PV->aE->Prop) (Q E:Value->Shared->Prop),is X.sx e=true->aR X.C P->EnvOK X P ρ->Wp K (ev X.ker ρ P.σ)->bx X (RV X.C) P K Q E->We X e Q E P
structure CT where
 ts:c9->bj->PM Bool
 is:Sx->Expr->Bool
 ok:∀ (X:Cx) (e:Expr) (ρ:bj) (P:Pt) (K:R Bool->aE->Prop) (Q:Bool->Shared->Prop) (E:Value->Shared->Prop),is X.sx e=true->aR X.C P->EnvOK X P ρ->Wp K (ts X.ker ρ P.σ)->bx X oW P K Q E->wpAny X.M X.A (isTrue e X.env (eval e X.env)) Q E P.s
structure CL where
 ev:c9->bj->PM (List PV)
 is:Sx->List Expr->Bool
 star:∀ sx es env pos,is sx es=true->∀ x∈backTo pos (starEach es env),x.1=false
 ok:∀ (X:Cx) (es:List Expr) (pos:Pos) (ρ:bj) (P:Pt) (K:R (List PV)->aE->Prop) (Q:List Value->Shared->Prop) (E:Value->Shared->Prop),is X.sx es=true->aR X.C P->EnvOK X P ρ->Wp K (ev X.ker ρ P.σ)->bx X (No X.C) P K Q E->
  wpAny X.M X.A (spliced (backTo pos (starEach es X.env))) Q E P.s
section
theorem dN.here {Rel:Pt->β->α->Prop} {K:R α->aE->Prop} {Q:β->Shared->Prop} {v:β} {p:α} (h:dN C A Rel P K Q E) (I:aR C P) (r:Rel P v p) (k:K (.ok p) P.σ):Q v P.s:=h.ok p v P (.refl P) I r k
def oX (C:bF) (P:Pt) (z:D) (Q:Value->Shared->Prop):Prop:=∀ w P',cj P P'->aR C P'->RD C P'.own z w->P'.σ=P.σ->Q w P'.s
theorem oX.grown (k:oX C P z Q) (I:aR C P) (kp:∀ b o,P.h.get? b=some o->h'.get? b=some o) (r:RD C P.own z v) (t:Nat):Q v {P.s with heap:=h',toks:=t}:=k v (P.to h' t) (.to P h' t) (I.to kp) r rfl
theorem oX.tok (k:oX C P z Q) (I:aR C P) (r:RD C P.own z v) (t:Nat):Q v {P.s with toks:=t}:=k.grown I (fun _ _ e=>e) r t
theorem oX.here (k:oX C P z Q) (I:aR C P) (r:RD C P.own z v):Q v P.s:=k v P (.refl P) I r rfl
theorem oX.note (k:oX C P z Q) (I:aR C P) (n:FX C P h' a o) (t:Nat) (r:RD C (hR P.own a (.fz o)) z (.ref a)):Q (.ref a) {P.s with heap:=h',toks:=t}:=k _ (P.note h' t a o) (.note n.own) (I.note n) r rfl
theorem dN.fin (h:dN C A (RV C) P K Q E) (k:K (.ok (.d z)) P.σ):oX C P z Q:=fun w P' g I r e=>h.ok (.d z) w P' g I r (e ▸ k)
inductive mr (C:bF) (P:Pt) (l:List D):Value->Prop
 |mk {a:Addr} {vs:List Value} {n:Nm}:P.h.get? a=some (sj vs n)->P.own a≠ .no->RDs C P.own l vs->mr C P l (.ref a)
inductive zK (C:bF) (P:Pt) (ks ps:List D):Value->Prop
 |mk {a:Addr} {o:Obj} {vs:List Value}:P.h.get? a=some o->P.own a≠ .no->gQ C P.own o ks vs->RDs C P.own ps vs->zK C P ks ps (.ref a)
def gm (C:bF) (P:Pt) (v:Value):D->Prop
 | .lst l=>mr C P l v
 | .dct ks ps=>zK C P ks ps v
 |x=>RD C P.own x v
theorem lL (I:aR C P):∀ {x:D},RD C P.own x v->gm C P v x
 | .lst l,r=>by
  obtain ⟨e,r'⟩:n9 C P.own sj l v:=r.view;exact .mk (I.fz _ _ e) (by rw[e];nofun) r'
 | .dct ks ps,r=>by
  obtain ⟨e,d,r'⟩:Ip C P.own ks ps v:=r.view;exact .mk (I.fz _ _ e) (by rw[e];nofun) d r'
 | .none,r=>r
 | .bool _,r=>r
 | .int _,r=>r
 | .str _,r=>r
 | .tup _,r=>r
 | .rng _ _ _,r=>r
 | .exc _,r=>r
theorem FA.at:∀ {f:cD},FA C w h n i v f->(∀ x,f≠ .d x)->kE C w h n (i+2) f v
 | .d _,_,hf=>absurd rfl (hf _)
 | .list _,r,_=>r
 | .dict _ _,r,_=>r
theorem kE.to {v':Value} (k:∀ a,w a= .cell n j->v'= .ref a):kE C w h n j f v->kE C w h n j f v':=fun h=>by
 obtain ⟨a,b,c⟩:=h;exact k _ a ▸ ⟨a,b,c⟩
theorem IB:∀ {o:PO} {j:Nat},RO C w h n o->o.at j=some f->(∀ x,f≠ .d x)->∃ v,kE C w h n j f v:=by
 intro o j r e hf;cases o with
 |dead=>cases e
 |fld _=>
  cases j with
  |zero=>cases e;exact r
  |succ _=>cases e
 |wrp _=>
  obtain ⟨_,_,_,v,_,_,_,r⟩:=r
  match j,e with
  |0,e=>cases e
  |1,e=>cases e
  |2,e=>cases e;exact ⟨v,r⟩
  |_+3,e=>cases e
 |rcd b l=>
  match j,e with
  |0,e=>cases e
  |1,e=>cases e
  |j+2,e=>
  have e:l[j]? =some f:=e;have q:=(So.mp e).1;cases b with
  |true=>
   obtain ⟨_,_,_,_,_,h6,_,h8⟩:jv C w h n l:=r;rw[<-h6] at q;exact ⟨_,(h8 j f _ e (Sp q)).at hf⟩
  |false=>
   obtain ⟨_,_,_,h4,_,_,h8⟩:rY C w h n l:=r;rw[<-h4] at q;exact ⟨_,(h8 j f _ e (Sp q)).at hf⟩
theorem rP (I:aR C P) (r:RV C P v (.p n j)) (e:b_ P.σ n j=some f) (hf:∀ x,f≠ .d x):kE C P.own P.h n j f v:=by
 obtain ⟨o,e1,e2⟩:=Option.bind_eq_some_iff.mp e;obtain ⟨_,q⟩:=IB (I.obj n o e1) e2 hf;exact q.to r.2
theorem jI:∀ {f:cD} {x:D},f.rd=some x->f.toD=x/\∀ x,f≠ .d x
 | .list _,_,e=>by cases e;exact ⟨rfl,nofun⟩
 | .dict _ _,_,e=>by cases e;exact ⟨rfl,nofun⟩
theorem GO:∀ {f:cD},kE C P.own P.h n j f v->gm C P v f.toD:=by
 intro Z0 Z2;cases Z0 with
 |d _=>
  obtain ⟨_,_,h⟩:=Z2;exact h.elim
 |list _=>
  obtain ⟨h1,h2,h3⟩:=Z2;obtain ⟨vs,k,rfl,h3⟩:=h3;exact .mk (n:=⟨k,none,#[]⟩) h2 (by rw[h1];nofun) h3
 |dict _ _=>
  obtain ⟨h1,h2,h3⟩:=Z2;obtain ⟨vs,h3,h4⟩:=h3;exact .mk h2 (by rw[h1];nofun) h3 h4
theorem bh (I:aR C P) {x:D}:∀ {p:PV},RV C P v p->rd P.σ p=some x->gm C P v x
 | .d y,r,e=>by cases e;exact lL I r
 | .p n j,r,e=>by
  obtain ⟨f,e1,e2⟩:=Option.bind_eq_some_iff.mp e;exact (jI e2).1 ▸ GO (rP I r e1 (jI e2).2)
theorem td:∀ {o:Option (Option α)} {a:α},o.join=some a->o=some (some a)
 |some (some _),_,e=>by cases e;rfl
end
section
theorem Kg (i:Nat) (h:dB (fun x _=>X.sx.Γ.lookup x==some i&&oI X.sx.sc x&& !(x==("__debug__":Str))&& !(x==("__classdict__":Str))) e=true) (I:aR X.C P) (G:EnvOK X P ρ) (w:Wp K (GN ((ρ[i]?).join) P.σ)) (p:bx X (RV X.C) P K Q E):
  wpAny X.M X.A (eval e X.env) Q E P.s:=by
 refine cJ (fun e=>wpAny X.M X.A (eval e X.env) Q E P.s) h fun x pos h=> ?_;obtain ⟨q,e1,k⟩:=fO w;obtain ⟨v,r,l⟩:=G.var x i q (bN (ah (ah (ah h)))) ((X.kinds x).1 (aq (ah (ah h)))) (td e1);have done:Q v P.s:=p.here I r k;have n1:=(Bool.not_eq_true' _).mp (aq (ah h));rcases l with ⟨hk,f,hf,hL,hm⟩|⟨hk,c,hc,f,hf,hcf,hcv⟩
 .exact wpAny_Name (wpAny_loadName_local X.kind hk (hL ▸ (I.fr.ns f hf).1) hm done) n1
 .have hcell:=(I.fr.cl f hf c hcf).1;rw[hcv] at hcell;rcases hk with hk|hk
  .exact wpAny_Name (wpAny_loadName_cell X.kind hk hc hcell done) n1
  .exact wpAny_Name (wpAny_loadName_free X.kind hk hc hcell done ((Bool.not_eq_true' _).mp (aq h))) n1
theorem Fj (h:cz (fun c _ _=>H7 c) e=true) (I:aR X.C P) (w:Wp K (ret (.d .none) P.σ)) (p:bx X (RV X.C) P K Q E):We X e Q E P:=
 bO (fun e=>We X e Q E P) h fun c k pos h=>CJ (fun c=>wpAny X.M X.A (eval (.Constant c k pos) X.env) Q E P.s) h (wpAny_Constant_none ((p.fin w).here I .none))
theorem Ft (b:Bool) (h:cz (fun c _ _=>H_ (fun c=>b==c) c) e=true) (I:aR X.C P) (w:Wp K (ret (.d (.bool b)) P.σ)) (p:bx X (RV X.C) P K Q E):We X e Q E P:=
 bO (fun e=>We X e Q E P) h fun c k pos h=>CK (fun c=>wpAny X.M X.A (eval (.Constant c k pos) X.env) Q E P.s) h fun c h=>wpAny_Constant_bool ((p.fin w).here I (bN h ▸ .bool b))
theorem HZ (i:Int) (h:cz (fun c _ _=>H8 (fun j=>i==j) c) e=true) (I:aR X.C P) (w:Wp K (ret (.d (.int i)) P.σ)) (p:bx X (RV X.C) P K Q E):We X e Q E P:=
 bO (fun e=>We X e Q E P) h fun c k pos h=>tC (fun c=>wpAny X.M X.A (eval (.Constant c k pos) X.env) Q E P.s) h fun j h=>wpAny_Constant_int ((p.fin w).tok I (bN h ▸ .int i _) _)
theorem lJ {x:Str} {s:List Nat} (h:x.cps.toList=s) (k:jN s) (t:Tok):RD C w (.str s) (.str x t):=by
 obtain ⟨⟨l⟩⟩:=x;subst h;exact .str _ t k
noncomputable def Lz (s:List Nat):Bool:=s.all (· <0x110000)&&decide (s.length<=1000)
theorem ud {s:List Nat} (h:Lz s=true):jN s:=⟨fun c hc=>S6 (List.all_eq_true.mp (ah h) c hc),Sv (S6 (aq h)) (by decide)⟩
theorem HU (s:List Nat) (h:cz (fun c _ _=>CD (fun x=>x.cps.toList==s&&Lz s) c) e=true) (I:aR X.C P) (w:Wp K (ret (.d (.str s)) P.σ)) (p:bx X (RV X.C) P K Q E):We X e Q E P:=
 bO (fun e=>We X e Q E P) h fun c k pos h=>iH (fun c=>wpAny X.M X.A (eval (.Constant c k pos) X.env) Q E P.s) h fun x h=>wpAny_Constant_str ((p.fin w).tok I (lJ (bN (ah h)) (ud (aq h)) _) _)
theorem eC {x:Str} (I:aR X.C P) (hw:fo X.sc x=true) (hv:X.C.mg x=some v) (h:Q v P.s):wpAny X.M X.A (eval (.Name x pos) X.env) Q E P.s:=
 Calls.Name_function_global X.kind ((X.kinds x).2.1 hw) (Calls.loadGlobal_global (mg:=X.C.mg) (X.glob ▸ X.good.g.keeps fun b o e=>(I.base b o e).1) hv h) ((Bool.not_eq_true' _).mp (aq hw))
theorem iT {x:Str} (I:aR X.C P) (hw:fo X.sc x=true) (hb:(x,v)∈f_) (h:Q v P.s):wpAny X.M X.A (eval (.Name x pos) X.env) Q E P.s:=
 Calls.Name_function_global X.kind ((X.kinds x).2.1 hw) (Calls.loadGlobal_builtin (mg:=X.C.mg) (mb:=X.C.mb) (X.glob ▸ X.good.g.keeps fun b o e=>(I.base b o e).1) (X.good.bi _ hb).1 (X.blt ▸ X.good.b.keeps fun b o e=>(I.base b o e).1) (X.good.bi _ hb).2 h) ((Bool.not_eq_true' _).mp (aq hw))
noncomputable def QR:Option Int×List Nat->D
 |(some i,_)=>.int i
 |(none,s)=>.str s
theorem MQ:∀ {q:Option Int×List Nat},KO v q->RD C w (QR q) v
 |(some i,_),⟨t,e⟩=>e ▸ .int i t
 |(none,s),⟨h,t,e⟩=>e ▸ .str s t h
theorem KN (x:Str) (q:Option Int×List Nat) (h:dB (fun y _=>y==x&&fo X.sx.sc x&&X.sx.gls.lookup x==some q) e=true) (I:aR X.C P) (w:Wp K (ret (.d (QR q)) P.σ)) (p:bx X (RV X.C) P K Q E):wpAny X.M X.A (eval e X.env) Q E P.s:=by
 refine cJ (fun e=>wpAny X.M X.A (eval e X.env) Q E P.s) h fun y pos h=> ?_;obtain ⟨v,hv,hg⟩:=X.good.gl x q (bN (aq h));rw[bN (ah (ah h))];exact eC I (aq (ah h)) hv ((p.fin w).here I (MQ hg))
end
noncomputable def ag (i:Nat):CE:=⟨fun _ ρ=>GN ((ρ[i]?).join),fun x=>dB fun y _=>x.Γ.lookup y==some i&&oI x.sc y&& !(y==("__debug__":Str))&& !(y==("__classdict__":Str)),fun _ _ _ _ _ _ _ h I G w p=>Kg i h I G w p⟩
noncomputable def lA:CE:=⟨fun _ _=>ret (.d .none),fun _=>cz fun c _ _=>H7 c,fun _ _ _ _ _ _ _ h I _ w p=>Fj h I w p⟩
noncomputable def fq (b:Bool):CE:=⟨fun _ _=>ret (.d (.bool b)),fun _=>cz fun c _ _=>H_ (fun c=>b==c) c,fun _ _ _ _ _ _ _ h I _ w p=>Ft b h I w p⟩
noncomputable def ai (i:Int):CE:=⟨fun _ _=>ret (.d (.int i)),fun _=>cz fun c _ _=>H8 (fun j=>i==j) c,fun _ _ _ _ _ _ _ h I _ w p=>HZ i h I w p⟩
noncomputable def au (s:List Nat):CE:=⟨fun _ _=>ret (.d (.str s)),fun _=>cz fun c _ _=>CD (fun x=>x.cps.toList==s&&Lz s) c,fun _ _ _ _ _ _ _ h I _ w p=>HU s h I w p⟩
noncomputable def yP (x:Str) (q:Option Int×List Nat):CE:=⟨fun _ _=>ret (.d (QR q)),fun c=>dB fun y _=>y==x&&fo c.sc x&&c.gls.lookup x==some q,fun _ _ _ _ _ _ _ h I _ w p=>KN x q h I w p⟩
section
theorem dR {v:D} {j:Int} (e:iD v=some j) (h:gm C P y v):∃ t,y= .int j t:=by
 cases v<;>first|(cases e;exact RD.view h)|cases e
theorem ed {v:D} {s:List Nat} (e:sD v=some s) (h:gm C P y v):jN s/\∃ t,y= .str (b7 s) t:=by
 cases v<;>first|(cases e;exact RD.view h)|cases e
theorem zC {v:D} (e:bD v=some b) (h:gm C P y v):y= .bool b:=by
 cases v<;>first|(cases e;exact RD.view h)|cases e
theorem Jj {v:D} (e:tD v=some l) (h:gm C P y v):n9 C P.own dA l y:=by
 cases v<;>first|(cases e;exact RD.view h)|cases e
theorem h_ {v:D} (e:lD v=some l) (h:gm C P y v):mr C P l y:=by
 cases v<;>first|(cases e;exact h)|cases e
theorem ec {c:Prop} [Decidable c] {a x:α} (h:ax c a=some x):c/\a=x:=by
 unfold ax at h;by_cases k:c
 .rw[if_pos k] at h;exact ⟨k,Tc h⟩
 .rw[if_neg k] at h;cases h
theorem ak {f:α->Option β} {b:β}:∀ {o:Option α},o.bind f=some b->∃ a,o=some a/\f a=some b
 |some a,h=>⟨a,rfl,h⟩
theorem aL {f:α->β} {b:β}:∀ {o:Option α},o.map f=some b->∃ a,o=some a/\f a=b
 |some a,h=>⟨a,rfl,Tc h⟩
theorem JX {a b:Int} (h:mL a b=true):IntMulOk a b:=by
 simp only [mL,Bool.or_eq_true,decide_eq_true_eq] at h;rcases h with (h|h)|h
 .exact .of_left (intBits_le_64 (Mo h) (Mn h))
 .exact .of_right (intBits_le_64 (Mo h) (Mn h))
 .unfold IntMulOk Builtin.Int.intTooBig;simp only [Bool.and_eq_true,decide_eq_true_eq,not_and,and_imp];intro _ _ q;have h1:Builtin.Int.intBits a<=a.natAbs.log2+1:=by unfold Builtin.Int.intBits;split<;>omega
  have h2:Builtin.Int.intBits b<=b.natAbs.log2+1:=by unfold Builtin.Int.intBits;split<;>omega
  simp only [bitsLine] at q;exact O9 h q h1 h2
theorem zl {a b:Int} (h:ow b=true):b≠0/\Builtin.divisionGoesByPylong a b=false:=by
 simp only [ow,Bool.and_eq_true,bne_iff_ne,ne_eq,decide_eq_true_eq] at h;refine ⟨h.1,?_⟩;unfold Builtin.divisionGoesByPylong;have hb:b.natAbs.log2<9000:=by
  have:b.natAbs≠0:=by have:=h.1;exact Int.natAbs_ne_zero.mpr this
  exact (Nat.log2_lt this).mpr h.2
 have h0:(b==0)=false:=by simpa using h.1
 simp only [h0,Bool.and_eq_false_iff,decide_eq_false_iff_not]
 left
 simp only [Bool.false_eq_true,if_false];exact To.mpr (Nat.succ_le_of_lt ((Nat.div_lt_iff_lt_mul (by decide)).mpr hb))
structure BO where
 op:Operator
 g:D->D->Option D
 ok:∀ {C:bF} {A:Around} {P:Pt} {u v z:D} {x y:Value} {Q E:Value->Shared->Prop},aR C P->gm C P x u->gm C P y v->g u v=some z->oX C P z Q->wpAny C.M A (binaryOp op x y) Q E P.s
noncomputable def tf (f:Int->Int->Option Int) (u v:D):Option D:=(iD u).bind fun a=>(iD v).bind fun b=>(f a b).map .int
theorem iw {f:Int->Int->Option Int} {v:D} {x:Value} (h:tf f u v=some z) (hu:gm C P x u) (hv:gm C P y v):∃ a b c t s,x= .int a t/\y= .int b s/\f a b=some c/\z= .int c:=by
 obtain ⟨a,e1,h⟩:=ak h;obtain ⟨b,e2,h⟩:=ak h;obtain ⟨c,e3,h⟩:=aL h;obtain ⟨t,e4⟩:=dR e1 hu;obtain ⟨s,e5⟩:=dR e2 hv;exact ⟨a,b,c,t,s,e4,e5,e3,h.symm⟩
noncomputable def dw:BO:=⟨.Sub,tf fun a b=>some (a - b),fun I hu hv e k=>by
 obtain ⟨a,b,c,t,s,rfl,rfl,e',rfl⟩:=iw e hu hv;cases e';exact sub_int (k.tok I (.int _ _) _)⟩
noncomputable def bv:BO:=⟨.Mod,tf fun a b=>ax (ow b=true) (a.fmod b),fun I hu hv e k=>by
 obtain ⟨a,b,c,t,s,rfl,rfl,e',rfl⟩:=iw e hu hv;obtain ⟨hm,rfl⟩:=ec e';exact mod_int' (zl (a:=0) hm).1 (k.tok I (.int _ _) _)⟩
noncomputable def bS:BO:=⟨.FloorDiv,tf fun a b=>ax (ow b=true) (a.fdiv b),fun I hu hv e k=>by
 obtain ⟨a,b,c,t,s,rfl,rfl,e',rfl⟩:=iw e hu hv;obtain ⟨hm,rfl⟩:=ec e';exact floordiv_int (zl (a:=0) hm).1 (k.tok I (.int _ _) _) (.inl (zl hm).2)⟩
noncomputable def xQ:BO:=⟨.Pow,tf fun a b=>ax (0<=b/\b<=1000/\0<=a/\a<=1000) (a^b.toNat),fun I hu hv e k=>by
 obtain ⟨a,b,c,t,s,rfl,rfl,e',rfl⟩:=iw e hu hv;obtain ⟨hm,rfl⟩:=ec e';exact pow_int_small hm.1 (by exact SV hm.2.1 (by decide)) (by exact nA hm.2.2.1 (SW hm.2.2.2 (by decide))) (k.tok I (.int _ _) _)⟩
noncomputable def io:BO:=⟨.Mult,tf fun a b=>ax (mL a b=true) (a*b),fun I hu hv e k=>by
 obtain ⟨a,b,c,t,s,rfl,rfl,e',rfl⟩:=iw e hu hv;obtain ⟨hm,rfl⟩:=ec e';exact mul_int (k.tok I (.int _ _) _) (JX hm)⟩
noncomputable def Jl (u v:D):Option D:=(sD u).bind fun s=>(iD v).bind fun k=>ax (1<=k/\k<=1000/\s.length=1) (.str (DG s k.toNat))
theorem xJ (l:List α) (n:Nat):DG l n=(List.replicate n l).flatten:=by
 induction n with
 |zero=>rfl
 |succ n ih=>show l++DG l n=_;rw[ih,List.replicate_succ,List.flatten_cons]
theorem Ce (l:List (Array α)) (a:Array α):(l.foldl (fun x y=>x++y) a).toList=a.toList++(l.map Array.toList).flatten:=by
 induction l generalizing a with
 |nil=>simp
 |cons b l ih=>simp [ih]
noncomputable def z_:BO:=⟨.Mult,Jl,fun I hu hv e k=>by
 obtain ⟨x,e1,e⟩:=ak e;obtain ⟨n,e2,e⟩:=ak e;obtain ⟨hm,rfl⟩:=ec e;obtain ⟨hx,t,rfl⟩:=ed e1 hu;obtain ⟨u,rfl⟩:=dR e2 hv;have hlen:Str.length (b7 x)=1:=by simpa [Str.length] using hm.2.2
 refine SB.mul (n:=n) ⟨?_,?_,?_⟩ fun t' tk=>k.tok I ?_ _
 .simp;exact ⟨SV (by decide) hm.1,SW hm.2.1 (by decide)⟩
 .intro _ _;rw[hlen];have:(1:Int)<=(2^63 - 1) / n:=Int.le_ediv_of_mul_le (by exact hm.1) (O8 hm);exact Int.not_lt_of_ge this
 .intro _ _;rw[hlen];simp [Builtin.Str.tooLong,sizeLine];exact SV hm.2.1 (by decide)
 .refine lJ ?_ ⟨fun c hc=> ?_,?_⟩ _
  .unfold Txt.mul;rw[if_neg (by exact Tp.mpr hm.1)];by_cases h1:n=1
   .subst h1;rw[show DG x (1:Int).toNat=x from List.append_nil x];simp
   .rw[if_neg (by simp [h1,hlen]),Ce,xJ];simp
  .rw[xJ] at hc;obtain ⟨l,hl,hcl⟩:=List.mem_flatten.mp hc;rw[(List.mem_replicate.mp hl).2] at hcl;exact hx.1 c hcl
  .rw[xJ];simp [hm.2.2];simp only [dZ];exact SV hm.2.1 (by decide)⟩
noncomputable def Nh (u v:D):Option D:=match u with
 | .int a=>(iD v).map fun b=>.int (a+b)
 | .str a=>(sD v).bind fun b=>ax (a.length+b.length<=dZ) (.str (a++b))
 | .tup a=>(tD v).bind fun b=>ax (a.length+b.length<=dZ) (.tup (a++b))
 | .lst a=>(lD v).bind fun b=>ax (a.length+b.length<=dZ) (.lst (a++b))
 |_=>none
theorem aR.newTup (I:aR C P) (vs:List Value) (n:Nat):FX C P (P.h.push (dA vs n)) P.h.objs.size (dA vs n):=I.push rfl
theorem pY (I:aR C P) (e:P.own a= .no) (r:RDs C P.own l vs) (ho:o=dA vs n):RD C (hR P.own a (.fz o)) (.tup l) (.ref a):=.tup (by rw[cc,ho]) (r.ext (fR e))
theorem tZ (I:aR C P) (e:P.own a= .no) (r:RDs C P.own l vs) (ho:o=bp vs n):RD C (hR P.own a (.fz o)) (.lst l) (.ref a):=.lst (n:=⟨n,none,#[]⟩) (by rw[cc,ho]) (r.ext (fR e))
theorem Ie {x y:List D} {u:Value} (I:aR C P) (hu:n9 C P.own dA x u) (hv:n9 C P.own dA y v) (hm:x.length+y.length<=dZ) (k:oX C P (.tup (x++y)) Q):wpAny C.M A (binaryOp .Add u v) Q E P.s:=by
 obtain @⟨a1,vs1,n1,o1,r1⟩:=hu;obtain @⟨a2,vs2,n2,o2,r2⟩:=hv;have l1:=r1.length;have l2:=r2.length;have g1:=I.fz _ _ o1;have g2:=I.fz _ _ o2;by_cases hv:vs1=[]
 .subst hv;obtain rfl:x=[]:=List.eq_nil_of_length_eq_zero l1.symm;exact concat_meets ⟨_,g1,rfl⟩ ⟨_,g2,rfl⟩ noFill_tuple_add seq_tuple_add PySem.F.slot_tuple_add PySem.F.entry_tuple_add (PySem.F.args_tuple_add_2 _ _)
   (tuple_addW0 a1 a2 _ _ n1 n2 none none #[] #[] (by simp)) ⟨g1,g2,k.here I (.tup o2 r2)⟩
 .by_cases hw:vs2=[]
  .subst hw;obtain rfl:y=[]:=List.eq_nil_of_length_eq_zero l2.symm;exact concat_meets ⟨_,g1,rfl⟩ ⟨_,g2,rfl⟩ noFill_tuple_add seq_tuple_add PySem.F.slot_tuple_add PySem.F.entry_tuple_add (PySem.F.args_tuple_add_2 _ _)
    (tuple_addW1 a1 a2 _ _ n1 n2 none none #[] #[] (by simpa using hv) (by simp)) ⟨g1,g2,k.here I (by rw[List.append_nil];exact .tup o1 r1)⟩
  .refine concat_meets ⟨_,g1,rfl⟩ ⟨_,g2,rfl⟩ noFill_tuple_add seq_tuple_add PySem.F.slot_tuple_add PySem.F.entry_tuple_add (PySem.F.args_tuple_add_2 _ _)
    (tuple_addW2 a1 a2 _ _ n1 n2 none none #[] #[] (by simpa using hv) (by simpa using hw) (by simpa [sizeLine,dZ,l1,l2] using hm)) ⟨g1,g2,?_⟩
   have:=k.note I (I.newTup (vs1++vs2) 0) P.s.toks (pY I (I.off (Sy _)) (r1.append r2) rfl)
   simpa using this
theorem A1 {l b:Addr} {ws:List Value} {n m:Nm} (hl:s.heap.get? l=some (sj vs n)) (hb:s.heap.get? b=some (sj ws m)) (h:Q (.ref s.heap.objs.size) {s with heap:=s.heap.push {cls:=.type "list",data:=.seq (vs.toArray++ws.toArray)}}) (hsz:vs.toArray.size+ws.toArray.size<=sizeLine):wpAny C.M A (binaryOp .Add (.ref l) (.ref b)) Q E s:=
 concat_meets ⟨_,hl,rfl⟩ ⟨_,hb,rfl⟩ noFill_list_add seq_list_add PySem.F.slot_list_add PySem.F.entry_list_add (PySem.F.args_list_add_2 _ _) (list_addW l b vs.toArray ws.toArray n.n m.n n.d m.d n.sl m.sl hsz) ⟨hl,hb,h⟩
theorem Ig {x y:List D} {u:Value} (I:aR C P) (hu:mr C P x u) (hv:mr C P y v) (hm:x.length+y.length<=dZ) (k:oX C P (.lst (x++y)) Q):wpAny C.M A (binaryOp .Add u v) Q E P.s:=by
 obtain @⟨a1,vs1,n1,g1,_,r1⟩:=hu;obtain @⟨a2,vs2,n2,g2,_,r2⟩:=hv;refine A1 g1 g2 ?_ (by simpa [sizeLine,dZ,r1.length,r2.length] using hm);have:=k.note I (I.push (o:=bp (vs1++vs2) 0) rfl) P.s.toks (tZ I (I.off (Sy _)) (r1.append r2) rfl)
 simpa using this
theorem Lq (I:aR C P):∀ {u v z:D} {x y:Value},gm C P x u->gm C P y v->Nh u v=some z->oX C P z Q->wpAny C.M A (binaryOp .Add x y) Q E P.s:=by
 intro Z0 v z x y hu hv e k;cases Z0 with
 |int a=>
  obtain ⟨b,e1,rfl⟩:=aL e;obtain ⟨t,rfl⟩:=RD.view hu;obtain ⟨s,rfl⟩:=dR e1 hv;exact add_int (k.tok I (.int _ _) _)
 |str a=>
  obtain ⟨b,e1,e⟩:=ak e;obtain ⟨hm,rfl⟩:=ec e;obtain ⟨ha,t,rfl⟩:=RD.view hu;obtain ⟨hb,s,rfl⟩:=ed e1 hv;refine add_str (fun t' tk=>k.tok I ?_ _) (by simpa [Str.length,sizeLine,dZ] using hm);exact lJ (by rw[Str.cps_append];simp) ⟨fun c hc=>(SF.mp hc).elim (ha.1 c) (hb.1 c),by simpa using hm⟩ _
 |tup a=>
  obtain ⟨b,e1,e⟩:=ak e;obtain ⟨hm,rfl⟩:=ec e;exact Ie I (RD.view hu) (Jj e1 hv) hm k
 |lst a=>
  obtain ⟨b,e1,e⟩:=ak e;obtain ⟨hm,rfl⟩:=ec e;exact Ig I hu (h_ e1 hv) hm k
 |_=>cases e
noncomputable def aH:BO:=⟨.Add,Nh,fun I hu hv e k=>Lq I hu hv e k⟩
noncomputable def F0 (g:D->D->Option D) (x y:PV):PM PV:=fun σ=>(rd σ x).bind fun u=>(rd σ y).bind fun v=>(g u v).map fun z=>(.ok (.d z),σ)
theorem lH {g:D->D->Option D} {y:PV} (h:Wp K (F0 g x y σ)):∃ u v z,rd σ x=some u/\rd σ y=some v/\g u v=some z/\K (.ok (.d z)) σ:=by
 unfold F0 at h;cases e1:rd σ x with
 |none=>rw[e1] at h;exact h.elim
 |some u=>
 cases e2:rd σ y with
 |none=>rw[e1,e2] at h;exact h.elim
 |some v=>
 cases e3:g u v with
 |none=>rw[e1,e2,Sl,Sl,e3] at h;exact h.elim
 |some z=>rw[e1,e2,Sl,Sl,e3] at h;exact ⟨u,v,z,rfl,rfl,e3,h⟩
end
section
theorem Lh (o:BO) (a b:CE) (h:ji (fun l op r _=>op==o.op&&a.is X.sx l&&b.is X.sx r) e=true) (I:aR X.C P) (G:EnvOK X P ρ) (w:Wp K (bU (a.ev X.ker ρ) (fun x=>bU (b.ev X.ker ρ) fun y=>F0 o.g x y) P.σ)) (p:bx X (RV X.C) P K Q E):
  wpAny X.M X.A (eval e X.env) Q E P.s:=
 gb (fun e=>wpAny X.M X.A (eval e X.env) Q E P.s) h fun l op r pos h=>wpAny_BinOp (a.ok X l ρ P _ _ E (aq (ah h)) I G (aQ w) (p.bind fun x v P1 g1 I1 r1 w p=>
  b.ok X r ρ P1 _ _ E (aq h) I1 (G.ext g1) (aQ w) (p.bind fun y u P2 g2 I2 r2 w p=>by
   obtain ⟨i,j,z,e1,e2,e3,k⟩:=lH w;rw[bN (ah (ah h))];exact o.ok I2 (bh I2 (r1.ext g2.toExt) e1) (bh I2 r2 e2) e3 (p.fin k))))
end
noncomputable def aJ (o:BO) (a b:CE):CE:=⟨fun K ρ=>bU (a.ev K ρ) fun x=>bU (b.ev K ρ) fun y=>F0 o.g x y,fun s=>ji fun l op r _=>op==o.op&&a.is s l&&b.is s r,fun _ _ _ _ _ _ _ h I G w p=>Lh o a b h I G w p⟩
noncomputable def Oe (p:D->Bool):D->Bool
 | .none=>true
 | .int _=>true
 | .str _=>true
 | .tup l=>l.all p
 | .lst l=>l.all p
 |_=>false
noncomputable def pl:Nat->D->Bool
 |0=>Oe fun _=>false
 |n+1=>Oe (pl n)
noncomputable def z6 (f:D->PyData):D->PyData
 | .none=>.none
 | .int i=>.int i
 | .str s=>.str (b7 s)
 | .tup l=>.tuple (l.map f)
 | .lst l=>.list (l.map f)
 |_=>.dict []
noncomputable def py:Nat->D->PyData
 |0=>z6 fun _=>.none
 |n+1=>z6 (py n)
theorem l7 {f:D->PyData} {p:D->Bool} (ih:∀ x y,p x=true->p y=true->(PyData.eqv (f x) (f y)=true<->x=y)):∀ l m:List D,l.all p=true->m.all p=true->(PyData.eqvAll (l.map f) (m.map f)=true<->l=m)
 |[],[],_,_=>⟨fun _=>rfl,fun _=>by simp [PyData.eqvAll]⟩
 |[],_::_,_,_=>⟨fun h=>by simp [PyData.eqvAll] at h,nofun⟩
 |_::_,[],_,_=>⟨fun h=>by simp [PyData.eqvAll] at h,nofun⟩
 |x::l,y::m,h1,h2=>by
  have q:=ih x y (ah h1) (ah h2);have r:=l7 ih l m (aq h1) (aq h2);rw[List.map_cons,List.map_cons,PyData.eqvAll,Bool.and_eq_true,q,r,List.cons.injEq]
theorem DU (a b:List Nat):(b7 a==b7 b)=true<->a=b:=by
 rw[beq_iff_eq];exact ⟨fun h=>congrArg Array.toList (congrArg Str.cps h),fun h=>by rw[h]⟩
inductive Ij (p:D->Bool):D->Prop
 |none:Ij p .none
 |int (i:Int):Ij p (.int i)
 |str (s:List Nat):Ij p (.str s)
 |tup (l:List D):l.all p=true->Ij p (.tup l)
 |lst (l:List D):l.all p=true->Ij p (.lst l)
theorem kJ {p:D->Bool}:∀ {x:D},Oe p x=true->Ij p x
 | .none,_=>.none
 | .int i,_=>.int i
 | .str s,_=>.str s
 | .tup l,h=>.tup l h
 | .lst l,h=>.lst l h
 | .bool _,h=>absurd h SL
 | .dct _ _,h=>absurd h SL
 | .rng _ _ _,h=>absurd h SL
 | .exc _,h=>absurd h SL
theorem wP {f:D->PyData} {p:D->Bool} (ih:∀ x y,p x=true->p y=true->(PyData.eqv (f x) (f y)=true<->x=y)) {x y:D} (hx:Ij p x) (hy:Ij p y):PyData.eqv (z6 f x) (z6 f y)=true<->x=y:=by
 cases hx with
 |none=>cases hy<;>(delta z6;simp [PyData.eqv])
 |int i=>
  cases hy with
  |int j=>(delta z6;simp only [PyData.eqv,beq_iff_eq]);exact ⟨fun h=>h ▸ rfl,fun h=>by injection h⟩
  |_=>(delta z6;simp [PyData.eqv])
 |str s=>
  cases hy with
  |str t=>(delta z6;simp only [PyData.eqv]);exact (DU s t).trans ⟨fun h=>h ▸ rfl,fun h=>by injection h⟩
  |_=>(delta z6;simp [PyData.eqv])
 |tup l h=>
  cases hy with
  |tup m h'=>(delta z6;simp only [PyData.eqv]);exact (l7 ih l m h h').trans ⟨fun h=>h ▸ rfl,fun h=>by injection h⟩
  |_=>(delta z6;simp [PyData.eqv])
 |lst l h=>
  cases hy with
  |lst m h'=>(delta z6;simp only [PyData.eqv]);exact (l7 ih l m h h').trans ⟨fun h=>h ▸ rfl,fun h=>by injection h⟩
  |_=>(delta z6;simp [PyData.eqv])
theorem uP:∀ (n:Nat) (x y:D),pl n x=true->pl n y=true->(PyData.eqv (py n x) (py n y)=true<->x=y):=by
 intro n
 induction n with
 |zero=>
  intro _ _ hx hy;exact wP (fun _ _ h=>absurd h SL) (kJ hx) (kJ hy)
 |succ n ih=>
  intro _ _ hx hy;exact wP (ih) (kJ hx) (kJ hy)
section
theorem pR {l:List Nat} (h:∀ c∈l,c<0x110000):PyData.strOk (b7 l)=true:=by
 simp only [PyData.strOk,List.all_toArray,List.all_eq_true,decide_eq_true_eq];exact h
inductive rZ (h:Heap) (n:Nat) (v:Value) (d:PyData):Prop
 |mk (as:List Addr):Reads h v d as->d.canLay0=true->d.depth<=n->rZ h n v d
inductive A5 (h:Heap) (n:Nat) (vs:List Value) (ds:List PyData):Prop
 |mk (as:List Addr):ReadsAll h vs ds as->PyData.canLayAll0 ds=true->PyData.depthAll ds<=n->A5 h n vs ds
theorem hJ {h:Heap} {n:Nat} {f:D->PyData} {p:D->Bool} (ih:∀ x v,RD C P.own x v->p x=true->rZ h n v (f x)):∀ {l:List D} {vs:List Value},RDs C P.own l vs->l.all p=true->A5 h n vs (l.map f)
 |[],vs,r,_=>by rw[show vs=[] from r.view];exact .mk _ .nil rfl (SQ _)
 |x::l,vs,r,e=>by
  obtain ⟨r1,r2⟩:hO C P.own x l vs:=r.view;obtain ⟨as,a1,a2,a3⟩:=ih x _ r1 (ah e);obtain ⟨bs,b1,b2,b3⟩:=hJ ih r2 (aq e);refine .mk _ (.cons a1 b1) ?_ ?_
  .rw[List.map_cons,PyData.canLayAll0,a2,b2];rfl
  .rw[List.map_cons,PyData.depthAll];exact Nat.max_le.mpr ⟨a3,b3⟩
theorem vQ (I:aR C P) {f:D->PyData} {p:D->Bool} (ih:∀ x v,RD C P.own x v->p x=true->rZ P.h n v (f x)) {x:D} (r:gm C P v x) (e:Ij p x):rZ P.h (n+1) v (z6 f x):=by
 cases e with
 |none=>cases RD.view r;exact .mk _ .none rfl (SQ _)
 |int i=>obtain ⟨t,rfl⟩:=RD.view r;exact .mk _ (.int _ _) rfl (SQ _)
 |str s=>obtain ⟨hs,t,rfl⟩:=RD.view r;exact .mk _ (.str _ _) (pR hs.1) (SQ _)
 |tup l h=>
  obtain ⟨o,s⟩:n9 C P.own dA l v:=RD.view r;obtain ⟨as,a1,a2,a3⟩:=hJ ih s h;exact .mk _ (reads_tuple_at (I.fz _ _ o) rfl rfl (by simpa using a1)) a2 (Tl a3)
 |lst l h=>
  obtain ⟨o,_,s⟩:mr C P l v:=r;obtain ⟨as,a1,a2,a3⟩:=hJ ih s h;exact .mk _ (reads_list_at o rfl rfl (by simpa using a1)) a2 (Tl a3)
theorem kL (I:aR C P):∀ (n:Nat) (x:D) (v:Value),gm C P v x->pl n x=true->rZ P.h (n+1) v (py n x):=by
 intro n
 induction n with
 |zero=>
  intro _ _ r e;exact vQ I (n:=0) (p:=fun _=>false) (fun _ _ _ h=>absurd h SL) r (kJ e)
 |succ n ih=>
  intro _ _ r e;exact vQ I (fun x v r e=>ih x v (lL I r) e) r (kJ e)
theorem kG {d:PyData} (h:d.canLay0=true) (k:d.depth<=n) (hn:n<=64):SeqAt.shaped d=true:=by
 unfold SeqAt.shaped;rw[h,Bool.true_and];exact SC (Sv k hn)
noncomputable def NP (a b:D):Option Bool:=match a with
 | .int i=>(iD b).map fun j=>decide (i=j)
 | .str s=>(sD b).map fun t=>decide (s=t)
 | .bool p=>(bD b).map fun q=>p==q
 |_=>none
open Classical in
noncomputable def QU (a b:D):Option Bool:=ax ((pl 8 a&&pl 8 b)=true) (decide (a=b))
noncomputable def MW (a b:D):Option Bool:=(NP a b).or (QU a b)
theorem GM {p q:Option α} {a:α} (h:p.or q=some a):p=some a∨q=some a:=by
 cases p with
 |none=>exact .inr h
 |some x=>exact .inl h
open Classical in
theorem E1 (I:aR C P) {v:D} {x:Value} {c:Bool} (hu:gm C P x u) (hv:gm C P y v) (e:MW u v=some c):∃ d d' as bs,Reads P.h x d as/\Reads P.h y d' bs/\SeqAt.shaped d=true/\SeqAt.shaped d'=true/\PyData.eqv d d'=c:=by
 rcases GM e with e|e
 .cases u<;>try (cases e;done)
  .obtain ⟨q,e1,rfl⟩:=aL e;cases RD.view hu;cases zC e1 hv;exact ⟨_,_,_,_,.bool _,.bool _,rfl,rfl,by simp [PyData.eqv]⟩
  .obtain ⟨j,e1,rfl⟩:=aL e;obtain ⟨t,rfl⟩:=RD.view hu;obtain ⟨s,rfl⟩:=dR e1 hv;exact ⟨_,_,_,_,.int _ _,.int _ _,rfl,rfl,by simp only [PyData.eqv];rfl⟩
  .obtain ⟨s,e1,rfl⟩:=aL e;obtain ⟨h1,t,rfl⟩:=RD.view hu;obtain ⟨h2,t',rfl⟩:=ed e1 hv;refine ⟨_,_,_,_,.str _ _,.str _ _,kG (pR h1.1) (Sy 0) (by decide),kG (pR h2.1) (Sy 0) (by decide),?_⟩;rw[Bool.eq_iff_iff,decide_eq_true_eq,<-DU];simp only [PyData.eqv]
 .obtain ⟨h,rfl⟩:=ec e;obtain ⟨as,a1,a2,a3⟩:=kL I 8 _ _ hu (ah h);obtain ⟨bs,b1,b2,b3⟩:=kL I 8 _ _ hv (aq h);refine ⟨_,_,as,bs,a1,b1,kG a2 a3 (by decide),kG b2 b3 (by decide),?_⟩;rw[Bool.eq_iff_iff,decide_eq_true_eq];exact uP 8 u v (ah h) (aq h)
structure CO where
 op:CmpOp
 g:D->D->Option Bool
 ok:∀ {C:bF} {A:Around} {P:Pt} {u v:D} {c:Bool} {x y:Value} {Q E:Value->Shared->Prop},gd C->A.units+64<cLine->aR C P->gm C P x u->gm C P y v->g u v=some c->oX C P (.bool c) Q->wpAny C.M A (compareOp op x y) Q E P.s
noncomputable def fh:CO:=⟨.Eq,MW,fun _ hu I a b e k=>by
 obtain ⟨d,d',as,bs,r1,r2,s1,s2,rfl⟩:=E1 I a b e;exact eq_dataH r1 r2 s1 s2 hu (k.here I (.bool _))⟩
noncomputable def xk:CO:=⟨.NotEq,fun u v=>(MW u v).map fun c=> !c,fun _ hu I a b e k=>by
 obtain ⟨c,e',rfl⟩:=aL e;obtain ⟨d,d',as,bs,r1,r2,s1,s2,rfl⟩:=E1 I a b e';exact ne_dataH r1 r2 s1 s2 hu (k.here I (.bool _))⟩
noncomputable def Fk (f:Int->Int->Bool) (u v:D):Option Bool:=(iD u).bind fun a=>(iD v).map fun b=>f a b
theorem m5 {f:Int->Int->Bool} {v:D} {x:Value} {c:Bool} (h:Fk f u v=some c) (hu:gm C P x u) (hv:gm C P y v):∃ a b t s,x= .int a t/\y= .int b s/\c=f a b:=by
 obtain ⟨a,e1,h⟩:=ak h;obtain ⟨b,e2,h⟩:=aL h;obtain ⟨t,e4⟩:=dR e1 hu;obtain ⟨s,e5⟩:=dR e2 hv;exact ⟨a,b,t,s,e4,e5,h.symm⟩
noncomputable def r7:CO:=⟨.Lt,Fk fun a b=>decide (a<b),fun _ _ I a b e k=>by
 obtain ⟨i,j,t,s,rfl,rfl,rfl⟩:=m5 e a b;exact lt_int (k.here I (.bool _))⟩
noncomputable def Cw:CO:=⟨.Gt,Fk fun a b=>decide (a>b),fun _ _ I a b e k=>by
 obtain ⟨i,j,t,s,rfl,rfl,rfl⟩:=m5 e a b;exact gt_int (k.here I (.bool _))⟩
noncomputable def M7:CO:=⟨.GtE,Fk fun a b=>decide (a≥b),fun _ _ I a b e k=>by
 obtain ⟨i,j,t,s,rfl,rfl,rfl⟩:=m5 e a b;exact ge_int (k.here I (.bool _))⟩
noncomputable def F3:CO:=⟨.LtE,Fk fun a b=>decide (a<=b),fun _ _ I a b e k=>by
 obtain ⟨i,j,t,s,rfl,rfl,rfl⟩:=m5 e a b;exact le_int (k.here I (.bool _))⟩
noncomputable def NI:List Nat->List Nat->Bool
 |[],_=>true
 |_::_,[]=>false
 |a::r,b::q=>if a<b then true else if a=b then NI r q else false
theorem En:∀ a b:List Nat,NI a b= !decide (b<a)
 |[],b=>by show true=_;simp
 |x::r,[]=>by show false=_;simp
 |x::r,y::q=>by
  have ih:=En r q;show (if x<y then true else if x=y then NI r q else false)=_;simp only [List.cons_lt_cons_iff];by_cases h1:x<y
  .simp [h1];omega
  .by_cases h2:x=y
   .subst h2;simp [ih]
   .have h3:y<x:=by exact Nat.lt_of_le_of_ne (To.mp h1) (Ne.symm h2)
    simp [h1,h2,h3]
noncomputable def sJ:CO:=⟨.LtE,fun u v=>(sD u).bind fun a=>(sD v).map fun b=>NI a b,fun _ _ I a b e k=>by
 obtain ⟨s,e1,e⟩:=ak e;obtain ⟨t,e2,rfl⟩:=aL e;obtain ⟨_,t1,rfl⟩:=ed e1 a;obtain ⟨_,t2,rfl⟩:=ed e2 b;refine PySem.P.le_str ?_;have:=k.here I (.bool _);rw[En] at this
 simpa using this⟩
noncomputable def Sd:D->Option Bool
 | .none=>some true
 | .int _| .str _| .tup _| .lst _| .bool _=>some false
 |_=>none
noncomputable def MJ (u v:D):Option Bool:=match v with
 | .none=>Sd u
 |_=>none
theorem Hj {v:D} {x:Value} {c:Bool} (h:MJ u v=some c) (hu:gm C P x u) (hv:gm C P y v):y= .none/\((x= .none/\c=true)∨(x≠ .none/\c=false)):=by
 cases v<;>try (cases h;done)
 refine ⟨RD.view hv,?_⟩;cases u<;>try (cases h;done)
 .cases h;exact .inl ⟨RD.view hu,rfl⟩
 .cases h;cases RD.view hu;exact .inr ⟨nofun,rfl⟩
 .cases h;obtain ⟨t,rfl⟩:=RD.view hu;exact .inr ⟨nofun,rfl⟩
 .cases h;obtain ⟨_,t,rfl⟩:=RD.view hu;exact .inr ⟨nofun,rfl⟩
 .cases h;obtain ⟨_,_⟩:=RD.view hu;exact .inr ⟨nofun,rfl⟩
 .cases h;obtain ⟨_,_,_⟩:=hu;exact .inr ⟨nofun,rfl⟩
noncomputable def Lf:CO:=⟨.Is,MJ,fun _ _ I a b e k=>by
 obtain ⟨rfl,⟨rfl,rfl⟩|⟨hn,rfl⟩⟩:=Hj e a b
 .exact wpAny_is_self (by decide) (k.here I (.bool _))
 .exact is_none_ne hn (k.here I (.bool _))⟩
noncomputable def LY:List Nat->Option Nat
 |[c]=>some c
 |_=>none
noncomputable def QO (u v:D):Option Bool:=(sD u).bind fun s=>(LY s).bind fun c=>(sD v).map fun t=>decide (c∈t)
theorem Au {v:D} {x:Value} {c:Bool} (h:QO u v=some c) (hu:gm C P x u) (hv:gm C P y v):∃ a l t s,x= .str (b7 [a]) t/\y= .str (b7 l) s/\c=decide (a∈l):=by
 obtain ⟨s,e1,h⟩:=ak h;obtain ⟨a,e2,h⟩:=ak h;obtain ⟨l,e3,rfl⟩:=aL h;obtain ⟨_,t1,e4⟩:=ed e1 hu;obtain ⟨_,t2,e5⟩:=ed e3 hv;obtain rfl:s=[a]:=by
  rcases s with _|⟨z,_|⟨w,y⟩⟩<;>first|(cases e2;done)|(cases e2;rfl)
 exact ⟨a,l,t1,t2,e4,e5,rfl⟩
noncomputable def zB:CO:=⟨.In,QO,fun _ _ I a b e k=>by
 obtain ⟨i,l,t,s,rfl,rfl,rfl⟩:=Au e a b;exact in_str (by rw[StrLaws.found_one];exact k.here I (.bool _))⟩
noncomputable def H2:CO:=⟨.NotIn,fun u v=>(QO u v).map fun c=> !c,fun _ _ I a b e k=>by
 obtain ⟨c,e',rfl⟩:=aL e;obtain ⟨i,l,t,s,rfl,rfl,rfl⟩:=Au e' a b;exact notIn_str (by rw[StrLaws.found_one];exact k.here I (.bool _))⟩
open Classical in
noncomputable def KH (u v:D):Option Bool:=(lD v).bind fun l=>ax ((pl 8 u&&l.all (pl 8))=true) (decide (u∈l))
open Classical in
theorem Av (I:aR C P) {v:D} {x:Value} {c:Bool} (hu:gm C P x u) (hv:gm C P y v) (e:KH u v=some c):∃ d ds as bs,Reads P.h x d as/\Reads P.h y (.list ds) bs/\PyData.canLayAll0 ds=true/\d.canLay0=true/\PyData.depthAll ds<=9/\d.depth<=9/\(ds.any fun z=>PyData.eqv z d)=c:=by
 obtain ⟨l,e1,e⟩:=ak e;obtain ⟨h,rfl⟩:=ec e;obtain @⟨a,vs,n,g,_,r⟩:=h_ e1 hv;obtain ⟨as,a1,a2,a3⟩:=kL I 8 _ _ hu (ah h);obtain ⟨bs,b1,b2,b3⟩:=hJ (fun x v r e=>kL I 8 x v (lL I r) e) r (aq h);refine ⟨_,_,as,_,a1,reads_list_at g rfl rfl (by simpa using b1),b2,a2,b3,a3,?_⟩;rw[Bool.eq_iff_iff,decide_eq_true_eq,List.any_map,List.any_eq_true];constructor
 .rintro ⟨z,hz,q⟩;exact (uP 8 z u (List.all_eq_true.mp (aq h) z hz) (ah h)).mp q ▸ hz
 .exact fun hz=>⟨u,hz,(uP 8 u u (ah h) (ah h)).mpr rfl⟩
noncomputable def F4:CO:=⟨.In,KH,fun _ hu I a b e k=>by
 obtain ⟨d,ds,as,bs,r1,r2,h1,h2,h3,h4,rfl⟩:=Av I a b e;exact SeqAt.in_list_reads r2 r1 h1 h2 (Mm hu h3) (k.here I (.bool _))⟩
noncomputable def l9:CO:=⟨.NotIn,fun u v=>(KH u v).map fun c=> !c,fun _ hu I a b e k=>by
 obtain ⟨c,e',rfl⟩:=aL e;obtain ⟨d,ds,as,bs,r1,r2,h1,h2,h3,h4,rfl⟩:=Av I a b e';exact SeqAt.notIn_list_reads r2 r1 h1 h2 (Mm hu h3) (k.here I (.bool _))⟩
end
noncomputable def CX (g:D->D->Option Bool) (x y:PV):PM Bool:=fun σ=>(rd σ x).bind fun u=>(rd σ y).bind fun v=>(g u v).map fun c=>(.ok c,σ)
theorem ng {K:R Bool->aE->Prop} {g:D->D->Option Bool} {y:PV} (h:Wp K (CX g x y σ)):∃ u v c,rd σ x=some u/\rd σ y=some v/\g u v=some c/\K (.ok c) σ:=by
 unfold CX at h;cases e1:rd σ x with
 |none=>rw[e1] at h;exact h.elim
 |some u=>
 cases e2:rd σ y with
 |none=>rw[e1,e2] at h;exact h.elim
 |some v=>
 cases e3:g u v with
 |none=>rw[e1,e2,Sl,Sl,e3] at h;exact h.elim
 |some z=>rw[e1,e2,Sl,Sl,e3] at h;exact ⟨u,v,z,rfl,rfl,e3,h⟩
noncomputable def Q5:D->Option Bool
 | .bool b=>some b
 | .none=>some false
 | .int i=>some (i !=0)
 | .str s=>some (!s.isEmpty)
 |_=>none
noncomputable def NA (v:PV):PM Bool:=GN ((mZ v).bind Q5)
noncomputable def bV (b:Bool):PV:=.d (.bool b)
section
variable {Q:Bool->Shared->Prop}
theorem LL (I:aR C P):∀ {x:D} {v:Value} {b:Bool},RD C P.own x v->Q5 x=some b->(∀ P',cj P P'->aR C P'->P'.σ=P.σ->Q b P'.s)->wpAny C.M A (truthy v) Q E P.s:=by
 intro Z0 v b r e k;cases Z0 with
 |bool c=>
  cases e;rw[show v= .bool b from r.view];exact wpAny_truthy_bool (k P (.refl P) I rfl)
 |none=>
  cases e;rw[show v= .none from r.view];exact truthy_none (k P (.refl P) I rfl)
 |int i=>
  cases e;obtain ⟨t,q⟩:∃ t,v= .int i t:=r.view;rw[q];exact truthy_int (k P (.refl P) I rfl)
 |str l=>
  cases e;obtain ⟨hx,t,q⟩:jN l/\∃ t,v= .str (b7 l) t:=r.view;rw[q];have hl:=hx.2;refine PySem.P.truthy_str (by simp [Str.length,dZ] at hl ⊢;exact S0.mpr (SM hl (Sr rfl))) ?_;have h:=k (P.to P.h (P.s.toks+1+1)) (.to ..) (I.to fun _ _ e=>e) rfl;rw[show ((Str.length (b7 l):Int) !=0)= !l.isEmpty by cases l<;>simp [Str.length];exact O7];exact h
 |_=>cases e
theorem rA {x:D}:∀ {p:PV},mZ p=some x->RV C P v p->RD C P.own x v
 | .d _,e,r=>by cases e;exact r
theorem Da {K:R Bool->aE->Prop} (I:aR C P) (r:RV C P v p) (w:Wp K (NA p P.σ)) (h:dN C A oW P K Q E):wpAny C.M A (truthy v) Q E P.s:=by
 refine bu fun G9 k9=> ?_;obtain ⟨b,e,k⟩:=fO w;obtain ⟨x,e1,e2⟩:=ak e;refine k9 ?_;exact LL I (rA e1 r) e2 fun P' g I' e=>h.ok b b P' g I' rfl (e ▸ k)
theorem nU {v:D} {x:Value} {c:Bool} (o:CO) (G:gd C) (hu:A.units+64<cLine) (I:aR C P) (a:gm C P x u) (b:gm C P y v) (e:o.g u v=some c) (k:∀ P',cj P P'->aR C P'->P'.σ=P.σ->Q c P'.s):
  wpAny C.M A (compareOp o.op x y) (fun z s=>wpAny C.M A (truthy z) Q E s) E P.s:=
 o.ok G hu I a b e fun z P' g I' r e'=>by
  rw[show z= .bool c from r.view];exact wpAny_truthy_bool (k P' g I' e')
end
theorem dN.bindB {Rel:Pt->β->α->Prop} {K:R α->aE->Prop} {Q:β->Shared->Prop} {f:Bool->PM α} {Q':Bool->Shared->Prop} (h:dN C A Rel P K Q E) (k:∀ b P',cj P P'->aR C P'->Wp K (f b P'.σ)->dN C A Rel P' K Q E->Q' b P'.s):dN C A oW P (bK K f) Q' E:=
 ⟨fun p v P' g i r w=>(show v=p from r) ▸ k p P' g i w (h.mono g),h.ex⟩
section
variable {KB:R Bool->aE->Prop} {QB:Bool->Shared->Prop}
theorem Cx.lt (X:Cx):X.A.units+64<cLine:=O6 X.uni
theorem La (o:CO) (a b:CE) (h:xd (fun l op r=>op==o.op&&behindInMarks op r==false&&a.is X.sx l&&b.is X.sx r) e=true) (I:aR X.C P) (G:EnvOK X P ρ) (w:Wp K (bU (a.ev X.ker ρ) (fun x=>bU (b.ev X.ker ρ) fun y=>bU (CX o.g x y) fun c=>ret (bV c)) P.σ)) (p:bx X (RV X.C) P K Q E):
  wpAny X.M X.A (eval e X.env) Q E P.s:=
 rR (fun e=>wpAny X.M X.A (eval e X.env) Q E P.s) h fun l op r pos h=>wpAny_Compare1 (a.ok X l ρ P _ _ E (aq (ah h)) I G (aQ w) (p.bind fun x v P1 g1 I1 r1 w p=>
  b.ok X r ρ P1 _ _ E (aq h) I1 (G.ext g1) (aQ w) (p.bind fun y u P2 g2 I2 r2 w p=>by
   refine bu fun G9 k9=> ?_;obtain ⟨i,j,z,e1,e2,e3,k⟩:=ng (aQ w);refine k9 ?_;rw[bN (ah (ah (ah h)))];exact o.ok X.good X.lt I2 (bh I2 (r1.ext g2.toExt) e1) (bh I2 r2 e2) e3 (p.fin k)))) (bN (aq (ah (ah h))))
theorem Gg (o:CO) (a b:CE) (h:xd (fun l op r=>op==o.op&&behindInMarks op r==false&&a.is X.sx l&&b.is X.sx r) e=true) (I:aR X.C P) (G:EnvOK X P ρ) (w:Wp KB (bU (a.ev X.ker ρ) (fun x=>bU (b.ev X.ker ρ) fun y=>CX o.g x y) P.σ)) (p:bx X oW P KB QB E):
  wpAny X.M X.A (isTrue e X.env (eval e X.env)) QB E P.s:=
 rR (fun e=>wpAny X.M X.A (isTrue e X.env (eval e X.env)) QB E P.s) h fun l op r pos h=>wpAny_isTrue_Compare1 (a.ok X l ρ P _ _ E (aq (ah h)) I G (aQ w) (p.bind fun x v P1 g1 I1 r1 w p=>
  b.ok X r ρ P1 _ _ E (aq h) I1 (G.ext g1) (aQ w) (p.bind fun y u P2 g2 I2 r2 w p=>by
   refine bu fun G9 k9=> ?_;obtain ⟨i,j,z,e1,e2,e3,k⟩:=ng w;refine k9 ?_;rw[bN (ah (ah (ah h)))];exact nU o X.good X.lt I2 (bh I2 (r1.ext g2.toExt) e1) (bh I2 r2 e2) e3 fun P' g I' e=>p.ok z z P' g I' rfl (e ▸ k)))) (bN (aq (ah (ah h))))
noncomputable def QX (m:PM PV) (g1 g2:D->D->Option Bool) (x y:PV):PM PV:=bU (CX g1 x y) fun c=>if c then bU m fun z=>bU (CX g2 y z) fun c=>ret (bV c) else ret (bV false)
theorem HX (o q:CO) (a b c:CE) (h:rT (fun l o1 o2 r s=>o1==o.op&&o2==q.op&&lastMarks [o1,o2] [r,s]==false&&a.is X.sx l&&b.is X.sx r&&c.is X.sx s) e=true) (I:aR X.C P) (G:EnvOK X P ρ) (w:Wp K (bU (a.ev X.ker ρ) (fun x=>bU (b.ev X.ker ρ) fun y=>QX (c.ev X.ker ρ) o.g q.g x y) P.σ)) (p:bx X (RV X.C) P K Q E):
  wpAny X.M X.A (eval e X.env) Q E P.s:=
 oE (fun e=>wpAny X.M X.A (eval e X.env) Q E P.s) h fun l o1 o2 r s pos h=>Compare_chain (a.ok X l ρ P _ _ E (aq (ah (ah h))) I G (aQ w) (p.bind fun x v P1 g1 I1 r1 w p=>
  chain_link (b.ok X r ρ P1 _ _ E (aq (ah h)) I1 (G.ext g1) (aQ w) (p.bind fun y u P2 g2 I2 r2 w p=>by
   refine bu fun G9 k9=> ?_;obtain ⟨i,j,z,e1,e2,e3,k⟩:=ng (aQ w);refine k9 ?_;rw[bN (ah (ah (ah (ah (ah h)))))];refine o.ok X.good X.lt I2 (bh I2 (r1.ext g2.toExt) e1) (bh I2 r2 e2) e3 fun t P3 g3 I3 r3 e'=> ?_;rw[show t= .bool z from r3.view];refine wpAny_truthy_bool ?_;have k:=e' ▸ k;cases z with
   |false=>exact ((p.mono g3).fin k).here I3 (.bool _)
   |true=>
    refine chain_last (c.ok X s ρ P3 _ _ E (aq h) I3 ((G.ext g1).ext (g2.trans g3)) (aQ k) ((p.mono g3).bind fun t' v' P4 g4 I4 r4 w p=> ?_));refine bu fun G9 k9=> ?_;obtain ⟨i',j',z',f1,f2,f3,k⟩:=ng (aQ w);refine k9 ?_;rw[bN (aq (ah (ah (ah (ah h)))))];exact q.ok X.good X.lt I4 (bh I4 (r2.ext (g3.trans g4).toExt) f1) (bh I4 r4 f2) f3 (p.fin k))))) (bN (aq (ah (ah (ah h)))))
theorem A9 {M:Model} {A:Around} {E:Value->Shared->Prop} {s:Shared} {pos:Pos} {a:Value} {op op':CmpOp} {ops:List CmpOp} {r r':Sem Value} {rs:List (Sem Value)} {Q:Bool->Shared->Prop}
  (h:wpAny M A r (fun b s₁=>wpAny M A (compareOp op a b) (fun c s₂=>wpAny M A (PySem.truthy c)
   (fun t s₃=>if t then wpAny M A (testChain pos b (op'::ops) (r'::rs)) Q E s₃ else Q false s₃) E s₂) E s₁) E s):
  wpAny M A (testChain pos a (op::op'::ops) (r::r'::rs)) Q E s:=by
 show wpAny M A (do
  let rv<-holding [a] r
  standAt pos
  let c<-holding [a,rv] (compareOp op a rv)
  release [a,rv] [c]
  if<-holding [c,rv] (PySem.truthy c) then testChain pos rv (op'::ops) (r'::rs) else pure false) Q E s
 refine Sz (wpAny_holding (wpAny_mono h (fun b s₁ h₁=>Sz (wpAny_standAt (Sz (wpAny_holding (wpAny_mono h₁ (fun c s₂ h₂=>
  Sz (wpAny_release' (Sz (wpAny_holding (wpAny_mono h₂ (fun t s₃ h₃=> ?_) fun _ _ x=>x))))) fun _ _ x=>x))))) fun _ _ x=>x))
 cases t with
 |false=>exact SA h₃
 |true=>exact h₃
theorem A_ {M:Model} {A:Around} {E:Value->Shared->Prop} {s:Shared} {pos:Pos} {a:Value} {op:CmpOp} {r:Sem Value} {Q:Bool->Shared->Prop}
  (h:wpAny M A r (fun b s₁=>wpAny M A (compareOp op a b) (fun c s₂=>wpAny M A (PySem.truthy c) Q E s₂) E s₁) E s):wpAny M A (testChain pos a [op] [r]) Q E s:=by
 show wpAny M A (do
  let rv<-holding [a] r
  standAt pos
  let c<-operate [a,rv] (compareOp op a rv)
  holding [c] (PySem.truthy c)) Q E s
 exact Sz (wpAny_holding (wpAny_mono h (fun b s₁ h₁=>Sz (wpAny_standAt (Sz (wpAny_operate' (wpAny_mono h₁ (fun c s₂ h₂=>wpAny_holding h₂) fun _ _ x=>x))))) fun _ _ x=>x))
noncomputable def LM (m:PM PV) (g1 g2:D->D->Option Bool) (x y:PV):PM Bool:=bU (CX g1 x y) fun c=>if c then bU m fun z=>CX g2 y z else ret false
theorem Dc (o q:CO) (a b c:CE) (h:rT (fun l o1 o2 r s=>o1==o.op&&o2==q.op&&lastMarks [o1,o2] [r,s]==false&&a.is X.sx l&&b.is X.sx r&&c.is X.sx s) e=true) (I:aR X.C P) (G:EnvOK X P ρ) (w:Wp KB (bU (a.ev X.ker ρ) (fun x=>bU (b.ev X.ker ρ) fun y=>LM (c.ev X.ker ρ) o.g q.g x y) P.σ)) (p:bx X oW P KB QB E):
  wpAny X.M X.A (isTrue e X.env (eval e X.env)) QB E P.s:=
 oE (fun e=>wpAny X.M X.A (isTrue e X.env (eval e X.env)) QB E P.s) h fun l o1 o2 r s pos h=>isTrue_chain (a.ok X l ρ P _ _ E (aq (ah (ah h))) I G (aQ w) (p.bind fun x v P1 g1 I1 r1 w p=>
  A9 (b.ok X r ρ P1 _ _ E (aq (ah h)) I1 (G.ext g1) (aQ w) (p.bind fun y u P2 g2 I2 r2 w p=>by
   refine bu fun G9 k9=> ?_;obtain ⟨i,j,z,e1,e2,e3,k⟩:=ng (aQ w);refine k9 ?_;rw[bN (ah (ah (ah (ah (ah h)))))];refine nU o X.good X.lt I2 (bh I2 (r1.ext g2.toExt) e1) (bh I2 r2 e2) e3 fun P3 g3 I3 e'=> ?_;have k:=e' ▸ k;cases z with
   |false=>exact (p.mono g3).here I3 rfl k
   |true=>
    refine A_ (c.ok X s ρ P3 _ _ E (aq h) I3 ((G.ext g1).ext (g2.trans g3)) (aQ k) ((p.mono g3).bind fun t' v' P4 g4 I4 r4 w p=> ?_));refine bu fun G9 k9=> ?_;obtain ⟨i',j',z',f1,f2,f3,k⟩:=ng w;refine k9 ?_;rw[bN (aq (ah (ah (ah (ah h)))))];exact nU q X.good X.lt I4 (bh I4 (r2.ext (g3.trans g4).toExt) f1) (bh I4 r4 f2) f3 fun P' g I' e=>p.ok z' z' P' g I' rfl (e ▸ k))))) (bN (aq (ah (ah (ah h)))))
theorem JW (a:CE) (h:gk (fun o x _=>Lx false o&&a.is X.sx x) e=true) (I:aR X.C P) (G:EnvOK X P ρ) (w:Wp K (bU (a.ev X.ker ρ) (fun x=>bU (GN ((mZ x).bind iD)) fun i=>ret (.d (.int (-i)))) P.σ)) (p:bx X (RV X.C) P K Q E):wpAny X.M X.A (eval e X.env) Q E P.s:=
 ky (fun e=>wpAny X.M X.A (eval e X.env) Q E P.s) h fun o x pos h=>Ga (fun o=>wpAny X.M X.A (eval (.UnaryOp o x pos) X.env) Q E P.s) (ah h) (wpAny_UnaryOp (a.ok X x ρ P _ _ E (aq h) I G (aQ w) (p.bind fun y v P1 g1 I1 r1 w p=>by
  refine bu fun G9 k9=> ?_;obtain ⟨i,e1,k⟩:=fO (aQ w);obtain ⟨z,e2,e3⟩:=ak e1;obtain ⟨t,q⟩:=dR e3 (lL I1 (rA e2 r1));refine k9 ?_;rw[q];exact neg_int ((p.fin k).tok I1 (.int _ _) _))))
theorem Gc (a:CT) (h:gk (fun o x _=>Lx true o&&a.is X.sx x) e=true) (I:aR X.C P) (G:EnvOK X P ρ) (w:Wp KB (bU (a.ts X.ker ρ) (fun b=>ret !b) P.σ)) (p:bx X oW P KB QB E):wpAny X.M X.A (isTrue e X.env (eval e X.env)) QB E P.s:=
 ky (fun e=>wpAny X.M X.A (isTrue e X.env (eval e X.env)) QB E P.s) h fun o x pos h=>F' (fun o=>wpAny X.M X.A (isTrue (.UnaryOp o x pos) X.env (eval (.UnaryOp o x pos) X.env)) QB E P.s) (ah h)
  (isTrue_not (a.ok X x ρ P _ _ E (aq h) I G (aQ w) ⟨fun b c P2 g2 I2 e k=>p.ok (!b) (!c) P2 g2 I2 (congrArg _ e) k,p.ex⟩))
theorem Ks (t:CT) (a b:CE) (h:pJ (fun te ae be _=>t.is X.sx te&&a.is X.sx ae&&b.is X.sx be) e=true) (I:aR X.C P) (G:EnvOK X P ρ) (w:Wp K (bU (t.ts X.ker ρ) (fun c=>if c then a.ev X.ker ρ else b.ev X.ker ρ) P.σ)) (p:bx X (RV X.C) P K Q E):We X e Q E P:=
 vb (fun e=>We X e Q E P) h fun te ae be pos h=>IfExp_ (t.ok X te ρ P _ _ E (ah (ah h)) I G (aQ w) (p.bindB fun c P1 g1 I1 w p=>by
  cases c with
  |true=>exact a.ok X ae ρ P1 _ _ E (aq (ah h)) I1 (G.ext g1) w p
  |false=>exact b.ok X be ρ P1 _ _ E (aq h) I1 (G.ext g1) w p))
end
noncomputable def DO (e:Expr):Bool:=e.ctorIdx==16||e.ctorIdx==19||e.ctorIdx==20||e.ctorIdx==21||e.ctorIdx==23
theorem Bv (h:DO e=true) (env:Env) (whole:Sem Value):isTrue e env whole=(do let v<-whole;standAt e.pos;holding [v] (PySem.truthy v)):=by
 cases e<;>first|rfl|(cases h;done)
noncomputable def sH (o:CO) (a b:CE):CE:=⟨fun K ρ=>bU (a.ev K ρ) fun x=>bU (b.ev K ρ) fun y=>bU (CX o.g x y) fun c=>ret (bV c),fun s=>xd fun l op r=>op==o.op&&behindInMarks op r==false&&a.is s l&&b.is s r,fun _ _ _ _ _ _ _ h I G w p=>La o a b h I G w p⟩
noncomputable def a8 (o:CO) (a b:CE):CT:=⟨fun K ρ=>bU (a.ev K ρ) fun x=>bU (b.ev K ρ) fun y=>CX o.g x y,fun s=>xd fun l op r=>op==o.op&&behindInMarks op r==false&&a.is s l&&b.is s r,fun _ _ _ _ _ _ _ h I G w p=>Gg o a b h I G w p⟩
noncomputable def Ct (o q:CO) (a b c:CE):CE:=⟨fun K ρ=>bU (a.ev K ρ) fun x=>bU (b.ev K ρ) fun y=>QX (c.ev K ρ) o.g q.g x y,fun s=>rT fun l o1 o2 r t=>o1==o.op&&o2==q.op&&lastMarks [o1,o2] [r,t]==false&&a.is s l&&b.is s r&&c.is s t,fun _ _ _ _ _ _ _ h I G w p=>HX o q a b c h I G w p⟩
noncomputable def De (o q:CO) (a b c:CE):CT:=⟨fun K ρ=>bU (a.ev K ρ) fun x=>bU (b.ev K ρ) fun y=>LM (c.ev K ρ) o.g q.g x y,fun s=>rT fun l o1 o2 r t=>o1==o.op&&o2==q.op&&lastMarks [o1,o2] [r,t]==false&&a.is s l&&b.is s r&&c.is s t,fun _ _ _ _ _ _ _ h I G w p=>Dc o q a b c h I G w p⟩
noncomputable def neg (a:CE):CE:=⟨fun K ρ=>bU (a.ev K ρ) fun x=>bU (GN ((mZ x).bind iD)) fun i=>ret (.d (.int (-i))),fun s=>gk fun o x _=>Lx false o&&a.is s x,fun _ _ _ _ _ _ _ h I G w p=>JW a h I G w p⟩
noncomputable def gT (a:CT):CT:=⟨fun K ρ=>bU (a.ts K ρ) fun b=>ret !b,fun s=>gk fun o x _=>Lx true o&&a.is s x,fun _ _ _ _ _ _ _ h I G w p=>Gc a h I G w p⟩
noncomputable def yH (t:CT) (a b:CE):CE:=⟨fun K ρ=>bU (t.ts K ρ) fun c=>if c then a.ev K ρ else b.ev K ρ,fun s=>pJ fun te ae be _=>t.is s te&&a.is s ae&&b.is s be,fun _ _ _ _ _ _ _ h I G w p=>Ks t a b h I G w p⟩
noncomputable def vh (a:CE):CT:=⟨fun K ρ=>bU (a.ev K ρ) NA,fun s e=>DO e&&a.is s e,fun X e ρ P K Q E h I G w p=>isTrue_plain (a.ok X e ρ P _ _ E (aq h) I G (aQ w) (p.bind fun y v P1 g1 I1 r1 w p=>Da I1 r1 w p)) (Bv (ah h) _ _)⟩
structure CA where
 ev:c9->bj->PM PV
 is:Sx->List Expr->Bool
 ok:∀ (X:Cx) (es:List Expr) (pos:Pos) (ρ:bj) (P:Pt) (K:R PV->aE->Prop) (Q E:Value->Shared->Prop),is X.sx es=true->aR X.C P->EnvOK X P ρ->Wp K (ev X.ker ρ P.σ)->bx X (RV X.C) P K Q E->wpAny X.M X.A (eval (.BoolOp .And es pos) X.env) Q E P.s
structure xm (op:BoolOp) where
 ts:c9->bj->PM Bool
 is:Sx->List Expr->Bool
 ok:∀ (X:Cx) (es:List Expr) (pos:Pos) (whole:Sem Value) (ρ:bj) (P:Pt) (K:R Bool->aE->Prop) (Q:Bool->Shared->Prop) (E:Value->Shared->Prop),is X.sx es=true->aR X.C P->EnvOK X P ρ->Wp K (ts X.ker ρ P.σ)->bx X oW P K Q E->wpAny X.M X.A (isTrue (.BoolOp op es pos) X.env whole) Q E P.s
noncomputable def kY {α:Type} (f:α->Bool) (g:List α->Bool):List α->Bool
 |a::r=>f a&&g r
 |[]=>false
theorem cK (q:List α->Prop) {f:α->Bool} {g:List α->Bool}:∀ {l:List α},kY f g l=true->(∀ a r,f a=true->g r=true->q (a::r))->q l
 |a::r,h,k=>k a r (ah h) (aq h)
 |[],h,_=>nomatch h
noncomputable def EG {α:Type} (f:α->Bool) (g:List α->Bool):List α->Bool
 |a::b::r=>f a&&g (b::r)
 |_=>false
theorem yO (q:List α->Prop) {f:α->Bool} {g:List α->Bool}:∀ {l:List α},EG f g l=true->(∀ a b r,f a=true->g (b::r)=true->q (a::b::r))->q l
 |a::b::r,h,k=>k a b r (ah h) (aq h)
 |[],h,_=>nomatch h
 |[_],h,_=>nomatch h
section
variable {whole:Sem Value} {KB:R Bool->aE->Prop} {QB:Bool->Shared->Prop}
theorem Ia (a:CE) (l:CA) (h:EG (a.is X.sx) (l.is X.sx) es=true) (I:aR X.C P) (G:EnvOK X P ρ) (w:Wp K (bU (a.ev X.ker ρ) (fun x=>bU (NA x) fun b=>if b then l.ev X.ker ρ else ret x) P.σ)) (p:bx X (RV X.C) P K Q E):wpAny X.M X.A (eval (.BoolOp .And es pos) X.env) Q E P.s:=
 yO (fun es=>wpAny X.M X.A (eval (.BoolOp .And es pos) X.env) Q E P.s) h fun e e2 r h1 h2=>BoolOp_and (a.ok X e ρ P _ _ E h1 I G (aQ w) (p.bind fun x v P1 g1 I1 r1 w p=>
  Da I1 r1 (aQ w) (p.bindB fun c P2 g2 I2 w p=>by
   cases c with
   |true=>exact l.ok X _ pos ρ P2 _ _ E h2 I2 (G.ext (g1.trans g2)) w p
   |false=>exact p.here I2 (r1.ext g2.toExt) w)))
theorem Df (a:CT) (l:xm .And) (h:kY (a.is X.sx) (l.is X.sx) es=true) (I:aR X.C P) (G:EnvOK X P ρ) (w:Wp KB (bU (a.ts X.ker ρ) (fun b=>if b then l.ts X.ker ρ else ret false) P.σ)) (p:bx X oW P KB QB E):wpAny X.M X.A (isTrue (.BoolOp .And es pos) X.env whole) QB E P.s:=
 cK (fun es=>wpAny X.M X.A (isTrue (.BoolOp .And es pos) X.env whole) QB E P.s) h fun e r h1 h2=>isTrue_and (a.ok X e ρ P _ _ E h1 I G (aQ w) (p.bindB fun c P1 g1 I1 w p=>by
  cases c with
  |true=>exact l.ok X _ pos whole ρ P1 _ _ E h2 I1 (G.ext g1) w p
  |false=>exact p.here I1 rfl w))
theorem Gb (a:CT) (l:xm .Or) (h:kY (a.is X.sx) (l.is X.sx) es=true) (I:aR X.C P) (G:EnvOK X P ρ) (w:Wp KB (bU (a.ts X.ker ρ) (fun b=>if b then ret true else l.ts X.ker ρ) P.σ)) (p:bx X oW P KB QB E):wpAny X.M X.A (isTrue (.BoolOp .Or es pos) X.env whole) QB E P.s:=
 cK (fun es=>wpAny X.M X.A (isTrue (.BoolOp .Or es pos) X.env whole) QB E P.s) h fun e r h1 h2=>isTrue_or (a.ok X e ρ P _ _ E h1 I G (aQ w) (p.bindB fun c P1 g1 I1 w p=>by
  cases c with
  |false=>exact l.ok X _ pos whole ρ P1 _ _ E h2 I1 (G.ext g1) w p
  |true=>exact p.here I1 rfl w))
end
noncomputable def H' (a:CE):CA:=⟨a.ev,fun s=>one (a.is s),fun X es pos ρ P K Q E h I G w p=>gw (fun es=>wpAny X.M X.A (eval (.BoolOp .And es pos) X.env) Q E P.s) h fun e h=>BoolOp_one (a.ok X e ρ P K Q E h I G w p)⟩
noncomputable def FP (a:CE) (l:CA):CA:=⟨fun K ρ=>bU (a.ev K ρ) fun x=>bU (NA x) fun b=>if b then l.ev K ρ else ret x,fun s=>EG (a.is s) (l.is s),fun _ _ _ _ _ _ _ _ h I G w p=>Ia a l h I G w p⟩
noncomputable def Ib (l:CA):CE:=⟨l.ev,fun s=>kD fun o es _=>Nd true o&&l.is s es,fun X e ρ P K Q E h I G w p=>ig (fun e=>We X e Q E P) h fun o es pos h=>AX (fun o=>wpAny X.M X.A (eval (.BoolOp o es pos) X.env) Q E P.s) (ah h) (l.ok X es pos ρ P K Q E (aq h) I G w p)⟩
noncomputable def vt:xm .And:=⟨fun _ _=>ret true,fun _ es=>es.isEmpty,fun X es pos whole ρ P K Q E h I G w p=>bY (fun es=>wpAny X.M X.A (isTrue (.BoolOp .And es pos) X.env whole) Q E P.s) h (isTrue_and_nil (p.here I rfl w))⟩
noncomputable def ii (a:CT) (l:xm .And):xm .And:=⟨fun K ρ=>bU (a.ts K ρ) fun b=>if b then l.ts K ρ else ret false,fun s=>kY (a.is s) (l.is s),fun _ _ _ _ _ _ _ _ _ h I G w p=>Df a l h I G w p⟩
noncomputable def gS:xm .Or:=⟨fun _ _=>ret false,fun _ es=>es.isEmpty,fun X es pos whole ρ P K Q E h I G w p=>bY (fun es=>wpAny X.M X.A (isTrue (.BoolOp .Or es pos) X.env whole) Q E P.s) h (isTrue_or_nil (p.here I rfl w))⟩
noncomputable def cA (a:CT) (l:xm .Or):xm .Or:=⟨fun K ρ=>bU (a.ts K ρ) fun b=>if b then ret true else l.ts K ρ,fun s=>kY (a.is s) (l.is s),fun _ _ _ _ _ _ _ _ _ h I G w p=>Gb a l h I G w p⟩
noncomputable def Ba (l:xm .And):CT:=⟨l.ts,fun s=>kD fun o es _=>Nd true o&&l.is s es,fun X e ρ P K Q E h I G w p=>ig (fun e=>wpAny X.M X.A (isTrue e X.env (eval e X.env)) Q E P.s) h fun o es pos h=>AX (fun o=>wpAny X.M X.A (isTrue (.BoolOp o es pos) X.env (eval (.BoolOp o es pos) X.env)) Q E P.s) (ah h) (l.ok X es pos _ ρ P K Q E (aq h) I G w p)⟩
noncomputable def pO (l:xm .Or):CT:=⟨l.ts,fun s=>kD fun o es _=>Nd false o&&l.is s es,fun X e ρ P K Q E h I G w p=>ig (fun e=>wpAny X.M X.A (isTrue e X.env (eval e X.env)) Q E P.s) h fun o es pos h=>Lk (fun o=>wpAny X.M X.A (isTrue (.BoolOp o es pos) X.env (eval (.BoolOp o es pos) X.env)) Q E P.s) (ah h) (l.ok X es pos _ ρ P K Q E (aq h) I G w p)⟩
theorem aS {q:α->Prop}:∀ p∈([]:List α),q p:=fun _ h=>absurd h SI
theorem cI (h:iR e=true):starEach (e::es) env=(false,eval e env)::starEach es env:=by
 cases e<;>first|rfl|(cases h;done)
section
variable {K:R (List PV)->aE->Prop} {Q:List Value->Shared->Prop}
theorem Lc (a:CE) (l:CL) (h:kY (fun e=>iR e&&a.is X.sx e) (l.is X.sx) es=true) (I:aR X.C P) (G:EnvOK X P ρ) (w:Wp K (bU (a.ev X.ker ρ) (fun x=>bU (l.ev X.ker ρ) fun xs=>ret (x::xs)) P.σ)) (p:bx X (No X.C) P K Q E):
  wpAny X.M X.A (spliced (backTo pos (starEach es X.env))) Q E P.s:=
 cK (fun es=>wpAny X.M X.A (spliced (backTo pos (starEach es X.env))) Q E P.s) h fun e r h1 h2=>by
  rw[cI (ah h1)];exact Calls.spliced_cons (a.ok X e ρ P _ _ E (aq h1) I G (aQ w) (p.bind fun x v P1 g1 I1 r1 w p=>
   l.ok X r pos ρ P1 _ _ E h2 I1 (G.ext g1) (aQ w) ⟨fun xs vs P2 g2 I2 r2 k=>p.ok (x::xs) (v::vs) P2 g2 I2 (.cons (r1.ext g2.toExt) r2) k,p.ex⟩))
theorem Fp (a:CE) (l:CL) (sx:Sx) (es:List Expr) (env:Env) (pos:Pos) (h:kY (fun e=>iR e&&a.is sx e) (l.is sx) es=true):∀ x∈backTo pos (starEach es env),x.1=false:=
 cK (fun es=>∀ x∈backTo pos (starEach es env),x.1=false) h fun e r h1 h2 x hx=>by
  rw[cI (ah h1)] at hx;rcases Sm.mp hx with q|q
  .rw[q]
  .exact l.star sx r env pos h2 x q
end
noncomputable def az:CL:=⟨fun _ _=>ret [],fun _ es=>es.isEmpty,fun sx es env pos h=>bY (fun es=>∀ x∈backTo pos (starEach es env),x.1=false) h aS,fun X es pos ρ P K Q E h I G w p=>bY (fun es=>wpAny X.M X.A (spliced (backTo pos (starEach es X.env))) Q E P.s) h (Calls.spliced_nil (p.here I .nil w))⟩
noncomputable def aj (a:CE) (l:CL):CL:=⟨fun K ρ=>bU (a.ev K ρ) fun x=>bU (l.ev K ρ) fun xs=>ret (x::xs),fun s=>kY (fun e=>iR e&&a.is s e) (l.is s),Fp a l,fun _ _ _ _ _ _ _ _ h I G w p=>Lc a l h I G w p⟩
section
theorem E9:∀ {ps:List PV} {vs:List Value} {ds:List D},mj C P ps vs->sG ps=some ds->RDs C P.own ds vs:=by
 intro ps
 induction ps with
 |nil=>
  intro vs _ h e;cases e;cases h;exact .nil
 |cons p ps ih=>
  intro vs _ h e;cases h with
  |cons h r=>
  obtain ⟨x,e1,e⟩:=ak e;obtain ⟨xs,e2,rfl⟩:=aL e;exact .cons (rA e1 h) (ih r e2)
noncomputable def xq (mk:List D->PV) (ps:List PV):PM PV:=GN ((sG ps).bind fun ds=>ax (ds.length<=1000) (mk ds))
theorem tU {ds:List D} (r:RDs C w ds vs) (h:ds.length<=1000):vs.toArray.size<=sizeLine:=by
 rw[SJ,r.length];exact Sv h (by decide)
theorem BB (I:aR C P) (r:mj C P ps vs) (w:Wp K (xq (fun ds=>.d (.tup ds)) ps P.σ)) (p:dN C A (RV C) P K Q E):wpAny C.M A (newTuple vs) Q E P.s:=by
 obtain ⟨v,e,k⟩:=fO w;obtain ⟨ds,e1,e⟩:=ak e;obtain ⟨hl,e⟩:=ec e;have r:=E9 r e1;subst e;exact wpAny_newObj_type ((p.fin k).note I (I.newTup vs 0) P.s.toks (pY I (I.off (Sy _)) r rfl)) (tU r hl)
theorem sY (I:aR C P) (r:mj C P ps vs) (w:Wp K (xq (fun ds=>.d (.lst ds)) ps P.σ)) (p:dN C A (RV C) P K Q E):wpAny C.M A (newList vs) Q E P.s:=by
 obtain ⟨v,e,k⟩:=fO w;obtain ⟨ds,e1,e⟩:=ak e;obtain ⟨hl,e⟩:=ec e;have r:=E9 r e1;subst e;exact wpAny_newObj_type ((p.fin k).note I (I.push (o:=bp vs 0) rfl) P.s.toks (tZ I (I.off (Sy _)) r rfl)) (tU r hl)
theorem dN.make (p:dN C A (RV C) P K Q E) (I:aR C P) (n:FX C P h' a o) (r:RF C (hR P.own a (.cell P.σ.length 0)) o f) (k:K (.ok (.p P.σ.length 0)) (P.σ++[.fld f])):Q (.ref a) {P.s with heap:=h',toks:=t}:=
 p.ok (.p P.σ.length 0) _ (P.make h' t a (.fld f)) (.make n.own) (I.make rfl n ⟨_,.mk (cc _ _ _) n.at_ r⟩) (I.rvMake rfl) k
noncomputable def QM (ps:List PV):PM PV:=bU (GN ((sG ps).bind fun ds=>ax (ds.length<=1000) ds)) fun ds=>jo (.fld (.list ds))
theorem BC (I:aR C P) (r:mj C P ps vs) (w:Wp K (QM ps P.σ)) (p:dN C A (RV C) P K Q E):wpAny C.M A (newList vs) Q E P.s:=by
 obtain ⟨ds,e,k⟩:=fO (aQ w);obtain ⟨ds',e1,e⟩:=ak e;obtain ⟨hl,e⟩:=ec e;cases e;have r:=E9 r e1;have hn:=I.push (o:=bp vs 0) rfl;exact wpAny_newObj_type (p.make (f:=.list ds) (t:=P.s.toks) I hn ⟨vs,0,rfl,r.ext (fR hn.own)⟩ k) (tU r hl)
end
section
theorem Jc (l:CL) (h:pI (fun es _ _=>l.is X.sx es) e=true) (I:aR X.C P) (G:EnvOK X P ρ) (w:Wp K (bU (l.ev X.ker ρ) (xq fun ds=>.d (.tup ds)) P.σ)) (p:bx X (RV X.C) P K Q E):We X e Q E P:=
 u7 (fun e=>We X e Q E P) h fun es k pos h=>Tuple_ (l.ok X es pos ρ P _ _ E h I G (aQ w) (p.bind fun xs vs P1 g1 I1 r1 w p=>BB I1 r1 w p))
theorem J' (l:CL) (h:me (fun es _=>l.is X.sx es) e=true) (I:aR X.C P) (G:EnvOK X P ρ) (w:Wp K (bU (l.ev X.ker ρ) (xq fun ds=>.d (.lst ds)) P.σ)) (p:bx X (RV X.C) P K Q E):We X e Q E P:=
 kz (fun e=>We X e Q E P) h fun es pos h=>List_ (l.ok X es pos ρ P _ _ E h I G (aQ w) (p.bind fun xs vs P1 g1 I1 r1 w p=>sY I1 r1 w p))
theorem GS (l:CL) (h:me (fun es _=>l.is X.sx es) e=true) (I:aR X.C P) (G:EnvOK X P ρ) (w:Wp K (bU (l.ev X.ker ρ) QM P.σ)) (p:bx X (RV X.C) P K Q E):We X e Q E P:=
 kz (fun e=>We X e Q E P) h fun es pos h=>List_ (l.ok X es pos ρ P _ _ E h I G (aQ w) (p.bind fun xs vs P1 g1 I1 r1 w p=>BC I1 r1 w p))
noncomputable abbrev uS:Obj:={cls:=.type "dict",data:=.dict #[]}
theorem AO:gQ C w uS [] []:=.mk _ [] .str ⟨#[],0,⟨rfl,rfl,rfl⟩,rfl,fun _ he=>by simp at he,Pairs.nil,Tb⟩ rfl rfl aS
theorem HM (h:kB (fun ks vs _=>ks.isEmpty&&vs.isEmpty) e=true) (I:aR X.C P) (w:Wp K (ret (.d (.dct [] [])) P.σ)) (p:bx X (RV X.C) P K Q E):We X e Q E P:=
 kA (fun e=>We X e Q E P) h fun ks vs pos h=>bY (fun ks=>wpAny X.M X.A (eval (.Dict ks vs pos) X.env) Q E P.s) (ah h) (bY (fun vs=>wpAny X.M X.A (eval (.Dict [] vs pos) X.env) Q E P.s) (aq h)
  (wpAny_Dict_empty ((p.fin w).note I (I.push (o:=uS) rfl) P.s.toks (.dct (cc _ _ _) AO .nil))))
theorem D7 (h:kB (fun ks vs _=>ks.isEmpty&&vs.isEmpty) e=true) (I:aR X.C P) (w:Wp K (jo (.fld (.dict [] [])) P.σ)) (p:bx X (RV X.C) P K Q E):We X e Q E P:=
 kA (fun e=>We X e Q E P) h fun ks vs pos h=>bY (fun ks=>wpAny X.M X.A (eval (.Dict ks vs pos) X.env) Q E P.s) (ah h) (bY (fun vs=>wpAny X.M X.A (eval (.Dict [] vs pos) X.env) Q E P.s) (aq h)
  (wpAny_Dict_empty (p.make (f:=.dict [] []) (t:=P.s.toks) I (I.push (o:=uS) rfl) ⟨[],AO,.nil⟩ w)))
end
noncomputable def cb (l:CL):CE:=⟨fun K ρ=>bU (l.ev K ρ) (xq fun ds=>.d (.tup ds)),fun s=>pI fun es _ _=>l.is s es,fun _ _ _ _ _ _ _ h I G w p=>Jc l h I G w p⟩
noncomputable def bH (l:CL):CE:=⟨fun K ρ=>bU (l.ev K ρ) (xq fun ds=>.d (.lst ds)),fun s=>me fun es _=>l.is s es,fun _ _ _ _ _ _ _ h I G w p=>J' l h I G w p⟩
noncomputable def iU (l:CL):CE:=⟨fun K ρ=>bU (l.ev K ρ) QM,fun s=>me fun es _=>l.is s es,fun _ _ _ _ _ _ _ h I G w p=>GS l h I G w p⟩
noncomputable def AN:CE:=⟨fun _ _=>ret (.d (.dct [] [])),fun _=>kB fun ks vs _=>ks.isEmpty&&vs.isEmpty,fun _ _ _ _ _ _ _ h I _ w p=>HM h I w p⟩
noncomputable def qj:CE:=⟨fun _ _=>jo (.fld (.dict [] [])),fun _=>kB fun ks vs _=>ks.isEmpty&&vs.isEmpty,fun _ _ _ _ _ _ _ h I _ w p=>D7 h I w p⟩
noncomputable def fb:D->D->Bool
 | .int a,.int b=>decide (a=b)
 | .str a,.str b=>decide (a=b)
 |_,_=>false
noncomputable def KE:D->Bool
 | .int _=>true
 |_=>false
noncomputable def B7:D->Bool
 | .str _=>true
 |_=>false
noncomputable def kZ (k:D) (ks:List D):Bool:=(KE k&&ks.all KE)||(B7 k&&ks.all B7)
noncomputable def e_ (k:D):List D->List D->Option D
 |x::ks,v::vs=>if fb x k then some v else e_ k ks vs
 |_,_=>none
noncomputable def eV (k:D):List D->List D
 |[]=>[k]
 |x::ks=>if fb x k then x::ks else x::eV k ks
noncomputable def eU (k v:D):List D->List D->List D
 |x::ks,u::vs=>if fb x k then v::vs else u::eU k v ks vs
 |_,_=>[v]
inductive IX (C:bF) (o:Obj) (k:D) (vk:Value) (ks:List D) (vs:List Value):Prop
 |mk (d:KD C) (l:List (d.K×Value)) (c:d.K):xi C d->(letI:=d.dec;o.IsDictOf d.knd l)->ks=l.map (fun p=>d.toD p.1)->vs=l.map (·.2)->(∀ p∈l,d.ok p.1)->k=d.toD c->(letI:=d.dec;d.knd.is c vk=true)->d.ok c->IX C o k vk ks vs
section
theorem wU {K K':Type} [DecidableEq K] [DecidableEq K'] {knd:KeyKind C.prog C.w K} {knd':KeyKind C.prog C.w K'} (h:o.IsDictOf knd []):o.IsDictOf knd' []:=by
 obtain ⟨es,ep,h1,h2,_,h4,_⟩:=h;have he:es=#[]:=by
  cases q:es.toList with
  |nil=>exact Array.toList_eq_nil_iff.mp q
  |cons e r=>rw[q] at h4;cases h4
 subst he;exact ⟨#[],ep,h1,h2,fun e he=>by simp at he,by simpa using Pairs.nil,Tb⟩
theorem uB {k:D} {vk:Value} {ks:List D} (h:gQ C w o ks vs) (hk:RD C w k vk) (hf:kZ k ks=true):IX C o k vk ks vs:=by
 cases h with
 |pr xs es ep _ _ _ _ _ e _ hne=>
  cases xs with
  |nil=>exact absurd rfl hne
  |cons x xs=>
   rw[e] at hf;have hf:((KE k&&false)||(B7 k&&false))=true:=hf;rw[Bool.and_false,Bool.and_false] at hf;cases hf
 |mk d l hd h1 h2 h3 h4=>
  subst h2;subst h3;rcases (Bool.or_eq_true _ _).mp hf with hf|hf
  .cases k with
   |int i=>
    obtain ⟨t,e⟩:∃ t,vk= .int i t:=hk.view;rw[e];cases hd with
    |int=>exact .mk _ l i .int h1 rfl rfl h4 rfl (intKind_is _ _ _ _) trivial
    |str=>
     cases l with
     |nil=>exact .mk _ [] i .int (wU h1) rfl rfl aS rfl (intKind_is _ _ _ _) trivial
     |cons p l=>cases ah (aq hf)
   |_=>cases ah hf
  .cases k with
   |str s=>
    obtain ⟨hs,t,e⟩:jN s/\∃ t,vk= .str (b7 s) t:=hk.view;rw[e];cases hd with
    |str=>exact .mk _ l (b7 s) .str h1 rfl rfl h4 rfl (strKind_is _ _ _ _) hs
    |int=>
     cases l with
     |nil=>exact .mk _ [] (b7 s) .str (wU h1) rfl rfl aS rfl (strKind_is _ _ _ _) hs
     |cons p l=>cases ah (aq hf)
   |_=>cases ah hf
theorem ir {d:KD C} (hd:xi C d) (a b:d.K):fb (d.toD a) (d.toD b)=true<->a=b:=by
 cases hd with
 |int=>exact decide_eq_true_iff
 |str=>
  show decide _=true<->_;rw[decide_eq_true_eq];exact ⟨fun h=>by
   obtain ⟨⟨a⟩⟩:=a;obtain ⟨⟨b⟩⟩:=b
   simpa using h,fun h=>by rw[h]⟩
theorem pi {d:KD C} (hd:xi C d) (c:d.K):∀ {l:List (d.K×Value)} {ps:List D},RDs C w ps (l.map (·.2))->match e_ (d.toD c) (l.map fun p=>d.toD p.1) ps,(letI:=d.dec;valueAt l c) with
  |some p,some v=>RD C w p v
  |none,none=>True
  |_,_=>False
 |[],ps,r=>by
  cases ps with
  |nil=>trivial
  |cons=>cases r.length
 |(a,v)::l,[],r=>by cases r.length
 |(a,v)::l,p::ps,r=>by
  obtain ⟨r1,r2⟩:hO C w p ps (v::l.map Prod.snd):=r.view
  letI:=d.dec
  show match (if fb (d.toD a) (d.toD c) then some p else e_ (d.toD c) (l.map fun p=>d.toD p.1) ps),(List.find? (fun kv=>decide (kv.1=c)) ((a,v)::l)).map (·.2) with
   |some p,some v=>RD C w p v
   |none,none=>True
   |_,_=>False
  by_cases h:a=c
  .rw[if_pos ((ir hd a c).mpr h),List.find?_cons_of_pos (by simpa using h)];exact r1
  .rw[if_neg (fun q=>h ((ir hd a c).mp q)),List.find?_cons_of_neg (by simpa using h)];exact pi hd c r2
theorem DN {d:KD C} (hd:xi C d) (c:d.K) {q:D} {u:Value} (hq:RD C w q u):∀ {l:List (d.K×Value)} {ps:List D},RDs C w ps (l.map (·.2))->(l.map (·.1)).Nodup->
  (letI:=d.dec;eV (d.toD c) (l.map fun p=>d.toD p.1)=(stored l c u).map (fun p=>d.toD p.1)/\RDs C w (eU (d.toD c) q (l.map fun p=>d.toD p.1) ps) ((stored l c u).map (·.2)))
 |[],ps,r,_=>by
  cases ps with
  |nil=>exact ⟨rfl,.cons hq .nil⟩
  |cons=>cases r.length
 |(a,v)::l,[],r,_=>by cases r.length
 |(a,v)::l,p::ps,r,hn=>by
  obtain ⟨r1,r2⟩:hO C w p ps (v::l.map Prod.snd):=r.view
  letI:=d.dec
  rw[List.map_cons,S9] at hn;show (if fb (d.toD a) (d.toD c) then d.toD a::l.map fun p=>d.toD p.1 else d.toD a::eV (d.toD c) (l.map fun p=>d.toD p.1))=_/\RDs C w (if fb (d.toD a) (d.toD c) then q::ps else p::eU (d.toD c) q (l.map fun p=>d.toD p.1) ps) _;by_cases h:a=c
  .have e2:stored ((a,v)::l) c u=(a,u)::l:=by
    subst h;rw[stored,List.any_cons,SC rfl,Bool.true_or,if_pos rfl,List.map_cons,if_pos rfl];congr 1;refine (List.map_congr_left fun kv hkv=> ?_).trans (List.map_id _);have hne:¬kv.1=a:=fun e=>hn.1 (SD.mpr ⟨kv,hkv,e⟩);rw[if_neg hne];rfl
   rw[if_pos ((ir hd a c).mpr h),if_pos ((ir hd a c).mpr h),e2];exact ⟨rfl,.cons hq r2⟩
  .have e2:stored ((a,v)::l) c u=(a,v)::stored l c u:=by
    rw[stored,stored,List.any_cons,Tf h,Bool.false_or,List.map_cons,if_neg h];by_cases hr:(l.any fun kv=>decide (kv.1=c))=true
    .rw[if_pos hr,if_pos hr]
    .rw[if_neg hr,if_neg hr];rfl
   have ih:=DN hd c hq r2 hn.2;rw[if_neg (fun q=>h ((ir hd a c).mp q)),if_neg (fun q=>h ((ir hd a c).mp q)),e2];exact ⟨congrArg _ ih.1,.cons r1 ih.2⟩
end
section
theorem gZ (G:gd C) (I:aR C P) (h:P.own a≠ .no):(a==sysModules)=false:=by
 refine beq_eq_false_iff_ne.mpr fun q=> ?_;obtain ⟨o,ho⟩:=G.big;exact h (q ▸ (I.base _ _ ho).2)
end
noncomputable def fA (u v:D):Option D:=match u with
 | .tup l=>(iD v).bind fun i=>(ax (bA i=true) ()).bind fun _=>(cZ i l.length).bind fun k=>l[k]?
 | .lst l=>(iD v).bind fun i=>(ax (bA i=true) ()).bind fun _=>(cZ i l.length).bind fun k=>l[k]?
 | .str l=>(iD v).bind fun i=>(ax (bA i=true) ()).bind fun _=>(cZ i l.length).bind fun k=>(l[k]?).map fun c=>.str [c]
 | .dct ks vs=>(ax (kZ v ks=true) ()).bind fun _=>e_ v ks vs
 |_=>none
section
theorem dC (h:dY e=true) (o i:Value):subscripted e false o i=operate [o,i] (PySem.getItem o i):=by
 cases e<;>first|rfl|(cases h;done)
theorem kI {i:Int} (h:cZ i n=some k):seqIndex? i n=some k/\k<n:=by
 unfold cZ at h;split at h
 .split at h
  .rename_i h1 h2
   cases h;exact ⟨seqIndex_of h1 h2,by exact (Int.toNat_lt h1).mpr h2⟩
  .cases h
 .split at h
  .rename_i h1 h2
   cases h;exact ⟨seqIndex_neg (by exact Int.lt_of_not_ge h1) (by exact Int.add_nonneg_iff_neg_le.mp h2),PG h1 h2⟩
  .cases h
theorem ik {i:Int} (h:bA i=true): -(2^63)<=i/\i<2^63:=by
 simp only [bA,Bool.and_eq_true,decide_eq_true_eq] at h;exact ⟨SV (by decide) (Tk h.1),Int.lt_trans h.2 (by decide)⟩
theorem uF {v:D} {f:Nat->Option α} {z:α} (h:((iD v).bind fun i=>(ax (bA i=true) ()).bind fun _=>(cZ i n).bind f)=some z) (hv:gm C P y v):∃ i t k,y= .int i t/\bA i=true/\cZ i n=some k/\f k=some z:=by
 refine bu fun G9 k9=> ?_;obtain ⟨i,e1,h⟩:=ak h;obtain ⟨_,e2,h⟩:=ak h;obtain ⟨k,e3,h⟩:=ak h;obtain ⟨t,q⟩:=dR e1 hv;refine k9 ?_;exact ⟨i,t,k,q,(ec e2).1,e3,h⟩
theorem Eg {l:List D} {vs:List Value} {a:Addr} {i:Int} {t:Tok} {k:Nat} {p:D} {s:Shared} (hl:s.heap.IsList a vs.toArray) (hr:RDs C P.own l vs) (hs:bA i=true) (hk:cZ i l.length=some k) (hp:l[k]? =some p)
  (hQ:∀ v,RD C P.own p v->Q v s):wpAny C.M A (PySem.getItem (.ref a) (.int i t)) Q E s:=by
 obtain ⟨v,hv,hrv⟩:=hr.get hp;have hlen:=hr.length;unfold cZ at hk;split at hk
 .split at hk
  .rename_i h1 h2
   cases hk;exact wpAny_getItem_list hl h1 (ik hs).2 (by simpa using hv) (hQ v hrv)
  .cases hk
 .split at hk
  .rename_i h1 h2
   cases hk;refine wpAny_getItem_list_neg hl (by exact Int.lt_of_not_ge h1) (by simp [hlen];exact Int.add_nonneg_iff_neg_le.mp h2) (ik hs).1 (by simpa [hlen] using hv) (hQ v hrv)
  .cases hk
theorem Hq (G:gd C) (I:aR C P) {value:Expr} (he:dY e=true):∀ {u v z:D} {x y:Value},gm C P x u->gm C P y v->RD C P.own v y->fA u v=some z->oX C P z Q->wpAny C.M A (subscriptTail value e x y) Q E P.s:=by
 intro Z0 v z x y hu hv hr e k;cases Z0 with
 |tup l=>
  refine bu fun G9 k9=> ?_;obtain ⟨i,t,n,q,h1,h2,h3⟩:=uF e hv;refine k9 ?_;rw[q];refine bu fun G9 k9=> ?_;obtain @⟨a,vs,m,h4,h5⟩:n9 C P.own dA l x:=RD.view hu;obtain ⟨w,h6,h7⟩:=h5.get h3;refine k9 ?_;have ht:IsTup P.h a vs.toArray:=⟨_,I.fz _ _ h4,rfl,m,rfl⟩;exact tail_any ht.typeIs slot_tuple_getitem.lookup (PyProof.Rows.getItem_tuple ht (ik h1).1 (ik h1).2 (by simpa [h5.length] using (kI h2).1) (by simpa using h6) (k.here I h7)) (dC he _ _)
 |lst l=>
  refine bu fun G9 k9=> ?_;obtain ⟨i,t,n,q,h1,h2,h3⟩:=uF e hv;refine k9 ?_;rw[q];refine bu fun G9 k9=> ?_;obtain @⟨a,vs,m,h4,_,h5⟩:mr C P l x:=hu;refine k9 ?_;have hl:P.h.IsList a vs.toArray:=⟨_,h4,rfl,_,rfl⟩;exact tail_any hl.typeIs slot_list_getitem.lookup (Eg hl h5 h1 h2 h3 fun w hw=>k.here I hw) (dC he _ _)
 |str l=>
  refine bu fun G9 k9=> ?_;obtain ⟨i,t,n,q,h1,h2,h3⟩:=uF e hv;refine k9 ?_;rw[q];refine bu fun G9 k9=> ?_;obtain ⟨hx,t',r⟩:jN l/\∃ t,x= .str (b7 l) t:=RD.view hu;obtain ⟨c,h4,rfl⟩:=aL h3;refine k9 ?_;rw[r];have h63:=ik h1;refine tail_any (typeIs_str P.s _ t') F.slot_str_getitem.lookup (PySem.P.getItem_str (c:=c) (by simp;exact And.comm.mp (id (And.symm h63))) ?_ (k.tok I (.str [c] _ ⟨fun d hd=> ?_,by simp [dZ]⟩) _)) (dC he _ _)
  .have:seqIndex? i (Str.length (b7 l))=some n:=by simpa [Str.length] using (kI h2).1
   rw[this]
   simpa using h4
  .rw[Sq.mp hd];exact hx.1 c (SR h4)
 |dct ks ps=>
  refine bu fun G9 k9=> ?_;obtain ⟨_,e1,e⟩:=ak e;obtain @⟨a,o,vs,h1,h2,h3,h4⟩:zK C P ks ps x:=hu;obtain ⟨d,l,c,hd,h5,rfl,rfl,h6,rfl,h7,h8⟩:=uB h3 hr (ec e1).1;refine k9 ?_
  letI:=d.dec
  have hl:=pi hd c h4;rw[e] at hl;cases q:valueAt l c with
  |none=>rw[q] at hl;exact hl.elim
  |some w=>
   rw[q] at hl;have hM:=(Heap.dictOf_iff.mpr ⟨o,h1,h5⟩).mapOf;exact tail_any hM.typeIs slot_dict_getitem.lookup (wpAny_getItem_of h7 hM q (k.tok I hl _)) (dC he _ _)
 |_=>cases e
end
noncomputable def Gj (x y:PV):PM PV:=fun σ=>(rd σ x).bind fun u=>(mZ y).bind fun v=>(fA u v).map fun z=>(.ok (.d z),σ)
theorem F6 {y:PV} (h:Wp K (Gj x y σ)):∃ u v z,rd σ x=some u/\mZ y=some v/\fA u v=some z/\K (.ok (.d z)) σ:=by
 unfold Gj at h;cases e1:rd σ x with
 |none=>rw[e1] at h;exact h.elim
 |some u=>
 cases e2:mZ y with
 |none=>rw[e1,e2] at h;exact h.elim
 |some v=>
 cases e3:fA u v with
 |none=>rw[e1,e2,Sl,Sl,e3] at h;exact h.elim
 |some z=>rw[e1,e2,Sl,Sl,e3] at h;exact ⟨u,v,z,rfl,rfl,e3,h⟩
section
theorem Jk (a i:CE) (h:cq (fun v j _=>dY j&&a.is X.sx v&&i.is X.sx j) e=true) (I:aR X.C P) (G:EnvOK X P ρ) (w:Wp K (bU (a.ev X.ker ρ) (fun x=>bU (i.ev X.ker ρ) fun y=>Gj x y) P.σ)) (p:bx X (RV X.C) P K Q E):We X e Q E P:=
 c7 (fun e=>We X e Q E P) h fun v j pos h=>Subscript_ (a.ok X v ρ P _ _ E (aq (ah h)) I G (aQ w) (p.bind fun x v P1 g1 I1 r1 w p=>
  i.ok X j ρ P1 _ _ E (aq h) I1 (G.ext g1) (aQ w) (p.bind fun y u P2 g2 I2 r2 w p=>by
   refine bu fun G9 k9=> ?_;obtain ⟨i,j,z,e1,e2,e3,k⟩:=F6 w;refine k9 ?_;have r2:=rA e2 r2;exact Hq X.good I2 (ah (ah h)) (bh I2 (r1.ext g2.toExt) e1) (lL I2 r2) r2 e3 (p.fin k))))
end
noncomputable def sub (a i:CE):CE:=⟨fun K ρ=>bU (a.ev K ρ) fun x=>bU (i.ev K ρ) fun y=>Gj x y,fun s=>cq fun v j _=>dY j&&a.is s v&&i.is s j,fun _ _ _ _ _ _ _ h I G w p=>Jk a i h I G w p⟩
structure CP where
 ev:c9->bj->PM PV
 is:Sx->Option Expr->Bool
 ok:∀ (X:Cx) (e:Option Expr) (ρ:bj) (P:Pt) (K:R PV->aE->Prop) (Q E:Value->Shared->Prop),is X.sx e=true->aR X.C P->EnvOK X P ρ->Wp K (ev X.ker ρ P.σ)->bx X (RV X.C) P K Q E->wpAny X.M X.A (evalPart e X.env) Q E P.s
noncomputable def Ad:CP:=⟨fun _ _=>ret (.d .none),fun _ e=>e.isNone,fun X e ρ P K Q E h I G w p=>qe (fun e=>wpAny X.M X.A (evalPart e X.env) Q E P.s) h (SA ((p.fin w).here I .none))⟩
noncomputable def k_ (a:CE):CP:=⟨a.ev,fun s=>Hh (a.is s),fun X e ρ P K Q E h I G w p=>iu (fun e=>wpAny X.M X.A (evalPart e X.env) Q E P.s) h fun e h=>a.ok X e ρ P K Q E h I G w p⟩
noncomputable def m6 (d:Int):D->Option Int
 | .none=>some d
 | .int i=>ax (bA i=true) i
 |_=>none
noncomputable def DQ (d:Nat):D->Option Nat
 | .none=>some d
 | .int i=>ax (0<=i) i.toNat
 |_=>none
noncomputable def dj (u lo hi:D):Option D:=match u with
 | .lst s=>(ax (s.length<=dZ) ()).bind fun _=>(m6 0 lo).bind fun l=>(m6 s.length hi).map fun h=>.lst (bC s (cY l s.length) (cY h s.length))
 | .str s=>(DQ 0 lo).bind fun l=>(DQ s.length hi).bind fun h=>ax (l<=h/\h<=s.length) (.str (bC s l h))
 | .tup s=>(DQ 0 lo).bind fun l=>(DQ s.length hi).bind fun h=>ax (l<=h/\h<=s.length/\h - l<s.length/\s.length<=dZ) (.tup (bC s l h))
 |_=>none
section
theorem rB (j:Int) (m:Nat):clipAt m j=cY j m:=by
 unfold clipAt cY;by_cases h:j<0
 .rw[if_pos h,if_pos h,Int.min_eq_left (PE h)];rcases Int.le_total 0 (j+m) with q|q
  .rw[Int.max_eq_right q]
  .rw[Int.max_eq_left q,Int.toNat_of_nonpos q];rfl
 .rw[if_neg h,if_neg h];obtain ⟨n,rfl⟩:=Int.eq_ofNat_of_zero_le (Tp.mp h);rcases Nat.le_total n m with q|q
  .rw[Int.min_eq_left (SZ.mpr q),Int.max_eq_right (Tn n)];exact (Nat.min_eq_left q).symm
  .rw[Int.min_eq_right (SZ.mpr q),Int.max_eq_right (Tn m)];exact (Nat.min_eq_right q).symm
theorem rI {n i:Int}:∀ {p:D},RD C w p v->m6 n p=some i->∃ o:Option Int,IsPart v o/\∀ m:Nat,(o.elim (cY n m) (clipAt m))=cY i m:=by
 intro Z0 r e;cases Z0 with
 |none=>
  cases e;rw[show v= .none from r.view];exact ⟨none,.none,fun m=>rfl⟩
 |int j=>
  obtain ⟨t,q⟩:∃ t,v= .int j t:=r.view;rw[q];rw[<-(ec e).2];exact ⟨some j,.int j t,fun m=>rB j m⟩
 |_=>cases e
theorem HP (n:Nat):cY (n:Int) n=n:=by
 unfold cY;rw[if_neg (CV)];simp
theorem Bi {x:Value} (I:aR C P) (hu:mr C P l x) (r1:RD C P.own lo vl) (r2:RD C P.own hi vu) (e:dj (.lst l) lo hi=some z) (k:oX C P z Q):
  wpAny C.M A (PySem.getItem x (.ref P.h.objs.size)) Q E {P.s with heap:=P.h.push {cls:=.type "slice",data:=.fields #[vl,vu,.none]}}:=by
 refine bu fun G9 k9=> ?_;obtain @⟨a,vs,n,g,_,r⟩:=hu;obtain ⟨_,e1,e⟩:=ak e;obtain ⟨i,e2,e⟩:=ak e;obtain ⟨j,e3,rfl⟩:=aL e;obtain ⟨o1,p1,q1⟩:=rI r1 e2;obtain ⟨o2,p2,q2⟩:=rI r2 e3;refine k9 ?_;have hlen:=r.length;have hl:(P.h.push {cls:=.type "slice",data:=.fields #[vl,vu,.none]}).IsList a vs.toArray:=⟨_,Su _ g,rfl,_,rfl⟩;have z1:o1.elim 0 (clipAt vs.length)=cY i l.length:=by
  have h:=q1 l.length;rw[show cY 0 l.length=0 by unfold cY;rw[if_neg (by decide)];simp] at h;rw[hlen,h]
 have z2:o2.elim vs.length (clipAt vs.length)=cY j l.length:=by
  have h:=q2 l.length;rw[HP] at h;rw[hlen,h]
 have e8:slicePick vs.toArray o1 o2 none=(bC vs (cY i l.length) (cY j l.length)).toArray:=by
  rw[slicePick_plain];simp only [SJ,z1,z2];rfl
 refine wpAny_getItem_list_slice hl (Heap.IsSliceOf.new ..) p1 p2 .none (by simp) ?_ (by rw[SJ,hlen];exact Sv (ec e1).1 (by decide));rw[e8];have hn:=SH (P.h.push {cls:=.type "slice",data:=.fields #[vl,vu,.none]}) (o:=bp (bC vs (cY i l.length) (cY j l.length)) 0) rfl;have q:=k.note I ⟨fun b o e=>Su _ (Su _ e),I.off (by rw[Heap.size_push];exact S8 _),I.out (by rw[Heap.size_push];exact S8 _),hn⟩ P.s.toks (tZ I (I.off (by rw[Heap.size_push];exact S8 _)) ((r.drop _).take _) rfl);exact q
theorem pb:∀ {p:D},RD C w p v->DQ n p=some i->∃ o:Option (Int×Tok),v=partValue o/\o.map (·.1)=(if o.isSome then some (i:Int) else none)/\(o=none->i=n):=by
 intro Z0 r e;cases Z0 with
 |none=>
  cases e;exact ⟨none,r.view,rfl,fun _=>rfl⟩
 |int j=>
  obtain ⟨t,q⟩:∃ t,v= .int j t:=r.view;obtain ⟨h,rfl⟩:=ec e;exact ⟨some (j,t),q,by show some j=some (j.toNat:Int);rw[S4 h],fun h=>(nomatch h)⟩
 |_=>cases e
theorem tS {x:Str} {l u:Option Int} {a b:Nat} (hab:a<=b) (hb:b<=x.length) (hl:l=some (a:Int)∨(l=none/\a=0)) (hu:u=some (b:Int)∨(u=none/\b=x.length)):StrLaws.sliceText x l u=⟨((x.cps.toList.drop a).take (b - a)).toArray⟩:=by
 rw[<-StrLaws.sliceText_nat x hab hb];unfold StrLaws.sliceText;have e:Builtin.Str.strSliceIndices l u 1 x.length=Builtin.Str.strSliceIndices (some (a:Int)) (some (b:Int)) 1 x.length:=by
  rcases hl with rfl|⟨rfl,rfl⟩
  .rcases hu with rfl|⟨rfl,rfl⟩
   .rfl
   .rw[StrLaws.sliceIdx_none_hi]
  .rcases hu with rfl|⟨rfl,rfl⟩
   .rw[StrLaws.sliceIdx_none_lo];rfl
   .rw[StrLaws.sliceIdx_none_lo,StrLaws.sliceIdx_none_hi];rfl
 rw[e]
theorem Bh {l:List Nat} {x:Value} (I:aR C P) (hu:jN l/\∃ t,x= .str (b7 l) t) (r1:RD C P.own lo vl) (r2:RD C P.own hi vu) (e:dj (.str l) lo hi=some z) (k:oX C P z Q):
  wpAny C.M A (PySem.getItem x (.ref P.h.objs.size)) Q E {P.s with heap:=P.h.push {cls:=.type "slice",data:=.fields #[vl,vu,.none]}}:=by
 refine bu fun G9 k9=> ?_;obtain ⟨ho,t,hx⟩:=hu;obtain ⟨i,e2,e⟩:=ak e;obtain ⟨j,e3,e⟩:=ak e;obtain ⟨⟨q1,q2⟩,rfl⟩:=ec e;obtain ⟨o1,f1,p1,z1⟩:=pb r1 e2;obtain ⟨o2,f2,p2,z2⟩:=pb r2 e3;refine k9 ?_;have hs:=tS (x:=b7 l) (l:=o1.map (·.1)) (u:=o2.map (·.1)) q1 q2 (by
  cases o1 with
  |none=>exact .inr ⟨rfl,z1 rfl⟩
  |some o=>exact .inl p1) (by
  cases o2 with
  |none=>exact .inr ⟨rfl,z2 rfl⟩
  |some o=>exact .inl p2)
 rw[hx];refine wpAny_getItem_str_slice (l:=o1) (u:=o2) (st:=none) ⟨_,SH _ rfl,rfl,by rw[f1,f2];rfl⟩ rfl (post_val_or_str ⟨?_,fun t' n=> ?_⟩)
 .show (StrLaws.sliceText (b7 l) (o1.map (·.1)) (o2.map (·.1))).length<=sizeLine;rw[hs];show ((l.drop i).take (j - i)).toArray.size<=sizeLine;rw[SJ,List.length_take,List.length_drop];exact Sv (Sv (Nat.min_le_right _ _) (Nat.sub_le _ _)) (Sv ho.2 (by decide))
 .have q:=k.grown I (h':=P.h.push {cls:=.type "slice",data:=.fields #[vl,vu,.none]}) (v:=.str (StrLaws.sliceText (b7 l) (o1.map (·.1)) (o2.map (·.1))) t') (fun b o e=>Su _ e) (by
   rw[hs];refine .str _ t' ⟨fun c hc=>ho.1 c (List.mem_of_mem_drop (List.mem_of_mem_take hc)),?_⟩;rw[bC,List.length_take,List.length_drop];exact Sv (Sv (Nat.min_le_right _ _) (Nat.sub_le _ _)) ho.2) n
  exact q
theorem QZ {o1 o2:Option Int} (h1:o1=some (i:Int)∨(o1=none/\i=0)) (h2:o2=some (j:Int)∨(o2=none/\j=n)) (hij:i<=j) (hj:j<=n):Builtin.Slice.sliceAdjust o1 o2 1 (n:Int)=((i:Int),(j:Int)):=by
 have a1:¬((1:Int)<0):=by decide
 have a2:¬((i:Int)<0):=CV;have a3:¬((j:Int)<0):=CV;have a4:min (i:Int) (n:Int)=i:=by exact Int.min_eq_left (SZ.mpr (Sv hij hj))
 have a5:min (j:Int) (n:Int)=j:=by exact Int.min_eq_left (SZ.mpr hj)
 rcases h1 with rfl|⟨rfl,rfl⟩<;>rcases h2 with rfl|⟨rfl,rfl⟩<;>simp only [Builtin.Slice.sliceAdjust,a1,a2,a3,a4,a5,if_false]<;>rfl
theorem Od (h:i<=j):Builtin.Slice.slicePlaces (i:Int) (j:Int) 1=j - i:=by
 unfold Builtin.Slice.slicePlaces;rw[if_pos (by decide),Int.ediv_one,Int.sub_add_cancel];split
 .exact Int.toNat_sub j i
 .rename_i q
  exact (Nat.sub_eq_zero_of_le (SZ.mp (Tp.mp q))).symm
theorem vN {o:Option (Int×Tok)} {Q:Option Int->Shared->Prop} (h:Q (o.map (·.1)) s):wpAny C.M A (Builtin.Slice.slicePartIndex (partValue o)) Q E s:=by
 cases o with
 |none=>exact slicePart_none h
 |some p=>exact slicePart_int h
theorem FN {sl:Addr} {o1 o2:Option (Int×Tok)} {Q:Int×Int×Nat->Shared->Prop} (hs:s.heap.IsSliceOf sl (partValue o1) (partValue o2) .none) (h1:o1.map (·.1)=some (i:Int)∨(o1.map (·.1)=none/\i=0)) (h2:o2.map (·.1)=some (j:Int)∨(o2.map (·.1)=none/\j=n)) (hij:i<=j) (hj:j<=n) (h:Q ((i:Int),1,j - i) s):
  wpAny C.M A (Builtin.Slice.sliceApplied (.ref sl) (pure (n:Int))) Q E s:=by
 obtain ⟨os,hos,hcs,hds⟩:=id hs;unfold Builtin.Slice.sliceApplied Builtin.Slice.sliceFields;refine Sz (Sz (wpAny_field hos hds (x:=partValue o1) rfl (Sz (wpAny_field hos hds (x:=partValue o2) rfl (Sz (wpAny_field hos hds (x:=.none) rfl (SA ?_)))))));refine Sz (slicePart_none ?_);show wpAny _ _ (if ((1:Int)==0)=true then _ else _) _ _ s;rw[if_neg (by decide)];refine Sz (vN (Sz (vN (Sz (SA ?_)))));show wpAny _ _ (match Builtin.Slice.sliceAdjust (o1.map (·.1)) (o2.map (·.1)) 1 (n:Int) with|(lo,hi)=>pure (lo,(1:Int),Builtin.Slice.slicePlaces lo hi 1)) _ _ s
 rw[QZ h1 h2 hij hj];show wpAny _ _ (pure ((i:Int),(1:Int),Builtin.Slice.slicePlaces (i:Int) (j:Int) 1)) _ _ s;rw[Od hij];exact SA h
theorem LX (xs:List Value) (i j:Nat):((List.range (j - i)).filterMap fun (k:Nat)=>xs.toArray[((i:Int)+(k:Int)*1).toNat]?).toArray=(bC xs i j).toArray:=by
 have e:(fun (k:Nat)=>xs.toArray[((i:Int)+(k:Int)*1).toNat]?)=(fun x=>xs.toArray[x]?) ∘ fun k=>i+k:=by
  funext k;have:((i:Int)+(k:Int)*1).toNat=i+k:=PD;rw[this];rfl
 rw[e,<-List.filterMap_map,pick_run];rfl
theorem A7 {t sl:Addr} {vs:List Value} {o1 o2:Option (Int×Tok)} {i j:Nat} {s:Shared} {Q:Value->Shared->Prop} (ht:IsTup s.heap t vs.toArray) (hs:s.heap.IsSliceOf sl (partValue o1) (partValue o2) .none) (h1:o1.map (·.1)=some (i:Int)∨(o1.map (·.1)=none/\i=0)) (h2:o2.map (·.1)=some (j:Int)∨(o2.map (·.1)=none/\j=vs.length)) (hij:i<=j) (hj:j<=vs.length) (hp:j - i<vs.length) (hsz:vs.length<=sizeLine)
  (h:Q (.ref s.heap.objs.size) {s with heap:=s.heap.push {cls:=.type "tuple",data:=.seq (bC vs i j).toArray}}):wpAny C.M A (PySem.getItem (.ref t) (.ref sl)) Q E s:=by
 have hok:sizeOk (.seq (bC vs i j).toArray):=by
  show (bC vs i j).toArray.size<=sizeLine;rw[SJ,bC,List.length_take,List.length_drop];exact Sv (Nat.min_le_right _ _) (Sv (Nat.sub_le _ _) hsz)
 obtain ⟨os,hos,hcs,hds⟩:=id hs;have hT:s.TypeIs (.ref sl) "slice":=⟨os,hos,hcs⟩;unfold PySem.getItem
 try with_reducible refine wpAny_holding ?_
 first|refine Sz (SA ?_)|skip
 refine Sz (wpAny_sequenceKey ht.typeIs (by decide) ?_);refine Sz (wpAny_callSpecial?_slot (name:=Str.ofString "__getitem__") ht.typeIs slot_tuple_getitem
  (wpAny_call_entry slot_tuple_getitem ht.typeIs entry_tuple_getitem ?_ (args_tuple_getitem _ _)))
 show wpAny _ _ (Builtin.Tuple.tupleItemsOf (.ref t)>>=_) _ _ s;refine Sz (tupleItemsOf_ ht ?_);refine Sz (wpAny_typeOf hT ?_);rw[if_pos (by decide)];rw[SJ];refine Sz (FN hs h1 h2 hij hj ?_);have hno:¬(((i:Int)==0&&(1:Int)==1&&(j - i)==vs.toArray.size)=true):=by
  have:((j - i)==vs.toArray.size)=false:=by rw[beq_eq_false_iff_ne,SJ];exact Nat.ne_of_lt hp
  rw[this,Bool.and_false];exact SL
 show wpAny _ _ (if ((i:Int)==0&&(1:Int)==1&&(j - i)==vs.toArray.size)=true then _ else _) _ _ s;rw[if_neg hno,LX]
 first
  |exact Sz (m:=Builtin.Tuple.tupleExact _) (wpAny_newObj_type (SA ⟨_,rfl,SA h⟩) hok)
  |exact Sz (m:=Builtin.Tuple.tupleExact _) (wpAny_newObj_type (Sz (SA (SA ⟨_,rfl,SA h⟩))) hok)
  |exact Sz (Sz (m:=Builtin.Tuple.tupleExact _) (wpAny_newObj_type (SA (SA ⟨_,rfl,SA h⟩)) hok))
  |exact Sz (Sz (m:=Builtin.Tuple.tupleExact _) (wpAny_newObj_type (SA ⟨_,rfl,SA h⟩) hok))
theorem Bg {x:Value} (I:aR C P) (hu:n9 C P.own dA l x) (r1:RD C P.own lo vl) (r2:RD C P.own hi vu) (e:dj (.tup l) lo hi=some z) (k:oX C P z Q):
  wpAny C.M A (PySem.getItem x (.ref P.h.objs.size)) Q E {P.s with heap:=P.h.push {cls:=.type "slice",data:=.fields #[vl,vu,.none]}}:=by
 refine bu fun G9 k9=> ?_;obtain @⟨a,vs,n,g,r⟩:=hu;obtain ⟨i,e2,e⟩:=ak e;obtain ⟨j,e3,e⟩:=ak e;obtain ⟨⟨q1,q2,q3,q4⟩,rfl⟩:=ec e;obtain ⟨o1,f1,p1,z1⟩:=pb r1 e2;obtain ⟨o2,f2,p2,z2⟩:=pb r2 e3;refine k9 ?_;have hlen:=r.length;have ht:IsTup (P.h.push {cls:=.type "slice",data:=.fields #[vl,vu,.none]}) a vs.toArray:=⟨_,Su _ (I.fz _ _ g),rfl,n,rfl⟩;refine A7 (o1:=o1) (o2:=o2) (i:=i) (j:=j) ht (by rw[<-f1,<-f2];exact Heap.IsSliceOf.new ..) (by
  cases o1 with
  |none=>exact .inr ⟨rfl,z1 rfl⟩
  |some o=>exact .inl p1) (by
  cases o2 with
  |none=>exact .inr ⟨rfl,by rw[hlen];exact z2 rfl⟩
  |some o=>exact .inl p2) q1 (by rw[hlen];exact q2) (by rw[hlen];exact q3) (by rw[hlen];exact Sv q4 (by decide)) ?_
 have hn:=SH (P.h.push {cls:=.type "slice",data:=.fields #[vl,vu,.none]}) (o:=dA (bC vs i j) 0) rfl;exact k.note I ⟨fun b o e=>Su _ (Su _ e),I.off (by rw[Heap.size_push];exact S8 _),I.out (by rw[Heap.size_push];exact S8 _),hn⟩ P.s.toks (pY I (I.off (by rw[Heap.size_push];exact S8 _)) ((r.drop _).take _) rfl)
theorem Do {value:Expr} {le ue:Option Expr} {sp:Pos} (I:aR C P):∀ {u lo hi z:D} {x:Value},gm C P x u->RD C P.own lo vl->RD C P.own hi vu->dj u lo hi=some z->oX C P z Q->
  wpAny C.M A (subscriptTail value (.Slice le ue none sp) x (.ref P.h.objs.size)) Q E {P.s with heap:=P.h.push {cls:=.type "slice",data:=.fields #[vl,vu,.none]}}:=by
 intro Z0 lo hi z x hu r1 r2 e k;cases Z0 with
 |lst l=>
  have q:=Bi (A:=A) (E:=E) I hu r1 r2 e k;refine bu fun G9 k9=> ?_;obtain @⟨a,vs,n,g,_,r⟩:mr C P l x:=hu;refine k9 ?_;have hl:(P.h.push {cls:=.type "slice",data:=.fields #[vl,vu,.none]}).IsList a vs.toArray:=⟨_,Su _ g,rfl,_,rfl⟩;exact tail_any hl.typeIs list_getitem_lookup q (ops:=[.ref P.h.objs.size,.ref a]) rfl
 |str l=>
  have q:=Bh (A:=A) (E:=E) I (RD.view hu) r1 r2 e k;obtain ⟨_,t,hx⟩:jN l/\∃ t,x= .str (b7 l) t:=RD.view hu;rw[hx] at q ⊢;exact tail_any (typeIs_str _ _ t) F.slot_str_getitem.lookup q (ops:=[.ref P.h.objs.size,.str (b7 l) t]) rfl
 |tup l=>
  have q:=Bg (A:=A) (E:=E) I (RD.view hu) r1 r2 e k;refine bu fun G9 k9=> ?_;obtain @⟨a,vs,n,g,r⟩:n9 C P.own dA l x:=RD.view hu;refine k9 ?_;have ht:IsTup (P.h.push {cls:=.type "slice",data:=.fields #[vl,vu,.none]}) a vs.toArray:=⟨_,Su _ (I.fz _ _ g),rfl,n,rfl⟩;exact tail_any ht.typeIs slot_tuple_getitem.lookup q (ops:=[.ref P.h.objs.size,.ref a]) rfl
 |_=>cases e
end
noncomputable def tR (x lo hi:PV):PM PV:=fun σ=>(rd σ x).bind fun u=>(mZ lo).bind fun l=>(mZ hi).bind fun h=>(dj u l h).map fun z=>(.ok (.d z),σ)
theorem A6 {lo hi:PV} (h:Wp K (tR x lo hi σ)):∃ u l v z,rd σ x=some u/\mZ lo=some l/\mZ hi=some v/\dj u l v=some z/\K (.ok (.d z)) σ:=by
 unfold tR at h;cases e1:rd σ x with
 |none=>rw[e1] at h;exact h.elim
 |some u=>
 cases e2:mZ lo with
 |none=>rw[e1,e2] at h;exact h.elim
 |some l=>
 cases e4:mZ hi with
 |none=>rw[e1,e2,e4] at h;exact h.elim
 |some v=>
 cases e3:dj u l v with
 |none=>rw[e1,e2,e4,Sl,Sl,Sl,e3] at h;exact h.elim
 |some z=>rw[e1,e2,e4,Sl,Sl,Sl,e3] at h;exact ⟨u,l,v,z,rfl,rfl,rfl,e3,h⟩
section
theorem Jo (a:CE) (lo hi:CP) (h:u_ (fun v l u=>a.is X.sx v&&lo.is X.sx l&&hi.is X.sx u) e=true) (I:aR X.C P) (G:EnvOK X P ρ) (w:Wp K (bU (a.ev X.ker ρ) (fun x=>bU (lo.ev X.ker ρ) fun l=>bU (hi.ev X.ker ρ) fun h=>tR x l h) P.σ)) (p:bx X (RV X.C) P K Q E):wpAny X.M X.A (eval e X.env) Q E P.s:=
 oC (fun e=>wpAny X.M X.A (eval e X.env) Q E P.s) h fun v l u sp pos h=>Subscript_ (a.ok X v ρ P _ _ E (ah (ah h)) I G (aQ w) (p.bind fun x v P1 g1 I1 r1 w p=>
  wpAny_Slice (lo.ok X l ρ P1 _ _ E (aq (ah h)) I1 (G.ext g1) (aQ w) (p.bind fun y1 v1 P2 g2 I2 r2 w p=>
   hi.ok X u ρ P2 _ _ E (aq h) I2 ((G.ext g1).ext g2) (aQ w) (p.bind fun y2 v2 P3 g3 I3 r3 w p=>by
    refine bu fun G9 k9=> ?_;obtain ⟨u1,u2,u3,z,e1,e2,e3,e4,k⟩:=A6 w;refine k9 ?_;rw[evalPart_none];exact SA (Do I3 (bh I3 ((r1.ext g2.toExt).ext g3.toExt) e1) (rA e2 (r2.ext g3.toExt)) (rA e3 r3) e4 (p.fin k)))))))
end
noncomputable def vi (a:CE) (lo hi:CP):CE:=⟨fun K ρ=>bU (a.ev K ρ) fun x=>bU (lo.ev K ρ) fun l=>bU (hi.ev K ρ) fun h=>tR x l h,fun s=>u_ fun v l u=>a.is s v&&lo.is s l&&hi.is s u,fun _ _ _ _ _ _ _ h I G w p=>Jo a lo hi h I G w p⟩
structure BF where
 nm:Str
 val:Value
 mem:(nm,val)∈f_
 g:Bool->List PV->PM PV
 ok:∀ {C:bF} {A:Around} {P:Pt} {hd:Bool} {K:R PV->aE->Prop} {ps:List PV} {vs:List Value} {Q E:Value->Shared->Prop},gd C->(hd=false->A.handled=none)->aR C P->mj C P ps vs->Wp K (g hd ps P.σ)->dN C A (RV C) P K Q E->wpAny C.M A (call val vs) Q E P.s
theorem M9:∀ p∈f_,(∃ id,p.2= .builtin id)∨(∃ T,p.2= .type T):=by
 have h:f_.all (fun p=>match p.2 with| .builtin _=>true| .type _=>true|_=>false)=true:=by decide+kernel
 intro p hp;have q:=List.all_eq_true.mp h p hp;cases e:p.2<;>rw[e] at q<;>first|exact .inl ⟨_,rfl⟩|exact .inr ⟨_,rfl⟩|cases q
theorem dM {l:List (Bool×Sem Value)} (h:∀ x∈l,x.1=false):l.any (·.1)=false:=by
 rw[Bool.eq_false_iff];intro q;obtain ⟨x,hx,e⟩:=List.any_eq_true.mp q;rw[h x hx] at e;cases e
theorem c_ {M:Model} {f:Value} {l:List (Bool×Sem Value)} {Q:Args->Shared->Prop} (hl:∀ x∈l,x.1=false) (h:wpAny M A (spliced l) (fun vs s'=>Q ⟨vs,[]⟩ s') E s):
  wpAny M A (evalArgs f true l []) Q E s:=by
 cases l with
 |nil=>
  unfold evalArgs;show wpAny M A (spliced []>>=_) Q E s;refine Sz (wpAny_mono h (fun vs s' h'=> ?_) fun _ _ x=>x);refine Sz (SA ?_);refine wpAny_holding ?_;exact Sz (SA (Sz (SA (SA h'))))
 |cons x r=>
  obtain ⟨b,t⟩:=x;obtain rfl:b=false:=hl _ (.head _);exact Calls.evalArgs_plain h
section
theorem M_ (f:BF) (l:CL) (h:fj (fun x es=>x==f.nm&&fo X.sx.sc x&&l.is X.sx es) e=true) (I:aR X.C P) (G:EnvOK X P ρ) (w:Wp K (bU (l.ev X.ker ρ) (f.g X.ker.hd) P.σ)) (p:bx X (RV X.C) P K Q E):wpAny X.M X.A (eval e X.env) Q E P.s:=
 fi (fun e=>wpAny X.M X.A (eval e X.env) Q E P.s) h fun x px es pos h=>by
  have hw:=aq (ah h);rw[bN (ah (ah h))] at hw ⊢;have hp:=l.star X.sx es X.env pos (aq h);refine wpAny_Call_NameR (iT I hw f.mem ?_);have args:wpAny X.M X.A (evalArgs f.val true (backTo pos (starEach es X.env)) []) (fun a s₁=>wpAny X.M X.A (PySem.call f.val ([]++a.pos) a.kw) Q E s₁) E P.s:=
   c_ hp (l.ok X es pos ρ P _ _ E (aq h) I G (aQ w) (p.bind fun ps vs P1 g1 I1 r1 w p=>f.ok X.good X.hnd I1 r1 w p))
  rcases M9 _ f.mem with ⟨id,q⟩|⟨T,q⟩
  .have q:f.val=_:=q;rw[q] at args ⊢;exact Calls.callWith_builtin (dM hp) args
  .have q:f.val=_:=q;rw[q] at args ⊢;exact PyProof.Rows.callWith_type (dM hp) args
end
noncomputable def bi (f:BF) (l:CL):CE:=⟨fun K ρ=>bU (l.ev K ρ) (f.g K.hd),fun s=>fj fun x es=>x==f.nm&&fo s.sc x&&l.is s es,fun _ _ _ _ _ _ _ h I G w p=>M_ f l h I G w p⟩
noncomputable def g1 (g:D->Option D):List PV->PM PV
 |[x]=>fun σ=>(rd σ x).bind fun u=>(g u).map fun z=>(.ok (.d z),σ)
 |_=>fun _=>none
noncomputable def g2 (g:D->D->Option D):List PV->PM PV
 |[x,y]=>F0 g x y
 |_=>fun _=>none
section
inductive vj (C:bF) (P:Pt) (p:PV) (ps:List PV):List Value->Prop
 |mk {v:Value} {vs:List Value}:RV C P v p->mj C P ps vs->vj C P p ps (v::vs)
def Nj (C:bF) (P:Pt) (vs:List Value):List PV->Prop
 |[]=>vs=[]
 |p::ps=>vj C P p ps vs
theorem mj.view (h:mj C P ps vs):Nj C P vs ps:=by
 cases h with
 |nil=>rfl
 |cons h r=>exact .mk h r
theorem lX {g:D->Option D} (q:List Value->Prop) (I:aR C P) (r:mj C P ps vs) (w:Wp K (g1 g ps P.σ)) (k:∀ v u z,gm C P v u->g u=some z->K (.ok (.d z)) P.σ->q [v]):q vs:=by
 match ps,r,w with
 |[x],r,w=>
  obtain ⟨r1,r2⟩:vj C P x [] vs:=r.view;rw[show _=[] from r2.view];have w:Wp K ((rd P.σ x).bind fun u=>(g u).map fun z=>(.ok (.d z),P.σ)):=w;cases e1:rd P.σ x with
  |none=>rw[e1] at w;exact w.elim
  |some u=>
   cases e2:g u with
   |none=>rw[e1,Sl,e2] at w;exact w.elim
   |some z=>rw[e1,Sl,e2] at w;exact k _ u z (bh I r1 e1) e2 w
 |[],_,w=>exact w.elim
 |_::_::_,_,w=>exact w.elim
theorem EN {g:D->D->Option D} (q:List Value->Prop) (I:aR C P) (r:mj C P ps vs) (w:Wp K (g2 g ps P.σ)) (k:∀ x y u v z,gm C P x u->gm C P y v->g u v=some z->K (.ok (.d z)) P.σ->q [x,y]):q vs:=by
 match ps,r,w with
 |[x,y],r,w=>
  obtain ⟨r1,r2⟩:vj C P x [y] vs:=r.view;obtain ⟨r4,r3⟩:vj C P y [] _:=r2.view;rw[show _=[] from r3.view];obtain ⟨u,v,z,e1,e2,e3,w⟩:=lH w;exact k _ _ u v z (bh I r1 e1) (bh I r4 e2) e3 w
 |[],_,w=>exact w.elim
 |[_],_,w=>exact w.elim
 |_::_::_::_,_,w=>exact w.elim
noncomputable def Hc (u:D):Option D:=(match u with
 | .str s=>some s.length
 | .tup l=>some l.length
 | .lst l=>some l.length
 |_=>none).bind fun n=>ax (n<=dZ) (.int (n:Nat))
theorem Kl (I:aR C P):∀ {u z:D} {v:Value},gm C P v u->Hc u=some z->oX C P z Q->wpAny C.M A (call (.builtin "len") [v]) Q E P.s:=by
 intro Z0 z v h e k;cases Z0 with
 |str l=>
  obtain ⟨hm,rfl⟩:=ec e;obtain ⟨_,t,q⟩:jN l/\∃ t,v= .str (b7 l) t:=RD.view h;rw[q];have k:=k.tok I (.int _ _) (P.s.toks+1+1) (v:=.int l.length (P.s.toks+1));simp only [dZ] at hm;exact PyProof.Rows.len_str (by simp [Str.length];exact Pe hm) (by simpa [Str.length] using k)
 |tup l=>
  obtain ⟨hm,rfl⟩:=ec e;obtain @⟨a,vs,n,o,r⟩:n9 C P.own dA l v:=RD.view h;have k:=k.tok I (.int _ _) (P.s.toks+1+1) (v:=.int l.length (P.s.toks+1));simp only [dZ] at hm;exact PyProof.Rows.len_tuple (items:=vs.toArray) ⟨_,I.fz _ _ o,rfl,n,rfl⟩ (by simp [r.length];exact Pe hm) (by simpa [r.length] using k)
 |lst l=>
  obtain ⟨hm,rfl⟩:=ec e;obtain @⟨a,vs,n,o,_,r⟩:mr C P l v:=h;have k:=k.tok I (.int _ _) (P.s.toks+1+1) (v:=.int l.length (P.s.toks+1));simp only [dZ] at hm;exact PyProof.Rows.len_list (items:=vs.toArray) ⟨_,o,rfl,_,rfl⟩ (by simp [r.length];exact Pe hm) (by simpa [r.length] using k)
 |_=>cases e
end
noncomputable def ba:BF:=⟨"len",.builtin "len",by decide+kernel,fun _=>g1 Hc,fun {C A P hd K ps vs Q E} _ _ I r w p=>lX (fun vs=>wpAny C.M A (call (.builtin "len") vs) Q E P.s) I r w fun v u z h e k=>Kl I h e (p.fin k)⟩
noncomputable def N' (u:D):Option D:=(iD u).bind fun b=>ax (bA b=true) (.rng 0 b 1)
noncomputable def ru:BF:=⟨"range",.type "range",by decide+kernel,fun _=>g1 N',fun {C A P hd K ps vs Q E} _ _ I r w p=>lX (fun vs=>wpAny C.M A (call (.type "range") vs) Q E P.s) I r w fun v u z h e k=>by
 obtain ⟨b,e1,e⟩:=ak e;obtain ⟨hs,rfl⟩:=ec e;obtain ⟨t,q⟩:=dR e1 h;rw[q];exact call_range_1 ((p.fin k).note I (I.push rfl) _ (.rng 0 b 1 _ _ _ (cc _ _ _)))⟩
noncomputable def jb:BF:=⟨"tuple",.type "tuple",by decide+kernel,fun _=>g1 fun u=>(lD u).bind fun l=>ax (l.length<=dZ) (.tup l),fun {C A P hd K ps vs Q E} _ _ I r w p=>lX (fun vs=>wpAny C.M A (call (.type "tuple") vs) Q E P.s) I r w fun v u z h e k=>by
 obtain ⟨l,e1,e⟩:=ak e;obtain ⟨hm,rfl⟩:=ec e;obtain @⟨a,vs,n,o,_,rr⟩:=h_ e1 h;refine call_tuple_list (items:=vs.toArray) ⟨_,o,rfl,_,rfl⟩ (fun h' kp=> ?_) (by rw[SJ,rr.length];exact Sv hm (by decide));have hn:h'.objs.size≥P.h.objs.size∨True:=.inr trivial;have own:P.own h'.objs.size= .no:=by
  by_cases q:P.own h'.objs.size= .no
  .exact q
  .obtain ⟨o,ho⟩:=I.live _ q;exact absurd (SU (kp _ _ ho)) (S7 _)
 have H:C.H.get? h'.objs.size=none:=by
  cases q:C.H.get? h'.objs.size with
  |none=>rfl
  |some o=>exact absurd (SU (kp _ _ (I.base _ _ q).1)) (S7 _)
 exact (p.fin k).note I ⟨fun b o e=>Su _ (kp b o e),own,H,SH _ rfl⟩ P.s.toks (pY I own rr rfl)⟩
noncomputable def gP:List D->Option (List Bool)
 |[]=>some []
 | .bool b::r=>(gP r).map (b::·)
 |_=>none
noncomputable def off {α:Type} (hd:Bool) (m:PM α):PM α:=fun σ=>match hd with
 |true=>none
 |false=>m σ
theorem jx {hd:Bool} {K:R α->aE->Prop} {m:PM α} (w:Wp K (off hd m σ)):hd=false/\Wp K (m σ):=by
 cases hd with
 |true=>exact w.elim
 |false=>exact ⟨rfl,w⟩
theorem rL:∀ {vs:List Value} {bs:List Bool},RDs C w l vs->gP l=some bs->vs=bs.map Value.bool:=by
 induction l with
 |nil=>exact fun r e=>by cases e;exact r.view
 |cons x l ih=>
  intro vs bs r e;cases x with
  |bool b=>
   obtain ⟨r1,r2⟩:hO C w (.bool b) l vs:=r.view;obtain ⟨bs',e1,rfl⟩:=aL e;rw[show _=Value.bool b from r1.view,ih r2 e1];rfl
  |_=>cases e
theorem CM {bs:List Bool}:(List.range bs.length).all (fun i=>(bs[i]?).getD true)=bs.all id:=by
 rw[Bool.eq_iff_iff,List.all_eq_true,List.all_eq_true];constructor
 .intro h b hb;obtain ⟨i,hi⟩:=List.mem_iff_getElem?.mp hb;have:=h i (List.mem_range.mpr (So.mp hi).1);rw[hi] at this
  simpa using this
 .intro h i hi;have hi':=List.mem_range.mp hi;rw[Sp hi']
  simpa using h _ (List.getElem_mem hi')
theorem Lo {bs:List Bool} (I:aR C P) (hh:A.handled=none) (h:mr C P l v) (e2:gP l=some bs) (k:oX C P (.bool (bs.all id)) Q):wpAny C.M A (call (.builtin "all") [v]) Q E P.s:=by
 obtain @⟨a,vs,q,g,_,hs⟩:=h;have hvs:=rL hs e2;have hl:P.h.IsList a vs.toArray:=⟨_,g,rfl,_,rfl⟩;have hane:a≠P.h.objs.size:=Nat.ne_of_lt (SU g);refine call_all_walk (wpAny_pyIter_list hl ?_);refine ⟨_,_,_,_,_,_,fun i=>(bs[i]?).getD true,rfl,Walks.list (A:=A.in1) hh P.h.objs.size _ hane vs.toArray,⟨⟨_,SH _ rfl,rfl,rfl⟩,hl.at fun o e=>Su _ e⟩,?_,fun h' tk kp=> ?_⟩
 .intro i v s' Q' E' hP hQ;rw[hvs] at hP;simp only [List.getElem?_toArray,SE] at hP;obtain ⟨b,hb,rfl⟩:=Ta.mp hP;dsimp only at hQ;rw[hb] at hQ;exact wpAny_truthy_bool hQ
 .have hn:vs.toArray.size=bs.length:=by simp [hvs]
  rw[hn,CM];refine k.grown I (fun b o e=>kp b o (fun hm=> ?_) (Su _ e)) (.bool _) _;rw[Sq.mp hm] at e;exact absurd (SU e) (S7 _)
noncomputable def uK:BF:=⟨"all",.builtin "all",by decide+kernel,fun hd ps=>off hd (g1 (fun u=>(lD u).bind fun l=>(gP l).map fun bs=>.bool (bs.all id)) ps),fun {C A P hd K ps vs Q E} _ hh I r w p=>lX (fun vs=>wpAny C.M A (call (.builtin "all") vs) Q E P.s) I r (jx w).2 fun v u z h e k=>by
 obtain ⟨l,e1,e⟩:=ak e;obtain ⟨bs,e2,rfl⟩:=aL e;exact Lo I (hh (jx w).1) (h_ e1 h) e2 (p.fin k)⟩
noncomputable def eH:BF:=⟨"int",.type "int",by decide+kernel,fun _=>g1 fun u=>(bD u).map fun b=>.int (if b then 1 else 0),fun {C A P hd K ps vs Q E} _ _ I r w p=>lX (fun vs=>wpAny C.M A (call (.type "int") vs) Q E P.s) I r w fun v u z h e k=>by
 obtain ⟨b,e1,rfl⟩:=aL e;rw[zC e1 h];exact call_int_bool ((p.fin k).tok I (.int _ _) _)⟩
noncomputable def aP (n:Int):List Nat:=(Str.ofString (toString n)).cps.toList
noncomputable def F2:D->Option (List Nat)
 | .str s=>some s
 | .int i=>ax (i.natAbs.log2<1920) (aP i)
 |_=>none
theorem xP {i:Int} (h:i.natAbs.log2<1920):jN (aP i):=by
 have e:(Str.ofString (toString i)).cps.toList=(toString i).toList.map Char.toNat:=by rw[Str.ofString_eq_toList]
 refine ⟨fun c hc=> ?_,?_⟩
 .unfold aP at hc;rw[e] at hc;obtain ⟨x,_,rfl⟩:=SD.mp hc;rcases x.valid with q|q
  .exact Tj q (by decide)
  .exact q.2
 .have h1:=int_text_length_le (k:=1920) (by decide) h;have h2:(aP i).length=(toString i).length:=PySem.ofString_length _;rw[h2];exact Sv h1 (by decide)
theorem KZ {l:List Nat}:∀ {x:D},RD C w x v->F2 x=some l->jN l/\((∃ t,v= .str (b7 l) t)∨∃ i t,v= .int i t/\i.natAbs.log2<1920/\l=aP i):=by
 intro Z0 r e;cases Z0 with
 |str s=>
  cases e;exact ⟨r.view.1,.inl r.view.2⟩
 |int i=>
  obtain ⟨t,q⟩:∃ t,v= .int i t:=r.view;obtain ⟨h,rfl⟩:=ec e;exact ⟨xP h,.inr ⟨i,t,q,h,rfl⟩⟩
 |_=>cases e
noncomputable def d1 (g:D->Option D):List PV->PM PV
 |[.d u]=>fun σ=>(g u).map fun z=>(.ok (.d z),σ)
 |_=>fun _=>none
theorem K8 {g:D->Option D} (q:List Value->Prop) (r:mj C P ps vs) (w:Wp K (d1 g ps P.σ)) (k:∀ v u z,RD C P.own u v->g u=some z->K (.ok (.d z)) P.σ->q [v]):q vs:=by
 match ps,r,w with
 |[.d u],r,w=>
  obtain ⟨r1,r2⟩:vj C P (.d u) [] vs:=r.view;rw[show _=[] from r2.view];have w:Wp K ((g u).map fun z=>(.ok (.d z),P.σ)):=w;cases e:g u with
  |none=>rw[e] at w;exact w.elim
  |some z=>rw[e] at w;exact k _ u z r1 e w
 |[],_,w=>exact w.elim
 |[.p _ _],_,w=>exact w.elim
 | .d _::_::_,_,w=>exact w.elim
 | .p _ _::_::_,_,w=>exact w.elim
noncomputable def wL:BF:=⟨"str",.type "str",by decide+kernel,fun _=>d1 fun u=>(F2 u).map .str,fun {C A P hd K ps vs Q E} _ _ I r w p=>K8 (fun vs=>wpAny C.M A (call (.type "str") vs) Q E P.s) r w fun v u z h e k=>by
 obtain ⟨l,e1,rfl⟩:=aL e;obtain ⟨ho,⟨t,q⟩|⟨i,t,q,hi,hl⟩⟩:=KZ h e1
 .rw[q];exact PySem.P.str_of_str ((p.fin k).here I (.str l t ho))
 .rw[q];exact PySem.P.str_of_int hi ((p.fin k).tok I (lJ hl.symm ho _) _)⟩
structure MF where
 nm:Str
 T:String
 id:String
 pa:PlainAttrs T
 sl:Slot T nm id
 ty:typeOf (.builtin id)=pure (.type "method_descriptor")
 fit:PV->D->Bool
 fitok:∀ {C:bF} {P:Pt} {v:Value} {p:PV} {x:D},aR C P->RV C P v p->rd P.σ p=some x->fit p x=true->P.s.TypeIs v T/\∀ a,v= .ref a->∃ ob,P.h.get? a=some ob/\ob.dict=none
 g:PV->List PV->PM PV
 ok:∀ {C:bF} {A:Around} {P:Pt} {K:R PV->aE->Prop} {x:PV} {ps:List PV} {v:Value} {vs:List Value} {Q E:Value->Shared->Prop},gd C->aR C P->RV C P v x->mj C P ps vs->Wp K (g x ps P.σ)->dN C A (RV C) P K Q E->wpAny C.M A (call (.builtin id) (v::vs)) Q E P.s
theorem pG {v:Expr} {x:Str} (h:fM v=true):attributeBase v x env (eval v env)=eval v env:=by
 cases v with
 |Call f es kw pos=>
  cases f<;>first|rfl|skip
  cases es<;>first|rfl|skip
  cases kw<;>first|rfl|(cases h;done)
 |_=>rfl
theorem ze {l:CL} {sx:Sx} (h:l.is sx es=true) (hl:es.length<29):
  ((backTo pos (starEach es env)).all (fun x=> !x.1)&&(backToKw pos (keywordEach [] env)).all (fun x=>x.1.isSome)&&decide (es.length+([]:List Keyword).length+(if ([]:List Keyword).isEmpty then 0 else 1)<30))=true:=by
 have hp:=l.star sx es env pos h;have h1:(backTo pos (starEach es env)).all (fun x=> !x.1)=true:=List.all_eq_true.mpr fun x hx=>by rw[hp x hx];rfl
 have h2:decide (es.length+([]:List Keyword).length+(if ([]:List Keyword).isEmpty then 0 else 1)<30)=true:=SC (by simp;exact Nat.lt_succ_of_lt hl);rw[h1,h2];rfl
noncomputable def ER (f:PV->D->Bool) (x:PV) (m:PM PV):PM PV:=fun σ=>match (rd σ x).any (f x) with
 |true=>m σ
 |false=>none
theorem C0 {f:PV->D->Bool} {m:PM PV} (w:Wp K (ER f x m σ)):(∃ u,rd σ x=some u/\f x u=true)/\Wp K (m σ):=by
 unfold ER at w;cases e:rd σ x with
 |none=>rw[e] at w;exact w.elim
 |some u=>
  rw[e] at w;have w:Wp K (match f x u with|true=>m σ|false=>none):=w
  cases q:f x u with
  |true=>rw[q] at w;exact ⟨⟨u,rfl,q⟩,w⟩
  |false=>rw[q] at w;exact w.elim
section
theorem M8 (f:MF) (o:CE) (l:CL) (h:kW (fun v x ap es pos=>x==f.nm&&fM v&&ap.endLine==pos.line&&o.is X.sx v&&l.is X.sx es&&decide (es.length<29)) e=true) (I:aR X.C P) (G:EnvOK X P ρ) (w:Wp K (bU (o.ev X.ker ρ) (fun x=>ER f.fit x (bU (l.ev X.ker ρ) fun ps=>f.g x ps)) P.σ)) (p:bx X (RV X.C) P K Q E):wpAny X.M X.A (eval e X.env) Q E P.s:=
 jh (fun e=>wpAny X.M X.A (eval e X.env) Q E P.s) h fun v x ap es pos h=>by
  rw[bN (ah (ah (ah (ah (ah h)))))];have hl:=aq (ah h);have hp:=l.star X.sx es X.env pos hl;refine wpAny_Call_method_late (pG (aq (ah (ah (ah (ah h)))))) (ze hl (S6 (aq h))) (aq (ah (ah (ah h)))) rfl ?_;refine o.ok X v ρ P _ _ E (aq (ah (ah h))) I G (aQ w) (p.bind fun x v P1 g1 I1 r1 w p=> ?_);obtain ⟨⟨u,e1,e2⟩,w⟩:=C0 w;obtain ⟨k4,k5⟩:=f.fitok I1 r1 e1 e2;refine ⟨f.T,f.id,f.pa,f.sl,f.ty,k4,k5,?_⟩;refine Calls.callWith_builtin (dM hp) (c_ hp ?_);exact l.ok X es pos ρ P1 _ _ E hl I1 (G.ext g1) (aQ w) (p.bind fun ps vs P2 g2 I2 r2 w p=>f.ok X.good I2 (r1.ext g2.toExt) r2 w p)
end
noncomputable def bm (f:MF) (o:CE) (l:CL):CE:=⟨fun K ρ=>bU (o.ev K ρ) fun x=>ER f.fit x (bU (l.ev K ρ) fun ps=>f.g x ps),fun s=>kW fun v x ap es pos=>x==f.nm&&fM v&&ap.endLine==pos.line&&o.is s v&&l.is s es&&decide (es.length<29),fun _ _ _ _ _ _ _ h I G w p=>M8 f o l h I G w p⟩
noncomputable def Se:D->Bool
 | .lst _=>true
 |_=>false
noncomputable def KG:D->Bool
 | .dct _ _=>true
 |_=>false
section
noncomputable def Ez:PV->D->Bool
 | .p _ _,.lst _=>true
 |_,_=>false
theorem AE {x:D} (I:aR C P) (r:RV C P v p) (h:rd P.σ p=some x) (e:Ez p x=true):P.s.TypeIs v "list"/\∀ a,v= .ref a->∃ ob,P.h.get? a=some ob/\ob.dict=none:=by
 cases p with
 |d y=>cases e
 |p n j=>
  obtain ⟨f,e1,e2⟩:=Option.bind_eq_some_iff.mp h;have q:=rP I r e1 (jI e2).2;cases f with
  |list l=>
   obtain ⟨_,g,ws,m,e3,_⟩:=q;subst e3;exact ⟨⟨_,g,rfl⟩,fun b q=>by cases q;exact ⟨_,g,rfl⟩⟩
  |dict a b=>cases e2;cases e
  |d y=>cases e2
theorem HH {x:D} (I:aR C P) (r:RV C P v p) (hh:rd P.σ p=some x) (e:KG x=true):P.s.TypeIs v "dict"/\∀ a,v= .ref a->∃ ob,P.h.get? a=some ob/\ob.dict=none:=by
 cases x with
 |dct ks ps=>
  obtain ⟨g,_,h,_⟩:zK C P ks ps v:=bh I r hh;cases h with
  |mk d l _ h1 _=>
   letI:=d.dec
   have hD:=Heap.dictOf_iff.mpr ⟨_,g,h1⟩;exact ⟨hD.typeIs,hD.mapOf.noDict⟩
  |pr xs es ep h1=>
   exact ⟨⟨_,g,h1.1⟩,fun a e=>by cases e;exact ⟨_,g,h1.2.1⟩⟩
 |_=>cases e
theorem mW {x:D} (I:aR C P) (r:RV C P v p) (hh:rd P.σ p=some x) (e:B7 x=true):P.s.TypeIs v "str"/\∀ a,v= .ref a->∃ ob,P.h.get? a=some ob/\ob.dict=none:=by
 cases x with
 |str l=>
  obtain ⟨_,t,q⟩:jN l/\∃ t,v= .str (b7 l) t:=RD.view (bh I r hh);rw[q];exact ⟨typeIs_str _ _ _,nofun⟩
 |_=>cases e
noncomputable def Iu (x:PV) (g:cD->Option cD):PM PV:=match x with
 | .p n j=>fun σ=>(b_ σ n j).bind fun f=>(g f).map fun f'=>(.ok (.d .none),dX σ n j f')
 | .d _=>fun _=>none
theorem F5 {g:cD->Option cD} (w:Wp K (Iu x g σ)):∃ n j f f',x= .p n j/\b_ σ n j=some f/\g f=some f'/\K (.ok (.d .none)) (dX σ n j f'):=by
 cases x with
 |d=>exact w.elim
 |p n j=>
  have w:Wp K ((b_ σ n j).bind fun f=>(g f).map fun f'=>(.ok (.d .none),dX σ n j f')):=w;cases e1:b_ σ n j with
  |none=>rw[e1] at w;exact w.elim
  |some f=>
   cases e2:g f with
   |none=>rw[e1,Sl,e2] at w;exact w.elim
   |some f'=>rw[e1,Sl,e2] at w;exact ⟨n,j,f,f',rfl,e1,e2,w⟩
theorem z7 {o:PO} (h:o.at j=some f):∀ i,o.has i->(o.put j f').has i:=fun i=>by
 cases o with
 |fld=>exact id
 |rcd b l=>intro q;show i<(l.set (j - 2) f').length+2;rw[SO];exact q
 |dead=>exact id
 |wrp _=>exact id
theorem ES:∀ {f:cD},(∀ x,f≠ .d x)->kE C w h n (i+2) f v->FA C w h n i v f
 | .d x,hf,_=>absurd rfl (hf x)
 | .list _,_,r=>r
 | .dict _ _,_,r=>r
theorem kE.is (I:aR C P) (q:kE C P.own P.h n j f v) (ha:P.own a= .cell n j):v= .ref a:=by
 obtain ⟨z1,_,_⟩:=q;rw[I.one _ _ _ _ z1 ha]
theorem Ju (I:aR C P) (hf':∀ x,f'≠ .d x) (hf:∀ x,f≠ .d x) (ha:P.own a= .cell n j) (hs:∀ b o,b≠a->P.h.get? b=some o->h'.get? b=some o) (ho:h'.get? a=some o') (r:RF C P.own o' f'):
  ∀ {o:PO},RO C P.own P.h n o->o.at j=some f->RO C P.own h' n (o.put j f'):=by
 have k:∀ b i o,P.own b= .cell n i->i≠j->P.h.get? b=some o->h'.get? b=some o:=fun b i o e ne q=>hs b o (fun c=>by rw[c,ha] at e;cases e;exact ne rfl) q;have fa:∀ (l:List cD) (i:Nat) (x:cD) (v:Value),j=i+2->l[i]? =some f->∀ i' y,(l.set i f')[i']? =some y->(∀ y,l[i']? =some y->FA C P.own P.h n i' v y)->(i'=i->v= .ref a)->FA C P.own h' n i' v y:=fun l i x v ej e i' y e' q1 q2=>by
  by_cases c:i=i'
  .subst c;rw[List.getElem?_set_self (So.mp e).1] at e';cases e';rw[q2 rfl];exact ES hf' (.mk (ej ▸ ha) ho r)
  .rw[SS c] at e';have q:=q1 y e';cases y with
   |d x=>exact q
   |list l=>
    obtain ⟨z1,z2,z3⟩:kE C P.own P.h n (i'+2) (.list l) v:=q;exact kE.mk z1 (k _ _ _ z1 (by omega) z2) z3
   |dict ks ps=>
    obtain ⟨z1,z2,z3⟩:kE C P.own P.h n (i'+2) (.dict ks ps) v:=q;exact kE.mk z1 (k _ _ _ z1 (by omega) z2) z3
 intro o ro e;rcases o with f0|⟨b,l⟩|_|f0
 .cases j with
  |zero=>exact ⟨_,.mk ha ho r⟩
  |succ j=>cases e
 .rcases j with _|_|i
  .cases e
  .cases e
  have e:l[i]? =some f:=e;cases b with
  |true=>
  obtain @⟨x,d,es,m,h1,h2,h3,h4,h5,h6,h7,h8⟩:jv C P.own P.h n l:=ro;refine jv.mk h1 (k _ _ _ h1 nofun h2) h3 (k _ _ _ h3 (PB) h4) h5 (by rw[SO];exact h6) (by rw[SO];exact h7) fun i' y en e1 e2=> ?_;refine fa l i y en.val rfl e i' y e1 (fun y q=>h8 i' y en q e2) fun c=> ?_;subst c;exact ((h8 _ f en e e2).at hf).is I ha
  |false=>
  obtain @⟨d,o,kvs,h1,h2,h3,h4,h5,h6,h8⟩:rY C P.own P.h n l:=ro;refine rY.mk h1 (k _ _ _ h1 nofun h2) h3 (by rw[SO];exact h4) (by rw[SO];exact h5) h6 fun i' y en e1 e2=> ?_;refine fa l i y en.2 rfl e i' y e1 (fun y q=>h8 i' y en q e2) fun c=> ?_;subst c;exact ((h8 _ f en e e2).at hf).is I ha
 .cases j<;>cases e
 .rcases j with _|_|_|j
  .cases e
  .cases e
  .obtain ⟨t,vs,q,v,z1,z2,z3,z4⟩:=ro;refine ⟨t,vs,q,v,z1,k t 0 _ z1 nofun z2,z3,?_⟩;rw[z4.is I ha];exact .mk ha ho r
  .cases e
theorem Bt {o:PO} (e:σ[n]? =some o):dX σ n j f=σ.set n (o.put j f):=by
 unfold dX;rw[e]
theorem tN (I:aR C P) (hf':∀ x,f'≠ .d x) (hf:∀ x,f≠ .d x) (e:b_ P.σ n j=some f) (ha:P.own a= .cell n j) (hs:∀ b o,b≠a->P.h.get? b=some o->h'.get? b=some o) (ho:h'.get? a=some o') (r:RF C P.own o' f'):
  ∃ P',cj P P'/\aR C P'/\P'.σ=dX P.σ n j f'/\P'.own=P.own/\P'.s={P.s with heap:=h',toks:=t}:=by
 obtain ⟨o,e1,e2⟩:=ak e;exact ⟨P.turn h' t n (o.put j f'),.turn e1 (z7 e2),I.turn (z7 e2) e1 ha hs ho (Ju I hf' hf ha hs ho r (I.obj n o e1) e2),(Bt e1).symm,rfl,rfl⟩
theorem m_ {s:Shared} {l:Addr} {vs:List Value} {n:Nat} {x:Value} (ho:s.heap.get? l=some (bp vs n)) (hsz:vs.length<=sizeLine)
  (hQ:∀ h' n',h'.get? l=some (bp (vs++[x]) n')->Heap.SameBut l s.heap h'->Q .none {s with heap:=h'}):wpAny C.M A (call (.builtin "list.append") [.ref l,x]) Q E s:=by
 have hl:s.heap.IsList l vs.toArray:=⟨_,ho,rfl,n,rfl⟩;refine wpAny_call_entry slot_list_append hl.typeIs entry_list_append ?_ (args_list_append _ _);show wpAny _ _ (updateSeq l (·.push x)>>=fun _=>PySem.ret .none) _ _ s;have e1:∃ n',(bp vs n).mapSeq (·.push x)=bp (vs++[x]) n':=⟨_,by simp [Obj.mapSeq];rfl⟩;obtain ⟨n',e1⟩:=e1;have g:=Heap.get?_update_self (Obj.mapSeq (·.push x)) ho (by rw[e1];rfl);rw[e1] at g;exact Sz (wpAny_updateSeq (hz:=by simpa using hsz) ho rfl (SA ⟨.none,rfl,hQ _ n' (by simpa using g) (Heap.SameBut.update ..)⟩))
noncomputable def Ng (y:D):cD->Option cD
 | .list l=>ax (l.length<dZ) (.list (l++[y]))
 |_=>none
noncomputable def Nf (x:PV):List PV->PM PV
 |[.d y]=>Iu x (Ng y)
 |_=>fun _=>none
theorem Lm (I:aR C P) (r:RV C P v x) (rs:mj C P ps vs) (w:Wp K (Nf x ps P.σ)) (p:dN C A (RV C) P K Q E):wpAny C.M A (call (.builtin "list.append") (v::vs)) Q E P.s:=by
 match ps,rs,w with
 |[.d y],rs,w=>
  obtain @⟨u,_,r1,r2⟩:vj C P (.d y) [] vs:=rs.view;rw[show _=[] from r2.view];obtain ⟨n,j,f,f',e1,e2,e3,k⟩:=F5 w;subst e1;cases f with
  |list l=>
   obtain ⟨hl,q⟩:=ec e3;obtain @⟨a,o,h1,h2,h3⟩:=rP I r e2 (fun _ h=>by cases h);obtain ⟨ws,m,e4,rr⟩:=h3;subst q;subst e4;refine m_ h2 (by rw[rr.length];exact Sv (S3 hl) (by decide)) fun h' n' z1 z2=> ?_;obtain ⟨P',q1,q2,q3,q4,q5⟩:=tN (t:=P.s.toks) (f':=.list (l++[y])) I (fun _ h=>by cases h) (fun _ h=>by cases h) e2 h1 (fun b o hb e=>z2.extBut b o hb e) z1 ⟨_,n',rfl,rr.append (.cons r1 .nil)⟩;have:=p.ok (.d .none) .none P' q1 q2 .none (by rw[q3];exact k);rw[q5] at this;exact this
  |_=>cases e3
 |[],_,w=>exact w.elim
 |[.p _ _],_,w=>exact w.elim
 | .d _::_::_,_,w=>exact w.elim
 | .p _ _::_::_,_,w=>exact w.elim
end
noncomputable def a9:MF:=⟨"append","list","list.append",F.plainAttrs_list,F.slot_list_append,F.type_list_append,Ez,AE,Nf,fun _ I r rs w p=>Lm I r rs w p⟩
noncomputable def EL (u k z:D):Option D:=match u with
 | .dct ks vs=>ax (kZ k ks=true) ((e_ k ks vs).getD z)
 |_=>none
noncomputable def gG (x:PV):List PV->PM PV
 |[.d k,.d z]=>fun σ=>(rd σ x).bind fun u=>(EL u k z).map fun r=>(.ok (.d r),σ)
 |_=>fun _=>none
section
theorem Hp {k y:D} {x vk vz:Value} (G:gd C) (I:aR C P) (hu:gm C P x u) (hk:RD C P.own k vk) (hz:RD C P.own z vz) (e:EL u k z=some y) (f:oX C P y Q):wpAny C.M A (call (.builtin "dict.get") [x,vk,vz]) Q E P.s:=by
 cases u with
 |dct ks ps=>
  obtain ⟨hf,q⟩:=ec e;subst q;obtain @⟨a,o,vs,h1,h2,h3,h4⟩:zK C P ks ps x:=hu;obtain ⟨d,l,c,hd,h5,e1,e2,h6,e3,h7,h8⟩:=uB h3 hk hf;subst e1;subst e2;subst e3
  letI:=d.dec
  have hl:=pi hd c h4;have hD:=Heap.dictOf_iff.mpr ⟨o,h1,h5⟩;have rr:RD C P.own ((e_ (d.toD c) (l.map fun p=>d.toD p.1) ps).getD z) ((valueAt l c).getD vz):=by
   revert hl
   cases e_ (d.toD c) (l.map fun p=>d.toD p.1) ps<;>cases valueAt l c<;>intro hl<;>first|exact hz|exact hl.elim|exact hl
  exact call_meetsIn PySem.F.slot_dict_get hD.typeIs PySem.F.entry_dict_get (PySem.F.args_dict_get_3 _ _ _) (meets_dict_get_default _ a h7 (gZ G I h2) vz) ⟨_,hD.mapOf,f.tok I rr _⟩
 |_=>cases e
theorem KR (G:gd C) (I:aR C P) (r:RV C P v x) (rs:mj C P ps vs) (w:Wp K (gG x ps P.σ)) (p:dN C A (RV C) P K Q E):wpAny C.M A (call (.builtin "dict.get") (v::vs)) Q E P.s:=by
 match ps,rs,w with
 |[.d k,.d z],rs,w=>
  obtain @⟨vk,_,r1,r2⟩:vj C P (.d k) [.d z] vs:=rs.view;obtain @⟨vz,_,r3,r4⟩:vj C P (.d z) [] _:=r2.view;rw[show _=[] from r4.view];have w:Wp K ((rd P.σ x).bind fun u=>(EL u k z).map fun r=>(.ok (.d r),P.σ)):=w;cases e1:rd P.σ x with
  |none=>rw[e1] at w;exact w.elim
  |some u=>
   cases e2:EL u k z with
   |none=>rw[e1,Sl,e2] at w;exact w.elim
   |some y=>rw[e1,Sl,e2] at w;exact Hp G I (bh I r e1) r1 r3 e2 (p.fin w)
 |[],_,w=>exact w.elim
 |[_],_,w=>exact absurd w (by cases ‹PV›<;>exact id)
 |[.d _,.p _ _],_,w=>exact w.elim
 | .p _ _::_::_,_,w=>exact w.elim
 | .d _:: .d _::_::_,_,w=>exact w.elim
 | .d _:: .p _ _::_::_,_,w=>exact w.elim
end
noncomputable def BJ:MF:=⟨"get","dict","dict.get",F.plainAttrs_dict,F.slot_dict_get,F.type_dict_get,fun _=>KG,HH,gG,fun G I r rs w p=>KR G I r rs w p⟩
noncomputable def RC (u v:D):Option Bool:=match v with
 | .dct ks vs=>ax (kZ u ks=true) (e_ u ks vs).isSome
 |_=>none
section
theorem aR.szF (I:aR C P) (h:P.fs≠[]):C.H.objs.size<=P.h.objs.size:=by
 cases q:P.fs with
 |nil=>exact absurd q h
 |cons f r=>
  have z:=I.fr.ns f (by rw[q];exact .head _);exact S3 (SM z.2.2 z.1.lt)
theorem tq {f:Nat} (I:aR X.C P) (G:EnvOK X P ρ) (r:mj X.C P ps vs) (w:Wp K (X.ker.Φ X.ker.hd f ps P.σ)) (p:bx X (RV X.C) P K Q E):wpAny X.M X.A (call (.ref (X.C.fadr f)) vs) Q E P.s:=
 wpAny_call (X.calls X.hd X.A P f ps vs K Q E G.frs (I.szF G.ne) (by have:=X.dep;exact SM (S5 (by decide) _) this) (by have:=X.uni;exact SM (S5 (by decide) _) this) X.hnd I r w p)
theorem H1 (f:Nat) (l:CL) (h:fj (fun x es=>x==(X.sx.fnm f).1&& !(X.sx.fnm f).2&&fo X.sx.sc x&&l.is X.sx es) e=true) (I:aR X.C P) (G:EnvOK X P ρ) (w:Wp K (bU (l.ev X.ker ρ) (X.ker.Φ X.ker.hd f) P.σ)) (p:bx X (RV X.C) P K Q E):wpAny X.M X.A (eval e X.env) Q E P.s:=
 fi (fun e=>wpAny X.M X.A (eval e X.env) Q E P.s) h fun x px es pos h=>by
  have hw:=aq (ah h);rw[bN (ah (ah (ah h)))] at hw ⊢;obtain ⟨hn,o,fd,ho,hdata⟩:=X.good.fn f ((Bool.not_eq_true' _).mp (aq (ah (ah h))));refine wpAny_Call_NameR (eC I hw hn ?_);refine Calls.callWith_function (o:=o) (fd:=fd) (c_ (l.star X.sx es X.env pos (aq h)) ?_);exact l.ok X es pos ρ P _ _ E (aq h) I G (aQ w) (p.bind fun ps vs P1 g1 I1 r1 w p=>⟨⟨(I1.base _ _ ho).1,hdata⟩,tq I1 (G.ext g1) r1 w p⟩)
end
noncomputable def aF (f:Nat) (l:CL):CE:=⟨fun K ρ=>bU (l.ev K ρ) (K.Φ K.hd f),fun s=>fj fun x es=>x==(s.fnm f).1&& !(s.fnm f).2&&fo s.sc x&&l.is s es,fun _ _ _ _ _ _ _ h I G w p=>H1 f l h I G w p⟩
noncomputable def cR (b:Bool) (σ:aE) (n:Nat):Option (List cD):=match σ[n]? with
 |some (.rcd c l)=>if c=b then some l else none
 |_=>none
theorem kH {l:List cD} (h:cR b σ n=some l):σ[n]? =some (.rcd b l):=by
 unfold cR at h;split at h
 .rename_i c l' e
  split at h
  .rename_i q;cases h;cases q;exact e
  .cases h
 .cases h
noncomputable def zc (n k:Nat):cD->PV
 | .d x=>.d x
 |_=>.p n (k+2)
noncomputable def oB (b:Bool) (k:Nat):PV->PM PV
 | .p n 0=>fun σ=>(cR b σ n).bind fun l=>(l[k]?).map fun f=>(.ok (zc n k f),σ)
 |_=>fun _=>none
theorem zM (w:Wp K (oB b k x σ)):∃ n l f,x= .p n 0/\σ[n]? =some (.rcd b l)/\l[k]? =some f/\K (.ok (zc n k f)) σ:=by
 match x,w with
 | .p n 0,w=>
  have w:Wp K ((cR b σ n).bind fun l=>(l[k]?).map fun f=>(.ok (zc n k f),σ)):=w;cases e1:cR b σ n with
  |none=>rw[e1] at w;exact w.elim
  |some l=>
   cases e2:l[k]? with
   |none=>rw[e1,Sl,e2] at w;exact w.elim
   |some f=>rw[e1,Sl,e2] at w;exact ⟨n,l,f,rfl,kH e1,e2,w⟩
 | .p _ (_+1),w=>exact w.elim
 | .d _,w=>exact w.elim
section
theorem Dw (I:aR C P) {l:List cD} (e:P.σ[n]? =some (.rcd b l)):∀ {f:cD},l[k]? =some f->FA C P.own P.h n k v f->RV C P v (zc n k f)
 | .d _,_,r=>r
 | .list m,h,r=>⟨⟨_,e,Nat.add_lt_add_right (So.mp h).1 2⟩,fun _ q=>kE.is I (f:=.list m) r q⟩
 | .dict x y,h,r=>⟨⟨_,e,Nat.add_lt_add_right (So.mp h).1 2⟩,fun _ q=>kE.is I (f:=.dict x y) r q⟩
theorem u0 (x y:Str) (t:Tok):(Value.str x t).isStr y=decide (x=y):=by
 show (x==y)=_;rw[Bool.eq_iff_iff,beq_iff_eq,decide_eq_true_eq]
theorem FL (inj:∀ i,i<7->∀ k,k<7->C.att i=C.att k->i=k):∀ {es:List DictEntry} {off k:Nat} {e:DictEntry},(∀ (i:Nat) (e:DictEntry),es[i]? =some e->∃ t,e.key=Value.str (C.att (off+i)) t)->off+es.length<=7->es[k]? =some e->es.find? (·.key.isStr (C.att (off+k)))=some e:=by
 intro es
 induction es with
 |nil=>
  intro _ _ _ _ _ h;cases h
 |cons a es ih=>
  intro off k e h hl hk;obtain ⟨t,ht⟩:=h 0 a rfl;simp only [Ss] at hl;cases k with
  |zero=>
   cases hk;rw[List.find?_cons,ht,u0,SC (by rfl)]
  |succ k=>
   have hk':es[k]? =some e:=hk;have hlt:=(So.mp hk').1;rw[List.find?_cons,ht,u0,Tf (fun q=>by have:=inj _ (by exact Nat.lt_of_add_right_lt hl) _ (PA hl hlt) q;omega)];have:=ih (off:=off+1) (k:=k) (e:=e) (fun i e he=>by have:=h (i+1) e he;rw[show off+(i+1)=off+1+i by exact PK] at this;exact this) (by exact Pz hl) hk';rw[show off+1+k=off+(k+1) by exact Mr] at this;exact this
theorem xa:∀ {es:List DictEntry} {off:Nat} {x:Str},(∀ (i:Nat) (e:DictEntry),es[i]? =some e->∃ t,e.key=Value.str (C.att (off+i)) t)->(∀ i,off<=i->i<off+es.length->C.att i≠x)->es.find? (·.key.isStr x)=none/\es.any (·.refKey)=false:=by
 intro es
 induction es with
 |nil=>
  intro _ _ _ _;exact ⟨rfl,rfl⟩
 |cons a es ih=>
  intro off x h hn;obtain ⟨t,ht⟩:=h 0 a rfl;have ih:=ih (off:=off+1) (x:=x) (fun i e he=>by have:=h (i+1) e he;rw[show off+(i+1)=off+1+i by exact PK] at this;exact this) (fun i h1 h2=>hn i (by exact Nat.le_of_succ_le h1) (by simp only [Ss];exact Rl h2));refine ⟨?_,?_⟩
  .rw[List.find?_cons,ht,u0,Tf (hn (off+0) (Sy _) (by simp only [Ss];exact Py))];exact ih.1
  .rw[List.any_cons,ih.2,Bool.or_false];unfold DictEntry.refKey;rw[ht]
theorem zD {es:List DictEntry} (h:rO C es) (i:Nat) (e:DictEntry) (he:es[i]? =some e):∃ t,e.key=Value.str (C.att (0+i)) t:=by rw[Tg];exact (h i e he).1
theorem Cb:∀ {x:D} {v:Value} {w:bJ},RD C w x v->PySem.W.handedIn v=true
 |_,_,_,r=>by cases r<;>rfl
theorem Cd:∀ {f:cD},FA C w h n i v f->PySem.W.handedIn v=true
 | .d _,r=>Cb r
 | .list l,r=>by
  obtain ⟨_,_,_⟩:kE C w h n (i+2) (.list l) v:=r;rfl
 | .dict ks ps,r=>by
  obtain ⟨_,_,_⟩:kE C w h n (i+2) (.dict ks ps) v:=r;rfl
theorem yT {l:List cD} {vx:Value} {expr:Bool} (G:gd C) (hk:k<7) (I:aR C P) (hx:RV C P vx (.p n 0)) (e1:P.σ[n]? =some (.rcd true l)) (e2:l[k]? =some f) (kk:∀ v t,FA C P.own P.h n k v f->Q v {P.s with toks:=t}):
  wpAny C.M A (PySem.getAttr vx (C.att k) expr) Q E P.s:=by
 obtain @⟨x,d,es,m,h1,h2,h3,h4,h5,h6,h7,h8⟩:jv C P.own P.h n l:=I.obj n _ e1;rw[hx.2 x h1];have W:=G.cls;obtain ⟨cd,c1,c2⟩:=W.cd;have hlt:k<es.length:=by rw[h6];exact (So.mp e2).1
 have hen:es[k]? =some es[k]:=Sp hlt;have fa:=h8 k f _ e2 hen;have X:PySem.W.Frag.In C.K P.h:=W.X.keeps fun b o e=>(I.base b o e).1;have hfind:es.find? (·.key.isStr (C.att k))=some es[k]:=by
  have:=FL W.inj (off:=0) (k:=k) (zD h5) (Px h6 h7) hen
  rwa [Tg] at this
 have hlook:PySem.W.lookIn (C.att k) (ef es m)=some (some es[k].val):=by
  unfold PySem.W.lookIn;show (match es.find? (·.key.isStr (C.att k)) with|some e=>some (some e.val)|none=>_)=_
  rw[hfind]
 refine PySem.W.get_value X (show PySem.W.InstAt P.h x (nJ C.book d) C.book (some (ef es m)) from ⟨h2,rfl,rfl,h4⟩) W.ga ?_ (Cd fa) (kk _ _ fa);unfold PySem.W.findObj;rw[c1,W.no k hk];show (PySem.W.ownOf cd (some (ef es m)) (C.att k)).bind _=_;unfold PySem.W.ownOf;rw[c2,if_pos rfl];show (PySem.W.lookIn (C.att k) (ef es m)).bind _=_;rw[hlook];rfl
end
section
theorem H5 (a:CE) (k:Nat) (h:dH (fun v x _=>x==X.sx.att k&&decide (k<7)&&fM v&&a.is X.sx v) e=true) (I:aR X.C P) (G:EnvOK X P ρ) (w:Wp K (bU (a.ev X.ker ρ) (oB true k) P.σ)) (p:bx X (RV X.C) P K Q E):wpAny X.M X.A (eval e X.env) Q E P.s:=
 fC (fun e=>wpAny X.M X.A (eval e X.env) Q E P.s) h fun v x pos h=>by
  rw[bN (ah (ah (ah h))),arm_eval_Attribute,pG (aq (ah h))];refine Sz (a.ok X v ρ P _ _ E (aq h) I G (aQ w) (p.bind fun x vx P1 g1 I1 r1 w p=> ?_));obtain ⟨n,l,f,q,e1,e2,kk⟩:=zM w;subst q;refine Sz (wpAny_standAt (Sz (wpAny_holding (yT X.good (S6 (aq (ah (ah h)))) I1 r1 e1 e2 fun v t fa=> ?_))));refine Sz (wpAny_letTemporaryGo (SA ?_));exact p.ok _ v (P1.to P1.h t) (.to ..) (I1.to fun _ _ e=>e) (Dw I1 e1 e2 fa) kk
noncomputable def MI:PV->PM Unit
 | .p n 0=>fun σ=>(cR true σ n).map fun _=>(.ok (),σ)
 |_=>fun _=>none
theorem I7 {K:R Unit->aE->Prop} (w:Wp K (MI x σ)):∃ n l,x= .p n 0/\σ[n]? =some (.rcd true l)/\K (.ok ()) σ:=by
 match x,w with
 | .p n 0,w=>
  have w:Wp K ((cR true σ n).map fun _=>(.ok (),σ)):=w;cases e1:cR true σ n with
  |none=>rw[e1] at w;exact w.elim
  |some l=>rw[e1] at w;exact ⟨n,l,rfl,kH e1,w⟩
 | .p _ (_+1),w=>exact w.elim
 | .d _,w=>exact w.elim
theorem GU (o:CE) (m:Nat) (l:CL) (h:kW (fun v x ap es pos=>x==(X.sx.fnm m).1&&(X.sx.fnm m).2&&fM v&&ap.endLine==pos.line&&o.is X.sx v&&l.is X.sx es&&decide (es.length<29)) e=true) (I:aR X.C P) (G:EnvOK X P ρ)
  (w:Wp K (bU (o.ev X.ker ρ) (fun x=>bU (MI x) fun _=>bU (l.ev X.ker ρ) fun ps=>X.ker.Φ X.ker.hd m (x::ps)) P.σ)) (p:bx X (RV X.C) P K Q E):wpAny X.M X.A (eval e X.env) Q E P.s:=
 jh (fun e=>wpAny X.M X.A (eval e X.env) Q E P.s) h fun v x ap es pos h=>by
  have W:=X.good.cls;obtain ⟨w1,w2,w3,of,fd,w4,w5⟩:=W.meth m (aq (ah (ah (ah (ah (ah h))))));have hl:=aq (ah h);rw[bN (ah (ah (ah (ah (ah (ah h)))))),arm_eval_Call,pG (aq (ah (ah (ah (ah h)))))];refine Sz (o.ok X v ρ P _ _ E (aq (ah (ah h))) I G (aQ w) (p.bind fun x vx P1 g1 I1 r1 w p=> ?_));refine Sz (wpAny_standAt ?_);have hform:methodCallForm (es.length+([]:List Keyword).length) (backTo pos (starEach es X.env)) (backToKw pos (keywordEach [] X.env))=true:=ze hl (S6 (aq h));have hpos:methodCallPos true v X.env ap pos=pure pos:=by
   unfold methodCallPos;have:(ap.endLine==pos.line)=true:=aq (ah (ah (ah h)));simp [this]
  obtain ⟨n,fl,q,e1,w⟩:=I7 (aQ w);subst q;obtain @⟨a,d,en,k,i1,i2,i3,i4,i5,i6,i7,_⟩:jv X.C P1.own P1.h n fl:=I1.obj n _ e1;rw[r1.2 a i1];unfold methodCall;rw[hform];have XX:PySem.W.Frag.In X.C.K P1.h:=W.X.keeps fun b o e=>(I1.base b o e).1;have hnone:=xa (C:=X.C) (es:=en) (off:=0) (x:=(X.C.fnm m).1) (zD i5) (fun i _ h=>w3 i (Pw i6 i7 h));refine Sz (wpAny_holding (PySem.W.method_fn XX (show PySem.W.InstAt P1.h a (nJ X.C.book d) X.C.book (some (ef en k)) from ⟨i2,rfl,rfl,i4⟩) W.ga W.gattr w1 w2 ?_ ?_))
  .unfold PySem.W.shadowIn PySem.W.lookIn;show Option.map _ (match en.find? (·.key.isStr (X.C.fnm m).1) with|some e=>some (some e.val)|none=>if en.any (·.refKey) then none else some none)=_
   rw[hnone.1,hnone.2];rfl
  .refine Sz (wpAny_of_eq hpos ?_);refine Calls.callWith_function (o:=of) (fd:=fd) (c_ (l.star X.sx es X.env pos hl) ?_);have rr:RV X.C P1 (.ref a) (.p n 0):=⟨r1.1,fun b q=>by rw[I1.one b a n 0 q i1]⟩;exact l.ok X es pos ρ P1 _ _ E hl I1 (G.ext g1) (aQ w) (p.bind fun ps vs P2 g2 I2 r2 w p=>⟨⟨(I2.base _ _ w4).1,w5⟩,tq I2 ((G.ext g1).ext g2) (.cons (rr.ext g2.toExt) r2) w p⟩)
end
noncomputable def cQ (a:CE) (k:Nat):CE:=⟨fun K ρ=>bU (a.ev K ρ) (oB true k),fun s=>dH fun v x _=>x==s.att k&&decide (k<7)&&fM v&&a.is s v,fun _ _ _ _ _ _ _ h I G w p=>H5 a k h I G w p⟩
noncomputable def meth (o:CE) (m:Nat) (l:CL):CE:=⟨fun K ρ=>bU (o.ev K ρ) fun x=>bU (MI x) fun _=>bU (l.ev K ρ) fun ps=>K.Φ K.hd m (x::ps),fun s=>kW fun v x ap es pos=>x==(s.fnm m).1&&(s.fnm m).2&&fM v&&ap.endLine==pos.line&&o.is s v&&l.is s es&&decide (es.length<29),fun _ _ _ _ _ _ _ h I G w p=>GU o m l h I G w p⟩
section
noncomputable def Pt.make2 (P:Pt) (h:Heap) (a b:Addr):Pt:={P with s:={P.s with heap:=h},own:=hR (hR P.own b (.cell P.σ.length 1)) a (.cell P.σ.length 0),σ:=P.σ++[.rcd true []]}
theorem D_ (I:aR C P) {x d:Addr} (k:∀ b o,P.h.get? b=some o->h'.get? b=some o) (hx:P.own x= .no) (hd:P.own d= .no) (Hx:C.H.get? x=none) (Hd:C.H.get? d=none) (ne:x≠d) (ox:h'.get? x=some (nJ C.book d)) (od:h'.get? d=some (ef [] 0)):
  aR C (P.make2 h' x d)/\cj P (P.make2 h' x d)/\RV C (P.make2 h' x d) (.ref x) (.p P.σ.length 0):=by
 have na:∀ b,P.own b≠ .no->b≠x/\b≠d:=fun b q=>⟨fun e=>q (e ▸ hx),fun e=>q (e ▸ hd)⟩;have w1:(P.make2 h' x d).own x= .cell P.σ.length 0:=cc _ _ _;have w2:(P.make2 h' x d).own d= .cell P.σ.length 1:=(bB (Ne.symm ne)).trans (cc _ _ _);have w3:∀ b,b≠x->b≠d->(P.make2 h' x d).own b=P.own b:=fun b p q=>(bB p).trans (bB q);have cs:∀ b,(b=x/\(P.make2 h' x d).own b= .cell P.σ.length 0)∨(b=d/\(P.make2 h' x d).own b= .cell P.σ.length 1)∨(b≠x/\b≠d/\(P.make2 h' x d).own b=P.own b):=fun b=>by
  by_cases p:b=x
  .exact .inl ⟨p,p ▸ w1⟩
  .by_cases q:b=d
   .exact .inr (.inl ⟨q,q ▸ w2⟩)
   .exact .inr (.inr ⟨p,q,w3 b p q⟩)
 have kk:∀ b o y,P.own b=y->y≠ .no->P.h.get? b=some o->(P.make2 h' x d).own b=y/\h'.get? b=some o:=fun b o y e q r=>⟨(w3 b (na b (e ▸ q)).1 (na b (e ▸ q)).2).trans e,k b o r⟩;have fz:Fz P.own (P.make2 h' x d).own:=fun b o e=>(w3 b (na b (by rw[e];nofun)).1 (na b (by rw[e];nofun)).2).trans e;have lt:∀ b n j,P.own b= .cell n j->n≠P.σ.length:=fun b n j e=>Nat.ne_of_lt (I.bd b n j e).lt;refine ⟨⟨fun b o e=> ?_,fun b o e=> ?_,fun b e=> ?_,I.fr.mv (fun b o e q=>kk b o _ e nofun q) (fun b e=>pK (x:=.cell P.σ.length 1) (a:=d) dt.noConfusion (pK (x:=.cell P.σ.length 0) (a:=x) dt.noConfusion e)),I.gh.mv fz fun b o e q=>kk b o _ e nofun q,fun b c n j e f=> ?_,fun b n j e=> ?_,fun n o e=> ?_⟩,⟨⟨⟨h',_,rfl⟩,rfl,fz,fun _ _ v=>kF v,fun n j b v q=> ?_⟩,rfl⟩,Dv (by show 0<0+2;decide) fun b e=> ?_⟩
 .obtain ⟨e1,e2⟩:=I.base b o e;have p:b≠x:=fun q=>by rw[q,Hx] at e;cases e
  have q:b≠d:=fun q=>by rw[q,Hd] at e;cases e
  exact ⟨k b o e1,(w3 b p q).trans e2⟩
 .rcases cs b with ⟨_,q⟩|⟨_,q⟩|⟨_,_,q⟩
  .cases q.symm.trans e
  .cases q.symm.trans e
  .exact k b o (I.fz b o (q.symm.trans e))
 .rcases cs b with ⟨p,q⟩|⟨p,q⟩|⟨_,_,q⟩
  .exact ⟨_,p ▸ ox⟩
  .exact ⟨_,p ▸ od⟩
  .obtain ⟨o,ho⟩:=I.live b (q ▸ e);exact ⟨o,k b o ho⟩
 .rcases cs b with ⟨p,q⟩|⟨p,q⟩|⟨_,_,q⟩<;>rcases cs c with ⟨p',q'⟩|⟨p',q'⟩|⟨_,_,q'⟩
  .rw[p,p']
  .have z:=(q.symm.trans e).trans (q'.symm.trans f).symm;cases z
  .cases q.symm.trans e;exact absurd rfl (lt c _ _ (q'.symm.trans f))
  .have z:=(q.symm.trans e).trans (q'.symm.trans f).symm;cases z
  .rw[p,p']
  .cases q.symm.trans e;exact absurd rfl (lt c _ _ (q'.symm.trans f))
  .cases q'.symm.trans f;exact absurd rfl (lt b _ _ (q.symm.trans e))
  .cases q'.symm.trans f;exact absurd rfl (lt b _ _ (q.symm.trans e))
  .exact I.one b c n j (q.symm.trans e) (q'.symm.trans f)
 .rcases cs b with ⟨p,q⟩|⟨p,q⟩|⟨_,_,q⟩
  .cases q.symm.trans e;exact ⟨_,eS,by show 0<0+2;decide⟩
  .cases q.symm.trans e;exact ⟨_,eS,by show 1<0+2;decide⟩
  .exact kF (I.bd b n j (q.symm.trans e))
 .by_cases z:n=P.σ.length
  .rw[(d6 e).2 z,z];exact jv.mk w1 ox w2 od (fun i e h=>by cases h) rfl (SQ _) (fun i f e h=>by cases h)
  .exact (I.obj n o ((d6 e).1 z)).mv fz fun b j o e q=>kk b o _ e nofun q
 .rcases cs b with ⟨p,z⟩|⟨p,z⟩|⟨_,_,z⟩
  .cases z.symm.trans q;exact absurd v.lt (S7 _)
  .cases z.symm.trans q;exact absurd v.lt (S7 _)
  .exact z.symm.trans q
 .rcases cs b with ⟨p,z⟩|⟨p,z⟩|⟨_,_,z⟩
  .exact p
  .cases z.symm.trans e
  .exact absurd rfl (lt b _ _ (z.symm.trans e))
end
noncomputable def JU:PM PV:=jo (.rcd true [])
noncomputable def Ms (Φ:List PV->PM PV) (ps:List PV):PM PV:=bU JU fun o=>bU (Φ (o::ps)) fun v=>bU (GN ((mZ v).bind fun x=>match x with| .none=>some ()|_=>none)) fun _=>ret o
section
theorem JS (l:CL) (h:fj (fun x es=>x==("Book":Str)&&fo X.sx.sc x&&l.is X.sx es) e=true) (I:aR X.C P) (G:EnvOK X P ρ) (w:Wp K (bU (l.ev X.ker ρ) (Ms (X.ker.Φ X.ker.hd 0)) P.σ)) (p:bx X (RV X.C) P K Q E):wpAny X.M X.A (eval e X.env) Q E P.s:=
 fi (fun e=>wpAny X.M X.A (eval e X.env) Q E P.s) h fun x px es pos h=>by
  have hw:=aq (ah h);rw[bN (ah (ah h))] at hw ⊢;have W:=X.good.cls;refine wpAny_Call_NameR (eC I hw W.name ?_);have hp:=l.star X.sx es X.env pos (aq h);have hst:((backTo pos (starEach es X.env)).any (·.1)||([]:List (Option Str×Sem Value)).any fun x=>x.1.isNone)=false:=by rw[dM hp];rfl
  unfold callWith;refine Sz (wpAny_holding (c_ hp ?_));refine l.ok X es pos ρ P _ _ E (aq h) I G (aQ w) (p.bind fun ps vs P1 g1 I1 r1 w p=> ?_);refine Sz (wpAny_standAt ?_);have XX:PySem.W.Frag.In X.C.K P1.h:=W.X.keeps fun b o e=>(I1.base b o e).1;have Y:=PySem.W.makes_of (M:=X.M) XX W.makes;obtain ⟨oc,od,cd,sl,hC0,_⟩:=Y.obj;refine Sz (m:=keeperOf (.ref X.C.book)) ?_;unfold keeperOf;refine Sz (wpAny_load hC0 ?_);refine Sz (Y.call X.A _ E P1.s (fun _ _ e=>e) ?_);rw[if_pos (by rfl)];refine SA ?_;rw[hst];show wpAny _ _ (call (.ref X.C.book) vs []>>=fun r=>do holding [r] point;pure r) _ _ _;refine Sz (wpAny_mono (Q:=fun r s'=>Q r s') ?_ (fun r s' hr=>Sz (wpAny_holding (wpAny_point (SA hr)))) fun _ _ x=>x);obtain ⟨⟨hh,g,dr,t,os⟩,fs,own,gh,σ⟩:=P1;refine wpAny_call (PySem.W.make_core Y (PySem.W.looks_findIn XX W.init.1) (fun self=>PySem.W.bind_fn XX self W.init.2) (.inl rfl) ?_);have hs1:=SH (hh.push PySem.W.emptyDict) (o:=PySem.W.instObj X.C.book hh.objs.size) rfl;rw[Heap.size_push] at hs1;obtain ⟨J,gJ,rJ⟩:=D_ I1 (h':=(hh.push PySem.W.emptyDict).push (PySem.W.instObj X.C.book hh.objs.size)) (x:=hh.objs.size+1) (d:=hh.objs.size) (fun b o e=>Su _ (Su _ e)) (I1.off (S8 _)) (I1.off (Sy _)) (I1.out (S8 _)) (I1.out (Sy _)) (Nat.succ_ne_self _)
   hs1 (Su _ (SH _ rfl))
  have hdep:=X.dep;have huni:=X.uni;have d1:(X.A.under (.builtin "type.__call__" ⟨.ref X.C.book::vs,[]⟩)).depth=X.A.depth+1:=rfl;have u1:(X.A.under (.builtin "type.__call__" ⟨.ref X.C.book::vs,[]⟩)).units<=X.A.units+10:=S5 (Sr rfl) _;have f1:(X.A.under (.builtin "type.__call__" ⟨.ref X.C.book::vs,[]⟩)).frames=X.A.frames:=by
   generalize X.A=A;obtain ⟨_,_,fr,_,_⟩:=A;cases fr<;>rfl
  have G1:=G.ext g1;have w:Wp K (Lg (fun v=>bU (GN ((mZ v).bind fun x=>match x with| .none=>some ()|_=>none)) fun _=>ret (.p σ.length 0)) (X.ker.Φ X.ker.hd 0 (.p σ.length 0::ps) (σ++[.rcd true []]))):=w
  refine codeAny_mono (X.calls X.hd (X.A.under (.builtin "type.__call__" ⟨.ref X.C.book::vs,[]⟩)) (Pt.make2 ⟨⟨hh,g,dr,t,os⟩,fs,own,gh,σ⟩ _ (hh.objs.size+1) hh.objs.size) 0 (.p σ.length 0::ps) (.ref (hh.objs.size+1)::vs) _ (fun v s'=>v= .none/\Q (.ref (hh.objs.size+1)) s') E (by
   obtain ⟨ls,q1,q2⟩:=G1.frs;exact ⟨ls,f1.trans q1,q2⟩) (J.szF G1.ne) (by rw[d1];exact Pv hdep) (Pu huni u1) X.hnd J (.cons rJ (r1.ext gJ.toExt)) (aQ w) ⟨fun v u P3 g3 I3 r3 k=> ?_,fun c e P3 g3 I3 x3 k=> ?_⟩) fun r s' h=> ?_
  .obtain ⟨_,e1,k⟩:=fO (aQ k);obtain ⟨z,e2,e3⟩:=ak e1;have e4:z= .none:=by cases z<;>first|rfl|cases e3
   have r3:=rA e2 r3;rw[e4] at r3;exact ⟨r3.view,p.ok (.p σ.length 0) _ P3 (gJ.trans g3) I3 (rJ.ext g3.toExt) k⟩
  .refine p.ex c e P3 (gJ.trans g3) I3 ?_ k;obtain ⟨q1,q2⟩:=x3;exact .mk (f1 ▸ q1) q2
  .cases r with
   |ok fl=>cases fl<;>exact h
   |error e=>exact h
end
noncomputable def DY (l:CL):CE:=⟨fun K ρ=>bU (l.ev K ρ) (Ms (K.Φ K.hd 0)),fun s=>fj fun x es=>x==("Book":Str)&&fo s.sc x&&l.is s es,fun _ _ _ _ _ _ _ h I G w p=>JS l h I G w p⟩
def RJ (Γ:FY):Prop:=∀ x y i,Γ.lookup x=some i->Γ.lookup y=some i->x=y
structure SX extends Cx where
 outer:List Env
 L:Addr
 cs:List Addr
 fr:A.frames=some (env::outer)
 loc:env.locals=L
 frame:env.frame=some L
 cell:∀ x,env.kindOf x=some .cell->∃ c,env.cells.lookup x=some c/\c∈cs
 apart:∀ x y c,env.cells.lookup x=some c->env.cells.lookup y=some c->x=y
 inj:RJ Γ
 scE:sc=env.scope
 dep2:A.depth+8*d+151<recursionLimit
 uni2:A.units+64*d+1005<cLine
 lmE:∀ l,lm=some l->C.lam=some l/\env.code= .ref l.c/\env.qual++"<lambda>"=l.qual
structure cV (X:SX) (P:Pt) (ρ:bj):Prop extends EnvOK X.toCx P ρ where
 hd:∃ f r,P.fs=f::r/\f.L=X.L/\f.cells=X.cs
section
variable {X:SX}
theorem cV.ext (G:cV X P ρ) (g:cj P P'):cV X P' ρ:=⟨G.toEnvOK.ext g,g.fs ▸ G.hd⟩
theorem cV.gs (G:cV X P ρ) (g:cj P P'):fu P P':=⟨g.toExt,by
 obtain ⟨f,r,e,_⟩:=G.hd;rw[g.fs,e];exact .mk (.refl f)⟩
end
def jw (K:Out->aE->Prop):Option (Out×aE)->Prop
 |some (o,σ)=>K o σ
 |none=>False
def oK {α:Type} (K:Out->aE->Prop) (ρ:bj) (k:α->aE->Option (Out×aE)):R α->aE->Prop
 | .ok v,σ=>jw K (k v σ)
 | .ex c,σ=>K (.ex c ρ) σ
theorem dP {K:Out->aE->Prop} {m:PM α} {k:α->aE->Option (Out×aE)} (h:jw K (cO ρ m k σ)):Wp (oK K ρ k) (m σ):=by
 unfold cO at h;generalize m σ=o at h
 match o,h with
 |none,h=>exact h
 |some (.ok _,_),h=>exact h
 |some (.ex _,_),h=>exact h
structure dc (X:SX) (P:Pt) (K:Out->aE->Prop) (Q:Flow->Shared->Prop) (E:Value->Shared->Prop):Prop where
 next:∀ ρ P',fu P P'->aR X.C P'->cV X P' ρ->K (.next ρ) P'.σ->Q .next P'.s
 ret:∀ p v P',fu P P'->aR X.C P'->RV X.C P' v p->K (.ret p) P'.σ->Q (.ret v) P'.s
 ex:∀ c ρ e P',fu P P'->aR X.C P'->sL X.C X.A P' c e->cV X P' ρ->K (.ex c ρ) P'.σ->E e P'.s
section
variable {X:SX} {K:Out->aE->Prop} {Q:Flow->Shared->Prop}
theorem dc.mono (h:dc X P K Q E) (g:fu P P'):dc X P' K Q E:=
 ⟨fun ρ P'' g'=>h.next ρ P'' (g.trans g'),fun p v P'' g'=>h.ret p v P'' (g.trans g'),fun c ρ e P'' g'=>h.ex c ρ e P'' (g.trans g')⟩
theorem dc.bind {Rel:Pt->β->α->Prop} {k:α->aE->Option (Out×aE)} {Q':β->Shared->Prop} (h:dc X P K Q E) (G:cV X P ρ) (kk:∀ p v P',cj P P'->aR X.C P'->Rel P' v p->jw K (k p P'.σ)->cV X P' ρ->dc X P' K Q E->Q' v P'.s):dN X.C X.A Rel P (oK K ρ k) Q' E:=
 ⟨fun p v P' g i r w=>kk p v P' g i r w (G.ext g) (h.mono (G.gs g)),fun c e P' g i x w=>h.ex c ρ e P' (G.gs g) i x (G.ext g) w⟩
theorem dc.go (h:dc X P K Q E) (I:aR X.C P) (G:cV X P ρ) (k:K (.next ρ) P.σ):Q .next P.s:=h.next ρ P (G.gs (.refl P)) I G k
end
abbrev Ws (X:SX) (e:Stmt) (Q:Flow->Shared->Prop) (E:Value->Shared->Prop) (P:Pt):Prop:=wpAny X.M X.A (PySem.exec e X.env) Q E P.s
structure C1 where
 ex:c9->bj->aE->Option (Out×aE)
 is:Sx->Stmt->Bool
 ok:∀ (X:SX) (st:Stmt) (ρ:bj) (P:Pt) (K:Out->aE->Prop) (Q:Flow->Shared->Prop) (E:Value->Shared->Prop),is X.sx st=true->aR X.C P->cV X P ρ->jw K (ex X.ker ρ P.σ)->dc X P K Q E->Ws X st Q E P
structure CS where
 ex:c9->bj->aE->Option (Out×aE)
 is:Sx->List Stmt->Bool
 ok:∀ (X:SX) (st:List Stmt) (ρ:bj) (P:Pt) (K:Out->aE->Prop) (Q:Flow->Shared->Prop) (E:Value->Shared->Prop),is X.sx st=true->aR X.C P->cV X P ρ->jw K (ex X.ker ρ P.σ)->dc X P K Q E->wpAny X.M X.A (PySem.execs st X.env) Q E P.s
def tK (K:Out->aE->Prop) (k:bj->aE->Option (Out×aE)):Out->aE->Prop
 | .next ρ,σ=>jw K (k ρ σ)
 |o,σ=>K o σ
theorem zL {K:Out->aE->Prop} {k:bj->aE->Option (Out×aE)}:∀ {z:Option (Out×aE)},jw K (og z k)->jw (tK K k) z
 |none,h=>h
 |some (.next _,_),h=>h
 |some (.ret _,_),h=>h
 |some (.ex _ _,_),h=>h
noncomputable def sN:CS:=⟨fun _ ρ σ=>some (.next ρ,σ),fun _ st=>st.isEmpty,fun X st ρ P K Q E h I G w p=>bY (fun st=>wpAny X.M X.A (PySem.execs st X.env) Q E P.s) h (wpAny_execs_nil (p.go I G w))⟩
noncomputable def sC (a:C1) (l:CS):CS:=⟨fun K ρ σ=>og (a.ex K ρ σ) (l.ex K),fun s=>kY (a.is s) (l.is s),fun X st ρ P K Q E h I G w p=>cK (fun st=>wpAny X.M X.A (PySem.execs st X.env) Q E P.s) h fun e r h1 h2=>
 wpAny_execs_cons (a.ok X e ρ P _ _ E h1 I G (zL w) ⟨fun ρ' P' g I' G' k=>l.ok X r ρ' P' K Q E h2 I' G' k (p.mono g),p.ret,p.ex⟩)⟩
noncomputable def bc (a:CE):C1:=⟨fun K ρ=>cO ρ (a.ev K ρ) fun v σ=>some (.ret v,σ),fun s=>q8 fun v _=>Hh (a.is s) v,fun X st ρ P K Q E h I G w p=>sq (fun st=>Ws X st Q E P) h fun v pos h=>iu (fun v=>wpAny X.M X.A (PySem.exec (.Return v pos) X.env) Q E P.s) h fun e h=>
 wpAny_Return_some (a.ok X.toCx e ρ P _ _ E h I G.toEnvOK (dP w) (p.bind G fun x v P1 g I1 r w G1 p=>p.ret x v P1 (G1.gs (.refl P1)) I1 r w))⟩
theorem jA {t:Option Expr} {l:Nat} (h:i8 e=false):swapsWith e t l env=pure false:=by
 cases e<;>first|rfl|cases h
noncomputable def bg (a:CE):C1:=⟨fun K ρ=>cO ρ (a.ev K ρ) fun _ σ=>some (.next ρ,σ),fun s=>yK fun e _=> !i8 e&&a.is s e,fun X st ρ P K Q E h I G w p=>wB (fun st=>wpAny X.M X.A (PySem.exec st X.env) Q E P.s) h fun e pos h=>by
 rw[PySem.exec_Expr _ e pos (by unfold interactive;rw[X.kind];rfl) (jA ((Bool.not_eq_true' _).mp (ah h)))];exact Sz (wpAny_standAt (Sz (a.ok X.toCx e ρ P _ _ E (aq h) I G.toEnvOK (dP w) (p.bind G fun x v P1 g I1 r w G1 p=>wpAny_dropValue (p.go I1 G1 w)))))⟩
noncomputable def du (t:CT) (a b:CS):C1:=⟨fun K ρ=>cO ρ (t.ts K ρ) fun c=>if c then a.ex K ρ else b.ex K ρ,fun s=>KC fun te ae be _=>t.is s te&&a.is s ae&&b.is s be,fun X st ρ P K Q E h I G w p=>B8 (fun st=>wpAny X.M X.A (PySem.exec st X.env) Q E P.s) h fun te ae be pos h=>
 wpAny_If (t.ok X.toCx te ρ P _ _ E (ah (ah h)) I G.toEnvOK (dP w) (p.bind (Rel:=oW) G fun c v P1 g I1 r w G1 p=>by
  rw[show v=c from r];cases c with
  |true=>exact a.ok X ae ρ P1 K Q E (aq (ah h)) I1 G1 w p
  |false=>exact b.ok X be ρ P1 K Q E (aq h) I1 G1 w p))⟩
section
theorem aR.frame {f:Fm} {r:List Fm} (I:aR C P) (hf:P.fs=f::r) (lk:f.like g) (ha:a∈f.adr) (hs:∀ b o,b≠a->P.h.get? b=some o->h'.get? b=some o) (hn:h'.Ns g.L g.m) (hc:∀ c∈g.cells,h'.IsCell c (g.cv c)):
  aR C {P.to h' t with fs:=g::r}:=by
 have hm:f∈P.fs:=by rw[hf];exact .head _
 have own:P.own a= .fr:=by
  rcases Sm.mp ha with q|q
  .rw[q];exact (I.fr.ns f hm).2.1
  .exact (I.fr.cl f hm a q).2.1
 have le:f.L<=a:=by
  rcases Sm.mp ha with q|q
  .exact Td q.symm
  .exact S3 (I.fr.cl f hm a q).2.2
 have ord:=I.fr.ord;rw[hf] at ord;obtain ⟨o1,o2⟩:=List.pairwise_cons.mp ord;have kk:∀ b o x,P.own b=x->x≠ .fr->P.h.get? b=some o->P.own b=x/\h'.get? b=some o:=fun b o x e q z=>⟨e,hs b o (fun c=>q (by rw[<-e,c,own])) z⟩;have ne:∀ k∈r,∀ b∈k.adr,b≠a:=fun k hk b hb=>Nat.ne_of_lt (SN (o1 k hk b hb) le);refine ⟨fun b o e=>⟨hs b o (fun c=> ?_) (I.base b o e).1,(I.base b o e).2⟩,fun b o e=>(kk b o _ e dt.noConfusion (I.fz b o e)).2,fun b e=> ?_,⟨fun k hk=> ?_,fun k hk c hcc=> ?_,?_,fun b e=> ?_⟩,I.gh.mv (fun _ _ e=>e) fun b o e q=>kk b o _ e dt.noConfusion q,I.one,I.bd,fun n o e=>(I.obj n o e).mv (fun _ _ e=>e) fun b j o e q=>kk b o _ e dt.noConfusion q⟩
 .have q:=(I.base b o e).2;rw[c,own] at q;cases q
 .by_cases c:b=a
  .rw[c];rcases Sm.mp ha with q|q
   .rw[q,<-lk.1];obtain ⟨o,_,_,ho,_⟩:=hn;exact ⟨o,ho⟩
   .obtain ⟨o,ho,_⟩:=hc a (by rw[lk.2];exact q);exact ⟨o,ho⟩
  .obtain ⟨o,ho⟩:=I.live b e;exact ⟨o,hs b o c ho⟩
 .rcases Sm.mp hk with q|q
  .subst q;exact ⟨hn,by rw[lk.1];exact (I.fr.ns f hm).2⟩
  .obtain ⟨⟨o,es,ep,ho,z⟩,x⟩:=I.fr.ns k (by rw[hf];exact .tail _ q);exact ⟨⟨o,es,ep,hs _ _ (ne k q _ (.head _)) ho,z⟩,x⟩
 .rcases Sm.mp hk with q|q
  .subst q;exact ⟨hc c hcc,by rw[lk.1];exact (I.fr.cl f hm c (by rw[<-lk.2];exact hcc)).2⟩
  .obtain ⟨⟨o,ho,z⟩,x⟩:=I.fr.cl k (by rw[hf];exact .tail _ q) c hcc;exact ⟨⟨o,hs _ _ (ne k q _ (.tail _ hcc)) ho,z⟩,x⟩
 .exact List.pairwise_cons.mpr ⟨fun k hk b hb=>by rw[lk.1];exact o1 k hk b hb,o2⟩
 .obtain ⟨k,hk,z⟩:=I.fr.all b e;rw[hf] at hk;rcases Sm.mp hk with q|q
  .exact ⟨g,.head _,by rw[Fm.adr,lk.1,lk.2];exact q ▸ z⟩
  .exact ⟨k,.tail _ q,z⟩
end
section
variable {X:SX}
theorem tV {q:PV} (h:(ρ.set i (some p))[j]? =some (some q)):(i=j/\q=p)∨(i≠j/\ρ[j]? =some (some q)):=by
 by_cases e:i=j
 .subst e;by_cases hl:i<ρ.length
  .rw[List.getElem?_set_self hl] at h;cases h;exact .inl ⟨rfl,rfl⟩
  .rw[List.getElem?_eq_none (by simpa using hl)] at h;cases h
 .rw[SS e] at h;exact .inr ⟨e,h⟩
theorem EO {f:Fm} {r:List Fm} (lk:f.like g) (h:tH A (f::r)):tH A (g::r):=by
 obtain ⟨ls,e,hl⟩:=h;refine ⟨ls,e,fun x hx=> ?_⟩;obtain ⟨a,b,hb,c⟩:=hl x hx;refine ⟨a,?_⟩;rcases Sm.mp hb with q|q
 .exact ⟨g,.head _,by rw[c,q,lk.1]⟩
 .exact ⟨b,.tail _ q,c⟩
theorem jB {x:Str} {i:Nat} {p:PV} {v:Value} {Q:Unit->Shared->Prop} {A:Around} {M:Model} (hx:X.Γ.lookup x=some i) (hb:fY X.sc x=true) (I:aR X.C P) (G:cV X P ρ) (hr:RV X.C P v p)
  (k:∀ P',fu P P'->aR X.C P'->cV X P' (ρ.set i (some p))->P'.σ=P.σ->Q () P'.s):wpAny M A (storeName X.env x v) Q E P.s:=by
 rw[X.scE] at hb;obtain ⟨f,r,hf,hL,hcs⟩:=G.hd;have hm:f∈P.fs:=by rw[hf];exact .head _
 have hns:=(I.fr.ns f hm).1;have hloc:X.env.locals=f.L:=X.loc.trans hL.symm;have fin:∀ (h':Heap) (t:Nat) (g:Fm),f.like g->aR X.C {P.to h' t with fs:=g::r}->A3 X.env (g::r) x v->(∀ y w,y≠x->A3 X.env (f::r) y w->A3 X.env (g::r) y w)->Q () {P.s with heap:=h',toks:=t}:=fun h' t g lk J l1 l2=>by
  refine k {P.to h' t with fs:=g::r} ⟨⟨⟨h',t,rfl⟩,rfl,fun _ _ e=>e,fun _ _ e=>e,fun _ _ _ _ e=>e⟩,by rw[hf];exact .mk lk⟩ J ⟨⟨EO lk (hf ▸ G.frs),nofun,fun y j q h1 h2 h3=> ?_⟩,⟨g,r,rfl,by rw[lk.1];exact hL,by rw[lk.2];exact hcs⟩⟩ rfl;rcases tV h3 with ⟨e1,e2⟩|⟨e1,e2⟩
  .subst e1;have e3:=X.inj _ _ _ h1 hx;subst e3;subst e2;exact ⟨v,hr,l1⟩
  .obtain ⟨w,z1,z2⟩:=G.var y j q h1 h2 e2;exact ⟨w,z1,l2 y w (fun c=>e1 (by rw[c,hx] at h1;exact Tc h1)) (hf ▸ z2)⟩
 rcases (Bool.or_eq_true _ _).mp hb with hb|hb
 .have hb:=bN hb;rw[<-hloc] at hns;refine wpAny_storeName_local (m:=f.m) hb hns (fun h' hn' hs'=> ?_) (by rw[X.kind];rfl);rw[hloc] at hn' hs';refine fin h' _ {f with m:=fun y=>if y=x then some v else f.m y} ⟨rfl,rfl⟩ (I.frame hf ⟨rfl,rfl⟩ (.head _) (fun b o e h=>hs'.extBut b o e h) hn' fun c hc=>(I.fr.cl f hm c hc).1.sameBut hs' (Nat.ne_of_gt (I.fr.cl f hm c hc).2.2)) (.inl ⟨hb,_,.head _,hloc.symm,if_pos rfl⟩) fun y w e l=> ?_;rcases l with ⟨h1,f1,hf1,h2,h3⟩|⟨h1,c,h2,f1,hf1,h3,h4⟩
  .rcases Sm.mp hf1 with q|q
   .exact .inl ⟨h1,_,.head _,by rw[<-h2,q],by show (if y=x then _ else _)=_;rw[if_neg e,<-q];exact h3⟩
   .exact .inl ⟨h1,f1,.tail _ q,h2,h3⟩
  .rcases Sm.mp hf1 with q|q
   .exact .inr ⟨h1,c,h2,_,.head _,q ▸ h3,q ▸ h4⟩
   .exact .inr ⟨h1,c,h2,f1,.tail _ q,h3,h4⟩
 .have hb:=bN hb;obtain ⟨c,hc,hcf⟩:=X.cell x hb;rw[<-hcs] at hcf;refine wpAny_storeName_cell X.kind hb hc (I.fr.cl f hm c hcf).1 fun h' hc' hs'=> ?_;have hcL:f.L≠c:=Nat.ne_of_lt (I.fr.cl f hm c hcf).2.2;refine fin h' _ {f with cv:=fun a=>if a=c then some v else f.cv a} ⟨rfl,rfl⟩ (I.frame hf ⟨rfl,rfl⟩ (.tail _ hcf) (fun b o e h=>hs'.extBut b o e h) (hns.sameBut hs' hcL) fun c' hc1=> ?_) (.inr ⟨.inl hb,c,hc,_,.head _,hcf,if_pos rfl⟩) fun y w e l=> ?_
  .show h'.IsCell c' (if c'=c then _ else _);by_cases q:c'=c
   .rw[if_pos q,q];exact hc'
   .rw[if_neg q];exact (I.fr.cl f hm c' hc1).1.sameBut hs' q
  .rcases l with ⟨h1,f1,hf1,h2,h3⟩|⟨h1,c1,h2,f1,hf1,h3,h4⟩
   .rcases Sm.mp hf1 with q|q
    .exact .inl ⟨h1,_,.head _,by rw[<-h2,q],q ▸ h3⟩
    .exact .inl ⟨h1,f1,.tail _ q,h2,h3⟩
   .rcases Sm.mp hf1 with q|q
    .refine .inr ⟨h1,c1,h2,_,.head _,q ▸ h3,?_⟩;show (if c1=c then _ else _)=_;rw[if_neg (fun z:c1=c=>e (X.apart _ _ _ h2 (by rw[hc,z]))),<-q];exact h4
    .exact .inr ⟨h1,c1,h2,f1,.tail _ q,h3,h4⟩
end
noncomputable def Jf (i:Nat) (f:Sx->Expr->Bool) (s:Sx) (st:Stmt):Bool:=oM (fun t e=>dB (fun x _=> !i8 e&&s.Γ.lookup x==some i&&fY s.sc x&&f s e) t) st
noncomputable def aN (i:Nat) (a:CE):C1:=⟨fun K ρ=>cO ρ (a.ev K ρ) fun v σ=>some (.next (ρ.set i (some v)),σ),Jf i a.is,fun X st ρ P K Q E h I G w p=>gi (fun st=>Ws X st Q E P) h fun t e pos h=>cJ (fun t=>wpAny X.M X.A (PySem.exec (.Assign [t] e pos) X.env) Q E P.s) h fun x px h=>
 wpAny_Assign_Name (a.ok X.toCx e ρ P _ _ E (aq h) I G.toEnvOK (dP w) (p.bind G fun y v P1 g I1 r w G1 p=>
  jB (bN (aq (ah (ah h)))) (aq (ah h)) I1 G1 r fun P2 g2 I2 G2 e2=>p.next _ P2 g2 I2 G2 (e2 ▸ w))) (jA ((Bool.not_eq_true' _).mp (ah (ah (ah h)))))⟩
theorem zd {k:Int} (h:bA k=true):Builtin.List.listFitsIndex k=true:=by
 have h2:=ik h;by_cases q:0<=k
 .exact fitsIndex_of q (by omega)
 .exact fitsIndex_neg (by omega) (by omega)
set_option maxRecDepth 100000 in
theorem r8 {prog:Program} {w:World} {A:Around} {E:Value->Shared->Prop} {s:Shared} {l:Addr} {vs:List Value} {n j:Nat} {k:Int} {t:Tok} {v:Value} {Q:Unit->Shared->Prop} (ho:s.heap.get? l=some (bp vs n)) (hs:bA k=true) (hp:cZ k vs.length=some j)
  (hQ:∀ h',h'.get? l=some (bp (vs.set j v) n)->Heap.SameBut l s.heap h'->Q () {s with heap:=h'}):wpAny (model prog w) A (PySem.setItem (.ref l) (.int k t) v) Q E s:=by
 have hl:s.heap.IsList l vs.toArray:=⟨_,ho,rfl,n,rfl⟩;have hj:=(kI hp).2;have hx':vs.toArray[j]? =some vs[j]:=by simp [hj]
 have e1:(bp vs n).mapSeq (·.setIfInBounds j v)=bp (vs.set j v) n:=by simp [Obj.mapSeq]
 have g:=Heap.get?_update_self (Obj.mapSeq (·.setIfInBounds j v)) ho (by rw[e1];rfl);rw[e1] at g;unfold PySem.setItem
 try with_reducible refine wpAny_holding ?_
 first|refine Sz (SA ?_)|skip
 refine Sz (wpAny_sequenceKey hl.typeIs (by decide) ?_);refine Sz (wpAny_callSpecial?_slot (name:=Str.ofString "__setitem__") hl.typeIs slot_list_setitem
  (wpAny_call_entry slot_list_setitem hl.typeIs entry_list_setitem ?_ (args_list_setitem _ _ _)))
 show wpAny _ _ (Builtin.List.listSubscript? (.int k t)>>=_) _ _ s;refine Sz (wpAny_listSubscript_int (zd hs) ?_);clear hs;cases k with
 |ofNat m=>
  have h0:(0:Int)<=Int.ofNat m:=Int.ofNat_nonneg m;have hm:m=j:=by
   unfold cZ at hp;rw[if_pos h0] at hp;split at hp
   .exact Tc hp
   .cases hp
  subst hm;show wpAny _ _ ((seqItemAt l m>>=fun r=>pure (r.map (m,·)))>>=_) _ _ s;refine Sz (Sz (wpAny_seqItemAt ho rfl (SA ?_)));rw[hx'];show wpAny _ _ (setSeqItemAt l m v>>=_) _ _ s;refine Sz (wpAny_setSeqItemAt ho rfl ?_)
  first
   |exact Sz (SA (SA ⟨.none,rfl,SA (hQ _ (by simpa using g) (Heap.SameBut.update ..))⟩))
   |exact SA ⟨.none,rfl,SA (hQ _ (by simpa using g) (Heap.SameBut.update ..))⟩
 |negSucc m=>
  have hidx:=(kI hp).1;show wpAny _ _ ((Builtin.List.listItems (.ref l)>>=fun xs=>pure ((seqIndex? (Int.negSucc m) xs.size).bind fun i=>xs[i]?.map (i,·)))>>=_) _ _ s;refine Sz (Sz ?_);show wpAny _ _ (seqItems? (.ref l)>>=_) _ _ s;refine Sz (wpAny_seqItems ho rfl (SA (SA ?_)));rw[SJ,hidx];simp only [Sl,hx',Option.map_some];show wpAny _ _ (setSeqItemAt l j v>>=_) _ _ s;refine Sz (wpAny_setSeqItemAt ho rfl ?_)
  first
   |exact Sz (SA (SA ⟨.none,rfl,SA (hQ _ (by simpa using g) (Heap.SameBut.update ..))⟩))
   |exact SA ⟨.none,rfl,SA (hQ _ (by simpa using g) (Heap.SameBut.update ..))⟩
noncomputable def tY (k v:D):cD->Option cD
 | .list l=>(iD k).bind fun i=>(ax (bA i=true) ()).bind fun _=>(cZ i l.length).map fun j=>.list (l.set j v)
 | .dict ks vs=>ax (kZ k ks=true/\ks.length<100000) (.dict (eV k ks) (eU k v ks vs))
 | .d _=>none
theorem xV {K:Type} [DecidableEq K] {ks:List (K×Value)} {k:K} {P:K->Prop} (h:∀ e∈ks,P e.1) (hk:P k):∀ e∈stored ks k v,P e.1:=by
 intro e he;unfold stored at he;split at he
 .obtain ⟨x,hx,rfl⟩:=SD.mp he;split
  .exact h x hx
  .exact h x hx
 .rcases SF.mp he with he|he
  .exact h e he
  .rw[Sq.mp he];exact hk
section
variable {Q:Unit->Shared->Prop}
theorem xD {n j:Nat} {f f':cD} {k v:D} {vx vk vv:Value} (I:aR C P) (hx:RV C P vx (.p n j)) (hk:RD C P.own k vk) (hv:RD C P.own v vv) (e:b_ P.σ n j=some f) (e':tY k v f=some f')
  (kk:∀ P',cj P P'->aR C P'->P'.σ=dX P.σ n j f'->Q () P'.s):wpAny C.M A (PySem.setItem vx vk vv) Q E P.s:=by
 cases f with
 |d x=>cases e'
 |list l=>
  refine bu fun G9 k9=> ?_;obtain ⟨i,e1,e2⟩:=ak e';obtain ⟨_,e3,e2⟩:=ak e2;obtain ⟨jj,e4,q⟩:=aL e2;refine k9 ?_;have h1:=(ec e3).1;subst q;refine bu fun G9 k9=> ?_;obtain ⟨t,q⟩:=dR e1 (lL I hk);obtain @⟨a,o,h2,h3,ws,m,e3,rr⟩:=rP I hx e (fun _ h=>by cases h);refine k9 ?_;rw[q];subst e3;refine r8 h3 h1 (by rw[rr.length];exact e4) fun h' z1 z2=> ?_;refine bu fun G9 k9=> ?_;obtain ⟨P',q1,q2,q3,q4,q5⟩:=tN (t:=P.s.toks) (f':=.list (l.set jj v)) I (fun _ h=>by cases h) (fun _ h=>by cases h) e h2 (fun b o hb e=>z2.extBut b o hb e) z1 ⟨_,m,rfl,rr.set hv⟩;refine k9 ?_;have:=kk P' q1 q2 q3;rw[q5] at this;exact this
 |dict ks ps=>
  obtain ⟨⟨h1,h4⟩,q⟩:=ec e';subst q;refine bu fun G9 k9=> ?_;obtain @⟨a,o,h2,h3,vs,hd,rr⟩:=rP I hx e (fun _ h=>by cases h);obtain ⟨d,l,c,hk1,h5,e1,e2,h6,e3,h7,h8⟩:=uB hd hk h1;refine k9 ?_;subst e1;subst e2;subst e3
  letI:=d.dec
  have hlen:l.length<100000:=by rw[Sk] at h4;exact h4
  refine wpAny_setItem_pairs h7 (Heap.dictOf_iff.mpr ⟨o,h3,h5⟩) (fun h' z1 z2=> ?_) (Sv (S3 hlen) (by decide));refine bu fun G9 k9=> ?_;obtain ⟨o',z3,z4⟩:=Heap.dictOf_iff.mp z1;have hnd:(l.map (·.1)).Nodup:=by obtain ⟨_,_,_,_,_,_,h⟩:=h5;exact h
  have pa:=DN hk1 c hv rr hnd;obtain ⟨P',q1,q2,q3,q4,q5⟩:=tN (t:=P.s.toks+1) (f':=.dict (eV (d.toD c) (l.map fun p=>d.toD p.1)) (eU (d.toD c) v (l.map fun p=>d.toD p.1) ps)) I (fun _ h=>by cases h) (fun _ h=>by cases h) e h2 (fun b o hb e=>z2.extBut b o hb e) z3 ⟨_,.mk d _ hk1 z4 pa.1 rfl (xV (P:=d.ok) h6 h8),pa.2⟩;refine k9 ?_;have:=kk P' q1 q2 q3;rw[q5] at this;exact this
end
noncomputable def Bn (x:PV) (k v:D) (σ:aE):Option aE:=match x with
 | .p n j=>(b_ σ n j).bind fun f=>(tY k v f).map fun f'=>dX σ n j f'
 | .d _=>none
theorem Bm {k v:D} {σ':aE} (h:Bn x k v σ=some σ'):∃ n j f f',x= .p n j/\b_ σ n j=some f/\tY k v f=some f'/\σ'=dX σ n j f':=by
 cases x with
 |d=>cases h
 |p n j=>
  refine bu fun G9 k9=> ?_;obtain ⟨f,e1,h⟩:=ak h;obtain ⟨f',e2,h⟩:=aL h;refine k9 ?_;exact ⟨n,j,f,f',rfl,e1,e2,h.symm⟩
noncomputable def jM {α:Type} (o:Option α) (k:α->Option (Out×aE)):Option (Out×aE):=o.bind k
theorem gU {K:Out->aE->Prop} {k:α->Option (Out×aE)}:∀ {o:Option α},jw K (jM o k)->∃ a,o=some a/\jw K (k a)
 |some a,h=>⟨a,rfl,h⟩
section
variable {X:SX} {K:Out->aE->Prop} {Q:Flow->Shared->Prop}
theorem Gq (o i a:CE) (h:oM (fun t e=>cq (fun oe ke _=> !i8 e&&dY ke&&o.is X.sx oe&&i.is X.sx ke&&a.is X.sx e) t) st=true) (I:aR X.C P) (G:cV X P ρ)
  (w:jw K (cO ρ (a.ev X.ker ρ) (fun v=>cO ρ (o.ev X.ker ρ) fun x=>cO ρ (i.ev X.ker ρ) fun k σ=>jM (mZ k) fun k=>jM (mZ v) fun v=>jM (Bn x k v σ) fun σ'=>some (.next ρ,σ')) P.σ)) (p:dc X P K Q E):Ws X st Q E P:=
 gi (fun st=>Ws X st Q E P) h fun t e pos h=>c7 (fun t=>wpAny X.M X.A (PySem.exec (.Assign [t] e pos) X.env) Q E P.s) h fun oe ke px h=>
  wpAny_Assign_Subscript (a.ok X.toCx e ρ P _ _ E (aq h) I G.toEnvOK (dP w) (p.bind G fun v vv P1 g1 I1 r1 w G1 p=>
   o.ok X.toCx oe ρ P1 _ _ E (aq (ah (ah h))) I1 G1.toEnvOK (dP w) (p.bind G1 fun x vx P2 g2 I2 r2 w G2 p=>
    i.ok X.toCx ke ρ P2 _ _ E (aq (ah h)) I2 G2.toEnvOK (dP w) (p.bind G2 fun k vk P3 g3 I3 r3 w G3 p=>by
     refine bu fun G9 k9=> ?_;obtain ⟨dk,e1,w⟩:=gU w;obtain ⟨dv,e2,w⟩:=gU w;obtain ⟨σ',e3,w⟩:=gU w;obtain ⟨n,j,f,f',q,e4,e5,e6⟩:=Bm e3;refine k9 ?_;subst q;subst e6;exact xD I3 (r2.ext g3.toExt) (rA e1 r3) (rA e2 (r1.ext (g2.trans g3).toExt)) e4 e5 fun P4 g4 I4 e=>p.next ρ P4 (G3.gs g4) I4 (G3.ext g4) (e ▸ w))))) (jA ((Bool.not_eq_true' _).mp (ah (ah (ah (ah h))))))
end
noncomputable def oG (o i a:CE):C1:=⟨fun K ρ=>cO ρ (a.ev K ρ) fun v=>cO ρ (o.ev K ρ) fun x=>cO ρ (i.ev K ρ) fun k σ=>jM (mZ k) fun k=>jM (mZ v) fun v=>jM (Bn x k v σ) fun σ'=>some (.next ρ,σ'),fun s=>oM fun t e=>cq (fun oe ke _=> !i8 e&&dY ke&&o.is s oe&&i.is s ke&&a.is s e) t,fun X st ρ P K Q E h I G w p=>Gq o i a h I G w p⟩
noncomputable def yL (v:PV) (σ:aE):Option (PV×aE):=match v with
 | .p n 0=>(b_ σ n 0).bind fun f=>f.rd.map fun x=>(.d x,σ.set n .dead)
 |_=>none
theorem Jw (h:w a= .fz o):∀ {f:cD} {x:D},f.rd=some x->RF C w o f->RD C w x (.ref a):=by
 intro f x e r;cases f with
 |d _=>cases e
 |list _=>
  obtain ⟨vs,n,e',r⟩:=r;cases e;exact .lst (n:=⟨n,none,#[]⟩) (h.trans (congrArg dt.fz e')) r
 |dict _ _=>
  obtain ⟨vs,d,r⟩:=r;cases e;exact .dct h d r
theorem EE {y:PV} {σ':aE} (I:aR C P) (e:yL x P.σ=some (y,σ')):∃ P',cj P P'/\aR C P'/\P'.σ=σ'/\P'.s=P.s/\∀ v,RV C P v x->RV C P' v y:=by
 match x,e with
 | .p n 0,e=>
  refine bu fun G9 k9=> ?_;obtain ⟨f,e1,e⟩:=ak e;obtain ⟨z,e2,e⟩:=aL e;refine k9 ?_;cases e;refine bu fun G9 k9=> ?_;obtain ⟨o',e3,e4⟩:=ak e1;obtain ⟨_,q⟩:=IB (I.obj n o' e3) e4 (jI e2).2;obtain @⟨a,o,h1,h2,h3⟩:=q;refine k9 ?_;have g:=cj.ice (o:=o) e3 h1;exact ⟨P.ice n a o,g,I.ice e3 h1 h2,rfl,rfl,fun v r=>by rw[r.2 a h1];exact Jw (cc _ _ _) e2 (h3.ext g.fz)⟩
 | .p _ (_+1),e=>cases e
 | .d _,e=>cases e
theorem Gu (i:Nat) (l:CS) {X:SX} {st:List Stmt} {K:Out->aE->Prop} {Q:Flow->Shared->Prop} (h:l.is X.sx st=true) (I:aR X.C P) (G:cV X P ρ) (w:jw K (jM ((ρ[i]?).join) fun v=>jM (yL v P.σ) fun q=>l.ex X.ker (ρ.set i (some q.1)) q.2)) (p:dc X P K Q E):wpAny X.M X.A (PySem.execs st X.env) Q E P.s:=by
 refine bu fun G9 k9=> ?_;obtain ⟨v,e1,w⟩:=gU w;obtain ⟨⟨y,σ'⟩,e2,w⟩:=gU w;obtain ⟨P',g,I',e3,e4,k⟩:=EE I e2;refine k9 ?_;have G':=G.ext g;rw[<-e4];refine l.ok X st (ρ.set i (some y)) P' K Q E h I' ⟨⟨G'.frs,G'.ne,fun x j q h1 h2 h3=> ?_⟩,G'.hd⟩ (by rw[e3];exact w) (p.mono (G.gs g));rcases tV h3 with ⟨c1,c2⟩|⟨c1,c2⟩
 .subst c1;subst c2;obtain ⟨u,r,ld⟩:=G.var x i v h1 h2 (td e1);exact ⟨u,k u r,g.fs ▸ ld⟩
 .exact G'.var x j q h1 h2 c2
noncomputable def xG (i:Nat) (l:CS):CS:=⟨fun K ρ σ=>jM ((ρ[i]?).join) fun v=>jM (yL v σ) fun q=>l.ex K (ρ.set i (some q.1)) q.2,l.is,fun _ _ _ _ _ _ _ h I G w p=>Gu i l h I G w p⟩
section
noncomputable def Pt.adopt (P:Pt) (h:Heap) (t:Nat) (a:Addr) (m n j:Nat) (o:PO):Pt:={P.to h t with own:=hR P.own a (.cell n j),σ:=(P.σ.set m .dead).set n o}
theorem CN (I:aR C P) {h':Heap} {t m n i j:Nat} {a d:Addr} {oa od:Obj} {po p0 p1:PO} (em:P.σ[m]? =some po) (en:P.σ[n]? =some p0) (ne:m≠n) (ha:P.own a= .cell m 0) (hd:P.own d= .cell n i) (hs:∀ b o,b≠d->P.h.get? b=some o->h'.get? b=some o)
  (oa:P.h.get? a=some oa) (od:h'.get? d=some od) (hno:∀ b,P.own b≠ .cell n j) (h1:∀ b k,P.own b= .cell n k->p1.has k) (h2:p1.has j) (r:RO C (hR P.own a (.cell n j)) h' n p1):aR C (P.adopt h' t a m n j p1)/\Fz P.own (hR P.own a (.cell n j)):=by
 have nad:a≠d:=fun q=>by rw[q,hd] at ha;cases ha;exact ne rfl
 have kk:∀ b o x,P.own b=x->x≠ .cell m 0->x≠ .cell n i->P.h.get? b=some o->hR P.own a (.cell n j) b=x/\h'.get? b=some o:=fun b o x e q1 q2 z=>
  have na:b≠a:=fun c=>q1 (by rw[<-e,c,ha]);have nd:b≠d:=fun c=>q2 (by rw[<-e,c,hd])
  ⟨(bB na).trans e,hs b o nd z⟩
 have fz:Fz P.own (hR P.own a (.cell n j)):=fun b o e=>(bB fun c=>by rw[c,ha] at e;cases e).trans e;have len:(P.σ.set m .dead).length=P.σ.length:=SO;have ln:=(So.mp en).1;have gn:((P.σ.set m .dead).set n p1)[n]? =some p1:=by rw[List.getElem?_set_self (by rw[len];exact ln)]
 refine ⟨⟨fun b o e=> ?_,fun c o e=> ?_,fun c e=> ?_,I.fr.mv (fun b o e q=>kk b o _ e dt.noConfusion dt.noConfusion q) (fun b e=>pK dt.noConfusion e),I.gh.mv fz fun b o e q=>kk b o _ e dt.noConfusion dt.noConfusion q,fun b c k j' e f=> ?_,fun c k j' e=> ?_,fun k o e=> ?_⟩,fz⟩
 .obtain ⟨e1,e2⟩:=I.base b o e;exact (kk b o _ e2 dt.noConfusion dt.noConfusion e1).symm
 .rcases df P.own a (.cell n j) c with ⟨_,q⟩|⟨_,q⟩
  .cases q.symm.trans e
  .have z:=q.symm.trans e;exact (kk c o _ z dt.noConfusion dt.noConfusion (I.fz c o z)).2
 .by_cases c1:c=d
  .exact ⟨_,c1 ▸ od⟩
  .rcases df P.own a (.cell n j) c with ⟨p,q⟩|⟨_,q⟩
   .exact ⟨_,hs c _ c1 (p ▸ oa)⟩
   .obtain ⟨o,ho⟩:=I.live c (q ▸ e);exact ⟨o,hs c o c1 ho⟩
 .rcases df P.own a (.cell n j) b with ⟨p,q⟩|⟨_,q⟩<;>rcases df P.own a (.cell n j) c with ⟨p',q'⟩|⟨_,q'⟩
  .rw[p,p']
  .cases q.symm.trans e;exact absurd (q'.symm.trans f) (hno c)
  .cases q'.symm.trans f;exact absurd (q.symm.trans e) (hno b)
  .exact I.one b c k j' (q.symm.trans e) (q'.symm.trans f)
 .rcases df P.own a (.cell n j) c with ⟨p,q⟩|⟨_,q⟩
  .cases q.symm.trans e;exact ⟨_,gn,h2⟩
  .have e:=q.symm.trans e;by_cases c1:k=n
   .rw[c1] at e ⊢;exact ⟨_,gn,h1 c j' e⟩
   .obtain ⟨o,e1,e2⟩:=ew em (o':=.dead) (fun _ _=>trivial) (I.bd c k j' e);exact ⟨o,by show ((P.σ.set m .dead).set n p1)[k]? =_;rw[SS (Ne.symm c1)];exact e1,e2⟩
 .by_cases c1:k=n
  .rw[c1] at e ⊢;cases (gn.symm.trans e);exact r
  .have e:((P.σ.set m .dead).set n p1)[k]? =some o:=e;rw[SS (Ne.symm c1)] at e;by_cases c2:k=m
   .rw[c2,List.getElem?_set_self (So.mp em).1] at e;cases e;exact True.intro
   .rw[SS (Ne.symm c2)] at e;exact (I.obj k o e).mv fz fun b j o e q=>kk b o _ e (fun z=>by cases z;exact c2 rfl) (fun z=>by cases z;exact c1 rfl) q
theorem xf (I:aR C P) {h':Heap} {t m n i:Nat} {a d:Addr} {oa od:Obj} {po:PO} {b:Bool} {l l':List cD} (em:P.σ[m]? =some po) (en:P.σ[n]? =some (.rcd b l)) (ne:m≠n) (ha:P.own a= .cell m 0) (hd:P.own d= .cell n i) (hs:∀ b o,b≠d->P.h.get? b=some o->h'.get? b=some o)
  (oa:P.h.get? a=some oa) (od:h'.get? d=some od) (hl:l'.length=l.length+1) (r:RO C (hR P.own a (.cell n (l.length+2))) h' n (.rcd b l')):aR C (P.adopt h' t a m n (l.length+2) (.rcd b l'))/\cj P (P.adopt h' t a m n (l.length+2) (.rcd b l')):=by
 have lt:∀ b k,P.own b= .cell n k->k<l.length+2:=fun b k q=>by
  obtain ⟨o',e1,e2⟩:=I.bd b n _ q;rw[en] at e1;cases e1;exact e2
 have up:∀ k,k<l.length+2->k<l'.length+2:=fun k q=>by rw[hl];exact Nat.lt_succ_of_lt q
 obtain ⟨J,fz⟩:=CN (t:=t) (j:=l.length+2) (p1:=.rcd b l') I em en ne ha hd hs oa od (fun b q=>S7 _ (lt b _ q)) (fun b k q=>up k (lt b k q)) (by show l.length+2<l'.length+2;rw[hl];exact Nat.lt_succ_self _) r;refine ⟨J,⟨⟨⟨h',t,rfl⟩,rfl,fz,fun k j v=> ?_,fun k j c v q=> ?_⟩,rfl⟩⟩
 .have e2:(P.σ.set m .dead)[n]? =some (.rcd b l):=by rw[SS ne];exact en
  exact ew e2 up (ew em (fun _ _=>trivial) v)
 .rcases df P.own a (.cell n (l.length+2)) c with ⟨p,z⟩|⟨_,z⟩
  .cases z.symm.trans q;obtain ⟨o',e1,e2⟩:=v;rw[en] at e1;cases e1;exact absurd e2 (S7 _)
  .exact z.symm.trans q
theorem Bc {A:Around} {s:Shared} {x dx:Addr} {es es':List DictEntry} {n n':Nat} {name:Str} {tk:Tok} {v:Value} {R:Result->Shared->Prop} (W:IY C) (X:PySem.W.Frag.In C.K s.heap) (hx:s.heap.get? x=some (nJ C.book dx)) (hd:s.heap.get? dx=some (ef es n))
  (hno:PySem.W.findIn C.K (.ref C.book) name=some none) (href:es.any (·.refKey)=false) (hp:Obj.putName name (PyData.keyHash C.w.params name) (.str name s.toks) v (ef es n)=ef es' n') (hz:es'.length<=1000)
  (h:∀ h',h'.get? dx=some (ef es' n')->Heap.SameBut dx s.heap h'->R (.ok (.ret .none)) {s with heap:=h',toks:=s.toks+1}):
  codeAny C.M A (.call (.builtin "object.__setattr__") ⟨[.ref x,.str name tk,v],[]⟩) R s:=by
 refine PySem.W.osa_open X (od:=some (ef es n)) ⟨hx,rfl,rfl,hd⟩ W.plain (r:=none) (by unfold PySem.W.takerIn;rw[hno];rfl) fun b=> ?_;obtain ⟨cd,hc,hd'⟩:=W.cd;have g:=Heap.get?_update_self (Obj.putName name (PyData.keyHash C.w.params name) (.str name s.toks) v) hd (by rw[hp];rfl);rw[hp] at g;refine Sz (SA (Sz (Sz (wpAny_loadPart hx (Sz ((PySem.W.looks_clsIn X hc).here ?_))))));rw[hd'];refine SA (a:=some dx) (Sz (SA (Sz ?_)));unfold nsSet;refine Sz (Sz (wpAny_askSetting (SA (Sz (wpAny_mkText (Sz (wpAny_loadPart hd ?_)))))));dsimp only;have c:(!es.toArray.any (·.key.isStr name)&&es.toArray.any (·.refKey))=false:=by
  rw[<-Array.any_toList,<-Array.any_toList,href,Bool.and_false]
 rw[aRefKeyMayBeTheName_at,c];refine wpAny_updatePart hd ?_;refine Sz (wpAny_lookBehind g (pastItsLine_dict (by rw[SJ];exact Sv hz (by decide))) ?_);exact SA (h _ g (Heap.SameBut.update ..))
noncomputable def Dr (k:Nat) (x v:PV) (σ:aE):Option aE:=match x with
 | .p n 0=>(cR true σ n).bind fun l=>(ax (k=l.length) ()).bind fun _=>match v with
  | .d y=>some (σ.set n (.rcd true (l++[.d y])))
  | .p m 0=>(ax (m≠n) ()).bind fun _=>(b_ σ m 0).bind fun f=>f.rd.map fun _=>(σ.set m .dead).set n (.rcd true (l++[f]))
  |_=>none
 |_=>none
theorem FA.mono {w':bJ} (x:Fz w w') (k:∀ b o,w b= .cell n (i+2)->h.get? b=some o->w' b= .cell n (i+2)/\h'.get? b=some o) (q:FA C w h n i v f):FA C w' h' n i v f:=by
 cases f with
 |d y=>exact RD.ext x q
 |list l=>
  obtain ⟨a,b,c⟩:kE C w h n (i+2) (.list l) v:=q;exact kE.mk (k _ _ a b).1 (k _ _ a b).2 (RF.ext x c)
 |dict ks ps=>
  obtain ⟨a,b,c⟩:kE C w h n (i+2) (.dict ks ps) v:=q;exact kE.mk (k _ _ a b).1 (k _ _ a b).2 (RF.ext x c)
theorem xF {A:Around} {E:Value->Shared->Prop} {Q:Unit->Shared->Prop} {k:Nat} {x v:PV} {vx vv:Value} {σ':aE} (G:gd C) (hk:k<7) (I:aR C P) (hx:RV C P vx x) (hv:RV C P vv v) (e:Dr k x v P.σ=some σ')
  (kk:∀ P',cj P P'->aR C P'->P'.σ=σ'->Q () P'.s):wpAny C.M A (PySem.setAttr vx (C.att k) vv) Q E P.s:=by
 cases x with
 |d _=>cases e
 |p n j=>
 cases j with
 |succ _=>cases e
 |zero=>
 obtain ⟨l,e1,e⟩:=ak e;obtain ⟨_,e2,e⟩:=ak e;have e2:=(ec e2).1;have en:=kH e1;obtain @⟨a,d,es,m,h1,h2,h3,h4,h5,h6,h7,h8⟩:jv C P.own P.h n l:=I.obj n _ en;have W:=G.cls;have XX:PySem.W.Frag.In C.K P.h:=W.X.keeps fun b o e=>(I.base b o e).1;have hnone:=xa (C:=C) (es:=es) (off:=0) (x:=C.att k) (zD h5) (fun i _ h q=>by have:=W.inj i (Ps hk e2 h6 h) k hk q;exact Pq e2 h6 h this);have nad:d≠a:=fun q=>by rw[q,h1] at h3;cases h3
 rw[hx.2 a h1];have hp:Obj.putName (C.att k) (PyData.keyHash C.w.params (C.att k)) (.str (C.att k) (P.s.toks+1)) vv (ef es m)=ef (es++[⟨PyData.keyHash C.w.params (C.att k),.str (C.att k) (P.s.toks+1),vv⟩]) (m+1):=by
  rw[Obj.putName_eq];show (match es.toArray.findIdx? (·.key.isStr (C.att k)) with|some i=>_|none=>_)=_
  have:es.toArray.findIdx? (·.key.isStr (C.att k))=none:=by
   rw[List.findIdx?_toArray,List.findIdx?_eq_none_iff];intro e he;have:=hnone.1;rw[List.find?_eq_none] at this
   simpa using this e he
  rw[this];show ({cls:=.type "dict",data:=.dict (es.toArray.push _) (m+1)}:Obj)=_;rw[List.push_toArray]
 refine PySem.W.set_plain XX (show PySem.W.InstAt P.h a (nJ C.book d) C.book (some (ef es m)) from ⟨h2,rfl,rfl,h4⟩) W.sattr ?_;refine Bc (s:={P.s with toks:=P.s.toks+1}) W XX h2 h4 (W.no k hk) hnone.2 hp (by simp;exact Pp hk e2 h6) fun h' g1 g2=> ?_;have at':rO C (es++[⟨PyData.keyHash C.w.params (C.att k),.str (C.att k) (P.s.toks+1),vv⟩]):=fun i e he=>by
  by_cases c:i=es.length
  .rw[(d6 he).2 c,c,h6,<-e2];exact ⟨⟨_,rfl⟩,rfl⟩
  .exact h5 i e ((d6 he).1 c)
 have ro:∀ (w':bJ) (f:cD),Fz P.own w'->(∀ b j,P.own b= .cell n j->w' b= .cell n j)->FA C w' h' n k vv f->RO C w' h' n (.rcd true (l++[f])):=fun w' f fz kw fa=>by
  refine jv.mk (kw _ _ h1) (g2.extBut _ _ (Ne.symm nad) h2) (kw _ _ h3) g1 at' (by simp [h6]) (by simp;exact Po hk e2) fun i f' en' q1 q2=> ?_;by_cases c:i=l.length
  .rw[(d6 q1).2 c,(d6 q2).2 (c.trans h6.symm),c,<-e2];exact fa
  .refine (h8 i f' en' ((d6 q1).1 c) ((d6 q2).1 (fun z=>c (z.trans h6)))).mono fz fun b o z1 z2=>⟨kw b _ z1,g2.extBut b o (fun z=> ?_) z2⟩;rw[z,h3] at z1;cases z1
 cases v with
 |d y=>
  cases e;have J:=I.turn (h':=h') (t:=P.s.toks+1+1) (po':=.rcd true (l++[.d y])) (fun j q=>by show j<(l++[cD.d y]).length+2;simp;have:j<l.length+2:=q;exact Nat.lt_succ_of_lt this) en h3 (fun b o hb e=>g2.extBut b o hb e) g1 (ro P.own (.d y) (fun _ _ e=>e) (fun _ _ e=>e) hv);exact kk _ (.turn en fun j q=>by show j<(l++[cD.d y]).length+2;simp;have:j<l.length+2:=q;exact Nat.lt_succ_of_lt this) J rfl
 |p m' j=>
 cases j with
 |succ _=>cases e
 |zero=>
  obtain ⟨_,z1,e⟩:=ak e;obtain ⟨f,z2,e⟩:=ak e;obtain ⟨u,z3,e⟩:=aL e;have z1:=(ec z1).1;obtain ⟨o',z4,z5⟩:=ak z2;obtain @⟨af,of,y1,y2,y3⟩:=rP I hv z2 (jI z3).2;have fz:Fz P.own (hR P.own af (.cell n (l.length+2))):=fun b o e=>(bB fun c=>by rw[c,y1] at e;cases e).trans e;have ndf:af≠d:=fun q=>by rw[q,h3] at y1;cases y1
  obtain ⟨J,g⟩:=xf (t:=P.s.toks+1+1) (l':=l++[f]) I z4 en z1 y1 h3 (fun b o hb e=>g2.extBut b o hb e) y2 g1 (by simp)
   (ro _ f fz (fun b j e=>(bB fun c=>by rw[c,y1] at e;cases e;exact z1 rfl).trans e) (ES (jI z3).2 (by rw[e2];exact kE.mk (cc _ _ _) (g2.extBut _ _ ndf y2) (y3.ext fz))))
  exact kk _ g J e
end
section
variable {X:SX} {K:Out->aE->Prop} {Q:Flow->Shared->Prop}
theorem Du (o:CE) (k:Nat) (a:CE) (h:oM (fun t e=>dH (fun oe x _=> !i8 e&&x==X.sx.att k&&decide (k<7)&&o.is X.sx oe&&a.is X.sx e) t) st=true) (I:aR X.C P) (G:cV X P ρ)
  (w:jw K (cO ρ (a.ev X.ker ρ) (fun v=>cO ρ (o.ev X.ker ρ) fun x σ=>jM (Dr k x v σ) fun σ'=>some (.next ρ,σ')) P.σ)) (p:dc X P K Q E):wpAny X.M X.A (PySem.exec st X.env) Q E P.s:=
 gi (fun st=>wpAny X.M X.A (PySem.exec st X.env) Q E P.s) h fun t e pos h=>fC (fun t=>wpAny X.M X.A (PySem.exec (.Assign [t] e pos) X.env) Q E P.s) h fun oe x px h=>by
  rw[bN (aq (ah (ah (ah h))))];exact plainObj_wpAny_Assign_Attribute (a.ok X.toCx e ρ P _ _ E (aq h) I G.toEnvOK (dP w) (p.bind G fun v vv P1 g1 I1 r1 w G1 p=>
   o.ok X.toCx oe ρ P1 _ _ E (aq (ah h)) I1 G1.toEnvOK (dP w) (p.bind G1 fun x vx P2 g2 I2 r2 w G2 p=>by
    obtain ⟨σ',e3,w⟩:=gU w;exact xF X.good (S6 (aq (ah (ah h)))) I2 r2 (r1.ext g2.toExt) e3 fun P4 g4 I4 e=>p.next ρ P4 (G2.gs g4) I4 (G2.ext g4) (e ▸ w)))) (jA ((Bool.not_eq_true' _).mp (ah (ah (ah (ah h))))))
end
noncomputable def lg (o:CE) (k:Nat) (a:CE):C1:=⟨fun K ρ=>cO ρ (a.ev K ρ) fun v=>cO ρ (o.ev K ρ) fun x σ=>jM (Dr k x v σ) fun σ'=>some (.next ρ,σ'),fun s=>oM fun t e=>dH (fun oe x _=> !i8 e&&x==s.att k&&decide (k<7)&&o.is s oe&&a.is s e) t,fun X st ρ P K Q E h I G w p=>Du o k a h I G w p⟩
section
noncomputable def Pt.hide (P:Pt) (h:Heap) (t:Nat) (a:Addr) (o:Obj):Pt:={P.to h t with own:=hR P.own a .gh,G:=(a,o)::P.G}
noncomputable def Pt.show (P:Pt) (h:Heap) (t:Nat) (a:Addr) (G:List (Addr×Obj)):Pt:={P.to h t with own:=hR P.own a .no,G:=G}
theorem aR.hide (I:aR C P) (n:FX C P h' a o):aR C (P.hide h' t a o):=by
 have kk:∀ b o x,P.own b=x->x≠ .no->P.h.get? b=some o->hR P.own a .gh b=x/\h'.get? b=some o:=fun b o x e q z=>⟨(bB fun c=>q (by rw[<-e,c,n.own])).trans e,n.keep b o z⟩;have cs:=df P.own a .gh;refine ⟨fun b o e=> ?_,fun b o e=> ?_,fun b e=> ?_,I.fr.mv (fun b o e q=>kk b o _ e dt.noConfusion q) (fun b e=>pK dt.noConfusion e),⟨fun p hp=> ?_,?_,fun z e=>(I.gh.tab z e).map (fR n.own) fun b o q=>⟨n.keep b o q.1,(kk b o _ q.2.1 dt.noConfusion q.1).1,fun p hp=> ?_⟩⟩,fun b c k j e f=> ?_,fun b k j e=> ?_,fun k o e=>(I.obj k o e).mv (fun b o e=>(bB fun c=>by rw[c,n.own] at e;cases e).trans e) fun b j o e q=>kk b o _ e dt.noConfusion q⟩
 .obtain ⟨e1,e2⟩:=I.base b o e;exact ⟨n.keep b o e1,(bB fun c=>by rw[c,n.H] at e;cases e).trans e2⟩
 .rcases cs b with ⟨_,q⟩|⟨_,q⟩
  .cases q.symm.trans e
  .exact n.keep b o (I.fz b o (q.symm.trans e))
 .rcases cs b with ⟨p,q⟩|⟨_,q⟩
  .exact ⟨o,p ▸ n.at_⟩
  .obtain ⟨o,ho⟩:=I.live b (q ▸ e);exact ⟨o,n.keep b o ho⟩
 .rcases Sm.mp hp with q|q
  .rw[q];exact ⟨n.at_,cc _ _ _⟩
  .exact (kk _ _ _ (I.gh.at_ p q).2 dt.noConfusion (I.gh.at_ p q).1).symm
 .refine S9.mpr ⟨fun q=> ?_,I.gh.nd⟩;obtain ⟨p,hp,e⟩:=SD.mp q;have:=(I.gh.at_ p hp).2;rw[e,n.own] at this;cases this
 .rcases Sm.mp hp with z|z
  .rw[z];intro c;have:=q.2.1;rw[<-c,n.own] at this;cases this
  .exact q.2.2 p z
 .rcases cs b with ⟨_,q⟩|⟨_,q⟩
  .cases q.symm.trans e
  .rcases cs c with ⟨_,q'⟩|⟨_,q'⟩
   .cases q'.symm.trans f
   .exact I.one b c k j (q.symm.trans e) (q'.symm.trans f)
 .rcases cs b with ⟨_,q⟩|⟨_,q⟩
  .cases q.symm.trans e
  .exact I.bd b k j (q.symm.trans e)
section
theorem aR.gturn (I:aR C P) (hG:P.G=(a,o)::G) (hs:∀ b o,b≠a->P.h.get? b=some o->h'.get? b=some o) (ho:h'.get? a=some o'):aR C {P.to h' t with G:=(a,o')::G}:=by
 have own:P.own a= .gh:=(I.gh.at_ (a,o) (by rw[hG];exact .head _)).2;have nd:=I.gh.nd;rw[hG] at nd;have kk:∀ b o x,P.own b=x->x≠ .gh->P.h.get? b=some o->P.own b=x/\h'.get? b=some o:=fun b o x e q z=>⟨e,hs b o (fun c=>q (by rw[<-e,c,own])) z⟩;refine ⟨fun b o e=>⟨hs b o (fun c=> ?_) (I.base b o e).1,(I.base b o e).2⟩,fun b o e=>(kk b o _ e dt.noConfusion (I.fz b o e)).2,fun b e=> ?_,I.fr.mv (fun b o e q=>kk b o _ e dt.noConfusion q) (fun _ e=>e),⟨fun p hp=> ?_,nd,fun z e=>(I.gh.tab z e).map (fun _ _ e=>e) fun b o q=>⟨hs b o (Ne.symm (q.2.2 (a,_) (by rw[hG];exact .head _))) q.1,q.2.1,fun p hp=>(Sm.mp hp).elim (fun c=>by rw[c];show a≠b;exact q.2.2 (a,_) (by rw[hG];exact .head _)) fun c=>q.2.2 p (by rw[hG];exact .tail _ c)⟩⟩,I.one,I.bd,fun k o e=>(I.obj k o e).mv (fun _ _ e=>e) fun b j o e q=>kk b o _ e dt.noConfusion q⟩
 .have:=(I.base b o e).2;rw[c,own] at this;cases this
 .by_cases c:b=a
  .exact ⟨o',c ▸ ho⟩
  .obtain ⟨o,z⟩:=I.live b e;exact ⟨o,hs b o c z⟩
 .rcases Sm.mp hp with q|q
  .rw[q];exact ⟨ho,own⟩
  .have z:=I.gh.at_ p (by rw[hG];exact .tail _ q);exact ⟨hs _ _ (fun c=>(S9.mp nd).1 (SD.mpr ⟨p,q,c⟩)) z.1,z.2⟩
theorem aR.show (I:aR C P) (hG:P.G=(a,o)::G) (hs:∀ b o,b≠a->P.h.get? b=some o->h'.get? b=some o):aR C (P.show h' t a G):=by
 have own:P.own a= .gh:=(I.gh.at_ (a,o) (by rw[hG];exact .head _)).2;have nd:=I.gh.nd;rw[hG] at nd;have cs:=df P.own a .no;have kk:∀ b o x,b≠a->P.own b=x->P.h.get? b=some o->hR P.own a .no b=x/\h'.get? b=some o:=fun b o x c e z=>⟨(bB c).trans e,hs b o c z⟩;have ka:∀ b x,P.own b=x->x≠ .gh->b≠a:=fun b x e q c=>q (by rw[<-e,c,own]);refine ⟨fun b o e=> ?_,fun b o e=> ?_,fun b e=> ?_,I.fr.mv (fun b o e q=>kk b o _ (ka b _ e dt.noConfusion) e q) (fun b e=>pK dt.noConfusion e),⟨fun p hp=> ?_,(S9.mp nd).2,fun z e=>(I.gh.tab z e).map (fun b o e=>(bB (ka b _ e dt.noConfusion)).trans e) fun b o q=>have ne:=Ne.symm (q.2.2 (a,_) (by rw[hG];exact .head _));⟨hs b o ne q.1,(bB ne).trans q.2.1,fun p hp=>q.2.2 p (by rw[hG];exact .tail _ hp)⟩⟩,fun b c k j e f=> ?_,fun b k j e=> ?_,fun k o e=>(I.obj k o e).mv (fun b o e=>(bB (ka b _ e dt.noConfusion)).trans e) fun b j o e q=>kk b o _ (ka b _ e dt.noConfusion) e q⟩
 .obtain ⟨e1,e2⟩:=I.base b o e;exact (kk b o _ (ka b _ e2 dt.noConfusion) e2 e1).symm
 .rcases cs b with ⟨_,q⟩|⟨c,q⟩
  .cases q.symm.trans e
  .exact hs b o c (I.fz b o (q.symm.trans e))
 .rcases cs b with ⟨_,q⟩|⟨c,q⟩
  .exact absurd q e
  .obtain ⟨o,z⟩:=I.live b (q ▸ e);exact ⟨o,hs b o c z⟩
 .have z:=I.gh.at_ p (by rw[hG];exact .tail _ hp);exact (kk _ _ _ (fun c=>(S9.mp nd).1 (SD.mpr ⟨p,hp,c⟩)) z.2 z.1).symm
 .rcases cs b with ⟨_,q⟩|⟨_,q⟩
  .cases q.symm.trans e
  .rcases cs c with ⟨_,q'⟩|⟨_,q'⟩
   .cases q'.symm.trans f
   .exact I.one b c k j (q.symm.trans e) (q'.symm.trans f)
 .rcases cs b with ⟨_,q⟩|⟨_,q⟩
  .cases q.symm.trans e
  .exact I.bd b k j (q.symm.trans e)
theorem wE (I:aR C P) (hG:P.G=(a,o)::G):P.own a= .gh/\P.h.get? a=some o:=by
 have z:=I.gh.at_ (a,o) (by rw[hG];exact .head _);exact ⟨z.2,z.1⟩
theorem kO (e:w a= .gh):Fz w (hR w a .no):=fun b o q=>(bB fun c=>by rw[c,e] at q;cases q).trans q
theorem nV {b:Addr} (q:hR w a .no b= .cell n j):w b= .cell n j:=by
 rcases df w a .no b with ⟨_,r⟩|⟨_,r⟩
 .cases r.symm.trans q
 .exact r.symm.trans q
theorem RV.show (e:P.own a= .gh):∀ {p:PV},RV C P v p->RV C (P.show h t a G) v p
 | .d _,r=>RD.ext (kO e) r
 | .p n j,r=>⟨r.1,fun b q=>r.2 b (nV q)⟩
end
structure mq (P₀ P:Pt) (a:Addr) (o:Obj):Prop where
 sm:rW P₀.s P.s
 fs:sK P₀.fs P.fs
 G:P.G=(a,o)::P₀.G
 fz:Fz P₀.own P.own
 val:∀ n j,d8 P₀.σ n j->d8 P.σ n j
 cell:∀ n j b,d8 P₀.σ n j->P.own b= .cell n j->P₀.own b= .cell n j
theorem mq.show (x:mq P₀ P a o) (e:P.own a= .gh):fu P₀ (P.show h t a P₀.G):=
 ⟨⟨x.sm.trans ⟨h,t,rfl⟩,rfl,fun b o q=>kO e b o (x.fz b o q),x.val,fun n j b v q=>x.cell n j b v (nV q)⟩,x.fs⟩
theorem mq.grow (x:mq P₀ P a o) (g:fu P P'):mq P₀ P' a o:=
 ⟨x.sm.trans g.sm,x.fs.trans g.fs,g.G.trans x.G,fun b o q=>g.fz b o (x.fz b o q),fun n j v=>g.val n j (x.val n j v),fun n j b v q=>x.cell n j b v (g.cell n j b (x.val n j v) q)⟩
theorem mq.turn (x:mq P₀ P a o):mq P₀ {P.to h t with G:=(a,o')::P₀.G} a o':=
 ⟨x.sm.trans ⟨h,t,rfl⟩,x.fs,rfl,x.fz,x.val,x.cell⟩
theorem mq.start (e:P.own a= .no) (hf:∃ f r,P.fs=f::r):mq P (P.hide h t a o) a o:=by
 obtain ⟨f,r,hf⟩:=hf;refine ⟨⟨h,t,rfl⟩,by show sK P.fs P.fs;rw[hf];exact .mk (.refl f),rfl,fR e,fun _ _ v=>v,fun n j b v q=> ?_⟩;rcases df P.own a .gh b with ⟨_,r⟩|⟨_,r⟩
 .cases r.symm.trans q
 .exact r.symm.trans q
end
structure LH (C:bF) (va:Value) (x:D) (w:bJ) (I:Addr) (St:Nat->Heap->Prop):Prop where
 own:∀ i h h',St i h->h'.get? I=h.get? I->St i h'
 fld:∀ i h,St i h->∃ o,h.get? I=some o
 self:∀ (A:Around) (i:Nat) (s:Shared) (Q:Value->Shared->Prop) (E:Value->Shared->Prop),St i s.heap->Q (.ref I) s->wpAny C.M A (pyIter (.ref I)) Q E s
 item:∀ (A:Around) (i:Nat) (P:Pt) (xs:List D) (y:D) (Q:Option Value->Shared->Prop) (E:Value->Shared->Prop),A.handled=none->aR C P->Fz w P.own->gm C P va x->items x=some xs->xs[i]? =some y->St i P.h->
  (∀ val h' tk,RD C P.own y val->St (i+1) h'->(∀ b o,b≠I->P.h.get? b=some o->h'.get? b=some o)->Q (some val) {P.s with heap:=h',toks:=tk})->wpAny C.M A (pyNext (.ref I)) Q E P.s
 done:∀ (A:Around) (i:Nat) (P:Pt) (xs:List D) (Q:Option Value->Shared->Prop) (E:Value->Shared->Prop),A.handled=none->aR C P->Fz w P.own->gm C P va x->items x=some xs->xs.length=i->St i P.h->
  (∀ h' tk,(∀ b o,b≠I->P.h.get? b=some o->h'.get? b=some o)->Q none {P.s with heap:=h',toks:=tk})->wpAny C.M A (pyNext (.ref I)) Q E P.s
section
theorem Kt (I:aR C P) {va:Value} {l:List D} (hn:n9 C P.own dA l va)
  (k:∀ o St,o.isFreed=false->LH C va (.tup l) P.own P.h.objs.size St->St 0 (P.h.push o)->Q (.ref P.h.objs.size) {P.s with heap:=P.h.push o}):wpAny C.M A (pyIter va) Q E P.s:=by
 obtain @⟨a,vs,n,o,r⟩:=hn;refine wpAny_pyIter_tuple (items:=vs.toArray) ⟨_,I.fz _ _ o,rfl,n,rfl⟩ (k _ (fun i h=>h.IsTupleIter P.h.objs.size a i) rfl ⟨?_,?_,fun A i s Q E st h=>wpAny_pyIter_tupleiter st h,?_,?_⟩ ⟨_,SH _ rfl,rfl,rfl⟩)
 .exact fun i h h' x e=>x.at fun o q=>e.trans q
 .rintro i h ⟨o,ho,_⟩;exact ⟨o,ho⟩
 .intro A i P' xs y Q E hh I' fz hr hx hi hst k;cases hx;obtain ⟨w,hw,hrw⟩:=(r.ext fz).get hi;exact wpAny_pyNext_tuple_item hst ⟨_,I'.fz _ _ (fz _ _ o),rfl,_,rfl⟩ (x:=w) (by simpa using hw) fun h' h1 h2=>k w h' P'.s.toks hrw h1 fun b o hb e=>h2.extBut b o hb e
 .intro A i P' xs Q E hh I' fz hr hx hi hst k;cases hx;exact wpAny_pyNext_tuple_end hh hst ⟨_,I'.fz _ _ (fz _ _ o),rfl,_,rfl⟩ (by simp [r.length,hi]) fun h' h2=>k h' P'.s.toks fun b o hb e=>h2 b o hb e
theorem Kx (I:aR C P) {va:Value} {l:List D} (hn:mr C P l va)
  (k:∀ o St,o.isFreed=false->LH C va (.lst l) P.own P.h.objs.size St->St 0 (P.h.push o)->Q (.ref P.h.objs.size) {P.s with heap:=P.h.push o}):wpAny C.M A (pyIter va) Q E P.s:=by
 obtain @⟨a,vs,n,o,_,r⟩:=hn;refine wpAny_pyIter_list (items:=vs.toArray) ⟨_,o,rfl,_,rfl⟩ (k _ (fun i h=>h.IsListIter P.h.objs.size a i) rfl ⟨?_,?_,fun A i s Q E st h=>wpAny_pyIter_listiter st h,?_,?_⟩ ⟨_,SH _ rfl,rfl,rfl⟩)
 .exact fun i h h' x e=>x.at fun o q=>e.trans q
 .rintro i h ⟨o,ho,_⟩;exact ⟨o,ho⟩
 .intro A i P' xs y Q E hh I' fz hr hx hi hst k;cases (ec hx).2;generalize he:Value.ref a=v at hr;obtain @⟨b,vs',n',o',_,r'⟩:mr C P' l v:=hr;cases he;obtain ⟨w,hw,hrw⟩:=r'.get hi;exact wpAny_pyNext_list_item hst ⟨_,o',rfl,_,rfl⟩ (x:=w) (by simpa using hw) fun h' h1 h2=>k w h' P'.s.toks hrw h1 fun b o hb e=>h2.extBut b o hb e
 .intro A i P' xs Q E hh I' fz hr hx hi hst k;cases (ec hx).2;generalize he:Value.ref a=v at hr;obtain @⟨b,vs',n',o',_,r'⟩:mr C P' l v:=hr;cases he;exact wpAny_pyNext_list_end hh hst ⟨_,o',rfl,_,rfl⟩ (by simp [r'.length,hi]) fun h' h2=>k h' P'.s.toks fun b o hb e=>h2 b o hb e
theorem Ku (I:aR C P) {va:Value} {l:List Nat} (hn:jN l/\∃ t,va= .str (b7 l) t)
  (k:∀ o St,o.isFreed=false->LH C va (.str l) P.own P.h.objs.size St->St 0 (P.h.push o)->Q (.ref P.h.objs.size) {P.s with heap:=P.h.push o}):wpAny C.M A (pyIter va) Q E P.s:=by
 obtain ⟨hs,t,q⟩:=hn;subst q;have hchar:∀ i (x:D) (xs:List D),items (.str l)=some xs->xs[i]? =some x->∃ c,x= .str [c]/\l[i]? =some c/\jN [c]:=fun i x xs hx hi=>by
  cases (ec hx).2;rw[SE] at hi;obtain ⟨c,hc,rfl⟩:=Ta.mp hi;exact ⟨c,rfl,hc,fun d hd=>by rw[Sq.mp hd];exact hs.1 c (SR hc),by simp [dZ]⟩
 have hlen:∀ (xs:List D),items (.str l)=some xs->xs.length=l.length:=fun xs hx=>by
  cases (ec hx).2;simp
 cases ha:(b7 l).cps.all (· <128)
 .refine wpAny_pyIter_wide ha (k _ (fun i h=>h.IsStrIter P.h.objs.size "str_iterator" (b7 l) t i) rfl ⟨?_, ?_,fun A i s Q E st h=>wpAny_pyIter_striter_wide st h, ?_, ?_⟩ ⟨_,SH _ rfl,rfl,rfl⟩)
  .rintro i h h' ⟨o,ho,r⟩ e;exact ⟨o,e.trans ho,r⟩
  .rintro i h ⟨o,ho,_⟩;exact ⟨o,ho⟩
  .intro A i P' xs y Q E hh I' fz hr hx hi hst k;obtain ⟨c,rfl,hc,hk⟩:=hchar i y xs hx hi;exact wpAny_pyNext_wide_item hst (c:=c) (by simpa using hc) fun h' h1 h2=>k _ h' _ (.str [c] _ hk) h1 fun b o hb e=>h2.extBut b o hb e
  .intro A i P' xs Q E hh I' fz hr hx hi hst k;exact wpAny_pyNext_wide_end hh hst (by simp [<-hi,hlen xs hx]) fun h' h2=>k h' P'.s.toks fun b o hb e=>h2 b o hb e
 .refine wpAny_pyIter_ascii ha (k _ (fun i h=>h.IsStrIter P.h.objs.size "str_ascii_iterator" (b7 l) t i) rfl ⟨?_, ?_,fun A i s Q E st h=>wpAny_pyIter_striter_ascii st h, ?_, ?_⟩ ⟨_,SH _ rfl,rfl,rfl⟩)
  .rintro i h h' ⟨o,ho,r⟩ e;exact ⟨o,e.trans ho,r⟩
  .rintro i h ⟨o,ho,_⟩;exact ⟨o,ho⟩
  .intro A i P' xs y Q E hh I' fz hr hx hi hst k;obtain ⟨c,rfl,hc,hk⟩:=hchar i y xs hx hi;exact wpAny_pyNext_ascii_item hst (c:=c) (by simpa using hc) fun h' h1 h2=>k _ h' _ (.str [c] _ hk) h1 fun b o hb e=>h2.extBut b o hb e
  .intro A i P' xs Q E hh I' fz hr hx hi hst k;exact wpAny_pyNext_ascii_end hh hst (by simp [<-hi,hlen xs hx]) fun h' h2=>k h' P'.s.toks fun b o hb e=>h2 b o hb e
theorem Kv (I:aR C P) {va:Value} {a b c:Int} {xs:List D} (hn:Lr P.own a b c va) (hx0:items (.rng a b c)=some xs)
  (k:∀ o St,o.isFreed=false->LH C va (.rng a b c) P.own P.h.objs.size St->St 0 (P.h.push o)->Q (.ref P.h.objs.size) {P.s with heap:=P.h.push o}):wpAny C.M A (pyIter va) Q E P.s:=by
 obtain @⟨r,t,u,v,hm⟩:=hn;obtain ⟨hg,_⟩:=ec hx0;simp only [Bool.and_eq_true,decide_eq_true_eq] at hg;obtain ⟨⟨⟨⟨g1,g2⟩,g3⟩,g4⟩,g5⟩:=hg;have s1: -(2^62)<a/\a<2^62:=by simpa [bA] using g1
 have s2: -(2^62)<b/\b<2^62:=by simpa [bA] using g2
 have hsize:Builtin.Range.rangeSize a b c=(cP a b c:Int):=by
  unfold Builtin.Range.rangeSize cP;rw[if_pos g3];split
  .have:0<=(b - a - 1) / c:=Int.ediv_nonneg (by omega) (by exact Tk g3);exact (S4 (SV this (Ti (by decide)))).symm
  .rfl
 have hfit:∀ i:Int,-(2^63)<=i->i<2^63->Builtin.Range.rangeFitsLong i=true:=fun i h1 h2=>by
  unfold Builtin.Range.rangeFitsLong;simp;exact ⟨h1,h2⟩
 have hsm:Builtin.Range.small a b c=true:=by
  unfold Builtin.Range.small;rw[hsize,hfit a (Mq s1) (Mp s1),hfit b (Mq s2) (Mp s2),hfit c (by exact SV (by decide) g3) (by exact SV g4 (by decide)),hfit _ (Pn) (by exact S0.mpr (SM g5 (Sr rfl))),if_pos g3,hfit (b+(c - 1)) (by exact SV (by decide:(-2^63:Int)<= -2^62+(0+1 - 1)) (Int.add_le_add (Tk s2.1) (Int.sub_le_sub_right (Int.add_one_le_of_lt g3) 1))) (by exact Int.lt_trans (Int.add_lt_add s2.2 (Int.sub_lt_sub_right g4 1)) (by decide))];simp
 refine wpAny_pyIter_range (I.fz _ _ hm) hsm (k _ (fun i h=>IsRangeIter h P.h.objs.size (a+(i:Nat)*c) ((cP a b c:Int) - (i:Nat)) c) rfl ⟨?_,?_,fun A i s Q E st h=>wpAny_pyIter_rangeiter st h,?_,?_⟩ ?_)
 .intro i h h' x e;exact e.trans x
 .intro i h x;exact ⟨_,x⟩
 .intro A i P' xs2 y Q E hh I' fz hr hx2 hi hst k;cases (ec hx2).2;rw[SE] at hi;obtain ⟨j,hj,rfl⟩:=Ta.mp hi;obtain ⟨hlt,hj⟩:=So.mp hj;simp at hlt hj;subst hj;refine wpAny_pyNext_range_item hst (by exact Int.sub_pos_of_lt (S0.mpr hlt)) fun h' h1 h2=>k _ h' _ (.int _ _) ?_ fun b o hb e=>h2.extBut b o hb e;have e1:a+((i+1:Nat):Int)*c=a+(i:Int)*c+c:=by push_cast;rw[Int.add_mul,Int.one_mul,Int.add_assoc]
  have e2:(cP a b c:Int) - ((i+1:Nat):Int)=(cP a b c:Int) - (i:Int) - 1:=by push_cast;exact Pm
  show IsRangeIter _ _ _ _ _;rw[e1,e2];exact h1
 .intro A i P' xs2 Q E hh I' fz hr hx2 hi hst k;cases (ec hx2).2;simp at hi;exact wpAny_pyNext_range_end hh hst (Pk hi) fun h' h2=>k h' P'.s.toks fun b o hb e=>h2 b o hb e
 .rw[hsize];have:=SH P.h (o:={cls:=.type "range_iterator",data:=.fields #[rawInt a,rawInt (cP a b c:Int),rawInt c]}) rfl
  simpa using this
end
section
theorem Kn {d:KD C} (hd:xi C d) {c:d.K} {kv:Value} (h:letI:=d.dec;d.knd.is c kv=true) (ok:d.ok c):RD C w (d.toD c) kv:=by
 cases hd with
 |str=>
  cases kv with
  |str x t=>
   have e:x=c:=by simpa [PySem.strKind,Value.isStrOf] using h
   rw[e];exact lJ rfl ok t
  |_=>simp [PySem.strKind,Value.isStrOf] at h
 |int=>
  cases kv with
  |int x t=>
   have e:x=c:=by simpa [intKind,Value.isInt] using h
   rw[e];exact .int c t
  |_=>simp [intKind,Value.isInt] at h
theorem Ky (G:gd C) (I:aR C P) {va:Value} {ks ps ys:List D} (hn:Ip C P.own ks ps va) (hit:items (.dct ks ps)=some ys)
  (k:∀ o St,o.isFreed=false->LH C va (.dct ks ps) P.own P.h.objs.size St->St 0 (P.h.push o)->Q (.ref P.h.objs.size) {P.s with heap:=P.h.push o}):wpAny C.M A (pyIter va) Q E P.s:=by
 obtain @⟨a,o,vs,ho,hda,_⟩:=hn;cases hda with
 |pr xs es ep _ _ _ _ _ e _ hne=>
  have hf:=(ec hit).1.2;cases xs with
  |nil=>exact absurd rfl hne
  |cons x xs=>rw[e] at hf;cases hf
 |mk d l hd h1 h2 h3 h4=>
 letI:=d.dec
 obtain ⟨es,ep,z1,z2,z3,z4,z5⟩:=h1;have hD:∀ P':Pt,aR C P'->Fz P.own P'.own->P'.h.DictAt d.knd a l ep:=fun P' I' fz=>⟨o,es,I'.fz _ _ (fz _ _ ho),z1,z2,z3,z4,z5⟩;refine wpAny_pyIter_dict (ep:=ep) (gZ G I (by rw[ho];nofun)) (hD P I fun _ _ e=>e) (k _ (fun i h=>h.IsKeyIter P.h.objs.size a i l.length ep) rfl ⟨?_,?_,fun A i s Q E st h=>wpAny_pyIter_keyiter st h,?_,?_⟩ ⟨_,SH _ rfl,rfl,rfl⟩)
 .exact fun i h h' x e=>x.at fun o q=>e.trans q
 .rintro i h ⟨o,ho,_⟩;exact ⟨o,ho⟩
 .intro A i P' xs y Q E hh I' fz hr hx hi hst k;have e:=(ec hx).2;rw[<-e,h2,SE] at hi;obtain ⟨⟨c,v⟩,hc,rfl⟩:=Ta.mp hi;refine wpAny_pyNext_dict_item hst (hD P' I' fz) hc fun kv h' hkv g1 g2=> ?_;exact k _ h' P'.s.toks (Kn hd hkv (h4 _ (SR hc))) g1 fun b o hb e=>g2.extBut b o hb e
 .intro A i P' xs Q E hh I' fz hr hx hi hst k;have e:=(ec hx).2;rw[<-e,h2,Sk] at hi;exact wpAny_pyNext_dict_end hh hst (hD P' I' fz) (by rw[<-hi];exact List.getElem?_eq_none (Sy _)) fun h' h2=>k h' P'.s.toks fun b o hb e=>h2 b o hb e
noncomputable def L5 (x:D):PV->Bool
 | .d _=>true
 | .p _ _=>Se x
noncomputable def Am (v:PV) (σ:aE):Option (D×List D):=(rd σ v).bind fun x=>(ax (L5 x v=true) ()).bind fun _=>(items x).map fun xs=>(x,xs)
theorem qY {v:PV} {x:D} {xs:List D} (h:Am v σ=some (x,xs)):rd σ v=some x/\L5 x v=true/\items x=some xs:=by
 obtain ⟨y,e1,h⟩:=ak h;obtain ⟨_,e2,h⟩:=ak h;obtain ⟨ys,e3,h⟩:=aL h;cases h;exact ⟨e1,(ec e2).1,e3⟩
theorem Al (G:gd C) (I:aR C P) {v:PV} {va:Value} {x:D} {xs:List D} (r:RV C P va v) (e:Am v P.σ=some (x,xs))
  (k:∀ o St,o.isFreed=false->LH C va x P.own P.h.objs.size St->St 0 (P.h.push o)->Q (.ref P.h.objs.size) {P.s with heap:=P.h.push o}):wpAny C.M A (pyIter va) Q E P.s:=by
 obtain ⟨e1,e2,e3⟩:=qY e;have hn:=bh I r e1;cases x with
 |tup l=>exact Kt I (RD.view hn) k
 |lst l=>exact Kx I hn k
 |str l=>exact Ku I (RD.view hn) k
 |rng a b c=>exact Kv I (RD.view hn) e3 k
 |dct ks ps=>
  cases v with
  |p n j=>cases e2
  |d y=>
   cases e1;exact Ky G I (RD.view r) e3 k
 |_=>cases e3
theorem sP {v:PV} {va:Value} {x:D} (I':aR C P') (r:RV C P' va v):∀ {σ:aE},rd σ v=some x->bP P'.σ x v=true->gm C P' va x:=fun {σ} e h=>by
 cases v with
 |d y=>cases e;exact lL I' r
 |p n j=>exact bh I' r (@S6 _ (_) h)
end
noncomputable def iS (e:Expr):Bool:=e.ctorIdx !=7
theorem kP (h:iS e=true) (x:Value):foldedSetIterable e env x=pure x:=by
 cases e<;>first|rfl|(cases h;done)
def fK (K:Out->aE->Prop) (v:PV) (x:D) (i:Nat) (body:bj->aE->Option (Out×aE)) (r:List D):Out->aE->Prop
 | .next ρ,σ=>bP σ x v=true/\jw K (fe v x i body r ρ σ)
 |o,σ=>K o σ
theorem I9 {K:Out->aE->Prop} {v:PV} {x y:D} {body:bj->aE->Option (Out×aE)} {r:List D} (h:jw K (fe v x i body (y::r) ρ σ)):jw (fK K v x i body r) (body (ρ.set i (some (.d y))) σ):=by
 have h:jw K (match body (ρ.set i (some (.d y))) σ with
  |some (.next ρ',σ')=>if bP σ' x v then fe v x i body r ρ' σ' else none
  |z=>z):=h
 generalize body (ρ.set i (some (.d y))) σ=z at h
 match z,h with
 |none,h=>exact h
 |some (.ret _,_),h=>exact h
 |some (.ex _ _,_),h=>exact h
 |some (.next ρ',σ'),h=>
  have h:jw K (if bP σ' x v then fe v x i body r ρ' σ' else none):=h;cases q:bP σ' x v with
  |true=>rw[q] at h;exact ⟨q,h⟩
  |false=>rw[q] at h;exact h.elim
inductive Nv (X:SX) (K:Out->aE->Prop) (b:CS) (i:Nat) (v:PV) (va:Value) (x:D) (xs:List D) (σ₀:aE) (St:Nat->Heap->Prop) (P₀:Pt) (n:Nat) (s:Shared):Prop
 |mk (P:Pt) (ρ:bj) (j:Nat) (o:Obj):P.s=s->mq P₀ P P₀.h.objs.size o->aR X.C P->cV X P ρ->RV X.C P va v->bP P.σ x v=true->St j P.h->j<=xs.length->n=xs.length - j->
  jw K (fe v x i (fun ρ=>b.ex X.ker ρ) (xs.drop j) ρ P.σ)->Nv X K b i v va x xs σ₀ St P₀ n s
section
variable {X:SX} {K:Out->aE->Prop} {Q:Flow->Shared->Prop}
theorem cV.show (e:P.own a= .gh) (q:cV X P ρ):cV X (P.show h t a G) ρ:=
 ⟨⟨q.frs,q.ne,fun x i p h1 h2 h3=>by
  obtain ⟨v,r,l⟩:=q.var x i p h1 h2 h3;exact ⟨v,r.show e,l⟩⟩,q.hd⟩
theorem B6 {b:Addr} (h:kept (hR w a .no b)):kept (w b):=by
 rcases df w a .no b with ⟨_,r⟩|⟨_,r⟩
 .rw[r] at h;exact h.elim
 .rw[r] at h;exact h
theorem sL.show {e:Value}:sL C A P c e->sL C A (P.show P.h P.s.toks a G) c e:=fun h=>by
 obtain ⟨h1,B,k1,k2,k3,k4,k5,k6⟩:=h;exact ⟨h1,B,k1,k2,k3,k4,fun b o q=>k5 b o (B6 q),k6⟩
theorem dc.past (p:dc X P₀ K Q E) (x:mq P₀ P a o) (I:aR X.C P):(∀ q v P',fu P P'->aR X.C P'->RV X.C P' v q->K (.ret q) P'.σ->Q (.ret v) P'.s)/\(∀ c ρ e P',fu P P'->aR X.C P'->sL X.C X.A P' c e->cV X P' ρ->K (.ex c ρ) P'.σ->E e P'.s):=by
 refine ⟨fun q v P' g I' r k=> ?_,fun c ρ e P' g I' xx G k=> ?_⟩
 .have x':=x.grow g;have w:=(wE I' x'.G).1;exact p.ret q v (P'.show P'.h P'.s.toks a P₀.G) (x'.show w) (I'.show x'.G fun _ _ _ e=>e) (r.show w) k
 .have x':=x.grow g;have w:=(wE I' x'.G).1;exact p.ex c ρ e (P'.show P'.h P'.s.toks a P₀.G) (x'.show w) (I'.show x'.G fun _ _ _ e=>e) xx.show (G.show w) k
end
noncomputable def cN (h:Heap):List Addr->Heap
 |[]=>h
 |a::r=>(cN h r).update a fun o=>{o with data:=.freed}
theorem get?_freed (h:Heap) (a b:Addr):(h.update a fun o=>{o with data:=.freed}).get? b=if b=a then none else h.get? b:=by
 by_cases e:b=a
 .subst e;rw[if_pos rfl];unfold Heap.get? Heap.update;rw[Array.getElem?_modify,if_pos rfl];cases h.objs[b]? <;>rfl
 .rw[if_neg e];exact Heap.get?_update_other _ _ (Ne.symm e)
theorem get?_without (h:Heap):∀ (l:List Addr) (b:Addr),(cN h l).get? b=if b∈l then none else h.get? b:=by
 intro l
 induction l with
 |nil=>
  intro b;show h.get? b=_;simp
 |cons a r ih=>
  intro b;show ((cN h r).update a fun o=>{o with data:=.freed}).get? b=_;rw[get?_freed,ih b];by_cases e:b=a
  .simp [e]
  .simp [e]
section
variable {M:Model} {outer:List Env} {e:Addr}
theorem aR.slots (I:aR C P) (kb:∀ b o,C.H.get? b=some o->h'.get? b=some o) (kn:∀ b o,kept (P.own b)->P.h.get? b=some o->h'.get? b=some o) (u:P.h.UpToSlots h'):aR C (P.to h' P.s.toks):=by
 have kk:∀ b o x,P.own b=x->kept x->P.h.get? b=some o->P.own b=x/\h'.get? b=some o:=fun b o x e q z=>⟨e,kn b o (e ▸ q) z⟩;refine ⟨fun b o e=>⟨kb b o e,(I.base b o e).2⟩,fun b o e=>(kk b o _ e trivial (I.fz b o e)).2,fun b e=> ?_,⟨fun f hf=>⟨u.ns (I.fr.ns f hf).1,(I.fr.ns f hf).2⟩,fun f hf c hc=>⟨?_,(I.fr.cl f hf c hc).2⟩,I.fr.ord,I.fr.all⟩,I.gh.mv (fun _ _ e=>e) fun b o e q=>kk b o _ e trivial q,I.one,I.bd,fun n o e=>(I.obj n o e).mv (fun _ _ e=>e) fun b j o e q=>kk b o _ e trivial q⟩
 .obtain ⟨o,ho⟩:=I.live b e;cases q:P.own b with
  |no=>exact absurd q e
  |fr=>
   have z:∀ vs,o.data≠ .fields vs:=by
    obtain ⟨f,hf,hm⟩:=I.fr.all b q;rcases Sm.mp hm with r|r
    .obtain ⟨o',es,ep,h1,h2,_⟩:=(I.fr.ns f hf).1;rw[<-r,ho] at h1;cases h1;intro vs;rw[h2];nofun
    .obtain ⟨o',h1,h2⟩:=(I.fr.cl f hf b r).1;rw[ho] at h1;cases h1;intro vs;rw[h2];nofun
   obtain ⟨sl,e⟩:=u b o ho z;exact ⟨_,e⟩
  |fz o'=>exact ⟨o,kn b o (by rw[q];trivial) ho⟩
  |cell n j=>exact ⟨o,kn b o (by rw[q];trivial) ho⟩
  |gh=>exact ⟨o,kn b o (by rw[q];trivial) ho⟩
 .obtain ⟨o,ho,hd⟩:=(I.fr.cl f hf c hc).1;obtain ⟨sl,e⟩:=u c o ho fun vs q=>by rw[hd] at q;cases q
  exact ⟨_,e,hd⟩
def iJ (C:bF) (P:Pt) (ls:List Env) (e:Addr) (c:Nat) (fl:Value):Prop:=
 ∃ B:Heap,B.StaysIn P.h/\B.get? e=none/\P.h.FunFrames B ls/\(∀ b o,C.H.get? b=some o->B.get? b=some o)/\(∀ b o,kept (P.own b)->P.h.get? b=some o->B.get? b=some o)/\∃ a0,P.h.TracedAtW B e (.ref (C.exc c)) a0 fl
theorem iJ.at (hf:env.frame=some L) (x:iJ C P (env::outer) e c (rawInt L)):tI C P (env::outer) e c:=by
 refine bu fun G9 k9=> ?_;obtain ⟨B,k1,k2,k3,k4,k5,a0,ht⟩:=x;refine k9 ?_;exact ⟨B,k1,k2,k3,k4,k5,.inr (.inr ⟨a0,env,L,rfl,hf,ht⟩)⟩
theorem pq {B:Heap} (I:aR C P) (k1:B.StaysIn P.h) (k5:∀ b o,kept (P.own b)->P.h.get? b=some o->B.get? b=some o):∀ b o,kept (P.own b)->h'.get? b=some o->B.StaysIn h'->B.get? b=some o:=fun b o q z s=>by
 obtain ⟨o',ho⟩:=I.live b (fun e=>by rw[e] at q;exact q);have:=k5 b o' q ho;rw[s b o' this] at z;cases z;exact this
theorem Cg {L:Addr} {Q:Unit->Shared->Prop} (hfr:A.frames=some (env::outer)) (hf:env.frame=some L) (I:aR C P) (hx:tI C P (env::outer) e c)
  (hQ:∀ h',aR C (P.to h' P.s.toks)->tI C (P.to h' P.s.toks) outer e c->Q () {P.s with heap:=h'}):wpAny M A (leaving env (.ref e)) Q E P.s:=by
 refine bu fun G9 k9=> ?_;obtain ⟨B,k1,k2,k3,k4,k5,hx⟩:=hx;refine k9 ?_;have fin:∀ h',B.StaysIn h'->h'.FunFrames B outer->P.h.UpToSlots h'->(∃ a0,h'.TracedW B e (.ref (C.exc c)) a0)->Q () {P.s with heap:=h'}:=fun h' x1 x2 x4 x3=>
  hQ h' (I.slots (fun b o q=>x1 b o (k4 b o q)) (fun b o q z=>x1 _ _ (k5 b o q z)) x4) ⟨B,x1,k2,x2,k4,fun b o q z=>pq I k1 k5 b o q z x1,.inr (.inl x3)⟩
 rcases hx with ⟨oe,vs,a0,he,hc,hd,h1,h0⟩|⟨a0,ht⟩|⟨a0,env',L',hh,hf',ht⟩
 .exact wpAny_leaving_firstW hfr k3 hf he k1 k2 hd h1 h0 fun h' ⟨x1,⟨_,_,x2⟩,x3,x4⟩=>fin h' x1 x2 x4 ⟨a0,hc ▸ x3⟩
 .exact wpAny_leaving_nextW hfr k3 hf ht k1 k2 fun h' ⟨x1,⟨_,_,x2⟩,x3,x4⟩=>fin h' x1 x2 x4 ⟨a0,x3⟩
 .cases hh;unfold leaving;refine Sz (wpAny_noteFrame_againW hf' ht ?_);refine wpAny_setFlight_noneW k1 k3 ht fun h' x1 x2 x3 x4=> ?_;obtain ⟨_,_,x2⟩:=x2;exact fin h' x1 x2 (fun b o hb hn=>⟨o.slots,x4 b o hb hn⟩) ⟨a0,x3⟩
theorem ry {L:Addr} {Q:Unit->Shared->Prop} (hfr:A.frames=some (env::outer)) (hf:env.frame=some L) (I:aR C P) (hx:tI C P (env::outer) e c)
  (hQ:∀ h',aR C (P.to h' P.s.toks)->iJ C (P.to h' P.s.toks) (env::outer) e c (rawInt L)->Q () {P.s with heap:=h'}):wpAny M A (noteFrame (.ref e) env) Q E P.s:=by
 refine bu fun G9 k9=> ?_;obtain ⟨B,k1,k2,k3,k4,k5,hx⟩:=hx;refine k9 ?_;have fin:∀ h',B.StaysIn h'->h'.FunFrames B (env::outer)->P.h.UpToSlots h'->(∃ a0,h'.TracedAtW B e (.ref (C.exc c)) a0 (rawInt L))->Q () {P.s with heap:=h'}:=fun h' x1 x2 x4 x3=>
  hQ h' (I.slots (fun b o q=>x1 b o (k4 b o q)) (fun b o q z=>x1 _ _ (k5 b o q z)) x4) ⟨B,x1,k2,x2,k4,fun b o q z=>pq I k1 k5 b o q z x1,x3⟩
 rcases hx with ⟨oe,vs,a0,he,hc,hd,h1,h0⟩|⟨a0,ht⟩|⟨a0,env',L',hh,hf',ht⟩
 .unfold noteFrame;simp only [hf];refine Sz (wpAny_field he hd h1 ?_);rw[if_neg (by decide)];exact wpAny_entryW hfr k3 hf he k1 k2 hd (Array.getElem?_eq_some_iff.mp h1).1 h0 fun h' ⟨x1,x2,x3,x4⟩=>fin h' x1 x2 x4 ⟨a0,hc ▸ x3⟩
 .exact wpAny_noteFrame_onW hfr k3 hf ht k1 k2 fun h' ⟨x1,x2,x3,x4⟩=>fin h' x1 x2 x4 ⟨a0,x3⟩
 .cases hh;rw[hf] at hf';cases hf';exact wpAny_noteFrame_againW hf ht (hQ P.h I ⟨B,k1,k2,k3,k4,k5,a0,ht⟩)
theorem AJ {L:Addr} {Q:Unit->Shared->Prop} (hf:env.frame=some L) (I:aR C P) (hx:iJ C P ls e c (rawInt L))
  (hQ:∀ h',aR C (P.to h' P.s.toks)->iJ C (P.to h' P.s.toks) ls e c (rawInt L)->Q () {P.s with heap:=h'}):wpAny M A (setFlight (.ref e) env.frame) Q E P.s:=by
 refine bu fun G9 k9=> ?_;obtain ⟨B,k1,k2,k3,k4,k5,a0,oe,vs,T,oT,ts,he,hcls,hd,h1,hnT,hTe,hT,hdT,h3⟩:=hx;refine k9 ?_;have hsz3:3<ts.size:=(Array.getElem?_eq_some_iff.mp h3).1;have aM:∀ b,b≠T->(P.h.update T (Obj.mapFields (·.setIfInBounds 3 (rawInt L)))).get? b=P.h.get? b:=
  fun b hb=>Heap.get?_update_other _ _ (Ne.symm hb)
 have noRecord:∀ b o,P.h.get? b=some o->(∀ vs,o.data≠ .fields vs)->b≠T:=fun b o hb hnf q=>by
  rw[q,hT] at hb;injection hb with hb;subst hb;exact hnf ts hdT
 unfold setFlight;refine Sz (wpAny_field he hd h1 ?_);rw[if_pos (show (Value.ref T !=Value.none)=true from by simp),hf];have st:∀ b o,B.get? b=some o->(P.h.update T (Obj.mapFields (·.setIfInBounds 3 (rawInt L)))).get? b=some o:=fun b o hbo=>(aM b fun q=>by rw[q,hnT] at hbo;cases hbo).trans (k1 b o hbo);refine wpAny_setField hT hdT hsz3 (hQ _ (I.slots (fun b o q=>st b o (k4 b o q)) (fun b o q z=>st _ _ (k5 b o q z)) fun b o hb hn=>⟨o.slots,(aM b (noRecord b o hb hn)).trans hb⟩) ?_);refine ⟨B,st,k2,k3.of_keeps fun b o hb hnf=>⟨o,(aM b (noRecord b o hb hnf)).trans hb,rfl⟩,k4,fun b o q z=>pq I k1 k5 b o q z st,a0,?_⟩;exact ⟨oe,vs,T,_,_,(aM e (Ne.symm hTe)).trans he,hcls,hd,h1,hnT,hTe,Heap.get?_update_self _ hT (Obj.isFreed_of_fields (Obj.data_mapFields hdT _)),Obj.data_mapFields hdT _,by simp [hsz3]⟩
theorem iJ.trail (hx:iJ C P ls e c fl):∃ oe vs T,P.h.get? e=some oe/\oe.data= .fields vs/\vs[1]? =some (.ref T):=by
 refine bu fun G9 k9=> ?_;obtain ⟨B,k1,k2,k3,k4,k5,a0,oe,vs,T,oT,ts,he,hcls,hd,h1,_⟩:=hx;refine k9 ?_;exact ⟨oe,vs,T,he,hd,h1⟩
theorem EW {L:Addr} {Q:Unit->Shared->Prop} (hf:env.frame=some L) (I:aR C P) (hx:iJ C P ls e c (rawInt L))
  (hQ:∀ h',aR C (P.to h' P.s.toks)->iJ C (P.to h' P.s.toks) ls e c (rawInt L)->Q () {P.s with heap:=h'}):
  wpAny M A (do
   if (<-field (.ref e) 1)== .none then unsupported "frame.own-activation:exception-without-traceback"
   setFlight (.ref e) env.frame) Q E P.s:=by
 refine bu fun G9 k9=> ?_;obtain ⟨oe,vs,T,he,hd,h1⟩:=hx.trail;refine k9 ?_;refine Sz (wpAny_field he hd h1 ?_);rw[if_neg (show¬((Value.ref T==Value.none)=true) from by simp)];exact AJ hf I hx hQ
theorem EU {α:Type} {L:Addr} {what:String} {Q:α->Shared->Prop} (hf:env.frame=some L) (I:aR C P) (hx:iJ C P ls e c (rawInt L))
  (hE:∀ h',aR C (P.to h' P.s.toks)->iJ C (P.to h' P.s.toks) ls e c (rawInt L)->E (.ref e) {P.s with heap:=h'}):wpAny M A (PySem.passOn what (.ref e) env:Sem α) Q E P.s:=by
 refine bu fun G9 k9=> ?_;obtain ⟨oe,vs,T,he,hd,h1⟩:=hx.trail;refine k9 ?_;unfold PySem.passOn;refine Sz (wpAny_field he hd h1 ?_);rw[if_neg (show¬((Value.ref T==Value.none)=true) from by simp)];exact Sz (AJ hf I hx fun h' I' x'=>wpAny_throw (hE h' I' x'))
theorem EV {tk:Nat} (I:aR C P) (hA:tH A P.fs) (hx:Heap.MadeExcOf P.h h' e (.ref (C.exc c)) vs):aR C (P.to h' tk)/\sL C A (P.to h' tk) c (.ref e):=by
 refine bu fun G9 k9=> ?_;obtain ⟨k,new,t,he,_,_⟩:=hx;obtain ⟨ls,hls,hl⟩:=hA;refine k9 ?_;refine ⟨I.to k,.mk hls ⟨cN P.h (P.fs.map (·.L)),fun b o hb=> ?_,?_,?_,fun b o hb=> ?_,fun b o q hb=> ?_,.inl ⟨_,_,_,he,rfl,rfl,rfl,rfl⟩⟩⟩
 .rw[get?_without] at hb;split at hb
  .cases hb
  .exact k b o hb
 .rw[get?_without];split
  .rfl
  .exact new
 .clear hls
  induction ls with
  |nil=>trivial
  |cons env ls ih=>
   refine bu fun G9 k9=> ?_;obtain ⟨a,f,hf,b⟩:=hl env (.head _);obtain ⟨o,es,ep,ho,hd,_⟩:=(I.fr.ns f hf).1;refine k9 ?_;refine ⟨a,⟨f.L,o,b,?_,k _ _ ho,fun vs q=>by rw[hd] at q;cases q⟩,ih fun e he=>hl e (.tail _ he)⟩;rw[get?_without,if_pos (List.mem_map_of_mem hf)]
 .rw[get?_without,if_neg]
  .exact (I.base b o hb).1
  .intro q;obtain ⟨f,hf,z⟩:=SD.mp q;have:=(I.base b o hb).2;rw[<-z,(I.fr.ns f hf).2.1] at this;cases this
 .have hb':P.h.get? b=some o:=by
   obtain ⟨o',ho⟩:=I.live b (fun e=>by have q:kept (P.own b):=q;rw[e] at q;exact q);have:=k b o' ho;rw[show h'.get? b=some o from hb] at this;cases this;exact ho
  rw[get?_without,if_neg]
  .exact hb'
  .intro z;obtain ⟨f,hf,z⟩:=SD.mp z;have q:kept (P.own b):=q;rw[<-z,(I.fr.ns f hf).2.1] at q;exact q
end
section
variable {X:SX} {K:Out->aE->Prop} {Q:Flow->Shared->Prop}
theorem wM {e:Value} {M:Model} (I:aR X.C P) (hx:sL X.C X.A P c e) (k:∀ P',cj P P'->aR X.C P'->P'.σ=P.σ->sL X.C X.A P' c e->E e P'.s):notedBy M X.A X.env (cameBackBy M X.A X.env E) e P.s:=by
 obtain ⟨h1,h2⟩:=hx;rw[X.fr] at h1;cases h1;unfold notedBy;refine ry X.fr X.frame I h2 fun h1 I1 x1=> ?_;unfold cameBackBy;refine EW (P:=P.to h1 P.s.toks) X.frame I1 x1 fun h2 I2 x2=> ?_;exact k ((P.to h1 P.s.toks).to h2 P.s.toks) ((cj.to ..).trans (.to ..)) I2 rfl (.mk X.fr (x2.at X.frame))
noncomputable def RB (c:Nat) (m:List Nat) (s:Sx) (st:Stmt):Bool:=uE (fun ex cause _=>cause.isNone&&Hh (fj fun x es=>one (cz fun k _ _=>CD (fun t=>x==jc c&&decide (c<nX)&&fo s.sc x&&t.cps.toList==m&&Lz m) k) es) ex) st
theorem DJ (c:Nat) (m:List Nat) (h:RB c m X.sx st=true) (I:aR X.C P) (G:cV X P ρ) (w:jw K (match X.ker.hd with|true=>none|false=>some (Out.ex c ρ,P.σ))) (p:dc X P K Q E):wpAny X.M X.A (PySem.exec st X.env) Q E P.s:=by
 refine uD (fun st=>wpAny X.M X.A (PySem.exec st X.env) Q E P.s) h fun ex cause pos h=> ?_;refine qe (fun cause=>wpAny X.M X.A (PySem.exec (.Raise ex cause pos) X.env) Q E P.s) (ah h) ?_;refine iu (fun ex=>wpAny X.M X.A (PySem.exec (.Raise ex none pos) X.env) Q E P.s) (aq h) fun ex h=> ?_;refine fi (fun ex=>wpAny X.M X.A (PySem.exec (.Raise (some ex) none pos) X.env) Q E P.s) h fun x px es q4 h=> ?_;refine gw (fun es=>wpAny X.M X.A (PySem.exec (.Raise (some (.Call (.Name x px) es [] q4)) none pos) X.env) Q E P.s) h fun a h=> ?_;refine bO (fun a=>wpAny X.M X.A (PySem.exec (.Raise (some (.Call (.Name x px) [a] [] q4)) none pos) X.env) Q E P.s) h fun k q2 q3 h=> ?_;refine iH (fun k=>wpAny X.M X.A (PySem.exec (.Raise (some (.Call (.Name x px) [.Constant k q2 q3] [] q4)) none pos) X.env) Q E P.s) h fun s h=> ?_;have hw:=aq (ah (ah h));have h17:=S6 (aq (ah (ah (ah h))));rw[bN (ah (ah (ah (ah h))))] at hw ⊢;cases hh:X.hd with
 |true=>rw[show X.ker.hd=true from hh] at w;exact w.elim
 |false=>
 rw[show X.ker.hd=false from hh] at w;refine bu fun G9 k9=> ?_;obtain ⟨tl,Nn,nm,q,bs,hdct,sn,sub,ab,col,dd,k0,k1,k2,k3,k5,mN,hcls,hN,hni,T⟩:=(X.good.exc c h17).obj;refine k9 ?_;have keep:∀ b o,X.C.H.get? b=some o->P.h.get? b=some o:=fun b o e=>(I.base b o e).1;refine wpAny_Raise_call_subT (C:=X.C.exc c) (nm:=nm) (q:=q) (N:=Nn) (bs:=bs) (bm:=tl) (hdct:=hdct) (sn:=sn) (sub:=sub) (ab:=ab) (col:=col) (dd:=dd) (k0:=k0) (k1:=k1) (k2:=k2) (k3:=k3) (k5:=k5)
  PySem.F.excBase_ValueError (mN:=mN) (T.hasType PySem.F.excBase_ValueError.hasBase) (X.hnd hh) rfl hni (eC I hw (X.good.exc c h17).bound ⟨rfl,?_⟩)
 refine c_ (fun y hy=>by cases Sq.mp hy;rfl) ?_;refine Calls.spliced_cons ?_;refine wpAny_Constant_str (k:=q2) (pos:=q3) ?_;refine Calls.spliced_nil ⟨rfl,by simp [sizeLine],keep _ _ hcls,hN.keeps keep,T.keeps keep,fun h' e hx=> ?_⟩;obtain ⟨I',x⟩:=EV (tk:=P.s.toks+1) I G.frs hx;exact p.ex c ρ _ (P.to h' (P.s.toks+1)) (G.gs (.to ..)) I' x (G.ext (.to ..)) w
end
noncomputable def ci (c:Nat) (m:List Nat):C1:=⟨fun K ρ σ=>match K.hd with|true=>none|false=>some (.ex c ρ,σ),RB c m,fun _ _ _ _ _ _ _ h I G w p=>DJ c m h I G w p⟩
section
variable {X:SX} {K:Out->aE->Prop} {Q:Flow->Shared->Prop}
theorem cV.hide (e:P.own a= .no) (q:cV X P ρ):cV X (P.hide h t a o) ρ:=
 ⟨⟨q.frs,q.ne,fun x i p h1 h2 h3=>by
  obtain ⟨v,r,l⟩:=q.var x i p h1 h2 h3;have pa:=mq.start (h:=h) (t:=t) (o:=o) e (by obtain ⟨f,r,z,_⟩:=q.hd;exact ⟨f,r,z⟩);refine ⟨v,?_,l⟩;cases p with
  |d x=>exact RD.ext pa.fz r
  |p n j=>exact ⟨r.1,fun b z=>r.2 b (pa.cell n j b r.1 z)⟩⟩,q.hd⟩
theorem RV.hide (e:P.own a= .no) (hf:∃ f r,P.fs=f::r) (r:RV C P v p):RV C (P.hide h t a o) v p:=by
 have pa:=mq.start (h:=h) (t:=t) (o:=o) e hf;cases p with
 |d x=>exact RD.ext pa.fz r
 |p n j=>exact ⟨r.1,fun b z=>r.2 b (pa.cell n j b r.1 z)⟩
theorem RV.gto:∀ {p:PV},RV C P v p->RV C {P.to h t with G:=G} v p
 | .d _,r=>r
 | .p _ _,r=>r
theorem cV.gto (q:cV X P ρ):cV X {P.to h t with G:=G} ρ:=
 ⟨⟨q.frs,q.ne,fun x i p h1 h2 h3=>by
  obtain ⟨v,r,l⟩:=q.var x i p h1 h2 h3;exact ⟨v,r.gto,l⟩⟩,q.hd⟩
theorem KX (i:Nat) (it:CE) (b:CS) (h:Aq (fun t e be el _=>el.isEmpty&&dB (fun x _=>X.sx.Γ.lookup x==some i&&fY X.sx.sc x&&iS e&&it.is X.sx e&&b.is X.sx be) t) st=true) (I:aR X.C P) (G:cV X P ρ)
  (w:jw K (match X.ker.hd with|true=>none|false=>cO ρ (it.ev X.ker ρ) (fun v σ=>jM (Am v σ) fun q=>fe v q.1 i (fun ρ=>b.ex X.ker ρ) q.2 ρ σ) P.σ)) (p:dc X P K Q E):wpAny X.M X.A (PySem.exec st X.env) Q E P.s:=by
 refine yJ (fun st=>wpAny X.M X.A (PySem.exec st X.env) Q E P.s) h fun t e be el pos h=> ?_;refine bY (fun el=>wpAny X.M X.A (PySem.exec (.For t e be el pos) X.env) Q E P.s) (ah h) ?_;refine cJ (fun t=>wpAny X.M X.A (PySem.exec (.For t e be [] pos) X.env) Q E P.s) (aq h) fun y py h=> ?_;cases hd:X.hd with
 |true=>rw[show X.ker.hd=true from hd] at w;exact w.elim
 |false=>
 rw[show X.ker.hd=false from hd] at w;have hh:=X.hnd hd;refine wpAny_For (it.ok X.toCx e ρ P _ _ E (aq (ah h)) I G.toEnvOK (dP w) (p.bind G fun v va P₀ g₀ I₀ r₀ w G₀ p=> ?_)) (kP (aq (ah (ah h))));obtain ⟨⟨x,xs⟩,e0,w⟩:=gU w;obtain ⟨e1,e2,e3⟩:=qY e0;refine Al X.good I₀ r₀ e0 fun oi St hof W st0=> ?_;have hfs:∃ f r,P₀.fs=f::r:=by obtain ⟨f,r,z,_⟩:=G₀.hd;exact ⟨f,r,z⟩
 have hn:=I₀.push hof;have still0:bP P₀.σ x v=true:=by
  cases v with
  |d y=>rfl
  |p n j=>exact @SC _ (_) e1
 refine codeAny_forLoop (Nv X K b i v va x xs P₀.σ St P₀) ?_ xs.length ⟨P₀.hide (P₀.h.push oi) P₀.s.toks P₀.h.objs.size oi,ρ,0,oi,rfl,.start hn.own hfs,I₀.hide hn,G₀.hide hn.own,r₀.hide hn.own hfs,still0,st0,SQ _,rfl,w⟩;rintro n s ⟨P₁,ρ₁,j,o₁,rfl,x₁,I₁,G₁,r₁,s₁,st₁,hj,rfl,w⟩;have now₁:=sP I₁ r₁ e1 s₁;rcases Nat.lt_or_ge j xs.length with hlt|hge
 .rw[List.drop_eq_getElem_cons hlt] at w;refine W.item X.A j P₁ xs xs[j] _ _ hh I₁ x₁.fz now₁ e3 (Sp hlt) st₁ fun val h' tk rv st₂ kp=> ?_;obtain ⟨o₂,ho₂⟩:=W.fld _ _ st₂;have I₂:=I₁.gturn (t:=tk) x₁.G kp ho₂;have x₂:=x₁.turn (o':=o₂) (h:=h') (t:=tk);have G₂:=G₁.gto (G:=(P₀.h.objs.size,o₂)::P₀.G) (h:=h') (t:=tk);refine wpAny_assign_Name (jB (p:=.d xs[j]) (bN (ah (ah (ah (ah h))))) (aq (ah (ah (ah h)))) I₂ G₂ rv fun P₃ g₃ I₃ G₃ e₃=> ?_);have x₃:=x₂.grow g₃;have pp:=p.past x₃ I₃;refine b.ok X be _ P₃ (fK K v x i (fun ρ=>b.ex X.ker ρ) (xs.drop (j+1))) _ _ (aq h) I₃ G₃ (by rw[e₃];exact I9 w) ⟨fun ρ₄ P₄ g₄ I₄ G₄ k=> ?_,fun q u P₄ g₄ I₄ r₄ k=>pp.1 q u P₄ g₄ I₄ r₄ k,fun c ρ' e P₄ g₄ I₄ xx G₄ k=> ?_⟩
  .have x₄:=x₃.grow g₄;refine ⟨xs.length - (j+1),Pc hlt,⟨P₄,ρ₄,j+1,o₂,rfl,x₄,I₄,G₄,?_,k.1,W.own _ _ _ st₂ ?_,hlt,rfl,k.2⟩⟩
   .exact (r₁.gto.ext g₃.toExt).ext g₄.toExt
   .rw[(wE I₄ x₄.G).2,ho₂]
  .refine wM I₄ xx fun P₅ g₅ I₅ e₅ x₅=>pp.2 c ρ' e P₅ (g₄.grow g₅) I₅ x₅ (G₄.ext g₅) (e₅ ▸ k)
 .have hjx:j=xs.length:=Nat.le_antisymm hj hge;rw[hjx,List.drop_length] at w;refine W.done X.A j P₁ xs _ _ hh I₁ x₁.fz now₁ e3 hjx.symm st₁ fun h' tk kp=> ?_;have w₁:=(wE I₁ x₁.G).1;exact wpAny_execs_nil (p.next ρ₁ (P₁.show h' tk P₀.h.objs.size P₀.G) (x₁.show w₁) (I₁.show x₁.G kp) (G₁.show w₁) w)
end
noncomputable def jE (i:Nat) (it:CE) (b:CS):C1:=⟨fun K ρ σ=>match K.hd with|true=>none|false=>cO ρ (it.ev K ρ) (fun v σ=>jM (Am v σ) fun q=>fe v q.1 i (fun ρ=>b.ex K ρ) q.2 ρ σ) σ,fun s=>Aq fun t e be el _=>el.isEmpty&&dB (fun x _=>s.Γ.lookup x==some i&&fY s.sc x&&iS e&&it.is s e&&b.is s be) t,fun _ _ _ _ _ _ _ h I G w p=>KX i it b h I G w p⟩
section
open Classical in
noncomputable def Pt.enter (P:Pt) (h:Heap) (t:Nat) (g:Fm):Pt:={P.to h t with fs:=g::P.fs,own:=fun a=>if a∈g.adr then .fr else P.own a}
theorem E7 (e:a∈g.adr):(P.enter h t g).own a= .fr:=@if_pos _ (_) e _ _ _
theorem wS (e:a∉g.adr):(P.enter h t g).own a=P.own a:=@if_neg _ (_) e _ _ _
theorem wR {x:dt} (e:(P.enter h t g).own a=x) (hx:x≠ .fr):P.own a=x:=by
 by_cases q:a∈g.adr
 .exact absurd ((E7 q).symm.trans e).symm hx
 .exact (wS q).symm.trans e
theorem aR.enter (I:aR C P) (sz:C.H.objs.size<=P.h.objs.size) (kp:∀ b o,P.h.get? b=some o->h'.get? b=some o) (hL:P.h.objs.size<=g.L) (hn:h'.Ns g.L g.m) (hc:∀ c∈g.cells,h'.IsCell c (g.cv c)/\g.L<c):aR C (P.enter h' t g):=by
 have ge:∀ a∈g.adr,P.h.objs.size<=a:=fun a ha=>by
  rcases Sm.mp ha with q|q
  .rw[q];exact hL
  .exact Sv hL (S3 (hc a q).2)
 have no:∀ b o,P.h.get? b=some o->b∉g.adr:=fun b o e q=>To.mpr (ge b q) (SU e);have kk:∀ b o x,P.own b=x->P.h.get? b=some o->(P.enter h' t g).own b=x/\h'.get? b=some o:=fun b o x e z=>⟨(wS (no b o z)).trans e,kp b o z⟩;refine ⟨fun b o e=>(kk b o _ (I.base b o e).2 (I.base b o e).1).symm,fun b o e=>kp b o (I.fz b o (wR e dt.noConfusion)),fun b e=> ?_,⟨fun f hf=> ?_,fun f hf c hcc=> ?_,?_,fun b e=> ?_⟩,I.gh.mv (fun b o e=>(kk b o _ e (I.fz b o e)).1) fun b o e q=>kk b o _ e q,fun a b n j e f=>I.one a b n j (wR e dt.noConfusion) (wR f dt.noConfusion),fun a n j e=>I.bd a n j (wR e dt.noConfusion),fun n o e=>(I.obj n o e).mv (fun b o e=>(kk b o _ e (I.fz b o e)).1) fun b j o e q=>kk b o _ e q⟩
 .by_cases q:b∈g.adr
  .rcases Sm.mp q with z|z
   .obtain ⟨o,_,_,ho,_⟩:=hn;exact ⟨o,z ▸ ho⟩
   .obtain ⟨o,ho,_⟩:=(hc b z).1;exact ⟨o,ho⟩
  .obtain ⟨o,ho⟩:=I.live b (wS q ▸ e);exact ⟨o,kp b o ho⟩
 .rcases Sm.mp hf with q|q
  .rw[q];exact ⟨hn,E7 (.head _),Sv sz hL⟩
  .obtain ⟨⟨o,es,ep,ho,z⟩,x,y⟩:=I.fr.ns f q;exact ⟨⟨o,es,ep,kp _ _ ho,z⟩,(kk _ _ _ x ho).1,y⟩
 .rcases Sm.mp hf with q|q
  .subst q;exact ⟨(hc c hcc).1,E7 (.tail _ hcc),(hc c hcc).2⟩
  .obtain ⟨⟨o,ho,z⟩,x,y⟩:=I.fr.cl f q c hcc;exact ⟨⟨o,kp _ _ ho,z⟩,(kk _ _ _ x ho).1,y⟩
 .refine List.pairwise_cons.mpr ⟨fun f hf a ha=> ?_,I.fr.ord⟩;refine SN ?_ hL;rcases Sm.mp ha with q|q
  .rw[q];obtain ⟨⟨o,_,_,ho,_⟩,_⟩:=I.fr.ns f hf;exact SU ho
  .obtain ⟨⟨o,ho,_⟩,_⟩:=I.fr.cl f hf a q;exact SU ho
 .by_cases q:b∈g.adr
  .exact ⟨g,.head _,q⟩
  .obtain ⟨f,hf,z⟩:=I.fr.all b (wS q ▸ e);exact ⟨f,.tail _ hf,z⟩
theorem Ext.enter (I:aR C P) (no:∀ b o,P.h.get? b=some o->b∉g.adr):Ext P (P.enter h' t g):=
 ⟨⟨h',t,rfl⟩,rfl,fun b o e=>(wS (no b o (I.fz b o e))).trans e,fun _ _ v=>v,fun n j b _ e=>wR e dt.noConfusion⟩
structure Pa (P₀ P:Pt) (g:List (Addr×Obj)):Prop where
 sm:rW P₀.s P.s
 G:P.G=g++P₀.G
 fz:Fz P₀.own P.own
 val:∀ n j,d8 P₀.σ n j->d8 P.σ n j
 cell:∀ n j b,d8 P₀.σ n j->P.own b= .cell n j->P₀.own b= .cell n j
section
variable {g g':List (Addr×Obj)}
theorem Pa.grow (x:Pa P₀ P g) (y:Ext P P'):Pa P₀ P' g:=
 ⟨x.sm.trans y.sm,y.G.trans x.G,fun b o q=>y.fz b o (x.fz b o q),fun n j v=>y.val n j (x.val n j v),fun n j b v q=>x.cell n j b v (y.cell n j b (x.val n j v) q)⟩
theorem Pa.turn (x:Pa P₀ P g):Pa P₀ {P.to h t with G:=g'++P₀.G} g':=⟨x.sm.trans ⟨h,t,rfl⟩,rfl,x.fz,x.val,x.cell⟩
theorem Pa.rv (x:Pa P₀ P g):∀ {p:PV},RV C P₀ v p->RV C P v p
 | .d _,r=>RD.ext x.fz r
 | .p n j,r=>⟨x.val n j r.1,fun b z=>r.2 b (x.cell n j b r.1 z)⟩
theorem Pa.hide (x:Pa P₀ P g) (e:P.own a= .no):Pa P₀ (P.hide h t a o) ((a,o)::g):=
 ⟨x.sm.trans ⟨h,t,rfl⟩,congrArg ((a,o)::·) x.G,fun b o q=>fR e b o (x.fz b o q),x.val,fun n j b v q=>x.cell n j b v (by
  rcases df P.own a .gh b with ⟨_,r⟩|⟨_,r⟩
  .cases r.symm.trans q
  .exact r.symm.trans q)⟩
theorem Pa.show (x:Pa P₀ P ((a,o)::g)) (e:P.own a= .gh):Pa P₀ (P.show h t a (g++P₀.G)) g:=
 ⟨x.sm.trans ⟨h,t,rfl⟩,rfl,fun b o q=>kO e b o (x.fz b o q),x.val,fun n j b v q=>x.cell n j b v (nV q)⟩
theorem Pa.refl (P:Pt):Pa P P []:=⟨.refl _,rfl,fun _ _ e=>e,fun _ _ v=>v,fun _ _ _ _ e=>e⟩
end
section
variable {p q:Addr×Obj}
theorem aR.swap (I:aR C P) (hG:P.G=p::q::G):aR C {P with G:=q::p::G}:=by
 have mm:∀ r,r∈q::p::G->r∈P.G:=fun r hr=>by
  rw[hG];rcases Sm.mp hr with z|z
  .rw[z];exact .tail _ (.head _)
  .rcases Sm.mp z with z|z
   .rw[z];exact .head _
   .exact .tail _ (.tail _ z)
 refine ⟨I.base,I.fz,I.live,I.fr,⟨fun r hr=>I.gh.at_ r (mm r hr),?_,fun z e=>(I.gh.tab z e).map (fun _ _ e=>e) fun b o q=>⟨q.1,q.2.1,fun r hr=>q.2.2 r (mm r hr)⟩⟩,I.one,I.bd,I.obj⟩
 .have nd:=I.gh.nd;rw[hG] at nd;exact (List.Perm.swap _ _ _).nodup_iff.mp nd
end
noncomputable def Pt.pop (P:Pt) (L:Addr) (o:Obj) (fs:List Fm):Pt:={P with own:=hR P.own L .gh,G:=(L,o)::P.G,fs:=fs}
theorem aR.pop (I:aR C P) (hf:P.fs=g::fs) (hc:g.cells=[]) (ho:P.h.get? g.L=some o):aR C (P.pop g.L o fs):=by
 have own:P.own g.L= .fr:=(I.fr.ns g (by rw[hf];exact .head _)).2.1;have ord:=I.fr.ord;rw[hf] at ord;obtain ⟨o1,o2⟩:=List.pairwise_cons.mp ord;have cs:=df P.own g.L .gh;have ne:∀ k∈fs,∀ b∈k.adr,b≠g.L:=fun k hk b hb=>Nat.ne_of_lt (o1 k hk b hb);have kk:∀ b o x,P.own b=x->x≠ .fr->P.h.get? b=some o->hR P.own g.L .gh b=x/\P.h.get? b=some o:=fun b o x e q z=>⟨(bB fun c=>q (by rw[<-e,c,own])).trans e,z⟩;have bk:∀ b x,hR P.own g.L .gh b=x->x≠ .gh->P.own b=x:=fun b x e q=>by
  rcases cs b with ⟨_,r⟩|⟨_,r⟩
  .exact absurd (r.symm.trans e).symm q
  .exact r.symm.trans e
 refine ⟨fun b o e=>(kk b o _ (I.base b o e).2 dt.noConfusion (I.base b o e).1).symm,fun b o e=>I.fz b o (bk b _ e dt.noConfusion),fun b e=> ?_,⟨fun f h=> ?_,fun f h c hcc=> ?_,o2,fun b e=> ?_⟩,⟨fun p hp=> ?_,S9.mpr ⟨fun q=> ?_,I.gh.nd⟩,fun z e=>(I.gh.tab z e).map (fun b o e=>(kk b o _ e dt.noConfusion (I.fz b o e)).1) fun b o q=>⟨q.1,(kk b o _ q.2.1 dt.noConfusion q.1).1,fun p hp=>(Sm.mp hp).elim (fun c d=> ?_) (q.2.2 p)⟩⟩,fun a b n j e f=>I.one a b n j (bk a _ e dt.noConfusion) (bk b _ f dt.noConfusion),fun a n j e=>I.bd a n j (bk a _ e dt.noConfusion),fun n o e=>(I.obj n o e).mv (fun b o e=>(kk b o _ e dt.noConfusion (I.fz b o e)).1) fun b j o e q=>kk b o _ e dt.noConfusion q⟩
 .rcases cs b with ⟨z,r⟩|⟨_,r⟩
  .exact ⟨o,z ▸ ho⟩
  .exact I.live b (r ▸ e)
 .obtain ⟨x,y,z⟩:=I.fr.ns f (by rw[hf];exact .tail _ h);exact ⟨x,(bB (ne f h _ (.head _))).trans y,z⟩
 .obtain ⟨x,y,z⟩:=I.fr.cl f (by rw[hf];exact .tail _ h) c hcc;exact ⟨x,(bB (ne f h _ (.tail _ hcc))).trans y,z⟩
 .rcases cs b with ⟨_,r⟩|⟨nb,r⟩
  .cases r.symm.trans e
  .obtain ⟨f,h,z⟩:=I.fr.all b (r.symm.trans e);rw[hf] at h;rcases Sm.mp h with q|q
   .rw[q,Fm.adr,hc] at z;exact absurd (Sq.mp z) nb
   .exact ⟨f,q,z⟩
 .rcases Sm.mp hp with q|q
  .rw[q];exact ⟨ho,cc _ _ _⟩
  .exact (kk _ _ _ (I.gh.at_ p q).2 dt.noConfusion (I.gh.at_ p q).1).symm
 .obtain ⟨p,hp,e⟩:=SD.mp q;have:=(I.gh.at_ p hp).2;rw[e,own] at this;cases this
 .have:=q.2.1;rw[<-d,c,own] at this;cases this
theorem Pa.pop {g:List (Addr×Obj)} (x:Pa P₀ P g) (e:P.own L= .fr):Pa P₀ (P.pop L o fs) ((L,o)::g):=by
 refine ⟨x.sm,congrArg ((L,o)::·) x.G,fun b o q=>(bB fun c=> ?_).trans (x.fz b o q),x.val,fun n j b v q=>x.cell n j b v ?_⟩
 .have:=x.fz b o q;rw[c,e] at this;cases this
 .rcases df P.own L .gh b with ⟨_,r⟩|⟨_,r⟩
  .cases r.symm.trans q
  .exact r.symm.trans q
theorem Pa.past (x:Pa P₀ P [(a,o)]) (e:sK P₀.fs P.fs):mq P₀ P a o:=⟨x.sm,e,x.G,x.fz,x.val,x.cell⟩
end
theorem qO (x:Str):(relabel scope env).names.lookup x=(scope.names.lookup x).map fun k=>if (k==NameKind.free&&env.scope.kind== .function&&env.kindOf x==some .cell)=true then NameKind.cell else k:=by
 unfold relabel;generalize scope.names=l
 induction l with
 |nil=>rfl
 |cons p l ih=>
  obtain ⟨n,k⟩:=p;rw[List.map_cons];cases hx:x==n with
  |true=>
   obtain rfl:=beq_iff_eq.mp hx;by_cases hc:(k==NameKind.free&&env.scope.kind== .function&&env.kindOf x==some .cell)=true
   .simp only [List.lookup_cons,hc,if_true,hx,Option.map]
   .simp only [List.lookup_cons,hc,if_false,hx,Option.map];simp
  |false=>
   have e:((if (k==NameKind.free&&env.scope.kind== .function&&env.kindOf n==some .cell)=true then (n,NameKind.cell) else (n,k)):Str×NameKind).1=n:=by split<;>rfl
   rw[List.lookup_cons,List.lookup_cons];simp only [e,hx];exact ih
theorem l8 {env:Env}:∀ (l:List (Str×NameKind)) (cl:List (Str×Addr)),(∀ p∈l,p.2=NameKind.free->∃ c,env.cells.lookup p.1=some c)->(∀ y c,cl.lookup y=some c->env.cells.lookup y=some c)->
  ∃ cl',(forIn l cl fun (x:Str×NameKind) (r:List (Str×Addr))=>(if (x.2==NameKind.free)=true then do let a<-cellOf env x.1;pure (ForInStep.yield ((x.1,a)::r)) else pure (ForInStep.yield r):Sem (ForInStep (List (Str×Addr)))))=pure cl'/\
   (∀ y c,cl'.lookup y=some c->env.cells.lookup y=some c)/\(∀ y c,cl.lookup y=some c->cl'.lookup y=some c)/\(∀ p∈l,p.2=NameKind.free->(cl'.lookup p.1).isSome=true)
 |[],cl,_,h2=>⟨cl,rfl,h2,fun _ _ h=>h,fun p hp=>(SI hp).elim⟩
 |(n,k)::l,cl,h1,h2=>by
  by_cases hk:k=NameKind.free
  .subst hk;obtain ⟨c,hc⟩:=h1 (n,.free) (.head _) rfl;have h2':∀ y d,List.lookup y ((n,c)::cl)=some d->env.cells.lookup y=some d:=fun y d hd=>by
    rw[List.lookup_cons] at hd;cases hy:y==n with
    |true=>rw[hy] at hd;cases hd;rw[beq_iff_eq.mp hy];exact hc
    |false=>rw[hy] at hd;exact h2 y d hd
   obtain ⟨cl',e,q1,q2,q3⟩:=l8 l ((n,c)::cl) (fun p hp=>h1 p (.tail _ hp)) h2';refine ⟨cl',?_,q1,fun y d hd=> ?_,fun p hp hf=> ?_⟩
   .rw[List.forIn_cons];rw[if_pos (beq_self_eq_true _)];have hcell:cellOf env n=pure c:=by unfold cellOf;rw[hc]
    simp only [hcell];exact e
   .refine q2 y d ?_;rw[List.lookup_cons];cases hy:y==n with
    |true=>
     have:=h2 y d hd;rw[beq_iff_eq.mp hy,hc] at this;exact this
    |false=>exact hd
   .rcases Sm.mp hp with rfl|hp
    .rw[q2 n c (by rw[List.lookup_cons,beq_self_eq_true])];rfl
    .exact q3 p hp hf
  .obtain ⟨cl',e,q1,q2,q3⟩:=l8 l cl (fun p hp=>h1 p (.tail _ hp)) h2;refine ⟨cl',?_,q1,q2,fun p hp hf=> ?_⟩
   .rw[List.forIn_cons];rw[if_neg (by simpa using hk)];exact e
   .rcases Sm.mp hp with rfl|hp
    .exact absurd hf hk
    .exact q3 p hp hf
theorem sI (h:∀ p∈scope.names,p.2=NameKind.free->∃ c,env.cells.lookup p.1=some c):
  ∃ cl,closureFor scope env=pure cl/\(∀ p∈scope.names,p.2=NameKind.free->cl.lookup p.1=env.cells.lookup p.1):=by
 obtain ⟨cl,e,q1,_,q3⟩:=l8 scope.names [] h (fun y c hc=>nomatch hc);refine ⟨cl,?_,fun p hp hf=> ?_⟩
 .unfold closureFor;have:(forIn scope.names [] fun (x:Str×NameKind) (r:List (Str×Addr))=>(match x with
   |(name,kind)=>if (kind==NameKind.free)=true then do let a<-cellOf env name;pure (ForInStep.yield ((name,a)::r)) else pure (ForInStep.yield r):Sem (ForInStep (List (Str×Addr)))))=pure cl:=e
  simp only [this];rfl
 .obtain ⟨c,hc⟩:=Option.isSome_iff_exists.mp (q3 p hp hf);rw[hc,q1 _ _ hc]
theorem dm {β:Type} {x:Str} {b:β}:∀ {l:List (Str×β)},l.lookup x=some b->(x,b)∈l
 |[],h=>nomatch h
 |(n,c)::l,h=>by
  rw[List.lookup_cons] at h;cases hx:x==n with
  |true=>rw[hx] at h;cases h;rw[beq_iff_eq.mp hx];exact .head _
  |false=>rw[hx] at h;exact .tail _ (dm h)
structure mt (sc scope:Scope) (x:Str):Prop where
 kind:scope.kind= .function
 cell:∀ p∈scope.names,p.2≠ .cell
 var:scope.names.lookup x=some .local
 loc:∀ p∈scope.names,p.2= .local->scope.names.lookup p.1=some .local/\(p.1=x∨p.1=(".0":Str))
 free:∀ p∈scope.names,p.2= .free->sc.names.lookup p.1=some .cell
theorem nS {x:Str} (h:kS sc scope x=true):mt sc scope x:=by
 simp only [kS,Bool.and_eq_true,beq_iff_eq,List.all_eq_true,bne_iff_ne,ne_eq,Bool.or_eq_true] at h;obtain ⟨⟨⟨⟨h1,h2⟩,h3⟩,h4⟩,h5⟩:=h;exact ⟨h1,h2,h3,fun p hp e=>(h4 p hp).resolve_left fun q=>q e,fun p hp e=>(h5 p hp).resolve_left fun q=>q e⟩
noncomputable abbrev nZ (scope:Scope) (cl:List (Str×Addr)) (L:Addr) (env:Env):Env:=compEnvC scope cl L env
section
variable {x:Str}
theorem fB (y:Str):(nZ scope cl L env).scope.names.lookup y=(scope.names.lookup y).map fun k=>if (k==NameKind.free&&env.scope.kind== .function&&env.kindOf y==some .cell)=true then NameKind.cell else k:=qO y
theorem tu {y:Str} (h:scope.names.lookup y=some .free):(nZ scope cl L env).scope.names.lookup y=some .cell∨(nZ scope cl L env).scope.names.lookup y=some .free:=by
 rw[fB,h];show some (if _ then _ else _)=_∨some (if _ then _ else _)=_;split
 .exact .inl rfl
 .exact .inr rfl
theorem Ag {s:Scope} {y:Str} (h:s.names.lookup y=some .cell∨s.names.lookup y=some .free):oI s y=true:=by
 unfold oI;rcases h with h|h
 .rw[h];rfl
 .rw[h];rfl
theorem GT {s:Scope} {y:Str} (h:oI s y=true):s.names.lookup y=some .local∨s.names.lookup y=some .cell∨s.names.lookup y=some .free:=by
 rcases (Bool.or_eq_true _ _).mp h with h|h
 .rcases (Bool.or_eq_true _ _).mp h with h|h
  .exact .inl (bN h)
  .exact .inr (.inl (bN h))
 .exact .inr (.inr (bN h))
theorem zy (K:mt sc scope x):A4 scope (nZ scope cl L env):=fun y=>by
 refine ⟨fun h=> ?_,fun h=> ?_,fun h=>absurd rfl (K.cell _ (dm h))⟩
 .rcases GT h with h|h|h
  .unfold oI;rw[fB,h];rfl
  .exact absurd rfl (K.cell _ (dm h))
  .exact Ag (tu h)
 .have h:=bN (ah h);show (nZ scope cl L env).scope.names.lookup y=_;rw[fB,h];rfl
noncomputable def Cx.comp (X:Cx) (K:mt X.sc scope x) (i:Nat) (cl:List (Str×Addr)) (L:Addr):Cx:=
 ⟨X.C,X.A,nZ scope cl L X.env,scope,(x,i)::X.Γ,X.d,X.hd,X.good,X.calls,zy K,K.kind,X.glob,X.blt,X.dep,X.uni,X.hnd,none⟩
end
section
variable {x:Str}
theorem Fi {gl:List (Addr×Obj)} (K:mt X.sc scope x) (hcl:∀ p∈scope.names,p.2=NameKind.free->cl.lookup p.1=X.env.cells.lookup p.1) (hi:∀ q∈X.Γ,q.2≠i) (h0:X.Γ.lookup (".0":Str)=none) (G:EnvOK X P ρ) (pa:Pa P P' gl) (hf:P'.fs=g::P.fs) (hr:RV X.C P' v p) (hm:g.m x=some v):
  EnvOK (X.comp K i cl g.L) P' (ρ.set i (some p)):=by
 obtain ⟨ls,q1,q2⟩:=G.frs;refine ⟨⟨ls,q1,fun en hen=> ?_⟩,by rw[hf];nofun,fun y j q hy hmine hq=> ?_⟩
 .obtain ⟨a,f,hf',b⟩:=q2 en hen;exact ⟨a,f,by rw[hf];exact .tail _ hf',b⟩
 have hy:List.lookup y ((x,i)::X.Γ)=some j:=hy;rw[List.lookup_cons] at hy;cases hx:y==x with
 |true=>
  rw[hx] at hy;cases hy;rcases tV hq with ⟨_,z⟩|⟨z,_⟩
  .rw[z];refine ⟨v,hr,.inl ⟨?_,g,by rw[hf];exact .head _,rfl,by rw[beq_iff_eq.mp hx];exact hm⟩⟩;show (nZ scope cl g.L X.env).scope.names.lookup y=_;rw[fB,beq_iff_eq.mp hx,K.var];rfl
  .exact absurd rfl z
 |false=>
  rw[hx] at hy;rcases tV hq with ⟨z,_⟩|⟨_,hq⟩
  .exact absurd z.symm (hi (y,j) (dm hy))
  have hmine:oI (nZ scope cl g.L X.env).scope y=true:=hmine;have hfree:scope.names.lookup y=some .free:=by
   cases hs:scope.names.lookup y with
   |none=>unfold oI at hmine;rw[fB,hs] at hmine;cases hmine
   |some k=>
    cases k with
    |free=>rfl
    |«local»=>
     obtain ⟨_,h|h⟩:=K.loc _ (dm hs) rfl
     .rw[show y=x from h,beq_self_eq_true] at hx;cases hx
     .rw[show y=(".0":Str) from h,h0] at hy;cases hy
    |cell=>exact absurd rfl (K.cell _ (dm hs))
    |_=>unfold oI at hmine;rw[fB,hs] at hmine;cases hmine
  have hk:=((X.kinds y).2.2 (K.free _ (dm hfree) rfl)).1;obtain ⟨w,hw,hl⟩:=G.var y j q hy (Ag (.inl hk)) hq;refine ⟨w,pa.rv hw,?_⟩;rcases hl with ⟨h1,_⟩|⟨_,c,h2,f,hf',h3,h4⟩
  .rw[hk] at h1;cases h1
  .exact .inr ⟨tu hfree,c,(hcl _ (dm hfree) rfl).trans h2,f,by rw[hf];exact .tail _ hf',h3,h4⟩
end
structure CI where
 ts:c9->bj->PM Bool
 is:Sx->List Expr->Bool
 ok:∀ (X:Cx) (cs:List Expr) (ρ:bj) (P:Pt) (K:R Bool->aE->Prop) (Q:Bool->Shared->Prop) (E:Value->Shared->Prop),is X.sx cs=true->aR X.C P->EnvOK X P ρ->Wp K (ts X.ker ρ P.σ)->bx X oW P K Q E->
  wpAny X.M X.A (forIn cs true fun c r=>if r=true then do let ok<-isTrue c X.env (eval c X.env);pure (ForInStep.yield ok) else pure (ForInStep.yield r)) Q E P.s
noncomputable def dJ:CI:=⟨fun _ _=>ret true,fun _ cs=>cs.isEmpty,fun X cs ρ P K Q E h I G w p=>bY (fun cs=>wpAny X.M X.A (forIn cs true fun c r=>if r=true then do let ok<-isTrue c X.env (eval c X.env);pure (ForInStep.yield ok) else pure (ForInStep.yield r)) Q E P.s) h (wpAny_tests_nil (p.here I rfl w))⟩
noncomputable def qd (t:CT):CI:=⟨t.ts,fun s=>one (t.is s),fun X cs ρ P K Q E h I G w p=>gw (fun cs=>wpAny X.M X.A (forIn cs true fun c r=>if r=true then do let ok<-isTrue c X.env (eval c X.env);pure (ForInStep.yield ok) else pure (ForInStep.yield r)) Q E P.s) h fun c h=>wpAny_tests_one (t.ok X c ρ P K Q E h I G w p)⟩
section
variable (K:R (List D)->aE->Prop) (v:PV) (x:D) (i:Nat) (test:bj->PM Bool) (bT:bj->PM PV) (ρ:bj) (y:D) (r acc:List D)
def QY:R PV->aE->Prop
 | .ok (.d z),σ=>(bP σ x v=true/\acc.length<dZ)/\Wp K (dy v x i test bT ρ r (acc++[z]) σ)
 | .ok (.p _ _),_=>False
 | .ex c,σ=>K (.ex c) σ
def RH:R Bool->aE->Prop
 | .ok false,σ=>bP σ x v=true/\Wp K (dy v x i test bT ρ r acc σ)
 | .ok true,σ=>Wp (QY K v x i test bT ρ r acc) (bT (ρ.set i (some (.d y))) σ)
 | .ex _,_=>False
end
section
variable {K:R (List D)->aE->Prop} {v:PV} {x:D} {test:bj->PM Bool} {bT:bj->PM PV} {y:D} {r acc:List D}
theorem C2:∀ {z:Option (R PV×aE)},Wp K (match z with
   |some (.ok (.d z),σ'')=>if bP σ'' x v/\acc.length<dZ then dy v x i test bT ρ r (acc++[z]) σ'' else none
   |some (.ex c,σ'')=>some (.ex c,σ'')
   |_=>none)->Wp (QY K v x i test bT ρ r acc) z:=by
 intro z h;cases z with
 |none=>exact h
 |some z=>
 obtain ⟨z,σ⟩:=z;cases z with
 |ex _=>exact h
 |ok z=>
 cases z with
 |p _ _=>exact h
 |d z=>
  have h:Wp K (if bP σ x v/\acc.length<dZ then dy v x i test bT ρ r (acc++[z]) σ else none):=h;by_cases q:bP σ x v=true/\acc.length<dZ
  .rw[if_pos q] at h;exact ⟨q,h⟩
  .rw[if_neg q] at h;exact h.elim
theorem F9 (h:Wp K (dy v x i test bT ρ (y::r) acc σ)):Wp (RH K v x i test bT ρ y r acc) (test (ρ.set i (some (.d y))) σ):=by
 have h:Wp K (match test (ρ.set i (some (.d y))) σ with
  |some (.ok false,σ')=>if bP σ' x v then dy v x i test bT ρ r acc σ' else none
  |some (.ok true,σ')=>(match bT (ρ.set i (some (.d y))) σ' with
   |some (.ok (.d z),σ'')=>if bP σ'' x v/\acc.length<dZ then dy v x i test bT ρ r (acc++[z]) σ'' else none
   |some (.ex c,σ'')=>some (.ex c,σ'')
   |_=>none)
  |_=>none):=h
 generalize test (ρ.set i (some (.d y))) σ=z at h;cases z with
 |none=>exact h
 |some z=>
 obtain ⟨z,σ'⟩:=z;cases z with
 |ex _=>exact h
 |ok b=>
 cases b with
 |true=>exact C2 h
 |false=>
  have h:Wp K (if bP σ' x v then dy v x i test bT ρ r acc σ' else none):=h;cases q:bP σ' x v with
  |true=>rw[q] at h;exact ⟨q,h⟩
  |false=>rw[q] at h;exact h.elim
end
noncomputable def Sx.comp (s:Sx) (scope:Scope) (x:Str) (i:Nat):Sx:={s with sc:=scope,Γ:=(x,i)::s.Γ,lm:=none}
noncomputable def Ry (xc:Bool) {α:Type}:Option (R α×aE)->Option (R α×aE)
 |some (.ok a,σ)=>some (.ok a,σ)
 |some (.ex c,σ)=>if xc then some (.ex c,σ) else none
 |none=>none
noncomputable def iE (xc:Bool) (i:Nat) (it:CE) (t:CI) (bT:CE) (K:c9) (ρ:bj):PM (List D):=match K.hd with
 |true=>fun _=>none
 |false=>bU (it.ev K ρ) fun v σ=>(Am v σ).bind fun q=>Ry xc (dy v q.1 i (t.ts K) (bT.ev K) ρ q.2 [] σ)
noncomputable abbrev rD (i:Nat) (it:CE) (t:CI) (bT:CE) (K:c9) (ρ:bj):PM (List D):=iE false i it t bT K ρ
theorem oY {K:R β->aE->Prop} {k:α->Option (R β×aE)}:∀ {o:Option α},Wp K (o.bind k)->∃ a,o=some a/\Wp K (k a)
 |some a,h=>⟨a,rfl,h⟩
def xK {α:Type} (xc:Bool) (K:R α->aE->Prop):R α->aE->Prop
 | .ok a,σ=>K (.ok a) σ
 | .ex c,σ=>xc=true/\K (.ex c) σ
theorem I0 {xc:Bool} {K:R α->aE->Prop}:∀ {z:Option (R α×aE)},Wp K (Ry xc z)->Wp (xK xc K) z
 |none,h=>h
 |some (.ok _,_),h=>h
 |some (.ex c,σ),h=>by
  cases xc with
  |true=>exact ⟨rfl,h⟩
  |false=>exact h.elim
inductive FreshL (C:bF) (P:Pt):Value->List D->Prop
 |mk {a:Addr} {vs:List Value} {n:Nat} {l:List D}:FX C P P.h a (bp vs n)->RDs C P.own l vs->FreshL C P (.ref a) l
theorem KW {x:dt} (e:∀ o,w a≠ .fz o):Fz w (hR w a x):=fun b o q=>(bB fun c=>by rw[c] at q;exact e o q).trans q
theorem Pa.frm {g:List (Addr×Obj)} (x:Pa P₀ P g):Pa P₀ {P with fs:=fs} g:=⟨x.sm,x.G,x.fz,x.val,x.cell⟩
inductive Nw (X:Cx) (K:R (List D)->aE->Prop) (i:Nat) (t:CI) (bT:CE) (ρ:bj) (v:PV) (x:D) (xs:List D) (St:Nat->Heap->Prop) (P₁:Pt) (aI aD L:Addr) (n:Nat) (s:Shared):Prop
 |mk (P:Pt) (g:Fm) (j:Nat) (oi:Obj) (vs:List Value) (m:Nat) (acc:List D):P.s=s->Pa P₁ P [(aI,oi),(aD,bp vs m)]->P.fs=g::P₁.fs->g.L=L->g.cells=[]->aR X.C P->RDs X.C P.own acc vs->bP P.σ x v=true->St j P.h->j<=xs.length->n=xs.length - j->
  Wp K (dy v x i (t.ts X.ker) (bT.ev X.ker) ρ (xs.drop j) acc P.σ)->Nw X K i t bT ρ v x xs St P₁ aI aD L n s
theorem Pa.of {P₁ P₂:Pt} {g:List (Addr×Obj)} (a:Ext P P₁) (x:Pa P₁ P₂ g):Pa P P₂ g:=
 ⟨a.sm.trans x.sm,by rw[x.G,a.G],fun b o q=>x.fz b o (a.fz b o q),fun n j q=>x.val n j (a.val n j q),fun n j b v q=>a.cell n j b v (x.cell n j b (a.val n j v) q)⟩
theorem AS {X:Cx} {ρ:bj} {P:Pt} {K:R (List D)->aE->Prop} {E:Value->Shared->Prop} {RR:Value->Addr->Result->Shared->Prop} {PP:Value->Env->Result->Shared->Prop} (xc:Bool) (i:Nat) (it:CE) (t:CI) (bT:CE) {el iter:Expr} {cs:List Expr} {x:Str} {px pos:Pos} {scope scope':Scope} {cl:List (Str×Addr)}
  (hcl:∀ p∈scope.names,p.2=NameKind.free->cl.lookup p.1=X.env.cells.lookup p.1) (hsc:scope'=relabel scope X.env) (hPP:∀ v L r s,RR v L r s->PP v (newEnv scope L X.env.globals cl X.env.qual none .none (some X.env) builtinsNs) r s)
  (Kc:mt X.sc scope x) (h2:it.is X.sx iter=true) (h3:bT.is (X.sx.comp scope x i) el=true) (h4:t.is (X.sx.comp scope x i) cs=true) (h5:∀ q∈X.Γ,q.2≠i) (h6:X.Γ.lookup (".0":Str)=none) (hd:X.hd=false)
  (I:aR X.C P) (G:EnvOK X P ρ) (w:Wp K (iE xc i it t bT X.ker ρ P.σ)) (pe:∀ c e P',cj P P'->aR X.C P'->sL X.C X.A P' c e->K (.ex c) P'.σ->E e P'.s)
  (pk:∀ acc v L oL P',Pa P P' [(L,oL)]->P'.fs=P.fs->aR X.C P'->FreshL X.C P' v acc->(∃ m,P'.h.Ns L m)->K (.ok acc) P'.σ->RR v L (.ok .next) P'.s)
  (qx:∀ c e v P' g p q,Pa P P' [p,q]->P'.fs=g::P.fs->g.cells=[]->aR X.C P'->sL X.C X.A P' c e->xc=true->K (.ex c) P'.σ->notedBy X.M X.A (nZ scope cl g.L X.env) (fun e s=>RR v g.L (.error e) s) e P'.s):
  wpAny X.M X.A (eval iter X.env) (fun xv s₁=>wpAny X.M X.A (pyIter xv) (fun it s₂=>wpAny X.M X.A (newList []) (fun acc s₃=>
   wpAny X.M X.A (newFunctionEnv scope X.env.globals cl [] X.env.qual none .none (some X.env)) (fun cenv s₄=>
    codeAny X.M X.A (.compStart (.ListComp el [⟨.Name x px,iter,cs,0⟩] scope pos) 0 it acc {cenv with scope:=scope'}) (PP acc cenv) s₄) E s₃) E s₂) E s₁) E P.s:=by
 subst hsc;unfold iE at w;rw[show X.ker.hd=false from hd] at w;have hh:=X.hnd hd;refine it.ok X iter ρ P _ _ E h2 I G (aQ w) ⟨fun v va P₁ g₁ I₁ r₁ w=> ?_,pe⟩;refine bu fun G9 k9=> ?_;obtain ⟨⟨x0,xs⟩,e0,w⟩:=oY w;have w:=I0 w;obtain ⟨e1,e2,e3⟩:=qY e0;refine k9 ?_;refine Al X.good I₁ r₁ e0 fun oi St hof W st0=> ?_;have G₁:=G.ext g₁;have hn:=I₁.push hof;have I₂:=I₁.hide (t:=P₁.s.toks) hn;have hn₂:=I₂.push (o:=bp [] 0) rfl;have I₃:=(I₂.hide (t:=P₁.s.toks) hn₂).swap rfl;have pa₃:=((((Pa.refl P₁).hide (h:=P₁.h.push oi) (t:=P₁.s.toks) (o:=oi) hn.own).hide (h:=(P₁.h.push oi).push (bp [] 0)) (t:=P₁.s.toks) (o:=bp [] 0) hn₂.own).turn (h:=(P₁.h.push oi).push (bp [] 0)) (t:=P₁.s.toks) (g':=[(P₁.h.objs.size,oi),((P₁.h.push oi).objs.size,bp [] 0)]));refine wpAny_newObj_type (wpAny_newFunctionEnv Kc.cell (fun y hy=>(SI hy).elim) (fun h₁ hns₁ hsb₁=> ?_) Kc.kind);generalize hP₃:(Pt.mk {P₁.s with heap:=(P₁.h.push oi).push (bp [] 0),toks:=P₁.s.toks} P₁.fs (hR (hR P₁.own P₁.h.objs.size .gh) (P₁.h.push oi).objs.size .gh) ((P₁.h.objs.size,oi)::((P₁.h.push oi).objs.size,bp [] 0)::P₁.G) P₁.σ)=P₃;replace I₃:aR X.C P₃:=by rw[<-hP₃];exact I₃
 replace pa₃:Pa P₁ P₃ [(P₁.h.objs.size,oi),((P₁.h.push oi).objs.size,bp [] 0)]:=by rw[<-hP₃];exact pa₃
 have es:P₃.s={P₁.s with heap:=(P₁.h.push oi).push (bp [] 0)}:=by rw[<-hP₃]
 have eh:P₃.h=(P₁.h.push oi).push (bp [] 0):=by rw[<-hP₃]
 have efs:P₃.fs=P₁.fs:=by rw[<-hP₃]
 have eσ:P₃.σ=P₁.σ:=by rw[<-hP₃]
 change h₁.Ns ((P₁.h.push oi).push (bp [] 0)).objs.size _ at hns₁;change Heap.SameBut ((P₁.h.push oi).push (bp [] 0)).objs.size (((P₁.h.push oi).push (bp [] 0)).push _) h₁ at hsb₁;rw[<-eh] at hns₁ hsb₁;have kp:∀ b o,P₃.h.get? b=some o->h₁.get? b=some o:=fun b o e=>hsb₁.extBut b o (Nat.ne_of_lt (SU e)) (Su _ e);have sz:X.C.H.objs.size<=P₃.h.objs.size:=I₃.szF (by rw[efs];exact G₁.ne);generalize hg:(⟨P₃.h.objs.size,fun y=>([]:List (Str×Value)).reverse.lookup y,[],fun _=>none⟩:Fm)=g₄;have I₄:=I₃.enter (g:=g₄) (t:=P₁.s.toks) sz kp (by rw[<-hg];exact Sy _) (by rw[<-hg];exact hns₁) (fun c hc=>by rw[<-hg] at hc;exact (SI hc).elim);have pa₄:=pa₃.grow (Ext.enter (h':=h₁) (t:=P₁.s.toks) (g:=g₄) I₃ fun b o e q=>by
  rw[<-hg] at q;exact absurd (Sq.mp q) (Nat.ne_of_lt (SU e)))
 have st4:St 0 h₁:=W.own _ _ _ st0 (by
  obtain ⟨oi2,e4⟩:=W.fld _ _ st0;rw[e4];exact kp _ _ (by rw[eh];exact Su _ e4))
 have still0:bP P₁.σ x0 v=true:=by
  cases v with
  |d y=>rfl
  |p n j=>exact @SC _ (_) e1
 have loop:∀ s₃:Shared,s₃={P₁.s with heap:=h₁}->
   codeAny X.M X.A (.compLoop (.ListComp el [⟨.Name x px,iter,cs,0⟩] scope pos) 0 (.ref P₁.h.objs.size) (.ref (P₁.h.push oi).objs.size) (nZ scope cl P₃.h.objs.size X.env)) (RR (.ref (P₁.h.push oi).objs.size) P₃.h.objs.size) s₃:=by
  rintro s₃ rfl;refine codeAny_compLoop_tests (Nw X (xK xc K) i t bT ρ v x0 xs St P₁ P₁.h.objs.size (P₁.h.push oi).objs.size P₃.h.objs.size) ?_ xs.length
   ⟨P₃.enter h₁ P₁.s.toks g₄,g₄,0,oi,[],0,[],by show {P₃.s with heap:=h₁,toks:=P₁.s.toks}=_;rw[es],?_,by show g₄::P₃.fs=_;rw[efs],by rw[<-hg],by rw[<-hg],I₄,.nil,by show bP P₃.σ x0 v=true;rw[eσ];exact still0,st4,SQ _,rfl,by show Wp (xK xc K) (dy _ _ _ _ _ _ _ _ P₃.σ);rw[eσ];exact w⟩
  .rintro n s ⟨P₅,g₅,j,o₅,vs,m,acc,rfl,pa,hf,hgL,hgc,I₅,rs,s₅,st₅,hj,rfl,w⟩;have now₅:=sP I₅ (pa.rv r₁) e1 s₅;have hL:=I₅.fr.ns g₅ (by rw[hf];exact .head _);rcases Nat.lt_or_ge j xs.length with hlt|hge
   .rw[List.drop_eq_getElem_cons hlt] at w;refine W.item X.A j P₅ xs xs[j] _ _ hh I₅ pa.fz now₅ e3 (Sp hlt) st₅ fun val h' tk rv st₆ kp=> ?_;obtain ⟨o₆,ho₆⟩:=W.fld _ _ st₆;have I₆:=I₅.gturn (t:=tk) pa.G kp ho₆;have pa₆:=pa.turn (h:=h') (t:=tk) (g':=[(P₁.h.objs.size,o₆),((P₁.h.push oi).objs.size,bp vs m)]);refine wpAny_assign_Name (wpAny_storeName_local (m:=g₅.m) (env:=nZ scope cl P₃.h.objs.size X.env) (s:={P₅.s with heap:=h',toks:=tk}) ?_ (hgL ▸ (I₆.fr.ns g₅ (by show g₅∈P₅.fs;rw[hf];exact .head _)).1) (fun h₇ hn₇ hs₇=> ?_) ?_)
    .show (nZ scope cl P₃.h.objs.size X.env).scope.names.lookup x=_;rw[fB,Kc.var];rfl
    rotate_left
    .show (scope.kind==_||(scope.kind==_&&_))=false;rw[Kc.kind];rfl
    have I₇:=I₆.frame (t:=tk+1) (g:=⟨P₃.h.objs.size,fun y=>if y=x then some val else g₅.m y,[],fun _=>none⟩) hf ⟨hgL.symm,hgc.symm⟩ (.head _) (fun b o hb e=>hs₇.extBut b o (by rw[<-hgL];exact hb) e) hn₇ (fun c hc=>(SI hc).elim);have pa₇:=(pa₆.turn (h:=h₇) (t:=tk+1) (g':=[(P₁.h.objs.size,o₆),((P₁.h.push oi).objs.size,bp vs m)])).frm (fs:=⟨P₃.h.objs.size,fun y=>if y=x then some val else g₅.m y,[],fun _=>none⟩::P₁.fs);have G₇:=Fi (g:=⟨P₃.h.objs.size,fun y=>if y=x then some val else g₅.m y,[],fun _=>none⟩) (i:=i) (p:=.d xs[j]) (v:=val) Kc hcl h5 h6 G₁ pa₇ rfl rv (if_pos rfl);refine t.ok (X.comp Kc i cl P₃.h.objs.size) cs _ _ (RH (xK xc K) v x0 i (t.ts X.ker) (bT.ev X.ker) ρ xs[j] (xs.drop (j+1)) acc) _ _ h4 I₇ G₇ (F9 w) ⟨fun b c P₈ g₈ I₈ r₈ k=> ?_,fun c e P' _ _ _ k=>k.elim⟩;rw[show c=b from r₈];have pa₈:=pa₇.grow g₈.toExt;cases b with
    |false=>
     exact ⟨xs.length - (j+1),Pc hlt,⟨P₈,_,j+1,o₆,vs,m,acc,rfl,pa₈,g₈.fs,rfl,rfl,I₈,rs.ext g₈.fz,k.1,W.own _ _ _ st₆ (by rw[(wE I₈ pa₈.G).2,ho₆]),hlt,rfl,k.2⟩⟩
    |true=>
     refine bT.ok (X.comp Kc i cl P₃.h.objs.size) el _ P₈ (QY (xK xc K) v x0 i (t.ts X.ker) (bT.ev X.ker) ρ (xs.drop (j+1)) acc) _ _ h3 I₈ (G₇.ext g₈) k ⟨fun q vy P₉ g₉ I₉ r₉ k=> ?_,fun c e P₉ g₉ I₉ x₉ k=>qx c e _ P₉ _ _ _ (.of g₁.toExt (pa₈.grow g₉.toExt)) (by rw[g₉.fs,g₈.fs,<-g₁.fs]) rfl I₉ x₉ k.1 k.2⟩;cases q with
     |p n' j'=>exact k.elim
     |d z=>
      have pa₉:=pa₈.grow g₉.toExt;have J:=I₉.swap pa₉.G;have hD:=(wE J rfl).2;have rs₉:=(rs.ext g₈.fz).ext g₉.fz;refine m_ hD (by rw[rs₉.length];exact Sv (S3 k.1.2) (by decide)) fun h₁₀ n' e10 s10=> ?_;have J1:=J.gturn (t:=P₉.s.toks) rfl (fun b o hb e=>s10.extBut b o hb e) e10;have J2:=J1.swap rfl;have pa₁₀:=pa₉.turn (h:=h₁₀) (t:=P₉.s.toks) (g':=[(P₁.h.objs.size,o₆),((P₁.h.push oi).objs.size,bp (vs++[vy]) n')]);exact ⟨xs.length - (j+1),Pc hlt,⟨_,_,j+1,o₆,vs++[vy],n',acc++[z],rfl,pa₁₀,g₉.fs.trans g₈.fs,rfl,rfl,J2,rs₉.append (.cons r₉ .nil),k.1.1,W.own _ _ _ st₆ (by rw[ho₆];exact (wE J2 rfl).2),hlt,rfl,k.2⟩⟩
   .have hjx:j=xs.length:=Nat.le_antisymm hj hge;rw[hjx,List.drop_length] at w;refine W.done X.A j P₅ xs _ _ hh I₅ pa.fz now₅ e3 hjx.symm st₅ fun h' tk kp=> ?_;have a1:=(wE I₅ pa.G).1;have J1:=I₅.show (t:=tk) pa.G kp;have p1:=pa.show (h:=h') (t:=tk) a1;have a2:=(wE J1 p1.G).1;have oD:=(wE J1 p1.G).2;have J2:=J1.show (h':=h') (t:=tk) p1.G fun _ _ _ e=>e;have p2:=p1.show (h:=h') (t:=tk) a2;refine bu fun G9 k9=> ?_;obtain ⟨⟨o,es2,ep2,hoL,hrest⟩,frL,_⟩:=J2.fr.ns g₅ (by show g₅∈P₅.fs;rw[hf];exact .head _);refine k9 ?_;have J3:=J2.pop (o:=o) (fs:=P₁.fs) hf hgc hoL;have p3:=p2.pop (o:=o) (fs:=P₁.fs) frL;rw[hgL] at J3 p3 frL;refine pk acc _ P₃.h.objs.size o _ (.of g₁.toExt p3) g₁.fs J3 (.mk (vs:=vs) (n:=m) ⟨fun _ _ e=>e,?_,J1.offH (by rw[a2];nofun),oD⟩ ?_) ⟨g₅.m,o,es2,ep2,hgL ▸ hoL,hrest⟩ w
    .exact (bB fun q=>by rw[<-q] at frL;cases (cc _ _ _).symm.trans frL).trans (cc _ _ _)
    .exact ((rs.ext (kO a1)).ext (kO a2)).ext (KW fun o q=>by cases frL.symm.trans q)
  .exact pa₄
 have eL:P₃.h.objs.size=((P₁.h.push oi).push (bp [] 0)).objs.size:=by rw[eh]
 rw[eL] at loop;exact codeAny_mono (codeAny_compStart_list (loop _ rfl) (W.self X.A 0 _ _ _ st4 (loop _ rfl))) fun r s hr=>hPP _ _ r s hr
theorem tn {X:Cx} {ρ:bj} {P:Pt} {K:R (List D)->aE->Prop} {Q E:Value->Shared->Prop} (i:Nat) (it:CE) (t:CI) (bT:CE) {el iter:Expr} {cs:List Expr} {x:Str} {px pos p2:Pos} {scope:Scope} {use:Option (Value->Sem Unit)}
  (Kc:mt X.sc scope x) (h1:iS iter=true) (h2:it.is X.sx iter=true) (h3:bT.is (X.sx.comp scope x i) el=true) (h4:t.is (X.sx.comp scope x i) cs=true) (h5:∀ q∈X.Γ,q.2≠i) (h6:X.Γ.lookup (".0":Str)=none)
  (I:aR X.C P) (G:EnvOK X P ρ) (w:Wp K (rD i it t bT X.ker ρ P.σ)) (pe:∀ c e P',cj P P'->aR X.C P'->sL X.C X.A P' c e->K (.ex c) P'.σ->E e P'.s)
  (pk:∀ acc v L oL P',Pa P P' [(L,oL)]->P'.fs=P.fs->aR X.C P'->FreshL X.C P' v acc->(∃ m,P'.h.Ns L m)->K (.ok acc) P'.σ->compPost X.M X.A E use Q v L (.ok .next) P'.s):
  wpAny X.M X.A (comprehension (.ListComp el [⟨.Name x px,iter,cs,0⟩] scope pos) scope X.env p2 (newList []) false (eval iter X.env) use) Q E P.s:=by
 cases hd:X.hd with
 |true=>unfold rD iE at w;rw[show X.ker.hd=true from hd] at w;exact w.elim
 |false=>
 obtain ⟨cl,hclos,hcl⟩:=sI (scope:=scope) (env:=X.env) (fun p hp e=>((X.kinds p.1).2.2 (Kc.free p hp e)).2);refine wpAny_comprehension_free rfl (kP h1) hclos Kc.kind (fun y hy e=>(Kc.loc y hy e).1) ?_;exact AS (RR:=compPost X.M X.A E use Q) (PP:=fun v cenv=>compPost X.M X.A E use Q v cenv.locals) false i it t bT hcl rfl (fun _ _ _ _ h=>h) Kc h2 h3 h4 h5 h6 hd I G w pe pk fun _ _ _ _ _ _ _ _ _ _ _ _ h=>nomatch h
abbrev Nq (C:bF) (P:Pt) (v:Value) (l:List D):Prop:=FreshL C P v l
structure CF where
 ev:c9->bj->PM (List D)
 is:Sx->Expr->Bool
 ok:∀ (X:Cx) (e:Expr) (ρ:bj) (P:Pt) (K:R (List D)->aE->Prop) (Q E:Value->Shared->Prop),is X.sx e=true->aR X.C P->EnvOK X P ρ->Wp K (ev X.ker ρ P.σ)->bx X (Nq X.C) P K Q E->wpAny X.M X.A (eval e X.env) Q E P.s
noncomputable def JV (mu:Bool) (l:List D):PM PV:=match mu with
 |false=>ret (.d (.lst l))
 |true=>jo (.fld (.list l))
theorem uf {mu:Bool} (I:aR C P) (r:FreshL C P v l) (w:Wp K (JV mu l P.σ)):∃ p P',cj P P'/\aR C P'/\RV C P' v p/\P'.s=P.s/\K (.ok p) P'.σ:=by
 obtain @⟨a,vs,n,_,hn,rs⟩:=r;cases mu with
 |false=>exact ⟨.d (.lst l),P.note P.h P.s.toks a (bp vs n),.note hn.own,I.note hn,.lst (n:=⟨n,none,#[]⟩) (cc _ _ _) (rs.ext (fR hn.own)),rfl,w⟩
 |true=>exact ⟨.p P.σ.length 0,P.make P.h P.s.toks a (.fld (.list l)),.make hn.own,I.make rfl hn ⟨.ref a,.mk (cc _ _ _) hn.at_ ⟨vs,n,rfl,rs.ext (fR hn.own)⟩⟩,I.rvMake rfl,rfl,w⟩
noncomputable def nC (mu:Bool) (f:CF):CE:=⟨fun K ρ=>bU (f.ev K ρ) (JV mu),f.is,fun X e ρ P K Q E h I G w p=>f.ok X e ρ P _ Q E h I G (aQ w) (p.bind fun l v P1 g I1 r w p=>by
 obtain ⟨q,P2,g2,I2,r2,e2,k⟩:=uf I1 r w;rw[<-e2];exact p.ok q v P2 g2 I2 r2 k)⟩
noncomputable def pv (i:Nat) (it:CE) (t:CI) (bT:CE) (s:Sx):Expr->Bool:=Ll fun el x iter cs ay scope=>ay==0&&kS s.sc scope x&&iS iter&&it.is s iter&&bT.is (s.comp scope x i) el&&t.is (s.comp scope x i) cs&&s.Γ.all (fun q=>q.2 !=i)&&s.Γ.lookup (".0":Str)==none
theorem FreshL.show (e:P.own L= .gh) (hs:∀ b o,b≠L->P.h.get? b=some o->h'.get? b=some o):FreshL C P v l->FreshL C (P.show h' t L G) v l
 |@FreshL.mk _ _ a _ _ _ n r=>
  have ne:a≠L:=fun q=>by have:=n.own;rw[q,e] at this;cases this
  .mk ⟨fun _ _ e=>e,(bB ne).trans n.own,n.H,hs _ _ ne n.at_⟩ (r.ext (kO e))
section
variable {K:R (List D)->aE->Prop}
theorem Pa.done {oL:Obj} (x:Pa P P' [(L,oL)]) (hf:P'.fs=P.fs) (I:aR X.C P') (hs:Heap.SameBut L P'.h h'):cj P (P'.show h' P'.s.toks L P.G)/\aR X.C (P'.show h' P'.s.toks L P.G):=by
 have a:=(wE I x.G).1;have y:=x.show (h:=h') (t:=P'.s.toks) a;exact ⟨⟨⟨y.sm,y.G,y.fz,y.val,y.cell⟩,hf⟩,I.show x.G fun b o hb e=>hs.extBut b o hb e⟩
theorem HW (i:Nat) (it:CE) (t:CI) (bT:CE) (h:pv i it t bT X.sx e=true) (I:aR X.C P) (G:EnvOK X P ρ) (w:Wp K (rD i it t bT X.ker ρ P.σ)) (p:bx X (Nq X.C) P K Q E):wpAny X.M X.A (eval e X.env) Q E P.s:=
 n7 (fun e=>wpAny X.M X.A (eval e X.env) Q E P.s) h fun el x px iter cs ay scope pos h=>by
  have h0:=ah (ah (ah (ah (ah (ah (ah h))))));rw[bN h0,eval_ListComp];refine tn i it t bT (nS (aq (ah (ah (ah (ah (ah (ah h)))))))) (aq (ah (ah (ah (ah (ah h)))))) (aq (ah (ah (ah (ah h))))) (aq (ah (ah (ah h)))) (aq (ah (ah h))) (fun q hq z=> ?_) (bN (aq h)) I G w p.ex fun acc v L oL P' x' hf I' r hn k=> ?_
  .have:=List.all_eq_true.mp (aq (ah h)) q hq;rw[z,bne_self_eq_false] at this;cases this
  .obtain ⟨m,hn⟩:=hn;refine ⟨m,hn,fun h' hs=> ?_⟩;obtain ⟨g,J⟩:=x'.done (X:=X) hf I' hs;exact p.ok acc v _ g J (r.show (wE I' x'.G).1 fun b o hb e=>hs.extBut b o hb e) k
end
noncomputable def iF (i:Nat) (it:CE) (t:CI) (bT:CE):CF:=⟨rD i it t bT,pv i it t bT,fun _ _ _ _ _ _ _ h I G w p=>HW i it t bT h I G w p⟩
theorem xw {el iter:Expr} {x y:Str} {px py:Pos} {cs:List Expr} {l:Nat}:∃ b,swapsWith (.ListComp el [⟨.Name x px,iter,cs,0⟩] scope pos) (some (.Name y py)) l env=pure b:=⟨_,rfl⟩
noncomputable def wX (xc mu:Bool) (j i:Nat) (it:CE) (t:CI) (bT:CE) (K:c9) (ρ:bj):aE->Option (Out×aE):=cO ρ (bU (iE xc i it t bT K ρ) (JV mu)) fun v σ=>some (.next (ρ.set j (some v)),σ)
theorem rQ (xc mu:Bool) (j i:Nat) (it:CE) (t:CI) (bT:CE) {X:SX} {el iter:Expr} {cs:List Expr} {x y:Str} {px py pos q2:Pos} {scope:Scope} {ρ:bj} {P:Pt} {K:Out->aE->Prop} {Q:Flow->Shared->Prop} {E:Value->Shared->Prop}
  (run:∀ {K:R (List D)->aE->Prop} {Q:Value->Shared->Prop} (p2:Pos) (use:Option (Value->Sem Unit)),Wp K (iE xc i it t bT X.ker ρ P.σ)->(∀ c e P',cj P P'->aR X.C P'->sL X.C X.A P' c e->K (.ex c) P'.σ->E e P'.s)->
   (∀ acc v L oL P',Pa P P' [(L,oL)]->P'.fs=P.fs->aR X.C P'->FreshL X.C P' v acc->(∃ m,P'.h.Ns L m)->K (.ok acc) P'.σ->compPost X.M X.A E use Q v L (.ok .next) P'.s)->
   wpAny X.M X.A (comprehension (.ListComp el [⟨.Name x px,iter,cs,0⟩] scope q2) scope X.env p2 (newList []) false (eval iter X.env) use) Q E P.s)
  (hy:X.Γ.lookup y=some j) (hb:fY X.sc y=true) (G:cV X P ρ) (w:jw K (wX xc mu j i it t bT X.ker ρ P.σ)) (p:dc X P K Q E):wpAny X.M X.A (PySem.exec (.Assign [.Name y py] (.ListComp el [⟨.Name x px,iter,cs,0⟩] scope q2) pos) X.env) Q E P.s:=by
 have pe:∀ c e P',cj P P'->aR X.C P'->sL X.C X.A P' c e->K (.ex c ρ) P'.σ->E e P'.s:=fun c e P' g I' x k=>p.ex c ρ e P' (G.gs g) I' x (G.ext g) k;obtain ⟨b,hsw⟩:=xw (el:=el) (iter:=iter) (x:=x) (y:=y) (px:=px) (py:=py) (pos:=q2) (cs:=cs) (scope:=scope) (l:=pos.line) (env:=X.env);cases b with
 |false=>
  refine wpAny_Assign_Name ?_ hsw;rw[eval_ListComp];refine run _ none (aQ (dP w)) pe fun acc v L oL P' x' hf I' r hn k=> ?_;obtain ⟨m,hn⟩:=hn;refine ⟨m,hn,fun h' hs=> ?_⟩;obtain ⟨g,J⟩:=x'.done (X:=X.toCx) hf I' hs;obtain ⟨q,P1,g1,I1,r1,e1,k⟩:=uf J (r.show (wE I' x'.G).1 fun b o hb e=>hs.extBut b o hb e) k;show wpAny X.M X.A (storeName X.env y v) (fun _=>Q .next) E (P'.show h' P'.s.toks L P.G).s;rw[<-e1];exact jB hy hb I1 ((G.ext g).ext g1) r1 fun P2 g2 I2 G2 e2=>p.next _ P2 ((G.gs (g.trans g1)).trans g2) I2 G2 (e2 ▸ k)
 |true=>
  rw[exec_Assign_Name_used _ _ _ _ hsw];refine Sz (wpAny_standAt (Sz ?_));show wpAny _ X.A (do let _<-comprehension (.ListComp el [⟨.Name x px,iter,cs,0⟩] scope q2) scope X.env _ (newList []) false (eval iter X.env) (some (assign (.Name y py) X.env))) _ _ P.s;refine Sz (wpAny_mono (run (Q:=fun _ s'=>Q .next s') _ _ (aQ (dP w)) pe fun acc v L oL P' x' hf I' r hn k=> ?_) (fun _ s' hq=>SA (SA hq)) fun _ _ e=>e);obtain ⟨m,oo,es,ep,hn1,hn2⟩:=hn;have hoo:oo=oL:=Tc (hn1.symm.trans (wE I' x'.G).2);have hlk:sK P.fs P'.fs:=by
   obtain ⟨f,r,z,_⟩:=G.hd;rw[hf,z];exact .mk (.refl f)
  have past:=x'.past hlk;have G':cV X P' ρ:=⟨⟨hf ▸ G.frs,hf ▸ G.ne,fun x i p h1 h2 h3=>by
   obtain ⟨v,r,l⟩:=G.var x i p h1 h2 h3;exact ⟨v,x'.rv r,hf ▸ l⟩⟩,hf ▸ G.hd⟩
  obtain ⟨q,P1,g1,I1,r1,e1,k⟩:=uf I' r k;rw[<-e1];refine wpAny_assign_Name (jB hy hb I1 (G'.ext g1) r1 fun P2 g2 I2 G2 e2=> ?_);have past2:=past.grow ((G'.gs g1).trans g2);have gh2:=wE I2 past2.G;refine ⟨m,⟨oo,es,ep,by rw[hoo];exact gh2.2,hn2⟩,fun h' hs=> ?_⟩;exact p.next _ (P2.show h' P2.s.toks L P.G) (past2.show gh2.1) (I2.show past2.G fun b o hb e=>hs.extBut b o hb e) (G2.show gh2.1) (by show K _ P2.σ;rw[e2];exact k)
theorem xe {Γ:FY} (h:Γ.all (fun q=>q.2 !=i)=true):∀ q∈Γ,q.2≠i:=fun q hq z=>by
 have:=List.all_eq_true.mp h q hq;rw[z,bne_self_eq_false] at this;cases this
theorem zF (mu:Bool) (j i:Nat) (it:CE) (t:CI) (bT:CE) {X:SX} {st:Stmt} {ρ:bj} {P:Pt} {K:Out->aE->Prop} {Q:Flow->Shared->Prop} {E:Value->Shared->Prop} (h:oM (fun t' e=>dB (fun x _=>X.sx.Γ.lookup x==some j&&fY X.sx.sc x&&pv i it t bT X.sx e) t') st=true) (I:aR X.C P) (G:cV X P ρ)
  (w:jw K (wX false mu j i it t bT X.ker ρ P.σ)) (p:dc X P K Q E):Ws X st Q E P:=
 gi (fun st=>Ws X st Q E P) h fun te e pos h=>cJ (fun te=>wpAny X.M X.A (PySem.exec (.Assign [te] e pos) X.env) Q E P.s) h fun y py h=>by
  have hy:=bN (ah (ah h));have hb:=aq (ah h);refine n7 (fun e=>wpAny X.M X.A (PySem.exec (.Assign [.Name y py] e pos) X.env) Q E P.s) (aq h) (fun el x px iter cs ay scope q2 h=> ?_);have h0:=bN (ah (ah (ah (ah (ah (ah (ah h)))))));subst h0;exact rQ false mu j i it t bT (fun p2 use w pe pk=>tn (X:=X.toCx) i it t bT (nS (aq (ah (ah (ah (ah (ah (ah h)))))))) (aq (ah (ah (ah (ah (ah h)))))) (aq (ah (ah (ah (ah h))))) (aq (ah (ah (ah h)))) (aq (ah (ah h))) (xe (aq (ah h))) (bN (aq h)) I G.toEnvOK w pe pk) hy hb G w p
noncomputable def zV (mu:Bool) (j i:Nat) (it:CE) (t:CI) (bT:CE):C1:=⟨wX false mu j i it t bT,fun s=>oM fun t' e=>dB (fun x _=>s.Γ.lookup x==some j&&fY s.sc x&&pv i it t bT s e) t',fun _ _ _ _ _ _ _ h I G w p=>zF mu j i it t bT h I G w p⟩
theorem K3 {B B':Heap} (wn:∀ b,b≠L->B'.get? b=B.get? b) (hs:∀ b,b≠L->h'.get? b=h.get? b):h.FunFrames B ls->(∀ env∈ls,env.frame≠some L)->h'.FunFrames B' ls:=by
 induction ls with
 |nil=>exact fun _ _=>trivial
 |cons env ls ih=>
  intro z n;obtain ⟨k,⟨F,o,e1,e2,e3,e4⟩,r⟩:=z;have q:F≠L:=fun z=>n env (.head _) (by rw[e1,z]);exact ⟨k,⟨F,o,e1,(wn F q).trans e2,(hs F q).trans e3,e4⟩,ih r fun x hx=>n x (.tail _ hx)⟩
theorem iJ.off {e:Addr} (x:iJ C P ls e c fl) (I:aR C P) (fr:P.own L= .fr) (hL:∃ o,P.h.get? L=some o/\∀ vs,o.data≠ .fields vs) (hls:∀ env∈ls,env.frame≠some L) (hs:∀ b,b≠L->P'.h.get? b=P.h.get? b) (hk:∀ b,kept (P'.own b)->kept (P.own b)):iJ C P' ls e c fl:=by
 obtain ⟨B,k1,k2,k3,k4,k5,a0,oe,vs,T,oT,ts,he,hcls,hd,h1,hnT,hTe,hT,hdT,h3⟩:=x;obtain ⟨oL,hoL,hnL⟩:=hL;have wn:∀ b,b≠L->(cN B [L]).get? b=B.get? b:=fun b hb=>by rw[get?_without,if_neg fun z=>hb (Sq.mp z)]
 have wb:∀ b o,(cN B [L]).get? b=some o->b≠L/\B.get? b=some o:=fun b o hb=>by
  have q:b≠L:=fun q=>by rw[q,get?_without,if_pos (.head _)] at hb;cases hb
  exact ⟨q,(wn b q).symm.trans hb⟩
 have ne:∀ {b o vs},P.h.get? b=some o->o.data= .fields vs->b≠L:=fun hb hd q=>by
  rw[q,hoL] at hb;cases hb;exact hnL _ hd
 have eL:=ne he hd;have tL:=ne hT hdT;have fL:∀ b,kept (P.own b)->b≠L:=fun b q z=>by rw[z,fr] at q;exact q
 refine ⟨cN B [L],fun b o hb=>(hs b (wb b o hb).1).trans (k1 b o (wb b o hb).2),(wn e eL).trans k2,K3 wn hs k3 hls,fun b o hb=>(wn b fun z=> ?_).trans (k4 b o hb),fun b o q hb=> ?_,a0,oe,vs,T,oT,ts,(hs e eL).trans he,hcls,hd,h1,(wn T tL).trans hnT,hTe,(hs T tL).trans hT,hdT,h3⟩
 .have:=(I.base b o hb).2;rw[z,fr] at this;cases this
 .have q:=hk b q;rw[hs b (fL b q)] at hb;exact (wn b (fL b q)).trans (k5 b o q hb)
def Q6 (M:Model) (A:Around) (E:Value->Shared->Prop) (env:Env) (use:Option (Value->Sem Unit)) (Q:Value->Shared->Prop) (v:Value) (L:Addr) (r:Result) (s:Shared):Prop:=match r with
 | .ok f=>compPost M A E use Q v L (.ok f) s
 | .error x=>∃ m,s.heap.Ns L m/\∀ h',Heap.SameBut L s.heap h'->wpAny M A (PySem.passOn "comprehension.variables-let-go" x env:Sem Value) (fun _ _=>False) E {s with heap:=h'}
section
variable {X:SX} {K:R (List D)->aE->Prop} {e:Value} {p q:Addr×Obj} {use:Option (Value->Sem Unit)}
theorem HV (pa:Pa P P' [p,q]) (hf:P'.fs=g::P.fs) (hgc:g.cells=[]) (I:aR X.C P') (hx:sL X.C X.A P' c e) (hfr:tH X.A P.fs) (k:K (.ex c) P'.σ) (pe:∀ c e P',cj P P'->aR X.C P'->sL X.C X.A P' c e->K (.ex c) P'.σ->E e P'.s):
  notedBy X.M X.A (nZ scope cl g.L X.env) (fun e s=>Q6 X.M X.A E X.env use Q v g.L (.error e) s) e P'.s:=by
 obtain ⟨h1,h2⟩:=hx;rw[X.fr] at h1;cases h1;show wpAny X.M X.A (noteFrame (.ref _) X.env) _ _ _;refine ry X.fr X.frame I h2 fun h6 I6 x6=> ?_;obtain ⟨⟨o,es,ep,ho,hr⟩,frL,_⟩:=I6.fr.ns g (by show g∈P'.fs;rw[hf];exact .head _);refine ⟨g.m,⟨o,es,ep,ho,hr⟩,fun h7 hs=> ?_⟩;have pa6:Pa P (P'.to h6 P'.s.toks) [p,q]:=⟨pa.sm.trans ⟨h6,P'.s.toks,rfl⟩,pa.G,pa.fz,pa.val,pa.cell⟩;have a1:=(wE I6 pa6.G).1;have J1:=I6.show (h':=h6) (t:=P'.s.toks) pa6.G fun _ _ _ e=>e;have y1:=pa6.show (h:=h6) (t:=P'.s.toks) a1;have a2:=(wE J1 y1.G).1;have J2:=J1.show (h':=h6) (t:=P'.s.toks) y1.G fun _ _ _ e=>e;have y2:=y1.show (h:=h6) (t:=P'.s.toks) a2;have fr2:=(J2.fr.ns g (by show g∈P'.fs;rw[hf];exact .head _)).2.1;have J3:=J2.pop (o:=o) (fs:=P.fs) hf hgc ho;have y3:=y2.pop (o:=o) (fs:=P.fs) fr2;obtain ⟨gr,J4⟩:=y3.done (X:=X.toCx) rfl J3 hs;have x7:=x6.off (P':=(((((P'.to h6 P'.s.toks).show h6 P'.s.toks p.1 (q::P.G)).show h6 P'.s.toks q.1 P.G).pop g.L o P.fs).show h7 P'.s.toks g.L P.G)) I6 frL ⟨o,ho,fun vs z=>by rw[hr.1] at z;cases z⟩ (fun env hen z=> ?_) (fun b hb=>hs.2 b hb) fun b hb=> ?_
 .exact EU X.frame J4 x7 fun h8 I8 x8=>pe c _ _ (gr.trans (.to ..)) I8 (.mk X.fr (x8.at X.frame)) k
 .obtain ⟨ls,e1,e2⟩:=hfr;rw[X.fr] at e1;cases e1;obtain ⟨_,f,hff,e3⟩:=e2 env hen;have ord:=I6.fr.ord;rw[show (P'.to h6 P'.s.toks).fs=g::P.fs from hf] at ord;have:=(List.pairwise_cons.mp ord).1 f hff f.L (.head _);rw[e3] at z;rw[Tc z] at this;exact S7 _ this
 .have hb:kept (hR (hR (hR (hR P'.own p.1 .no) q.1 .no) g.L .gh) g.L .no b):=hb;show kept (P'.own b);by_cases z:b=g.L
  .rw[z,cc] at hb;exact hb.elim
  rw[bB z,bB z] at hb;by_cases z2:b=q.1
  .rw[z2,cc] at hb;exact hb.elim
  rw[bB z2] at hb;by_cases z1:b=p.1
  .rw[z1,cc] at hb;exact hb.elim
  rwa [bB z1] at hb
theorem xL (h:∀ x∈scope.names,x.2≠NameKind.free):scope=relabel scope env:=by
 unfold relabel;have:(scope.names.map fun (n,k)=>if (k==NameKind.free&&env.scope.kind== .function&&env.kindOf n==some .cell) then (n,NameKind.cell) else (n,k))=scope.names:=by
  refine (List.map_congr_left fun x hx=> ?_).trans (List.map_id _);obtain ⟨n,k⟩:=x;have:(k==NameKind.free)=false:=by simpa using h _ hx
  simp [this]
 rw[this]
theorem zz (i:Nat) (it bT:CE) {el iter:Expr} {cs:List Expr} {x:Str} {px pos p2:Pos}
  (Kc:mt X.sc scope x) (hfree:∀ x∈scope.names,x.2≠NameKind.free) (h1:iS iter=true) (h2:it.is X.sx iter=true) (h3:bT.is (X.sx.comp scope x i) el=true) (h4:dJ.is (X.sx.comp scope x i) cs=true) (h5:∀ q∈X.Γ,q.2≠i) (h6:X.Γ.lookup (".0":Str)=none)
  (I:aR X.C P) (G:EnvOK X.toCx P ρ) (w:Wp K (iE true i it dJ bT X.ker ρ P.σ)) (pe:∀ c e P',cj P P'->aR X.C P'->sL X.C X.A P' c e->K (.ex c) P'.σ->E e P'.s)
  (pk:∀ acc v L oL P',Pa P P' [(L,oL)]->P'.fs=P.fs->aR X.C P'->FreshL X.C P' v acc->(∃ m,P'.h.Ns L m)->K (.ok acc) P'.σ->compPost X.M X.A E use Q v L (.ok .next) P'.s):
  wpAny X.M X.A (comprehension (.ListComp el [⟨.Name x px,iter,cs,0⟩] scope pos) scope X.env p2 (newList []) false (eval iter X.env) use) Q E P.s:=by
 cases hd:X.hd with
 |true=>unfold iE at w;rw[show X.ker.hd=true from hd] at w;exact w.elim
 |false=>
 have hcl:∀ p∈scope.names,p.2=NameKind.free->([]:List (Str×Addr)).lookup p.1=X.env.cells.lookup p.1:=fun p hp e=>absurd e (hfree p hp);have core:=fun PP hPP=>AS (X:=X.toCx) (RR:=Q6 X.M X.A E X.env use Q) (PP:=PP) (px:=px) (pos:=pos) true i it dJ bT hcl (xL hfree) hPP Kc h2 h3 h4 h5 h6 hd I G w pe pk fun c e v P' g p q pa hf hgc I' hx _ k=>HV pa hf hgc I' hx G.frs k pe;cases use with
 |none=>
  refine wpAny_comprehension rfl (kP h1) hfree Kc.kind (fun y hy e=>(Kc.loc y hy e).1) (core (fun acc cenv r s'=>∃ m,s'.heap.Ns cenv.locals m/\∀ h',Heap.SameBut cenv.locals s'.heap h'->
     match r with| .ok _=>Q acc {s' with heap:=h'}| .error x=>wpAny X.M X.A (PySem.passOn "comprehension.variables-let-go" x {cenv with scope:=scope}) Q E {s' with heap:=h'}) fun v L r s h=> ?_)
  cases r with
  |ok f=>exact h
  |error x=>
   obtain ⟨m,hn,h⟩:=h;exact ⟨m,hn,fun h' hs=>wpAny_mono (h h' hs) (fun _ _ z=>z.elim) fun _ _ z=>z⟩
 |some u=>
  refine wpAny_comprehension_use rfl (kP h1) hfree Kc.kind (fun y hy e=>(Kc.loc y hy e).1) (core (fun acc cenv r s'=>match r with
     | .ok _=>wpAny X.M X.A (u acc) (fun _ s''=>∃ m,s''.heap.Ns cenv.locals m/\∀ h',Heap.SameBut cenv.locals s''.heap h'->Q .none {s'' with heap:=h'}) E s'
     | .error x=>∃ m,s'.heap.Ns cenv.locals m/\∀ h',Heap.SameBut cenv.locals s'.heap h'->wpAny X.M X.A (PySem.passOn "comprehension.variables-let-go" x {cenv with scope:=scope}) Q E {s' with heap:=h'}) fun v L r s h=> ?_)
  cases r with
  |ok f=>exact h
  |error x=>
   obtain ⟨m,hn,h⟩:=h;exact ⟨m,hn,fun h' hs=>wpAny_mono (h h' hs) (fun _ _ z=>z.elim) fun _ _ z=>z⟩
end
noncomputable def Ar (i:Nat) (it bT:CE) (s:Sx):Expr->Bool:=Ll fun el x iter cs ay scope=>ay==0&&kS s.sc scope x&&iS iter&&it.is s iter&&bT.is (s.comp scope x i) el&&dJ.is (s.comp scope x i) cs&&s.Γ.all (fun q=>q.2 !=i)&&s.Γ.lookup (".0":Str)==none&&scope.names.all (fun p=>p.2 !=NameKind.free)
theorem xb (j i:Nat) (it bT:CE) {X:SX} {st:Stmt} {ρ:bj} {P:Pt} {K:Out->aE->Prop} {Q:Flow->Shared->Prop} {E:Value->Shared->Prop} (h:oM (fun t' e=>dB (fun x _=>X.sx.Γ.lookup x==some j&&fY X.sx.sc x&&Ar i it bT X.sx e) t') st=true) (I:aR X.C P) (G:cV X P ρ)
  (w:jw K (wX true false j i it dJ bT X.ker ρ P.σ)) (p:dc X P K Q E):Ws X st Q E P:=
 gi (fun st=>Ws X st Q E P) h fun te e pos h=>cJ (fun te=>wpAny X.M X.A (PySem.exec (.Assign [te] e pos) X.env) Q E P.s) h fun y py h=>by
  have hy:=bN (ah (ah h));have hb:=aq (ah h);refine n7 (fun e=>wpAny X.M X.A (PySem.exec (.Assign [.Name y py] e pos) X.env) Q E P.s) (aq h) (fun el x px iter cs ay scope q2 h=> ?_);have hfree:∀ x∈scope.names,x.2≠NameKind.free:=fun x hx=>bne_iff_ne.mp (List.all_eq_true.mp (aq h) x hx);have h:=ah h;have h0:=bN (ah (ah (ah (ah (ah (ah (ah h)))))));subst h0;exact rQ true false j i it dJ bT (fun p2 use w pe pk=>zz i it bT (nS (aq (ah (ah (ah (ah (ah (ah h)))))))) hfree (aq (ah (ah (ah (ah (ah h)))))) (aq (ah (ah (ah (ah h))))) (aq (ah (ah (ah h)))) (aq (ah (ah h))) (xe (aq (ah h))) (bN (aq h)) I G.toEnvOK w pe pk) hy hb G w p
noncomputable def pV (j i:Nat) (it bT:CE):C1:=⟨wX true false j i it dJ bT,fun s=>oM fun t' e=>dB (fun x _=>s.Γ.lookup x==some j&&fY s.sc x&&Ar i it bT s e) t',fun _ _ _ _ _ _ _ h I G w p=>xb j i it bT h I G w p⟩
noncomputable def SX.up (X:SX) (v:Option Value):SX:={X with A:=X.A.mark v,hd:=true,dep:=X.dep,uni:=X.uni,hnd:=(fun q=>by cases q),fr:=X.fr,dep2:=X.dep2,uni2:=X.uni2}
section
variable {M:Model} {e:Addr}
theorem wN {Q:Unit->Shared->Prop} (I:aR C P) (hx:iJ C P ls e c fl) (hQ:∀ h',aR C (P.to h' P.s.toks)->iJ C (P.to h' P.s.toks) ls e c .none->Q () {P.s with heap:=h'}):
  wpAny M A (setFlight (.ref e) none) Q E P.s:=by
 refine bu fun G9 k9=> ?_;obtain ⟨B,k1,k2,k3,k4,k5,a0,ht⟩:=hx;refine k9 ?_;refine wpAny_setFlight_noneW k1 k3 ht fun h' x1 x2 x3 x4=> ?_;exact hQ h' (I.slots (fun b o q=>x1 b o (k4 b o q)) (fun b o q z=>x1 _ _ (k5 b o q z)) fun b o hb hn=>⟨o.slots,x4 b o hb hn⟩) ⟨B,x1,k2,x2,k4,fun b o q z=>pq I k1 k5 b o q z x1,a0,x3⟩
theorem Ch (I:aR C P) (hx:iJ C P ls e c .none):∃ oe,cj P (P.note P.h P.s.toks e oe)/\aR C (P.note P.h P.s.toks e oe)/\RD C (hR P.own e (.fz oe)) (.exc c) (.ref e):=by
 refine bu fun G9 k9=> ?_;obtain ⟨B,k1,k2,k3,k4,k5,a0,oe,vs,T,oT,ts,he,hc,hd,_⟩:=hx;refine k9 ?_;have n1:P.own e= .no:=by
  have key:¬kept (P.own e):=fun q=>by rw[k5 e oe q he] at k2;cases k2
  cases q:P.own e with
  |no=>rfl
  |fr=>
   obtain ⟨f,hf,hm⟩:=I.fr.all e q;rcases Sm.mp hm with r|r
   .obtain ⟨o',es,ep,h1,h2,_⟩:=(I.fr.ns f hf).1;rw[<-r,he] at h1;cases h1;rw[hd] at h2;cases h2
   .obtain ⟨o',h1,h2⟩:=(I.fr.cl f hf e r).1;rw[he] at h1;cases h1;rw[hd] at h2;cases h2
  |fz o=>rw[q] at key;exact absurd trivial key
  |cell n j=>rw[q] at key;exact absurd trivial key
  |gh=>rw[q] at key;exact absurd trivial key
 have n3:C.H.get? e=none:=by
  cases q:C.H.get? e with
  |none=>rfl
  |some o=>rw[k4 e o q] at k2;cases k2
 exact ⟨oe,.note n1,I.note ⟨fun _ _ q=>q,n1,n3,he⟩,.exc vs (cc _ _ _) hc.1 hd⟩
end
noncomputable def z9:Option (Out×aE)->Option (Out×aE)
 |some (.ret v,σ)=>some (.ret v,σ)
 |_=>none
def rK (K:Out->aE->Prop):Out->aE->Prop
 | .ret v,σ=>K (.ret v) σ
 |_,_=>False
theorem CZ {K:Out->aE->Prop}:∀ {z:Option (Out×aE)},jw K (z9 z)->jw (rK K) z
 |none,h=>h
 |some (.next _,_),h=>h
 |some (.ret _,_),h=>h
 |some (.ex _ _,_),h=>h
structure CH where
 ex:c9->Nat->bj->aE->Option (Out×aE)
 is:Sx->List ExceptHandler->Bool
 ok:∀ (X:SX) (hs:List ExceptHandler) (e:Addr) (c:Nat) (ρ:bj) (P:Pt) (K:Out->aE->Prop) (Q:Flow->Shared->Prop) (E:Value->Shared->Prop),is X.sx hs=true->c<nX->aR X.C P->iJ X.C P (X.env::X.outer) e c .none->cV X P ρ->jw K (ex X.ker c ρ P.σ)->dc X P K Q E->wpAny X.M X.A (handleBy (.ref e) X.env hs) Q E P.s
noncomputable def hN:CH:=⟨fun _ _ _ _=>none,fun _ _=>true,fun _ _ _ _ _ _ _ _ _ _ _ _ _ _ w=>w.elim⟩
noncomputable def QQ (f:Option Expr->Option Str->List Stmt->Bool):ExceptHandler->Bool
 | .ExceptHandler t y b _=>f t y b
theorem EF (q:ExceptHandler->Prop) {f:Option Expr->Option Str->List Stmt->Bool}:∀ {h:ExceptHandler},QQ f h=true->(∀ t y b pos,f t y b=true->q (.ExceptHandler t y b pos))->q h
 | .ExceptHandler t y b pos,h,k=>k t y b pos h
noncomputable def uT (s:Sx) (c':Nat) (t:Option Expr):Bool:=Hh (dB fun n _=>n==jc c'&&decide (c'<nX)&&fo s.sc n) t
section
variable {X:SX} {hs:List ExceptHandler} {e:Addr} {K:Out->aE->Prop} {Q:Flow->Shared->Prop}
theorem Fu {c':Nat} {t:Option Expr} {y:Option Str} {be:List Stmt} {pos:Pos} (h:uT X.sx c' t=true) (h17:c<nX) (I:aR X.C P) (L:iJ X.C P (X.env::X.outer) e c .none)
  (k1:(c==c'||c'==0)=true->codeAny X.M (X.A.mark (some (.ref e))) (.handlers (.ref e) [.ExceptHandler none y be pos] X.env) (fun r s₂=>match r with
     | .ok f=>(match y with
      |none=>Q f s₂
      |some n=>wpAny X.M X.A (do bindName X.env n .none;unbindBehindTheSuite X.env n pos) (fun _ s₃=>Q f s₃) E s₂)
     | .error x=>cameBackBy X.M X.A X.env E x s₂) P.s)
  (k2:(c==c'||c'==0)=false->wpAny X.M X.A (handleBy (.ref e) X.env hs) Q E P.s):wpAny X.M X.A (handleBy (.ref e) X.env (.ExceptHandler t y be pos::hs)) Q E P.s:=by
 refine iu (fun t=>wpAny X.M X.A (handleBy (.ref e) X.env (.ExceptHandler t y be pos::hs)) Q E P.s) h fun t h=> ?_;refine cJ (fun t=>wpAny X.M X.A (handleBy (.ref e) X.env (.ExceptHandler (some t) y be pos::hs)) Q E P.s) h fun n np h=> ?_;have h0:=bN (ah (ah h));subst h0;have hc':=S6 (aq (ah h));have XX:=X.good.cls.X.keeps fun b o e=>(I.base b o e).1;refine wpAny_handleBy_cons (codeAny_handlers_test (eC (X:=(X.up (some (.ref e))).toCx) I (aq h) (X.good.exc c' hc').bound ?_)) (fun q=>by cases q);have LT:PySem.W.Looks X.M P.h (typeOf (.ref e)) (.ref (X.C.exc c)):=by
  refine bu fun G9 k9=> ?_;obtain ⟨B,k1,k2,k3,k4,k5,a0,oe,vs,T,oT,ts,he,hc,hd,_⟩:=L;refine k9 ?_;exact hc.1 ▸ (PySem.W.Looks.ld he).andThen .now
 refine (PySem.W.exm_one XX LT (X.good.exm c h17 c' hc')).here ?_;cases hm:(c==c'||c'==0) with
 |true=>exact k1 hm
 |false=>exact k2 hm
theorem cV.up (G:cV X P ρ) (v:Option Value):cV (X.up v) P ρ:=⟨⟨G.frs,G.ne,G.var⟩,G.hd⟩
noncomputable def QP (b:Bool) (x y:Option (Out×aE)):Option (Out×aE):=match b with
 |true=>x
 |false=>y
theorem MP (c' i:Nat) (b:CS) (r:CH) (h:kY (QQ fun t y be=>uT X.sx c' t&&Hh (fun y=>X.sx.Γ.lookup y==some i&&X.sx.sc.names.lookup y==some .local) y&& !be.isEmpty&&b.is X.sx be) (r.is X.sx) hs=true) (h17:c<nX) (I:aR X.C P) (L:iJ X.C P (X.env::X.outer) e c .none) (G:cV X P ρ)
  (w:jw K (QP (c==c'||c'==0) (z9 (b.ex X.ker.up (ρ.set i (some (.d (.exc c)))) P.σ)) (r.ex X.ker c ρ P.σ))) (p:dc X P K Q E):wpAny X.M X.A (handleBy (.ref e) X.env hs) Q E P.s:=by
 refine cK (fun hs=>wpAny X.M X.A (handleBy (.ref e) X.env hs) Q E P.s) h fun hn hs h1 h2=> ?_;refine EF (fun hn=>wpAny X.M X.A (handleBy (.ref e) X.env (hn::hs)) Q E P.s) h1 fun t y be pos h=> ?_;refine iu (fun y=>wpAny X.M X.A (handleBy (.ref e) X.env (.ExceptHandler t y be pos::hs)) Q E P.s) (aq (ah (ah h))) fun y hy=> ?_;refine Fu (ah (ah (ah h))) h17 I L (fun q=> ?_) fun q=>r.ok X hs e c ρ P K Q E h2 h17 I L G (by rw[q] at w;exact w) p;rw[q] at w;cases be with
 |nil=>cases aq (ah h)
 |cons b0 bt=>
 refine codeAny_handlers_suite_as (wN I L fun h1 I1 L1=> ?_);have g1:=cj.to P h1 P.s.toks;obtain ⟨oe,g2,I2,r2⟩:=Ch I1 L1;have G2:=(G.ext g1).ext g2;have hl:X.sc.names.lookup y=some .local:=bN (aq hy);have hb2:fY X.sc y=true:=by unfold fY;rw[hl];rfl
 refine jB (X:=X.up (some (.ref e))) (p:=.d (.exc c)) (bN (ah hy)) hb2 I2 (G2.up _) r2 fun P3 g3 I3 G3 e3=> ?_;refine b.ok (X.up (some (.ref e))) _ _ P3 (rK K) _ _ (aq h) I3 G3 (by rw[e3];exact CZ w) ⟨fun ρ' P' g I' G' k=>k.elim,fun q v P' g I' r k=> ?_,fun c ρ' e P' g I' x G' k=>k.elim⟩;have gs:=(((G.gs g1).grow g2).trans g3).trans g;refine bu fun G9 k9=> ?_;obtain ⟨f,fr,hf,hL,hcs⟩:=G.hd;refine k9 ?_;have hlk:=gs.fs;rw[hf] at hlk;obtain ⟨f2,fr2,hf2,lk⟩:∃ f2 r2,P'.fs=f2::r2/\f.like f2:=by
  generalize P'.fs=z at hlk;obtain ⟨lk⟩:=hlk;exact ⟨_,_,rfl,lk⟩
 have hm:f2∈P'.fs:=by rw[hf2];exact .head _
 have hloc:X.env.locals=f2.L:=X.loc.trans (hL.symm.trans lk.1.symm);have hns:=(I'.fr.ns f2 hm).1;rw[<-hloc] at hns;rw[X.scE] at hl;refine wpAny_nameGoes hl hns (by rw[X.kind];rfl) fun h' m' hn' hs'=> ?_;have J:=I'.frame (t:=P'.s.toks+1) (g:={f2 with m:=m'}) hf2 ⟨rfl,rfl⟩ (a:=f2.L) (.head _) (fun b o e h=>hs'.extBut b o (by rw[hloc];exact e) h) (by rw[hloc] at hn';exact hn') fun c hc=>(I'.fr.cl f2 hm c hc).1.sameBut hs' (by rw[hloc];exact Nat.ne_of_gt (I'.fr.cl f2 hm c hc).2.2);refine p.ret q v {P'.to h' (P'.s.toks+1) with fs:={f2 with m:=m'}::fr2} (gs.trans ⟨⟨⟨h',P'.s.toks+1,rfl⟩,rfl,fun _ _ e=>e,fun _ _ e=>e,fun _ _ _ _ e=>e⟩,by rw[hf2];exact .mk ⟨rfl,rfl⟩⟩) J ?_ k;cases q with
 |d x=>exact r
 |p n j=>exact r
end
noncomputable def hA (c' i:Nat) (b:CS) (r:CH):CH:=⟨fun K c ρ σ=>QP (c==c'||c'==0) (z9 (b.ex K.up (ρ.set i (some (.d (.exc c)))) σ)) (r.ex K c ρ σ),fun s=>kY (QQ fun t y be=>uT s c' t&&Hh (fun y=>s.Γ.lookup y==some i&&s.sc.names.lookup y==some .local) y&& !be.isEmpty&&b.is s be) (r.is s),fun _ _ _ _ _ _ _ _ _ h h17 I L G w p=>MP c' i b r h h17 I L G w p⟩
noncomputable def Je (h:CH) (K:c9):Option (Out×aE)->Option (Out×aE)
 |some (.ex c ρ,σ)=>if c<nX then h.ex K c ρ σ else none
 |z=>z
def LK (K:Out->aE->Prop) (h:CH) (k:c9):Out->aE->Prop
 | .ex c ρ,σ=>c<nX/\jw K (h.ex k c ρ σ)
 |o,σ=>K o σ
theorem IZ {K:Out->aE->Prop} {h:CH} {k:c9}:∀ {z:Option (Out×aE)},jw K (Je h k z)->jw (LK K h k) z
 |none,w=>w
 |some (.next _,_),w=>w
 |some (.ret _,_),w=>w
 |some (.ex c ρ,σ),w=>by
  have w:jw K (if c<nX then h.ex k c ρ σ else none):=w;by_cases q:c<nX
  .rw[if_pos q] at w;exact ⟨q,w⟩
  .rw[if_neg q] at w;exact w.elim
noncomputable def zU (b:CS) (h:CH) (K:c9) (ρ:bj) (σ:aE):Option (Out×aE):=match K.hd with
 |true=>none
 |false=>Je h K (b.ex K ρ σ)
theorem Jd (b:CS) (h:CH) {X:SX} {st:Stmt} {ρ:bj} {P:Pt} {K:Out->aE->Prop} {Q:Flow->Shared->Prop} {E:Value->Shared->Prop} (hE:An (fun be he el fin _=>el.isEmpty&&fin.isEmpty&& !he.isEmpty&&b.is X.sx be&&h.is X.sx he) st=true) (I:aR X.C P) (G:cV X P ρ)
  (w:jw K (zU b h X.ker ρ P.σ)) (p:dc X P K Q E):wpAny X.M X.A (PySem.exec st X.env) Q E P.s:=by
 refine yI (fun st=>wpAny X.M X.A (PySem.exec st X.env) Q E P.s) hE fun be he el fin pos h0=> ?_;refine bY (fun el=>wpAny X.M X.A (PySem.exec (.Try be he el fin pos) X.env) Q E P.s) (ah (ah (ah (ah h0)))) ?_;refine bY (fun fin=>wpAny X.M X.A (PySem.exec (.Try be he [] fin pos) X.env) Q E P.s) (aq (ah (ah (ah h0)))) ?_;cases hd:X.hd with
 |true=>unfold zU at w;rw[show X.ker.hd=true from hd] at w;exact w.elim
 |false=>
 unfold zU at w;rw[show X.ker.hd=false from hd] at w;cases he with
 |nil=>cases aq (ah (ah h0))
 |cons h₀ hs=>
 refine wpAny_Try_except (b.ok X be ρ P (LK K h X.ker) _ _ (aq (ah h0)) I G (IZ w) ⟨fun ρ' P' g I' G' k=>wpAny_execs_nil (p.next ρ' P' g I' G' k),p.ret,fun c ρ' e P' g I' x G' k=> ?_⟩);obtain ⟨h1,h2⟩:=x;rw[X.fr] at h1;cases h1;refine ry X.fr X.frame I' h2 fun h1 I1 x1=> ?_;refine wN I1 x1 fun h2 I2 L2=> ?_;have g2:=(cj.to P' h1 P'.s.toks).trans (.to _ h2 P'.s.toks);exact h.ok X _ _ c ρ' ((P'.to h1 P'.s.toks).to h2 P'.s.toks) K Q E (aq h0) k.1 I2 L2 (G'.ext g2) k.2 (p.mono (g.grow g2))
noncomputable def Jp (b:CS) (h:CH):C1:=⟨zU b h,fun s=>An fun be he el fin _=>el.isEmpty&&fin.isEmpty&& !he.isEmpty&&b.is s be&&h.is s he,fun _ _ _ _ _ _ _ hE I G w p=>Jd b h hE I G w p⟩
noncomputable def uy (L:Addr) (n:Nat) (m:Option Nat) (a:Addr):dt->dt
 | .fr=>if L<=a then .no else .fr
 | .cell k j=>if k<n then .cell k j else if m=some k then .cell n j else .no
 |x=>x
section
variable {m:Option Nat}
theorem Ef (x:dt):uy L n m a x= .no∨(uy L n m a x=x/\(x= .fr->a<L)/\∀ k j,x= .cell k j->k<n)∨∃ k j,x= .cell k j/\n<=k/\m=some k/\uy L n m a x= .cell n j:=by
 cases x with
 |no=>exact .inl rfl
 |fz o=>exact .inr (.inl ⟨rfl,dt.noConfusion,fun _ _=>dt.noConfusion⟩)
 |gh=>exact .inr (.inl ⟨rfl,dt.noConfusion,fun _ _=>dt.noConfusion⟩)
 |fr=>
  by_cases q:L<=a
  .exact .inl (if_pos q)
  .exact .inr (.inl ⟨if_neg q,fun _=>Nat.lt_of_not_le q,fun _ _=>dt.noConfusion⟩)
 |cell k j=>
  by_cases q:k<n
  .exact .inr (.inl ⟨if_pos q,dt.noConfusion,fun k' j' e=>by cases e;exact q⟩)
  .by_cases z:m=some k
   .exact .inr (.inr ⟨k,j,rfl,Nat.le_of_not_lt q,z,(if_neg q).trans (if_pos z)⟩)
   .exact .inl ((if_neg q).trans (if_neg z))
theorem IG {x y:dt} (h:uy L n m a x=y) (hy:y≠ .no) (hc:∀ j,y≠ .cell n j):x=y/\(x= .fr->a<L)/\∀ k j,x= .cell k j->k<n:=by
 rcases Ef (L:=L) (a:=a) (n:=n) (m:=m) x with q|⟨q,z⟩|⟨k,j,_,_,_,q⟩
 .exact absurd (h.symm.trans q) hy
 .exact ⟨q.symm.trans h,z⟩
 .exact absurd (h.symm.trans q) (hc j)
theorem kM {x:dt} (h:uy L n m a x= .cell k j):(x= .cell k j/\k<n)∨(k=n/\∃ k',m=some k'/\n<=k'/\x= .cell k' j):=by
 rcases Ef (L:=L) (a:=a) (n:=n) (m:=m) x with q|⟨q,_,z⟩|⟨k',j',e,le,em,q⟩
 .cases h.symm.trans q
 .have e:=q.symm.trans h;exact .inl ⟨e,z k j e⟩
 .cases h.symm.trans q;exact .inr ⟨rfl,k',em,le,e⟩
theorem G_ {x:dt} (h:kept (uy L n m a x)):kept x:=by
 rcases Ef (L:=L) (a:=a) (n:=n) (m:=m) x with q|⟨q,_⟩|⟨k',j',e,_⟩
 .rw[q] at h;exact h.elim
 .rw[q] at h;exact h
 .rw[e];trivial
end
section
variable {m:Option Nat} {tl:aE}
noncomputable def Pt.leave (P:Pt) (L:Addr) (n:Nat) (m:Option Nat) (tl:aE) (fs:List Fm):Pt:={P with fs:=fs,own:=fun a=>uy L n m a (P.own a),σ:=P.σ.take n++tl}
theorem my {l t:List α} (h:k<n) (hn:n<=l.length):(l.take n++t)[k]? =l[k]? :=by
 rw[S_ (by rw[List.length_take,Nat.min_eq_left hn];exact h),List.getElem?_take_of_lt h]
theorem zQ {l:List α} {x:α} (hn:n<=l.length):(l.take n++[x])[n]? =some x:=by
 have e:(l.take n).length=n:=by rw[List.length_take,Nat.min_eq_left hn]
 rw[SK (Td e),e,Nat.sub_self];rfl
def Nu (σ:aE) (n:Nat) (m:Option Nat) (tl:aE):Prop:=(m=none/\tl=[])∨∃ k o,m=some k/\n<=k/\σ[k]? =some o/\tl=[o]
theorem Es (hn:n<=σ.length) (h:Nu σ n m tl) {o:PO} (e:(σ.take n++tl)[k]? =some o):(k<n/\σ[k]? =some o)∨(k=n/\∃ k',m=some k'/\n<=k'/\σ[k']? =some o):=by
 rcases Nat.lt_or_ge k n with q|q
 .rw[my q hn] at e;exact .inl ⟨q,e⟩
 .have el:(σ.take n).length=n:=by rw[List.length_take,Nat.min_eq_left hn]
  rw[SK (by rw[el];exact q),el] at e;rcases h with ⟨_,z⟩|⟨k',o',z1,z2,z3,z4⟩
  .rw[z] at e;cases e
  .rw[z4] at e;cases hk:k - n with
   |succ x=>rw[hk] at e;cases e
   |zero=>
    rw[hk] at e;cases e;exact .inr ⟨by exact Nat.le_antisymm (Nat.sub_eq_zero_iff_le.mp hk) q,k',z1,z2,z3⟩
theorem aR.leave (I:aR C P) (hf:P.fs=g::fs) (hn:n<=P.σ.length) (ht:Nu P.σ n m tl):aR C (P.leave g.L n m tl fs):=by
 have ord:=I.fr.ord;rw[hf] at ord;obtain ⟨o1,o2⟩:=List.pairwise_cons.mp ord;have lt:∀ k∈fs,∀ b∈k.adr,uy g.L n m b .fr= .fr:=fun k hk b hb=>if_neg (Nat.not_le.mpr (o1 k hk b hb));have fz:Fz P.own (P.leave g.L n m tl fs).own:=fun b o e=>by show uy g.L n m b (P.own b)=_;rw[e];rfl
 refine ⟨fun b o e=>⟨(I.base b o e).1,?_⟩,fun b o e=>I.fz b o (IG e dt.noConfusion fun _=>dt.noConfusion).1,fun b e=>I.live b fun q=>e ?_,⟨fun f h=> ?_,fun f h c hc=> ?_,o2,fun b e=> ?_⟩,I.gh.mv fz fun b o e q=>⟨?_,q⟩,fun a b k j e f=> ?_,fun a k j e=> ?_,fun k o e=> ?_⟩
 .show uy g.L n m b (P.own b)=_;rw[(I.base b o e).2];rfl
 .show uy g.L n m b (P.own b)=_;rw[q];rfl
 .obtain ⟨x,y,z⟩:=I.fr.ns f (by rw[hf];exact .tail _ h);exact ⟨x,by show uy g.L n m f.L (P.own f.L)=_;rw[y];exact lt f h _ (.head _),z⟩
 .obtain ⟨x,y,z⟩:=I.fr.cl f (by rw[hf];exact .tail _ h) c hc;exact ⟨x,by show uy g.L n m c (P.own c)=_;rw[y];exact lt f h _ (.tail _ hc),z⟩
 .obtain ⟨x,y,_⟩:=IG e dt.noConfusion fun _=>dt.noConfusion;obtain ⟨f,h,z⟩:=I.fr.all b x;rw[hf] at h;rcases Sm.mp h with q|q
  .subst q;have lb:=y x;rcases Sm.mp z with z|z
   .rw[z] at lb;exact absurd lb (S7 _)
   .exact absurd (Tj lb (I.fr.cl f (by rw[hf];exact .head _) b z).2.2) (S7 _)
  .exact ⟨f,q,z⟩
 .show uy g.L n m b (P.own b)=_;rw[e];rfl
 .rcases kM e with ⟨e1,e2⟩|⟨e1,k1,e2,e3,e4⟩<;>rcases kM f with ⟨f1,f2⟩|⟨f1,k2,f2,f3,f4⟩
  .exact I.one a b k j e1 f1
  .exact absurd f1 (Nat.ne_of_lt e2)
  .exact absurd e1 (Nat.ne_of_lt f2)
  .rw[e2] at f2;cases f2;exact I.one a b k1 j e4 f4
 .rcases kM e with ⟨e1,e2⟩|⟨e1,k1,e2,e3,e4⟩
  .obtain ⟨o,h1,h2⟩:=I.bd a k j e1;exact ⟨o,by show (P.σ.take n++tl)[k]? =_;rw[my e2 hn];exact h1,h2⟩
  .obtain ⟨o,h1,h2⟩:=I.bd a k1 j e4;rcases ht with ⟨z,_⟩|⟨k',o',z1,z2,z3,z4⟩
   .rw[z] at e2;cases e2
   .rw[z1] at e2;cases e2;rw[h1] at z3;cases z3;exact ⟨o,by show (P.σ.take n++tl)[k]? =_;rw[e1,z4];exact zQ hn,h2⟩
 .rcases Es hn ht e with ⟨e1,e2⟩|⟨e1,k',e2,e3,e4⟩
  .exact (I.obj k o e2).mv fz fun b j o e q=>⟨by show uy g.L n m b (P.own b)=_;rw[e];exact if_pos e1,q⟩
  .subst e1;exact (I.obj k' o e4).mv fz fun b j o e q=>⟨by show uy g.L k m b (P.own b)=_;rw[e];exact (if_neg (To.mpr e3)).trans (if_pos e2),q⟩
theorem cj.leave (x:Ext P₀ P) (hn:P₀.σ.length<=P.σ.length):cj P₀ (P.leave L P₀.σ.length m tl P₀.fs):=by
 refine ⟨⟨x.sm,x.G,fun b o e=>by show uy L _ m b (P.own b)=_;rw[x.fz b o e];rfl,fun k j v=> ?_,fun k j a v e=> ?_⟩,rfl⟩
 .obtain ⟨o,h1,h2⟩:=x.val k j v;exact ⟨o,by show (P.σ.take _++tl)[k]? =_;rw[my v.lt hn];exact h1,h2⟩
 .rcases kM e with ⟨e1,_⟩|⟨e1,_⟩
  .exact x.cell k j a v e1
  .exact absurd v.lt (by rw[e1];exact S7 _)
theorem Ext.len (x:Ext P₀ P):P₀.σ.length<=P.σ.length:=by
 cases h:P₀.σ.length with
 |zero=>exact SQ _
 |succ k=>
  have hk:k<P₀.σ.length:=by rw[h];exact Nat.lt_succ_self k
  have v:∃ j,d8 P₀.σ k j:=by
   cases q:P₀.σ[k] with
   |fld f=>exact ⟨0,_,Sp hk,by rw[q];rfl⟩
   |rcd b l=>exact ⟨0,_,Sp hk,by rw[q];exact Nat.succ_pos _⟩
   |dead=>exact ⟨0,_,Sp hk,by rw[q];trivial⟩
   |wrp f=>exact ⟨0,_,Sp hk,by rw[q];exact Nat.zero_lt_succ _⟩
  obtain ⟨j,v⟩:=v;exact (x.val k j v).lt
theorem sL.leave {e:Addr} (hA:A.frames=some ls):tI C P ls e c->sL C A (P.leave L n m tl fs) c (.ref e):=fun h=>by
 obtain ⟨B,k1,k2,k3,k4,k5,k6⟩:=h;exact .mk hA ⟨B,k1,k2,k3,k4,fun b o q=>k5 b o (G_ q),k6⟩
def eK (K:R PV->aE->Prop) (keep:Bool) (n:Nat):Out->aE->Prop
 | .next _,σ=>K (.ok (.d .none)) (σ.take n)
 | .ret v,σ=>Wp K (Jv keep n v σ)
 | .ex c _,σ=>K (.ex c) (σ.take n)
theorem I_:∀ {z:Option (Out×aE)},Wp K (E5 keep n z)->jw (eK K keep n) z
 |none,h=>h
 |some (.next _,_),h=>h
 |some (.ret _,_),h=>h
 |some (.ex _ _,_),h=>h
theorem DE {o:PO} (w:Wp K (Br keep n σ j (some o))):j=0/\(Wp K (some (.ok (.p n 0),σ.take n++[o]))∨∃ f,o= .fld f/\((∃ z,f= .d z)∨∃ z,f.rd=some z/\Wp K (some (.ok (.d z),σ.take n)))):=by
 cases j with
 |succ _=>exact w.elim
 |zero=>
 refine ⟨rfl,?_⟩;cases o with
 |fld f=>
  cases keep with
  |true=>exact .inl w
  |false=>
   refine .inr ⟨f,rfl,?_⟩;cases f with
   |d z=>exact .inl ⟨z,rfl⟩
   |list l=>exact .inr ⟨_,rfl,w⟩
   |dict a b=>exact .inr ⟨_,rfl,w⟩
 |rcd b l=>cases keep<;>exact .inl w
 |dead=>cases keep<;>exact .inl w
 |wrp f=>cases keep<;>exact .inl w
theorem DD (I:aR C P) (x:Ext P₀ P) (hf:P.fs=g::P₀.fs) (r:RV C P v p) (w:Wp K (Jv keep P₀.σ.length p P.σ)) (k:∀ p P',cj P₀ P'->aR C P'->RV C P' v p->K (.ok p) P'.σ->Q v P'.s):Q v P.s:=by
 have hn:=x.len;have nil:∀ σ:aE,σ.take P₀.σ.length++[]=σ.take P₀.σ.length:=fun σ=>List.append_nil _;cases p with
 |d z=>exact k (.d z) (P.leave g.L P₀.σ.length none [] P₀.fs) (.leave x hn) (I.leave hf hn (.inl ⟨rfl,rfl⟩)) (RD.ext (fun b o e=>by show uy g.L _ none b (P.own b)=_;rw[e];rfl) r) (by show K _ (P.σ.take _++[]);rw[nil];exact w)
 |p m j=>
  by_cases q:m<P₀.σ.length
  .have w:Wp K (if m<P₀.σ.length then some (.ok (.p m j),P.σ.take P₀.σ.length) else _):=w;rw[if_pos q] at w;refine k (.p m j) (P.leave g.L P₀.σ.length none [] P₀.fs) (.leave x hn) (I.leave hf hn (.inl ⟨rfl,rfl⟩)) ⟨?_,fun a e=> ?_⟩ (by show K _ (P.σ.take _++[]);rw[nil];exact w)
   .obtain ⟨o,h1,h2⟩:=r.1;exact ⟨o,by show (P.σ.take _++[])[m]? =_;rw[my q hn];exact h1,h2⟩
   .rcases kM e with ⟨e1,_⟩|⟨e1,_⟩
    .exact r.2 a e1
    .omega
  .have q:=Nat.le_of_not_lt q;have w:Wp K (if m<P₀.σ.length then some (.ok (.p m j),P.σ.take P₀.σ.length) else Br keep P₀.σ.length P.σ j P.σ[m]?):=w;rw[if_neg (To.mpr q)] at w;obtain ⟨o,h1,h2⟩:=r.1;rw[h1] at w;obtain ⟨j0,w2|⟨f,e1,⟨z,e2⟩|⟨z,e2,w2⟩⟩⟩:=DE w
   .subst j0;refine k (.p P₀.σ.length 0) (P.leave g.L P₀.σ.length (some m) [o] P₀.fs) (.leave x hn) (I.leave hf hn (.inr ⟨m,o,rfl,q,h1,rfl⟩)) ⟨⟨o,zQ hn,h2⟩,fun a e=> ?_⟩ w2;rcases kM e with ⟨_,e1⟩|⟨_,k',e1,_,e2⟩
    .exact absurd e1 (S7 _)
    .cases e1;exact r.2 a e2
   .rw[e1,e2] at h1;obtain ⟨_,_,_,h⟩:∃ v,kE C P.own P.h m 0 (.d z) v:=I.obj m _ h1;exact h.elim
   .subst e1;subst j0;have e4:yL (.p m 0) P.σ=some (.d z,P.σ.set m .dead):=by
     show (((P.σ[m]?).bind fun o=>o.at 0).bind fun f=>f.rd.map fun x=>(PV.d x,P.σ.set m PO.dead))=_;rw[h1];show (f.rd.map fun x=>(PV.d x,P.σ.set m PO.dead))=_;rw[e2];rfl
    obtain ⟨P',g',I',e5,e6,kk⟩:=EE I e4;have x':=x.trans g'.toExt;rw[<-e6];refine k (.d z) (P'.leave g.L P₀.σ.length none [] P₀.fs) (.leave x' x'.len) (I'.leave (g'.fs.trans hf) x'.len (.inl ⟨rfl,rfl⟩)) (RD.ext (fun b o e=>by show uy g.L _ none b (P'.own b)=_;rw[e];rfl) (kk v r)) ?_;show K _ (P'.σ.take _++[]);rw[nil,e5,List.take_set_of_le q];exact w2
end
theorem jn {α:Type}:∀ {ns:List Str} {vs:List α} {n:Str},n∈ns->ns.length=vs.length->((ns.zip vs).lookup n).isSome=true
 |[],_,_,h,_=>nomatch h
 |a::r,[],_,_,h=>by simp at h
 |a::r,v::vs,n,h,hl=>by
  rw[List.zip_cons_cons,List.lookup_cons];cases e:n==a with
  |true=>rfl
  |false=>
   refine jn ?_ (by simpa using hl);rcases Sm.mp h with q|q
   .subst q;simp at e
   .exact q
theorem nO {f g:α->Option β}:∀ {l:List α},(∀ x∈l,f x=g x)->l.filterMap f=l.filterMap g:=by
 intro l
 induction l with
 |nil=>
  intro _;exact rfl
 |cons a r ih=>
  intro h;rw[List.filterMap_cons,List.filterMap_cons,h a (.head _),ih fun x hx=>h x (.tail _ hx)]
theorem lz {α:Type}:∀ {ns:List Str} {vs:List α},ns.Nodup->ns.length=vs.length->ns.filterMap (fun n=>((ns.zip vs).lookup n).map (n,·))=ns.zip vs
 |[],_,_,_=>by simp
 |a::r,[],_,h=>by simp at h
 |a::r,v::vs,hn,hl=>by
  rw[List.filterMap_cons];have h0:(((a::r).zip (v::vs)).lookup a).map (a,·)=some (a,v):=by simp [List.lookup_cons]
  rw[h0];simp only [List.zip_cons_cons];congr 1;rw[nO (g:=fun n=>((r.zip vs).lookup n).map (n,·)) fun n hnr=> ?_]
  .exact lz (S9.mp hn).2 (by simpa using hl)
  .rw[List.lookup_cons];have:(n==a)=false:=beq_eq_false_iff_ne.mpr fun e=>(S9.mp hn).1 (e ▸ hnr);rw[this]
theorem QS {γ:Type} {l:List α} {b:β} {f:α->β->Sem (ForInStep β)} {g:β->Sem γ} (h:l=[]):(forIn l b f>>=g)=g b:=by subst h;rfl
theorem uZ {fd:FuncData} {vals:List Value} {names:List Str} (h1:fd.params.posonlyargs=[]) (h2:fd.params.kwonlyargs=[]) (h3:fd.params.vararg=none) (h4:fd.params.kwarg=none) (h5:fd.params.args.map (·.arg)=names)
  (h6:fd.defaults= .none) (hl:names.length=vals.length) (hn:names.Nodup):bindArgs fd ⟨vals,[]⟩=pure (names.zip vals):=by
 obtain ⟨f1,f2,⟨p1,p2,p3,p4,p5,p6,p7⟩,f4,f5,f6,f7,f8,f9,f10,f11,f12,f13,f14,f15⟩:=fd;dsimp only at h1 h2 h3 h4 h5 h6;subst h1 h2 h3 h4 h5 h6;have hm:((p2.map (·.arg)).take ((p2.map (·.arg)).length - ([]:List Value).length)).filter (fun n=>(((p2.map (·.arg)).zip vals).lookup n).isNone)=[]:=by
  rw[Te,Nat.sub_zero,List.take_length];refine List.filter_eq_nil_iff.mpr fun n hnm=> ?_;have:=jn hnm hl;cases e:((p2.map (·.arg)).zip vals).lookup n with
  |none=>rw[e] at this;cases this
  |some=>exact SL
 have hd:([]:List Value).drop (([]:List Value).length - (p2.map (·.arg)).length)=[]:=List.drop_nil;refine (if_neg ?_).trans ?_
 .show¬(decide (vals.length>(p2.map (·.arg)).length)&&true)=true;rw[hl,Tf (S7 _)];exact SL
 refine (if_neg ?_).trans ?_
 .show¬(!(((p2.map (·.arg)).take ((p2.map (·.arg)).length - (([]:List Value).drop (([]:List Value).length - (p2.map (·.arg)).length)).length)).filter fun n=>(((p2.map (·.arg)).zip vals).lookup n).isNone).isEmpty)=true;rw[hd,hm];exact SL
 refine (QS ?_).trans ?_
 .show ((p2.map (·.arg)).drop _).zip (([]:List Value).drop (([]:List Value).length - (p2.map (·.arg)).length))=[];rw[hd,List.zip_nil_right]
 show (pure (((p2.map (fun x:Arg=>x.arg))++[]).filterMap fun n=>(((p2.map (fun x:Arg=>x.arg)).zip vals).lookup n).map (n,·)):Sem _)=_;rw[List.append_nil,lz hn hl]
theorem vT [BEq α] [LawfulBEq α]:∀ {l:List α},qf l=true->l.Nodup:=by
 intro l
 induction l with
 |nil=>
  intro _;exact Tb
 |cons a r ih=>
  intro h;have h:(!r.contains a&&qf r)=true:=h;simp only [Bool.and_eq_true,Bool.not_eq_true'] at h;exact S9.mpr ⟨fun q=>by rw[List.contains_iff_mem.mpr q] at h;exact absurd h.1 (by simp),ih h.2⟩
theorem EC:∀ {Γ:FY},(Γ.map (·.2)).Nodup->RJ Γ
 |[],_=>fun x y i h=>by cases h
 |(a,j)::r,hn=>fun x y i h1 h2=>by
  have ih:=EC (S9.mp hn).2;have hj:∀ z,r.lookup z≠some j:=fun z q=>(S9.mp hn).1 (SD.mpr ⟨(z,j),PySem.mem_of_lookup q,rfl⟩);rw[List.lookup_cons] at h1 h2;cases e1:x==a<;>cases e2:y==a<;>rw[e1] at h1<;>rw[e2] at h2
  .exact ih x y i h1 h2
  .cases h2;exact absurd h1 (hj x)
  .cases h1;exact absurd h2 (hj y)
  .rw[beq_iff_eq.mp e1,beq_iff_eq.mp e2]
noncomputable def NM (Γ:FY) (sc:Scope):Nat->List Arg->Bool
 |_,[]=>true
 |k,a::r=>Γ.lookup a.arg==some k&&fY sc a.arg&&NM Γ sc (k+1) r
structure oV where
 id:Nat
 nm:Str
 mth:Bool
 Γ:FY
 params:Nat
 slots:Nat
 keep:Bool
 body:CS
noncomputable def oV.pf (r:oV):PF:=⟨r.params,r.slots,r.keep,r.body.ex⟩
noncomputable def NN (s:Sx) (r:oV) (ps:Arguments) (body:List Stmt):Bool:=
 ps.posonlyargs.isEmpty&&ps.kwonlyargs.isEmpty&&ps.vararg.isNone&&ps.kwarg.isNone&&ps.args.length==r.params&&NM r.Γ s.sc 0 ps.args&&qf (ps.args.map (·.arg))&&
 qf (r.Γ.map (·.2))&&s.sc.kind== .function&& !s.sc.isCoroutine&& !s.sc.isGenerator&&r.body.is s body
noncomputable def Ao (a:Addr):Value->Bool
 | .ref b=>b==a
 |_=>false
theorem Ey (h:Ao a v=true):v= .ref a:=by
 cases v<;>first|exact congrArg Value.ref (bN h)|cases h
noncomputable def B2 (l:Option CY) (cd:Value) (q:Str):Option CY:=l.bind fun z=>if (Ao z.c cd&&(q++".<locals>."++"<lambda>"==z.qual))=true then some z else none
theorem B0 {l:Option CY} {cd:Value} {q:Str} {z:CY} (h:B2 l cd q=some z):l=some z/\cd= .ref z.c/\q++".<locals>."++"<lambda>"=z.qual:=by
 cases l with
 |none=>cases h
 |some y=>
  have h:(if (Ao y.c cd&&(q++".<locals>."++"<lambda>"==y.qual))=true then some y else none)=some z:=h;by_cases k:(Ao y.c cd&&(q++".<locals>."++"<lambda>"==y.qual))=true
  .rw[if_pos k] at h;cases h;exact ⟨rfl,Ey (ah k),bN (aq k)⟩
  .rw[if_neg k] at h;cases h
def Q2 (C:bF) (r:oV) (a:Addr):Prop:=∃ o fd body,C.H.get? a=some o/\o.data= .func fd/\C.H.CodeRec fd.code fd.qualname/\fd.body= .stmts body/\fd.closure=[]/\fd.globals=mainGlobals/\fd.builtins=builtinsNs/\fd.defaults= .none/\
 NN ⟨C.fnm,C.att,C.key,C.gls,fd.scope,r.Γ,B2 C.lam fd.code fd.qualname⟩ r fd.params body=true
def zJ (C:bF):Prop:=∀ f pf,C.T f=some pf->∃ r:oV,pf=r.pf/\Q2 C r (C.fadr f)
theorem tw {kindOf:Str->Option NameKind}:∀ {ns:List Str} {vs:List Value} {m:Str->Option Value} {k:Nat} {x:Str} {v:Value},ns.Nodup->ns[k]? =some x->vs[k]? =some v->kindOf x=some .local->bindL kindOf (ns.zip vs) m x=some v
 |[],_,_,_,_,_,_,h,_,_=>by simp at h
 |a::r,[],_,_,_,_,_,_,h,_=>by simp at h
 |a::r,u::vs,m,k,x,v,hn,h1,h2,hk=>by
  rw[List.zip_cons_cons,bindL];cases k with
  |zero=>
   simp at h1 h2;subst h1;subst h2;rw[if_pos hk];have keep:∀ (l:List (Str×Value)) (m:Str->Option Value),a∉l.map (·.1)->bindL kindOf l m a=m a:=by
    intro l
    induction l with
    |nil=>intro m _;rfl
    |cons p l ih=>
     intro m hm;obtain ⟨n,w⟩:=p;rw[bindL,ih _ fun q=>hm (.tail _ q)];split
     .exact if_neg (fun e:a=n=>hm (by rw[e];exact .head _))
     .rfl
   rw[keep _ _ fun q=>(S9.mp hn).1 (by
    obtain ⟨p,hp,e⟩:=SD.mp q;exact e ▸ (List.of_mem_zip hp).1)]
   simp
  |succ k=>exact tw (S9.mp hn).2 (by simpa using h1) (by simpa using h2) hk
theorem tz {kindOf:Str->Option NameKind}:∀ {ns:List Str} {vs:List Value} {m:Str->Option Value} {k:Nat} {x:Str} {v:Value},ns.Nodup->ns[k]? =some x->vs[k]? =some v->kindOf x=some .cell->bindC kindOf (ns.zip vs) m x=some v
 |[],_,_,_,_,_,_,h,_,_=>by simp at h
 |a::r,[],_,_,_,_,_,_,h,_=>by simp at h
 |a::r,u::vs,m,k,x,v,hn,h1,h2,hk=>by
  rw[List.zip_cons_cons,bindC];cases k with
  |zero=>
   simp at h1 h2;subst h1;subst h2;rw[if_neg (by rw[hk];decide)];have keep:∀ (l:List (Str×Value)) (m:Str->Option Value),a∉l.map (·.1)->bindC kindOf l m a=m a:=by
    intro l
    induction l with
    |nil=>intro m _;rfl
    |cons p l ih=>
     intro m hm;obtain ⟨n,w⟩:=p;rw[bindC,ih _ fun q=>hm (.tail _ q)];split
     .rfl
     .exact if_neg (fun e:a=n=>hm (by rw[e];exact .head _))
   rw[keep _ _ fun q=>(S9.mp hn).1 (by
    obtain ⟨p,hp,e⟩:=SD.mp q;exact e ▸ (List.of_mem_zip hp).1)]
   simp
  |succ k=>exact tz (S9.mp hn).2 (by simpa using h1) (by simpa using h2) hk
theorem Ap {Γ:FY}:∀ {l:List Arg} {k:Nat},NM Γ sc k l=true->∀ j a,l[j]? =some a->Γ.lookup a.arg=some (k+j)/\fY sc a.arg=true:=by
 intro l
 induction l with
 |nil=>
  intro _ _ j a e;simp at e
 |cons b r ih=>
  intro k h j a e;have h:(Γ.lookup b.arg==some k&&fY sc b.arg&&NM Γ sc (k+1) r)=true:=h;simp only [Bool.and_eq_true,beq_iff_eq] at h;cases j with
  |zero=>simp at e;subst e;exact h.1
  |succ j=>
   have:=ih h.2 j a (by simpa using e);rw[show k+1+j=k+(j+1) by exact Mr] at this;exact this
noncomputable def pF (cs:List (Str×Addr)):List Addr:=(cs.filter fun p=>cs.lookup p.1==some p.2).map (·.2)
noncomputable def Fd (cs:List (Str×Addr)) (cm:Str->Option Value) (c:Addr):Option Value:=match cs.find? fun p=>p.2==c with
 |some p=>cm p.1
 |none=>none
theorem wV {cs:List (Str×Addr)} {cm:Str->Option Value} {x:Str} {c:Addr} (hp:cs.Pairwise fun x y=>x.2≠y.2) (h:cs.lookup x=some c):Fd cs cm c=cm x:=by
 have hm:=PySem.mem_of_lookup h;unfold Fd;cases e:cs.find? fun p=>p.2==c with
 |none=>exact absurd (List.find?_eq_none.mp e _ hm) (by simp)
 |some p=>
  have h1:=List.mem_of_find?_eq_some e;have h2:p.2=c:=by simpa using List.find?_some e
  rw[PySem.name_of_addr hp hm (n':=p.1) (by rw[<-h2];exact h1)]
theorem mj.length (h:mj C P ps vs):vs.length=ps.length:=by
 induction h with
 |nil=>rfl
 |cons _ _ ih=>exact congrArg Nat.succ ih
theorem mj.get (h:mj C P ps vs):∀ {k:Nat} {p:PV},ps[k]? =some p->∃ v,vs[k]? =some v/\RV C P v p:=by
 induction h with
 |nil=>exact fun e=>nomatch e
 |cons h _ ih=>
  intro k p e;cases k with
  |zero=>cases e;exact ⟨_,rfl,h⟩
  |succ k=>exact ih (k:=k) e
theorem Cv {d:Nat} (G:gd C) (hF:zJ C) (hS:vf C d):vf C (d+1):=by
 intro hd A P f args vs K Q E hfrs hX hdep huni hhnd I hargs w p;have w:Wp K ((match C.T f with
  |some pf=>Jr ⟨lB C.T d,hd⟩ pf args
  |none=>fun _=>none) P.σ):=w
 cases hT:C.T f with
 |none=>rw[hT] at w;exact w.elim
 |some pf=>
 rw[hT] at w;obtain ⟨rw,hpf,o,fd,body,ho,hdata,hcd,hbody,hclo,hgl,hbl,hdf,hf⟩:=hF f pf hT;subst hpf;simp only [NN,Bool.and_eq_true,beq_iff_eq,List.isEmpty_iff,Option.isNone_iff_eq_none,Bool.not_eq_true'] at hf;obtain ⟨⟨⟨⟨⟨⟨⟨⟨⟨⟨⟨p1,p2⟩,p3⟩,p4⟩,p5⟩,p6⟩,p7⟩,p8⟩,p9⟩,p10⟩,p11⟩,p12⟩:=hf;have w:Wp K (if args.length=rw.params then E5 rw.keep P.σ.length (rw.body.ex ⟨lB C.T d,hd⟩ (args.map some++List.replicate (rw.slots - rw.params) none) P.σ) else none):=w;by_cases hlen:args.length=rw.params
 case neg=>rw[if_neg hlen] at w;exact w.elim
 rw[if_pos hlen] at w;have base:∀ b o,C.H.get? b=some o->P.h.get? b=some o:=fun b o e=>(I.base b o e).1;have hvl:vs.length=args.length:=hargs.length;have hnm:(fd.params.args.map (·.arg)).length=vs.length:=by simp [p5,hvl,hlen]
 have hnd:=vT p7;have hkinds:∀ x∈(fd.params.args.map (·.arg)).zip vs,fd.scope.names.lookup x.1=some .local∨fd.scope.names.lookup x.1=some .cell:=fun x hx=>by
  obtain ⟨a,ha,e⟩:=SD.mp (List.of_mem_zip hx).1;obtain ⟨j,hj⟩:=List.mem_iff_getElem?.mp ha;have:=(Ap p6 j a hj).2;rw[<-e]
  simpa [fY] using this
 refine (codeAny_call_cells (Pj hdep) (base _ _ ho) hdata (G.nolimit.keeps base) (hcd.keeps base) hbody (uZ p1 p2 p3 p4 rfl hdf hnm hnd) hclo ?_ (fun s₁ x=> ?_) p10 p11 p9)
 .intro x hx;rcases hkinds x hx with h|h
  .exact .inl h
  .exact .inr ⟨h,PySem.W.cellsFrom_some _ _ _ (.inl h)⟩
 .generalize henv:callEnvC fd P.h.objs.size (C.fadr f)=env' at x ⊢;have e1:env'.locals=P.h.objs.size:=by rw[<-henv];rfl
  have e2:env'.frame=some P.h.objs.size:=by rw[<-henv];rfl
  have e3:env'.scope=fd.scope:=by rw[<-henv];rfl
  have e4:env'.globals=mainGlobals:=by rw[<-henv,<-hgl];rfl
  have e5:env'.builtins=builtinsNs:=by rw[<-henv,<-hbl];rfl
  have e6:env'.cells=cellsFrom (P.h.objs.size+1) fd.scope.names []:=by rw[<-henv];rfl
  obtain ⟨h₁,t₁,es⟩:=x.toInCall.same;generalize hg:(⟨P.h.objs.size,bindL env'.kindOf ((fd.params.args.map (·.arg)).zip vs) fun _=>none,pF env'.cells,Fd env'.cells (bindC env'.kindOf ((fd.params.args.map (·.arg)).zip vs) fun _=>none)⟩:Fm)=g;have gL:g.L=P.h.objs.size:=by rw[<-hg]
  have gc:g.cells=pF env'.cells:=by rw[<-hg]
  have hcm:∀ c∈pF env'.cells,∃ y,env'.cells.lookup y=some c:=fun c hc=>by
   obtain ⟨p,hp,rfl⟩:=SD.mp hc;exact ⟨p.1,by simpa using (List.mem_filter.mp hp).2⟩
  have hmc:∀ y c,env'.cells.lookup y=some c->c∈pF env'.cells:=fun y c hc=>SD.mpr ⟨(y,c),List.mem_filter.mpr ⟨PySem.mem_of_lookup hc,by simpa using hc⟩,rfl⟩;have abv:∀ c∈g.cells,g.L<c:=fun c hc=>by
   rw[gc] at hc;obtain ⟨y,hy⟩:=hcm c hc;have:=x.above y c (PySem.mem_of_lookup hy);rw[gL,<-e1];exact this
  have eh:s₁.heap=h₁:=by rw[es]
  have J:aR C (P.enter h₁ t₁ g):=by
   refine I.enter hX (by rw[<-eh];exact x.toInCall.keep) (Td gL.symm) (by rw[<-hg,<-eh];rw[e1] at x;exact x.toInCall.ns) fun c hc=>⟨?_,abv c hc⟩;have hc':=hc;rw[gc] at hc';obtain ⟨y,hy⟩:=hcm c hc';rw[<-hg,<-eh];show s₁.heap.IsCell c (Fd _ _ c);rw[wV x.apart hy];exact x.cell y c hy
  have xE:Ext P (P.enter h₁ t₁ g):=.enter I fun b o e q=>by
   have lt:=SU e;rcases Sm.mp q with z|z
   .rw[z,gL] at lt;exact S7 _ lt
   .have:=abv b z;rw[gL] at this;exact S7 _ (Tj lt this)
  obtain ⟨ls,hls,hfr⟩:=hfrs;have hcell:∀ y,env'.kindOf y=some .cell->∃ c,env'.cells.lookup y=some c/\c∈g.cells:=fun y hy=>by
   have hk:fd.scope.names.lookup y=some .cell:=by rw[<-e3];exact hy
   have:=PySem.W.cellsFrom_some (x:=y) fd.scope.names (P.h.objs.size+1) [] (.inl hk);rw[<-e6] at this;obtain ⟨c,hc⟩:=Option.isSome_iff_exists.mp this;exact ⟨c,hc,gc ▸ hmc y c hc⟩
  have hinj:=EC (vT p8);have fr:(A.deeper env').frames=some (env'::ls):=by simp [Around.deeper,hls]
  let X:SX:={C:=C,A:=A.deeper env',env:=env',sc:=env'.scope,Γ:=rw.Γ,d:=d,hd:=hd,good:=G,calls:=hS,kinds:=fun y=>⟨id,fun h=>bN (ah h),fun h=>⟨h,(hcell y h).imp fun _ q=>q.1⟩⟩,kind:=(by rw[e3];exact p9),glob:=e4,blt:=e5,dep:=(by show A.depth+1+8*d+150<recursionLimit;exact Pi hdep),uni:=(by show A.units+3+64*d+1000<cLine;exact Ph huni),hnd:=hhnd,lm:=B2 C.lam fd.code fd.qualname,outer:=ls,L:=g.L,cs:=g.cells,fr:=fr,loc:=(by rw[gL];exact e1),frame:=(by rw[gL];exact e2),cell:=hcell,apart:=fun y z c h1 h2=>PySem.name_of_addr x.apart (PySem.mem_of_lookup h1) (PySem.mem_of_lookup h2),inj:=hinj,scE:=rfl,dep2:=(by show A.depth+1+8*d+151<recursionLimit;exact Pg hdep),uni2:=(by show A.units+3+64*d+1005<cLine;exact Pf huni),lmE:=fun l h=>(by obtain ⟨a,b,c⟩:=B0 h;exact ⟨a,by rw[<-henv];exact b,by rw[<-henv];exact c⟩)}
  have hE:cV X (P.enter h₁ t₁ g) (args.map some++List.replicate (rw.slots - rw.params) none):=by
   refine ⟨⟨⟨env'::ls,fr,fun z hz=> ?_⟩,fun q=>(by cases q),fun y i p hy hm hp=> ?_⟩,⟨g,P.fs,rfl,rfl,rfl⟩⟩
   .rcases Sm.mp hz with q|hz
    .rw[q];exact ⟨by rw[e3,p9];decide,g,.head _,by rw[gL];exact e2⟩
    .obtain ⟨k,q,hq,e⟩:=hfr z hz;exact ⟨k,q,.tail _ hq,e⟩
   have hi:i<args.length:=by
    rcases Nat.lt_or_ge i args.length with h|h
    .exact h
    .rw[SK (by simpa using h)] at hp;obtain ⟨hh,e⟩:=So.mp hp;rw[List.getElem_replicate] at e;cases e
   rw[S_ (by simpa using hi),SE] at hp;obtain ⟨q,hq,e⟩:=Ta.mp hp;cases e;obtain ⟨v,hv,hr⟩:=hargs.get hq;have hi':i<fd.params.args.length:=by rw[p5];exact QJ hlen hi
   obtain ⟨a,ha⟩:∃ a,fd.params.args[i]? =some a:=⟨_,Sp hi'⟩;obtain ⟨h1,h2⟩:=Ap p6 i a ha;rw[Tg] at h1;have hya:=hinj _ _ _ hy h1;subst hya;have hn:(fd.params.args.map (·.arg))[i]? =some a.arg:=by rw[SE,ha];rfl
   refine ⟨v,hr.ext xE,?_⟩;rw[fY,Bool.or_eq_true,beq_iff_eq,beq_iff_eq] at h2;have h2:env'.kindOf a.arg=some NameKind.«local»∨env'.kindOf a.arg=some .cell:=by unfold Env.kindOf;rw[e3];exact h2
   rcases h2 with h2|h2
   .exact .inl ⟨h2,g,.head _,gL.trans e1.symm,by rw[<-hg];exact tw hnd hn hv h2⟩
   .obtain ⟨c,hc,hcc⟩:=hcell _ h2;refine .inr ⟨.inl h2,c,hc,g,.head _,hcc,?_⟩;rw[<-hg];show Fd _ _ c=_;rw[wV x.apart hc];exact tz hnd hn hv h2
  have eP:s₁=(P.enter h₁ t₁ g).s:=es;rw[eP];refine rw.body.ok X body _ (P.enter h₁ t₁ g) (eK K rw.keep P.σ.length) _ _ (by show rw.body.is ⟨C.fnm,C.att,C.key,C.gls,env'.scope,rw.Γ,B2 C.lam fd.code fd.qualname⟩ body=true;rw[e3];exact p12) J hE (I_ w) ⟨fun ρ P' gs I' G' k=> ?_,fun q v P' gs I' r k=> ?_,fun c ρ e P' gs I' xx G' k=> ?_⟩
  .obtain ⟨g',hf'⟩:∃ g',P'.fs=g'::P.fs:=by
    have:=gs.fs;generalize P'.fs=z at this;obtain ⟨_⟩:=this;exact ⟨_,rfl⟩
   exact DD (keep:=rw.keep) (p:=.d .none) I' (xE.trans gs.toExt) hf' .none k fun p' P'' g2 I2 r2 k2=>p.ok p' _ P'' g2 I2 r2 k2
  .obtain ⟨g',hf'⟩:∃ g',P'.fs=g'::P.fs:=by
    have:=gs.fs;generalize P'.fs=z at this;obtain ⟨_⟩:=this;exact ⟨_,rfl⟩
   exact DD I' (xE.trans gs.toExt) hf' r k fun p' P'' g2 I2 r2 k2=>p.ok p' v P'' g2 I2 r2 k2
  .obtain ⟨g',hf'⟩:∃ g',P'.fs=g'::P.fs:=by
    have:=gs.fs;generalize P'.fs=z at this;obtain ⟨_⟩:=this;exact ⟨_,rfl⟩
   obtain ⟨a1,a2⟩:=xx;rw[show X.A.frames=some (env'::ls) from fr] at a1;cases a1;refine Cg fr e2 I' a2 fun h' I2 x2=> ?_;have y:=(xE.trans gs.toExt).trans (cj.to P' h' P'.s.toks).toExt;exact p.ex c _ ((P'.to h' P'.s.toks).leave g'.L P.σ.length none [] P.fs) (.leave y y.len) (I2.leave hf' y.len (.inl ⟨rfl,rfl⟩)) (sL.leave hls x2) (by show K _ (P'.σ.take _++[]);rw[List.append_nil];exact k)
theorem tE {C:bF} (G:gd C) (hF:zJ C):∀ d,vf C d
 |0=>fun _ _ _ _ _ _ _ _ _ _ _ _ _ _ _ _ w=>w.elim
 |d+1=>Cv G hF (tE G hF d)
section
open PySem.W PySem.Builtin PySem.Builtin.ObjectAttr PySem.Builtin.Getset_descriptor
variable {prog:Program} {w:World} {K:Frag} {x D:Addr} {ox:Obj}
theorem Ci {Q:Option Value->Shared->Prop} (X:K.In s.heap) (hk:zg K D=true) (ho:s.heap.get? x=some ox) (hc:ox.cls= .ref D) (h:Q (some (.ref D)) {s with toks:=s.toks+1}):wpAny (model prog w) A (getAttr? (.ref x) "__class__") Q E s:=by
 simp only [zg,Bool.and_eq_true,beq_iff_eq] at hk;obtain ⟨⟨⟨⟨⟨⟨⟨h1,h2⟩,h3⟩,h4⟩,h5⟩,h6⟩,h7⟩,h8⟩:=hk;obtain ⟨hh,g,d,t,os⟩:=s;have L0:Looks (model prog w) hh (typeOf (.ref x)) (.ref D):=hc ▸ (Looks.ld ho).andThen .now;have L1:=looks_findIn (M:=model prog w) X h1;have L2:=looks_findIn (M:=model prog w) X h2;have L3:Looks (model prog w) hh (find (.ref x) (.ref D) "__class__") (.bind (.builtin "getset_descriptor.__get__") (.builtin "object.__class__")):=
  (looks_findIn X h3).andThen ((looks_specialIn X h4:Looks _ _ (getOf (some (.builtin "object.__class__"))) _).andThen
   ((show Looks _ _ (dataDescriptor? (some (.builtin "object.__class__")) (some (.builtin "getset_descriptor.__get__"))) (some (.builtin "getset_descriptor.__get__",.builtin "object.__class__")) from (looks_takesIn X h5).andThen .now).andThen (Looks.tag .now)))
 have L6:=looks_mroIn (M:=model prog w) X h6;have L4:Looks (model prog w) hh (isInstance (.ref x) (.type "BaseException")) true:=L0.andThen (looks_mroIn X h7);unfold getAttr? getAttrBy? getAttrBy;refine Sz (wpAny_mkText (Sz (wpAny_attempt (wpAny_holding (Sz (L0.at (Sz (L1.at ?_))))))));dsimp only;have hx2:(Value.builtin "BaseException.__getattribute__"==Value.builtin "object.__getattribute__")=false:=by decide+kernel
 rw[if_neg (by rw[hx2,Bool.and_false];exact SL)];have f3:=F.attr_ValueError.ga.bind (.ref x);unfold getAttrByItsOwn hookBefore callGetattribute boundAndCalled;refine Sz ?_;rw[if_pos (show onTheHeap (.ref D)=true from rfl)];refine L2.at ?_;refine Sz (wpAny_attempt (wpAny_holding ?_));rw[if_neg (by rw[Bool.false_and];exact SL),f3];refine Sz (SA ?_);refine wpAny_call (codeAny_call_builtin F.attr_ValueError.ga.plain F.entry_bexc_ga ?_);have hk:builtinKind "BaseException.__getattribute__"=some .slot:=by decide+kernel
 have hsplit:splitId "BaseException.__getattribute__"=some ("BaseException","__getattribute__"):=by decide+kernel
 have ha:=F.args_bexc_ga (.ref x) (.str "__class__" t);simp only [checkBuiltinCall,hk,hsplit];refine Sz (L4.at ?_);simp only [Bool.not_true,Bool.false_eq_true,if_false];refine wpAny_of_eq (a:=()) ha ?_;refine Sz (SA (Sz (SA (Sz (L0.at (Sz (L3.at ?_)))))));show wpAny _ _ (holding [.builtin "object.__class__"] (call (.builtin "getset_descriptor.__get__") [.builtin "object.__class__",.ref x,.ref D])>>=PySem.ret) _ _ _;refine Sz (wpAny_holding (wpAny_call (codeAny_call_builtin KF.slot_gs.plain KF.entry_gs (KF.slot_gs.check _ _ _ _ _ _ _ _ KF.type_class (KF.args_gs _ _ _) ?_))));unfold Builtin.«getset_descriptor.__get__» descrGet;rw[dga_obj];refine Sz (SA ?_);unfold descrGetter descrCheckInstance descrNameAndClass isInstance;simp only [KF.owner_class]
 repeat lk
 refine ⟨Code.quiet_builtin _ (by decide+kernel),codeAny_builtin KF.entry_class ?_⟩;unfold Builtin.«object.__class__» shownTypeOf
 repeat lk
 exact h
theorem wt (hk:zg K D=true) (hc:ox.cls= .ref D):KitX K (.ref x) (.ref D) (fun h=>h.get? x=some ox) where
 ty:=fun _ _ _ I=>hc ▸ (Looks.ld I).andThen .now
 it:=fun _ _ X _=>by
  simp only [zg,Bool.and_eq_true] at hk;obtain ⟨cdD,hcD⟩:=Option.isSome_iff_exists.mp hk.2;unfold clsIn at hcD;split at hcD
  .rename_i c' d' cd' sl' ho
   intro A' Q' E' s' k q;unfold isType loadHead;exact Sz (wpAny_loadPart (k _ _ (X _ _ ho)) (SA q))
  .cases hcD
 ne:=fun h tp dd its n sl X htp=>by
  simp only [zg,Bool.and_eq_true] at hk;obtain ⟨cdD,hcD⟩:=Option.isSome_iff_exists.mp hk.2;refine Bool.eq_false_iff.mpr fun q=> ?_;have e:D=tp:=Value.ref.inj (beq_iff_eq.mp q);subst e;unfold clsIn at hcD;split at hcD
  .rename_i c' d' cd' sl' ho
   have z:=(X _ _ ho).symm.trans htp;cases z
  .cases hcD
 ca:=fun X I k=>Ci X hk I hc k
end
structure TY where
 nm:Str
 val:bF->Value
 g:D->Option Bool
 mean:∀ {C:bF},gd C->C.mg nm=some (val C)∨(nm,val C)∈f_
 ok:∀ {C:bF} {A:Around} {P:Pt} {v:Value} {x:D} {b:Bool} {Q E:Value->Shared->Prop},gd C->aR C P->gm C P v x->g x=some b->(∀ t,Q (.bool b) {P.s with toks:=t})->wpAny C.M A (call (.builtin "isinstance") [v,val C]) Q E P.s
theorem GP (t:TY) (I:aR X.C P) (hw:fo X.sc t.nm=true) (h:Q (t.val X.C) P.s):wpAny X.M X.A (eval (.Name t.nm pos) X.env) Q E P.s:=by
 rcases t.mean X.good with q|q
 .exact eC I hw q h
 .exact iT I hw q h
noncomputable def Hi (t:TY) (x:PV):PM PV:=fun σ=>(rd σ x).bind fun u=>(t.g u).map fun b=>(.ok (.d (.bool b)),σ)
theorem I5 {t:TY} (w:Wp K (Hi t x σ)):∃ u b,rd σ x=some u/\t.g u=some b/\K (.ok (.d (.bool b))) σ:=by
 unfold Hi at w;cases e1:rd σ x with
 |none=>rw[e1] at w;exact w.elim
 |some u=>
  rw[e1,Sl] at w;cases e2:t.g u with
  |none=>rw[e2] at w;exact w.elim
  |some b=>rw[e2] at w;exact ⟨u,b,rfl,e2,w⟩
theorem Kz (t:TY) (a:CE) {X:Cx} {e:Expr} {ρ:bj} {P:Pt} {K:R PV->aE->Prop} {Q E:Value->Shared->Prop} (h:fj (fun x es=>x==("isinstance":Str)&&fo X.sx.sc x&&two (fun e y=>iR e&&a.is X.sx e&&dB (fun y _=>y==t.nm&&fo X.sx.sc y) y) es) e=true) (I:aR X.C P) (G:EnvOK X P ρ)
  (w:Wp K (bU (a.ev X.ker ρ) (Hi t) P.σ)) (p:bx X (RV X.C) P K Q E):wpAny X.M X.A (eval e X.env) Q E P.s:=
 fi (fun e=>wpAny X.M X.A (eval e X.env) Q E P.s) h fun x px es pos h=>by
  refine pL (fun es=>wpAny X.M X.A (eval (.Call (.Name x px) es [] pos) X.env) Q E P.s) (aq h) fun e y h2=> ?_;refine cJ (fun y=>wpAny X.M X.A (eval (.Call (.Name x px) [e,y] [] pos) X.env) Q E P.s) (aq h2) fun y py h3=> ?_;have hw:=aq (ah h);have hy:=aq h3;rw[bN (ah h3)] at hy ⊢;rw[bN (ah (ah h))] at hw ⊢;have hst:starEach [e,.Name t.nm py] X.env=[(false,eval e X.env),(false,eval (.Name t.nm py) X.env)]:=by
   rw[cI (ah (ah h2))];rfl
  have hpl:∀ x∈backTo pos (starEach [e,.Name t.nm py] X.env),x.1=false:=by
   rw[hst];intro x hx;rcases Sm.mp hx with q|q
   .rw[q]
   .rw[Sq.mp q]
  refine wpAny_Call_NameR (iT (v:=.builtin "isinstance") I hw (by decide+kernel) ?_);refine Calls.callWith_builtin (dM hpl) (c_ hpl ?_);rw[hst];refine Calls.spliced_cons (a.ok X e ρ P _ _ E (aq (ah h2)) I G (aQ w) (p.bind fun q v P1 g1 I1 r1 w p=> ?_));obtain ⟨u,b,e1,e2,k⟩:=I5 w;refine Calls.spliced_cons (GP t I1 hy (Calls.spliced_nil ?_));exact t.ok X.good I1 (bh I1 r1 e1) e2 fun tk=>(p.fin k).tok I1 (.bool b) tk
noncomputable def kN (t:TY) (a:CE):CE:=⟨fun K ρ=>bU (a.ev K ρ) (Hi t),fun s=>fj fun x es=>x==("isinstance":Str)&&fo s.sc x&&two (fun e y=>iR e&&a.is s e&&dB (fun y _=>y==t.nm&&fo s.sc y) y) es,fun _ _ _ _ _ _ _ h I G w p=>Kz t a h I G w p⟩
noncomputable def gX (k:Nat):D->Option Bool
 | .exc c=>ax (c<nX/\k<nX) (c==k||k==0)
 |_=>none
noncomputable def lc (k:Nat) (hk:k<nX):TY:=⟨jc k,fun C=>.ref (C.exc k),gX k,fun G=>.inl (G.exc k hk).bound,fun {C A P v x b Q E} G I h e kk=>by
 cases x with
 |exc c=>
  obtain ⟨⟨h17,_⟩,q⟩:=ec e;subst q;obtain @⟨a,o,z,hc⟩:Io C P.own c v:=RD.view h;exact PySem.W.kia_one (wt (G.exk c h17) hc) (G.cls.X.keeps fun b o e=>(I.base b o e).1) (I.fz _ _ z) (G.kit c h17 k hk) (by simp) fun tk=>kk tk
 |_=>cases e⟩
noncomputable def gV:D->Option Bool
 | .exc c=>ax (c<nX) true
 |_=>none
noncomputable def Q4:TY:=⟨"ValueError",fun _=>.type "ValueError",gV,fun _=>.inr (by decide+kernel),fun {C A P v x b Q E} G I h e kk=>by
 cases x with
 |exc c=>
  obtain ⟨h17,q⟩:=ec e;subst q;obtain @⟨a,o,z,hc⟩:Io C P.own c v:=RD.view h;exact PySem.W.kia_one (wt (G.exk c h17) hc) (G.cls.X.keeps fun b o e=>(I.base b o e).1) (I.fz _ _ z) (G.kitV c h17) (by simp) fun tk=>kk tk
 |_=>cases e⟩
section
theorem KI {v:D} {x:Value} {c:Bool} (G:gd C) (I:aR C P) (hu:gm C P x u) (hv:gm C P y v) (e:RC u v=some c) (k:oX C P (.bool c) Q):wpAny C.M A (compareOp .In x y) Q E P.s:=by
 cases v with
 |dct ks ps=>
  obtain ⟨hf,z⟩:=ec e;subst z;obtain @⟨a,o,vs,h1,h2,h3,h4⟩:zK C P ks ps y:=hv;have hu:RD C P.own u x:=by
   cases u<;>first|exact hu|(cases hf;done)
  obtain ⟨d,l,i,hd,h5,e1,e2,h6,e3,h7,h8⟩:=uB h3 hu hf;subst e1;subst e2;subst e3
  letI:=d.dec
  have hl:=pi hd i h4;have ez:(valueAt l i).isSome=(e_ (d.toD i) (l.map fun p=>d.toD p.1) ps).isSome:=by
   revert hl
   cases e_ (d.toD i) (l.map fun p=>d.toD p.1) ps<;>cases valueAt l i<;>intro hl<;>first|rfl|exact hl.elim
  exact wpAny_in_of h7 (gZ G I h2) (Heap.dictOf_iff.mpr ⟨o,h1,h5⟩).mapOf (k.tok I (by rw[ez];exact .bool _) _)
 |_=>cases e
end
noncomputable def M6:CO:=⟨.In,RC,fun G _ I a b e k=>KI G I a b e k⟩
noncomputable def Rz:PV->PM PV:=fun x=>fun σ=>(rd σ x).bind fun u=>match u with
 | .dct ks vs=>(ax (ks.length<=100000/\ks.all wJ=true) ()).bind fun _=>jo (.fld (.dict ks vs)) σ
 |_=>none
theorem Mx (G:gd C) (I:aR C P) (r:RV C P v x) (w:Wp K (Rz x P.σ)) (p:dN C A (RV C) P K Q E):wpAny C.M A (call (.type "dict") [v]) Q E P.s:=by
 obtain ⟨u,e1,w⟩:=oY w;cases u with
 |dct ks ps=>
  obtain ⟨_,e2,w⟩:=oY w;have hl:=(ec e2).1.1;have hf:=(ec e2).1.2;obtain @⟨a,o,vs,h1,h2,h3,h4⟩:zK C P ks ps v:=bh I r e1;cases h3 with
  |pr xs es ep _ _ _ _ _ e _ hne=>
   cases xs with
   |nil=>exact absurd rfl hne
   |cons x xs=>rw[e] at hf;cases hf
  |mk d l hd h5 e3 e4 h6=>
  subst e3;subst e4
  letI:=d.dec
  refine kt_call_dict (gZ G I h2) (Heap.dictOf_iff.mpr ⟨o,h1,h5⟩) (by rw[Sk] at hl;exact Sv hl (by decide)) fun h' hd' hs=> ?_;obtain ⟨o',ho',hd'⟩:=Heap.dictOf_iff.mp hd';have n:FX C P h' P.h.objs.size o':=⟨fun b o e=>hs.extBut b o (Nat.ne_of_lt (SU e)) (Su _ e),I.off (Sy _),I.out (Sy _),ho'⟩;exact p.make (f:=.dict (l.map fun q:d.K×Value=>d.toD q.1) ps) (t:=P.s.toks) I n ⟨_,.mk d l hd hd' rfl rfl h6,h4.ext (fR n.own)⟩ w
 |_=>exact w.elim
noncomputable def AI:BF:=⟨"dict",.type "dict",by decide+kernel,fun _ ps=>match ps with
 |[x]=>Rz x
 |_=>fun _=>none,fun {C A P hd K ps vs Q E} G _ I r w p=>by
 match ps,r,w with
 |[x],r,w=>
  obtain ⟨r1,r2⟩:vj C P x [] vs:=r.view;rw[show _=[] from r2.view];exact Mx G I r1 w p
 |[],_,w=>exact w.elim
 |_::_::_,_,w=>exact w.elim⟩
noncomputable def aT (sep:List Nat):List (List Nat)->List Nat
 |[]=>[]
 |[x]=>x
 |x::r=>x++sep++aT sep r
noncomputable def pQ:List D->Option (List (List Nat))
 |[]=>some []
 |x::r=>(sD x).bind fun s=>(pQ r).map (s::·)
theorem LO {x:D} {s:List Nat} (h:RD C w x v) (e:sD x=some s):jN s/\∃ t,v= .str (b7 s) t:=by
 cases x<;>first|(cases e;exact h.view)|(cases e;done)
theorem Bb:∀ {l:List D} {vs:List Value} {ts:List (List Nat)},RDs C w l vs->pQ l=some ts->StrsAre vs (ts.map fun t=>⟨t.toArray⟩)/\∀ t∈ts,jN t:=by
 intro l
 induction l with
 |nil=>
  intro vs ts h e;cases e;rw[show vs=[] from h.view];exact ⟨.nil,aS⟩
 |cons x l ih=>
  intro vs ts h e;obtain ⟨r1,r2⟩:hO C w x l vs:=h.view;obtain ⟨s,e1,e⟩:=ak e;obtain ⟨ts',e2,rfl⟩:=aL e;obtain ⟨ho,t,q⟩:=LO r1 e1;obtain ⟨k1,k2⟩:=ih r2 e2;rw[q];exact ⟨.cons _ t k1,fun y hy=>(Sm.mp hy).elim (fun z=>z ▸ ho) (k2 y)⟩
theorem nH (s:List Nat):∀ ts:List (List Nat),(Str.join ⟨s.toArray⟩ (ts.map fun t=>⟨t.toArray⟩)).cps.toList=aT s ts
 |[]=>rfl
 |[x]=>rfl
 |x::y::r=>by
  show (x.toArray++s.toArray++(Str.join ⟨s.toArray⟩ ((y::r).map fun t=>⟨t.toArray⟩)).cps).toList=_;rw[Array.toList_append,nH s (y::r),Array.toList_append];rfl
theorem wA {s:List Nat} (hs:jN s):∀ {ts:List (List Nat)},(∀ t∈ts,jN t)->(∀ c∈aT s ts,c<0x110000)/\(aT s ts).length<=(ts.map List.length).sum+ts.length*s.length
 |[],_=>⟨fun _ h=>(nomatch h),SQ _⟩
 |[x],h=>⟨(h x (.head _)).1,by show x.length<=x.length+0+1*s.length;exact Rt⟩
 |x::y::r,h=>by
  obtain ⟨k1,k2⟩:=wA hs (ts:=y::r) fun t ht=>h t (.tail _ ht);show (∀ c∈x++s++aT s (y::r),c<0x110000)/\(x++s++aT s (y::r)).length<=x.length+((y::r).map List.length).sum+((y::r).length+1)*s.length;refine ⟨fun c hc=> ?_,?_⟩
  .rcases SF.mp hc with hc|hc
   .rcases SF.mp hc with hc|hc
    .exact (h x (.head _)).1 c hc
    .exact hs.1 c hc
   .exact k1 c hc
  .rw[Sn,Sn,Nat.succ_mul];exact Rs k2
noncomputable def IL (x:PV):List PV->PM PV
 |[y]=>F0 (fun u v=>(sD u).bind fun s=>(lD v).bind fun l=>(pQ l).bind fun ts=>ax ((ts.map List.length).sum+ts.length<=1048576/\s.length<=15) (.str (aT s ts))) x y
 |_=>fun _=>none
theorem Ew (I:aR C P) (r:RV C P v x) (rs:mj C P ps vs) (w:Wp K (IL x ps P.σ)) (p:dN C A (RV C) P K Q E):wpAny C.M A (call (.builtin "str.join") (v::vs)) Q E P.s:=by
 match ps,rs,w with
 |[y],rs,w=>
  obtain ⟨r1,r2⟩:vj C P y [] vs:=rs.view;rw[show _=[] from r2.view];obtain ⟨u,v',z,e1,e2,e,w⟩:=lH w;obtain ⟨s,e3,e⟩:=ak e;obtain ⟨l,e4,e⟩:=ak e;obtain ⟨ts,e5,e⟩:=ak e;obtain ⟨⟨hw,hs⟩,rfl⟩:=ec e;obtain ⟨ho,t,q⟩:=ed e3 (bh I r e1);rw[q];obtain @⟨a,ws,n,g,_,rr⟩:=h_ e4 (bh I r1 e2);obtain ⟨k1,k2⟩:=Bb rr e5;obtain ⟨k3,k4⟩:=wA ho k2;refine join_listW (items:=ws.toArray) ⟨_,g,rfl,_,rfl⟩ k1 (by simp [Str.length];exact SP hs) (by rw[List.map_map,Sk];exact hw) fun t' k=>(p.fin w).tok I (lJ ((congrArg (fun x:Str=>x.cps.toList) (StrLaws.glued_eq_join _ _)).trans (nH s ts)) ⟨k3,?_⟩ t') _;have:ts.length*s.length<=ts.length*15:=Tq _ hs;show _<=2^24;exact Pd hw k4 this
 |[],_,w=>exact w.elim
 |_::_::_,_,w=>exact w.elim
noncomputable def mO:MF:=⟨"join","str","str.join",F.plainAttrs_str,F.slot_str_join,F.type_str_join,fun _=>B7,mW,IL,fun _ I r rs w p=>Ew I r rs w p⟩
noncomputable def BI:List Int->Option Int
 |[]=>none
 |a::r=>some (r.foldl max a)
noncomputable def ra:List D->Option (List Int)
 |[]=>some []
 |x::r=>(iD x).bind fun i=>(ra r).map (i::·)
theorem MN {x:D} {i:Int} (h:RD C w x v) (e:iD x=some i):∃ t,v= .int i t:=by
 cases x<;>first|(cases e;exact h.view)|(cases e;done)
theorem B_:∀ {l:List D} {vs:List Value} {ts:List Int},RDs C w l vs->ra l=some ts->IntsAre vs ts:=by
 intro l
 induction l with
 |nil=>
  intro vs ts h e;cases e;rw[show vs=[] from h.view];exact .nil
 |cons x l ih=>
  intro vs ts h e;obtain ⟨r1,r2⟩:hO C w x l vs:=h.view;obtain ⟨s,e1,e⟩:=ak e;obtain ⟨ts',e2,rfl⟩:=aL e;obtain ⟨t,q⟩:=MN r1 e1;rw[q];exact .cons _ t (ih r2 e2)
theorem Hy:∀ (r:List Int) (a:Int),(a<=r.foldl max a)/\(∀ b∈r,b<=r.foldl max a)/\(r.foldl max a=a∨r.foldl max a∈r):=by
 intro r
 induction r with
 |nil=>intro a;exact ⟨Int.le_refl _,aS,.inl rfl⟩
 |cons b r ih=>
  intro a;obtain ⟨k1,k2,k3⟩:=ih (max a b);rw[List.foldl_cons];refine ⟨by omega,fun c hc=> ?_,?_⟩
  .rcases Sm.mp hc with rfl|hc
   .omega
   .exact k2 c hc
  .rcases k3 with k3|k3
   .rcases Int.le_total a b with q|q
    .right;rw[k3,show max a b=b by exact Int.max_eq_right q];exact .head _
    .left;exact k3.trans (Int.max_eq_left q)
   .exact .inr (.tail _ k3)
theorem vX {l:List Int} (h:BI l=some m):m∈l/\∀ a∈l,a<=m:=by
 cases l with
 |nil=>cases h
 |cons a r=>
  cases h;obtain ⟨k1,k2,k3⟩:=Hy r a;refine ⟨?_,fun c hc=> ?_⟩
  .rcases k3 with k3|k3
   .rw[k3];exact .head _
   .exact .tail _ k3
  .rcases Sm.mp hc with rfl|hc
   .exact k1
   .exact k2 c hc
theorem Ah {l:List Int} {M:Int} (h:BI l=some m) (h1:M∈l) (h2:∀ a∈l,a<=M):M=m:=
 Int.le_antisymm ((vX h).2 M h1) (h2 m (vX h).1)
theorem J0 {is:List Int} (I:aR C P) (hh:A.handled=none) (h:mr C P l v) (e2:ra l=some is) (e3:BI is=some m) (k:oX C P (.int m) Q):wpAny C.M A (call (.builtin "max") [v]) Q E P.s:=by
 obtain @⟨a,vs,q,g,_,hs⟩:=h;have hi:=B_ hs e2;obtain ⟨xs,e⟩:=hi.allInts.items;have hns:is=xs.toList.map (·.1):=by rw[<-hi.numsOf,<-nums_intItems,<-e]
 have hsz:0<xs.size:=by
  rcases Nat.eq_zero_or_pos xs.size with q|q
  .rw[hns,Array.size_eq_zero_iff.mp q] at e3;cases e3
  .exact q
 have hl:P.h.IsList a (intItems xs):=e ▸ (⟨_,g,rfl,_,rfl⟩:P.h.IsList a vs.toArray);refine max_intList hh hl hsz fun v h' tk hv hk=> ?_;obtain ⟨t,rfl⟩:=intItems_at hv;obtain ⟨h1,h2⟩:=argBest_gt (numAt xs) (xs.size - 1);refine k.grown I hk ?_ _;have:=Ah (M:=numAt xs (argBest (fun i j=>decide (numAt xs i>numAt xs j)) (xs.size - 1))) e3 ?_ fun a ha=> ?_
 .rw[<-this];exact .int _ _
 .rw[hns,numAt_eq];exact getD_mem (by rw[Sk,Array.length_toList];exact Nat.lt_of_le_pred hsz h1)
 .rw[hns] at ha;obtain ⟨j,hj,rfl⟩:=mem_getD ha;rw[Sk,Array.length_toList] at hj;rw[<-numAt_eq];exact h2 j (by exact Nat.le_sub_one_of_lt hj)
noncomputable def ET:BF:=⟨"max",.builtin "max",by decide+kernel,fun hd ps=>off hd (g1 (fun u=>(lD u).bind fun l=>(ra l).bind fun is=>(BI is).map .int) ps),fun {C A P hd K ps vs Q E} _ hh I r w p=>lX (fun vs=>wpAny C.M A (call (.builtin "max") vs) Q E P.s) I r (jx w).2 fun v u z h e k=>by
 obtain ⟨l,e1,e⟩:=ak e;obtain ⟨is,e2,e⟩:=ak e;obtain ⟨m,e3,rfl⟩:=aL e;exact J0 I (hh (jx w).1) (h_ e1 h) e2 e3 (p.fin k)⟩
noncomputable def AH:BF:=⟨"max",.builtin "max",by decide+kernel,fun hd ps=>off hd (g2 (fun u v=>(iD u).bind fun x=>(iD v).map fun y=>.int (max x y)) ps),fun {C A P hd K ps vs Q E} _ hh I r w p=>EN (fun vs=>wpAny C.M A (call (.builtin "max") vs) Q E P.s) I r (jx w).2 fun vx vy u v z h1 h2 e k=>by
 obtain ⟨x,e1,e⟩:=ak e;obtain ⟨y,e2,rfl⟩:=aL e;obtain ⟨t,q⟩:=dR e1 h1;obtain ⟨t',q'⟩:=dR e2 h2;rw[q,q'];refine max_two_ints (hh (jx w).1) fun h' tk kp=>(p.fin k).grown I kp ?_ _;by_cases hc:y>x
 .rw[if_pos hc,show max x y=y by exact Int.max_eq_right (Tk hc)];exact .int _ _
 .rw[if_neg hc,show max x y=x by exact Int.max_eq_left (Tp.mp hc)];exact .int _ _⟩
noncomputable def AG:BF:=⟨"min",.builtin "min",by decide+kernel,fun hd ps=>off hd (g2 (fun u v=>(iD u).bind fun x=>(iD v).map fun y=>.int (min x y)) ps),fun {C A P hd K ps vs Q E} _ hh I r w p=>EN (fun vs=>wpAny C.M A (call (.builtin "min") vs) Q E P.s) I r (jx w).2 fun vx vy u v z h1 h2 e k=>by
 obtain ⟨x,e1,e⟩:=ak e;obtain ⟨y,e2,rfl⟩:=aL e;obtain ⟨t,q⟩:=dR e1 h1;obtain ⟨t',q'⟩:=dR e2 h2;rw[q,q'];refine min_two_ints (hh (jx w).1) fun h' tk kp=>(p.fin k).grown I kp ?_ _;by_cases hc:y<x
 .rw[if_pos hc,show min x y=y by exact Int.min_eq_right (Tk hc)];exact .int _ _
 .rw[if_neg hc,show min x y=x by exact Int.min_eq_left (Tp.mp hc)];exact .int _ _⟩
noncomputable def D8 (a b:CE):CF:=⟨fun K ρ=>bU (a.ev K ρ) fun x=>bU (b.ev K ρ) fun y=>fun σ=>(((rd σ x).bind lD).bind fun l=>((rd σ y).bind lD).bind fun m=>ax (l.length+m.length<=dZ) (l++m)).map fun z=>(.ok z,σ),fun s=>ji fun l op r _=>op== .Add&&a.is s l&&b.is s r,
 fun X e ρ P K Q E h I G w p=>gb (fun e=>wpAny X.M X.A (eval e X.env) Q E P.s) h fun l op r pos h=>wpAny_BinOp (a.ok X l ρ P _ _ E (aq (ah h)) I G (aQ w) (p.bind fun x v P1 g1 I1 r1 w p=>
  b.ok X r ρ P1 _ _ E (aq h) I1 (G.ext g1) (aQ w) (p.bind fun y u P2 g2 I2 r2 w p=>by
   obtain ⟨z,e,k⟩:=fO w;obtain ⟨l1,e1,e⟩:=ak e;obtain ⟨l2,e2,e⟩:=ak e;obtain ⟨hm,rfl⟩:=ec e;obtain ⟨u1,e3,e4⟩:=ak e1;obtain ⟨u2,e5,e6⟩:=ak e2;rw[bN (ah (ah h))];obtain @⟨a1,vs1,n1,g1',_,rr1⟩:=h_ e4 (bh I2 (r1.ext g2.toExt) e3);obtain @⟨a2,vs2,n2,g2',_,rr2⟩:=h_ e6 (bh I2 r2 e5);refine A1 g1' g2' ?_ (by simpa [sizeLine,dZ,rr1.length,rr2.length] using hm);have n:=I2.push (o:=bp (vs1++vs2) 0) rfl;have eo:bp (vs1++vs2) 0=({cls:=.type "list",data:=.seq (vs1.toArray++vs2.toArray)}:Obj):=by simp
   have:=p.ok (l1++l2) (.ref P2.h.objs.size) (P2.to (P2.h.push (bp (vs1++vs2) 0)) P2.s.toks) (.to ..) (I2.to n.keep) (.mk ⟨fun _ _ e=>e,n.own,n.H,n.at_⟩ (rr1.append rr2)) k;rw[eo] at this;exact this)))⟩
structure FS where
 ev:c9->bj->List Nat->PM (List Nat)
 is:Sx->List Expr->Bool
 ok:∀ (X:Cx) (es:List Expr) (ρ:bj) (P:Pt) (acc:List Nat) (K:R (List Nat)->aE->Prop) (Q E:Value->Shared->Prop),is X.sx es=true->aR X.C P->EnvOK X P ρ->jN acc->Wp K (ev X.ker ρ acc P.σ)->bx X (fun _ v t=>jN t/\∃ k,v=Value.str (b7 t) k) P K Q E->wpAny X.M X.A (joinParts (b7 acc) (evalEach es X.env)) Q E P.s
end Mine.Internal
namespace Mine.Internal
open PySem PyProof.Rows PySem.W
variable {K:Frag} {b:Addr} {x:Obj}
noncomputable def zR (l:List oV) (n:Nat):Option PF:=(l.find? fun r=>r.id==n).map (·.pf)
noncomputable def gW (r0:oV) (l:List oV) (n:Nat):oV:=(l.find? fun r=>r.id==n).getD r0
noncomputable def JQ (r0:oV) (l:List oV) (n:Nat):Str×Bool:=((gW r0 l n).nm,(gW r0 l n).mth)
noncomputable def jg:Nat->Str
 |0=>"home"|1=>"names"|2=>"told"|3=>"made"|4=>"gone"|5=>"ends"|6=>"deeds"|_=>"?"
theorem H6:∀ i,i<7->∀ k,k<7->jg i=jg k->i=k:=by decide+kernel
theorem AV:∀ p∈f_,bootBuiltins p.1=some p.2/\p.1≠"__name__":=by
 have h:f_.all (fun p=>bootBuiltins p.1==some p.2&& !(p.1==("__name__":Str)))=true:=by kernel_rfl
 exact fun p hp=>⟨bN (ah (List.all_eq_true.mp h p hp)),fun q=>by have:=aq (List.all_eq_true.mp h p hp);rw[q,beq_self_eq_true] at this;cases this⟩
noncomputable def IN (o:Obj):Bool:=match o.data with
 | .cls _=>true
 |_=>false
noncomputable def xT (o:Obj):Bool:= !(o.cls== .type "list")&& !(o.cls== .none)
noncomputable def FR (t:BT) (n:Nat):Frag:=((List.range n).filterMap fun a=>((t.get a).bind alive).map fun o=>(a,o)).filter fun q=>xT q.2
noncomputable def yV (t:BT) (n:Nat):Frag:=(FR t n).filter (fun q=>IN q.2)++(FR t n).filter (fun q=> !IN q.2)
theorem wq {α:Type} {K:List (Nat×α)} {a:Nat} {o:α} (h:K.lookup a=some o):(a,o)∈K:=by
 induction K with
 |nil=>cases h
 |cons q r ih=>
  rw[List.lookup_cons] at h;cases e:(a==q.1) with
  |true=>rw[e] at h;cases h;rw[beq_iff_eq.mp e];exact .head _
  |false=>rw[e] at h;exact .tail _ (ih h)
theorem Hu (t:BT) (n:Nat) (life:Life):(yV t n).In (absHeap t n life):=fun a o e=>by
 have:=wq e;have hm:(a,o)∈FR t n:=by
  rcases SF.mp this with q|q<;>exact (List.mem_filter.mp q).1
 refine bu fun G9 k9=> ?_;obtain ⟨b,hb,e1⟩:=List.mem_filterMap.mp (List.mem_filter.mp hm).1;obtain ⟨o',ho,e'⟩:=Ta.mp e1;refine k9 ?_;cases e';obtain ⟨o2,h1,h2⟩:=Option.bind_eq_some_iff.mp ho;rw[abs_get (List.mem_range.mp hb) h1];exact h2
noncomputable def Ic (K:Frag) (x:Str):Addr:=match nsIn K mainGlobals x with
 |some (some (.ref a))=>a
 |_=>0
noncomputable def ju (K:Frag):Addr:=Ic K "Book"
noncomputable def ov (K:Frag) (r:oV):Addr:=if r.mth then (match findIn K (.ref (ju K)) r.nm with
 |some (some (.ref a))=>a
 |_=>0) else Ic K r.nm
noncomputable def iZ (sp:Option (Str×Pos)) (K:Frag):Option CY:=sp.bind fun q=>(tabIn K q.1).map fun z=>⟨z.1,z.2,q.2,q.1++".<locals>."++"<lambda>"⟩
noncomputable def IM (o:Obj):Bool:=o.cls== .none&&o.dict.isNone&&(match o.data with
 | .fields vs=>vs.isEmpty
 |_=>false)&&o.slots.isEmpty
theorem Ex {o:Obj} (h:IM o=true):o=vw #[]:=by
 obtain ⟨cl,di,da,sl⟩:=o;have e1:cl= .none:=bN (ah (ah (ah h)));have e2:di=none:=Option.isNone_iff_eq_none.mp (aq (ah (ah h)));have e3:sl=#[]:=Array.isEmpty_iff.mp (aq h);have h:=aq (ah h);subst e1 e2 e3;cases da with
 |fields vs=>rw[Array.isEmpty_iff.mp h]
 |_=>cases h
noncomputable def xu (sp:Option (Str×Pos)) (K:Frag) (t:BT) (n:Nat):Bool:=(iZ sp K).all fun l=>decide (l.P<n)&&((t.get l.P).bind alive).any IM
def tG (sp:Option (Str×Pos)) (K:Frag) (h:Heap):Prop:=∀ l,iZ sp K=some l->h.get? l.P=some (vw #[])
theorem Gi {sp:Option (Str×Pos)} {t:BT} {n:Nat} (life:Life) (h:xu sp K t n=true):tG sp K (absHeap t n life):=fun l e=>by
 unfold xu at h;rw[e] at h;refine bu fun G9 k9=> ?_;obtain ⟨o,ho,k⟩:=any_some (aq h);obtain ⟨o2,h1,h2⟩:=Option.bind_eq_some_iff.mp ho;refine k9 ?_;rw[abs_get (S6 (ah h)) h1,h2,Ex k]
noncomputable def KY (K:Frag) (s:Scope->FY->Value->Str->Sx) (r:oV):Bool:=match K.lookup (ov K r) with
 |some ⟨cls,_,.func fd,_⟩=>cls== .type "function"&&codeIn K fd.code fd.qualname&&(match fd.body with
   | .stmts body=>NN (s fd.scope r.Γ fd.code fd.qualname) r fd.params body
   |_=>false)&&fd.closure.isEmpty&&fd.globals==mainGlobals&&fd.builtins==builtinsNs&&fd.defaults== .none
 |_=>false
noncomputable def IA (K:Frag) (s:Scope->FY->Value->Str->Sx) (r:oV):Bool:=KY K s r&&(if r.mth then findIn K (.ref (ju K)) r.nm==some (some (.ref (ov K r)))&&(List.range 7).all (fun k=>jg k !=r.nm) else nsIn K mainGlobals r.nm==some (some (.ref (ov K r))))
noncomputable def M1 (K:Frag) (f0:Addr):Bool:=(nsIn K mainGlobals "Book"==some (some (.ref (ju K)))&&(clsIn K (ju K)).any (·.hasDict)&&plainOver K (ju K)&&makesIn K (ju K)&&findIn K (.ref (ju K)) "__getattribute__"==some (some (.builtin "object.__getattribute__"))&&findIn K (.ref (ju K)) "__getattr__"==some none)&&
 (findIn K (.ref (ju K)) "__setattr__"==some (some (.builtin "object.__setattr__"))&&(List.range 7).all (fun k=>findIn K (.ref (ju K)) (jg k)==some none)&&findIn K (.ref (ju K)) "__init__"==some (some (.ref f0))&&typeIn K (.ref f0)==some (.type "function"))
noncomputable def Na:List Value:=[.type "ValueError",.type "Exception",.type "BaseException",.type "object"]
noncomputable def MT (K:Frag) (ea:Nat->Addr):Bool:=(List.range nX).all fun c=>(nsIn K mainGlobals (jc c)==some (some (.ref (ea c)))&&excIn K (ea c) Na "ValueError.__new__"&&zg K (ea c)&&kitOne K (.ref (ea c)) (.type "ValueError")==some true)&&
 (List.range nX).all fun k=>kitOne K (.ref (ea c)) (.ref (ea k))==some (c==k||k==0)&&exmOne K (.ref (ea c)) (.ref (ea k))==some (c==k||k==0)
noncomputable def MR (K:Frag):Bool:=f_.all fun p=>nsIn K mainGlobals p.1==some none
noncomputable def RE (v:Value):Option Int×List Nat->Bool
 |(some i,_)=>(match v with
  | .int j _=>i==j
  |_=>false)
 |(none,l)=>(match v with
  | .str x _=>x.cps.toList==l&&Lz l
  |_=>false)
noncomputable def Sf (K:Frag) (gls:List (Str×(Option Int×List Nat))):Bool:=gls.all fun q=>match nsIn K mainGlobals q.1 with
 |some (some v)=>RE v q.2
 |_=>false
noncomputable def Ly (sp:Option (Str×Pos)) (r0:oV) (ao:List oV) (gls:List (Str×(Option Int×List Nat))) (key:Nat->Str) (K:Frag):Bool:=
 (K.lookup sysModules).isSome&&K.all (fun q=>xT q.2)&&MR K&&Sf K gls&&MT K (fun c=>Ic K (jc c))&&M1 K (ov K (gW r0 ao 0))&&(r0::ao).all (IA K fun sc Γ cd q=>⟨JQ r0 ao,jg,key,gls,sc,Γ,B2 (iZ sp K) cd q⟩)&&(iZ sp K).all (fun l=>codeHdIn K l.c l.P)
theorem Bq {r0:oV} {ao:List oV} (n:Nat):gW r0 ao n∈r0::ao:=by
 unfold gW;cases e:ao.find? fun r=>r.id==n with
 |none=>exact .head _
 |some r=>exact .tail _ (List.mem_of_find?_eq_some e)
theorem KQ {v:Value}:∀ {q:Option Int×List Nat},RE v q=true->KO v q
 |(some i,_),h=>by
  cases v<;>first|(cases h;done)|exact ⟨_,by rw[bN h]⟩
 |(none,l),h=>by
  cases v<;>first|(cases h;done)|skip
  rename_i x t
  refine ⟨ud (aq h),t,?_⟩;obtain ⟨⟨z⟩⟩:=x;rw[<-bN (ah h)]
theorem HB {sx:Scope->FY->Value->Str->Sx} {r:oV} {h:Heap} (X:K.In h) (e:KY K sx r=true):typeIn K (.ref (ov K r))=some (.type "function")/\∃ o fd body,h.get? (ov K r)=some o/\o.data= .func fd/\h.CodeRec fd.code fd.qualname/\fd.body= .stmts body/\fd.closure=[]/\fd.globals=mainGlobals/\fd.builtins=builtinsNs/\fd.defaults= .none/\
  NN (sx fd.scope r.Γ fd.code fd.qualname) r fd.params body=true:=by
 unfold KY at e;split at e
 .rename_i cls dd fd sl ho
  simp only [Bool.and_eq_true,beq_iff_eq] at e;refine bu fun G9 k9=> ?_;obtain ⟨⟨⟨⟨⟨⟨e1,e2⟩,e3⟩,e4⟩,e5⟩,e6⟩,e7⟩:=e;refine k9 ?_;split at e3
  .rename_i body hb
   exact ⟨(by show (K.lookup (ov K r)).map (·.cls)=_;rw[ho,<-e1];rfl),_,fd,body,X _ _ ho,rfl,codeRec_of X e2,hb,List.isEmpty_iff.mp e4,e5,e6,e7,e3⟩
  .cases e3
 .cases e
noncomputable def rN (sp:Option (Str×Pos)) (scr:Addr) (K:Frag):List Addr:=scr::(iZ sp K).toList.map (·.P)
noncomputable def Fq (prog:Program) (w:World) (s:Shared) (scr:Addr) (K:Frag) (mg mb:Str->Option Value) (sp:Option (Str×Pos)) (r0:oV) (ao:List oV) (gls:List (Str×(Option Int×List Nat))) (key:Nat->Str):bF:=
 ⟨prog,w,cN s.heap (rN sp scr K),ju K,fun c=>Ic K (jc c),K,mg,mb,JQ r0 ao,fun n=>ov K (gW r0 ao n),jg,key,gls,zR ao,iZ sp K⟩
section
variable {p:Program} {loose:List Str} {mean:ExcName->Option Value} {mg mb:Str->Option Value} {prog:Program} {w:World} {s:Shared} {sp:Option (Str×Pos)} {r0:oV} {ao:List oV} {gls:List (Str×(Option Int×List Nat))} {key:Nat->Str} {scr:Addr} {o:Obj} {ws:List Addr}
def Nt (s:Shared) (ws:List Addr):Prop:=∀ a∈ws,∃ o,s.heap.get? a=some o/\xT o=false/\∀ es ep,o.data≠ .dict es ep
theorem Kb {vs:Array Value} {n:Nat} (ho:s.heap.get? scr=some o) (hc:o.cls= .type "list") (hd:o.data= .seq vs n) (TK:tG sp K s.heap):Nt s (rN sp scr K):=fun a ha=>by
 rcases Sm.mp ha with q|q
 .exact ⟨o,q ▸ ho,by unfold xT;rw[hc];rfl,fun es ep e=>by rw[hd] at e;cases e⟩
 .obtain ⟨l,hl,q⟩:=SD.mp q;exact ⟨_,q ▸ TK l (Option.mem_toList.mp hl),rfl,fun es ep e=>by cases e⟩
theorem yR (h:s.heap.get? b=some x) (ne:b∉ws):(cN s.heap ws).get? b=some x:=by
 rw[get?_without,if_neg ne];exact h
theorem L7 (h:(cN s.heap ws).get? b=some x):s.heap.get? b=some x/\b∉ws:=by
 rw[get?_without] at h;by_cases q:b∈ws
 .rw[if_pos q] at h;cases h
 .rw[if_neg q] at h;exact ⟨h,q⟩
theorem EK (lw:Nt s ws) (h:s.heap.get? b=some x) (hx:xT x=true):(cN s.heap ws).get? b=some x:=yR h fun q=>by
 obtain ⟨o,h1,h2,_⟩:=lw b q;rw[h] at h1;cases h1;rw[hx] at h2;cases h2
theorem Ab {a:Addr} {m:Str->Option Value} (lw:Nt s ws) (h:s.heap.Ns a m):(cN s.heap ws).Ns a m:=by
 refine bu fun G9 k9=> ?_;obtain ⟨x,es,ep,h1,h2,r⟩:=h;refine k9 ?_;exact ⟨x,es,ep,yR h1 (fun q=>by
  obtain ⟨o,h3,_,h4⟩:=lw a q;rw[h1] at h3;cases h3;exact h4 _ _ h2),h2,r⟩
theorem Ht (X:K.In s.heap) (h:K.all (fun q=>xT q.2)=true) (lw:Nt s ws):K.In (cN s.heap ws):=fun a x e=>
 EK lw (X a x e) (List.all_eq_true.mp h _ (wq e))
theorem Hn (T:Top p loose mean mg mb s.heap) (X:K.In s.heap) (ok:Ly sp r0 ao gls key K=true) (hkey:∀ i j,i<100->j<100->key i=key j->i=j) (lw:Nt s (rN sp scr K)) (TK:tG sp K s.heap):
  gd (Fq prog w s scr K mg mb sp r0 ao gls key)/\zJ (Fq prog w s scr K mg mb sp r0 ao gls key):=by
 simp only [Ly,Bool.and_eq_true] at ok;refine bu fun G9 k9=> ?_;obtain ⟨⟨⟨⟨⟨⟨⟨o1,o0⟩,o2⟩,o3⟩,o4⟩,o5⟩,o6⟩,o7⟩:=ok;refine k9 ?_;have X':=Ht X o0 lw;have g:=Ab lw T.g;have nl:(cN s.heap (rN sp scr K)).NoLimit:=by
  obtain ⟨mc,h1,h2⟩:=T.nolimit;exact ⟨mc,Ab lw h1,h2⟩
 have TR:TopRead p loose mg mb (cN s.heap (rN sp scr K)):=⟨g,Ab lw T.b,nl,T.builtins,T.free⟩;have row:∀ n,IA K (fun sc Γ cd q=>⟨JQ r0 ao,jg,key,gls,sc,Γ,B2 (iZ sp K) cd q⟩) (gW r0 ao n)=true:=fun n=>List.all_eq_true.mp o6 _ (Bq n);have fn:=fun n=>HB X' (ah (row n));simp only [M1,Bool.and_eq_true,List.all_eq_true,beq_iff_eq,List.mem_range] at o5;have ex:=fun c (hc:c<nX)=>List.all_eq_true.mp o4 c (List.mem_range.mpr hc);simp only [Bool.and_eq_true,List.all_eq_true,beq_iff_eq,List.mem_range] at ex;refine ⟨⟨g,TR.b,nl,?_,?_,⟨X',mg_of X' g o5.1.1.1.1.1.1,any_some o5.1.1.1.1.1.2,o5.1.1.1.1.2,o5.1.1.1.2,o5.1.1.2,o5.1.2,o5.2.1.1.1,o5.2.1.1.2,H6,⟨o5.2.1.2,o5.2.2⟩,fun m hm=> ?_⟩,fun c hc=>own_of_in X' TR (ex c hc).1.1.1.1 (ex c hc).1.1.1.2,fun c hc=>(ex c hc).1.1.2,fun c hc k hk=>((ex c hc).2 k hk).1,fun c hc=>(ex c hc).1.2,fun c hc k hk=>((ex c hc).2 k hk).2,
  fun n hn=> ?_,fun q hq=>⟨ns_none_of X' g (bN (List.all_eq_true.mp o2 q hq)),(T.builtins _ (AV q hq).2).trans (AV q hq).1⟩,fun x q e=> ?_,hkey,fun l e=> ?_⟩,fun n pf hT=> ?_⟩
 .obtain ⟨mc,h1,h2⟩:=T.nodigits;exact ⟨mc,Ab lw h1,h2⟩
 .obtain ⟨x,hx⟩:=Option.isSome_iff_exists.mp o1;exact ⟨x,X' _ _ hx⟩
 .have hm:(gW r0 ao m).mth=true:=hm;have:=aq (row m);rw[if_pos hm] at this;simp only [Bool.and_eq_true,beq_iff_eq,List.all_eq_true,List.mem_range,bne_iff_ne] at this;refine bu fun G9 k9=> ?_;obtain ⟨h1,o,fd,body,h2,h3,_⟩:=fn m;refine k9 ?_;exact ⟨this.1,h1,this.2,o,fd,h2,h3⟩
 .have hn:(gW r0 ao n).mth=false:=hn;have:=aq (row n);rw[if_neg (by rw[hn];exact SL)] at this;refine bu fun G9 k9=> ?_;obtain ⟨_,o,fd,body,h2,h3,_⟩:=fn n;refine k9 ?_;exact ⟨mg_of X' g (beq_iff_eq.mp this),o,fd,h2,h3⟩
 .have h3:=List.all_eq_true.mp o3 _ (dm e);dsimp only at h3;split at h3
  .rename_i v hv
   exact ⟨v,mg_of X' g hv,KQ h3⟩
  .cases h3
 .have e:iZ sp K=some l:=e;have tb:=TK l e;rw[e] at o7;refine bu fun G9 k9=> ?_;obtain ⟨bm,ob,b1,b2,b3,b4,b5,b6⟩:=T.bmain;refine k9 ?_;refine ⟨codeHd_of_K X' o7,⟨bm,ob,b1,b2,fun q=> ?_,fun q=> ?_,EK lw b3 (by unfold xT;rw[b4];rfl),b4,b5,b6⟩,fun q=> ?_⟩
  .obtain ⟨o,es,ep,e2,hd,_⟩:=T.g;rw[q,e2] at b3;cases b3;rw[hd] at b6;cases b6
  .rw[q,tb] at b3;cases b3;cases b4
  .obtain ⟨o,es,ep,e2,hd,_⟩:=T.g;rw[q,tb] at e2;cases e2;cases hd
 .have hT':(ao.find? fun r=>r.id==n).map (·.pf)=some pf:=hT;refine bu fun G9 k9=> ?_;obtain ⟨r,hr,hpf⟩:=Ta.mp hT';have er:gW r0 ao n=r:=by unfold gW;rw[hr];rfl
  obtain ⟨_,o,fd,body,h2,h3,h4,h5,h6,h7,h8,h9,h10⟩:=fn n;refine k9 ?_;rw[er] at h10;exact ⟨r,hpf.symm,o,fd,body,h2,h3,h4,h5,h6,h7,h8,h9,h10⟩
theorem Gn (h:Heap):∀ ws:List Addr,(cN h ws).objs.size=h.objs.size:=by
 intro ws
 induction ws with
 |nil=>
  exact rfl
 |cons a ws ih=>
  show ((cN h ws).update a _).objs.size=_;unfold Heap.update;rw[Array.size_modify,ih]
theorem Hk {C:bF} {w:bJ} {vs:List Value} {sc:List Int} (h:IntsAre vs sc):RDs C w (sc.map .int) vs:=by
 induction h with
 |nil=>exact .nil
 |cons n t _ ih=>exact .cons (.int n t) ih
theorem Hf {fa:Addr} {vs:List Value} {sc:List Int} {f d:Nat} {σ':aE} {Q:Result->Shared->Prop} (hkey:∀ i j,i<100->j<100->key i=key j->i=j) (T:Top p loose mean mg mb s.heap) (X:K.In s.heap) (ok:Ly sp r0 ao gls key K=true) (TK:tG sp K s.heap) (hl:s.heap.IsList scr vs.toArray) (hi:IntsAre vs sc)
  (hf:(gW r0 ao f).mth=false) (hfa:mg (gW r0 ao f).nm=some (.ref fa)) (hd:d<=50) (hrun:lB (zR ao) (d+1) false f [.d (.lst (sc.map .int))] []=some (.ok (.d (.bool true)),σ'))
  (hQ:∀ s',rW s s'->(∀ b o,b∉(iZ sp K).toList.map (·.P)->s.heap.get? b=some o->s'.heap.get? b=some o)->(∀ l,iZ sp K=some l->∃ ps,s'.heap.get? l.P=some (vw ps))->Q (.ok (.ret (.bool true))) s'):codeAny (model prog w) callerA (.call (.ref fa) ⟨[.ref scr],[]⟩) Q s:=by
 refine bu fun G9 k9=> ?_;obtain ⟨⟨cl,dd,da,sl⟩,ho,hc,n,hdat⟩:=id hl;refine k9 ?_;simp only at hc hdat;subst hc;subst hdat;have lw:=Kb (scr:=scr) (K:=K) (sp:=sp) ho rfl rfl TK;obtain ⟨G,F⟩:=Hn (prog:=prog) (w:=w) T X ok hkey lw TK;generalize hC:Fq prog w s scr K mg mb sp r0 ao gls key=C at G F;have cH:C.H=cN s.heap (rN sp scr K):=by rw[<-hC];rfl
 have cT:C.T=zR ao:=by rw[<-hC];rfl
 have cM:C.M=model prog w:=by rw[<-hC];rfl
 have cL:C.lam=iZ sp K:=by rw[<-hC];rfl
 have hadr:C.fadr f=fa:=by
  have h1:=(G.fn f (by rw[<-hC];exact hf)).1;have h2:mg (gW r0 ao f).nm=some (.ref (C.fadr f)):=by rw[<-hC] at h1 ⊢;exact h1
  rw[hfa] at h2;exact (Value.ref.inj (Tc h2)).symm
 generalize ht:(iZ sp K).toList.map (·.P)=ts at hQ;have aw:rN sp scr K=scr::ts:=by rw[<-ht];rfl
 have hts:∀ a∈ts,s.heap.get? a=some (vw #[]):=fun a ha=>by
  rw[<-ht] at ha;obtain ⟨l,hl,q⟩:=SD.mp ha;exact q ▸ TK l (Option.mem_toList.mp hl)
 let P:Pt:=⟨s,[],fun a=>if a=scr then .fz (sj vs ⟨n,dd,sl⟩) else if a∈ts then .gh else .no,[],[]⟩
 have own:∀ a x,P.own a=x->x≠ .no->(a=scr/\x= .fz (sj vs ⟨n,dd,sl⟩))∨(a∈ts/\x= .gh):=fun a x e q=>by
  by_cases z:a=scr
  .exact .inl ⟨z,e.symm.trans (if_pos z)⟩
  .have e:(if a∈ts then dt.gh else .no)=x:=(if_neg z).symm.trans e;by_cases y:a∈ts
   .exact .inr ⟨y,e.symm.trans (if_pos y)⟩
   .exact absurd (e.symm.trans (if_neg y)) q
 have I:aR C P:=by
  refine ⟨fun b o e=> ?_,fun a o e=> ?_,fun a e=> ?_,⟨fun f h=>(SI h).elim,fun f h=>(SI h).elim,List.Pairwise.nil,(fun a e=>by rcases own a .fr e dt.noConfusion with ⟨_,q⟩|⟨_,q⟩<;>cases q)⟩,⟨fun p h=>(SI h).elim,Tb,fun z e=> ?_⟩,(fun a b n j e=>by rcases own a (.cell n j) e dt.noConfusion with ⟨_,q⟩|⟨_,q⟩<;>cases q),(fun a n j e=>by rcases own a (.cell n j) e dt.noConfusion with ⟨_,q⟩|⟨_,q⟩<;>cases q),fun n o e=>nomatch e⟩
  .rw[cH] at e;obtain ⟨h1,h2⟩:=L7 e;rw[aw] at h2;refine ⟨h1,?_⟩;show (if b=scr then dt.fz (sj vs ⟨n,dd,sl⟩) else if b∈ts then dt.gh else .no)= .no;rw[if_neg fun q=>h2 (by rw[q];exact .head _),if_neg (show¬b∈ts from fun q=>h2 (.tail _ q))]
  .rcases own a _ e dt.noConfusion with ⟨h1,h2⟩|⟨_,h2⟩
   .cases h2;rw[h1];exact ho
   .cases h2
  .rcases own a _ rfl e with ⟨h1,_⟩|⟨h1,_⟩
   .exact ⟨_,h1 ▸ ho⟩
   .exact ⟨_,hts a h1⟩
  .rw[cL] at e;have tb:=TK z e;have hm:z.P∈ts:=by rw[<-ht,e];exact .head _
   refine .inl ⟨tb,(if_neg fun q=> ?_).trans (if_pos hm),fun p h=>(SI h).elim⟩;rw[q,ho] at tb;cases tb
 have hsz:C.H.objs.size<=P.h.objs.size:=by
  rw[cH];exact Td (Gn _ _)
 rw[<-hadr,<-cM];refine codeAny_mono (tE G F (d+1) false callerA P f [.d (.lst (sc.map .int))] [.ref scr] (fun r _=>r= .ok (.d (.bool true))) (fun v s'=>v= .bool true/\rW s s'/\(∀ b o,b∉ts->s.heap.get? b=some o->s'.heap.get? b=some o)/\∀ l,iZ sp K=some l->∃ ps,s'.heap.get? l.P=some (vw ps)) (fun _ _=>False) ⟨[],rfl,fun e h=>(SI h).elim⟩ hsz ?_ ?_ (fun _=>rfl) I (.cons (.lst (n:=⟨n,dd,sl⟩) (if_pos rfl) (Hk hi)) .nil) ?_ ⟨fun q v P' g I' r k=> ?_,fun c e P' _ _ _ k=>by cases k⟩) fun r s' h=> ?_
 .show 1+claimMargin+8*(d+1)+144<1000;have:claimMargin=300:=rfl;exact Pb hd this
 .show 4+64*(d+1)+945<9900;exact SM (Nat.add_le_add_right (S5 (Tq 64 (Tl hd)) 4) 945) (by decide)
 .show Wp _ (lB C.T (d+1) false f _ []);rw[cT,hrun];rfl
 .cases k;refine ⟨r.view,g.sm,fun b o hb e=> ?_,fun l e=> ?_⟩
  .by_cases z:b=scr
   .rw[z,ho] at e;cases e;rw[z];exact I'.fz _ _ (g.fz _ _ (if_pos rfl))
   .exact (I'.base b o (by rw[cH,aw];exact yR e fun q=>(Sm.mp q).elim z hb)).1
  .rcases I'.gh.tab l (cL.trans e) with h|⟨_,_,_,_,h,_⟩
   .exact ⟨_,h.1⟩
   .exact ⟨_,h.1⟩
 .cases r with
  |ok fl=>
   cases fl with
   |ret v=>obtain ⟨rfl,sm,k1,k2⟩:=h;exact hQ s' sm k1 k2
   |_=>exact h.elim
  |error e=>exact h.elim
end
end Mine.Internal
namespace Mine.Internal
open PySem PyProof.Rows PySem.W
variable {C:bF} {A:Around} {P:Pt} {E Q:Value->Shared->Prop} {kvs:List (Str×Value)} {k:Nat} {v:Value} {x y:PV} {s:List Nat} {K:R PV->aE->Prop} {σ:aE} {X:Cx} {e:Expr} {ρ:bj}
theorem GD {w:bJ} {l:List D} {vs:List Value} (h:RDs C w l vs):∀ k:Nat,RDs C w (List.replicate k l).flatten (List.replicate k vs).flatten:=by
 intro k
 induction k with
 |zero=>
  exact .nil
 |succ k ih=>
  rw[List.replicate_succ,List.replicate_succ,List.flatten_cons,List.flatten_cons];exact h.append (ih)
theorem GB {C:bF} {A:Around} {Q E:Value->Shared->Prop} {s:Shared} {l:Addr} {vs:List Value} {n:Nm} {x:Int} {u:Tok} (ho:s.heap.get? l=some (sj vs n)) (h0:0<=x) (h1:x<=100000) (hsz:vs.length*x.toNat<=2^24)
  (h:Q (.ref s.heap.objs.size) {s with heap:=s.heap.push {cls:=.type "list",data:=.seq (List.replicate x.toNat vs).flatten.toArray}}):wpAny C.M A (binaryOp .Mult (.ref l) (.int x u)) Q E s:=by
 have hsz':vs.toArray.size*x.toNat<=2^24:=by simpa using hsz
 refine wpAny_binaryOp_repeat_ref (T:="list") (U:="int") (by decide) ⟨_,ho,rfl⟩ (fun s'=>typeIs_int s' x u) noFill_list_mul F.fills_int_mul F.slot_int_rmul repeat_list F.slot_int_index.lookup
  (call_meets F.slot_int_rmul (typeIs_int s x u) F.entry_int_rmul (F.args_int_rmul_2 _ _) (lm_int_rmul_list_any x u l vs.toArray n.n n.d n.sl)
   ⟨ho,rfl,⟨_,ho,rfl⟩,call_meets F.slot_list_mul ⟨_,ho,rfl⟩ F.entry_list_mul (F.args_list_mul_2 _ _)
    (lm_list_mul_any l vs.toArray n.n n.d n.sl x u (by simp [Builtin.List.listFitsIndex];exact ⟨SV (by decide) h0,SW h1 (by decide)⟩) (O' hsz') (by simp [Builtin.List.listTooLong,sizeLine];exact hsz))
    ⟨ho,?_⟩⟩)
 rw[listMul_foldl_if];exact h
noncomputable def Mt (a b:CE):CF:=⟨fun K ρ=>bU (a.ev K ρ) fun x=>bU (b.ev K ρ) fun y=>fun σ=>(((rd σ x).bind lD).bind fun l=>((rd σ y).bind iD).bind fun m=>ax (0<=m/\m<=100000/\l.length*m.toNat<=dZ) (List.replicate m.toNat l).flatten).map fun z=>(.ok z,σ),fun s=>ji fun l op r _=>op== .Mult&&a.is s l&&b.is s r,
 fun X e ρ P K Q E h I G w p=>gb (fun e=>wpAny X.M X.A (eval e X.env) Q E P.s) h fun l op r pos h=>wpAny_BinOp (a.ok X l ρ P _ _ E (aq (ah h)) I G (aQ w) (p.bind fun x v P1 g1 I1 r1 w p=>
  b.ok X r ρ P1 _ _ E (aq h) I1 (G.ext g1) (aQ w) (p.bind fun y u P2 g2 I2 r2 w p=>by
   obtain ⟨z,e,k⟩:=fO w;obtain ⟨l1,e1,e⟩:=ak e;obtain ⟨m,e2,e⟩:=ak e;obtain ⟨⟨h0,h1,hm⟩,rfl⟩:=ec e;obtain ⟨u1,e3,e4⟩:=ak e1;obtain ⟨u2,e5,e6⟩:=ak e2;rw[bN (ah (ah h))];obtain @⟨a1,vs1,n1,g1',_,rr1⟩:=h_ e4 (bh I2 (r1.ext g2.toExt) e3);obtain ⟨t,q⟩:=dR e6 (bh I2 r2 e5);rw[q];refine GB g1' h0 h1 (by rw[rr1.length];exact hm) ?_;have n:=I2.push (o:=bp (List.replicate m.toNat vs1).flatten 0) rfl;exact p.ok (List.replicate m.toNat l1).flatten (.ref P2.h.objs.size) (P2.to (P2.h.push (bp (List.replicate m.toNat vs1).flatten 0)) P2.s.toks) (.to ..) (I2.to n.keep) (.mk ⟨fun _ _ e=>e,n.own,n.H,n.at_⟩ (GD rr1 _)) k)))⟩
section
theorem Km (G:gd C) (hk:∀ i p,kvs[i]? =some p->p.1=C.key i) (hl:kvs.length<=100) {p:Str×Value} (e:kvs[k]? =some p):valueAt kvs (C.key k)=some p.2:=by
 have hlt:=(So.mp e).1;have h1:∀ j,j<k->∀ q,kvs[j]? =some q->q.1≠C.key k:=fun j hj q hq z=>by
  have:=hk j q hq;have:=G.keys j k (by exact SN (Tj hj hlt) hl) (by exact SN hlt hl) (this.symm.trans z);exact Nat.ne_of_lt hj this
 show (kvs.find? fun kv=>decide (kv.1=C.key k)).map (·.2)=_;have:kvs.find? (fun kv=>decide (kv.1=C.key k))=some p:=by
  rw[List.find?_eq_some_iff_getElem];refine ⟨SC (hk k p e),k,hlt,(So.mp e).2,fun j hj=> ?_⟩;have:=h1 j hj kvs[j] (Sp (by exact Tj hj hlt));rw[Tf this];rfl
 rw[this];rfl
theorem xz {k:Str} (h:∀ p∈kvs,p.1≠k):stored kvs k v=kvs++[(k,v)]:=by
 unfold stored;rw[if_neg];intro q;simp only [List.any_eq_true,decide_eq_true_eq] at q;obtain ⟨p,hp,e⟩:=q;exact h p hp e
theorem eD {α:Type} {l:List α} {x y:α} {i:Nat} (h:(l++[x])[i]? =some y):(i≠l.length->l[i]? =some y)/\(i=l.length->y=x):=by
 constructor
 .intro q;have lt:=(So.mp h).1;rw[Sn,Sw] at lt
  rwa [S_ (by exact Nat.lt_of_le_of_ne (Tr lt) q)] at h
 .intro q;rw[q,eS] at h;exact (Tc h).symm
structure Q0 (C:bF) (kvs:List (Str×Value)) (k:Nat) (v:Value) (res:List (Str×Value)) (n:Nat):Prop where
 len:res.length=n
 nm:∀ i p,res[i]? =some p->p.1=C.key i
 nw:∀ p,res[k]? =some p->p.2=v
 old:∀ i p,i≠k->res[i]? =some p->kvs[i]? =some p
theorem Dk (G:gd C) (hk:∀ i p,kvs[i]? =some p->p.1=C.key i) (hl:kvs.length<100):Q0 C kvs kvs.length v (stored kvs (C.key kvs.length) v) (kvs.length+1):=by
 rw[xz fun p hp q=>by
  obtain ⟨i,hi,e⟩:=List.getElem_of_mem hp;have h1:=hk i p (by rw[Sp hi,e]);have:=G.keys i kvs.length (by exact Tj hi hl) hl (h1.symm.trans q);exact Nat.ne_of_lt hi this]
 refine ⟨by rw[Sn];rfl,fun i p h=> ?_,fun p h=> ?_,fun i p q h=>(eD h).1 q⟩
 .by_cases q:i=kvs.length
  .rw[(eD h).2 q,q]
  .exact hk i p ((eD h).1 q)
 .rw[(eD h).2 rfl]
theorem Jm (G:gd C) (hk:∀ i p,kvs[i]? =some p->p.1=C.key i) (hl:kvs.length<=100) (hk':k<kvs.length):Q0 C kvs k v (stored kvs (C.key k) v) kvs.length:=by
 have hm:kvs.any (fun kv=>decide (kv.1=C.key k))=true:=List.any_eq_true.mpr ⟨kvs[k],List.getElem_mem hk',SC (hk k _ (Sp hk'))⟩;have e:stored kvs (C.key k) v=kvs.map (fun kv=>if kv.1=C.key k then (kv.1,v) else kv):=if_pos hm;rw[e];have key:∀ i p,(kvs.map (fun kv=>if kv.1=C.key k then (kv.1,v) else kv))[i]? =some p->∃ q,kvs[i]? =some q/\(if q.1=C.key k then (q.1,v) else q)=p:=fun i p h=>by
  rw[SE] at h;exact Ta.mp h
 refine ⟨Sk ..,fun i p h=> ?_,fun p h=> ?_,fun i p q h=> ?_⟩
 .obtain ⟨z,e1,e2⟩:=key i p h;rw[<-e2,<-hk i z e1];split<;>rfl
 .obtain ⟨z,e1,e2⟩:=key k p h;rw[<-e2,if_pos (hk k z e1)]
 .obtain ⟨z,e1,e2⟩:=key i p h;rw[<-e2,if_neg,e1];intro c;have hi:=(So.mp e1).1;exact q (G.keys i k (by exact SN hi hl) (by exact SN hk' hl) ((hk i z e1).symm.trans c))
noncomputable def ML:cD->Bool
 | .d _=>true
 |_=>false
noncomputable def Gp (k:Nat) (x v:PV) (σ:aE):Option aE:=match x with
 | .p n 0=>(cR false σ n).bind fun l=>match v with
  | .d y=>if k=l.length then ax (k<100) (σ.set n (.rcd false (l++[.d y]))) else (l[k]?).bind fun f=>ax (ML f=true) (σ.set n (.rcd false (l.set k (.d y))))
  | .p m 0=>(ax (k=l.length/\k<100/\m≠n) ()).bind fun _=>(b_ σ m 0).bind fun f=>f.rd.map fun _=>(σ.set m .dead).set n (.rcd false (l++[f]))
  |_=>none
 |_=>none
noncomputable def hV (x:PV) (σ:aE):Nat:=match x with
 | .p n _=>((cR false σ n).getD []).length
 | .d _=>0
theorem z8 {v:PV} {vx vv:Value} {σ':aE} (G:gd C) (I:aR C P) (hx:RV C P vx x) (hv:RV C P vv v) (e:Gp k x v P.σ=some σ'):
  ∃ d kvs,vx= .ref d/\P.h.DictOf (strKind C.prog C.w) d kvs/\kvs.length<=100/\kvs.length=hV x P.σ/\∀ h' t,h'.DictOf (strKind C.prog C.w) d (stored kvs (C.key k) vv)->Heap.SameBut d P.h h'->∃ P',cj P P'/\aR C P'/\P'.σ=σ'/\P'.s={P.s with heap:=h',toks:=t}:=by
 cases x with
 |d _=>cases e
 |p n j=>
 cases j with
 |succ _=>cases e
 |zero=>
 obtain ⟨l,e1,e⟩:=ak e;have en:=kH e1;obtain @⟨d,o,kvs,h1,h2,h3,h4,h5,h6,h7⟩:rY C P.own P.h n l:=I.obj n _ en;refine ⟨d,kvs,hx.2 d h1,Heap.dictOf_iff.mpr ⟨o,h2,h3⟩,by exact le_of_eq_of_le h4 h5,by show kvs.length=((cR false P.σ n).getD []).length;rw[e1];exact h4,fun h' t hd hs=> ?_⟩;obtain ⟨o',g1,g2⟩:=Heap.dictOf_iff.mp hd;have ro:∀ (w':bJ) (f:cD) (l':List cD) (q:Q0 C kvs k vv (stored kvs (C.key k) vv) l'.length),l'.length<=100->(∀ i f',i≠k->l'[i]? =some f'->l[i]? =some f')->(∀ f',l'[k]? =some f'->f'=f)->Fz P.own w'->(∀ b j,P.own b= .cell n j->w' b= .cell n j)->FA C w' h' n k vv f->RO C w' h' n (.rcd false l'):=fun w' f l' q hl i1 i2 fz kw fa=>by
  refine rY.mk (kw _ _ h1) g1 g2 q.len hl q.nm fun i f' p z1 z2=> ?_;by_cases c:i=k
  .subst c;rw[i2 f' z1,q.nw p z2];exact fa
  .refine (h7 i f' p (i1 i f' c z1) (q.old i p c z2)).mono fz fun b o y1 y2=>⟨kw b _ y1,hs.extBut b o (fun z=> ?_) y2⟩;rw[z,h1] at y1;cases y1
 cases v with
 |d y=>
  have e:(if k=l.length then ax (k<100) (P.σ.set n (.rcd false (l++[.d y]))) else (l[k]?).bind fun f=>ax (ML f=true) (P.σ.set n (.rcd false (l.set k (.d y)))))=some σ':=e;by_cases c:k=l.length
  .rw[if_pos c] at e;obtain ⟨hk,e⟩:=ec e;have q:=Dk (v:=vv) G h6 (by rw[h4,<-c];exact hk);rw[h4,<-c] at q;have r:=ro P.own (.d y) (l++[.d y]) (by rw[Sn,<-c];exact q) (by rw[Sn,<-c];exact hk) (fun i f' hi z=>(eD z).1 (by rw[<-c];exact hi)) (fun f' z=>(eD z).2 c) (fun _ _ e=>e) (fun _ _ e=>e) hv;have kp:∀ j,(PO.rcd false l).has j->(PO.rcd false (l++[.d y])).has j:=fun j q=>by show j<(l++[cD.d y]).length+2;rw[Sn];have:j<l.length+2:=q;exact O_ this
   exact ⟨_,.turn en kp,I.turn (h':=h') (t:=t) kp en h1 (fun b o hb e=>hs.extBut b o hb e) g1 r,e.symm ▸ rfl,rfl⟩
  .rw[if_neg c] at e;obtain ⟨f0,e2,e⟩:=ak e;obtain ⟨_,e⟩:=ec e;have hk:=(So.mp e2).1;have q:=Jm (v:=vv) (k:=k) G h6 (by exact le_of_eq_of_le h4 h5) (by exact Nat.lt_of_lt_of_eq hk (id (Eq.symm h4)));have r:=ro P.own (.d y) (l.set k (.d y)) (by rw[SO,<-h4];exact q) (by rw[SO];exact String.Pos.Raw.mk_le_mk.mp h5) (fun i f' hi z=>by rwa [SS (Ne.symm hi)] at z) (fun f' z=>by rw[List.getElem?_set_self hk] at z;exact (Tc z).symm) (fun _ _ e=>e) (fun _ _ e=>e) hv;have kp:∀ j,(PO.rcd false l).has j->(PO.rcd false (l.set k (.d y))).has j:=fun j q=>by show j<(l.set k (.d y)).length+2;rw[SO];exact q
   exact ⟨_,.turn en kp,I.turn (h':=h') (t:=t) kp en h1 (fun b o hb e=>hs.extBut b o hb e) g1 r,e.symm ▸ rfl,rfl⟩
 |p m' j=>
 cases j with
 |succ _=>cases e
 |zero=>
  obtain ⟨_,z1,e⟩:=ak e;obtain ⟨f,z2,e⟩:=ak e;obtain ⟨u,z3,e⟩:=aL e;obtain ⟨c,hk,z1⟩:=(ec z1).1;obtain ⟨o',z4,z5⟩:=ak z2;obtain @⟨af,of,y1,y2,y3⟩:=rP I hv z2 (jI z3).2;have fz:Fz P.own (hR P.own af (.cell n (l.length+2))):=fun b o e=>(bB fun c=>by rw[c,y1] at e;cases e).trans e;have ndf:af≠d:=fun q=>by rw[q,h1] at y1;cases y1;exact z1 rfl
  have q:=Dk (v:=.ref af) G h6 (by rw[h4,<-c];exact hk);rw[h4,<-c] at q;obtain ⟨J,g⟩:=xf (t:=t) (l':=l++[f]) I z4 en z1 y1 h1 (fun b o hb e=>hs.extBut b o hb e) y2 g1 (by rw[Sn];rfl)
   (ro _ f (l++[f]) (by rw[Sn,<-c];exact q) (by rw[Sn,<-c];exact hk) (fun i f' hi z=>(eD z).1 (by rw[<-c];exact hi)) (fun f' z=>(eD z).2 c) fz (fun b j e=>(bB fun c=>by rw[c,y1] at e;cases e;exact z1 rfl).trans e) (ES (jI z3).2 (by rw[c];exact kE.mk (cc _ _ _) (hs.extBut _ _ ndf y2) (y3.ext fz))))
  exact ⟨_,g,J,e,rfl⟩
end
noncomputable def ij:PV->Option (List Nat)
 | .d x=>sD x
 | .p _ _=>none
theorem pS (h:ij y=some s):y= .d (.str s):=by
 cases y with
 |d v=>cases v<;>first|(cases h;done)|(cases h;rfl)
 |_=>cases h
noncomputable def Kp (k:Nat) (s:List Nat) (x y:PV):PM PV:=fun σ=>(ax (ij y=some s) ()).bind fun _=>oB false k x σ
theorem F8 (w:Wp K (Kp k s x y σ)):y= .d (.str s)/\Wp K (oB false k x σ):=by
 have w:Wp K ((ax (ij y=some s) ()).bind fun _=>oB false k x σ):=w;unfold ax at w;by_cases q:ij y=some s
 .rw[if_pos q] at w;exact ⟨pS q,w⟩
 .rw[if_neg q] at w;exact w.elim
section
theorem Ko (o:CE) (k:Nat) (s:List Nat) (h:cq (fun v j _=>dY j&&b7 s==X.sx.key k&&o.is X.sx v&&(au s).is X.sx j) e=true) (I:aR X.C P) (G:EnvOK X P ρ) (w:Wp K (bU (o.ev X.ker ρ) (fun x=>bU ((au s).ev X.ker ρ) fun y=>Kp k s x y) P.σ)) (p:bx X (RV X.C) P K Q E):wpAny X.M X.A (eval e X.env) Q E P.s:=
 c7 (fun e=>wpAny X.M X.A (eval e X.env) Q E P.s) h fun v j pos h=>Subscript_ (o.ok X v ρ P _ _ E (aq (ah h)) I G (aQ w) (p.bind fun x vx P1 g1 I1 r1 w p=>
  (au s).ok X j ρ P1 _ _ E (aq h) I1 (G.ext g1) (aQ w) (p.bind fun y u P2 g2 I2 r2 w p=>by
   obtain ⟨hy,w2⟩:=F8 w;subst hy;obtain ⟨n,l,f,q,e1,e2,kk⟩:=zM w2;subst q;obtain ⟨_,t,hu⟩:jN s/\∃ t,u= .str (b7 s) t:=RD.view r2;have hk:b7 s=X.C.key k:=bN (aq (ah (ah h)));obtain @⟨d,ob,kvs,h1,h2,h3,h4,h5,h6,h7⟩:rY X.C P2.own P2.h n l:=I2.obj n _ e1;have hlt:=(So.mp e2).1;have ek:kvs[k]? =some kvs[k]:=Sp (by exact Nat.lt_of_lt_of_eq hlt (id (Eq.symm h4)));have hM:=(Heap.dictOf_iff.mpr ⟨ob,h2,h3⟩).mapOf;rw[hu,(r1.ext g2.toExt).2 d h1,hk];exact tail_any hM.typeIs slot_dict_getitem.lookup (wpAny_getItem_of (strKind_is _ _ _ _) hM (Km X.good h6 (by exact le_of_eq_of_le h4 h5) ek) (p.ok _ _ (P2.to P2.h _) (.to ..) (I2.to fun _ _ e=>e) (Dw I2 e1 e2 (h7 k f _ e2 ek)) kk)) (dC (ah (ah (ah h))) _ _))))
end
noncomputable def key (o:CE) (k:Nat) (s:List Nat):CE:=⟨fun K ρ=>bU (o.ev K ρ) fun x=>bU ((au s).ev K ρ) fun y=>Kp k s x y,fun sx=>cq fun v j _=>dY j&&b7 s==sx.key k&&o.is sx v&&(au s).is sx j,fun _ _ _ _ _ _ _ h I G w p=>Ko o k s h I G w p⟩
noncomputable def pn (key:Nat->Str):Nat->List (List Nat)->Bool
 |_,[]=>true
 |i,s::r=>b7 s==key i&&pn key (i+1) r
theorem yF {key:Nat->Str}:∀ {tb:List (List Nat)} {i k:Nat} {s:List Nat},pn key i tb=true->tb[k]? =some s->b7 s=key (i+k):=by
 intro tb
 induction tb with
 |nil=>
  intro _ _ _ _ e;exact nomatch e
 |cons a tb ih=>
  intro i k s h e;cases k with
  |zero=>cases e;exact bN (ah h)
  |succ k=>
   have:=ih (k:=k) (aq h) e;rw[this,Nat.add_assoc,Nat.add_comm 1 k]
noncomputable def nv (tb:List (List Nat)) (k:Nat) (v x y:PV) (σ:aE):Option aE:=(tb[k]?).bind fun s=>(ax (ij y=some s) ()).bind fun _=>Gp k x v σ
theorem sU {tb:List (List Nat)} {v:PV} {σ':aE} (h:nv tb k v x y σ=some σ'):∃ s,tb[k]? =some s/\y= .d (.str s)/\Gp k x v σ=some σ':=by
 obtain ⟨s,e1,h⟩:=ak h;obtain ⟨_,e2,h⟩:=ak h;exact ⟨s,e1,pS (ec e2).1,h⟩
section
variable {X:SX} {st:Stmt} {K:Out->aE->Prop} {Q:Flow->Shared->Prop}
theorem Dt (tb:List (List Nat)) (kf:PV->aE->Nat) (o i a:CE) (h:oM (fun t e=>cq (fun oe ke _=> !i8 e&&dY ke&&pn X.sx.key 0 tb&&o.is X.sx oe&&i.is X.sx ke&&a.is X.sx e) t) st=true) (I:aR X.C P) (G:cV X P ρ)
  (w:jw K (cO ρ (a.ev X.ker ρ) (fun v=>cO ρ (o.ev X.ker ρ) fun x=>cO ρ (i.ev X.ker ρ) fun y σ=>jM (nv tb (kf x σ) v x y σ) fun σ'=>some (.next ρ,σ')) P.σ)) (p:dc X P K Q E):wpAny X.M X.A (PySem.exec st X.env) Q E P.s:=
 gi (fun st=>wpAny X.M X.A (PySem.exec st X.env) Q E P.s) h fun t e pos h=>c7 (fun t=>wpAny X.M X.A (PySem.exec (.Assign [t] e pos) X.env) Q E P.s) h fun oe ke px h=>
  wpAny_Assign_Subscript (a.ok X.toCx e ρ P _ _ E (aq h) I G.toEnvOK (dP w) (p.bind G fun v vv P1 g1 I1 r1 w G1 p=>
   o.ok X.toCx oe ρ P1 _ _ E (aq (ah (ah h))) I1 G1.toEnvOK (dP w) (p.bind G1 fun x vx P2 g2 I2 r2 w G2 p=>
    i.ok X.toCx ke ρ P2 _ _ E (aq (ah h)) I2 G2.toEnvOK (dP w) (p.bind G2 fun y vy P3 g3 I3 r3 w G3 p=>by
     obtain ⟨σ',e3,w2⟩:=gU w;obtain ⟨s,e4,q,e5⟩:=sU e3;subst q;obtain ⟨_,t,hu⟩:jN s/\∃ t,vy= .str (b7 s) t:=RD.view r3;have hk:=yF (aq (ah (ah (ah h)))) e4;rw[Tg] at hk;obtain ⟨d,kvs,q1,q2,q3,_,q4⟩:=z8 X.good I3 (r2.ext g3.toExt) (r1.ext (g2.trans g3).toExt) e5;rw[q1,hu,hk];refine wpAny_setItem_pairs (strKind_is _ _ _ _) q2 (fun h' z1 z2=> ?_) (Sv q3 (by decide));obtain ⟨P4,g4,I4,y1,y2⟩:=q4 h' (P3.s.toks+1) z1 z2;have:=p.next ρ P4 (G3.gs g4) I4 (G3.ext g4) (y1 ▸ w2);rw[y2] at this;exact this)))) (jA ((Bool.not_eq_true' _).mp (ah (ah (ah (ah (ah h)))))))
end
noncomputable def Iz (tb:List (List Nat)) (kf:PV->aE->Nat) (o i a:CE):C1:=⟨fun K ρ=>cO ρ (a.ev K ρ) fun v=>cO ρ (o.ev K ρ) fun x=>cO ρ (i.ev K ρ) fun y σ=>jM (nv tb (kf x σ) v x y σ) fun σ'=>some (.next ρ,σ'),fun s=>oM fun t e=>cq (fun oe ke _=> !i8 e&&dY ke&&pn s.key 0 tb&&o.is s oe&&i.is s ke&&a.is s e) t,fun X st ρ P K Q E h I G w p=>Dt tb kf o i a h I G w p⟩
noncomputable def Gs (tb:List (List Nat)) (k:Nat) (o i a:CE):C1:=Iz tb (fun _ _=>k) o i a
noncomputable def Iy (tb:List (List Nat)) (o i a:CE):C1:=Iz tb hV o i a
noncomputable def Dq (s:List Nat) (x y v:PV):PM PV:=fun σ=>(ax (hV x σ=0) ()).bind fun _=>(nv [s] 0 v x y σ).map fun σ'=>(.ok x,σ')
theorem F7 {v:PV} (w:Wp K (Dq s x y v σ)):∃ σ',hV x σ=0/\nv [s] 0 v x y σ=some σ'/\K (.ok x) σ':=by
 have w:Wp K ((ax (hV x σ=0) ()).bind fun _=>(nv [s] 0 v x y σ).map fun σ'=>(.ok x,σ')):=w;unfold ax at w;by_cases q:hV x σ=0
 .rw[if_pos q,Sl] at w;cases e:nv [s] 0 v x y σ with
  |none=>rw[e] at w;exact w.elim
  |some σ'=>rw[e] at w;exact ⟨σ',q,rfl,w⟩
 .rw[if_neg q] at w;exact w.elim
section
theorem BH (s:List Nat) (a:CE) (h:kB (fun ks vs _=>kY (Hh fun ke=>(au s).is X.sx ke) List.isEmpty ks&&kY (fun ve=>b7 s==X.sx.key 0&&a.is X.sx ve) List.isEmpty vs) e=true) (I:aR X.C P) (G:EnvOK X P ρ)
  (w:Wp K (bU (jo (.rcd false [])) (fun x=>bU ((au s).ev X.ker ρ) fun y=>bU (a.ev X.ker ρ) fun v=>Dq s x y v) P.σ)) (p:bx X (RV X.C) P K Q E):wpAny X.M X.A (eval e X.env) Q E P.s:=
 kA (fun e=>wpAny X.M X.A (eval e X.env) Q E P.s) h fun ks vs pos h=>cK (fun ks=>wpAny X.M X.A (eval (.Dict ks vs pos) X.env) Q E P.s) (ah h) fun ke kr h1 h2=>bY (fun kr=>wpAny X.M X.A (eval (.Dict (ke::kr) vs pos) X.env) Q E P.s) h2
  (cK (fun vs=>wpAny X.M X.A (eval (.Dict [ke] vs pos) X.env) Q E P.s) (aq h) fun ve vr h3 h4=>bY (fun vr=>wpAny X.M X.A (eval (.Dict [ke] (ve::vr) pos) X.env) Q E P.s) h4
   (iu (fun ke=>wpAny X.M X.A (eval (.Dict [ke] [ve] pos) X.env) Q E P.s) h1 fun ke h5=>by
    refine wpAny_Dict_walk (knd:=strKind X.C.prog X.C.w) rfl rfl (fun q=>nomatch q) (Sr rfl) (pairTrees_cons_walk ?_);have hn:=I.push (o:=uS) rfl;have d0:uS.IsDictOf (strKind X.C.prog X.C.w) []:=⟨#[],0,⟨rfl,rfl,rfl⟩,rfl,fun _ he=>by simp at he,Pairs.nil,Tb⟩;have J:aR X.C (P.make (P.h.push uS) P.s.toks P.h.objs.size (.rcd false [])):=I.make Nat.two_pos hn (rY.mk (cc _ _ _) hn.at_ d0 rfl (SQ _) (fun i p e=>nomatch e) fun i f p e=>nomatch e);have g0:cj P (P.make (P.h.push uS) P.s.toks P.h.objs.size (.rcd false [])):=.make hn.own;have rx:RV X.C (P.make (P.h.push uS) P.s.toks P.h.objs.size (.rcd false [])) (.ref P.h.objs.size) (.p P.σ.length 0):=I.rvMake Nat.two_pos;have w:Wp K (bU ((au s).ev X.ker ρ) (fun y=>bU (a.ev X.ker ρ) fun v=>Dq s (.p P.σ.length 0) y v) (P.σ++[.rcd false []])):=w;refine (au s).ok X ke ρ (P.make (P.h.push uS) P.s.toks P.h.objs.size (.rcd false [])) _ _ E h5 J (G.ext g0) (aQ w) ((p.mono g0).bind fun y vy P1 g1 I1 r1 w p=> ?_);refine a.ok X ve ρ P1 _ _ E (aq h3) I1 ((G.ext g0).ext g1) (aQ w) (p.bind fun v vv P2 g2 I2 r2 w p=> ?_);refine pairTrees_nil_walk ?_;refine bu fun G9 k9=> ?_;obtain ⟨σ',e0,e1,k⟩:=F7 w;obtain ⟨s',e2,q,e3⟩:=sU e1;refine k9 ?_;cases e2;subst q;refine bu fun G9 k9=> ?_;obtain ⟨_,t,hu⟩:jN s/\∃ t,vy= .str (b7 s) t:=RD.view r1;have hk:b7 s=X.C.key 0:=bN (ah h3);have rx2:=(rx.ext g1.toExt).ext g2.toExt;obtain ⟨d,kvs,q1,q2,q3,q5,q4⟩:=z8 X.good I2 rx2 r2 e3;refine k9 ?_;cases q1;rw[e0] at q5;have q6:=List.eq_nil_of_length_eq_zero q5;subst q6;refine ⟨[(X.C.key 0,vv)],⟨by rw[hu,hk];exact strKind_is _ _ _ _,rfl,trivial⟩,q2,fun h' z1 z2=> ?_⟩;refine bu fun G9 k9=> ?_;obtain ⟨P4,g4,I4,y1,y2⟩:=q4 h' (P2.s.toks+1) z1 z2;refine k9 ?_;have:=p.ok (.p P.σ.length 0) _ P4 g4 I4 (rx2.ext g4.toExt) (y1 ▸ k);rw[y2] at this;exact this))
end
noncomputable def D6 (s:List Nat) (a:CE):CE:=⟨fun K ρ=>bU (jo (.rcd false [])) fun x=>bU ((au s).ev K ρ) fun y=>bU (a.ev K ρ) fun v=>Dq s x y v,fun sx=>kB fun ks vs _=>kY (Hh fun ke=>(au s).is sx ke) List.isEmpty ks&&kY (fun ve=>b7 s==sx.key 0&&a.is sx ve) List.isEmpty vs,fun _ _ _ _ _ _ _ h I G w p=>BH s a h I G w p⟩
section
variable {w:bJ}
inductive Ls (C:bF) (P:Pt) (a:Addr) (o:Obj) (ks:List D) (vs:List Value):Prop
 |mk (xs:List (List Str×Addr×Value)):P.h.DictOfH (tupleKind (strKind C.prog C.w)) a xs->(∀ x∈xs,xh C P.own x.1 x.2.1)->ks=xs.map (fun x=>Q9 x.1)->vs=xs.map (·.2.2)->(xs.map (·.1)).Nodup->Ls C P a o ks vs
end
section
end
section
end
section
variable {Q:Unit->Shared->Prop}
end
section
variable {X:SX} {st:Stmt} {K:Out->aE->Prop} {Q:Flow->Shared->Prop}
end
end Mine.Internal
namespace Mine.Internal
open PySem PyProof.Rows
noncomputable def iP:PV->Option Int
 | .d v=>iD v
 |_=>none
theorem KJ {a:D} {x:Int} (h:iD a=some x):a= .int x:=by
 cases a<;>first|(cases h;done)|exact congrArg D.int (Tc h)
theorem yM {v:PV} {x:Int} (h:iP v=some x):v= .d (.int x):=by
 cases v with
 |d a=>rw[KJ h]
 |_=>cases h
noncomputable def LQ:List PV->PM PV
 |[x,y,z]=>fun σ=>(iP x).bind fun a=>(iP y).bind fun b=>(iP z).bind fun c=>(ax ((bA a&&bA b&&decide (0<c)&&decide (c<1000))=true) (PV.d (.rng a b c))).map fun z=>(.ok z,σ)
 |_=>fun _=>none
theorem DC {K:R PV->aE->Prop} {σ:aE}:∀ {ps:List PV},Wp K (LQ ps σ)->∃ a b c,ps=[.d (.int a),.d (.int b),.d (.int c)]/\(bA a&&bA b&&decide (0<c)&&decide (c<1000))=true/\K (.ok (.d (.rng a b c))) σ
 |[x,y,z],w=>by
  have w:Wp K ((iP x).bind fun a=>(iP y).bind fun b=>(iP z).bind fun c=>(ax ((bA a&&bA b&&decide (0<c)&&decide (c<1000))=true) (PV.d (.rng a b c))).map fun z=>(.ok z,σ)):=w;cases e1:iP x with
  |none=>rw[e1] at w;exact w.elim
  |some a=>
   cases e2:iP y with
   |none=>rw[e1,e2] at w;exact w.elim
   |some b=>
    cases e3:iP z with
    |none=>rw[e1,e2,e3] at w;exact w.elim
    |some c=>
     rw[e1,e2,e3] at w;obtain ⟨z,e,k⟩:=fO w;obtain ⟨h,rfl⟩:=ec e;rw[yM e1,yM e2,yM e3];exact ⟨a,b,c,rfl,h,k⟩
 |[],w|[_],w|[_,_],w|_::_::_::_::_,w=>w.elim
noncomputable def AF:BF:=⟨"range",.type "range",by decide+kernel,fun _=>LQ,fun {C A P hd K ps vs Q E} _ _ I r w p=>by
 obtain ⟨a,b,c,rfl,h,k⟩:=DC w;obtain ⟨r1,r2⟩:vj C P (.d (.int a)) [.d (.int b),.d (.int c)] vs:=r.view;obtain ⟨r3,r4⟩:vj C P (.d (.int b)) [.d (.int c)] _:=r2.view;obtain ⟨r5,r6⟩:vj C P (.d (.int c)) [] _:=r4.view;obtain ⟨t1,q1⟩:∃ t,_=Value.int a t:=RD.view r1;obtain ⟨t2,q2⟩:∃ t,_=Value.int b t:=RD.view r3;obtain ⟨t3,q3⟩:∃ t,_=Value.int c t:=RD.view r5;rw[show _=[] from r6.view,q1,q2,q3];have h0:=S6 (aq (ah h));have h1:=S6 (aq h);exact call_range_3 (by exact Ne.symm (Int.ne_of_lt h0)) ((p.fin k).note I (I.push rfl) _ (.rng a b c _ _ _ (cc _ _ _))) (.inl (PyProof.noPylong_small (by exact nA (Tk h0) (Int.lt_trans h1 (by decide)))))⟩
noncomputable def jz (t:CT) (b:CS) (k:c9):Nat->bj->aE->Option (Out×aE)
 |0,_,_=>none
 |n+1,ρ,σ=>cO ρ (t.ts k ρ) (fun c=>if c then fun σ=>og (b.ex k ρ σ) (jz t b k n) else fun σ=>some (.next ρ,σ)) σ
section
variable {X:SX} {st:Stmt} {ρ:bj} {P:Pt} {K:Out->aE->Prop} {Q:Flow->Shared->Prop} {E:Value->Shared->Prop}
theorem C3 (t:CT) (b:CS) (N:Nat) (h:pu (fun te be el _=>el.isEmpty&&t.is X.sx te&&b.is X.sx be) st=true) (I:aR X.C P) (G:cV X P ρ)
  (w:jw K (jz t b X.ker N ρ P.σ)) (p:dc X P K Q E):wpAny X.M X.A (PySem.exec st X.env) Q E P.s:=by
 refine uC (fun st=>wpAny X.M X.A (PySem.exec st X.env) Q E P.s) h fun te be el pos h=> ?_;refine bY (fun el=>wpAny X.M X.A (PySem.exec (.While te be el pos) X.env) Q E P.s) (ah (ah h)) ?_;refine wpAny_While (codeAny_whileLoop (fun n s=>∃ P' ρ',s=P'.s/\fu P P'/\aR X.C P'/\cV X P' ρ'/\jw K (jz t b X.ker n ρ' P'.σ)) ?_ N ⟨P,ρ,rfl,G.gs (.refl P),I,G,w⟩);rintro n s ⟨P₁,ρ₁,rfl,g₁,I₁,G₁,w₁⟩;cases n with
 |zero=>exact w₁.elim
 |succ n=>
  have p₁:=p.mono g₁;have pE:dc X P₁ K Q (notedBy X.M X.A X.env (cameBackBy X.M X.A X.env E)):=⟨p₁.next,p₁.ret,fun c ρ' e P₄ g₄ I₄ xx G₄ k=>wM I₄ xx fun P₅ g₅ I₅ e₅ x₅=>p₁.ex c ρ' e P₅ (g₄.grow g₅) I₅ x₅ (G₄.ext g₅) (e₅ ▸ k)⟩;refine t.ok X.toCx te ρ₁ P₁ _ _ _ (aq (ah h)) I₁ G₁.toEnvOK (dP w₁) (pE.bind (Rel:=oW) G₁ fun c v P2 g I2 r w G2 p2=> ?_);rw[show v=c from r];cases c with
  |false=>exact wpAny_execs_nil (p2.go I2 G2 w)
  |true=>
   refine b.ok X be ρ₁ P2 (tK K (jz t b X.ker n)) _ _ (aq h) I2 G2 (zL w) ⟨fun ρ₄ P₄ g₄ I₄ G₄ k=>⟨n,Nat.lt_succ_self n,P₄,ρ₄,rfl,(g₁.trans (G₁.gs g)).trans g₄,I₄,G₄,k⟩,fun q u P₄ g₄ I₄ r₄ k=>p2.ret q u P₄ g₄ I₄ r₄ k,fun c ρ' e P₄ g₄ I₄ xx G₄ k=>p2.ex c ρ' e P₄ g₄ I₄ xx G₄ k⟩
end
noncomputable def Ds (N:Nat) (t:CT) (b:CS):C1:=⟨fun K=>jz t b K N,fun s=>pu fun te be el _=>el.isEmpty&&t.is s te&&b.is s be,fun _ _ _ _ _ _ _ h I G w p=>C3 t b N h I G w p⟩
end Mine.Internal
namespace Mine.Internal
open PySem PyProof.Rows PySem.W
variable {c:Nat}
section
open Builtin Builtin.Str
theorem Bd {C:bF} {A:Around} {s:Shared} {Q E:Value->Shared->Prop} {x y:PySem.Str} {t u:Tok} (hy:(y.length==0)=false) (h1:x.length<=sizeLine) (h2:x.length+2<=sizeLine)
  (h:∀ l k,l.map (·.1)=Txt.split x y->Q (.ref s.heap.objs.size) {s with toks:=k,heap:=s.heap.push {cls:=.type "list",data:=.seq (strValues l).toArray}}):wpAny C.M A (call (.builtin "str.split") [.str x t,.str y u]) Q E s:=by
 cases e1:(decide (x.length<y.length)||decide (strKind x<strKind y))
 .cases hf:(occurrences x y 0 x.length (x.length+1)).isEmpty
  .refine call_meets F.slot_str_split (typeIs_str _ _ _) F.entry_str_split (F.args_str_split_2 _ _) (meets_str_split_sep x y t u e1 hy hf h1 ?_) ?_
   .have:=split_le x y;unfold Txt.split at this;rw[if_neg (ne_true_of_eq_false e1),if_neg (ne_true_of_eq_false hf)] at this;exact Sv this h2
   .show wants Q E _ {s with toks:=_,heap:=s.heap.push {cls:=.type "list",data:=.seq (strsFrom s.toks (partsBetween x (occurrences x y 0 x.length (x.length+1)) y.length)).toArray}};rw[strsFrom_eq];exact h (numbered s.toks _) _ ((numbered_texts _ _).trans ((if_neg (ne_true_of_eq_false e1)).trans (if_neg (ne_true_of_eq_false hf))).symm)
  .exact call_meets F.slot_str_split (typeIs_str _ _ _) F.entry_str_split (F.args_str_split_2 _ _) (meets_str_split_not_found x y t u e1 hy hf)
    (h [(x,t)] _ ((if_neg (ne_true_of_eq_false e1)).trans (if_pos hf)).symm)
 .exact call_meets F.slot_str_split (typeIs_str _ _ _) F.entry_str_split (F.args_str_split_2 _ _) (meets_str_split_cannot_occur x y t u e1)
   (h [(x,t)] _ (if_pos e1).symm)
end
noncomputable def Gl (c x:Nat) (q:List (List Nat)):List (List Nat):=if x=c then []::q else (x::q.headD [])::q.tail
noncomputable def an (c:Nat):List Nat->List (List Nat)
 |[]=>[[]]
 |x::r=>Gl c x (an c r)
theorem dU {x:Nat} {r:List Nat}:an c (x::r)=Gl c x (an c r):=rfl
theorem ey:∀ {p:List Nat},c∉p->an c p=[p]:=by
 intro p
 induction p with
 |nil=>
  intro _;exact rfl
 |cons x p ih=>
  intro h;rw[dU,ih fun k=>h (.tail _ k)];exact if_neg fun e:x=c=>h (e ▸ .head _)
theorem dh {l:List Nat}:∀ {p:List Nat},c∉p->an c (p++c::l)=p::an c l:=by
 intro p
 induction p with
 |nil=>
  intro _;exact if_pos rfl
 |cons x p ih=>
  intro h;rw[List.cons_append,dU,ih fun k=>h (.tail _ k)];exact if_neg fun e:x=c=>h (e ▸ .head _)
theorem gu {c:Nat}:∀ {ps:List (List Nat)},ps≠[]->(∀ p∈ps,c∉p)->an c (aT [c] ps)=ps
 |[],h,_=>absurd rfl h
 |[p],_,h=>ey (h p (.head _))
 |p::q::r,_,h=>by
  show an c (p++[c]++aT [c] (q::r))=_;rw[List.append_assoc];exact (dh (h p (.head _))).trans (congrArg (p::·) (gu nofun fun x hx=>h x (.tail _ hx)))
theorem Be (l:List Nat) (c:Nat):Txt.split (b7 l) (b7 [c])=(an c l).map b7:=by
 have e:((Txt.split (b7 l) (b7 [c])).map fun p=>p.cps.toList).map b7=Txt.split (b7 l) (b7 [c]):=by
  rw[List.map_map];exact List.map_id _
 have h:=nH [c] ((Txt.split (b7 l) (b7 [c])).map fun p=>p.cps.toList);have h2:(PySem.Str.join (b7 [c]) (Txt.split (b7 l) (b7 [c]))).cps.toList=l:=congrArg (fun x:PySem.Str=>x.cps.toList) (StrLaws.join_split (b7 l) (b7 [c]));have h3:=h.symm.trans ((congrArg (fun q=>(PySem.Str.join (b7 [c]) q).cps.toList) e).trans h2);have hs:=gu (c:=c) (ps:=(Txt.split (b7 l) (b7 [c])).map fun p=>p.cps.toList) (fun q=>by
  have:=split_pos (b7 l) (b7 [c]);rw[List.map_eq_nil_iff.mp q] at this;exact absurd this (by decide)) fun p hp=>by
   obtain ⟨q,hq,rfl⟩:=SD.mp hp;exact StrLaws.split_free _ _ q hq
 rw[h3] at hs;rw[hs,e]
theorem gg (c:Nat):∀ l:List Nat,an c l=(an c l).headD []::(an c l).tail:=by
 intro l
 induction l with
 |nil=>
  exact rfl
 |cons x r ih=>
  rw[dU,Gl];split<;>rfl
theorem dD:∀ {l p:List Nat},p∈an c l->(∀ x∈p,x∈l)/\p.length<=l.length:=by
 intro l
 induction l with
 |nil=>
  intro p h;rw[Sq.mp h];exact ⟨aS,Sy _⟩
 |cons x r ih=>
  intro p h;have ih:=fun q hq=>ih (p:=q) hq;have up:∀ {q},q∈an c r->(∀ y∈q,y∈x::r)/\q.length<=r.length+1:=fun hq=>⟨fun y hy=>.tail _ ((ih _ hq).1 y hy),SP (ih _ hq).2⟩;have e:=gg c r;rw[dU,Gl] at h;split at h
  .rcases Sm.mp h with rfl|h
   .exact ⟨aS,SQ _⟩
   .exact up h
  .rcases Sm.mp h with rfl|h
   .have k:=ih ((an c r).headD []) (by rw[e];exact .head _);exact ⟨fun y hy=>(Sm.mp hy).elim (fun q=>q ▸ .head _) fun hy=>.tail _ (k.1 y hy),Tl k.2⟩
   .exact up (by rw[e];exact .tail _ h)
theorem vB {C:bF} {w:bJ}:∀ {ts:List (List Nat)} {l:List (PySem.Str×Tok)},(∀ t∈ts,jN t)->l.map (·.1)=ts.map b7->RDs C w (ts.map .str) (strValues l)
 |[],[],_,_=>.nil
 |t::ts,(x,k)::l,h,e=>by
  have e1:x=b7 t:=(List.cons.inj e).1;subst e1;exact .cons (.str t k (h t (.head _))) (vB (fun t ht=>h t (.tail _ ht)) (List.cons.inj e).2)
 |[],_::_,_,e=>nomatch e
 |_::_,[],_,e=>nomatch e
noncomputable def N0 (u v:D):Option (List D):=(sD u).bind fun s=>(sD v).bind fun t=>match t with
 |[c]=>ax (s.length<=1048576) ((an c s).map .str)
 |_=>none
theorem vD {C:bF} {A:Around} {P:Pt} {Q E:Value->Shared->Prop} {u v:D} {z:List D} {x y:Value} (I:aR C P) (hu:gm C P x u) (hv:gm C P y v) (e:N0 u v=some z)
  (k:∀ h' vs n t,FX C P h' P.h.objs.size (bp vs n)->RDs C P.own z vs->Q (.ref P.h.objs.size) {P.s with heap:=h',toks:=t}):wpAny C.M A (call (.builtin "str.split") [x,y]) Q E P.s:=by
 obtain ⟨s,e1,e⟩:=ak e;obtain ⟨t,e2,e⟩:=ak e;obtain ⟨ho,t1,q1⟩:=ed e1 hu;obtain ⟨_,t2,q2⟩:=ed e2 hv
 match t,e with
 |[c],e=>
  obtain ⟨hl,rfl⟩:=ec e;rw[q1,q2];refine Bd rfl (by show s.toArray.size<=_;rw[SJ];exact Sv hl (by decide)) (by show s.toArray.size+2<=_;rw[SJ];exact Sv (Nat.add_le_add_right hl 2) (by decide)) fun l t' hl=> ?_;have n:=I.push (o:=bp (strValues l) 0) rfl;exact k _ (strValues l) 0 t' n (vB (fun t ht=>⟨fun c hc=>ho.1 c ((dD ht).1 c hc),Sv (dD ht).2 ho.2⟩) (hl.trans (Be s c)))
 |[],e=>cases e
 |_::_::_,e=>cases e
noncomputable def iW:MF:=⟨"split","str","str.split",F.plainAttrs_str,F.slot_str_split,F.type_str_split,fun _=>B7,mW,fun x ps=>match ps with
 |[y]=>F0 (fun u v=>(N0 u v).map .lst) x y
 |_=>fun _=>none,fun {C A P K x ps v vs Q E} _ I r rs w p=>by
 match ps,rs,w with
 |[y],rs,w=>
  obtain ⟨r1,r2⟩:vj C P y [] vs:=rs.view;rw[show _=[] from r2.view];obtain ⟨u,v',z,e1,e2,e,w⟩:=lH w;obtain ⟨l,e3,rfl⟩:=aL e;exact vD I (bh I r e1) (bh I r1 e2) e3 fun h' ws n t nw rr=>(p.fin w).note I nw t (tZ I nw.own rr rfl)
 |[],_,w=>exact w.elim
 |_::_::_,_,w=>exact w.elim⟩
noncomputable def Sc (x y:PV):PM PV:=fun σ=>((rd σ x).bind fun u=>(rd σ y).bind fun v=>N0 u v).bind fun l=>jo (.fld (.list l)) σ
noncomputable def ph:MF:=⟨"split","str","str.split",F.plainAttrs_str,F.slot_str_split,F.type_str_split,fun _=>B7,mW,fun x ps=>match ps with
 |[y]=>Sc x y
 |_=>fun _=>none,fun {C A P K x ps v vs Q E} _ I r rs w p=>by
 match ps,rs,w with
 |[y],rs,w=>
  obtain ⟨r1,r2⟩:vj C P y [] vs:=rs.view;rw[show _=[] from r2.view];obtain ⟨l,e,w⟩:=oY w;obtain ⟨u,e1,e⟩:=ak e;obtain ⟨v',e2,e⟩:=ak e;exact vD I (bh I r e1) (bh I r1 e2) e fun h' ws n t nw rr=>p.make (f:=.list l) (t:=t) I nw ⟨_,n,rfl,rr.ext (fR nw.own)⟩ w
 |[],_,w=>exact w.elim
 |_::_::_,_,w=>exact w.elim⟩
end Mine.Internal
namespace Mine.Internal
open PySem PyProof.Rows PySem.W
variable {s:List Nat} {C:bF} {A:Around} {P:Pt} {E Q:Value->Shared->Prop} {v:Value} {i:Int} {c:Nat}
noncomputable def isDg (c:Nat):Bool:=decide (48<=c)&&decide (c<=57)
noncomputable def LD (s:List Nat):Option Nat:=ax (s≠[]/\s.all isDg=true/\s.length<=600) (NumText.digitsVal s)
noncomputable def oN:List Nat->Option Int
 |45::r=>Option.map (fun n:Nat=> -(n:Int)) (LD r)
 |s=>Option.map (fun n:Nat=>(n:Int)) (LD s)
theorem FQ (h:s.all isDg=true):NumText.AllDigits s:=fun c hc=>⟨S6 (ah (List.all_eq_true.mp h c hc)),S6 (aq (List.all_eq_true.mp h c hc))⟩
theorem tg {n:Int} (h:oN s=some n):PySem.intText? (b7 s)=some n/\s.length<=601:=by
 unfold oN at h;split at h
 .rename_i r
  obtain ⟨m,e,rfl⟩:=aL h;obtain ⟨⟨h1,h2,h3⟩,rfl⟩:=ec e;exact ⟨PySem.intText_neg (cs:=r) rfl (FQ h2) h1 (by show (45::r).toArray.size<=_;rw[SJ,Ss];omega),Tl h3⟩
 .obtain ⟨m,e,rfl⟩:=aL h;obtain ⟨⟨h1,h2,h3⟩,rfl⟩:=ec e;exact ⟨PySem.intText_digits (FQ h2) h1 (by show s.toArray.size<=_;rw[SJ];omega),SP h3⟩
noncomputable def IU:BF:=⟨"int",.type "int",by decide+kernel,fun _=>g1 fun u=>(sD u).bind fun s=>(oN s).map .int,fun {C A P hd K ps vs Q E} _ _ I r w p=>lX (fun vs=>wpAny C.M A (call (.type "int") vs) Q E P.s) I r w fun v u z h e k=>by
 obtain ⟨s,e1,e⟩:=ak e;obtain ⟨n,e2,rfl⟩:=aL e;obtain ⟨_,t,q⟩:=ed e1 h;rw[q];exact KIN.call_text (tg e2).1 (by show s.toArray.size<=_;rw[SJ];exact Sv (tg e2).2 (by decide)) ((p.fin k).tok I (.int _ _) _)⟩
noncomputable def RA (x:PV):List PV->PM PV
 |[y]=>F0 (fun u v=>(lD u).bind fun l=>(gP l).bind fun bs=>(bD v).bind fun b=>ax (b∈bs/\bs.length<=1000) (.int (bs.idxOf b:Nat))) x y
 |_=>fun _=>none
theorem MG {K:R PV->aE->Prop} {x:PV} {ps:List PV} {vs:List Value} (I:aR C P) (r:RV C P v x) (rs:mj C P ps vs) (w:Wp K (RA x ps P.σ)) (p:dN C A (RV C) P K Q E):wpAny C.M A (call (.builtin "list.index") (v::vs)) Q E P.s:=by
 match ps,rs,w with
 |[y],rs,w=>
  obtain ⟨r1,r2⟩:vj C P y [] vs:=rs.view;rw[show _=[] from r2.view];obtain ⟨u,v',z,e1,e2,e,w⟩:=lH w;obtain ⟨l,e3,e⟩:=ak e;obtain ⟨bs,e4,e⟩:=ak e;obtain ⟨b,e5,e⟩:=ak e;obtain ⟨⟨hb,hl⟩,rfl⟩:=ec e;rw[zC e5 (bh I r1 e2)];obtain @⟨a,ws,n,g,_,rr⟩:=h_ e3 (bh I r e1);have hv:=rL rr e4;have hj:bs.idxOf b<bs.length:=List.idxOf_lt_length_iff.mpr hb;have hw:ws.toArray.size=bs.length:=by rw[hv,SJ,Sk]
  have at_:∀ m (hm:m<ws.toArray.size),ws.toArray[m]=Value.bool (bs[m]'(hw ▸ hm)):=fun m hm=>by subst hv;simp
  refine call_meets PySem.F.slot_list_index ⟨_,g,rfl⟩ PySem.F.entry_list_index (PySem.F.args_list_index_2 _ _)
   (PySem.SeqAt.list_indexAt a ws.toArray n.n n.d n.sl (.bool b) (fun y=>y== .bool b) (bs.idxOf b) (hw ▸ hj) (by omega) ?_ ?_) ⟨g,fun y hy=> ?_,(p.fin w).tok I (.int _ _) _⟩
  .have e:=at_ _ (hw ▸ hj);rw[e,List.getElem_idxOf hj];exact beq_self_eq_true _
  .intro m hm hlt;rw[at_ m hm];have:bs[m]'(hw ▸ hm)≠b:=ne_of_beq_false (by simpa using List.not_of_lt_findIdx (p:=(· ==b)) (xs:=bs) hlt);exact beq_eq_false_iff_ne.mpr fun q=>this (Value.bool.inj q)
  .rw[hv,List.mem_toArray] at hy;obtain ⟨c,_,rfl⟩:=SD.mp hy;have:(Value.bool c==Value.bool b)=(c==b):=by cases c<;>cases b<;>rfl
   show PySem.SeqAt.EqAt _ _ _ _ (Value.bool c==Value.bool b);rw[this];exact PySem.SeqAt.EqAt.bool_bool c b
 |[],_,w=>exact w.elim
 |_::_::_,_,w=>exact w.elim
noncomputable def xW:MF:=⟨"index","list","list.index",F.plainAttrs_list,F.slot_list_index,F.type_list_index,Ez,AE,RA,fun _ I r rs w p=>MG I r rs w p⟩
noncomputable def fP (u lo hi:D):Option D:=(sD u).bind fun s=>(m6 0 lo).bind fun l=>(m6 s.length hi).bind fun h=>ax (cY l s.length<=cY h s.length) (.str (bC s (cY l s.length) (cY h s.length)))
theorem wZ {w:bJ} {n:Int}:∀ {p:D},RD C w p v->m6 n p=some i->∃ o:Option (Int×Tok),v=partValue o/\(o.map (·.1)=some i∨(o.map (·.1)=none/\i=n)):=by
 intro Z0 r e;cases Z0 with
 |none=>
  cases e;exact ⟨none,r.view,.inr ⟨rfl,rfl⟩⟩
 |int j=>
  obtain ⟨t,q⟩:∃ t,v= .int j t:=r.view;rw[<-(ec e).2];exact ⟨some (j,t),q,.inl rfl⟩
 |_=>cases e
theorem Fe (i:Int) (n:Nat):cY i n<=n:=by
 unfold cY;split<;>omega
theorem AQ (i:Int) (n:Nat):cY (cY i n:Int) n=cY i n:=by
 show (if ((cY i n:Nat):Int)<0 then _ else min ((cY i n:Nat):Int).toNat n)=_;rw[if_neg (Tp.mpr (Tn _)),Int.toNat_natCast,Nat.min_eq_left (Fe i n)]
theorem Hl {j:Int} {n:Nat}:Builtin.Str.strSliceIndices (some i) (some j) 1 n=Builtin.Str.strSliceIndices (some (cY i n:Int)) (some (cY j n:Int)) 1 n:=by
 have k:∀ a b:Int,Builtin.Str.strSliceIndices (some a) (some b) 1 n=sliceRange (cY a n) (cY b n) 1:=fun a b=>by
  rw[<-rB,<-rB,clipAt_cast,clipAt_cast];rfl
 rw[k,k,AQ,AQ]
theorem Bj {x:PySem.Str} {l u:Option Int} {j:Int} (hl:l=some i∨(l=none/\i=0)) (hu:u=some j∨(u=none/\j=x.length)) (h:cY i x.length<=cY j x.length):
  StrLaws.sliceText x l u=⟨(bC x.cps.toList (cY i x.length) (cY j x.length)).toArray⟩:=by
 refine Eq.trans ?_ (StrLaws.sliceText_nat x h (Fe _ _));unfold StrLaws.sliceText;have e:Builtin.Str.strSliceIndices l u 1 x.length=Builtin.Str.strSliceIndices (some i) (some j) 1 x.length:=by
  rcases hl with rfl|⟨rfl,rfl⟩
  .rcases hu with rfl|⟨rfl,rfl⟩
   .rfl
   .rw[StrLaws.sliceIdx_none_hi]
  .rcases hu with rfl|⟨rfl,rfl⟩
   .rw[StrLaws.sliceIdx_none_lo]
   .rw[StrLaws.sliceIdx_none_lo,StrLaws.sliceIdx_none_hi]
 rw[e,Hl]
theorem Gm {value:Expr} {le ue:Option Expr} {sp:Pos} {u lo hi z:D} {x vl vu:Value} (I:aR C P) (hu:gm C P x u) (r1:RD C P.own lo vl) (r2:RD C P.own hi vu) (e:fP u lo hi=some z) (k:oX C P z Q):
  wpAny C.M A (subscriptTail value (.Slice le ue none sp) x (.ref P.h.objs.size)) Q E {P.s with heap:=P.h.push {cls:=.type "slice",data:=.fields #[vl,vu,.none]}}:=by
 obtain ⟨s,e1,e⟩:=ak e;obtain ⟨i,e2,e⟩:=ak e;obtain ⟨j,e3,e⟩:=ak e;obtain ⟨hc,rfl⟩:=ec e;obtain ⟨ho,t,q⟩:=ed e1 hu;obtain ⟨o1,f1,p1⟩:=wZ r1 e2;obtain ⟨o2,f2,p2⟩:=wZ r2 e3;have hn:(b7 s).length=s.length:=SJ;have hs:=Bj (x:=b7 s) p1 (by rw[hn];exact p2) (by rw[hn];exact hc);rw[hn] at hs;have hl:(bC s (cY i s.length) (cY j s.length)).length<=s.length:=by
  rw[bC,List.length_take,List.length_drop];exact Sv (Nat.min_le_right _ _) (Nat.sub_le _ _)
 rw[q];refine tail_any (typeIs_str _ _ t) F.slot_str_getitem.lookup (wpAny_getItem_str_slice (l:=o1) (u:=o2) (st:=none) ⟨_,SH _ rfl,rfl,by rw[f1,f2];rfl⟩ rfl (post_val_or_str ⟨?_,fun t' n=> ?_⟩)) (ops:=[.ref P.h.objs.size,.str (b7 s) t]) rfl
 .show (StrLaws.sliceText (b7 s) (o1.map (·.1)) (o2.map (·.1))).length<=sizeLine;rw[hs];show (List.toArray _).size<=sizeLine;rw[SJ];exact Sv hl (Sv ho.2 (by decide))
 .have q:=k.grown I (h':=P.h.push {cls:=.type "slice",data:=.fields #[vl,vu,.none]}) (v:=.str (StrLaws.sliceText (b7 s) (o1.map (·.1)) (o2.map (·.1))) t') (fun b o e=>Su _ e) (by
   rw[hs];exact .str _ t' ⟨fun c hc=>ho.1 c (List.mem_of_mem_drop (List.mem_of_mem_take hc)),Sv hl ho.2⟩) n
  exact q
noncomputable def xC (a:CE) (lo hi:CP):CE:=⟨fun K ρ=>bU (a.ev K ρ) fun x=>bU (lo.ev K ρ) fun l=>bU (hi.ev K ρ) fun h=>fun σ=>((rd σ x).bind fun u=>(mZ l).bind fun l=>(mZ h).bind fun h=>(fP u l h).map PV.d).map fun z=>(.ok z,σ),fun s=>u_ fun v l u=>a.is s v&&lo.is s l&&hi.is s u,fun X e ρ P K Q E h I G w p=>
 oC (fun e=>wpAny X.M X.A (eval e X.env) Q E P.s) h fun v l u sp pos h=>Subscript_ (a.ok X v ρ P _ _ E (ah (ah h)) I G (aQ w) (p.bind fun x v P1 g1 I1 r1 w p=>
  wpAny_Slice (lo.ok X l ρ P1 _ _ E (aq (ah h)) I1 (G.ext g1) (aQ w) (p.bind fun y1 v1 P2 g2 I2 r2 w p=>
   hi.ok X u ρ P2 _ _ E (aq h) I2 ((G.ext g1).ext g2) (aQ w) (p.bind fun y2 v2 P3 g3 I3 r3 w p=>by
    obtain ⟨z,e,k⟩:=fO w;obtain ⟨u1,e1,e⟩:=ak e;obtain ⟨u2,e2,e⟩:=ak e;obtain ⟨u3,e3,e⟩:=ak e;obtain ⟨z,e4,rfl⟩:=aL e;rw[evalPart_none];exact SA (Gm I3 (bh I3 ((r1.ext g2.toExt).ext g3.toExt) e1) (rA e2 (r2.ext g3.toExt)) (rA e3 r3) e4 (p.fin k)))))))⟩
noncomputable def dI (c:Nat) (s:List Nat):List Nat:=s.takeWhile (· !=c)
noncomputable def gt (c:Nat) (s:List Nat):List Nat:=(s.dropWhile (· !=c)).tail
theorem eW:∀ {s:List Nat},c∈s->s=dI c s++c::gt c s/\c∉dI c s:=by
 intro s
 induction s with
 |nil=>
  intro h;exact nomatch h
 |cons x s ih=>
  intro h;by_cases q:x=c
  .subst q;rw[show dI x (x::s)=[] from List.takeWhile_cons_of_neg (by simp),show gt x (x::s)=s from congrArg List.tail (List.dropWhile_cons_of_neg (by simp))];exact ⟨rfl,nofun⟩
  .obtain ⟨k1,k2⟩:=ih ((Sm.mp h).resolve_left fun e=>q e.symm);rw[show dI c (x::s)=x::dI c s from List.takeWhile_cons_of_pos (by simpa using q),show gt c (x::s)=gt c s from congrArg List.tail (List.dropWhile_cons_of_pos (by simpa using q))];exact ⟨congrArg (x::·) k1,fun m=>(Sm.mp m).elim (fun e=>q e.symm) k2⟩
section
open Builtin Builtin.Str
theorem wK (h:c∈s):occurrences (b7 s) (b7 [c]) 0 (b7 s).length 1=[(dI c s).length]/\strSub (b7 s) 0 (dI c s).length=b7 (dI c s)/\strSub (b7 s) ((dI c s).length+1) (b7 s).length=b7 (gt c s):=by
 obtain ⟨e,hn⟩:=eW h;generalize dI c s=p at e hn;generalize gt c s=r at e;subst e;have hl:(b7 (p++c::r)).length=p.length+(r.length+1):=by
  show (p++c::r).toArray.size=_;rw[SJ,Sn];rfl
 have at_:∀ i,StrLaws.At (b7 (p++c::r)) (b7 [c]) (b7 (p++c::r)).length i<->(p++c::r)[i]? =some c:=fun i=>StrLaws.subAt_one (b7 (p++c::r)) c i;have hp:(p++c::r)[p.length]? =some c:=by rw[SK (Sy _),Nat.sub_self];rfl
 refine ⟨?_,?_,?_⟩
 .rcases StrLaws.occ_head (b7 (p++c::r)) (b7 [c]) 1 (Sy _) with ⟨_,k⟩|⟨i,q,e,k1,k2⟩
  .exact absurd ((at_ _).mpr hp) (k _)
  .have hq:=StrLaws.occ_length_le (b7 (p++c::r)) (b7 [c]) 0 (b7 (p++c::r)).length 1;rw[e] at hq ⊢;rw[List.length_eq_zero_iff.mp (Nat.le_zero.mp (Nat.le_of_succ_le_succ hq))];refine congrArg (· ::[]) (Nat.le_antisymm ?_ ?_)
   .exact Nat.le_of_not_lt fun q=>k2 _ q ((at_ _).mpr hp)
   .refine Nat.le_of_not_lt fun q=>hn ?_;have:=(at_ _).mp k1;rw[S_ q] at this;exact SR this
 .refine PySem.Str.ext' (Array.toList_inj.mp ((StrLaws.strSub_toList _ _ _).trans ?_));show ((p++c::r).drop 0).take (p.length - 0)=p;rw[List.drop_zero,Nat.sub_zero,List.take_left]
 .refine PySem.Str.ext' (Array.toList_inj.mp ((StrLaws.strSub_toList _ _ _).trans ?_));show ((p++c::r).drop (p.length+1)).take ((b7 (p++c::r)).length - (p.length+1))=r;rw[hl,List.drop_append,List.drop_eq_nil_of_le (S8 _),Nat.add_sub_cancel_left];exact List.take_of_length_le (by show r.length<=_;omega)
end
theorem Dh (ho:jN s) (h:c∈s):jN (dI c s)/\jN (gt c s):=by
 obtain ⟨e,_⟩:=eW h;obtain ⟨h1,h2⟩:=ho;rw[e] at h1 h2;rw[Sn,Ss] at h2;exact ⟨⟨fun y hy=>h1 y (List.mem_append_left _ hy),Sv (Th _ _) h2⟩,⟨fun y hy=>h1 y (List.mem_append_right _ (.tail _ hy)),by show _<=_;omega⟩⟩
noncomputable def Q8 (x:PV):List PV->PM PV
 |[y]=>F0 (fun u v=>(sD u).bind fun s=>(sD v).bind fun t=>match t with
  |[c]=>ax (s.length<=1048576/\c∈s) (.tup [.str (dI c s),.str [c],.str (gt c s)])
  |_=>none) x y
 |_=>fun _=>none
theorem LS {K:R PV->aE->Prop} {x:PV} {ps:List PV} {vs:List Value} (I:aR C P) (r:RV C P v x) (rs:mj C P ps vs) (w:Wp K (Q8 x ps P.σ)) (p:dN C A (RV C) P K Q E):wpAny C.M A (call (.builtin "str.partition") (v::vs)) Q E P.s:=by
 match ps,rs,w with
 |[y],rs,w=>
  obtain ⟨r1,r2⟩:vj C P y [] vs:=rs.view;rw[show _=[] from r2.view];obtain ⟨u,v',z,e1,e2,e,w⟩:=lH w;obtain ⟨s,e3,e⟩:=ak e;obtain ⟨t,e4,e⟩:=ak e;obtain ⟨ho,t1,q1⟩:=ed e3 (bh I r e1);obtain ⟨ho2,t2,q2⟩:=ed e4 (bh I r1 e2)
  match t,e,ho2,q2 with
  |[c],e,ho2,q2=>
   obtain ⟨⟨hl,hc⟩,rfl⟩:=ec e;rw[q1,q2];obtain ⟨k1,k2,k3⟩:=wK hc;refine call_meets F.slot_str_partition (typeIs_str _ _ _) F.entry_str_partition (F.args_str_partition_2 _ _) (meets_str_partition (b7 s) (b7 [c]) t1 t2 rfl (by show s.toArray.size<=_;rw[SJ];exact Sv hl (by decide))) ?_;rw[k1];show Q (.ref P.h.objs.size) _;dsimp only;rw[k2,show (b7 [c]).length=1 from rfl,k3];have n:=I.push (o:=dA [.str (b7 (dI c s)) P.s.toks,.str (b7 [c]) t2,.str (b7 (gt c s)) (P.s.toks+1)] 0) rfl;obtain ⟨hs1,hs2⟩:=Dh ho hc;exact (p.fin w).note I n _ (pY I n.own (.cons (.str _ _ hs1) (.cons (.str _ _ ho2) (.cons (.str _ _ hs2) .nil))) rfl)
  |[],e,_,_=>cases e
  |_::_::_,e,_,_=>cases e
 |[],_,w=>exact w.elim
 |_::_::_,_,w=>exact w.elim
noncomputable def lM:MF:=⟨"partition","str","str.partition",F.plainAttrs_str,F.slot_str_partition,F.type_str_partition,fun _=>B7,mW,Q8,fun _ I r rs w p=>LS I r rs w p⟩
end Mine.Internal
namespace Mine.Internal
open PySem PyProof.Rows PySem.W
section
open Builtin Builtin.Str
theorem wD (x y z:PySem.Str) (t u v k:Tok) {i:Nat} {r:List Nat} (ho:occurrences x y 0 x.length 1=i::r) (hz:(y.length==0&&z.length==0)=false)
  (h0:(u==0||v==0)=false) (huv:(u==v)=false) (hyz:(y==z)=false) (hl:tooLong (x.length+(r.length+1)*z.length)=false):
  Gives («str.replace» ⟨[.str x t,.str y u,.str z v,.int 1 k],[]⟩) (.str (glued z (partsBetween x (i::r) y.length))):=by
 show Gives (do
  let limit<-countLimit "str.replace" (some (.int 1 k)) (x.length+1)
  if ((occurrences x y 0 x.length limit).isEmpty||(y.length==0&&z.length==0))=true then (do rule "str.replace.nothing";PySem.ret (Value.str x t)) else
     (do let same<-isSame (.str y u) (.str z v);if same=true then (do rule "str.replace.old-is-new";PySem.ret (Value.str x t)) else if tooLong (x.length+(occurrences x y 0 x.length limit).length*z.length)=true then unsupported "str.replace:memory" else retStr (glued z (partsBetween x (occurrences x y 0 x.length limit) y.length)))) _
 have e:countLimit "str.replace" (some (.int 1 k)) (x.length+1)=pure 1:=rfl;rw[e];show Gives (if ((occurrences x y 0 x.length 1).isEmpty||(y.length==0&&z.length==0))=true then (do rule "str.replace.nothing";PySem.ret (Value.str x t)) else
     (do let same<-isSame (.str y u) (.str z v);if same=true then (do rule "str.replace.old-is-new";PySem.ret (Value.str x t)) else if tooLong (x.length+(occurrences x y 0 x.length 1).length*z.length)=true then unsupported "str.replace:memory" else retStr (glued z (partsBetween x (occurrences x y 0 x.length 1) y.length)))) _
 rw[ho,hz,isSame_str_other y z u v h0 huv hyz,Ss,hl];exact .of_eq rfl
end
abbrev Q1 (m:Nat) (C:bF) (P:Pt) (v:Value) (z:PV):Prop:=m<=P.s.toks/\RV C P v z
abbrev Np (m:Nat) (C:bF) (P:Pt) (vs:List Value) (zs:List PV):Prop:=m<=P.s.toks/\mj C P zs vs
structure CG (n m:Nat) where
 ev:c9->bj->PM PV
 is:Sx->Expr->Bool
 ok:∀ (X:Cx) (e:Expr) (ρ:bj) (P:Pt) (K:R PV->aE->Prop) (Q E:Value->Shared->Prop),is X.sx e=true->n<=P.s.toks->aR X.C P->EnvOK X P ρ->Wp K (ev X.ker ρ P.σ)->bx X (Q1 m X.C) P K Q E->wpAny X.M X.A (eval e X.env) Q E P.s
structure Ir (n m:Nat) where
 ev:c9->bj->PM (List PV)
 is:Sx->List Expr->Bool
 star:∀ sx es env pos,is sx es=true->∀ x∈backTo pos (starEach es env),x.1=false
 ok:∀ (X:Cx) (es:List Expr) (pos:Pos) (ρ:bj) (P:Pt) (K:R (List PV)->aE->Prop) (Q:List Value->Shared->Prop) (E:Value->Shared->Prop),is X.sx es=true->n<=P.s.toks->aR X.C P->EnvOK X P ρ->Wp K (ev X.ker ρ P.σ)->bx X (Np m X.C) P K Q E->
  wpAny X.M X.A (spliced (backTo pos (starEach es X.env))) Q E P.s
theorem im {α β:Type} {C:bF} {A:Around} {Rel:Pt->β->α->Prop} {P:Pt} {K:R α->aE->Prop} {Q:β->Shared->Prop} {E:Value->Shared->Prop} {n:Nat} (p:dN C A (fun P v z=>n<=P.s.toks/\Rel P v z) P K Q E):
  dN C A Rel P K (fun v s=>n<=s.toks->Q v s) (fun e s=>n<=s.toks->E e s):=
 ⟨fun z v P' g I r k h=>p.ok z v P' g I ⟨h,r⟩ k,fun c e P' g I x k _=>p.ex c e P' g I x k⟩
noncomputable def CE.up (a:CE) (n:Nat):CG n n:=⟨a.ev,a.is,fun X e ρ P K Q E h hn I G w p=>wpAny_with_toks hn (a.ok X e ρ P K _ _ h I G w (im p))⟩
noncomputable def CL.up (a:CL) (n:Nat):Ir n n:=⟨a.ev,a.is,a.star,fun X e pos ρ P K Q E h hn I G w p=>wpAny_with_toks hn (a.ok X e pos ρ P K _ _ h I G w (im p))⟩
noncomputable def Ir.dn {m:Nat} (a:Ir 0 m):CL:=⟨a.ev,a.is,a.star,fun X e pos ρ P K Q E h I G w p=>a.ok X e pos ρ P K Q E h (SQ _) I G w ⟨fun z v P' g I r k=>p.ok z v P' g I r.2 k,p.ex⟩⟩
noncomputable def w7 {n m k:Nat} (o:BO) (a:CG n m) (b:CG m k):CG n k:=⟨fun K ρ=>bU (a.ev K ρ) fun x=>bU (b.ev K ρ) fun y=>F0 o.g x y,fun s=>ji fun l op r _=>op==o.op&&a.is s l&&b.is s r,fun X e ρ P K Q E h hn I G w p=>
 gb (fun e=>wpAny X.M X.A (eval e X.env) Q E P.s) h fun l op r pos h=>wpAny_BinOp (a.ok X l ρ P _ _ E (aq (ah h)) hn I G (aQ w) (p.bind fun x v P1 g1 I1 r1 w p=>
  b.ok X r ρ P1 _ _ E (aq h) r1.1 I1 (G.ext g1) (aQ w) (p.bind fun y u P2 g2 I2 r2 w p=>by
   obtain ⟨i,j,z,e1,e2,e3,q⟩:=lH w;rw[bN (ah (ah h))];exact wpAny_with_toks r2.1 (o.ok I2 (bh I2 (r1.2.ext g2.toExt) e1) (bh I2 r2.2 e2) e3 ((im p).fin q)))))⟩
noncomputable def LE {n m k:Nat} (a:CG n m) (l:Ir m k):Ir n k:=⟨fun K ρ=>bU (a.ev K ρ) fun x=>bU (l.ev K ρ) fun xs=>ret (x::xs),fun s=>kY (fun e=>iR e&&a.is s e) (l.is s),fun sx es env pos h=>
 cK (fun es=>∀ x∈backTo pos (starEach es env),x.1=false) h fun e r h1 h2 x hx=>by
  rw[cI (ah h1)] at hx;rcases Sm.mp hx with q|q
  .rw[q]
  .exact l.star sx r env pos h2 x q,fun X es pos ρ P K Q E h hn I G w p=>
 cK (fun es=>wpAny X.M X.A (spliced (backTo pos (starEach es X.env))) Q E P.s) h fun e r h1 h2=>by
  rw[cI (ah h1)];exact Calls.spliced_cons (a.ok X e ρ P _ _ E (aq h1) hn I G (aQ w) (p.bind fun x v P1 g1 I1 r1 w p=>
   l.ok X r pos ρ P1 _ _ E h2 r1.1 I1 (G.ext g1) (aQ w) ⟨fun xs vs P2 g2 I2 r2 k=>p.ok (x::xs) (v::vs) P2 g2 I2 ⟨r2.1,.cons (r1.2.ext g2.toExt) r2.2⟩ k,p.ex⟩))⟩
noncomputable def Ka {n m:Nat} (l:Ir n m):CG n m:=⟨fun K ρ=>bU (l.ev K ρ) (xq fun ds=>.d (.lst ds)),fun s=>me fun es _=>l.is s es,fun X e ρ P K Q E h hn I G w p=>
 kz (fun e=>wpAny X.M X.A (eval e X.env) Q E P.s) h fun es pos h=>List_ (l.ok X es pos ρ P _ _ E h hn I G (aQ w) (p.bind fun xs vs P1 g1 I1 r1 w p=>wpAny_with_toks r1.1 (sY I1 r1.2 w (im p))))⟩
noncomputable def Fh (s:List Nat):CG 0 1:=⟨fun _ _=>ret (.d (.str s)),fun _=>cz fun c _ _=>CD (fun x=>x.cps.toList==s&&Lz s) c,fun X e ρ P K Q E h _ I _ w p=>
 bO (fun e=>wpAny X.M X.A (eval e X.env) Q E P.s) h fun c k pos h=>iH (fun c=>wpAny X.M X.A (eval (.Constant c k pos) X.env) Q E P.s) h fun x h=>wpAny_Constant_str (((im p).fin w).tok I (lJ (bN (ah h)) (ud (aq h)) _) _ (Nat.le_add_left 1 _))⟩
theorem DF {C:bF} {A:Around} {S:Shared} {Q E:Value->Shared->Prop} {c:Nat} {s z:List Nat} {t u v k:Tok} (hc:c∈s) (hs:s.length<=100000) (hz:z.length<=14) (hne:z≠[c]) (h0:u≠0) (h1:v≠0) (h2:u≠v)
  (h:∀ t k,Q (.str (b7 (dI c s++z++gt c s)) t) {S with toks:=k}):wpAny C.M A (call (.builtin "str.replace") [.str (b7 s) t,.str (b7 [c]) u,.str (b7 z) v,.int 1 k]) Q E S:=by
 obtain ⟨k1,k2,k3⟩:=wK hc;have e:Builtin.Str.glued (b7 z) (Builtin.Str.partsBetween (b7 s) [(dI c s).length] (b7 [c]).length)=b7 (dI c s++z++gt c s):=by
  rw[StrLaws.partsBetween_eq,StrLaws.glued_eq_join];show PySem.Str.join (b7 z) [Builtin.Str.strSub (b7 s) 0 (dI c s).length,Builtin.Str.strSub (b7 s) ((dI c s).length+1) (b7 s).length]=_;rw[k2,k3];exact congrArg PySem.Str.mk (by show (dI c s).toArray++z.toArray++(gt c s).toArray=_;rw[List.append_toArray,List.append_toArray])
 have hl:(b7 s).length=s.length:=SJ;have hzl:(b7 z).length=z.length:=SJ;refine call_gives F.slot_str_replace (typeIs_str _ _ _) F.entry_str_replace (F.args_str_replace_4 _ _ _ _) (wD (b7 s) (b7 [c]) (b7 z) t u v k k1 rfl (by simp [h0,h1]) (by simpa using h2) (beq_eq_false_iff_ne.mpr fun q=>hne (congrArg (fun x:PySem.Str=>x.cps.toList) q).symm) ?_) ?_
 .rw[hl,hzl];unfold Builtin.Str.tooLong sizeLine;exact Tf (by simp;omega)
 .rw[e];refine ⟨?_,h _ _⟩;show (dI c s++z++gt c s).toArray.size<=sizeLine;obtain ⟨e5,_⟩:=eW hc;have:=congrArg List.length e5;rw[Sn,Ss] at this;rw[SJ,Sn,Sn];exact Sv (by omega:_<=100014) (by decide)
noncomputable def R7 (c:Nat) (z:List Nat) (x:PV):PM PV:=fun σ=>((rd σ x).bind fun u=>(sD u).bind fun s=>ax (c∈s/\s.length<=100000/\z.length<=14/\z≠[c]) (PV.d (.str (dI c s++z++gt c s)))).map fun z=>(.ok z,σ)
theorem sO {X:Cx} {e:Expr} {l:List Nat} {S:Shared} {Q E:Value->Shared->Prop} (h:(au l).is X.sx e=true) (k:Q (.str (b7 l) S.toks) {S with toks:=S.toks+1}):wpAny X.M X.A (eval e X.env) Q E S:=
 bO (fun e=>wpAny X.M X.A (eval e X.env) Q E S) h fun c _ pos h=>iH (fun c=>wpAny X.M X.A (eval (.Constant c _ pos) X.env) Q E S) h fun x h=>by
  obtain ⟨⟨x⟩⟩:=x;have e:(⟨⟨x⟩⟩:PySem.Str)=b7 l:=congrArg (fun q:List Nat=>(⟨⟨q⟩⟩:PySem.Str)) (bN (ah h));rw[e];exact wpAny_Constant_str k
theorem Fg {s:Sx} {e:Expr} {l:List Nat} (h:(au l).is s e=true):jN l:=
 bO (fun _=>jN l) h fun c _ pos h=>iH (fun _=>jN l) h fun x h=>ud (aq h)
noncomputable def IC (o:CE) (c:Nat) (z:List Nat):CG 1 1:=⟨fun K ρ=>bU (o.ev K ρ) fun x=>ER (fun _=>B7) x (R7 c z x),fun s=>kW fun v x ap es pos=>x==("replace":PySem.Str)&&fM v&&ap.endLine==pos.line&&o.is s v&&(aj (au [c]) (aj (au z) (aj (ai 1) az))).is s es&&decide (es.length<29),fun X e ρ P K Q E h hn I G w p=>
 jh (fun e=>wpAny X.M X.A (eval e X.env) Q E P.s) h fun v x ap es pos h=>by
  rw[bN (ah (ah (ah (ah (ah h)))))];have hl:=aq (ah h);have hp:=(aj (au [c]) (aj (au z) (aj (ai 1) az))).star X.sx es X.env pos hl;refine wpAny_Call_method_late (pG (aq (ah (ah (ah (ah h)))))) (ze hl (S6 (aq h))) (aq (ah (ah (ah h)))) rfl ?_;refine (o.up 1).ok X v ρ P _ _ E (aq (ah (ah h))) hn I G (aQ w) (p.bind fun x v P1 g1 I1 r1 w p=> ?_);obtain ⟨⟨u,e1,e2⟩,w⟩:=C0 w;obtain ⟨k4,k5⟩:=mW I1 r1.2 e1 e2;refine ⟨"str","str.replace",F.plainAttrs_str,F.slot_str_replace,F.type_str_replace,k4,k5, ?_⟩;refine Calls.callWith_builtin (dM hp) (c_ hp ?_);refine cK (fun es=>wpAny X.M X.A (spliced (backTo pos (starEach es X.env))) _ E P1.s) hl fun e r h1 h2=> ?_;rw[cI (ah h1)];refine Calls.spliced_cons (sO (aq h1) ?_);refine cK (fun es=>wpAny X.M X.A (spliced (backTo pos (starEach es X.env))) _ E _) h2 fun e r h1 h2=> ?_;rw[cI (ah h1)];have hz:=(Fg (aq h1));refine Calls.spliced_cons (sO (aq h1) ?_);refine cK (fun es=>wpAny X.M X.A (spliced (backTo pos (starEach es X.env))) _ E _) h2 fun e r h1 h2=> ?_;rw[cI (ah h1)];refine Calls.spliced_cons (bO (fun e=>wpAny X.M X.A (eval e X.env) _ E _) (aq h1) fun c k pos' h=>tC (fun c=>wpAny X.M X.A (eval (.Constant c k pos') X.env) _ E _) h fun j h=>wpAny_Constant_int ?_);rw[<-bN h];refine bY (fun es=>wpAny X.M X.A (spliced (backTo pos (starEach es X.env))) _ E _) h2 (Calls.spliced_nil ?_);obtain ⟨z',e,q⟩:=fO w;obtain ⟨u',e3,e⟩:=ak e;obtain ⟨s,e4,e⟩:=ak e;obtain ⟨⟨hc,h3,h4,h5⟩,rfl⟩:=ec e;obtain ⟨ho,t,q1⟩:=ed e4 (bh I1 r1.2 e3);rw[q1];have h6:=r1.1;refine wpAny_with_toks (n:=1) (Nat.le_add_left 1 _) (DF hc h3 h4 h5 (Nat.ne_of_gt h6) (Nat.succ_ne_zero _) (Nat.ne_of_lt (Nat.lt_succ_self _)) fun t k=>((im p).fin q).tok I1 (.str _ t ?_) k);obtain ⟨s1,s2⟩:=Dh ho hc;refine ⟨fun y hy=> ?_,?_⟩
  .rcases SF.mp hy with hy|hy
   .rcases SF.mp hy with hy|hy
    .exact s1.1 y hy
    .exact hz.1 y hy
   .exact s2.1 y hy
  .obtain ⟨e5,_⟩:=eW hc;have:=congrArg List.length e5;rw[Sn,Ss] at this;rw[Sn,Sn];exact Sv (by omega:_<=100014) (by decide)⟩
end Mine.Internal
namespace Mine.Internal
open PySem PyProof.Rows PySem.W
variable {N c d i j k m n:Nat} {K:c9} {α β:Type} {ρ ρ':bj} {ds r σ σ' σ'':aE} {f f':cD} {hd kp q:Bool} {z:Option (R PV×aE)} {a bT e it ke o:CE} {ks l vs:List D} {u v:D} {M b g t way:Int} {a2 x y:PV} {xs:List PV} {note s:List Nat} {F G T ns:List (List Nat)} {X o' o1 o2:PO} {sc:List Int} {x2 x3 x4 x7:Option PV}
noncomputable def j5 (w f:List Nat):Bool:= !f.isEmpty&&decide (f.length<=60)&&f.all isDg&& !(f.head? ==some 48&&w !=[48])
noncomputable def eJ:List Nat->List Nat
 |45::r=>r
 |w=>w
noncomputable def a_ (w:List Nat):Option Int:=if j5 w (eJ w)=true then oN w else none
noncomputable def eM (m:Nat):List Nat:=(Nat.toDigits 10 m).map Char.toNat
theorem uR (m:Nat):eM m≠[]/\(eM m).all isDg=true/\NumText.digitsVal (eM m)=m/\(m≠0->(eM m).head? ≠some 48)/\(m=0->eM m=[48]):=by
 have h3:NumText.digitsVal (eM m)=m:=KIN.val_back m;have h2:∀ c∈eM m,48<=c/\c<=57:=fun c hc=>by
  obtain ⟨ch,hch,e⟩:=SD.mp hc;rw[<-e];exact digit_range (Nat.isDigit_of_mem_toDigits (by decide) (by decide) hch)
 have h1:eM m≠[]:=fun e=>by
  have:=congrArg List.length e;rw[eM,Sk,Te] at this;exact absurd (List.length_eq_zero_iff.mp this) Nat.toDigits_ne_nil
 refine ⟨h1,List.all_eq_true.mpr fun c hc=>by rw[isDg,SC (h2 c hc).1,SC (h2 c hc).2];rfl,h3,fun hm hh=> ?_,fun hm=>by rw[hm];decide⟩;obtain ⟨c,r,e⟩:=List.exists_cons_of_ne_nil h1;have t:=NumText.toDigits_all (eM m) h2;rw[h3] at t;rw[e] at hh t;obtain rfl:c=48:=Tc hh;have l:(Nat.toDigits 10 m).length=r.length+1:=by
  have:=congrArg List.length e
  rwa [eM,Sk,Ss] at this
 rw[List.dropWhile_cons_of_pos (by decide)] at t;have dl:(r.dropWhile (· ==48)).length<=r.length:=(List.dropWhile_sublist _).length_le;cases q:r.dropWhile (· ==48) with
 |nil=>
  rw[q] at t;have t:Nat.toDigits 10 m=['0']:=t;rw[t] at l;have r0:r=[]:=List.length_eq_zero_iff.mp (by simpa using l.symm);rw[e,r0] at h3;exact hm h3.symm
 |cons x y=>
  rw[q] at t dl;have t:Nat.toDigits 10 m=(x::y).map Char.ofNat:=t;rw[t,Sk] at l;omega
theorem tj {w:List Nat} (h:m<10^31) (hw:m≠0∨w=[48]):j5 w (eM m)=true/\LD (eM m)=some m:=by
 obtain ⟨h1,h2,h3,h4,h5⟩:=uR m;have l:(eM m).length<=60:=by
  have e:(Str.ofString (toString ((m:Nat):Int))).cps.toList=eM m:=KIN.signs_num m;have e2:(Str.ofString (toString ((m:Nat):Int))).length=(toString ((m:Nat):Int)).length:=PySem.ofString_length _;have e3:=int_text_length_le10 (a:=(m:Int)) (k:=31) (by decide) h;have e4:(Str.ofString (toString ((m:Nat):Int))).length=(eM m).length:=by rw[<-e];exact (Array.length_toList).symm
  omega
 constructor
 .unfold j5;rw[h2,SC l,show (eM m).isEmpty=false by simpa using h1];rcases hw with q|q
  .rw[beq_eq_false_iff_ne.mpr (h4 q)];rfl
  .rw[q,bne_self_eq_false,Bool.and_false];rfl
 .refine (if_pos ⟨h1,h2,by omega⟩).trans (congrArg some h3)
theorem zn (m:Nat):aP (m:Int)=eM m:=KIN.signs_num m
theorem zm (k:Nat):aP (Int.negSucc k)=45::eM (k+1):=by
 unfold aP;rw[Str.ofString_eq_toList];show ("-"++Nat.repr (k+1)).toList.map Char.toNat=_;rw[String.toList_append,List.map_append,Nat.toList_repr];rfl
theorem b9 {n:Int} (h:n.natAbs<10^31):a_ (aP n)=some n/\(aP n).all (fun c=>c==45||isDg c)=true:=by
 cases n with
 |ofNat m=>
  have e:aP (Int.ofNat m)=eM m:=zn m;obtain ⟨h1,h2,h3,h4,h5⟩:=uR m;have h:m<10^31:=h;have hw:m≠0∨eM m=[48]:=(Decidable.em (m=0)).symm.imp id h5;obtain ⟨g1,g2⟩:=tj h hw;have n45:∀ r,eM m≠45::r:=fun r q=>by
   rw[q] at h2;exact absurd h2 (by simp [isDg])
  have f:eJ (eM m)=eM m:=by
   unfold eJ;split
   .rename_i r q;exact absurd q (n45 r)
   .rfl
  have i:oN (eM m)=some (m:Int):=by
   unfold oN;split
   .rename_i r q;exact absurd q (n45 r)
   .rw[g2];rfl
  rw[e,a_,f,if_pos g1,i];refine ⟨rfl,List.all_eq_true.mpr fun c hc=>by rw[List.all_eq_true.mp h2 c hc,Bool.or_true]⟩
 |negSucc k=>
  obtain ⟨h1,h2,h3,h4,h5⟩:=uR (k+1);have h:k+1<10^31:=h;obtain ⟨g1,g2⟩:=tj (w:=45::eM (k+1)) h (.inl (Nat.succ_ne_zero k));have i:oN (45::eM (k+1))=some (Int.negSucc k):=by
   show Option.map _ (LD (eM (k+1)))=_;rw[g2];rfl
  rw[zm,a_,show eJ (45::eM (k+1))=eM (k+1) from rfl,if_pos g1,i];refine ⟨rfl,List.all_eq_true.mpr fun c hc=> ?_⟩;rcases Sm.mp hc with rfl|hc
  .rfl
  .rw[List.all_eq_true.mp h2 c hc,Bool.or_true]
noncomputable section
noncomputable def wu:List (List Nat):=[Tu,[102,105,114,115,116],Tt,Tv,[116,111,108,100],TG,[98,97,99,107,115],Tw,[109,111,115,116]]
def y_:CS:=(sC (du (pO (cA (a8 r7 (bi ba (aj (ag 0) az)) (ai 1)) (cA (a8 Cw (bi ba (aj (ag 0) az)) (ai 12)) (cA (a8 H2 (sub (ag 0) (ai 0)) (yP "SMALL" (none,TJ))) gS)))) (sC (bc (fq false)) sN) sN) (sC (bc (bi uK (aj (nC false (iF 1 (ag 0) dJ (sH zB (ag 1) (aJ aH (yP "SMALL" (none,TJ)) (yP "FIGURES" (none,TL)))))) az))) sN))
def FD:CS:=(sC (du (gT (vh (aF 36 (aj (ag 1) az)))) (sC (ci 1 [110,111,32,110,97,109,101,32,111,102,32,97,110,32,97,99,99,111,117,110,116]) sN) sN) (sC (du (a8 F4 (ag 1) (cQ (ag 0) 1)) (sC (ci 9 [97,110,32,97,99,99,111,117,110,116,32,116,104,97,116,32,105,115,32,116,104,101,114,101,32,97,108,114,101,97,100,121]) sN) sN) (sC (bg (bm a9 (cQ (ag 0) 1) (aj (ag 1) az))) (sC (bg (bm a9 (cQ (ag 0) 6) (aj (cb (aj (au TD) (aj (ag 1) az))) az))) sN))))
def Cz:CS:=(sC (du (a8 fh (bi ba (aj (cQ (ag 0) 5) az)) (ai 0)) (sC (bc (neg (ai 1))) sN) sN) (sC (bc (sub (cQ (ag 0) 5) (aJ dw (bi ba (aj (cQ (ag 0) 5) az)) (ai 1)))) sN))
def wG:CS:=(sC (du (pO (cA (a8 r7 (ag 0) (ai 0)) (cA (a8 Cw (ag 0) (yP "LAST_DAY" (some 99999,[]))) gS))) (sC (ci 4 [110,111,32,100,97,121]) sN) sN) sN)
def uX:CS:=(sC (bg (aF 3 (aj (ag 1) az))) (sC (du (a8 F3 (ag 1) (meth (ag 0) 2 az)) (sC (ci 8 [97,32,99,108,111,115,101,100,32,100,97,121]) sN) sN) sN))
def nL:CS:=(sC (du (pO (cA (a8 xk (bi ba (aj (ag 0) az)) (ai 3)) (cA (gT (vh (bi uK (aj (nC false (iF 1 (ag 0) dJ (sH zB (ag 1) (yP "GREAT" (none,TI))))) az)))) gS))) (sC (ci 2 [110,111,32,99,117,114,114,101,110,99,121]) sN) sN) sN)
def uW:CS:=(sC (bg (aF 5 (aj (ag 1) az))) (sC (bg (meth (ag 0) 4 (aj (ag 2) az))) (sC (du (pO (cA (a8 fh (ag 1) (cQ (ag 0) 0)) (cA (gT (De F3 F3 (ai 1) (ag 3) (yP "GREATEST" (some 1000000000,[])))) (cA (gT (De F3 F3 (ai 1) (ag 4) (yP "GREATEST" (some 1000000000,[])))) gS)))) (sC (ci 6 [110,111,32,114,97,116,101]) sN) sN) (sC (aN 5 (bi AI (aj (bm BJ (cQ (ag 0) 2) (aj (ag 1) (aj AN az))) az))) (sC (oG (ag 5) (ag 2) (cb (aj (ag 3) (aj (ag 4) az)))) (xG 5 (sC (oG (cQ (ag 0) 2) (ag 1) (ag 5)) (sC (bg (bm a9 (cQ (ag 0) 6) (aj (cb (aj (au TA) (aj (ag 1) (aj (ag 2) (aj (ag 3) (aj (ag 4) az)))))) az))) sN))))))))
def FB:CS:=(sC (aN 5 (aJ aH (bi ba (aj (cQ (ag 0) 3) az)) (ai 1))) (sC (bg (bm a9 (cQ (ag 0) 3) (aj (cb (aj (ag 5) (aj (ag 1) (aj (ag 2) (aj (ag 3) (aj (ag 4) az)))))) az))) (sC (bc (ag 5)) sN)))
def wI:CS:=(sC (aN 1 qj) (sC (jE 2 (ag 0) (sC (oG (ag 1) (sub (ag 2) (ai 1)) (aJ aH (bm BJ (ag 1) (aj (sub (ag 2) (ai 1)) (aj (ai 0) az))) (sub (ag 2) (ai 2)))) sN)) (xG 1 (sC (bc (bi uK (aj (nC false (iF 3 (ag 1) dJ (sH fh (sub (ag 1) (ag 3)) (ai 0)))) az))) sN))))
def uJ:CS:=(sC (bc (Ib (FP (sH xk (ag 0) (ai 0)) (H' (Ct r7 r7 (neg (yP "BOUND" (some 1000000000000000000000000000000,[]))) (ag 0) (yP "BOUND" (some 1000000000000000000000000000000,[]))))))) sN)
def oS:CS:=(sC (du (a8 l9 (ag 1) (cQ (ag 0) 1)) (sC (ci 11 [110,111,32,115,117,99,104,32,97,99,99,111,117,110,116]) sN) sN) sN)
def uY:CS:=(sC (bg (meth (ag 0) 15 (aj (sub (ag 1) (ai 0)) az))) (sC (bg (aF 5 (aj (sub (ag 1) (ai 1)) az))) (sC (du (gT (vh (aF 12 (aj (sub (ag 1) (ai 2)) az)))) (sC (ci 3 [110,111,32,97,109,111,117,110,116]) sN) sN) sN)))
def uI:CS:=(sC (du (pO (cA (a8 Cw (bi ba (aj (ag 0) az)) (ai 40)) (cA (gT (vh (bi uK (aj (nC false (iF 1 (ag 0) dJ (Ct sJ sJ (au [32]) (ag 1) (au [126])))) az)))) gS))) (sC (ci 5 [110,111,32,110,111,116,101]) sN) sN) sN)
def H3:CS:=(sC (bg (meth (ag 0) 4 (aj (ag 1) az))) (sC (bg (aF 16 (aj (ag 2) az))) (sC (du (pO (cA (a8 r7 (bi ba (aj (ag 3) az)) (ai 2)) (cA (a8 Cw (bi ba (aj (ag 3) az)) (ai 60)) gS))) (sC (ci 7 [116,111,111,32,102,101,119,32,111,114,32,116,111,111,32,109,97,110,121,32,108,105,110,101,115]) sN) sN) (sC (jE 4 (ag 3) (sC (bg (meth (ag 0) 19 (aj (ag 4) az))) sN)) (sC (du (gT (vh (aF 18 (aj (ag 3) az)))) (sC (ci 7 [108,105,110,101,115,32,116,104,97,116,32,100,111,32,110,111,116,32,99,111,109,101,32,116,111,32,110,111,117,103,104,116]) sN) sN) (sC (aN 5 (bi jb (aj (nC false (iF 6 (ag 3) dJ (cb (aj (sub (ag 6) (ai 0)) (aj (sub (ag 6) (ai 1)) (aj (sub (ag 6) (ai 2)) az)))))) az))) (sC (bg (bm a9 (cQ (ag 0) 6) (aj (cb (aj (au Ty) (aj (ag 1) (aj (ag 2) (aj (ag 5) az))))) az))) (sC (bc (meth (ag 0) 7 (aj (ag 1) (aj (ag 2) (aj (ag 5) (aj (ai 0) az)))))) sN))))))))
def zb:CS:=(sC (bc (aJ bS (aJ io (aJ io (ag 0) (sub (ag 1) (ai 0))) (sub (ag 2) (ai 1))) (aJ io (sub (ag 1) (ai 1)) (sub (ag 2) (ai 0))))) sN)
def AW:CS:=(sC (bg (aF 5 (aj (ag 1) az))) (sC (bg (aF 3 (aj (ag 2) az))) (sC (du (a8 fh (ag 1) (cQ (ag 0) 0)) (sC (bc (cb (aj (ai 1) (aj (ai 1) az)))) sN) sN) (sC (aN 3 (bm BJ (cQ (ag 0) 2) (aj (ag 1) (aj AN az)))) (sC (zV false 4 5 (ag 3) (qd (a8 F3 (ag 5) (ag 2))) (ag 5)) (sC (du (a8 fh (bi ba (aj (ag 4) az)) (ai 0)) (sC (ci 13 [110,111,32,114,97,116,101,32,102,111,114,32,116,104,105,115,32,100,97,121]) sN) sN) (sC (bc (sub (ag 3) (bi ET (aj (ag 4) az)))) sN)))))))
abbrev lF:C1:=(du (a8 fh (ag 4) (ag 7)) (sC (ci 2 [98,111,116,104,32,99,117,114,114,101,110,99,105,101,115,32,97,114,101,32,116,104,101,32,115,97,109,101]) sN) sN)
abbrev lE:C1:=(du (pO (cA (a8 r7 (ag 5) (ai 1)) (cA (gT (vh (aF 12 (aj (ag 5) az)))) gS))) (sC (ci 3 [110,111,32,97,109,111,117,110,116,32,116,111,32,99,111,110,118,101,114,116]) sN) sN)
abbrev lC:C1:=(aN 8 (aF 13 (aj (ag 5) (aj (meth (ag 0) 14 (aj (ag 4) (aj (ag 1) az))) (aj (meth (ag 0) 14 (aj (ag 7) (aj (ag 1) az))) az)))))
abbrev ku:C1:=(du (a8 fh (ag 8) (ai 0)) (sC (ci 14 [110,111,116,104,105,110,103,32,105,115,32,103,111,116]) sN) sN)
abbrev kt:C1:=(du (gT (vh (aF 12 (aj (ag 8) az)))) (sC (ci 3 [116,111,111,32,109,117,99,104,32,105,115,32,103,111,116]) sN) sN)
abbrev kq:C1:=(aN 9 (cb (aj (cb (aj (ag 3) (aj (ag 4) (aj (neg (ag 5)) az)))) (aj (cb (aj (au TH) (aj (ag 4) (aj (ag 5) az)))) (aj (cb (aj (au TH) (aj (ag 7) (aj (neg (ag 8)) az)))) (aj (cb (aj (ag 6) (aj (ag 7) (aj (ag 8) az)))) az))))))
abbrev ko:C1:=(bg (bm a9 (cQ (ag 0) 6) (aj (cb (aj (au TB) (aj (ag 1) (aj (ag 2) (aj (ag 3) (aj (ag 4) (aj (ag 5) (aj (ag 6) (aj (ag 7) az))))))))) az)))
abbrev km:C1:=(bc (meth (ag 0) 7 (aj (ag 1) (aj (ag 2) (aj (ag 9) (aj (ai 0) az))))))
def rM:CS:=(sC (bg (meth (ag 0) 4 (aj (ag 1) az))) (sC (bg (aF 16 (aj (ag 2) az))) (sC (bg (meth (ag 0) 15 (aj (ag 3) az))) (sC (bg (meth (ag 0) 15 (aj (ag 6) az))) (sC (bg (aF 5 (aj (ag 4) az))) (sC (bg (aF 5 (aj (ag 7) az))) (sC lF (sC lE (sC lC (sC ku (sC kt (sC kq (sC ko (sC km sN))))))))))))))
def Fy:CS:=(sC (du (pO (cA (a8 r7 (ag 1) (ai 1)) (cA (a8 Cw (ag 1) (bi ba (aj (cQ (ag 0) 3) az))) gS))) (sC (ci 12 [110,111,32,115,117,99,104,32,101,110,116,114,121]) sN) sN) (sC (bc (sub (cQ (ag 0) 3) (aJ dw (ag 1) (ai 1)))) sN))
def w6:CS:=(sC (aN 3 (meth (ag 0) 8 (aj (ag 1) az))) (sC (du (pO (cA (a8 xk (sub (ag 3) (ai 4)) (ai 0)) (cA (a8 M6 (ag 1) (cQ (ag 0) 4)) gS))) (sC (ci 10 [97,110,32,101,110,116,114,121,32,116,104,97,116,32,99,97,110,39,116,32,98,101,32,116,97,107,101,110,32,98,97,99,107]) sN) sN) (sC (bg (meth (ag 0) 4 (aj (ag 2) az))) (sC (aN 4 (bi jb (aj (nC false (iF 5 (sub (ag 3) (ai 3)) dJ (cb (aj (sub (ag 5) (ai 0)) (aj (sub (ag 5) (ai 1)) (aj (neg (sub (ag 5) (ai 2))) az)))))) az))) (sC (oG (cQ (ag 0) 4) (ag 1) (fq true)) (sC (bg (bm a9 (cQ (ag 0) 6) (aj (cb (aj (au TC) (aj (ag 1) (aj (ag 2) az)))) az))) (sC (bc (meth (ag 0) 7 (aj (ag 2) (aj (sub (ag 3) (ai 2)) (aj (ag 4) (aj (ag 1) az)))))) sN)))))))
def FC:CS:=(sC (bg (meth (ag 0) 4 (aj (ag 1) az))) (sC (bg (bm a9 (cQ (ag 0) 5) (aj (ag 1) az))) (sC (bg (bm a9 (cQ (ag 0) 6) (aj (cb (aj (au Tz) (aj (ag 1) az))) az))) (sC (bc (bi ba (aj (cQ (ag 0) 5) az))) sN))))
abbrev za:C1:=(du (a8 fh (sub (ag 1) (ai 0)) (au TD)) (sC (bg (meth (ag 0) 37 (aj (sub (ag 1) (ai 1)) az))) sN) (sC (du (a8 fh (sub (ag 1) (ai 0)) (au TA)) (sC (bg (meth (ag 0) 6 (aj (sub (ag 1) (ai 1)) (aj (sub (ag 1) (ai 2)) (aj (sub (ag 1) (ai 3)) (aj (sub (ag 1) (ai 4)) az)))))) sN) (sC (du (a8 fh (sub (ag 1) (ai 0)) (au Ty)) (sC (bg (meth (ag 0) 20 (aj (sub (ag 1) (ai 1)) (aj (sub (ag 1) (ai 2)) (aj (sub (ag 1) (ai 3)) az))))) sN) (sC (du (a8 fh (sub (ag 1) (ai 0)) (au TB)) (sC (bg (meth (ag 0) 17 (aj (sub (ag 1) (ai 1)) (aj (sub (ag 1) (ai 2)) (aj (sub (sub (ag 1) (ai 3)) (ai 0)) (aj (sub (sub (ag 1) (ai 3)) (ai 1)) (aj (sub (sub (ag 1) (ai 3)) (ai 2)) (aj (sub (ag 1) (ai 4)) (aj (sub (ag 1) (ai 5)) az))))))))) sN) (sC (du (a8 fh (sub (ag 1) (ai 0)) (au TC)) (sC (bg (meth (ag 0) 9 (aj (sub (ag 1) (ai 1)) (aj (sub (ag 1) (ai 2)) az)))) sN) (sC (bg (meth (ag 0) 11 (aj (sub (ag 1) (ai 1)) az))) sN)) sN)) sN)) sN)) sN))
def HA:CS:=(sC za sN)
def H4:CS:=(sC (bg (aF 5 (aj (ag 1) az))) (sC (lg (ag 0) 0 (ag 1)) (sC (lg (ag 0) 1 (iU (aj (au TH) az))) (sC (lg (ag 0) 2 qj) (sC (lg (ag 0) 3 (iU az)) (sC (lg (ag 0) 4 qj) (sC (lg (ag 0) 5 (iU az)) (sC (lg (ag 0) 6 (iU az)) sN))))))))
abbrev jq:C1:=(du (a8 fh (xC (ag 0) Ad (k_ (ai 1))) (au [45])) (sC (aN 1 (xC (ag 0) (k_ (ai 1)) Ad)) sN) sN)
abbrev fS:C1:=(du (pO (cA (a8 fh (ag 1) (au [])) (cA (a8 Cw (bi ba (aj (ag 1) az)) (ai 60)) (cA (gT (vh (bi uK (aj (nC false (iF 2 (ag 1) dJ (sH zB (ag 2) (yP "FIGURES" (none,TL))))) az)))) gS)))) (sC (ci 16 [110,111,32,110,117,109,98,101,114]) sN) sN)
abbrev jp:C1:=(du (Ba (ii (a8 fh (sub (ag 1) (ai 0)) (au [48])) (ii (a8 xk (ag 0) (au [48])) vt))) (sC (ci 16 [97,32,110,117,109,98,101,114,32,119,105,116,104,32,97,32,110,111,117,103,104,116,32,97,104,101,97,100]) sN) sN)
def uH:CS:=(sC (aN 1 (ag 0)) (sC jq (sC fS (sC jp (sC (bc (bi IU (aj (ag 0) az))) sN)))))
abbrev re:C1:=(du (pO (cA (a8 xk (sub (ag 3) (ai 0)) (ag 1)) (cA (a8 xk (bi ba (aj (ag 3) az)) (ag 2)) gS))) (sC (ci 16 [110,111,32,114,111,119]) sN) sN)
def wF:CS:=(sC (aN 3 (bm iW (ag 0) (aj (au [32]) az))) (sC re (sC (bc (ag 3)) sN)))
abbrev ss:C1:=(du (pO (cA (a8 fh (ag 0) (au [])) (cA (gT (vh (bi uK (aj (nC false (iF 1 (ag 0) dJ (Ct sJ sJ (au [33]) (ag 1) (au [126])))) az)))) gS))) (sC (ci 16 [110,111,32,110,97,109,101]) sN) sN)
def yY:CS:=(sC ss (sC (bc (ag 0)) sN))
abbrev oQ:C1:=(du (a8 r7 (bi ba (aj (ag 1) az)) (ai 8)) (sC (ci 16 [110,111,32,99,111,110,118,101,114,115,105,111,110]) sN) sN)
abbrev oP:C1:=(aN 2 (bm mO (au [32]) (aj (vi (ag 1) (k_ (ai 7)) Ad) az)))
abbrev jr:C1:=(aN 3 (cb (aj (aF 93 (aj (sub (ag 1) (ai 2)) az)) (aj (aF 93 (aj (sub (ag 1) (ai 3)) az)) (aj (aF 91 (aj (sub (ag 1) (ai 4)) az)) az)))))
abbrev fT:C1:=(bc (cb (aj (au TB) (aj (aF 91 (aj (sub (ag 1) (ai 1)) az)) (aj (ag 2) (aj (ag 3) (aj (aF 93 (aj (sub (ag 1) (ai 5)) az)) (aj (aF 93 (aj (sub (ag 1) (ai 6)) az)) az))))))))
def ja:CS:=(sC (aN 1 (bm iW (ag 0) (aj (au [32]) az))) (sC oQ (sC oP (sC jr (sC fT sN)))))
abbrev lu:C1:=(aN 1 (aF 92 (aj (ag 0) (aj (au [108,105,110,101]) (aj (ai 4) az)))))
abbrev su:C1:=(bc (cb (aj (aF 93 (aj (sub (ag 1) (ai 1)) az)) (aj (aF 93 (aj (sub (ag 1) (ai 2)) az)) (aj (aF 91 (aj (sub (ag 1) (ai 3)) az)) az)))))
def yZ:CS:=(sC lu (sC su sN))
abbrev j6:C1:=(aN 2 (bm iW (sub (ag 0) (ag 1)) (aj (au [32]) az)))
abbrev rk:C1:=(du (a8 r7 (bi ba (aj (ag 2) az)) (ai 4)) (sC (ci 16 [110,111,32,101,110,116,114,121]) sN) sN)
abbrev ff:C1:=(du (pO (cA (a8 r7 (ag 4) (ai 0)) (cA (a8 Cw (ag 4) (aJ dw (aJ dw (bi ba (aj (ag 0) az)) (ag 1)) (ai 1))) gS))) (sC (ci 16 [116,111,111,32,102,101,119,32,108,105,110,101,115]) sN) sN)
abbrev gM:C1:=(bc (cb (aj (au Ty) (aj (ag 3) (aj (bm mO (au [32]) (aj (vi (ag 2) (k_ (ai 3)) Ad) az)) (aj (ag 5) az))))))
def j7:CS:=(sC j6 (sC rk (sC (aN 3 (aF 91 (aj (sub (ag 2) (ai 1)) az))) (sC (aN 4 (aF 91 (aj (sub (ag 2) (ai 2)) az))) (sC ff (sC (pV 5 6 (vi (ag 0) (k_ (aJ aH (ag 1) (ai 1))) (k_ (aJ aH (aJ aH (ag 1) (ai 1)) (ag 4)))) (aF 95 (aj (ag 6) az))) (sC gM sN)))))))
abbrev ly:C1:=(aN 2 (sub (bm iW (sub (ag 0) (ag 1)) (aj (au [32]) az)) (ai 0)))
abbrev sE:C1:=(du (a8 fh (ag 2) (au Ty)) (sC (bc (aF 96 (aj (ag 0) (aj (ag 1) az)))) sN) sN)
abbrev sB:C1:=(du (a8 fh (ag 2) (au TB)) (sC (bc (aF 94 (aj (sub (ag 0) (ag 1)) az))) sN) sN)
abbrev sA:C1:=(du (a8 fh (ag 2) (au TD)) (sC (bc (cb (aj (au TD) (aj (aF 93 (aj (sub (aF 92 (aj (sub (ag 0) (ag 1)) (aj (au TD) (aj (ai 2) az)))) (ai 1)) az)) az)))) sN) sN)
abbrev lx:C1:=(du (a8 fh (ag 2) (au TA)) (sC (aN 3 (aF 92 (aj (sub (ag 0) (ag 1)) (aj (au TA) (aj (ai 5) az))))) (sC (bc (cb (aj (au TA) (aj (aF 93 (aj (sub (ag 3) (ai 1)) az)) (aj (aF 91 (aj (sub (ag 3) (ai 2)) az)) (aj (aF 91 (aj (sub (ag 3) (ai 3)) az)) (aj (aF 91 (aj (sub (ag 3) (ai 4)) az)) az))))))) sN)) sN)
abbrev lv:C1:=(du (a8 fh (ag 2) (au TC)) (sC (aN 3 (aF 92 (aj (sub (ag 0) (ag 1)) (aj (au TC) (aj (ai 3) az))))) (sC (bc (cb (aj (au TC) (aj (aF 91 (aj (sub (ag 3) (ai 1)) az)) (aj (aF 91 (aj (sub (ag 3) (ai 2)) az)) az))))) sN)) sN)
abbrev sy:C1:=(aN 3 (aF 92 (aj (sub (ag 0) (ag 1)) (aj (au Tz) (aj (ai 2) az)))))
abbrev sv:C1:=(bc (cb (aj (au Tz) (aj (aF 91 (aj (sub (ag 3) (ai 1)) az)) az))))
def i_:CS:=(sC ly (sC sE (sC sB (sC sA (sC lx (sC lv (sC sy (sC sv sN))))))))
abbrev dG:CS:=(sC (aN 3 (aF 97 (aj (ag 0) (aj (ag 2) az)))) (sC (bg (bm a9 (ag 1) (aj (ag 3) az))) (sC (aN 2 (aJ aH (ag 2) (ai 1))) (sC (du (a8 fh (sub (ag 3) (ai 0)) (au Ty)) (sC (aN 2 (aJ aH (ag 2) (bi ba (aj (sub (ag 3) (ai 3)) az)))) sN) sN) sN))))
def ot:CS:=(sC (aN 1 (iU az)) (sC (aN 2 (ai 0)) (sC (Ds 100000 (a8 r7 (ag 2) (bi ba (aj (ag 0) az))) dG) (sC (bc (ag 1)) sN))))
abbrev i9:CS:=(sC (bg (aF 90 (aj (ag 4) (aj (ag 5) az)))) sN)
abbrev rf:C1:=(du (pO (cA (a8 xk (sub (ag 1) (aJ dw (bi ba (aj (ag 1) az)) (ai 1))) (au [])) (cA (a8 r7 (bi ba (aj (ag 1) az)) (ai 2)) gS))) (sC (ci 16 [110,111,32,108,97,115,116,32,108,105,110,101,32,101,110,100]) sN) sN)
abbrev yX:C1:=(aN 2 (aF 93 (aj (sub (aF 92 (aj (sub (ag 1) (ai 0)) (aj (au [104,111,109,101]) (aj (ai 2) az)))) (ai 1)) az)))
abbrev yW:C1:=(aN 3 (aF 98 (aj (vi (ag 1) (k_ (ai 1)) (k_ (aJ dw (bi ba (aj (ag 1) az)) (ai 1)))) az)))
def AB:CS:=(sC (aN 1 (bm iW (ag 0) (aj (au [10]) az))) (sC rf (sC yX (sC yW (sC (aN 4 (DY (aj (ag 2) az))) (sC (jE 5 (ag 3) i9) (sC (bc (ag 4)) sN)))))))
abbrev uk:C1:=(aN 1 (bH (aj (au TO) (aj (au [66,97,100,78,97,109,101]) (aj (au [84,97,107,101,110]) (aj (au [78,111,69,110,116,114,121]) (aj (au TP) (aj (au [85,110,98,97,108,97,110,99,101,100]) (aj (au [67,108,111,115,101,100]) (aj (au [78,111,65,99,99,111,117,110,116]) az))))))))))
abbrev uj:C1:=(aN 1 (aJ aH (ag 1) (bH (aj (au [66,97,100,65,109,111,117,110,116]) (aj (au [66,97,100,78,111,116,101]) (aj (au [66,97,100,82,97,116,101]) (aj (au [78,111,82,97,116,101]) (aj (au [84,111,111,83,109,97,108,108]) (aj (au [109,111,114,101]) az)))))))))
abbrev ui:C1:=(Jp (sC (bg (aF 99 (aj (ag 0) az))) sN) (hA 0 2 (sC (aN 3 (iU (aj (kN (lc 4 (by decide)) (ag 2)) (aj (kN (lc 1 (by decide)) (ag 2)) (aj (kN (lc 9 (by decide)) (ag 2)) (aj (kN (lc 12 (by decide)) (ag 2)) az)))))) (sC (aN 3 (nC true (D8 (ag 3) (bH (aj (kN (lc 2 (by decide)) (ag 2)) (aj (kN (lc 7 (by decide)) (ag 2)) (aj (kN (lc 8 (by decide)) (ag 2)) az))))))) (sC (aN 3 (nC true (D8 (ag 3) (bH (aj (kN (lc 11 (by decide)) (ag 2)) (aj (kN (lc 3 (by decide)) (ag 2)) (aj (kN (lc 5 (by decide)) (ag 2)) az))))))) (sC (aN 3 (nC true (D8 (ag 3) (bH (aj (kN (lc 6 (by decide)) (ag 2)) (aj (kN (lc 13 (by decide)) (ag 2)) (aj (kN (lc 14 (by decide)) (ag 2)) (aj (fq true) az)))))))) (sC (bc (sub (ag 1) (bm xW (ag 3) (aj (fq true) az)))) sN))))) hN))
def BL:CS:=(sC uk (sC uj (sC ui (sC (bc (au [])) sN))))
def G6:CS:=(sC (aN 1 (aJ aH (aJ aH (bi eH (aj (kN (lc 1 (by decide)) (ag 0)) az)) (bi eH (aj (kN (lc 2 (by decide)) (ag 0)) az))) (bi eH (aj (kN (lc 3 (by decide)) (ag 0)) az)))) (sC (aN 1 (aJ aH (aJ aH (aJ aH (ag 1) (bi eH (aj (kN (lc 4 (by decide)) (ag 0)) az))) (bi eH (aj (kN (lc 5 (by decide)) (ag 0)) az))) (bi eH (aj (kN (lc 6 (by decide)) (ag 0)) az)))) (sC (aN 1 (aJ aH (aJ aH (aJ aH (ag 1) (bi eH (aj (kN (lc 7 (by decide)) (ag 0)) az))) (bi eH (aj (kN (lc 8 (by decide)) (ag 0)) az))) (bi eH (aj (kN (lc 9 (by decide)) (ag 0)) az)))) (sC (aN 1 (aJ aH (aJ aH (aJ aH (ag 1) (bi eH (aj (kN (lc 10 (by decide)) (ag 0)) az))) (bi eH (aj (kN (lc 11 (by decide)) (ag 0)) az))) (bi eH (aj (kN (lc 12 (by decide)) (ag 0)) az)))) (sC (aN 1 (aJ aH (aJ aH (aJ aH (ag 1) (bi eH (aj (kN (lc 13 (by decide)) (ag 0)) az))) (bi eH (aj (kN (lc 15 (by decide)) (ag 0)) az))) (bi eH (aj (kN (lc 14 (by decide)) (ag 0)) az)))) (sC (bc (Ib (FP (kN Q4 (ag 0)) (H' (sH fh (aJ aH (ag 1) (bi eH (aj (kN (lc 16 (by decide)) (ag 0)) az))) (ai 1)))))) sN))))))
abbrev qy:C1:=(Jp (sC (bg (aF 99 (aj (ag 0) az))) sN) (hA 0 1 (sC (bc (Ib (FP (kN (lc 16 (by decide)) (ag 1)) (H' (aF 29 (aj (ag 1) az)))))) sN) hN))
def v_:CS:=(sC qy (sC (bc (fq false)) sN))
abbrev jS:C1:=(aN 2 (bH (aj (au TO) (aj (au [66,97,100,78,97,109,101]) (aj (au [84,97,107,101,110]) (aj (au [78,111,69,110,116,114,121]) (aj (au TP) (aj (au TO) (aj (au TO) (aj (au [85,110,98,97,108,97,110,99,101,100]) (aj (au TP) az)))))))))))
abbrev jR:C1:=(aN 2 (aJ aH (ag 2) (bH (aj (au [78,111,65,99,99,111,117,110,116]) (aj (au [66,97,100,65,109,111,117,110,116]) (aj (au [66,97,100,78,111,116,101]) (aj (au [66,97,100,82,97,116,101]) (aj (au [78,111,82,97,116,101]) (aj (au [66,97,100,82,97,116,101]) (aj (au [84,111,111,83,109,97,108,108]) az))))))))))
abbrev jQ:C1:=(du (Ba (ii (a8 fh (ag 0) (ai 99999)) (ii (a8 Cw (ag 1) (ai 6)) vt))) (sC (bc (au [67,108,111,115,101,100])) sN) sN)
def ol:CS:=(sC jS (sC jR (sC jQ (sC (bc (sub (ag 2) (ag 1))) sN))))
abbrev yv:C1:=(aN 2 (au TU))
abbrev yu:C1:=(aN 3 (bH (aj (au [99,108,111,115,101,32,49,48,48,48,48,48]) (aj (au [97,99,99,111,117,110,116,32,65]) (aj (au [97,99,99,111,117,110,116,32,101,120,99,104,97,110,103,101]) (aj (au [98,97,99,107,32,48,32,53]) (aj (au [114,97,116,101,32,69,85,114,32,53,32,49,32,49]) (aj (au [99,108,111,115,101,32,45,55]) az))))))))
abbrev yt:C1:=(aN 3 (aJ aH (ag 3) (bH (aj (aJ aH (au TF) (aJ z_ (au [49]) (ai 60))) (aj (au [101,110,116,114,121,32,57,57,57,57,57,32,48,32]) (aj (au TV) az))))))
abbrev yr:C1:=(aN 3 (aJ aH (ag 3) (bH (aj (au TX) az))))
abbrev yq:C1:=(aN 3 (aJ aH (ag 3) (bH (aj (au TZ) az))))
abbrev yp:C1:=(aN 3 (aJ aH (ag 3) (bH (aj (aJ aH (aJ aH (aJ aH (au [101,110,116,114,121,32,57,57,57,57,57,32,50,32]) (aJ z_ (au [110]) (ai 41))) (au [10])) (ag 2)) (aj (aJ aH (aJ aH (au TM) (ag 0)) (au [32,57,57,57,57,57,32,49,32,49])) az)))))
abbrev yo:C1:=(aN 3 (aJ aH (ag 3) (bH (aj (aJ aH (aJ aH (aJ aH (aJ aH (au [99,104,97,110,103,101,32,57,57,57,57,57,32,101,120,99,104,97,110,103,101,32]) (ag 0)) (au TQ)) (ag 1)) (au [32,120])) az))))
abbrev yn:C1:=(aN 3 (aJ aH (ag 3) (bH (aj (aJ aH (aJ aH (au TM) (ag 1)) (au [32,57,57,57,57,57,32,48,32,49])) az))))
abbrev ym:C1:=(aN 4 (aJ aH (aJ aH (aJ aH (aJ aH (au TM) (ag 1)) (au T0)) (ag 0)) (au TQ)))
abbrev we:C1:=(bc (aJ aH (ag 3) (bH (aj (aJ aH (aJ aH (ag 4) (ag 1)) (au [32,120])) az))))
def G5:CS:=(sC yv (sC yu (sC yt (sC yr (sC yq (sC yp (sC yo (sC yn (sC ym (sC we sN))))))))))
abbrev uw:C1:=(bc (sub (aJ aH (bH (aj (neg (ai 1)) az)) (key (ag 0) 5 TG)) (neg (ai 1))))
def BU:CS:=(sC uw sN)
abbrev lP:C1:=(aN 4 (bH (aj (au [81,81,81]) (aj (au [81,81,82]) (aj (au [81,81,83]) (aj (au [81,81,84]) (aj (au [81,81,85]) az)))))))
abbrev gB:C1:=(aN 4 (sub (nC false (iF 7 (ag 4) (qd (a8 l9 (ag 7) (key (ag 1) 2 Tt))) (ag 7))) (ai 0)))
abbrev gA:C1:=(aN 5 (aF 103 (aj (sub (key (ag 1) 2 Tt) (ai 0)) (aj (ag 4) az))))
abbrev gz:C1:=(aN 6 (aF 102 (aj (ag 3) (aj (aJ bv (ag 2) (ai 16)) az))))
abbrev gy:C1:=(du (gT (vh (aF 101 (aj (aJ aH (aJ aH (aJ aH (aJ aH (ag 0) (sub (ag 5) (ag 2))) (au [10])) (sub (bH (aj (au [120]) (aj (au Tz) (aj (au TN) (aj (au []) az))))) (aJ bv (aJ bS (ag 2) (ai 3)) (ai 4)))) (au [10])) az)))) (sC (bc (fq false)) sN) sN)
abbrev gx:C1:=(du (a8 xk (aF 100 (aj (sub (bH (aj (au [104,111,109,101,32,101,117,114,10]) (aj (au [104,111,109,101,32,69,10]) (aj (au [104,111,109,101,32,69,85,82,79,10]) az)))) (aJ bv (ag 2) (ai 3))) az)) (au TP)) (sC (bc (fq false)) sN) sN)
abbrev lO:C1:=(bc (sH fh (aF 100 (aj (aJ aH (aJ aH (ag 0) (sub (ag 5) (ag 2))) (au [10])) az)) (ag 6)))
def oJ:CS:=(sC (aN 3 (aF 70 (aj (ag 1) az))) (sC lP (sC gB (sC gA (sC gz (sC (aN 2 (aJ bv (ag 2) (ai 16))) (sC gy (sC gx (sC lO sN)))))))))
def G7:CS:=(sC (du (a8 r7 (ag 1) (bi ba (aj (ag 0) az))) (sC (bc (sub (ag 0) (ag 1))) sN) sN) (sC (bc (ai 0)) sN))
abbrev xX:C1:=(bc (bm mO (au []) (aj (nC false (iF 1 (ag 0) dJ (aJ aH (ag 1) (au [10])))) az)))
def GW:CS:=(sC xX sN)
abbrev qM:C1:=(aN 6 (bH (Ir.dn (LE (w7 aH (w7 aH (CE.up (ag 4) 0) (Ka (LE (w7 aH (Fh [32]) (CE.up (ag 3) 1)) (CL.up az 1)))) (CE.up (ag 5) 1)) (LE (w7 aH (w7 aH (CE.up (ag 4) 1) (Ka (LE (IC (ag 3) 32 [32,32]) (CL.up az 1)))) (CE.up (ag 5) 1)) (CL.up (aj (aJ aH (aJ aH (ag 4) (bH (aj (sub (bm lM (ag 3) (aj (au [32]) az)) (ai 0)) az))) (ag 5)) az) 1))))))
abbrev qL:C1:=(aN 6 (aJ aH (ag 6) (bH (aj (aJ aH (aJ aH (ag 4) (bH (aj (aJ aH (au [120]) (ag 3)) az))) (ag 5)) (aj (aJ aH (aJ aH (ag 4) (bH (aj (au []) (aj (ag 3) az)))) (ag 5)) (aj (aJ aH (aJ aH (ag 4) (bH (aj (ag 3) (aj (au TN) az)))) (ag 5)) az))))))
abbrev lT:C1:=(aN 6 (aJ aH (ag 6) (bH (aj (aJ aH (ag 0) (bH (aj (au [99,108,111,115,101,32,48,53]) az))) (aj (aJ aH (ag 0) (bH (aj (au [99,108,111,115,101,32,45,48]) az))) (aj (aJ aH (ag 0) (bH (aj (au [98,97,99,107,32,49]) az))) (aj (aJ aH (ag 0) (bH (aj (au [101,110,116,114,121,32,53,32,45,49,32,120]) az))) az)))))))
abbrev lS:C1:=(aN 6 (aJ aH (ag 6) (bH (aj (aJ aH (ag 0) (bH (aj (au [101,110,116,114,121,32,53,32,51,32,120]) (aj (au TS) az)))) (aj (aJ aH (ag 0) (bH (aj (au [99,108,111,115,101,32,53,32]) az))) (aj (aJ aH (ag 0) (bH (aj (au TS) az))) az))))))
abbrev lR:C1:=(aN 6 (aJ aH (ag 6) (bH (aj (aJ aH (ag 0) (bH (aj (aJ aH (au TF) (aJ z_ (au [49]) (ai 61))) az))) (aj (aJ aH (ag 0) (bH (aj (au [99,108,111,115,101,32,43,53]) az))) (aj (aJ aH (ag 0) (bH (aj (au TF) az))) az))))))
abbrev lQ:C1:=(aN 7 (yH (a8 F4 (xC (ag 3) Ad (k_ (ai 3))) (bH (aj (au [101,110,116]) (aj (au [99,104,97]) az)))) (au [99,108,111,115,101,32,53,32,54]) (aJ aH (ag 3) (au [32,53]))))
abbrev jZ:C1:=(aN 6 (aJ aH (ag 6) (bH (aj (aJ aH (aJ aH (ag 4) (bH (aj (ag 7) az))) (ag 5)) (aj (aJ aH (ag 0) (bH (aj (au [101,110,116,114,121,32,53,32,48]) az))) (aj (aJ aH (ag 0) (bH (aj (au T3) az))) az))))))
abbrev jY:C1:=(aN 9 (sub (bH (aj (au [48,53]) (aj (au [43,53]) (aj (au [45,48]) (aj (au [120]) (aj (au [49,95,48]) az)))))) (aJ bv (aJ bS (ag 1) (ai 24)) (ai 5))))
abbrev jX:C1:=(du (a8 F4 (sub (ag 8) (ai 0)) (bH (aj (au Ty) (aj (au TB) az)))) (sC (oG (ag 8) (ai 1) (ag 9)) sN) (sC (du (a8 F4 (sub (ag 8) (ai 0)) (bH (aj (au TA) (aj (au [108,105,110,101]) (aj (au TC) (aj (au Tz) az)))))) (sC (oG (ag 8) (aJ dw (neg (ai 1)) (aJ io (bi eH (aj (sH fh (sub (ag 8) (ai 0)) (au TA)) az)) (aJ bv (aJ bS (ag 1) (ai 120)) (ai 3)))) (ag 9)) sN) (sC (aN 8 (iU (aj (au Tz) (aj (ag 9) az)))) sN)) sN))
abbrev jW:C1:=(aN 6 (aJ aH (ag 6) (nC false (Mt (bH (aj (aJ aH (aJ aH (ag 4) (bH (aj (bm mO (au [32]) (aj (ag 8) az)) az))) (ag 5)) az)) (ai 5)))))
def Ai:CS:=(sC (aN 3 (sub (ag 0) (ag 2))) (sC (aN 4 (vi (ag 0) Ad (k_ (ag 2)))) (sC (aN 5 (vi (ag 0) (k_ (aJ aH (ag 2) (ai 1))) Ad)) (sC qM (sC qL (sC lT (sC lS (sC lR (sC lQ (sC jZ (sC (aN 8 (bm ph (ag 3) (aj (au [32]) az))) (sC jY (sC jX (xG 8 (sC jW (sC (bc (sub (ag 6) (aJ bv (ag 1) (ai 24)))) sN))))))))))))))))
abbrev qw:CS:=(sC (bg (bm a9 (ag 1) (aj (aJ aH (au [97,99,99,111,117,110,116,32]) (ag 2)) az))) sN)
abbrev qv:CS:=(sC (bg (bm a9 (ag 1) (aj (aJ aH (aJ aH (aJ aH (aJ aH (aJ aH (au [108,105,110,101,32]) (sub (ag 4) (ai 0))) (au [32])) (sub (ag 4) (ai 1))) (au [32])) (bi wL (aj (sub (ag 4) (ai 2)) az))) az))) sN)
abbrev lN:CS:=(sC (du (a8 fh (sub (ag 3) (ai 0)) (au Ty)) (sC (bg (bm a9 (ag 1) (aj (aJ aH (aJ aH (aJ aH (aJ aH (aJ aH (au [101,110,116,114,121,32]) (bi wL (aj (sub (ag 3) (ai 1)) az))) (au [32])) (bi wL (aj (bi ba (aj (sub (ag 3) (ai 3)) az)) az))) (au [32])) (sub (ag 3) (ai 2))) az))) (sC (jE 4 (sub (ag 3) (ai 3)) qv) sN)) (sC (bg (bm a9 (ag 1) (aj (bm mO (au [32]) (aj (nC false (iF 5 (ag 3) dJ (bi wL (aj (ag 5) az)))) az)) az))) sN)) sN)
abbrev qu:C1:=(aN 1 (iU (aj (aJ aH (au [104,111,109,101,32]) (sub (key (ag 0) 2 Tt) (ai 0))) az)))
abbrev qt:C1:=(jE 2 (vi (key (ag 0) 0 Tu) (k_ (ai 1)) (k_ (key (ag 0) 1 [102,105,114,115,116]))) qw)
abbrev qq:C1:=(jE 3 (key (ag 0) 7 Tw) lN)
def GY:CS:=(sC qu (sC qt (sC qq (sC (bc (ag 1)) sN))))
abbrev BS:C1:=(du (a8 fh (aJ bv (ag 1) (ai 3)) (ai 0)) (sC (bc (aJ aH (aJ aH (ag 2) (ai 1)) (aJ bv (aJ bS (ag 1) (ai 3)) (aJ dw (ai 99999) (ag 2))))) sN) sN)
abbrev BR:C1:=(bc (bi AG (aj (ai 99999) (aj (aJ aH (aJ aH (ag 2) (ai 1)) (aJ bv (aJ bS (ag 1) (ai 3)) (ai 7))) az))))
def J_:CS:=(sC (aN 2 (aF 70 (aj (ag 0) az))) (sC BS (sC BR sN)))
abbrev v0:C1:=(bg (bm a9 (key (ag 1) 5 TG) (aj (ag 3) az)))
abbrev vZ:C1:=(bg (bm a9 (key (ag 1) 7 Tw) (aj (cb (aj (au Tz) (aj (ag 3) az))) az)))
abbrev vY:C1:=(bc (sH fh (meth (ag 0) 11 (aj (ag 3) az)) (bi ba (aj (key (ag 1) 5 TG) az))))
def Eb:CS:=(sC (aN 3 (aF 71 (aj (ag 1) (aj (ag 2) az)))) (sC v0 (sC vZ (sC vY sN))))
abbrev BN:C1:=(aN 5 (aJ aH (bi ba (aj (key (ag 0) 3 Tv) az)) (ai 1)))
abbrev BM:C1:=(bg (bm a9 (key (ag 0) 3 Tv) (aj (cb (aj (ag 5) (aj (ag 1) (aj (ag 2) (aj (bi jb (aj (ag 3) az)) (aj (ag 4) az)))))) az)))
def J9:CS:=(sC BN (sC BM (sC (bc (ag 5)) sN)))
abbrev qI:C1:=(aN 4 (aJ aH (ai 1) (aJ bv (ag 3) (bi AH (aj (ai 1) (aj (bi ba (aj (key (ag 1) 3 Tv) az)) az))))))
abbrev qH:C1:=(du (pO (cA (a8 fh (key (ag 1) 3 Tv) (bH az)) (cA (a8 F4 (ag 4) (key (ag 1) 6 [98,97,99,107,115])) (cA (a8 xk (sub (sub (key (ag 1) 3 Tv) (aJ dw (ag 4) (ai 1))) (ai 4)) (ai 0)) gS)))) (sC (bc (fq true)) sN) sN)
abbrev qG:C1:=(aN 5 (sub (key (ag 1) 3 Tv) (aJ dw (ag 4) (ai 1))))
abbrev jV:C1:=(zV false 7 9 (sub (ag 5) (ai 3)) dJ (cb (aj (sub (ag 9) (ai 0)) (aj (sub (ag 9) (ai 1)) (aj (aJ dw (ai 0) (sub (ag 9) (ai 2))) az)))))
abbrev qF:C1:=(aN 8 (aF 73 (aj (ag 1) (aj (ag 6) (aj (sub (ag 5) (ai 2)) (aj (ag 7) (aj (ag 4) az)))))))
abbrev qE:C1:=(bg (bm a9 (key (ag 1) 6 [98,97,99,107,115]) (aj (ag 4) az)))
abbrev qC:C1:=(bg (bm a9 (key (ag 1) 7 Tw) (aj (cb (aj (au TC) (aj (ag 4) (aj (ag 6) az)))) az)))
abbrev qA:C1:=(bc (sH fh (meth (ag 0) 9 (aj (ag 4) (aj (ag 6) az))) (ag 8)))
def wj:CS:=(sC qI (sC qH (sC qG (sC (aN 6 (aF 71 (aj (ag 1) (aj (ag 2) az)))) (sC jV (sC qF (sC qE (sC qC (sC qA sN)))))))))
abbrev qz:CS:=(sC (aN 2 (aJ aH (ag 2) (sub (ag 1) (aJ bv (aJ aH (aJ bS (ag 0) (ai 41)) (aJ io (aJ bS (ag 0) (ai 3854)) (ag 3))) (ai 94))))) sN)
abbrev yl:C1:=(aN 1 (au T4))
abbrev yk:C1:=(aN 1 (aJ aH (ag 1) (au T5)))
abbrev yj:C1:=(aN 1 (aJ aH (ag 1) (au T6)))
abbrev yi:C1:=(jE 3 (bi ru (aj (aJ bv (ag 0) (ai 41)) az)) qz)
def G0:CS:=(sC yl (sC yk (sC yj (sC (aN 2 (au [])) (sC yi (sC (bc (ag 2)) sN))))))
abbrev jO:CS:=(sC (du (Ba (ii (a8 fh (sub (ag 4) (ai 0)) (ag 1)) (ii (a8 F3 (sub (ag 4) (ai 1)) (ag 2)) (ii (pO (cA (a8 Lf (ag 3) lA) (cA (a8 M7 (sub (ag 4) (ai 1)) (sub (ag 3) (ai 1))) gS))) vt)))) (sC (aN 3 (ag 4)) sN) sN) sN)
abbrev wa:C1:=(du (a8 fh (ag 1) (sub (key (ag 0) 2 Tt) (ai 0))) (sC (bc (cb (aj (ai 1) (aj (ai 1) az)))) sN) sN)
abbrev oj:C1:=(bc (cb (aj (sub (ag 3) (ai 2)) (aj (sub (ag 3) (ai 3)) az))))
def wc:CS:=(sC wa (sC (aN 3 lA) (sC (jE 4 (key (ag 0) 4 [116,111,108,100]) jO) (sC (du (a8 Lf (ag 3) lA) (sC (bc lA) sN) sN) (sC oj sN)))))
abbrev ux:C1:=(bc (aJ aH (ai 1) (aJ bv (aJ bS (ag 0) (ai 4)) (yH (a8 fh (aJ bv (ag 0) (ai 4)) (ai 0)) (aJ io (ai 4) (aJ xQ (ai 10) (ai 29))) (ai 500)))))
def BV:CS:=(sC ux sN)
abbrev si:C1:=(aN 5 (bi ba (aj (key (ag 1) 2 Tt) az)))
abbrev se:C1:=(aN 6 (sub (key (ag 1) 2 Tt) (aJ bv (ag 3) (ag 5))))
abbrev sd:C1:=(aN 7 (sub (key (ag 1) 2 Tt) (aJ bv (aJ aH (aJ aH (ag 3) (ai 1)) (aJ bv (aJ bS (ag 3) (ag 5)) (aJ dw (ag 5) (ai 1)))) (ag 5))))
abbrev sb:C1:=(aN 8 (sub (key (ag 1) 0 Tu) (aJ bv (aJ bS (ag 3) (ai 6)) (bi ba (aj (key (ag 1) 0 Tu) az)))))
abbrev sa:C1:=(aN 9 (sub (key (ag 1) 0 Tu) (aJ bv (aJ bS (ag 3) (ai 7)) (bi ba (aj (key (ag 1) 0 Tu) az)))))
abbrev r_:C1:=(aN 11 (bH (aj (aF 75 (aj (ag 1) (aj (ag 6) (aj (ag 4) az)))) (aj (aF 75 (aj (ag 1) (aj (ag 7) (aj (ag 4) az)))) az))))
abbrev lh:C1:=(du (pO (cA (a8 Lf (sub (ag 11) (ai 0)) lA) (cA (a8 Lf (sub (ag 11) (ai 1)) lA) gS))) (sC (bc (fq true)) sN) sN)
abbrev jU:C1:=(aN 12 (aJ io (aJ io (ag 10) (sub (sub (ag 11) (ai 0)) (ai 0))) (sub (sub (ag 11) (ai 1)) (ai 1))))
abbrev jT:C1:=(aN 12 (aJ bS (ag 12) (aJ io (sub (sub (ag 11) (ai 0)) (ai 1)) (sub (sub (ag 11) (ai 1)) (ai 0)))))
abbrev gI:C1:=(du (pO (cA (a8 fh (ag 12) (ai 0)) (cA (a8 M7 (ag 12) (aJ xQ (ai 10) (ai 30))) gS))) (sC (bc (fq true)) sN) sN)
abbrev gH:C1:=(aN 13 (bH (aj (cb (aj (ag 8) (aj (ag 6) (aj (aJ dw (ai 0) (ag 10)) az)))) (aj (cb (aj (au TH) (aj (ag 6) (aj (ag 10) az)))) az))))
abbrev gF:C1:=(aN 13 (aJ aH (ag 13) (bH (aj (cb (aj (au TH) (aj (ag 7) (aj (aJ dw (ai 0) (ag 12)) az)))) (aj (cb (aj (ag 9) (aj (ag 7) (aj (ag 12) az)))) az)))))
abbrev gE:C1:=(aN 15 (aF 73 (aj (ag 1) (aj (ag 4) (aj (ag 14) (aj (ag 13) (aj (ai 0) az)))))))
abbrev gD:C1:=(bg (bm a9 (key (ag 1) 7 Tw) (aj (cb (aj (au TB) (aj (ag 4) (aj (ag 8) (aj (ag 6) (aj (ag 10) (aj (ag 9) (aj (ag 7) (aj (ag 14) az))))))))) az)))
abbrev gC:C1:=(bc (sH fh (meth (ag 0) 17 (aj (ag 4) (aj (ag 14) (aj (ag 8) (aj (ag 6) (aj (ag 10) (aj (ag 9) (aj (ag 7) az)))))))) (ag 15)))
def iX:CS:=(sC (aN 4 (aF 71 (aj (ag 1) (aj (ag 2) az)))) (sC si (sC se (sC sd (sC sb (sC sa (sC (aN 10 (aF 76 (aj (aJ bS (ag 2) (ai 5)) az))) (sC r_ (sC lh (sC jU (sC jT (sC gI (sC gH (sC gF (sC (aN 14 (aF 56 (aj (aJ bS (ag 3) (ai 2)) az))) (sC gE (sC gD (sC gC sN))))))))))))))))))
abbrev yb:C1:=(aN 5 (sub (key (ag 1) 2 Tt) (aJ aH (ai 1) (aJ bv (ag 3) (aJ dw (bi ba (aj (key (ag 1) 2 Tt) az)) (ai 1))))))
abbrev ya:C1:=(aN 6 (cb (aj (ag 5) (aj (ag 4) (aj (aJ aH (ai 1) (aJ bv (aJ bS (ag 3) (ai 2)) (aJ xQ (ai 10) (ai 9)))) (aj (aJ aH (ai 1) (aJ bv (aJ bS (ag 2) (ai 7)) (aJ xQ (ai 10) (ai 9)))) az))))))
abbrev qk:C1:=(du (a8 Cw (aJ bv (aJ bS (ag 3) (ai 3)) (ai 3)) (ai 0)) (sC (aN 6 (cb (aj (sub (ag 6) (ai 0)) (aj (ag 4) (aj (aJ aH (ai 1) (aJ bv (aJ bS (ag 3) (ai 2)) (ai 40))) (aj (aJ aH (ai 1) (aJ bv (aJ bS (ag 2) (ai 7)) (ai 40))) az)))))) sN) sN)
abbrev x_:C1:=(bg (bm a9 (key (ag 1) 4 [116,111,108,100]) (aj (ag 6) az)))
abbrev xZ:C1:=(bg (bm a9 (key (ag 1) 7 Tw) (aj (cb (aj (au TA) (aj (sub (ag 6) (ai 0)) (aj (ag 4) (aj (sub (ag 6) (ai 2)) (aj (sub (ag 6) (ai 3)) az)))))) az)))
abbrev xY:C1:=(bc (sH Lf (meth (ag 0) 6 (aj (sub (ag 6) (ai 0)) (aj (ag 4) (aj (sub (ag 6) (ai 2)) (aj (sub (ag 6) (ai 3)) az))))) lA))
def GX:CS:=(sC (aN 4 (aF 71 (aj (ag 1) (aj (ag 2) az)))) (sC yb (sC ya (sC qk (sC x_ (sC xZ (sC xY sN)))))))
def G4:CS:=(sC (aN 1 (au T7)) (sC (aN 2 (sub (ag 1) (aJ bv (ag 0) (ai 26)))) (sC (aN 3 (aJ bS (ag 0) (ai 26))) (sC (jE 4 (bi ru (aj (aJ bv (ag 3) (ai 12)) az)) (sC (aN 2 (aJ aH (ag 2) (sub (ag 1) (aJ bv (aJ aH (aJ bS (ag 3) (ai 12)) (aJ io (aJ bS (ag 3) (ai 432)) (ag 4))) (ai 36))))) sN)) (sC (bc (ag 2)) sN)))))
abbrev wp:C1:=(du (pO (cA (a8 F4 (ag 3) (key (ag 1) 0 Tu)) (cA (a8 Cw (bi ba (aj (key (ag 1) 0 Tu) az)) (ai 6)) gS))) (sC (bc (fq true)) sN) sN)
abbrev wm:C1:=(bg (bm a9 (key (ag 1) 0 Tu) (aj (ag 3) az)))
abbrev wl:C1:=(bg (bm a9 (key (ag 1) 7 Tw) (aj (cb (aj (au TD) (aj (ag 3) az))) az)))
def Ee:CS:=(sC (aN 3 (aF 43 (aj (ag 2) az))) (sC wp (sC wm (sC wl (sC (bc (sH Lf (meth (ag 0) 37 (aj (ag 3) az)) lA)) sN)))))
abbrev jP:CS:=(sC (aN 7 (aJ aH (aJ bS (ag 2) (ai 3)) (aJ io (ai 5) (ag 6)))) (sC (aN 8 (sub (key (ag 0) 2 Tt) (aJ bv (ag 7) (bi ba (aj (key (ag 0) 2 Tt) az))))) (sC (aN 9 (aF 76 (aj (aJ aH (ag 1) (aJ io (ai 77) (ag 6))) az))) (sC (aN 10 (aJ io (aF 76 (aj (aJ aH (aJ bS (ag 1) (ai 3)) (ag 6)) az)) (aJ dw (aJ bv (aJ bS (ag 7) (ai 3)) (ai 3)) (ai 1)))) (sC (bg (bm a9 (ag 4) (aj (cb (aj (sub (ag 3) (aJ bv (aJ bS (ag 7) (ai 9)) (bi ba (aj (ag 3) az)))) (aj (ag 8) (aj (ag 9) az)))) az))) (sC (bg (bm a9 (ag 4) (aj (cb (aj (sub (ag 3) (aJ bv (aJ bS (ag 7) (ai 5)) (bi ba (aj (ag 3) az)))) (aj (ag 8) (aj (aJ dw (aJ dw (ai 0) (ag 9)) (ag 10)) az)))) az))) (sC (bg (bm a9 (ag 4) (aj (cb (aj (sub (ag 3) (aJ bv (aJ bS (ag 7) (ai 7)) (bi ba (aj (ag 3) az)))) (aj (ag 8) (aj (ag 10) az)))) az))) sN)))))))
abbrev wg:C1:=(aN 5 (yH (a8 fh (aJ bv (ag 2) (ai 16)) (ai 7)) (aJ aH (ai 1) (aJ bv (aJ bS (ag 2) (ai 16)) (ai 20))) (aJ aH (ai 1) (aJ bv (ag 2) (ai 3)))))
abbrev wf:C1:=(bc (nC false (iF 11 (ag 4) (qd (a8 xk (sub (ag 11) (ai 2)) (ai 0))) (ag 11))))
def Ec:CS:=(sC (aN 3 (key (ag 0) 0 Tu)) (sC (aN 4 (iU az)) (sC wg (sC (jE 6 (bi ru (aj (ag 5) az)) jP) (sC wf sN)))))
abbrev yh:C1:=(aN 6 (aF 80 (aj (ag 1) (aj (aJ bS (ag 2) (ai 5)) (aj (ag 3) az)))))
abbrev yg:C1:=(aN 7 (aF 73 (aj (ag 1) (aj (ag 4) (aj (ag 5) (aj (ag 6) (aj (ai 0) az)))))))
abbrev yf:C1:=(bg (bm a9 (key (ag 1) 7 Tw) (aj (cb (aj (au Ty) (aj (ag 4) (aj (ag 5) (aj (bi jb (aj (ag 6) az)) az))))) az)))
abbrev ye:C1:=(bc (sH fh (meth (ag 0) 20 (aj (ag 4) (aj (ag 5) (aj (ag 6) az)))) (ag 7)))
def GZ:CS:=(sC (aN 4 (aF 71 (aj (ag 1) (aj (ag 2) az)))) (sC (aN 5 (aF 56 (aj (ag 3) az))) (sC yh (sC yg (sC yf (sC ye sN))))))
abbrev qp:C1:=(du (pO (cA (a8 M7 (aF 70 (aj (ag 1) az)) (ai 99999)) (cA (a8 Cw (bi ba (aj (key (ag 1) 3 Tv) az)) (key (ag 1) 8 [109,111,115,116])) gS))) (sC (bc (fq true)) sN) sN)
abbrev qo:C1:=(du (a8 r7 (aJ bv (ag 2) (ai 8)) (ai 3)) (sC (bc (aF 81 (aj (ag 0) (aj (ag 1) (aj (ag 3) (aj (ag 4) az)))))) sN) sN)
abbrev qn:C1:=(du (Ba (ii (a8 fh (aJ bv (ag 2) (ai 8)) (ai 3)) (ii (a8 fh (aJ bv (aJ bS (ag 2) (ai 8)) (ai 3)) (ai 0)) vt))) (sC (bc (aF 79 (aj (ag 0) (aj (ag 1) (aj (ag 3) az))))) sN) sN)
abbrev qm:C1:=(du (a8 fh (aJ bv (ag 2) (ai 8)) (ai 3)) (sC (bc (aF 78 (aj (ag 0) (aj (ag 1) (aj (ag 3) (aj (ag 4) az)))))) sN) sN)
abbrev ql:C1:=(du (a8 r7 (aJ bv (ag 2) (ai 8)) (ai 6)) (sC (bc (aF 77 (aj (ag 0) (aj (ag 1) (aj (ag 3) (aj (ag 4) az)))))) sN) sN)
abbrev yd:C1:=(du (a8 fh (aJ bv (ag 2) (ai 8)) (ai 6)) (sC (bc (aF 74 (aj (ag 0) (aj (ag 1) (aj (ag 3) (aj (ag 4) az)))))) sN) sN)
abbrev yc:C1:=(bc (aF 72 (aj (ag 0) (aj (ag 1) (aj (ag 3) az)))))
def ul:CS:=(sC qp (sC qo (sC qn (sC qm (sC ql (sC yd (sC yc sN)))))))
abbrev om:CS:=(sC (du (gT (vh (aF 82 (aj (ag 0) (aj (ag 1) (aj (sub (ag 2) (ag 5)) (aj (sub (ag 2) (aJ aH (ag 5) (ai 1))) (aj (sub (ag 2) (aJ aH (ag 5) (ai 2))) az)))))))) (sC (bc (fq false)) sN) sN) sN)
abbrev wh:C1:=(jE 5 (bi AF (aj (ag 3) (aj (bi AG (aj (aJ dw (bi ba (aj (ag 2) az)) (ai 2)) (aj (ag 4) az))) (aj (ai 3) az)))) om)
def Ed:CS:=(sC wh (sC (bc (fq true)) sN))
abbrev qJ:CS:=(sC (bg (meth (ag 1) 37 (aj (ag 2) az))) sN)
abbrev yx:C1:=(aN 1 (DY (aj (sub (key (ag 0) 2 Tt) (ai 0)) az)))
abbrev yw:C1:=(jE 2 (vi (key (ag 0) 0 Tu) (k_ (ai 1)) Ad) qJ)
def G8:CS:=(sC yx (sC yw (sC (bc (ag 1)) sN)))
def GV:CS:=(sC (aN 3 (aJ bv (ag 1) (bi ba (aj (ag 0) az)))) (sC (bc (aJ aH (aJ aH (vi (ag 0) Ad (k_ (ag 3))) (sub (ag 2) (aJ bv (aJ bS (ag 1) (ai 13)) (ai 26)))) (vi (ag 0) (k_ (aJ aH (ag 3) (ai 1))) Ad))) sN))
def wi:CS:=(sC (aN 1 (au TI)) (sC (aN 2 (sub (ag 1) (aJ bv (ag 0) (ai 26)))) (sC (aN 2 (aJ aH (ag 2) (sub (ag 1) (aJ bv (aJ bS (ag 0) (ai 26)) (ai 26))))) (sC (bc (aJ aH (ag 2) (sub (ag 1) (aJ bv (aJ bS (ag 0) (ai 676)) (ai 26))))) sN))))
abbrev fy:CS:=(sC (du (Ba (ii (a8 l9 (ag 4) (ag 1)) (ii (a8 r7 (bi ba (aj (ag 1) az)) (ag 3)) vt))) (sC (bg (bm a9 (ag 1) (aj (ag 4) az))) sN) sN) sN)
abbrev nF:C1:=(aN 2 (iU (aj (aF 41 (aj (sub (ag 0) (ai 0)) az)) (aj (aF 41 (aj (sub (ag 0) (ai 1)) az)) (aj (au [69,85,82]) (aj (au [74,80,89]) (aj (au [85,83,68]) az)))))))
abbrev nE:C1:=(aN 2 (nC true (D8 (ag 2) (bH (aj (au [75,87,68]) (aj (au [67,72,70]) (aj (au [71,66,80]) (aj (au [83,69,75]) (aj (au [69,85,83]) az)))))))))
abbrev iq:C1:=(aN 3 (yH (a8 fh (aJ bv (aJ bS (sub (ag 0) (ai 0)) (ai 3)) (ai 8)) (ai 3)) (ai 8) (ai 4)))
abbrev ip:C1:=(du (a8 fh (aJ bv (sub (ag 0) (ai 1)) (ai 2)) (ai 1)) (sC (oG (ag 2) (ai 1) (aF 40 (aj (sub (ag 2) (ai 0)) (aj (aJ bS (sub (ag 0) (ai 1)) (ai 2)) (aj (au TI) az))))) sN) sN)
def r9:CS:=(sC (aN 1 (iU az)) (sC nF (sC nE (sC iq (sC ip (sC (jE 4 (ag 2) fy) (sC (bc (ag 1)) sN)))))))
abbrev mQ:CS:=(sC (du (a8 l9 (ag 3) (ag 2)) (sC (bg (bm a9 (ag 2) (aj (ag 3) az))) sN) sN) sN)
abbrev uv:C1:=(aN 1 (iU (aj (aF 43 (aj (sub (ag 0) (ai 0)) az)) (aj (aF 43 (aj (sub (ag 0) (ai 1)) az)) (aj (au [97]) (aj (au [122,57]) az))))))
abbrev mP:C1:=(du (a8 fh (aJ bv (sub (ag 0) (ai 1)) (ai 2)) (ai 1)) (sC (oG (ag 1) (ai 1) (aF 40 (aj (sub (ag 1) (ai 0)) (aj (aJ bS (sub (ag 0) (ai 1)) (ai 2)) (aj (au TJ) az))))) sN) sN)
abbrev uu:C1:=(aN 2 (iU (aj (au TH) az)))
def BQ:CS:=(sC uv (sC mP (sC uu (sC (jE 3 (ag 1) mQ) (sC (bc (ag 2)) sN)))))
abbrev ut:CS:=(sC (Iy wu (ag 1) (ag 2) (iU az)) sN)
abbrev ur:C1:=(aN 1 (D6 Tu (aF 87 (aj (bH (aj (aF 33 (aj (ag 0) (aj (ai 0) az))) (aj (aF 33 (aj (ag 0) (aj (ai 1) az))) az))) az))))
abbrev uq:C1:=(jE 2 (bH (aj (au Tv) (aj (au [116,111,108,100]) (aj (au TG) (aj (au [98,97,99,107,115]) (aj (au Tw) az)))))) ut)
def BP:CS:=(sC ur (sC (Gs wu 1 (ag 1) (au [102,105,114,115,116]) (bi ba (aj (key (ag 1) 0 Tu) az))) (sC (Gs wu 2 (ag 1) (au Tt) (aF 42 (aj (bH (aj (aF 33 (aj (ag 0) (aj (ai 2) az))) (aj (aF 33 (aj (ag 0) (aj (ai 3) az))) az))) az))) (sC uq (sC (Gs wu 8 (ag 1) (au [109,111,115,116]) (ai 5)) (sC (bc (ag 1)) sN))))))
abbrev y6:C1:=(du (gT (vh (aF 83 (aj (ag 2) (aj (ag 1) (aj (ag 0) (aj (ai 7) (aj (ai 63) az)))))))) (sC (bc (fq false)) sN) sN)
abbrev rj:C1:=(aN 5 (aJ bv (aF 33 (aj (ag 0) (aj (ai 4) az))) (bi ba (aj (ag 3) az))))
abbrev ri:C1:=(du (pO (cA (gT (vh (aF 101 (aj (aF 105 (aj (aF 106 (aj (ag 3) (aj (aF 33 (aj (ag 0) (aj (ai 5) az))) (aj (ag 5) az)))) az)) az)))) (cA (gT (vh (aF 101 (aj (xC (ag 4) Ad (k_ (neg (ai 1)))) az)))) gS))) (sC (bc (fq false)) sN) sN)
abbrev y0:C1:=(aN 6 (bH (aj (au []) (aj (au [10]) (aj (au [104,111,109,101]) (aj (au [104,111,109,101,32,10]) (aj (au [104,111,109,101,32,69,85,82,32,85,83,68,10]) (aj (au [99,108,111,115,101,32,53,10]) (aj (au [104,111,109,101,32,69,85,82,10,99,108,111,115,101,32,53]) az)))))))))
abbrev rh:C1:=(aN 6 (aJ aH (ag 6) (bH (aj (au [104,111,109,101,32,101,117,114,10,99,108,111,115,101,10]) (aj (au [104,111,109,101,32,69,10,120,10]) az)))))
abbrev oq:C1:=(du (gT (vh (aF 101 (aj (sub (ag 6) (aJ bv (aF 33 (aj (ag 0) (aj (ai 6) az))) (ai 9))) az)))) (sC (bc (fq false)) sN) sN)
abbrev wH:C1:=(bc (aF 104 (aj (ag 4) (aj (ag 1) (aj (aJ bS (aF 33 (aj (ag 0) (aj (ai 6) az))) (ai 7)) az)))))
def Hz:CS:=(sC (aN 1 (aF 108 (aj (ag 0) az))) (sC (aN 2 (aF 86 (aj (ag 1) az))) (sC y6 (sC (aN 3 (aF 107 (aj (ag 1) az))) (sC (aN 4 (aF 105 (aj (ag 3) az))) (sC rj (sC ri (sC y0 (sC rh (sC oq (sC wH sN)))))))))))
def Gx:oV:=⟨0,"__init__",true,[("self",0),("home",1)],2,2,false,H4⟩
def zW:List oV:=[
 Gx,
 ⟨2,"closed",true,[("self",0)],1,1,false,Cz⟩,
 ⟨3,"need_day",false,[("day",0)],1,1,false,wG⟩,
 ⟨4,"need_open",true,[("self",0),("day",1)],2,2,false,uX⟩,
 ⟨5,"need_currency",false,[("text",0)],1,2,false,nL⟩,
 ⟨6,"tell_rate",true,[("self",0),("currency",1),("day",2),("top",3),("bottom",4),("days",5)],5,6,false,uW⟩,
 ⟨7,"enter",true,[("self",0),("day",1),("note",2),("lines",3),("back",4),("number",5)],5,6,false,FB⟩,
 ⟨8,"entry",true,[("self",0),("number",1)],2,2,false,Fy⟩,
 ⟨9,"contrary",true,[("self",0),("number",1),("day",2),("old",3),("lines",4)],3,6,false,w6⟩,
 ⟨11,"close",true,[("self",0),("day",1)],2,2,false,FC⟩,
 ⟨12,"is_amount",false,[("amount",0)],1,1,false,uJ⟩,
 ⟨13,"changed",false,[("amount",0),("one",1),("other",2)],3,3,false,zb⟩,
 ⟨14,"rate",true,[("self",0),("currency",1),("day",2),("days",3),("known",4)],3,6,false,AW⟩,
 ⟨15,"need_account",true,[("self",0),("account",1)],2,2,false,oS⟩,
 ⟨16,"need_note",false,[("text",0)],1,2,false,uI⟩,
 ⟨17,"convert",true,[("self",0),("day",1),("note",2),("giver",3),("one",4),("amount",5),("taker",6),("other",7),("got",8),("lines",9)],8,10,false,rM⟩,
 ⟨18,"balanced",false,[("lines",0),("totals",1),("line",2)],1,4,false,wI⟩,
 ⟨19,"need_line",true,[("self",0),("line",1)],2,2,false,uY⟩,
 ⟨20,"post",true,[("self",0),("day",1),("note",2),("lines",3),("line",4),("kept",5)],4,7,false,H3⟩,
 ⟨29,"_law_lone",false,[("_law_e",0),("_law_found",1)],1,2,false,G6⟩,
 ⟨33,"_law_cell",false,[("_law_script",0),("_law_k",1)],2,2,false,G7⟩,
 ⟨36,"is_name",false,[("text",0)],1,2,false,y_⟩,
 ⟨37,"admit",true,[("self",0),("account",1)],2,2,false,FD⟩,
 ⟨40,"_law_twin",false,[("_law_text_here",0),("_law_cell_here",1),("_law_signs",2),("_law_at",3)],3,4,false,GV⟩,
 ⟨41,"_law_currency",false,[("_law_cell_here",0),("_law_signs",1),("_law_found",2)],1,3,false,wi⟩,
 ⟨42,"_law_currencies",false,[("_law_cells",0),("_law_found",1),("_law_some",2),("_law_limit",3),("_law_currency_here",4)],1,5,false,r9⟩,
 ⟨43,"_law_name",false,[("_law_cell_here",0),("_law_signs",1),("_law_found",2),("_law_left",3),("_law_k",4)],1,5,false,G4⟩,
 ⟨56,"_law_note",false,[("_law_cell_here",0),("_law_some",1),("_law_found",2),("_law_k",3)],1,4,false,G0⟩,
 ⟨70,"_law_closed",false,[("_law_plain_here",0)],1,1,false,BU⟩,
 ⟨71,"_law_day",false,[("_law_plain_here",0),("_law_cell_here",1),("_law_closed_here",2)],2,3,false,J_⟩,
 ⟨72,"_law_shut",false,[("_law_book_here",0),("_law_plain_here",1),("_law_big",2),("_law_day_here",3)],3,4,false,Eb⟩,
 ⟨73,"_law_put",false,[("_law_plain_here",0),("_law_day_here",1),("_law_note_here",2),("_law_lines_here",3),("_law_back",4),("_law_number",5)],5,6,false,J9⟩,
 ⟨74,"_law_contrary",false,[("_law_book_here",0),("_law_plain_here",1),("_law_big",2),("_law_pick",3),("_law_number",4),("_law_entry",5),("_law_day_here",6),("_law_lines_here",7),("_law_due",8)],4,10,false,wj⟩,
 ⟨75,"_law_rate",false,[("_law_plain_here",0),("_law_currency_here",1),("_law_day_here",2),("_law_found",3),("_law_row",4)],3,5,false,wc⟩,
 ⟨76,"_law_amount",false,[("_law_cell_here",0)],1,1,false,BV⟩,
 ⟨77,"_law_convert",false,[("_law_book_here",0),("_law_plain_here",1),("_law_big",2),("_law_pick",3),("_law_day_here",4),("_law_many",5),("_law_one",6),("_law_other",7),("_law_giver",8),("_law_taker",9),("_law_amount_here",10),("_law_rates",11),("_law_found",12),("_law_lines_here",13),("_law_note_here",14),("_law_due",15)],4,16,false,iX⟩,
 ⟨78,"_law_tell",false,[("_law_book_here",0),("_law_plain_here",1),("_law_big",2),("_law_pick",3),("_law_day_here",4),("_law_currency_here",5),("_law_row",6)],4,7,false,GX⟩,
 ⟨79,"_law_admit",false,[("_law_book_here",0),("_law_plain_here",1),("_law_big",2),("_law_name_here",3)],3,4,false,Ee⟩,
 ⟨80,"_law_lines",false,[("_law_plain_here",0),("_law_big",1),("_law_pick",2),("_law_names_here",3),("_law_found",4),("_law_many",5),("_law_k",6),("_law_left",7),("_law_currency_here",8),("_law_one",9),("_law_two",10)],3,12,false,Ec⟩,
 ⟨81,"_law_post",false,[("_law_book_here",0),("_law_plain_here",1),("_law_big",2),("_law_pick",3),("_law_day_here",4),("_law_note_here",5),("_law_lines_here",6),("_law_due",7)],4,8,false,GZ⟩,
 ⟨82,"_law_step",false,[("_law_book_here",0),("_law_plain_here",1),("_law_way",2),("_law_big",3),("_law_pick",4)],5,5,false,ul⟩,
 ⟨83,"_law_deeds",false,[("_law_book_here",0),("_law_plain_here",1),("_law_script",2),("_law_first",3),("_law_last",4),("_law_k",5)],5,6,false,Ed⟩,
 ⟨86,"_law_book",false,[("_law_plain_here",0),("_law_book_here",1),("_law_name_here",2)],1,3,false,G8⟩,
 ⟨87,"_law_names",false,[("_law_cells",0),("_law_some",1),("_law_found",2),("_law_name_here",3)],1,4,true,BQ⟩,
 ⟨90,"done",false,[("book",0),("deed",1)],2,2,false,HA⟩,
 ⟨91,"number_of",false,[("word",0),("figures",1)],1,3,false,uH⟩,
 ⟨92,"words_of",false,[("row",0),("first",1),("many",2),("words",3)],3,4,false,wF⟩,
 ⟨93,"name_of",false,[("word",0)],1,2,false,yY⟩,
 ⟨94,"change_of",false,[("row",0),("words",1),("note",2),("first",3)],1,4,false,ja⟩,
 ⟨95,"line_of",false,[("row",0),("words",1)],1,2,false,yZ⟩,
 ⟨96,"entry_of",false,[("rows",0),("at",1),("words",2),("day",3),("count",4),("lines",5)],2,7,false,j7⟩,
 ⟨97,"deed_of",false,[("rows",0),("at",1),("word",2),("words",3)],2,4,false,i_⟩,
 ⟨98,"deeds_of",false,[("rows",0),("found",1),("at",2),("deed",3)],1,4,false,ot⟩,
 ⟨99,"read",false,[("text",0),("rows",1),("home",2),("deeds",3),("book",4),("deed",5)],1,6,false,AB⟩,
 ⟨100,"_law_tried",false,[("_law_text_here",0),("_law_names_here",1),("_law_e",2),("_law_found",3)],1,4,false,BL⟩,
 ⟨101,"_law_refused",false,[("_law_text_here",0),("_law_e",1)],1,2,false,v_⟩,
 ⟨102,"_law_last_due",false,[("_law_closed_here",0),("_law_cell_here",1),("_law_dues",2)],2,3,false,ol⟩,
 ⟨103,"_law_more",false,[("_law_home",0),("_law_other",1),("_law_two",2),("_law_more_here",3),("_law_small",4)],2,5,false,G5⟩,
 ⟨104,"_law_last_refused",false,[("_law_text_here",0),("_law_plain_here",1),("_law_cell_here",2),("_law_closed_here",3),("_law_other",4),("_law_more_here",5),("_law_due",6)],3,8,false,oJ⟩,
 ⟨105,"_law_text",false,[("_law_rows_here",0)],1,2,false,GW⟩,
 ⟨106,"_law_bent",false,[("_law_rows_here",0),("_law_way",1),("_law_at",2),("_law_row",3),("_law_head",4),("_law_tail",5),("_law_some",6),("_law_more_here",7),("_law_words",8),("_law_odd",9)],3,10,false,Ai⟩,
 ⟨107,"_law_rows",false,[("_law_plain_here",0),("_law_rows_here",1),("_law_name_here",2),("_law_deed",3),("_law_line",4)],1,6,false,GY⟩,
 ⟨108,"_law_plain",false,[("_law_script",0),("_law_plain_here",1),("_law_part",2)],1,3,false,BP⟩,
 ⟨109,"law",false,[("_law_script",0),("_law_plain_here",1),("_law_book_here",2),("_law_rows_here",3),("_law_text_here",4),("_law_at",5),("_law_strange",6)],1,7,false,Hz⟩]
noncomputable def QN:Nat:=109
noncomputable def KM:List (Str×(Option Int×List Nat)):=[("SMALL",(none,TJ)),("GREAT",(none,TI)),("FIGURES",(none,TL)),("LAST_DAY",(some 99999,[])),("BOUND",(some 1000000000000000000000000000000,[])),("GREATEST",(some 1000000000,[]))]
abbrev TT:Nat->Option PF:=zR zW
end
open PySem PySem.W PySem.Calls PyProof.Rows
set_option Elab.async false
set_option maxRecDepth 100000
set_option maxHeartbeats 8000000
noncomputable def wv (i:Nat):Str:=(wu[i]?).elim ⟨#[0,i]⟩ fun l=>⟨l.toArray⟩
noncomputable def Bf:Option (Str×Pos):=none
def KP (h:Heap):Prop:=∃ K:Frag,K.In h/\Ly Bf Gx zW KM wv K=true/\tG Bf K h
def yN (s:Shared):Prop:=KP s.heap
theorem KP.keeps {h h':Heap} (x:KP h) (k:∀ b o,h.get? b=some o->h'.get? b=some o):KP h':=x.elim fun K y=>⟨K,y.1.keeps k,y.2.1,fun l e=>k _ _ (y.2.2 l e)⟩
theorem Ji {h:Heap} {K:Frag} (X:K.In h) (ok:Ly Bf Gx zW KM wv K=true) (TK:tG Bf K h):TabsAt ((iZ Bf K).toList.map fun l=>(l.c,l.P)) h:=fun q hq=>by
 obtain ⟨l,hl,rfl⟩:=SD.mp hq;have e:=Option.mem_toList.mp hl;have o7:=aq ok;rw[e] at o7;exact ⟨codeHd_of_K X o7,TK l e⟩
theorem EI {h:Heap} {K:Frag} (x:∀ l,iZ Bf K=some l->∃ ps,h.get? l.P=some (vw ps)):GrownAll ((iZ Bf K).toList.map fun l=>(l.c,l.P)) h:=by
 cases e:iZ Bf K with
 |none=>exact trivial
 |some l=>exact ⟨x l e,trivial⟩
theorem yQ {h h':Heap} {K:Frag} (x:∀ b o,b∉(iZ Bf K).toList.map (·.P)->h.get? b=some o->h'.get? b=some o) (b:Addr) (o:Obj) (e:(ghostOf h ((iZ Bf K).toList.map fun l=>(l.c,l.P))).get? b=some o):h'.get? b=some o:=
 x b o (fun hb=>by
  rw[hideAll_none _ (by rw[List.map_map];exact hb)] at e;cases e) (of_hideAll _ e)
theorem RP:∀ (w:World) (os:OsState),(eO pN w 11 (some (.ref 6)) 40178 ⟨gq (boot_heap w.params).objs.toList,11,{},Array.mk [],boot_drawn,boot_toks,os⟩ (topStub pN)).map (fun s=>Ly Bf Gx zW KM wv (yV s.tree s.n)&&xu Bf (yV s.tree s.n) s.tree s.n)=some true:=fun w os=>by kernel_rfl
noncomputable abbrev iV (x:Int):Option PV:=some (.d (.int x))
noncomputable abbrev sV (x:List Nat):Option PV:=some (.d (.str x))
noncomputable abbrev dV (x:D):Option PV:=some (.d x)
noncomputable abbrev qV (n:Nat):Option PV:=some (.p n 0)
noncomputable abbrev CC (d:Nat) (hd:Bool) (f:Nat) (args:List PV) (σ:aE):Option (R PV×aE):=lB TT d hd f args σ
noncomputable abbrev KK (d:Nat) (hd:Bool):c9:=⟨lB TT d,hd⟩
abbrev Ev (K:c9) (e:CE) (ρ:bj) (σ:aE) (v:PV):Prop:=e.ev K ρ σ=some (.ok v,σ)
abbrev Ts (K:c9) (t:CT) (ρ:bj) (σ:aE) (b:Bool):Prop:=t.ts K ρ σ=some (.ok b,σ)
section
variable {f:Nat}
theorem aC {m:PM α} {g:α->PM β} {a:α} {z:Option (R β×aE)} (h:m σ=some (.ok a,σ')) (k:g a σ'=z):bU m g σ=z:=by
 unfold bU;rw[h];exact k
theorem l_ {m:PM α} {g:α->PM β} (h:m σ=some (.ex c,σ')):bU m g σ=some (.ex c,σ'):=by
 unfold bU;rw[h];rfl
theorem cy {m:PM α} {k:α->aE->Option (Out×aE)} {a:α} {z:Option (Out×aE)} (h:m σ=some (.ok a,σ')) (h2:k a σ'=z):cO ρ m k σ=z:=by
 unfold cO;rw[h];exact h2
theorem ua {m:PM α} {k:α->aE->Option (Out×aE)} (h:m σ=some (.ex c,σ')):cO ρ m k σ=some (.ex c ρ,σ'):=by
 unfold cO;rw[h]
theorem aa {a:C1} {l:CS} {z:Option (Out×aE)} (h:a.ex K ρ σ=some (.next ρ',σ')) (k:l.ex K ρ' σ'=z):(sC a l).ex K ρ σ=z:=by
 show og (a.ex K ρ σ) (l.ex K)=z;rw[h];exact k
theorem aW {a:C1} {l:CS} {v:PV} (h:a.ex K ρ σ=some (.ret v,σ')):(sC a l).ex K ρ σ=some (.ret v,σ'):=by
 show og (a.ex K ρ σ) (l.ex K)=_;rw[h];rfl
theorem aY {a:C1} {l:CS} (h:a.ex K ρ σ=some (.ex c ρ',σ')):(sC a l).ex K ρ σ=some (.ex c ρ',σ'):=by
 show og (a.ex K ρ σ) (l.ex K)=_;rw[h];rfl
theorem aU {v:PV} (h:e.ev K ρ σ=some (.ok v,σ')):(bc e).ex K ρ σ=some (.ret v,σ'):=cy h rfl
theorem aA {v:PV} (h:e.ev K ρ σ=some (.ok v,σ')) (k:ρ.set i (some v)=ρ'):(aN i e).ex K ρ σ=some (.next ρ',σ'):=by
 subst k;exact cy h rfl
theorem dS (h:e.ev K ρ σ=some (.ex c,σ')):(aN i e).ex K ρ σ=some (.ex c ρ,σ'):=ua h
theorem aK {v:PV} (h:e.ev K ρ σ=some (.ok v,σ')):(bg e).ex K ρ σ=some (.next ρ,σ'):=cy h rfl
theorem cG (h:e.ev K ρ σ=some (.ex c,σ')):(bg e).ex K ρ σ=some (.ex c ρ,σ'):=ua h
theorem dE (h:e.ev K ρ σ=some (.ex c,σ')):(bc e).ex K ρ σ=some (.ex c ρ,σ'):=ua h
theorem bo {t:CT} {a b:CS} {z:Option (Out×aE)} (h:Ts K t ρ σ true) (k:a.ex K ρ σ=z):(du t a b).ex K ρ σ=z:=cy h k
theorem a' {t:CT} {a b:CS} {z:Option (Out×aE)} (h:Ts K t ρ σ false) (k:b.ex K ρ σ=z):(du t a b).ex K ρ σ=z:=cy h k
theorem iN {i:CE} {k:D} (h1:Ev K a ρ σ (.d v)) (h2:Ev K o ρ σ x) (h3:Ev K i ρ σ (.d k)) (h4:Bn x k v σ=some σ'):(oG o i a).ex K ρ σ=some (.next ρ,σ'):=by
 refine cy h1 (cy h2 (cy h3 ?_));show (Bn x k v σ).bind _=_;rw[h4];rfl
theorem dp {b:CS} {v:PV} {x:D} {xs:List D} {z:Option (Out×aE)} (h:Ev K it ρ σ v) (h1:Am v σ=some (x,xs)) (h2:fe v x i (fun ρ=>b.ex K ρ) xs ρ σ=z) (hK:K.hd=false:=by rfl):(jE i it b).ex K ρ σ=z:=by
 show (match K.hd with|true=>none|false=>_)=z
 rw[hK];refine cy h ?_;show (Am v σ).bind _=z;rw[h1];exact h2
theorem cB {v:PV} {x y:D} {b:bj->aE->Option (Out×aE)} {z:Option (Out×aE)} (h:b (ρ.set i (dV y)) σ=some (.next ρ',σ')) (hs:bP σ' x v=true) (k:fe v x i b l ρ' σ'=z):fe v x i b (y::l) ρ σ=z:=by
 show (match b (ρ.set i (dV y)) σ with
  |some (.next ρ',σ')=>if bP σ' x v then fe v x i b l ρ' σ' else none
  |z=>z)=z
 rw[h];show (if bP σ' x v then _ else none)=z;rw[if_pos hs];exact k
theorem AA {v:PV} {x:D} {b:bj->aE->Option (Out×aE)} (N:Nat) (Pr:List D->bj->aE->Prop):∀ (xs pre:List D) (ρ:bj) (σ:aE),pre.length+xs.length<=N->Pr pre ρ σ->(∀ pre y ρ σ,y∈xs->pre.length<N->Pr pre ρ σ->∃ ρ' σ',b (ρ.set i (dV y)) σ=some (.next ρ',σ')/\bP σ' x v=true/\Pr (pre++[y]) ρ' σ')->∃ ρ' σ',fe v x i b xs ρ σ=some (.next ρ',σ')/\Pr (pre++xs) ρ' σ':=by
 intro xs
 induction xs with
 |nil=>
  intro pre ρ σ _ h _;exact ⟨ρ,σ,rfl,by rw[List.append_nil];exact h⟩
 |cons y xs ih=>
  intro pre ρ σ hl h st;rw[Ss] at hl;obtain ⟨ρ1,σ1,e1,s1,p1⟩:=st pre y ρ σ (.head _) (Nat.lt_of_add_right_lt hl) h;obtain ⟨ρ2,σ2,e2,p2⟩:=ih (pre++[y]) ρ1 σ1 (by rw[Sn,Sw];exact O5 hl) p1 fun pre z ρ σ hz=>st pre z ρ σ (.tail _ hz);exact ⟨ρ2,σ2,cB e1 s1 e2,by rw[List.append_cons];exact p2⟩
theorem Hw {γ:Type} {v:PV} {x:D} {b:bj->aE->Option (Out×aE)} (f:α->D) (mk:β->γ->bj) (g:β->α->β) (hs:bP σ x v=true):∀ (ys:List α),(∀ s c y,y∈ys->∃ c',b ((mk s c).set i (dV (f y))) σ=some (.next (mk (g s y) c'),σ))->∀ s c,∃ c',fe v x i b (ys.map f) (mk s c) σ=some (.next (mk (ys.foldl g s) c'),σ):=by
 intro ys
 induction ys with
 |nil=>
  intro _ s c;exact ⟨c,rfl⟩
 |cons y ys ih=>
  intro h s c;obtain ⟨c1,e1⟩:=h s c y (.head _);obtain ⟨c2,e2⟩:=ih (fun s c z hz=>h s c z (.tail _ hz)) (g s y) c1;exact ⟨c2,cB e1 hs e2⟩
theorem mA {x:D} (h:rd σ (.p n j)=some x):bP σ x (.p n j)=true:=@SC _ (_) h
theorem rG {p s:Nat} {b:CS} {args:List PV} {o:Out} (hT:TT f=some ⟨p,s,kp,b.ex⟩) (hl:args.length=p) (hr:args.map some++List.replicate (s - p) none=ρ) (h:b.ex (KK d hd) ρ σ=some (o,σ')) (k:E5 kp σ.length (some (o,σ'))=z):CC (d+1) hd f args σ=z:=by
 show (match TT f with
  |some pf=>Jr ⟨lB TT d,hd⟩ pf args
  |none=>fun _=>none) σ=z
 rw[hT];show (if args.length=p then E5 kp σ.length (b.ex (KK d hd) (args.map some++List.replicate (s - p) none) σ) else none)=z;rw[if_pos hl,hr,h];exact k
theorem bf {p s:Nat} {b:CS} {args:List PV} (hT:TT f=some ⟨p,s,kp,b.ex⟩) (hl:args.length=p) (hr:args.map some++List.replicate (s - p) none=ρ) (h:b.ex (KK d hd) ρ σ=some (.ret (.d v),σ')) (k:σ'.take σ.length=σ''):CC (d+1) hd f args σ=some (.ok (.d v),σ''):=
 rG hT hl hr h (by show some (R.ok (PV.d v),σ'.take σ.length)=_;rw[k])
theorem eq {p s:Nat} {b:CS} {args:List PV} (hT:TT f=some ⟨p,s,kp,b.ex⟩) (hl:args.length=p) (hr:args.map some++List.replicate (s - p) none=ρ) (h:b.ex (KK d hd) ρ σ=some (.next ρ',σ')) (k:σ'.take σ.length=σ''):CC (d+1) hd f args σ=some (.ok (.d .none),σ''):=
 rG hT hl hr h (by show some (R.ok (PV.d .none),σ'.take σ.length)=_;rw[k])
theorem bR {p s:Nat} {b:CS} {args:List PV} (hT:TT f=some ⟨p,s,kp,b.ex⟩) (hl:args.length=p) (hr:args.map some++List.replicate (s - p) none=ρ) (h:b.ex (KK d hd) ρ σ=some (.ex c ρ',σ')) (k:σ'.take σ.length=σ''):CC (d+1) hd f args σ=some (.ex c,σ''):=
 rG hT hl hr h (by show some (R.ex c,σ'.take σ.length)=_;rw[k])
theorem Fv {p s:Nat} {b:CS} {args:List PV} (hT:TT f=some ⟨p,s,false,b.ex⟩) (hl:args.length=p) (hr:args.map some++List.replicate (s - p) none=ρ) (h:b.ex (KK d hd) ρ σ=some (.ret (.p m 0),σ')) (hm:σ.length<=m) (ho:σ'[m]? =some (.fld f')) (k:σ'.take σ.length=σ''):CC (d+1) hd f args σ=some (.ok (.d f'.toD),σ''):=
 rG hT hl hr h (by
  show (if m<σ.length then _ else Br false σ.length σ' 0 σ'[m]?)=_;rw[if_neg (To.mpr hm),ho,<-k];rfl)
theorem tk (σ:aE):σ.take σ.length=σ:=List.take_length
theorem Iw (σ l:aE):(σ++l).take σ.length=σ:=List.take_left
theorem aX {o:BO} {b:CE} {w z:D} (h1:Ev K a ρ σ x) (h2:Ev K b ρ σ y) (r1:rd σ x=some u) (r2:rd σ y=some w) (h:o.g u w=some z):Ev K (aJ o a b) ρ σ (.d z):=by
 refine aC h1 (aC h2 ?_);show (rd σ x).bind _=_;rw[r1,Sl,r2,Sl,h];rfl
theorem rE {o:CO} {w:D} (h:o.g u w=some q) (r1:rd σ x=some u) (r2:rd σ y=some w):CX o.g x y σ=some (.ok q,σ):=by
 unfold CX;rw[r1,Sl,r2,Sl,h];rfl
theorem nP {o:CO} {b:CE} {w:D} (h1:Ev K a ρ σ x) (h2:Ev K b ρ σ y) (r1:rd σ x=some u) (r2:rd σ y=some w) (h:o.g u w=some q):Ev K (sH o a b) ρ σ (.d (.bool q)):=
 aC h1 (aC h2 (aC (rE h r1 r2) rfl))
theorem av {o:CO} {b:CE} {w:D} (h1:Ev K a ρ σ x) (h2:Ev K b ρ σ y) (r1:rd σ x=some u) (r2:rd σ y=some w) (h:o.g u w=some q):Ts K (a8 o a b) ρ σ q:=
 aC h1 (aC h2 (rE h r1 r2))
theorem bz {l:xm .Or} (h:l.ts K ρ σ=some (.ok q,σ)):Ts K (pO l) ρ σ q:=h
theorem dQ {l:xm .And} (h:l.ts K ρ σ=some (.ok q,σ)):Ts K (Ba l) ρ σ q:=h
theorem uO {l:CA} (h:l.ev K ρ σ=z):(Ib l).ev K ρ σ=z:=h
theorem uN (h:a.ev K ρ σ=z):(H' a).ev K ρ σ=z:=h
theorem jm {a:CT} (h:Ts K a ρ σ true):Ts K (gT a) ρ σ false:=aC h rfl
theorem C' {a:CT} (h:Ts K a ρ σ false):Ts K (gT a) ρ σ true:=aC h rfl
theorem xr {t:CT} {z:Option (R Bool×aE)} (h:t.ts K ρ σ=z):(qd t).ts K ρ σ=z:=h
theorem iL {a:CT} (h:Ts K a ρ σ q):Ts K (gT a) ρ σ (!q):=aC h rfl
theorem dT (h:Ev K a ρ σ (.d (.bool q))):Ts K (vh a) ρ σ q:=aC h rfl
theorem bM {a:CT} {l:xm .Or} (h:Ts K a ρ σ false) (k:l.ts K ρ σ=some (.ok q,σ)):(cA a l).ts K ρ σ=some (.ok q,σ):=aC h k
theorem eY {a:CT} {l:xm .Or} (h:Ts K a ρ σ true):(cA a l).ts K ρ σ=some (.ok true,σ):=aC h rfl
theorem fk {a:CT} {l:xm .And} (h:Ts K a ρ σ true) (k:l.ts K ρ σ=some (.ok q,σ)):(ii a l).ts K ρ σ=some (.ok q,σ):=aC h k
theorem lG {a:CT} {l:xm .And} (h:Ts K a ρ σ false):(ii a l).ts K ρ σ=some (.ok false,σ):=aC h rfl
theorem zj {l:CA} (h:Ev K a ρ σ (.d (.bool true))) (k:l.ev K ρ σ=z):(FP a l).ev K ρ σ=z:=aC h (aC (a:=true) (σ':=σ) rfl k)
theorem NO {l:CA} (h:Ev K a ρ σ (.d (.bool false))):(FP a l).ev K ρ σ=some (.ok (.d (.bool false)),σ):=aC h (aC (a:=false) (σ':=σ) rfl rfl)
theorem M3 {o q:CO} {c:CE} {w:PV} {t:D} {p r:Bool} (h3:Ev K c ρ σ w) (r1:rd σ x=some u) (r2:rd σ y=some v) (r3:rd σ w=some t) (e1:o.g u v=some p) (e2:q.g v t=some r):QX (c.ev K ρ) o.g q.g x y σ=some (.ok (.d (.bool (p&&r))),σ):=by
 refine aC (rE e1 r1 r2) ?_;cases p with
 |true=>exact aC h3 (aC (rE e2 r2 r3) rfl)
 |false=>rfl
theorem uM {o q:CO} {b c:CE} {w:PV} {t:D} {p r:Bool} (h1:Ev K a ρ σ x) (h2:Ev K b ρ σ y) (h3:Ev K c ρ σ w) (r1:rd σ x=some u) (r2:rd σ y=some v) (r3:rd σ w=some t) (e1:o.g u v=some p) (e2:q.g v t=some r):Ev K (Ct o q a b c) ρ σ (.d (.bool (p&&r))):=aC h1 (aC h2 (M3 h3 r1 r2 r3 e1 e2))
theorem tO {o q:CO} {b c:CE} {w:PV} {t:D} {p r:Bool} (h1:Ev K a ρ σ x) (h2:Ev K b ρ σ y) (h3:Ev K c ρ σ w) (r1:rd σ x=some u) (r2:rd σ y=some v) (r3:rd σ w=some t) (e1:o.g u v=some p) (e2:q.g v t=some r):Ts K (De o q a b c) ρ σ (p&&r):=by
 refine aC h1 (aC h2 (aC (rE e1 r1 r2) ?_));cases p with
 |true=>exact aC h3 (rE e2 r2 r3)
 |false=>rfl
theorem EX {i:Int} (h:Ev K a ρ σ (.d (.int i))):Ev K (neg a) ρ σ (.d (.int (-i))):=aC h rfl
theorem pA {t:CT} {b:CE} (h:Ts K t ρ σ true) (k:a.ev K ρ σ=z):(yH t a b).ev K ρ σ=z:=aC h k
theorem pB {t:CT} {b:CE} (h:Ts K t ρ σ false) (k:b.ev K ρ σ=z):(yH t a b).ev K ρ σ=z:=aC h k
theorem cl1 (h:Ev K a ρ σ x):(aj a az).ev K ρ σ=some (.ok [x],σ):=aC h (aC (a:=[]) (σ':=σ) rfl rfl)
theorem cW {l:CL} (h:Ev K a ρ σ x) (k:l.ev K ρ σ=some (.ok xs,σ)):(aj a l).ev K ρ σ=some (.ok (x::xs),σ):=aC h (aC k rfl)
theorem cC {f:BF} {l:CL} (h:l.ev K ρ σ=some (.ok xs,σ)) (k:f.g K.hd xs σ=z):(bi f l).ev K ρ σ=z:=aC h k
theorem aB {l:CL} (h:l.ev (KK d hd) ρ σ=some (.ok xs,σ)) (k:CC d hd n xs σ=z):(aF n l).ev (KK d hd) ρ σ=z:=aC h k
theorem eI {l:CL} (k:CC d hd n xs σ=z) (h:l.ev (KK d hd) ρ σ=some (.ok xs,σ)):(aF n l).ev (KK d hd) ρ σ=z:=aC h k
theorem tT {t:CT} {p:Prop} {i:Decidable p} (q:p) (h:Ts K t ρ σ (decide p)):Ts K t ρ σ true:=by rw[SC q] at h;exact h
theorem tF {t:CT} {p:Prop} {i:Decidable p} (q:¬p) (h:Ts K t ρ σ (decide p)):Ts K t ρ σ false:=by rw[Tf q] at h;exact h
theorem HJ {l:CL} (h0:Ev (KK d hd) o ρ σ x) (hx:MI x σ=some (.ok (),σ)) (h:l.ev (KK d hd) ρ σ=some (.ok xs,σ)) (k:CC d hd n (x::xs) σ=z):(meth o n l).ev (KK d hd) ρ σ=z:=aC h0 (aC hx (aC h k))
theorem aO {q:Prop} [Decidable q] {a:α} (h:q):ax q a=some a:=if_pos h
theorem bL {l:CL} {ds:List D} (h:l.ev K ρ σ=some (.ok xs,σ)) (k:sG xs=some ds:=by rfl) (hl:ds.length<=1000:=by exact Sr rfl):Ev K (bH l) ρ σ (.d (.lst ds)):=by
 refine aC h ?_;show ((sG xs).bind fun ds=>ax (ds.length<=1000) (PV.d (.lst ds))).map _=_;rw[k,Sl,aO hl];rfl
theorem bZ {l:CL} {ds:List D} (h:l.ev K ρ σ=some (.ok xs,σ)) (k:sG xs=some ds:=by rfl) (hl:ds.length<=1000:=by exact Sr rfl):Ev K (cb l) ρ σ (.d (.tup ds)):=by
 refine aC h ?_;show ((sG xs).bind fun ds=>ax (ds.length<=1000) (PV.d (.tup ds))).map _=_;rw[k,Sl,aO hl];rfl
theorem g_ {l:CL} {ds:List D} (h:l.ev K ρ σ=some (.ok xs,σ)) (k:sG xs=some ds:=by rfl) (hl:ds.length<=1000:=by exact Sr rfl):(iU l).ev K ρ σ=some (.ok (.p σ.length 0),σ++[.fld (.list ds)]):=by
 refine aC h (aC (a:=ds) (σ':=σ) ?_ rfl);show ((sG xs).bind fun ds=>ax (ds.length<=1000) ds).map _=_;rw[k,Sl,aO hl];rfl
theorem li (h:rd σ x=some (.lst l)) (hl:l.length<=dZ):ba.g hd [x] σ=some (.ok (.d (.int l.length)),σ):=by
 show ((rd σ x).bind fun u=>(Hc u).map fun z=>(R.ok (PV.d z),σ))=_;rw[h,Sl];show (Option.map _ (ax (l.length<=dZ) (D.int l.length)))=_;rw[aO hl];rfl
theorem MB (h:rd σ x=some (.tup l)) (hl:l.length<=dZ):ba.g hd [x] σ=some (.ok (.d (.int l.length)),σ):=by
 show ((rd σ x).bind fun u=>(Hc u).map fun z=>(R.ok (PV.d z),σ))=_;rw[h,Sl];show (Option.map _ (ax (l.length<=dZ) (D.int l.length)))=_;rw[aO hl];rfl
theorem s0 {l:List Nat} (hl:l.length<=dZ):ba.g hd [.d (.str l)] σ=some (.ok (.d (.int l.length)),σ):=by
 show (Option.map _ (ax (l.length<=dZ) (D.int l.length)))=_;rw[aO hl];rfl
theorem cn {i:Int} (h0: -1000<=i) (h:i<=100000000):bA i=true:=by rw[bA,SC (by exact SV (by decide) h0),SC (by exact SW h (by decide))];rfl
theorem bQ {i:CE} {w z:D} (h1:Ev K a ρ σ x) (h2:Ev K i ρ σ y) (r1:rd σ x=some u) (r2:mZ y=some w) (h:fA u w=some z):Ev K (sub a i) ρ σ (.d z):=by
 refine aC h1 (aC h2 ?_);show (rd σ x).bind _=_;rw[r1,Sl,r2,Sl,h];rfl
theorem mI (h:k<n):cZ k n=some k:=by
 unfold cZ;rw[if_pos (o9),if_pos (S0.mpr h),Int.toNat_natCast]
theorem EM (l:List D) (i:Int):fA (.lst l) (.int i)=(ax (bA i=true) ()).bind fun _=>(cZ i l.length).bind fun k=>l[k]? :=rfl
theorem KS (l:List D) (i:Int):fA (.tup l) (.int i)=fA (.lst l) (.int i):=rfl
theorem KT (l:List Nat) (i:Int):fA (.str l) (.int i)=(ax (bA i=true) ()).bind fun _=>(cZ i l.length).bind fun k=>(l[k]?).map fun c=>D.str [c]:=rfl
theorem fc {z:D} (h:l[k]? =some z) (hk:k<=100000:=by decide):fA (.lst l) (.int k)=some z:=by
 rw[EM,aO (cn (DW) (SZ.mpr (Sv hk (Sr rfl)))),Sl,mI (So.mp h).1];exact h
theorem rc {z:D} (h:l[k]? =some z) (hk:k<=100000:=by decide):fA (.tup l) (.int k)=some z:=by rw[KS];exact fc h hk
theorem Ix {z:D} (k:Nat) (h:Ev K a ρ σ (.d (.tup l))) (hz:l[k]? =some z) (hk:k<=100000:=by decide):Ev K (sub a (ai (k:Nat))) ρ σ (.d z):=bQ h rfl rfl rfl (rc hz hk)
theorem EJ {l:List Nat} (h:l[k]? =some c) (hk:k<=100000:=by decide):fA (.str l) (.int k)=some (.str [c]):=by
 rw[KT,aO (cn (DW) (SZ.mpr (Sv hk (Sr rfl)))),Sl,mI (So.mp h).1,Sl,h];rfl
theorem cU {y:D} (h0:Ev K o ρ σ (.p n j)) (h1:Ev K a ρ σ (.d y)) (h:b_ σ n j=some (.list l)) (hl:l.length<dZ):(bm a9 o (aj a az)).ev K ρ σ=some (.ok (.d .none),dX σ n j (.list (l++[y]))):=by
 refine aC h0 ?_;have r:rd σ (.p n j)=some (.lst l):=by show (b_ σ n j).bind _=_;rw[h];rfl
 show (match (rd σ (.p n j)).any (Ez (.p n j)) with|true=>_|false=>none)=_
 rw[r];refine aC (cl1 h1) ?_;show ((b_ σ n j).bind fun f=>(Ng y f).map _)=_;rw[h,Sl];show Option.map _ (ax (l.length<dZ) _)=_;rw[aO hl];rfl
theorem wT (h1:0<b) (h2:b<2^250):ow b=true:=by
 simp only [ow,Bool.and_eq_true,bne_iff_ne,ne_eq,decide_eq_true_eq];refine ⟨by exact Int.ne_of_gt h1,SN (m:=2^250) ?_ (Nat.pow_le_pow_right (by decide) (by decide))⟩;have:((2^250:Nat):Int)=2^250:=by norm_cast
 exact O4 h1 h2
theorem aV {a:Int} (hb:0<b):0<=a.fmod b/\a.fmod b<b:=by
 rw[Int.fmod_eq_emod_of_nonneg a (Tk hb)];exact ⟨Int.emod_nonneg a (Ne.symm (Int.ne_of_lt hb)),Int.emod_lt_of_pos a hb⟩
theorem iy {a:Int} (h1:0<b) (h2:b<2^250):bv.g (.int a) (.int b)=some (.int (a.fmod b)):=by
 show (ax (ow b=true) (a.fmod b)).map _=_;rw[aO (wT h1 h2)];rfl
theorem Az {a:Int} (h1:0<b) (h2:b<2^250):bS.g (.int a) (.int b)=some (.int (a.fdiv b)):=by
 show (ax (ow b=true) (a.fdiv b)).map _=_;rw[aO (wT h1 h2)];rfl
theorem NH {a:Int} (h:a.natAbs<2^64):mL a b=true:=by rw[mL,SC h];rfl
theorem fG {a:Int} (h:b.natAbs<2^64):mL a b=true:=by rw[mL,SC h,Bool.or_true];rfl
theorem lj {a:Int} (h:mL a b=true):io.g (.int a) (.int b)=some (.int (a*b)):=by
 show (ax (mL a b=true) (a*b)).map _=_;rw[aO h];rfl
theorem lq {a b:List Nat} (h:a.length+b.length<=dZ):aH.g (.str a) (.str b)=some (.str (a++b)):=if_pos h
theorem RG {a b:Nat} (h:a<=1000/\b<=1000):xQ.g (.int a) (.int b)=some (.int ((a:Int)^b)):=by
 show (ax _ _).map _=_;rw[aO ⟨o9,by exact SZ.mpr h.2,o9,by exact SZ.mpr h.1⟩];rfl
section
variable {a:Int} {t:List Nat}
theorem yy (h:a<b):r7.g (.int a) (.int b)=some true:=congrArg some (SC h)
theorem lU (h:¬a<b):r7.g (.int a) (.int b)=some false:=congrArg some (Tf h)
theorem uG (h:b<a):Cw.g (.int a) (.int b)=some true:=congrArg some (SC h)
theorem oO (h:¬b<a):Cw.g (.int a) (.int b)=some false:=congrArg some (Tf h)
theorem yD (h:a<=b):F3.g (.int a) (.int b)=some true:=congrArg some (SC h)
theorem ME (h:¬a<=b):F3.g (.int a) (.int b)=some false:=congrArg some (Tf h)
theorem k7 (h:a=b):fh.g (.int a) (.int b)=some true:=congrArg some (SC h)
theorem wQ (h:a≠b):fh.g (.int a) (.int b)=some false:=congrArg some (Tf h)
theorem D3 (h:a≠b):xk.g (.int a) (.int b)=some true:=congrArg (fun c=>some !c) (Tf h)
theorem D4 (h:a=b):xk.g (.int a) (.int b)=some false:=congrArg (fun c=>some !c) (SC h)
theorem iA (h:s=t):fh.g (.str s) (.str t)=some true:=congrArg some (SC h)
theorem fX (h:s≠t):fh.g (.str s) (.str t)=some false:=congrArg some (Tf h)
theorem DZ (h:s≠t):xk.g (.str s) (.str t)=some true:=congrArg (fun c=>some !c) (Tf h)
theorem D2 (h:s=t):xk.g (.str s) (.str t)=some false:=congrArg (fun c=>some !c) (SC h)
end
theorem nT {t:CI} {v:PV} {x:D} {xs:List D} (h:Ev K it ρ σ v) (h1:Am v σ=some (x,xs)) (h2:dy v x i (t.ts K) (bT.ev K) ρ xs [] σ=some (.ok l,σ')) (hK:K.hd=false):rD i it t bT K ρ σ=some (.ok l,σ'):=by
 unfold rD iE;rw[hK];refine aC h ?_;show (Am v σ).bind _=_;rw[h1,Sl,h2];rfl
theorem fN {t:CI} {v:PV} {x:D} {xs:List D} (h:Ev K it ρ σ v) (h1:Am v σ=some (x,xs)) (h2:dy v x i (t.ts K) (bT.ev K) ρ xs [] σ=some (.ok l,σ')) (hK:K.hd=false:=by rfl):(iF i it t bT).ev K ρ σ=some (.ok l,σ'):=nT h h1 h2 hK
theorem vG {t:CI} (h:rD i it t bT K ρ σ=some (.ok l,σ')) (k:ρ.set j (dV (.lst l))=ρ'):(zV false j i it t bT).ex K ρ σ=some (.next ρ',σ'):=by
 subst k;exact cy (aC h rfl) rfl
theorem mX {f:CF} (h:f.ev K ρ σ=some (.ok l,σ')):(nC false f).ev K ρ σ=some (.ok (.d (.lst l)),σ'):=aC h rfl
theorem gO {y:D} (f g:α->D):∀ (xs:List α) (acc:List D),(∀ x∈xs,Ev K bT (ρ.set i (dV (f x))) σ (.d (g x)))->acc.length+xs.length<=1000000->dy (.d y) y i (dJ.ts K) (bT.ev K) ρ (xs.map f) acc σ=some (.ok (acc++xs.map g),σ):=by
 intro xs
 induction xs with
 |nil=>
  intro acc _ _;rw[List.map_nil,List.map_nil,List.append_nil];rfl
 |cons x xs ih=>
  intro acc h hl;have e:=h x (.head _);rw[Ss] at hl;have ih:=ih (acc++[g x]) (fun z hz=>h z (.tail _ hz)) (by rw[Sn,Sw];exact O1 hl);rw[List.map_cons,List.map_cons,List.append_cons,<-ih];show (match bT.ev K (ρ.set i (dV (f x))) σ with
   |some (.ok (.d z),σ'')=>if bP σ'' y (.d y)/\acc.length<dZ then dy (.d y) y i (dJ.ts K) (bT.ev K) ρ (xs.map f) (acc++[z]) σ'' else none
   |some (.ex c,σ'')=>some (.ex c,σ'')
   |_=>none)=_
  rw[e];exact if_pos ⟨rfl,SM (Sv (Th _ _) hl) (by decide)⟩
theorem Cy (p:α->Bool):∀ xs:List α,gP (xs.map fun x=>.bool (p x))=some (xs.map p):=by
 intro xs
 induction xs with
 |nil=>
  exact rfl
 |cons x xs ih=>
  show (gP (xs.map fun x=>.bool (p x))).map (p x::·)=_;rw[ih];rfl
theorem IW (p:α->Bool) (xs:List α):uK.g false [.d (.lst (xs.map fun x=>.bool (p x)))] σ=some (.ok (.d (.bool (xs.all p))),σ):=by
 show (Option.map _ (Option.map _ (gP (xs.map fun x=>.bool (p x)))))=_;rw[Cy];show some (R.ok (PV.d (.bool ((xs.map p).all id))),σ)=_;rw[List.all_map];rfl
theorem j2 {x:D} {xs:List D} (h:items x=some xs):Am (.d x) σ=some (x,xs):=by
 show (Option.map _ (items x))=_;rw[h];rfl
theorem iI {t:List Nat} {p:Nat->Bool} (h:Ev K it ρ σ (.d (.str t))) (hl:t.length<=1000) (k:∀ c∈t,Ev K bT (ρ.set i (sV [c])) σ (.d (.bool (p c)))) (hK:K.hd=false:=by rfl):Ev K (bi uK (aj (nC false (iF i it dJ bT)) az)) ρ σ (.d (.bool (t.all p))):=by
 have e:items (.str t)=some (t.map fun c=>.str [c]):=if_pos (Sv hl (by decide));refine cC (cl1 (mX (fN h (j2 e) (gO (fun c=>.str [c]) (fun c=>.bool (p c)) t [] k (by rw[Te];exact Rm hl)) hK))) ?_;rw[hK];exact IW p t
end
noncomputable def ix:List Nat:=TI
noncomputable def nj:List Nat:=TJ
noncomputable def HI:List Nat:=TL
noncomputable def aZ (t:List Nat):Bool:=decide (t.length=3)&&t.all fun c=>decide (c∈ix)
def bW (n:Int):Prop:=0<=n/\n<=99999
def dF (t:List Nat):Prop:=t.length<=40/\∀ c∈t,32<=c/\c<=126
noncomputable def c8 (a:Int):Bool:=decide (a≠0)&&(decide (-(10^30)<a)&&decide (a<10^30))
section
theorem II {a b:Nat} (h:a<=b):sJ.g (.str [a]) (.str [b])=some true:=by
 show some (if a<b then true else if a=b then true else false)=_;rcases Nat.lt_or_eq_of_le h with q|q
 .rw[if_pos q]
 .rw[if_neg (Mf q),if_pos q]
theorem g6 {n:Int} (h:bW n):CC (d+1) hd 3 [.d (.int n)] σ=some (.ok (.d .none),σ):=
 eq rfl rfl rfl (aa (a' (bz (bM (av rfl rfl rfl rfl (lU (Tp.mpr h.1))) (bM (av rfl rfl rfl rfl (oO (Tp.mpr h.2))) rfl))) rfl) rfl) (tk σ)
theorem vV {n:Int} (h:¬bW n):CC (d+1) false 3 [.d (.int n)] σ=some (.ex 4,σ):=by
 refine bR rfl rfl rfl (aY (bo (bz ?_) rfl)) (tk σ);by_cases q:n<0
 .exact eY (av rfl rfl rfl rfl (yy q))
 .exact bM (av rfl rfl rfl rfl (lU q)) (eY (av rfl rfl rfl rfl (uG (by unfold bW at h;exact O3 h q))))
theorem Ff {t:List Nat} (hl:t.length<=1000):Ts (KK d false) (pO (cA (a8 xk (bi ba (aj (ag 0) az)) (ai 3)) (cA (gT (vh (bi uK (aj (nC false (iF 1 (ag 0) dJ (sH zB (ag 1) (yP "GREAT" (none,TI))))) az)))) gS))) [sV t,none] σ (!aZ t):=by
 refine bz ?_;have e:=iI (K:=KK d false) (ρ:=[sV t,none]) (σ:=σ) (i:=1) (it:=ag 0) (p:=fun c=>decide (c∈ix)) (bT:=sH zB (ag 1) (yP "GREAT" (none,TI))) rfl hl fun c _=>rfl;have l:Ev (KK d false) (bi ba (aj (ag 0) az)) [sV t,none] σ (.d (.int t.length)):=cC (cl1 rfl) (s0 (Sv hl (by decide)));by_cases q:t.length=3
 .unfold aZ;rw[SC q,Bool.true_and];refine bM (av l rfl rfl rfl (D4 (by rw[q];rfl))) ?_;cases z:t.all fun c=>decide (c∈ix) with
  |true=>rw[z] at e;exact bM (iL (dT e)) rfl
  |false=>rw[z] at e;exact eY (iL (dT e))
 .unfold aZ;rw[Tf q];exact eY (av l rfl rfl rfl (D3 (Nat.ToInt.of_diseq rfl rfl q)))
theorem dL {t:List Nat} (h:aZ t=true):t.length=3:=S6 (ah h)
theorem b8 {t:List Nat} (h:aZ t=true):CC (d+1) false 5 [.d (.str t)] σ=some (.ok (.d .none),σ):=by
 have e:=Ff (d:=d) (σ:=σ) (t:=t) (by rw[dL h];decide);rw[h] at e;exact eq rfl rfl rfl (aa (a' e rfl) rfl) (tk σ)
theorem oh {t:List Nat} (hl:t.length<=1000) (h:aZ t=false):CC (d+1) false 5 [.d (.str t)] σ=some (.ex 2,σ):=by
 have e:=Ff (d:=d) (σ:=σ) (t:=t) hl;rw[h] at e;exact bR rfl rfl rfl (aY (bo e rfl)) (tk σ)
theorem eZ {t:List Nat} (h:dF t):CC (d+1) false 16 [.d (.str t)] σ=some (.ok (.d .none),σ):=by
 have hl:t.length<=1000:=Sv h.1 (by decide);have e:=iI (K:=KK d false) (ρ:=[sV t,none]) (σ:=σ) (i:=1) (it:=ag 0) (p:=fun _=>true) (bT:=Ct sJ sJ (au [32]) (ag 1) (au [126])) rfl hl fun c hc=> ?_
 .rw[show (t.all fun _=>true)=true from List.all_eq_true.mpr fun _ _=>rfl] at e;exact eq rfl rfl rfl (aa (a' (bz (bM (av (cC (cl1 rfl) (s0 (Sv hl (by decide)))) rfl rfl rfl (oO (by have:=h.1;exact Tp.mpr (SZ.mpr this)))) (bM (iL (dT e)) rfl))) rfl) rfl) (tk σ)
 .exact uM rfl rfl rfl rfl rfl rfl (II (h.2 c hc).1) (II (h.2 c hc).2)
theorem so {a:Int}:CC (d+1) hd 12 [.d (.int a)] σ=some (.ok (.d (.bool (c8 a))),σ):=by
 refine bf rfl rfl rfl (aW (aU (uO ?_))) (tk σ);by_cases q:a=0
 .rw[q];exact rfl
 .refine zj (nP rfl rfl rfl rfl (D3 q)) ?_;unfold c8;rw[SC q,Bool.true_and];exact uN (uM rfl rfl rfl rfl rfl rfl rfl rfl)
end
section
theorem co (h:n<=1000):n<=dZ:=Sv h (by decide)
theorem ee (h:n<=1000):n<dZ:=SM h (by decide)
end
section
theorem zS {a:List Nat}:D.str a∈ns.map D.str<->a∈ns:=by
 constructor
 .intro h;obtain ⟨b,hb,e⟩:=SD.mp h;cases e;exact hb
 .exact fun h=>List.mem_map_of_mem h
theorem Aw {a:List Nat}:KH (.str a) (.lst (ns.map .str))=some (@decide (D.str a∈ns.map D.str) (Classical.propDecidable _)):=by
 have h:(pl 8 (.str a)&&(ns.map D.str).all (pl 8))=true:=Bool.and_eq_true_iff.mpr ⟨rfl,List.all_eq_true.mpr fun x hx=>by
  obtain ⟨b,_,e⟩:=SD.mp hx;rw[<-e];rfl⟩
 unfold KH;show ax _ _=_;unfold ax;rw[if_pos h];congr
theorem Ca {a:List Nat} (h:a∈ns):F4.g (.str a) (.lst (ns.map .str))=some true:=Aw.trans (congrArg some (@SC _ (_) (zS.mpr h)))
theorem wC {a:List Nat} (h:a∉ns):F4.g (.str a) (.lst (ns.map .str))=some false:=Aw.trans (congrArg some (@Tf _ (_) fun q=>h (zS.mp q)))
theorem Ae {a:List Nat} (h:a∈ns):l9.g (.str a) (.lst (ns.map .str))=some false:=congrArg (Option.map fun c=> !c) (Ca h)
theorem vU {a:List Nat} (h:a∉ns):l9.g (.str a) (.lst (ns.map .str))=some true:=congrArg (Option.map fun c=> !c) (wC h)
end
section
theorem dK {l:aE}:b_ (l++[.fld f]) l.length 0=some f:=by
 unfold b_;rw[eS];rfl
theorem mE {l:aE} {o:PO}:(l++[o]).set l.length o'=l++[o']:=by
 rw[List.set_append_right _ _ (Sy _),Nat.sub_self];rfl
theorem gY {l:aE}:dX (l++[.fld f]) l.length 0 f'=l++[.fld f']:=by
 unfold dX;rw[eS];exact mE
theorem jJ {l:aE} {x:D} (h:f.rd=some x):rd (l++[.fld f]) (.p l.length 0)=some x:=by
 show (b_ (l++[.fld f]) l.length 0).bind cD.rd=_;rw[dK];exact h
theorem tX {k:D} (h:kZ k ks=true) (hl:ks.length<100000):tY k v (.dict ks vs)=some (.dict (eV k ks) (eU k v ks vs)):=aO ⟨h,hl⟩
theorem mF {k:D} (h:b_ σ n j=some f) (h2:tY k v f=some f'):Bn (.p n j) k v σ=some (dX σ n j f'):=by
 show (b_ σ n j).bind _=_;rw[h,Sl,h2];rfl
theorem zi {b:CE} {k z:D} (h:Ev K o ρ σ x) (r1:rd σ x=some (.dct ks vs)) (h1:Ev K a ρ σ (.d k)) (h2:Ev K b ρ σ (.d z)) (hf:kZ k ks=true):Ev K (bm BJ o (aj a (aj b az))) ρ σ (.d ((e_ k ks vs).getD z)):=by
 refine aC h ?_;show (match (rd σ x).any KG with|true=>_|false=>none)=_
 rw[r1];refine aC (cW h1 (cl1 h2)) ?_;show ((rd σ x).bind fun u=>(EL u k z).map _)=_;rw[r1,Sl];show (ax (kZ k ks=true) _).map _=_;rw[aO hf];rfl
theorem pw {l:CS} {v:PV} {x:D} {z:Option (Out×aE)} (h:ρ[i]? =some (some v)) (h1:yL v σ=some (.d x,σ')) (k:l.ex K (ρ.set i (dV x)) σ'=z):(xG i l).ex K ρ σ=z:=by
 show ((ρ[i]?).join).bind _=z;rw[h];show (yL v σ).bind _=z;rw[h1];exact k
theorem pz {l:aE} {x:D} (h:f.rd=some x):yL (.p l.length 0) (l++[.fld f])=some (.d x,l++[.dead]):=by
 show ((b_ (l++[.fld f]) l.length 0).bind fun g=>g.rd.map fun x=>(PV.d x,(l++[PO.fld f]).set l.length .dead))=_;rw[dK,Sl,h];show some (PV.d x,_)=_;rw[mE]
end
section
noncomputable def Ld (a t1 b1 t2 b2:Int):Int:=(a*t1*b2).fdiv (b1*t2)
theorem oz {a t1 b1 t2 b2:Int} (h1:1<=t1/\t1<=10^9) (h2:1<=b1/\b1<=10^9) (h3:1<=t2/\t2<=10^9) (h4:1<=b2/\b2<=10^9):CC (d+1) hd 13 [.d (.int a),.d (.tup [.int t1,.int b1]),.d (.tup [.int t2,.int b2])] σ=some (.ok (.d (.int (Ld a t1 b1 t2 b2))),σ):=by
 have p1:0<b1*t2:=Int.mul_pos (Rv h2) (Rv h3);have p2:b1*t2<=10^9*10^9:=Int.mul_le_mul h2.2 h3.2 (SV (by decide) h3.1) (by decide);exact bf rfl rfl rfl (aW (aU (aX (aX (aX rfl rfl rfl rfl (lj (fG (Qc h1)))) rfl rfl rfl (lj (fG (Qc h4)))) (aX rfl rfl rfl rfl (lj (fG (Qc h3)))) rfl rfl (Az p1 (Ru p2))))) (tk _)
noncomputable def bw:List Nat:=TH
end
section
noncomputable def eT:List Nat:=T7
def j3 (c:List Nat):Prop:=∃ x r,c=x::r/\r.length<=11/\x∈nj/\∀ y∈r,y∈eT
theorem q7 {t:List Nat} (h:j3 t):CC (d+1) false 36 [.d (.str t)] σ=some (.ok (.d (.bool true)),σ):=by
 refine bu fun G9 k9=> ?_;obtain ⟨x,q,rfl,h1,h2,h3⟩:=h;refine k9 ?_;have hs:∀ y∈nj,y∈eT:=by decide
 have hl:(x::q).length<=1000:=by rw[Ss];exact SM h1 (Sr rfl)
 have e:=iI (K:=KK d false) (ρ:=[sV (x::q),none]) (σ:=σ) (i:=1) (it:=ag 0) (t:=x::q) (p:=fun _=>true) (bT:=sH zB (ag 1) (aJ aH (yP "SMALL" (none,TJ)) (yP "FIGURES" (none,TL)))) rfl hl fun c hc=> ?_
 .rw[show ((x::q).all fun _=>true)=true from List.all_eq_true.mpr fun _ _=>rfl] at e;have l:Ev (KK d false) (bi ba (aj (ag 0) az)) [sV (x::q),none] σ (.d (.int (x::q).length)):=cC (cl1 rfl) (s0 (co hl));refine bf rfl rfl (ρ:=[sV (x::q),none]) rfl (aa (a' (bz (bM (av l rfl rfl rfl (lU ?_)) (bM (av l rfl rfl rfl (oO ?_)) (bM (av (bQ rfl rfl rfl rfl (EJ (k:=0) rfl)) rfl rfl rfl ?_) rfl)))) rfl) (aW (aU e))) (tk _)
  .rw[Ss];exact QI
  .rw[Ss];exact Tp.mpr (SZ.mpr (Tl h1))
  .exact congrArg (fun c=>some !c) (SC h2)
 .refine nP rfl rfl rfl rfl ?_;refine congrArg some (SC ?_);rcases Sm.mp hc with z|z
  .rw[z];exact hs x h2
  .exact h3 c z
theorem w_ {v:PV} (h1:a.ev K ρ σ=some (.ok v,σ')) (h2:Ev K o ρ σ' x) (h3:Dr k x v σ'=some σ''):(lg o k a).ex K ρ σ=some (.next ρ,σ''):=by
 refine cy h1 (cy h2 ?_);show (Dr k x v σ').bind _=_;rw[h3];rfl
end
section
variable {n m:Int}
theorem HD {l:aE} (h:b_ σ i j=some f):b_ (σ++l) i j=some f:=by
 obtain ⟨o,e1,e2⟩:=ak h;unfold b_;rw[S_ (So.mp e1).1,e1];exact e2
theorem Oc {l:aE} {x:D} (h:rd σ (.p i j)=some x):rd (σ++l) (.p i j)=some x:=by
 obtain ⟨f,e1,e2⟩:=ak h;show (b_ (σ++l) i j).bind cD.rd=_;rw[HD e1];exact e2
theorem Sj (σ:aE) (a b:PO):((σ++[a])++[b]).take σ.length=σ:=by rw[List.append_assoc];exact List.take_left
noncomputable def cell (sc:List Int) (k:Nat):Int:=sc.getD k 0
theorem Fs (hs:sc.length<=63) (hk:k<=1000):CC (d+1) hd 33 [.d (.lst (sc.map .int)),.d (.int k)] σ=some (.ok (.d (.int (cell sc k))),σ):=by
 have hl:(sc.map D.int).length=sc.length:=Sk ..;have l:Ev (KK d hd) (bi ba (aj (ag 0) az)) [dV (.lst (sc.map .int)),iV k] σ (.d (.int sc.length)):=by
  have e:=li (hd:=hd) (σ:=σ) (x:=.d (.lst (sc.map .int))) rfl (by rw[hl];exact co (Sv (hs) (Sr rfl)));rw[hl] at e;exact cC (cl1 rfl) e
 by_cases q:k<sc.length
 .refine bf rfl rfl (ρ:=[dV (.lst (sc.map .int)),iV k]) rfl (aW (bo (av rfl l rfl rfl (yy (S0.mpr q))) (aW (aU (bQ rfl rfl rfl rfl (fc ?_ (Sv hk (Sr rfl)))))))) (tk _);rw[SE,Sp q,cell,SG,Sp q];rfl
 .rw[show cell sc k=0 by rw[cell,SG,List.getElem?_eq_none (Nat.le_of_not_lt q)];rfl];exact bf rfl rfl (ρ:=[dV (.lst (sc.map .int)),iV k]) rfl (aa (a' (av rfl l rfl rfl (lU (QH q))) rfl) rfl) (tk _)
theorem jd {t:CE} {l:List Nat} {a k:Int} (h1:Ev K t ρ σ (.d (.str l))) (h2:Ev K e ρ σ (.d (.int a))) (h3:0<k) (h4:k<=l.length) (h5:l.length<=1000):Ev K (sub t (aJ bv e (ai k))) ρ σ (.d (.str [l.getD (a.fmod k).toNat 0])):=by
 have q:=aV (a:=a) (b:=k) h3;have hk:(a.fmod k).toNat<l.length:=o8 h4 q;refine bQ h1 (aX h2 rfl rfl rfl (iy h3 (Ml h4 h5))) rfl rfl ?_;have e:a.fmod k=(((a.fmod k).toNat:Nat):Int):=Mk q;rw[e];refine EJ ?_ (Mj h5 hk);rw[Int.toNat_natCast,SG,Sp hk];rfl
theorem jC {l:List Nat} {a k:Int} (h1:0<k) (h2:k<=l.length):l.getD (a.fmod k).toNat 0∈l.take k.toNat:=by
 have r:=aV (a:=a) (b:=k) h1;rw[SG,Sp (o8 h2 r),Option.getD_some];exact List.mem_take_iff_getElem.mpr ⟨(a.fmod k).toNat,QG h2 r,rfl⟩
theorem j_ {a k:Int} (h:Ev K e ρ σ (.d (.int a))) (h1:0<k:=by decide) (h2:k<2^250:=by decide):Ev K (aJ bS e (ai k)) ρ σ (.d (.int (a.fdiv k))):=aX h rfl rfl rfl (Az h1 h2)
theorem iz {a k:Int} (h:Ev K e ρ σ (.d (.int a))) (h1:0<k:=by decide) (h2:k<2^250:=by decide):Ev K (aJ bv e (ai k)) ρ σ (.d (.int (a.fmod k))):=aX h rfl rfl rfl (iy h1 h2)
theorem m4:∃ t,aZ t=true/\CC (d+1) hd 41 [.d (.int n)] σ=some (.ok (.d (.str t)),σ):=by
 have g:=fun a:Int=>List.mem_of_mem_take (jC (l:=ix) (a:=a) (k:=26) (by decide) (by decide));refine ⟨[ix.getD (n.fmod 26).toNat 0]++[ix.getD ((n.fdiv 26).fmod 26).toNat 0]++[ix.getD ((n.fdiv 676).fmod 26).toNat 0],?_,?_⟩
 .show (true&&(decide _&&(decide _&&(decide _&&true))))=true;rw[SC (g _),SC (g _),SC (g _)];rfl
 .refine bf rfl rfl (ρ:=[iV n,none,none]) rfl ?_ (tk _);refine aa rfl ?_;refine aa (aA (jd (l:=ix) rfl rfl (by decide) (by decide) (by decide)) rfl) ?_;refine aa (aA (aX rfl (jd (l:=ix) rfl rfl (by decide) (by decide) (by decide)) rfl rfl rfl) rfl) ?_;exact aW (aU (aX rfl (jd (l:=ix) rfl rfl (by decide) (by decide) (by decide)) rfl rfl rfl))
theorem qX (a b c:Int):items (.rng a b c)=ax ((bA a&&bA b&&decide (0<c)&&decide (c<1000)&&decide (cP a b c<=100000))=true) ((List.range (cP a b c)).map fun (i:Nat)=>.int (a+(i:Int)*c)):=rfl
theorem LP (b:Int):ru.g hd [.d (.int b)] σ=(ax (bA b=true) (D.rng 0 b 1)).map fun z=>(R.ok (PV.d z),σ):=rfl
theorem nI (h:k<=1000):items (.rng 0 k 1)=some ((List.range k).map fun (i:Nat)=>.int i):=by
 have e:cP 0 k 1=k:=by
  unfold cP;split
  .rw[Int.ediv_one];exact QF
  .exact QE (by assumption)
 rw[qX,aO]
 .rw[e];refine congrArg some (List.map_congr_left fun i _=> ?_);rw[Int.mul_one,Int.zero_add]
 .rw[e,cn (by decide) (by decide),cn (DW) (NE h),SC (by decide),SC (by decide),SC (Sv h (Sr rfl))];rfl
theorem zh (h:Ev K e ρ σ (.d (.int k))) (hk:k<=1000):Ev K (bi ru (aj e az)) ρ σ (.d (.rng 0 k 1)):=by
 refine cC (cl1 h) ?_;rw[LP,aO (cn (DW) (NE hk))];rfl
end
section
variable {n m:Int}
theorem fZ {lo hi:CP} {l h:PV} {u1 u2 z:D} (h1:Ev K a ρ σ x) (h2:lo.ev K ρ σ=some (.ok l,σ)) (h3:hi.ev K ρ σ=some (.ok h,σ)) (r1:rd σ x=some u) (r2:mZ l=some u1) (r3:mZ h=some u2) (e:dj u u1 u2=some z):Ev K (vi a lo hi) ρ σ (.d z):=by
 refine aC h1 (aC h2 (aC h3 ?_));show (rd σ x).bind _=_;rw[r1,Sl,r2,Sl,r3,Sl,e];rfl
theorem AY (h:a.ev K ρ σ=z):(k_ a).ev K ρ σ=z:=h
theorem LV {i:Int} (h0:0<=i) (h1:i<=s.length):dj (.str s) .none (.int i)=some (.str (s.take i.toNat)):=by
 show ((ax (0<=i) i.toNat).bind fun h=>ax (0<=h/\h<=s.length) (D.str (bC s 0 h)))=_;rw[aO h0,Sl,aO ⟨SQ _,by exact Int.toNat_le.mpr h1⟩,bC,List.drop_zero,Nat.sub_zero]
theorem JA {i:Int} (h0:0<=i) (h1:i<=s.length):dj (.str s) (.int i) .none=some (.str (s.drop i.toNat)):=by
 show ((ax (0<=i) i.toNat).bind fun l=>ax (l<=s.length/\s.length<=s.length) (D.str (bC s l s.length)))=_;rw[aO h0,Sl,aO ⟨by exact Int.toNat_le.mpr h1,Sy _⟩,bC,List.take_of_length_le (by rw[List.length_drop];exact Sy _)]
theorem vn {t sg:List Nat} (h1:1<=t.length) (h2:t.length<=50) (hs:sg.length=26):∃ k y,k<t.length/\y∈sg/\CC (d+1) hd 40 [.d (.str t),.d (.int n),.d (.str sg)] σ=some (.ok (.d (.str (t.set k y))),σ):=by
 have r:=aV (a:=n) (b:=t.length) (Int.natCast_pos.mpr h1);have q:n.fmod t.length=(((n.fmod t.length).toNat:Nat):Int):=by exact (S4 r.1).symm
 have hk:(n.fmod t.length).toNat<t.length:=by exact (Int.toNat_lt r.1).mpr r.2
 generalize (n.fmod t.length).toNat=k at q hk;have g:=List.mem_of_mem_take (jC (l:=sg) (a:=n.fdiv 13) (k:=26) (by decide) (by rw[hs];decide));refine ⟨k,_,hk,g,?_⟩;have e1:Ev (KK d hd) (aJ bv (ag 1) (bi ba (aj (ag 0) az))) [sV t,iV n,sV sg,none] σ (.d (.int k)):=by
  rw[<-q];exact aX rfl (cC (cl1 rfl) (s0 (co (Sv h2 (Sr rfl))))) rfl rfl (iy (Int.natCast_pos.mpr h1) (S0.mpr (SM h2 (Sr rfl))))
 have e2:=jd (K:=KK d hd) (ρ:=[sV t,iV n,sV sg,iV k]) (σ:=σ) (t:=ag 2) (l:=sg) (e:=aJ bS (ag 1) (ai 13)) (a:=n.fdiv 13) (k:=26) rfl rfl (by decide) (by rw[hs];decide) (Sv (Td hs) (Sr rfl));rw[List.set_eq_take_append_cons_drop,if_pos hk,List.append_cons];have p1:=LV (s:=t) (i:=k) (o9) (QD r q);have p2:=JA (s:=t) (i:=(k:Int)+1) (QC) (QA r q);rw[Int.toNat_natCast] at p1;rw[show ((k:Int)+1).toNat=k+1 by exact Qz] at p2;refine bf rfl rfl (ρ:=[sV t,iV n,sV sg,none]) rfl (aa (aA e1 rfl) (aW (aU (aX (aX (fZ rfl rfl rfl rfl rfl rfl p1) e2 rfl rfl (lq ?_)) (fZ rfl rfl rfl rfl rfl rfl p2) rfl rfl (lq ?_))))) (tk _)
 .rw[List.length_take,Sw];exact co (Nat.succ_le_of_lt (SM (Sv (Nat.min_le_right _ _) h2) (by decide)))
 .rw[Sn,List.length_take,Sw,List.length_drop];exact co (Sv (Nat.add_le_add (Tl (Sv (Nat.min_le_right _ _) h2)) (Sv (Nat.sub_le _ _) h2)) (by decide))
theorem JP {t:List Nat} {y:Nat} (h:j3 t) (hy:y∈nj):j3 (t.set k y):=by
 refine bu fun G9 k9=> ?_;obtain ⟨x,r,rfl,h1,h2,h3⟩:=h;refine k9 ?_;have hs:∀ y∈nj,y∈eT:=by decide
 cases k with
 |zero=>exact ⟨y,r,rfl,h1,hy,h3⟩
 |succ k=>
  refine ⟨x,r.set k y,rfl,by rw[SO];exact h1,h2,fun z hz=> ?_⟩;rcases List.mem_or_eq_of_mem_set hz with hz|rfl
  .exact h3 z hz
  .exact hs _ hy
theorem HR {t:List Nat} {y:Nat} (h:aZ t=true) (hy:y∈ix):aZ (t.set k y)=true:=by
 rw[aZ,Bool.and_eq_true,decide_eq_true_eq,List.all_eq_true] at h ⊢;refine ⟨by rw[SO];exact h.1,fun z hz=> ?_⟩;rcases List.mem_or_eq_of_mem_set hz with hz|rfl
 .exact h.2 z hz
 .exact SC hy
theorem qg {t:List Nat} (h:j3 t):1<=t.length/\t.length<=12:=by
 refine bu fun G9 k9=> ?_;obtain ⟨x,r,rfl,h1,_⟩:=h;refine k9 ?_;rw[Ss];exact Qy h1
theorem N1 (h:k<l.length) (hl:l.length<=1000):tY (.int k) v (.list l)=some (.list (l.set k v)):=by
 have e:∀ i:Int,tY (.int i) v (.list l)=(ax (bA i=true) ()).bind fun _=>(cZ i l.length).map fun j=>cD.list (l.set j v):=fun i=>rfl;rw[e,aO (cn (DW) (SZ.mpr (Sv (S3 h) (Sv hl (by decide))))),Sl,mI h];rfl
theorem Kw (h:rd σ (.p i j)=some (.lst l)) (hl:l.length<=1000):Am (.p i j) σ=some (.lst l,l):=by
 unfold Am;rw[h];show (Option.map _ (ax (l.length<=dZ) l))=_;rw[aO (co hl)];rfl
end
section
theorem A8 {a b c:List Nat} (ha:a∈F) (hb:b∈F) (hc:c∈F) (h1:a≠b) (h2:a≠c) (h3:b≠c):3<=F.length:=by
 refine bu fun G9 k9=> ?_;obtain ⟨i,hi,rfl⟩:=List.mem_iff_getElem.mp ha;obtain ⟨j,hj,rfl⟩:=List.mem_iff_getElem.mp hb;obtain ⟨k,hk,rfl⟩:=List.mem_iff_getElem.mp hc;refine k9 ?_;have q1:i≠j:=fun q=>h1 (by subst q;rfl);have q2:i≠k:=fun q=>h2 (by subst q;rfl);have q3:j≠k:=fun q=>h3 (by subst q;rfl);exact Qx hi hj hk q1 q2 q3
noncomputable def curs:List (List Nat):=[[69,85,82],[74,80,89],[85,83,68],[75,87,68],[67,72,70],[71,66,80],[83,69,75],[69,85,83]]
theorem HQ:∀ x∈curs,aZ x=true:=by decide
variable {n m:Int}
theorem HC {l:aE}:b_ (σ++(.fld f::l)) σ.length 0=some f:=by
 unfold b_;rw[SK (Sy _),Nat.sub_self];rfl
theorem NC {l:aE}:dX (σ++(.fld f::l)) σ.length 0 f'=σ++(.fld f'::l):=by
 unfold dX;rw[SK (Sy _),Nat.sub_self];show (σ++(PO.fld f::l)).set σ.length _=_;rw[List.set_append_right _ _ (Sy _),Nat.sub_self];rfl
theorem Ob {l:aE} {x:D} (h:f.rd=some x):rd (σ++(.fld f::l)) (.p σ.length 0)=some x:=by
 show (b_ (σ++(.fld f::l)) σ.length 0).bind cD.rd=_;rw[HC];exact h
theorem MS {a b:PO}:b_ (σ++[a,b,.fld f]) (σ.length+2) 0=some f:=by
 unfold b_;rw[SK (Th _ _),Nat.add_sub_cancel_left];rfl
theorem Q7 {a b:PO}:dX (σ++[a,b,.fld f]) (σ.length+2) 0 f'=σ++[a,b,.fld f']:=by
 unfold dX;rw[SK (Th _ _),Nat.add_sub_cancel_left];show (σ++[a,b,PO.fld f]).set (σ.length+2) _=_;rw[List.set_append_right _ _ (Th _ _),Nat.add_sub_cancel_left];rfl
theorem R8 {a b:PO} {x:D} (h:f.rd=some x):rd (σ++[a,b,.fld f]) (.p (σ.length+2) 0)=some x:=by
 show (b_ (σ++[a,b,.fld f]) (σ.length+2) 0).bind cD.rd=_;rw[MS];exact h
theorem uU {b:CE} {m:List D} (h1:Ev K a ρ σ x) (h2:Ev K b ρ σ y) (r1:rd σ x=some (.lst l)) (r2:rd σ y=some (.lst m)) (hl:l.length+m.length<=1000):(nC true (D8 a b)).ev K ρ σ=some (.ok (.p σ.length 0),σ++[.fld (.list (l++m))]):=by
 refine aC (a:=l++m) (σ':=σ) (aC h1 (aC h2 ?_)) rfl;show ((((rd σ x).bind lD).bind fun l=>((rd σ y).bind lD).bind fun m=>ax (l.length+m.length<=dZ) (l++m)).map fun z=>(R.ok z,σ))=_;rw[r1,r2];show (ax (l.length+m.length<=dZ) (l++m)).map _=_;rw[aO (co hl)];rfl
end
section
variable {w:List Nat} {L:Int}
noncomputable def FT (L:Int) (F:List (List Nat)) (w:List Nat):List (List Nat):=if w∈F∨L<=F.length then F else F++[w]
theorem IK {a b c e:Option PV} {Y:PO} (h:F.length<=8):Ev (KK 6 false) (bi ba (aj (ag 1) az)) [a,qV 2,b,c,e] [o1,o2,.fld (.list (F.map .str)),X,Y] (.d (.int F.length)):=by
 have e:=li (hd:=false) (σ:=[o1,o2,.fld (.list (F.map .str)),X,Y]) (x:=.p 2 0) rfl (by rw[Sk];exact co (Sv h (by decide)));rw[Sk] at e;exact cC rfl e
theorem HS {a b:Option PV} {Y:PO} (h:F.length<=8):fy.ex (KK 6 false) [a,qV 2,b,iV L,sV w] [o1,o2,.fld (.list (F.map .str)),X,Y]=some (.next [a,qV 2,b,iV L,sV w],[o1,o2,.fld (.list ((FT L F w).map .str)),X,Y]):=by
 unfold FT;by_cases q:w∈F
 .rw[if_pos (.inl q)];exact aa (a' (dQ (lG (av rfl rfl rfl rfl (Ae q)))) rfl) rfl
 by_cases z:(F.length:Int)<L
 .rw[if_neg (fun y=>y.elim q (Int.not_le.mpr z)),List.map_append];exact aa (bo (dQ (fk (av rfl rfl rfl rfl (vU q)) (fk (av (IK h) rfl rfl rfl (yy z)) rfl))) (aa (aK (cU (n:=2) (j:=0) (l:=F.map .str) (y:=.str w) rfl rfl rfl (by rw[Sk];exact ee (Sv h (by decide))))) rfl)) rfl
 .rw[if_pos (.inr (Tp.mp z))];exact aa (a' (dQ (fk (av rfl rfl rfl rfl (vU q)) (lG (av (IK h) rfl rfl rfl (lU z))))) rfl) rfl
structure Cu (L:Int) (P:List Nat->Prop) (ws F:List (List Nat)):Prop where
 nd:F.Nodup
 le:(F.length:Int)<=L
 al:∀ x∈F,P x
 mm:∀ x∈ws,x∈F∨L<=F.length
theorem K_ {P:List Nat->Prop} {ws:List (List Nat)} (h:Cu L P ws F) (hw:P w):Cu L P (w::ws) (FT L F w):=by
 unfold FT;by_cases q:w∈F∨L<=F.length
 .rw[if_pos q];refine ⟨h.nd,h.le,h.al,fun x hx=> ?_⟩;rcases Sm.mp hx with rfl|hx
  .exact q
  .exact h.mm x hx
 .rw[if_neg q];refine ⟨List.nodup_append.mpr ⟨h.nd,S9.mpr ⟨SI,Tb⟩,fun a ha c hc=>by rw[Sq.mp hc];rintro rfl;exact q (.inl ha)⟩,by rw[Sn];exact Int.not_le.mp fun z=>q (.inr z),fun x hx=> ?_,fun x hx=>.inl ?_⟩
  .rcases SF.mp hx with z|z
   .exact h.al x z
   .rw[Sq.mp z];exact hw
  .rcases Sm.mp hx with rfl|hx
   .exact List.mem_append_right _ (.head _)
   .exact List.mem_append_left _ ((h.mm x hx).resolve_right fun z=>q (.inr z))
theorem HT {P:List Nat->Prop} {a:Option PV} {ys:List D} (hL:L<=8):∀ (ws us F:List (List Nat)) (x:Option PV),Cu L P us F->(∀ x∈ws,P x)->∃ G y,Cu L P (ws.reverse++us) G/\fe (.p 4 0) (.lst ys) 4 (fun ρ=>fy.ex (KK 6 false) ρ) (ws.map .str) [a,qV 2,qV 4,iV L,x] [o1,o2,.fld (.list (F.map .str)),X,.fld (.list ys)]=some (.next [a,qV 2,qV 4,iV L,y],[o1,o2,.fld (.list (G.map .str)),X,.fld (.list ys)]):=by
 intro ws
 induction ws with
 |nil=>
  intro us F x h _;exact ⟨F,x,h,rfl⟩
 |cons w ws ih=>
  intro us F x h hw;refine bu fun G9 k9=> ?_;obtain ⟨G,y,c,e⟩:=ih (w::us) (FT L F w) (sV w) (K_ h (hw w (.head _))) fun x hx=>hw x (.tail _ hx);refine k9 ?_;exact ⟨G,y,by rw[List.reverse_cons,List.append_assoc];exact c,cB (HS (by have:=h.le;omega)) (mA rfl) e⟩
theorem rC {c0 c1:Int}:∃ F:List (List Nat),F.Nodup/\(∀ x∈F,aZ x=true)/\3<=F.length/\F.length<=8/\(∃ n0 v,∀ x∈F,x∈n0::v::curs)/\CC 7 false 42 [.d (.lst [.int c0,.int c1])] [o1,o2]=some (.ok (.d (.lst (F.map .str))),[o1,o2]):=by
 refine bu fun G9 k9=> ?_;obtain ⟨n0,h0,e0⟩:=m4 (d:=5) (hd:=false) (σ:=[o1,o2,.fld (.list [])]) (n:=c0);obtain ⟨n1,h1,e1⟩:=m4 (d:=5) (hd:=false) (σ:=[o1,o2,.fld (.list [])]) (n:=c1);refine k9 ?_;generalize hB:PO.fld (.list [.str n0,.str n1,.str [69,85,82],.str [74,80,89],.str [85,83,68]])=B;refine bu fun G9 k9=> ?_;obtain ⟨L,hL,x4⟩:∃ L:Int,(4<=L/\L<=8)/\∀ x y z s,iq.ex (KK 6 false) [dV (.lst [.int c0,.int c1]),x,y,z,none] s=some (.next [dV (.lst [.int c0,.int c1]),x,y,iV L,none],s):=by
  by_cases q:(c0.fdiv 3).fmod 8=3
  .exact ⟨8,by decide,fun _ _ _ _=>aA (pA (tT q rfl) rfl) rfl⟩
  .exact ⟨4,by decide,fun _ _ _ _=>aA (pB (tF q rfl) rfl) rfl⟩
 obtain ⟨v,hv,x5⟩:∃ v,aZ v=true/\∀ x y z,ip.ex (KK 6 false) [dV (.lst [.int c0,.int c1]),x,qV 4,y,z] [o1,o2,.fld (.list []),B,.fld (.list (.str n0:: .str n1::curs.map .str))]=some (.next [dV (.lst [.int c0,.int c1]),x,qV 4,y,z],[o1,o2,.fld (.list []),B,.fld (.list (.str n0:: .str v::curs.map .str))]):=by
  by_cases q:c1.fmod 2=1
  .obtain ⟨k,y,hk,hy,e2⟩:=vn (d:=5) (hd:=false) (n:=c1.fdiv 2) (t:=n0) (sg:=ix) (by rw[dL h0];decide) (by rw[dL h0];decide) rfl;exact ⟨n0.set k y,HR h0 hy,fun _ _ _=>bo (tT q rfl) (aa (iN (eI e2 rfl) rfl rfl rfl) rfl)⟩
  .exact ⟨n1,h1,fun _ _ _=>a' (tF q rfl) rfl⟩
 obtain ⟨F,y,c,lp⟩:=HT (P:=fun x=>aZ x=true/\x∈n0::v::curs) (a:=dV (.lst [.int c0,.int c1])) (o1:=o1) (o2:=o2) (X:=B) (ys:=.str n0:: .str v::curs.map .str) hL.2 (n0::v::curs) [] [] none ⟨Tb,by have:=hL.1;show (0:Int)<=L;omega,aS,aS⟩ fun x hx=>⟨by
  rcases Sm.mp hx with rfl|hx
  .exact h0
  rcases Sm.mp hx with rfl|hx
  .exact hv
  .exact HQ x hx,hx⟩
 refine k9 ?_;have m:∀ x∈curs,x∈F∨L<=F.length:=fun x hx=>c.mm x (by rw[List.append_nil];exact List.mem_reverse.mpr (.tail _ (.tail _ hx)));have le:=c.le;refine ⟨F,c.nd,fun x hx=>(c.al x hx).1,?_,by omega,⟨n0,v,fun x hx=>(c.al x hx).2⟩,?_⟩
 .by_cases z:L<=F.length
  .omega
  .exact A8 ((m [69,85,82] (.head _)).resolve_right z) ((m [74,80,89] (.tail _ (.head _))).resolve_right z) ((m [85,83,68] (.tail _ (.tail _ (.head _)))).resolve_right z) (by decide) (by decide) (by decide)
 .exact Fv (f':=.list (F.map .str)) (m:=2) rfl rfl rfl (aa rfl (aa (aA (g_ (cW (eI e0 rfl) (cW (eI e1 rfl) rfl))) rfl) (aa (aA (uU rfl (bL rfl) rfl rfl (Sr rfl)) rfl) (aa (x4 _ _ _ _) (aa (hB ▸ x5 _ _ _) (aa (dp rfl rfl (hB ▸ lp)) rfl)))))) (Sy _) rfl rfl
end
section
variable {n m:Int}
theorem g9 {h:k<nX} (h1:Ev K e ρ σ (.d (.exc c))) (hc:c<nX):Ev K (kN (lc k h) e) ρ σ (.d (.bool (c==k||k==0))):=by
 refine aC h1 ?_;show ((ax (c<nX/\k<nX) (c==k||k==0)).map fun b=>(R.ok (PV.d (.bool b)),σ))=_;rw[aO ⟨hc,h⟩];rfl
theorem MH (h1:Ev K e ρ σ (.d (.exc c))) (hc:c<nX):Ev K (kN Q4 e) ρ σ (.d (.bool true)):=by
 refine aC h1 ?_;show ((ax (c<nX) true).map fun b=>(R.ok (PV.d (.bool b)),σ))=_;rw[aO hc];rfl
noncomputable def ia (b:Bool):Int:=if b then 1 else 0
theorem IP {b:Bool} (h:Ev K e ρ σ (.d (.bool b))):Ev K (bi eH (aj e az)) ρ σ (.d (.int (ia b))):=cC (cl1 h) rfl
theorem fW {h:k<nX} (h1:Ev K (ag 0) ρ σ (.d (.exc c))) (hc:c<nX):Ev K (bi eH (aj (kN (lc k h) (ag 0)) az)) ρ σ (.d (.int (ia (c==k||k==0)))):=IP (g9 h1 hc)
theorem db {b:CE} {x y:Int} (h1:Ev K a ρ σ (.d (.int x))) (h2:Ev K b ρ σ (.d (.int y))):Ev K (aJ aH a b) ρ σ (.d (.int (x+y))):=aX h1 h2 rfl rfl rfl
end
section
variable {n m:Int}
theorem ti {i:Int} (h:i.natAbs<10^31):F2 (.int i)=some (aP i)/\(aP i).length<=32:=by
 have h1:i.natAbs.log2<128:=by
  by_cases q:i.natAbs=0
  .rw[q];decide
  .exact (Nat.log2_lt q).mpr (Tj h (by decide))
 refine ⟨aO (Tj h1 (by decide)),?_⟩;have h2:(aP i).length=(toString i).length:=PySem.ofString_length _;rw[h2];exact int_text_length_le10 (k:=31) (by decide) h
theorem zT {t:List Nat} (h1:Ev K e ρ σ (.d u)) (h:F2 u=some t):Ev K (bi wL (aj e az)) ρ σ (.d (.str t)):=by
 refine cC (cl1 h1) ?_;show ((F2 u).map D.str).map _=_;rw[h];rfl
theorem wz {s:List Nat}:∀ ts:List (List Nat),(aT s ts).length<=(ts.map List.length).sum+ts.length*s.length
 |[]=>SQ _
 |[x]=>by show x.length<=x.length+0+1*s.length;exact Rt
 |x::y::r=>by
  have k:=wz (s:=s) (y::r);show (x++s++aT s (y::r)).length<=x.length+((y::r).map List.length).sum+((y::r).length+1)*s.length;rw[Sn,Sn,Nat.succ_mul];exact Rs k
theorem vC:∀ ts:List (List Nat),pQ (ts.map .str)=some ts:=by
 intro ts
 induction ts with
 |nil=>
  exact rfl
 |cons t ts ih=>
  show (pQ (ts.map .str)).map (t::·)=_;rw[ih];rfl
theorem Dg {ts:List (List Nat)} (h:∀ t∈ts,t.length<=k):(ts.map List.length).sum<=ts.length*k:=by
 induction ts with
 |nil=>exact SQ _
 |cons t ts ih=>
  rw[List.map_cons,List.sum_cons,Ss,Nat.succ_mul];have:=ih fun x hx=>h x (.tail _ hx);have:=h t (.head _);exact Qw (by assumption) this
theorem uL {ts:List (List Nat)} (h1:Ev K o ρ σ (.d (.str s))) (h2:Ev K a ρ σ x) (r:rd σ x=some (.lst (ts.map .str))) (hs:s.length<=15) (ht:∀ t∈ts,t.length<=600) (hl:ts.length<=1000):Ev K (bm mO o (aj a az)) ρ σ (.d (.str (aT s ts))):=by
 refine aC h1 (aC (cl1 h2) ?_);show ((rd σ x).bind fun v=>_)=_;rw[r,Sl];show (((pQ (ts.map .str)).bind fun ts=>ax ((ts.map List.length).sum+ts.length<=1048576/\s.length<=15) (D.str (aT s ts))).map _)=_;have h3:=Dg ht;have h4:ts.length*600<=1000*600:=Nat.mul_le_mul_right _ hl;rw[vC,Sl,aO ⟨by exact Sv (Nat.add_le_add (Sv h3 (Nat.mul_le_mul_right 600 hl)) hl) (by decide),hs⟩];rfl
end
section
variable {n m:Int}
end
section
variable {n m:Int}
theorem KV {a b:List D} (h:a.length+b.length<=1000):aH.g (.lst a) (.lst b)=some (.lst (a++b)):=if_pos (co h)
end
section
variable [DecidableEq α]
noncomputable def jy (a:α) (v:D):List (α×D)->List (α×D)
 |[]=>[(a,v)]
 |x::l=>if x.1=a then (x.1,v)::l else x::jy a v l
noncomputable def g7 (a:α):List (α×D)->Option D
 |[]=>none
 |x::l=>if x.1=a then some x.2 else g7 a l
variable {mk:α->D}
theorem mS (hk:∀ a b,fb (mk a) (mk b)=decide (a=b)) (a:α):∀ l:List (α×D),e_ (mk a) (l.map fun x=>mk x.1) (l.map (·.2))=g7 a l:=by
 intro l
 induction l with
 |nil=>
  exact rfl
 |cons x l ih=>
  show (if fb (mk x.1) (mk a)=true then some x.2 else e_ (mk a) (l.map fun x=>mk x.1) (l.map (·.2)))=if x.1=a then some x.2 else g7 a l;rw[hk,ih];by_cases h:x.1=a
  .rw[if_pos h,if_pos (SC h)]
  .rw[if_neg h,if_neg (by rw[Tf h];exact SL)]
theorem xN (hk:∀ a b,fb (mk a) (mk b)=decide (a=b)) (a:α) (v:D):∀ l:List (α×D),eV (mk a) (l.map fun x=>mk x.1)=(jy a v l).map fun x=>mk x.1:=by
 intro l
 induction l with
 |nil=>
  exact rfl
 |cons x l ih=>
  show (if fb (mk x.1) (mk a)=true then mk x.1::l.map (fun x=>mk x.1) else mk x.1::eV (mk a) (l.map fun x=>mk x.1))=(if x.1=a then (x.1,v)::l else x::jy a v l).map fun x=>mk x.1;rw[hk,ih];by_cases h:x.1=a
  .rw[if_pos h,if_pos (SC h)];rfl
  .rw[if_neg h,if_neg (by rw[Tf h];exact SL)];rfl
theorem xM (hk:∀ a b,fb (mk a) (mk b)=decide (a=b)) (a:α) (v:D):∀ l:List (α×D),eU (mk a) v (l.map fun x=>mk x.1) (l.map (·.2))=(jy a v l).map (·.2):=by
 intro l
 induction l with
 |nil=>
  exact rfl
 |cons x l ih=>
  show (if fb (mk x.1) (mk a)=true then v::l.map (·.2) else x.2::eU (mk a) v (l.map fun x=>mk x.1) (l.map (·.2)))=(if x.1=a then (x.1,v)::l else x::jy a v l).map (·.2);rw[hk,ih];by_cases h:x.1=a
  .rw[if_pos h,if_pos (SC h)];rfl
  .rw[if_neg h,if_neg (by rw[Tf h];exact SL)];rfl
theorem mR {a b:α}:∀ l:List (α×D),g7 b (jy a v l)=if b=a then some v else g7 b l:=by
 intro l
 induction l with
 |nil=>
  show (if a=b then some v else none)=if b=a then some v else none;by_cases h:b=a
  .rw[if_pos h,if_pos h.symm]
  .rw[if_neg h,if_neg fun e=>h e.symm]
 |cons x l ih=>
  show g7 b (if x.1=a then (x.1,v)::l else x::jy a v l)=if b=a then some v else if x.1=b then some x.2 else g7 b l;by_cases h:x.1=a
  .rw[if_pos h];show (if x.1=b then some v else g7 b l)=_;by_cases k:b=a
   .rw[if_pos k,if_pos (h.trans k.symm)]
   .rw[if_neg k,if_neg fun e=>k (e.symm.trans h),if_neg fun e=>k (e.symm.trans h)]
  .rw[if_neg h];show (if x.1=b then some x.2 else g7 b (jy a v l))=_;rw[ih];by_cases k:b=a
   .rw[if_pos k,if_neg fun e=>h (e.trans k),if_pos k]
   .rw[if_neg k,if_neg k]
theorem mM {a b:α}:∀ l:List (α×D),b∈(jy a v l).map (·.1)<->b=a∨b∈l.map (·.1):=by
 intro l
 induction l with
 |nil=>
  show b∈[a]<->b=a∨b∈[];simp
 |cons x l ih=>
  show b∈(if x.1=a then (x.1,v)::l else x::jy a v l).map (·.1)<->b=a∨b∈x.1::l.map (·.1);by_cases h:x.1=a
  .rw[if_pos h];show b∈x.1::l.map (·.1)<->_;rw[Sm,<-h];constructor
   .intro q;exact .inr q
   .rintro (q|q)
    .exact .inl q
    .exact q
  .rw[if_neg h];show b∈x.1::(jy a v l).map (·.1)<->_;rw[Sm,Sm,ih];constructor
   .rintro (q|q|q)
    .exact .inr (.inl q)
    .exact .inl q
    .exact .inr (.inr q)
   .rintro (q|q|q)
    .exact .inr (.inl q)
    .exact .inl q
    .exact .inr (.inr q)
theorem uz {a:α}:∀ l:List (α×D),(jy a v l).length<=l.length+1:=by
 intro l
 induction l with
 |nil=>
  exact Sy _
 |cons x l ih=>
  show (if x.1=a then (x.1,v)::l else x::jy a v l).length<=_;by_cases h:x.1=a
  .rw[if_pos h];exact S8 _
  .rw[if_neg h];exact Tl (ih)
end
noncomputable abbrev Rw:=List Nat×Int×Int×Int
variable {rs:List Rw}
noncomputable def vH (x:Rw):D:=.tup [.str x.1,.int x.2.1,.int x.2.2.1,.int x.2.2.2]
noncomputable def Gh (x:Rw):D:=.tup [.int x.2.2.1,.int x.2.2.2]
open Classical in
noncomputable def oH (c:List Nat) (n:Int) (o:Option Rw) (x:Rw):Option Rw:=if x.1=c/\x.2.1<=n/\(∀ y,o=some y->y.2.1<=x.2.1) then some x else o
noncomputable def k8 (c:List Nat) (n:Int) (rs:List Rw):Option Rw:=rs.foldl (oH c n) none
theorem kT {c:List Nat} {n:Int} {x:Rw}:k8 c n (rs++[x])=oH c n (k8 c n rs) x:=by
 unfold k8;rw[List.foldl_append];rfl
structure Q3 (c:List Nat) (l:List (Int×D)) (n:Int) (y:Rw):Prop where
 c:y.1=c
 m:y.2.1∈l.map (·.1)
 le:y.2.1<=n
 mx:∀ k∈l.map (·.1),k<=n->k<=y.2.1
 at_:g7 y.2.1 l=some (Gh y)
structure CQ (c:List Nat) (rs:List Rw) (l:List (Int×D)):Prop where
 no:∀ n,k8 c n rs=none->∀ k∈l.map (·.1),n<k
 yes:∀ n y,k8 c n rs=some y->Q3 c l n y
theorem Fb {c:List Nat}:CQ c [] []:=⟨fun _ _ k h=>(by cases h),fun _ _ h=>(by cases h)⟩
theorem zq {c:List Nat} {l:List (Int×D)} {x:Rw} (h:CQ c rs l) (hx:x.1≠c):CQ c (rs++[x]) l:=by
 have e:∀ n,k8 c n (rs++[x])=k8 c n rs:=fun n=>kT.trans (if_neg fun q=>hx q.1);exact ⟨fun n=>by rw[e];exact h.no n,fun n y=>by rw[e];exact h.yes n y⟩
theorem Co {c:List Nat} {l:List (Int×D)} {x:Rw} (h:CQ c rs l) (hx:x.1=c):CQ c (rs++[x]) (jy x.2.1 (Gh x) l):=by
 refine ⟨fun n e k hk=> ?_,fun n y e=> ?_⟩
 .rw[kT] at e;unfold oH at e;split at e
  .cases e
  .next q=>
   rcases (mM l).mp hk with z|z
   .subst z;exact Int.not_le.mp fun z=>q ⟨hx,z,fun y hy=>by rw[e] at hy;cases hy⟩
   .exact h.no n e k z
 .rw[kT] at e;unfold oH at e;split at e
  .next q=>
   cases e;refine ⟨hx,(mM l).mpr (.inl rfl),q.2.1,fun k hk hn=> ?_,(mR l).trans (if_pos rfl)⟩;rcases (mM l).mp hk with z|z
   .exact Int.le_of_eq z
   .cases b:k8 c n rs with
    |none=>exact absurd hn (Int.not_le.mpr (h.no n b k z))
    |some y=>exact SV ((h.yes n y b).mx k z hn) (q.2.2 y b)
  .next q=>
   have d:=h.yes n y e;have lt:x.2.1<=n->x.2.1<y.2.1:=fun z=>Int.not_le.mp fun z2=>q ⟨hx,z,fun y' hy=>by rw[e] at hy;cases hy;exact z2⟩;have ne:y.2.1≠x.2.1:=fun z=>absurd (lt (z ▸ d.le)) (Qv z);refine ⟨d.c,(mM l).mpr (.inr d.m),d.le,fun k hk hn=> ?_,(mR l).trans ((if_neg ne).trans d.at_)⟩;rcases (mM l).mp hk with z|z
   .subst z;exact Tk (lt hn)
   .exact d.mx k z hn
section
theorem KU {a:Int} (h:b<=a):M7.g (.int a) (.int b)=some true:=congrArg some (SC h)
theorem Hr {a:Int} (h:¬b<=a):M7.g (.int a) (.int b)=some false:=congrArg some (Tf h)
theorem on (a b:List Nat):fb (.str a) (.str b)=decide (a=b):=rfl
theorem Er (a b:Int):fb (.int a) (.int b)=decide (a=b):=rfl
theorem nN {c:List Nat} (f:α->List Nat) (g:List α):kZ (.str c) (g.map fun x=>.str (f x))=true:=by
 have:(g.map fun x=>D.str (f x)).all B7=true:=List.all_eq_true.mpr fun x hx=>by
  obtain ⟨y,_,e⟩:=SD.mp hx;rw[<-e];rfl
 show (_||(true&&(g.map fun x=>D.str (f x)).all B7))=true;rw[this];exact Bool.or_true _
theorem rt {c:Int} (f:α->Int) (g:List α):kZ (.int c) (g.map fun x=>.int (f x))=true:=by
 have:(g.map fun x=>D.int (f x)).all KE=true:=List.all_eq_true.mpr fun x hx=>by
  obtain ⟨y,_,e⟩:=SD.mp hx;rw[<-e];rfl
 show ((true&&(g.map fun x=>D.int (f x)).all KE)||_)=true;rw[this];rfl
noncomputable def Cp (l:List (Int×D)):D:=.dct (l.map fun x=>.int x.1) (l.map (·.2))
variable {n:Int} {c:List Nat} {m:List (List Nat×D)}
theorem ki {t:CI} {v:PV} {y:D} (hs:bP σ y v=true) (f g:α->D) (p:α->Bool):∀ (xs:List α) (acc:List D),(∀ x∈xs,t.ts K (ρ.set i (dV (f x))) σ=some (.ok (p x),σ))->(∀ x∈xs,p x=true->Ev K bT (ρ.set i (dV (f x))) σ (.d (g x)))->acc.length+xs.length<=1000000->dy v y i (t.ts K) (bT.ev K) ρ (xs.map f) acc σ=some (.ok (acc++(xs.filter p).map g),σ):=by
 intro xs
 induction xs with
 |nil=>
  intro acc _ _ _;rw[List.map_nil,List.filter_nil,List.map_nil,List.append_nil];rfl
 |cons x xs ih=>
  intro acc h1 h2 hl;rw[Ss] at hl;rw[List.map_cons];show (match t.ts K (ρ.set i (dV (f x))) σ with
   |some (.ok false,σ')=>if bP σ' y v then dy v y i (t.ts K) (bT.ev K) ρ (xs.map f) acc σ' else none
   |some (.ok true,σ')=>(match bT.ev K (ρ.set i (dV (f x))) σ' with
    |some (.ok (.d z),σ'')=>if bP σ'' y v/\acc.length<dZ then dy v y i (t.ts K) (bT.ev K) ρ (xs.map f) (acc++[z]) σ'' else none
    |some (.ex c,σ'')=>some (.ex c,σ'')
    |_=>none)
   |_=>none)=_
  rw[h1 x (.head _)];cases q:p x with
  |false=>
   rw[List.filter_cons_of_neg (by rw[q];exact SL)];show (if bP σ y v then _ else none)=_;rw[if_pos hs];exact ih acc (fun z hz=>h1 z (.tail _ hz)) (fun z hz=>h2 z (.tail _ hz)) (Nat.le_of_succ_le hl)
  |true=>
   rw[ST q,List.map_cons,List.append_cons];show (match bT.ev K (ρ.set i (dV (f x))) σ with
    |some (.ok (.d z),σ'')=>if bP σ'' y v/\acc.length<dZ then dy v y i (t.ts K) (bT.ev K) ρ (xs.map f) (acc++[z]) σ'' else none
    |some (.ex c,σ'')=>some (.ex c,σ'')
    |_=>none)=_
   rw[h2 x (.head _) q];show (if bP σ y v/\acc.length<dZ then _ else none)=_;rw[if_pos ⟨hs,SM (Sv (Th _ _) hl) (by decide)⟩];exact ih (acc++[g x]) (fun z hz=>h1 z (.tail _ hz)) (fun z hz=>h2 z (.tail _ hz)) (by rw[Sn,Sw];exact O1 hl)
theorem EA:∀ l:List Int,ra (l.map .int)=some l:=by
 intro l
 induction l with
 |nil=>
  exact rfl
 |cons x l ih=>
  show (ra (l.map .int)).map (x::·)=_;rw[ih];rfl
theorem J5 {l:List Int} {x:Int} (h1:x∈l) (h2:∀ a∈l,a<=x):ET.g false [.d (.lst (l.map .int))] σ=some (.ok (.d (.int x)),σ):=by
 show Option.map (fun z=>(R.ok (PV.d z),σ)) ((ra (l.map D.int)).bind fun is=>(BI is).map D.int)=_;rw[EA,Sl];cases e:BI l with
 |none=>cases l with
  |nil=>cases h1
  |cons a l=>cases e
 |some y=>rw[Ah e h1 h2];rfl
noncomputable def IE (o:Option Rw):R PV:=o.elim (.ex 13) fun y=>.ok (.d (Gh y))
noncomputable def hW (h:List Nat) (rs:List Rw) (c:List Nat) (n:Int):Option Rw:=if c=h then some (c,0,1,1) else k8 c n rs
noncomputable def Jt (o:Option Rw):D:=o.elim .none vH
end
section
variable {n:Int} {c:List Nat} {m:List (List Nat×D)}
theorem d7 {l:CL} (h:a.ev K ρ σ=some (.ex k,σ')):(aj a l).ev K ρ σ=some (.ex k,σ'):=l_ h
theorem bE {l:CL} (h:Ev K a ρ σ x) (e:l.ev K ρ σ=some (.ex k,σ')):(aj a l).ev K ρ σ=some (.ex k,σ'):=aC h (l_ e)
theorem uV {f:Nat} {l:CL} (h:l.ev K ρ σ=some (.ex k,σ')):(aF f l).ev K ρ σ=some (.ex k,σ'):=l_ h
theorem ug {t:List Nat} (hl:t.length<=1000) (h:40<t.length):CC (d+1) false 16 [.d (.str t)] σ=some (.ex 5,σ):=
 bR rfl rfl rfl (aY (bo (bz (eY (av (cC (cl1 rfl) (s0 (co hl))) rfl rfl rfl (uG (Int.lt_of_toNat_lt h))))) rfl)) (tk σ)
theorem FE {y:Rw}:∀ {rs:List Rw},k8 c n rs=some y->y∈rs:=by
 have key:∀ (rs:List Rw) (o:Option Rw),rs.foldl (oH c n) o=some y->y∈rs∨o=some y:=by
  intro rs
  induction rs with
  |nil=>exact fun o h=>.inr h
  |cons x rs ih=>
   intro o h;rcases ih _ h with z|z
   .exact .inl (.tail _ z)
   .unfold oH at z;split at z
    .cases z;exact .inl (.head _)
    .exact .inr z
 exact fun {rs} h=>(key rs none h).resolve_right nofun
def Ii (x:Rw):Prop:=(1<=x.2.2.1/\x.2.2.1<=10^9)/\(1<=x.2.2.2/\x.2.2.2<=10^9)
theorem sS {h:List Nat} {y:Rw} (hr:∀ x∈rs,Ii x) (e:hW h rs c n=some y):Ii y:=by
 unfold hW at e;split at e
 .cases e;exact ⟨⟨Int.le_refl 1,(by decide:(1:Int)<=10^9)⟩,Int.le_refl 1,(by decide:(1:Int)<=10^9)⟩
 .exact hr y (FE e)
theorem A0 (h:1<=g):c8 g=decide (g<10^30):=by
 unfold c8;rw[SC (show g≠0 by exact Ne.symm (Int.ne_of_lt h)),SC (show -(10^30)<g by exact SV (by decide) h),Bool.true_and,Bool.true_and]
end
section
variable {m:List (List Nat×D)} {N:List (List Nat)} {h:List Nat}
theorem LJ {b:CS} {h:CH} {z:Option (Out×aE)} (h1:b.ex (KK d false) ρ σ=some (.ex c ρ',σ')) (hc:c<nX) (k:h.ex (KK d false) c ρ' σ'=z):(Jp b h).ex (KK d false) ρ σ=z:=by
 show Je h (KK d false) (b.ex (KK d false) ρ σ)=z;rw[h1];show (if c<nX then h.ex (KK d false) c ρ' σ' else none)=z;rw[if_pos hc];exact k
noncomputable def Jz:List Nat:=(T4++T5)++T6
theorem Jy:∀ c∈Jz,32<=c/\c<=126:=by decide
theorem vS {n:Int}:∃ t:List Nat,dF t/\∀ d σ,CC (d+1) false 56 [.d (.int n)] σ=some (.ok (.d (.str t)),σ):=by
 have q:=aV (a:=n) (b:=41) (by decide);have e:n.fmod 41=(((n.fmod 41).toNat:Nat):Int):=by exact (S4 q.1).symm
 generalize hk:(n.fmod 41).toNat=k at e;have key:∀ (is:List Nat) (t:List Nat),(∀ c∈t,32<=c/\c<=126)->t.length+is.length<=40->(∀ i∈is,i<100)->∃ t',dF t'/\∀ d σ x3,∃ y3,fe (.d (.rng 0 k 1)) (.rng 0 k 1) 3 (fun ρ=>qz.ex (KK d false) ρ) (is.map fun (i:Nat)=>.int i) [iV n,sV Jz,sV t,x3] σ=some (.next [iV n,sV Jz,sV t',y3],σ):=by
  intro is
  induction is with
  |nil=>exact fun t h hl _=>⟨t,⟨hl,h⟩,fun d σ x3=>⟨x3,rfl⟩⟩
  |cons i is ih=>
   intro t h hl hi;rw[Ss] at hl;have g1:=jC (l:=Jz) (a:=n.fdiv 41+n.fdiv 3854*i) (k:=94) (by decide) (by decide);obtain ⟨t',h',lp⟩:=ih (t++[Jz.getD ((n.fdiv 41+n.fdiv 3854*i).fmod 94).toNat 0]) (fun c hc=>by
    rcases SF.mp hc with hc|hc
    .exact h c hc
    .rw[Sq.mp hc];exact Jy _ (List.mem_of_mem_take g1)) (by rw[Sn,Sw];exact Qu hl) (fun j hj=>hi j (.tail _ hj))
   have hi':=hi i (.head _);refine ⟨t',h',fun d σ x3=> ?_⟩;obtain ⟨y3,lp⟩:=lp d σ (iV i);exact ⟨y3,cB (aa (aA (aX rfl (jd (l:=Jz) rfl (aX (j_ rfl) (aX rfl rfl rfl rfl (lj (fG (Tj hi' (by decide))))) rfl rfl rfl) (by decide) (by decide) (by decide)) rfl rfl (lq (co (by rw[Sw];exact Qt hl)))) rfl) rfl) rfl lp⟩
 obtain ⟨t,ht,lp⟩:=key (List.range k) [] aS (by rw[List.length_range,Te];exact Qs q e) (fun i hi=>Qr q e (List.mem_range.mp hi));refine ⟨t,ht,fun d σ=> ?_⟩;obtain ⟨y3,lp⟩:=lp d σ none;have m0:=iz (K:=KK d false) (ρ:=[iV n,sV Jz,sV [],none]) (σ:=σ) (e:=ag 0) (a:=n) (k:=41) rfl (by decide) (by decide);rw[e] at m0;refine bf rfl rfl (ρ:=[iV n,none,none,none]) rfl ?_ (tk _);refine aa rfl ?_;refine aa rfl ?_;refine aa rfl ?_;refine aa rfl ?_;refine aa (dp (zh m0 (Rr q e)) (j2 (nI (Rr q e))) lp) ?_;exact rfl
theorem AL {t:CE} {a k:Int} (h1:Ev K t ρ σ (.d (.lst l))) (h2:Ev K e ρ σ (.d (.int a))) (h3:Ev K ke ρ σ (.d (.int k))) (k1:0<k) (k2:k<=l.length) (k3:l.length<=1000):∃ z∈l,Ev K (sub t (aJ bv e ke)) ρ σ (.d z):=by
 have q:=aV (a:=a) (b:=k) k1;have hk:(a.fmod k).toNat<l.length:=o8 k2 q;have e:a.fmod k=(((a.fmod k).toNat:Nat):Int):=Mk q;have g:=iy (a:=a) k1 (show k<2^250 by exact Ml k2 k3);rw[e] at g;exact ⟨l[(a.fmod k).toNat],List.getElem_mem hk,bQ h1 (aX h2 h3 rfl rfl g) rfl rfl (fc (Sp hk) (Mj k3 hk))⟩
end
section
variable {N:List (List Nat)} {B C:PO}
theorem EZ (hs:sc.length<=63) (h0:Ev (KK (d+1) hd) e ρ σ (.d (.lst (sc.map .int)))) (h1:Ev (KK (d+1) hd) ke ρ σ (.d (.int k))) (hk:k<=1000):Ev (KK (d+1) hd) (aF 33 (aj e (aj ke az))) ρ σ (.d (.int (cell sc k))):=aB (cW h0 (cl1 h1)) (Fs hs hk)
variable {p q:Int} {x:Option PV}
theorem Hb (h:Ev K e ρ σ (.d (.lst (T.map .str)))) (hl:T.length<=1000):Ev K (bi ba (aj e az)) ρ σ (.d (.int T.length)):=by
 have q:=li (hd:=K.hd) (σ:=σ) (x:=.d (.lst (T.map .str))) rfl (by rw[Sk];exact co hl);rw[Sk] at q;exact cC (cl1 h) q
theorem mJ {t:CE} {a k:Int} (h1:Ev K t ρ σ (.d (.lst (T.map .str)))) (h2:Ev K e ρ σ (.d (.int a))) (h3:Ev K ke ρ σ (.d (.int k))) (k1:0<k) (k2:k<=T.length) (k3:T.length<=1000):∃ z∈T,Ev K (sub t (aJ bv e ke)) ρ σ (.d (.str z)):=by
 refine bu fun G9 k9=> ?_;obtain ⟨z,hz,e⟩:=AL h1 h2 h3 k1 (by rw[Sk];exact k2) (by rw[Sk];exact k3);obtain ⟨y,hy,rfl⟩:=SD.mp hz;refine k9 ?_;exact ⟨y,hy,e⟩
end
section
theorem Le {p s f:Nat} {b:CS} {args:List PV} (hT:TT f=some ⟨p,s,true,b.ex⟩) (hl:args.length=p) (hr:args.map some++List.replicate (s - p) none=ρ) (h:b.ex (KK d hd) ρ σ=some (.ret (.p m 0),σ')) (hm:σ.length<=m) (ho:σ'[m]? =some (.fld f')) (k:σ'.take σ.length++[.fld f']=σ''):CC (d+1) hd f args σ=some (.ok (.p σ.length 0),σ''):=
 rG hT hl hr h (by
  show (if m<σ.length then _ else Br true σ.length σ' 0 σ'[m]?)=_;rw[if_neg (To.mpr hm),ho,<-k];rfl)
variable {n:Int} {c:List Nat}
variable {h a c2:List Nat} {fw:Int}
theorem p9:Ev K (aJ xQ (ai 10) (ai 9)) ρ σ (.d (.int (10^9))):=rfl
end
section
variable {N:List (List Nat)} {u w:Rw}
open Classical in
theorem E0 {u:D} (p1:pl 8 u=true) (p2:pl 8 v=true) (hf:NP u v=none):fh.g u v=some (decide (u=v)):=by
 show MW u v=_;unfold MW;rw[hf];show QU u v=_;unfold QU ax;rw[if_pos (by rw[p1,p2];rfl)]
theorem MU {u:D} (h:u=v) (p:pl 8 u=true) (hf:NP u v=none):fh.g u v=some true:=(E0 p (h ▸ p) hf).trans (congrArg some (@SC _ (_) h))
theorem MV {u:D} (h:u≠v) (p1:pl 8 u=true) (p2:pl 8 v=true) (hf:NP u v=none):fh.g u v=some false:=(E0 p1 p2 hf).trans (congrArg some (@Tf _ (_) h))
end
section
theorem Jh (h:1<=l.length) (hl:l.length<=1000):dj (.lst l) (.int 1) .none=some (.lst (l.drop 1)):=by
 have e:∀ i:Int,dj (.lst l) (.int i) .none=(ax (l.length<=dZ) ()).bind fun _=>(ax (bA i=true) i).bind fun a=>some (.lst (bC l (cY a l.length) (cY l.length l.length))):=fun _=>rfl;rw[e,aO (co hl),Sl,aO (by decide),Sl];have c1:cY 1 l.length=1:=by
  unfold cY;rw[if_neg (by decide)];show min 1 l.length=1;exact Nat.min_eq_left h
 have c2:cY l.length l.length=l.length:=by
  unfold cY;rw[if_neg (CV),Int.toNat_natCast,Nat.min_self]
 rw[c1,c2,bC,List.take_of_length_le (by rw[List.length_drop];exact Sy _)]
variable {N:List (List Nat)} {u w:Rw} {h n1:List Nat}
theorem K5 {b:CE} (h1:Ev K a ρ σ x) (h2:Ev K b ρ σ y) (r1:rd σ x=some (.lst l)) (r2:rd σ y=some (.int m)) (hm:m<=1000) (hl:l.length<=1):Ev K (nC false (Mt a b)) ρ σ (.d (.lst (List.replicate m l).flatten)):=by
 refine mX (aC h1 (aC h2 ?_));show ((((rd σ x).bind lD).bind fun l=>((rd σ y).bind iD).bind fun m=>ax (0<=m/\m<=100000/\l.length*m.toNat<=dZ) (List.replicate m.toNat l).flatten).map fun z=>(R.ok z,σ))=_;rw[r1,r2];show (ax ((0:Int)<=m/\(m:Int)<=100000/\l.length*(m:Int).toNat<=dZ) (List.replicate (m:Int).toNat l).flatten).map _=_;have q:l.length*m<=1*1000:=Nat.mul_le_mul hl hm;rw[Int.toNat_natCast,aO ⟨o9,by exact SZ.mpr (Sv hm (Sr rfl)),Sv q (by decide)⟩];rfl
end
noncomputable abbrev cw:=List Nat×List Nat×Int
variable {ls:List cw}
structure xl where
 no:Int
 day:Int
 note:List Nat
 lines:List cw
 back:Int
structure St where
 home:List Nat
 names:List (List Nat)
 tk:List D
 tv:List D
 made:List xl
 gone:List Int
 ends:List Int
 deeds:List D
variable {S S':St}
noncomputable def bI (l:cw):D:=.tup [.str l.1,.str l.2.1,.int l.2.2]
noncomputable def sF (e:xl):D:=.tup [.int e.no,.int e.day,.str e.note,.tup (e.lines.map bI),.int e.back]
noncomputable def oR (S:St):List cD:=[.d (.str S.home),.list (S.names.map .str),.dict S.tk S.tv,.list (S.made.map sF),.dict (S.gone.map .int) (S.gone.map fun _=>.bool true),.list (S.ends.map .int),.list S.deeds]
noncomputable def bk (S:St):PO:=.rcd true (oR S)
noncomputable def cl (l:List Int):Int:=if l.length=0 then -1 else l.getD (l.length - 1) 0
structure Sh (S:St):Prop where
 n:S.names.length<=1000
 t:S.tk.length<=1000
 m:S.made.length<=1000
 g:S.gone.length<=1000
 e:S.ends.length<=1000
 d:S.deeds.length<=1000
abbrev Bk (σ:aE) (n:Nat) (S:St):Prop:=σ[n]? =some (bk S)
section
variable {o:PO} {l:aE}
theorem Bk.lt (h:Bk σ n S):n<σ.length:=(So.mp h).1
theorem fx (h:n<σ.length):Bk (σ.set n (bk S)) n S:=List.getElem?_set_self h
theorem Bk.app (h:Bk σ n S):Bk (σ++l) n S:=by
 show (σ++l)[n]? =_;rw[S_ h.lt];exact h
theorem Go (h:n<σ.length):(σ++l).set n o=σ.set n o++l:=List.set_append_left _ _ h
theorem iM:(σ.set n o).take σ.length=σ.set n o:=by
 have:=List.take_length (l:=σ.set n o);rw[SO] at this;exact this
theorem xt:(σ.set n o++l).take σ.length=σ.set n o:=by
 have:=List.take_left (l₁:=σ.set n o) (l₂:=l);rw[SO] at this;exact this
theorem Bk.same (h:Bk σ n S):σ.set n (bk S)=σ:=by
 obtain ⟨hl,e⟩:=So.mp h;rw[<-e];exact List.set_getElem_self hl
theorem KA (h:Bk σ n S):MI (.p n 0) σ=some (.ok (),σ):=by
 show (cR true σ n).map _=_;unfold cR;rw[h];rfl
theorem jf (h:Bk σ n S) (he:Ev K e ρ σ (.p n 0)) (hf:(oR S)[k]? =some f):Ev K (cQ e k) ρ σ (zc n k f):=by
 refine aC he ?_;show (cR true σ n).bind _=_;unfold cR;rw[h];show ((oR S)[k]?).map _=_;rw[hf];rfl
theorem lZ (h:Bk σ n S) (hf:(oR S)[j]? =some f):b_ σ n (j+2)=some f:=by
 unfold b_;rw[h];exact hf
theorem vL {x:D} (h:Bk σ n S) (hf:(oR S)[j]? =some f) (hx:f.rd=some x):rd σ (.p n (j+2))=some x:=by
 show (b_ σ n (j+2)).bind _=_;rw[lZ h hf];exact hx
theorem nt (h:Bk σ n S) (hf:(oR S).set j f=oR S'):dX σ n (j+2) f=σ.set n (bk S'):=by
 unfold dX;rw[h];show σ.set n (.rcd true ((oR S).set (j+2 - 2) f))=_;rw[Nat.add_sub_cancel,hf];rfl
theorem m8 (h:Bk σ n S) (he:Ev K e ρ σ (.p n 0)):Ev K (cQ e 0) ρ σ (.d (.str S.home)):=jf (f:=.d (.str S.home)) h he rfl
theorem kx (h:Bk σ n S) (he:Ev K e ρ σ (.p n 0)):Ev K (cQ e 1) ρ σ (.p n 3):=jf (f:=.list (S.names.map .str)) h he rfl
theorem u5 (h:Bk σ n S) (he:Ev K e ρ σ (.p n 0)):Ev K (cQ e 2) ρ σ (.p n 4):=jf (f:=.dict S.tk S.tv) h he rfl
theorem u6 (h:Bk σ n S) (he:Ev K e ρ σ (.p n 0)):Ev K (cQ e 3) ρ σ (.p n 5):=jf (f:=.list (S.made.map sF)) h he rfl
theorem AZ (h:Bk σ n S) (he:Ev K e ρ σ (.p n 0)):Ev K (cQ e 4) ρ σ (.p n 6):=jf (f:=.dict (S.gone.map .int) (S.gone.map fun _=>.bool true)) h he rfl
theorem pH (h:Bk σ n S) (he:Ev K e ρ σ (.p n 0)):Ev K (cQ e 5) ρ σ (.p n 7):=jf (f:=.list (S.ends.map .int)) h he rfl
theorem FM (h:Bk σ n S) (he:Ev K e ρ σ (.p n 0)):Ev K (cQ e 6) ρ σ (.p n 8):=jf (f:=.list S.deeds) h he rfl
theorem mH (h:Bk σ n S):rd σ (.p n 3)=some (.lst (S.names.map .str)):=vL (f:=.list (S.names.map .str)) h rfl rfl
theorem zX (h:Bk σ n S):rd σ (.p n 4)=some (.dct S.tk S.tv):=vL (f:=.dict S.tk S.tv) h rfl rfl
theorem zY (h:Bk σ n S):rd σ (.p n 5)=some (.lst (S.made.map sF)):=vL (f:=.list (S.made.map sF)) h rfl rfl
theorem GE (h:Bk σ n S):rd σ (.p n 6)=some (.dct (S.gone.map .int) (S.gone.map fun _=>.bool true)):=vL (f:=.dict (S.gone.map .int) (S.gone.map fun _=>.bool true)) h rfl rfl
theorem t6 (h:Bk σ n S):rd σ (.p n 7)=some (.lst (S.ends.map .int)):=vL (f:=.list (S.ends.map .int)) h rfl rfl
theorem bq {f:Nat} {l:CL} (b:Bk σ n S) (h0:Ev (KK d hd) e ρ σ (.p n 0)) (h:l.ev (KK d hd) ρ σ=some (.ok xs,σ)) (k:CC d hd f (.p n 0::xs) σ=z):(meth e f l).ev (KK d hd) ρ σ=z:=HJ h0 (KA b) h k
theorem iY {l:List D} (h:Ev K e ρ σ x) (r:rd σ x=some (.lst l)) (hl:l.length<=1000):Ev K (bi ba (aj e az)) ρ σ (.d (.int l.length)):=cC (cl1 h) (li r (co hl))
theorem ta (b:Bk σ n S) (sh:S.made.length<=1000) (h:Ev K e ρ σ (.p n 0)):Ev K (bi ba (aj (cQ e 3) az)) ρ σ (.d (.int S.made.length)):=by
 have q:=iY (u6 b h) (zY b) (by rw[Sk];exact sh);rw[Sk] at q;exact q
theorem wr (b:Bk σ n S) (sh:Sh S) (h:Ev K e ρ σ (.p n 0)):Ev K (bi ba (aj (cQ e 3) az)) ρ σ (.d (.int S.made.length)):=ta b sh.m h
theorem Ek (b:Bk σ n S) (sh:Sh S) (h:Ev K e ρ σ (.p n 0)):Ev K (bi ba (aj (cQ e 5) az)) ρ σ (.d (.int S.ends.length)):=by
 have q:=iY (pH b h) (t6 b) (by rw[Sk];exact sh.e);rw[Sk] at q;exact q
theorem rF (b:Bk σ n S) (sh:Sh S):CC (d+1) hd 2 [.p n 0] σ=some (.ok (.d (.int (cl S.ends))),σ):=by
 have e:Ev (KK d hd) (bi ba (aj (cQ (ag 0) 5) az)) [qV n] σ (.d (.int S.ends.length)):=Ek b sh rfl;unfold cl;by_cases q:S.ends.length=0
 .rw[if_pos q];exact bf rfl rfl rfl (aW (bo (av e rfl rfl rfl (k7 (by rw[q];rfl))) rfl)) (tk _)
 .rw[if_neg q];refine bf rfl rfl rfl (aa (a' (av e rfl rfl rfl (wQ (Int.ofNat_ne_zero.mpr q))) rfl) (aW (aU (bQ (pH b rfl) (aX e rfl rfl rfl rfl) (t6 b) rfl (w:=.int (S.ends.length - 1)) ?_)))) (tk _);have hk:S.ends.length - 1<S.ends.length:=by exact Nat.sub_one_lt q
  have:=fc (l:=S.ends.map D.int) (k:=S.ends.length - 1) (z:=.int (S.ends.getD (S.ends.length - 1) 0)) (by rw[SE,Sp hk,SG,Sp hk];rfl) (Qq sh.e);rw[show ((S.ends.length:Int) - 1)=((S.ends.length - 1:Nat):Int) by exact (Int.ofNat_sub (Nat.one_le_of_lt hk)).symm];exact this
theorem fF (b:Bk σ n S) (sh:Sh S) (h:bW t) (hc:cl S.ends<t):CC (d+2) hd 4 [.p n 0,.d (.int t)] σ=some (.ok (.d .none),σ):=
 eq rfl rfl rfl (aa (aK (eI (g6 h) rfl)) (aa (a' (av rfl (bq b rfl rfl (rF b sh)) rfl rfl (ME (Int.not_le.mpr hc))) rfl) rfl)) (tk _)
theorem ub (b:Bk σ n S) (sh:Sh S) (h:bW t) (hc:t<=cl S.ends):CC (d+2) false 4 [.p n 0,.d (.int t)] σ=some (.ex 8,σ):=
 bR rfl rfl rfl (aa (aK (eI (g6 h) rfl)) (aY (bo (av rfl (bq b rfl rfl (rF b sh)) rfl rfl (yD hc)) rfl))) (tk _)
theorem DS (h:¬bW t):CC (d+2) false 4 [.p n 0,.d (.int t)] σ=some (.ex 4,σ):=
 bR rfl rfl rfl (aY (cG (eI (vV h) rfl))) (tk _)
theorem fD {a:List Nat} (b:Bk σ n S) (h:a∈S.names):CC (d+1) hd 15 [.p n 0,.d (.str a)] σ=some (.ok (.d .none),σ):=
 eq rfl rfl rfl (aa (a' (av rfl (kx b rfl) rfl (mH b) (Ae h)) rfl) rfl) (tk _)
theorem zG {a:List Nat} (b:Bk σ n S) (h:a∉S.names):CC (d+1) false 15 [.p n 0,.d (.str a)] σ=some (.ex 11,σ):=
 bR rfl rfl rfl (aY (bo (av rfl (kx b rfl) rfl (mH b) (vU h)) rfl)) (tk _)
theorem Ck {t:xl} (b:Bk σ n S) (sh:Sh S) (h:S.made[k]? =some t):CC (d+1) hd 8 [.p n 0,.d (.int (k+1))] σ=some (.ok (.d (sF t)),σ):=by
 have hk:=(So.mp h).1;have sm:=sh.m;refine bf rfl rfl rfl (aa (a' (bz (bM rfl (bM (av rfl (wr b sh rfl) rfl rfl (oO (Tp.mpr (SZ.mpr hk)))) rfl))) rfl) (aW (aU (bQ (u6 b rfl) rfl (zY b) rfl (w:=.int ((k:Int)+1 - 1)) ?_)))) (tk _);rw[Int.add_sub_cancel];exact fc (by rw[SE,h];rfl) (Sv (S3 hk) (Sv sm (by decide)))
theorem E3 {k:Int} (b:Bk σ n S) (sh:Sh S) (h:k<1∨S.made.length<k):CC (d+1) false 8 [.p n 0,.d (.int k)] σ=some (.ex 12,σ):=by
 refine bR rfl rfl rfl (aY (bo (bz ?_) rfl)) (tk _);by_cases q:k<1
 .exact eY (av rfl rfl rfl rfl (yy q))
 .exact bM (av rfl rfl rfl rfl (lU q)) (eY (av rfl (wr b sh rfl) rfl rfl (uG (h.resolve_left q))))
theorem Ea {t:xl} (b:Bk σ n S) (sh:S.made.length<=1000) (he:Ev K e ρ σ (.p n 0)) (h:Ev K a ρ σ (.d (sF t))):(bm a9 (cQ e 3) (aj a az)).ev K ρ σ=some (.ok (.d .none),σ.set n (bk {S with made:=S.made++[t]})):=by
 have q:=cU (u6 b he) h (lZ (j:=3) b rfl) (by rw[Sk];exact ee sh);rw[nt b (S':={S with made:=S.made++[t]}) (by simp only [oR,List.map_append];rfl)] at q;exact q
theorem BG {t:List Nat} (b:Bk σ n S) (sh:S.names.length<=1000) (he:Ev K e ρ σ (.p n 0)) (h:Ev K a ρ σ (.d (.str t))):(bm a9 (cQ e 1) (aj a az)).ev K ρ σ=some (.ok (.d .none),σ.set n (bk {S with names:=S.names++[t]})):=by
 have q:=cU (kx b he) h (lZ (j:=1) b rfl) (by rw[Sk];exact ee sh);rw[nt b (S':={S with names:=S.names++[t]}) (by simp only [oR,List.map_append];rfl)] at q;exact q
theorem E4 (b:Bk σ n S) (sh:S.ends.length<=1000) (he:Ev K e ρ σ (.p n 0)) (h:Ev K a ρ σ (.d (.int t))):(bm a9 (cQ e 5) (aj a az)).ev K ρ σ=some (.ok (.d .none),σ.set n (bk {S with ends:=S.ends++[t]})):=by
 have q:=cU (pH b he) h (lZ (j:=5) b rfl) (by rw[Sk];exact ee sh);rw[nt b (S':={S with ends:=S.ends++[t]}) (by simp only [oR,List.map_append];rfl)] at q;exact q
theorem iB {x:D} (b:Bk σ n S) (sh:S.deeds.length<=1000) (he:Ev K e ρ σ (.p n 0)) (h:Ev K a ρ σ (.d x)):(bm a9 (cQ e 6) (aj a az)).ev K ρ σ=some (.ok (.d .none),σ.set n (bk {S with deeds:=S.deeds++[x]})):=by
 have q:=cU (FM b he) h (lZ (j:=6) b rfl) (ee sh);rw[nt b (S':={S with deeds:=S.deeds++[x]}) rfl] at q;exact q
theorem nQ {day back:Int} (b:Bk σ n S) (sh:S.made.length<=1000):CC (d+1) hd 7 [.p n 0,.d (.int day),.d (.str note),.d (.tup (ls.map bI)),.d (.int back)] σ=some (.ok (.d (.int (S.made.length+1))),σ.set n (bk {S with made:=S.made++[⟨S.made.length+1,day,note,ls,back⟩]})):=
 bf rfl rfl rfl (aa (aA (aX (ta b sh rfl) rfl rfl rfl rfl) rfl) (aa (aK (Ea (t:=⟨S.made.length+1,day,note,ls,back⟩) b sh rfl (bZ rfl))) rfl)) iM
end
noncomputable def mi (a:List Nat):D:=.tup [.str TD,.str a]
noncomputable def fU (n:Int):D:=.tup [.str Tz,.int n]
noncomputable def sT (c:List Nat) (n t b:Int):D:=.tup [.str TA,.str c,.int n,.int t,.int b]
noncomputable def kg (n:Int) (note:List Nat) (ls:List cw):D:=.tup [.str Ty,.int n,.str note,.tup (ls.map bI)]
noncomputable def pD (n:Int) (note g one:List Nat) (a:Int) (t aM:List Nat):D:=.tup [.str TB,.int n,.str note,.str g,.str one,.int a,.str t,.str aM]
noncomputable def told (S:St) (c:List Nat) (n t b:Int) (ks vs:List D):St:={S with tk:=eV (.str c) S.tk,tv:=eU (.str c) (.dct (eV (.int n) ks) (eU (.int n) (.tup [.int t,.int b]) ks vs)) S.tk S.tv,deeds:=S.deeds++[sT c n t b]}
noncomputable def mh (S:St) (a:List Nat):St:={S with names:=S.names++[a],deeds:=S.deeds++[mi a]}
noncomputable def t_ (S:St) (t:Int) (note:List Nat) (ls:List cw):St:={S with made:=S.made++[⟨S.made.length+1,t,note,ls,0⟩],deeds:=S.deeds++[kg t note ls]}
noncomputable def AM (S:St) (t:Int):St:={S with ends:=S.ends++[t],deeds:=S.deeds++[fU t]}
section
variable {o:PO} {l:aE}
theorem vo {o:PO}:((σ.set n o').set n o).take σ.length=σ.set n o:=by rw[List.set_set];exact iM
theorem nc {a:List Nat} (b:Bk σ n S) (sh:Sh S) (h:j3 a) (hn:a∉S.names):CC (d+2) false 37 [.p n 0,.d (.str a)] σ=some (.ok (.d .none),σ.set n (bk (mh S a))):=
 eq rfl rfl (ρ:=[qV n,sV a]) rfl (aa (a' (jm (dT (eI (q7 h) rfl))) rfl) (aa (a' (av rfl (kx b rfl) rfl (mH b) (wC hn)) rfl) (aa (aK (BG b sh.n rfl rfl)) (aa (aK (iB (S:={S with names:=S.names++[a]}) (fx b.lt) sh.d rfl (bZ rfl))) rfl)))) vo
theorem wY (b:Bk σ n S) (sh:Sh S) (h:bW t) (hc:cl S.ends<t) (hl:S.ends.length<=900):CC (d+3) false 11 [.p n 0,.d (.int t)] σ=some (.ok (.d (.int (S.ends.length+1))),σ.set n (bk (AM S t))):=by
 have q:=iY (K:=KK (d+2) false) (ρ:=[qV n,iV t]) (σ:=(σ.set n (bk {S with ends:=S.ends++[t]})).set n (bk {S with ends:=S.ends++[t],deeds:=S.deeds++[fU t]})) (e:=cQ (ag 0) 5) (x:=.p n 7) (l:=(S.ends++[t]).map .int) (pH (S:={S with ends:=S.ends++[t],deeds:=S.deeds++[fU t]}) (fx (by rw[SO];exact b.lt)) rfl) (t6 (S:={S with ends:=S.ends++[t],deeds:=S.deeds++[fU t]}) (fx (by rw[SO];exact b.lt))) (by rw[Sk,Sn,Sw];exact Sv (Tl hl) (Sr rfl));rw[Sk,Sn] at q;exact bf rfl rfl (ρ:=[qV n,iV t]) rfl (aa (aK (bq b rfl rfl (fF b sh h hc))) (aa (aK (E4 b sh.e rfl rfl)) (aa (aK (iB (S:={S with ends:=S.ends++[t]}) (fx b.lt) sh.d rfl (bZ rfl))) (aW (aU q))))) vo
theorem Fn (b:Bk σ n S) (h:CC (d+2) false 4 [.p n 0,.d (.int t)] σ=some (.ex c,σ)):CC (d+3) false 11 [.p n 0,.d (.int t)] σ=some (.ex c,σ):=
 bR rfl rfl rfl (aY (cG (bq b rfl (cl1 rfl) h))) (tk _)
theorem nM {k:D} (h:kZ k ks=true):ks.all wJ=true:=by
 have h:((KE k&&ks.all KE)||(B7 k&&ks.all B7))=true:=h;refine List.all_eq_true.mpr fun x hx=> ?_;rcases (Bool.or_eq_true _ _).mp h with z|z
 .have:=List.all_eq_true.mp (aq z) x hx;cases x<;>first|rfl|cases this
 .have:=List.all_eq_true.mp (aq z) x hx;cases x<;>first|rfl|cases this
theorem HL (h:Ev K a ρ σ (.d (.dct ks vs))) (hl:ks.length<=100000) (hf:ks.all wJ=true):(bi AI (aj a az)).ev K ρ σ=some (.ok (.p σ.length 0),σ++[.fld (.dict ks vs)]):=by
 refine cC (cl1 h) ?_;show ((ax (ks.length<=100000/\ks.all wJ=true) ()).bind fun _=>jo (.fld (.dict ks vs)) σ)=_;rw[aO ⟨hl,hf⟩];rfl
theorem Ge {c:List Nat} {u v:Int} (b:Bk σ n S) (sh:Sh S) (hc:aZ c=true) (hn:bW t) (hk:cl S.ends<t) (hh:c≠S.home) (ht:1<=u/\u<=10^9) (hb:1<=v/\v<=10^9) (e:(e_ (.str c) S.tk S.tv).getD (.dct [] [])= .dct ks vs) (f1:kZ (.str c) S.tk=true) (f2:kZ (.int t) ks=true) (l1:ks.length<1000):
  CC (d+3) false 6 [.p n 0,.d (.str c),.d (.int t),.d (.int u),.d (.int v)] σ=some (.ok (.d .none),σ.set n (bk (told S c t u v ks vs))):=by
 have g:=zi (K:=KK (d+2) false) (ρ:=[qV n,sV c,iV t,iV u,iV v,none]) (σ:=σ) (o:=cQ (ag 0) 2) (x:=.p n 4) (a:=ag 1) (b:=AN) (ks:=S.tk) (vs:=S.tv) (k:=.str c) (z:=.dct [] []) (u5 b rfl) (zX b) rfl rfl f1;rw[e] at g;have s1:=mF (σ:=σ++[.fld (.dict ks vs)]) (n:=σ.length) (j:=0) (k:=.int t) (v:=.tup [.int u,.int v]) dK (tX (vs:=vs) f2 (Sv l1 (Sr rfl)));rw[gY] at s1;have b':Bk (σ++[.dead]) n S:=b.app;have s2:=mF (σ:=σ++[.dead]) (n:=n) (j:=4) (k:=.str c) (v:=.dct (eV (.int t) ks) (eU (.int t) (.tup [.int u,.int v]) ks vs)) (lZ (j:=2) b' rfl) (tX (vs:=S.tv) f1 (by have:=sh.t;exact SM this (Sr rfl)));rw[nt (j:=2) b' (S':={S with tk:=eV (.str c) S.tk,tv:=eU (.str c) (.dct (eV (.int t) ks) (eU (.int t) (.tup [.int u,.int v]) ks vs)) S.tk S.tv}) rfl] at s2;refine eq rfl rfl (ρ:=[qV n,sV c,iV t,iV u,iV v,none]) rfl (aa (aK (aB (cl1 rfl) (b8 hc))) (aa (aK (bq b rfl rfl (fF b sh hn hk))) (aa (a' (bz (bM (av rfl (m8 b rfl) rfl rfl (fX hh)) (bM (iL (tO rfl rfl rfl rfl rfl rfl (yD ht.1) (yD ht.2))) (bM (iL (tO rfl rfl rfl rfl rfl rfl (yD hb.1) (yD hb.2))) rfl)))) rfl) (aa (aA (HL g (Sv (S3 l1) (Sr rfl)) (nM f2)) rfl)
  (aa (iN (bZ rfl) rfl rfl s1) (pw rfl (pz rfl) (aa (iN rfl (u5 b' rfl) rfl s2) (aa (aK (iB (S:={S with tk:=eV (.str c) S.tk,tv:=eU (.str c) (.dct (eV (.int t) ks) (eU (.int t) (.tup [.int u,.int v]) ks vs)) S.tk S.tv}) (fx b'.lt) sh.d rfl (bZ rfl))) rfl)))))))) ?_
 rw[List.set_set,Go b.lt];exact xt
theorem Db {c:List Nat} {a1 a3:PV} (hl:c.length<=1000) (hc:aZ c=false):CC (d+3) false 6 [.p n 0,.d (.str c),a1,a2,a3] σ=some (.ex 2,σ):=
 bR rfl rfl rfl (aY (cG (eI (oh hl hc) rfl))) (tk _)
theorem Gf {c:List Nat} {a3:PV} (b:Bk σ n S) (hc:aZ c=true) (h:CC (d+2) false 4 [.p n 0,.d (.int t)] σ=some (.ex k,σ)):CC (d+3) false 6 [.p n 0,.d (.str c),.d (.int t),a2,a3] σ=some (.ex k,σ):=
 bR rfl rfl rfl (aa (aK (aB (cl1 rfl) (b8 hc))) (aY (cG (bq b rfl (cl1 rfl) h)))) (tk _)
theorem nK {a:Int} {b:Bool} (h:c8 a=b):CC (d+1) hd 12 [.d (.int a)] σ=some (.ok (.d (.bool b)),σ):=h ▸ so
structure zI (S:St) (l:cw):Prop where
 n:l.1∈S.names
 c:aZ l.2.1=true
 a:c8 l.2.2=true
theorem Ha {x:cw} (b:Bk σ n S) (h:zI S x):CC (d+2) false 19 [.p n 0,.d (bI x)] σ=some (.ok (.d .none),σ):=
 eq rfl rfl (ρ:=[qV n,dV (bI x)]) rfl (aa (aK (bq b rfl rfl (fD b h.n))) (aa (aK (aB rfl (b8 h.c))) (aa (a' (jm (dT (aB rfl (nK h.a)))) rfl) rfl))) (tk _)
theorem yB (b:Bk σ n S) (h:∀ l∈ls,zI S l):∀ {m note o4:PV} {o:Option PV},∃ o',fe (.d v) v 4 (fun ρ=>(sC (bg (meth (ag 0) 19 (aj (ag 4) az))) sN).ex (KK (d+2) false) ρ) (ls.map bI) [qV n,some m,some note,some o4,o,none,none] σ=some (.next [qV n,some m,some note,some o4,o',none,none],σ):=by
 induction ls with
 |nil=>exact ⟨_,rfl⟩
 |cons l ls ih=>
  intro m note o4 o;obtain ⟨o',e⟩:=ih (fun x hx=>h x (.tail _ hx)) (m:=m) (note:=note) (o4:=o4) (o:=dV (bI l));exact ⟨o',cB (aa (aK (bq b rfl (cl1 rfl) (Ha b (h l (.head _))))) rfl) rfl e⟩
theorem GG (b:Bk σ n S) (sh:Sh S) (hn:bW t) (hk:cl S.ends<t) (ht:dF note) (hl:2<=ls.length/\ls.length<=60) (h:∀ l∈ls,zI S l) (hb:CC (d+2) false 18 [.d (.lst (ls.map bI))] σ=some (.ok (.d (.bool true)),σ)):
  CC (d+3) false 20 [.p n 0,.d (.int t),.d (.str note),.d (.lst (ls.map bI))] σ=some (.ok (.d (.int (S.made.length+1))),σ.set n (bk (t_ S t note ls))):=by
 obtain ⟨o',lp⟩:=yB (d:=d) (v:=.lst (ls.map bI)) b h (m:=.d (.int t)) (note:=.d (.str note)) (o4:=.d (.lst (ls.map bI))) (o:=none);have hlen:(ls.map bI).length=ls.length:=Sk ..;have ll:Ev (KK (d+2) false) (bi ba (aj (ag 3) az)) [qV n,iV t,sV note,dV (.lst (ls.map bI)),none,none,none] σ (.d (.int ls.length)):=by
  have e:=li (hd:=false) (σ:=σ) (x:=.d (.lst (ls.map bI))) rfl (by rw[hlen];exact co (PL hl));rw[hlen] at e;exact cC rfl e
 have it:items (.lst (ls.map bI))=some (ls.map bI):=if_pos (by rw[hlen];exact co (PL hl));refine bf rfl rfl (ρ:=[qV n,iV t,sV note,dV (.lst (ls.map bI)),none,none,none]) rfl ?_ (vo (o':=bk {S with deeds:=S.deeds++[kg t note ls]}));refine aa (aK (bq b rfl rfl (fF b sh hn hk))) ?_;refine aa (aK (aB rfl (eZ ht))) ?_;refine aa (a' (bz (bM (av ll rfl rfl rfl (lU (Tp.mpr (SZ.mpr hl.1)))) (bM (av ll rfl rfl rfl (oO (Tp.mpr (SZ.mpr hl.2)))) rfl))) rfl) ?_;refine aa (dp rfl (j2 it) lp) ?_;refine aa (a' (jm (dT (aB (cl1 rfl) hb))) rfl) ?_;have kept:Ev (KK (d+2) false) (bi jb (aj (nC false (iF 6 (ag 3) dJ (cb (aj (sub (ag 6) (ai 0)) (aj (sub (ag 6) (ai 1)) (aj (sub (ag 6) (ai 2)) az)))))) az)) [qV n,iV t,sV note,dV (.lst (ls.map bI)),o',none,none] σ (.d (.tup (ls.map bI))):=by
  refine cC (cl1 (mX (fN rfl (j2 it) (gO bI bI ls [] (fun l hl=>bZ rfl) (by rw[Te];exact Qp hl))))) ?_;show (ax ((ls.map bI).length<=dZ) (D.tup (ls.map bI))).map _=_;rw[aO (by rw[hlen];exact co (PL hl))];rfl
 refine aa (aA kept rfl) ?_;refine aa (aK (iB b sh.d rfl (bZ rfl))) ?_;exact aW (aU (bq (S:={S with deeds:=S.deeds++[kg t note ls]}) (fx b.lt) rfl rfl (nQ (S:={S with deeds:=S.deeds++[kg t note ls]}) (fx b.lt) sh.m)))
theorem GH {a1:PV} (b:Bk σ n S) (h:CC (d+2) false 4 [.p n 0,.d (.int t)] σ=some (.ex k,σ)):CC (d+3) false 20 [.p n 0,.d (.int t),a1,a2] σ=some (.ex k,σ):=
 bR rfl rfl rfl (aY (cG (bq b rfl (cl1 rfl) h))) (tk _)
end
structure xg (S:St) (rs:List Rw) (m:List (List Nat×D)):Prop where
 k:S.tk=m.map fun x=>.str x.1
 v:S.tv=m.map (·.2)
 d:∀ c,∃ l:List (Int×D),(g7 c m).getD (.dct [] [])=Cp l/\CQ c rs l/\l.length<=rs.length
 ml:m.length<=rs.length
section
variable {n:Int} {c:List Nat} {m:List (List Nat×D)}
theorem vq (T:xg S rs m) (sh:Sh S) (hc:aZ c=true) (hn:bW n) (hk:cl S.ends<n) (hh:c≠S.home) (ht:1<=t/\t<=10^9) (hb:1<=b/\b<=10^9) (hr:rs.length<=900):
  ∃ ks vs m',xg (told S c n t b ks vs) (rs++[(c,n,t,b)]) m'/\∀ d σ i,Bk σ i S->CC (d+3) false 6 [.p i 0,.d (.str c),.d (.int n),.d (.int t),.d (.int b)] σ=some (.ok (.d .none),σ.set i (bk (told S c n t b ks vs))):=by
 obtain ⟨l,e,W,hl⟩:=T.d c;have e':(e_ (.str c) S.tk S.tv).getD (.dct [] [])= .dct (l.map fun x=>.int x.1) (l.map (·.2)):=by rw[T.k,T.v,mS on];exact e
 refine ⟨l.map fun x=>.int x.1,l.map (·.2),jy c (Cp (jy n (Gh (c,n,t,b)) l)) m,⟨?_,?_,fun c'=> ?_,?_⟩,fun d σ i q=>Ge q sh hc hn hk hh ht hb e' (by rw[T.k];exact nN (·.1) m) (rt (·.1) l) (by rw[Sk];exact SM hl (SM hr (Sr rfl)))⟩
 .show eV (.str c) S.tk=_;rw[T.k];exact xN on c _ m
 .show eU (.str c) (.dct (eV (.int n) (l.map fun x=>.int x.1)) (eU (.int n) (.tup [.int t,.int b]) (l.map fun x=>.int x.1) (l.map (·.2)))) S.tk S.tv=_;rw[T.k,T.v,xN Er n (.tup [.int t,.int b]) l,xM Er n (.tup [.int t,.int b]) l];exact xM on c _ m
 .rw[mR];by_cases q:c'=c
  .rw[if_pos q,q];exact ⟨_,rfl,Co (x:=(c,n,t,b)) W rfl,by rw[Sn];exact Sv (uz l) (Nat.add_le_add_right hl 1)⟩
  .rw[if_neg q];obtain ⟨l',e1,D1,h1⟩:=T.d c';exact ⟨l',e1,zq D1 fun z=>q z.symm,by rw[Sn];exact Nat.le_add_right_of_le h1⟩
 .rw[Sn];exact Sv (uz m) (Nat.add_le_add_right T.ml 1)
theorem pZ (B:Bk σ i S) (T:xg S rs m) (hc:aZ c=true) (hn:bW n) (hh:c≠S.home) (hr:rs.length<=900):CC (d+2) false 14 [.p i 0,.d (.str c),.d (.int n)] σ=some (IE (k8 c n rs),σ):=by
 obtain ⟨l,e,W,hl⟩:=T.d c;have g:=zi (K:=KK (d+1) false) (ρ:=[qV i,sV c,iV n,none,none,none]) (σ:=σ) (o:=cQ (ag 0) 2) (x:=.p i 4) (a:=ag 1) (b:=AN) (ks:=S.tk) (vs:=S.tv) (k:=.str c) (z:=.dct [] []) (u5 B rfl) (zX B) rfl rfl (by rw[T.k];exact nN (·.1) m);rw[T.k,T.v,mS on,e] at g;have it:items (Cp l)=some (l.map fun x=>.int x.1):=if_pos ⟨by rw[Sk];exact Sv hl (Sv hr (Sr rfl)),nM (rt (c:=0) (·.1) l)⟩;have cm:(zV false 4 5 (ag 3) (qd (a8 F3 (ag 5) (ag 2))) (ag 5)).ex (KK (d+1) false) [qV i,sV c,iV n,dV (Cp l),none,none] σ=some (.next [qV i,sV c,iV n,dV (Cp l),dV (.lst (((l.filter fun x=>decide (x.1<=n)).map (·.1)).map .int)),none],σ):=by
  refine vG (nT rfl (j2 it) (ki rfl (fun x:Int×D=>D.int x.1) (fun x=>.int x.1) (fun x=>decide (x.1<=n)) l [] (fun x _=>rfl) (fun x _ _=>rfl) (by rw[Te];exact Rq hr hl)) rfl) ?_;rw[List.map_map];rfl
 have ll:∀ k:List Int,k.length<=1000->ba.g false [.d (.lst (k.map D.int))] σ=some (.ok (.d (.int k.length)),σ):=fun k hk=>by
  have:=li (hd:=false) (σ:=σ) (x:=.d (.lst (k.map D.int))) rfl (by rw[Sk];exact co hk);rw[Sk] at this;exact this
 have kl:((l.filter fun x=>decide (x.1<=n)).map (·.1)).length<=1000:=by
  rw[Sk];have:=List.length_filter_le (fun x:Int×D=>decide (x.1<=n)) l;exact Ro hr hl this
 have mem:∀ k,k∈(l.filter fun x=>decide (x.1<=n)).map (·.1)<->k∈l.map (·.1)/\k<=n:=fun k=>by
  constructor
  .intro h;obtain ⟨x,hx,e⟩:=SD.mp h;obtain ⟨h1,h2⟩:=List.mem_filter.mp hx;subst e;exact ⟨List.mem_map_of_mem h1,S6 h2⟩
  .rintro ⟨h1,h2⟩;obtain ⟨x,hx,e⟩:=SD.mp h1;subst e;exact SD.mpr ⟨x,List.mem_filter.mpr ⟨hx,SC h2⟩,rfl⟩
 generalize (l.filter fun x=>decide (x.1<=n)).map (·.1)=kn at cm kl mem;have pre:∀ z,(sC (du (a8 fh (bi ba (aj (ag 4) az)) (ai 0)) (sC (ci 13 [110,111,32,114,97,116,101,32,102,111,114,32,116,104,105,115,32,100,97,121]) sN) sN) (sC (bc (sub (ag 3) (bi ET (aj (ag 4) az)))) sN)).ex (KK (d+1) false) [qV i,sV c,iV n,dV (Cp l),dV (.lst (kn.map .int)),none] σ=z->AW.ex (KK (d+1) false) [qV i,sV c,iV n,none,none,none] σ=z:=fun z h=>
  aa (aK (aB (cl1 rfl) (b8 hc))) (aa (aK (aB (cl1 rfl) (g6 hn))) (aa (a' (av rfl (m8 B rfl) rfl rfl (fX hh)) rfl) (aa (aA g rfl) (aa cm h))))
 cases q:k8 c n rs with
 |none=>
  have:kn=[]:=List.eq_nil_iff_forall_not_mem.mpr fun k hk=>by
   have:=W.no n q k ((mem k).mp hk).1;have:=((mem k).mp hk).2;exact Qo (by assumption) this
  subst this;exact bR rfl rfl rfl (pre _ rfl) (tk _)
 |some y=>
  have Y:=W.yes n y q;have hm:y.2.1∈kn:=(mem _).mpr ⟨Y.m,Y.le⟩;have hp:0<kn.length:=List.length_pos_of_mem hm;refine bf rfl rfl rfl (pre _ (aa (a' (av (cC (cl1 rfl) (ll kn kl)) rfl rfl rfl (wQ (Int.natCast_ne_zero_iff_pos.mpr hp))) rfl) (aW (aU (bQ rfl (cC (cl1 rfl) (J5 hm fun a ha=>Y.mx a ((mem a).mp ha).1 ((mem a).mp ha).2)) rfl rfl ?_))))) (tk _);show (ax (kZ (.int y.2.1) (l.map fun x=>.int x.1)=true) ()).bind (fun _=>e_ (.int y.2.1) (l.map fun x=>.int x.1) (l.map (·.2)))=_;rw[aO (rt (·.1) l),mS Er];exact Y.at_
theorem nk (B:Bk σ i S) (hc:aZ S.home=true) (hn:bW n):CC (d+2) false 14 [.p i 0,.d (.str S.home),.d (.int n)] σ=some (.ok (.d (.tup [.int 1,.int 1])),σ):=
 bf rfl rfl rfl (aa (aK (aB (cl1 rfl) (b8 hc))) (aa (aK (aB rfl (g6 hn))) (aW (bo (av rfl (m8 B rfl) rfl rfl (iA rfl)) rfl)))) (tk _)
theorem vM (B:Bk σ i S) (T:xg S rs m) (hh:aZ S.home=true) (hc:aZ c=true) (hn:bW n) (hr:rs.length<=900):CC (d+2) false 14 [.p i 0,.d (.str c),.d (.int n)] σ=some (IE (hW S.home rs c n),σ):=by
 unfold hW;by_cases q:c=S.home
 .rw[if_pos q,q];exact nk B hh hn
 .rw[if_neg q];exact pZ B T hc hn q hr
noncomputable def AR (S:St) (n:Int) (note gv one:List Nat) (a:Int) (tk' aM:List Nat) (g:Int):St:={S with made:=S.made++[⟨S.made.length+1,n,note,[(gv,one,-a),(bw,one,a),(bw,aM,-g),(tk',aM,g)],0⟩],deeds:=S.deeds++[pD n note gv one a tk' aM]}
theorem zx {a g t1 b1 t2 b2:Int} {note gv one tk' aM:List Nat} (B:Bk σ i S) (sh:Sh S) (hn:bW n) (hk:cl S.ends<n) (ht:dF note) (h1:gv∈S.names) (h2:tk'∈S.names) (c1:aZ one=true) (c2:aZ aM=true) (ne:one≠aM) (ha:1<=a) (ha2:c8 a=true)
  (r1:CC (d+2) false 14 [.p i 0,.d (.str one),.d (.int n)] σ=some (.ok (.d (.tup [.int t1,.int b1])),σ)) (r2:CC (d+2) false 14 [.p i 0,.d (.str aM),.d (.int n)] σ=some (.ok (.d (.tup [.int t2,.int b2])),σ))
  (q1:1<=t1/\t1<=10^9) (q2:1<=b1/\b1<=10^9) (q3:1<=t2/\t2<=10^9) (q4:1<=b2/\b2<=10^9) (eg:Ld a t1 b1 t2 b2=g) (hg:g≠0) (hg2:c8 g=true):
  CC (d+3) false 17 [.p i 0,.d (.int n),.d (.str note),.d (.str gv),.d (.str one),.d (.int a),.d (.str tk'),.d (.str aM)] σ=some (.ok (.d (.int (S.made.length+1))),σ.set i (bk (AR S n note gv one a tk' aM g))):=by
 have hc:=oz (d:=d+1) (hd:=false) (σ:=σ) (a:=a) q1 q2 q3 q4;rw[eg] at hc;refine bf rfl rfl (ρ:=[qV i,iV n,sV note,sV gv,sV one,iV a,sV tk',sV aM,none,none]) rfl ?_ (vo (o':=bk {S with deeds:=S.deeds++[pD n note gv one a tk' aM]}));refine aa (aK (bq B rfl (cl1 rfl) (fF B sh hn hk))) ?_;refine aa (aK (aB rfl (eZ ht))) ?_;refine aa (aK (bq B rfl rfl (fD B h1))) ?_;refine aa (aK (bq B rfl rfl (fD B h2))) ?_;refine aa (aK (aB (cl1 rfl) (b8 c1))) ?_;refine aa (aK (aB (cl1 rfl) (b8 c2))) ?_;refine aa (a' (av rfl rfl rfl rfl (fX ne)) rfl) ?_;refine aa (a' (bz (bM (av rfl rfl rfl rfl (lU (Tp.mpr ha))) (bM (jm (dT (aB (cl1 rfl) (nK ha2)))) rfl))) rfl) ?_;refine aa (aA (aB (cW rfl (cW (bq B rfl rfl r1) (cl1 (bq B rfl rfl r2)))) hc) rfl) ?_;refine aa (a' (tF hg rfl) rfl) ?_;refine aa (a' (jm (dT (aB (cl1 rfl) (nK hg2)))) rfl) ?_;refine aa rfl ?_;refine aa (aK (iB B sh.d rfl (bZ rfl))) ?_;exact aW (aU (bq (S:={S with deeds:=S.deeds++[pD n note gv one a tk' aM]}) (fx B.lt) rfl rfl (nQ (S:={S with deeds:=S.deeds++[pD n note gv one a tk' aM]}) (ls:=[(gv,one,-a),(bw,one,a),(bw,aM,-g),(tk',aM,g)]) (fx B.lt) sh.m)))
end
noncomputable def cp (c:List Nat) (ls:List cw):Int:=((ls.filter fun l=>decide (l.2.1=c)).map fun l=>l.2.2).sum
theorem wW {c:List Nat} {l:cw}:cp c (ls++[l])=cp c ls+(if l.2.1=c then l.2.2 else 0):=by
 unfold cp;rw[List.filter_append,List.map_append,List.sum_append];by_cases q:l.2.1=c
 .rw[if_pos q,ST (p:=fun l:cw=>decide (l.2.1=c)) (SC q)];show _+(l.2.2+0)=_;rw[Int.add_zero]
 .rw[if_neg q,List.filter_cons_of_neg (p:=fun l:cw=>decide (l.2.1=c)) (by rw[decide_eq_true_eq];exact q)];rfl
structure Ih (ls:List cw) (m:List (List Nat×D)):Prop where
 v:∀ c,(g7 c m).getD (.int 0)= .int (cp c ls)
 l:m.length<=ls.length
section
variable {l:cw} {m:List (List Nat×D)} {o:Option PV}
theorem BZ [DecidableEq α] {x:α×D}:∀ {m:List (α×D)},x∈m->∃ w,g7 x.1 m=some w:=by
 intro m
 induction m with
 |nil=>
  intro h;exact absurd h SI
 |cons y m ih=>
  intro h;show ∃ w,(if y.1=x.1 then some y.2 else g7 x.1 m)=some w;by_cases q:y.1=x.1
  .exact ⟨_,if_pos q⟩
  .rcases Sm.mp h with z|z
   .exact absurd (by rw[z]) q
   .obtain ⟨w,e⟩:=ih z;exact ⟨w,(if_neg q).trans e⟩
theorem FG (T:Ih ls m) (hl:ls.length<=1000):∃ m',Ih (ls++[l]) m'/\(sC (oG (ag 1) (sub (ag 2) (ai 1)) (aJ aH (bm BJ (ag 1) (aj (sub (ag 2) (ai 1)) (aj (ai 0) az))) (sub (ag 2) (ai 2)))) sN).ex K [dV v,qV σ.length,dV (bI l),o] (σ++[.fld (.dict (m.map fun x=>.str x.1) (m.map (·.2)))])=some (.next [dV v,qV σ.length,dV (bI l),o],σ++[.fld (.dict (m'.map fun x=>.str x.1) (m'.map (·.2)))]):=by
 have e1:Ev K (sub (ag 2) (ai 1)) [dV v,qV σ.length,dV (bI l),o] (σ++[.fld (.dict (m.map fun x=>.str x.1) (m.map (·.2)))]) (.d (.str l.2.1)):=rfl;have g:=zi (K:=K) (ρ:=[dV v,qV σ.length,dV (bI l),o]) (σ:=σ++[.fld (.dict (m.map fun x=>.str x.1) (m.map (·.2)))]) (o:=ag 1) (a:=sub (ag 2) (ai 1)) (b:=ai 0) (z:=.int 0) rfl (jJ rfl) e1 rfl (nN (·.1) m);rw[mS on,T.v] at g;have s1:=mF (σ:=σ++[.fld (.dict (m.map fun x=>.str x.1) (m.map (·.2)))]) (n:=σ.length) (j:=0) (k:=.str l.2.1) (v:=.int (cp l.2.1 ls+l.2.2)) dK (tX (vs:=m.map (·.2)) (nN (·.1) m) (by rw[Sk];have:=T.l;exact SM this (SM hl (Sr rfl))));rw[gY,xN on l.2.1 (.int (cp l.2.1 ls+l.2.2)) m,xM on l.2.1 (.int (cp l.2.1 ls+l.2.2)) m] at s1;refine ⟨jy l.2.1 (.int (cp l.2.1 ls+l.2.2)) m,⟨fun c=> ?_,?_⟩,aa (iN (aX g rfl rfl rfl rfl) rfl e1 s1) rfl⟩
 .rw[mR,wW];by_cases q:c=l.2.1
  .rw[if_pos q,if_pos q.symm,q];rfl
  .rw[if_neg q,if_neg fun z=>q z.symm,Int.add_zero];exact T.v c
 .rw[Sn];exact Sv (uz m) (Nat.add_le_add_right T.l 1)
theorem FH:∀ (ms ls:List cw) (m:List (List Nat×D)) (o2:Option PV),Ih ls m->ls.length+ms.length<=1000->∃ m' o2',Ih (ls++ms) m'/\fe (.d v) v 2 (fun ρ=>(sC (oG (ag 1) (sub (ag 2) (ai 1)) (aJ aH (bm BJ (ag 1) (aj (sub (ag 2) (ai 1)) (aj (ai 0) az))) (sub (ag 2) (ai 2)))) sN).ex K ρ) (ms.map bI) [dV v,qV σ.length,o2,none] (σ++[.fld (.dict (m.map fun x=>.str x.1) (m.map (·.2)))])=some (.next [dV v,qV σ.length,o2',none],σ++[.fld (.dict (m'.map fun x=>.str x.1) (m'.map (·.2)))]):=by
 intro ms
 induction ms with
 |nil=>
  intro ls m o2 T _;exact ⟨m,o2,by rw[List.append_nil];exact T,rfl⟩
 |cons l ms ih=>
  intro ls m o2 T h;rw[Ss] at h;obtain ⟨m1,T1,e1⟩:=FG (K:=K) (σ:=σ) (v:=v) (o:=none) (l:=l) T (Nat.le_of_add_right_le h);obtain ⟨m2,o2',T2,e2⟩:=ih (ls++[l]) m1 (dV (bI l)) T1 (by rw[Sn,Sw];exact R_ h);exact ⟨m2,o2',by rw[List.append_cons];exact T2,cB e1 rfl e2⟩
theorem Lj (h:∀ c,cp c ls=0) (hl:ls.length<=900):CC (d+1) false 18 [.d (.lst (ls.map bI))] σ=some (.ok (.d (.bool true)),σ):=by
 obtain ⟨m,o2,T,lp⟩:=FH (K:=KK d false) (σ:=σ) (v:=.lst (ls.map bI)) ls [] [] none ⟨fun c=>rfl,Sy _⟩ (by rw[Te];exact Qn hl);rw[List.nil_append] at T;refine bf rfl rfl (ρ:=[dV (.lst (ls.map bI)),none,none,none]) rfl ?_ (Iw σ [.dead]);refine aa rfl ?_;refine aa (dp rfl (j2 (if_pos (by rw[Sk];exact co (Rn hl)))) lp) ?_;refine pw rfl (pz rfl) (aW (aU ?_));have e:=IW (σ:=σ++[.dead]) (fun _:List Nat×D=>true) m;rw[show (m.all fun _=>true)=true from List.all_eq_true.mpr fun _ _=>rfl] at e;refine cC (cl1 (mX (fN rfl (j2 (if_pos ⟨by rw[Sk];have:=T.l;exact Sv this (Sv hl (Sr rfl)),nM (nN (c:=[]) (·.1) m)⟩)) (gO (fun x:List Nat×D=>.str x.1) (fun _=>.bool true) m [] (fun x hx=> ?_) (by rw[Te];have:=T.l;exact Rq hl this))))) e;obtain ⟨w,hw⟩:=BZ hx;have tv:=T.v x.1;rw[hw,h] at tv;refine nP (bQ rfl rfl rfl rfl (z:=.int 0) ?_) rfl rfl rfl (k7 rfl);show (ax (kZ (.str x.1) (m.map fun x=>.str x.1)=true) ()).bind (fun _=>e_ (.str x.1) (m.map fun x=>.str x.1) (m.map (·.2)))=_;rw[aO (nN (·.1) m),Sl,mS on,hw];exact congrArg some tv
theorem Eh {n:Int}:∀ g:List Int,(e_ (.int n) (g.map .int) (g.map fun _=>.bool true)).isSome=decide (n∈g):=by
 intro g
 induction g with
 |nil=>
  exact rfl
 |cons a g ih=>
  show (if fb (.int a) (.int n)=true then some (D.bool true) else e_ (.int n) (g.map .int) (g.map fun _=>.bool true)).isSome=_;rw[Er];by_cases q:a=n
  .rw[if_pos (SC q),SC (by rw[q];exact .head _)];rfl
  .rw[if_neg (by rw[Tf q];exact SL),ih,Bool.eq_iff_iff,decide_eq_true_eq,decide_eq_true_eq,Sm];exact ⟨.inr,fun h=>h.resolve_left fun e=>q e.symm⟩
theorem GF {n:Int}:∀ g:List Int,n∉g->eV (.int n) (g.map .int)=(g++[n]).map .int/\eU (.int n) (.bool true) (g.map .int) (g.map fun _=>.bool true)=(g++[n]).map fun _=>.bool true:=by
 intro g
 induction g with
 |nil=>
  intro _;exact ⟨rfl,rfl⟩
 |cons a g ih=>
  intro h;have q:¬fb (.int a) (.int n)=true:=by rw[Er,decide_eq_true_eq];exact fun e=>h (by rw[e];exact .head _)
  obtain ⟨h1,h2⟩:=ih fun z=>h (.tail _ z);refine ⟨?_,?_⟩
  .show (if fb (.int a) (.int n)=true then _ else D.int a::eV (.int n) (g.map .int))=_;rw[if_neg q,h1];rfl
  .show (if fb (.int a) (.int n)=true then _ else D.bool true::eU (.int n) (.bool true) (g.map .int) (g.map fun _=>.bool true))=_;rw[if_neg q,h2];rfl
theorem Ho (B:Bk σ i S) (h0:Ev K e ρ σ (.p i 0)) (h:Ev K a ρ σ (.d (.int t))):Ts K (a8 M6 a (cQ e 4)) ρ σ (decide (t∈S.gone)):=by
 refine av h (AZ B h0) rfl (GE B) ?_;show ax (kZ (.int t) (S.gone.map .int)=true) _=_;rw[aO (rt (fun x=>x) _),Eh]
noncomputable def m7 (n day:Int):D:=.tup [.str TC,.int n,.int day]
noncomputable def fQ (l:cw):cw:=(l.1,l.2.1,-l.2.2)
noncomputable def FK (S:St) (k:Nat) (e:xl) (t:Int):St:={S with made:=S.made++[⟨S.made.length+1,t,e.note,e.lines.map fQ,k+1⟩],gone:=S.gone++[(k:Int)+1],deeds:=S.deeds++[m7 (k+1) t]}
theorem oy {e:xl} (B:Bk σ i S) (sh:Sh S) (h:S.made[k]? =some e) (h2:e.back=0) (hl:e.lines.length<=1000) (hg:((k:Int)+1)∉S.gone) (hn:bW t) (hk:cl S.ends<t):
  CC (d+3) false 9 [.p i 0,.d (.int (k+1)),.d (.int t)] σ=some (.ok (.d (.int (S.made.length+1))),σ.set i (bk (FK S k e t))):=by
 have g:=Ho (K:=KK (d+2) false) (ρ:=[qV i,iV (k+1),iV t,dV (sF e),none,none]) (e:=ag 0) (a:=ag 1) B rfl rfl;rw[Tf hg] at g;have lines:Ev (KK (d+2) false) (bi jb (aj (nC false (iF 5 (sub (ag 3) (ai 3)) dJ (cb (aj (sub (ag 5) (ai 0)) (aj (sub (ag 5) (ai 1)) (aj (neg (sub (ag 5) (ai 2))) az)))))) az)) [qV i,iV (k+1),iV t,dV (sF e),none,none] σ (.d (.tup ((e.lines.map fQ).map bI))):=by
  rw[List.map_map];refine cC (cl1 (mX (fN rfl rfl (gO bI (bI ∘ fQ) e.lines [] (fun l hl=>bZ rfl) (by rw[Te];exact Rm hl))))) ?_;show (ax ((e.lines.map (bI ∘ fQ)).length<=dZ) (D.tup (e.lines.map (bI ∘ fQ)))).map _=_;rw[aO (by rw[Sk];exact co hl)];rfl
 obtain ⟨p1,p2⟩:=GF S.gone hg;have s1:=mF (σ:=σ) (n:=i) (j:=6) (k:=.int (k+1)) (v:=.bool true) (lZ (j:=4) B rfl) (tX (rt (fun x=>x) S.gone) (by rw[Sk];have:=sh.g;exact SM this (Sr rfl)));rw[p1,p2,nt (j:=4) B (S':={S with gone:=S.gone++[(k:Int)+1]}) rfl] at s1;have B1:Bk (σ.set i (bk {S with gone:=S.gone++[(k:Int)+1]})) i {S with gone:=S.gone++[(k:Int)+1]}:=fx B.lt;refine bf rfl rfl (ρ:=[qV i,iV (k+1),iV t,none,none,none]) rfl ?_ (σ':=((σ.set i (bk {S with gone:=S.gone++[(k:Int)+1]})).set i (bk {S with gone:=S.gone++[(k:Int)+1],deeds:=S.deeds++[m7 (k+1) t]})).set i (bk (FK S k e t))) (by rw[List.set_set];exact vo);refine aa (aA (bq B rfl rfl (Ck B sh h)) rfl) ?_;refine aa (a' (bz (bM (av rfl rfl rfl rfl (D4 h2)) (bM g rfl))) rfl) ?_;refine aa (aK (bq B rfl rfl (fF B sh hn hk))) ?_;refine aa (aA lines rfl) ?_;refine aa (iN rfl (AZ B rfl) rfl s1) ?_;refine aa (aK (iB B1 sh.d rfl (bZ rfl))) ?_;exact aW (aU (bq (S:={S with gone:=S.gone++[(k:Int)+1],deeds:=S.deeds++[m7 (k+1) t]}) (fx B1.lt) rfl rfl (nQ (S:={S with gone:=S.gone++[(k:Int)+1],deeds:=S.deeds++[m7 (k+1) t]}) (ls:=e.lines.map fQ) (fx B1.lt) sh.m)))
end
noncomputable def tP:List Nat:=[110,111,98,111,100,121]
def QT (t:List Nat):Prop:=∀ k y,t.set k y≠tP
theorem zf {t:List Nat} (h:QT t):t≠tP:=fun e=>h t.length 0 (by rw[List.set_eq_of_length_le (Sy _)];exact e)
noncomputable def FO (q s:Int) (i:Nat):Nat:=eT.getD ((q+s*(i:Int)).fmod 36).toNat 0
theorem jk {q s:Int} {v:Nat} (hv:∀ j,j<36->eT.getD j 0=c->j=v) (h:FO q s i=c):(q+s*(i:Int)) % 36=v:=by
 have r:=aV (a:=q+s*(i:Int)) (b:=36) (by decide);have e:=hv _ (by omega) h;rw[Int.fmod_eq_emod_of_nonneg _ (by decide)] at e r;omega
theorem Ln {x:Nat} {q s:Int}:QT (x::(List.range m).map (FO q s)):=by
 intro k y h;have hl:=congrArg List.length h;rw[SO,Ss,Sk,List.length_range] at hl;have hm:m=5:=Nat.succ.inj hl;subst hm;have g:∀ i c,i<5->tP[i+1]? =some c->k≠i+1->FO q s i=c:=fun i c hi hc hk=>by
  rw[<-h,SS hk,List.getElem?_cons_succ,SE,List.getElem?_range hi] at hc;exact Tc hc
 by_cases z:k<=2
 .have e1:=jk (v:=14) (by decide) (g 2 111 (by decide) rfl (by omega));have e2:=jk (v:=3) (by decide) (g 3 100 (by decide) rfl (by omega));have e3:=jk (v:=24) (by decide) (g 4 121 (by decide) rfl (by omega));omega
 by_cases z3:k=3
 .have e1:=jk (v:=14) (by decide) (g 0 111 (by decide) rfl (by omega));have e2:=jk (v:=1) (by decide) (g 1 98 (by decide) rfl (by omega));have e3:=jk (v:=3) (by decide) (g 3 100 (by decide) rfl (by omega));omega
 .have e1:=jk (v:=14) (by decide) (g 0 111 (by decide) rfl (by omega));have e2:=jk (v:=1) (by decide) (g 1 98 (by decide) rfl (by omega));have e3:=jk (v:=14) (by decide) (g 2 111 (by decide) rfl (by omega));omega
structure Lu (T:List (List Nat)):Prop where
 nd:T.Nodup
 ne:bw∉T
 nm:∀ x∈T,j3 x
 st:tP∉T
noncomputable def st0 (h:List Nat):St:=⟨h,[bw],[],[],[],[],[],[]⟩
theorem Hv {v:PV} {x:D} {b:bj->aE->Option (Out×aE)} (Pr:Nat->bj->aE->Prop):∀ (n k:Nat) (ρ:bj) (σ:aE),Pr k ρ σ->(∀ j ρ σ,j<k+n->Pr j ρ σ->∃ ρ' σ',b (ρ.set i (iV (j:Nat))) σ=some (.next ρ',σ')/\bP σ' x v=true/\Pr (j+1) ρ' σ')->∃ ρ' σ',fe v x i b ((List.range' k n).map fun (j:Nat)=>.int j) ρ σ=some (.next ρ',σ')/\Pr (k+n) ρ' σ':=by
 intro n
 induction n with
 |zero=>
  intro k ρ σ h _;exact ⟨ρ,σ,rfl,h⟩
 |succ n ih=>
  intro k ρ σ h st;obtain ⟨ρ1,σ1,e1,s1,p1⟩:=st k ρ σ (by omega) h;obtain ⟨ρ2,σ2,e2,p2⟩:=ih (k+1) ρ1 σ1 p1 fun j ρ σ hj=>st j ρ σ (Rl hj);exact ⟨ρ2,σ2,cB e1 s1 e2,by rw[show k+(n+1)=k+1+n by exact PK];exact p2⟩
section
variable {n:Int}
theorem qi:∃ t,j3 t/\QT t/\CC (d+1) false 43 [.d (.int n)] σ=some (.ok (.d (.str t)),σ):=by
 have g0:=jC (l:=eT) (a:=n) (k:=26) (by decide) (by decide);have q:=aV (a:=n.fdiv 26) (b:=12) (by decide);have e:(n.fdiv 26).fmod 12=((((n.fdiv 26).fmod 12).toNat:Nat):Int):=by exact (S4 q.1).symm
 generalize hk:((n.fdiv 26).fmod 12).toNat=k at e;have m0:=iz (K:=KK d false) (ρ:=[iV n,sV eT,sV [eT.getD (n.fmod 26).toNat 0],iV (n.fdiv 26),none]) (σ:=σ) (e:=ag 3) (a:=n.fdiv 26) (k:=12) rfl (by decide) (by decide);rw[e] at m0;generalize hq:(n.fdiv 26).fdiv 12=a;generalize hs:(n.fdiv 26).fdiv 432=b;obtain ⟨ρ2,s2,lp,y4,rfl,rfl⟩:=Hv (v:=.d (.rng 0 k 1)) (x:=.rng 0 k 1) (i:=4) (b:=fun ρ=>(sC (aN 2 (aJ aH (ag 2) (sub (ag 1) (aJ bv (aJ aH (aJ bS (ag 3) (ai 12)) (aJ io (aJ bS (ag 3) (ai 432)) (ag 4))) (ai 36))))) sN).ex (KK d false) ρ)
  (fun j ρ s=>∃ x4,ρ=[iV n,sV eT,sV (eT.getD (n.fmod 26).toNat 0::(List.range j).map (FO a b)),iV (n.fdiv 26),x4]/\s=σ) k 0 [iV n,sV eT,sV [eT.getD (n.fmod 26).toNat 0],iV (n.fdiv 26),none] σ ⟨none,rfl,rfl⟩ fun j ρ s hj ⟨x4,h1,h2⟩=>by
   subst h1 h2;have ct:=lq (a:=eT.getD (n.fmod 26).toNat 0::(List.range j).map (FO a b)) (b:=[FO a b j]) (by rw[Ss,Sk,List.length_range,Sw];exact co (Qm q e hj));rw[List.cons_append,show (List.range j).map (FO a b)++[FO a b j]=(List.range (j+1)).map (FO a b) by rw[List.range_succ,List.map_append];rfl] at ct;have ad:Ev (KK d false) (aJ aH (aJ bS (ag 3) (ai 12)) (aJ io (aJ bS (ag 3) (ai 432)) (ag 4))) [iV n,sV eT,sV (eT.getD (n.fmod 26).toNat 0::(List.range j).map (FO a b)),iV (n.fdiv 26),iV (j:Nat)] s (.d (.int (a+b*(j:Int)))):=by
    rw[<-hq,<-hs];exact aX (j_ rfl) (aX rfl rfl rfl rfl (lj (fG (Ql q e hj)))) rfl rfl rfl
   exact ⟨_,_,aa (aA (aX rfl (jd (l:=eT) rfl ad (by decide) (by decide) (by decide)) rfl rfl ct) rfl) rfl,rfl,⟨_,rfl,rfl⟩⟩
 rw[Tg] at lp;rw[<-List.range_eq_range'] at lp;refine ⟨_,⟨_,(List.range k).map (FO a b),rfl,?_,g0,fun y hy=> ?_⟩,Ln,?_⟩
 .rw[Sk,List.length_range];exact Qk q e
 .obtain ⟨i,_,rfl⟩:=SD.mp hy;exact List.mem_of_mem_take (jC (l:=eT) (a:=a+b*(i:Int)) (k:=36) (by decide) (by decide))
 .refine bf rfl rfl (ρ:=[iV n,none,none,none,none]) rfl ?_ (tk _);refine aa rfl ?_;refine aa (aA (jd (l:=eT) rfl rfl (by decide) (by decide) (by decide)) rfl) ?_;refine aa rfl ?_;refine aa (dp (zh m0 (Rj q e)) (j2 (nI (Rj q e))) lp) ?_;exact rfl
end
section
variable {n m:Int}
theorem Ei (h0:1<=c) (hc:c<nX):CC (d+1) hd 29 [.d (.exc c)] σ=some (.ok (.d (.bool true)),σ):=by
 refine bf rfl rfl (ρ:=[dV (.exc c),none]) rfl ?_ (tk _);refine aa (aA (db (db (fW rfl hc) (fW rfl hc)) (fW rfl hc)) rfl) ?_;refine aa (aA (db (db (db rfl (fW rfl hc)) (fW rfl hc)) (fW rfl hc)) rfl) ?_;refine aa (aA (db (db (db rfl (fW rfl hc)) (fW rfl hc)) (fW rfl hc)) rfl) ?_;refine aa (aA (db (db (db rfl (fW rfl hc)) (fW rfl hc)) (fW rfl hc)) rfl) ?_;refine aa (aA (db (db (db rfl (fW rfl hc)) (fW rfl hc)) (fW rfl hc)) rfl) ?_;refine aW (aU (uO (zj (MH rfl hc) (uN (nP (db rfl (fW rfl hc)) rfl rfl rfl (k7 ?_))))));have:∀ c,c<17->1<=c->ia (c==1||1==0)+ia (c==2||2==0)+ia (c==3||3==0)+ia (c==4||4==0)+ia (c==5||5==0)+ia (c==6||6==0)+ia (c==7||7==0)+ia (c==8||8==0)+ia (c==9||9==0)+ia (c==10||10==0)+ia (c==11||11==0)+ia (c==12||12==0)+ia (c==13||13==0)+ia (c==15||15==0)+ia (c==14||14==0)+ia (c==16||16==0)=1:=by decide
 exact this c hc h0
end
noncomputable abbrev Tx:=List Nat
variable {h last tx w:Tx} {ao body:List Tx}
noncomputable abbrev fV:Tx:=[108,105,110,101]
noncomputable abbrev bX:Tx:=Ty
noncomputable abbrev bG:Tx:=TB
noncomputable abbrev iK:Tx:=TD
noncomputable abbrev cx:Tx:=TA
noncomputable abbrev eu:Tx:=TC
noncomputable abbrev de:Tx:=Tz
noncomputable abbrev jl:Tx:=[104,111,109,101]
noncomputable def hZ (w:Tx):Bool:= !w.isEmpty&&w.all fun c=>decide (33<=c)&&decide (c<=126)
set_option genCtorIdx true in
inductive Dd where
 |acc (a:Tx)
 |rate (c:Tx) (n t b:Int)
 |entry (n:Int) (note:Tx) (ls:List cw)
 |change (n:Int) (note g one:Tx) (a:Int) (tk aM:Tx)
 |back (k n:Int)
 |close (n:Int)
noncomputable def Dd.toD:Dd->D
 | .acc a=>mi a
 | .rate c n t b=>sT c n t b
 | .entry n note ls=>.tup [.str bX,.int n,.str note,.lst (ls.map bI)]
 | .change n note g one a tk aM=>.tup [.str bG,.int n,.str note,.tup [.str g,.str one,.int a],.str tk,.str aM]
 | .back k n=>m7 k n
 | .close n=>fU n
noncomputable def Dd.len:Dd->Nat
 | .entry _ _ ls=>ls.length
 |_=>0
noncomputable def nD {α β:Type} (f:α->Option β):List α->Option (List β)
 |[]=>some []
 |x::r=>(f x).bind fun y=>(nD f r).map (y::·)
noncomputable def gj {α:Type} (b:Bool) (o:Option α):Option α:=match b with
 |true=>o
 |false=>none
theorem bn {b:Bool} {o:Option α} {x:α} (h:gj b o=some x):b=true/\o=some x:=by
 cases b with
 |true=>exact ⟨rfl,h⟩
 |false=>cases h
theorem mV {b:Bool} {o:Option α} (h:b=true):gj b o=o:=by rw[h];rfl
theorem rb {b:Bool} {o:Option α} (h:b=false):gj b o=none:=by rw[h];rfl
noncomputable abbrev wd (ws:List Tx) (k:Nat):Tx:=ws.getD k []
noncomputable def fit (ws:List Tx) (w:Tx) (m:Nat):Bool:=decide (wd ws 0=w)&&decide (ws.length=m)
noncomputable def IH (ws:List Tx):Option cw:=gj (fit ws fV 4) (gj (hZ (wd ws 1)) (gj (hZ (wd ws 2)) ((a_ (wd ws 3)).map fun n=>(wd ws 1,wd ws 2,n))))
noncomputable def cX (r:Tx):Option cw:=IH (an 32 r)
noncomputable def uQ (ws t:List Tx):Option Dd:=gj (decide (4<=ws.length)) ((a_ (wd ws 1)).bind fun n=>(a_ (wd ws 2)).bind fun k=>gj (decide (0<=k)&&decide (k<=t.length)) ((nD cX (t.take k.toNat)).map fun ls=>.entry n (aT [32] (ws.drop 3)) ls))
noncomputable def pC (ws:List Tx):Option Dd:=gj (decide (8<=ws.length)) (gj (hZ (wd ws 2)) (gj (hZ (wd ws 3)) ((a_ (wd ws 4)).bind fun a=>(a_ (wd ws 1)).bind fun n=>gj (hZ (wd ws 5)) (gj (hZ (wd ws 6)) (some (.change n (aT [32] (ws.drop 7)) (wd ws 2) (wd ws 3) a (wd ws 5) (wd ws 6)))))))
noncomputable def Ni (ws:List Tx):Option Dd:=gj (fit ws iK 2) (gj (hZ (wd ws 1)) (some (.acc (wd ws 1))))
noncomputable def ID (ws:List Tx):Option Dd:=gj (fit ws cx 5) (gj (hZ (wd ws 1)) ((a_ (wd ws 2)).bind fun n=>(a_ (wd ws 3)).bind fun t=>(a_ (wd ws 4)).map fun b=>.rate (wd ws 1) n t b))
noncomputable def IV (ws:List Tx):Option Dd:=gj (fit ws eu 3) ((a_ (wd ws 1)).bind fun k=>(a_ (wd ws 2)).map fun n=>.back k n)
noncomputable def Fo (ws:List Tx):Option Dd:=gj (fit ws de 2) ((a_ (wd ws 1)).map .close)
noncomputable def nB (ws:List Tx):Option Dd:=if wd ws 0=bG then pC ws else if wd ws 0=iK then Ni ws else if wd ws 0=cx then ID ws else if wd ws 0=eu then IV ws else Fo ws
noncomputable def kh (ws t:List Tx):Option Dd:=if wd ws 0=bX then uQ ws t else nB ws
noncomputable def c6 (r:Tx) (t:List Tx):Option Dd:=kh (an 32 r) t
noncomputable def eA:Nat->List Tx->Option (List Dd)
 |_,[]=>some []
 |0,_::_=>none
 |n+1,r::t=>(c6 r t).bind fun x=>(eA n (t.drop x.len)).map (x::·)
theorem mK {r:Tx} {t:List Tx}:eA (n+1) (r::t)=(c6 r t).bind fun x=>(eA n (t.drop x.len)).map (x::·):=rfl
noncomputable def j4 (ws:List Tx):Option Tx:=gj (fit ws jl 2) (gj (hZ (wd ws 1)) (some (wd ws 1)))
noncomputable def vW (ws:List Tx):Option Nat:=if wd ws 0=bX then gj (decide (4<=ws.length)) ((a_ (wd ws 1)).bind fun _=>(a_ (wd ws 2)).bind fun k=>gj (decide (0<=k)) (some k.toNat)) else (nB ws).map fun _=>0
noncomputable def lf:Nat->Tx->Option Nat
 |0,r=>vW (an 32 r)
 |k+1,r=>(cX r).map fun _=>k
noncomputable def mG:Nat->List Tx->Option Nat
 |k,[]=>some k
 |k,r::t=>(lf k r).bind fun j=>mG j t
theorem Dy {t:List Tx}:∀ {l:List Tx} {k:Nat},mG k (l++t)=(mG k l).bind fun j=>mG j t:=by
 intro l
 induction l with
 |nil=>
  intro _;exact rfl
 |cons r l ih=>
  intro k;show (lf k r).bind (fun j=>mG j (l++t))=((lf k r).bind fun j=>mG j l).bind _;cases lf k r with
  |none=>rfl
  |some j=>exact ih
theorem D9 {f:α->Option β}:∀ {l:List α} {m:List β},nD f l=some m->m.length=l.length:=by
 intro l
 induction l with
 |nil=>
  intro m h;cases h;rfl
 |cons x l ih=>
  intro m h;obtain ⟨y,_,h⟩:=ak h;obtain ⟨r,e,rfl⟩:=aL h;rw[Ss,Ss,ih e]
theorem xH:∀ {l:List Tx} {m:List cw},nD cX l=some m->mG l.length l=some 0:=by
 intro l
 induction l with
 |nil=>
  intro m h;exact rfl
 |cons x l ih=>
  intro m h;obtain ⟨y,e,h⟩:=ak h;obtain ⟨r,e2,rfl⟩:=aL h;show ((cX x).map fun _=>l.length).bind _=_;rw[e];exact ih e2
theorem Bz {ws:List Tx} {x:Dd} (h:nB ws=some x):x.len=0:=by
 unfold nB at h;split at h
 .have h:=(bn h).2;have h:=(bn h).2;obtain ⟨_,_,h⟩:=ak (bn h).2;obtain ⟨_,_,h⟩:=ak h;have h:=(bn h).2;have h:=(bn h).2;cases h;rfl
 split at h
 .have h:=(bn h).2;have h:=(bn h).2;cases h;rfl
 split at h
 .have h:=(bn h).2;obtain ⟨_,_,h⟩:=ak (bn h).2;obtain ⟨_,_,h⟩:=ak h;obtain ⟨_,_,rfl⟩:=aL h;rfl
 split at h
 .obtain ⟨_,_,h⟩:=ak (bn h).2;obtain ⟨_,_,rfl⟩:=aL h;rfl
 .obtain ⟨_,_,rfl⟩:=aL (bn h).2;rfl
theorem tm {r:Tx} {t:List Tx} {x:Dd} (h:c6 r t=some x):x.len<=t.length/\lf 0 r=some x.len/\mG x.len (t.take x.len)=some 0:=by
 unfold c6 kh at h;show _/\vW (an 32 r)=_/\_;unfold vW;generalize an 32 r=ws at h;by_cases q:wd ws 0=bX
 .rw[if_pos q] at h ⊢;obtain ⟨e0,h⟩:=bn h;obtain ⟨n,e1,h⟩:=ak h;obtain ⟨k,e2,h⟩:=ak h;obtain ⟨y,h⟩:=bn h;obtain ⟨ls,e3,rfl⟩:=aL h;have y1:=S6 (ah y);have y2:=S6 (aq y);have l1:=D9 e3;have l2:(t.take k.toNat).length=k.toNat:=by rw[List.length_take];exact Nat.min_eq_left (Int.toNat_le.mpr y2)
  rw[l2] at l1;show ls.length<=_/\_=some ls.length/\mG ls.length (t.take ls.length)=some 0;rw[mV e0,e1,e2,l1];refine ⟨by exact Int.toNat_le.mpr y2,mV (SC y1),?_⟩;have:=xH e3
  rwa [l2] at this
 .rw[if_neg q] at h ⊢;rw[h,Bz h];exact ⟨SQ _,rfl,rfl⟩
theorem ny:∀ {n:Nat} {l:List Tx} {ds:List Dd},eA n l=some ds->mG 0 l=some 0
 |_,[],_,_=>rfl
 |0,_::_,_,h=>nomatch h
 |n+1,r::t,ds,h=>by
  obtain ⟨x,e,h⟩:=ak h;obtain ⟨ds',e2,rfl⟩:=aL h;obtain ⟨h1,h2,h3⟩:=tm e;show (lf 0 r).bind _=_;rw[h2];show mG x.len t=_;rw[<-List.take_append_drop x.len t,Dy,h3];exact ny e2
theorem xO {l:List Tx} (h:mG 0 l≠some 0):eA n l=none:=by
 cases e:eA n l with
 |none=>rfl
 |some ds=>exact absurd (ny e) h
noncomputable def rX (o:Option D):R PV:=o.elim (.ex 16) fun x=>.ok (.d x)
section
variable {s:Tx}
theorem mD {lo hi:CP} {l h:PV} {u1 u2 z:D} (h1:Ev K a ρ σ x) (h2:lo.ev K ρ σ=some (.ok l,σ)) (h3:hi.ev K ρ σ=some (.ok h,σ)) (r1:rd σ x=some u) (r2:mZ l=some u1) (r3:mZ h=some u2) (e:fP u u1 u2=some z):Ev K (xC a lo hi) ρ σ (.d z):=by
 refine aC h1 (aC h2 (aC h3 ?_));show ((rd σ x).bind fun u=>(mZ l).bind fun l=>(mZ h).bind fun h=>(fP u l h).map PV.d).map _=_;rw[r1,r2,r3,Sl,Sl,Sl,e];rfl
theorem pU (hk:k<=1000):fP (.str s) .none (.int k)=some (.str (s.take k)):=by
 have e:∀ i:Int,fP (.str s) .none (.int i)=(ax (bA i=true) i).bind fun h=>ax (cY 0 s.length<=cY h s.length) (D.str (bC s (cY 0 s.length) (cY h s.length))):=fun i=>rfl;have c0:cY 0 s.length=0:=by unfold cY;rw[if_neg (by decide)];exact Nat.zero_min _
 have c1:cY (k:Int) s.length=min k s.length:=by unfold cY;rw[if_neg (CV),Int.toNat_natCast]
 rw[e,aO (cn (DW) (NE hk)),Sl,c0,c1,aO (SQ _),bC,List.drop_zero,Nat.sub_zero];congr 2;rcases Nat.le_total k s.length with q|q
 .rw[Nat.min_eq_left q]
 .rw[Nat.min_eq_right q,List.take_length,List.take_of_length_le q]
theorem vF (hk:k<=1000):fP (.str s) (.int k) .none=some (.str (s.drop k)):=by
 have e:∀ i:Int,fP (.str s) (.int i) .none=(ax (bA i=true) i).bind fun l=>ax (cY l s.length<=cY s.length s.length) (D.str (bC s (cY l s.length) (cY s.length s.length))):=fun i=>rfl;have c0:cY s.length s.length=s.length:=by unfold cY;rw[if_neg (CV),Int.toNat_natCast,Nat.min_self]
 have c1:cY (k:Int) s.length=min k s.length:=by unfold cY;rw[if_neg (CV),Int.toNat_natCast]
 rw[e,aO (cn (DW) (NE hk)),Sl,c0,c1,aO (Nat.min_le_right _ _),bC];congr 2;rcases Nat.le_total k s.length with q|q
 .rw[Nat.min_eq_left q,List.take_of_length_le (by rw[List.length_drop];exact Me)]
 .rw[Nat.min_eq_right q,Nat.sub_self,List.take_zero,List.drop_of_length_le q]
theorem Kj (h:Ev K e ρ σ (.d (.str s))) (hl:s.length<=100000):Ev K (bi ba (aj e az)) ρ σ (.d (.int s.length)):=cC (cl1 h) (s0 (Sv hl (by decide)))
theorem B9 (c:Nat):decide (c∈HI)=isDg c:=by
 unfold isDg;by_cases q:48<=c/\c<=57
 .rw[SC q.1,SC q.2];refine SC ?_;have e:=(show ∀ k<10,48+k∈HI by decide) (c - 48) ((Nat.sub_lt_iff_lt_add q.1).mpr (SM q.2 (by decide)))
  rwa [Nat.add_sub_cancel' q.1] at e
 .have e:decide (c∈HI)=false:=Tf fun h=>q ((show ∀ c∈HI,48<=c/\c<=57 by decide) c h);rw[e];by_cases q1:48<=c
  .rw[Tf fun z=>q ⟨q1,z⟩,Bool.and_false]
  .rw[Tf q1];rfl
theorem IJ (a b:Nat):sJ.g (.str [a]) (.str [b])=some (decide (a<=b)):=by
 show some (if a<b then true else if a=b then true else false)=_;rcases Nat.lt_trichotomy a b with q|q|q
 .rw[if_pos q,SC (S3 q)]
 .rw[if_neg (Mf q),if_pos q,SC (Td q)]
 .rw[if_neg (Nat.lt_asymm q),if_neg (Nat.ne_of_gt q),Tf (Nat.not_le_of_lt q)]
theorem EB {v:Nat} (h:LD (eJ w)=some v):∃ n,oN w=some n:=by
 unfold oN;split
 .exact ⟨_,congrArg (Option.map _) h⟩
 .rename_i q
  have:eJ w=w:=by
   unfold eJ;split
   .exact absurd rfl (q _)
   .rfl
  rw[this] at h;exact ⟨_,congrArg (Option.map _) h⟩
theorem xS (hw:w.length<=1000):CC (d+1) false 91 [.d (.str w)] σ=some (rX ((a_ w).map .int),σ):=by
 have s2:jq.ex (KK d false) [sV w,sV w,none] σ=some (.next [sV w,sV (eJ w),none],σ):=by
  have e1:Ev (KK d false) (xC (ag 0) Ad (k_ (ai 1))) [sV w,sV w,none] σ (.d (.str (w.take 1))):=mD rfl rfl rfl rfl rfl rfl (pU (k:=1) (by decide));by_cases q:w.take 1=[45]
  .have:eJ w=w.drop 1:=by
    match w,q with
    |x::r,q=>
     obtain rfl:x=45:=(List.cons.inj q).1;rfl
   rw[this];exact bo (av e1 rfl rfl rfl (iA q)) (aa (aA (mD rfl rfl rfl rfl rfl rfl (vF (k:=1) (by decide))) rfl) rfl)
  .have:eJ w=w:=by
    unfold eJ;split
    .exact absurd rfl q
    .rfl
   rw[this];exact a' (av e1 rfl rfl rfl (fX q)) rfl
 have fl:(eJ w).length<=1000:=by
  unfold eJ;split
  .rw[Ss] at hw;exact S3 hw
  .exact hw
 have al:=iI (K:=KK d false) (ρ:=[sV w,sV (eJ w),none]) (σ:=σ) (i:=2) (it:=ag 1) (p:=isDg) (bT:=sH zB (ag 2) (yP "FIGURES" (none,TL))) rfl fl fun c _=>by rw[<-B9];rfl
 have ln:Ev (KK d false) (bi ba (aj (ag 1) az)) [sV w,sV (eJ w),none] σ (.d (.int (eJ w).length)):=Kj rfl (Sv fl (Sr rfl));unfold a_;have bad:j5 w (eJ w)=false->(sC fS (sC jp (sC (bc (bi IU (aj (ag 0) az))) sN))).ex (KK d false) [sV w,sV (eJ w),none] σ=some (.ex 16 [sV w,sV (eJ w),none],σ)->CC (d+1) false 91 [.d (.str w)] σ=some (rX ((if j5 w (eJ w)=true then oN w else none).map .int),σ):=fun g h=>by
  rw[g];exact bR rfl rfl rfl (aa rfl (aa s2 h)) (tk _)
 by_cases q1:eJ w=[]
 .exact bad (by unfold j5;rw[q1];rfl) (aY (bo (bz (eY (av rfl rfl rfl rfl (iA q1)))) rfl))
 by_cases q2:60<(eJ w).length
 .exact bad (by unfold j5;rw[Tf (Nat.not_le.mpr q2),Bool.and_false];rfl) (aY (bo (bz (bM (av rfl rfl rfl rfl (fX q1)) (eY (av ln rfl rfl rfl (uG (S0.mpr q2)))))) rfl))
 by_cases q3:(eJ w).all isDg=true
 case neg=>
  have q3:=eq_false_of_ne_true q3;rw[q3] at al;exact bad (by unfold j5;rw[q3,Bool.and_false];rfl) (aY (bo (bz (bM (av rfl rfl rfl rfl (fX q1)) (bM (av ln rfl rfl rfl (oO (Md q2))) (eY (iL (dT al)))))) rfl))
 rw[q3] at al;have s3:fS.ex (KK d false) [sV w,sV (eJ w),none] σ=some (.next [sV w,sV (eJ w),none],σ):=a' (bz (bM (av rfl rfl rfl rfl (fX q1)) (bM (av ln rfl rfl rfl (oO (Md q2))) (bM (iL (dT al)) rfl)))) rfl;obtain ⟨c,r,hf⟩:=List.exists_cons_of_ne_nil q1;have e0:Ev (KK d false) (sub (ag 1) (ai 0)) [sV w,sV (eJ w),none] σ (.d (.str [c])):=bQ rfl rfl rfl rfl (EJ (k:=0) (by rw[hf];rfl));have g0:j5 w (eJ w)= !((eJ w).head? ==some 48&&w !=[48]):=by
  unfold j5;rw[q3,SC (To.mp q2),show (eJ w).isEmpty=false by rw[hf];rfl];rfl
 rw[hf] at g0;by_cases q4:c=48
 .by_cases q5:w=[48]
  .subst q5;exact bf rfl rfl rfl rfl (tk _)
  .refine bad ?_ (aa s3 (aY (bo (dQ (fk (av e0 rfl rfl rfl (iA (by rw[q4]))) (fk (av rfl rfl rfl rfl (DZ q5)) rfl))) rfl)));rw[hf,g0,q4];show (!(true&&w !=[48]))=false;rw[bne_iff_ne.mpr q5];rfl
 .have g1:j5 w (eJ w)=true:=by
   rw[hf,g0];show (!((some c==some 48)&&_))=true;rw[beq_eq_false_iff_ne.mpr fun h=>q4 (Tc h)];rfl
  have i1:∃ n,oN w=some n:=by
   have dg:∀ f:Tx,f≠[]->f.all isDg=true->f.length<=60->LD f=some (NumText.digitsVal f):=fun f h1 h2 h3=>aO ⟨h1,h2,by exact Sv (h3) (Sr rfl)⟩;have:=dg _ q1 q3 (To.mp q2);exact EB this
  obtain ⟨n,i1⟩:=i1;rw[if_pos g1,i1];refine bf rfl rfl rfl (aa rfl (aa s2 (aa s3 (aa (a' (dQ (lG (av e0 rfl rfl rfl (fX fun h=>q4 (List.cons.inj h).1)))) rfl) (aW (aU (cC (cl1 rfl) ?_))))))) (tk _);show ((oN w).map D.int).map _=_;rw[i1];rfl
theorem xU (hw:w.length<=1000):CC (d+1) false 93 [.d (.str w)] σ=some (rX (gj (hZ w) (some (.str w))),σ):=by
 have al:=iI (K:=KK d false) (ρ:=[sV w,none]) (σ:=σ) (i:=1) (it:=ag 0) (p:=fun c=>decide (33<=c)&&decide (c<=126)) (bT:=Ct sJ sJ (au [33]) (ag 1) (au [126])) rfl hw fun c _=>uM rfl rfl rfl rfl rfl rfl (IJ _ _) (IJ _ _);by_cases q1:w=[]
 .rw[rb (by rw[q1];rfl)];exact bR rfl rfl rfl (aY (bo (bz (eY (av rfl rfl rfl rfl (iA q1)))) rfl)) (tk _)
 have e:hZ w=w.all fun c=>decide (33<=c)&&decide (c<=126):=by
  obtain ⟨c,r,rfl⟩:=List.exists_cons_of_ne_nil q1;rfl
 rw[<-e] at al;cases q2:hZ w with
 |false=>
  rw[q2] at al;exact bR rfl rfl rfl (aY (bo (bz (bM (av rfl rfl rfl rfl (fX q1)) (eY (iL (dT al))))) rfl)) (tk _)
 |true=>
  rw[q2] at al;exact bf rfl rfl rfl (aa (a' (bz (bM (av rfl rfl rfl rfl (fX q1)) (bM (iL (dT al)) rfl))) rfl) rfl) (tk _)
theorem j8 (h:Ev K o ρ σ (.d (.str s))) (hl:s.length<=1048576):Ev K (bm iW o (aj (au [c]) az)) ρ σ (.d (.lst ((an c s).map .str))):=by
 refine aC h ?_;show bU ((aj (au [c]) az).ev K ρ) _ σ=_;refine aC rfl ?_;show (Option.map D.lst (ax (s.length<=1048576) ((an c s).map D.str))).map _=_;rw[aO hl];rfl
theorem gf:∀ l:Tx,(an c l).length<=l.length+1:=by
 intro l
 induction l with
 |nil=>
  exact Sy _
 |cons x r ih=>
  have ih:=ih;have e:=gg c r;have e2:=congrArg List.length e;rw[Ss] at e2;rw[dU,Gl];split
  .rw[Ss,Ss];exact Tl ih
  .rw[Ss,Ss];omega
theorem mB (hs:s.length<=1000):(wd (an c s) k).length<=1000:=by
 unfold wd;rw[SG];cases q:(an c s)[k]? with
 |none=>exact SQ _
 |some p=>exact Sv (dD (SR q)).2 hs
theorem C5 {ws:List Tx} (h:k<ws.length):(ws.map D.str)[k]? =some (.str (wd ws k)):=by
 rw[SE,Sp h,wd,SG,Sp h];rfl
theorem wO {ws:List Tx} (k:Nat) (he:Ev K e ρ σ (.d (.lst (ws.map .str)))) (h:k<ws.length) (hk:k<=100000:=by decide):Ev K (sub e (ai (k:Nat))) ρ σ (.d (.str (wd ws k))):=bQ he rfl rfl rfl (fc (C5 h) hk)
theorem split_pos {l:Tx}:0<(an c l).length:=by
 rw[gg c l,Ss];exact Nat.succ_pos _
theorem nh {f:Tx} (hs:s.length<=1000) (hm:m<=1000):CC (d+1) false 92 [.d (.str s),.d (.str f),.d (.int m)] σ=some (rX (gj (fit (an 32 s) f m) (some (.lst ((an 32 s).map .str)))),σ):=by
 have a1:(aN 3 (bm iW (ag 0) (aj (au [32]) az))).ex (KK d false) [sV s,sV f,iV m,none] σ=some (.next [sV s,sV f,iV m,dV (.lst ((an 32 s).map .str))],σ):=aA (j8 rfl (Sv (hs) (Sr rfl))) rfl;have hl:=gf (c:=32) s;have e0:Ev (KK d false) (sub (ag 3) (ai 0)) [sV s,sV f,iV m,dV (.lst ((an 32 s).map .str))] σ (.d (.str (wd (an 32 s) 0))):=wO 0 rfl split_pos;have ln:Ev (KK d false) (bi ba (aj (ag 3) az)) [sV s,sV f,iV m,dV (.lst ((an 32 s).map .str))] σ (.d (.int (an 32 s).length)):=by
  have q:=li (hd:=false) (σ:=σ) (x:=.d (.lst ((an 32 s).map .str))) rfl (by rw[Sk];exact Sv hl (Sv (by exact Tl hs:_<=1001) (by decide)));rw[Sk] at q;exact cC (cl1 rfl) q
 by_cases q1:wd (an 32 s) 0=f
 .by_cases q2:(an 32 s).length=m
  .rw[mV (by unfold fit;rw[SC q1,SC q2];rfl)];exact bf rfl rfl rfl (aa a1 (aa (a' (bz (bM (av e0 rfl rfl rfl (D2 q1)) (bM (av ln rfl rfl rfl (D4 (by rw[q2]))) rfl))) rfl) rfl)) (tk _)
  .rw[rb (by unfold fit;rw[Tf q2,Bool.and_false])];exact bR rfl rfl rfl (aa a1 (aY (bo (bz (bM (av e0 rfl rfl rfl (D2 q1)) (eY (av ln rfl rfl rfl (D3 (O0 q2)))))) rfl))) (tk _)
 .rw[rb (by unfold fit;rw[Tf q1];rfl)];exact bR rfl rfl rfl (aa a1 (aY (bo (bz (eY (av e0 rfl rfl rfl (DZ q1)))) rfl))) (tk _)
end
section
variable {s r:Tx} {ws t:List Tx}
theorem dz {l:CL} (h:l.ev K ρ σ=some (.ex k,σ')):(cb l).ev K ρ σ=some (.ex k,σ'):=l_ h
theorem sX (k:Nat) (he:Ev (KK (d+1) false) e ρ σ (.d (.lst (ws.map .str)))) (h:k<ws.length) (hw:(wd ws k).length<=1000) (hk:k<=100000:=by decide):(aF 93 (aj (sub e (ai (k:Nat))) az)).ev (KK (d+1) false) ρ σ=some (rX (gj (hZ (wd ws k)) (some (.str (wd ws k)))),σ):=aB (cl1 (wO k he h hk)) (xU hw)
theorem Aa (k:Nat) (he:Ev (KK (d+1) false) e ρ σ (.d (.lst (ws.map .str)))) (h:k<ws.length) (hw:(wd ws k).length<=1000) (hk:k<=100000:=by decide):(aF 91 (aj (sub e (ai (k:Nat))) az)).ev (KK (d+1) false) ρ σ=some (rX ((a_ (wd ws k)).map .int),σ):=aB (cl1 (wO k he h hk)) (xS hw)
theorem js {f:Tx} (h:fit ws f m=true):ws.length=m:=S6 (aq h)
theorem Ej (hr:r.length<=500):CC (d+2) false 95 [.d (.str r)] σ=some (rX ((cX r).map bI),σ):=by
 have w1:=nh (d:=d) (σ:=σ) (s:=r) (f:=fV) (m:=4) (vP hr) (by decide);have hw:∀ k,(wd (an 32 r) k).length<=1000:=fun k=>mB (vP hr);unfold cX IH;generalize an 32 r=ws at w1 hw;cases q0:fit ws fV 4 with
 |false=>
  rw[q0] at w1;exact bR rfl rfl rfl (aY (dS (aB rfl w1))) (tk _)
 |true=>
 rw[q0] at w1;have l4:=js q0;have a1:lu.ex (KK (d+1) false) [sV r,none] σ=some (.next [sV r,dV (.lst (ws.map .str))],σ):=aA (aB rfl w1) rfl;have n1:=sX (d:=d) (ρ:=[sV r,dV (.lst (ws.map .str))]) (σ:=σ) (e:=ag 1) (ws:=ws) 1 rfl (OZ l4) (hw 1);have n2:=sX (d:=d) (ρ:=[sV r,dV (.lst (ws.map .str))]) (σ:=σ) (e:=ag 1) (ws:=ws) 2 rfl (OY l4) (hw 2);have n3:=Aa (d:=d) (ρ:=[sV r,dV (.lst (ws.map .str))]) (σ:=σ) (e:=ag 1) (ws:=ws) 3 rfl (OX l4) (hw 3);cases q1:hZ (wd ws 1) with
 |false=>rw[q1] at n1;exact bR rfl rfl rfl (aa a1 (aY (dE (dz (d7 n1))))) (tk _)
 |true=>
 rw[q1] at n1;cases q2:hZ (wd ws 2) with
 |false=>rw[q2] at n2;exact bR rfl rfl rfl (aa a1 (aY (dE (dz (bE n1 (d7 n2)))))) (tk _)
 |true=>
 rw[q2] at n2;cases q3:a_ (wd ws 3) with
 |none=>rw[q3] at n3;exact bR rfl rfl rfl (aa a1 (aY (dE (dz (bE n1 (bE n2 (d7 n3))))))) (tk _)
 |some k=>rw[q3] at n3;exact bf rfl rfl rfl (aa a1 (aW (aU (bZ (cW n1 (cW n2 (cl1 n3))))))) (tk _)
theorem E_ (hk:k<=l.length) (hl:l.length<=10000):dj (.lst l) (.int k) .none=some (.lst (l.drop k)):=by
 have e:∀ i:Int,dj (.lst l) (.int i) .none=(ax (l.length<=dZ) ()).bind fun _=>(ax (bA i=true) i).bind fun i=>(some (l.length:Int)).map fun h=>D.lst (bC l (cY i l.length) (cY h l.length)):=fun i=>rfl;rw[e,aO (Sv hl (by decide)),Sl,aO (cn (DW) (JM hk hl)),Sl,Option.map_some];have c1:cY (k:Int) l.length=k:=by unfold cY;rw[if_neg (CV),Int.toNat_natCast,Nat.min_eq_left hk]
 have c2:cY (l.length:Int) l.length=l.length:=by unfold cY;rw[if_neg (CV),Int.toNat_natCast,Nat.min_self]
 rw[c1,c2,bC,List.take_of_length_le (by rw[List.length_drop];exact Me)]
theorem tQ (hk:k<=m) (hm:m<=l.length) (hl:l.length<=10000):dj (.lst l) (.int k) (.int m)=some (.lst ((l.drop k).take (m - k))):=by
 have e:∀ i j:Int,dj (.lst l) (.int i) (.int j)=(ax (l.length<=dZ) ()).bind fun _=>(ax (bA i=true) i).bind fun i=>(ax (bA j=true) j).map fun h=>D.lst (bC l (cY i l.length) (cY h l.length)):=fun i j=>rfl;rw[e,aO (Sv hl (by decide)),Sl,aO (cn (DW) (SV (SZ.mpr (Sv hk (Sv hm hl))) (by decide))),Sl,aO (cn (DW) (JM hm hl)),Option.map_some];have c1:cY (k:Int) l.length=k:=by unfold cY;rw[if_neg (CV),Int.toNat_natCast,Nat.min_eq_left (Sv hk hm)]
 have c2:cY (m:Int) l.length=m:=by unfold cY;rw[if_neg (CV),Int.toNat_natCast,Nat.min_eq_left hm]
 rw[c1,c2,bC]
theorem j1 (h:Ev K e ρ σ (.d (.lst (ws.map .str)))) (hl:ws.length<=10000):Ev K (bi ba (aj e az)) ρ σ (.d (.int ws.length)):=by
 have q:=li (hd:=K.hd) (σ:=σ) (x:=.d (.lst (ws.map .str))) rfl (by rw[Sk];exact Sv hl (by decide));rw[Sk] at q;exact cC (cl1 h) q
theorem AK (h:Ev K e ρ σ (.d (.lst (ws.map .str)))) (hk:k<=ws.length) (hl:ws.length<=1000) (hw:∀ t∈ws,t.length<=600):Ev K (bm mO (au [32]) (aj (vi e (k_ (ai (k:Nat))) Ad) az)) ρ σ (.d (.str (aT [32] (ws.drop k)))):=by
 refine uL rfl (fZ h (AY rfl) rfl rfl rfl rfl (E_ (by rw[Sk];exact hk) (by rw[Sk];exact Sv (hl) (Sr rfl)))) ?_ (by decide) (fun t ht=>hw t (List.mem_of_mem_drop ht)) (by rw[List.length_drop];exact Sv (Nat.sub_le _ _) hl);show some (D.lst _)=_;rw[List.map_drop]
theorem sQ (hr:r.length<=500):∀ t∈an 32 r,t.length<=600:=fun t ht=>Sv (dD ht).2 (Sv (hr) (Sr rfl))
theorem zA (hr:r.length<=500):CC (d+2) false 94 [.d (.str r)] σ=some (rX ((pC (an 32 r)).map Dd.toD),σ):=by
 have hw:∀ k,(wd (an 32 r) k).length<=1000:=fun k=>mB (vP hr);have hl:(an 32 r).length<=501:=Sv (gf r) (Tl hr);have h6:=sQ hr;have a1:∀ x2 x3,(aN 1 (bm iW (ag 0) (aj (au [32]) az))).ex (KK (d+1) false) [sV r,none,x2,x3] σ=some (.next [sV r,dV (.lst ((an 32 r).map .str)),x2,x3],σ):=fun x2 x3=>aA (j8 rfl (Sv (hr) (Sr rfl))) rfl;unfold pC;generalize an 32 r=ws at hw a1 hl h6;have ln:Ev (KK (d+1) false) (bi ba (aj (ag 1) az)) [sV r,dV (.lst (ws.map .str)),none,none] σ (.d (.int ws.length)):=j1 rfl (Sv (hl) (Sr rfl));by_cases q0:8<=ws.length
 case neg=>
  rw[rb (Tf q0)];exact bR rfl rfl rfl (aa (a1 none none) (aY (bo (av ln rfl rfl rfl (yy (S0.mpr (Nat.not_le.mp q0)))) rfl))) (tk _)
 rw[mV (SC q0)];have pre:∀ z,(sC jr (sC fT sN)).ex (KK (d+1) false) [sV r,dV (.lst (ws.map .str)),sV (aT [32] (ws.drop 7)),none] σ=z->ja.ex (KK (d+1) false) [sV r,none,none,none] σ=z:=fun z hz=>
  aa (a1 none none) (aa (a' (av ln rfl rfl rfl (lU (Tp.mpr (SZ.mpr q0)))) rfl) (aa (aA (AK (k:=7) rfl (S3 q0) (Sv (hl) (Sr rfl)) h6) rfl) hz))
 have nm:∀ k x3,k<=6->(aF 93 (aj (sub (ag 1) (ai (k:Nat))) az)).ev (KK (d+1) false) [sV r,dV (.lst (ws.map .str)),sV (aT [32] (ws.drop 7)),x3] σ=some (rX (gj (hZ (wd ws k)) (some (.str (wd ws k)))),σ):=fun k x3 hk=>sX k rfl (Mc q0 hk) (hw k) (Sv (hk) (Sr rfl));have nu:∀ k x3,k<=6->(aF 91 (aj (sub (ag 1) (ai (k:Nat))) az)).ev (KK (d+1) false) [sV r,dV (.lst (ws.map .str)),sV (aT [32] (ws.drop 7)),x3] σ=some (rX ((a_ (wd ws k)).map .int),σ):=fun k x3 hk=>Aa k rfl (Mc q0 hk) (hw k) (Sv (hk) (Sr rfl));have n2:=nm 2 none (by decide);have n3:=nm 3 none (by decide);have n4:=nu 4 none (by decide);cases q2:hZ (wd ws 2) with
 |false=>rw[q2] at n2;exact bR rfl rfl rfl (pre _ (aY (dS (dz (d7 n2))))) (tk _)
 |true=>
 rw[q2] at n2;cases q3:hZ (wd ws 3) with
 |false=>rw[q3] at n3;exact bR rfl rfl rfl (pre _ (aY (dS (dz (bE n2 (d7 n3)))))) (tk _)
 |true=>
 rw[q3] at n3;cases q4:a_ (wd ws 4) with
 |none=>rw[q4] at n4;exact bR rfl rfl rfl (pre _ (aY (dS (dz (bE n2 (bE n3 (d7 n4))))))) (tk _)
 |some a=>
 rw[q4] at n4;have pre2:∀ z,(sC fT sN).ex (KK (d+1) false) [sV r,dV (.lst (ws.map .str)),sV (aT [32] (ws.drop 7)),dV (.tup [.str (wd ws 2),.str (wd ws 3),.int a])] σ=z->ja.ex (KK (d+1) false) [sV r,none,none,none] σ=z:=fun z hz=>pre z (aa (aA (bZ (cW n2 (cW n3 (cl1 n4)))) rfl) hz);have n1:=nu 1 (dV (.tup [.str (wd ws 2),.str (wd ws 3),.int a])) (by decide);have n5:=nm 5 (dV (.tup [.str (wd ws 2),.str (wd ws 3),.int a])) (by decide);have n6:=nm 6 (dV (.tup [.str (wd ws 2),.str (wd ws 3),.int a])) (by decide);cases q1:a_ (wd ws 1) with
 |none=>rw[q1] at n1;exact bR rfl rfl rfl (pre2 _ (aY (dE (dz (bE rfl (d7 n1)))))) (tk _)
 |some n=>
 rw[q1] at n1;cases q5:hZ (wd ws 5) with
 |false=>rw[q5] at n5;exact bR rfl rfl rfl (pre2 _ (aY (dE (dz (bE rfl (bE n1 (bE rfl (bE rfl (d7 n5))))))))) (tk _)
 |true=>
 rw[q5] at n5;cases q6:hZ (wd ws 6) with
 |false=>rw[q6] at n6;exact bR rfl rfl rfl (pre2 _ (aY (dE (dz (bE rfl (bE n1 (bE rfl (bE rfl (bE n5 (d7 n6)))))))))) (tk _)
 |true=>
 rw[q6] at n6;exact bf rfl rfl rfl (pre2 _ (aW (aU (bZ (cW rfl (cW n1 (cW rfl (cW rfl (cW n5 (cl1 n6)))))))))) (tk _)
theorem Cs {y:D}:∀ (xs:List Tx) (acc:List D),(∀ x∈xs,bT.ev K (ρ.set i (sV x)) σ=some (rX ((cX x).map bI),σ))->acc.length+xs.length<=1000000->dy (.d y) y i (dJ.ts K) (bT.ev K) ρ (xs.map .str) acc σ=some ((nD cX xs).elim (.ex 16) fun ls=>.ok (acc++ls.map bI),σ):=by
 intro xs
 induction xs with
 |nil=>
  intro acc _ _;show some (R.ok acc,σ)=some (R.ok (acc++[]),σ);rw[List.append_nil]
 |cons x xs ih=>
  intro acc h hl;have e:=h x (.head _);rw[Ss] at hl;show (match bT.ev K (ρ.set i (sV x)) σ with
   |some (.ok (.d z),σ'')=>if bP σ'' y (.d y)/\acc.length<dZ then dy (.d y) y i (dJ.ts K) (bT.ev K) ρ (xs.map .str) (acc++[z]) σ'' else none
   |some (.ex c,σ'')=>some (.ex c,σ'')
   |_=>none)=_
  rw[e,show nD cX (x::xs)=(cX x).bind fun y=>(nD cX xs).map (y::·) from rfl];cases q:cX x with
  |none=>rfl
  |some l=>
   have ih:=ih (acc++[bI l]) (fun z hz=>h z (.tail _ hz)) (by rw[Sn,Sw];exact O1 hl);show (if bP σ y (.d y)/\acc.length<dZ then dy (.d y) y i (dJ.ts K) (bT.ev K) ρ (xs.map .str) (acc++[bI l]) σ else none)=_;rw[if_pos ⟨rfl,SM (Sv (Th _ _) hl) (by decide)⟩,ih];cases nD cX xs with
   |none=>rfl
   |some ls=>
    show some (R.ok (acc++[bI l]++ls.map bI),σ)=some (R.ok (acc++bI l::ls.map bI),σ);rw[List.append_assoc];rfl
theorem Cr {x:D} {xs:List D} {z:R (List D)} (h:Ev K it ρ σ (.d x)) (h1:items x=some xs) (h2:dy (.d x) x i (dJ.ts K) (bT.ev K) ρ xs [] σ=some (z,σ')) (hK:K.hd=false:=by rfl):iE true i it dJ bT K ρ σ=some (z,σ'):=by
 unfold iE;rw[hK];refine aC h ?_;show (Am (.d x) σ).bind _=_;rw[j2 h1,Sl,h2];cases z with
 |ok a=>rfl
 |ex c=>rfl
theorem Bo (h:iE true i it dJ bT K ρ σ=some (.ok l,σ')) (k:ρ.set j (dV (.lst l))=ρ'):(pV j i it bT).ex K ρ σ=some (.next ρ',σ'):=by
 subst k;exact cy (aC h rfl) rfl
theorem Bp (h:iE true i it dJ bT K ρ σ=some (.ex c,σ')):(pV j i it bT).ex K ρ σ=some (.ex c ρ,σ'):=ua (l_ h)
theorem zE {r:Tx} (h:ao.drop k=r::t):ao[k]? =some r/\ao.length=k+1+t.length/\ao.drop (k+1)=t:=by
 have l:=congrArg List.length h;rw[List.length_drop,Ss] at l;refine ⟨?_,OW l,?_⟩
 .have:=congrArg (fun x:List Tx=>x[0]?) h;rw[List.getElem?_drop] at this;exact this
 .rw[<-List.drop_drop,h];rfl
theorem j9 {ei:CE} (he:Ev K e ρ σ (.d (.lst (ao.map .str)))) (hi:Ev K ei ρ σ (.d (.int k))) (h:ao[k]? =some r) (hk:k<=100000):Ev K (sub e ei) ρ σ (.d (.str r)):=bQ he hi rfl rfl (fc (by rw[SE,h];rfl) hk)
theorem zk (h:ao.drop k=r::t) (hl:ao.length<=9000) (hr:∀ x∈ao,x.length<=500):CC (d+3) false 96 [.d (.lst (ao.map .str)),.d (.int k)] σ=some (rX ((uQ (an 32 r) t).map Dd.toD),σ):=by
 obtain ⟨e0,el,e1⟩:=zE h;have hr0:r.length<=500:=hr r (SR e0);have hw:∀ k,(wd (an 32 r) k).length<=1000:=fun k=>mB (vP hr0);have hl5:(an 32 r).length<=501:=Sv (gf r) (Tl hr0);have h6:=sQ hr0;have a1:j6.ex (KK (d+2) false) [dV (.lst (ao.map .str)),iV k,none,none,none,none,none] σ=some (.next [dV (.lst (ao.map .str)),iV k,dV (.lst ((an 32 r).map .str)),none,none,none,none],σ):=aA (j8 (j9 rfl rfl e0 (Mb hl el)) (Sv (hr0) (Sr rfl))) rfl;unfold uQ;generalize an 32 r=ws at hw a1 hl5 h6;have ln:Ev (KK (d+2) false) (bi ba (aj (ag 2) az)) [dV (.lst (ao.map .str)),iV k,dV (.lst (ws.map .str)),none,none,none,none] σ (.d (.int ws.length)):=j1 rfl (Sv (hl5) (Sr rfl));by_cases q0:4<=ws.length
 case neg=>
  rw[rb (Tf q0)];exact bR rfl rfl rfl (aa a1 (aY (bo (av ln rfl rfl rfl (yy (S0.mpr (Nat.not_le.mp q0)))) rfl))) (tk _)
 rw[mV (SC q0)];have nu:∀ j x3 x4,j<=3->(aF 91 (aj (sub (ag 2) (ai (j:Nat))) az)).ev (KK (d+2) false) [dV (.lst (ao.map .str)),iV k,dV (.lst (ws.map .str)),x3,x4,none,none] σ=some (rX ((a_ (wd ws j)).map .int),σ):=fun j x3 x4 hj=>Aa (d:=d+1) j rfl (SM hj q0) (hw j) (Sv (hj) (Sr rfl));have pre:∀ z,(sC (aN 3 (aF 91 (aj (sub (ag 2) (ai 1)) az))) (sC (aN 4 (aF 91 (aj (sub (ag 2) (ai 2)) az))) (sC ff (sC (pV 5 6 (vi (ag 0) (k_ (aJ aH (ag 1) (ai 1))) (k_ (aJ aH (aJ aH (ag 1) (ai 1)) (ag 4)))) (aF 95 (aj (ag 6) az))) (sC gM sN))))).ex (KK (d+2) false) [dV (.lst (ao.map .str)),iV k,dV (.lst (ws.map .str)),none,none,none,none] σ=z->j7.ex (KK (d+2) false) [dV (.lst (ao.map .str)),iV k,none,none,none,none,none] σ=z:=fun z hz=>aa a1 (aa (a' (av ln rfl rfl rfl (lU (Tp.mpr (SZ.mpr q0)))) rfl) hz);have n1:=nu 1 none none (by decide);cases q1:a_ (wd ws 1) with
 |none=>rw[q1] at n1;exact bR rfl rfl rfl (pre _ (aY (dS n1))) (tk _)
 |some n=>
 rw[q1] at n1;have n2:=nu 2 (iV n) none (by decide);cases q2:a_ (wd ws 2) with
 |none=>rw[q2] at n2;exact bR rfl rfl rfl (pre _ (aa (aA n1 rfl) (aY (dS n2)))) (tk _)
 |some c=>
 rw[q2] at n2;have lr:Ev (KK (d+2) false) (aJ dw (aJ dw (bi ba (aj (ag 0) az)) (ag 1)) (ai 1)) [dV (.lst (ao.map .str)),iV k,dV (.lst (ws.map .str)),iV n,iV c,none,none] σ (.d (.int t.length)):=by
  have q:Ev (KK (d+2) false) (aJ dw (aJ dw (bi ba (aj (ag 0) az)) (ag 1)) (ai 1)) [dV (.lst (ao.map .str)),iV k,dV (.lst (ws.map .str)),iV n,iV c,none,none] σ (.d (.int ((ao.length:Int) - k - 1))):=aX (aX (j1 (ws:=ao) rfl (Sv (hl) (Sr rfl))) rfl rfl rfl rfl) rfl rfl rfl rfl;rw[show (ao.length:Int) - k - 1=t.length by omega] at q;exact q
 have pre2:∀ z,(sC ff (sC (pV 5 6 (vi (ag 0) (k_ (aJ aH (ag 1) (ai 1))) (k_ (aJ aH (aJ aH (ag 1) (ai 1)) (ag 4)))) (aF 95 (aj (ag 6) az))) (sC gM sN))).ex (KK (d+2) false) [dV (.lst (ao.map .str)),iV k,dV (.lst (ws.map .str)),iV n,iV c,none,none] σ=z->j7.ex (KK (d+2) false) [dV (.lst (ao.map .str)),iV k,none,none,none,none,none] σ=z:=fun z hz=>pre z (aa (aA n1 rfl) (aa (aA n2 rfl) hz));show CC (d+3) false 96 _ σ=some (rX ((gj (decide (0<=c)&&decide (c<=(t.length:Int))) ((nD cX (t.take c.toNat)).map fun ls=>Dd.entry n (aT [32] (ws.drop 3)) ls)).map Dd.toD),σ);by_cases q3:c<0
 .rw[rb (by rw[Tf (Int.not_le.mpr q3)];rfl)];exact bR rfl rfl rfl (pre2 _ (aY (bo (bz (eY (tT q3 rfl))) rfl))) (tk _)
 by_cases q4:(t.length:Int)<c
 .rw[rb (by rw[Tf (Int.not_le.mpr q4),Bool.and_false])];exact bR rfl rfl rfl (pre2 _ (aY (bo (bz (bM (av rfl rfl rfl rfl (lU q3)) (eY (av rfl lr rfl rfl (uG q4))))) rfl))) (tk _)
 rw[mV (by rw[SC (Tp.mp q3),SC (Tp.mp q4)];rfl)];obtain ⟨m,rfl⟩:=Int.eq_ofNat_of_zero_le (Tp.mp q3);rw[Int.toNat_natCast];have sl:Ev (KK (d+2) false) (vi (ag 0) (k_ (aJ aH (ag 1) (ai 1))) (k_ (aJ aH (aJ aH (ag 1) (ai 1)) (ag 4)))) [dV (.lst (ao.map .str)),iV k,dV (.lst (ws.map .str)),iV n,iV (m:Nat),none,none] σ (.d (.lst ((t.take m).map .str))):=by
  refine fZ rfl (AY (db rfl rfl)) rfl rfl rfl rfl ?_;have e:=tQ (k:=k+1) (m:=k+1+m) (l:=ao.map D.str) (OV) (by rw[Sk];omega) (by rw[Sk];exact Sv (hl) (Sr rfl));rw[<-List.map_drop,e1,Nat.add_sub_cancel_left,<-List.map_take,Int.natCast_add (k+1) m,Int.natCast_add k 1] at e;exact e
 have cm:=Cr (K:=KK (d+2) false) (i:=6) (it:=vi (ag 0) (k_ (aJ aH (ag 1) (ai 1))) (k_ (aJ aH (aJ aH (ag 1) (ai 1)) (ag 4)))) (bT:=aF 95 (aj (ag 6) az)) sl (if_pos (by rw[Sk,List.length_take];exact Sv (Nat.min_le_right _ _) (Sv (by exact OU hl el:_<=9000) (by decide)))) (Cs (t.take m) [] (fun x hx=>aB (cl1 rfl) (Ej (hr x (by rw[<-List.take_append_drop k ao,h];exact List.mem_append_right _ (.tail _ (List.mem_of_mem_take hx)))))) (by rw[Te,List.length_take];exact OT hl el));have s5:ff.ex (KK (d+2) false) [dV (.lst (ao.map .str)),iV k,dV (.lst (ws.map .str)),iV n,iV (m:Nat),none,none] σ=some (.next [dV (.lst (ao.map .str)),iV k,dV (.lst (ws.map .str)),iV n,iV (m:Nat),none,none],σ):=a' (bz (bM rfl (bM (av rfl lr rfl rfl (oO q4)) rfl))) rfl;cases q5:nD cX (t.take m) with
 |none=>
  rw[q5] at cm;exact bR rfl rfl rfl (pre2 _ (aa s5 (aY (Bp cm)))) (tk _)
 |some ls=>
  rw[q5] at cm;refine bf rfl rfl rfl (pre2 _ (aa s5 (aa (Bo cm rfl) (aW (aU (bZ (cW rfl (cW rfl (cW (AK (ws:=ws) (k:=3) rfl (Nat.le_of_add_left_le q0) (Sv (hl5) (Sr rfl)) h6) (cl1 rfl)))))))))) (tk _)
end
section
variable {s r:Tx} {ws t:List Tx}
theorem Di {i:CE} (h:a.ev K ρ σ=some (.ex k,σ')):(sub a i).ev K ρ σ=some (.ex k,σ'):=l_ h
noncomputable abbrev qR (ao:List Tx) (k:Nat) (x2 x3:Option PV):bj:=[dV (.lst (ao.map .str)),iV k,x2,x3]
theorem Fa (h:ao.drop k=r::t) (hl:ao.length<=9000) (hr:∀ x∈ao,x.length<=500):CC (d+4) false 97 [.d (.lst (ao.map .str)),.d (.int k)] σ=some (rX ((c6 r t).map Dd.toD),σ):=by
 obtain ⟨e0,el,e1⟩:=zE h;have hr0:r.length<=500:=hr r (SR e0);have hw:∀ k,(wd (an 32 r) k).length<=1000:=fun k=>mB (vP hr0);have er:∀ x2 x3,Ev (KK (d+3) false) (sub (ag 0) (ag 1)) (qR ao k x2 x3) σ (.d (.str r)):=fun x2 x3=>j9 rfl rfl e0 (Mb hl el);have a1:ly.ex (KK (d+3) false) (qR ao k none none) σ=some (.next (qR ao k (sV (wd (an 32 r) 0)) none),σ):=aA (wO 0 (j8 (er _ _) (Sv (hr0) (Sr rfl))) split_pos) rfl;have en:=zk (d:=d) (σ:=σ) h hl hr;have ch:=zA (d:=d+1) (σ:=σ) hr0;have wo:∀ (f:Tx) (m:Nat) x2 x3,m<=1000->(aF 92 (aj (sub (ag 0) (ag 1)) (aj (au f) (aj (ai m) az)))).ev (KK (d+3) false) (qR ao k x2 x3) σ=some (rX (gj (fit (an 32 r) f m) (some (.lst ((an 32 r).map .str)))),σ):=fun f m x2 x3 hm=>aB (cW (er _ _) rfl) (nh (vP hr0) hm);unfold c6 kh;generalize an 32 r=ws at a1 en ch wo hw;generalize hx:(sV (wd ws 0):Option PV)=x2 at a1;have xE:∀ {ρ'},i_.ex (KK (d+3) false) (qR ao k none none) σ=some (.ex 16 ρ',σ)->CC (d+4) false 97 [.d (.lst (ao.map .str)),.d (.int k)] σ=some (.ex 16,σ):=fun e=>bR rfl rfl rfl e (tk _);have xR:∀ {v:D},i_.ex (KK (d+3) false) (qR ao k none none) σ=some (.ret (.d v),σ)->CC (d+4) false 97 [.d (.lst (ao.map .str)),.d (.int k)] σ=some (.ok (.d v),σ):=fun e=>bf rfl rfl rfl e (tk _);have p1:∀ z,_=z->i_.ex (KK (d+3) false) (qR ao k none none) σ=z:=fun z h=>aa a1 h;have tc:∀ (f:Tx) (b:Bool),decide (wd ws 0=f)=b->Ts (KK (d+3) false) (a8 fh (ag 2) (au f)) (qR ao k x2 none) σ b:=fun f b hb=>by
  rw[<-hx];exact av rfl rfl rfl rfl (congrArg some hb)
 by_cases q0:wd ws 0=bX
 .rw[if_pos q0];have c:=bo (b:=sN) (z:=_) (tc bX true (SC q0)) (a:=sC (bc (aF 96 (aj (ag 0) (aj (ag 1) az)))) sN) rfl;cases z:uQ ws t with
  |none=>rw[z] at en;exact xE (p1 _ (aY (bo (tc bX true (SC q0)) (aY (dE (aB rfl en))))))
  |some x=>rw[z] at en;exact xR (p1 _ (aW (bo (tc bX true (SC q0)) (aW (aU (aB rfl en))))))
 rw[if_neg q0];unfold nB;have s2:=a' (K:=KK (d+3) false) (a:=sC (bc (aF 96 (aj (ag 0) (aj (ag 1) az)))) sN) (b:=sN) (tc bX false (Tf q0)) rfl;have p2:∀ z,_=z->_=z:=fun z h=>p1 z (aa s2 h);by_cases q1:wd ws 0=bG
 .rw[if_pos q1];cases z:pC ws with
  |none=>rw[z] at ch;exact xE (p2 _ (aY (bo (tc bG true (SC q1)) (aY (dE (aB (cl1 (er _ _)) ch))))))
  |some x=>rw[z] at ch;exact xR (p2 _ (aW (bo (tc bG true (SC q1)) (aW (aU (aB (cl1 (er _ _)) ch))))))
 rw[if_neg q1];have s3:=a' (K:=KK (d+3) false) (a:=sC (bc (aF 94 (aj (sub (ag 0) (ag 1)) az))) sN) (b:=sN) (tc bG false (Tf q1)) rfl;have p3:∀ z,_=z->_=z:=fun z h=>p2 z (aa s3 h);by_cases q2:wd ws 0=iK
 .rw[if_pos q2];unfold Ni;have c2:=wo iK 2 x2 none (by decide);cases z:fit ws iK 2 with
  |false=>rw[z] at c2;exact xE (p3 _ (aY (bo (tc iK true (SC q2)) (aY (dE (dz (bE rfl (d7 (uV (d7 (Di c2)))))))))))
  |true=>
  rw[z] at c2;have n1:=sX (d:=d+2) (σ:=σ) 1 c2 (by rw[js z];decide) (hw 1);cases z1:hZ (wd ws 1) with
  |false=>rw[z1] at n1;exact xE (p3 _ (aY (bo (tc iK true (SC q2)) (aY (dE (dz (bE rfl (d7 n1))))))))
  |true=>rw[z1] at n1;exact xR (p3 _ (aW (bo (tc iK true (SC q2)) (aW (aU (bZ (cW rfl (cl1 n1))))))))
 rw[if_neg q2];have s4:=a' (K:=KK (d+3) false) (a:=sC (bc (cb (aj (au iK) (aj (aF 93 (aj (sub (aF 92 (aj (sub (ag 0) (ag 1)) (aj (au iK) (aj (ai 2) az)))) (ai 1)) az)) az)))) sN) (b:=sN) (tc iK false (Tf q2)) rfl;have p4:∀ z,_=z->_=z:=fun z h=>p3 z (aa s4 h);have nu:∀ j,j<ws.length->j<=100->(aF 91 (aj (sub (ag 3) (ai (j:Nat))) az)).ev (KK (d+3) false) (qR ao k x2 (dV (.lst (ws.map .str)))) σ=some (rX ((a_ (wd ws j)).map .int),σ):=fun j hj h1=>Aa (d:=d+2) j rfl hj (hw j) (Sv h1 (Sr rfl));by_cases q3:wd ws 0=cx
 .rw[if_pos q3];unfold ID;have c2:=wo cx 5 x2 none (by decide);have tt:=tc cx true (SC q3);cases z:fit ws cx 5 with
  |false=>rw[z] at c2;exact xE (p4 _ (aY (bo tt (aY (dS c2)))))
  |true=>
  rw[z] at c2;have l5:=js z;have n1:=sX (d:=d+2) (ρ:=qR ao k x2 (dV (.lst (ws.map .str)))) (σ:=σ) (e:=ag 3) (ws:=ws) 1 rfl (OS l5) (hw 1);cases z1:hZ (wd ws 1) with
  |false=>rw[z1] at n1;exact xE (p4 _ (aY (bo tt (aa (aA c2 rfl) (aY (dE (dz (bE rfl (d7 n1)))))))))
  |true=>
  rw[z1] at n1;have n2:=nu 2 (OR l5) (by decide);cases z2:a_ (wd ws 2) with
  |none=>rw[z2] at n2;exact xE (p4 _ (aY (bo tt (aa (aA c2 rfl) (aY (dE (dz (bE rfl (bE n1 (d7 n2))))))))))
  |some v2=>
  rw[z2] at n2;have n3:=nu 3 (OQ l5) (by decide);cases z3:a_ (wd ws 3) with
  |none=>rw[z3] at n3;exact xE (p4 _ (aY (bo tt (aa (aA c2 rfl) (aY (dE (dz (bE rfl (bE n1 (bE n2 (d7 n3)))))))))))
  |some v3=>
  rw[z3] at n3;have n4:=nu 4 (OP l5) (by decide);cases z4:a_ (wd ws 4) with
  |none=>rw[z4] at n4;exact xE (p4 _ (aY (bo tt (aa (aA c2 rfl) (aY (dE (dz (bE rfl (bE n1 (bE n2 (bE n3 (d7 n4))))))))))))
  |some v4=>rw[z4] at n4;exact xR (p4 _ (aW (bo tt (aa (aA c2 rfl) (aW (aU (bZ (cW rfl (cW n1 (cW n2 (cW n3 (cl1 n4))))))))))))
 rw[if_neg q3];have s5:lx.ex (KK (d+3) false) (qR ao k x2 none) σ=some (.next (qR ao k x2 none),σ):=a' (tc cx false (Tf q3)) rfl;have p5:∀ z,_=z->_=z:=fun z h=>p4 z (aa s5 h);by_cases q4:wd ws 0=eu
 .rw[if_pos q4];unfold IV;have c2:=wo eu 3 x2 none (by decide);have tt:=tc eu true (SC q4);cases z:fit ws eu 3 with
  |false=>rw[z] at c2;exact xE (p5 _ (aY (bo tt (aY (dS c2)))))
  |true=>
  rw[z] at c2;have l5:=js z;have n1:=nu 1 (OO l5) (by decide);cases z1:a_ (wd ws 1) with
  |none=>rw[z1] at n1;exact xE (p5 _ (aY (bo tt (aa (aA c2 rfl) (aY (dE (dz (bE rfl (d7 n1)))))))))
  |some v1=>
  rw[z1] at n1;have n2:=nu 2 (ON l5) (by decide);cases z2:a_ (wd ws 2) with
  |none=>rw[z2] at n2;exact xE (p5 _ (aY (bo tt (aa (aA c2 rfl) (aY (dE (dz (bE rfl (bE n1 (d7 n2))))))))))
  |some v2=>rw[z2] at n2;exact xR (p5 _ (aW (bo tt (aa (aA c2 rfl) (aW (aU (bZ (cW rfl (cW n1 (cl1 n2))))))))))
 rw[if_neg q4];have s6:lv.ex (KK (d+3) false) (qR ao k x2 none) σ=some (.next (qR ao k x2 none),σ):=a' (tc eu false (Tf q4)) rfl;have p6:∀ z,_=z->_=z:=fun z h=>p5 z (aa s6 h);unfold Fo;have c2:=wo de 2 x2 none (by decide);cases z:fit ws de 2 with
 |false=>rw[z] at c2;exact xE (p6 _ (aY (dS c2)))
 |true=>
 rw[z] at c2;have l5:=js z;have n1:=nu 1 (OM l5) (by decide);cases z1:a_ (wd ws 1) with
 |none=>rw[z1] at n1;exact xE (p6 _ (aa (aA c2 rfl) (aY (dE (dz (bE rfl (d7 n1)))))))
 |some v1=>rw[z1] at n1;exact xR (p6 _ (aa (aA c2 rfl) (aW (aU (bZ (cW rfl (cl1 n1)))))))
theorem NV {t:CT} {b:CS} (h:Ts K t ρ σ false):jz t b K (n+1) ρ σ=some (.next ρ,σ):=cy h rfl
theorem LI {t:CT} {b:CS} {z:Option (Out×aE)} (h:Ts K t ρ σ true) (h1:b.ex K ρ σ=some (.next ρ',σ')) (k:jz t b K n ρ' σ'=z):jz t b K (n+1) ρ σ=z:=by
 refine cy h ?_;show og (b.ex K ρ σ) _=z;rw[h1];exact k
theorem NU {t:CT} {b:CS} (h:Ts K t ρ σ true) (h1:b.ex K ρ σ=some (.ex c ρ',σ')):jz t b K (n+1) ρ σ=some (.ex c ρ',σ'):=by
 refine cy h ?_;show og (b.ex K ρ σ) _=_;rw[h1];rfl
noncomputable abbrev qW (ao:List Tx) (n k:Nat) (x3:Option PV):bj:=[dV (.lst (ao.map .str)),qV n,iV k,x3]
theorem rz (hl:ao.length<=9000) (hr:∀ x∈ao,x.length<=500):∀ (n k N:Nat) (acc:List Dd) (x3:Option PV),ao.length<=k+n->n<N->acc.length+n<=100000->
  (∀ ds,eA n (ao.drop k)=some ds->∃ k' y3,jz (a8 r7 (ag 2) (bi ba (aj (ag 0) az))) dG (KK (d+4) false) N (qW ao σ.length k x3) (σ++[.fld (.list (acc.map Dd.toD))])=some (.next (qW ao σ.length k' y3),σ++[.fld (.list ((acc++ds).map Dd.toD))]))/\
  (eA n (ao.drop k)=none->∃ ρ' o,jz (a8 r7 (ag 2) (bi ba (aj (ag 0) az))) dG (KK (d+4) false) N (qW ao σ.length k x3) (σ++[.fld (.list (acc.map Dd.toD))])=some (.ex 16 ρ',σ++[o]))
 |n,k,0,_,_,_,h,_=>absurd h (Nat.not_lt_zero _)
 |n,k,N+1,acc,x3,h1,h2,h3=>by
  have ln:∀ s,Ev (KK (d+4) false) (bi ba (aj (ag 0) az)) (qW ao σ.length k x3) s (.d (.int ao.length)):=fun s=>j1 rfl (Sv (hl) (Sr rfl));cases q:ao.drop k with
  |nil=>
   have hk:ao.length<=k:=List.drop_eq_nil_iff.mp q;have e:eA n []=some []:=by cases n<;>rfl
   rw[e];refine ⟨fun ds hd=> ?_,fun h=>nomatch h⟩;cases hd;rw[List.append_nil];exact ⟨k,x3,NV (av rfl (ln _) rfl rfl (lU (Tp.mpr (SZ.mpr hk))))⟩
  |cons r t=>
   obtain ⟨e0,el,e1⟩:=zE q;have dr:=Fa (d:=d) (σ:=σ++[.fld (.list (acc.map Dd.toD))]) q hl hr;have tt:Ts (KK (d+4) false) (a8 r7 (ag 2) (bi ba (aj (ag 0) az))) (qW ao σ.length k x3) (σ++[.fld (.list (acc.map Dd.toD))]) true:=av rfl (ln _) rfl rfl (yy (OL el));cases n with
   |zero=>omega
   |succ n=>
   rw[mK];cases z:c6 r t with
   |none=>
    rw[z] at dr;exact And.intro (fun ds h=>nomatch h) (fun _=>⟨_,_,NU tt (aY (dS (aB rfl dr)))⟩)
   |some x=>
   rw[z] at dr;have hx:=(tm z).1;have ap:=cU (K:=KK (d+4) false) (ρ:=qW ao σ.length k (dV x.toD)) (o:=ag 1) (a:=ag 3) (y:=x.toD) (σ:=σ++[.fld (.list (acc.map Dd.toD))]) (n:=σ.length) (j:=0) (l:=acc.map Dd.toD) rfl rfl dK (by rw[Sk];exact SN (by exact SM (Sv (Th _ _) h3) (SN (Nat.lt_succ_self _) (Sr rfl)):_<100001) (by decide));rw[gY] at ap;have el:[D.str Ty]=[D.str bX]:=rfl;have s4:(du (a8 fh (sub (ag 3) (ai 0)) (au Ty)) (sC (aN 2 (aJ aH (ag 2) (bi ba (aj (sub (ag 3) (ai 3)) az)))) sN) sN).ex (KK (d+4) false) (qW ao σ.length (k+1) (dV x.toD)) (σ++[.fld (.list (acc.map Dd.toD++[x.toD]))])=some (.next (qW ao σ.length (k+1+x.len) (dV x.toD)),σ++[.fld (.list (acc.map Dd.toD++[x.toD]))]):=by
    cases x with
    |entry n' note ls=>
     refine bo rfl (aa (aA (db rfl (cC rfl (li (l:=ls.map bI) rfl ?_))) ?_) rfl)
     .have:ls.length<=t.length:=hx;rw[Sk];exact Sv (by omega:_<=9000) (by decide)
     .show [some (PV.d (.lst (ao.map .str))),some (PV.p σ.length 0),some (PV.d (.int ((k+1:Nat)+((ls.map bI).length:Int)))),_]=_;rw[Sk];rfl
    |acc a=>exact rfl
    |rate c n' t' b=>exact rfl
    |change n' note g one a tk aM=>exact rfl
    |back k' n'=>exact rfl
    |close n'=>exact rfl
   have bd:dG.ex (KK (d+4) false) (qW ao σ.length k x3) (σ++[.fld (.list (acc.map Dd.toD))])=some (.next (qW ao σ.length (k+1+x.len) (dV x.toD)),σ++[.fld (.list ((acc++[x]).map Dd.toD))]):=by
    rw[List.map_append];exact aa (aA (aB rfl dr) rfl) (aa (aK ap) (aa rfl (aa s4 rfl)))
   obtain ⟨i1,i2⟩:=rz hl hr n (k+1+x.len) N (acc++[x]) (dV x.toD) (OK h1) (Nat.lt_of_succ_lt_succ h2) (by rw[Sn,Sw];exact O2 h3);rw[<-List.drop_drop,e1] at i1 i2;refine And.intro (fun ds h=> ?_) (fun h=> ?_)
   .obtain ⟨ds',e2,rfl⟩:=aL (show Option.map (x::·) (eA n (t.drop x.len))=some ds from h);obtain ⟨k',y',e3⟩:=i1 ds' e2;rw[List.append_assoc] at e3;exact ⟨k',y',LI tt bd e3⟩
   .have:eA n (t.drop x.len)=none:=by
     cases z2:eA n (t.drop x.len) with
     |none=>rfl
     |some l=>
      have h:Option.map (x::·) (eA n (t.drop x.len))=none:=h;rw[z2] at h;cases h
    obtain ⟨ρ',o,e3⟩:=i2 this;exact ⟨ρ',o,LI tt bd e3⟩
noncomputable def cF (l:List Tx):Option (List Dd):=eA l.length l
theorem zo (hl:ao.length<=9000) (hr:∀ x∈ao,x.length<=500):CC (d+5) false 98 [.d (.lst (ao.map .str))] σ=some (rX ((cF ao).map fun ds=>.lst (ds.map Dd.toD)),σ):=by
 obtain ⟨i1,i2⟩:=rz (d:=d) (σ:=σ) hl hr ao.length 0 100000 [] none (OJ) (SM (hl) (SN (Nat.lt_succ_self _) (Sr rfl))) (by rw[Te];exact Sv (S5 (hl) _) (Sr rfl));unfold cF;have pre:∀ z,(sC (Ds 100000 (a8 r7 (ag 2) (bi ba (aj (ag 0) az))) dG) (sC (bc (ag 1)) sN)).ex (KK (d+4) false) (qW ao σ.length 0 none) (σ++[.fld (.list [])])=z->ot.ex (KK (d+4) false) [dV (.lst (ao.map .str)),none,none,none] σ=z:=fun z hz=>aa rfl (aa rfl hz);cases q:eA ao.length ao with
 |none=>
  obtain ⟨ρ',o,e⟩:=i2 q;exact bR rfl rfl rfl (pre _ (aY e)) (Iw σ [o])
 |some ds=>
  obtain ⟨k',y3,e⟩:=i1 ds q;exact Fv (f':=.list (ds.map Dd.toD)) rfl rfl rfl (pre _ (aa e rfl)) (Sy _) eS (Iw σ _)
end
noncomputable def ck:Nat->Tx->Option Nat
 |0,r=>(j4 (an 32 r)).map fun _=>1
 |k+1,r=>(lf k r).map (· +1)
noncomputable def dW:Nat->List Tx->Option Nat
 |k,[]=>some k
 |k,r::t=>(ck k r).bind fun j=>dW j t
theorem il {t:List Tx}:∀ {l:List Tx} {k:Nat},dW k (l++t)=(dW k l).bind fun j=>dW j t:=by
 intro l
 induction l with
 |nil=>
  intro _;exact rfl
 |cons r l ih=>
  intro k;show (ck k r).bind (fun j=>dW j (l++t))=((ck k r).bind fun j=>dW j l).bind _;cases ck k r with
  |none=>rfl
  |some j=>exact ih
theorem DA:∀ {l:List Tx} {k:Nat},dW (k+1) l=(mG k l).map (· +1):=by
 intro l
 induction l with
 |nil=>
  intro _;exact rfl
 |cons r l ih=>
  intro k;show ((lf k r).map (· +1)).bind (fun j=>dW j l)=((lf k r).bind fun j=>mG j l).map (· +1);cases lf k r with
  |none=>rfl
  |some j=>exact ih
noncomputable abbrev Lp:List Tx:=[jl,fV,bX,bG,iK,cx,eu,de]
section
variable {r:Tx} {ws:List Tx} {s:Nat}
theorem fp {f:Tx} (h:fit ws f m=true):wd ws 0=f:=S6 (ah h)
inductive Kd (ws:List Tx):Nat->Prop
 |home:fit ws jl 2=true->hZ (wd ws 1)=true->Kd ws 0
 |line (k:Nat) (n:Int):fit ws fV 4=true->hZ (wd ws 1)=true->a_ (wd ws 3)=some n->Kd ws (k+2)
 |entry (n:Int):wd ws 0=bX->4<=ws.length->a_ (wd ws 1)=some n->Kd ws 1
 |change (n:Int):wd ws 0=bG->8<=ws.length->a_ (wd ws 1)=some n->Kd ws 1
 |acc:fit ws iK 2=true->hZ (wd ws 1)=true->Kd ws 1
 |rate (n t b:Int):fit ws cx 5=true->hZ (wd ws 1)=true->a_ (wd ws 2)=some n->a_ (wd ws 3)=some t->a_ (wd ws 4)=some b->Kd ws 1
 |back (k n:Int):fit ws eu 3=true->a_ (wd ws 1)=some k->a_ (wd ws 2)=some n->Kd ws 1
 |close (n:Int):fit ws de 2=true->a_ (wd ws 1)=some n->Kd ws 1
theorem ww:∀ {s:Nat},ck s r=some j->Kd (an 32 r) s
 |0,h=>by
  obtain ⟨x,e,_⟩:=aL h;obtain ⟨h1,e⟩:=bn e;exact .home h1 (bn e).1
 |k+2,h=>by
  obtain ⟨x,e,_⟩:=aL h;obtain ⟨y,e,_⟩:=aL e;obtain ⟨h1,e⟩:=bn e;obtain ⟨h2,e⟩:=bn e;obtain ⟨n,h3,_⟩:=aL (bn e).2;exact .line k n h1 h2 h3
 |1,h=>by
  obtain ⟨x,e,_⟩:=aL h;have e:vW (an 32 r)=some x:=e;unfold vW at e;split at e
  .rename_i q
   obtain ⟨h1,e⟩:=bn e;obtain ⟨n,h2,_⟩:=ak e;exact .entry n q (S6 h1) h2
  obtain ⟨y,e,_⟩:=aL e;unfold nB at e;split at e
  .rename_i q
   obtain ⟨h1,e⟩:=bn e;obtain ⟨_,e⟩:=bn e;obtain ⟨_,e⟩:=bn e;obtain ⟨_,_,e⟩:=ak e;obtain ⟨n,h2,_⟩:=ak e;exact .change n q (S6 h1) h2
  split at e
  .obtain ⟨h1,e⟩:=bn e;exact .acc h1 (bn e).1
  split at e
  .obtain ⟨h1,e⟩:=bn e;obtain ⟨h2,e⟩:=bn e;obtain ⟨n,h3,e⟩:=ak e;obtain ⟨t,h4,e⟩:=ak e;obtain ⟨b,h5,_⟩:=aL e;exact .rate n t b h1 h2 h3 h4 h5
  split at e
  .obtain ⟨h1,e⟩:=bn e;obtain ⟨k,h2,e⟩:=ak e;obtain ⟨n,h3,_⟩:=aL e;exact .back k n h1 h2 h3
  .obtain ⟨h1,e⟩:=bn e;obtain ⟨n,h2,_⟩:=aL e;exact .close n h1 h2
theorem Kd.key (h:Kd ws s):wd ws 0∈Lp/\(1<=s->wd ws 0≠jl):=by
 cases h with
 |home h=>rw[fp h];exact ⟨by decide,fun h=>absurd h (by decide)⟩
 |line k n h=>rw[fp h];exact ⟨by decide,fun _=>by decide⟩
 |entry n h=>rw[h];exact ⟨by decide,fun _=>by decide⟩
 |change n h=>rw[h];exact ⟨by decide,fun _=>by decide⟩
 |acc h=>rw[fp h];exact ⟨by decide,fun _=>by decide⟩
 |rate n t b h=>rw[fp h];exact ⟨by decide,fun _=>by decide⟩
 |back k n h=>rw[fp h];exact ⟨by decide,fun _=>by decide⟩
 |close n h=>rw[fp h];exact ⟨by decide,fun _=>by decide⟩
theorem Kd.one (h:Kd ws s):wd ws 1≠[]:=by
 have a:hZ (wd ws 1)=true->wd ws 1≠[]:=fun h e=>by rw[e] at h;cases h
 have b:∀ {n},a_ (wd ws 1)=some n->wd ws 1≠[]:=fun h e=>by rw[e] at h;cases h
 cases h with
 |home _ h=>exact a h
 |line k n _ h=>exact a h
 |entry n _ _ h=>exact b h
 |change n _ _ h=>exact b h
 |acc _ h=>exact a h
 |rate n t b' _ h=>exact a h
 |back k n _ h=>exact b h
 |close n _ h=>exact b h
theorem d_ (h:¬Kd (an 32 r) s):ck s r=none:=by
 cases e:ck s r with
 |none=>rfl
 |some j=>exact absurd (ww e) h
theorem F_ (h:wd ws k≠[]):k<ws.length:=by
 rcases Nat.lt_or_ge k ws.length with q|q
 .exact q
 .exact absurd (by rw[wd,SG,List.getElem?_eq_none q];rfl) h
theorem C9 (h:ck s r=some j):2<=(an 32 r).length:=F_ (ww h).one
theorem Jn (h:ck s r=some j):32∈r:=by
 by_cases q:32∈r
 .exact q
 .have:=C9 h;rw[ey q,Sw] at this;exact absurd this (by decide)
theorem mC {r:Tx}:an c (c::r)=[]::an c r:=by rw[dU,Gl,if_pos rfl]
theorem vE {x:Nat} {r:Tx} (h:x≠c):an c (x::r)=(x::(an c r).headD [])::(an c r).tail:=by rw[dU,Gl,if_neg h]
theorem AP:ck s []=none:=d_ fun h=>absurd h.key.1 (by decide)
theorem Fc (h:1<=s):ck s (jl++32::[69,85,82])=none:=d_ fun k=>k.key.2 h (by rw[dh (by decide)];rfl)
theorem QW:ck s (32::r)=none:=d_ fun h=>by
 have:=h.key.1;rw[mC] at this;exact absurd (show ([]:Tx)∈Lp from this) (by decide)
theorem Si (h:ck s r=some j):ck s (120::r)=none:=d_ fun k=>by
 have:=k.key.1;rw[vE (by decide)] at this;have nx:∀ (l:Tx),(120::l)∈Lp->False:=fun l h=>by
  rcases Sm.mp h with q|h
  .cases q
  rcases Sm.mp h with q|h
  .cases q
  rcases Sm.mp h with q|h
  .cases q
  rcases Sm.mp h with q|h
  .cases q
  rcases Sm.mp h with q|h
  .cases q
  rcases Sm.mp h with q|h
  .cases q
  rcases Sm.mp h with q|h
  .cases q
  .cases Sq.mp h
 exact nx _ this
theorem MY (h:32∈r):ck s (dI 32 r++[32,32]++gt 32 r)=none:=d_ fun k=>by
 have n:=(eW h).2;refine k.one ?_;rw[List.append_assoc];show wd (an 32 (dI 32 r++32::(32::gt 32 r))) 1=[];rw[dh n,mC];rfl
theorem MZ (h:32∈r):ck s (dI 32 r)=none:=d_ fun k=>k.one (by rw[ey (eW h).2];rfl)
theorem ni {b:Tx}:∀ a:Tx,an c (a++c::b)=an c a++an c b:=by
 intro a
 induction a with
 |nil=>
  exact mC
 |cons x a ih=>
  have ih:=ih;rw[List.cons_append,dU,dU,ih];unfold Gl;split
  .rfl
  .rw[gg c a];rfl
theorem NW {ws v:List Tx} (h:k<ws.length):wd (ws++v) k=wd ws k:=by
 rw[wd,wd,SG,SG,S_ h]
noncomputable def El (w:Tx):Nat:=if w=jl then 2 else if w=fV then 4 else if w=iK then 2 else if w=cx then 5 else if w=eu then 3 else 2
theorem Kd.len (h:Kd ws s) (h1:wd ws 0≠bX) (h2:wd ws 0≠bG):ws.length=El (wd ws 0):=by
 cases h with
 |home h=>rw[fp h,js h];rfl
 |line k n h=>rw[fp h,js h];rfl
 |entry n h=>exact absurd h h1
 |change n h=>exact absurd h h2
 |acc h=>rw[fp h,js h];rfl
 |rate n t b h=>rw[fp h,js h];rfl
 |back k n h=>rw[fp h,js h];rfl
 |close n h=>rw[fp h,js h];rfl
theorem K7 (h:ck s r=some j) (h1:wd (an 32 r) 0≠bX) (h2:wd (an 32 r) 0≠bG):ck s (r++[32,53])=none:=d_ fun k=>by
 have e:an 32 (r++[32,53])=an 32 r++[[53]]:=ni r;rw[e] at k;have e0:wd (an 32 r++[[53]]) 0=wd (an 32 r) 0:=NW split_pos;have l1:=(ww h).len h1 h2;have l2:=k.len (by rw[e0];exact h1) (by rw[e0];exact h2);rw[e0,Sn,Sw] at l2;omega
noncomputable def mU (w:Tx) (i:Nat):Bool:=((w==bX||w==bG||w==de)&&i==1)||(w==fV&&i==3)||(w==cx&&(i==2||i==3||i==4))||(w==eu&&i==2)
theorem QL {b c d e:Bool} (q:((true&&b)||(false&&c)||(false&&d)||(false&&e))=true):b=true:=by cases b;exact q;rfl
theorem Sb {b c d e:Bool} (q:((false&&b)||(true&&c)||(false&&d)||(false&&e))=true):c=true:=by cases c;exact q;rfl
theorem Sa {b c d e:Bool} (q:((false&&b)||(false&&c)||(true&&d)||(false&&e))=true):d=true:=by cases d;exact q;rfl
theorem Kd.num (h:Kd ws s) (hi:mU (wd ws 0) i=true):∃ n,a_ (wd ws i)=some n:=by
 have a:∀ {f:Tx} {k:Nat} {n:Int},wd ws 0=f->a_ (wd ws k)=some n->(∀ i,mU f i=true->i=k)->∃ n,a_ (wd ws i)=some n:=fun e h q=>by
  rw[e] at hi;exact ⟨_,by rw[q i hi];exact h⟩
 have z:∀ {f:Tx},wd ws 0=f->(∀ i,mU f i=false)->∃ n,a_ (wd ws i)=some n:=fun e q=>by
  rw[e,q] at hi;cases hi
 cases h with
 |home h=>exact z (fp h) fun i=>rfl
 |line k n h _ h3=>exact a (fp h) h3 fun i q=>eq_of_beq (Sb q)
 |entry n h _ h1=>exact a h h1 fun i q=>eq_of_beq (QL q)
 |change n h _ h1=>exact a h h1 fun i q=>eq_of_beq (QL q)
 |acc h=>exact z (fp h) fun i=>rfl
 |rate n t b h _ h2 h3 h4=>
  rw[fp h] at hi;have hi:=Sa hi;rw[Bool.or_eq_true,Bool.or_eq_true] at hi;rcases hi with (hi|hi)|hi<;>rw[eq_of_beq hi]
  .exact ⟨_,h2⟩
  .exact ⟨_,h3⟩
  .exact ⟨_,h4⟩
 |back k n h _ h2=>exact a (fp h) h2 fun i q=>eq_of_beq q
 |close n h h1=>exact a (fp h) h1 fun i q=>eq_of_beq (QL q)
theorem Dl:∀ {l p:Tx},p∈an c l->c∉p:=by
 intro l
 induction l with
 |nil=>
  intro p h;rw[Sq.mp h];exact SI
 |cons x r ih=>
  intro p h;have e:=gg c r;rw[dU,Gl] at h;split at h
  .rcases Sm.mp h with rfl|h
   .exact SI
   .exact ih h
  .rename_i q
   rcases Sm.mp h with rfl|h
   .exact fun z=>(Sm.mp z).elim (fun z=>q z.symm) (ih (p:=(an c r).headD []) (by rw[e];exact .head _))
   .exact ih (by rw[e];exact .tail _ h)
theorem C4 {v:Tx} (h:k<ws.length):wd (ws.set i v) k=if i=k then v else wd ws k:=by
 rw[wd,SG,List.getElem?_set];split
 .rename_i q
  subst q;rw[if_pos h];rfl
 .rw[wd,SG]
theorem M0 {o:Tx} (h:ck s r=some j) (hi:mU (wd (an 32 r) 0) i=true) (h0:1<=i) (hl:i<(an 32 r).length) (ho:a_ o=none) (h32:32∉o):ck s (aT [32] ((an 32 r).set i o))=none:=d_ fun k=>by
 rw[gu (fun e=>by have e:=congrArg List.length e;rw[SO,Te] at e;omega) fun p hp=>by
  rcases List.mem_or_eq_of_mem_set hp with hp|rfl
  .exact Dl hp
  .exact h32] at k
 have e0:wd ((an 32 r).set i o) 0=wd (an 32 r) 0:=by rw[C4 split_pos,if_neg (Nat.ne_of_gt h0)]
 obtain ⟨n,e⟩:=k.num (i:=i) (by rw[e0];exact hi);rw[C4 hl,if_pos rfl,ho] at e;cases e
theorem HO {o:Tx} (ho:a_ o=none) (h32:32∉o):ck s (aT [32] [de,o])=none:=d_ fun k=>by
 rw[gu (ps:=[de,o]) (List.cons_ne_nil _ _) fun p hp=>by
  rcases Sm.mp hp with rfl|hp
  .decide
  .rw[Sq.mp hp];exact h32] at k
 obtain ⟨n,e⟩:=k.num (i:=1) rfl;have e:a_ o=some n:=e;rw[ho] at e;cases e
theorem Jq {a b:List Tx} (h:dW 0 (a++r::b)=some 1):∃ s j,dW 0 a=some s/\ck s r=some j/\dW j b=some 1/\1<=j:=by
 rw[il] at h;obtain ⟨s,e1,h⟩:=ak h;obtain ⟨j,e2,h⟩:=ak h;refine ⟨s,j,e1,e2,h,?_⟩;cases s with
 |zero=>obtain ⟨_,_,e⟩:=aL e2;rw[<-e];exact Sy _
 |succ s=>obtain ⟨_,_,e⟩:=aL e2;rw[<-e];exact Tl (SQ _)
theorem Dx {a b:List Tx} {r':Tx} (h:dW 0 a=some s) (h':ck s r'=none):dW 0 (a++r'::b)=none:=by
 rw[il,h];show (ck s r').bind _=none;rw[h'];rfl
end
noncomputable def Dd.mth:Dd->Nat
 | .acc _=>37
 | .rate _ _ _ _=>6
 | .entry _ _ _=>20
 | .change _ _ _ _ _ _ _=>17
 | .back _ _=>9
 | .close _=>11
noncomputable def Dd.args:Dd->List PV
 | .acc a=>[.d (.str a)]
 | .rate c n t b=>[.d (.str c),.d (.int n),.d (.int t),.d (.int b)]
 | .entry n note ls=>[.d (.int n),.d (.str note),.d (.lst (ls.map bI))]
 | .change n note g one a tk aM=>[.d (.int n),.d (.str note),.d (.str g),.d (.str one),.d (.int a),.d (.str tk),.d (.str aM)]
 | .back k n=>[.d (.int k),.d (.int n)]
 | .close n=>[.d (.int n)]
section
variable {S'':St} {x:Dd}
theorem hH {v:PV} (B:Bk σ n S) (h:CC (d+3) false x.mth (.p n 0::x.args) σ=some (.ok v,σ.set n (bk S'))):CC (d+4) false 90 [.p n 0,.d x.toD] σ=some (.ok (.d .none),σ.set n (bk S')):=by
 cases x with
 |acc a=>exact eq rfl rfl rfl (aa (bo rfl (aa (aK (bq B rfl rfl h)) rfl)) rfl) iM
 |rate c m t b=>exact eq rfl rfl rfl (aa (a' rfl (aa (bo rfl (aa (aK (bq B rfl rfl h)) rfl)) rfl)) rfl) iM
 |entry m note ls=>exact eq rfl rfl rfl (aa (a' rfl (aa (a' rfl (aa (bo rfl (aa (aK (bq B rfl rfl h)) rfl)) rfl)) rfl)) rfl) iM
 |change m note g one a tk' aM=>exact eq rfl rfl rfl (aa (a' rfl (aa (a' rfl (aa (a' rfl (aa (bo rfl (aa (aK (bq B rfl rfl h)) rfl)) rfl)) rfl)) rfl)) rfl) iM
 |back k m=>exact eq rfl rfl rfl (aa (a' rfl (aa (a' rfl (aa (a' rfl (aa (a' rfl (aa (bo rfl (aa (aK (bq B rfl rfl h)) rfl)) rfl)) rfl)) rfl)) rfl)) rfl) iM
 |close m=>exact eq rfl rfl rfl (aa (a' rfl (aa (a' rfl (aa (a' rfl (aa (a' rfl (aa (a' rfl (aa (aK (bq B rfl rfl h)) rfl)) rfl)) rfl)) rfl)) rfl)) rfl) iM
theorem dq (B:Bk σ n S) (h:CC (d+3) false x.mth (.p n 0::x.args) σ=some (.ex c,σ)):CC (d+4) false 90 [.p n 0,.d x.toD] σ=some (.ex c,σ):=by
 cases x with
 |acc a=>exact bR rfl rfl rfl (aY (bo rfl (aY (cG (bq B rfl rfl h))))) (tk _)
 |rate c m t b=>exact bR rfl rfl rfl (aY (a' rfl (aY (bo rfl (aY (cG (bq B rfl rfl h))))))) (tk _)
 |entry m note ls=>exact bR rfl rfl rfl (aY (a' rfl (aY (a' rfl (aY (bo rfl (aY (cG (bq B rfl rfl h))))))))) (tk _)
 |change m note g one a tk' aM=>exact bR rfl rfl rfl (aY (a' rfl (aY (a' rfl (aY (a' rfl (aY (bo rfl (aY (cG (bq B rfl rfl h))))))))))) (tk _)
 |back k m=>exact bR rfl rfl rfl (aY (a' rfl (aY (a' rfl (aY (a' rfl (aY (a' rfl (aY (bo rfl (aY (cG (bq B rfl rfl h))))))))))))) (tk _)
 |close m=>exact bR rfl rfl rfl (aY (a' rfl (aY (a' rfl (aY (a' rfl (aY (a' rfl (aY (a' rfl (aY (cG (bq B rfl rfl h))))))))))))) (tk _)
def Dn (x:Dd) (S S':St):Prop:=∀ d σ n,Bk σ n S->CC (d+4) false 90 [.p n 0,.d x.toD] σ=some (.ok (.d .none),σ.set n (bk S'))
def Fl (x:Dd) (S:St) (c:Nat):Prop:=∀ d σ n,Bk σ n S->CC (d+4) false 90 [.p n 0,.d x.toD] σ=some (.ex c,σ)
def Rp:St->List Dd->St->Prop
 |S,[],S'=>S'=S
 |S,x::l,S'=>∃ S1,Dn x S S1/\Rp S1 l S'
theorem Rp.app {m:List Dd}:∀ {l:List Dd} {S:St},Rp S l S'->Rp S' m S''->Rp S (l++m) S'':=by
 intro l
 induction l with
 |nil=>
  intro S h k;cases h;exact k
 |cons x l ih=>
  intro S h k;obtain ⟨S1,h1,h2⟩:=h;exact ⟨S1,h1,ih h2 k⟩
theorem Rp.snoc {l:List Dd} (h:Rp S l S') (k:Dn x S' S''):Rp S (l++[x]) S'':=h.app ⟨S'',k,rfl⟩
end
structure Pl where
 names:List (List Nat)
 first:Int
 curs:List (List Nat)
 ents:List xl
 told:List Rw
 ends:List Int
 backs:List Int
 deeds:List D
 most:Int
 ex:List cD
variable {p p':Pl}
noncomputable def Bx (p:Pl):List cD:=.list (p.names.map .str):: .d (.int p.first):: .d (.lst (p.curs.map .str)):: .list (p.ents.map sF):: .list (p.told.map vH):: .list (p.ends.map .int):: .list (p.backs.map .int):: .list p.deeds:: .d (.int p.most)::p.ex
noncomputable def pk (p:Pl):PO:=.rcd false (Bx p)
abbrev Rk (σ:aE) (m:Nat) (p:Pl):Prop:=σ[m]? =some (pk p)
section
variable {l:aE}
theorem Rk.lt (h:Rk σ m p):m<σ.length:=(So.mp h).1
theorem Rk.app (h:Rk σ m p):Rk (σ++l) m p:=by
 show (σ++l)[m]? =_;rw[S_ h.lt];exact h
theorem je (h:Rk σ m p) (he:Ev K e ρ σ (.p m 0)) (hf:(Bx p)[k]? =some f):Ev K (key e k s) ρ σ (zc m k f):=by
 refine aC he (aC (a:=.d (.str s)) (σ':=σ) rfl ?_);show (ax (ij (.d (.str s))=some s) ()).bind (fun _=>oB false k (.p m 0) σ)=_;rw[aO (show ij (.d (.str s))=some s from rfl),Sl];show (cR false σ m).bind _=_;unfold cR;rw[h];show ((Bx p)[k]?).map _=_;rw[hf];rfl
theorem lY (h:Rk σ m p) (hf:(Bx p)[j]? =some f):b_ σ m (j+2)=some f:=by
 unfold b_;rw[h];exact hf
theorem sR {x:D} (h:Rk σ m p) (hf:(Bx p)[j]? =some f) (hx:f.rd=some x):rd σ (.p m (j+2))=some x:=by
 show (b_ σ m (j+2)).bind _=_;rw[lY h hf];exact hx
theorem nq (h:Rk σ m p) (hf:(Bx p).set j f=Bx p'):dX σ m (j+2) f=σ.set m (pk p'):=by
 unfold dX;rw[h];show σ.set m (.rcd false ((Bx p).set (j+2 - 2) f))=_;rw[Nat.add_sub_cancel,hf];rfl
theorem fH (h:Rk σ m p) (he:Ev K e ρ σ (.p m 0)):Ev K (key e 0 s) ρ σ (.p m 2):=je (f:=.list (p.names.map .str)) h he rfl
theorem Hg (h:Rk σ m p) (he:Ev K e ρ σ (.p m 0)):Ev K (key e 1 s) ρ σ (.d (.int p.first)):=je (f:=.d (.int p.first)) h he rfl
theorem i0 (h:Rk σ m p) (he:Ev K e ρ σ (.p m 0)):Ev K (key e 2 s) ρ σ (.d (.lst (p.curs.map .str))):=je (f:=.d (.lst (p.curs.map .str))) h he rfl
theorem qU (h:Rk σ m p) (he:Ev K e ρ σ (.p m 0)):Ev K (key e 3 s) ρ σ (.p m 5):=je (f:=.list (p.ents.map sF)) h he rfl
theorem Et (h:Rk σ m p) (he:Ev K e ρ σ (.p m 0)):Ev K (key e 4 s) ρ σ (.p m 6):=je (f:=.list (p.told.map vH)) h he rfl
theorem yG (h:Rk σ m p) (he:Ev K e ρ σ (.p m 0)):Ev K (key e 5 s) ρ σ (.p m 7):=je (f:=.list (p.ends.map .int)) h he rfl
theorem pt (h:Rk σ m p) (he:Ev K e ρ σ (.p m 0)):Ev K (key e 6 s) ρ σ (.p m 8):=je (f:=.list (p.backs.map .int)) h he rfl
theorem Ak (h:Rk σ m p) (he:Ev K e ρ σ (.p m 0)):Ev K (key e 7 s) ρ σ (.p m 9):=je (f:=.list p.deeds) h he rfl
theorem Eu (h:Rk σ m p) (he:Ev K e ρ σ (.p m 0)):Ev K (key e 8 s) ρ σ (.d (.int p.most)):=je (f:=.d (.int p.most)) h he rfl
theorem fE (h:Rk σ m p):rd σ (.p m 2)=some (.lst (p.names.map .str)):=sR (f:=.list (p.names.map .str)) h rfl rfl
theorem t7 (h:Rk σ m p):rd σ (.p m 5)=some (.lst (p.ents.map sF)):=sR (f:=.list (p.ents.map sF)) h rfl rfl
theorem DK (h:Rk σ m p):rd σ (.p m 6)=some (.lst (p.told.map vH)):=sR (f:=.list (p.told.map vH)) h rfl rfl
theorem DL (h:Rk σ m p):rd σ (.p m 7)=some (.lst (p.ends.map .int)):=sR (f:=.list (p.ends.map .int)) h rfl rfl
theorem t8 (h:Rk σ m p):rd σ (.p m 8)=some (.lst (p.backs.map .int)):=sR (f:=.list (p.backs.map .int)) h rfl rfl
theorem zZ (h:Rk σ m p):rd σ (.p m 9)=some (.lst p.deeds):=sR (f:=.list p.deeds) h rfl rfl
theorem GK {t:List Nat} (h:Rk σ m p) (hl:p.names.length<=1000) (he:Ev K e ρ σ (.p m 0)) (ha:Ev K a ρ σ (.d (.str t))):(bm a9 (key e 0 s) (aj a az)).ev K ρ σ=some (.ok (.d .none),σ.set m (pk {p with names:=p.names++[t]})):=by
 have q:=cU (fH (s:=s) h he) ha (lY (j:=0) h rfl) (by rw[Sk];exact ee hl);rw[nq h (p':={p with names:=p.names++[t]}) (by simp only [Bx,List.map_append];rfl)] at q;exact q
theorem JD {t:xl} (h:Rk σ m p) (hl:p.ents.length<=1000) (he:Ev K e ρ σ (.p m 0)) (ha:Ev K a ρ σ (.d (sF t))):(bm a9 (key e 3 s) (aj a az)).ev K ρ σ=some (.ok (.d .none),σ.set m (pk {p with ents:=p.ents++[t]})):=by
 have q:=cU (qU (s:=s) h he) ha (lY (j:=3) h rfl) (by rw[Sk];exact ee hl);rw[nq h (p':={p with ents:=p.ents++[t]}) (by simp only [Bx,List.map_append];rfl)] at q;exact q
theorem JC {t:Rw} (h:Rk σ m p) (hl:p.told.length<=1000) (he:Ev K e ρ σ (.p m 0)) (ha:Ev K a ρ σ (.d (vH t))):(bm a9 (key e 4 s) (aj a az)).ev K ρ σ=some (.ok (.d .none),σ.set m (pk {p with told:=p.told++[t]})):=by
 have q:=cU (Et (s:=s) h he) ha (lY (j:=4) h rfl) (by rw[Sk];exact ee hl);rw[nq h (p':={p with told:=p.told++[t]}) (by simp only [Bx,List.map_append];rfl)] at q;exact q
theorem JE (h:Rk σ m p) (hl:p.ends.length<=1000) (he:Ev K e ρ σ (.p m 0)) (ha:Ev K a ρ σ (.d (.int t))):(bm a9 (key e 5 s) (aj a az)).ev K ρ σ=some (.ok (.d .none),σ.set m (pk {p with ends:=p.ends++[t]})):=by
 have q:=cU (yG (s:=s) h he) ha (lY (j:=5) h rfl) (by rw[Sk];exact ee hl);rw[nq h (p':={p with ends:=p.ends++[t]}) (by simp only [Bx,List.map_append];rfl)] at q;exact q
theorem GL (h:Rk σ m p) (hl:p.backs.length<=1000) (he:Ev K e ρ σ (.p m 0)) (ha:Ev K a ρ σ (.d (.int t))):(bm a9 (key e 6 s) (aj a az)).ev K ρ σ=some (.ok (.d .none),σ.set m (pk {p with backs:=p.backs++[t]})):=by
 have q:=cU (pt (s:=s) h he) ha (lY (j:=6) h rfl) (by rw[Sk];exact ee hl);rw[nq h (p':={p with backs:=p.backs++[t]}) (by simp only [Bx,List.map_append];rfl)] at q;exact q
theorem kK {t:D} (h:Rk σ m p) (hl:p.deeds.length<=1000) (he:Ev K e ρ σ (.p m 0)) (ha:Ev K a ρ σ (.d t)):(bm a9 (key e 7 s) (aj a az)).ev K ρ σ=some (.ok (.d .none),σ.set m (pk {p with deeds:=p.deeds++[t]})):=by
 have q:=cU (Ak (s:=s) h he) ha (lY (j:=7) h rfl) (ee hl);rw[nq h (p':={p with deeds:=p.deeds++[t]}) rfl] at q;exact q
theorem jD (h:m<σ.length):Rk (σ.set m (pk p)) m p:=List.getElem?_set_self h
structure la (σ:aE) (m n:Nat) (p:Pl) (S:St):Prop where
 r:Rk σ m p
 b:Bk σ n S
 ne:m≠n
noncomputable def bb (σ:aE) (m n:Nat) (p:Pl) (S:St):aE:=(σ.set m (pk p)).set n (bk S)
theorem la.to (h:la σ m n p S) (p':Pl) (S':St):la (Mine.Internal.bb σ m n p' S') m n p' S':=by
 refine ⟨?_,?_,h.ne⟩
 .show ((σ.set m (pk p')).set n (bk S'))[m]? =_;rw[SS (Ne.symm h.ne)];exact jD h.r.lt
 .exact fx (by rw[SO];exact h.b.lt)
theorem M' {p1 p2:Pl} {S1 S2:St} (ne:m≠n):bb (bb σ m n p1 S1) m n p2 S2=bb σ m n p2 S2:=by
 unfold bb;rw[List.set_comm _ _ (Ne.symm ne),List.set_set,List.set_set]
theorem la.same (h:la σ m n p S):bb σ m n p S=σ:=by
 unfold bb;obtain ⟨hl,e⟩:=So.mp h.r;have:σ.set m (pk p)=σ:=by rw[<-e];exact List.set_getElem_self hl
 rw[this];exact h.b.same
theorem Li:(bb σ m n p S).length=σ.length:=by unfold bb;rw[SO,SO]
theorem n_:(bb σ m n p S).take σ.length=bb σ m n p S:=by
 have:=List.take_length (l:=bb σ m n p S);rw[Li] at this;exact this
theorem HY {l:List Int}:cZ (-1) (l.length+1)=some l.length/\((D.int (-1))::l.map D.int)[l.length]? =some (.int (cl l)):=by
 constructor
 .unfold cZ;rw[if_neg (by decide),if_pos (Qj)];congr 1;exact Mi
 .unfold cl;cases l with
  |nil=>rfl
  |cons a l=>
   rw[if_neg (by rw[Ss];exact Ow),Ss,List.getElem?_cons_succ,SE,Nat.add_sub_cancel,SG,Sp (by rw[Ss];exact Qi)];rfl
theorem g8 (h:Rk σ m p) (hl:p.ends.length<=900):CC (d+1) hd 70 [.p m 0] σ=some (.ok (.d (.int (cl p.ends))),σ):=by
 refine bf rfl rfl (ρ:=[qV m]) rfl (aW (aU (bQ (aX (bL (cl1 (EX rfl))) (yG h rfl) rfl (DL h) (KV (by rw[Sk];show 1+_<=_;exact Sv (S5 hl 1) (Sr rfl)))) (EX rfl) rfl rfl ?_))) (tk _);have q:=HY (l:=p.ends);have e:([D.int (-1)]++p.ends.map D.int).length=p.ends.length+1:=by rw[Sn,Sk];show 1+_=_;exact Qh
 rw[EM,aO (by decide),Sl,e,q.1,Sl];exact q.2
theorem mY {c:Int} (h:Rk σ m p) (hl:p.ends.length<=900) (h1: -1<=cl p.ends) (h2:cl p.ends<99999):∃ t,bW t/\cl p.ends<t/\∀ d σ,Rk σ m p->CC (d+2) false 71 [.p m 0,.d (.int c)] σ=some (.ok (.d (.int t)),σ):=by
 have q1:=aV (a:=c.fdiv 3) (b:=99999 - cl p.ends) (Int.sub_pos_of_lt h2);have q2:=aV (a:=c.fdiv 3) (b:=7) (by decide);by_cases z:c.fmod 3=0
 .exact ⟨cl p.ends+1+(c.fdiv 3).fmod (99999 - cl p.ends),⟨by exact Int.add_nonneg (Int.add_le_add_right h1 1) q1.1,Qg q1⟩,Qf q1,fun d σ h=>bf rfl rfl (ρ:=[qV m,iV c,none]) rfl (aa (aA (aB (cl1 rfl) (g8 h hl)) rfl) (aW (bo (av (iz rfl) rfl rfl rfl (k7 z)) (aW (aU (db (db rfl rfl) (aX (j_ rfl) rfl rfl rfl (iy (Int.sub_pos_of_lt h2) (SW (Int.sub_le_sub_left h1 99999) (by decide)))))))))) (tk _)⟩
 .exact ⟨min 99999 (cl p.ends+1+(c.fdiv 3).fmod 7),⟨by exact Int.le_min.mpr ⟨by decide,Int.add_nonneg (Int.add_le_add_right h1 1) q2.1⟩,Qe⟩,Qd h2 q2,fun d σ h=>bf rfl rfl (ρ:=[qV m,iV c,none]) rfl (aa (aA (aB (cl1 rfl) (g8 h hl)) rfl) (aa (a' (av (iz rfl) rfl rfl rfl (wQ z)) rfl) rfl)) (tk _)⟩
theorem mf {c:Int}:∃ t,(1<=t/\t<=4*10^29)/\∀ d hd σ,CC (d+1) hd 76 [.d (.int c)] σ=some (.ok (.d (.int t)),σ):=by
 have q1:=aV (a:=c.fdiv 4) (b:=4*10^29) (by decide);have q2:=aV (a:=c.fdiv 4) (b:=500) (by decide);by_cases z:c.fmod 4=0
 .exact ⟨1+(c.fdiv 4).fmod (4*10^29),⟨by exact Ti q1.1,Qb q1⟩,fun d hd σ=>bf rfl rfl rfl (aW (aU (db rfl (aX (j_ rfl) (pA (av (iz rfl) rfl rfl rfl (k7 z)) rfl) rfl rfl rfl)))) (tk _)⟩
 .exact ⟨1+(c.fdiv 4).fmod 500,⟨by exact Ti q2.1,by exact SV (Int.add_le_add_left (Tk q2.2) 1) (by decide)⟩,fun d hd σ=>bf rfl rfl rfl (aW (aU (db rfl (aX (j_ rfl) (pB (av (iz rfl) rfl rfl rfl (wQ z)) rfl) rfl rfl rfl)))) (tk _)⟩
theorem qP (h:Rk σ m p) (hl:p.ents.length<=1000) (he:Ev K e ρ σ (.p m 0)):Ev K (bi ba (aj (key e 3 s) az)) ρ σ (.d (.int p.ents.length)):=by
 have q:=iY (qU (s:=s) h he) (t7 h) (by rw[Sk];exact hl);rw[Sk] at q;exact q
theorem t9 (h:Rk σ m p) (hl:p.ents.length<=1000) (hs:ls.length<=1000):CC (d+1) false 73 [.p m 0,.d (.int t),.d (.str note),.d (.lst (ls.map bI)),.d (.int b)] σ=some (.ok (.d (.int (p.ents.length+1))),σ.set m (pk {p with ents:=p.ents++[⟨p.ents.length+1,t,note,ls,b⟩]})):=by
 have tp:jb.g false [.d (.lst (ls.map bI))] σ=some (.ok (.d (.tup (ls.map bI))),σ):=by
  show (ax ((ls.map bI).length<=dZ) (D.tup (ls.map bI))).map _=_;rw[aO (by rw[Sk];exact co hs)];rfl
 exact bf rfl rfl (ρ:=[qV m,iV t,sV note,dV (.lst (ls.map bI)),iV b,none]) rfl (aa (aA (db (qP h hl rfl) rfl) rfl) (aa (aK (JD (t:=⟨p.ents.length+1,t,note,ls,b⟩) h hl rfl (bZ (cW rfl (cW rfl (cW rfl (cW (cC (cl1 rfl) tp) (cl1 rfl)))))))) rfl)) iM
end
def JR (w:Tx):Prop:=w=bw∨j3 w
def CR:Dd->Prop
 | .acc a=>j3 a
 | .rate c n t b=>aZ c=true/\bW n/\(1<=t/\t<=10^9)/\(1<=b/\b<=10^9)
 | .entry n note ls=>bW n/\dF note/\ls.length<=60/\∀ l∈ls,JR l.1/\aZ l.2.1=true/\c8 l.2.2=true
 | .change n note g one a tk aM=>(bW n/\dF note)/\JR g/\aZ one=true/\c8 a=true/\JR tk/\aZ aM=true
 | .back k n=>(1<=k/\k<=1000)/\bW n
 | .close n=>bW n
noncomputable def Bw:Dd->D
 | .acc a=>mi a
 | .rate c n t b=>sT c n t b
 | .entry n note ls=>kg n note ls
 | .change n note g one a tk aM=>.tup [.str bG,.int n,.str g,.str one,.int a,.str tk,.str aM,.str note]
 | .back k n=>m7 k n
 | .close n=>fU n
inductive Hs (p:Pl) (S:St):Prop
 |mk (T more:List Tx) (ds:List Dd):p.first=T.length+1->p.names=bw::(T++more)->(∀ x∈T,j3 x)->p.deeds=ds.map Bw->(∀ x∈ds,CR x)->Rp (st0 S.home) (T.map .acc++ds) S->Hs p S
theorem Hs.snoc {x:Dd} (h:Hs p S) (ok:CR x) (dn:Dn x S S') (e1:p'.first=p.first) (e2:∃ m,p'.names=p.names++m) (e3:p'.deeds=p.deeds++[Bw x]) (e4:S'.home=S.home):Hs p' S':=by
 obtain ⟨T,more,ds,h1,h2,h3,h4,h5,h6⟩:=h;obtain ⟨m,e2⟩:=e2;refine ⟨T,more++m,ds++[x],e1.trans h1,by rw[e2,h2,List.cons_append,List.append_assoc],h3,by rw[e3,h4,List.map_append];rfl,fun y hy=> ?_,?_⟩
 .rcases SF.mp hy with hy|hy
  .exact h5 y hy
  .rw[Sq.mp hy];exact ok
 .rw[e4,<-List.append_assoc];exact h6.snoc dn
structure xj (N:List (List Nat)) (e:xl):Prop where
 l:∀ x∈e.lines,x.1∈N/\aZ x.2.1=true/\c8 x.2.2=true
 n:e.lines.length<=60
 z:∀ c,cp c e.lines=0
 t:dF e.note
 d:bW e.day
def Nr (l:List xl):Prop:=l.map (·.no)=(List.range l.length).map fun i=>((i:Nat):Int)+1
theorem Nr.snoc {l:List xl} {x:xl} (h:Nr l) (hx:x.no=l.length+1):Nr (l++[x]):=by
 unfold Nr at*;rw[List.map_append,h,Sn,Sw,List.range_succ,List.map_append];show _++[x.no]=_++[_];rw[hx]
def Lw (l:List Int):Prop:=(-1::l).Pairwise (· <·)/\∀ x∈l,x<=99999
theorem Lw.cl {l:List Int} (h:Lw l):∀ x∈ -1::l,x<=cl l:=by
 rcases List.eq_nil_or_concat l with rfl|⟨r,y,rfl⟩
 .intro x hx;rw[Sq.mp hx];exact Int.le_refl _
 .rw[List.concat_eq_append] at h ⊢;intro x hx;have e:Mine.Internal.cl (r++[y])=y:=by
   unfold Mine.Internal.cl;rw[Sn,Sw,if_neg (Ow),Nat.add_sub_cancel,SG,SK (Sy _),Nat.sub_self];rfl
  rw[e];have h1:=h.1;rw[<-List.cons_append,List.pairwise_append] at h1;rw[<-List.cons_append] at hx;rcases SF.mp hx with q|q
  .exact Tk (h1.2.2 x q y (.head _))
  .rw[Sq.mp q];exact Int.le_refl _
theorem Lw.snoc {l:List Int} (h:Lw l) (h1:Mine.Internal.cl l<t) (h2:t<=99999):Lw (l++[t]):=by
 refine ⟨?_,fun x hx=> ?_⟩
 .rw[<-List.cons_append,List.pairwise_append];exact ⟨h.1,List.pairwise_singleton _ _,fun a ha b hb=>by rw[Sq.mp hb];exact SW (h.cl a ha) h1⟩
 .rcases SF.mp hx with q|q
  .exact h.2 x q
  .rw[Sq.mp q];exact h2
structure Gd (N:Nat) (p:Pl) (S:St):Prop where
 names:S.names=p.names
 nm:∃ T,p.names=bw::T/\Lu T/\1<=T.length
 nl:p.names.length<=7
 nd:p.curs.Nodup
 ic:∀ c∈p.curs,aZ c=true
 c3:3<=p.curs.length
 c10:p.curs.length<=8
 home:p.curs[0]? =some S.home
 made:S.made=p.ents
 ends:S.ends=p.ends
 gone:S.gone=p.backs
 tell:∃ m,xg S p.told m
 rw:∀ x∈p.told,Ii x
 ent:∀ e∈p.ents,xj p.names e
 cl1: -1<=cl p.ends
 cl2:cl p.ends<=99999
 l1:p.ents.length<=N
 l2:p.told.length<=N
 l3:p.ends.length<=N
 l4:p.backs.length<=N
 l5:p.deeds.length<=N
 l6:S.deeds.length<=N
 cu:∀ e∈p.ents,∀ x∈e.lines,x.2.1∈p.curs
 nos:Nr p.ents
 inc:Lw p.ends
 hs:Hs p S
 tc:∀ x∈p.told,x.1∈p.curs
structure Gr (p p':Pl):Prop where
 e:∃ xs,p'.ents=p.ents++xs/\∀ x∈xs,cl p.ends<x.day
 t:∃ ys,p'.told=p.told++ys/\∀ y∈ys,cl p.ends<y.2.1
 k:∃ zs,p'.ends=p.ends++zs
 n:∃ ns,p'.names=p.names++ns
 x:p'.ex=p.ex
section
variable {p'':Pl} {x:xl} {y:Rw} {bs:List Int} {ds:List D}
theorem Ac {q:α->Prop}:∀ x∈([]:List α),q x:=fun _ h=>absurd h SI
theorem DT {q:α->Prop} {a:α} (h:q a):∀ x∈[a],q x:=fun x hx=>by rw[Sq.mp hx];exact h
theorem Gr.refl:Gr p p:=⟨⟨[],(List.append_nil _).symm,Ac⟩,⟨[],(List.append_nil _).symm,Ac⟩,⟨[],(List.append_nil _).symm⟩,⟨[],(List.append_nil _).symm⟩,rfl⟩
theorem Gr.ends:Gr p {p with ends:=p.ends++[t],deeds:=ds}:=have r:=Gr.refl (p:=p);⟨r.e,r.t,⟨_,rfl⟩,r.n,rfl⟩
theorem Gr.names {t:List Nat}:Gr p {p with names:=p.names++[t],deeds:=ds}:=have r:=Gr.refl (p:=p);⟨r.e,r.t,r.k,⟨_,rfl⟩,rfl⟩
theorem Gr.told (h:cl p.ends<y.2.1):Gr p {p with told:=p.told++[y],deeds:=ds}:=have r:=Gr.refl (p:=p);⟨r.e,⟨_,rfl,DT h⟩,r.k,r.n,rfl⟩
theorem Gr.ents (h:cl p.ends<x.day):Gr p {p with ents:=p.ents++[x],backs:=bs,deeds:=ds}:=have r:=Gr.refl (p:=p);⟨⟨_,rfl,DT h⟩,r.t,r.k,r.n,rfl⟩
theorem M2:∀ l:List Int,cl l∈ -1::l:=fun l=>by
 unfold cl;by_cases q:l.length=0
 .rw[if_pos q];exact .head _
 .rw[if_neg q,SG,Sp (Nat.sub_one_lt q)];exact .tail _ (List.getElem_mem _)
theorem Gr.cl (h:Gr p p') (i:Lw p'.ends):Mine.Internal.cl p.ends<=Mine.Internal.cl p'.ends:=by
 obtain ⟨zs,e⟩:=h.k;refine i.cl _ ?_;rw[e,<-List.cons_append];exact List.mem_append_left _ (M2 _)
theorem Gr.trans (h:Gr p p') (k:Gr p' p'') (i:Mine.Internal.cl p.ends<=Mine.Internal.cl p'.ends):Gr p p'':=by
 obtain ⟨⟨a1,b1,c1⟩,⟨a2,b2,c2⟩,⟨a3,b3⟩,⟨a4,b4⟩,a5⟩:=h;obtain ⟨⟨d1,e1,f1⟩,⟨d2,e2,f2⟩,⟨d3,e3⟩,⟨d4,e4⟩,d5⟩:=k;refine ⟨⟨a1++d1,by rw[e1,b1,List.append_assoc],fun x hx=> ?_⟩,⟨a2++d2,by rw[e2,b2,List.append_assoc],fun x hx=> ?_⟩,⟨a3++d3,by rw[e3,b3,List.append_assoc]⟩,⟨a4++d4,by rw[e4,b4,List.append_assoc]⟩,d5.trans a5⟩
 .exact (SF.mp hx).elim (c1 x) fun q=>SW i (f1 x q)
 .exact (SF.mp hx).elim (c2 x) fun q=>SW i (f2 x q)
end
structure Ke (p p':Pl):Prop where
 c:p'.curs=p.curs
 m:p'.most=p.most
 e:p'.ents.length<=p.ents.length+1
 g:Gr p p'
section
theorem kR {o:CO} {b:CE} {w:D} (h1:a.ev K ρ σ=some (.ok x,σ')) (h2:Ev K b ρ σ' y) (r1:rd σ' x=some u) (r2:rd σ' y=some w) (h:o.g u w=some q):(sH o a b).ev K ρ σ=some (.ok (.d (.bool q)),σ'):=aC h1 (aC h2 (aC (rE h r1 r2) rfl))
theorem Gd.sh (g:Gd N p S) (hN:N<=900):Sh S:=by
 obtain ⟨mm,T⟩:=g.tell;have:=g.nl;have:=g.l1;have:=g.l2;have:=g.l3;have:=g.l4;have:=g.l6;exact ⟨by rw[g.names];exact o3 (by assumption),by rw[T.k,Sk];have:=T.ml;exact Ro hN (by assumption) this,by rw[g.made];exact NG hN (by assumption),by rw[g.gone];exact NG hN (by assumption),by rw[g.ends];exact NG hN (by assumption),NG hN this⟩
theorem Gd.nmO (g:Gd N p S) {x:Tx} (h:x∈p.names):JR x:=by
 obtain ⟨T,e,q,_⟩:=g.nm;rw[e] at h;exact (Sm.mp h).imp id (q.nm x)
theorem Gd.mono (g:Gd N p S) {M:Nat} (h:N<=M):Gd M p S:={g with l1:=Sv g.l1 h,l2:=Sv g.l2 h,l3:=Sv g.l3 h,l4:=Sv g.l4 h,l5:=Sv g.l5 h,l6:=Sv g.l6 h}
theorem la.bm (h:la σ m n p S):Bk (σ.set m (pk p')) n S:=by
 show (σ.set m (pk p'))[n]? =_;rw[SS h.ne];exact h.b
theorem cg {l:List α} {x:α} (h:l.length<=N):(l++[x]).length<=N+1:=by rw[Sn];exact Tl h
theorem AT {l:List Int} {x:Int}:cl (l++[x])=x:=by
 unfold cl;rw[Sn,Sw,if_neg (Ow),Nat.add_sub_cancel,SG,SK (Sy _),Nat.sub_self];rfl
theorem xg.of {mm:List (List Nat×D)} (T:xg S rs mm) (h1:S'.tk=S.tk) (h2:S'.tv=S.tv):xg S' rs mm:=⟨by rw[h1];exact T.k,by rw[h2];exact T.v,T.d,T.ml⟩
theorem Dp {c:Int} (h:la σ m n p S) (g:Gd N p S) (hN:N<=800) (ho:cl p.ends<99999):∃ p' S',Gd (N+1) p' S'/\Ke p p'/\(p'.ents=p.ents/\∃ t,p'.ends=p.ends++[t])/\CC (d+4) false 72 [.p n 0,.p m 0,.d (.int c)] σ=some (.ok (.d (.bool true)),bb σ m n p' S'):=by
 obtain ⟨t,h1,h2,dr⟩:=mY (c:=c) h.r (o1 hN g.l3) g.cl1 ho;have sh:=g.sh (o6 hN);refine ⟨{p with ends:=p.ends++[t],deeds:=p.deeds++[fU t]},AM S t,?_,⟨rfl,rfl,S8 _,.ends⟩,⟨rfl,t,rfl⟩,?_⟩
 .exact {names:=g.names,nm:=g.nm,nl:=g.nl,nd:=g.nd,ic:=g.ic,c3:=g.c3,c10:=g.c10,home:=g.home,made:=g.made,ends:=by show S.ends++[t]=p.ends++[t];rw[g.ends],gone:=g.gone,tell:=⟨g.tell.choose,g.tell.choose_spec.of rfl rfl⟩,rw:=g.rw,ent:=g.ent,cl1:=by show -1<=cl (p.ends++[t]);rw[AT];have:=h1.1;omega,cl2:=by show cl (p.ends++[t])<=99999;rw[AT];exact h1.2,l1:=SP g.l1,l2:=SP g.l2,l3:=cg g.l3,l4:=SP g.l4,l5:=cg g.l5,l6:=cg g.l6,cu:=g.cu,nos:=g.nos,inc:=g.inc.snoc h2 h1.2,tc:=g.tc,hs:=g.hs.snoc (x:=.close t) h1 (fun d σ n b=>hH b (wY b sh h1 (by rw[g.ends];exact h2) (by rw[g.ends];have:=g.l3;omega))) rfl ⟨[],(List.append_nil _).symm⟩ rfl rfl}
 .have a1:=JE (K:=KK (d+3) false) (ρ:=[qV n,qV m,iV c,iV t]) (e:=ag 1) (a:=ag 3) (s:=TG) (t:=t) h.r (o0 hN g.l3) rfl rfl;have r1:Rk (σ.set m (pk {p with ends:=p.ends++[t]})) m {p with ends:=p.ends++[t]}:=jD h.r.lt;have a2:=kK (K:=KK (d+3) false) (ρ:=[qV n,qV m,iV c,iV t]) (e:=ag 1) (a:=cb (aj (au Tz) (aj (ag 3) az))) (s:=Tw) (t:=fU t) r1 (by have:=g.l5;show p.deeds.length<=_;exact o0 hN this) rfl (bZ rfl);rw[List.set_set] at a2;have b2:Bk (σ.set m (pk {p with ends:=p.ends++[t],deeds:=p.deeds++[fU t]})) n S:=h.bm;have cr:=wY (d:=d) b2 sh h1 (by rw[g.ends];exact h2) (by rw[g.ends];have:=g.l3;exact o1 hN this);have r3:Rk (bb σ m n {p with ends:=p.ends++[t],deeds:=p.deeds++[fU t]} (AM S t)) m {p with ends:=p.ends++[t],deeds:=p.deeds++[fU t]}:=(h.to _ _).r;have ln:Ev (KK (d+3) false) (bi ba (aj (key (ag 1) 5 TG) az)) [qV n,qV m,iV c,iV t] (bb σ m n {p with ends:=p.ends++[t],deeds:=p.deeds++[fU t]} (AM S t)) (.d (.int (S.ends.length+1))):=by
   have q:=iY (K:=KK (d+3) false) (ρ:=[qV n,qV m,iV c,iV t]) (yG (e:=ag 1) (s:=TG) r3 rfl) (DL r3) (by rw[Sk];show (p.ends++[t]).length<=_;rw[Sn,Sw];have:=g.l3;exact SM this (SM hN (Sr rfl)));rw[Sk] at q;rw[g.ends];have e:(((p.ends++[t]).length:Nat):Int)=(p.ends.length:Int)+1:=by rw[Sn,Sw];rfl
   rw[<-e];exact q
  exact bf rfl rfl (ρ:=[qV n,qV m,iV c,none]) rfl (aa (aA (eI (dr (d+1) _ h.r) rfl) rfl) (aa (aK a1) (aa (aK a2) (aW (aU (kR (bq b2 rfl rfl cr) ln rfl rfl (k7 rfl))))))) n_
theorem yE {c:Int} (h:la σ m n p S) (g:Gd N p S) (hN:N<=800):∃ p' S',Gd (N+1) p' S'/\Ke p p'/\CC (d+3) false 79 [.p n 0,.p m 0,.d (.int c)] σ=some (.ok (.d (.bool true)),bb σ m n p' S'):=by
 obtain ⟨t,ht,hf,nr⟩:=qi (d:=d+1) (σ:=σ) (n:=c);have sh:=g.sh (o6 hN);have ln:Ev (KK (d+2) false) (bi ba (aj (key (ag 1) 0 Tu) az)) [qV n,qV m,iV c,sV t] σ (.d (.int p.names.length)):=by
  have q:=iY (K:=KK (d+2) false) (ρ:=[qV n,qV m,iV c,sV t]) (fH (e:=ag 1) (s:=Tu) h.r rfl) (fE h.r) (by rw[Sk];have:=g.nl;exact o3 this);rw[Sk] at q;exact q
 by_cases z1:t∈p.names
 .refine ⟨p,S,g.mono (S8 _),⟨rfl,rfl,S8 _,.refl⟩,?_⟩;rw[h.same];exact bf rfl rfl (ρ:=[qV n,qV m,iV c,none]) rfl (aa (aA (aB rfl nr) rfl) (aW (bo (bz (eY (av rfl (fH h.r rfl) rfl (fE h.r) (Ca z1)))) rfl))) (tk _)
 by_cases z2:(6:Int)<p.names.length
 .refine ⟨p,S,g.mono (S8 _),⟨rfl,rfl,S8 _,.refl⟩,?_⟩;rw[h.same];exact bf rfl rfl (ρ:=[qV n,qV m,iV c,none]) rfl (aa (aA (aB rfl nr) rfl) (aW (bo (bz (bM (av rfl (fH h.r rfl) rfl (fE h.r) (wC z1)) (eY (av ln rfl rfl rfl (uG z2))))) rfl))) (tk _)
 refine ⟨{p with names:=p.names++[t],deeds:=p.deeds++[mi t]},mh S t,?_,⟨rfl,rfl,S8 _,.names⟩,?_⟩
 .obtain ⟨T,e1,e2,e3⟩:=g.nm;refine {names:=by show S.names++[t]=p.names++[t];rw[g.names],nm:=⟨T++[t],by show p.names++[t]=_;rw[e1];rfl,⟨?_,?_,fun x hx=> ?_,fun q=> ?_⟩,by rw[Sn];omega⟩,nl:=by show (p.names++[t]).length<=7;rw[Sn,Sw];omega,nd:=g.nd,ic:=g.ic,c3:=g.c3,c10:=g.c10,home:=g.home,made:=g.made,ends:=g.ends,gone:=g.gone,tell:=⟨g.tell.choose,g.tell.choose_spec.of rfl rfl⟩,rw:=g.rw,ent:=fun e he=> ?_,cl1:=g.cl1,cl2:=g.cl2,l1:=SP g.l1,l2:=SP g.l2,l3:=SP g.l3,l4:=SP g.l4,l5:=cg g.l5,l6:=cg g.l6,cu:=g.cu,nos:=g.nos,inc:=g.inc,tc:=g.tc,hs:=g.hs.snoc (x:=.acc t) ht (fun d σ n b=>hH b (nc b sh ht (by rw[g.names];exact z1))) rfl ⟨_,rfl⟩ rfl rfl}
  .exact List.nodup_append.mpr ⟨e2.nd,S9.mpr ⟨SI,Tb⟩,fun a ha c hc=>by rw[Sq.mp hc];rintro rfl;exact z1 (by rw[e1];exact .tail _ ha)⟩
  .intro q;rcases SF.mp q with q|q
   .exact e2.ne q
   .exact z1 (by rw[<-Sq.mp q,e1];exact .head _)
  .rcases SF.mp hx with q|q
   .exact e2.nm x q
   .rw[Sq.mp q];exact ht
  .rcases SF.mp q with q|q
   .exact e2.st q
   .exact zf hf (Sq.mp q).symm
  .have q:=g.ent e he;exact ⟨fun x hx=>⟨List.mem_append_left _ (q.l x hx).1,(q.l x hx).2⟩,q.n,q.z,q.t,q.d⟩
 .have a1:=GK (K:=KK (d+2) false) (ρ:=[qV n,qV m,iV c,sV t]) (e:=ag 1) (a:=ag 3) (s:=Tu) (t:=t) h.r (by have:=g.nl;exact Sv (SZ.mp (Tp.mp z2)) (by decide)) rfl rfl;have r1:Rk (σ.set m (pk {p with names:=p.names++[t]})) m {p with names:=p.names++[t]}:=jD h.r.lt;have a2:=kK (K:=KK (d+2) false) (ρ:=[qV n,qV m,iV c,sV t]) (e:=ag 1) (a:=cb (aj (au TD) (aj (ag 3) az))) (s:=Tw) (t:=mi t) r1 (by have:=g.l5;show p.deeds.length<=_;exact o0 hN this) rfl (bZ rfl);rw[List.set_set] at a2;have b2:Bk (σ.set m (pk {p with names:=p.names++[t],deeds:=p.deeds++[mi t]})) n S:=h.bm;have ar:=nc (d:=d) b2 sh ht (by rw[g.names];exact z1);exact bf rfl rfl (ρ:=[qV n,qV m,iV c,none]) rfl (aa (aA (aB rfl nr) rfl) (aa (a' (bz (bM (av rfl (fH h.r rfl) rfl (fE h.r) (wC z1)) (bM (av ln rfl rfl rfl (oO z2)) rfl))) rfl) (aa (aK a1) (aa (aK a2) (aW (aU (kR (bq b2 rfl rfl ar) rfl rfl rfl rfl))))))) n_
end
section
theorem qQ (h:Rk σ m p) (hl:p.curs.length<=1000) (he:Ev K e ρ σ (.p m 0)):Ev K (bi ba (aj (key e 2 s) az)) ρ σ (.d (.int p.curs.length)):=Hb (i0 h he) hl
theorem s_ (h:Rk σ m p) (hl:p.names.length<=1000) (he:Ev K e ρ σ (.p m 0)):Ev K (bi ba (aj (key e 0 s) az)) ρ σ (.d (.int p.names.length)):=by
 have q:=iY (fH (s:=s) h he) (fE h) (by rw[Sk];exact hl);rw[Sk] at q;exact q
theorem BW {c k:Int} (h:la σ m n p S) (g:Gd N p S) (hN:N<=800) (ho:cl p.ends<99999):∃ p' S',Gd (N+1) p' S'/\Ke p p'/\CC (d+4) false 78 [.p n 0,.p m 0,.d (.int c),.d (.int k)] σ=some (.ok (.d (.bool true)),bb σ m n p' S'):=by
 refine bu fun G9 k9=> ?_;obtain ⟨t,h1,h2,dr⟩:=mY (c:=c) h.r (o1 hN g.l3) g.cl1 ho;refine k9 ?_;have c3:=g.c3;have c10:=g.c10;have q:=aV (a:=k) (b:=p.curs.length - 1) (NF c3);have hk:1+(k.fmod (p.curs.length - 1)).toNat<p.curs.length:=Qa q;generalize hu:p.curs[1+(k.fmod (p.curs.length - 1)).toNat]=u;have um:u∈p.curs:=hu ▸ List.getElem_mem hk;have un:u≠S.home:=fun z=>by
  have h0:=g.home;obtain ⟨l0,e0⟩:=So.mp h0;have:=(List.getElem_inj g.nd (h₀:=l0) (h₁:=hk)).mp (by rw[e0,hu,z]);omega
 have e5:Ev (KK (d+3) false) (sub (key (ag 1) 2 Tt) (aJ aH (ai 1) (aJ bv (ag 3) (aJ dw (bi ba (aj (key (ag 1) 2 Tt) az)) (ai 1))))) [qV n,qV m,iV c,iV k,iV t,none,none] σ (.d (.str u)):=by
  refine bQ (i0 h.r rfl) (db rfl (aX rfl (aX (qQ h.r (LC c10) rfl) rfl rfl rfl rfl) rfl rfl (iy (NF c3) (Ri c10)))) rfl rfl ?_;rw[show (1:Int)+k.fmod (p.curs.length - 1)=((1+(k.fmod (p.curs.length - 1)).toNat:Nat):Int) by exact P_ q];exact fc (by rw[SE,Sp hk,hu];rfl) (Sv (S3 hk) (Sv c10 (by decide)))
 have f1:=aV (a:=k.fdiv 2) (b:=10^9) (by decide);have f2:=aV (a:=c.fdiv 7) (b:=10^9) (by decide);have f3:=aV (a:=k.fdiv 2) (b:=40) (by decide);have f4:=aV (a:=c.fdiv 7) (b:=40) (by decide);refine bu fun G9 k9=> ?_;obtain ⟨x,y,hx,hy,s4⟩:∃ x y,(1<=x/\x<=10^9)/\(1<=y/\y<=10^9)/\qk.ex (KK (d+3) false) [qV n,qV m,iV c,iV k,iV t,sV u,dV (vH (u,t,1+(k.fdiv 2).fmod (10^9),1+(c.fdiv 7).fmod (10^9)))] σ=some (.next [qV n,qV m,iV c,iV k,iV t,sV u,dV (vH (u,t,x,y))],σ):=by
  by_cases z:0<(k.fdiv 3).fmod 3
  .exact ⟨1+(k.fdiv 2).fmod 40,1+(c.fdiv 7).fmod 40,Rh f3,Rh f4,bo (av (iz (j_ rfl)) rfl rfl rfl (uG z)) rfl⟩
  .exact ⟨_,_,Rg f1,Rg f2,a' (av (iz (j_ rfl)) rfl rfl rfl (oO z)) rfl⟩
 obtain ⟨mm,T⟩:=g.tell;obtain ⟨ks,vs,m',T',run⟩:=vq T (g.sh (by omega)) (g.ic u um) h1 (by show cl S.ends<t;rw[g.ends];exact h2) un hx hy (by have:=g.l2;omega);refine k9 ?_;refine ⟨{p with told:=p.told++[(u,t,x,y)],deeds:=p.deeds++[sT u t x y]},told S u t x y ks vs,?_,⟨rfl,rfl,S8 _,.told h2⟩,?_⟩
 .have tc':∀ x'∈p.told++[(u,t,x,y)],x'.1∈p.curs:=fun z hz=>by
   rcases SF.mp hz with hz|hz
   .exact g.tc z hz
   .rw[Sq.mp hz];exact um
  have rw':∀ x'∈p.told++[(u,t,x,y)],Ii x':=fun z hz=>by
   rcases SF.mp hz with hz|hz
   .exact g.rw z hz
   .rw[Sq.mp hz];exact ⟨hx,hy⟩
  exact {names:=g.names,nm:=g.nm,nl:=g.nl,nd:=g.nd,ic:=g.ic,c3:=g.c3,c10:=g.c10,home:=g.home,made:=g.made,ends:=g.ends,gone:=g.gone,tell:=⟨m',T'⟩,rw:=rw',ent:=g.ent,cl1:=g.cl1,cl2:=g.cl2,l1:=SP g.l1,l2:=cg g.l2,l3:=SP g.l3,l4:=SP g.l4,l5:=cg g.l5,l6:=cg g.l6,cu:=g.cu,nos:=g.nos,inc:=g.inc,tc:=tc',hs:=g.hs.snoc (x:=.rate u t x y) ⟨g.ic u um,h1,hx,hy⟩ (fun d σ n b=>hH b (run d σ n b)) rfl ⟨[],(List.append_nil _).symm⟩ rfl rfl}
 .have a1:=JC (K:=KK (d+3) false) (ρ:=[qV n,qV m,iV c,iV k,iV t,sV u,dV (vH (u,t,x,y))]) (e:=ag 1) (a:=ag 6) (s:=[116,111,108,100]) (t:=(u,t,x,y)) h.r (o0 hN g.l2) rfl rfl;have r1:Rk (σ.set m (pk {p with told:=p.told++[(u,t,x,y)]})) m {p with told:=p.told++[(u,t,x,y)]}:=jD h.r.lt;have a2:=kK (K:=KK (d+3) false) (ρ:=[qV n,qV m,iV c,iV k,iV t,sV u,dV (vH (u,t,x,y))]) (e:=ag 1) (a:=cb (aj (au TA) (aj (sub (ag 6) (ai 0)) (aj (ag 4) (aj (sub (ag 6) (ai 2)) (aj (sub (ag 6) (ai 3)) az)))))) (s:=Tw) (t:=sT u t x y) r1 (by have:=g.l5;show p.deeds.length<=_;exact o0 hN this) rfl (bZ rfl);rw[List.set_set] at a2;have b2:Bk (σ.set m (pk {p with told:=p.told++[(u,t,x,y)],deeds:=p.deeds++[sT u t x y]})) n S:=h.bm;have tr:=run d _ n b2;exact bf rfl rfl (ρ:=[qV n,qV m,iV c,iV k,none,none,none]) rfl (aa (aA (eI (dr (d+1) _ h.r) rfl) rfl) (aa (aA e5 rfl) (aa rfl (aa s4 (aa (aK a1) (aa (aK a2) (aW (aU (kR (bq b2 rfl rfl tr) rfl rfl rfl rfl))))))))) n_
theorem zt {c:List Nat}:∀ ls:List cw,cp c (ls.map fQ)= - cp c ls:=by
 intro ls
 induction ls with
 |nil=>
  exact rfl
 |cons l ls ih=>
  have ih:=ih;unfold cp at ih ⊢;rw[List.map_cons];by_cases q:l.2.1=c
  .rw[ST (p:=fun l:cw=>decide (l.2.1=c)) (a:=fQ l) (SC q),ST (p:=fun l:cw=>decide (l.2.1=c)) (SC q),List.map_cons,List.map_cons,List.sum_cons,List.sum_cons,ih,Int.neg_add];rfl
  .rw[List.filter_cons_of_neg (p:=fun l:cw=>decide (l.2.1=c)) (a:=fQ l) (by rw[decide_eq_true_eq];exact q),List.filter_cons_of_neg (p:=fun l:cw=>decide (l.2.1=c)) (by rw[decide_eq_true_eq];exact q),ih]
theorem vd {a:Int} (h:c8 a=true):c8 (-a)=true:=by
 unfold c8 at h ⊢;have h1:=S6 (ah h);have h2:=S6 (ah (aq h));have h3:=S6 (aq (aq h));rw[SC (show -a≠0 by exact Int.neg_ne_zero.mpr h1),SC (show -(10^30)< -a by exact Int.neg_lt_neg h3),SC (show -a<10^30 by exact Int.neg_lt_of_neg_lt h2)];rfl
theorem As {a:Int} {ns:List Int}:D.int a∈ns.map D.int<->a∈ns:=by
 constructor
 .intro h;obtain ⟨b,hb,e⟩:=SD.mp h;cases e;exact hb
 .exact fun h=>List.mem_map_of_mem h
theorem Ax {a:Int} {ns:List Int}:KH (.int a) (.lst (ns.map .int))=some (@decide (D.int a∈ns.map D.int) (Classical.propDecidable _)):=by
 have h:(pl 8 (.int a)&&(ns.map D.int).all (pl 8))=true:=Bool.and_eq_true_iff.mpr ⟨rfl,List.all_eq_true.mpr fun x hx=>by
  obtain ⟨b,_,e⟩:=SD.mp hx;rw[<-e];rfl⟩
 unfold KH;show ax _ _=_;unfold ax;rw[if_pos h];congr
theorem MM {a:Int} {ns:List Int} (h:a∈ns):F4.g (.int a) (.lst (ns.map .int))=some true:=Ax.trans (congrArg some (@SC _ (_) (As.mpr h)))
theorem IQ {a:Int} {ns:List Int} (h:a∉ns):F4.g (.int a) (.lst (ns.map .int))=some false:=Ax.trans (congrArg some (@Tf _ (_) fun q=>h (As.mp q)))
theorem LW (e:xl):pl 7 (sF e)=true:=by
 have:(e.lines.map bI).all (pl 5)=true:=List.all_eq_true.mpr fun x hx=>by
  obtain ⟨l,_,q⟩:=SD.mp hx;rw[<-q];rfl
 show (true&&(true&&(true&&((e.lines.map bI).all (pl 5)&&(true&&true)))))=true;rw[this];rfl
theorem JB (l:List xl):pl 8 (.lst (l.map sF))=true:=List.all_eq_true.mpr fun x hx=>by
 obtain ⟨y,_,e⟩:=SD.mp hx;rw[<-e];exact LW y
theorem E2 {l:List xl} (h:l≠[]):fh.g (.lst (l.map sF)) (.lst [])=some false:=MV (fun z=>h (by injection z with z;exact List.map_eq_nil_iff.mp z)) (JB l) rfl rfl
theorem sk {c k:Int} (h:la σ m n p S) (g:Gd N p S) (hN:N<=800) (ho:cl p.ends<99999):∃ p' S',Gd (N+1) p' S'/\Ke p p'/\CC (d+4) false 74 [.p n 0,.p m 0,.d (.int c),.d (.int k)] σ=some (.ok (.d (.bool true)),bb σ m n p' S'):=by
 have sh:=g.sh (o6 hN);have el:=g.l1;have le:∀ x4,Ev (KK (d+3) false) (bi ba (aj (key (ag 1) 3 Tv) az)) [qV n,qV m,iV c,iV k,x4,none,none,none,none,none] σ (.d (.int p.ents.length)):=fun x4=>qP h.r (o0 hN el) rfl;by_cases z0:p.ents=[]
 .refine ⟨p,S,g.mono (S8 _),⟨rfl,rfl,S8 _,.refl⟩,?_⟩;rw[h.same];have e4:Ev (KK (d+3) false) (aJ aH (ai 1) (aJ bv (ag 3) (bi AH (aj (ai 1) (aj (bi ba (aj (key (ag 1) 3 Tv) az)) az))))) [qV n,qV m,iV c,iV k,none,none,none,none,none,none] σ (.d (.int (1+k.fmod (max 1 p.ents.length)))):=db rfl (aX rfl (cC (cW rfl (cl1 (le none))) rfl) rfl rfl (iy (Rf) (Re hN el)));exact bf rfl rfl (ρ:=[qV n,qV m,iV c,iV k,none,none,none,none,none,none]) rfl (aa (aA e4 rfl) (aW (bo (bz (eY (av (qU h.r rfl) (bL rfl) (t7 h.r) rfl (by rw[z0];exact MU rfl rfl rfl)))) rfl))) (tk _)
 have ep:0<p.ents.length:=List.length_pos_iff.mpr z0;have q:=aV (a:=k) (b:=p.ents.length) (LA ep);have hk:(k.fmod p.ents.length).toNat<p.ents.length:=by exact (Int.toNat_lt q.1).mpr q.2
 generalize hj:(k.fmod p.ents.length).toNat=j at hk;have kj:(1:Int)+k.fmod (max 1 p.ents.length)=(j:Int)+1:=by
  rw[show max (1:Int) p.ents.length=p.ents.length by exact Int.max_eq_right (SZ.mpr ep)];exact P9 q hj
 have e4:Ev (KK (d+3) false) (aJ aH (ai 1) (aJ bv (ag 3) (bi AH (aj (ai 1) (aj (bi ba (aj (key (ag 1) 3 Tv) az)) az))))) [qV n,qV m,iV c,iV k,none,none,none,none,none,none] σ (.d (.int (j+1))):=by
  have e:=db (K:=KK (d+3) false) (ρ:=[qV n,qV m,iV c,iV k,none,none,none,none,none,none]) (σ:=σ) (a:=ai 1) (x:=1) (b:=aJ bv (ag 3) (bi AH (aj (ai 1) (aj (bi ba (aj (key (ag 1) 3 Tv) az)) az)))) (y:=k.fmod (max 1 p.ents.length)) rfl (aX rfl (cC (cW rfl (cl1 (le none))) rfl) rfl rfl (iy (Rf) (Re hN el)));rw[kj] at e;exact e
 have ej:p.ents[j]? =some p.ents[j]:=Sp hk;generalize p.ents[j]=E at ej;have Em:E∈p.ents:=SR ej;have eE:∀ x5 x6 x7 x8,Ev (KK (d+3) false) (sub (key (ag 1) 3 Tv) (aJ dw (ag 4) (ai 1))) [qV n,qV m,iV c,iV k,iV (j+1),x5,x6,x7,x8,none] σ (.d (sF E)):=fun x5 x6 x7 x8=>by
  refine bQ (qU h.r rfl) rfl (t7 h.r) rfl (w:=.int ((j:Int)+1 - 1)) ?_;rw[Int.add_sub_cancel];exact fc (by rw[SE,ej];rfl) (Sv (S3 hk) (Sv el (Sv hN (by decide))))
 have ne:Ts (KK (d+3) false) (a8 fh (key (ag 1) 3 Tv) (bH az)) [qV n,qV m,iV c,iV k,iV (j+1),none,none,none,none,none] σ false:=av (qU h.r rfl) (bL rfl) (t7 h.r) rfl (E2 z0);by_cases z1:((j:Int)+1)∈p.backs
 .refine ⟨p,S,g.mono (S8 _),⟨rfl,rfl,S8 _,.refl⟩,?_⟩;rw[h.same];exact bf rfl rfl (ρ:=[qV n,qV m,iV c,iV k,none,none,none,none,none,none]) rfl (aa (aA e4 rfl) (aW (bo (bz (bM ne (eY (av rfl (pt h.r rfl) rfl (t8 h.r) (MM z1))))) rfl))) (tk _)
 by_cases z2:E.back=0
 case neg=>
  refine ⟨p,S,g.mono (S8 _),⟨rfl,rfl,S8 _,.refl⟩,?_⟩;rw[h.same];exact bf rfl rfl (ρ:=[qV n,qV m,iV c,iV k,none,none,none,none,none,none]) rfl (aa (aA e4 rfl) (aW (bo (bz (bM ne (bM (av rfl (pt h.r rfl) rfl (t8 h.r) (IQ z1)) (eY (av (bQ (eE _ _ _ _) rfl rfl rfl (rc (k:=4) rfl)) rfl rfl rfl (D3 z2)))))) rfl))) (tk _)
 refine bu fun G9 k9=> ?_;obtain ⟨t,h1,h2,dr⟩:=mY (c:=c) h.r (o1 hN g.l3) g.cl1 ho;refine k9 ?_;have Eo:=g.ent E Em;have E6:=Eo.n;refine ⟨{p with ents:=p.ents++[⟨p.ents.length+1,t,E.note,E.lines.map fQ,j+1⟩],backs:=p.backs++[(j:Int)+1],deeds:=p.deeds++[m7 (j+1) t]},FK S j E t,?_,⟨rfl,rfl,Td Sn,.ents h2⟩,?_⟩
 .have en:∀ e∈p.ents++[⟨p.ents.length+1,t,E.note,E.lines.map fQ,j+1⟩],xj p.names e:=fun e he=>by
   rcases SF.mp he with he|he
   .exact g.ent e he
   .rw[Sq.mp he];refine ⟨fun x hx=> ?_,by show (E.lines.map fQ).length<=60;rw[Sk];exact E6,fun c=>by show cp c (E.lines.map fQ)=0;rw[zt,Eo.z];rfl,Eo.t,h1⟩;obtain ⟨y,hy,rfl⟩:=SD.mp hx;have:=Eo.l y hy;exact ⟨this.1,this.2.1,vd this.2.2⟩
  have cu:∀ e∈p.ents++[⟨p.ents.length+1,t,E.note,E.lines.map fQ,j+1⟩],∀ x∈e.lines,x.2.1∈p.curs:=fun e he x hx=>by
   rcases SF.mp he with he|he
   .exact g.cu e he x hx
   .rw[Sq.mp he] at hx;obtain ⟨y,hy,rfl⟩:=SD.mp hx;exact g.cu E Em y hy
  exact {names:=g.names,nm:=g.nm,nl:=g.nl,nd:=g.nd,ic:=g.ic,c3:=g.c3,c10:=g.c10,home:=g.home,made:=by show S.made++[⟨S.made.length+1,t,E.note,E.lines.map fQ,j+1⟩]=_;rw[g.made],ends:=g.ends,gone:=by show S.gone++[(j:Int)+1]=_;rw[g.gone],tell:=⟨g.tell.choose,g.tell.choose_spec.of rfl rfl⟩,rw:=g.rw,ent:=en,cl1:=g.cl1,cl2:=g.cl2,l1:=cg g.l1,l2:=SP g.l2,l3:=SP g.l3,l4:=cg g.l4,l5:=cg g.l5,l6:=cg g.l6,cu:=cu,nos:=g.nos.snoc rfl,inc:=g.inc,tc:=g.tc,hs:=g.hs.snoc (x:=.back (j+1) t) ⟨⟨by omega,by omega⟩,h1⟩ (fun d σ n b=>hH b (oy (k:=j) (e:=E) b sh (by rw[g.made];exact ej) z2 (by omega) (by rw[g.gone];exact z1) h1 (by rw[g.ends];exact h2))) rfl ⟨[],(List.append_nil _).symm⟩ rfl rfl}
 .have cm:jV.ex (KK (d+3) false) [qV n,qV m,iV c,iV k,iV (j+1),dV (sF E),iV t,none,none,none] σ=some (.next [qV n,qV m,iV c,iV k,iV (j+1),dV (sF E),iV t,dV (.lst ((E.lines.map fQ).map bI)),none,none],σ):=by
   refine vG (nT rfl rfl (gO bI (fun l=>.tup [.str l.1,.str l.2.1,.int (0 - l.2.2)]) E.lines [] (fun l hl=>bZ rfl) (by rw[Te];exact P8 E6)) rfl) ?_;rw[List.nil_append,List.map_map];have:(E.lines.map fun l=>D.tup [.str l.1,.str l.2.1,.int (0 - l.2.2)])=E.lines.map (bI ∘ fQ):=List.map_congr_left fun l _=>by rw[Int.zero_sub];rfl
   rw[this];rfl
  have pr:=t9 (d:=d+2) (t:=t) (b:=j+1) (note:=E.note) (ls:=E.lines.map fQ) h.r (o0 hN el) (by rw[Sk];exact Sv (E6) (Sr rfl));have r1:Rk (σ.set m (pk {p with ents:=p.ents++[⟨p.ents.length+1,t,E.note,E.lines.map fQ,j+1⟩]})) m {p with ents:=p.ents++[⟨p.ents.length+1,t,E.note,E.lines.map fQ,j+1⟩]}:=jD h.r.lt;have a1:=GL (K:=KK (d+3) false) (ρ:=[qV n,qV m,iV c,iV k,iV (j+1),dV (sF E),iV t,dV (.lst ((E.lines.map fQ).map bI)),iV (p.ents.length+1),none]) (e:=ag 1) (a:=ag 4) (s:=[98,97,99,107,115]) (t:=(j:Int)+1) r1 (by have:=g.l4;show p.backs.length<=_;exact o0 hN this) rfl rfl;rw[List.set_set] at a1;have r2:Rk (σ.set m (pk {p with ents:=p.ents++[⟨p.ents.length+1,t,E.note,E.lines.map fQ,j+1⟩],backs:=p.backs++[(j:Int)+1]})) m {p with ents:=p.ents++[⟨p.ents.length+1,t,E.note,E.lines.map fQ,j+1⟩],backs:=p.backs++[(j:Int)+1]}:=jD h.r.lt;have a2:=kK (K:=KK (d+3) false) (ρ:=[qV n,qV m,iV c,iV k,iV (j+1),dV (sF E),iV t,dV (.lst ((E.lines.map fQ).map bI)),iV (p.ents.length+1),none]) (e:=ag 1) (a:=cb (aj (au TC) (aj (ag 4) (aj (ag 6) az)))) (s:=Tw) (t:=m7 (j+1) t) r2 (by have:=g.l5;show p.deeds.length<=_;exact o0 hN this) rfl (bZ rfl);rw[List.set_set] at a2;have b2:Bk (σ.set m (pk {p with ents:=p.ents++[⟨p.ents.length+1,t,E.note,E.lines.map fQ,j+1⟩],backs:=p.backs++[(j:Int)+1],deeds:=p.deeds++[m7 (j+1) t]})) n S:=h.bm;have cr:=oy (d:=d) (k:=j) (e:=E) b2 sh (by rw[g.made];exact ej) z2 (Sv (E6) (Sr rfl)) (by rw[g.gone];exact z1) h1 (by rw[g.ends];exact h2);exact bf rfl rfl (ρ:=[qV n,qV m,iV c,iV k,none,none,none,none,none,none]) rfl (aa (aA e4 rfl) (aa (a' (bz (bM ne (bM (av rfl (pt h.r rfl) rfl (t8 h.r) (IQ z1)) (bM (av (bQ (eE _ _ _ _) rfl rfl rfl (rc (k:=4) rfl)) rfl rfl rfl (D4 z2)) rfl)))) rfl) (aa (aA (eE _ _ _ _) rfl) (aa (aA (aB rfl (dr (d+1) _ h.r)) rfl) (aa cm (aa (aA (aB rfl pr) rfl) (aa (aK a1) (aa (aK a2) (aW (aU (kR (bq b2 rfl rfl cr) rfl rfl rfl (k7 (by rw[g.made]))))))))))))) n_
end
noncomputable def NY (o:Option Rw):D:=o.elim .none Gh
theorem cS {c:List Nat} {l:cw}:cp c (l::ls)=(if l.2.1=c then l.2.2 else 0)+cp c ls:=by
 unfold cp;by_cases q:l.2.1=c
 .rw[if_pos q,ST (p:=fun l:cw=>decide (l.2.1=c)) (SC q),List.map_cons,List.sum_cons]
 .rw[if_neg q,List.filter_cons_of_neg (p:=fun l:cw=>decide (l.2.1=c)) (by rw[decide_eq_true_eq];exact q),Int.zero_add]
theorem JY {a k:Int} (h1:0<k) (h2:k<M):a.fmod M≠(a+k).fmod M:=by
 have hM:0<=M:=by exact SV (by decide) (SW h1 h2)
 rw[Int.fmod_eq_emod_of_nonneg a hM,Int.fmod_eq_emod_of_nonneg (a+k) hM];intro h;have e1:=Int.emod_add_mul_ediv a M;have e2:=Int.emod_add_mul_ediv (a+k) M;generalize a / M=x at e1;generalize (a+k) / M=y at e2;rw[h] at e1;have e3:M*(y - x)=k:=by rw[Int.mul_sub];exact P7 e1 e2
 rcases Int.lt_or_le (y - x) 1 with q|q
 .have:M*(y - x)<=M*0:=Int.mul_le_mul_of_nonneg_left (Int.le_iff_lt_add_one.mpr q) hM;rw[Int.mul_zero] at this;exact P6 h1 e3 this
 .have:M*1<=M*(y - x):=Int.mul_le_mul_of_nonneg_left q hM;rw[Int.mul_one] at this;exact P5 h2 e3 this
section
variable {h c:List Nat}
theorem sZ (R:Rk σ m p) (hh:p.curs[0]? =some h) (hr:p.told.length<=900):CC (d+1) false 75 [.p m 0,.d (.str c),.d (.int t)] σ=some (.ok (.d (NY (hW h p.told c t))),σ):=by
 unfold hW;have e0:Ev (KK d false) (sub (key (ag 0) 2 Tt) (ai 0)) [qV m,sV c,iV t,none,none] σ (.d (.str h)):=bQ (i0 R rfl) rfl rfl rfl (fc (k:=0) (by rw[SE,hh];rfl));by_cases q:c=h
 .rw[if_pos q];exact bf rfl rfl (ρ:=[qV m,sV c,iV t,none,none]) rfl (aW (bo (av rfl e0 rfl rfl (iA q)) rfl)) (tk _)
 .rw[if_neg q];obtain ⟨c',lp⟩:=Hw (σ:=σ) (v:=.p m 6) (x:=.lst (p.told.map vH)) (i:=4) (b:=fun ρ=>jO.ex (KK d false) ρ) vH (fun (o:Option Rw) (x4:Option PV)=>[qV m,sV c,iV t,dV (Jt o),x4]) (oH c t) (mA (DK R)) p.told (fun o x4 x _=>by
   refine ⟨dV (vH x),?_⟩;have a0:∀ o,Ev (KK d false) (sub (ag 4) (ai 0)) [qV m,sV c,iV t,o,dV (vH x)] σ (.d (.str x.1)):=fun o=>rfl;have a1:∀ o,Ev (KK d false) (sub (ag 4) (ai 1)) [qV m,sV c,iV t,o,dV (vH x)] σ (.d (.int x.2.1)):=fun o=>rfl;unfold oH;by_cases q1:x.1=c
   .by_cases q2:x.2.1<=t
    .cases o with
     |none=>
      rw[if_pos ⟨q1,q2,fun y h=>by cases h⟩];exact aa (bo (dQ (fk (av (a0 _) rfl rfl rfl (iA q1)) (fk (tT q2 rfl) rfl))) rfl) rfl
     |some y=>
      by_cases q3:y.2.1<=x.2.1
      .rw[if_pos ⟨q1,q2,fun z h=>by cases h;exact q3⟩];exact aa (bo (dQ (fk (av (a0 _) rfl rfl rfl (iA q1)) (fk (av (a1 _) rfl rfl rfl (yD q2)) (fk (bz (bM (av rfl rfl rfl rfl rfl) (eY (av (a1 _) (Ix 1 rfl rfl) rfl rfl (KU q3))))) rfl)))) rfl) rfl
      .rw[if_neg fun z=>q3 (z.2.2 y rfl)];exact aa (a' (dQ (fk (av (a0 _) rfl rfl rfl (iA q1)) (fk (av (a1 _) rfl rfl rfl (yD q2)) (lG (bz (bM (av rfl rfl rfl rfl rfl) (bM (av (a1 _) (Ix 1 rfl rfl) rfl rfl (Hr q3)) rfl))))))) rfl) rfl
    .rw[if_neg fun z=>q2 z.2.1];exact aa (a' (dQ (fk (av (a0 _) rfl rfl rfl (iA q1)) (lG (tF q2 rfl)))) rfl) rfl
   .rw[if_neg fun z=>q1 z.1];exact aa (a' (dQ (lG (av (a0 _) rfl rfl rfl (fX q1)))) rfl) rfl) none none
  have lp:fe (.p m 6) (.lst (p.told.map vH)) 4 (fun ρ=>jO.ex (KK d false) ρ) (p.told.map vH) [qV m,sV c,iV t,dV .none,none] σ=some (.next [qV m,sV c,iV t,dV (Jt (k8 c t p.told)),c'],σ):=lp;have pre:∀ z,(sC (du (a8 Lf (ag 3) lA) (sC (bc lA) sN) sN) (sC oj sN)).ex (KK d false) [qV m,sV c,iV t,dV (Jt (k8 c t p.told)),c'] σ=z->wc.ex (KK d false) [qV m,sV c,iV t,none,none] σ=z:=fun z hz=>aa (a' (av rfl e0 rfl rfl (fX q)) rfl) (aa rfl (aa (dp (Et R rfl) (Kw (DK R) (by rw[Sk];exact Rn hr)) lp) hz));cases z:k8 c t p.told with
  |none=>
   rw[z] at pre;exact bf rfl rfl rfl (pre _ rfl) (tk _)
  |some y=>
   rw[z] at pre;exact bf rfl rfl rfl (pre _ rfl) (tk _)
theorem p_ {x:CE} {k:Int} (R:Rk σ m p) (he:Ev K e ρ σ (.p m 0)) (hx:Ev K x ρ σ (.d (.int k))) (hm:Ev K ke ρ σ (.d (.int M))) (h1:0<M) (h2:M<=p.names.length) (h3:p.names.length<=1000):∃ z∈p.names,Ev K (sub (key e 0 s) (aJ bv x ke)) ρ σ (.d (.str z)):=by
 have q:=aV (a:=k) (b:=M) h1;have hk:(k.fmod M).toNat<p.names.length:=o8 h2 q;have g:=iy (a:=k) h1 (show M<2^250 by exact Ml h2 h3);rw[show k.fmod M=(((k.fmod M).toNat:Nat):Int) by exact Mk q] at g;exact ⟨_,List.getElem_mem hk,bQ (fH R he) (aX hx hm rfl rfl g) (fE R) rfl (fc (by rw[SE,Sp hk];rfl) (Mj h3 hk))⟩
theorem qa {x:CE} {k:Int} (R:Rk σ m p) (he:Ev K e ρ σ (.p m 0)) (hx:Ev K x ρ σ (.d (.int k))) (hm:Ev K ke ρ σ (.d (.int M))) (h1:0<M) (h2:M<=p.curs.length) (h3:p.curs.length<=1000):∃ z,p.curs[(k.fmod M).toNat]? =some z/\Ev K (sub (key e 2 s) (aJ bv x ke)) ρ σ (.d (.str z)):=by
 have q:=aV (a:=k) (b:=M) h1;have hk:(k.fmod M).toNat<p.curs.length:=o8 h2 q;have g:=iy (a:=k) h1 (show M<2^250 by exact Ml h2 h3);rw[show k.fmod M=(((k.fmod M).toNat:Nat):Int) by exact Mk q] at g;exact ⟨_,Sp hk,bQ (i0 R he) (aX hx hm rfl rfl g) rfl rfl (fc (by rw[SE,Sp hk];rfl) (Mj h3 hk))⟩
end
section
variable {h c:List Nat}
noncomputable def fg (gv one tk' aM:List Nat) (a g:Int):List cw:=[(gv,one,-a),(bw,one,a),(bw,aM,-g),(tk',aM,g)]
theorem K9 {gv one tk' aM:List Nat} {a:Int} (c:List Nat):cp c (fg gv one tk' aM a g)=0:=by
 unfold fg;rw[cS,cS,cS,cS];show (if one=c then -a else 0)+((if one=c then a else 0)+((if aM=c then -g else 0)+((if aM=c then g else 0)+0)))=0;split<;>split<;>omega
noncomputable abbrev vR (n m:Nat) (c k:Int) (x4 x5 x6 x7 x8 x9 x10 x11 x12 x13 x14 x15:Option PV):bj:=[qV n,qV m,iV c,iV k,x4,x5,x6,x7,x8,x9,x10,x11,x12,x13,x14,x15]
theorem Gd.conv {am:Int} {gv one tk' aM:List Nat} (G:Gd N p S) (h1:bW t) (ht:dF note) (v1:gv∈p.names) (v2:tk'∈p.names) (m1:one∈p.curs) (m2:aM∈p.curs) (ha:c8 am=true) (hg:c8 g=true) (dn:Dn (.change t note gv one am tk' aM) S (AR S t note gv one am tk' aM g)):
  Gd (N+1) {p with ents:=p.ents++[⟨p.ents.length+1,t,note,fg gv one tk' aM am g,0⟩],deeds:=p.deeds++[Bw (.change t note gv one am tk' aM)]} (AR S t note gv one am tk' aM g):=by
 have c1:=G.ic one m1;have c2:=G.ic aM m2;have cu:∀ e∈p.ents++[⟨p.ents.length+1,t,note,fg gv one tk' aM am g,0⟩],∀ x∈e.lines,x.2.1∈p.curs:=fun e he x hx=>by
  rcases SF.mp he with he|he
  .exact G.cu e he x hx
  .rw[Sq.mp he] at hx;rcases Sm.mp hx with z|hx
   .rw[z];exact m1
   rcases Sm.mp hx with z|hx
   .rw[z];exact m1
   rcases Sm.mp hx with z|hx
   .rw[z];exact m2
   .rw[Sq.mp hx];exact m2
 have en:∀ e∈p.ents++[⟨p.ents.length+1,t,note,fg gv one tk' aM am g,0⟩],xj p.names e:=fun e he=>by
  rcases SF.mp he with he|he
  .exact G.ent e he
  .rw[Sq.mp he];have ex:bw∈p.names:=by obtain ⟨T,e,_⟩:=G.nm;rw[e];exact .head _
   refine ⟨fun x hx=> ?_,Sr rfl,K9,ht,h1⟩;rcases Sm.mp hx with z|hx
   .rw[z];exact ⟨v1,c1,vd ha⟩
   rcases Sm.mp hx with z|hx
   .rw[z];exact ⟨ex,c1,ha⟩
   rcases Sm.mp hx with z|hx
   .rw[z];exact ⟨ex,c2,vd hg⟩
   .rw[Sq.mp hx];exact ⟨v2,c2,hg⟩
 exact {names:=G.names,nm:=G.nm,nl:=G.nl,nd:=G.nd,ic:=G.ic,c3:=G.c3,c10:=G.c10,home:=G.home,made:=by show S.made++[⟨S.made.length+1,t,note,fg gv one tk' aM am g,0⟩]=_;rw[G.made],ends:=G.ends,gone:=G.gone,tell:=⟨G.tell.choose,G.tell.choose_spec.of rfl rfl⟩,rw:=G.rw,ent:=en,cl1:=G.cl1,cl2:=G.cl2,l1:=cg G.l1,l2:=SP G.l2,l3:=SP G.l3,l4:=SP G.l4,l5:=cg G.l5,l6:=cg G.l6,cu:=cu,nos:=G.nos.snoc rfl,inc:=G.inc,tc:=G.tc,hs:=G.hs.snoc (x:=.change t note gv one am tk' aM) ⟨⟨h1,ht⟩,G.nmO v1,c1,ha,G.nmO v2,c2⟩ dn rfl ⟨[],(List.append_nil _).symm⟩ rfl rfl}
theorem uA {c k:Int} (h:la σ m n p S) (G:Gd N p S) (hN:N<=800) (ho:cl p.ends<99999):∃ p' S',Gd (N+1) p' S'/\Ke p p'/\CC (d+4) false 77 [.p n 0,.p m 0,.d (.int c),.d (.int k)] σ=some (.ok (.d (.bool true)),bb σ m n p' S'):=by
 refine bu fun G9 k9=> ?_;obtain ⟨t,h1,h2,dr⟩:=mY (c:=c) h.r (o1 hN G.l3) G.cl1 ho;have sh:=G.sh (o6 hN);have c3:=G.c3;have c10:=G.c10;have nl:=G.nl;have n0:0<p.names.length:=by obtain ⟨T,e,_⟩:=G.nm;rw[e,Ss];omega
 have r0:=aV (a:=k.fdiv p.curs.length) (b:=p.curs.length - 1) (NF c3);obtain ⟨one,i1,e6⟩:=qa (K:=KK (d+3) false) (ρ:=vR n m c k (iV t) (iV p.curs.length) none none none none none none none none none none) (e:=ag 1) (s:=Tt) (x:=ag 3) (ke:=ag 5) (k:=k) (M:=p.curs.length) h.r rfl rfl rfl (LB c3) (PJ) (LC c10);obtain ⟨aM,i2,e7⟩:=qa (K:=KK (d+3) false) (ρ:=vR n m c k (iV t) (iV p.curs.length) (sV one) none none none none none none none none none) (e:=ag 1) (s:=Tt) (x:=aJ aH (aJ aH (ag 3) (ai 1)) (aJ bv (aJ bS (ag 3) (ag 5)) (aJ dw (ag 5) (ai 1)))) (ke:=ag 5) (k:=k+1+(k.fdiv p.curs.length).fmod (p.curs.length - 1)) (M:=p.curs.length) h.r rfl (db rfl (aX (aX rfl rfl rfl rfl (Az (LB c3) (S0.mpr (SM c10 (Sr rfl))))) rfl rfl rfl (iy (NF c3) (Ri c10)))) rfl (LB c3) (PJ) (LC c10);obtain ⟨gv,v1,e8⟩:=p_ (K:=KK (d+3) false) (ρ:=vR n m c k (iV t) (iV p.curs.length) (sV one) (sV aM) none none none none none none none none) (e:=ag 1) (s:=Tu) (x:=aJ bS (ag 3) (ai 6)) (ke:=bi ba (aj (key (ag 1) 0 Tu) az)) h.r rfl rfl (s_ h.r (o3 nl) rfl) (LA n0) (Int.le_refl _) (o3 nl);obtain ⟨tk',v2,e9⟩:=p_ (K:=KK (d+3) false) (ρ:=vR n m c k (iV t) (iV p.curs.length) (sV one) (sV aM) (sV gv) none none none none none none none) (e:=ag 1) (s:=Tu) (x:=aJ bS (ag 3) (ai 7)) (ke:=bi ba (aj (key (ag 1) 0 Tu) az)) h.r rfl rfl (s_ h.r (o3 nl) rfl) (LA n0) (Int.le_refl _) (o3 nl);have ne:one≠aM:=fun z=>by
  have q1:=aV (a:=k) (b:=p.curs.length) (LB c3);have q2:=aV (a:=k+1+(k.fdiv p.curs.length).fmod (p.curs.length - 1)) (b:=p.curs.length) (LB c3);have:=(List.getElem?_inj ((Int.toNat_lt q1.1).mpr q1.2) G.nd).mp (i1.trans ((congrArg some z).trans i2.symm));have mn:=JY (a:=k) (k:=1+(k.fdiv p.curs.length).fmod (p.curs.length - 1)) (M:=p.curs.length) (SY (by decide) (Ti r0.1)) (P0 r0);rw[<-Int.add_assoc] at mn;exact PZ q1 q2 this mn
 have c1:=G.ic one (SR i1);have c2:=G.ic aM (SR i2);obtain ⟨am,ham,ea⟩:=mf (c:=c.fdiv 5);refine k9 ?_;have a2:c8 am=true:=by rw[A0 ham.1];exact SC (Rd ham)
 have l1:=sZ (d:=d+2) (σ:=σ) (c:=one) (t:=t) h.r G.home (o1 hN G.l2);have l2:=sZ (d:=d+2) (σ:=σ) (c:=aM) (t:=t) h.r G.home (o1 hN G.l2);have pre:∀ z,(sC lh (sC jU (sC jT (sC gI (sC gH (sC gF (sC (aN 14 (aF 56 (aj (aJ bS (ag 3) (ai 2)) az))) (sC gE (sC gD (sC gC sN)))))))))).ex (KK (d+3) false) (vR n m c k (iV t) (iV p.curs.length) (sV one) (sV aM) (sV gv) (sV tk') (iV am) (dV (.lst [NY (hW S.home p.told one t),NY (hW S.home p.told aM t)])) none none none none) σ=z->iX.ex (KK (d+3) false) (vR n m c k none none none none none none none none none none none none) σ=z:=fun z hz=>
  aa (aA (aB rfl (dr (d+1) _ h.r)) rfl) (aa (aA (qQ h.r (LC c10) rfl) rfl) (aa (aA e6 rfl) (aa (aA e7 rfl) (aa (aA e8 rfl) (aa (aA e9 rfl) (aa (aA (aB rfl (ea _ _ _)) rfl) (aa (aA (bL (cW (aB rfl l1) (cl1 (aB rfl l2)))) rfl) hz)))))))
 have same:∀ (hz:iX.ex (KK (d+3) false) (vR n m c k none none none none none none none none none none none none) σ=some (.ret (.d (.bool true)),σ)),∃ p' S',Gd (N+1) p' S'/\Ke p p'/\CC (d+4) false 77 [.p n 0,.p m 0,.d (.int c),.d (.int k)] σ=some (.ok (.d (.bool true)),bb σ m n p' S'):=fun hz=>⟨p,S,G.mono (S8 _),⟨rfl,rfl,S8 _,.refl⟩,by rw[h.same];exact bf rfl rfl rfl hz (tk _)⟩;cases zu:hW S.home p.told one t with
 |none=>
  rw[zu] at pre;exact same (pre _ rfl)
 |some u=>
 cases zw:hW S.home p.told aM t with
 |none=>
  rw[zu,zw] at pre;exact same (pre _ rfl)
 |some w=>
 rw[zu,zw] at pre;have uo:=sS G.rw zu;have wo:=sS G.rw zw;refine bu fun G9 k9=> ?_;obtain ⟨⟨u1,u2⟩,u3,u4⟩:=uo;obtain ⟨⟨w1,w2⟩,w3,w4⟩:=wo;refine k9 ?_;have p1:0<u.2.2.2*w.2.2.1:=Int.mul_pos (o2 u3) (o2 w1);have p2:u.2.2.2*w.2.2.1<=10^9*10^9:=Int.mul_le_mul u4 w2 (Tk w1) (by decide);have p3:0<am*u.2.2.1*w.2.2.2:=Int.mul_pos (Int.mul_pos (ham.1) (o2 u1)) (o2 w3);have g0:0<=Ld am u.2.2.1 u.2.2.2 w.2.2.1 w.2.2.2:=by
  unfold Ld;rw[Int.fdiv_eq_ediv_of_nonneg _ (Tk p1)];exact Int.ediv_nonneg (Tk p3) (Tk p1)
 have pre2:∀ z,(sC gI (sC gH (sC gF (sC (aN 14 (aF 56 (aj (aJ bS (ag 3) (ai 2)) az))) (sC gE (sC gD (sC gC sN))))))).ex (KK (d+3) false) (vR n m c k (iV t) (iV p.curs.length) (sV one) (sV aM) (sV gv) (sV tk') (iV am) (dV (.lst [Gh u,Gh w])) (iV (Ld am u.2.2.1 u.2.2.2 w.2.2.1 w.2.2.2)) none none none) σ=z->iX.ex (KK (d+3) false) (vR n m c k none none none none none none none none none none none none) σ=z:=fun z hz=>
  pre z (aa rfl (aa (aA (aX (aX rfl rfl rfl rfl (lj (fG (PI u1 u2)))) rfl rfl rfl (lj (fG (PI w3 w4)))) rfl) (aa (aA (aX rfl (aX rfl rfl rfl rfl (lj (fG (PI w1 w2)))) rfl rfl (Az p1 (Ru p2))) rfl) hz)))
 generalize hg:Ld am u.2.2.1 u.2.2.2 w.2.2.1 w.2.2.2=g at pre2 g0;have p30:∀ ρ,Ev (KK (d+3) false) (aJ xQ (ai 10) (ai 30)) ρ σ (.d (.int (10^30))):=fun ρ=>rfl;by_cases z1:g=0
 .exact same (pre2 _ (aW (bo (bz (eY (tT z1 rfl))) rfl)))
 by_cases z2:10^30<=g
 .exact same (pre2 _ (aW (bo (bz (bM (av rfl rfl rfl rfl (wQ z1)) (eY (av rfl (p30 _) rfl rfl (KU z2))))) rfl)))
 obtain ⟨note,hn,en⟩:=vS (n:=k.fdiv 2);have hg2:c8 g=true:=by rw[A0 (PY g0 z1)];exact SC (Int.lt_of_not_ge z2)
 obtain ⟨mm,T⟩:=G.tell;have hh:aZ S.home=true:=G.ic _ (SR G.home);have cv:∀ d σ n,Bk σ n S->CC (d+3) false 17 [.p n 0,.d (.int t),.d (.str note),.d (.str gv),.d (.str one),.d (.int am),.d (.str tk'),.d (.str aM)] σ=some (.ok (.d (.int (S.made.length+1))),σ.set n (bk (AR S t note gv one am tk' aM g))):=fun d σ n b=>by
  have x1:=vM (d:=d) b T hh c1 h1 (by have:=G.l2;omega);have x2:=vM (d:=d) b T hh c2 h1 (by have:=G.l2;omega);rw[zu] at x1;rw[zw] at x2;exact zx b sh h1 (by rw[G.ends];exact h2) hn (by rw[G.names];exact v1) (by rw[G.names];exact v2) c1 c2 ne ham.1 a2 x1 x2 ⟨u1,u2⟩ ⟨u3,u4⟩ ⟨w1,w2⟩ ⟨w3,w4⟩ hg z1 hg2
 refine ⟨_,_,G.conv h1 hn v1 v2 (SR i1) (SR i2) a2 hg2 (fun d σ n b=>hH b (cv d σ n b)),⟨rfl,rfl,Td Sn,.ents h2⟩,?_⟩
 have pr:=t9 (d:=d+2) (t:=t) (b:=0) (note:=note) (ls:=fg gv one tk' aM am g) h.r (o0 hN G.l1) (Sr rfl);have r1:Rk (σ.set m (pk {p with ents:=p.ents++[⟨p.ents.length+1,t,note,fg gv one tk' aM am g,0⟩]})) m {p with ents:=p.ents++[⟨p.ents.length+1,t,note,fg gv one tk' aM am g,0⟩]}:=jD h.r.lt;have a1:=kK (K:=KK (d+3) false) (ρ:=vR n m c k (iV t) (iV p.curs.length) (sV one) (sV aM) (sV gv) (sV tk') (iV am) (dV (.lst [Gh u,Gh w])) (iV g) (dV (.lst ((fg gv one tk' aM am g).map bI))) (sV note) (iV (p.ents.length+1))) (e:=ag 1) (a:=cb (aj (au TB) (aj (ag 4) (aj (ag 8) (aj (ag 6) (aj (ag 10) (aj (ag 9) (aj (ag 7) (aj (ag 14) az))))))))) (s:=Tw) (t:=.tup [.str TB,.int t,.str gv,.str one,.int am,.str tk',.str aM,.str note]) r1 (by have:=G.l5;show p.deeds.length<=_;exact o0 hN this) rfl (bZ rfl);rw[List.set_set] at a1;have b2:Bk (σ.set m (pk {p with ents:=p.ents++[⟨p.ents.length+1,t,note,fg gv one tk' aM am g,0⟩],deeds:=p.deeds++[.tup [.str TB,.int t,.str gv,.str one,.int am,.str tk',.str aM,.str note]]})) n S:=h.bm;refine bf rfl rfl rfl (pre2 _ ?_) n_;refine aa (a' (bz (bM (av rfl rfl rfl rfl (wQ z1)) (bM (av rfl (p30 _) rfl rfl (Hr z2)) rfl))) rfl) ?_;refine aa (aA (bL (ds:=[bI (gv,one,-am),bI (bw,one,am)]) rfl (by rw[Int.zero_sub];rfl)) rfl) ?_;refine aa (aA (aX rfl (bL (ds:=[bI (bw,aM,-g),bI (tk',aM,g)]) rfl (by rw[Int.zero_sub];rfl)) rfl rfl rfl) rfl) ?_;refine aa (aA (aB rfl (en (d+2) _)) rfl) ?_;refine aa (aA (aB rfl pr) rfl) ?_;refine aa (aK a1) ?_;exact aW (aU (kR (bq b2 rfl rfl (cv d _ n b2)) rfl rfl rfl (k7 (by rw[G.made]))))
end
noncomputable def nz (l:cw):Bool:=decide (l.2.2≠0)
theorem Cq {c:List Nat}:∀ ls:List cw,cp c (ls.filter nz)=cp c ls:=by
 intro ls
 induction ls with
 |nil=>
  exact rfl
 |cons l ls ih=>
  rw[cS];by_cases q:l.2.2=0
  .rw[List.filter_cons_of_neg (by show¬decide (l.2.2≠0)=true;rw[decide_eq_true_eq];exact fun z=>z q),ih,q];split<;>omega
  .rw[ST (by show decide (l.2.2≠0)=true;exact SC q),cS,ih]
theorem zv {c:List Nat} {l1 l2:List cw}:cp c (l1++l2)=cp c l1+cp c l2:=by
 unfold cp;rw[List.filter_append,List.map_append,List.sum_append]
section
variable {h c:List Nat}
theorem GI {x:CE} {k:Int} {v:PV} (he:Ev K e ρ σ v) (hr:rd σ v=some (.lst (T.map .str))) (hx:Ev K x ρ σ (.d (.int k))) (hm:Ev K ke ρ σ (.d (.int M))) (h1:0<M) (h2:M<=T.length) (h3:T.length<=1000):∃ z∈T,Ev K (sub e (aJ bv x ke)) ρ σ (.d (.str z)):=by
 have q:=aV (a:=k) (b:=M) h1;have hk:(k.fmod M).toNat<T.length:=o8 h2 q;have g:=iy (a:=k) h1 (show M<2^250 by exact Ml h2 h3);rw[show k.fmod M=(((k.fmod M).toNat:Nat):Int) by exact Mk q] at g;exact ⟨_,List.getElem_mem hk,bQ he (aX hx hm rfl rfl g) hr rfl (fc (by rw[SE,Sp hk];rfl) (Mj h3 hk))⟩
theorem Kk {v:PV} (he:Ev K e ρ σ v) (hr:rd σ v=some (.lst (T.map .str))) (hl:T.length<=1000):Ev K (bi ba (aj e az)) ρ σ (.d (.int T.length)):=by
 have q:=iY he hr (by rw[Sk];exact hl);rw[Sk] at q;exact q
structure Lv (N C:List (List Nat)) (k:Nat) (fs:List cw):Prop where
 l:∀ x∈fs,x.1∈N/\aZ x.2.1=true/\(x.2.2≠0->c8 x.2.2=true)
 n:fs.length=3*k
 z:∀ c,cp c fs=0
 m:2*k<=(fs.filter nz).length
 u:∀ x∈fs,x.2.1∈C
noncomputable abbrev nR (m:Nat) (b k M:Int) (n:Nat) (x6 x7 x8 x9 x10:Option PV):bj:=[qV m,iV b,iV k,some (.p m 2),qV n,iV M,x6,x7,x8,x9,x10,none]
theorem yA {k:Int} {fs:List cw} {x8 x9 x10:Option PV} (R:Rk σ m p) (G:Gd N p S) (q:Lv p.names p.curs j fs) (hj:j<=30) (hi:i<100):∃ fs' y7 y8 y9 y10,Lv p.names p.curs (j+1) fs'/\jP.ex (KK (d+1) false) (nR m b k M σ.length (iV i) x7 x8 x9 x10) (σ++[.fld (.list (fs.map bI))])=some (.next (nR m b k M σ.length (iV i) y7 y8 y9 y10),σ++[.fld (.list (fs'.map bI))]):=by
 have c3:=G.c3;have c10:=G.c10;have nl:=G.nl;have n0:0<p.names.length:=by obtain ⟨T,e,_⟩:=G.nm;rw[e,Ss];omega
 have R':∀ o,Rk (σ++[o]) m p:=fun o=>R.app;generalize hL:k.fdiv 3+5*(i:Int)=L;have e7:Ev (KK (d+1) false) (aJ aH (aJ bS (ag 2) (ai 3)) (aJ io (ai 5) (ag 6))) (nR m b k M σ.length (iV i) x7 x8 x9 x10) (σ++[.fld (.list (fs.map bI))]) (.d (.int L)):=by
  rw[<-hL];exact rfl
 refine bu fun G9 k9=> ?_;obtain ⟨u,i1,e8⟩:=qa (K:=KK (d+1) false) (ρ:=nR m b k M σ.length (iV i) (iV L) x8 x9 x10) (e:=ag 0) (s:=Tt) (x:=ag 7) (ke:=bi ba (aj (key (ag 0) 2 Tt) az)) (k:=L) (M:=p.curs.length) (R' (.fld (.list (fs.map bI)))) rfl rfl (qQ (R' _) (LC c10) rfl) (LB c3) (PJ) (LC c10);have uc:=G.ic u (SR i1);obtain ⟨a1,h1,ea1⟩:=mf (c:=b+77*(i:Int));obtain ⟨a2,h2,ea2⟩:=mf (c:=b.fdiv 3+(i:Int));refine k9 ?_;have q3:=aV (a:=L.fdiv 3) (b:=3) (by decide);have hy:(L.fdiv 3).fmod 3 - 1= -1∨(L.fdiv 3).fmod 3 - 1=0∨(L.fdiv 3).fmod 3 - 1=1:=by omega
 have e10:∀ x10,Ev (KK (d+1) false) (aJ io (aF 76 (aj (aJ aH (aJ bS (ag 1) (ai 3)) (ag 6)) az)) (aJ dw (aJ bv (aJ bS (ag 7) (ai 3)) (ai 3)) (ai 1))) (nR m b k M σ.length (iV i) (iV L) (sV u) (iV a1) x10) (σ++[.fld (.list (fs.map bI))]) (.d (.int (a2*((L.fdiv 3).fmod 3 - 1)))):=fun x10=>aX (aB rfl (ea2 _ _ _)) rfl rfl rfl (lj (fG (PX q3)));generalize (L.fdiv 3).fmod 3 - 1=y at e10 hy;have hw:(-(4*10^29)<=a2*y/\a2*y<=4*10^29):=by
  rcases hy with rfl|rfl|rfl<;>omega
 generalize a2*y=w at e10 hw;have pk:∀ (o:aE) (D':Int) x,0<D'->D'<100->∃ z∈p.names,Ev (KK (d+1) false) (sub (ag 3) (aJ bv (aJ bS (ag 7) (ai D')) (bi ba (aj (ag 3) az)))) (nR m b k M σ.length (iV i) (iV L) (sV u) (iV a1) (iV w)) (σ++[x]) (.d (.str z)):=fun o D' x h0 h9=>GI (T:=p.names) (v:=.p m 2) rfl (fE (R' x)) (j_ rfl h0 (SV h9 (by decide))) (Kk (T:=p.names) (v:=.p m 2) rfl (fE (R' x)) (o3 nl)) (LA n0) (Int.le_refl _) (o3 nl);have r4:∀ o,Ev (KK (d+1) false) (ag 4) (nR m b k M σ.length (iV i) (iV L) (sV u) (iV a1) (iV w)) (σ++[o]) (.p σ.length 0):=fun o=>rfl;obtain ⟨z1,m1,f1⟩:=pk [] 9 (.fld (.list (fs.map bI))) (by decide) (by decide);have g1:=cW f1 (l:=aj (ag 8) (aj (ag 9) az)) (xs:=[.d (.str u),.d (.int a1)]) rfl;have v1:Ev (KK (d+1) false) (cb (aj (sub (ag 3) (aJ bv (aJ bS (ag 7) (ai 9)) (bi ba (aj (ag 3) az)))) (aj (ag 8) (aj (ag 9) az)))) (nR m b k M σ.length (iV i) (iV L) (sV u) (iV a1) (iV w)) (σ++[.fld (.list (fs.map bI))]) (.d (bI (z1,u,a1))):=bZ g1;have ap1:=cU (r4 _) v1 dK (by rw[Sk,q.n];exact ee (Sv (Tq 3 hj) (by decide)));rw[gY] at ap1;obtain ⟨z2,m2,f2⟩:=pk [] 5 (.fld (.list (fs.map bI++[bI (z1,u,a1)]))) (by decide) (by decide);have g2:=cW f2 (l:=aj (ag 8) (aj (aJ dw (aJ dw (ai 0) (ag 9)) (ag 10)) az)) (xs:=[.d (.str u),.d (.int (0 - a1 - w))]) rfl;have v2:Ev (KK (d+1) false) (cb (aj (sub (ag 3) (aJ bv (aJ bS (ag 7) (ai 5)) (bi ba (aj (ag 3) az)))) (aj (ag 8) (aj (aJ dw (aJ dw (ai 0) (ag 9)) (ag 10)) az)))) (nR m b k M σ.length (iV i) (iV L) (sV u) (iV a1) (iV w)) (σ++[.fld (.list (fs.map bI++[bI (z1,u,a1)]))]) (.d (bI (z2,u,0 - a1 - w))):=bZ g2;have ap2:=cU (r4 _) v2 dK (by rw[Sn,Sk,q.n,Sw];exact ee (Sv (Tl (Tq 3 hj)) (Sr rfl)));rw[gY] at ap2;obtain ⟨z3,m3,f3⟩:=pk [] 7 (.fld (.list ((fs.map bI++[bI (z1,u,a1)])++[bI (z2,u,0 - a1 - w)]))) (by decide) (by decide);have g3:=cW f3 (l:=aj (ag 8) (aj (ag 10) az)) (xs:=[.d (.str u),.d (.int w)]) rfl;have v3:Ev (KK (d+1) false) (cb (aj (sub (ag 3) (aJ bv (aJ bS (ag 7) (ai 7)) (bi ba (aj (ag 3) az)))) (aj (ag 8) (aj (ag 10) az)))) (nR m b k M σ.length (iV i) (iV L) (sV u) (iV a1) (iV w)) (σ++[.fld (.list ((fs.map bI++[bI (z1,u,a1)])++[bI (z2,u,0 - a1 - w)]))]) (.d (bI (z3,u,w))):=bZ g3;have ap3:=cU (r4 _) v3 dK (by rw[Sn,Sn,Sk,q.n,Sw,Sw];exact ee (Sv (Nat.add_le_add_right (Tq 3 hj) 2) (by decide)));rw[gY] at ap3;have e9:Ev (KK (d+1) false) (aF 76 (aj (aJ aH (ag 1) (aJ io (ai 77) (ag 6))) az)) (nR m b k M σ.length (iV i) (iV L) (sV u) x9 x10) (σ++[.fld (.list (fs.map bI))]) (.d (.int a1)):=aB rfl (ea1 _ _ _);refine ⟨fs++[(z1,u,a1),(z2,u,0 - a1 - w),(z3,u,w)],iV L,sV u,iV a1,iV w,⟨fun x hx=> ?_,by rw[Sn,q.n];show 3*j+3=_;exact PW,fun c=> ?_,?_,fun x hx=> ?_⟩,aa (aA e7 rfl) (aa (aA e8 rfl) (aa (aA e9 rfl) (aa (aA (e10 _) rfl) (aa (aK ap1) (aa (aK ap2) (aa (aK ap3) ?_))))))⟩
 .rcases SF.mp hx with hx|hx
  .exact q.l x hx
  have am:∀ v:Int,-(10^30)<v->v<10^30->v≠0->c8 v=true:=fun v y1 y2 y3=>by unfold c8;rw[SC y3,SC y1,SC y2];rfl
  rcases Sm.mp hx with z|hx
  .rw[z];exact ⟨m1,uc,am a1 (SV (by decide) h1.1) (Rd h1)⟩
  rcases Sm.mp hx with z|hx
  .rw[z];exact ⟨m2,uc,am (0 - a1 - w) (SY (by decide:(-10^30:Int)<0 - 4*10^29 - 4*10^29) (Int.sub_le_sub (Int.sub_le_sub_left h1.2 0) hw.2)) (SW (Int.sub_le_sub (Int.sub_le_sub_left h1.1 0) hw.1) (by decide))⟩
  .rw[Sq.mp hx];exact ⟨m3,uc,am w (SY (by decide) hw.1) (SW hw.2 (by decide))⟩
 .rw[zv,q.z c,cS,cS,cS];show 0+((if u=c then a1 else 0)+((if u=c then 0 - a1 - w else 0)+((if u=c then w else 0)+0)))=0;split<;>omega
 .rw[List.filter_append,Sn];have:2<=([(z1,u,a1),(z2,u,0 - a1 - w),(z3,u,w)].filter nz).length:=by
   rw[ST (by show decide (a1≠0)=true;exact SC (Int.ne_of_gt (SY (by decide) h1.1))),Ss];by_cases y:w=0
   .rw[ST (by show decide (0 - a1 - w≠0)=true;exact SC (PU h1 y)),Ss];exact PH
   .by_cases y2:0 - a1 - w=0
    .rw[List.filter_cons_of_neg (by show¬decide (0 - a1 - w≠0)=true;rw[decide_eq_true_eq];exact fun z=>z y2),ST (by show decide (w≠0)=true;exact SC y),Ss];exact PH
    .rw[ST (by show decide (0 - a1 - w≠0)=true;exact SC y2),Ss];exact PH
  have:=q.m;exact PT (by assumption) this
 .rcases SF.mp hx with hx|hx
  .exact q.u x hx
  have um:=SR i1;rcases Sm.mp hx with z|hx
  .rw[z];exact um
  rcases Sm.mp hx with z|hx
  .rw[z];exact um
  .rw[Sq.mp hx];exact um
 .rw[List.map_append];simp only [List.append_assoc];rfl
structure Ik (N C:List (List Nat)) (ls:List cw):Prop where
 l:∀ x∈ls,x.1∈N/\aZ x.2.1=true/\c8 x.2.2=true
 lo:2<=ls.length
 hi:ls.length<=60
 z:∀ c,cp c ls=0
 u:∀ x∈ls,x.2.1∈C
theorem yz {k:Int} (R:Rk σ m p) (G:Gd N p S):∃ ls,Ik p.names p.curs ls/\CC (d+2) false 80 [.p m 0,.d (.int b),.d (.int k)] σ=some (.ok (.d (.lst (ls.map bI))),σ):=by
 refine bu fun G9 k9=> ?_;obtain ⟨M,hM1,hM2,e5⟩:∃ M:Nat,1<=M/\M<=20/\∀ s,Ev (KK (d+1) false) (yH (a8 fh (aJ bv (ag 2) (ai 16)) (ai 7)) (aJ aH (ai 1) (aJ bv (aJ bS (ag 2) (ai 16)) (ai 20))) (aJ aH (ai 1) (aJ bv (ag 2) (ai 3)))) [qV m,iV b,iV k,some (.p m 2),qV σ.length,none,none,none,none,none,none,none] s (.d (.int M)):=by
  have q1:=aV (a:=k.fdiv 16) (b:=20) (by decide);have q2:=aV (a:=k) (b:=3) (by decide);by_cases z:k.fmod 16=7
  .refine ⟨(1+(k.fdiv 16).fmod 20).toNat,by exact SZ.mp (SV (Ti q1.1) (Int.self_le_toNat _)),PS q1,fun s=> ?_⟩;rw[S4 (Int.add_nonneg (by decide) q1.1)];exact pA (av (iz rfl) rfl rfl rfl (k7 z)) rfl
  .refine ⟨(1+k.fmod 3).toNat,by exact SZ.mp (SV (Ti q2.1) (Int.self_le_toNat _)),by exact Int.toNat_le.mpr (SV (Int.add_le_add_left (Tk q2.2) 1) (by decide)),fun s=> ?_⟩;rw[S4 (Int.add_nonneg (by decide) q2.1)];exact pB (av (iz rfl) rfl rfl rfl (wQ z)) rfl
 obtain ⟨ρ2,s2,lp,fs,x6,x7,x8,x9,x10,rfl,rfl,q⟩:=AA (v:=.d (.rng 0 M 1)) (x:=.rng 0 M 1) (i:=6) (b:=fun ρ=>jP.ex (KK (d+1) false) ρ) M
  (fun pre ρ s=>∃ fs x6 x7 x8 x9 x10,ρ=nR m b k M σ.length x6 x7 x8 x9 x10/\s=σ++[.fld (.list (fs.map bI))]/\Lv p.names p.curs pre.length fs) ((List.range M).map fun (i:Nat)=>.int i) [] (nR m b k M σ.length none none none none none) (σ++[.fld (.list [])]) (by rw[Sk,List.length_range,Te];omega) ⟨[],none,none,none,none,none,rfl,rfl,aS,rfl,fun _=>rfl,Sy _,aS⟩ fun pre x ρ s hx hp H9=>by
   obtain ⟨fs,x6,x7,x8,x9,x10,h1,h2,q⟩:=H9;obtain ⟨i,hi,rfl⟩:=SD.mp hx;have hi':=List.mem_range.mp hi;subst h1 h2;obtain ⟨fs',y7,y8,y9,y10,q',e⟩:=yA (d:=d) (b:=b) (k:=k) (M:=M) (i:=i) (x7:=x7) (x8:=x8) (x9:=x9) (x10:=x10) R G q (Sv (S3 hp) (Sv hM2 (by decide))) (Sv hi' (Sv hM2 (Sr rfl)));exact ⟨_,_,e,rfl,⟨fs',_,y7,y8,y9,y10,rfl,rfl,by rw[Sn];exact q'⟩⟩
 refine k9 ?_;rw[List.nil_append,Sk,List.length_range] at q;have hl:(fs.filter nz).length<=60:=by have:=List.length_filter_le nz fs;rw[q.n] at this;exact Sv this (Tq 3 hM2)
 refine ⟨fs.filter nz,⟨fun x hx=> ?_,by have:=q.m;exact Sv (Tq 2 hM1) this,hl,fun c=>by rw[Cq];exact q.z c,fun x hx=>q.u x (List.mem_filter.mp hx).1⟩,?_⟩
 .obtain ⟨h1,h2⟩:=List.mem_filter.mp hx;have:=q.l x h1;exact ⟨this.1,this.2.1,this.2.2 (S6 h2)⟩
 .refine bf rfl rfl (ρ:=[qV m,iV b,iV k,none,none,none,none,none,none,none,none,none]) rfl ?_ (Iw σ [.fld (.list (fs.map bI))]);refine aa (aA (fH R rfl) rfl) (aa rfl (aa (aA (e5 _) rfl) ?_));refine aa (dp (zh rfl (Sv hM2 (Sr rfl))) (j2 (nI (Sv hM2 (Sr rfl)))) lp) ?_;refine aW (aU (mX (fN rfl (Kw (jJ rfl) (by rw[Sk,q.n];exact Sv (Tq 3 hM2) (by decide))) ?_)));have cf:=ki (K:=KK (d+1) false) (ρ:=nR m b k M σ.length x6 x7 x8 x9 x10) (σ:=σ++[.fld (.list (fs.map bI))]) (i:=11) (bT:=ag 11) (t:=qd (a8 xk (sub (ag 11) (ai 2)) (ai 0))) (v:=.p σ.length 0) (y:=.lst (fs.map bI)) (mA (jJ rfl)) bI bI nz fs [] (fun l _=> ?_) (fun l _ _=>rfl) (by rw[Te,q.n];exact Sv (Td (Tg _)) (Sv (Tq 3 hM2) (by decide)))
  .exact cf
  .refine xr (av rfl rfl rfl rfl ?_);by_cases z:l.2.2=0
   .rw[show nz l=false from Tf (fun y=>y z)];exact D4 z
   .rw[show nz l=true from SC z];exact D3 z
theorem Ik.ent {N C:List (List Nat)} {no:Int} (q:Ik N C ls) (h1:bW t) (h2:dF note):xj N ⟨no,t,note,ls,0⟩:=⟨q.l,q.hi,q.z,h2,h1⟩
theorem Gd.post (G:Gd N p S) (h1:bW t) (ht:dF note) (q:Ik p.names p.curs ls) (dn:Dn (.entry t note ls) S (t_ S t note ls)):
  Gd (N+1) {p with ents:=p.ents++[⟨p.ents.length+1,t,note,ls,0⟩],deeds:=p.deeds++[kg t note ls]} (t_ S t note ls):=by
 have en:∀ e∈p.ents++[⟨p.ents.length+1,t,note,ls,0⟩],xj p.names e:=fun e he=>by
  rcases SF.mp he with he|he
  .exact G.ent e he
  .rw[Sq.mp he];exact q.ent h1 ht
 have cu:∀ e∈p.ents++[⟨p.ents.length+1,t,note,ls,0⟩],∀ x∈e.lines,x.2.1∈p.curs:=fun e he x hx=>by
  rcases SF.mp he with he|he
  .exact G.cu e he x hx
  .rw[Sq.mp he] at hx;exact q.u x hx
 exact {names:=G.names,nm:=G.nm,nl:=G.nl,nd:=G.nd,ic:=G.ic,c3:=G.c3,c10:=G.c10,home:=G.home,made:=by show S.made++[⟨S.made.length+1,t,note,ls,0⟩]=_;rw[G.made],ends:=G.ends,gone:=G.gone,tell:=⟨G.tell.choose,G.tell.choose_spec.of rfl rfl⟩,rw:=G.rw,ent:=en,cl1:=G.cl1,cl2:=G.cl2,l1:=cg G.l1,l2:=SP G.l2,l3:=SP G.l3,l4:=SP G.l4,l5:=cg G.l5,l6:=cg G.l6,cu:=cu,nos:=G.nos.snoc rfl,inc:=G.inc,tc:=G.tc,hs:=G.hs.snoc (x:=.entry t note ls) ⟨h1,ht,q.hi,fun l hl=>⟨G.nmO (q.l l hl).1,(q.l l hl).2⟩⟩ dn rfl ⟨[],(List.append_nil _).symm⟩ rfl rfl}
theorem BY {c k:Int} (h:la σ m n p S) (G:Gd N p S) (hN:N<=800) (ho:cl p.ends<99999):∃ p' S',Gd (N+1) p' S'/\Ke p p'/\CC (d+4) false 81 [.p n 0,.p m 0,.d (.int c),.d (.int k)] σ=some (.ok (.d (.bool true)),bb σ m n p' S'):=by
 refine bu fun G9 k9=> ?_;obtain ⟨t,h1,h2,dr⟩:=mY (c:=c) h.r (o1 hN G.l3) G.cl1 ho;obtain ⟨note,hn,en⟩:=vS (n:=k);obtain ⟨ls,q,er⟩:=yz (d:=d+1) (b:=c.fdiv 5) (k:=k) h.r G;refine k9 ?_;have sh:=G.sh (o6 hN);have qh:=q.hi;have po:∀ d σ n,Bk σ n S->CC (d+3) false 20 [.p n 0,.d (.int t),.d (.str note),.d (.lst (ls.map bI))] σ=some (.ok (.d (.int (S.made.length+1))),σ.set n (bk (t_ S t note ls))):=fun d σ n b=>GG b sh h1 (by rw[G.ends];exact h2) hn ⟨q.lo,q.hi⟩ (fun l hl=>⟨by rw[G.names];exact (q.l l hl).1,(q.l l hl).2.1,(q.l l hl).2.2⟩) (Lj q.z (by omega));refine ⟨_,_,G.post h1 hn q (fun d σ n b=>hH b (po d σ n b)),⟨rfl,rfl,Td Sn,.ents h2⟩,?_⟩;have pr:=t9 (d:=d+2) (t:=t) (b:=0) (note:=note) (ls:=ls) h.r (o0 hN G.l1) (Sv (qh) (Sr rfl));have r1:Rk (σ.set m (pk {p with ents:=p.ents++[⟨p.ents.length+1,t,note,ls,0⟩]})) m {p with ents:=p.ents++[⟨p.ents.length+1,t,note,ls,0⟩]}:=jD h.r.lt;have tp:∀ s:aE,jb.g false [.d (.lst (ls.map bI))] s=some (.ok (.d (.tup (ls.map bI))),s):=fun s=>by
  show (ax ((ls.map bI).length<=dZ) (D.tup (ls.map bI))).map _=_;rw[aO (by rw[Sk];exact co (Sv (qh) (Sr rfl)))];rfl
 have a1:=kK (K:=KK (d+3) false) (ρ:=[qV n,qV m,iV c,iV k,iV t,sV note,dV (.lst (ls.map bI)),iV (p.ents.length+1)]) (e:=ag 1) (a:=cb (aj (au Ty) (aj (ag 4) (aj (ag 5) (aj (bi jb (aj (ag 6) az)) az))))) (s:=Tw) (t:=kg t note ls) r1 (by have:=G.l5;show p.deeds.length<=_;exact o0 hN this) rfl (bZ (cW rfl (cW rfl (cW rfl (cl1 (cC (cl1 rfl) (tp _)))))));rw[List.set_set] at a1;have b2:Bk (σ.set m (pk {p with ents:=p.ents++[⟨p.ents.length+1,t,note,ls,0⟩],deeds:=p.deeds++[kg t note ls]})) n S:=h.bm;exact bf rfl rfl (ρ:=[qV n,qV m,iV c,iV k,none,none,none,none]) rfl (aa (aA (aB rfl (dr (d+1) _ h.r)) rfl) (aa (aA (aB (cl1 rfl) (en (d+2) _)) rfl) (aa (aA (aB rfl er) rfl) (aa (aA (aB rfl pr) rfl) (aa (aK a1) (aW (aU (kR (bq b2 rfl rfl (po d _ n b2)) rfl rfl rfl (k7 (by rw[G.made])))))))))) n_
end
section
variable {h c:List Nat}
noncomputable abbrev qS (n m:Nat) (w b k:Int):bj:=[qV n,qV m,iV w,iV b,iV k]
noncomputable abbrev qD (n m:Nat) (sc:List Int) (f l:Int) (x:Option PV):bj:=[qV n,qV m,dV (.lst (sc.map .int)),iV f,iV l,x]
def Iq (p:Pl):Prop:=(p.ents.length:Int)<=p.most+1
structure Kf (p p':Pl):Prop where
 c:p'.curs=p.curs
 m:p'.most=p.most
 k:Iq p->Iq p'
 g:Gr p p'
theorem Dj {w k:Int} (h:la σ m n p S) (G:Gd N p S) (hN:N<=800):∃ p' S',Gd (N+1) p' S'/\Ke p p'/\(Iq p->Iq p')/\CC (d+5) false 82 [.p n 0,.p m 0,.d (.int w),.d (.int b),.d (.int k)] σ=some (.ok (.d (.bool true)),bb σ m n p' S'):=by
 have cr:=g8 (d:=d+3) (hd:=false) h.r (o1 hN G.l3);have le:Ev (KK (d+4) false) (bi ba (aj (key (ag 1) 3 Tv) az)) (qS n m w b k) σ (.d (.int p.ents.length)):=qP h.r (o0 hN G.l1) rfl;have same:∀ (hz:ul.ex (KK (d+4) false) (qS n m w b k) σ=some (.ret (.d (.bool true)),σ)),∃ p' S',Gd (N+1) p' S'/\Ke p p'/\(Iq p->Iq p')/\CC (d+5) false 82 [.p n 0,.p m 0,.d (.int w),.d (.int b),.d (.int k)] σ=some (.ok (.d (.bool true)),bb σ m n p' S'):=fun hz=>⟨p,S,G.mono (S8 _),⟨rfl,rfl,S8 _,.refl⟩,id,by rw[h.same];exact bf rfl rfl rfl hz (tk _)⟩;by_cases z1:99999<=cl p.ends
 .exact same (aW (bo (bz (eY (av (aB (cl1 rfl) cr) rfl rfl rfl (KU z1)))) rfl))
 by_cases z2:p.most<p.ents.length
 .exact same (aW (bo (bz (bM (av (aB (cl1 rfl) cr) rfl rfl rfl (Hr z1)) (eY (av le (Eu h.r rfl) rfl rfl (uG z2))))) rfl))
 have ho:cl p.ends<99999:=by exact Int.lt_of_not_ge z1
 have s1:qp.ex (KK (d+4) false) (qS n m w b k) σ=some (.next (qS n m w b k),σ):=a' (bz (bM (av (aB (cl1 rfl) cr) rfl rfl rfl (Hr z1)) (bM (av le (Eu h.r rfl) rfl rfl (oO z2)) rfl))) rfl;have w8:Ev (KK (d+4) false) (aJ bv (ag 2) (ai 8)) (qS n m w b k) σ (.d (.int (w.fmod 8))):=rfl;have fin:∀ (hx:∃ p' S',Gd (N+1) p' S'/\Ke p p'/\ul.ex (KK (d+4) false) (qS n m w b k) σ=some (.ret (.d (.bool true)),bb σ m n p' S')),∃ p' S',Gd (N+1) p' S'/\Ke p p'/\(Iq p->Iq p')/\CC (d+5) false 82 [.p n 0,.p m 0,.d (.int w),.d (.int b),.d (.int k)] σ=some (.ok (.d (.bool true)),bb σ m n p' S'):=fun ⟨p',S',g,ke,e⟩=>⟨p',S',g,ke,fun _=>by unfold Iq;rw[ke.m];have:=ke.e;exact SV (SZ.mpr this) (Int.add_le_add_right (Tp.mp z2) 1),bf rfl rfl rfl e n_⟩;refine fin ?_;by_cases y1:w.fmod 8<3
 .obtain ⟨p',S',g,ke,e⟩:=BY (d:=d) (c:=b) (k:=k) h G hN ho;exact ⟨p',S',g,ke,aa s1 (aW (bo (tT y1 rfl) (aW (aU (aB rfl e)))))⟩
 have s2:qo.ex (KK (d+4) false) (qS n m w b k) σ=some (.next (qS n m w b k),σ):=a' (tF y1 rfl) rfl;by_cases y2:w.fmod 8=3
 .by_cases y3:(w.fdiv 8).fmod 3=0
  .obtain ⟨p',S',g,ke,e⟩:=yE (d:=d+1) (c:=b) h G hN;exact ⟨p',S',g,ke,aa s1 (aa s2 (aW (bo (dQ (fk (av w8 rfl rfl rfl (k7 y2)) (fk (av (iz (j_ rfl)) rfl rfl rfl (k7 y3)) rfl))) (aW (aU (aB (cW rfl (cW rfl (cl1 rfl))) e))))))⟩
  .obtain ⟨p',S',g,ke,e⟩:=BW (d:=d) (c:=b) (k:=k) h G hN ho;exact ⟨p',S',g,ke,aa s1 (aa s2 (aa (a' (dQ (fk (av w8 rfl rfl rfl (k7 y2)) (lG (av (iz (j_ rfl)) rfl rfl rfl (wQ y3))))) rfl) (aW (bo (av w8 rfl rfl rfl (k7 y2)) (aW (aU (aB rfl e)))))))⟩
 have s3:qn.ex (KK (d+4) false) (qS n m w b k) σ=some (.next (qS n m w b k),σ):=a' (dQ (lG (tF y2 rfl))) rfl;have s4:qm.ex (KK (d+4) false) (qS n m w b k) σ=some (.next (qS n m w b k),σ):=a' (tF y2 rfl) rfl;by_cases y4:w.fmod 8<6
 .obtain ⟨p',S',g,ke,e⟩:=uA (d:=d) (c:=b) (k:=k) h G hN ho;exact ⟨p',S',g,ke,aa s1 (aa s2 (aa s3 (aa s4 (aW (bo (tT y4 rfl) (aW (aU (aB rfl e))))))))⟩
 have s5:ql.ex (KK (d+4) false) (qS n m w b k) σ=some (.next (qS n m w b k),σ):=a' (tF y4 rfl) rfl;by_cases y5:w.fmod 8=6
 .obtain ⟨p',S',g,ke,e⟩:=sk (d:=d) (c:=b) (k:=k) h G hN ho;exact ⟨p',S',g,ke,aa s1 (aa s2 (aa s3 (aa s4 (aa s5 (aW (bo (tT y5 rfl) (aW (aU (aB rfl e)))))))))⟩
 refine bu fun G9 k9=> ?_;obtain ⟨p',S',g,ke,_,e⟩:=Dp (d:=d) (c:=b) h G hN ho;refine k9 ?_;exact ⟨p',S',g,ke,aa s1 (aa s2 (aa s3 (aa s4 (aa s5 (aa (a' (tF y5 rfl) rfl) (aW (aU (aB rfl e))))))))⟩
theorem Iv {a:CT} (h:a.ts K ρ σ=some (.ok q,σ')):(gT a).ts K ρ σ=some (.ok (!q),σ'):=aC h rfl
theorem C_ (h:a.ev K ρ σ=some (.ok (.d (.bool q)),σ')):(vh a).ts K ρ σ=some (.ok q,σ'):=aC h rfl
theorem IR {t:CT} {a b:CS} {z:Option (Out×aE)} (h:t.ts K ρ σ=some (.ok false,σ')) (k:b.ex K ρ σ'=z):(du t a b).ex K ρ σ=z:=cy h k
theorem yS {x:CE} (hs:sc.length<=63) (he:Ev K e ρ σ (.d (.lst (sc.map .int)))) (hx:Ev K x ρ σ (.d (.int k))) (hk:k<sc.length):Ev K (sub e x) ρ σ (.d (.int (cell sc k))):=bQ he hx rfl rfl (fc (by rw[SE,Sp hk,cell,SG,Sp hk];rfl) (Sv (S3 (SN hk hs)) (Sr rfl)))
theorem Kr {a:Int} (h1:0<=a/\a<=1000) (h2: -1000<=b/\b<=1000):items (.rng a b 3)=some ((List.range (cP a b 3)).map fun (i:Nat)=>.int (a+(i:Int)*3))/\(∀ i,i<cP a b 3->a+(i:Int)*3<b)/\cP a b 3<=1000:=by
 have hr:cP a b 3<=1000/\∀ i:Nat,i<cP a b 3->a+(i:Int)*3<b:=by
  unfold cP;by_cases q:a<b
  .rw[if_pos q];exact ⟨by exact Int.toNat_le.mpr (SV (Int.add_le_add_right (Int.ediv_le_ediv (by decide) (Int.sub_le_sub (Int.sub_le_sub h2.2 h1.1) (Int.le_refl 1))) 1) (by decide)),fun i hi=>by exact Int.add_lt_of_lt_sub_left (Int.lt_of_le_sub_one (Int.mul_le_of_le_ediv (by decide) (Int.le_of_lt_add_one (Int.lt_toNat.mp hi))))⟩
  .rw[if_neg q];exact ⟨by decide,fun i hi=>PR hi⟩
 refine ⟨?_,hr.2,hr.1⟩;rw[qX,aO];rw[cn (SV (by decide) h1.1) (SV h1.2 (by decide)),cn (h2.1) (SV h2.2 (by decide)),SC (by decide),SC (by decide),SC (by omega)];rfl
theorem Oa {f m:Int} (h:0<=f) (k:m<=61):cP f m 3<=70:=by
 unfold cP;split<;>omega
theorem Cl {f l:Int} (hs:sc.length<=63) (hf:0<=f/\f<=500) (hl:0<=l/\l<=500) (h:la σ m n p S) (G:Gd N p S) (hN:N<=700):∃ p' S',Gd (N+70) p' S'/\Kf p p'/\CC (d+6) false 83 [.p n 0,.p m 0,.d (.lst (sc.map .int)),.d (.int f),.d (.int l)] σ=some (.ok (.d (.bool true)),bb σ m n p' S'):=by
 have i3:=Kr (a:=f) (b:=min (sc.length - 2) l) ⟨by exact hf.1,by exact SV hf.2 (by decide)⟩ ⟨Rc hl,by exact SV (Tm _ _) (SV (Int.sub_le_self _ (by decide)) (SV (SZ.mpr hs) (by decide)))⟩;have r63:cP f (min (sc.length - 2) l) 3<=70:=by
  exact Oa hf.1 (SV (Tm _ _) (Int.sub_le_sub_right (SZ.mpr hs) 2))
 refine bu fun G9 k9=> ?_;obtain ⟨ρ2,s2,lp,p',S',x5,rfl,rfl,g,ke⟩:=AA (v:=.d (.rng f (min (sc.length - 2) l) 3)) (x:=.rng f (min (sc.length - 2) l) 3) (i:=5) (b:=fun ρ=>om.ex (KK (d+5) false) ρ) 70
  (fun pre ρ s=>∃ p' S' x5,ρ=(qD n m sc f l x5)/\s=bb σ m n p' S'/\Gd (N+pre.length) p' S'/\Kf p p') ((List.range (cP f (min (sc.length - 2) l) 3)).map fun (i:Nat)=>.int (f+(i:Int)*3)) [] (qD n m sc f l none) σ (by rw[Sk,List.length_range,Te];omega) ⟨p,S,none,rfl,h.same.symm,G,rfl,rfl,id,.refl⟩ fun pre x ρ s hx hp H9=>by
   obtain ⟨p',S',x5,h1,h2,g,ke⟩:=H9;obtain ⟨i,hi,rfl⟩:=SD.mp hx;have hi':=i3.2.1 i (List.mem_range.mp hi);subst h1 h2;have kk:f+(i:Int)*3=((f.toNat+i*3:Nat):Int):=PQ hf;rw[kk];obtain ⟨p2,S2,g2,ke2,kc,e⟩:=Dj (d:=d) (w:=cell sc (f.toNat+i*3)) (b:=cell sc (f.toNat+i*3+1)) (k:=cell sc (f.toNat+i*3+2)) (h.to p' S') g (Sv (Nat.add_le_add hN (S3 hp)) (by decide));rw[M' h.ne] at e;have e1:∀ (o:PV) s,Ev (KK (d+5) false) (aJ aH (ag 5) (ai 1)) (qD n m sc f l (iV ((f.toNat+i*3:Nat):Int))) s (.d (.int ((f.toNat+i*3+1:Nat):Int))):=fun o s=>by rw[Int.natCast_add (f.toNat+i*3) 1];exact rfl
   have e2:∀ (o:PV) s,Ev (KK (d+5) false) (aJ aH (ag 5) (ai 2)) (qD n m sc f l (iV ((f.toNat+i*3:Nat):Int))) s (.d (.int ((f.toNat+i*3+2:Nat):Int))):=fun o s=>by rw[Int.natCast_add (f.toNat+i*3) 2];exact rfl
   have g0:Ev (KK (d+5) false) (sub (ag 2) (ag 5)) (qD n m sc f l (iV ((f.toNat+i*3:Nat):Int))) (bb σ m n p' S') (.d (.int (cell sc (f.toNat+i*3)))):=yS hs rfl rfl (Nat.lt_of_succ_lt (PN hf hi'));have g1:Ev (KK (d+5) false) (sub (ag 2) (aJ aH (ag 5) (ai 1))) (qD n m sc f l (iV ((f.toNat+i*3:Nat):Int))) (bb σ m n p' S') (.d (.int (cell sc (f.toNat+i*3+1)))):=yS hs rfl (e1 (.p 0 0) _) (Nat.lt_of_succ_lt (JN hf hi'));have g2':Ev (KK (d+5) false) (sub (ag 2) (aJ aH (ag 5) (ai 2))) (qD n m sc f l (iV ((f.toNat+i*3:Nat):Int))) (bb σ m n p' S') (.d (.int (cell sc (f.toNat+i*3+2)))):=yS hs rfl (e2 (.p 0 0) _) (JN hf hi');have ar:=cW (K:=KK (d+5) false) (ρ:=(qD n m sc f l (iV ((f.toNat+i*3:Nat):Int)))) (σ:=bb σ m n p' S') (a:=ag 0) (x:=.p n 0) rfl (cW (a:=ag 1) (x:=.p m 0) rfl (cW g0 (cW g1 (cl1 g2'))));exact ⟨_,_,aa (IR (Iv (C_ (aB ar e))) rfl) rfl,rfl,⟨p2,S2,_,rfl,rfl,by rw[Sn];exact g2,ke2.c.trans ke.c,ke2.m.trans ke.m,fun q=>kc (ke.k q),ke.g.trans ke2.g (ke.g.cl g.inc)⟩⟩
 refine k9 ?_;rw[List.nil_append,Sk,List.length_range] at g;refine ⟨p',S',g.mono (by omega),ke,bf rfl rfl (ρ:=(qD n m sc f l none)) rfl ?_ n_⟩;have ln:Ev (KK (d+5) false) (bi ba (aj (ag 2) az)) (qD n m sc f l none) σ (.d (.int sc.length)):=by
  have q:=li (hd:=false) (σ:=σ) (x:=.d (.lst (sc.map .int))) rfl (by rw[Sk];exact co (Sv (hs) (Sr rfl)));rw[Sk] at q;exact cC rfl q
 have mn:Ev (KK (d+5) false) (bi AG (aj (aJ dw (bi ba (aj (ag 2) az)) (ai 2)) (aj (ag 4) az))) (qD n m sc f l none) σ (.d (.int (min (sc.length - 2) l))):=cC (cW (aX ln rfl rfl rfl rfl) rfl) rfl;have rg:Ev (KK (d+5) false) (bi AF (aj (ag 3) (aj (bi AG (aj (aJ dw (bi ba (aj (ag 2) az)) (ai 2)) (aj (ag 4) az))) (aj (ai 3) az)))) (qD n m sc f l none) σ (.d (.rng f (min (sc.length - 2) l) 3)):=by
  refine cC (cW rfl (cW mn rfl)) ?_;show (ax ((bA f&&bA (min (sc.length - 2) l)&&decide ((0:Int)<3)&&decide ((3:Int)<1000))=true) (PV.d (.rng f (min (sc.length - 2) l) 3))).map _=_;rw[aO (by rw[cn (SV (by decide) hf.1) (SV hf.2 (by decide)),cn (Rc hl) (SV (Tm _ _) (SV (Int.sub_le_self _ (by decide)) (SV (SZ.mpr hs) (by decide))))];rfl)];rfl
 exact aa (dp rg (j2 i3.1) lp) rfl
end
section
end
section
variable {w:List Nat}
noncomputable def nf (T:List (List Nat)) (w:List Nat):List (List Nat):=if w∈bw::T then T else T++[w]
theorem pc (h:Lu T) (hw:j3 w) (fw:w≠tP):Lu (nf T w):=by
 unfold nf;by_cases q:w∈bw::T
 .rw[if_pos q];exact h
 rw[if_neg q];refine ⟨List.nodup_append.mpr ⟨h.nd,S9.mpr ⟨SI,Tb⟩,fun a ha c hc=>by rw[Sq.mp hc];rintro rfl;exact q (.tail _ ha)⟩,fun z=> ?_,fun y hy=> ?_,fun z=> ?_⟩
 .rcases SF.mp z with z|z
  .exact h.ne z
  .exact q (by rw[<-Sq.mp z];exact .head _)
 .rcases SF.mp hy with z|z
  .exact h.nm y z
  .rw[Sq.mp z];exact hw
 .rcases SF.mp z with z|z
  .exact h.st z
  .exact fw (Sq.mp z).symm
theorem pj:T.length<=(nf T w).length/\(nf T w).length<=T.length+1/\(w≠bw->1<=(nf T w).length):=by
 unfold nf;by_cases q:w∈bw::T
 .rw[if_pos q];exact ⟨Sy _,S8 _,fun z=>(Sm.mp q).elim (fun y=>absurd y z) List.length_pos_of_mem⟩
 .rw[if_neg q,Sn];exact ⟨Th _ _,Sy _,fun _=>Nat.le_add_left _ _⟩
theorem pd {a b:Option PV} {B:PO} (h:T.length<=4):mQ.ex (KK 6 false) [a,b,qV 2,sV w] [o1,B,.fld (.list ((bw::T).map .str))]=some (.next [a,b,qV 2,sV w],[o1,B,.fld (.list ((bw::nf T w).map .str))]):=by
 unfold nf;by_cases q:w∈bw::T
 .rw[if_pos q];exact aa (a' (av rfl rfl rfl rfl (Ae q)) rfl) rfl
 .rw[if_neg q,<-List.cons_append,List.map_append];exact aa (bo (av rfl rfl rfl rfl (vU q)) (aa (aK (cU (n:=2) (j:=0) (l:=(bw::T).map .str) (y:=.str w) rfl rfl rfl (by rw[Sk];exact ee (Sv (Tl h) (by decide))))) rfl)) rfl
theorem BE {c0 c1:Int}:∃ T,Lu T/\1<=T.length/\T.length<=4/\CC 7 false 87 [.d (.lst [.int c0,.int c1])] [.rcd false []]=some (.ok (.p 1 0),[.rcd false [],.fld (.list ((bw::T).map .str))]):=by
 refine bu fun G9 k9=> ?_;obtain ⟨n0,h0,f0,e0⟩:=qi (d:=5) (σ:=[.rcd false []]) (n:=c0);obtain ⟨n1,h1,f1,e1⟩:=qi (d:=5) (σ:=[.rcd false []]) (n:=c1);obtain ⟨v,hv,fv,x2⟩:∃ v,j3 v/\v≠tP/\mP.ex (KK 6 false) [dV (.lst [.int c0,.int c1]),qV 1,none,none] [.rcd false [],.fld (.list [.str n0,.str n1,.str [97],.str [122,57]])]=some (.next [dV (.lst [.int c0,.int c1]),qV 1,none,none],[.rcd false [],.fld (.list [.str n0,.str v,.str [97],.str [122,57]])]):=by
  by_cases q:c1.fmod 2=1
  .obtain ⟨k,y,hk,hy,e2⟩:=vn (d:=5) (hd:=false) (n:=c1.fdiv 2) (t:=n0) (sg:=nj) (qg h0).1 (by have:=(qg h0).2;exact Sv this (Sr rfl)) rfl;exact ⟨n0.set k y,JP h0 hy,f0 k y,bo (tT q rfl) (aa (iN (eI e2 rfl) rfl rfl rfl) rfl)⟩
  .exact ⟨n1,h1,zf f1,a' (tF q rfl) rfl⟩
 refine k9 ?_;have t1:=pj (T:=[]) (w:=n0);rw[Te] at t1;have t2:=pj (T:=nf [] n0) (w:=v);have t3:=pj (T:=nf (nf [] n0) v) (w:=[97]);have t4:=pj (T:=nf (nf (nf [] n0) v) [97]) (w:=[122,57]);have st:∀ o:PO,bP [.rcd false [],.fld (.list [.str n0,.str v,.str [97],.str [122,57]]),o] (.lst [.str n0,.str v,.str [97],.str [122,57]]) (.p 1 0)=true:=fun o=>mA rfl;exact ⟨_,pc (pc (pc (pc ⟨Tb,SI,aS,SI⟩ h0 (zf f0)) hv fv) ⟨97,[],rfl,by decide,by decide,aS⟩ (by decide)) ⟨122,[57],rfl,by decide,by decide,by decide⟩ (by decide),Sv (t3.2.2 (by decide)) t4.1,Sv t4.2.1 (Tl (Sv t3.2.1 (Tl (Sv t2.2.1 (Tl t1.2.1))))),Le rfl rfl rfl (aa (aA (g_ (cW (eI e0 rfl) (cW (eI e1 rfl) rfl))) rfl) (aa x2 (aa rfl (aa (dp (v:=.p 1 0) (x:=.lst [.str n0,.str v,.str [97],.str [122,57]]) rfl rfl (cB (pd (T:=[]) (by decide)) (st _) (cB (pd (by omega)) (st _) (cB (pd (by omega)) (st _) (cB (pd (by omega)) (st _) rfl))))) rfl)))) (by decide) rfl rfl⟩
end
section
theorem Ay {o:PO}:(σ++(o::ds))[σ.length]? =some o:=by rw[SK (Sy _),Nat.sub_self];rfl
theorem tW {o:PO}:(σ++(o::ds)).set σ.length o'=σ++(o'::ds):=by rw[List.set_append_right _ _ (Sy _),Nat.sub_self];rfl
theorem o_ {b:Bool} {l:List cD}:cR b (σ++(.rcd b l::ds)) σ.length=some l:=by
 unfold cR;rw[Ay];exact if_pos rfl
theorem jK {ds':aE} {b:Bool} {l:List cD}:cR b ((σ++(.rcd b l::ds))++ds') σ.length=some l:=by
 rw[List.append_assoc,List.cons_append];exact o_
theorem n8 {o:PO}:(((σ++(o::ds))++[PO.fld f]).set (σ++(o::ds)).length PO.dead).set σ.length o'=σ++(o'::(ds++[.dead])):=by
 rw[mE,List.append_assoc,List.cons_append,tW]
theorem iG {l:List cD} {x:D} (ha:a.ev K ρ (σ++(.rcd true l::ds))=some (.ok (.p (σ++(.rcd true l::ds)).length 0),(σ++(.rcd true l::ds))++[.fld f])) (he:Ev K o ρ ((σ++(.rcd true l::ds))++[.fld f]) (.p σ.length 0)) (hk:k=l.length) (hr:f.rd=some x):(lg o k a).ex K ρ (σ++(.rcd true l::ds))=some (.next ρ,σ++(.rcd true (l++[f])::(ds++[.dead]))):=by
 refine w_ ha he ?_;show (cR true ((σ++(.rcd true l::ds))++[.fld f]) σ.length).bind _=_;rw[jK,Sl,aO hk,Sl];show (ax ((σ++(.rcd true l::ds)).length≠σ.length) ()).bind _=_;rw[aO (by rw[Sn,Ss];exact PC),Sl,dK,Sl,hr];exact congrArg some n8
theorem ED {h:List Nat} (hc:aZ h=true):CC (d+2) false 0 [.p σ.length 0,.d (.str h)] (σ++[.rcd true []])=some (.ok (.d .none),σ++[bk (st0 h)]):=by
 have l0:∀ s,Ev (KK (d+1) false) (ag 0) [qV σ.length,sV h] s (.p σ.length 0):=fun s=>rfl;have a1:(lg (ag 0) 0 (ag 1)).ex (KK (d+1) false) [qV σ.length,sV h] (σ++[.rcd true []])=some (.next [qV σ.length,sV h],σ++[.rcd true [.d (.str h)]]):=by
  refine w_ (v:=.d (.str h)) rfl (l0 _) ?_;show (cR true (σ++[.rcd true []]) σ.length).bind _=_;rw[o_,Sl,aO (show 0=([]:List cD).length from rfl),Sl];exact congrArg some tW
 have a2:=iG (K:=KK (d+1) false) (ρ:=[qV σ.length,sV h]) (σ:=σ) (o:=ag 0) (a:=iU (aj (au TH) az)) (k:=1) (l:=[.d (.str h)]) (ds:=[]) (f:=.list [.str bw]) (g_ rfl) (l0 _) rfl rfl;have a3:=iG (K:=KK (d+1) false) (ρ:=[qV σ.length,sV h]) (σ:=σ) (o:=ag 0) (a:=qj) (k:=2) (l:=[.d (.str h),.list [.str bw]]) (ds:=[.dead]) (f:=.dict [] []) rfl (l0 _) rfl rfl;have a4:=iG (K:=KK (d+1) false) (ρ:=[qV σ.length,sV h]) (σ:=σ) (o:=ag 0) (a:=iU az) (k:=3) (l:=[.d (.str h),.list [.str bw],.dict [] []]) (ds:=[.dead,.dead]) (f:=.list []) (g_ rfl) (l0 _) rfl rfl;have a5:=iG (K:=KK (d+1) false) (ρ:=[qV σ.length,sV h]) (σ:=σ) (o:=ag 0) (a:=qj) (k:=4) (l:=[.d (.str h),.list [.str bw],.dict [] [],.list []]) (ds:=[.dead,.dead,.dead]) (f:=.dict [] []) rfl (l0 _) rfl rfl;have a6:=iG (K:=KK (d+1) false) (ρ:=[qV σ.length,sV h]) (σ:=σ) (o:=ag 0) (a:=iU az) (k:=5) (l:=[.d (.str h),.list [.str bw],.dict [] [],.list [],.dict [] []]) (ds:=[.dead,.dead,.dead,.dead]) (f:=.list []) (g_ rfl) (l0 _) rfl rfl;have a7:=iG (K:=KK (d+1) false) (ρ:=[qV σ.length,sV h]) (σ:=σ) (o:=ag 0) (a:=iU az) (k:=6) (l:=[.d (.str h),.list [.str bw],.dict [] [],.list [],.dict [] [],.list []]) (ds:=[.dead,.dead,.dead,.dead,.dead]) (f:=.list []) (g_ rfl) (l0 _) rfl rfl;refine eq rfl rfl (ρ:=[qV σ.length,sV h]) rfl (aa (aK (eI (b8 hc) rfl)) (aa a1 (aa a2 (aa a3 (aa a4 (aa a5 (aa a6 (aa a7 rfl)))))))) ?_;have e:σ++(bk (st0 h)::[.dead,.dead,.dead,.dead,.dead,.dead])=(σ++[bk (st0 h)])++[.dead,.dead,.dead,.dead,.dead,.dead]:=by rw[List.append_assoc];rfl
 show (σ++(bk (st0 h)::[.dead,.dead,.dead,.dead,.dead,.dead])).take (σ++[PO.rcd true []]).length=_;rw[e,show (σ++[PO.rcd true []]).length=(σ++[bk (st0 h)]).length by rw[Sn,Sn];rfl];exact List.take_left
theorem M5 {p s f:Nat} {b:CS} {args:List PV} {o:PO} (hT:TT f=some ⟨p,s,kp,b.ex⟩) (hl:args.length=p) (hr:args.map some++List.replicate (s - p) none=ρ) (h:b.ex (KK d hd) ρ σ=some (.ret (.p σ.length 0),σ++(o::ds))) (ho:∀ f,o≠ .fld f) (k:σ++[o]=σ''):CC (d+1) hd f args σ=some (.ok (.p σ.length 0),σ''):=
 rG hT hl hr h (by
  show (if σ.length<σ.length then _ else Br kp σ.length (σ++(o::ds)) 0 (σ++(o::ds))[σ.length]?)=_;rw[if_neg (S7 _),Ay,<-k];cases o with
  |fld f=>exact absurd rfl (ho f)
  |rcd i l=>show some (R.ok (PV.p σ.length 0),(σ++(PO.rcd i l::ds)).take σ.length++[.rcd i l])=_;rw[List.take_left]
  |dead=>show some (R.ok (PV.p σ.length 0),(σ++(PO.dead::ds)).take σ.length++[.dead])=_;rw[List.take_left]
  |wrp f=>show some (R.ok (PV.p σ.length 0),(σ++(PO.wrp f::ds)).take σ.length++[.wrp f])=_;rw[List.take_left])
theorem NJ {tb:List (List Nat)} {y:D} {l:List cD} (ha:Ev K a ρ (σ++(.rcd false l::ds)) (.d y)) (ho:Ev K o ρ (σ++(.rcd false l::ds)) (.p σ.length 0)) (ht:tb[k]? =some s) (hk:k=l.length) (h9:k<100):(Gs tb k o (au s) a).ex K ρ (σ++(.rcd false l::ds))=some (.next ρ,σ++(.rcd false (l++[.d y])::ds)):=by
 refine cy ha (cy ho (cy (a:=.d (.str s)) (σ':=σ++(.rcd false l::ds)) rfl ?_));show (nv tb k (.d y) (.p σ.length 0) (.d (.str s)) (σ++(.rcd false l::ds))).bind _=_;unfold nv;rw[ht,Sl,aO (show ij (.d (.str s))=some s from rfl),Sl];show ((cR false (σ++(.rcd false l::ds)) σ.length).bind _).bind _=_;rw[o_,Sl];show (if k=l.length then ax (k<100) _ else _).bind _=_;rw[if_pos hk,aO h9,tW];rfl
theorem NK {tb:List (List Nat)} {i:CE} {l:List cD} {x:D} (ha:a.ev K ρ (σ++(.rcd false l::ds))=some (.ok (.p (σ++(.rcd false l::ds)).length 0),(σ++(.rcd false l::ds))++[.fld f])) (ho:Ev K o ρ ((σ++(.rcd false l::ds))++[.fld f]) (.p σ.length 0)) (hi:Ev K i ρ ((σ++(.rcd false l::ds))++[.fld f]) (.d (.str s))) (ht:tb[l.length]? =some s) (h9:l.length<100) (hr:f.rd=some x):(Iy tb o i a).ex K ρ (σ++(.rcd false l::ds))=some (.next ρ,σ++(.rcd false (l++[f])::(ds++[.dead]))):=by
 refine cy ha (cy ho (cy hi ?_));show (nv tb (hV (.p σ.length 0) ((σ++(.rcd false l::ds))++[.fld f])) (.p (σ++(.rcd false l::ds)).length 0) (.p σ.length 0) (.d (.str s)) ((σ++(.rcd false l::ds))++[.fld f])).bind _=_;have rl:hV (.p σ.length 0) ((σ++(.rcd false l::ds))++[.fld f])=l.length:=by
  show ((cR false ((σ++(.rcd false l::ds))++[.fld f]) σ.length).getD []).length=_;rw[jK];rfl
 unfold nv;rw[rl,ht,Sl,aO (show ij (.d (.str s))=some s from rfl),Sl];show ((cR false ((σ++(.rcd false l::ds))++[.fld f]) σ.length).bind _).bind _=_;rw[jK,Sl];show ((ax (l.length=l.length/\l.length<100/\(σ++(.rcd false l::ds)).length≠σ.length) ()).bind _).bind _=_;rw[aO ⟨rfl,h9,by rw[Sn,Ss];exact PC⟩,Sl,dK,Sl,hr];show some (Out.next ρ,(((σ++(.rcd false l::ds))++[PO.fld f]).set (σ++(.rcd false l::ds)).length .dead).set σ.length (.rcd false (l++[f])))=_;rw[n8]
end
section
theorem Cj {x:D} (ha:a.ev K ρ (σ++[.rcd false []])=some (.ok (.p (σ++[PO.rcd false []]).length 0),(σ++[.rcd false []])++[.fld f])) (hr:f.rd=some x):(D6 s a).ev K ρ σ=some (.ok (.p σ.length 0),σ++(.rcd false [f]::[.dead])):=by
 show bU (jo (.rcd false [])) (fun x=>bU ((au s).ev K ρ) fun y=>bU (a.ev K ρ) fun v=>Dq s x y v) σ=_;refine aC (m:=jo (.rcd false [])) (a:=PV.p σ.length 0) (σ':=σ++[PO.rcd false []]) rfl ?_;refine aC (m:=(au s).ev K ρ) (a:=PV.d (.str s)) (σ':=σ++[PO.rcd false []]) rfl (aC ha ?_);have rl:hV (.p σ.length 0) ((σ++[.rcd false []])++[.fld f])=0:=by
  show ((cR false ((σ++[.rcd false []])++[.fld f]) σ.length).getD []).length=_;rw[jK];rfl
 show (ax (hV (.p σ.length 0) ((σ++[.rcd false []])++[.fld f])=0) ()).bind _=_;rw[aO rl,Sl];show (nv [s] 0 (.p (σ++[PO.rcd false []]).length 0) (.p σ.length 0) (.d (.str s)) ((σ++[.rcd false []])++[.fld f])).map _=_;unfold nv;show ((ax (ij (.d (.str s))=some s) ()).bind fun _=>Gp 0 (.p σ.length 0) (.p (σ++[PO.rcd false []]).length 0) ((σ++[.rcd false []])++[.fld f])).map _=_;rw[aO (show ij (.d (.str s))=some s from rfl),Sl];show ((cR false ((σ++[.rcd false []])++[.fld f]) σ.length).bind _).map _=_;rw[jK,Sl];show ((ax (0=([]:List cD).length/\0<100/\(σ++[PO.rcd false []]).length≠σ.length) ()).bind _).map _=_;rw[aO ⟨rfl,by decide,by rw[Sn,Ss];exact PC⟩,Sl,dK,Sl,hr];show some (R.ok (PV.p σ.length 0),(((σ++(PO.rcd false []::[]))++[PO.fld f]).set (σ++(PO.rcd false []::[])).length .dead).set σ.length (.rcd false [f]))=_;rw[n8];rfl
theorem NL {l:List cD} (he:Ev K e ρ (σ++(.rcd false l::ds)) (.p σ.length 0)) (hf:l[k]? =some f):Ev K (key e k s) ρ (σ++(.rcd false l::ds)) (zc σ.length k f):=by
 refine aC he (aC (a:=.d (.str s)) (σ':=σ++(.rcd false l::ds)) rfl ?_);show (ax (ij (.d (.str s))=some s) ()).bind (fun _=>oB false k (.p σ.length 0) (σ++(.rcd false l::ds)))=_;rw[aO (show ij (.d (.str s))=some s from rfl),Sl];show (cR false (σ++(.rcd false l::ds)) σ.length).bind _=_;rw[o_,Sl,hf];rfl
noncomputable def IF (T F:List (List Nat)) (mo:Int):Pl:=⟨bw::T,(T.length:Int)+1,F,[],[],[],[],[],mo,[]⟩
theorem Fr {x:Option PV} {s:aE} (hs:sc.length<=63) (hi:i<=100) (hj:j<=100):(aj (bH (aj (aF 33 (aj (ag 0) (aj (ai (i:Nat)) az))) (aj (aF 33 (aj (ag 0) (aj (ai (j:Nat)) az))) az))) az).ev (KK 7 false) [dV (.lst (sc.map .int)),x,none] s=some (.ok [.d (.lst [.int (cell sc i),.int (cell sc j)])],s):=cl1 (bL (cW (EZ (d:=6) hs rfl rfl (Sv (hi) (Sr rfl))) (cl1 (EZ (d:=6) hs rfl rfl (Sv (hj) (Sr rfl))))))
theorem Bu (hs:sc.length<=63):∃ T F,Lu T/\1<=T.length/\T.length<=4/\F.Nodup/\(∀ x∈F,aZ x=true)/\3<=F.length/\F.length<=8/\(∃ n0 v,∀ x∈F,x∈n0::v::curs)/\CC 8 false 108 [.d (.lst (sc.map .int))] []=some (.ok (.p 0 0),[pk (IF T F 5)]):=by
 obtain ⟨T,hT,hT1,hT4,eN⟩:=BE (c0:=cell sc 0) (c1:=cell sc 1);obtain ⟨F,hF,hC,hF3,hF10,hFq,eF⟩:=rC (o1:=.rcd false [.list ((bw::T).map .str),.d (.int ((T.length:Int)+1))]) (o2:=.dead) (c0:=cell sc 2) (c1:=cell sc 3);have ln:=iY (K:=KK 7 false) (ρ:=[dV (.lst (sc.map .int)),qV 0,none]) (σ:=[.rcd false [.list ((bw::T).map .str)],.dead]) (e:=key (ag 1) 0 Tu) (x:=.p 0 2) (l:=(bw::T).map .str) rfl rfl (by rw[Sk];exact Sv (Tl hT4) (by decide));rw[Sk] at ln;exact ⟨T,F,hT,hT1,hT4,hF,hC,hF3,hF10,hFq,rG (o:=.ret (.p 0 0)) (σ':=pk (IF T F 5)::List.replicate 6 .dead) rfl rfl rfl (aa (aA (Cj (σ:=[]) (eI eN (Fr hs (by decide) (by decide))) rfl) rfl) (aa (ρ':=[dV (.lst (sc.map .int)),qV 0,none]) (σ':=[.rcd false [.list ((bw::T).map .str),.d (.int ((T.length:Int)+1))],.dead]) (cy ln rfl) (aa (ρ':=[dV (.lst (sc.map .int)),qV 0,none]) (σ':=[.rcd false [.list ((bw::T).map .str),.d (.int ((T.length:Int)+1)),.d (.lst (F.map .str))],.dead]) (cy (eI eF (Fr hs (by decide) (by decide))) rfl) (by kernel_rfl)))) rfl⟩
theorem zH:∀ (T:List (List Nat)) (S:St) (x2:Option PV),Sh S->(∀ x∈T,j3 x/\x∉S.names)->T.Nodup->S.names.length+T.length<=100->S.deeds.length+T.length<=100->∃ y2,fe (.d v) v 2 (fun ρ=>qJ.ex (KK (d+2) false) ρ) (T.map .str) [qV m,qV σ.length,x2] (σ++[bk S])=some (.next [qV m,qV σ.length,y2],σ++[bk {S with names:=S.names++T,deeds:=S.deeds++T.map mi}]):=by
 intro T
 induction T with
 |nil=>
  intro S x2 _ _ _ _ _;exact ⟨x2,by simp only [List.map_nil,List.append_nil];rfl⟩
 |cons b T ih=>
  intro S x2 sh h nd l1 l2;rw[Ss] at l1 l2;have B:Bk (σ++[bk S]) σ.length S:=eS;have ar:=nc (d:=d) B sh (h b (.head _)).1 (h b (.head _)).2;rw[mE] at ar;obtain ⟨y2,e⟩:=ih (mh S b) (sV b) ⟨by show (S.names++[b]).length<=_;rw[Sn,Sw];exact Mh l1,sh.t,sh.m,sh.g,sh.e,by show (S.deeds++[mi b]).length<=_;rw[Sn,Sw];exact Mg l2⟩ (fun x hx=>⟨(h x (.tail _ hx)).1,fun z=>by
   rcases SF.mp z with z|z
   .exact (h x (.tail _ hx)).2 z
   .rw[Sq.mp z] at hx;exact (S9.mp nd).1 hx⟩) (S9.mp nd).2 (by show (S.names++[b]).length+_<=_;rw[Sn,Sw];exact ND l1) (by show (S.deeds++[mi b]).length+_<=_;rw[Sn,Sw];exact ND l2)
  refine ⟨y2,cB (aa (aK (bq B rfl (cl1 rfl) ar)) rfl) rfl (e.trans ?_)⟩;simp only [mh,List.append_assoc,List.map_cons];rfl
noncomputable def LF (h:List Nat) (T:List (List Nat)):St:=⟨h,bw::T,[],[],[],[],[],T.map mi⟩
theorem Af {h:List Nat} {l:CL} (hl:l.ev (KK (d+2) false) ρ σ=some (.ok [.d (.str h)],σ)) (hh:aZ h=true):(DY l).ev (KK (d+2) false) ρ σ=some (.ok (.p σ.length 0),σ++[bk (st0 h)]):=by
 refine aC hl ?_;refine aC (m:=JU) (a:=PV.p σ.length 0) (σ':=σ++[PO.rcd true []]) rfl ?_;refine aC (ED (d:=d) hh) ?_;rfl
theorem Fx {h:List Nat} (R:Rk σ m p) (hn:p.names=bw::T) (hc:p.curs=h::G) (hh:aZ h=true) (hT:Lu T) (ht:T.length<=10):CC (d+3) false 86 [.p m 0] σ=some (.ok (.p σ.length 0),σ++[bk (LF h T)]):=by
 have sh0:Sh (st0 h):=⟨Sr rfl,Sr rfl,Sr rfl,Sr rfl,Sr rfl,Sr rfl⟩;obtain ⟨y2,lp⟩:=zH (d:=d) (m:=m) (σ:=σ) (v:=.lst (T.map .str)) T (st0 h) none sh0 (fun x hx=>⟨hT.nm x hx,fun z=>by rw[Sq.mp z] at hx;exact hT.ne hx⟩) hT.nd (by show 1+_<=_;exact Sv (S5 ht 1) (Sr rfl)) (by show 0+_<=_;exact Sv (S5 ht 0) (Sr rfl));refine M5 (o:=bk (LF h T)) (ds:=[]) rfl rfl (ρ:=[qV m,none,none]) rfl ?_ (fun f h=>nomatch (show PO.rcd true (oR _)= .fld f from h)) rfl;have e0:Ev (KK (d+2) false) (sub (key (ag 0) 2 Tt) (ai 0)) [qV m,none,none] σ (.d (.str h)):=bQ (i0 R rfl) rfl rfl rfl (fc (k:=0) (by rw[hc];rfl));have R':Rk (σ++[bk (st0 h)]) m p:=R.app;have sl:=Jh (l:=p.names.map D.str) (by rw[Sk,hn,Ss];exact Rx) (by rw[Sk,hn,Ss];exact Sv (Nat.add_le_add_right (ht) _) (Sr rfl));rw[show (p.names.map D.str).drop 1=T.map .str by rw[hn];rfl] at sl;refine aa (aA (Af (cl1 e0) hh) rfl) ?_;refine aa (dp (fZ (fH R' rfl) rfl rfl (fE R') rfl rfl sl) (j2 (if_pos (by rw[Sk];exact co (Sv ht (Sr rfl))))) lp) ?_;exact rfl
theorem Js:∀ (T:List (List Nat)) (S:St),Sh S->(∀ x∈T,j3 x/\x∉S.names)->T.Nodup->S.names.length+T.length<=100->S.deeds.length+T.length<=100->Rp S (T.map .acc) {S with names:=S.names++T,deeds:=S.deeds++T.map mi}:=by
 intro T
 induction T with
 |nil=>
  intro S _ _ _ _ _;show _=S;simp only [List.map_nil,List.append_nil]
 |cons b T ih=>
  intro S sh h nd l1 l2;rw[Ss] at l1 l2;have e:=ih (mh S b) ⟨by show (S.names++[b]).length<=_;rw[Sn,Sw];exact Mh l1,sh.t,sh.m,sh.g,sh.e,by show (S.deeds++[mi b]).length<=_;rw[Sn,Sw];exact Mg l2⟩ (fun x hx=>⟨(h x (.tail _ hx)).1,fun z=>by
   rcases SF.mp z with z|z
   .exact (h x (.tail _ hx)).2 z
   .rw[Sq.mp z] at hx;exact (S9.mp nd).1 hx⟩) (S9.mp nd).2 (by show (S.names++[b]).length+_<=_;rw[Sn,Sw];exact ND l1) (by show (S.deeds++[mi b]).length+_<=_;rw[Sn,Sw];exact ND l2)
  refine ⟨mh S b,fun d σ n B=>hH B (nc B sh (h b (.head _)).1 (h b (.head _)).2),?_⟩;simp only [mh,List.append_assoc,List.singleton_append] at e;exact e
theorem Sg {h:List Nat} {mo:Int} (hT:Lu T) (h1:1<=T.length) (h4:T.length<=4) (hF:(h::G).Nodup) (hC:∀ x∈h::G,aZ x=true) (h3:3<=(h::G).length) (h10:(h::G).length<=8):Gd 10 (IF T (h::G) mo) (LF h T):=by
 exact {names:=rfl,nm:=⟨T,rfl,hT,h1⟩,nl:=by show (bw::T).length<=7;rw[Ss];exact SM h4 (Sr rfl),nd:=hF,ic:=hC,c3:=h3,c10:=h10,home:=rfl,made:=rfl,ends:=rfl,gone:=rfl,tell:=⟨[],rfl,rfl,fun c=>⟨[],rfl,Fb,Sy _⟩,Sy _⟩,rw:=aS,ent:=aS,cl1:=Int.le_refl _,cl2:=(by decide:cl []<=99999),l1:=SQ _,l2:=SQ _,l3:=SQ _,l4:=SQ _,l5:=SQ _,l6:=by show (T.map mi).length<=10;rw[Sk];exact Sv h4 (Sr rfl),cu:=aS,nos:=rfl,inc:=⟨List.pairwise_singleton _ _,fun _ h=>absurd h SI⟩,tc:=aS,hs:=.mk T [] [] rfl (by rw[List.append_nil];rfl) hT.nm rfl aS (by rw[List.append_nil];exact Js T (st0 h) ⟨Sr rfl,Sr rfl,Sr rfl,Sr rfl,Sr rfl,Sr rfl⟩ (fun x hx=>⟨hT.nm x hx,fun z=>by rw[Sq.mp z] at hx;exact hT.ne hx⟩) hT.nd (by show 1+_<=_;exact Sv (S5 (h4) _) (Sr rfl)) (by show 0+_<=_;exact Sv (S5 (h4) _) (Sr rfl)))}
end
section
variable {s r:Tx} {ws t l:List Tx}
theorem IS {v:PV} {x y:D} {b:bj->aE->Option (Out×aE)} {l:List D} (h:b (ρ.set i (dV y)) σ=some (.ex c ρ',σ')):fe v x i b (y::l) ρ σ=some (.ex c ρ',σ'):=by
 show (match b (ρ.set i (dV y)) σ with
  |some (.next ρ',σ')=>if bP σ' x v then fe v x i b l ρ' σ' else none
  |z=>z)=_
 rw[h]
theorem uh (hl:h.length<=1000) (hc:aZ h=false):CC (d+2) false 0 [.p σ.length 0,.d (.str h)] (σ++[.rcd true []])=some (.ex 2,σ++[.rcd true []]):=
 bR rfl rfl rfl (aY (cG (eI (oh hl hc) rfl))) (tk _)
theorem JT {l:CL} (hl:l.ev (KK (d+2) false) ρ σ=some (.ok [.d (.str h)],σ)) (h1:h.length<=1000) (hh:aZ h=false):(DY l).ev (KK (d+2) false) ρ σ=some (.ex 2,σ++[.rcd true []]):=by
 refine aC hl ?_;refine aC (m:=JU) (a:=PV.p σ.length 0) (σ':=σ++[PO.rcd true []]) rfl ?_;exact l_ (uh (d:=d) h1 hh)
noncomputable abbrev qT (tx:Tx) (x1 x2 x3 x4 x5:Option PV):bj:=[sV tx,x1,x2,x3,x4,x5]
noncomputable abbrev rV (ao:List Tx):Option PV:=dV (.lst (ao.map .str))
theorem DI (ht:tx.length<=1040000) (hr:an 10 tx=ao):(aN 1 (bm iW (ag 0) (aj (au [10]) az))).ex (KK (d+5) false) (qT tx none none none none none) σ=some (.next (qT tx (rV ao) none none none none),σ):=by
 rw[<-hr];exact aA (j8 rfl (Sv (ht) (Sr rfl))) rfl
theorem Aj (hl:l.length<=9000):Ev (KK (d+5) false) (sub (ag 1) (aJ dw (bi ba (aj (ag 1) az)) (ai 1))) (qT tx (rV (l++[last])) none none none none) σ (.d (.str last)):=by
 have q:Ev (KK (d+5) false) (aJ dw (bi ba (aj (ag 1) az)) (ai 1)) (qT tx (rV (l++[last])) none none none none) σ (.d (.int (((l++[last]).length:Int) - 1))):=aX (j1 (ws:=l++[last]) rfl (by rw[Sn,Sw];exact Sv (Nat.add_le_add_right (hl) _) (Sr rfl))) rfl rfl rfl rfl;rw[show ((l++[last]).length:Int) - 1=(l.length:Int) by rw[Sn,Sw];omega] at q;exact j9 rfl q (by rw[SK (Sy _),Nat.sub_self];rfl) (Sv (hl) (Sr rfl))
theorem lK (ht:tx.length<=1040000) (hr:an 10 tx=l++[last]) (hl:l.length<=9000) (h:last≠[]∨l=[]):CC (d+6) false 99 [.d (.str tx)] σ=some (.ex 16,σ):=by
 have a:=DI (d:=d) (σ:=σ) ht hr;by_cases q:last=[]
 .have hn:l=[]:=h.resolve_left fun z=>z q;subst q hn;exact bR rfl rfl rfl (aa a rfl) (tk _)
 .exact bR rfl rfl rfl (aa a (aY (bo (bz (eY (av (Aj hl) rfl rfl rfl (DZ q)))) (aY rfl)))) (tk _)
theorem pW (ht:tx.length<=1040000) (hr:an 10 tx=(h::body)++[[]]) (hl:body.length<=8000) (h5:∀ x∈h::body,x.length<=500):
  (j4 (an 32 h)=none->CC (d+6) false 99 [.d (.str tx)] σ=some (.ex 16,σ))/\
  (∀ hm,j4 (an 32 h)=some hm->(cF body=none->CC (d+6) false 99 [.d (.str tx)] σ=some (.ex 16,σ))/\
   ∀ ds,cF body=some ds->∀ z,(sC (aN 4 (DY (aj (ag 2) az))) (sC (jE 5 (ag 3) i9) (sC (bc (ag 4)) sN))).ex (KK (d+5) false) (qT tx (rV ((h::body)++[[]])) (sV hm) (dV (.lst (ds.map Dd.toD))) none none) σ=z->AB.ex (KK (d+5) false) (qT tx none none none none none) σ=z):=by
 have a:=DI (d:=d) (σ:=σ) ht hr;have hh:=h5 h (.head _);have s2:rf.ex (KK (d+5) false) (qT tx (rV ((h::body)++[[]])) none none none none) σ=some (.next (qT tx (rV ((h::body)++[[]])) none none none none),σ):=
  a' (bz (bM (av (Aj (l:=h::body) (by rw[Ss];exact Sv (Nat.add_le_add_right (hl) _) (Sr rfl))) rfl rfl rfl (D2 rfl)) (bM (av (j1 (ws:=(h::body)++[[]]) rfl (by rw[Sn,Ss,Sw];exact JL hl)) rfl rfl rfl (lU (by rw[Sn,Ss,Sw];omega))) rfl))) rfl
 have w:=nh (d:=d+4) (σ:=σ) (s:=h) (f:=jl) (m:=2) (vP hh) (by decide);have hw:∀ k,(wd (an 32 h) k).length<=1000:=fun k=>mB (vP hh);have w':(aF 92 (aj (sub (ag 1) (ai 0)) (aj (au [104,111,109,101]) (aj (ai 2) az)))).ev (KK (d+5) false) (qT tx (rV ((h::body)++[[]])) none none none none) σ=some (rX (gj (fit (an 32 h) jl 2) (some (.lst ((an 32 h).map .str)))),σ):=aB (cW (wO (ws:=(h::body)++[[]]) 0 rfl (by rw[Sn,Ss];omega)) rfl) w;unfold j4;generalize an 32 h=ws at w' hw;cases q:fit ws jl 2 with
 |false=>
  rw[q] at w';exact ⟨fun _=>bR rfl rfl rfl (aa a (aa s2 (aY (dS (uV (d7 (Di w'))))))) (tk _),fun _ h=>nomatch h⟩
 |true=>
 rw[q] at w';have n1:=sX (d:=d+4) (σ:=σ) 1 w' (by rw[js q];decide) (hw 1);cases q1:hZ (wd ws 1) with
 |false=>
  rw[q1] at n1;exact ⟨fun _=>bR rfl rfl rfl (aa a (aa s2 (aY (dS n1)))) (tk _),fun _ h=>nomatch h⟩
 |true=>
 rw[q1] at n1;refine And.intro (fun h=>nomatch h) (fun hm e=> ?_);obtain rfl:wd ws 1=hm:=Tc e;have sl:Ev (KK (d+5) false) (vi (ag 1) (k_ (ai 1)) (k_ (aJ dw (bi ba (aj (ag 1) az)) (ai 1)))) (qT tx (rV ((h::body)++[[]])) (sV (wd ws 1)) none none none) σ (.d (.lst (body.map .str))):=by
  have q:Ev (KK (d+5) false) (aJ dw (bi ba (aj (ag 1) az)) (ai 1)) (qT tx (rV ((h::body)++[[]])) (sV (wd ws 1)) none none none) σ (.d (.int ((((h::body)++[[]]).length:Int) - 1))):=aX (j1 (ws:=(h::body)++[[]]) rfl (by rw[Sn,Ss,Sw];exact JL hl)) rfl rfl rfl rfl;have e0:((((h::body)++([[]]:List Tx)).length:Nat):Int) - 1=((1+body.length:Nat):Int):=by rw[Sn,Ss,Sw];omega
  rw[e0] at q;refine fZ rfl rfl (AY q) rfl rfl rfl ?_;show dj _ (.int ((1:Nat):Int)) _=_;refine (tQ (k:=1) (m:=1+body.length) (l:=((h::body)++[[]]).map D.str) (OI) (by rw[Sk,Sn,Ss];omega) (by rw[Sk,Sn,Ss,Sw];exact JL hl)).trans ?_;rw[Nat.add_sub_cancel_left,List.cons_append,List.map_cons,List.drop_succ_cons,List.drop_zero,List.map_append];have:=List.take_left (l₁:=body.map D.str) (l₂:=[[]].map D.str);rw[Sk] at this;rw[this]
 have dr:=zo (d:=d) (σ:=σ) (ao:=body) (Sv (hl) (Sr rfl)) fun x hx=>h5 x (.tail _ hx);refine ⟨fun hp=> ?_,fun ds hp z hz=> ?_⟩
 .rw[hp] at dr;exact bR rfl rfl rfl (aa a (aa s2 (aa (aA n1 rfl) (aY (dS (aB (cl1 sl) dr)))))) (tk _)
 .rw[hp] at dr;exact aa a (aa s2 (aa (aA n1 rfl) (aa (aA (aB (cl1 sl) dr) rfl) hz)))
theorem pX (ht:tx.length<=1040000) (hr:an 10 tx=ao++[[]]) (hl:ao.length<=8000) (h5:∀ x∈ao,x.length<=500) (h:dW 0 ao≠some 1):CC (d+6) false 99 [.d (.str tx)] σ=some (.ex 16,σ):=by
 cases ao with
 |nil=>exact lK ht hr (by rw[Te];decide) (.inr rfl)
 |cons x body=>
  rw[Ss] at hl;obtain ⟨r1,r2⟩:=pW (d:=d) (σ:=σ) ht hr (Nat.le_of_succ_le hl) h5;cases q:j4 (an 32 x) with
  |none=>exact r1 q
  |some hm=>
   refine (r2 hm q).1 (xO fun e=>h ?_);show ((j4 (an 32 x)).map fun _=>1).bind (fun j=>dW j body)=_;rw[q];show dW (0+1) body=_;rw[DA,e];rfl
theorem DH {hm:Tx} {ds:List Dd} (ht:tx.length<=1040000) (hr:an 10 tx=(h::body)++[[]]) (hl:body.length<=8000) (h5:∀ x∈h::body,x.length<=500) (e1:j4 (an 32 h)=some hm) (e2:cF body=some ds) (h1:hm.length<=1000) (hc:aZ hm=false):CC (d+6) false 99 [.d (.str tx)] σ=some (.ex 2,σ):=
 bR rfl rfl rfl (((pW (d:=d) (σ:=σ) ht hr hl h5).2 hm e1).2 ds e2 _ (aY (dS (JT (d:=d+3) rfl h1 hc)))) (Iw σ _)
theorem Bs {x0 x1:Option PV} {rest:List D}:∀ {ds:List Dd} {S:St} {x5:Option PV},Rp S ds S'->∃ y5,∀ z,fe (.d v) v 5 (fun ρ=>i9.ex (KK (d+5) false) ρ) rest [x0,x1,x2,x3,qV σ.length,y5] (σ++[bk S'])=z->fe (.d v) v 5 (fun ρ=>i9.ex (KK (d+5) false) ρ) (ds.map Dd.toD++rest) [x0,x1,x2,x3,qV σ.length,x5] (σ++[bk S])=z:=by
 intro ds
 induction ds with
 |nil=>
  intro S x5 h;exact ⟨x5,fun z hz=>by cases h;exact hz⟩
 |cons x ds ih=>
  intro S x5 h;obtain ⟨S1,h1,h2⟩:=h;have e:=h1 (d+1) (σ++[bk S]) σ.length eS;rw[mE] at e;obtain ⟨y5,k⟩:=ih (x5:=dV x.toD) h2;exact ⟨y5,fun z hz=>cB (aa (aK (eI e rfl)) rfl) rfl (k z hz)⟩
theorem GC {hm:Tx} {ds more:List Dd} {x:Dd} (ht:tx.length<=1040000) (hr:an 10 tx=(h::body)++[[]]) (hl:body.length<=8000) (h5:∀ x∈h::body,x.length<=500) (e1:j4 (an 32 h)=some hm) (e2:cF body=some (ds++x::more)) (hc:aZ hm=true) (hlen:(ds++x::more).length<=100000) (rp:Rp (st0 hm) ds S) (fl:Fl x S c):CC (d+6) false 99 [.d (.str tx)] σ=some (.ex c,σ):=by
 have f:=fl (d+1) (σ++[bk S]) σ.length eS;obtain ⟨y5,k⟩:=Bs (d:=d) (σ:=σ) (v:=.lst ((ds++x::more).map Dd.toD)) (x0:=sV tx) (x1:=rV ((h::body)++[[]])) (x2:=sV hm) (x3:=dV (.lst ((ds++x::more).map Dd.toD))) (rest:=(x::more).map Dd.toD) (x5:=none) rp;have k:=k _ (IS (aY (cG (eI f rfl))));rw[<-List.map_append] at k;exact bR rfl rfl rfl (((pW (d:=d) (σ:=σ) ht hr hl h5).2 hm e1).2 _ e2 _ (aa (aA (Af (d:=d+3) (cl1 rfl) hc) rfl) (aY (dp rfl (j2 (if_pos (by rw[Sk];exact Sv hlen (by decide)))) k)))) (Iw σ _)
theorem EH {b:CS} {r:CH} {v:PV} (h:b.ex (KK d true) (ρ.set i (dV (.exc c))) σ=some (.ret v,σ')):(hA 0 i b r).ex (KK d false) c ρ σ=some (.ret v,σ'):=by
 show QP (c==0||true) (z9 (b.ex (KK d true) (ρ.set i (dV (.exc c))) σ)) _=_;rw[h,Bool.or_true];rfl
theorem fJ (h:CC (d+6) false 99 [.d (.str tx)] σ=some (.ex 16,σ)):CC (d+7) false 101 [.d (.str tx)] σ=some (.ok (.d (.bool true)),σ):=
 bf rfl rfl (ρ:=[sV tx,none]) rfl (aW (LJ (c:=16) (aY (cG (aB (cl1 rfl) h))) (by decide) (EH (aW (aU (uO (zj rfl (uN (aB (cl1 rfl) (Ei (d:=d+5) (c:=16) (by decide) (by decide))))))))))) (tk _)
theorem Fw:∀ bs:List Bool,gP (bs.map .bool)=some bs:=by
 intro bs
 induction bs with
 |nil=>
  exact rfl
 |cons b bs ih=>
  show (gP (bs.map .bool)).map (b::·)=_;rw[ih];rfl
theorem Kq {bs:List Bool} {b:Bool} (h0:Ev K o ρ σ (.p n j)) (h1:Ev K a ρ σ (.d (.bool b))) (r:rd σ (.p n j)=some (.lst (bs.map .bool))) (hb:b∈bs) (hl:bs.length<=1000):Ev K (bm xW o (aj a az)) ρ σ (.d (.int (bs.idxOf b:Nat))):=by
 refine aC h0 ?_;show (match (rd σ (.p n j)).any (Ez (.p n j)) with|true=>_|false=>none)=_
 rw[r];refine aC (cl1 h1) ?_;show (rd σ (.p n j)).bind _=_;rw[r];show Option.map _ ((gP (bs.map .bool)).bind fun bs=>ax (b∈bs/\bs.length<=1000) (D.int (bs.idxOf b:Nat)))=_;rw[Fw,Sl,aO ⟨hb,hl⟩];rfl
noncomputable def QK:List Tx:=[TO,[66,97,100,78,97,109,101],[84,97,107,101,110],[78,111,69,110,116,114,121],TP,[85,110,98,97,108,97,110,99,101,100],[67,108,111,115,101,100],[78,111,65,99,99,111,117,110,116],[66,97,100,65,109,111,117,110,116],[66,97,100,78,111,116,101],[66,97,100,82,97,116,101],[78,111,82,97,116,101],[84,111,111,83,109,97,108,108],[109,111,114,101]]
noncomputable def NR (c:Nat):List Bool:=[c==4||4==0,c==1||1==0,c==9||9==0,c==12||12==0,c==2||2==0,c==7||7==0,c==8||8==0,c==11||11==0,c==3||3==0,c==5||5==0,c==6||6==0,c==13||13==0,c==14||14==0,true]
noncomputable def DX (c:Nat):Tx:=QK.getD ((NR c).idxOf true) []
theorem sM (h:CC (d+6) false 99 [.d (.str tx)] σ=some (.ex c,σ)) (hc:c<nX):CC (d+7) false 100 [.d (.str tx)] σ=some (.ok (.d (.str (DX c))),σ):=by
 have hk:(NR c).idxOf true<14:=List.idxOf_lt_length_iff.mpr (.tail _ (.tail _ (.tail _ (.tail _ (.tail _ (.tail _ (.tail _ (.tail _ (.tail _ (.tail _ (.tail _ (.tail _ (.tail _ (.head _))))))))))))));have g:∀ s:aE,Ev (KK (d+6) true) (sub (ag 1) (bm xW (ag 3) (aj (fq true) az))) [sV tx,dV (.lst (QK.map .str)),dV (.exc c),qV s.length] (s++[.fld (.list ((NR c).map .bool))]) (.d (.str (DX c))):=fun s=>bQ rfl (Kq (n:=s.length) (j:=0) rfl rfl (jJ rfl) (List.idxOf_lt_length_iff.mp hk) (Sr rfl)) rfl rfl (fc (C5 (ws:=QK) hk) (Sv (Tr hk) (Sr rfl)));refine bf rfl rfl (ρ:=[sV tx,none,none,none]) rfl (aa rfl (aa rfl (aW (LJ (aY (cG (eI h rfl))) hc (EH ?_))))) (σ':=(((σ++[.fld (.list [D.bool (c==4||4==0),D.bool (c==1||1==0),D.bool (c==9||9==0),D.bool (c==12||12==0)])])++[.fld (.list [D.bool (c==4||4==0),D.bool (c==1||1==0),D.bool (c==9||9==0),D.bool (c==12||12==0),D.bool (c==2||2==0),D.bool (c==7||7==0),D.bool (c==8||8==0)])])++[.fld (.list [D.bool (c==4||4==0),D.bool (c==1||1==0),D.bool (c==9||9==0),D.bool (c==12||12==0),D.bool (c==2||2==0),D.bool (c==7||7==0),D.bool (c==8||8==0),D.bool (c==11||11==0),D.bool (c==3||3==0),D.bool (c==5||5==0)])])++[.fld (.list ((NR c).map .bool))]) ?_
 .refine aa (aA (g_ (cW (g9 rfl hc) (cW (g9 rfl hc) (cW (g9 rfl hc) (cl1 (g9 rfl hc)))))) rfl) ?_;refine aa (aA (uU rfl (bL (cW (g9 rfl hc) (cW (g9 rfl hc) (cl1 (g9 rfl hc))))) (jJ rfl) rfl (Sr rfl)) rfl) ?_;refine aa (aA (uU rfl (bL (cW (g9 rfl hc) (cW (g9 rfl hc) (cl1 (g9 rfl hc))))) (jJ rfl) rfl (Sr rfl)) rfl) ?_;refine aa (aA (uU rfl (bL (cW (g9 rfl hc) (cW (g9 rfl hc) (cW (g9 rfl hc) rfl)))) (jJ rfl) rfl (Sr rfl)) rfl) ?_;exact aW (aU (g _))
 .rw[List.append_assoc,List.append_assoc,List.append_assoc];exact List.take_left
end
noncomputable def LU:Dd->List (D×Tx)
 | .acc a=>[(.str iK,iK),(.str a,a)]
 | .rate c n t b=>[(.str cx,cx),(.str c,c),(.int n,aP n),(.int t,aP t),(.int b,aP b)]
 | .entry n note ls=>[(.str bX,bX),(.int n,aP n),(.int ls.length,aP ls.length),(.str note,note)]
 | .change n note g one a tk aM=>[(.str bG,bG),(.int n,aP n),(.str g,g),(.str one,one),(.int a,aP a),(.str tk,tk),(.str aM,aM),(.str note,note)]
 | .back k n=>[(.str eu,eu),(.int k,aP k),(.int n,aP n)]
 | .close n=>[(.str de,de),(.int n,aP n)]
noncomputable def hU (x:Dd):Tx:=aT [32] ((LU x).map (·.2))
noncomputable def kX (l:cw):Tx:=aT [32] [fV,l.1,l.2.1,aP l.2.2]
noncomputable def jH:Dd->List Tx
 | .entry n note ls=>hU (.entry n note ls)::ls.map kX
 |x=>[hU x]
def Wd (w:Tx):Prop:=(∀ c∈w,33<=c/\c<=126)/\w≠[]/\w.length<=32
theorem Wd.nm (h:Wd w):hZ w=true:=by
 obtain ⟨h1,h2,_⟩:=h;obtain ⟨c,r,rfl⟩:=List.exists_cons_of_ne_nil h2;show List.all _ _=true;exact List.all_eq_true.mpr fun x hx=>by rw[SC (h1 x hx).1,SC (h1 x hx).2];rfl
theorem Wd.sp (h:Wd w):32∉w:=fun q=>absurd (h.1 32 q).1 (by decide)
theorem zN (h:j3 w):Wd w:=by
 obtain ⟨x,r,rfl,h1,h2,h3⟩:=h;have a:∀ c∈nj,33<=c/\c<=126:=by decide
 have b:∀ c∈eT,33<=c/\c<=126:=by decide
 refine ⟨fun c hc=> ?_,List.cons_ne_nil _ _,by rw[Ss];exact Sv (Nat.add_le_add_right (h1) _) (Sr rfl)⟩;rcases Sm.mp hc with rfl|hc
 .exact a _ h2
 .exact b c (h3 c hc)
theorem gp (h:JR w):Wd w:=h.elim (fun e=>by rw[e];exact ⟨by decide,by decide,by decide⟩) zN
theorem cE (h:aZ w=true):Wd w:=by
 have a:∀ c∈ix,33<=c/\c<=126:=by decide
 have l:=dL h;exact ⟨fun c hc=>a c (S6 (List.all_eq_true.mp (aq h) c hc)),fun e=>(by rw[e] at l;cases l),OH l⟩
theorem dO {n:Int} (h:n.natAbs<10^31):Wd (aP n):=by
 obtain ⟨h1,h2⟩:=b9 h;refine ⟨fun c hc=> ?_,fun e=>(by rw[e] at h1;cases h1),(ti h).2⟩;have:=List.all_eq_true.mp h2 c hc;rcases (Bool.or_eq_true _ _).mp this with q|q
 .rw[eq_of_beq q];decide
 .have q1:=S6 (ah q);have q2:=S6 (aq q);exact ⟨Sv (Sr rfl) q1,Sv q2 (Sr rfl)⟩
theorem gN {n:Int} (h:bW n):n.natAbs<10^31:=by have:=h.1;have:=h.2;exact OG (by assumption) this
theorem rU {a:Int} (h:c8 a=true):a.natAbs<10^31:=by
 have h2:=S6 (ah (aq h));have h3:=S6 (aq (aq h));omega
theorem lW:∀ l:Tx,aT [c] (an c l)=l:=by
 intro l
 induction l with
 |nil=>
  exact rfl
 |cons x l ih=>
  have ih:=ih;have e:=gg c l;by_cases q:x=c
  .rw[q,mC,e];show []++[c]++aT [c] ((an c l).headD []::(an c l).tail)=_;rw[<-e,ih];rfl
  .rw[vE q];generalize (an c l).headD []=h at e;rw[e] at ih;cases z:(an c l).tail with
   |nil=>
    rw[z] at ih;have ih:h=l:=ih;show x::h=_;rw[ih]
   |cons y t=>
    rw[z] at ih;have ih:h++[c]++aT [c] (y::t)=l:=ih;show (x::h)++[c]++aT [c] (y::t)=_;rw[<-ih];rfl
theorem lI {c:Nat} {w:Tx}:∀ {ws:List Tx},(∀ p∈ws,c∉p)->an c (aT [c] (ws++[w]))=ws++an c w
 |[],_=>rfl
 |[p],h=>by
  show an c (p++[c]++w)=_;rw[List.append_assoc];exact dh (h p (.head _))
 |p::q::r,h=>by
  show an c (p++[c]++aT [c] (q::r++[w]))=_;rw[List.append_assoc];exact (dh (h p (.head _))).trans (congrArg (p::·) (lI fun x hx=>h x (.tail _ hx)))
theorem xA {ws:List Tx} (h:∀ p∈ws,Wd p):∀ p∈ws,32∉p:=fun p hp=>(h p hp).sp
theorem fI {ws:List Tx} (hn:ws≠[]) (h:∀ p∈ws,Wd p):an 32 (aT [32] ws)=ws:=gu hn (xA h)
theorem C6:Wd fV:=⟨by decide,by decide,by decide⟩
theorem zO:Wd bX:=⟨by decide,by decide,by decide⟩
theorem mw:Wd bG:=⟨by decide,by decide,by decide⟩
theorem C8:Wd iK:=⟨by decide,by decide,by decide⟩
theorem tJ:Wd cx:=⟨by decide,by decide,by decide⟩
theorem xo:Wd eu:=⟨by decide,by decide,by decide⟩
theorem tM:Wd de:=⟨by decide,by decide,by decide⟩
theorem C7:Wd jl:=⟨by decide,by decide,by decide⟩
theorem aG {q:α->Prop} {a:α} {l:List α} (h:q a) (k:∀ x∈l,q x):∀ x∈a::l,q x:=fun x hx=>(Sm.mp hx).elim (fun e=>e ▸ h) (k x)
def LG (l:cw):Prop:=JR l.1/\aZ l.2.1=true/\c8 l.2.2=true
theorem LG.ws {l:cw} (h:LG l):∀ p∈[fV,l.1,l.2.1,aP l.2.2],Wd p:=aG C6 (aG (gp h.1) (aG (cE h.2.1) (aG (dO (rU h.2.2)) aS)))
theorem B4 {l:cw} (h:LG l):cX (kX l)=some l:=by
 unfold cX kX;rw[fI (List.cons_ne_nil _ _) h.ws];show gj (hZ l.1) (gj (hZ l.2.1) ((a_ (aP l.2.2)).map fun n=>(l.1,l.2.1,n)))=_;rw[(gp h.1).nm,(cE h.2.1).nm,(b9 (rU h.2.2)).1];rfl
theorem yC:∀ {ls:List cw},(∀ l∈ls,LG l)->nD cX (ls.map kX)=some ls:=by
 intro ls
 induction ls with
 |nil=>
  intro _;exact rfl
 |cons l ls ih=>
  intro h;show (cX (kX l)).bind _=_;rw[B4 (h l (.head _)),Sl,ih fun x hx=>h x (.tail _ hx)];rfl
theorem Cn {x:Dd} {t:List Tx} (h:CR x):∃ r l,jH x=r::l/\l.length=x.len/\c6 r (l++t)=some x:=by
 cases x with
 |acc a=>
  refine ⟨_,[],rfl,rfl,?_⟩;have w:=zN h;have e:an 32 (hU (.acc a))=[iK,a]:=fI (List.cons_ne_nil _ _) (aG C8 (aG w aS));unfold c6 kh;rw[e];show gj (hZ a) (some (Dd.acc a))=_;rw[w.nm];rfl
 |rate c n u b=>
  refine ⟨_,[],rfl,rfl,?_⟩;obtain ⟨h1,h2,h3,h4⟩:=h;have i1:=gN h2;have i2:u.natAbs<10^31:=BA h3;have i3:b.natAbs<10^31:=BA h4;have e:an 32 (hU (.rate c n u b))=[cx,c,aP n,aP u,aP b]:=fI (List.cons_ne_nil _ _) (aG tJ (aG (cE h1) (aG (dO i1) (aG (dO i2) (aG (dO i3) aS)))));unfold c6 kh;rw[e];show gj (hZ c) ((a_ (aP n)).bind fun n=>(a_ (aP u)).bind fun t=>(a_ (aP b)).map fun b=>Dd.rate c n t b)=_;rw[(cE h1).nm,(b9 i1).1,(b9 i2).1,(b9 i3).1];rfl
 |entry n note ls=>
  refine ⟨_,ls.map kX,rfl,Sk _,?_⟩;obtain ⟨h1,h2,h3,h4⟩:=h;have i1:=gN h1;have i2:((ls.length:Nat):Int).natAbs<10^31:=JK h3;have e:an 32 (hU (.entry n note ls))=[bX,aP n,aP ls.length]++an 32 note:=lI (ws:=[bX,aP n,aP ls.length]) (xA (aG zO (aG (dO i1) (aG (dO i2) aS))));unfold c6 kh;rw[e];show gj (decide (4<=(bX::aP n::aP ls.length::an 32 note).length)) ((a_ (aP n)).bind fun n=>(a_ (aP ls.length)).bind fun k=>gj (decide (0<=k)&&decide (k<=((ls.map kX++t).length:Int))) ((nD cX ((ls.map kX++t).take k.toNat)).map fun ls=>Dd.entry n (aT [32] (an 32 note)) ls))=_;rw[mV (SC (by have:=split_pos (c:=32) (l:=note);rw[Ss,Ss,Ss];exact Nat.add_le_add_right this 3)),(b9 i1).1,(b9 i2).1,lW];show gj (decide ((0:Int)<=ls.length)&&decide ((ls.length:Int)<=((ls.map kX++t).length:Int))) ((nD cX ((ls.map kX++t).take (ls.length:Int).toNat)).map fun ls=>Dd.entry n note ls)=_;have tl:=List.take_left (l₁:=ls.map kX) (l₂:=t);rw[Sk] at tl;rw[mV (by rw[SC (o9),SC (by rw[Sn,Sk];exact OF)];rfl),Int.toNat_natCast,tl,yC h4];rfl
 |change n note g one a tk' aM=>
  refine ⟨_,[],rfl,rfl,?_⟩;obtain ⟨⟨h1,h2⟩,h3,h4,h5,h6,h7⟩:=h;have i1:=gN h1;have i2:=rU h5;have e:an 32 (hU (.change n note g one a tk' aM))=[bG,aP n,g,one,aP a,tk',aM]++an 32 note:=lI (ws:=[bG,aP n,g,one,aP a,tk',aM]) (xA (aG mw (aG (dO i1) (aG (gp h3) (aG (cE h4) (aG (dO i2) (aG (gp h6) (aG (cE h7) aS))))))));unfold c6 kh;rw[e];show gj (decide (8<=(bG::aP n::g::one::aP a::tk'::aM::an 32 note).length)) (gj (hZ g) (gj (hZ one) ((a_ (aP a)).bind fun a=>(a_ (aP n)).bind fun n=>gj (hZ tk') (gj (hZ aM) (some (Dd.change n (aT [32] (an 32 note)) g one a tk' aM))))))=_;rw[mV (SC (by have:=split_pos (c:=32) (l:=note);rw[Ss,Ss,Ss,Ss,Ss,Ss,Ss];exact Nat.add_le_add_right this 7)),(gp h3).nm,(cE h4).nm,(b9 i1).1,(b9 i2).1,lW,(gp h6).nm,(cE h7).nm];rfl
 |back k n=>
  refine ⟨_,[],rfl,rfl,?_⟩;obtain ⟨h1,h2⟩:=h;have i1:k.natAbs<10^31:=JJ h1;have i2:=gN h2;have e:an 32 (hU (.back k n))=[eu,aP k,aP n]:=fI (List.cons_ne_nil _ _) (aG xo (aG (dO i1) (aG (dO i2) aS)));unfold c6 kh;rw[e];show (a_ (aP k)).bind (fun k=>(a_ (aP n)).map fun n=>Dd.back k n)=_;rw[(b9 i1).1,(b9 i2).1];rfl
 |close n=>
  refine ⟨_,[],rfl,rfl,?_⟩;have i1:=gN h;have e:an 32 (hU (.close n))=[de,aP n]:=fI (List.cons_ne_nil _ _) (aG tM (aG (dO i1) aS));unfold c6 kh;rw[e];show (a_ (aP n)).map Dd.close=_;rw[(b9 i1).1];rfl
theorem qc:∀ {n m:Nat} {l:List Tx},l.length<=n->l.length<=m->eA n l=eA m l
 |0,0,_,_,_=>rfl
 |0,m+1,[],_,_=>rfl
 |0,_+1,_::_,h,_=>absurd h (Nat.not_succ_le_zero _)
 |n+1,0,[],_,_=>rfl
 |_+1,0,_::_,_,h=>absurd h (Nat.not_succ_le_zero _)
 |n+1,m+1,[],_,_=>rfl
 |n+1,m+1,r::t,h1,h2=>by
  rw[mK,mK];rw[Ss] at h1 h2;congr 1;funext x;rw[qc (n:=n) (m:=m) (by rw[List.length_drop];exact Sv (Nat.sub_le _ _) (Nat.le_of_succ_le_succ h1)) (by rw[List.length_drop];exact Sv (Nat.sub_le _ _) (Nat.le_of_succ_le_succ h2))]
theorem sW:∀ {n:Nat} {l:List Tx} {ds:List Dd},eA n l=some ds->ds.length<=l.length
 |0,[],ds,h=>by cases h;exact Sy _
 |n+1,[],ds,h=>by cases h;exact Sy _
 |0,_::_,_,h=>nomatch h
 |n+1,r::t,ds,h=>by
  rw[mK] at h;obtain ⟨x,_,h⟩:=ak h;obtain ⟨ds',e,rfl⟩:=aL h;have:=sW e;rw[List.length_drop] at this;rw[Ss,Ss];exact Tl (Sv this (Nat.sub_le _ _))
theorem vO {x:Dd} {t:List Tx} (h:CR x):cF (jH x++t)=(cF t).map (x::·):=by
 obtain ⟨r,l,e1,e2,e3⟩:=Cn (t:=t) h;unfold cF;rw[e1,List.cons_append,Ss,mK,e3];show (eA (l++t).length ((l++t).drop x.len)).map _=_;rw[<-e2,List.drop_left,qc (m:=t.length) (by rw[Sn];exact OE) (Sy _)]
noncomputable def ce (ds:List Dd):List Tx:=(ds.map jH).flatten
theorem qb {t:List Tx}:∀ {ds:List Dd},(∀ x∈ds,CR x)->cF (ce ds++t)=(cF t).map (ds++·):=by
 intro ds
 induction ds with
 |nil=>
  intro _;show cF t=_;cases cF t<;>rfl
 |cons x ds ih=>
  intro h;show cF ((jH x++ce ds)++t)=_;rw[List.append_assoc,vO (h x (.head _)),ih fun y hy=>h y (.tail _ hy),Option.map_map];rfl
structure FW (r:Tx):Prop where
 n:10∉r
 l:r.length<=190
 e:r≠[]
theorem jF {ws:List Tx} {note:Tx} (h:∀ p∈ws,Wd p) (hn:∀ c∈note,32<=c/\c<=126) (hl:note.length<=40) (h0:ws≠[]) (h7:(ws.map List.length).sum+ws.length<=149):FW (aT [32] (ws++[note])):=by
 have hj:∀ (ws:List Tx),(∀ p∈ws,∀ c∈p,32<=c)->∀ c∈aT [32] ws,32<=c:=by
  intro ws
  induction ws with
  |nil=>exact fun _ c hc=>absurd hc SI
  |cons p ws ih=>
   intro h c hc;cases ws with
   |nil=>exact h p (.head _) c hc
   |cons q ws=>
    have hc:c∈p++[32]++aT [32] (q::ws):=hc;rcases SF.mp hc with hc|hc
    .rcases SF.mp hc with hc|hc
     .exact h p (.head _) c hc
     .rw[Sq.mp hc];decide
    .exact ih (fun x hx=>h x (.tail _ hx)) c hc
 have a:∀ p∈ws++[note],∀ c∈p,32<=c:=fun p hp c hc=>by
  rcases SF.mp hp with hp|hp
  .have:=((h p hp).1 c hc).1;exact S3 this
  .rw[Sq.mp hp] at hc;exact (hn c hc).1
 refine ⟨fun z=>absurd (hj _ a 10 z) (by decide),?_,?_⟩
 .have:=wz (s:=[32]) (ws++[note]);rw[List.map_append,List.sum_append,Sn,Sw] at this;have e:([note].map List.length).sum=note.length:=by simp
  have e1:[32].length=1:=rfl;rw[e,e1,Nat.mul_one] at this;omega
 .obtain ⟨p,r,rfl⟩:=List.exists_cons_of_ne_nil h0;obtain ⟨c,q,e⟩:=List.exists_cons_of_ne_nil (h p (.head _)).2.1;intro z;rw[e] at z;cases r with
  |nil=>cases z
  |cons y r=>cases z
theorem pg (h:JR w):w.length<=12:=h.elim (fun e=>by rw[e];decide) fun h=>(qg h).2
theorem Wd.pr (h:Wd w):∀ c∈w,32<=c/\c<=126:=fun c hc=>⟨Nat.le_of_succ_le (h.1 c hc).1,(h.1 c hc).2⟩
theorem eQ {ws:List Tx}:((w::ws).map List.length).sum=w.length+(ws.map List.length).sum:=by rw[List.map_cons,List.sum_cons]
theorem vA:(([]:List Tx).map List.length).sum=0:=rfl
theorem Gy {l:cw} (h:LG l):FW (kX l):=by
 have w:=dO (rU h.2.2);have:=w.2.2;have:=pg h.1;have:=dL h.2.1;refine jF (ws:=[fV,l.1,l.2.1]) (aG C6 (aG (gp h.1) (aG (cE h.2.1) aS))) w.pr (Ma (by assumption)) (List.cons_ne_nil _ _) ?_;rw[eQ,eQ,eQ,vA];show 4+_+3<=_;exact OD (by assumption) this
theorem Gz {x:Dd} (h:CR x):FW (hU x):=by
 cases x with
 |acc a=>
  have:=(qg h).2;exact jF (note:=a) (ws:=[iK]) (aG C8 aS) (zN h).pr (Sv (this) (Sr rfl)) (List.cons_ne_nil _ _) (by decide)
 |rate c n u b=>
  obtain ⟨h1,h2,h3,h4⟩:=h;have i1:=dO (gN h2);have i2:=dO (n:=u) (BA h3);have i3:=dO (n:=b) (BA h4);have:=i1.2.2;have:=i2.2.2;have:=i3.2.2;have:=dL h1;refine jF (note:=aP b) (ws:=[cx,c,aP n,aP u]) (aG tJ (aG (cE h1) (aG i1 (aG i2 aS)))) i3.pr (Ma (by assumption)) (List.cons_ne_nil _ _) ?_;rw[eQ,eQ,eQ,eQ,vA];show 4+_+4<=_;exact OC (by assumption) (by assumption) this
 |entry n note ls=>
  obtain ⟨h1,h2,h3,h4⟩:=h;have i1:=dO (gN h1);have i2:=dO (n:=(ls.length:Int)) (JK h3);have:=i1.2.2;have:=i2.2.2;refine jF (ws:=[bX,aP n,aP ls.length]) (aG zO (aG i1 (aG i2 aS))) h2.2 h2.1 (List.cons_ne_nil _ _) ?_;rw[eQ,eQ,eQ,vA];show 5+_+3<=_;exact OB (by assumption) this
 |change n note g one a tk' aM=>
  obtain ⟨⟨h1,h2⟩,h3,h4,h5,h6,h7⟩:=h;have i1:=dO (gN h1);have i2:=dO (rU h5);have:=i1.2.2;have:=i2.2.2;have:=pg h3;have:=pg h6;have:=dL h4;have:=dL h7;refine jF (ws:=[bG,aP n,g,one,aP a,tk',aM]) (aG mw (aG i1 (aG (gp h3) (aG (cE h4) (aG i2 (aG (gp h6) (aG (cE h7) aS))))))) h2.2 h2.1 (List.cons_ne_nil _ _) ?_;rw[eQ,eQ,eQ,eQ,eQ,eQ,eQ,vA];show 6+_+7<=_;exact OA (by assumption) (by assumption) (by assumption) (by assumption) (by assumption) this
 |back k n=>
  obtain ⟨h1,h2⟩:=h;have i1:=dO (n:=k) (JJ h1);have i2:=dO (gN h2);have:=i1.2.2;have:=i2.2.2;refine jF (note:=aP n) (ws:=[eu,aP k]) (aG xo (aG i1 aS)) i2.pr (Sv this (Sr rfl)) (List.cons_ne_nil _ _) ?_;rw[eQ,eQ,vA];show 4+_+2<=_;exact Oz (by assumption)
 |close n=>
  have i1:=dO (gN h);have:=i1.2.2;exact jF (note:=aP n) (ws:=[de]) (aG tM aS) i1.pr (Sv this (Sr rfl)) (List.cons_ne_nil _ _) (by decide)
theorem vI {x:Dd} (h:CR x):(∀ r∈jH x,FW r)/\(jH x).length<=61:=by
 have r:=Gz h;cases x with
 |entry n note ls=>
  obtain ⟨h1,h2,h3,h4⟩:=h;refine ⟨aG r fun y hy=> ?_,by show (ls.map kX).length+1<=_;rw[Sk];exact Tl h3⟩;obtain ⟨l,hl,rfl⟩:=SD.mp hy;exact Gy (h4 l hl)
 |acc a=>exact ⟨aG r aS,Sr rfl⟩
 |rate c n u b=>exact ⟨aG r aS,Sr rfl⟩
 |change n note g one a tk' aM=>exact ⟨aG r aS,Sr rfl⟩
 |back k n=>exact ⟨aG r aS,Sr rfl⟩
 |close n=>exact ⟨aG r aS,Sr rfl⟩
theorem xI:∀ {ds:List Dd},(∀ x∈ds,CR x)->(∀ r∈ce ds,FW r)/\(ce ds).length<=61*ds.length:=by
 intro ds
 induction ds with
 |nil=>
  intro _;exact ⟨aS,Sy _⟩
 |cons x ds ih=>
  intro h;obtain ⟨a1,a2⟩:=vI (h x (.head _));obtain ⟨b1,b2⟩:=ih fun y hy=>h y (.tail _ hy);refine ⟨fun r hr=> ?_,?_⟩
  .have hr:r∈jH x++ce ds:=hr;exact (SF.mp hr).elim (a1 r) (b1 r)
  .show (jH x++ce ds).length<=_;rw[Sn,Ss];exact Oy a2 b2
noncomputable def gR (ao:List Tx):Tx:=(ao.map (· ++[10])).flatten
theorem zP {r:Tx}:gR (r::ao)=r++10::gR ao:=by
 show (r++[10])++gR ao=_;rw[List.append_assoc];rfl
theorem pT {X:Tx}:∀ {ao:List Tx},(∀ r∈ao,10∉r)->an 10 (gR ao++X)=ao++an 10 X:=by
 intro ao
 induction ao with
 |nil=>
  intro _;exact rfl
 |cons r ao ih=>
  intro h;rw[zP,List.append_assoc,List.cons_append,dh (h r (.head _)),ih fun x hx=>h x (.tail _ hx)];rfl
theorem xp:∀ {ao:List Tx},(∀ r∈ao,r.length<=k)->(gR ao).length<=(k+1)*ao.length:=by
 intro ao
 induction ao with
 |nil=>
  intro _;exact SQ _
 |cons r ao ih=>
  intro h;have ih:=ih fun x hx=>h x (.tail _ hx);have:=h r (.head _);rw[zP,Sn,Ss,Ss,Nat.mul_succ];exact Ox ih this
theorem wy:∀ ts:List Tx,aT [] ts=ts.flatten
 |[]=>rfl
 |[t]=>by show t=t++[];rw[List.append_nil]
 |t::u::r=>by
  show t++[]++aT [] (u::r)=t++(u::r).flatten;rw[List.append_nil,wy (u::r)]
section
variable {s r:Tx} {ws t rs:List Tx}
theorem EY {s:Tx} {ts:List Tx} (h1:Ev K o ρ σ (.d (.str s))) (h2:Ev K a ρ σ x) (r:rd σ x=some (.lst (ts.map .str))) (hs:s.length<=15) (hl:(ts.map List.length).sum+ts.length<=1048576):Ev K (bm mO o (aj a az)) ρ σ (.d (.str (aT s ts))):=by
 refine aC h1 (aC (cl1 h2) ?_);show ((rd σ x).bind fun v=>_)=_;rw[r,Sl];show (((pQ (ts.map .str)).bind fun ts=>ax ((ts.map List.length).sum+ts.length<=1048576/\s.length<=15) (D.str (aT s ts))).map _)=_;rw[vC,Sl,aO ⟨hl,hs⟩];rfl
theorem vp (hl:ao.length<=5000) (hr:∀ r∈ao,r.length<=200):CC (d+1) false 105 [.d (.lst (ao.map .str))] σ=some (.ok (.d (.str (gR ao))),σ):=by
 have cm:=gO (K:=KK d false) (ρ:=[dV (.lst (ao.map .str)),none]) (σ:=σ) (i:=1) (bT:=aJ aH (ag 1) (au [10])) (y:=.lst (ao.map .str)) D.str (fun r=>.str (r++[10])) ao [] (fun r hr'=>aX rfl rfl rfl rfl (lq (Sv (by have:=hr r hr';show _+1<=201;exact Tl this) (by decide)))) (by rw[Te];exact Sv (S5 (hl) _) (Sr rfl));have e:Ev (KK d false) (nC false (iF 1 (ag 0) dJ (aJ aH (ag 1) (au [10])))) [dV (.lst (ao.map .str)),none] σ (.d (.lst ((ao.map (· ++[10])).map .str))):=by
  rw[List.map_map];exact mX (fN rfl (j2 (if_pos (by rw[Sk];exact Sv hl (by decide)))) cm)
 have hs:((ao.map (· ++[10])).map List.length).sum<=(ao.map (· ++[10])).length*201:=Dg fun t ht=>by
  obtain ⟨r,hr',rfl⟩:=SD.mp ht;have:=hr r hr';rw[Sn,Sw];exact Tl this
 rw[Sk] at hs;have q:=EY (K:=KK d false) (ρ:=[dV (.lst (ao.map .str)),none]) (σ:=σ) (o:=au []) (s:=[]) rfl e rfl (by decide) (by rw[Sk];exact Sv (Nat.add_le_add (Sv hs (Nat.mul_le_mul_right _ (hl))) (hl)) (Sr rfl));rw[wy] at q;exact bf rfl rfl rfl (aW (aU q)) (tk _)
noncomputable abbrev qK (m n:Nat) (x2 x3 x4:Option PV):bj:=[qV m,qV n,x2,x3,x4,none]
noncomputable abbrev rS (σ:aE) (rs:List Tx):aE:=σ++[.fld (.list (rs.map .str))]
theorem oZ (h:Ev K a (qK m σ.length x2 x3 x4) (rS σ rs) (.d (.str r))) (hl:rs.length<=5000):(bm a9 (ag 1) (aj a az)).ev K (qK m σ.length x2 x3 x4) (rS σ rs)=some (.ok (.d .none),rS σ (rs++[r])):=by
 have q:=cU (K:=K) (o:=ag 1) (ρ:=qK m σ.length x2 x3 x4) (σ:=rS σ rs) (n:=σ.length) (j:=0) (l:=rs.map D.str) rfl h dK (by rw[Sk];exact SM hl (by decide));rw[gY] at q;rw[q];show _=some (R.ok (PV.d .none),σ++[.fld (.list ((rs++[r]).map .str))]);rw[List.map_append];rfl
theorem jt {b:CE} {x y:Tx} (h1:Ev K a ρ σ (.d (.str x))) (h2:Ev K b ρ σ (.d (.str y))) (hl:x.length+y.length<=1000):Ev K (aJ aH a b) ρ σ (.d (.str (x++y))):=aX h1 h2 rfl rfl (lq (Sv hl (by decide)))
theorem FU:∀ (T:List Tx) (rs:List Tx) (x2:Option PV),(∀ x∈T,x.length<=100)->rs.length+T.length<=5000->∃ y2,fe (.d v) v 2 (fun ρ=>qw.ex (KK d false) ρ) (T.map .str) (qK m σ.length x2 x3 x4) (rS σ rs)=some (.next (qK m σ.length y2 x3 x4),rS σ (rs++T.map fun a=>hU (.acc a))):=by
 intro T
 induction T with
 |nil=>
  intro rs x2 _ _;exact ⟨x2,by simp only [List.map_nil,List.append_nil];rfl⟩
 |cons b T ih=>
  intro rs x2 h hl;rw[Ss] at hl;have e:Ev (KK d false) (aJ aH (au [97,99,99,111,117,110,116,32]) (ag 2)) (qK m σ.length (sV b) x3 x4) (rS σ rs) (.d (.str (hU (.acc b)))):=by
   have q:=jt (K:=KK d false) (ρ:=qK m σ.length (sV b) x3 x4) (σ:=rS σ rs) (a:=au [97,99,99,111,117,110,116,32]) (b:=ag 2) (y:=b) rfl rfl (by have:=h b (.head _);show 8+_<=_;exact Sv (S5 (this) _) (Sr rfl));exact q
  obtain ⟨y2,k⟩:=ih (rs++[hU (.acc b)]) (sV b) (fun x hx=>h x (.tail _ hx)) (by rw[Sn,Sw];exact L_ hl);refine ⟨y2,cB (aa (aK (oZ e (Sv (Th _ _) hl))) rfl) rfl (k.trans ?_)⟩;rw[List.append_assoc];rfl
theorem B3:∀ (ls:List cw) (rs:List Tx) (x4:Option PV),(∀ l∈ls,LG l)->rs.length+ls.length<=5000->∃ y4,fe (.d v) v 4 (fun ρ=>qv.ex (KK d false) ρ) (ls.map bI) (qK m σ.length x2 x3 x4) (rS σ rs)=some (.next (qK m σ.length x2 x3 y4),rS σ (rs++ls.map kX)):=by
 intro ls
 induction ls with
 |nil=>
  intro rs x4 _ _;exact ⟨x4,by simp only [List.map_nil,List.append_nil];rfl⟩
 |cons l ls ih=>
  intro rs x4 h hl;rw[Ss] at hl;have hL:=h l (.head _);have h1:=pg hL.1;have h2:=dL hL.2.1;obtain ⟨f1,f2⟩:=ti (rU hL.2.2);have g:∀ (k:Nat) (z:D),[D.str l.1,.str l.2.1,.int l.2.2][k]? =some z->k<=100->Ev (KK d false) (sub (ag 4) (ai (k:Nat))) (qK m σ.length x2 x3 (dV (bI l))) (rS σ rs) (.d z):=fun k z hz hk=>bQ rfl rfl rfl rfl (rc hz (Sv hk (Sr rfl)));have c1:=jt (K:=KK d false) (ρ:=qK m σ.length x2 x3 (dV (bI l))) (σ:=rS σ rs) (a:=au [108,105,110,101,32]) (x:=[108,105,110,101,32]) rfl (g 0 _ rfl (by decide)) (by show 5+_<=_;exact Sv (S5 (h1) _) (Sr rfl));have c2:=jt c1 (b:=au [32]) (y:=[32]) rfl (by rw[Sn];show 5+_+1<=_;exact Sv (Nat.add_le_add_right (S5 (h1) _) _) (Sr rfl));have c3:=jt c2 (g 1 _ rfl (by decide)) (by rw[Sn,Sn];show 5+_+1+_<=_;exact Sv (Nat.add_le_add (Nat.add_le_add_right (S5 (h1) _) _) (Td h2)) (Sr rfl));have c4:=jt c3 (b:=au [32]) (y:=[32]) rfl (by rw[Sn,Sn,Sn];show 5+_+1+_+1<=_;exact Sv (Nat.add_le_add_right (Nat.add_le_add (Nat.add_le_add_right (S5 (h1) _) _) (Td h2)) _) (Sr rfl));have c5:=jt c4 (zT (g 2 _ rfl (by decide)) f1) (by rw[Sn,Sn,Sn,Sn];show 5+_+1+_+1+_<=_;exact Sv (Nat.add_le_add (Nat.add_le_add_right (Nat.add_le_add (Nat.add_le_add_right (S5 (h1) _) _) (Td h2)) _) (f2)) (Sr rfl));have e5:(((([108,105,110,101,32]++l.1)++[32])++l.2.1)++[32])++aP l.2.2=kX l:=by
   show _=fV++[32]++(l.1++[32]++(l.2.1++[32]++aP l.2.2));simp only [List.append_assoc];rfl
  rw[e5] at c5;obtain ⟨y4,k⟩:=ih (rs++[kX l]) (dV (bI l)) (fun x hx=>h x (.tail _ hx)) (by rw[Sn,Sw];exact L_ hl);refine ⟨y4,cB (aa (aK (oZ c5 (Sv (Th _ _) hl))) rfl) rfl (k.trans ?_)⟩;rw[List.append_assoc];rfl
theorem By {qs:List (D×Tx)} (h:∀ q∈qs,F2 q.1=some q.2/\q.2.length<=600) (hl:qs.length<=100):Ev (KK d false) (bm mO (au [32]) (aj (nC false (iF 5 (ag 3) dJ (bi wL (aj (ag 5) az)))) az)) (qK m σ.length x2 (dV (.tup (qs.map (·.1)))) x4) (rS σ rs) (.d (.str (aT [32] (qs.map (·.2))))):=by
 have cm:=gO (K:=KK d false) (ρ:=qK m σ.length x2 (dV (.tup (qs.map (·.1)))) x4) (σ:=rS σ rs) (i:=5) (bT:=bi wL (aj (ag 5) az)) (y:=.tup (qs.map (·.1))) (fun q=>q.1) (fun q=>.str q.2) qs [] (fun q hq=>zT rfl (h q hq).1) (by rw[Te];exact Sv (S5 (hl) _) (Sr rfl));have e:Ev (KK d false) (nC false (iF 5 (ag 3) dJ (bi wL (aj (ag 5) az)))) (qK m σ.length x2 (dV (.tup (qs.map (·.1)))) x4) (rS σ rs) (.d (.lst ((qs.map (·.2)).map .str))):=by
  rw[List.map_map];exact mX (fN rfl (j2 rfl) cm)
 exact uL rfl e rfl (by decide) (fun t ht=>by
  obtain ⟨q,hq,rfl⟩:=SD.mp ht;exact (h q hq).2) (by rw[Sk];exact Sv (hl) (Sr rfl))
end
section
variable {s r:Tx} {ws t rs:List Tx}
theorem IT {s:Tx} (h:s.length<=600):F2 (.str s)=some s/\s.length<=600:=⟨rfl,h⟩
theorem ou {i:Int} (h:i.natAbs<10^31):F2 (.int i)=some (aP i)/\(aP i).length<=600:=⟨(ti h).1,Sv (ti h).2 (by decide)⟩
theorem Wd.fm (h:Wd w):F2 (.str w)=some w/\w.length<=600:=IT (Sv h.2.2 (by decide))
noncomputable def MK:Dd->Bool
 | .entry _ _ _=>true
 |_=>false
theorem DP {x:Dd} (h:CR x) (hx:MK x=false):Bw x= .tup ((LU x).map (·.1))/\jH x=[hU x]/\(LU x).length<=8/\(∀ q∈LU x,F2 q.1=some q.2/\q.2.length<=600)/\∃ f,((LU x).map (·.1))[0]? =some (.str f)/\f≠bX:=by
 cases x with
 |entry n note ls=>cases hx
 |acc a=>exact ⟨rfl,rfl,Sr rfl,aG C8.fm (aG (zN h).fm aS),_,rfl,by decide⟩
 |rate c n u b=>
  obtain ⟨h1,h2,h3,h4⟩:=h;exact ⟨rfl,rfl,Sr rfl,aG tJ.fm (aG (cE h1).fm (aG (ou (gN h2)) (aG (ou (BA h3)) (aG (ou (BA h4)) aS)))),_,rfl,by decide⟩
 |change n note g one a tk' aM=>
  obtain ⟨⟨h1,h2⟩,h3,h4,h5,h6,h7⟩:=h;exact ⟨rfl,rfl,Sr rfl,aG mw.fm (aG (ou (gN h1)) (aG (gp h3).fm (aG (cE h4).fm (aG (ou (rU h5)) (aG (gp h6).fm (aG (cE h7).fm (aG (IT (Sv h2.1 (by decide))) aS))))))),_,rfl,by decide⟩
 |back k n=>
  obtain ⟨h1,h2⟩:=h;exact ⟨rfl,rfl,Sr rfl,aG xo.fm (aG (ou (JJ h1)) (aG (ou (gN h2)) aS)),_,rfl,by decide⟩
 |close n=>exact ⟨rfl,rfl,Sr rfl,aG tM.fm (aG (ou (gN h)) aS),_,rfl,by decide⟩
theorem Cm {x:Dd} (h:CR x) (hl:rs.length<=4900):∃ y4,lN.ex (KK d false) (qK m σ.length x2 (dV (Bw x)) x4) (rS σ rs)=some (.next (qK m σ.length x2 (dV (Bw x)) y4),rS σ (rs++jH x)):=by
 cases q:MK x with
 |false=>
  obtain ⟨e1,e2,e3,e4,f,e5,e6⟩:=DP h q;rw[e1,e2];exact ⟨x4,aa (a' (av (bQ rfl rfl rfl rfl (rc (k:=0) e5)) rfl rfl rfl (fX e6)) (aa (aK (oZ (By e4 (Sv (e3) (Sr rfl))) (Sv (hl) (Sr rfl)))) rfl)) rfl⟩
 |true=>
 cases x with
 |acc a=>cases q
 |rate c n u b=>cases q
 |change n note g one a tk' aM=>cases q
 |back k n=>cases q
 |close n=>cases q
 |entry n note ls=>
  obtain ⟨h1,h2,h3,h4⟩:=h;obtain ⟨f1,f2⟩:=ti (gN h1);obtain ⟨f3,f4⟩:=ti (i:=(ls.length:Int)) (JK h3);have h20:=h2.1;have g:∀ (k:Nat) (z:D),[D.str bX,.int n,.str note,.tup (ls.map bI)][k]? =some z->k<=100->Ev (KK d false) (sub (ag 3) (ai (k:Nat))) (qK m σ.length x2 (dV (Bw (.entry n note ls))) x4) (rS σ rs) (.d z):=fun k z hz hk=>bQ rfl rfl rfl rfl (rc hz (Sv hk (Sr rfl)));have ln:Ev (KK d false) (bi ba (aj (sub (ag 3) (ai 3)) az)) (qK m σ.length x2 (dV (Bw (.entry n note ls))) x4) (rS σ rs) (.d (.int ls.length)):=by
   have q:=MB (hd:=false) (σ:=rS σ rs) (x:=.d (.tup (ls.map bI))) rfl (by rw[Sk];exact Sv h3 (by decide));rw[Sk] at q;exact cC rfl q
  have c1:=jt (K:=KK d false) (ρ:=qK m σ.length x2 (dV (Bw (.entry n note ls))) x4) (σ:=rS σ rs) (a:=au [101,110,116,114,121,32]) (x:=[101,110,116,114,121,32]) rfl (zT (g 1 _ rfl (by decide)) f1) (by show 6+_<=_;exact Sv (S5 (f2) _) (Sr rfl));have c2:=jt c1 (b:=au [32]) (y:=[32]) rfl (by rw[Sn];show 6+_+1<=_;exact Sv (Nat.add_le_add_right (S5 (f2) _) _) (Sr rfl));have c3:=jt c2 (zT ln f3) (by rw[Sn,Sn];show 6+_+1+_<=_;exact Sv (Nat.add_le_add (Nat.add_le_add_right (S5 (f2) _) _) (f4)) (Sr rfl));have c4:=jt c3 (b:=au [32]) (y:=[32]) rfl (by rw[Sn,Sn,Sn];show 6+_+1+_+1<=_;exact Sv (Nat.add_le_add_right (Nat.add_le_add (Nat.add_le_add_right (S5 (f2) _) _) (f4)) _) (Sr rfl));have c5:=jt c4 (g 2 _ rfl (by decide)) (by rw[Sn,Sn,Sn,Sn];show 6+_+1+_+1+_<=_;exact Sv (Nat.add_le_add (Nat.add_le_add_right (Nat.add_le_add (Nat.add_le_add_right (S5 (f2) _) _) (f4)) _) (h20)) (Sr rfl));have e5:(((([101,110,116,114,121,32]++aP n)++[32])++aP ls.length)++[32])++note=hU (.entry n note ls):=by
   show _=bX++[32]++(aP n++[32]++(aP ls.length++[32]++note));simp only [List.append_assoc];rfl
  rw[e5] at c5;obtain ⟨y4,k⟩:=B3 (d:=d) (m:=m) (σ:=σ) (v:=.tup (ls.map bI)) (x2:=x2) (x3:=dV (Bw (.entry n note ls))) ls (rs++[hU (.entry n note ls)]) x4 h4 (by rw[Sn,Sw];exact Sv (Nat.add_le_add (Nat.add_le_add_right (hl) _) (h3)) (Sr rfl));refine ⟨y4,aa (bo rfl (aa (aK (oZ c5 (Sv (hl) (Sr rfl)))) (aa (dp rfl rfl k) rfl))) ?_⟩;rw[List.append_assoc];rfl
theorem zp {D0:List D} (st:∀ rs,bP (rS σ rs) (.lst D0) (.p m 9)=true):∀ (ds:List Dd) (rs:List Tx) (x3 x4:Option PV) {x2:Option PV},(∀ x∈ds,CR x)->rs.length+61*ds.length<=4900->∃ y3 y4,fe (.p m 9) (.lst D0) 3 (fun ρ=>lN.ex (KK d false) ρ) (ds.map Bw) (qK m σ.length x2 x3 x4) (rS σ rs)=some (.next (qK m σ.length x2 y3 y4),rS σ (rs++ce ds)):=by
 intro ds
 induction ds with
 |nil=>
  intro rs x3 x4 _ _ _;exact ⟨x3,x4,by show some (_,rS σ rs)=some (_,rS σ (rs++[]));rw[List.append_nil]⟩
 |cons x ds ih=>
  intro rs x3 x4 x2 h hl;rw[Ss] at hl;have hx:=h x (.head _);have l61:=(vI hx).2;obtain ⟨y4,e⟩:=Cm (d:=d) (m:=m) (σ:=σ) (rs:=rs) (x2:=x2) (x4:=x4) hx (Sv (Th _ _) hl);obtain ⟨z3,z4,k⟩:=ih (rs++jH x) (dV (Bw x)) y4 (x2:=x2) (fun y hy=>h y (.tail _ hy)) (by rw[Sn];omega);refine ⟨z3,z4,cB e (st _) (k.trans ?_)⟩;rw[List.append_assoc];rfl
noncomputable def rowH (h:Tx):Tx:=aT [32] [jl,h]
theorem vK:∀ T:List Tx,ce (T.map .acc)=T.map fun a=>hU (.acc a):=by
 intro T
 induction T with
 |nil=>
  exact rfl
 |cons a T ih=>
  show [hU (.acc a)]++ce (T.map .acc)=_;rw[ih];rfl
theorem vJ {a b:List Dd}:ce (a++b)=ce a++ce b:=by
 unfold ce;rw[List.map_append,List.flatten_append]
theorem BX {T more:List Tx} {ds:List Dd} (R:Rk σ m p) (hh:p.curs[0]? =some h) (hc:aZ h=true) (h1:p.first=T.length+1) (h2:p.names=bw::(T++more)) (h3:∀ x∈T,j3 x) (h4:p.deeds=ds.map Bw) (h5:∀ x∈ds,CR x) (l1:p.names.length<=7) (l2:ds.length<=80):
  CC (d+1) false 107 [.p m 0] σ=some (.ok (.d (.lst ((rowH h::ce (T.map .acc++ds)).map .str))),σ):=by
 have R':∀ rs,Rk (rS σ rs) m p:=fun rs=>R.app;have hT:T.length<=6:=by rw[h2,Ss,Sn] at l1;exact L9 l1
 have s1:qu.ex (KK d false) [qV m,none,none,none,none,none] σ=some (.next (qK m σ.length none none none),rS σ [rowH h]):=by
  have e0:Ev (KK d false) (sub (key (ag 0) 2 Tt) (ai 0)) [qV m,none,none,none,none,none] σ (.d (.str h)):=bQ (i0 R rfl) rfl rfl rfl (fc (k:=0) (by rw[SE,hh];rfl));have q:=jt (K:=KK d false) (a:=au [104,111,109,101,32]) (x:=[104,111,109,101,32]) rfl e0 (by have:=dL hc;show 5+_<=_;exact Ov this);exact aA (g_ (cl1 q)) rfl
 have sl:Ev (KK d false) (vi (key (ag 0) 0 Tu) (k_ (ai 1)) (k_ (key (ag 0) 1 [102,105,114,115,116]))) (qK m σ.length none none none) (rS σ [rowH h]) (.d (.lst (T.map .str))):=by
  refine fZ (fH (R' _) rfl) rfl (AY (Hg (R' _) rfl)) (fE (R' _)) rfl rfl ?_;rw[h1];have q:=tQ (k:=1) (m:=T.length+1) (l:=p.names.map D.str) (Rx) (by rw[Sk,h2,Ss,Sn];omega) (by rw[Sk];exact Sv (l1) (Sr rfl));have e:(((p.names.map D.str).drop 1).take (T.length+1 - 1))=T.map .str:=by
   rw[h2,Nat.add_sub_cancel,List.map_cons,List.drop_succ_cons,List.drop_zero,List.map_append];have:=List.take_left (l₁:=T.map D.str) (l₂:=more.map D.str);rw[Sk] at this;exact this
  rw[e] at q;exact q
 obtain ⟨y2,a1⟩:=FU (d:=d) (m:=m) (σ:=σ) (v:=.lst (T.map .str)) (x3:=none) (x4:=none) T [rowH h] none (fun x hx=>Sv (qg (h3 x hx)).2 (by decide)) (by rw[Sw];exact Sv (S5 (hT) _) (Sr rfl));have st:∀ rs,bP (rS σ rs) (.lst p.deeds) (.p m 9)=true:=fun rs=>mA (zZ (R' rs));obtain ⟨y3,y4,a2⟩:=zp (d:=d) (σ:=σ) st ds ([rowH h]++T.map fun a=>hU (.acc a)) none none (x2:=y2) h5 (by rw[Sn,Sk,Sw];exact Sv (Nat.add_le_add (S5 (hT) _) (Tq _ (l2))) (Sr rfl));have e:([rowH h]++T.map fun a=>hU (.acc a))++ce ds=rowH h::ce (T.map .acc++ds):=by
  rw[vJ,vK];rfl
 rw[e,<-h4] at a2;have f1:qt.ex (KK d false) (qK m σ.length none none none) (rS σ [rowH h])=some (.next (qK m σ.length y2 none none),rS σ ([rowH h]++T.map fun a=>hU (.acc a))):=dp sl (j2 (if_pos (by rw[Sk];exact Sv hT (by decide)))) a1;have f2:qq.ex (KK d false) (qK m σ.length y2 none none) (rS σ ([rowH h]++T.map fun a=>hU (.acc a)))=some (.next (qK m σ.length y2 y3 y4),rS σ (rowH h::ce (T.map .acc++ds))):=dp (Ak (R' _) rfl) (Kw (zZ (R' _)) (by rw[h4,Sk];exact Sv (l2) (Sr rfl))) a2;generalize rowH h::ce (T.map .acc++ds)=ao at f2;exact Fv (m:=σ.length) (f':=.list (ao.map .str)) rfl rfl rfl (aa s1 (aa f1 (aa f2 rfl))) (Sy _) eS (Iw σ _)
end
noncomputable def MA (X:List (List Tx)):D:=.lst (X.map fun l=>.lst (l.map .str))
structure vg (B:List Tx):Prop where
 g:dW 0 B≠some 1
 r:∀ r∈B,10∉r/\r.length<=200
 l:B.length<=5000
section
variable {s r x:Tx} {ws t rs a b:List Tx}
theorem yU {u v:List D} (h:u.length+v.length<=20000):aH.g (.lst u) (.lst v)=some (.lst (u++v)):=if_pos (Sv h (by decide))
theorem nW {f g:CE} {u v:List Tx} (h1:Ev K f ρ σ (.d (.lst (u.map .str)))) (h2:Ev K g ρ σ (.d (.lst (v.map .str)))) (hl:u.length+v.length<=20000):Ev K (aJ aH f g) ρ σ (.d (.lst ((u++v).map .str))):=by
 rw[List.map_append];exact aX h1 h2 rfl rfl (yU (by rw[Sk,Sk];exact hl))
theorem nY {f g:CE} {X Y:List (List Tx)} (h1:Ev K f ρ σ (.d (MA X))) (h2:Ev K g ρ σ (.d (MA Y))) (hl:X.length+Y.length<=20000):Ev K (aJ aH f g) ρ σ (.d (MA (X++Y))):=by
 unfold MA;rw[List.map_append];exact aX h1 h2 rfl rfl (yU (by rw[Sk,Sk];exact hl))
theorem NQ (h4:Ev K (ag 4) ρ σ (.d (.lst (a.map .str)))) (h5:Ev K (ag 5) ρ σ (.d (.lst (b.map .str)))) (he:Ev K e ρ σ (.d (.str x))) (hl:a.length+b.length<=9000):Ev K (aJ aH (aJ aH (ag 4) (bH (aj e az))) (ag 5)) ρ σ (.d (.lst ((a++[x]++b).map .str))):=nW (nW (v:=[x]) h4 (bL (cl1 he)) (by rw[Sw];exact JI hl)) h5 (by rw[Sn,Sw];exact JH hl)
theorem MX {f:CE} {y:Tx} (h4:Ev K (ag 4) ρ σ (.d (.lst (a.map .str)))) (h5:Ev K (ag 5) ρ σ (.d (.lst (b.map .str)))) (he:Ev K e ρ σ (.d (.str x))) (hf:Ev K f ρ σ (.d (.str y))) (hl:a.length+b.length<=9000):Ev K (aJ aH (aJ aH (ag 4) (bH (aj e (aj f az)))) (ag 5)) ρ σ (.d (.lst ((a++[x,y]++b).map .str))):=nW (nW (v:=[x,y]) h4 (bL (cW he (cl1 hf))) (by show _+2<=_;exact Sv (Nat.add_le_add_right (Sv (Th _ _) hl) _) (Sr rfl))) h5 (by rw[Sn];show _+2+_<=_;exact Sv (Nat.add_le_add (Nat.add_le_add_right (Sv (Th _ _) hl) _) (Sv (Nat.le_add_left _ _) hl)) (Sr rfl))
theorem E8 (h0:Ev K (ag 0) ρ σ (.d (.lst (ao.map .str)))) (he:Ev K e ρ σ (.d (.str x))) (hl:ao.length<=9000):Ev K (aJ aH (ag 0) (bH (aj e az))) ρ σ (.d (.lst ((ao++[x]).map .str))):=nW (v:=[x]) h0 (bL (cl1 he)) (by rw[Sw];exact Sv (Nat.add_le_add_right (hl) _) (Sr rfl))
theorem QV {f:CE} {y:Tx} (h0:Ev K (ag 0) ρ σ (.d (.lst (ao.map .str)))) (he:Ev K e ρ σ (.d (.str x))) (hf:Ev K f ρ σ (.d (.str y))) (hl:ao.length<=9000):Ev K (aJ aH (ag 0) (bH (aj e (aj f az)))) ρ σ (.d (.lst ((ao++[x,y]).map .str))):=nW (v:=[x,y]) h0 (bL (cW he (cl1 hf))) (by show _+2<=_;exact Sv (Nat.add_le_add_right (hl) _) (Sr rfl))
theorem Lb {f:CG i j} {l:Ir j k} {ys:List PV} (h:f.ev K ρ σ=some (.ok y,σ)) (g:l.ev K ρ σ=some (.ok ys,σ)):(LE f l).ev K ρ σ=some (.ok (y::ys),σ):=aC h (aC g rfl)
theorem H0 {f:CG i j} {g:CG j k} {u v:List Tx} (h1:f.ev K ρ σ=some (.ok (.d (.lst (u.map .str))),σ)) (h2:g.ev K ρ σ=some (.ok (.d (.lst (v.map .str))),σ)) (hl:u.length+v.length<=20000):(w7 aH f g).ev K ρ σ=some (.ok (.d (.lst ((u++v).map .str))),σ):=by
 refine aC h1 (aC h2 ?_);show Option.map _ (aH.g (.lst (u.map .str)) (.lst (v.map .str)))=_;rw[yU (by rw[Sk,Sk];exact hl),List.map_append];rfl
theorem LZ {f:CG i j} (h:f.ev K ρ σ=some (.ok (.d (.str x)),σ)):(Ka (LE f (CL.up az j))).ev K ρ σ=some (.ok (.d (.lst ([x].map .str))),σ):=aC (Lb (ys:=[]) h rfl) rfl
theorem GA {f:CE} (h:Ev K f ρ σ (.d (.str s))) (hm:32∈s) (hl:s.length<=100000):(IC f 32 [32,32]).ev K ρ σ=some (.ok (.d (.str (dI 32 s++[32,32]++gt 32 s))),σ):=by
 refine aC h ?_;show Option.map _ (ax (32∈s/\s.length<=100000/\[32,32].length<=14/\[32,32]≠[32]) (PV.d (.str (dI 32 s++[32,32]++gt 32 s))))=_;rw[aO ⟨hm,hl,by decide,by decide⟩];rfl
theorem GJ {f:CE} (h:Ev K f ρ σ (.d (.str s))) (hm:32∈s) (hl:s.length<=100000):Ev K (sub (bm lM f (aj (au [32]) az)) (ai 0)) ρ σ (.d (.str (dI 32 s))):=by
 refine bQ (x:=.d (.tup [.str (dI 32 s),.str [32],.str (gt 32 s)])) ?_ rfl rfl rfl (rc (k:=0) rfl);refine aC h (aC rfl ?_);show Option.map _ (ax (s.length<=1048576/\32∈s) (D.tup [.str (dI 32 s),.str [32],.str (gt 32 s)]))=_;rw[aO ⟨by exact Sv (hl) (Sr rfl),hm⟩];rfl
theorem Dm {f:CE} (h:Ev K f ρ σ (.d (.str s))) (hl:s.length<=100000):(bm ph f (aj (au [32]) az)).ev K ρ σ=some (.ok (.p σ.length 0),σ++[.fld (.list ((an 32 s).map .str))]):=by
 refine aC h (aC rfl ?_);show (ax (s.length<=1048576) ((an 32 s).map D.str)).bind _=_;rw[aO (Sv (hl) (Sr rfl))];rfl
end
section
variable {r x y:Tx} {a b:List Tx} {s:Nat}
theorem Nb (hb:∀ z∈a++r::b,FW z) (hl:(a++r::b).length<=4900) (hx:10∉x/\x.length<=200) (hg:dW 0 (a++[x]++b)≠some 1):vg (a++[x]++b):=by
 rw[Sn,Ss] at hl;refine ⟨hg,fun z hz=> ?_,by rw[Sn,Sn,Sw];exact Ou hl⟩;have k:∀ z∈a++r::b,10∉z/\z.length<=200:=fun z hz=>⟨(hb z hz).n,Sv (hb z hz).l (by decide)⟩;rcases SF.mp hz with hz|hz
 .rcases SF.mp hz with hz|hz
  .exact k z (List.mem_append_left _ hz)
  .rw[Sq.mp hz];exact hx
 .exact k z (List.mem_append_right _ (.tail _ hz))
theorem Nc (hb:∀ r∈ao,FW r) (hl:ao.length<=4900) (hg:dW 0 ao=some 1) {z:List Tx} (hz:∀ x∈z,10∉x/\x.length<=200) (h2:z.length<=2) (hd:dW 1 z≠some 1):vg (ao++z):=by
 refine ⟨by rw[il,hg];exact hd,fun x hx=> ?_,by rw[Sn];exact Sv (Nat.add_le_add (hl) (h2)) (Sr rfl)⟩;exact (SF.mp hx).elim (fun h=>⟨(hb x h).n,Sv (hb x h).l (by decide)⟩) (hz x)
theorem mT {c:Nat}:∀ {ws:List Tx},c∈aT [32] ws->c=32∨∃ p∈ws,c∈p
 |[],h=>absurd h SI
 |[p],h=>.inr ⟨p,.head _,h⟩
 |p::q::ws,h=>by
  have h:c∈p++[32]++aT [32] (q::ws):=h;rcases SF.mp h with h|h
  .rcases SF.mp h with h|h
   .exact .inr ⟨p,.head _,h⟩
   .exact .inl (Sq.mp h)
  .rcases mT h with h|⟨x,hx,h⟩
   .exact .inl h
   .exact .inr ⟨x,.tail _ hx,h⟩
theorem wx {o:Tx}:∀ {ws:List Tx} {i:Nat},(aT [32] (ws.set i o)).length<=(aT [32] ws).length+o.length
 |[],_=>SQ _
 |[p],0=>Nat.le_add_left _ _
 |[p],_+1=>Th _ _
 |p::q::ws,0=>by
  show (o++[32]++aT [32] (q::ws)).length<=(p++[32]++aT [32] (q::ws)).length+o.length;rw[Sn,Sn,Sn,Sn];omega
 |p::q::ws,i+1=>by
  have ih:=wx (o:=o) (ws:=q::ws) (i:=i);have e:aT [32] ((p::q::ws).set (i+1) o)=p++[32]++aT [32] ((q::ws).set i o):=by
   cases i with
   |zero=>rfl
   |succ i=>rfl
  rw[e];show _<=(p++[32]++aT [32] (q::ws)).length+o.length;rw[Sn,Sn,Sn,Sn];exact Ot ih
end
section
variable {r x:Tx} {ws t rs a b:List Tx}
noncomputable abbrev iQ (ao:List Tx) (way:Int) (k:Nat) (r:Tx) (a b:List Tx) (x6 x7 x8 x9:Option PV):bj:=[rV ao,iV way,iV k,sV r,rV a,rV b,x6,x7,x8,x9]
noncomputable abbrev lV (X:List (List Tx)):Option PV:=dV (MA X)
theorem Jg (hk:k<=l.length) (hl:l.length<=10000):dj (.lst l) .none (.int k)=some (.lst (l.take k)):=by
 have e:∀ j:Int,dj (.lst l) .none (.int j)=(ax (l.length<=dZ) ()).bind fun _=>(ax (bA j=true) j).map fun h=>D.lst (bC l (cY 0 l.length) (cY h l.length)):=fun j=>rfl;rw[e,aO (Sv hl (by decide)),Sl,aO (cn (DW) (JM hk hl)),Option.map_some];have c0:cY 0 l.length=0:=by unfold cY;rw[if_neg (by decide)];exact Nat.zero_min _
 have c2:cY (k:Int) l.length=k:=by unfold cY;rw[if_neg (CV),Int.toNat_natCast,Nat.min_eq_left hk]
 rw[c0,c2,bC,List.drop_zero,Nat.sub_zero]
noncomputable abbrev DV:List Tx:=[[48,53],[43,53],[45,48],[120],[49,95,48]]
theorem JF:∀ o∈DV,a_ o=none/\32∉o/\10∉o/\o.length<=3:=by decide
structure RI (s:Nat) (ws:List Tx):Prop where
 g:ck s (aT [32] ws)=none
 n:10∉aT [32] ws
 l:(aT [32] ws).length<=200
 w:(∀ p∈ws,p.length<=600)/\ws.length<=1000
theorem xn {s:Nat} {o:Tx} {x6:Option PV} (h:ck s r=some j) (hr:FW r) (ho:o∈DV):∃ ws ext,RI s ws/\∀ (l:CS) z,l.ex (KK d false) (iQ ao way k r a b x6 x7 (dV (.lst (ws.map .str))) (sV o)) (σ++ext)=z->(sC jX (xG 8 l)).ex (KK d false) (iQ ao way k r a b x6 x7 (qV σ.length) (sV o)) (σ++[.fld (.list ((an 32 r).map .str))])=z:=by
 obtain ⟨o1,o2,o3,o4⟩:=JF o ho;have l2:=C9 h;have kd:=ww h;have hrl:=hr.l;have sl:=gf (c:=32) r;have sw:∀ p∈an 32 r,p.length<=600:=fun p hp=>Sv (dD hp).2 (Sv (hrl) (Sr rfl));have w0:Ev (KK d false) (sub (ag 8) (ai 0)) (iQ ao way k r a b x6 x7 (qV σ.length) (sV o)) (σ++[.fld (.list ((an 32 r).map .str))]) (.d (.str (wd (an 32 r) 0))):=bQ rfl rfl (jJ rfl) rfl (fc (k:=0) (C5 split_pos));have ice:∀ (ws:List Tx) (x8:Option PV) (l:CS) z,l.ex (KK d false) (iQ ao way k r a b x6 x7 (dV (.lst (ws.map .str))) (sV o)) (σ++[.dead])=z->(xG 8 l).ex (KK d false) (iQ ao way k r a b x6 x7 (qV σ.length) (sV o)) (σ++[.fld (.list (ws.map .str))])=z:=fun ws x8 l z hz=>pw (v:=.p σ.length 0) rfl (pz rfl) hz
 /- a word is set -/
 have st:∀ (i:Nat) (ie:CE) (iv:Int),mU (wd (an 32 r) 0) i=true->1<=i->i<(an 32 r).length->Ev (KK d false) ie (iQ ao way k r a b x6 x7 (qV σ.length) (sV o)) (σ++[.fld (.list ((an 32 r).map .str))]) (.d (.int iv))->bA iv=true->cZ iv (an 32 r).length=some i->
   RI s ((an 32 r).set i o)/\(sC (oG (ag 8) ie (ag 9)) sN).ex (KK d false) (iQ ao way k r a b x6 x7 (qV σ.length) (sV o)) (σ++[.fld (.list ((an 32 r).map .str))])=some (.next (iQ ao way k r a b x6 x7 (qV σ.length) (sV o)),σ++[.fld (.list (((an 32 r).set i o).map .str))]):=fun i ie iv hn h1 hi hie hsm hpl=>by
  refine ⟨⟨M0 h hn h1 hi o1 o2,fun z=> ?_,?_,fun p hp=> ?_,by rw[SO];exact Sv (Sv sl (Nat.add_le_add_right (hrl) _)) (Sr rfl)⟩,?_⟩
  .rcases mT z with y|⟨p,hp,y⟩
   .cases y
   .rcases List.mem_or_eq_of_mem_set hp with hp|hp
    .exact hr.n ((dD hp).1 10 y)
    .rw[hp] at y;exact o3 y
  .have:=wx (ws:=an 32 r) (i:=i) (o:=o);rw[lW] at this;exact Sv (Sv this (Nat.add_le_add (hrl) (o4))) (Sr rfl)
  .rcases List.mem_or_eq_of_mem_set hp with hp|rfl
   .exact sw p hp
   .exact Sv (o4) (Sr rfl)
  .have sf:tY (.int iv) (.str o) (.list ((an 32 r).map .str))=some (.list (((an 32 r).set i o).map .str)):=by
    have e:∀ iv:Int,tY (.int iv) (.str o) (.list ((an 32 r).map .str))=(ax (bA iv=true) ()).bind fun _=>(cZ iv ((an 32 r).map D.str).length).map fun j=>cD.list (((an 32 r).map D.str).set j (.str o)):=fun _=>rfl;rw[e,aO hsm,Sl,Sk,hpl,List.map_set];rfl
   have s1:=mF (σ:=σ++[.fld (.list ((an 32 r).map .str))]) (n:=σ.length) (j:=0) dK sf;rw[gY] at s1;exact aa (iN (k:=.int iv) rfl rfl hie s1) rfl
 by_cases q1:wd (an 32 r) 0∈[bX,bG]
 .have hn:mU (wd (an 32 r) 0) 1=true:=by
   rcases Sm.mp q1 with q|q
   .rw[q];rfl
   .rw[Sq.mp q];rfl
  obtain ⟨a1,a2⟩:=st 1 (ai 1) 1 hn (by decide) (Nat.lt_of_succ_le l2) rfl (by decide) (mI (k:=1) (Nat.lt_of_succ_le l2));exact ⟨_,[.dead],a1,fun l z hz=>aa (bo (av w0 (bL rfl) rfl rfl (Ca (ns:=[bX,bG]) q1)) a2) (ice _ none l z hz)⟩
 by_cases q2:wd (an 32 r) 0∈[cx,fV,eu,de]
 .have f3:=aV (a:=way.fdiv 120) (b:=3) (by decide);have len:=kd.len (fun z=>q1 (by rw[z];exact .head _)) (fun z=>q1 (by rw[z];exact .tail _ (.head _)));have ib:Ev (KK d false) (bi eH (aj (sH fh (sub (ag 8) (ai 0)) (au TA)) az)) (iQ ao way k r a b x6 x7 (qV σ.length) (sV o)) (σ++[.fld (.list ((an 32 r).map .str))]) (.d (.int (ia (decide (wd (an 32 r) 0=cx))))):=IP (nP w0 rfl rfl rfl rfl);have ie:=aX (o:=dw) (K:=KK d false) (ρ:=iQ ao way k r a b x6 x7 (qV σ.length) (sV o)) (σ:=σ++[.fld (.list ((an 32 r).map .str))]) (a:=neg (ai 1)) (u:=.int (-1)) rfl (aX (o:=io) ib (iz (e:=aJ bS (ag 1) (ai 120)) (k:=3) rfl (by decide) (by decide)) rfl rfl (lj (fG (Os f3)))) rfl rfl rfl;have key:∃ i,mU (wd (an 32 r) 0) i=true/\1<=i/\i<(an 32 r).length/\cZ (-1 - ia (decide (wd (an 32 r) 0=cx))*(way.fdiv 120).fmod 3) (an 32 r).length=some i/\bA (-1 - ia (decide (wd (an 32 r) 0=cx))*(way.fdiv 120).fmod 3)=true:=by
   have pl:∀ (c:Int) (n:Nat),0<=c->c<n->1<=n->n<=10->cZ (-1 - c) n=some (n - 1 - c.toNat):=fun c n h1 h2 h3 h4=>by
    unfold cZ;rw[if_neg (by omega),if_pos (by omega)];congr 1;exact Oq h1
   by_cases qr:wd (an 32 r) 0=cx
   .rw[qr] at len;have len:(an 32 r).length=5:=len;rw[qr,SC rfl,len];show ∃ i,_/\_/\_/\cZ (-1 - 1*_) 5=_/\bA (-1 - 1*_)=true;rw[Int.one_mul];generalize (way.fdiv 120).fmod 3=c at f3;refine ⟨5 - 1 - c.toNat,?_,by exact Nat.le_sub_of_add_le (Sv (S5 (Tr ((Int.toNat_lt f3.1).mpr f3.2)) 1) (Sr rfl)),Op,pl c 5 (f3.1) (Int.lt_trans f3.2 (by decide)) (by decide) (by decide),cn (by omega) (SV (Int.sub_le_self _ f3.1) (by decide))⟩;have:c.toNat=0∨c.toNat=1∨c.toNat=2:=Oo f3;rcases this with q|q|q<;>rw[q]<;>rfl
   .rw[Tf qr];show ∃ i,_/\_/\_/\cZ (-1 - 0*_) _=_/\bA (-1 - 0*_)=true;rw[Int.zero_mul];have q2:=(Sm.mp q2).resolve_left qr;have fin:∀ f:Tx,wd (an 32 r) 0=f->2<=El f->El f<=10->mU f (El f - 1)=true->∃ i,mU (wd (an 32 r) 0) i=true/\1<=i/\i<(an 32 r).length/\cZ (-1 - 0) (an 32 r).length=some i/\bA (-1 - 0)=true:=fun f hf h1 h2 h3=>by
     rw[hf] at len;rw[hf,len];exact ⟨El f - 1,h3,On l2 len,Om l2 len,pl 0 _ (by decide) (Ol l2 len) (Ok l2 len) h2,by decide⟩
    rcases Sm.mp q2 with q|q2
    .exact fin fV q (by decide) (by decide) (by decide)
    rcases Sm.mp q2 with q|q2
    .exact fin eu q (by decide) (by decide) (by decide)
    .exact fin de (Sq.mp q2) (by decide) (by decide) (by decide)
  obtain ⟨i,k1,k2,k3,k4,k5⟩:=key;obtain ⟨a1,a2⟩:=st i _ _ k1 k2 k3 ie k5 k4;exact ⟨_,[.dead],a1,fun l z hz=>aa (a' (av w0 (bL rfl) rfl rfl (wC (ns:=[bX,bG]) q1)) (aa (bo (av w0 (bL rfl) rfl rfl (Ca (ns:=[cx,fV,eu,de]) q2)) a2) rfl)) (ice _ none l z hz)⟩
 .refine ⟨[de,o],[.fld (.list ((an 32 r).map .str)),.dead],⟨HO o1 o2,fun z=> ?_,?_,fun p hp=> ?_,Sr rfl⟩,fun l z hz=> ?_⟩
  .rcases mT z with z|⟨p,hp,z⟩
   .cases z
   .rcases Sm.mp hp with rfl|hp
    .exact absurd z (by decide)
    .rw[Sq.mp hp] at z;exact o3 z
  .show (de++[32]++o).length<=_;rw[Sn];show 6+_<=_;exact Sv (S5 (o4) _) (Sr rfl)
  .rcases Sm.mp hp with rfl|hp
   .decide
   .rw[Sq.mp hp];exact Sv (o4) (Sr rfl)
  .refine aa (a' (av w0 (bL rfl) rfl rfl (wC (ns:=[bX,bG]) q1)) (aa (a' (av w0 (bL rfl) rfl rfl (wC (ns:=[cx,fV,eu,de]) q2)) rfl) rfl)) ?_;refine pw (v:=.p (σ++[PO.fld (.list ((an 32 r).map .str))]).length 0) rfl (pz rfl) ?_;rw[List.append_assoc];exact hz
end
section
variable {r x:Tx} {ws t rs a b:List Tx}
noncomputable abbrev NB:Tx:=TN
noncomputable abbrev R9:Tx:=[99,108,111,115,101,32,53,32,54]
noncomputable def vm (r:Tx) (a b:List Tx):List (List Tx):=[a++[32::r]++b,a++[dI 32 r++[32,32]++gt 32 r]++b,a++[dI 32 r]++b]
noncomputable def xs2 (r:Tx) (a b:List Tx):List (List Tx):=[a++[120::r]++b,a++[[],r]++b,a++[r,NB]++b]
noncomputable def CU (ao:List Tx):List (List Tx):=[ao++[[99,108,111,115,101,32,48,53]],ao++[[99,108,111,115,101,32,45,48]],ao++[[98,97,99,107,32,49]],ao++[[101,110,116,114,121,32,53,32,45,49,32,120]]]
noncomputable def FZ (ao:List Tx):List (List Tx):=[ao++[[101,110,116,114,121,32,53,32,51,32,120],TS],ao++[[99,108,111,115,101,32,53,32]],ao++[TS]]
noncomputable def It (ao:List Tx):List (List Tx):=[ao++[TF++DG [49] 61],ao++[[99,108,111,115,101,32,43,53]],ao++[TF]]
noncomputable def NT (ao:List Tx) (q:Tx) (a b:List Tx):List (List Tx):=[a++[q]++b,ao++[[101,110,116,114,121,32,53,32,48]],ao++[T3]]
noncomputable def eG (r:Tx):Tx:=if r.take 3∈[[101,110,116],[99,104,97]] then R9 else r++[32,53]
theorem M4 {f:CG i j} {g:CG j k} {u v:Tx} (h1:f.ev K ρ σ=some (.ok (.d (.str u)),σ)) (h2:g.ev K ρ σ=some (.ok (.d (.str v)),σ)) (hl:u.length+v.length<=1000):(w7 aH f g).ev K ρ σ=some (.ok (.d (.str (u++v))),σ):=by
 refine aC h1 (aC h2 ?_);show Option.map _ (aH.g (.str u) (.str v))=_;rw[lq (Sv hl (by decide))];rfl
theorem K4 {a b:List Tx} {x8 x9:Option PV} (hl:a.length+b.length<=9000) (hr:ao.length<=9000) (h2:r.length<=300) (hs:32∈r):
  qM.ex (KK d false) (iQ ao way k r a b none x7 x8 x9) σ=some (.next (iQ ao way k r a b (lV (vm r a b)) x7 x8 x9),σ)/\
  qL.ex (KK d false) (iQ ao way k r a b (lV (vm r a b)) x7 x8 x9) σ=some (.next (iQ ao way k r a b (lV (vm r a b++xs2 r a b)) x7 x8 x9),σ):=by
 constructor
 .have t0:∀ q,(CE.up (ag 4) q).ev (KK d false) (iQ ao way k r a b none x7 x8 x9) σ=some (.ok (.d (.lst (a.map .str))),σ):=fun q=>rfl;have t5:(CE.up (ag 5) 1).ev (KK d false) (iQ ao way k r a b none x7 x8 x9) σ=some (.ok (.d (.lst (b.map .str))),σ):=rfl;have c1:(w7 aH (Fh [32]) (CE.up (ag 3) 1)).ev (KK d false) (iQ ao way k r a b none x7 x8 x9) σ=some (.ok (.d (.str (32::r))),σ):=M4 (f:=Fh [32]) (g:=CE.up (ag 3) 1) rfl rfl (by show 1+_<=_;exact Sv (S5 (h2) _) (Sr rfl));have A:=H0 (H0 (t0 0) (LZ c1) (by rw[Sw];exact JI hl)) t5 (by rw[Sn,Sw];exact JH hl);have B:=H0 (H0 (t0 1) (LZ (GA (f:=ag 3) rfl hs (Sv (h2) (Sr rfl)))) (by rw[Sw];exact JI hl)) t5 (by rw[Sn,Sw];exact JH hl);have Cc:(CL.up (aj (aJ aH (aJ aH (ag 4) (bH (aj (sub (bm lM (ag 3) (aj (au [32]) az)) (ai 0)) az))) (ag 5)) az) 1).ev (KK d false) (iQ ao way k r a b none x7 x8 x9) σ=some (.ok [.d (.lst ((a++[dI 32 r]++b).map .str))],σ):=cl1 (NQ rfl rfl (GJ rfl hs (Sv (h2) (Sr rfl))) hl);exact aA (bL (l:=Ir.dn _) (Lb A (Lb B Cc))) rfl
 .exact aA (nY rfl (bL (cW (NQ rfl rfl (aX rfl rfl rfl rfl (lq (a:=[120]) (by show 1+_<=dZ;exact Sv (by exact S5 (h2) _:_<=301) (by decide)))) hl) (cW (MX rfl rfl rfl rfl hl) (cl1 (MX rfl rfl rfl rfl hl))))) (Sr rfl)) rfl
theorem FF (hb:∀ z∈ao,FW z) (hl:ao.length<=4900) (hg:dW 0 ao=some 1) (hk:k<ao.length):∃ B,vg B/\CC (d+1) false 106 [.d (.lst (ao.map .str)),.d (.int way),.d (.int k)] σ=some (.ok (.d (.lst (B.map .str))),σ):=by
 obtain ⟨r,er⟩:∃ r,ao[k]? =some r:=⟨_,Sp hk⟩;generalize ha:ao.take k=a;generalize hbb:ao.drop (k+1)=b;have e0:ao=a++r::b:=by
  rw[<-ha,<-hbb];have:=List.take_append_drop k ao;rw[List.drop_eq_getElem_cons hk] at this;rw[Sp hk] at er;rw[<-Tc er];exact this.symm
 have el:a.length+b.length+1=ao.length:=by rw[e0,Sn,Ss];omega
 have hr:=hb r (SR er);have hrl:=hr.l;have hg':=hg;have hb':=hb;rw[e0] at hg' hb';obtain ⟨s,j,g1,g2,g3,g4⟩:=Jq hg';have h32:=Jn g2;have hl':(a++r::b).length<=4900:=by rw[<-e0];exact hl
 /- what is bad -/
 have one:∀ x,ck s x=none->(10∉x/\x.length<=200)->vg (a++[x]++b):=fun x h1 h2=>Nb hb' hl' h2 (by rw[List.append_assoc];show dW 0 (a++x::b)≠_;rw[Dx g1 h1];nofun);have en:∀ z:List Tx,(∀ x∈z,10∉x/\x.length<=200)->z.length<=2->dW 1 z≠some 1->vg (ao++z):=fun z h1 h2 h3=>Nc hb hl hg h1 h2 h3;have pres:∀ c∈dI 32 r,c∈r:=fun c hc=>by rw[(eW h32).1];exact List.mem_append_left _ hc
 have sufs:∀ c∈gt 32 r,c∈r:=fun c hc=>by rw[(eW h32).1];exact List.mem_append_right _ (.tail _ hc)
 have pl:=congrArg List.length (eW h32).1;rw[Sn,Ss] at pl;have b1:∀ B∈vm r a b,vg B:=aG (one _ QW ⟨fun z=>(Sm.mp z).elim (fun z=>by cases z) hr.n,by rw[Ss];exact Sv (Nat.add_le_add_right (hrl) _) (Sr rfl)⟩) (aG (one _ (MY h32) ⟨fun z=>by
  rcases SF.mp z with z|z
  .rcases SF.mp z with z|z
   .exact hr.n (pres _ z)
   .exact absurd z (by decide)
  .exact hr.n (sufs _ z),by rw[Sn,Sn];show _+2+_<=_;omega⟩) (aG (one _ (MZ h32) ⟨fun z=>hr.n (pres _ z),Oj hrl pl⟩) aS))
 have two:∀ x y,dW s [x,y]=none->(10∉x/\x.length<=200)->(10∉y/\y.length<=200)->vg (a++[x,y]++b):=fun x y h1 h2 h3=>by
  refine ⟨?_,fun z hz=> ?_,by rw[Sn,Sn];show _+2+_<=_;omega⟩
  .rw[List.append_assoc,il,g1];show dW s ([x,y]++b)≠_;rw[il,h1];nofun
  .have kk:∀ z∈a++r::b,10∉z/\z.length<=200:=fun z hz=>⟨(hb' z hz).n,Sv (hb' z hz).l (by decide)⟩;rcases SF.mp hz with hz|hz
   .rcases SF.mp hz with hz|hz
    .exact kk z (List.mem_append_left _ hz)
    .exact aG (q:=fun z=>10∉z/\z.length<=200) h2 (aG h3 aS) z hz
   .exact kk z (List.mem_append_right _ (.tail _ hz))
 have rr:10∉r/\r.length<=200:=⟨hr.n,by exact Sv (hrl) (Sr rfl)⟩;have b2:∀ B∈xs2 r a b,vg B:=aG (one _ (Si g2) ⟨fun z=>(Sm.mp z).elim (fun z=>by cases z) hr.n,by rw[Ss];exact Sv (Nat.add_le_add_right (hrl) _) (Sr rfl)⟩) (aG (two [] r (by show (ck s []).bind _=none;rw[AP];rfl) ⟨SI,SQ _⟩ rr) (aG (two r NB (by show (ck s r).bind _=none;rw[g2];show (ck j NB).bind _=none;rw[show ck j NB=none from Fc g4];rfl) rr ⟨by decide,by decide⟩) aS));have dd:∀ {z:List Tx},(∀ x∈z,10∉x/\x.length<=200)->z.length<=2->dW 1 z≠some 1->vg (ao++z):=fun h1 h2 h3=>en _ h1 h2 h3;have b3:∀ B∈CU ao,vg B:=aG (dd (by decide) (by decide) (by decide)) (aG (dd (by decide) (by decide) (by decide)) (aG (dd (by decide) (by decide) (by decide)) (aG (dd (by decide) (by decide) (by decide)) aS)));have b4:∀ B∈FZ ao,vg B:=aG (dd (by decide) (by decide) (by decide)) (aG (dd (by decide) (by decide) (by decide)) (aG (dd (by decide) (by decide) (by decide)) aS));have b5:∀ B∈It ao,vg B:=aG (dd (by decide) (by decide) (by decide)) (aG (dd (by decide) (by decide) (by decide)) (aG (dd (by decide) (by decide) (by decide)) aS));have kd:=ww g2;have hf:ck s (eG r)=none/\10∉eG r/\(eG r).length<=200:=by
  unfold eG;by_cases q:r.take 3∈[[101,110,116],[99,104,97]]
  .rw[if_pos q];refine ⟨d_ fun kd=> ?_,by decide,by decide⟩;have l1:=kd.len (by decide) (by decide);exact absurd l1 (by decide)
  .rw[if_neg q];have tk3:∀ f:Tx,3<=f.length->wd (an 32 r) 0=f->r.take 3=f.take 3:=fun f h3 hf=>by
    have e1:=(eW h32).1;have e2:wd (an 32 r) 0=dI 32 r:=by
     have:=dh (l:=gt 32 r) (eW h32).2;rw[<-e1] at this;rw[this];rfl
    rw[e2] at hf;rw[e1,hf,List.take_append_of_le_length h3]
   refine ⟨K7 g2 (fun z=>q (by rw[tk3 _ (by decide) z];decide)) (fun z=>q (by rw[tk3 _ (by decide) z];decide)),fun z=> ?_,by rw[Sn];show _+2<=_;exact Sv (Nat.add_le_add_right (hrl) _) (Sr rfl)⟩;rcases SF.mp z with z|z
   .exact hr.n z
   .exact absurd z (by decide)
 have b6:∀ B∈NT ao (eG r) a b,vg B:=aG (one _ hf.1 hf.2) (aG (dd (by decide) (by decide) (by decide)) (aG (dd (by decide) (by decide) (by decide)) aS))
 /- the run -/
 obtain ⟨v4,v5⟩:=K4 (d:=d) (σ:=σ) (k:=k) (way:=way) (ao:=ao) (r:=r) (a:=a) (b:=b) (x7:=none) (x8:=none) (x9:=none) (JG hl el) (Sv (hl) (Sr rfl)) (Sv (hrl) (Sr rfl)) h32;have v3:∀ z,(sC lT (sC lS (sC lR (sC lQ (sC jZ (sC (aN 8 (bm ph (ag 3) (aj (au [32]) az))) (sC jY (sC jX (xG 8 (sC jW (sC (bc (sub (ag 6) (aJ bv (ag 1) (ai 24)))) sN))))))))))).ex (KK d false) (iQ ao way k r a b (lV (vm r a b++xs2 r a b)) none none none) σ=z->Ai.ex (KK d false) [rV ao,iV way,iV k,none,none,none,none,none,none,none] σ=z:=fun z hz=>by
  refine aa (aA (j9 rfl rfl er (Sv (Sv (S3 hk) (hl)) (Sr rfl))) rfl) (aa (aA (fZ (z:=.lst (a.map .str)) rfl rfl rfl rfl rfl rfl ?_) rfl) (aa (aA (fZ (z:=.lst (b.map .str)) rfl rfl rfl rfl rfl rfl ?_) rfl) (aa v4 (aa v5 hz))))
  .have:=Jg (k:=k) (l:=ao.map D.str) (by rw[Sk];exact S3 hk) (by rw[Sk];exact Sv (hl) (Sr rfl));rw[<-List.map_take,ha] at this;exact this
  .have:=E_ (k:=k+1) (l:=ao.map D.str) (by rw[Sk];exact hk) (by rw[Sk];exact Sv (hl) (Sr rfl));rw[<-List.map_drop,hbb] at this;exact this
 have R5:ao.length<=9000:=by exact Sv (hl) (Sr rfl)
 have c61:∀ x7 x8 x9 x6,Ev (KK d false) (aJ aH (au TF) (aJ z_ (au [49]) (ai 61))) (iQ ao way k r a b x6 x7 x8 x9) σ (.d (.str (TF++DG [49] 61))):=fun _ _ _ _=>rfl;have v6:lT.ex (KK d false) (iQ ao way k r a b (lV (vm r a b++xs2 r a b)) none none none) σ=some (.next (iQ ao way k r a b (lV (vm r a b++xs2 r a b++CU ao)) none none none),σ):=aA (nY rfl (bL (cW (E8 rfl rfl R5) (cW (E8 rfl rfl R5) (cW (E8 rfl rfl R5) (cl1 (E8 rfl rfl R5)))))) (Sr rfl)) rfl;have v7:lS.ex (KK d false) (iQ ao way k r a b (lV (vm r a b++xs2 r a b++CU ao)) none none none) σ=some (.next (iQ ao way k r a b (lV (vm r a b++xs2 r a b++CU ao++FZ ao)) none none none),σ):=aA (nY rfl (bL (cW (QV rfl rfl rfl R5) (cW (E8 rfl rfl R5) (cl1 (E8 rfl rfl R5))))) (Sr rfl)) rfl;have v8:lR.ex (KK d false) (iQ ao way k r a b (lV (vm r a b++xs2 r a b++CU ao++FZ ao)) none none none) σ=some (.next (iQ ao way k r a b (lV (vm r a b++xs2 r a b++CU ao++FZ ao++It ao)) none none none),σ):=aA (nY rfl (bL (cW (E8 rfl (c61 _ _ _ _) R5) (cW (E8 rfl rfl R5) (cl1 (E8 rfl rfl R5))))) (Sr rfl)) rfl;have v9:lQ.ex (KK d false) (iQ ao way k r a b (lV (vm r a b++xs2 r a b++CU ao++FZ ao++It ao)) none none none) σ=some (.next (iQ ao way k r a b (lV (vm r a b++xs2 r a b++CU ao++FZ ao++It ao)) (sV (eG r)) none none),σ):=by
  have e1:Ev (KK d false) (xC (ag 3) Ad (k_ (ai 3))) (iQ ao way k r a b (lV (vm r a b++xs2 r a b++CU ao++FZ ao++It ao)) none none none) σ (.d (.str (r.take 3))):=mD rfl rfl rfl rfl rfl rfl (pU (k:=3) (by decide));unfold eG;by_cases q:r.take 3∈[[101,110,116],[99,104,97]]
  .rw[if_pos q];exact aA (pA (av e1 (bL rfl) rfl rfl (Ca (ns:=[[101,110,116],[99,104,97]]) q)) rfl) rfl
  .rw[if_neg q];exact aA (pB (av e1 (bL rfl) rfl rfl (wC (ns:=[[101,110,116],[99,104,97]]) q)) (aX rfl rfl rfl rfl (lq (by show _+2<=dZ;exact Sv (by exact Sv (Nat.add_le_add_right (hrl) _) (Sr rfl):_<=301) (by decide))))) rfl
 have v10:jZ.ex (KK d false) (iQ ao way k r a b (lV (vm r a b++xs2 r a b++CU ao++FZ ao++It ao)) (sV (eG r)) none none) σ=some (.next (iQ ao way k r a b (lV (vm r a b++xs2 r a b++CU ao++FZ ao++It ao++NT ao (eG r) a b)) (sV (eG r)) none none),σ):=aA (nY rfl (bL (cW (NQ rfl rfl rfl (JG hl el)) (cW (E8 rfl rfl R5) (cl1 (E8 rfl rfl R5))))) (Sr rfl)) rfl;generalize hX:vm r a b++xs2 r a b++CU ao++FZ ao++It ao++NT ao (eG r) a b=X at v10;have hXl:X.length=19:=by rw[<-hX];rfl
 have hXb:∀ B∈X,vg B:=by
  rw[<-hX];have ap:∀ {X Y:List (List Tx)},(∀ B∈X,vg B)->(∀ B∈Y,vg B)->∀ B∈X++Y,vg B:=fun h1 h2 B hB=>(SF.mp hB).elim (h1 B) (h2 B);exact ap (ap (ap (ap (ap b1 b2) b3) b4) b5) b6
 have v11:(aN 8 (bm ph (ag 3) (aj (au [32]) az))).ex (KK d false) (iQ ao way k r a b (lV X) (sV (eG r)) none none) σ=some (.next (iQ ao way k r a b (lV X) (sV (eG r)) (qV σ.length) none),σ++[.fld (.list ((an 32 r).map .str))]):=aA (Dm rfl (Sv (hrl) (Sr rfl))) rfl;obtain ⟨o,ho,v12⟩:∃ o∈DV,jY.ex (KK d false) (iQ ao way k r a b (lV X) (sV (eG r)) (qV σ.length) none) (σ++[.fld (.list ((an 32 r).map .str))])=some (.next (iQ ao way k r a b (lV X) (sV (eG r)) (qV σ.length) (sV o)),σ++[.fld (.list ((an 32 r).map .str))]):=by
  obtain ⟨z,hz,ez⟩:=mJ (K:=KK d false) (ρ:=iQ ao way k r a b (lV X) (sV (eG r)) (qV σ.length) none) (σ:=σ++[.fld (.list ((an 32 r).map .str))]) (T:=DV) (e:=aJ bS (ag 1) (ai 24)) (ke:=ai 5) (k:=5) (bL (ds:=DV.map .str) (l:=aj (au [48,53]) (aj (au [43,53]) (aj (au [45,48]) (aj (au [120]) (aj (au [49,95,48]) az))))) rfl) rfl rfl (by decide) (by decide) (by decide);exact ⟨z,hz,aA ez rfl⟩
 obtain ⟨ws,ext,wb,wk⟩:=xn (d:=d) (σ:=σ) (way:=way) (k:=k) (ao:=ao) (a:=a) (b:=b) (x6:=lV X) (x7:=sV (eG r)) g2 hr ho;have v14:jW.ex (KK d false) (iQ ao way k r a b (lV X) (sV (eG r)) (dV (.lst (ws.map .str))) (sV o)) (σ++ext)=some (.next (iQ ao way k r a b (lV (X++[a++[aT [32] ws]++b,a++[aT [32] ws]++b,a++[aT [32] ws]++b,a++[aT [32] ws]++b,a++[aT [32] ws]++b])) (sV (eG r)) (dV (.lst (ws.map .str))) (sV o)),σ++ext):=
  aA (nY rfl (K5 (m:=5) (l:=[.lst ((a++[aT [32] ws]++b).map .str)]) (bL (cl1 (NQ rfl rfl (uL rfl rfl rfl (by decide) wb.w.1 wb.w.2) (JG hl el)))) rfl rfl rfl (by decide) (Sr rfl)) (by rw[hXl];exact Sr rfl)) rfl
 have hY:∀ B∈X++[a++[aT [32] ws]++b,a++[aT [32] ws]++b,a++[aT [32] ws]++b,a++[aT [32] ws]++b,a++[aT [32] ws]++b],vg B:=fun B hB=>by
  have q:=one _ wb.g ⟨wb.n,wb.l⟩;rcases SF.mp hB with hB|hB
  .exact hXb B hB
  .exact aG q (aG q (aG q (aG q (aG q aS)))) B hB
 have hYl:(X++[a++[aT [32] ws]++b,a++[aT [32] ws]++b,a++[aT [32] ws]++b,a++[aT [32] ws]++b,a++[aT [32] ws]++b]).length=24:=by rw[Sn,hXl];rfl
 generalize X++[a++[aT [32] ws]++b,a++[aT [32] ws]++b,a++[aT [32] ws]++b,a++[aT [32] ws]++b,a++[aT [32] ws]++b]=Y at v14 hY hYl;obtain ⟨z,hz,ez⟩:=AL (K:=KK d false) (ρ:=iQ ao way k r a b (lV Y) (sV (eG r)) (dV (.lst (ws.map .str))) (sV o)) (σ:=σ++ext) (t:=ag 6) (e:=ag 1) (ke:=ai 24) (l:=Y.map fun l=>.lst (l.map .str)) (k:=24) rfl rfl rfl (by decide) (by rw[Sk,hYl];decide) (by rw[Sk,hYl];decide);obtain ⟨B,hB,rfl⟩:=SD.mp hz;refine ⟨B,hY B hB,bf rfl rfl rfl (v3 _ ?_) (Iw σ ext)⟩;exact aa v6 (aa v7 (aa v8 (aa v9 (aa v10 (aa v11 (aa v12 (wk _ _ (aa v14 (aW (aU ez))))))))))
end
noncomputable abbrev mz:Tx:=[69,85,82]
section
variable {x:Dd} {o:Tx} {note:Tx} {l:cw}
theorem BD (g:Gd N p S):bw∈S.names:=by
 obtain ⟨T,e,_⟩:=g.nm;rw[g.names,e];exact .head _
theorem rn (h:¬bW t):Fl (.close t) S 4:=fun d σ n b=>dq b (Fn b (DS h))
theorem K2:Fl (.acc [65]) S 1:=fun d σ n b=>by
 refine dq b (bR rfl rfl rfl (aY (bo (C' (dT (aB (cl1 rfl) ?_))) rfl)) (tk _));exact bf rfl rfl rfl rfl (tk _)
theorem EP (g:bw∈S.names):Fl (.acc bw) S 9:=fun d σ n b=>by
 have e:j3 bw:=⟨101,_,rfl,by decide,by decide,by decide⟩;exact dq b (bR rfl rfl rfl (aa (a' (jm (dT (aB (cl1 rfl) (q7 e)))) rfl) (aY (bo (av rfl (kx b rfl) rfl (mH b) (Ca g)) rfl))) (tk _))
theorem HG (sh:Sh S):Fl (.back 0 5) S 12:=fun d σ n b=>dq b (bR rfl rfl rfl (aY (dS (bq b rfl (cl1 rfl) (E3 b sh (.inl (by decide)))))) (tk _))
theorem K1:Fl (.rate [69,85,114] 5 1 1) S 2:=fun d σ n b=>dq b (Db (by decide) (by decide))
theorem kQ (sh:Sh S) (hd:bW t) (hc:t<=cl S.ends):Fl (.entry t note ls) S 8:=fun d σ n b=>dq b (GH b (ub b sh hd hc))
theorem rm {u v:Int} (sh:Sh S) (ho:aZ o=true) (hd:bW t) (hc:t<=cl S.ends):Fl (.rate o t u v) S 8:=fun d σ n b=>dq b (Gf b ho (ub b sh hd hc))
theorem rq {g one tk' aM:Tx} {a:Int} (sh:Sh S) (hd:bW t) (hc:t<=cl S.ends):Fl (.change t note g one a tk' aM) S 8:=fun d σ n b=>dq b (bR rfl rfl rfl (aY (cG (bq b rfl (cl1 rfl) (ub b sh hd hc)))) (tk _))
theorem K0 (sh:Sh S) (hd:bW t) (hc:cl S.ends<t):Fl (.entry t [] []) S 7:=fun d σ n b=>dq b (bR rfl rfl rfl (aa (aK (bq b rfl (cl1 rfl) (fF b sh hd hc))) (aa (aK (aB (cl1 rfl) (eZ ⟨by decide,aS⟩))) rfl)) (tk _))
theorem HF (sh:Sh S) (hd:bW t) (hc:cl S.ends<t) (h1:note.length<=1000) (h2:40<note.length):Fl (.entry t note ls) S 5:=fun d σ n b=>dq b (bR rfl rfl rfl (aa (aK (bq b rfl (cl1 rfl) (fF b sh hd hc))) (aY (cG (aB (cl1 rfl) (ug h1 h2))))) (tk _))
theorem AD {l2:cw} (sh:Sh S) (hd:bW t) (hc:cl S.ends<t) (hn:dF note) (hx:∀ d σ n,Bk σ n S->CC (d+2) false 19 [.p n 0,.d (bI l)] σ=some (.ex c,σ)):Fl (.entry t note [l,l2]) S c:=fun d σ n b=>by
 have ln:Ev (KK (d+2) false) (bi ba (aj (ag 3) az)) [qV n,iV t,sV note,dV (.lst [bI l,bI l2]),none,none,none] σ (.d (.int (2:Nat))):=rfl;have lp:fe (.d (.lst [bI l,bI l2])) (.lst [bI l,bI l2]) 4 (fun ρ=>(sC (bg (meth (ag 0) 19 (aj (ag 4) az))) sN).ex (KK (d+2) false) ρ) [bI l,bI l2] [qV n,iV t,sV note,dV (.lst [bI l,bI l2]),none,none,none] σ=some (.ex c [qV n,iV t,sV note,dV (.lst [bI l,bI l2]),dV (bI l),none,none],σ):=IS (aY (cG (bq b rfl (cl1 rfl) (hx d σ n b))));have it:items (.lst [bI l,bI l2])=some [bI l,bI l2]:=by
  show ax ([bI l,bI l2].length<=dZ) [bI l,bI l2]=_;exact aO (co (Sr rfl))
 exact dq b (bR rfl rfl rfl (aa (aK (bq b rfl (cl1 rfl) (fF b sh hd hc))) (aa (aK (aB (cl1 rfl) (eZ hn))) (aa rfl (aY (dp rfl (j2 it) lp))))) (tk _))
theorem Ki (hl:l.1∉S.names):∀ d σ n,Bk σ n S->CC (d+2) false 19 [.p n 0,.d (bI l)] σ=some (.ex 11,σ):=fun d σ n b=>bR rfl rfl rfl (aY (cG (bq b rfl rfl (zG b hl)))) (tk _)
theorem Kh (h1:l.1∈S.names) (h2:aZ l.2.1=true) (h3:c8 l.2.2=false):∀ d σ n,Bk σ n S->CC (d+2) false 19 [.p n 0,.d (bI l)] σ=some (.ex 3,σ):=fun d σ n b=>bR rfl rfl rfl (aa (aK (bq b rfl rfl (fD b h1))) (aa (aK (aB rfl (b8 h2))) (aY (bo (C' (dT (aB rfl (nK h3)))) rfl)))) (tk _)
theorem AC {u v:Int} (sh:Sh S) (ho:aZ o=true) (hd:bW t) (hc:cl S.ends<t) (hx:o=S.home∨u<1):Fl (.rate o t u v) S 6:=fun d σ n b=>by
 refine dq b (bR rfl rfl rfl (aa (aK (aB (cl1 rfl) (b8 ho))) (aa (aK (bq b rfl (cl1 rfl) (fF b sh hd hc))) (aY (bo (bz ?_) rfl)))) (tk _));by_cases q:o=S.home
 .exact eY (av rfl (m8 b rfl) rfl rfl (iA q))
 .have hu:=hx.resolve_left q;exact bM (av rfl (m8 b rfl) rfl rfl (fX q)) (eY (C' (tO (p:=false) (r:=decide (u<=1000000000)) rfl rfl rfl rfl rfl rfl (ME (Int.not_le.mpr hu)) rfl)))
section
variable {gv one tk' aM:Tx} {a:Int}
theorem zr (b:Bk σ n S) (sh:Sh S) (hd:bW t) (hc:cl S.ends<t) (hn:dF note) (h1:gv∈S.names) (h2:tk'∈S.names) (c1:aZ one=true) (c2:aZ aM=true) (z:Option (Out×aE)) (hz:(sC lF (sC lE (sC lC (sC ku (sC kt (sC kq (sC ko (sC km sN)))))))).ex (KK (d+2) false) [qV n,iV t,sV note,sV gv,sV one,iV a,sV tk',sV aM,none,none] σ=z):rM.ex (KK (d+2) false) [qV n,iV t,sV note,sV gv,sV one,iV a,sV tk',sV aM,none,none] σ=z:=
 aa (aK (bq b rfl (cl1 rfl) (fF b sh hd hc))) (aa (aK (aB (cl1 rfl) (eZ hn))) (aa (aK (bq b rfl (cl1 rfl) (fD b h1))) (aa (aK (bq b rfl (cl1 rfl) (fD b h2))) (aa (aK (aB (cl1 rfl) (b8 c1))) (aa (aK (aB (cl1 rfl) (b8 c2))) hz)))))
theorem HE (sh:Sh S) (hd:bW t) (hc:cl S.ends<t) (hn:dF note) (h1:gv∈S.names) (h2:tk'∈S.names) (c1:aZ one=true):Fl (.change t note gv one a tk' one) S 2:=fun d σ n b=>dq b (bR rfl rfl rfl (zr b sh hd hc hn h1 h2 c1 c1 _ (aY (bo (av rfl rfl rfl rfl (iA rfl)) rfl))) (tk _))
theorem Cf (sh:Sh S) (hd:bW t) (hc:cl S.ends<t) (hn:dF note) (h1:gv∈S.names) (h2:tk'∈S.names) (c1:aZ one=true) (c2:aZ aM=true) (ne:one≠aM) (ha:1<=a) (ha2:c8 a=true) {v:PV}
  (r1:∀ d σ n,Bk σ n S->CC (d+2) false 14 [.p n 0,.d (.str one),.d (.int t)] σ=some (.ok v,σ)) (r2:∀ d σ n,Bk σ n S->CC (d+2) false 14 [.p n 0,.d (.str aM),.d (.int t)] σ=some (.ex 13,σ)):Fl (.change t note gv one a tk' aM) S 13:=fun d σ n b=>dq b (bR rfl rfl rfl (zr b sh hd hc hn h1 h2 c1 c2 _ (aa (a' (av rfl rfl rfl rfl (fX ne)) rfl) (aa (a' (bz (bM (av rfl rfl rfl rfl (lU (Tp.mpr ha))) (bM (jm (dT (aB (cl1 rfl) (nK ha2)))) rfl))) rfl) (aY (dS (uV (bE rfl (bE (bq b rfl (cW rfl (cl1 rfl)) (r1 d σ n b)) (d7 (bq b rfl (cW rfl (cl1 rfl)) (r2 d σ n b))))))))))) (tk _))
theorem EQ {t1 b1 t2 b2:Int} (sh:Sh S) (hd:bW t) (hc:cl S.ends<t) (hn:dF note) (h1:gv∈S.names) (h2:tk'∈S.names) (c1:aZ one=true) (c2:aZ aM=true) (ne:one≠aM) (ha:1<=a) (ha2:c8 a=true)
  (r1:∀ d σ n,Bk σ n S->CC (d+2) false 14 [.p n 0,.d (.str one),.d (.int t)] σ=some (.ok (.d (.tup [.int t1,.int b1])),σ)) (r2:∀ d σ n,Bk σ n S->CC (d+2) false 14 [.p n 0,.d (.str aM),.d (.int t)] σ=some (.ok (.d (.tup [.int t2,.int b2])),σ))
  (q1:1<=t1/\t1<=10^9) (q2:1<=b1/\b1<=10^9) (q3:1<=t2/\t2<=10^9) (q4:1<=b2/\b2<=10^9) (eg:Ld a t1 b1 t2 b2=0):Fl (.change t note gv one a tk' aM) S 14:=fun d σ n b=>by
 have hc':=oz (d:=d+1) (hd:=false) (σ:=σ) (a:=a) q1 q2 q3 q4;rw[eg] at hc';exact dq b (bR rfl rfl rfl (zr b sh hd hc hn h1 h2 c1 c2 _ (aa (a' (av rfl rfl rfl rfl (fX ne)) rfl) (aa (a' (bz (bM (av rfl rfl rfl rfl (lU (Tp.mpr ha))) (bM (jm (dT (aB (cl1 rfl) (nK ha2)))) rfl))) rfl) (aa (aA (aB (cW rfl (cW (bq b rfl (cW rfl (cl1 rfl)) (r1 d σ n b)) (cl1 (bq b rfl (cW rfl (cl1 rfl)) (r2 d σ n b))))) hc') rfl) rfl)))) (tk _))
end
end
noncomputable abbrev NZ:Tx:=TU
noncomputable def m9:Tx:=TX
noncomputable def Mz:Tx:=TZ
noncomputable def My:Tx:=(([101,110,116,114,121,32,57,57,57,57,57,32,50,32]++DG [110] 41)++[10])++NZ
noncomputable def J8 (h:Tx):Tx:=(TM++h)++[32,57,57,57,57,57,32,49,32,49]
noncomputable def BK (h o:Tx):Tx:=((([99,104,97,110,103,101,32,57,57,57,57,57,32,101,120,99,104,97,110,103,101,32]++h)++TQ)++o)++[32,120]
noncomputable def J7 (o:Tx):Tx:=(TM++o)++[32,57,57,57,57,57,32,48,32,49]
noncomputable def J6 (h o:Tx):Tx:=(((((TM++o)++T0)++h)++TQ)++o)++[32,120]
noncomputable def Mw:List Tx:=[[99,108,111,115,101,32,49,48,48,48,48,48],[97,99,99,111,117,110,116,32,65],[97,99,99,111,117,110,116,32,101,120,99,104,97,110,103,101],[98,97,99,107,32,48,32,53],[114,97,116,101,32,69,85,114,32,53,32,49,32,49],[99,108,111,115,101,32,45,55]]
noncomputable def Mu:List Tx:=[TF++DG [49] 60,[101,110,116,114,121,32,57,57,57,57,57,32,48,32],TV]
noncomputable def F1 (h o:Tx):List Tx:=((((((Mw++Mu)++[m9])++[Mz])++[My,J8 h])++[BK h o])++[J7 o])++[J6 h o]
section
variable {o:Tx}
theorem MC (e:h.length=3):∃ a b c,h=[a,b,c]:=by
 match h,e with
 |[a,b,c],_=>exact ⟨a,b,c,rfl⟩
set_option maxRecDepth 20000 in
theorem D5 (h3:h.length=3) (o3:o.length=3):CC (d+1) hd 103 [.d (.str h),.d (.str o)] σ=some (.ok (.d (.lst ((F1 h o).map .str))),σ):=by
 obtain ⟨a,b,c,rfl⟩:=MC h3;obtain ⟨x,y,z,rfl⟩:=MC o3;exact bf rfl rfl rfl (ρ:=[sV [a,b,c],sV [x,y,z],none,none,none]) rfl (tk _)
noncomputable def CW:List Nat:=[4,1,9,12,2,4,4,7,2,11,3,5,6,13,6,14]
noncomputable def HN (c:Int) (i:Nat):Nat:=if c=99999/\6<i then 8 else CW.getD i 0
theorem HK {c:Int} (hi:i<16):CC (d+1) hd 102 [.d (.int c),.d (.int i)] σ=some (.ok (.d (.str (DX (HN c i)))),σ):=by
 have s1:jS.ex (KK d hd) [iV c,iV i,none] σ=some (.next [iV c,iV i,rV ((CW.take 9).map DX)],σ):=rfl;have s2:jR.ex (KK d hd) [iV c,iV i,rV ((CW.take 9).map DX)] σ=some (.next [iV c,iV i,rV (CW.map DX)],σ):=rfl;have pre:∀ z,(sC jQ (sC (bc (sub (ag 2) (ag 1))) sN)).ex (KK d hd) [iV c,iV i,rV (CW.map DX)] σ=z->ol.ex (KK d hd) [iV c,iV i,none] σ=z:=fun z hz=>aa s1 (aa s2 hz);unfold HN;by_cases q1:c=99999
 .by_cases q2:6<i
  .rw[if_pos ⟨q1,q2⟩];exact bf rfl rfl rfl (pre _ (aW (bo (dQ (fk (av rfl rfl rfl rfl (k7 q1)) (fk (av rfl rfl rfl rfl (uG (S0.mpr q2))) rfl))) rfl))) (tk _)
  .rw[if_neg fun z=>q2 z.2];exact bf rfl rfl rfl (pre _ (aa (a' (dQ (fk (av rfl rfl rfl rfl (k7 q1)) (lG (av rfl rfl rfl rfl (oO (Tp.mpr (SZ.mpr (To.mp q2)))))))) rfl) (aW (aU (j9 rfl rfl (by rw[SE,Sp (show i<CW.length from hi),SG,Sp (show i<CW.length from hi)];rfl) (Sv (Tr hi) (Sr rfl))))))) (tk _)
 .rw[if_neg fun z=>q1 z.1];exact bf rfl rfl rfl (pre _ (aa (a' (dQ (lG (tF q1 rfl))) rfl) (aW (aU (j9 rfl rfl (by rw[SE,Sp (show i<CW.length from hi),SG,Sp (show i<CW.length from hi)];rfl) (Sv (Tr hi) (Sr rfl))))))) (tk _)
end
noncomputable abbrev w9:Tx:=[57,57,57,57,57]
noncomputable abbrev w1:Tx:=[49]
noncomputable abbrev w0:Tx:=[48]
noncomputable abbrev w5:Tx:=[53]
noncomputable abbrev Nz:Tx:=[49,48,48,48,48,48,48,48,48,48]
section
variable {o r:Tx} {t:List Tx} {x:Dd}
theorem jL (e:c6 r t=some x) (l:x.len=0):cF (r::t)=(cF t).map (x::·):=by
 show (c6 r t).bind (fun x=>(eA t.length (t.drop x.len)).map (x::·))=_;rw[e,Sl,l];rfl
theorem JO {ws:List Tx} (h:∀ p∈ws,Wd p):10∉aT [32] ws:=fun z=>by
 rcases mT z with y|⟨p,hp,y⟩
 .cases y
 .exact absurd ((h p hp).1 10 y).1 (by decide)
theorem Nx:Wd w9:=⟨by decide,by decide,by decide⟩
theorem Ny:Wd w1:=⟨by decide,by decide,by decide⟩
theorem RU:Wd w0:=⟨by decide,by decide,by decide⟩
theorem RT:Wd w5:=⟨by decide,by decide,by decide⟩
theorem NX:Wd Nz:=⟨by decide,by decide,by decide⟩
theorem RS:Wd [120]:=⟨by decide,by decide,by decide⟩
theorem Ja:Wd bw:=⟨by decide,by decide,by decide⟩
theorem nn {a b c:Tx} {u v w:Int} (hc:aZ o=true) (h1:Wd a) (h2:Wd b) (h3:Wd c) (e1:a_ a=some u) (e2:a_ b=some v) (e3:a_ c=some w):an 10 (aT [32] [cx,o,a,b,c])=[aT [32] [cx,o,a,b,c]]/\10∉aT [32] [cx,o,a,b,c]/\∀ t,c6 (aT [32] [cx,o,a,b,c]) t=some (.rate o u v w):=by
 have hw:∀ p∈[cx,o,a,b,c],Wd p:=aG tJ (aG (cE hc) (aG h1 (aG h2 (aG h3 aS))));refine ⟨ey (JO hw),JO hw,fun t=> ?_⟩;unfold c6 kh;rw[fI (List.cons_ne_nil _ _) hw];show gj (hZ o) ((a_ a).bind fun n=>(a_ b).bind fun t=>(a_ c).map fun b=>Dd.rate o n t b)=_;rw[(cE hc).nm,e1,e2,e3];rfl
theorem oA (hc:aZ h=true) (ho:aZ o=true):an 10 (BK h o)=[BK h o]/\∀ t,c6 (BK h o) t=some (.change 99999 [120] bw h 5 bw o):=by
 have hw:∀ p∈[bG,w9,bw,h,w5,bw,o,[120]],Wd p:=aG mw (aG Nx (aG Ja (aG (cE hc) (aG RT (aG Ja (aG (cE ho) (aG RS aS)))))));have e:BK h o=aT [32] [bG,w9,bw,h,w5,bw,o,[120]]:=by
  show _=bG++[32]++(w9++[32]++(bw++[32]++(h++[32]++(w5++[32]++(bw++[32]++(o++[32]++[120]))))));unfold BK;simp only [List.append_assoc];rfl
 rw[e];refine ⟨ey (JO hw),fun t=> ?_⟩;unfold c6 kh;rw[fI (List.cons_ne_nil _ _) hw];show gj (hZ bw) (gj (hZ h) (some (5:Int)|>.bind fun a=>(some (99999:Int)).bind fun n=>gj (hZ bw) (gj (hZ o) (some (Dd.change n [120] bw h a bw o)))))=_;rw[Ja.nm,(cE hc).nm,(cE ho).nm];rfl
theorem p12 (hc:aZ h=true):cF (an 10 (J8 h))=some [.rate h 99999 1 1]:=by
 obtain ⟨a1,_,a2⟩:=nn (a:=w9) (b:=w1) (c:=w1) (u:=99999) (v:=1) (w:=1) hc Nx Ny Ny rfl rfl rfl;have e:J8 h=aT [32] [cx,h,w9,w1,w1]:=by
  show _=cx++[32]++(h++[32]++(w9++[32]++(w1++[32]++w1)));unfold J8;simp only [List.append_assoc];rfl
 rw[e,a1,jL (a2 _) rfl];rfl
theorem Rb (hc:aZ h=true) (ho:aZ o=true):cF (an 10 (BK h o))=some [.change 99999 [120] bw h 5 bw o]:=by
 obtain ⟨a1,a2⟩:=oA hc ho;rw[a1,jL (a2 _) rfl];rfl
theorem Ra (ho:aZ o=true):cF (an 10 (J7 o))=some [.rate o 99999 0 1]:=by
 obtain ⟨a1,_,a2⟩:=nn (a:=w9) (b:=w0) (c:=w1) (u:=99999) (v:=0) (w:=1) ho Nx RU Ny rfl rfl rfl;have e:J7 o=aT [32] [cx,o,w9,w0,w1]:=by
  show _=cx++[32]++(o++[32]++(w9++[32]++(w0++[32]++w1)));unfold J7;simp only [List.append_assoc];rfl
 rw[e,a1,jL (a2 _) rfl];rfl
theorem Q_ (hc:aZ h=true) (ho:aZ o=true):cF (an 10 (J6 h o))=some [.rate o 99999 1000000000 1,.change 99999 [120] bw h 5 bw o]:=by
 obtain ⟨_,a0,a2⟩:=nn (a:=w9) (b:=Nz) (c:=w1) (u:=99999) (v:=1000000000) (w:=1) ho Nx NX Ny rfl rfl rfl;obtain ⟨b1,b2⟩:=oA hc ho;have e:J6 h o=aT [32] [cx,o,w9,Nz,w1]++10::BK h o:=by
  show _=(cx++[32]++(o++[32]++(w9++[32]++(Nz++[32]++w1))))++10::BK h o;unfold J6 BK;simp only [List.append_assoc];rfl
 rw[e,dh a0,b1,jL (a2 _) rfl,jL (b2 _) rfl];rfl
set_option maxRecDepth 20000 in
theorem p6:∃ t:Int,¬bW t/\cF (an 10 (TF++DG [49] 60))=some [.close t]:=⟨111111111111111111111111111111111111111111111111111111111111,fun h=>absurd h.2 (by decide),rfl⟩
set_option maxRecDepth 20000 in
theorem p11:cF (an 10 My)=some [.entry 99999 (DG [110] 41) [(bw,mz,5),(bw,mz,-5)]]:=rfl
def FV (S:St) (r:Tx) (c:Nat):Prop:=∃ ds x more S1,cF (an 10 r)=some (ds++x::more)/\Rp S ds S1/\Fl x S1 c
theorem pM {r:Tx} (e:cF (an 10 r)=some [x]) (f:Fl x S c):FV S r c:=⟨[],x,[],S,e,rfl,f⟩
theorem tB {c:Tx} {n:Int}:∀ {rs:List Rw},(∀ x∈rs,x.1≠c)->k8 c n rs=none:=by
 intro rs
 induction rs with
 |nil=>
  intro _;exact rfl
 |cons x rs ih=>
  intro h;show rs.foldl (oH c n) (oH c n none x)=none;rw[show oH c n none x=none from if_neg fun z=>h x (.head _) z.1];exact ih fun y hy=>h y (.tail _ hy)
theorem GQ (g:Gd N p S) (hN:N<=800) (ho:aZ o=true) (hq:o∉p.curs) (hi:i<16):∃ r,(F1 S.home o)[i]? =some r/\FV S r (HN (cl S.ends) i):=by
 have sh:=g.sh (o6 hN);have hh:aZ S.home=true:=g.ic _ (SR g.home);have ex:=BD g;have c2:cl S.ends<=99999:=by rw[g.ends];exact g.cl2
 have d9:bW 99999:=⟨by decide,by decide⟩;have ne:S.home≠o:=fun z=>hq (z ▸ SR g.home);have nb:tP∉S.names:=fun z=>by
  obtain ⟨T,e,q,_⟩:=g.nm;rw[g.names,e] at z;rcases Sm.mp z with z|z
  .exact absurd z (by decide)
  .exact q.st z
 have lo:∀ j,j<=6->HN (cl S.ends) j=CW.getD j 0:=fun j hj=>if_neg fun z=>To.mpr hj z.2;have x9:dF [120]:=⟨by decide,by decide⟩;obtain ⟨mm,T⟩:=g.tell;have l2:=g.l2;by_cases h6:i<=6
 .rw[lo i h6]
  match i,h6 with
  |0,_=>exact ⟨_,rfl,pM (x:=.close 100000) rfl (rn fun z=>absurd z.2 (by decide))⟩
  |1,_=>exact ⟨_,rfl,pM (x:=.acc [65]) rfl K2⟩
  |2,_=>exact ⟨_,rfl,pM (x:=.acc bw) rfl (EP ex)⟩
  |3,_=>exact ⟨_,rfl,pM (x:=.back 0 5) rfl (HG sh)⟩
  |4,_=>exact ⟨_,rfl,pM (x:=.rate [69,85,114] 5 1 1) rfl K1⟩
  |5,_=>exact ⟨_,rfl,pM (x:=.close (-7)) rfl (rn fun z=>absurd z.1 (by decide))⟩
  |6,_=>
   obtain ⟨t,h1,h2⟩:=p6;exact ⟨_,rfl,pM h2 (rn h1)⟩
  |n+7,h=>omega
 obtain ⟨j,rfl⟩:∃ j,i=j+7:=⟨i - 7,by exact (Nat.sub_add_cancel (Nat.not_le.mp h6)).symm⟩;clear lo;by_cases hc:cl S.ends=99999
 .have le:(99999:Int)<=cl S.ends:=Oi hc;rw[show HN (cl S.ends) (j+7)=8 from if_pos ⟨hc,by omega⟩]
  match j,hi with
  |0,_=>exact ⟨_,rfl,pM (x:=.entry 99999 [] []) rfl (kQ sh d9 le)⟩
  |1,_=>exact ⟨_,rfl,pM (x:=.change 99999 [] bw mz 0 bw mz) rfl (rq sh d9 le)⟩
  |2,_=>exact ⟨_,rfl,pM (x:=.entry 99999 [120] [(tP,mz,5),(bw,mz,-5)]) rfl (kQ sh d9 le)⟩
  |3,_=>exact ⟨_,rfl,pM (x:=.entry 99999 [120] [(bw,mz,0),(bw,mz,5)]) rfl (kQ sh d9 le)⟩
  |4,_=>exact ⟨_,rfl,pM p11 (kQ sh d9 le)⟩
  |5,_=>exact ⟨_,rfl,pM (p12 hh) (rm sh hh d9 le)⟩
  |6,_=>exact ⟨_,rfl,pM (Rb hh ho) (rq sh d9 le)⟩
  |7,_=>exact ⟨_,rfl,pM (Ra ho) (rm sh ho d9 le)⟩
  |8,_=>exact ⟨_,rfl,⟨[],_,_,S,Q_ hh ho,rfl,rm sh ho d9 le⟩⟩
  |n+9,h=>omega
 .have lt:cl S.ends<99999:=by omega
  have hi8:∀ j,HN (cl S.ends) j=CW.getD j 0:=fun j=>if_neg fun z=>hc z.1;have rH:∀ d σ n,Bk σ n S->CC (d+2) false 14 [.p n 0,.d (.str S.home),.d (.int 99999)] σ=some (.ok (.d (.tup [.int 1,.int 1])),σ):=fun d σ n b=>nk b hh d9;rw[hi8]
  match j,hi with
  |0,_=>exact ⟨_,rfl,pM (x:=.entry 99999 [] []) rfl (K0 sh d9 lt)⟩
  |1,_=>exact ⟨_,rfl,pM (x:=.change 99999 [] bw mz 0 bw mz) rfl (HE sh d9 lt ⟨by decide,aS⟩ ex ex (by decide))⟩
  |2,_=>exact ⟨_,rfl,pM (x:=.entry 99999 [120] [(tP,mz,5),(bw,mz,-5)]) rfl (AD sh d9 lt x9 (Ki nb))⟩
  |3,_=>exact ⟨_,rfl,pM (x:=.entry 99999 [120] [(bw,mz,0),(bw,mz,5)]) rfl (AD sh d9 lt x9 (Kh ex (by decide) (by decide)))⟩
  |4,_=>exact ⟨_,rfl,pM p11 (HF sh d9 lt (by decide) (by decide))⟩
  |5,_=>exact ⟨_,rfl,pM (p12 hh) (AC sh hh d9 lt (.inl rfl))⟩
  |6,_=>
   refine ⟨_,rfl,pM (Rb hh ho) (Cf sh d9 lt x9 ex ex hh ho ne (by decide) (by decide) rH fun d σ n b=> ?_)⟩;have q:=pZ (d:=d) b T ho d9 (fun z=>ne z.symm) (o1 hN l2);rw[tB (c:=o) fun x hx z=>hq (z ▸ g.tc x hx)] at q;exact q
  |7,_=>exact ⟨_,rfl,pM (Ra ho) (AC sh ho d9 lt (.inr (by decide)))⟩
  |8,_=>
   obtain ⟨ks,vs,m',T',run⟩:=vq T sh ho d9 lt (fun z=>ne z.symm) (t:=1000000000) (b:=1) ⟨by decide,by decide⟩ ⟨by decide,by decide⟩ (o1 hN l2);have sh':Sh (told S o 99999 1000000000 1 ks vs):=⟨sh.n,by rw[T'.k,Sk];have:=T'.ml;rw[Sn,Sw] at this;exact Sv (Sv this (Nat.add_le_add_right (Sv l2 (hN)) _)) (Sr rfl),sh.m,sh.g,sh.e,by show (S.deeds++[_]).length<=_;rw[Sn,Sw];have:=g.l6;exact SM this (SM hN (Sr rfl))⟩;refine ⟨_,rfl,[.rate o 99999 1000000000 1],_,[],told S o 99999 1000000000 1 ks vs,Q_ hh ho,⟨_,fun d σ n b=>hH b (run d σ n b),rfl⟩,EQ (t1:=1) (b1:=1) (t2:=1000000000) (b2:=1) sh' d9 lt x9 ex ex hh ho ne (by decide) (by decide) (fun d σ n b=>nk (S:=told S o 99999 1000000000 1 ks vs) b hh d9) (fun d σ n b=> ?_) ⟨by decide,by decide⟩ ⟨by decide,by decide⟩ ⟨by decide,by decide⟩ ⟨by decide,by decide⟩ (by decide)⟩;have q:=pZ (d:=d) b T' ho d9 (fun z=>ne z.symm) (by rw[Sn,Sw];exact Sv (Nat.add_le_add_right (Sv l2 (hN)) _) (Sr rfl));rw[kT,tB (c:=o) fun x hx z=>hq (z ▸ g.tc x hx)] at q;have e:oH o 99999 none (o,99999,1000000000,1)=some (o,99999,1000000000,1):=if_pos ⟨rfl,Int.le_refl _,fun y h=>nomatch h⟩;rw[e] at q;exact q
  |n+9,h=>omega
end
noncomputable abbrev CB:List Tx:=[[120],Tz,TN,[]]
noncomputable abbrev KL:List Tx:=[[104,111,109,101,32,101,117,114,10],[104,111,109,101,32,69,10],[104,111,109,101,32,69,85,82,79,10]]
noncomputable abbrev xy:List Tx:=[[],[10],[104,111,109,101],[104,111,109,101,32,10],[104,111,109,101,32,69,85,82,32,85,83,68,10],[99,108,111,115,101,32,53,10],[104,111,109,101,32,69,85,82,10,99,108,111,115,101,32,53],[104,111,109,101,32,101,117,114,10,99,108,111,115,101,10],[104,111,109,101,32,69,10,120,10]]
section
variable {o r:Tx} {t:List Tx} {xs:List Dd}
theorem Dz:∀ {l:List Tx} {s j:Nat},1<=s->dW s l=some j->1<=j:=by
 intro l
 induction l with
 |nil=>
  intro s j h e;cases e;exact h
 |cons r l ih=>
  intro s j h e;obtain ⟨k,e1,e2⟩:=ak e;refine ih ?_ e2
  match s,h with
  |s+1,_=>
   obtain ⟨_,_,e⟩:=aL e1;rw[<-e];exact Tl (SQ _)
theorem FJ {s:Nat} (hs:1<=s):∀ z∈CB,ck s z=none:=by
 refine aG (d_ fun k=>absurd k.key.1 (by decide)) (aG (d_ fun k=>k.one rfl) (aG (Fc hs) (aG AP aS)))
theorem AU {b:CE} {x y:Tx} (h1:Ev K a ρ σ (.d (.str x))) (h2:Ev K b ρ σ (.d (.str y))) (hl:x.length+y.length<=2000000):Ev K (aJ aH a b) ρ σ (.d (.str (x++y))):=aX h1 h2 rfl rfl (lq (Sv hl (by decide)))
theorem iO {z:Tx} (h:an 10 z=ao++[last]) (hc:last≠[]∨dW 0 ao≠some 1) (h1:z.length<=1040000:=by decide) (h2:ao.length<=8000:=by decide) (h3:∀ x∈ao,x.length<=500:=by decide):∀ d σ,CC (d+7) false 101 [.d (.str z)] σ=some (.ok (.d (.bool true)),σ):=fun d σ=>by
 by_cases q:last=[]
 .subst q;exact fJ (pX h1 h h2 h3 (hc.resolve_left fun z=>z rfl))
 .exact fJ (lK h1 h (Sv (h2) (Sr rfl)) (.inl q))
theorem Gk:∀ z∈xy,∀ d σ,CC (d+7) false 101 [.d (.str z)] σ=some (.ok (.d (.bool true)),σ):=(aG (iO (ao:=[]) (last:=[]) rfl (.inr (by decide))) (aG (iO (ao:=[[]]) (last:=[]) rfl (.inr (by decide))) (aG (iO (ao:=[]) (last:=[104,111,109,101]) rfl (.inl (by decide))) (aG (iO (ao:=[[104,111,109,101,32]]) (last:=[]) rfl (.inr (by decide))) (aG (iO (ao:=[[104,111,109,101,32,69,85,82,32,85,83,68]]) (last:=[]) rfl (.inr (by decide))) (aG (iO (ao:=[[99,108,111,115,101,32,53]]) (last:=[]) rfl (.inr (by decide))) (aG (iO (ao:=[TN]) (last:=[99,108,111,115,101,32,53]) rfl (.inl (by decide))) (aG (iO (ao:=[[104,111,109,101,32,101,117,114],Tz]) (last:=[]) rfl (.inr (by decide))) (aG (iO (ao:=[[104,111,109,101,32,69],[120]]) (last:=[]) rfl (.inr (by decide))) aS)))))))))
theorem Hm:∀ z∈KL,∀ d σ,CC (d+7) false 100 [.d (.str z)] σ=some (.ok (.d (.str (DX 2))),σ):=by
 have a:∀ (z h hm:Tx),an 10 z=[h]++[[]]->j4 (an 32 h)=some hm->z.length<=1000->h.length<=500->hm.length<=1000->aZ hm=false->∀ d σ,CC (d+7) false 100 [.d (.str z)] σ=some (.ok (.d (.str (DX 2))),σ):=fun z h hm e1 e2 h1 h2 h3 h4 d σ=>sM (DH (body:=[]) (ds:=[]) (Sv (h1) (Sr rfl)) e1 (by decide) (aG h2 aS) e2 rfl h3 h4) (by decide);exact aG (a _ [104,111,109,101,32,101,117,114] [101,117,114] rfl rfl (by decide) (by decide) (by decide) (by decide)) (aG (a _ [104,111,109,101,32,69] [69] rfl rfl (by decide) (by decide) (by decide) (by decide)) (aG (a _ [104,111,109,101,32,69,85,82,79] [69,85,82,79] rfl rfl (by decide) (by decide) (by decide) (by decide)) aS))
structure GR (h:Tx) (xs:List Dd) (S:St):Prop where
 c:aZ h=true
 x:∀ x∈xs,CR x
 l:xs.length<=80
 r:Rp (st0 h) xs S
noncomputable abbrev jG (h:Tx) (xs:List Dd):List Tx:=rowH h::ce xs
theorem th (hc:aZ h=true):j4 (an 32 (rowH h))=some h:=by
 unfold rowH;rw[fI (List.cons_ne_nil _ _) (aG C7 (aG (cE hc) aS))];show gj (hZ h) (some h)=_;rw[(cE hc).nm];rfl
theorem GR.ok (g:GR h xs S):(∀ r∈jG h xs,FW r)/\(jG h xs).length<=4881/\dW 0 (jG h xs)=some 1:=by
 obtain ⟨a1,a2⟩:=xI g.x;have hl:=g.l;refine ⟨aG (jF (note:=h) (ws:=[jl]) (aG C7 aS) (cE g.c).pr (by rw[dL g.c];decide) (List.cons_ne_nil _ _) (by decide)) a1,by rw[Ss];exact Nat.add_le_add_right (Sv a2 (Tq _ (hl))) _,?_⟩;show ((j4 (an 32 (rowH h))).map fun _=>1).bind _=_;rw[th g.c];show dW (0+1) (ce xs)=_;have e:=qb (t:=[]) g.x;rw[List.append_nil] at e;rw[DA,ny (e.trans rfl)];rfl
theorem GR.len (g:GR h xs S):(gR (jG h xs)).length<=932271:=by
 obtain ⟨a1,a2,_⟩:=g.ok;have:=xp (k:=190) fun r hr=>(a1 r hr).l;exact Sv this (Tq _ (a2))
theorem GR.split (g:GR h xs S) (X:Tx):an 10 (gR (jG h xs)++X)=jG h xs++an 10 X:=pT fun r hr=>(g.ok.1 r hr).n
theorem GR.tried (g:GR h xs S) (hr:r.length<=300) (ht:FV S r c) (hc:c<nX):CC (d+7) false 100 [.d (.str ((gR (jG h xs)++r)++[10]))] σ=some (.ok (.d (.str (DX c))),σ):=by
 obtain ⟨ds,x,more,S1,e1,e2,e3⟩:=ht;obtain ⟨a1,a2,_⟩:=g.ok;have tl:=g.len;have sl:=gf (c:=10) r;rw[Ss] at a2;refine sM (GC (h:=rowH h) (hm:=h) (body:=ce xs++an 10 r) (ds:=xs++ds) (x:=x) (more:=more) ?_ ?_ ?_ ?_ (th g.c) ?_ g.c ?_ (g.r.app e2) e3) hc
 .rw[Sn,Sn,Sw];exact Sv (Nat.add_le_add_right (Nat.add_le_add (tl) (hr)) _) (Sr rfl)
 .rw[List.append_assoc,g.split];show _++an 10 (r++10::[])=_;rw[ni,<-List.append_assoc];rfl
 .rw[Sn];exact Sv (Nat.add_le_add (Sv (Th _ _) a2) (Sv sl (Nat.add_le_add_right (hr) _))) (Sr rfl)
 .refine aG (Sv (a1 _ (.head _)).l (by decide)) fun y hy=> ?_;rcases SF.mp hy with hy|hy
  .exact Sv (a1 y (.tail _ hy)).l (by decide)
  .exact Sv (dD hy).2 (Sv (hr) (Sr rfl))
 .rw[qb g.x,e1,Option.map_some,List.append_assoc]
 .have l1:(ds++x::more).length<=301:=by
   have:=sW e1;exact Sv this (Sv sl (Nat.add_le_add_right (hr) _))
  have:=g.l;rw[List.append_assoc,Sn];exact Sv (Nat.add_le_add (this) (l1)) (Sr rfl)
theorem GR.refused {b:Tx} (g:GR h xs S) (hr:r.length<=300) (hb:b∈CB):CC (d+7) false 101 [.d (.str ((((gR (jG h xs)++r)++[10])++b)++[10]))] σ=some (.ok (.d (.bool true)),σ):=by
 obtain ⟨a1,a2,_⟩:=g.ok;have tl:=g.len;have sl:=gf (c:=10) r;have b1:∀ z∈CB,z.length<=10/\10∉z:=by decide
 obtain ⟨b2,b3⟩:=b1 b hb;refine fJ (pX (ao:=(jG h xs++an 10 r)++[b]) ?_ ?_ ?_ ?_ ?_)
 .rw[Sn,Sn,Sn,Sn,Sw];exact Sv (Nat.add_le_add_right (Nat.add_le_add (Nat.add_le_add_right (Nat.add_le_add (tl) (hr)) _) (b2)) _) (Sr rfl)
 .rw[List.append_assoc,List.append_assoc,List.append_assoc,g.split];show _++an 10 (r++10::(b++10::[]))=_;rw[ni,dh b3,List.append_assoc,List.append_assoc];rfl
 .rw[Sn,Sn,Sw];exact Sv (Nat.add_le_add_right (Nat.add_le_add (a2) (Sv sl (Nat.add_le_add_right (hr) _))) _) (Sr rfl)
 .intro y hy;rcases SF.mp hy with hy|hy
  .rcases SF.mp hy with hy|hy
   .exact Sv (a1 y hy).l (by decide)
   .exact Sv (dD hy).2 (Sv (hr) (Sr rfl))
  .rw[Sq.mp hy];exact Sv (b2) (Sr rfl)
 .rw[il];cases e:dW 0 (jG h xs++an 10 r) with
  |none=>nofun
  |some j=>
   have hj:1<=j:=by
    obtain ⟨k,e1,e2⟩:=ak (show (ck 0 (rowH h)).bind (fun j=>dW j (ce xs++an 10 r))=some j from e);obtain ⟨_,_,e3⟩:=aL e1;exact Dz (by rw[<-e3];exact Sy _) e2
   show (ck j b).bind _≠_;rw[FJ hj b hb];nofun
end
noncomputable abbrev DM:List Tx:=[[81,81,81],[81,81,82],[81,81,83],[81,81,84],[81,81,85]]
section
variable {o r:Tx} {t F:List Tx} {xs:List Dd} {c:Int}
theorem DR (hq:∃ n0 v,∀ x∈F,x∈n0::v::curs):∃ o rest,DM.filter (fun x=>decide (x∉F))=o::rest/\aZ o=true/\o∉F:=by
 obtain ⟨n0,v,hq⟩:=hq;cases e:DM.filter (fun x=>decide (x∉F)) with
 |nil=>
  exfalso;have a:∀ x∈DM,x=n0∨x=v:=fun x hx=>by
   have:=List.filter_eq_nil_iff.mp e x hx;have h1:x∈F:=Classical.byContradiction fun z=>this (SC z);rcases Sm.mp (hq x h1) with z|z
   .exact .inl z
   .rcases Sm.mp z with z|z
    .exact .inr z
    .exact absurd z ((show ∀ x∈DM,x∉curs by decide) x hx)
  rcases a [81,81,81] (.head _) with a1|a1<;>rcases a [81,81,82] (.tail _ (.head _)) with a2|a2<;>rcases a [81,81,83] (.tail _ (.tail _ (.head _))) with a3|a3
  .exact absurd (a1.trans a2.symm) (by decide)
  .exact absurd (a1.trans a2.symm) (by decide)
  .exact absurd (a1.trans a3.symm) (by decide)
  .exact absurd (a2.trans a3.symm) (by decide)
  .exact absurd (a2.trans a3.symm) (by decide)
  .exact absurd (a1.trans a3.symm) (by decide)
  .exact absurd (a1.trans a2.symm) (by decide)
  .exact absurd (a1.trans a2.symm) (by decide)
 |cons o rest=>
  have ho:o∈DM.filter (fun x=>decide (x∉F)):=by rw[e];exact .head _
  obtain ⟨h1,h2⟩:=List.mem_filter.mp ho;exact ⟨o,rest,rfl,(show ∀ x∈DM,aZ x=true by decide) o h1,S6 h2⟩
theorem JZ (h3:h.length=3) (o3:o.length=3):∀ r∈F1 h o,r.length<=300:=by
 have e:F1 h o=(Mw++Mu++[m9]++[Mz]++[My])++[J8 h,BK h o,J7 o,J6 h o]:=by
  show (((((Mw++Mu++[m9]++[Mz])++[My,J8 h])++[BK h o])++[J7 o])++[J6 h o])=_;rw[List.append_assoc,List.append_assoc,List.append_assoc,List.append_assoc (Mw++Mu++[m9]++[Mz])];rfl
 rw[e];intro r hr;rcases SF.mp hr with hr|hr
 .exact (show ∀ r∈Mw++Mu++[m9]++[Mz]++[My],r.length<=300 by decide) r hr
 .refine aG (q:=fun r:Tx=>r.length<=300) ?_ (aG ?_ (aG ?_ (aG ?_ aS))) r hr
  .unfold J8;rw[Sn,Sn];show 5+_+10<=_;exact L8 h3
  .unfold BK;rw[Sn,Sn,Sn,Sn];show 22+_+12+_+2<=_;exact Sv (Nat.add_le_add_right (Nat.add_le_add (Nat.add_le_add_right (S5 (Td h3) _) _) (Td o3)) _) (Sr rfl)
  .unfold J7;rw[Sn,Sn];show 5+_+10<=_;exact L8 o3
  .unfold J6;rw[Sn,Sn,Sn,Sn,Sn,Sn];show 5+_+42+_+12+_+2<=_;exact Sv (Nat.add_le_add_right (Nat.add_le_add (Nat.add_le_add_right (Nat.add_le_add (Nat.add_le_add_right (S5 (Td o3) _) _) (Td h3)) _) (Td o3)) _) (Sr rfl)
theorem K6 (hi:i<16):HN c i<nX:=by
 unfold HN;split
 .decide
 .exact (show ∀ i<16,CW.getD i 0<nX by decide) i hi
noncomputable abbrev qZ (t:Tx) (m:Nat) (c:Int) (x3 x4 x5 x6:Option PV):bj:=[sV t,qV m,iV c,x3,x4,x5,x6,none]
theorem nG (R:Rk σ m p) (g:Gd N p S) (hN:N<=800) (G:GR S.home xs S) (hq:∃ n0 v,∀ x∈p.curs,x∈n0::v::curs):CC (d+8) false 104 [.d (.str (gR (jG S.home xs))),.p m 0,.d (.int c)] σ=some (.ok (.d (.bool true)),σ):=by
 obtain ⟨o,rest,eo,ho,hno⟩:=DR hq;have h3:=dL G.c;have o3:=dL ho;have l3:=g.l3;have fm:=aV (a:=c) (b:=16) (by decide);obtain ⟨i,hi⟩:∃ i:Nat,c.fmod 16=i:=⟨(c.fmod 16).toNat,by exact (S4 fm.1).symm⟩;have hi16:i<16:=Oh fm hi;obtain ⟨r,er,tr⟩:=GQ (i:=i) g hN ho hno hi16;have rl:=JZ h3 o3 r (SR er);have tl:=G.len;have eh:=g.home;have cl':cl S.ends=cl p.ends:=by rw[g.ends]
 rw[cl'] at tr;generalize htx:gR (jG S.home xs)=tx at tl;have s3:∀ x3,gB.ex (KK (d+7) false) (qZ tx m c x3 (rV DM) none none) σ=some (.next (qZ tx m c x3 (sV o) none none),σ):=fun x3=>by
  have cf:=ki (K:=KK (d+7) false) (ρ:=qZ tx m c x3 (rV DM) none none) (σ:=σ) (i:=7) (bT:=ag 7) (t:=qd (a8 l9 (ag 7) (key (ag 1) 2 Tt))) (v:=.d (.lst (DM.map .str))) (y:=.lst (DM.map .str)) rfl D.str D.str (fun x=>decide (x∉p.curs)) DM [] (fun x _=>by
   by_cases q:x∈p.curs
   .rw[Tf fun z=>z q];exact xr (av rfl (i0 R rfl) rfl rfl (Ae q))
   .rw[SC q];exact xr (av rfl (i0 R rfl) rfl rfl (vU q))) (fun x _ _=>rfl) (Sr rfl)
  rw[eo] at cf;exact aA (j9 (ao:=o::rest) (k:=0) (mX (fN rfl rfl cf)) rfl rfl (by decide)) rfl
 have s4:∀ x3,gA.ex (KK (d+7) false) (qZ tx m c x3 (sV o) none none) σ=some (.next (qZ tx m c x3 (sV o) (rV (F1 S.home o)) none),σ):=fun x3=>aA (aB (cW (bQ (i0 R rfl) rfl rfl rfl (fc (k:=0) (by rw[SE,eh];rfl))) rfl) (D5 (d:=d+6) h3 o3)) rfl;have md:∀ x3 x4 x5 x6,Ev (KK (d+7) false) (aJ bv (ag 2) (ai 16)) (qZ tx m c x3 x4 x5 x6) σ (.d (.int i)):=fun _ _ _ _=>by rw[<-hi];exact rfl
 have s5:∀ x4 x5,gz.ex (KK (d+7) false) (qZ tx m c (iV (cl p.ends)) x4 x5 none) σ=some (.next (qZ tx m c (iV (cl p.ends)) x4 x5 (sV (DX (HN (cl p.ends) i)))),σ):=fun x4 x5=>aA (aB (cW rfl (cl1 (md _ _ _ _))) (HK (d:=d+6) hi16)) rfl;have er':∀ x3 x4 x6,Ev (KK (d+7) false) (sub (ag 5) (ag 2)) (qZ tx m i x3 x4 (rV (F1 S.home o)) x6) σ (.d (.str r)):=fun _ _ _=>j9 rfl rfl er (Og fm hi);have e1:∀ x3 x4 x6,Ev (KK (d+7) false) (aJ aH (aJ aH (ag 0) (sub (ag 5) (ag 2))) (au [10])) (qZ tx m i x3 x4 (rV (F1 S.home o)) x6) σ (.d (.str ((tx++r)++[10]))):=fun x3 x4 x6=>AU (AU rfl (er' x3 x4 x6) (Sv (Nat.add_le_add (tl) (rl)) (Sr rfl))) rfl (by rw[Sn];show _+1<=_;exact Sv (Nat.add_le_add_right (Nat.add_le_add (tl) (rl)) _) (Sr rfl));have s7:∀ x3 x4 x6,gy.ex (KK (d+7) false) (qZ tx m i x3 x4 (rV (F1 S.home o)) x6) σ=some (.next (qZ tx m i x3 x4 (rV (F1 S.home o)) x6),σ):=fun x3 x4 x6=>by
  obtain ⟨b,hb,eb⟩:=mJ (K:=KK (d+7) false) (ρ:=qZ tx m i x3 x4 (rV (F1 S.home o)) x6) (σ:=σ) (T:=CB) (e:=aJ bS (ag 2) (ai 3)) (ke:=ai 4) (k:=4) (bL (ds:=CB.map .str) (l:=aj (au [120]) (aj (au Tz) (aj (au TN) (aj (au []) az)))) rfl) rfl rfl (by decide) (by decide) (by decide);have bl:=(show ∀ z∈CB,z.length<=10 by decide) b hb;have q:=G.refused (d:=d) (σ:=σ) rl hb;rw[htx] at q;exact a' (jm (dT (aB (cl1 (AU (AU (e1 x3 x4 x6) eb (by rw[Sn,Sn,Sw];exact Sv (Nat.add_le_add (Nat.add_le_add_right (Nat.add_le_add (tl) (rl)) _) (bl)) (Sr rfl))) rfl (by rw[Sn,Sn,Sn,Sw];show _+1<=_;exact Sv (Nat.add_le_add_right (Nat.add_le_add (Nat.add_le_add_right (Nat.add_le_add (tl) (rl)) _) (bl)) _) (Sr rfl)))) q))) rfl
 have s8:∀ x3 x4 x5 x6,gx.ex (KK (d+7) false) (qZ tx m i x3 x4 x5 x6) σ=some (.next (qZ tx m i x3 x4 x5 x6),σ):=fun x3 x4 x5 x6=>by
  obtain ⟨b,hb,eb⟩:=mJ (K:=KK (d+7) false) (ρ:=qZ tx m i x3 x4 x5 x6) (σ:=σ) (T:=KL) (e:=ag 2) (ke:=ai 3) (k:=3) (bL (ds:=KL.map .str) (l:=aj (au [104,111,109,101,32,101,117,114,10]) (aj (au [104,111,109,101,32,69,10]) (aj (au [104,111,109,101,32,69,85,82,79,10]) az))) rfl) rfl rfl (by decide) (by decide) (by decide);exact a' (av (aB (cl1 eb) (Hm b hb d σ)) rfl rfl rfl rfl) rfl
 have q9:=G.tried (d:=d) (σ:=σ) rl tr (K6 hi16);rw[htx] at q9;exact bf rfl rfl (ρ:=qZ tx m c none none none none) rfl (aa (aA (aB rfl (g8 (d:=d+6) R (by omega))) rfl) (aa rfl (aa (s3 _) (aa (s4 _) (aa (s5 _ _) (aa (aA (md _ _ _ _) rfl) (aa (s7 _ _ _) (aa (s8 _ _ _ _) (aW (aU (nP (aB (cl1 (e1 _ _ _)) q9) rfl rfl rfl (iA rfl)))))))))))) (tk _)
end
noncomputable abbrev LR (sc:List Int) (x1 x2 x3 x4 x5 x6:Option PV):bj:=[dV (.lst (sc.map .int)),x1,x2,x3,x4,x5,x6]
section
variable {o r:Tx} {t F:List Tx} {xs:List Dd} {c:Int}
theorem xB {a:Tx} {z:Nat}:fP (.str (a++[z])) .none (.int (-1))=some (.str a):=by
 have e:fP (.str (a++[z])) .none (.int (-1))=ax (cY 0 (a++[z]).length<=cY (-1) (a++[z]).length) (D.str (bC (a++[z]) (cY 0 (a++[z]).length) (cY (-1) (a++[z]).length))):=rfl;have c0:cY 0 (a++[z]).length=0:=by unfold cY;rw[if_neg (by decide)];exact Nat.zero_min _
 have c1:cY (-1) (a++[z]).length=a.length:=by unfold cY;rw[if_pos (by decide),Sn,Sw];exact Mi
 rw[e,c0,c1,aO (SQ _),bC,List.drop_zero,Nat.sub_zero,List.take_left]
theorem Jb {a b:List Tx}:gR (a++b)=gR a++gR b:=by
 unfold gR;rw[List.map_append,List.flatten_append]
theorem Bl (hn:ao≠[]) (hr:∀ r∈ao,FW r) (hl:ao.length<=5000):∃ X,fP (.str (gR ao)) .none (.int (-1))=some (.str X)/\∀ d σ,CC (d+7) false 101 [.d (.str X)] σ=some (.ok (.d (.bool true)),σ):=by
 obtain ⟨a,l,rfl⟩:∃ a l,ao=a++[l]:=by
  rcases List.eq_nil_or_concat ao with z|⟨a,l,z⟩
  .exact absurd z hn
  .exact ⟨a,l,z.trans List.concat_eq_append⟩
 have e:gR (a++[l])=(gR a++l)++[10]:=by
  rw[Jb,List.append_assoc];exact congrArg _ (List.append_nil _)
 have hx:=hr l (List.mem_append_right _ (.head _));have tl:=xp (k:=190) (ao:=a) fun r hr'=>(hr r (List.mem_append_left _ hr')).l;have l1:=hx.l;rw[Sn,Sw] at hl;refine ⟨_,(congrArg (fun u=>fP (.str u) .none (.int (-1))) e).trans xB,fun d σ=>fJ (lK (l:=a) (last:=l) ?_ ?_ (Sv (Sv (Th _ _) hl) (Sr rfl)) (.inl hx.e))⟩
 .rw[Sn];exact Sv (Nat.add_le_add (Sv tl (Tq _ (Sv (Th _ _) hl))) (l1)) (Sr rfl)
 .rw[pT fun r hr'=>(hr r (List.mem_append_left _ hr')).n,ey hx.n]
theorem FI {B:List Tx} (b:vg B):∀ d σ,CC (d+7) false 101 [.d (.str (gR B))] σ=some (.ok (.d (.bool true)),σ):=fun d σ=>by
 have tl:=xp (k:=200) fun r hr=>(b.r r hr).2;have e:=pT (X:=[]) fun r hr=>(b.r r hr).1;rw[List.append_nil] at e;have:=b.l;exact fJ (pX (Sv (Sv tl (Tq _ (this))) (Sr rfl)) e (Sv (this) (Sr rfl)) (fun x hx=>Sv (b.r x hx).2 (by decide)) b.g)
theorem MO (g:Gd 74 p S):∃ xs,GR S.home xs S/\∀ d m σ,Rk σ m p->CC (d+1) false 107 [.p m 0] σ=some (.ok (.d (.lst ((jG S.home xs).map .str))),σ):=by
 obtain ⟨T,more,ds,h1,h2,h3,h4,h5,h6⟩:=g.hs;have hc:aZ S.home=true:=g.ic _ (SR g.home);have nl:=g.nl;have l5:=g.l5;rw[h4,Sk] at l5;have hT:T.length<=6:=by
  have:=nl;rw[h2,Ss,Sn] at this;exact L9 this
 refine ⟨T.map .acc++ds,⟨hc,fun x hx=> ?_,by rw[Sn,Sk];exact Nat.add_le_add (hT) (l5),h6⟩,fun d m σ R=>BX R g.home hc h1 h2 h3 h4 h5 nl (Sv (l5) (Sr rfl))⟩;rcases SF.mp hx with hx|hx
 .obtain ⟨a,ha,rfl⟩:=SD.mp hx;exact h3 a ha
 .exact h5 x hx
theorem Jx (sc:List Int) (hs:sc.length<=63):∃ σ',CC 9 false 109 [.d (.lst (sc.map .int))] []=some (.ok (.d (.bool true)),σ'):=by
 obtain ⟨T,F,hT,hT1,hT4,hF,hC,hF3,hF10,hq,eP⟩:=Bu hs;obtain ⟨h,G,rfl⟩:∃ h G,F=h::G:=by
  cases F with
  |nil=>exact absurd hF3 (by decide)
  |cons a l=>exact ⟨a,l,rfl⟩
 have eB:=Fx (d:=5) (σ:=[pk (IF T (h::G) 5)]) (m:=0) (p:=IF T (h::G) 5) rfl rfl rfl (hC h (.head _)) hT (Sv hT4 (Sr rfl));have g0:Gd 4 (IF T (h::G) 5) (LF h T):={Sg (mo:=5) hT hT1 hT4 hF hC hF3 hF10 with l1:=SQ _,l2:=SQ _,l3:=SQ _,l4:=SQ _,l5:=SQ _,l6:=by show (T.map mi).length<=4;rw[Sk];exact hT4};have H:la [pk (IF T (h::G) 5),bk (LF h T)] 0 1 (IF T (h::G) 5) (LF h T):=⟨rfl,rfl,by decide⟩;obtain ⟨p,S,g,k1,e1⟩:=Cl (d:=2) (sc:=sc) (f:=7) (l:=63) hs ⟨by decide,by decide⟩ ⟨by decide,by decide⟩ H g0 (by decide);have hq':∃ n0 v,∀ x∈p.curs,x∈n0::v::curs:=by rw[k1.c];exact hq
 obtain ⟨xs,gr,eR⟩:=MO g;obtain ⟨a1,a2,a3⟩:=gr.ok;have er:=eR 7 0 [pk p,bk S] rfl;have et:=vp (d:=7) (σ:=[pk p,bk S]) (ao:=jG S.home xs) (Sv (a2) (Sr rfl)) fun r hr=>Sv (a1 r hr).l (by decide);have hl:=nG (d:=0) (σ:=[pk p,bk S]) (m:=0) (c:=(cell sc 6).fdiv 7) rfl g (by decide) gr hq';have h0:0<(jG S.home xs).length:=Nat.zero_lt_succ _;have hne:jG S.home xs≠[]:=List.cons_ne_nil _ _;generalize jG S.home xs=ao at er et hl a1 a2 a3 h0 hne;have fm:=aV (a:=cell sc 4) (b:=(ao.length:Int)) (LA h0);obtain ⟨k,hk⟩:∃ k:Nat,(cell sc 4).fmod (ao.length:Int)=k:=⟨((cell sc 4).fmod (ao.length:Int)).toNat,by exact (S4 fm.1).symm⟩;obtain ⟨B,hB,eb⟩:=FF (d:=7) (σ:=[pk p,bk S]) (way:=cell sc 5) (k:=k) a1 (Sv (a2) (Sr rfl)) a3 (Of fm hk);obtain ⟨X,eX,rX⟩:=Bl hne a1 (Sv (a2) (Sr rfl));have cl5:∀ (k:Nat) (x1 x2 x3 x4 x5 x6:Option PV),k<=100->Ev (KK 8 false) (aF 33 (aj (ag 0) (aj (ai (k:Nat)) az))) (LR sc x1 x2 x3 x4 x5 x6) [pk p,bk S] (.d (.int (cell sc k))):=fun k _ _ _ _ _ _ hk=>EZ (d:=7) hs rfl rfl (Sv (hk) (Sr rfl));have s6:∀ x1 x2 x4,rj.ex (KK 8 false) (LR sc x1 x2 (rV ao) x4 none none) [pk p,bk S]=some (.next (LR sc x1 x2 (rV ao) x4 (iV k) none),[pk p,bk S]):=fun x1 x2 x4=>by
  rw[<-hk];exact aA (aX (cl5 4 _ _ _ _ _ _ (by decide)) (j1 rfl (Sv (a2) (Sr rfl))) rfl rfl (iy (LA h0) (SW (SZ.mpr a2) (by decide)))) rfl
 have s7:∀ x1 x2 x6,ri.ex (KK 8 false) (LR sc x1 x2 (rV ao) (sV (gR ao)) (iV k) x6) [pk p,bk S]=some (.next (LR sc x1 x2 (rV ao) (sV (gR ao)) (iV k) x6),[pk p,bk S]):=fun x1 x2 x6=>
  a' (bz (bM (jm (dT (aB (cl1 (aB (cl1 (aB (cW rfl (cW (cl5 5 _ _ _ _ _ _ (by decide)) rfl)) eb)) (vp (d:=7) hB.l fun r hr=>(hB.r r hr).2))) (FI hB 1 _)))) (bM (jm (dT (aB (cl1 (mD rfl rfl rfl rfl rfl rfl eX)) (rX 1 _)))) rfl))) rfl
 have s9:∀ x1 x2 x3 x4 x5,rh.ex (KK 8 false) (LR sc x1 x2 x3 x4 x5 (rV (xy.take 7))) [pk p,bk S]=some (.next (LR sc x1 x2 x3 x4 x5 (rV xy)),[pk p,bk S]):=fun x1 x2 x3 x4 x5=>rfl;have s10:∀ x1 x2 x3 x4 x5,oq.ex (KK 8 false) (LR sc x1 x2 x3 x4 x5 (rV xy)) [pk p,bk S]=some (.next (LR sc x1 x2 x3 x4 x5 (rV xy)),[pk p,bk S]):=fun x1 x2 x3 x4 x5=>by
  obtain ⟨z,hz,ez⟩:=mJ (K:=KK 8 false) (ρ:=LR sc x1 x2 x3 x4 x5 (rV xy)) (σ:=[pk p,bk S]) (T:=xy) (t:=ag 6) (ke:=ai 9) (k:=9) rfl (cl5 6 _ _ _ _ _ _ (by decide)) rfl (by decide) (by decide) (by decide);exact a' (jm (dT (aB (cl1 ez) (Gk z hz 1 _)))) rfl
 exact ⟨_,bf rfl rfl (ρ:=LR sc none none none none none none) rfl (aa (aA (aB rfl eP) rfl) (aa (aA (aB rfl eB) rfl) (aa (IR (Iv (C_ (aB rfl e1))) rfl) (aa (aA (aB rfl er) rfl) (aa (aA (aB rfl et) rfl) (aa (s6 _ _ _) (aa (s7 _ _ _) (aa rfl (aa (s9 _ _ _ _ _) (aa (s10 _ _ _ _ _) (aW (aU (aB (cW rfl (cW rfl (cl1 (j_ (cl5 6 _ _ _ _ _ _ (by decide)))))) hl))))))))))))) rfl⟩
end
open PySem PySem.W PySem.Calls PyProof.Rows
set_option Elab.async false
set_option maxRecDepth 100000
set_option maxHeartbeats 8000000
theorem MD:LeftO pN qN ["BOUND","GREATEST"] (fun _=>true) yN (fun _=>True) 40178:=He z1 (by decide) z2 z3 z4 (fun s e=>⟨_,Hu s.tree s.n s.life,ah e,Gi s.life (aq e)⟩) (fun w os=>Gw (RQ w os) (RP w os)) (fun w os=>Gv (RN w os) (RM w os) (RL w os) (RK w os))
theorem B5:∀ i,i<100->∀ j,j<100->wv i=wv j->i=j:=by decide+kernel
theorem Ep:∀ i j,i<100->j<100->wv i=wv j->i=j:=fun i j hi hj h=>B5 i hi j hj h
end Mine.Internal
open PySem PySem.W PyProof.Rows
set_option Elab.async false
set_option maxRecDepth 100000 in
set_option maxHeartbeats 8000000 in
theorem PySem.Challenge.cw_uf010015_12_holds : PySem.Challenge.rw_uf010015_12.Holds := by
 w_on
 refine holds_law Mine.Internal.LN fun said=> ?_;refine holds_open (q:=Mine.Internal.qN) (loose:=["BOUND","GREATEST"]) (Xt:=fun _=>true) (XP:=fun _ _=>True) (Yf:=Mine.Internal.yN) (Ya:=fun _=>True) (YP:=fun _ h=>Mine.Internal.KP h) (N:=40178) Mine.Internal.MD
  (fun w s e=>of_eq_true e) (fun w h h' a k=>Mine.Internal.KP.keeps a k) (fun _ _=>trivial) (fun _ _ _ _ _=>trivial) (by rfl) (by rfl) (by rfl) (fun s _=>recFacts_of (by rfl)) (by rfl) (by first|assumption|decide+kernel) (by decide+kernel) ⟨rfl,rfl,rfl,rfl,rfl,by decide+kernel⟩ ?hw ?hc
 (case hw=>w_witness2)
 intro w s₀ s₁ mg mb G Y fa o pm cd doc dV kV ho hd hcd hD hmg hg args vals as hpre hlay hrd hwl hlo;obtain ⟨K,X,ok,TK⟩:=Y;refine Ground.open G ?_;intro T B D TE TW
 wrow_args hpre hlay hrd hwl hlo
 refine enter_call ?_;refine kn_post (Mine.Internal.Ji X ok TK) (fun _ _=>rfl) ?_
 rename IntsAre _ _=>hI
 rename Heap.IsList _ _ _=>hL
 rename¬(_<_)=>hle
 obtain ⟨σ',hrun⟩:=Mine.Internal.Jx _ (Int.ofNat_le.mp (Int.not_lt.mp hle));refine Mine.Internal.Hf (sp:=Mine.Internal.Bf) (key:=Mine.Internal.wv) Mine.Internal.Ep T X ok TK hL hI (f:=Mine.Internal.QN) (by kernel_rfl) (by exact hmg) (d:=8) (by decide) hrun ?_;intro s' sm keep gro;obtain ⟨h',tk,rfl⟩:=sm;refine ⟨⟨.inl ⟨_,.bool true,[],rfl,raisesW_false (by wrow_none_raised),ReadsW.bool true,?_,unshared_nil⟩,Mine.Internal.yQ keep,rfl,hg⟩,Mine.Internal.EI gro⟩
 wrow_post