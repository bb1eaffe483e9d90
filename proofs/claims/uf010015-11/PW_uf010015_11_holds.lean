import PyProof.Rows.All
import Wide.All
import OpenK.AllK
import Wide.FinOn
import PySem.Challenge.RW_uf010015_11
set_option autoImplicit false
set_option linter.all false
set_option bootstrap.genMatcherCode false
set_option compiler.extract_closed false
set_option genSizeOf false
set_option genInjectivity false
set_option maxRecDepth 40000
namespace Mine.Internal
noncomputable abbrev Tq:List Nat:=[110,97,109,101,115]
noncomputable abbrev Tr:List Nat:=[99,117,114,114,101,110,99,105,101,115]
noncomputable abbrev Tt:List Nat:=[101,110,116,114,105,101,115]
noncomputable abbrev Tu:List Nat:=[100,101,101,100,115]
noncomputable abbrev Tw:List Nat:=[101,110,100,115]
noncomputable abbrev Ty:List Nat:=[101,120,99,104,97,110,103,101]
noncomputable abbrev Tz:List Nat:=[101,110,116,114,121]
noncomputable abbrev TA:List Nat:=[99,104,97,110,103,101]
noncomputable abbrev TB:List Nat:=[98,97,99,107]
noncomputable abbrev TC:List Nat:=[97,99,99,111,117,110,116]
noncomputable abbrev TD:List Nat:=[114,97,116,101]
noncomputable abbrev TF:List Nat:=[108,105,110,101,32]
noncomputable abbrev TG:List Nat:=[65,66,67,68,69,70,71,72,73,74,75,76,77,78,79,80,81,82,83,84,85,86,87,88,89,90]
noncomputable abbrev TH:List Nat:=[101,110,116,114,121,32]
noncomputable abbrev TI:List Nat:=[99,108,111,115,101]
noncomputable abbrev TJ:List Nat:=[98,97,99,107,115]
noncomputable abbrev TL:List Nat:=[97,98,99,100,101,102,103,104,105,106,107,108,109,110,111,112,113,114,115,116,117,118,119,120,121,122]
noncomputable abbrev TM:List Nat:=[48,49,50,51,52,53,54,55,56,57]
noncomputable abbrev TN:List Nat:=[97,99,99,111,117,110,116,32]
noncomputable abbrev TO:List Nat:=[119,114,111,110,103]
noncomputable abbrev TP:List Nat:=[32,33,34,35,36,38,39,40,41,42,43,44,45,46,47,48,49,50,51,52,53,54,55,56,57,58,59,60,61,62,63,64]
noncomputable abbrev TQ:List Nat:=[65,66,67,68,69,70,71,72,73,74,75,76,77,78,79,80,81,82,83,84,85,86,87,88,89,90,91,92,93,94,95,96]
noncomputable abbrev TS:List Nat:=[97,98,99,100,101,102,103,104,105,106,107,108,109,110,111,112,113,114,115,116,117,118,119,120,121,122,123,124,125,126]
noncomputable abbrev TU:List Nat:=[97,98,99,100,101,102,103,104,105,106,107,108,109,110,111,112,113,114,115,116,117,118,119,120,121,122,48,49,50,51,52,53,54,55,56,57]
def Sg:=@List.length_map
def Si:=@Option.bind_some
def Sj:=@List.mem_cons
def Sk:=@List.length_append
def Sl:=@List.getElem?_eq_some_iff
def Sn:=@List.getElem?_eq_getElem
def So:=@List.mem_singleton
def Sp:=@Nat.le_of_ble_eq_true
def Sq:=@List.length_cons
def Sr:=@PySem.Heap.get?_push_of_some
def Ss:=@Nat.le_trans
def Su:=@List.length_singleton
def Sv:=@Nat.le_refl
def Sw:=@PySem.wpAny_bind
def Sy:=@PySem.wpAny_pure
def Sz:=@decide_eq_true
def SA:=@List.mem_map
def SB:=@List.getElem?_map
def SC:=@List.mem_append
def SD:=@List.getD_eq_getElem?_getD
def SE:=@PySem.Heap.get?_push_size
def SF:=@List.not_mem_nil
def SG:=@List.size_toArray
def SH:=@List.getElem?_append_right
def SI:=@Bool.false_ne_true
def SJ:=@Nat.lt_of_le_of_lt
def SK:=@Nat.lt_of_lt_of_le
def SL:=@List.length_set
def SM:=@Nat.le_succ_of_le
def SN:=@Nat.zero_le
def SO:=@List.mem_of_getElem?
def SP:=@List.getElem?_set_ne
def SQ:=@List.filter_cons_of_pos
def SR:=@PySem.Heap.lt_size
def SS:=@Int.le_trans
def ST:=@Int.lt_of_le_of_lt
def SU:=@Int.lt_of_lt_of_le
def SV:=@Int.ofNat_le
def SW:=@Int.ofNat_lt
def SY:=@Nat.le_of_lt
def SZ:=@Int.toNat_of_nonneg
def S0:=@Nat.add_le_add_left
def S3:=@of_decide_eq_true
def S4:=@Nat.lt_irrefl
def S5:=@Nat.le_succ
def S6:=@List.nodup_cons
def S7:=@List.getElem?_append_left
def S8:=@Option.map_eq_some_iff
def S9:=@List.nodup_nil
def S_:=@Option.some.inj
def Ta:=@Nat.le_of_eq
def Tb:=@List.length_nil
def Tc:=@decide_eq_false
def Td:=@Nat.zero_add
def Tf:=@Nat.le_add_right
def Tg:=@Int.le_add_of_nonneg_right
def Th:=@Nat.lt_trans
def Ti:=@Int.le_of_lt
def Tj:=@Nat.succ_le_succ
def Tk:=@Int.min_le_left
def Tl:=@Int.natCast_nonneg
def Tm:=@Nat.not_lt
def Tn:=@Int.not_lt
def To:=@Nat.mul_le_mul_left
def Tp:=@Nat.le_of_lt_succ
open PySem PySem.W PySem.Calls PyProof.Rows
set_option Elab.async false
set_option maxRecDepth 100000
set_option maxHeartbeats 8000000
theorem eW {a b:Bool} (h1:a=true) (h2:b=true):(a&&b)=true:=by rw[h1,h2];rfl
noncomputable def ib:{p:(OpenLaw->Bool)×(OpenLaw->Bool)×(OpenLaw->Bool)×(OpenLaw->Bool)×(OpenLaw->Bool)×(OpenLaw->Bool)×(OpenLaw->Bool)×(OpenLaw->Bool)×(OpenLaw->Bool)×(OpenLaw->Bool)×(OpenLaw->Bool)×(OpenLaw->Bool)×(OpenLaw->Bool)×(OpenLaw->Bool)×(OpenLaw->Bool)×(OpenLaw->Bool)×(OpenLaw->Bool)×(OpenLaw->Bool)×(OpenLaw->Bool) // ∀ l:OpenLaw,l.wellSaid=(p.1 l&&p.2.1 l&&p.2.2.1 l&&p.2.2.2.1 l&&p.2.2.2.2.1 l&&p.2.2.2.2.2.1 l&&p.2.2.2.2.2.2.1 l&&p.2.2.2.2.2.2.2.1 l&&p.2.2.2.2.2.2.2.2.1 l&&p.2.2.2.2.2.2.2.2.2.1 l&&p.2.2.2.2.2.2.2.2.2.2.1 l&&p.2.2.2.2.2.2.2.2.2.2.2.1 l&&p.2.2.2.2.2.2.2.2.2.2.2.2.1 l&&p.2.2.2.2.2.2.2.2.2.2.2.2.2.1 l&&p.2.2.2.2.2.2.2.2.2.2.2.2.2.2.1 l&&p.2.2.2.2.2.2.2.2.2.2.2.2.2.2.2.1 l&&p.2.2.2.2.2.2.2.2.2.2.2.2.2.2.2.2.1 l&&p.2.2.2.2.2.2.2.2.2.2.2.2.2.2.2.2.2.1 l&&p.2.2.2.2.2.2.2.2.2.2.2.2.2.2.2.2.2.2 l)}:=⟨(_,_,_,_,_,_,_,_,_,_,_,_,_,_,_,_,_,_,_),fun l=>rfl⟩
theorem R5:ib.1.1 PySem.Challenge.rw_uf010015_11=true:=by kernel_rfl
theorem R4:ib.1.2.1 PySem.Challenge.rw_uf010015_11=true:=by kernel_rfl
theorem R3:ib.1.2.2.1 PySem.Challenge.rw_uf010015_11=true:=by kernel_rfl
theorem R2:ib.1.2.2.2.1 PySem.Challenge.rw_uf010015_11=true:=by kernel_rfl
theorem R1:ib.1.2.2.2.2.1 PySem.Challenge.rw_uf010015_11=true:=by kernel_rfl
theorem R0:ib.1.2.2.2.2.2.1 PySem.Challenge.rw_uf010015_11=true:=by kernel_rfl
theorem RZ:ib.1.2.2.2.2.2.2.1 PySem.Challenge.rw_uf010015_11=true:=by kernel_rfl
theorem RY:ib.1.2.2.2.2.2.2.2.1 PySem.Challenge.rw_uf010015_11=true:=by kernel_rfl
theorem RX:ib.1.2.2.2.2.2.2.2.2.1 PySem.Challenge.rw_uf010015_11=true:=by kernel_rfl
theorem RW:ib.1.2.2.2.2.2.2.2.2.2.1 PySem.Challenge.rw_uf010015_11=true:=by kernel_rfl
theorem OB:ib.1.2.2.2.2.2.2.2.2.2.2.1 PySem.Challenge.rw_uf010015_11=true:=by kernel_rfl
theorem OA:ib.1.2.2.2.2.2.2.2.2.2.2.2.1 PySem.Challenge.rw_uf010015_11=true:=by kernel_rfl
theorem Oz:ib.1.2.2.2.2.2.2.2.2.2.2.2.2.1 PySem.Challenge.rw_uf010015_11=true:=by kernel_rfl
theorem Oy:ib.1.2.2.2.2.2.2.2.2.2.2.2.2.2.1 PySem.Challenge.rw_uf010015_11=true:=by kernel_rfl
theorem Ox:ib.1.2.2.2.2.2.2.2.2.2.2.2.2.2.2.1 PySem.Challenge.rw_uf010015_11=true:=by kernel_rfl
theorem Ow:ib.1.2.2.2.2.2.2.2.2.2.2.2.2.2.2.2.1 PySem.Challenge.rw_uf010015_11=true:=by kernel_rfl
theorem Ov:ib.1.2.2.2.2.2.2.2.2.2.2.2.2.2.2.2.2.1 PySem.Challenge.rw_uf010015_11=true:=by kernel_rfl
theorem Ou:ib.1.2.2.2.2.2.2.2.2.2.2.2.2.2.2.2.2.2.1 PySem.Challenge.rw_uf010015_11=true:=by kernel_rfl
theorem Ot:ib.1.2.2.2.2.2.2.2.2.2.2.2.2.2.2.2.2.2.2 PySem.Challenge.rw_uf010015_11=true:=by kernel_rfl
theorem Mw:PySem.Challenge.rw_uf010015_11.wellSaid=true:=(ib.2 PySem.Challenge.rw_uf010015_11).trans (eW (eW (eW (eW (eW (eW (eW (eW (eW (eW (eW (eW (eW (eW (eW (eW (eW (eW (R5) R4) R3) R2) R1) R0) RZ) RY) RX) RW) OB) OA) Oz) Oy) Ox) Ow) Ov) Ou) Ot)
open PySem PySem.W PySem.Calls PyProof.Rows
noncomputable def eq (p:Program) (w:World) (n₀:Nat) (ann:Option Value):Nat->SharedT->Thread->Option SharedT
 |0,_,_=>none
 |n+1,s,t=>match through t with
  |true=>some s
  |false=>match PySem.W.Fast.tw6613529449190102663 n₀ ann t with
   |false=>none
   |true=>match PySem.W.Fast.tw10156331382660048174 (PySem.W.Fast.tw11892475500146522536 PySem.W.Fast.tw14364793385576792824) p w s t with
    |some (s',t')=>eq p w n₀ ann n s' t'
    |none=>none
theorem pw {p:Program} {w:World} {n₀:Nat} {ann:Option Value}:∀ {n:Nat} {s s':SharedT} {t:Thread},eq p w n₀ ann n s t=some s'->topRun treeTable p w n₀ ann n s.abs t=some s'.abs
 |0,_,_,_,h=>by cases h
 |n+1,s,s',t,h=>by
  unfold eq at h;rw[<-PySem.W.Fast.te6613529449190102663,<-PySem.W.Fast.te10156331382660048174,<-PySem.W.Fast.te11892475500146522536,<-PySem.W.Fast.te14364793385576792824] at h;unfold topRun;cases ht:through t with
  |true=>rw[ht] at h;cases h;rfl
  |false=>
   rw[ht] at h;cases hk:stepOk n₀ ann t with
   |false=>rw[hk] at h;cases h
   |true=>
    rw[hk] at h;cases hs:stepT (denote treeTable) p w s t with
    |none=>rw[hs] at h;cases h
    |some x=>
     obtain ⟨s₂,t₂⟩:=x;rw[hs] at h;dsimp only;rw[stepT_spec hs];exact pw h
noncomputable def fP (l:List Obj):BT:=(l.foldl (fun (x:BT×Nat) o=>(x.1.ins x.2 o,x.2+1)) (.nil,0)).1
theorem HR {p q:Program} {loose:List Str} {Xt:Shared->Bool} {Yf:Shared->Prop} {Yt:SharedT->Bool} {N n0:Nat} {life0:Life} {ann:Option Value}
  (e:opening p=plainProg p.main.scope.names) (hN:Nat.ble 600 N=true) (f:∀ s,fenceModules? p s=some s)
  (hT:∀ P:Params,absHeap (fP (boot_heap P).objs.toList) n0 life0=boot_heap P)
  (size:∀ w:World,((boot_heap w.params).isNs mainGlobals,(boot_heap w.params).objs.size,(boot_heap w.params).nsMap mainGlobals "__annotations__")=(true,n0,ann))
  (hY:∀ s,Yt s=true->Yf s.abs)
  (run1:∀ (w:World) (os:OsState),(eq p w n0 ann N ⟨fP (boot_heap w.params).objs.toList,n0,life0,Array.mk [],boot_drawn,boot_toks,os⟩ (topStub p)).map (fun s=>
   (staticsOk (PySem.W.Fast.tw5923862056798008813 p.main.body) (boot_heap w.params) s.abs.heap&&namesBound p s.abs.heap&&gensDone s.abs&&laidKept (boot_heap w.params) s.abs.heap,Yt s))=some (true,true))
  (run2:∀ (w:World) (os:OsState),(eq p w n0 ann N ⟨fP (boot_heap w.params).objs.toList,n0,life0,Array.mk [],boot_drawn,boot_toks,os⟩ (topStub p)).map (fun s=>
   PySem.W.Fast.tw4187177175401517315 q loose (PySem.W.Fast.tw5923862056798008813 p.main.body) Xt true s.abs)=some (openGood q loose)):
  LeftO p q loose Xt Yf (fun _=>True) N:=fun w=>by
 obtain ⟨⟨h,gs,d,k,os⟩,e1,e2⟩:=S8.mp (boot_open e hN f w);obtain ⟨rfl,rfl,rfl,rfl⟩:h=boot_heap w.params/\gs=Array.mk []/\d=boot_drawn/\k=boot_toks:=by simpa using e2
 obtain ⟨z1,z2,z3⟩:_/\_/\_:=by simpa only [Prod.mk.injEq] using size w
 obtain ⟨s',r1,r2⟩:=S8.mp (run1 w os);have l2:=run2 w os;rw[r1] at l2;have l2:=S_ l2;rw[<-PySem.W.Fast.te5923862056798008813] at r2;rw[<-PySem.W.Fast.te5923862056798008813,<-PySem.W.Fast.te4187177175401517315] at l2;obtain ⟨l1,l3⟩:_/\_:=by simpa only [Prod.mk.injEq] using r2
 have r:=pw r1;have ha:(SharedT.abs ⟨fP (boot_heap w.params).objs.toList,n0,life0,Array.mk [],boot_drawn,boot_toks,os⟩)=⟨boot_heap w.params,Array.mk [],boot_drawn,boot_toks,os⟩:=by
  show Shared.mk (absHeap _ _ _) _ _ _ _=_;rw[hT]
 rw[ha] at r;unfold openEnds;rw[e1];show (topFrom treeTable p w N _).map _=_;have t:topFrom treeTable p w N ⟨boot_heap w.params,Array.mk [],boot_drawn,boot_toks,os⟩=some s'.abs:=by
  unfold topFrom;dsimp only;rw[z1,z2,z3,r];show (match staticsOk (importedModules p.main.body) (boot_heap w.params) s'.abs.heap&&namesBound p s'.abs.heap&&gensDone s'.abs&&laidKept (boot_heap w.params) s'.abs.heap with|true=>some s'.abs|false=>none)=_
  rw[l1]
 rw[t];exact congrArg some (Prod.ext l2 (eq_true (hY s' l3)))
open PySem PySem.W PySem.Calls PyProof.Rows
theorem G7 {α:Type} {o:Option α} {f g:α->Bool} (h1:o.map f=some true) (h2:o.map g=some true):o.map (fun s=>(f s,g s))=some (true,true):=by
 cases o with
 |none=>cases h1
 |some a=>exact congrArg some (Prod.ext (S_ h1) (S_ h2))
theorem G6 {α:Type} {o:Option α} {F:α->Shared} {q:Program} {loose mods:List Str} {Xt:Shared->Bool}
  (hA:o.map (fun s=>((PySem.W.Fast.tw4187177175401517315 q loose mods Xt true (F s)).1,(PySem.W.Fast.tw4187177175401517315 q loose mods Xt true (F s)).2.1))=some (expectedOf q,bltViewBooted))
  (hB:o.map (fun s=>((PySem.W.Fast.tw4187177175401517315 q loose mods Xt true (F s)).2.2.1,(PySem.W.Fast.tw4187177175401517315 q loose mods Xt true (F s)).2.2.2.1))=some (true,true))
  (hC:o.map (fun s=>(PySem.W.Fast.tw4187177175401517315 q loose mods Xt true (F s)).2.2.2.2.2.1)=some (plainGoodE q (looseW q loose)))
  (hD:o.map (fun s=>((PySem.W.Fast.tw4187177175401517315 q loose mods Xt true (F s)).2.2.2.2.1,(PySem.W.Fast.tw4187177175401517315 q loose mods Xt true (F s)).2.2.2.2.2.2))=some (pinGoodD (drecsOf q),plainGoodD q loose,wideGood q,clsGoodW q loose)):
  o.map (fun s=>PySem.W.Fast.tw4187177175401517315 q loose mods Xt true (F s))=some (openGood q loose):=by
 cases o with
 |none=>cases hA
 |some a=>
  obtain ⟨a1,a2⟩:=Prod.mk.inj (S_ hA);obtain ⟨b1,b2⟩:=Prod.mk.inj (S_ hB);have c1:=S_ hC;obtain ⟨d1,d2⟩:=Prod.mk.inj (S_ hD);exact congrArg some (Prod.ext a1 (Prod.ext a2 (Prod.ext b1 (Prod.ext b2 (Prod.ext d1 (Prod.ext c1 d2))))))
open PySem PySem.W PySem.Calls PyProof.Rows
set_option Elab.async false
set_option maxRecDepth 100000
set_option maxHeartbeats 8000000
noncomputable def pN:Program:=PySem.Challenge.pw_uf010015_11
noncomputable def qN:Program:=view pN ((List.range 17).map (· +1)++(List.range 4).map (· +19)++(List.range 11).map (· +24)++(List.range 2).map (· +36)++(List.range 13).map (· +39)++(List.range 8).map (· +53)++(List.range 34).map (· +62))
theorem z1:opening pN=plainProg pN.main.scope.names:=by kernel_rfl
theorem z2:∀ s,fenceModules? pN s=some s:=fun s=>by kernel_rfl
theorem z3:∀ P:Params,absHeap (fP (boot_heap P).objs.toList) 11 {}=boot_heap P:=fun P=>by kernel_rfl
theorem z4:∀ w:World,((boot_heap w.params).isNs mainGlobals,(boot_heap w.params).objs.size,(boot_heap w.params).nsMap mainGlobals "__annotations__")=(true,11,some (.ref 6)):=fun w=>by kernel_rfl
theorem RT:∀ (w:World) (os:OsState),(eq pN w 11 (some (.ref 6)) 40178 ⟨fP (boot_heap w.params).objs.toList,11,{},Array.mk [],boot_drawn,boot_toks,os⟩ (topStub pN)).map (fun s=>staticsOk (PySem.W.Fast.tw5923862056798008813 pN.main.body) (boot_heap w.params) s.abs.heap&&namesBound pN s.abs.heap&&gensDone s.abs&&laidKept (boot_heap w.params) s.abs.heap)=some true:=fun w os=>by kernel_rfl
theorem RQ:∀ (w:World) (os:OsState),(eq pN w 11 (some (.ref 6)) 40178 ⟨fP (boot_heap w.params).objs.toList,11,{},Array.mk [],boot_drawn,boot_toks,os⟩ (topStub pN)).map (fun s=>((PySem.W.Fast.tw4187177175401517315 qN ["BOUND","GREATEST"] (PySem.W.Fast.tw5923862056798008813 pN.main.body) (fun _=>true) true s.abs).1,(PySem.W.Fast.tw4187177175401517315 qN ["BOUND","GREATEST"] (PySem.W.Fast.tw5923862056798008813 pN.main.body) (fun _=>true) true s.abs).2.1))=some (expectedOf qN,bltViewBooted):=fun w os=>by kernel_rfl
theorem RP:∀ (w:World) (os:OsState),(eq pN w 11 (some (.ref 6)) 40178 ⟨fP (boot_heap w.params).objs.toList,11,{},Array.mk [],boot_drawn,boot_toks,os⟩ (topStub pN)).map (fun s=>((PySem.W.Fast.tw4187177175401517315 qN ["BOUND","GREATEST"] (PySem.W.Fast.tw5923862056798008813 pN.main.body) (fun _=>true) true s.abs).2.2.1,(PySem.W.Fast.tw4187177175401517315 qN ["BOUND","GREATEST"] (PySem.W.Fast.tw5923862056798008813 pN.main.body) (fun _=>true) true s.abs).2.2.2.1))=some (true,true):=fun w os=>by kernel_rfl
theorem RN:∀ (w:World) (os:OsState),(eq pN w 11 (some (.ref 6)) 40178 ⟨fP (boot_heap w.params).objs.toList,11,{},Array.mk [],boot_drawn,boot_toks,os⟩ (topStub pN)).map (fun s=>(PySem.W.Fast.tw4187177175401517315 qN ["BOUND","GREATEST"] (PySem.W.Fast.tw5923862056798008813 pN.main.body) (fun _=>true) true s.abs).2.2.2.2.2.1)=some (plainGoodE qN (looseW qN ["BOUND","GREATEST"])):=fun w os=>by kernel_rfl
theorem RM:∀ (w:World) (os:OsState),(eq pN w 11 (some (.ref 6)) 40178 ⟨fP (boot_heap w.params).objs.toList,11,{},Array.mk [],boot_drawn,boot_toks,os⟩ (topStub pN)).map (fun s=>((PySem.W.Fast.tw4187177175401517315 qN ["BOUND","GREATEST"] (PySem.W.Fast.tw5923862056798008813 pN.main.body) (fun _=>true) true s.abs).2.2.2.2.1,(PySem.W.Fast.tw4187177175401517315 qN ["BOUND","GREATEST"] (PySem.W.Fast.tw5923862056798008813 pN.main.body) (fun _=>true) true s.abs).2.2.2.2.2.2))=some (pinGoodD (drecsOf qN),plainGoodD qN ["BOUND","GREATEST"],wideGood qN,clsGoodW qN ["BOUND","GREATEST"]):=fun w os=>by kernel_rfl
noncomputable abbrev nX:Nat:=17
noncomputable abbrev wI:Nat:=2
end Mine.Internal
namespace Mine.Internal
theorem bn {T:Prop} (h:∀ G:Prop,(T->G)->G):T:=h T id
section
variable {a b c d e f g h:Nat} {i j k l m n p:Int}
theorem c3 (u:a<b) (v:b<c) (w:c<d):3<=d:=Ss (Nat.succ_le_of_lt (SJ (Nat.succ_le_of_lt (SJ (Nat.succ_le_of_lt (SJ (SN a) u)) v)) w)) (Sv d)
theorem nA (u:0<=i) (v:i<(b:Int)):i.natAbs<b:=SW.mp (by rw[Int.natAbs_of_nonneg u];exact v)
theorem tA (u:i.toNat<a*2) (v:¬j.toNat<a):(i - j).toNat<a/\i - j<j:=by
 have h1:=ST (Int.self_le_toNat i) (SW.mpr u);cases a with
 |zero=>exact absurd u (Nat.not_lt_zero _)
 |succ q=>
  have h2:(q:Int)<j:=Int.lt_toNat.mp (Nat.lt_of_succ_le (Tm.mp v));exact ⟨(Int.toNat_lt' (Nat.succ_pos q)).mpr (by omega),by omega⟩
theorem o0:a<=800->b<=a->b<=1000:=fun u v=>Ss v (Ss u (Sp rfl))
theorem o1:a<=800->b<=a->b<=900:=fun u v=>Ss v (Ss u (Sp rfl))
theorem o2:1<=i->0<i:=fun u=>Int.lt_of_add_one_le u
theorem o3:a<=7->a<=1000:=fun u=>Ss u (Sp rfl)
theorem o4:a<64->a<=1000:=fun u=>Ss (Tp u) (Sp rfl)
theorem o5:a+(b+1)=c->a<c:=fun u=>u ▸ Nat.lt_add_of_pos_right (Nat.succ_pos b)
theorem o6:a<=800->a<=900:=fun u=>Ss u (Sp rfl)
theorem o7:a<64->b=a->b<64:=fun u v=>lt_of_eq_of_lt v u
theorem o8:i<=(a:Int)->0<=j/\j<i->j.toNat<a:=fun u v=>(Int.toNat_lt v.1).mpr (SU v.2 u)
theorem o9:0<=(a:Int):=Tl a
theorem Gz:¬(a:Int)<0:=Int.not_ofNat_neg a
theorem KH:a<=8->a<=1000:=fun u=>Ss u (Sp rfl)
theorem Jr:a<=60->a<=1000:=fun u=>Ss (u) (Sp rfl)
theorem Mg:3<=a->0<(a:Int):=fun u=>SW.mpr (SK (Sp rfl) u)
theorem Og:i<=(a:Int)->a<=1000->i<2^250:=fun u v=>ST (SS u (SV.mpr v)) (by decide)
theorem Of:0<=i/\i<j->i=(i.toNat:Int):=fun u=>(SZ u.1).symm
theorem Oe:a<=1000->i.toNat<a->i.toNat<=100000:=fun u v=>Ss (SY v) (Ss u (by decide))
theorem KG: -1000<=(a:Int):=Int.neg_ofNat_le_natCast 1000 a
theorem Od:0<=i/\i<(a:Int)->i.toNat<a:=fun u=>(Int.toNat_lt u.1).mpr u.2
theorem Qn:1<=a+1:=Nat.le_add_left 1 a
theorem Oc:1<=i/\i<=10^9->i.natAbs<2^64:=fun u=>nA (SS (by decide) u.1) (ST u.2 (by decide))
theorem Ob:a<=900->b<=a->b<=1000:=fun u v=>Ss v (Ss u (Sp rfl))
theorem Oa:3<=a->0<(a:Int) - 1:=fun u=>Int.sub_pos_of_lt (SW.mpr (SK (by decide) u))
theorem KF:0<a->0<(a:Int):=fun u=>Int.natCast_pos.mpr u
theorem PN:1<=i/\i<=10^9->0<i:=fun u=>SU (by decide) u.1
theorem PK:2<=a/\a<=60->a<=1000:=fun u=>Ss u.2 (by decide)
theorem PI:a+(b+1)=a+1+b:=Eq.symm (Nat.succ_add_eq_add_succ a b)
theorem PH:(a:Int)<=(a:Int):=Int.le_refl ↑a
theorem PG:1<=i->i<=10^9->i.natAbs<2^64:=fun u v=>nA (SS (by decide) u) (ST v (by decide))
theorem PE:2<=a+1+1:=Nat.le_add_left 2 a
theorem RA:a+(b+1)≠a:=Nat.ne_of_gt (Nat.lt_add_of_pos_right (Nat.succ_pos _))
theorem MN:a<=100->a<=1000:=fun u=>Ss (u) (Sp rfl)
theorem Rz:1<=i/\i<=10^9->i.natAbs<=2^30:=fun u=>SV.mp (by rw[Int.natAbs_of_nonneg (SS (by decide) u.1)];exact SS u.2 (by decide))
theorem O_:a<=2^24->(a:Int)<9223372036854775808:=fun u=>SW.mpr (SJ u (Sp rfl))
theorem O8:a<b->b - (a+1)<b - a:=fun u=>Nat.sub_succ_lt_self b a u
theorem Sa:a+100<b->a+1<b:=fun u=>SJ (S0 (by decide) a) u
theorem R_:a+64*b+1000<c->a+100<c:=fun u=>SJ (Nat.add_le_add (Tf a _) (by decide)) u
theorem Ry:i<=10^9*10^9->i<2^250:=fun u=>ST u (by decide)
theorem Rx:a<=1000->(a:Int)<=100000000:=fun u=>SV.mpr (Ss u (by decide))
theorem R9:a<=a+0+1*b:=Tf a (1*b)
theorem R8:a<=b+c->d+e+a<=d+b+(c+e):=by lia
theorem Rv:a+(b+1)<=1000000->a+1+b<=1000000:=fun u=>Ss (Ta (Nat.succ_add a b)) u
theorem Ru:0<=i/\i<41->i=(a:Int)->a<=1000:=fun u v=>Ss (SY (SW.mp (v ▸ u.2:(a:Int)<((41:Nat):Int)))) (by decide)
theorem Rt:a<=900->b<=a->0+b<=1000000:=fun u v=>Ss (Ta (Td b)) (Ss v (Ss u (by decide)))
theorem Rs:a<=900->b<=a->c<=b->c<=1000:=fun u v w=>Ss w (Ss v (Ss u (by decide)))
theorem Rr:a+(b+1)<=1000->a+1+b<=1000:=fun u=>Ss (Ta (Nat.succ_add a b)) u
theorem OP:a<=900->a<=1000:=fun u=>Ss u (by decide)
theorem Ro:a<=1000->0+a<=1000000:=fun u=>Ss (Ta (Td a)) (Ss u (by decide))
theorem Rn:a<b+1+c->a<b+(c+1):=fun u=>SK u (Ta (Nat.succ_add b c))
theorem Rm:0<=i/\i<12->i=(a:Int)->a<=1000:=fun u v=>Ss (SY (SW.mp (v ▸ u.2:(a:Int)<((12:Nat):Int)))) (by decide)
theorem Rl:¬a+1=0:=Nat.add_one_ne_zero a
theorem Rj:a<=8->(a:Int) - 1<2^250:=fun u=>ST (Int.sub_le_sub_right (SV.mpr u) 1) (by decide)
theorem Ri:0<=i/\i<40->1<=1+i/\1+i<=10^9:=fun u=>⟨Tg u.1,SS (Int.add_le_add_left (Ti u.2) 1) (by decide)⟩
theorem Rh:0<=i/\i<10^9->1<=1+i/\1+i<=10^9:=fun u=>⟨Tg u.1,by rw[Int.add_comm];exact Int.add_one_le_of_lt u.2⟩
theorem Rg:0<max 1 (a:Int):=SU (by decide) (Int.le_max_left _ _)
theorem Rf:a<=800->b<=a->max 1 (b:Int)<2^250:=fun u v=>Int.max_lt.mpr ⟨by decide,ST (SV.mpr (Ss v u)) (by decide)⟩
theorem Re:1<=i/\i<=4*10^29->i<10^30:=fun u=>ST u.2 (by decide)
theorem Rd:0<=i/\i<=500-> -1000<=min ((a:Int) - 2) i:=fun u=>Int.le_min.mpr ⟨SS (by decide:(-1000:Int)<=0 - 2) (Int.sub_le_sub_right (Tl a) 2),SS (by decide) u.1⟩
theorem Rc:a+(b+1)<=100->a+1+b<=100:=fun u=>Ss (Ta (Nat.succ_add a b)) u
theorem R7:a<64->0+a<=1000000:=fun u=>Ss (Ta (Td a)) (Ss (SY u) (by decide))
theorem Nb:a+1+b=a+(b+1):=Nat.succ_add_eq_add_succ a b
theorem Na: -2^62<i/\i<2^62-> -2^63<=i:=fun u=>SS (by decide) u.1
theorem M': -2^62<i/\i<2^62->i<2^63:=fun u=>SS u.2 (by decide)
theorem QJ:a=b->c<a->c<b:=fun u v=>u ▸ v
theorem MX:i.natAbs<2^64-> -2^64<i:=fun u=>Int.neg_lt_of_neg_lt (ST (Int.natAbs_neg i ▸ Int.le_natAbs) (SU (SW.mpr u) (by decide)))
theorem MV:i.natAbs<2^64->i<2^64:=fun u=>ST Int.le_natAbs (SU (SW.mpr u) (by decide))
theorem MS:a+64<b->c<=9->a+1+min c d<b:=fun u v=>SJ (Ss (S0 (Ss (Nat.min_le_left _ _) v) _) (S0 (by decide:10<=64) a)) u
theorem QI:¬((a+1:Nat):Int)<1:=of_decide_eq_false rfl
theorem QH:¬b<a->¬(b:Int)<(a:Int):=fun u v=>u (SW.mp v)
theorem QG:i<=(a:Int)->0<=j/\j<i->j.toNat<min i.toNat a:=fun u v=>Nat.lt_min.mpr ⟨(Int.toNat_lt v.1).mpr (SU v.2 (Int.self_le_toNat i)),(Int.toNat_lt v.1).mpr (SU v.2 u)⟩
theorem QF:((a:Int) - 0 - 1+1).toNat=a:=by rw[Int.sub_zero,Int.sub_add_cancel];rfl
theorem QE:¬0<(a:Int)->0=a:=fun u=>(Nat.eq_zero_of_not_pos fun q=>u (SW.mpr q)).symm
theorem QD:0<=i/\i<(a:Int)->i=(b:Int)->(b:Int)<=(a:Int):=fun u v=>v ▸ Ti u.2
theorem QC:0<=(a:Int)+1:=Int.zero_le_ofNat (a+1)
theorem QA:0<=i/\i<(a:Int)->i=(b:Int)->(b:Int)+1<=(a:Int):=fun u v=>Int.add_one_le_of_lt (v ▸ u.2)
theorem Qz:((a:Int)+1).toNat=a+1:=Int.toNat_natCast_add_one
theorem Qy:a<=11->1<=a+1/\a+1<=12:=fun u=>⟨Tj (SN a),Tj u⟩
theorem Qx:a<b->c<b->d<b->a≠c->a≠d->c≠d->3<=b:=fun u v w x y z=>(Nat.lt_or_gt_of_ne x).elim (fun p=>(Nat.lt_or_gt_of_ne z).elim (fun q=>c3 p q w) fun q=>(Nat.lt_or_gt_of_ne y).elim (fun r=>c3 r q v) fun r=>c3 r p v) fun p=>(Nat.lt_or_gt_of_ne y).elim (fun q=>c3 p q w) fun q=>(Nat.lt_or_gt_of_ne z).elim (fun r=>c3 r q u) fun r=>c3 r p u
theorem Qw:a<=b->c<=d->c+a<=b+d:=fun u v=>Ss (Nat.add_le_add v u) (Ta (Nat.add_comm d b))
theorem Qv:i=j->¬j<i:=fun u=>by subst u;exact Int.lt_irrefl _
theorem Qu:a+(b+1)<=40->a+1+b<=40:=fun u=>Ss (Ta (Nat.succ_add a b)) u
theorem Qt:a+(b+1)<=40->a+1<=1000:=fun u=>Ss (S0 (Tj (SN b)) a) (Ss u (by decide))
theorem Qs:0<=i/\i<41->i=(a:Int)->0+a<=40:=fun u v=>Ss (Ta (Td a)) (Tp (SW.mp (v ▸ u.2:(a:Int)<((41:Nat):Int))))
theorem Qr:0<=i/\i<41->i=(a:Int)->b<a->b<100:=fun u v w=>Th w (SK (SW.mp (v ▸ u.2:(a:Int)<((41:Nat):Int))) (by decide))
theorem Qq:a<=1000->a - 1<=100000:=fun u=>Ss (Nat.sub_le a 1) (Ss u (by decide))
theorem MR:a<b->b<=1000->a<=100000:=fun u v=>Ss (SY u) (Ss v (by decide))
theorem Qp:2<=a/\a<=60->0+a<=1000000:=fun u=>Ss (Ta (Td a)) (Ss u.2 (by decide))
theorem Qo:i<j->j<=i->False:=fun u v=>Int.not_le.mpr u v
theorem Qm:a<=900->0+a<=1000:=fun u=>by rw[Td];exact Ss u (Sp rfl)
theorem Ql:a<a+(b+1):=Nat.lt_add_of_pos_right (Nat.succ_pos _)
theorem Qk:0<= -1+((a+1:Nat):Int):=by rw[Int.natCast_add,Int.add_comm,Int.add_assoc];exact SS (Tl a) (Int.le_of_eq (Int.add_zero _).symm)
theorem MQ:(-1+((a+1:Nat):Int)).toNat=a:=by rw[Int.natCast_add,Int.add_comm,Int.add_assoc];exact congrArg Int.toNat (Int.add_zero _)
theorem Qj:a<a+1:=Nat.lt_succ_self a
theorem Qi:1+a=a+1:=Nat.add_comm 1 a
theorem Qh:0<=i/\i<99999 - j->j+1+i<=99999:=fun u=>by rw[Int.add_assoc,Int.add_comm 1 i,Int.add_comm j];exact Int.add_le_of_le_sub_right (Int.add_one_le_of_lt u.2)
theorem Qg:0<=i/\i<99999 - j->j<j+1+i:=fun u=>SU (Int.lt_succ j) (Tg u.1)
theorem Qf:min 99999 (i+1+j)<=99999:=Tk 99999 (i+1+j)
theorem Qe:i<99999->0<=j/\j<7->i<min 99999 (i+1+j):=fun u v=>Int.lt_min.mpr ⟨u,SU (Int.lt_succ i) (Tg v.1)⟩
theorem Qd:0<=i/\i<4*10^29->1+i<=4*10^29:=fun u=>by rw[Int.add_comm];exact Int.add_one_le_of_lt u.2
theorem Qc:0<=i/\i<(a:Int) - 1->1+i.toNat<a:=fun u=>by rw[Nat.add_comm];exact SW.mp (by rw[Int.natCast_add,SZ u.1];exact Int.add_lt_of_lt_sub_right u.2)
theorem Qb:0<=i/\i<(a:Int) - 1->1+i=((1+i.toNat:Nat):Int):=fun u=>by rw[Int.natCast_add,SZ u.1];rfl
theorem Qa:0<=i/\i<(a:Int)->i.toNat=b->1+i=(b:Int)+1:=fun u v=>by rw[<-v,SZ u.1,Int.add_comm]
theorem MP:a<=800->b<=a->c<b->c<=100000:=fun u v w=>Ss (SY w) (Ss v (Ss u (by decide)))
theorem MO:a<=60->0+a<=1000000:=fun u=>Ss (Ta (Td a)) (Ss u (by decide))
theorem P_:i+j=k->i+l=k+m->l - j=m:=fun u v=>by subst u;rw[Int.add_assoc] at v;rw[Int.add_left_cancel v,Int.add_comm,Int.add_sub_cancel]
theorem P9:0<i->j=i->j<=0->False:=fun u v w=>absurd (v ▸ w) (Int.not_le.mpr u)
theorem P8:i<j->k=i->j<=k->False:=fun u v w=>absurd (v ▸ w) (Int.not_le.mpr u)
theorem P7:0<=i/\i<(a:Int) - 1->1+i<(a:Int):=fun u=>by rw[Int.add_comm];exact Int.add_lt_of_lt_sub_right u.2
theorem P6:0<=i/\i<(a:Int)->0<=j/\j<(a:Int)->i.toNat=j.toNat->i≠j->False:=fun u v w x=>x (by rw[<-SZ u.1,w,SZ v.1])
theorem P5:0<=i->¬i=0->1<=i:=fun u v=>Int.lt_iff_le_and_ne.mpr ⟨u,fun h=>v h.symm⟩
theorem P0:0<=i/\i<3->(i - 1).natAbs<2^64:=fun u=>(Int.le_total 0 (i - 1)).elim (fun h=>nA h (Int.lt_trans (Int.sub_lt_sub_right u.2 1) (by decide))) fun h=>Int.natAbs_neg (i - 1) ▸ nA (Int.neg_nonneg_of_nonpos h) (by rw[Int.neg_sub];exact ST (Int.sub_le_self 1 u.1) (by decide))
theorem PZ:3*a+3=3*(a+1):=Eq.symm (Nat.mul_succ 3 a)
theorem PY:1<=i/\i<=4*10^29->j=0->0 - i - j≠0:=fun u v w=>by subst v;exact absurd (SS u.1 (Int.le_of_eq (Int.neg_eq_zero.mp (by rwa [Int.sub_zero,Int.zero_sub] at w)))) (by decide)
theorem PX:2<=a->2*b<=c->2*(b+1)<=c+a:=fun u v=>Nat.add_le_add v u
theorem PW:0<=i/\i<20->(1+i).toNat<=20:=fun u=>Int.toNat_le.mpr (by rw[Int.add_comm];exact Int.add_one_le_of_lt u.2)
theorem PU:0+a<=a:=Ta (Td _)
theorem PT:a<0->i+(a:Int)*3<j:=fun u=>absurd u (Nat.not_lt_zero a)
theorem PS:a+(b+1)<=100->a+1<=1000:=fun u=>Ss (S0 (Tj (SN b)) a) (Ss u (by decide))
theorem PR:b+(a+1)<=100->b+1<=1000:=fun u=>Ss (S0 (Tj (SN a)) b) (Ss u (by decide))
theorem PQ:0<=max 0 i:=Int.le_max_left _ _
theorem PL:0<=i->¬i=0->0<i:=fun u v=>Std.lt_of_le_of_ne u fun a=>v (id (Eq.symm a))
theorem PJ: -10^30<i->i<10^30->i.natAbs<=10^30:=fun u v=>(Int.le_total 0 i).elim (fun h=>SY (nA h (SU v (by decide)))) fun h=>SY (Int.natAbs_neg i ▸ nA (Int.neg_nonneg_of_nonpos h) (SU (Int.neg_lt_of_neg_lt u) (by decide)))
theorem PD:¬0<=i->0<=i+(a:Int)->(i+(a:Int)).toNat<a:=fun u v=>(Int.toNat_lt v).mpr (by have:=Int.add_lt_add_right (Int.not_le.mp u) (a:Int);rwa [Int.zero_add] at this)
theorem PC:i<0->i+(a:Int)<=(a:Int):=fun u=>SS (Int.add_le_add_right (Ti u) a) (Int.le_of_eq (Int.zero_add _))
theorem PB:((a:Int)+(b:Int)*1).toNat=a+b:=by rw[Int.mul_one];exact Int.toNat_natCast (a+b)
theorem PA:1≠a+1+1:=Nat.ne_of_beq_eq_false rfl
theorem Pz:a+(b+1)<=7->c<b->a+(c+1)<7:=fun u v=>SK (Nat.add_lt_add_left (Nat.succ_lt_succ v) a) u
theorem Py:a+(b+1)<=7->a+1+b<=7:=fun u=>Ss (Ta (Nat.succ_add a b)) u
theorem Px:a+0<a+(b+1):=Nat.add_lt_add_left (Nat.succ_pos b) a
theorem Pu:a=b->b<=7->0+a<=7:=fun u v=>Ss (Ta ((Td a).trans u)) v
theorem Ps:a=b->b<=7->c<0+a->c<7:=fun u v w=>SK w (Ss (Ta ((Td a).trans u)) v)
theorem Pq:a+8*b+150<c->a+1+8*b+144<c:=fun u=>by rw[Nat.add_right_comm a 1];exact SJ (S0 (by decide:145<=150) _) u
theorem Pp:a+64*b+1000<c->d<=a+10->d+64*b+945<c:=fun u v=>SJ (Ss (Nat.add_le_add_right (Nat.add_le_add_right v _) _) (by rw[Nat.add_right_comm a 10];exact S0 (by decide:955<=1000) _)) u
theorem Po:a<7->a=b->c=b->d<0+c->d<7:=fun u v w x=>by subst v;subst w;rw[Td] at x;exact Th x u
theorem Pn:a=b->c=b->d<0+c->d=a->False:=fun u v w x=>by rw[x,v,u,Td] at w;exact S4 _ w
theorem Pm:a<7->a=b->c=b->c<=999:=fun u v w=>by subst v;subst w;exact Ss (SY u) (by decide)
theorem Pk:a<7->a=b->b<=6:=fun u v=>v ▸ Tp u
theorem Pj:i<j->0<=j - i - 1:=fun u=>Int.sub_nonneg_of_le (Int.le_sub_left_of_add_le (by exact u))
theorem Pi: -2^63<=(a:Int):=Int.neg_ofNat_le_natCast (2^63) a
theorem Ph:(a:Int) - ((b:Int)+1)=(a:Int) - (b:Int) - 1:=Eq.symm (Int.sub_sub (↑a) (↑b) 1)
theorem Pg:a=b->(a:Int) - (b:Int)<=0:=fun u=>by rw[u,Int.sub_self];exact Int.le_refl 0
theorem Pe:a+8*(b+1)+144<c->a<c:=fun u=>SJ (Ss (Tf a _) (Tf _ 144)) u
theorem Pd:a+8*(b+1)+144<c->a+1+8*b+150<c:=fun u=>SJ (by rw[Nat.mul_succ,<-Nat.add_assoc,Nat.add_right_comm a 1];exact S0 (by decide:151<=152) _) u
theorem Pc:a+64*(b+1)+945<c->a+3+64*b+1000<c:=fun u=>SJ (by rw[Nat.mul_succ,<-Nat.add_assoc,Nat.add_right_comm a 3];exact S0 (by decide:1003<=1009) _) u
theorem Pb:a+8*(b+1)+144<c->a+1+8*b+151<c:=fun u=>SJ (by rw[Nat.mul_succ,<-Nat.add_assoc,Nat.add_right_comm a 1];exact Sv _) u
theorem O':a+64*(b+1)+945<c->a+3+64*b+1005<c:=fun u=>SJ (by rw[Nat.mul_succ,<-Nat.add_assoc,Nat.add_right_comm a 3];exact S0 (by decide:1008<=1009) _) u
theorem O9:a+b<=1048576->c<=a+d->d<=b*15->c<=2^24:=fun u v w=>Ss v (Ss (Nat.add_le_add (Ss (Tf a b) u) (Ss w (Nat.mul_le_mul_right 15 (Ss (Nat.le_add_left b a) u)))) (by decide))
theorem O7:a<=50->b=300->1+b+8*(a+1)+144<1000:=fun u v=>by subst v;exact SJ (Nat.add_le_add_right (S0 (To 8 (Tj u)) _) _) (by decide)
theorem O6:b<a+2->b<a+c+2:=fun u=>SK u (Nat.add_le_add_right (Tf a c) 2)
theorem O5:1<((a+1+1:Nat):Int):=Int.compare_eq_gt.mp rfl
theorem O4:0<((a+1:Nat):Int):=Int.ofNat_succ_pos a
theorem O3:a+b+2<=2^27->(c:Int)+(d:Int)>((2^27:Nat):Int)->c<=a+1->d<=b+1->False:=fun u v w x=>absurd (SW.mp v) (Tm.mpr (Ss (Nat.add_le_add w x) (Ss (Ta (Nat.add_add_add_comm a 1 b 1)) u)))
theorem O2:¬(a:Int)+1=0:=Int.ne_of_gt (Int.lt_add_one_of_le (Tl a))
theorem O1:a+64*b+1000<c->a+64<c:=fun u=>SJ (Nat.add_le_add (Tf a _) (by decide)) u
theorem MM:a+(b+1)<=c->a+1+b<=c:=fun u=>Ss (Ta (Nat.succ_add a b)) u
theorem O0:0<i->i<2^250->i.natAbs<2^250:=fun u v=>Int.natAbs_lt_natAbs_of_nonneg_of_lt (b:=2^250) (Ti u) v
theorem OZ:a=b->¬a<b:=fun u=>u ▸ S4 a
theorem OY:¬(0<=i/\i<=99999)->¬i<0->99999<i:=fun u v=>Int.not_le.mp fun q=>u ⟨Tn.mp v,q⟩
theorem OX:((a+1:Nat):Int)+1 - 2=(a:Int):=(congrArg (· - 2) (Int.add_assoc (a:Int) 1 1)).trans (Int.add_sub_cancel (a:Int) 2)
theorem OW:1<((a+1:Nat):Int)+1:=Int.lt_add_of_pos_left 1 (Int.natCast_pos.mpr (Nat.succ_pos a))
theorem OV:(a:Int)<(a:Int)+1:=Int.lt_add_one_of_le (Int.le_refl _)
theorem OU:a<=b+1->a=c+1->c+1<=b+1+1:=fun u v=>SM (v ▸ u)
theorem OT:a - b=c+1->a=b+1+c:=fun u=>((Nat.sub_eq_iff_eq_add (SY (Nat.lt_of_sub_pos (u ▸ Nat.succ_pos c)))).mp u).trans (by rw[Nat.add_comm,Nat.add_comm c,Nat.add_assoc])
theorem OS:b+1<=b+1+a:=Tf _ _
theorem OR:¬((a+1+1:Nat):Int)<2:=Tn.mpr (SV.mpr (Nat.le_add_left 2 a))
theorem OQ:((a+1+1:Nat):Int) - 1=((1+a:Nat):Int):=(Int.add_sub_cancel ((a+1:Nat):Int) 1).trans (congrArg Int.ofNat (Nat.add_comm _ _))
theorem OO:1<=1+a:=Tf _ _
theorem ON:1+a<=a+1+b:=Ss (Ta (Nat.add_comm _ _)) (Tf _ _)
theorem OM:a=3->a<=32:=fun u=>by subst u;decide
theorem OL:0<=i->i<=99999->i.natAbs<10^31:=fun u v=>SK (nA (b:=100000) u (Int.lt_add_one_of_le v)) (by decide)
theorem OK:1<=i/\i<=10^9->i.natAbs<10^31:=fun u=>SK (nA (b:=1000000001) (SS (by decide) u.1) (Int.lt_add_one_of_le u.2)) (by decide)
theorem Ho:a<=60->((a:Int)).natAbs<10^31:=fun u=>SJ (show a<=60 from u) (by decide)
theorem KE:1<=i/\i<=1000->i.natAbs<10^31:=fun u=>SK (nA (b:=1001) (SS (by decide) u.1) (Int.lt_add_one_of_le u.2)) (by decide)
theorem ML:a+b+1<=7->a<=6:=fun u=>Nat.le_of_succ_le_succ (Ss (Tj (Tf _ _)) u)
theorem OJ:a+1<=a+b+1:=Tj (Tf _ _)
theorem OI:0<a->0<= -1+(a:Int):=fun u=>Int.add_le_add_left (c:= -1) (SV.mpr u)
theorem OH:(-1+(a:Int)).toNat=a - 1:=by cases a with|zero=>rfl|succ q=>exact (congrArg Int.toNat (Int.neg_add_cancel_left 1 (q:Int) ▸ (congrArg (fun z=>(-1:Int)+z) (Int.add_comm (q:Int) 1)))).trans (Int.toNat_natCast q)
theorem Nc:¬i<0->0<=i:=Tn.mp
theorem M_:0<=i/\i<12->i=(a:Int)->b=a->b<=11:=fun u v w=>Tp (w ▸ SW.mp (v ▸ u.2))
theorem M9:1<=(a:Int)+1:=Int.add_le_add_right (Tl a) 1
theorem Js:0<a+1:=Nat.succ_pos _
theorem M8:7<=i/\i<=500->i+(a:Int)*3=((i.toNat+a*3:Nat):Int):=fun u=>congrArg (· +(a:Int)*3) (SZ (SS (by decide) u.1)).symm
theorem M7:a=b+1+(c+d)->b+1+c<=a:=fun u=>u ▸ S0 (Tf _ _) _
theorem M6:a<=9000->a=b+1+(c+d)->b<=100000:=fun u v=>Ss (Ss (Ss (S5 _) (Tf _ _)) (v ▸ u)) (Sp rfl)
theorem EK:a<=54->b<=61*a->b+1+1<=10000:=fun u v=>Ss (Nat.add_le_add_right (Nat.add_le_add_right (Ss v (To _ (u))) _) _) (Sp rfl)
theorem M5:a+61*(b+1)<=4000->c<=61->a+c+61*b<=4000:=fun u v=>by rw[Nat.mul_succ] at u;exact Ss (Ss (Ta (Nat.add_right_comm ..)) (S0 v _)) (Ss (Ta (Nat.add_assoc ..)) u)
theorem M4: -1<=i->min 99999 (i+1)=j->0<=j/\j<=99999:=fun u v=>v ▸ ⟨Int.le_min.mpr ⟨by decide,Int.add_le_add_right u 1⟩,Tk _ _⟩
theorem M3:a<b->0<= -1+(b:Int):=fun u=>Int.add_le_add_left (c:= -1) (SV.mpr (SJ (SN _) u))
theorem M2:a<=b->b=c->c<=7*8->a<64:=fun u v w=>SJ (Ss u (Ss (Ta v) (w))) (SK (Nat.lt_succ_self _) (Sp rfl))
theorem M1:60*a<=60*(a+1):=Tf _ _
theorem Jq:a<64->0+a<=100:=fun u=>Ss (S0 (Tp u) _) (Sp rfl)
theorem M0:2*(a+1)+1<=b+2->2*a+1<=b+1:=fun u=>SM (Nat.le_of_add_le_add_right (b:=2) u)
theorem MZ:2*(a+1)+1<=b+2->2*a+1<=b:=fun u=>Nat.le_of_add_le_add_right (b:=2) u
theorem Jp:0<i->i.toNat<a->(0<i->0<j/\j<=i)->j.toNat<a:=fun u v w=>SJ (Int.toNat_le_toNat (w u).2) v
theorem Jo:0<max 0 i+1:=Int.lt_add_one_of_le (Int.le_max_left _ _)
theorem MY:min 3 a<=3:=Nat.min_le_left _ _
theorem MW:a<=63->(a:Int) / 3<=21/\0<=(a:Int) / 3:=fun u=>⟨SV.mpr (Nat.div_le_div_right (c:=3) u),Tl (a / 3)⟩
theorem MU:0<=i/\i<1+j->7+3*i=k->0<=k:=fun u v=>v ▸ SS (by decide) (Int.add_le_add_left (Int.mul_le_mul_of_nonneg_left u.1 (by decide)) 7)
theorem Jn:0<=i/\i<1+j->j<=21/\0<=j->7+3*i=k->k<=500:=fun u w v=>v ▸ SS (Int.add_le_add_left (Int.mul_le_mul_of_nonneg_left (SS (Ti u.2) (Int.add_le_add_left w.1 1)) (by decide)) 7) (by decide)
theorem MT:0<=i/\i<1+j->7+3*i=k->7<=k:=fun u v=>v ▸ Tg (Int.mul_nonneg (by decide) u.1)
end
inductive D where
 |none
 |bool (b:Bool)
 |int (i:Int)
 |str (s:List Nat)
 |tup (l:List D)
 |lst (l:List D)
 |dct (ks vs:List D)
 |rng (a b c:Int)
 |exc (c:Nat)
inductive PV where
 |d (x:D)
 |p (n j:Nat)
 /-- a list of the class's object at n and of data -/
 |b (n:Nat) (x:D)
inductive cU where
 |d (x:D)
 |list (l:List D)
 |dict (ks vs:List D)
inductive PO where
 |fld (f:cU)
 |rcd (i:Bool) (l:List cU)
 |dead
 |wrp (f:cU)
noncomputable abbrev az:=List PO
noncomputable abbrev bg:=List (Option PV)
inductive R (α:Type) where
 |ok (a:α)
 |ex (c:Nat)
noncomputable abbrev PM (α:Type):=az->Option (R α×az)
inductive Out where
 |next (ρ:bg)
 |ret (v:PV)
 |ex (c:Nat) (ρ:bg)
section
variable {α β:Type}
noncomputable def ret (a:α):PM α:=fun σ=>some (.ok a,σ)
noncomputable def xJ (f:α->PM β):Option (R α×az)->Option (R β×az)
 |some (.ok a,σ)=>f a σ
 |some (.ex c,σ)=>some (.ex c,σ)
 |none=>none
noncomputable def bW (m:PM α) (f:α->PM β):PM β:=fun σ=>xJ f (m σ)
noncomputable def Hm (o:Option α):PM α:=fun σ=>o.map fun a=>(.ok a,σ)
def Wp (K:R α->az->Prop):Option (R α×az)->Prop
 |some (r,σ)=>K r σ
 |none=>False
def bK (K:R β->az->Prop) (f:α->PM β):R α->az->Prop
 | .ok a,σ=>Wp K (f a σ)
 | .ex c,σ=>K (.ex c) σ
theorem aR {K:R β->az->Prop} {f:α->PM β}:∀ {o:Option (R α×az)},Wp K (xJ f o)->Wp (bK K f) o
 |none,h=>h
 |some (.ok _,_),h=>h
 |some (.ex _,_),h=>h
theorem gI {K:R α->az->Prop} {σ:az}:∀ {o:Option α},Wp K (o.map fun a=>(.ok a,σ))->∃ a,o=some a/\K (.ok a) σ
 |none,h=>h.elim
 |some a,h=>⟨a,rfl,h⟩
end
noncomputable def dM:Nat:=2^24
noncomputable def cU.toD:cU->D
 | .d x=>x
 | .list l=>.lst l
 | .dict ks vs=>.dct ks vs
noncomputable def PO.at:PO->Nat->Option cU
 | .fld f,0=>some f
 | .rcd _ l,j+2=>l[j]?
 | .wrp f,2=>some f
 |_,_=>none
noncomputable def PO.put:PO->Nat->cU->PO
 | .fld _,_,f=>.fld f
 | .rcd i l,j,f=>.rcd i (l.set (j - 2) f)
 | .dead,_,_=>.dead
 | .wrp _,_,f=>.wrp f
noncomputable def ck (σ:az) (n j:Nat):Option cU:=(σ[n]?).bind fun o=>o.at j
noncomputable def dH (σ:az) (n j:Nat) (f:cU):az:=match σ[n]? with
 |some o=>σ.set n (o.put j f)
 |none=>σ
noncomputable def cU.rd:cU->Option D
 | .d _=>none
 | .list l=>some (.lst l)
 | .dict ks vs=>some (.dct ks vs)
noncomputable def rd (σ:az):PV->Option D
 | .d x=>some x
 | .p n j=>(ck σ n j).bind cU.rd
 | .b _ _=>none
noncomputable def j7:PV->Option D
 | .d x=>some x
 |_=>none
noncomputable def sL:List PV->Option (List D)
 |[]=>some []
 |v::r=>(j7 v).bind fun x=>(sL r).map (x::·)
noncomputable def iW (o:PO):PM PV:=fun σ=>some (.ok (.p σ.length 0),σ++[o])
set_option genCtorIdx false
structure cG where
 Φ:Bool->Nat->List PV->PM PV
 hd:Bool
noncomputable def cG.up (K:cG):cG:=⟨K.Φ,true⟩
noncomputable def g9 (a b:Int):Bool:=decide (a.natAbs<2^64)||decide (b.natAbs<2^64)||decide (a.natAbs.log2+b.natAbs.log2+2<=2^27)
noncomputable def jJ (b:Int):Bool:=b !=0&&decide (b.natAbs<2^9000)
noncomputable def bS (i:Int):Bool:=decide (-(2^62)<i)&&decide (i<2^62)
noncomputable def cg (i:Int) (n:Nat):Option Nat:=
 if 0<=i then (if i<n then some i.toNat else none) else if 0<=i+n then some (i+n).toNat else none
noncomputable def dm (i:Int) (n:Nat):Nat:=if i<0 then (i+n).toNat else min i.toNat n
noncomputable def bJ {α:Type} (l:List α) (lo hi:Nat):List α:=(l.drop lo).take (hi - lo)
noncomputable def iD:D->Option Int
 | .int i=>some i
 |_=>none
noncomputable def bD:D->Option Bool
 | .bool b=>some b
 |_=>none
noncomputable def sD:D->Option (List Nat)
 | .str s=>some s
 |_=>none
noncomputable def tD:D->Option (List D)
 | .tup l=>some l
 |_=>none
noncomputable def lD:D->Option (List D)
 | .lst l=>some l
 |_=>none
noncomputable def au {α:Type} (c:Prop) [Decidable c] (a:α):Option α:=if c then some a else none
noncomputable def xo:D->Bool
 | .int _=>true
 | .str _=>true
 |_=>false
noncomputable def cD (a b c:Int):Nat:=if a<b then ((b - a - 1) / c+1).toNat else 0
noncomputable def items:D->Option (List D)
 | .tup l=>some l
 | .lst l=>au (l.length<=dM) l
 | .str s=>au (s.length<=dM) (s.map fun c=>.str [c])
 | .rng a b c=>au ((bS a&&bS b&&decide (0<c)&&decide (c<1000)&&decide (cD a b c<=100000))=true) ((List.range (cD a b c)).map fun (i:Nat)=>.int (a+(i:Int)*c))
 | .dct ks _=>au (ks.length<=100000/\ks.all xo=true) ks
 |_=>none
open Classical in
noncomputable def bI (σ:az) (x:D):PV->Bool
 | .d _=>true
 |v=>decide (rd σ v=some x)
noncomputable def dq (v:PV) (x:D) (i:Nat) (body:bg->az->Option (Out×az)):List D->bg->az->Option (Out×az)
 |[],ρ,σ=>some (.next ρ,σ)
 |y::r,ρ,σ=>match body (ρ.set i (some (.d y))) σ with
  |some (.next ρ',σ')=>if bI σ' x v then dq v x i body r ρ' σ' else none
  |z=>z
noncomputable def dJ (v:PV) (x:D) (i:Nat) (test:bg->PM Bool) (cq:bg->PM PV) (ρ:bg):List D->List D->PM (List D)
 |[],acc=>ret acc
 |y::r,acc=>fun σ=>match test (ρ.set i (some (.d y))) σ with
  |some (.ok false,σ')=>if bI σ' x v then dJ v x i test cq ρ r acc σ' else none
  |some (.ok true,σ')=>(match cq (ρ.set i (some (.d y))) σ' with
   |some (.ok (.d z),σ'')=>if bI σ'' x v/\acc.length<dM then dJ v x i test cq ρ r (acc++[z]) σ'' else none
   |some (.ex c,σ'')=>some (.ex c,σ'')
   |_=>none)
  |_=>none
noncomputable def b8 {α:Type} (ρ:bg) (m:PM α) (k:α->az->Option (Out×az)):az->Option (Out×az):=fun σ=>match m σ with
 |some (.ok v,σ')=>k v σ'
 |some (.ex n,σ')=>some (.ex n ρ,σ')
 |none=>none
noncomputable def nv (z:Option (Out×az)) (k:bg->az->Option (Out×az)):Option (Out×az):=match z with
 |some (.next ρ,σ)=>k ρ σ
 |z=>z
noncomputable def Cd (keep:Bool) (n:Nat) (σ:az):Nat->Option PO->Option (R PV×az)
 |0,some (.fld f)=>(match keep with
  |false=>some (.ok (.d f.toD),σ.take n)
  |true=>some (.ok (.p n 0),σ.take n++[.fld f]))
 |0,some o=>some (.ok (.p n 0),σ.take n++[o])
 |_,_=>none
noncomputable def G_ (n:Nat) (σ:az) (x:D):Option PO->Option (R PV×az)
 |some (.rcd true l)=>some (.ok (.b n x),σ.take n++[.rcd true l])
 |_=>none
noncomputable def Kk (keep:Bool) (n:Nat):PV->az->Option (R PV×az)
 | .d x,σ=>some (.ok (.d x),σ.take n)
 | .p m j,σ=>if m<n then some (.ok (.p m j),σ.take n) else Cd keep n σ j σ[m]?
 | .b m x,σ=>if m<n then none else G_ n σ x σ[m]?
noncomputable def FQ (keep:Bool) (n:Nat):Option (Out×az)->Option (R PV×az)
 |some (.next _,σ')=>some (.ok (.d .none),σ'.take n)
 |some (.ret v,σ')=>Kk keep n v σ'
 |some (.ex c _,σ')=>some (.ex c,σ'.take n)
 |none=>none
end Mine.Internal
namespace Mine.Internal
open PySem PyProof.Rows
variable {a:Addr} {o:Obj} {v:Value} {c:Const} {j n n' t:Nat} {G:List (Addr×Obj)} {e z:Expr} {σ:az} {α:Type} {po:PO}
structure Fm where
 L:Addr
 m:Str->Option Value
 cells:List Addr
 cv:Addr->Option Value
noncomputable def Fm.adr (f:Fm):List Addr:=f.L::f.cells
def Fm.like (f g:Fm):Prop:=g.L=f.L/\g.cells=f.cells
theorem Fm.like.refl (f:Fm):f.like f:=⟨rfl,rfl⟩
theorem Fm.like.trans {f g k:Fm} (a:f.like g) (b:g.like k):f.like k:=⟨b.1.trans a.1,b.2.trans a.2⟩
structure PF where
 params:Nat
 slots:Nat
 keep:Bool
 body:cG->bg->az->Option (Out×az)
noncomputable def Kh (K:cG) (f:PF) (args:List PV):PM PV:=fun σ=>
 if args.length=f.params then FQ f.keep σ.length (f.body K (args.map some++List.replicate (f.slots - f.params) none) σ) else none
noncomputable def kB (T:Nat->Option PF):Nat->Bool->Nat->List PV->PM PV
 |0,_,_,_=>fun _=>none
 |d+1,hd,f,args=>match T f with
  |some pf=>Kh ⟨kB T d,hd⟩ pf args
  |none=>fun _=>none
structure xY where
 c:Addr
 P:Addr
 pos:Pos
 qual:Str
structure bH where
 prog:Program
 w:World
 H:Heap
 book:Addr
 exc:Nat->Addr
 K:List (Addr×Obj)
 mg:Str->Option Value
 mb:Str->Option Value
 fnm:Nat->Str×Bool
 fadr:Nat->Addr
 att:Nat->Str
 key:Nat->Str
 gls:List (Str×(Option Int×List Nat))
 T:Nat->Option PF
 lam:Option xY
variable {C:bH}
noncomputable abbrev bH.M (C:bH):Model:=model C.prog C.w
noncomputable abbrev cy (vs:List Value) (n:Nat):Obj:={cls:=.type "tuple",data:=.seq vs.toArray n}
noncomputable abbrev aU (vs:List Value) (n:Nat):Obj:={cls:=.type "list",data:=.seq vs.toArray n}
structure Op where
 n:Nat
 d:Option Addr
 sl:Array (Option Value)
noncomputable abbrev uz (vs:List Value) (r:Op):Obj:={cls:=.type "list",dict:=r.d,data:=.seq vs.toArray r.n,slots:=r.sl}
noncomputable abbrev El (a b c:Int) (t u v:Tok):Obj:={cls:=.type "range",data:=.fields #[.int a t,.int b u,.int c v]}
noncomputable abbrev mU (c d:Addr):Obj:={cls:=.ref c,dict:=some d,data:=.plain}
noncomputable abbrev d6 (es:List DictEntry) (n:Nat):Obj:={cls:=.type "dict",data:=.dict es.toArray n}
set_option genCtorIdx true in
inductive cS where
 |no
 |fz (o:Obj)
 |cell (n j:Nat)
 |gh
 |fr
variable {x:cS}
noncomputable abbrev bE:=Addr->cS
variable {w:bE}
def jb (s:List Nat):Prop:=(∀ c∈s,c<0x110000)/\s.length<=dM
noncomputable abbrev cA (s:List Nat):Str:=⟨s.toArray⟩
structure KD (C:bH) where
 K:Type
 dec:DecidableEq K
 knd:KeyKind C.prog C.w K
 toD:K->D
 ok:K->Prop
inductive xZ (C:bH):KD C->Prop
 |str:xZ C ⟨Str,inferInstance,strKind C.prog C.w,fun s=>.str s.cps.toList,fun s=>jb s.cps.toList⟩
 |int:xZ C ⟨Int,inferInstance,intKind C.prog C.w,fun i=>.int i,fun _=>True⟩
def nZ (C:bH) (w:bE) (ks:List Str) (a:Addr):Prop:=∃ vs n,w a= .fz (cy vs n)/\ItemsAre (strKind C.prog C.w) ks vs/\ks.length=2/\∀ s∈ks,jb s.cps.toList
noncomputable def rW (ks:List Str):D:=.tup (ks.map fun s=>.str s.cps.toList)
inductive fC (C:bH) (w:bE) (o:Obj) (ks:List D) (vs:List Value):Prop
 |mk (k:KD C) (l:List (k.K×Value)):xZ C k->(letI:=k.dec;o.IsDictOf k.knd l)->ks=l.map (fun p=>k.toD p.1)->vs=l.map (·.2)->(∀ p∈l,k.ok p.1)->fC C w o ks vs
 |pr (xs:List (List Str×Addr×Value)) (es:Array DictEntry) (ep:Nat):o.ExactDict->o.data= .dict es ep->es.toList=xs.map (entryOfKey (tupleKind (strKind C.prog C.w)))->(∀ x∈xs,nZ C w x.1 x.2.1)->(xs.map (·.1)).Nodup->ks=xs.map (fun x=>rW x.1)->vs=xs.map (·.2.2)->xs≠[]->fC C w o ks vs
mutual
inductive RD (C:bH) (w:bE):D->Value->Prop
 |none:RD C w .none .none
 |bool (b:Bool):RD C w (.bool b) (.bool b)
 |int (i:Int) (t:Tok):RD C w (.int i) (.int i t)
 |str (s:List Nat) (t:Tok):jb s->RD C w (.str s) (.str (cA s) t)
 |tup {a:Addr} {vs:List Value} {n:Nat} {ps:List D}:w a= .fz (cy vs n)->RDs C w ps vs->RD C w (.tup ps) (.ref a)
 |lst {a:Addr} {vs:List Value} {n:Op} {ps:List D}:w a= .fz (uz vs n)->RDs C w ps vs->RD C w (.lst ps) (.ref a)
 |dct {a:Addr} {o:Obj} {vs:List Value} {ks ps:List D}:w a= .fz o->fC C w o ks vs->RDs C w ps vs->RD C w (.dct ks ps) (.ref a)
 |rng {r:Addr} (a b c:Int) (t u v:Tok):w r= .fz (El a b c t u v)->RD C w (.rng a b c) (.ref r)
 |exc {a:Addr} {o:Obj} {c:Nat} (vs:Array Value):w a= .fz o->o.cls= .ref (C.exc c)->o.data= .fields vs->RD C w (.exc c) (.ref a)
inductive RDs (C:bH) (w:bE):List D->List Value->Prop
 |nil:RDs C w [] []
 |cons {p:D} {v:Value} {ps:List D} {vs:List Value}:RD C w p v->RDs C w ps vs->RDs C w (p::ps) (v::vs)
end
section
variable {w':bE}
abbrev Fz (w w':bE):Prop:=∀ a o,w a= .fz o->w' a= .fz o
theorem nZ.ext (x:Fz w w') {ks:List Str}:nZ C w ks a->nZ C w' ks a
 |⟨vs,n,h,r⟩=>⟨vs,n,x _ _ h,r⟩
theorem fC.ext (x:Fz w w') {ks:List D} {vs:List Value}:fC C w o ks vs->fC C w' o ks vs
 | .mk k l a b c d e=>.mk k l a b c d e
 | .pr xs es ep a b c d e f g h=>.pr xs es ep a b c (fun y hy=>(d y hy).ext x) e f g h
theorem RD.ext (x:Fz w w') {p:D} (h:RD C w p v):RD C w' p v:=
 RD.rec (motive_1:=fun p v _=>RD C w' p v) (motive_2:=fun p v _=>RDs C w' p v) .none .bool .int .str (fun h _ r=>.tup (x _ _ h) r) (fun h _ r=>.lst (x _ _ h) r) (fun h d _ r=>.dct (x _ _ h) (d.ext x) r) (fun a b c t u v h=>.rng a b c t u v (x _ _ h)) (fun vs h a b=>.exc vs (x _ _ h) a b) .nil (fun _ _ h r=>.cons h r) h
theorem RDs.ext (x:Fz w w') {p:List D} {v:List Value} (h:RDs C w p v):RDs C w' p v:=
 RDs.rec (motive_1:=fun p v _=>RD C w' p v) (motive_2:=fun p v _=>RDs C w' p v) .none .bool .int .str (fun h _ r=>.tup (x _ _ h) r) (fun h _ r=>.lst (x _ _ h) r) (fun h d _ r=>.dct (x _ _ h) (d.ext x) r) (fun a b c t u v h=>.rng a b c t u v (x _ _ h)) (fun vs h a b=>.exc vs (x _ _ h) a b) .nil (fun _ _ h r=>.cons h r) h
inductive kg {ι:Type} (C:bH) (w:bE) (mk:List Value->ι->Obj) (ps:List D):Value->Prop
 |mk {a:Addr} {vs:List Value} {n:ι}:w a= .fz (mk vs n)->RDs C w ps vs->kg C w mk ps (.ref a)
inductive I0 (C:bH) (w:bE) (ks ps:List D):Value->Prop
 |mk {a:Addr} {o:Obj} {vs:List Value}:w a= .fz o->fC C w o ks vs->RDs C w ps vs->I0 C w ks ps (.ref a)
inductive L9 (w:bE) (a b c:Int):Value->Prop
 |mk {r:Addr} (t u v:Tok):w r= .fz (El a b c t u v)->L9 w a b c (.ref r)
inductive N9 (C:bH) (w:bE) (c:Nat):Value->Prop
 |mk {a:Addr} {o:Obj}:w a= .fz o->o.cls= .ref (C.exc c)->N9 C w c (.ref a)
def N1 (C:bH) (w:bE) (v:Value):D->Prop
 | .none=>v= .none
 | .bool b=>v= .bool b
 | .int i=>∃ t,v= .int i t
 | .str s=>jb s/\∃ t,v= .str (cA s) t
 | .tup ps=>kg C w cy ps v
 | .lst ps=>kg C w uz ps v
 | .dct ks ps=>I0 C w ks ps v
 | .rng a b c=>L9 w a b c v
 | .exc c=>N9 C w c v
theorem RD.view {p:D} (h:RD C w p v):N1 C w v p:=by
 cases h with
 |none=>rfl
 |bool b=>rfl
 |int i t=>exact ⟨t,rfl⟩
 |str s t h=>exact ⟨h,t,rfl⟩
 |tup h r=>exact .mk h r
 |lst h r=>exact .mk h r
 |dct h d r=>exact .mk h d r
 |rng a b c t u v h=>exact .mk t u v h
 |exc vs h a b=>exact .mk h a
inductive dF (C:bH) (w:bE) (p:D) (ps:List D):List Value->Prop
 |mk {v:Value} {vs:List Value}:RD C w p v->RDs C w ps vs->dF C w p ps (v::vs)
def N0 (C:bH) (w:bE) (vs:List Value):List D->Prop
 |[]=>vs=[]
 |p::ps=>dF C w p ps vs
theorem RDs.view {ps:List D} {vs:List Value} (h:RDs C w ps vs):N0 C w vs ps:=by
 cases h with
 |nil=>rfl
 |cons h r=>exact .mk h r
theorem RDs.length:∀ {ps:List D} {vs:List Value},RDs C w ps vs->vs.length=ps.length:=by
 intro ps
 induction ps with
 |nil=>
  intro vs h;rw[show vs=[] from h.view];rfl
 |cons p ps ih=>
  intro vs h;obtain ⟨_,r⟩:dF C w p ps vs:=h.view;exact congrArg Nat.succ (ih r)
theorem RDs.append:∀ {ps qs:List D} {vs ws:List Value},RDs C w ps vs->RDs C w qs ws->RDs C w (ps++qs) (vs++ws):=by
 intro ps
 induction ps with
 |nil=>
  intro _ vs _ h k;rw[show vs=[] from h.view];exact k
 |cons p ps ih=>
  intro _ vs _ h k;obtain ⟨h1,r⟩:dF C w p ps vs:=h.view;exact .cons h1 (ih r k)
theorem RDs.get:∀ {ps:List D} {vs:List Value},RDs C w ps vs->∀ {k:Nat} {p:D},ps[k]? =some p->∃ v,vs[k]? =some v/\RD C w p v:=by
 intro ps
 induction ps with
 |nil=>
  intro _ _ _ _ e;exact nomatch e
 |cons p ps ih=>
  intro vs h k q e;obtain ⟨h1,r⟩:dF C w p ps vs:=h.view;cases k with
  |zero=>cases e;exact ⟨_,rfl,h1⟩
  |succ k=>exact ih r (k:=k) e
theorem RDs.set:∀ {ps:List D} {vs:List Value},RDs C w ps vs->∀ {k:Nat} {p:D} {v:Value},RD C w p v->RDs C w (ps.set k p) (vs.set k v):=by
 intro ps
 induction ps with
 |nil=>
  intro vs h _ _ _ _;rw[show vs=[] from h.view];exact .nil
 |cons p ps ih=>
  intro vs h k q v e;obtain ⟨h1,r⟩:dF C w p ps vs:=h.view;cases k with
  |zero=>exact .cons e r
  |succ k=>exact .cons h1 (ih r e)
theorem RDs.drop:∀ {ps:List D} {vs:List Value},RDs C w ps vs->∀ k:Nat,RDs C w (ps.drop k) (vs.drop k)
 |ps,vs,h,0=>h
 |[],vs,h,k+1=>by rw[show vs=[] from h.view];exact .nil
 |p::ps,vs,h,k+1=>by
  obtain ⟨h,r⟩:dF C w p ps vs:=h.view;exact r.drop k
theorem RDs.take:∀ {ps:List D} {vs:List Value},RDs C w ps vs->∀ k:Nat,RDs C w (ps.take k) (vs.take k)
 |ps,vs,h,0=>.nil
 |[],vs,h,k+1=>by rw[show vs=[] from h.view];exact .nil
 |p::ps,vs,h,k+1=>by
  obtain ⟨h1,r⟩:dF C w p ps vs:=h.view;exact .cons h1 (r.take k)
end
def RF (C:bH) (w:bE) (o:Obj):cU->Prop
 | .d _=>False
 | .list ps=>∃ vs n,o=aU vs n/\RDs C w ps vs
 | .dict ks ps=>∃ vs,fC C w o ks vs/\RDs C w ps vs
inductive jS (C:bH) (w:bE) (h:Heap) (n j:Nat) (f:cU):Value->Prop
 |mk {a:Addr} {o:Obj}:w a= .cell n j->h.get? a=some o->RF C w o f->jS C w h n j f (.ref a)
def FA (C:bH) (w:bE) (h:Heap) (n i:Nat) (v:Value):cU->Prop
 | .d x=>RD C w x v
 | .list l=>jS C w h n (i+2) (.list l) v
 | .dict ks ps=>jS C w h n (i+2) (.dict ks ps) v
def rE (C:bH) (es:List DictEntry):Prop:=∀ i e,es[i]? =some e->(∃ t,e.key= .str (C.att i) t)/\e.hash=PyData.keyHash C.w.params (C.att i)
inductive i9 (C:bH) (w:bE) (h:Heap) (n:Nat) (l:List cU):Prop
 |mk {x d:Addr} {es:List DictEntry} {k:Nat}:w x= .cell n 0->h.get? x=some (mU C.book d)->w d= .cell n 1->h.get? d=some (d6 es k)->rE C es->es.length=l.length->l.length<=7->
  (∀ i f e,l[i]? =some f->es[i]? =some e->FA C w h n i e.val f)->i9 C w h n l
inductive rO (C:bH) (w:bE) (h:Heap) (n:Nat) (l:List cU):Prop
 |mk {d:Addr} {o:Obj} {kvs:List (Str×Value)}:w d= .cell n 0->h.get? d=some o->o.IsDictOf (strKind C.prog C.w) kvs->kvs.length=l.length->l.length<=100->(∀ i p,kvs[i]? =some p->p.1=C.key i)->
  (∀ i f p,l[i]? =some f->kvs[i]? =some p->FA C w h n i p.2 f)->rO C w h n l
def RO (C:bH) (w:bE) (h:Heap) (n:Nat):PO->Prop
 | .fld f=>∃ v,jS C w h n 0 f v
 | .rcd true l=>i9 C w h n l
 | .rcd false l=>rO C w h n l
 | .dead=>True
 | .wrp f=>∃ t vs k v,w t= .cell n 0/\h.get? t=some (cy vs k)/\vs[wI]? =some v/\jS C w h n 2 f v
structure Pt where
 s:Shared
 fs:List Fm
 own:bE
 G:List (Addr×Obj)
 σ:az
variable {P:Pt}
noncomputable abbrev Pt.h (P:Pt):Heap:=P.s.heap
def PO.has (j:Nat):PO->Prop
 | .fld _=>j=0
 | .rcd _ l=>j<l.length+2
 | .dead=>True
 | .wrp _=>j<3
def dh (σ:az) (n j:Nat):Prop:=∃ o,σ[n]? =some o/\o.has j
def RV (C:bH) (P:Pt) (v:Value):PV->Prop
 | .d x=>RD C P.own x v
 | .p n j=>dh P.σ n j/\∀ a,P.own a= .cell n j->v= .ref a
 | .b n x=>dh P.σ n 0/\∃ t u z k,v= .ref t/\P.own t= .fz (aU [u,z] k)/\(∀ a,P.own a= .cell n 0->u= .ref a)/\RD C P.own x z
inductive kZ (C:bH) (P:Pt):List PV->List Value->Prop
 |nil:kZ C P [] []
 |cons {p:PV} {v:Value} {ps:List PV} {vs:List Value}:RV C P v p->kZ C P ps vs->kZ C P (p::ps) (v::vs)
structure IZ (C:bH) (h:Heap) (w:bE) (fs:List Fm):Prop where
 ns:∀ f∈fs,h.Ns f.L f.m/\w f.L= .fr/\C.H.objs.size<=f.L
 cl:∀ f∈fs,∀ c∈f.cells,h.IsCell c (f.cv c)/\w c= .fr/\f.L<c
 ord:fs.Pairwise fun f g=>∀ a∈g.adr,a<f.L
 all:∀ a,w a= .fr->∃ f∈fs,a∈f.adr
noncomputable abbrev tX (ps:Array Value):Obj:={cls:=.none,data:=.fields ps}
def N7 (h:Heap) (w:bE) (G:List (Addr×Obj)) (a:Addr) (o:Obj):Prop:=h.get? a=some o/\w a= .gh/\∀ p∈G,p.1≠a
def BK (h:Heap) (w:bE) (G:List (Addr×Obj)) (l:xY):Prop:=N7 h w G l.P (tX #[])∨∃ c oc vs t,N7 h w G l.P (tX #[rawInt l.pos.line,rawInt l.pos.col,.ref c])/\w c= .fz oc/\oc.data= .fields vs/\vs[1]? =some (.str l.qual t)
structure IY (l:Option xY) (h:Heap) (w:bE) (G:List (Addr×Obj)):Prop where
 at_:∀ p∈G,h.get? p.1=some p.2/\w p.1= .gh
 nd:(G.map (·.1)).Nodup
 tab:∀ z,l=some z->BK h w G z
structure aL (C:bH) (P:Pt):Prop where
 base:∀ b o,C.H.get? b=some o->P.h.get? b=some o/\P.own b= .no
 fz:∀ a o,P.own a= .fz o->P.h.get? a=some o
 live:∀ a,P.own a≠ .no->∃ o,P.h.get? a=some o
 fr:IZ C P.h P.own P.fs
 gh:IY C.lam P.h P.own P.G
 one:∀ a b n j,P.own a= .cell n j->P.own b= .cell n j->a=b
 bd:∀ a n j,P.own a= .cell n j->dh P.σ n j
 obj:∀ n o,P.σ[n]? =some o->RO C P.own P.h n o
def rN (s s':Shared):Prop:=∃ h tk,s'={s with heap:=h,toks:=tk}
theorem rN.refl (s:Shared):rN s s:=⟨s.heap,s.toks,rfl⟩
theorem rN.trans {s s' s'':Shared} (a:rN s s') (b:rN s' s''):rN s s'':=by
 obtain ⟨_,_,rfl⟩:=a;obtain ⟨h',tk',rfl⟩:=b;exact ⟨h',tk',rfl⟩
structure Ext (P P':Pt):Prop where
 sm:rN P.s P'.s
 G:P'.G=P.G
 fz:Fz P.own P'.own
 val:∀ n j,dh P.σ n j->dh P'.σ n j
 cell:∀ n j a,dh P.σ n j->P'.own a= .cell n j->P.own a= .cell n j
structure bQ (P P':Pt):Prop extends Ext P P' where
 fs:P'.fs=P.fs
inductive sT:List Fm->List Fm->Prop
 |mk {f f':Fm} {r:List Fm}:f.like f'->sT (f::r) (f'::r)
structure eY (P P':Pt):Prop extends Ext P P' where
 fs:sT P.fs P'.fs
section
variable {P' P'':Pt}
theorem Ext.refl (P:Pt):Ext P P:=⟨.refl _,rfl,fun _ _ h=>h,fun _ _ h=>h,fun _ _ _ _ h=>h⟩
theorem Ext.trans (a:Ext P P') (b:Ext P' P''):Ext P P'':=
 ⟨a.sm.trans b.sm,b.G.trans a.G,fun x o h=>b.fz x o (a.fz x o h),fun n j h=>b.val n j (a.val n j h),fun n j x h k=>a.cell n j x h (b.cell n j x (a.val n j h) k)⟩
theorem bQ.refl (P:Pt):bQ P P:=⟨.refl P,rfl⟩
theorem bQ.trans (a:bQ P P') (b:bQ P' P''):bQ P P'':=⟨a.toExt.trans b.toExt,b.fs.trans a.fs⟩
theorem sT.trans {a b c:List Fm}:sT a b->sT b c->sT a c:=fun h g=>by
 obtain ⟨x⟩:=h;obtain ⟨y⟩:=g;exact ⟨x.trans y⟩
theorem eY.trans (a:eY P P') (b:eY P' P''):eY P P'':=⟨a.toExt.trans b.toExt,a.fs.trans b.fs⟩
theorem eY.grow (a:eY P P') (b:bQ P' P''):eY P P'':=⟨a.toExt.trans b.toExt,b.fs ▸ a.fs⟩
theorem RV.mv (fz:Fz P.own P'.own) (val:∀ n j,dh P.σ n j->dh P'.σ n j) (cell:∀ n j a,dh P.σ n j->P'.own a= .cell n j->P.own a= .cell n j) {p:PV} (h:RV C P v p):RV C P' v p:=by
 cases p with
 |d _=>exact RD.ext fz h
 |p n j=>exact ⟨val n j h.1,fun a e=>h.2 a (cell n j a h.1 e)⟩
 |b n y=>
  obtain ⟨h1,t,u,z,k,e,f,g,r⟩:=h;exact ⟨val n 0 h1,t,u,z,k,e,fz _ _ f,fun a q=>g a (cell n 0 a h1 q),RD.ext fz r⟩
theorem RV.ext (x:Ext P P') {p:PV} (h:RV C P v p):RV C P' v p:=h.mv x.fz x.val x.cell
theorem kZ.ext (x:Ext P P') {p:List PV} {v:List Value} (h:kZ C P p v):kZ C P' p v:=by
 induction h with
 |nil=>exact .nil
 |cons h _ ih=>exact .cons (h.ext x) ih
end
section
variable {P':Pt} {w':bE} {h h':Heap}
theorem RF.ext (x:Fz w w'):∀ {f:cU},RF C w o f->RF C w' o f:=by
 intro Z0 Z2;cases Z0 with
 |d _=>exact Z2
 |list _=>
  obtain ⟨vs,n,e,r⟩:=Z2;exact ⟨vs,n,e,r.ext x⟩
 |dict _ _=>
  obtain ⟨vs,e,r⟩:=Z2;exact ⟨vs,e.ext x,r.ext x⟩
theorem jS.mv {f:cU} (x:Fz w w') (k:∀ b j o,w b= .cell n j->h.get? b=some o->w' b= .cell n' j/\h'.get? b=some o):jS C w h n j f v->jS C w' h' n' j f v:=fun h=>by
 obtain ⟨a,b,c⟩:=h;exact ⟨(k _ _ _ a b).1,(k _ _ _ a b).2,c.ext x⟩
theorem FA.mv {i:Nat} (x:Fz w w') (k:∀ b j o,w b= .cell n j->h.get? b=some o->w' b= .cell n' j/\h'.get? b=some o):∀ {f:cU},FA C w h n i v f->FA C w' h' n' i v f
 | .d _,r=>RD.ext x r
 | .list _,r=>jS.mv x k r
 | .dict _ _,r=>jS.mv x k r
theorem RO.mv (x:Fz w w') (k:∀ b j o,w b= .cell n j->h.get? b=some o->w' b= .cell n' j/\h'.get? b=some o):∀ {o:PO},RO C w h n o->RO C w' h' n' o:=by
 intro o r;cases o with
 |fld _=>
  obtain ⟨v,r⟩:=r;exact ⟨v,r.mv x k⟩
 |rcd b l=>
  cases b with
  |true=>
   obtain ⟨a,b,c,d,e,f,g,z⟩:i9 C w h n l:=r;exact i9.mk (k _ _ _ a b).1 (k _ _ _ a b).2 (k _ _ _ c d).1 (k _ _ _ c d).2 e f g fun i y u p q=>FA.mv x k (z i y u p q)
  |false=>
   obtain ⟨a,b,c,d,e,f,z⟩:rO C w h n l:=r;exact rO.mk (k _ _ _ a b).1 (k _ _ _ a b).2 c d e f fun i y u p q=>FA.mv x k (z i y u p q)
 |dead=>trivial
 |wrp _=>
  obtain ⟨t,vs,q,v,a,b,c,r⟩:=r;exact ⟨t,vs,q,v,(k _ _ _ a b).1,(k _ _ _ a b).2,c,r.mv x k⟩
theorem IZ.mv {fs:List Fm} (F:IZ C h w fs) (k:∀ b o,w b= .fr->h.get? b=some o->w' b= .fr/\h'.get? b=some o) (k':∀ b,w' b= .fr->w b= .fr):IZ C h' w' fs:=by
 refine ⟨fun f hf=> ?_,fun f hf c hc=> ?_,F.ord,fun a e=>F.all a (k' a e)⟩
 .obtain ⟨⟨o,es,ep,ho,r⟩,e,z⟩:=F.ns f hf;exact ⟨⟨o,es,ep,(k _ _ e ho).2,r⟩,(k _ _ e ho).1,z⟩
 .obtain ⟨⟨o,ho,r⟩,e,z⟩:=F.cl f hf c hc;exact ⟨⟨o,(k _ _ e ho).2,r⟩,(k _ _ e ho).1,z⟩
theorem BK.map {G':List (Addr×Obj)} {z:xY} (x:Fz w w') (k:∀ a o,N7 h w G a o->N7 h' w' G' a o):BK h w G z->BK h' w' G' z:=fun h=>by
 rcases h with a|⟨c,oc,vs,t,a,b,r⟩
 .exact .inl (k _ _ a)
 .exact .inr ⟨c,oc,vs,t,k _ _ a,x _ _ b,r⟩
theorem IY.mv {l:Option xY} (F:IY l h w G) (x:Fz w w') (k:∀ b o,w b= .gh->h.get? b=some o->w' b= .gh/\h'.get? b=some o):IY l h' w' G:=
 ⟨fun p hp=>⟨(k _ _ (F.at_ p hp).2 (F.at_ p hp).1).2,(k _ _ (F.at_ p hp).2 (F.at_ p hp).1).1⟩,F.nd,fun z e=>(F.tab z e).map x fun a o q=>⟨(k a o q.2.1 q.1).2,(k a o q.2.1 q.1).1,q.2.2⟩⟩
noncomputable def im (w:bE) (a:Addr) (x:cS):bE:=fun b=>if b=a then x else w b
theorem bU (w:bE) (a:Addr) (x:cS):im w a x a=x:=if_pos rfl
theorem bB {b:Addr} (e:b≠a):im w a x b=w b:=if_neg e
theorem cX (w:bE) (a:Addr) (x:cS) (b:Addr):(b=a/\im w a x b=x)∨(b≠a/\im w a x b=w b):=by
 by_cases e:b=a
 .exact .inl ⟨e,if_pos e⟩
 .exact .inr ⟨e,if_neg e⟩
theorem jT {l:az}:dh σ n j->dh (σ++l) n j
 |⟨o,e,r⟩=>⟨o,by rw[S7 (Sl.mp e).1];exact e,r⟩
theorem dh.lt:dh σ n j->n<σ.length
 |⟨_,e,_⟩=>(Sl.mp e).1
theorem mA {b:Addr} (hx:x≠ .fr) (h:im w a x b= .fr):w b= .fr:=by
 rcases cX w a x b with ⟨_,r⟩|⟨_,r⟩
 .exact absurd (r.symm.trans h) hx
 .exact r.symm.trans h
structure Mv (C:bH) (P P':Pt) (a:Addr):Prop where
 k:∀ b o,b≠a->P.h.get? b=some o->P'.h.get? b=some o/\P'.own b=P.own b
 n:∀ b,b≠a->P'.own b=P.own b
 H:C.H.get? a=none
theorem aL.step (I:aL C P) {a:Addr} {z:Nat} (m:Mv C P P' a) (hfs:P'.fs=P.fs) (hG:P'.G=P.G) (h0:P.own a= .no∨∃ j,P.own a= .cell z j) (h1:(∃ o,P'.own a= .fz o/\P'.h.get? a=some o)∨(∃ o j,P'.own a= .cell z j/\P'.h.get? a=some o/\∀ b,b≠a->P.own b≠ .cell z j))
  (hz:∀ j,P'.own a= .cell z j->dh P'.σ z j) (hs:∀ n o,n≠z->P'.σ[n]? =some o->P.σ[n]? =some o) (hl:∀ n j,dh P.σ n j->dh P'.σ n j) (ho:∀ o,P'.σ[z]? =some o->RO C P'.own P'.h z o):aL C P':=by
 have na:∀ {b x},P.own b=x->x≠ .no->(∀ j,x≠ .cell z j)->b≠a:=fun e h3 h4 q=>by
  subst q;rcases h0 with q|⟨j,q⟩
  .exact h3 (e.symm.trans q)
  .exact h4 j (e.symm.trans q)
 have fz:Fz P.own P'.own:=fun b o e=>(m.n b (na e (nofun) (nofun))).trans e;have frb:∀ b,P'.own b= .fr->P.own b= .fr:=fun b e=>by
  by_cases q:b=a
  .rw[q] at e;rcases h1 with ⟨_,e1,_⟩|⟨_,_,e1,_⟩
   .cases e1.symm.trans e
   .cases e1.symm.trans e
  .rw[<-m.n b q];exact e
 have kk:∀ b o x,P.own b=x->x≠ .no->(∀ j,x≠ .cell z j)->P.h.get? b=some o->P'.own b=x/\P'.h.get? b=some o:=fun b o x e h3 h4 q=>
  have ne:=na e h3 h4
  ⟨(m.k b o ne q).2.trans e,(m.k b o ne q).1⟩
 refine ⟨fun b o e=> ?_,fun b o e=> ?_,fun b e=> ?_,hfs ▸ I.fr.mv (fun b o e q=>kk b o _ e nofun nofun q) frb,hG ▸ I.gh.mv fz fun b o e q=>kk b o _ e nofun nofun q,fun b c n j e f=> ?_,fun b n j e=> ?_,fun n o e=> ?_⟩
 .have ne:b≠a:=fun q=>by rw[q,m.H] at e;cases e
  obtain ⟨e1,e2⟩:=I.base b o e;exact ⟨(m.k b o ne e1).1,(m.k b o ne e1).2.trans e2⟩
 .by_cases q:b=a
  .subst q;rcases h1 with ⟨o',e1,e2⟩|⟨o',j,e1,_⟩
   .rw[e1] at e;cases e;exact e2
   .rw[e1] at e;cases e
  .rw[m.n b q] at e;exact (m.k b o q (I.fz b o e)).1
 .by_cases q:b=a
  .subst q;rcases h1 with ⟨o',e1,e2⟩|⟨o',j,e1,e2,_⟩
   .exact ⟨_,e2⟩
   .exact ⟨_,e2⟩
  .rw[m.n b q] at e;obtain ⟨o,ho⟩:=I.live b e;exact ⟨o,(m.k b o q ho).1⟩
 .have key:∀ {b c},b=a->c≠a->P'.own b= .cell n j->P'.own c= .cell n j->False:=fun {b c} q r e f=>by
   subst q;rw[m.n c r] at f;rcases h1 with ⟨o',e1,e2⟩|⟨o',j',e1,e2,e3⟩
   .rw[e1] at e;cases e
   .rw[e1] at e;cases e;exact e3 c r f
  by_cases q:b=a
  .by_cases r:c=a
   .rw[q,r]
   .exact (key q r e f).elim
  .by_cases r:c=a
   .exact (key r q f e).elim
   .rw[m.n b q] at e;rw[m.n c r] at f;exact I.one b c n j e f
 .by_cases q:b=a
  .subst q;rcases h1 with ⟨o',e1,e2⟩|⟨o',j',e1,_⟩
   .rw[e1] at e;cases e
   .rw[e1] at e;cases e;exact hz _ e1
  .rw[m.n b q] at e;exact hl n j (I.bd b n j e)
 .by_cases q:n=z
  .subst q;exact ho o e
  .exact (I.obj n o (hs n o q e)).mv fz fun b j o e' q'=>kk b o _ e' nofun (fun j q2=>by cases q2;exact q rfl) q'
theorem aL.off (I:aL C P) (e:P.h.objs.size<=a):P.own a= .no:=by
 by_cases q:P.own a= .no
 .exact q
 .obtain ⟨o,ho⟩:=I.live a q;exact absurd (SR ho) (Tm.mpr e)
theorem aL.offH (I:aL C P) (e:P.own a≠ .no):C.H.get? a=none:=by
 cases q:C.H.get? a with
 |none=>rfl
 |some o=>exact absurd (I.base a o q).2 e
theorem aL.out (I:aL C P) (e:P.h.objs.size<=a):C.H.get? a=none:=by
 cases q:C.H.get? a with
 |none=>rfl
 |some o=>exact absurd (SR (I.base a o q).1) (Tm.mpr e)
noncomputable def Pt.to (P:Pt) (h:Heap) (t:Nat):Pt:={P with s:={P.s with heap:=h,toks:=t}}
theorem bQ.to (P:Pt) (h:Heap) (t:Nat):bQ P (P.to h t):=⟨⟨⟨h,t,rfl⟩,rfl,fun _ _ e=>e,fun _ _ e=>e,fun _ _ _ _ e=>e⟩,rfl⟩
theorem aL.to (I:aL C P) (k:∀ b o,P.h.get? b=some o->h'.get? b=some o):aL C (P.to h' t):=
 ⟨fun b o e=>⟨k b o (I.base b o e).1,(I.base b o e).2⟩,fun a o e=>k a o (I.fz a o e),fun a e=>(I.live a e).imp fun o q=>k a o q,I.fr.mv (fun b o e q=>⟨e,k b o q⟩) (fun _ e=>e),I.gh.mv (fun _ _ e=>e) fun b o e q=>⟨e,k b o q⟩,I.one,I.bd,fun n o e=>(I.obj n o e).mv (fun _ _ e=>e) fun b j o e q=>⟨e,k b o q⟩⟩
structure vD (C:bH) (P:Pt) (h':Heap) (a:Addr) (o:Obj):Prop where
 keep:∀ b o,P.h.get? b=some o->h'.get? b=some o
 own:P.own a= .no
 H:C.H.get? a=none
 at_:h'.get? a=some o
theorem aL.push (I:aL C P) (ho:o.isFreed=false):vD C P (P.h.push o) P.h.objs.size o:=
 ⟨fun b o e=>Sr _ e,I.off (Sv _),I.out (Sv _),SE _ ho⟩
noncomputable def Pt.note (P:Pt) (h:Heap) (t:Nat) (a:Addr) (o:Obj):Pt:={P.to h t with own:=im P.own a (.fz o)}
theorem eG (e:P.own a= .no):Fz P.own (im P.own a x):=fun b o q=>(bB fun r=>by rw[r,e] at q;cases q).trans q
theorem bQ.note (e:P.own a= .no):bQ P (P.note h' t a o):=
 ⟨⟨⟨h',t,rfl⟩,rfl,eG e,fun _ _ e=>e,fun n j b _ q=>by
  rcases cX P.own a (.fz o) b with ⟨_,r⟩|⟨_,r⟩
  .cases r.symm.trans q
  .exact r.symm.trans q⟩,rfl⟩
theorem Mv.new (n:vD C P h' a o) (hh:P'.h=h') (hw:P'.own=im P.own a x):Mv C P P' a:=
 ⟨fun b o ne e=>⟨hh ▸ n.keep b o e,hw ▸ bB ne⟩,fun b ne=>hw ▸ bB ne,n.H⟩
theorem aL.note (I:aL C P) (n:vD C P h' a o):aL C (P.note h' t a o):=
 I.step (z:=P.σ.length) (Mv.new n rfl rfl) rfl rfl (.inl n.own) (.inl ⟨o,bU _ _ _,n.at_⟩) (fun j e=>by cases (bU P.own a (.fz o)).symm.trans e) (fun n o _ e=>e) (fun _ _ v=>v) fun o e=>absurd (Sl.mp e).1 (S4 _)
noncomputable def Pt.make (P:Pt) (h:Heap) (t:Nat) (a:Addr) (o:PO):Pt:={P.to h t with own:=im P.own a (.cell P.σ.length 0),σ:=P.σ++[o]}
theorem bQ.make {o:PO} (e:P.own a= .no):bQ P (P.make h' t a o):=
 ⟨⟨⟨h',t,rfl⟩,rfl,eG e,fun _ _ e=>jT e,fun n j b v q=>by
  rcases cX P.own a (.cell P.σ.length 0) b with ⟨_,r⟩|⟨_,r⟩
  .cases r.symm.trans q;exact absurd v.lt (S4 _)
  .exact r.symm.trans q⟩,rfl⟩
theorem dP {l:List α} {x:α} {y:α} (e:(l++[x])[n]? =some y):(n≠l.length->l[n]? =some y)/\(n=l.length->y=x):=by
 rcases Nat.lt_trichotomy n l.length with q|q|q
 .rw[S7 q] at e;exact ⟨fun _=>e,fun r=>absurd r (Nat.ne_of_lt q)⟩
 .subst q;rw[SH (Sv _),Nat.sub_self] at e;exact ⟨fun r=>absurd rfl r,fun _=>(S_ e).symm⟩
 .rw[List.getElem?_eq_none (by rw[Sk];exact q)] at e;cases e
theorem dG {l:List α} {x:α}:(l++[x])[l.length]? =some x:=by rw[SH (Sv _),Nat.sub_self];rfl
theorem aL.make (I:aL C P) (h0:po.has 0) (n:vD C P h' a o) (r:RO C (im P.own a (.cell P.σ.length 0)) h' P.σ.length po):aL C (P.make h' t a po):=
 I.step (z:=P.σ.length) (Mv.new n rfl rfl) rfl rfl (.inl n.own) (.inr ⟨o,0,bU _ _ _,n.at_,fun b _ q=>absurd (I.bd b _ _ q).lt (S4 _)⟩) (fun j e=>by cases (bU P.own a (.cell P.σ.length 0)).symm.trans e;exact ⟨po,dG,h0⟩)
  (fun n o ne e=>(dP e).1 ne) (fun _ _ v=>jT v) fun o e=>(dP e).2 rfl ▸ r
theorem Ej {s:Shared} {fs:List Fm} (h0:po.has 0) (h:∀ b,w b= .cell P.σ.length 0->b=a):RV C ⟨s,fs,w,G,P.σ++[po]⟩ (.ref a) (.p P.σ.length 0):=
 ⟨⟨po,by rw[SH (Sv _),Nat.sub_self];rfl,h0⟩,fun b e=>by rw[h b e]⟩
theorem aL.rvMake (I:aL C P) (h0:po.has 0):RV C (P.make h' t a po) (.ref a) (.p P.σ.length 0):=
 Ej h0 fun b e=>by
  rcases cX P.own a (.cell P.σ.length 0) b with ⟨q,_⟩|⟨_,r⟩
  .exact q
  .exact absurd (I.bd b _ _ (r.symm.trans e)).lt (S4 _)
noncomputable def Pt.turn (P:Pt) (h:Heap) (t n:Nat) (o:PO):Pt:={P.to h t with σ:=P.σ.set n o}
theorem d7 {m:Nat} {o o':PO} (e:σ[n]? =some o) (k:∀ j,o.has j->o'.has j):dh σ m j->dh (σ.set n o') m j
 |⟨x,q,r⟩=>by
  by_cases c:n=m
  .subst c;rw[e] at q;cases q;exact ⟨o',by rw[List.getElem?_set_self (Sl.mp e).1],k j r⟩
  .exact ⟨x,by rw[SP c];exact q,r⟩
theorem bQ.turn {o o':PO} (e:P.σ[n]? =some o) (k:∀ j,o.has j->o'.has j):bQ P (P.turn h' t n o'):=
 ⟨⟨⟨h',t,rfl⟩,rfl,fun _ _ e=>e,fun m j v=>d7 e k v,fun _ _ _ _ q=>q⟩,rfl⟩
theorem aL.turn (I:aL C P) {po':PO} (kp:∀ j,po.has j->po'.has j) (e:P.σ[n]? =some po) (ha:P.own a= .cell n j) (hs:∀ b o,b≠a->P.h.get? b=some o->h'.get? b=some o) (ho:h'.get? a=some o) (r:RO C P.own h' n po'):aL C (P.turn h' t n po'):=
 have hn:=(Sl.mp e).1
 I.step (z:=n) ⟨fun b o ne e=>⟨hs b o ne e,rfl⟩,fun _ _=>rfl,I.offH (by rw[ha];nofun)⟩ rfl rfl (.inr ⟨j,ha⟩) (.inr ⟨o,j,ha,ho,fun b ne q=>ne (I.one b a n j q ha)⟩) (fun j q=>d7 e kp (I.bd a n j q))
  (fun m o ne e=>by rwa [show (P.turn h' t n po').σ[m]? =P.σ[m]? from SP (Ne.symm ne)] at e) (fun _ _ v=>d7 e kp v)
  fun o e=>by
   rw[show (P.turn h' t n po').σ[n]? =some po' from List.getElem?_set_self hn] at e;cases e;exact r
noncomputable def Pt.ice (P:Pt) (n:Nat) (a:Addr) (o:Obj):Pt:={P with own:=im P.own a (.fz o),σ:=P.σ.set n .dead}
theorem aL.ice (I:aL C P) (e:P.σ[n]? =some po) (ha:P.own a= .cell n j) (ho:P.h.get? a=some o):aL C (P.ice n a o):=
 I.step (z:=n) ⟨fun b o ne e=>⟨e,bB ne⟩,fun _ ne=>bB ne,I.offH (by rw[ha];nofun)⟩ rfl rfl (.inr ⟨j,ha⟩) (.inl ⟨o,bU _ _ _,ho⟩) (fun j e=>by cases (bU P.own a (.fz o)).symm.trans e)
  (fun m o ne e=>by rwa [show (P.ice n a _).σ[m]? =P.σ[m]? from SP (Ne.symm ne)] at e) (fun _ _ v=>d7 e (fun _ _=>trivial) v)
  fun o e=>by
   by_cases q:n<P.σ.length
   .rw[show (P.ice n a _).σ[n]? =some .dead from List.getElem?_set_self q] at e;cases e;exact True.intro
   .rw[show (P.ice n a _).σ[n]? =none from List.getElem?_eq_none (by show (P.σ.set n .dead).length<=n;rw[SL];exact Tm.mp q)] at e;cases e
theorem bQ.ice (e:P.σ[n]? =some po) (ha:P.own a= .cell n j):bQ P (P.ice n a o):=
 ⟨⟨.refl _,rfl,fun b o q=>(bB fun r=>by rw[r,ha] at q;cases q).trans q,fun m j v=>d7 e (fun _ _=>trivial) v,fun n j b _ q=>by
  rcases cX P.own a (.fz o) b with ⟨_,r⟩|⟨_,r⟩
  .cases r.symm.trans q
  .exact r.symm.trans q⟩,rfl⟩
end
theorem bj {p:Prop} [Decidable p] {a:p->Bool} (h:(if h:p then a h else false)=true):p:=by
 by_cases k:p
 .exact k
 .rw[dif_neg k] at h;cases h
theorem ai {a b:Bool} (h:(a&&b)=true):a=true:=(Bool.and_eq_true_iff.mp h).1
theorem an {a b:Bool} (h:(a&&b)=true):b=true:=(Bool.and_eq_true_iff.mp h).2
theorem bR [BEq α] [LawfulBEq α] {a b:α} (h:(a==b)=true):a=b:=beq_iff_eq.mp h
noncomputable def ii (f:BoolOp->List Expr->Pos->Bool) (z:Expr):Bool:=if h:z.ctorIdx=0 then Expr.BoolOp.elim z h f else false
theorem fo (q:Expr->Prop) {f:BoolOp->List Expr->Pos->Bool} (h:ii f z=true) (k:∀ op es pos,f op es pos=true->q (.BoolOp op es pos)):q z:=Expr.BoolOp.elim (motive_1:=fun z=>ii f z=true->q z) z (bj h) k h
noncomputable def mq (f:Expr->Operator->Expr->Pos->Bool) (z:Expr):Bool:=if h:z.ctorIdx=2 then Expr.BinOp.elim z h f else false
theorem mj (q:Expr->Prop) {f:Expr->Operator->Expr->Pos->Bool} (h:mq f z=true) (k:∀ l op r pos,f l op r pos=true->q (.BinOp l op r pos)):q z:=Expr.BinOp.elim (motive_1:=fun z=>mq f z=true->q z) z (bj h) k h
noncomputable def fN (f:UnaryOp->Expr->Pos->Bool) (z:Expr):Bool:=if h:z.ctorIdx=3 then Expr.UnaryOp.elim z h f else false
theorem jL (q:Expr->Prop) {f:UnaryOp->Expr->Pos->Bool} (h:fN f z=true) (k:∀ op x pos,f op x pos=true->q (.UnaryOp op x pos)):q z:=Expr.UnaryOp.elim (motive_1:=fun z=>fN f z=true->q z) z (bj h) k h
noncomputable def rG (f:Arguments->Expr->Scope->Pos->Bool) (z:Expr):Bool:=if h:z.ctorIdx=4 then Expr.Lambda.elim z h f else false
theorem sR (q:Expr->Prop) {f:Arguments->Expr->Scope->Pos->Bool} (h:rG f z=true) (k:∀ ps b sc pos,f ps b sc pos=true->q (.Lambda ps b sc pos)):q z:=Expr.Lambda.elim (motive_1:=fun z=>rG f z=true->q z) z (bj h) k h
noncomputable def pq (f:Expr->Expr->Expr->Pos->Bool) (z:Expr):Bool:=if h:z.ctorIdx=5 then Expr.IfExp.elim z h f else false
theorem vp (q:Expr->Prop) {f:Expr->Expr->Expr->Pos->Bool} (h:pq f z=true) (k:∀ t a b pos,f t a b pos=true->q (.IfExp t a b pos)):q z:=Expr.IfExp.elim (motive_1:=fun z=>pq f z=true->q z) z (bj h) k h
noncomputable def jO (f:List (Option Expr)->List Expr->Pos->Bool) (z:Expr):Bool:=if h:z.ctorIdx=6 then Expr.Dict.elim z h f else false
theorem jN (q:Expr->Prop) {f:List (Option Expr)->List Expr->Pos->Bool} (h:jO f z=true) (k:∀ ks vs pos,f ks vs pos=true->q (.Dict ks vs pos)):q z:=Expr.Dict.elim (motive_1:=fun z=>jO f z=true->q z) z (bj h) k h
noncomputable def kU (f:Expr->List Comprehension->Scope->Pos->Bool) (z:Expr):Bool:=if h:z.ctorIdx=8 then Expr.ListComp.elim z h f else false
theorem oG (q:Expr->Prop) {f:Expr->List Comprehension->Scope->Pos->Bool} (h:kU f z=true) (k:∀ el gs scope pos,f el gs scope pos=true->q (.ListComp el gs scope pos)):q z:=Expr.ListComp.elim (motive_1:=fun z=>kU f z=true->q z) z (bj h) k h
noncomputable def j9 (f:Expr->List CmpOp->List Expr->Pos->Bool) (z:Expr):Bool:=if h:z.ctorIdx=15 then Expr.Compare.elim z h f else false
theorem jP (q:Expr->Prop) {f:Expr->List CmpOp->List Expr->Pos->Bool} (h:j9 f z=true) (k:∀ l ops rs pos,f l ops rs pos=true->q (.Compare l ops rs pos)):q z:=Expr.Compare.elim (motive_1:=fun z=>j9 f z=true->q z) z (bj h) k h
noncomputable def rL (f:Expr->List Expr->List Keyword->Pos->Bool) (z:Expr):Bool:=if h:z.ctorIdx=16 then Expr.Call.elim z h f else false
theorem jQ (q:Expr->Prop) {f:Expr->List Expr->List Keyword->Pos->Bool} (h:rL f z=true) (k:∀ g es kw pos,f g es kw pos=true->q (.Call g es kw pos)):q z:=Expr.Call.elim (motive_1:=fun z=>rL f z=true->q z) z (bj h) k h
noncomputable def ff (f:Expr->Int->Option Expr->Pos->Bool) (z:Expr):Bool:=if h:z.ctorIdx=17 then Expr.FormattedValue.elim z h f else false
theorem ja (q:Expr->Prop) {f:Expr->Int->Option Expr->Pos->Bool} (h:ff f z=true) (k:∀ v c sp pos,f v c sp pos=true->q (.FormattedValue v c sp pos)):q z:=Expr.FormattedValue.elim (motive_1:=fun z=>ff f z=true->q z) z (bj h) k h
noncomputable def jM (f:List Expr->Pos->Bool) (z:Expr):Bool:=if h:z.ctorIdx=18 then Expr.JoinedStr.elim z h f else false
theorem ni (q:Expr->Prop) {f:List Expr->Pos->Bool} (h:jM f z=true) (k:∀ es pos,f es pos=true->q (.JoinedStr es pos)):q z:=Expr.JoinedStr.elim (motive_1:=fun z=>jM f z=true->q z) z (bj h) k h
noncomputable def cj (f:Const->Nat->Pos->Bool) (z:Expr):Bool:=if h:z.ctorIdx=19 then Expr.Constant.elim z h f else false
theorem cI (q:Expr->Prop) {f:Const->Nat->Pos->Bool} (h:cj f z=true) (k:∀ c k pos,f c k pos=true->q (.Constant c k pos)):q z:=Expr.Constant.elim (motive_1:=fun z=>cj f z=true->q z) z (bj h) k h
noncomputable def dE (f:Expr->Str->Pos->Bool) (z:Expr):Bool:=if h:z.ctorIdx=20 then Expr.Attribute.elim z h f else false
theorem fg (q:Expr->Prop) {f:Expr->Str->Pos->Bool} (h:dE f z=true) (k:∀ v x pos,f v x pos=true->q (.Attribute v x pos)):q z:=Expr.Attribute.elim (motive_1:=fun z=>dE f z=true->q z) z (bj h) k h
noncomputable def bT (f:Expr->Expr->Pos->Bool) (z:Expr):Bool:=if h:z.ctorIdx=21 then Expr.Subscript.elim z h f else false
theorem cx (q:Expr->Prop) {f:Expr->Expr->Pos->Bool} (h:bT f z=true) (k:∀ v i pos,f v i pos=true->q (.Subscript v i pos)):q z:=Expr.Subscript.elim (motive_1:=fun z=>bT f z=true->q z) z (bj h) k h
noncomputable def dD (f:Str->Pos->Bool) (z:Expr):Bool:=if h:z.ctorIdx=23 then Expr.Name.elim z h f else false
theorem cw (q:Expr->Prop) {f:Str->Pos->Bool} (h:dD f z=true) (k:∀ x pos,f x pos=true->q (.Name x pos)):q z:=Expr.Name.elim (motive_1:=fun z=>dD f z=true->q z) z (bj h) k h
noncomputable def nh (f:List Expr->Pos->Bool) (z:Expr):Bool:=if h:z.ctorIdx=24 then Expr.List.elim z h f else false
theorem nW (q:Expr->Prop) {f:List Expr->Pos->Bool} (h:nh f z=true) (k:∀ es pos,f es pos=true->q (.List es pos)):q z:=Expr.List.elim (motive_1:=fun z=>nh f z=true->q z) z (bj h) k h
noncomputable def pj (f:List Expr->Nat->Pos->Bool) (z:Expr):Bool:=if h:z.ctorIdx=25 then Expr.Tuple.elim z h f else false
theorem vj (q:Expr->Prop) {f:List Expr->Nat->Pos->Bool} (h:pj f z=true) (k:∀ es k pos,f es k pos=true->q (.Tuple es k pos)):q z:=Expr.Tuple.elim (motive_1:=fun z=>pj f z=true->q z) z (bj h) k h
noncomputable def vn (f:Option Expr->Option Expr->Option Expr->Pos->Bool) (z:Expr):Bool:=if h:z.ctorIdx=26 then Expr.Slice.elim z h f else false
theorem vm (q:Expr->Prop) {f:Option Expr->Option Expr->Option Expr->Pos->Bool} (h:vn f z=true) (k:∀ l u st pos,f l u st pos=true->q (.Slice l u st pos)):q z:=Expr.Slice.elim (motive_1:=fun z=>vn f z=true->q z) z (bj h) k h
noncomputable def lM (f:Option Expr->Pos->Bool) (z:Stmt):Bool:=if h:z.ctorIdx=3 then Stmt.Return.elim z h f else false
theorem kx (q:Stmt->Prop) {f:Option Expr->Pos->Bool} {z:Stmt} (h:lM f z=true) (k:∀ v pos,f v pos=true->q (.Return v pos)):q z:=Stmt.Return.elim (motive_2:=fun z=>lM f z=true->q z) z (bj h) k h
noncomputable def qB (f:List Expr->Expr->Pos->Bool) (z:Stmt):Bool:=if h:z.ctorIdx=5 then Stmt.Assign.elim z h f else false
theorem sq (q:Stmt->Prop) {f:List Expr->Expr->Pos->Bool} {z:Stmt} (h:qB f z=true) (k:∀ ts e pos,f ts e pos=true->q (.Assign ts e pos)):q z:=Stmt.Assign.elim (motive_2:=fun z=>qB f z=true->q z) z (bj h) k h
noncomputable def A4 (f:Expr->Expr->List Stmt->List Stmt->Pos->Bool) (z:Stmt):Bool:=if h:z.ctorIdx=9 then Stmt.For.elim z h f else false
theorem zo (q:Stmt->Prop) {f:Expr->Expr->List Stmt->List Stmt->Pos->Bool} {z:Stmt} (h:A4 f z=true) (k:∀ t e b el pos,f t e b el pos=true->q (.For t e b el pos)):q z:=Stmt.For.elim (motive_2:=fun z=>A4 f z=true->q z) z (bj h) k h
noncomputable def pb (f:Expr->List Stmt->List Stmt->Pos->Bool) (z:Stmt):Bool:=if h:z.ctorIdx=11 then Stmt.While.elim z h f else false
theorem uD (q:Stmt->Prop) {f:Expr->List Stmt->List Stmt->Pos->Bool} {z:Stmt} (h:pb f z=true) (k:∀ t b el pos,f t b el pos=true->q (.While t b el pos)):q z:=Stmt.While.elim (motive_2:=fun z=>pb f z=true->q z) z (bj h) k h
noncomputable def Ln (f:Expr->List Stmt->List Stmt->Pos->Bool) (z:Stmt):Bool:=if h:z.ctorIdx=12 then Stmt.If.elim z h f else false
theorem C3 (q:Stmt->Prop) {f:Expr->List Stmt->List Stmt->Pos->Bool} {z:Stmt} (h:Ln f z=true) (k:∀ t a b pos,f t a b pos=true->q (.If t a b pos)):q z:=Stmt.If.elim (motive_2:=fun z=>Ln f z=true->q z) z (bj h) k h
noncomputable def uF (f:Option Expr->Option Expr->Pos->Bool) (z:Stmt):Bool:=if h:z.ctorIdx=16 then Stmt.Raise.elim z h f else false
theorem uE (q:Stmt->Prop) {f:Option Expr->Option Expr->Pos->Bool} {z:Stmt} (h:uF f z=true) (k:∀ x cause pos,f x cause pos=true->q (.Raise x cause pos)):q z:=Stmt.Raise.elim (motive_2:=fun z=>uF f z=true->q z) z (bj h) k h
noncomputable def A1 (f:List Stmt->List ExceptHandler->List Stmt->List Stmt->Pos->Bool) (z:Stmt):Bool:=if h:z.ctorIdx=17 then Stmt.Try.elim z h f else false
theorem zl (q:Stmt->Prop) {f:List Stmt->List ExceptHandler->List Stmt->List Stmt->Pos->Bool} {z:Stmt} (h:A1 f z=true) (k:∀ b hs el fin pos,f b hs el fin pos=true->q (.Try b hs el fin pos)):q z:=Stmt.Try.elim (motive_2:=fun z=>A1 f z=true->q z) z (bj h) k h
noncomputable def zp (f:Expr->Pos->Bool) (z:Stmt):Bool:=if h:z.ctorIdx=24 then Stmt.Expr.elim z h f else false
theorem wY (q:Stmt->Prop) {f:Expr->Pos->Bool} {z:Stmt} (h:zp f z=true) (k:∀ e pos,f e pos=true->q (.Expr e pos)):q z:=Stmt.Expr.elim (motive_2:=fun z=>zp f z=true->q z) z (bj h) k h
noncomputable def IN (f:Bool->Bool) (c:Const):Bool:=if h:c.ctorIdx=1 then Const.bool.elim c h f else false
theorem Dy (q:Const->Prop) {f:Bool->Bool} (h:IN f c=true) (k:∀ b,f b=true->q (.bool b)):q c:=Const.bool.elim (motive:=fun c=>IN f c=true->q c) c (bj h) k h
noncomputable def IM (f:Int->Bool) (c:Const):Bool:=if h:c.ctorIdx=2 then Const.int.elim c h f else false
theorem Dx (q:Const->Prop) {f:Int->Bool} (h:IM f c=true) (k:∀ b,f b=true->q (.int b)):q c:=Const.int.elim (motive:=fun c=>IM f c=true->q c) c (bj h) k h
noncomputable def Dv (f:Str->Bool) (c:Const):Bool:=if h:c.ctorIdx=5 then Const.str.elim c h f else false
theorem nj (q:Const->Prop) {f:Str->Bool} (h:Dv f c=true) (k:∀ b,f b=true->q (.str b)):q c:=Const.str.elim (motive:=fun c=>Dv f c=true->q c) c (bj h) k h
noncomputable def IL (c:Const):Bool:=if h:c.ctorIdx=0 then Const.none.elim c h true else false
theorem Dw (q:Const->Prop) (h:IL c=true) (k:q .none):q c:=Const.none.elim (motive:=fun c=>IL c=true->q c) c (bj h) (fun _=>k) h
noncomputable def Ma (b:Bool) (o:UnaryOp):Bool:=match b with
 |true=>o.ctorIdx==UnaryOp.Not.ctorIdx
 |false=>o.ctorIdx==UnaryOp.USub.ctorIdx
theorem GL (q:UnaryOp->Prop) {o:UnaryOp} (h:Ma true o=true) (k:q .Not):q o:=by cases o<;>first|exact k|cases h
theorem GM (q:UnaryOp->Prop) {o:UnaryOp} (h:Ma false o=true) (k:q .USub):q o:=by cases o<;>first|exact k|cases h
noncomputable def Mi:Bool->BoolOp->Bool
 |true,.And=>true
 |false,.Or=>true
 |_,_=>false
theorem BG (q:BoolOp->Prop) {o:BoolOp} (h:Mi true o=true) (k:q .And):q o:=by cases o<;>first|exact k|cases h
theorem Gi (q:BoolOp->Prop) {o:BoolOp} (h:Mi false o=true) (k:q .Or):q o:=by cases o<;>first|exact k|cases h
section
noncomputable def one (f:α->Bool):List α->Bool
 |[a]=>f a
 |_=>false
theorem dB (q:List α->Prop) {f:α->Bool}:∀ {l:List α},one f l=true->(∀ a,f a=true->q [a])->q l
 |[a],h,k=>k a h
 |[],h,_=>nomatch h
 |_::_::_,h,_=>nomatch h
noncomputable def Mo (f:α->α->Bool):List α->Bool
 |[a,b]=>f a b
 |_=>false
theorem pu (q:List α->Prop) {f:α->α->Bool}:∀ {l:List α},Mo f l=true->(∀ a b,f a b=true->q [a,b])->q l
 |[a,b],h,k=>k a b h
 |[],h,_=>nomatch h
 |[_],h,_=>nomatch h
 |_::_::_::_,h,_=>nomatch h
theorem bZ (q:List α->Prop):∀ {l:List α},l.isEmpty=true->q []->q l:=by
 intro l
 induction l with
 |nil=>
  intro _ k;exact k
 |cons _ _ ih=>
  intro h _;exact nomatch h
noncomputable def GA (f:α->Bool):Option α->Bool
 |some a=>f a
 |none=>false
theorem gf (q:Option α->Prop) {f:α->Bool}:∀ {o:Option α},GA f o=true->(∀ a,f a=true->q (some a))->q o
 |some a,h,k=>k a h
 |none,h,_=>nomatch h
theorem jp (q:Option α->Prop):∀ {o:Option α},o.isNone=true->q none->q o
 |none,_,k=>k
 |some _,h,_=>nomatch h
end
noncomputable def eQ (f:Str->List Expr->Bool) (e:Expr):Bool:=rL (fun g es kw _=>kw.isEmpty&&dD (fun x _=>f x es) g) e
theorem eO (q:Expr->Prop) {f:Str->List Expr->Bool} (h:eQ f e=true) (k:∀ x px es pos,f x es=true->q (.Call (.Name x px) es [] pos)):q e:=
 jQ q h fun g es kw pos h=>bZ (fun kw=>q (.Call g es kw pos)) (ai h) (cw (fun g=>q (.Call g es [] pos)) (an h) fun x px h=>k x px es pos h)
noncomputable def mi (f:Expr->Str->Pos->List Expr->Pos->Bool) (e:Expr):Bool:=rL (fun g es kw pos=>kw.isEmpty&&dE (fun v x ap=>f v x ap es pos) g) e
theorem mh (q:Expr->Prop) {f:Expr->Str->Pos->List Expr->Pos->Bool} (h:mi f e=true) (k:∀ v x ap es pos,f v x ap es pos=true->q (.Call (.Attribute v x ap) es [] pos)):q e:=
 jQ q h fun g es kw pos h=>bZ (fun kw=>q (.Call g es kw pos)) (ai h) (fg (fun g=>q (.Call g es [] pos)) (an h) fun v x ap h=>k v x ap es pos h)
noncomputable def xT (f:Expr->CmpOp->Expr->Bool) (e:Expr):Bool:=j9 (fun l ops rs _=>one (fun o=>one (fun r=>f l o r) rs) ops) e
theorem rH (q:Expr->Prop) {f:Expr->CmpOp->Expr->Bool} (h:xT f e=true) (k:∀ l o r pos,f l o r=true->q (.Compare l [o] [r] pos)):q e:=
 jP q h fun l ops rs pos h=>dB (fun ops=>q (.Compare l ops rs pos)) h fun o h=>dB (fun rs=>q (.Compare l [o] rs pos)) h fun r h=>k l o r pos h
noncomputable def rI (f:Expr->CmpOp->CmpOp->Expr->Expr->Bool) (e:Expr):Bool:=j9 (fun l ops rs _=>Mo (fun o p=>Mo (fun r q=>f l o p r q) rs) ops) e
theorem nY (q:Expr->Prop) {f:Expr->CmpOp->CmpOp->Expr->Expr->Bool} (h:rI f e=true) (k:∀ l o p r s pos,f l o p r s=true->q (.Compare l [o,p] [r,s] pos)):q e:=
 jP q h fun l ops rs pos h=>pu (fun ops=>q (.Compare l ops rs pos)) h fun o p h=>pu (fun rs=>q (.Compare l [o,p] rs pos)) h fun r s h=>k l o p r s pos h
noncomputable def vo (f:Expr->Option Expr->Option Expr->Bool) (e:Expr):Bool:=bT (fun v i _=>vn (fun l u st _=>st.isNone&&f v l u) i) e
theorem nV (q:Expr->Prop) {f:Expr->Option Expr->Option Expr->Bool} (h:vo f e=true) (k:∀ v l u p pos,f v l u=true->q (.Subscript v (.Slice l u none p) pos)):q e:=
 cx q h fun v i pos h=>vm (fun i=>q (.Subscript v i pos)) h fun l u st p h=>jp (fun st=>q (.Subscript v (.Slice l u st p) pos)) (ai h) (k v l u p pos (an h))
noncomputable def NU (f:Expr->Str->Expr->List Expr->Int->Scope->Bool) (e:Expr):Bool:=kU (fun el gs scope _=>one (fun g=>dD (fun x _=>f el x g.iter g.ifs g.is_async scope) g.target) gs) e
theorem tM (q:Expr->Prop) {f:Expr->Str->Expr->List Expr->Int->Scope->Bool} (h:NU f e=true) (k:∀ el x px iter cs ay scope pos,f el x iter cs ay scope=true->q (.ListComp el [⟨.Name x px,iter,cs,ay⟩] scope pos)):q e:=
 oG q h fun el gs scope pos h=>dB (fun gs=>q (.ListComp el gs scope pos)) h fun g h=>match g,h with
  |⟨t,iter,cs,ay⟩,h=>cw (fun t=>q (.ListComp el [⟨t,iter,cs,ay⟩] scope pos)) h fun x px h=>k el x px iter cs ay scope pos h
noncomputable def oj (f:Expr->Expr->Bool) (s:Stmt):Bool:=qB (fun ts e _=>one (fun t=>f t e) ts) s
theorem fM (q:Stmt->Prop) {f:Expr->Expr->Bool} {s:Stmt} (h:oj f s=true) (k:∀ t e pos,f t e=true->q (.Assign [t] e pos)):q s:=
 sq q h fun ts e pos h=>dB (fun ts=>q (.Assign ts e pos)) h fun t h=>k t e pos h
noncomputable abbrev Gw:=List (Str×Nat)
noncomputable def n_ (sc:Scope) (x:Str):Bool:=sc.names.lookup x==some .local||sc.names.lookup x==some .cell||sc.names.lookup x==some .free
noncomputable def ef (sc:Scope) (x:Str):Bool:=sc.names.lookup x==some .globalImplicit&& !(x==("__debug__":Str))
noncomputable def fV (e:Expr):Bool:=e.ctorIdx !=16|| !eQ (fun _ es=>es.isEmpty) e
noncomputable def dg (e:Expr):Bool:=e.ctorIdx !=26
noncomputable def m8 (sc scope:Scope) (x:Str):Bool:=
 scope.kind== .function&&scope.names.all (fun p=>p.2 != .cell)&&scope.names.lookup x==some .local&&
 scope.names.all (fun p=>p.2 != .local||(scope.names.lookup p.1==some .local&&(p.1==x||p.1==(".0":Str))))&&scope.names.all (fun p=>p.2 != .free||sc.names.lookup p.1==some .cell)
noncomputable def iv (e:Expr):Bool:=e.ctorIdx !=22
noncomputable def gi (e:Expr):Bool:=e.ctorIdx==8||e.ctorIdx==9||e.ctorIdx==10
noncomputable def gH (sc:Scope) (x:Str):Bool:=sc.names.lookup x==some .local||sc.names.lookup x==some .cell
noncomputable def pT {α:Type} [BEq α]:List α->Bool
 |[]=>true
 |a::r=> !r.contains a&&pT r
structure Sx where
 fnm:Nat->Str×Bool
 att:Nat->Str
 key:Nat->Str
 gls:List (Str×(Option Int×List Nat))
 sc:Scope
 Γ:Gw
 lm:Option xY
end Mine.Internal
namespace Mine.Internal
open PySem PyProof.Rows PySem.W
variable {α β:Type} {C:bH} {A:Around} {P P' P₀:Pt} {E Q:Value->Shared->Prop} {ρ:bg} {hi lo u z:D} {v vl vu y:Value} {h h':Heap} {L a:Addr} {o o':Obj} {K:R PV->az->Prop} {w:bE} {i j k n t:Nat} {f f':cU} {p x:PV} {e:Expr} {s:Shared} {pos:Pos} {b c keep:Bool} {l:List D} {vs:List Value} {m:Int} {g:Fm} {σ:az} {es:List Expr} {env:Env} {ps:List PV} {st:Stmt} {G:List (Addr×Obj)} {ls:List Env} {fs:List Fm} {sc scope:Scope}
noncomputable def NG (K:Frag) (D:Addr):Bool:=
 findIn K (.ref D) "__getattribute__"==some (some (.builtin "BaseException.__getattribute__"))&&findIn K (.ref D) "__getattr__"==some none&&
 findIn K (.ref D) "__class__"==some (some (.builtin "object.__class__"))&&specialIn K (.builtin "object.__class__") "__get__"==some (some (.builtin "getset_descriptor.__get__"))&&
 takesIn K (.builtin "object.__class__")==some true&&mroIn K D (.type "object")==some true&&mroIn K D (.type "BaseException")==some true&&(clsIn K D).isSome
noncomputable def j5:Nat->Str
 |0=>"LedgerError"|1=>"BadName"|2=>"BadCurrency"|3=>"BadAmount"|4=>"BadDay"|5=>"BadNote"|6=>"BadRate"|7=>"Unbalanced"|8=>"Closed"|9=>"Taken"
 |10=>"TakenBack"|11=>"NoAccount"|12=>"NoEntry"|13=>"NoRate"|14=>"TooSmall"|15=>"NoPeriod"|16=>"BadText"|_=>"?"
noncomputable def fL:List (Str×Value):=[("len",.builtin "len"),("range",.type "range"),("min",.builtin "min"),("max",.builtin "max"),("abs",.builtin "abs"),("int",.type "int"),("str",.type "str"),("list",.type "list"),("tuple",.type "tuple"),
 ("dict",.type "dict"),("all",.builtin "all"),("sum",.builtin "sum"),("sorted",.builtin "sorted"),("isinstance",.builtin "isinstance"),("bool",.type "bool"),("ValueError",.type "ValueError")]
structure JN (C:bH):Prop where
 X:Frag.In C.K C.H
 name:C.mg "Book"=some (.ref C.book)
 cd:∃ cd,clsIn C.K C.book=some cd/\cd.hasDict=true
 plain:plainOver C.K C.book=true
 makes:makesIn C.K C.book=true
 ga:findIn C.K (.ref C.book) "__getattribute__"=some (some (.builtin "object.__getattribute__"))
 gattr:findIn C.K (.ref C.book) "__getattr__"=some none
 sattr:findIn C.K (.ref C.book) "__setattr__"=some (some (.builtin "object.__setattr__"))
 no:∀ k,k<7->findIn C.K (.ref C.book) (C.att k)=some none
 inj:∀ i,i<7->∀ k,k<7->C.att i=C.att k->i=k
 init:findIn C.K (.ref C.book) "__init__"=some (some (.ref (C.fadr 0)))/\typeIn C.K (.ref (C.fadr 0))=some (.type "function")
 meth:∀ m,(C.fnm m).2=true->findIn C.K (.ref C.book) (C.fnm m).1=some (some (.ref (C.fadr m)))/\typeIn C.K (.ref (C.fadr m))=some (.type "function")/\(∀ k,k<7->C.att k≠(C.fnm m).1)/\∃ o fd,C.H.get? (C.fadr m)=some o/\o.data= .func fd
def Lw (v:Value):Option Int×List Nat->Prop
 |(some i,_)=>∃ t,v= .int i t
 |(none,s)=>jb s/\∃ t,v= .str (cA s) t
structure fh (C:bH):Prop where
 g:C.H.Ns mainGlobals C.mg
 b:C.H.Ns builtinsNs C.mb
 nolimit:C.H.NoLimit
 nodigits:∃ mc,C.H.Ns cStatics mc/\mc "sys.int_max_str_digits"=none
 big:∃ o,C.H.get? sysModules=some o
 cls:JN C
 exc:∀ c,c<nX->OwnCls (j5 c) (C.exc c) [.type "ValueError",.type "Exception",.type "BaseException",.type "object"] "ValueError.__new__" C.mg C.H
 exk:∀ c,c<nX->NG C.K (C.exc c)=true
 kit:∀ c,c<nX->∀ k,k<nX->kitOne C.K (.ref (C.exc c)) (.ref (C.exc k))=some (c==k||k==0)
 kitV:∀ c,c<nX->kitOne C.K (.ref (C.exc c)) (.type "ValueError")=some true
 exm:∀ c,c<nX->∀ k,k<nX->exmOne C.K (.ref (C.exc c)) (.ref (C.exc k))=some (c==k||k==0)
 fn:∀ f,(C.fnm f).2=false->C.mg (C.fnm f).1=some (.ref (C.fadr f))/\∃ o fd,C.H.get? (C.fadr f)=some o/\o.data= .func fd
 bi:∀ p∈fL,C.mg p.1=none/\C.mb p.1=some p.2
 gl:∀ x q,C.gls.lookup x=some q->∃ v,C.mg x=some v/\Lw v q
 keys:∀ i j,i<100->j<100->C.key i=C.key j->i=j
 lam:∀ l,C.lam=some l->CodeHd C.H l.c l.P/\C.H.BuiltinsAt C.mg l.P/\mainGlobals≠l.P
def n6 (A:Around) (fs:List Fm):Prop:=∃ ls,A.frames=some ls/\∀ e∈ls,e.scope.kind≠ .module/\∃ f∈fs,e.frame=some f.L
def kept:cS->Prop
 | .no| .fr=>False
 |_=>True
def tS (C:bH) (P:Pt) (ls:List Env) (e:Addr) (c:Nat):Prop:=
 ∃ B:Heap,B.StaysIn P.h/\B.get? e=none/\P.h.FunFrames B ls/\(∀ b o,C.H.get? b=some o->B.get? b=some o)/\(∀ b o,kept (P.own b)->P.h.get? b=some o->B.get? b=some o)/\
  ((∃ oe vs a0,P.h.get? e=some oe/\oe.cls= .ref (C.exc c)/\oe.data= .fields vs/\vs[1]? =some Value.none/\vs[0]? =some a0)∨
  (∃ a0,P.h.TracedW B e (.ref (C.exc c)) a0)∨
  (∃ a0 env L,ls.head? =some env/\env.frame=some L/\P.h.TracedAtW B e (.ref (C.exc c)) a0 (rawInt L)))
inductive vE (C:bH) (A:Around) (P:Pt) (c:Nat):Value->Prop
 |mk {a:Addr} {ls:List Env}:A.frames=some ls->tS C P ls a c->vE C A P c (.ref a)
structure dW {α β:Type} (C:bH) (A:Around) (Rel:Pt->β->α->Prop) (P:Pt) (K:R α->az->Prop) (Q:β->Shared->Prop) (E:Value->Shared->Prop):Prop where
 ok:∀ p v P',bQ P P'->aL C P'->Rel P' v p->K (.ok p) P'.σ->Q v P'.s
 ex:∀ c e P',bQ P P'->aL C P'->vE C A P' c e->K (.ex c) P'.σ->E e P'.s
abbrev N2 (C:bH) (P:Pt) (vs:List Value) (ps:List PV):Prop:=kZ C P ps vs
abbrev oM (_:Pt) (c b:Bool):Prop:=c=b
section
variable {γ δ:Type} {Rel:Pt->β->α->Prop} {Rel':Pt->δ->γ->Prop} {K:R α->az->Prop} {Q:β->Shared->Prop}
theorem dW.mono (h:dW C A Rel P K Q E) (g:bQ P P'):dW C A Rel P' K Q E:=
 ⟨fun p v P'' g'=>h.ok p v P'' (g.trans g'),fun c e P'' g'=>h.ex c e P'' (g.trans g')⟩
theorem dW.bind {f:γ->PM α} {Q':δ->Shared->Prop} (h:dW C A Rel P K Q E) (k:∀ p v P',bQ P P'->aL C P'->Rel' P' v p->Wp K (f p P'.σ)->dW C A Rel P' K Q E->Q' v P'.s):dW C A Rel' P (bK K f) Q' E:=
 ⟨fun p v P' g i r w=>k p v P' g i r w (h.mono g),h.ex⟩
end
def vC (C:bH) (d:Nat):Prop:=∀ (hd:Bool) (A:Around) (P:Pt) (f:Nat) (args:List PV) (vs:List Value) (K:R PV->az->Prop) (Q E:Value->Shared->Prop),
 n6 A P.fs->C.H.objs.size<=P.h.objs.size->A.depth+8*d+144<recursionLimit->A.units+64*d+945<cLine->(hd=false->A.handled=none)->aL C P->kZ C P args vs->Wp K (kB C.T d hd f args P.σ)->dW C A (RV C) P K Q E->
 codeAny C.M A (.call (.ref (C.fadr f)) ⟨vs,[]⟩) (fun r s'=>match r with| .ok (.ret v)=>Q v s'| .ok _=>False| .error e=>E e s') P.s
def BM (sc:Scope) (env:Env):Prop:=∀ x,(n_ sc x=true->n_ env.scope x=true)/\(ef sc x=true->env.kindOf x=some .globalImplicit)/\(sc.names.lookup x=some .cell->env.kindOf x=some .cell/\∃ c,env.cells.lookup x=some c)
structure Cx where
 C:bH
 A:Around
 env:Env
 sc:Scope
 Γ:Gw
 d:Nat
 hd:Bool
 good:fh C
 calls:vC C d
 kinds:BM sc env
 kind:env.scope.kind= .function
 glob:env.globals=mainGlobals
 blt:env.builtins=builtinsNs
 dep:A.depth+8*d+150<recursionLimit
 uni:A.units+64*d+1000<cLine
 hnd:hd=false->A.handled=none
 lm:Option xY
variable {X:Cx}
noncomputable abbrev Cx.M (X:Cx):Model:=X.C.M
noncomputable def Cx.ker (X:Cx):cG:=⟨kB X.C.T X.d,X.hd⟩
noncomputable def Cx.sx (X:Cx):Sx:=⟨X.C.fnm,X.C.att,X.C.key,X.C.gls,X.sc,X.Γ,X.lm⟩
def BL (env:Env) (fs:List Fm) (x:Str) (v:Value):Prop:=
 (env.kindOf x=some .local/\∃ f∈fs,f.L=env.locals/\f.m x=some v)∨
 ((env.kindOf x=some .cell∨env.kindOf x=some .free)/\∃ c,env.cells.lookup x=some c/\∃ f∈fs,c∈f.cells/\f.cv c=some v)
structure EnvOK (X:Cx) (P:Pt) (ρ:bg):Prop where
 frs:n6 X.A P.fs
 ne:P.fs≠[]
 var:∀ x i p,X.Γ.lookup x=some i->n_ X.env.scope x=true->ρ[i]? =some (some p)->∃ v,RV X.C P v p/\BL X.env P.fs x v
theorem EnvOK.ext (h:EnvOK X P ρ) (g:bQ P P'):EnvOK X P' ρ:=
 ⟨g.fs ▸ h.frs,g.fs ▸ h.ne,fun x i p a b c=>by
  obtain ⟨v,r,l⟩:=h.var x i p a b c;exact ⟨v,r.ext g.toExt,g.fs ▸ l⟩⟩
abbrev bu {α β:Type} (X:Cx) (Rel:Pt->β->α->Prop) (P:Pt) (K:R α->az->Prop) (Q:β->Shared->Prop) (E:Value->Shared->Prop):Prop:=dW X.C X.A Rel P K Q E
abbrev We (X:Cx) (e:Expr) (Q E:Value->Shared->Prop) (P:Pt):Prop:=wpAny X.M X.A (eval e X.env) Q E P.s
structure CE where
 ev:cG->bg->PM PV
 is:Sx->Expr->Bool
 ok:∀ (X:Cx) (e:Expr) (ρ:bg) (P:Pt) (K:R PV->az->Prop) (Q E:Value->Shared->Prop),is X.sx e=true->aL X.C P->EnvOK X P ρ->Wp K (ev X.ker ρ P.σ)->bu X (RV X.C) P K Q E->We X e Q E P
structure CT where
 ts:cG->bg->PM Bool
 is:Sx->Expr->Bool
 ok:∀ (X:Cx) (e:Expr) (ρ:bg) (P:Pt) (K:R Bool->az->Prop) (Q:Bool->Shared->Prop) (E:Value->Shared->Prop),is X.sx e=true->aL X.C P->EnvOK X P ρ->Wp K (ts X.ker ρ P.σ)->bu X oM P K Q E->wpAny X.M X.A (isTrue e X.env (eval e X.env)) Q E P.s
structure CL where
 ev:cG->bg->PM (List PV)
 is:Sx->List Expr->Bool
 star:∀ sx es env pos,is sx es=true->∀ x∈backTo pos (starEach es env),x.1=false
 ok:∀ (X:Cx) (es:List Expr) (pos:Pos) (ρ:bg) (P:Pt) (K:R (List PV)->az->Prop) (Q:List Value->Shared->Prop) (E:Value->Shared->Prop),is X.sx es=true->aL X.C P->EnvOK X P ρ->Wp K (ev X.ker ρ P.σ)->bu X (N2 X.C) P K Q E->
  wpAny X.M X.A (spliced (backTo pos (starEach es X.env))) Q E P.s
section
theorem dW.here {Rel:Pt->β->α->Prop} {K:R α->az->Prop} {Q:β->Shared->Prop} {v:β} {p:α} (h:dW C A Rel P K Q E) (I:aL C P) (r:Rel P v p) (k:K (.ok p) P.σ):Q v P.s:=h.ok p v P (.refl P) I r k
def mw (C:bH) (P:Pt) (z:D) (Q:Value->Shared->Prop):Prop:=∀ w P',bQ P P'->aL C P'->RD C P'.own z w->P'.σ=P.σ->Q w P'.s
theorem mw.grown (k:mw C P z Q) (I:aL C P) (kp:∀ b o,P.h.get? b=some o->h'.get? b=some o) (r:RD C P.own z v) (t:Nat):Q v {P.s with heap:=h',toks:=t}:=k v (P.to h' t) (.to P h' t) (I.to kp) r rfl
theorem mw.tok (k:mw C P z Q) (I:aL C P) (r:RD C P.own z v) (t:Nat):Q v {P.s with toks:=t}:=k.grown I (fun _ _ e=>e) r t
theorem mw.here (k:mw C P z Q) (I:aL C P) (r:RD C P.own z v):Q v P.s:=k v P (.refl P) I r rfl
theorem mw.note (k:mw C P z Q) (I:aL C P) (n:vD C P h' a o) (t:Nat) (r:RD C (im P.own a (.fz o)) z (.ref a)):Q (.ref a) {P.s with heap:=h',toks:=t}:=k _ (P.note h' t a o) (.note n.own) (I.note n) r rfl
theorem mw.mono (k:mw C P z Q) (g:bQ P P') (e:P'.σ=P.σ):mw C P' z Q:=fun w P'' g' I r e'=>k w P'' (g.trans g') I r (e'.trans e)
theorem dW.fin (h:dW C A (RV C) P K Q E) (k:K (.ok (.d z)) P.σ):mw C P z Q:=fun w P' g I r e=>h.ok (.d z) w P' g I r (e ▸ k)
inductive iM (C:bH) (P:Pt) (l:List D):Value->Prop
 |mk {a:Addr} {vs:List Value} {n:Op}:P.h.get? a=some (uz vs n)->P.own a≠ .no->RDs C P.own l vs->iM C P l (.ref a)
inductive vA (C:bH) (P:Pt) (ks ps:List D):Value->Prop
 |mk {a:Addr} {o:Obj} {vs:List Value}:P.h.get? a=some o->P.own a≠ .no->fC C P.own o ks vs->RDs C P.own ps vs->vA C P ks ps (.ref a)
def fB (C:bH) (P:Pt) (v:Value):D->Prop
 | .lst l=>iM C P l v
 | .dct ks ps=>vA C P ks ps v
 |x=>RD C P.own x v
theorem kI (I:aL C P):∀ {x:D},RD C P.own x v->fB C P v x
 | .lst l,r=>by
  obtain ⟨e,r'⟩:kg C P.own uz l v:=r.view;exact .mk (I.fz _ _ e) (by rw[e];nofun) r'
 | .dct ks ps,r=>by
  obtain ⟨e,d,r'⟩:I0 C P.own ks ps v:=r.view;exact .mk (I.fz _ _ e) (by rw[e];nofun) d r'
 | .none,r=>r
 | .bool _,r=>r
 | .int _,r=>r
 | .str _,r=>r
 | .tup _,r=>r
 | .rng _ _ _,r=>r
 | .exc _,r=>r
theorem FA.at:∀ {f:cU},FA C w h n i v f->(∀ x,f≠ .d x)->jS C w h n (i+2) f v
 | .d _,_,hf=>absurd rfl (hf _)
 | .list _,r,_=>r
 | .dict _ _,r,_=>r
theorem jS.to {v':Value} (k:∀ a,w a= .cell n j->v'= .ref a):jS C w h n j f v->jS C w h n j f v':=fun h=>by
 obtain ⟨a,b,c⟩:=h;exact k _ a ▸ ⟨a,b,c⟩
theorem Jg:∀ {o:PO} {j:Nat},RO C w h n o->o.at j=some f->(∀ x,f≠ .d x)->∃ v,jS C w h n j f v:=by
 intro o j r e hf;cases o with
 |dead=>cases e
 |fld _=>
  cases j with
  |zero=>cases e;exact r
  |succ _=>cases e
 |wrp _=>
  obtain ⟨_,_,_,v,_,_,_,r⟩:=r
  match j,e with
  |0,e=>cases e
  |1,e=>cases e
  |2,e=>cases e;exact ⟨v,r⟩
  |_+3,e=>cases e
 |rcd b l=>
  match j,e with
  |0,e=>cases e
  |1,e=>cases e
  |j+2,e=>
  have e:l[j]? =some f:=e;have q:=(Sl.mp e).1;cases b with
  |true=>
   obtain ⟨_,_,_,_,_,h6,_,h8⟩:i9 C w h n l:=r;rw[<-h6] at q;exact ⟨_,(h8 j f _ e (Sn q)).at hf⟩
  |false=>
   obtain ⟨_,_,_,h4,_,_,h8⟩:rO C w h n l:=r;rw[<-h4] at q;exact ⟨_,(h8 j f _ e (Sn q)).at hf⟩
theorem nU (I:aL C P) (r:RV C P v (.p n j)) (e:ck P.σ n j=some f) (hf:∀ x,f≠ .d x):jS C P.own P.h n j f v:=by
 obtain ⟨o,e1,e2⟩:=Option.bind_eq_some_iff.mp e;obtain ⟨_,q⟩:=Jg (I.obj n o e1) e2 hf;exact q.to r.2
theorem jm:∀ {f:cU} {x:D},f.rd=some x->f.toD=x/\∀ x,f≠ .d x
 | .list _,_,e=>by cases e;exact ⟨rfl,nofun⟩
 | .dict _ _,_,e=>by cases e;exact ⟨rfl,nofun⟩
theorem Hp:∀ {f:cU},jS C P.own P.h n j f v->fB C P v f.toD:=by
 intro Z0 Z2;cases Z0 with
 |d _=>
  obtain ⟨_,_,h⟩:=Z2;exact h.elim
 |list _=>
  obtain ⟨h1,h2,h3⟩:=Z2;obtain ⟨vs,k,rfl,h3⟩:=h3;exact .mk (n:=⟨k,none,#[]⟩) h2 (by rw[h1];nofun) h3
 |dict _ _=>
  obtain ⟨h1,h2,h3⟩:=Z2;obtain ⟨vs,h3,h4⟩:=h3;exact .mk h2 (by rw[h1];nofun) h3 h4
theorem bL (I:aL C P) {x:D}:∀ {p:PV},RV C P v p->rd P.σ p=some x->fB C P v x:=by
 intro Z0 r e;cases Z0 with
 |d y=>
  cases e;exact kI I r
 |p n j=>
  obtain ⟨f,e1,e2⟩:=Option.bind_eq_some_iff.mp e;exact (jm e2).1 ▸ Hp (nU I r e1 (jm e2).2)
 |b _ _=>cases e
theorem fB.ext (g:bQ P P') (k:∀ b o,P.own b≠ .no->P.h.get? b=some o->P'.h.get? b=some o/\P'.own b≠ .no):∀ {x:D},fB C P v x->fB C P' v x
 | .lst l,r=>by
  obtain ⟨a,b,c⟩:iM C P l v:=r;exact .mk (k _ _ b a).1 (k _ _ b a).2 (c.ext g.fz)
 | .dct ks ps,r=>by
  obtain ⟨a,b,c,d⟩:vA C P ks ps v:=r;exact .mk (k _ _ b a).1 (k _ _ b a).2 (c.ext g.fz) (d.ext g.fz)
 | .none,r=>RD.ext g.fz r
 | .bool _,r=>RD.ext g.fz r
 | .int _,r=>RD.ext g.fz r
 | .str _,r=>RD.ext g.fz r
 | .tup _,r=>RD.ext g.fz r
 | .rng _ _ _,r=>RD.ext g.fz r
 | .exc _,r=>RD.ext g.fz r
theorem th:∀ {o:Option (Option α)} {a:α},o.join=some a->o=some (some a)
 |some (some _),_,e=>by cases e;rfl
end
section
theorem K5 (i:Nat) (h:dD (fun x _=>X.sx.Γ.lookup x==some i&&n_ X.sx.sc x&& !(x==("__debug__":Str))&& !(x==("__classdict__":Str))) e=true) (I:aL X.C P) (G:EnvOK X P ρ) (w:Wp K (Hm ((ρ[i]?).join) P.σ)) (p:bu X (RV X.C) P K Q E):
  wpAny X.M X.A (eval e X.env) Q E P.s:=by
 refine cw (fun e=>wpAny X.M X.A (eval e X.env) Q E P.s) h fun x pos h=> ?_;obtain ⟨q,e1,k⟩:=gI w;obtain ⟨v,r,l⟩:=G.var x i q (bR (ai (ai (ai h)))) ((X.kinds x).1 (an (ai (ai h)))) (th e1);have done:Q v P.s:=p.here I r k;have n1:=(Bool.not_eq_true' _).mp (an (ai h));rcases l with ⟨hk,f,hf,hL,hm⟩|⟨hk,c,hc,f,hf,hcf,hcv⟩
 .exact wpAny_Name (wpAny_loadName_local X.kind hk (hL ▸ (I.fr.ns f hf).1) hm done) n1
 .have hcell:=(I.fr.cl f hf c hcf).1;rw[hcv] at hcell;rcases hk with hk|hk
  .exact wpAny_Name (wpAny_loadName_cell X.kind hk hc hcell done) n1
  .exact wpAny_Name (wpAny_loadName_free X.kind hk hc hcell done ((Bool.not_eq_true' _).mp (an h))) n1
theorem F1 (h:cj (fun c _ _=>IL c) e=true) (I:aL X.C P) (w:Wp K (ret (.d .none) P.σ)) (p:bu X (RV X.C) P K Q E):We X e Q E P:=
 cI (fun e=>We X e Q E P) h fun c k pos h=>Dw (fun c=>wpAny X.M X.A (eval (.Constant c k pos) X.env) Q E P.s) h (wpAny_Constant_none ((p.fin w).here I .none))
theorem F8 (b:Bool) (h:cj (fun c _ _=>IN (fun c=>b==c) c) e=true) (I:aL X.C P) (w:Wp K (ret (.d (.bool b)) P.σ)) (p:bu X (RV X.C) P K Q E):We X e Q E P:=
 cI (fun e=>We X e Q E P) h fun c k pos h=>Dy (fun c=>wpAny X.M X.A (eval (.Constant c k pos) X.env) Q E P.s) h fun c h=>wpAny_Constant_bool ((p.fin w).here I (bR h ▸ .bool b))
theorem IC (i:Int) (h:cj (fun c _ _=>IM (fun j=>i==j) c) e=true) (I:aL X.C P) (w:Wp K (ret (.d (.int i)) P.σ)) (p:bu X (RV X.C) P K Q E):We X e Q E P:=
 cI (fun e=>We X e Q E P) h fun c k pos h=>Dx (fun c=>wpAny X.M X.A (eval (.Constant c k pos) X.env) Q E P.s) h fun j h=>wpAny_Constant_int ((p.fin w).tok I (bR h ▸ .int i _) _)
theorem pL {x:Str} {s:List Nat} (h:x.cps.toList=s) (k:jb s) (t:Tok):RD C w (.str s) (.str x t):=by
 obtain ⟨⟨l⟩⟩:=x;subst h;exact .str _ t k
noncomputable def Mf (s:List Nat):Bool:=s.all (· <0x110000)&&decide (s.length<=1000)
theorem yB {s:List Nat} (h:Mf s=true):jb s:=⟨fun c hc=>S3 (List.all_eq_true.mp (ai h) c hc),Ss (S3 (an h)) (by decide)⟩
theorem Ix (s:List Nat) (h:cj (fun c _ _=>Dv (fun x=>x.cps.toList==s&&Mf s) c) e=true) (I:aL X.C P) (w:Wp K (ret (.d (.str s)) P.σ)) (p:bu X (RV X.C) P K Q E):We X e Q E P:=
 cI (fun e=>We X e Q E P) h fun c k pos h=>nj (fun c=>wpAny X.M X.A (eval (.Constant c k pos) X.env) Q E P.s) h fun x h=>wpAny_Constant_str ((p.fin w).tok I (pL (bR (ai h)) (yB (an h)) _) _)
theorem d9 {x:Str} (I:aL X.C P) (hw:ef X.sc x=true) (hv:X.C.mg x=some v) (h:Q v P.s):wpAny X.M X.A (eval (.Name x pos) X.env) Q E P.s:=
 Calls.Name_function_global X.kind ((X.kinds x).2.1 hw) (Calls.loadGlobal_global (mg:=X.C.mg) (X.glob ▸ X.good.g.keeps fun b o e=>(I.base b o e).1) hv h) ((Bool.not_eq_true' _).mp (an hw))
theorem fI {x:Str} (I:aL X.C P) (hw:ef X.sc x=true) (hb:(x,v)∈fL) (h:Q v P.s):wpAny X.M X.A (eval (.Name x pos) X.env) Q E P.s:=
 Calls.Name_function_global X.kind ((X.kinds x).2.1 hw) (Calls.loadGlobal_builtin (mg:=X.C.mg) (mb:=X.C.mb) (X.glob ▸ X.good.g.keeps fun b o e=>(I.base b o e).1) (X.good.bi _ hb).1 (X.blt ▸ X.good.b.keeps fun b o e=>(I.base b o e).1) (X.good.bi _ hb).2 h) ((Bool.not_eq_true' _).mp (an hw))
noncomputable def QR:Option Int×List Nat->D
 |(some i,_)=>.int i
 |(none,s)=>.str s
theorem Nx:∀ {q:Option Int×List Nat},Lw v q->RD C w (QR q) v
 |(some i,_),⟨t,e⟩=>e ▸ .int i t
 |(none,s),⟨h,t,e⟩=>e ▸ .str s t h
theorem Lv (x:Str) (q:Option Int×List Nat) (h:dD (fun y _=>y==x&&ef X.sx.sc x&&X.sx.gls.lookup x==some q) e=true) (I:aL X.C P) (w:Wp K (ret (.d (QR q)) P.σ)) (p:bu X (RV X.C) P K Q E):wpAny X.M X.A (eval e X.env) Q E P.s:=by
 refine cw (fun e=>wpAny X.M X.A (eval e X.env) Q E P.s) h fun y pos h=> ?_;obtain ⟨v,hv,hg⟩:=X.good.gl x q (bR (an h));rw[bR (ai (ai h))];exact d9 I (an (ai h)) hv ((p.fin w).here I (Nx hg))
end
noncomputable def ag (i:Nat):CE:=⟨fun _ ρ=>Hm ((ρ[i]?).join),fun x=>dD fun y _=>x.Γ.lookup y==some i&&n_ x.sc y&& !(y==("__debug__":Str))&& !(y==("__classdict__":Str)),fun _ _ _ _ _ _ _ h I G w p=>K5 i h I G w p⟩
noncomputable def gp:CE:=⟨fun _ _=>ret (.d .none),fun _=>cj fun c _ _=>IL c,fun _ _ _ _ _ _ _ h I _ w p=>F1 h I w p⟩
noncomputable def co (b:Bool):CE:=⟨fun _ _=>ret (.d (.bool b)),fun _=>cj fun c _ _=>IN (fun c=>b==c) c,fun _ _ _ _ _ _ _ h I _ w p=>F8 b h I w p⟩
noncomputable def ah (i:Int):CE:=⟨fun _ _=>ret (.d (.int i)),fun _=>cj fun c _ _=>IM (fun j=>i==j) c,fun _ _ _ _ _ _ _ h I _ w p=>IC i h I w p⟩
noncomputable def aH (s:List Nat):CE:=⟨fun _ _=>ret (.d (.str s)),fun _=>cj fun c _ _=>Dv (fun x=>x.cps.toList==s&&Mf s) c,fun _ _ _ _ _ _ _ h I _ w p=>Ix s h I w p⟩
noncomputable def zy (x:Str) (q:Option Int×List Nat):CE:=⟨fun _ _=>ret (.d (QR q)),fun c=>dD fun y _=>y==x&&ef c.sc x&&c.gls.lookup x==some q,fun _ _ _ _ _ _ _ h I _ w p=>Lv x q h I w p⟩
section
theorem d5 {v:D} {j:Int} (e:iD v=some j) (h:fB C P y v):∃ t,y= .int j t:=by
 cases v<;>first|(cases e;exact RD.view h)|cases e
theorem fQ {v:D} {s:List Nat} (e:sD v=some s) (h:fB C P y v):jb s/\∃ t,y= .str (cA s) t:=by
 cases v<;>first|(cases e;exact RD.view h)|cases e
theorem LZ {v:D} (e:bD v=some b) (h:fB C P y v):y= .bool b:=by
 cases v<;>first|(cases e;exact RD.view h)|cases e
theorem J7 {v:D} (e:tD v=some l) (h:fB C P y v):kg C P.own cy l y:=by
 cases v<;>first|(cases e;exact RD.view h)|cases e
theorem gP {v:D} (e:lD v=some l) (h:fB C P y v):iM C P l y:=by
 cases v<;>first|(cases e;exact h)|cases e
theorem eb {c:Prop} [Decidable c] {a x:α} (h:au c a=some x):c/\a=x:=by
 unfold au at h;by_cases k:c
 .rw[if_pos k] at h;exact ⟨k,S_ h⟩
 .rw[if_neg k] at h;cases h
theorem aq {f:α->Option β} {b:β}:∀ {o:Option α},o.bind f=some b->∃ a,o=some a/\f a=some b
 |some a,h=>⟨a,rfl,h⟩
theorem a_ {f:α->β} {b:β}:∀ {o:Option α},o.map f=some b->∃ a,o=some a/\f a=b
 |some a,h=>⟨a,rfl,S_ h⟩
theorem KU {a b:Int} (h:g9 a b=true):IntMulOk a b:=by
 simp only [g9,Bool.or_eq_true,decide_eq_true_eq] at h;rcases h with (h|h)|h
 .exact .of_left (intBits_le_64 (MX h) (MV h))
 .exact .of_right (intBits_le_64 (MX h) (MV h))
 .unfold IntMulOk Builtin.Int.intTooBig;simp only [Bool.and_eq_true,decide_eq_true_eq,not_and,and_imp];intro _ _ q;have h1:Builtin.Int.intBits a<=a.natAbs.log2+1:=by unfold Builtin.Int.intBits;split<;>omega
  have h2:Builtin.Int.intBits b<=b.natAbs.log2+1:=by unfold Builtin.Int.intBits;split<;>omega
  simp only [bitsLine] at q;exact O3 h q h1 h2
theorem zT {a b:Int} (h:jJ b=true):b≠0/\Builtin.divisionGoesByPylong a b=false:=by
 simp only [jJ,Bool.and_eq_true,bne_iff_ne,ne_eq,decide_eq_true_eq] at h;refine ⟨h.1,?_⟩;unfold Builtin.divisionGoesByPylong;have hb:b.natAbs.log2<9000:=by
  have:b.natAbs≠0:=by have:=h.1;exact Int.natAbs_ne_zero.mpr this
  exact (Nat.log2_lt this).mpr h.2
 have h0:(b==0)=false:=by simpa using h.1
 simp only [h0,Bool.and_eq_false_iff,decide_eq_false_iff_not]
 left
 simp only [Bool.false_eq_true,if_false];exact Tm.mpr (Nat.succ_le_of_lt ((Nat.div_lt_iff_lt_mul (by decide)).mpr hb))
structure BO where
 op:Operator
 g:D->D->Option D
 ok:∀ {C:bH} {A:Around} {P:Pt} {u v z:D} {x y:Value} {Q E:Value->Shared->Prop},aL C P->fB C P x u->fB C P y v->g u v=some z->mw C P z Q->wpAny C.M A (binaryOp op x y) Q E P.s
noncomputable def ti (f:Int->Int->Option Int) (u v:D):Option D:=(iD u).bind fun a=>(iD v).bind fun b=>(f a b).map .int
theorem hV {f:Int->Int->Option Int} {v:D} {x:Value} (h:ti f u v=some z) (hu:fB C P x u) (hv:fB C P y v):∃ a b c t s,x= .int a t/\y= .int b s/\f a b=some c/\z= .int c:=by
 obtain ⟨a,e1,h⟩:=aq h;obtain ⟨b,e2,h⟩:=aq h;obtain ⟨c,e3,h⟩:=a_ h;obtain ⟨t,e4⟩:=d5 e1 hu;obtain ⟨s,e5⟩:=d5 e2 hv;exact ⟨a,b,c,t,s,e4,e5,e3,h.symm⟩
noncomputable def c_:BO:=⟨.Sub,ti fun a b=>some (a - b),fun I hu hv e k=>by
 obtain ⟨a,b,c,t,s,rfl,rfl,e',rfl⟩:=hV e hu hv;cases e';exact sub_int (k.tok I (.int _ _) _)⟩
noncomputable def bA:BO:=⟨.Mod,ti fun a b=>au (jJ b=true) (a.fmod b),fun I hu hv e k=>by
 obtain ⟨a,b,c,t,s,rfl,rfl,e',rfl⟩:=hV e hu hv;obtain ⟨hm,rfl⟩:=eb e';exact mod_int' (zT (a:=0) hm).1 (k.tok I (.int _ _) _)⟩
noncomputable def bY:BO:=⟨.FloorDiv,ti fun a b=>au (jJ b=true) (a.fdiv b),fun I hu hv e k=>by
 obtain ⟨a,b,c,t,s,rfl,rfl,e',rfl⟩:=hV e hu hv;obtain ⟨hm,rfl⟩:=eb e';exact floordiv_int (zT (a:=0) hm).1 (k.tok I (.int _ _) _) (.inl (zT hm).2)⟩
noncomputable def yD:BO:=⟨.Pow,ti fun a b=>au (0<=b/\b<=1000/\0<=a/\a<=1000) (a^b.toNat),fun I hu hv e k=>by
 obtain ⟨a,b,c,t,s,rfl,rfl,e',rfl⟩:=hV e hu hv;obtain ⟨hm,rfl⟩:=eb e';exact pow_int_small hm.1 (by exact SS hm.2.1 (by decide)) (by exact nA hm.2.2.1 (ST hm.2.2.2 (by decide))) (k.tok I (.int _ _) _)⟩
noncomputable def fT:BO:=⟨.Mult,ti fun a b=>au (g9 a b=true) (a*b),fun I hu hv e k=>by
 obtain ⟨a,b,c,t,s,rfl,rfl,e',rfl⟩:=hV e hu hv;obtain ⟨hm,rfl⟩:=eb e';exact mul_int (k.tok I (.int _ _) _) (KU hm)⟩
noncomputable def NX (u v:D):Option D:=match u with
 | .int a=>(iD v).map fun b=>.int (a+b)
 | .str a=>(sD v).bind fun b=>au (a.length+b.length<=dM) (.str (a++b))
 | .tup a=>(tD v).bind fun b=>au (a.length+b.length<=dM) (.tup (a++b))
 | .lst a=>(lD v).bind fun b=>au (a.length+b.length<=dM) (.lst (a++b))
 |_=>none
theorem aL.newTup (I:aL C P) (vs:List Value) (n:Nat):vD C P (P.h.push (cy vs n)) P.h.objs.size (cy vs n):=I.push rfl
theorem t_ (I:aL C P) (e:P.own a= .no) (r:RDs C P.own l vs) (ho:o=cy vs n):RD C (im P.own a (.fz o)) (.tup l) (.ref a):=.tup (by rw[bU,ho]) (r.ext (eG e))
theorem kH (I:aL C P) (e:P.own a= .no) (r:RDs C P.own l vs) (ho:o=aU vs n):RD C (im P.own a (.fz o)) (.lst l) (.ref a):=.lst (n:=⟨n,none,#[]⟩) (by rw[bU,ho]) (r.ext (eG e))
theorem IS {x y:List D} {u:Value} (I:aL C P) (hu:kg C P.own cy x u) (hv:kg C P.own cy y v) (hm:x.length+y.length<=dM) (k:mw C P (.tup (x++y)) Q):wpAny C.M A (binaryOp .Add u v) Q E P.s:=by
 obtain @⟨a1,vs1,n1,o1,r1⟩:=hu;obtain @⟨a2,vs2,n2,o2,r2⟩:=hv;have l1:=r1.length;have l2:=r2.length;have g1:=I.fz _ _ o1;have g2:=I.fz _ _ o2;by_cases hv:vs1=[]
 .subst hv;obtain rfl:x=[]:=List.eq_nil_of_length_eq_zero l1.symm;exact concat_meets ⟨_,g1,rfl⟩ ⟨_,g2,rfl⟩ noFill_tuple_add seq_tuple_add PySem.F.slot_tuple_add PySem.F.entry_tuple_add (PySem.F.args_tuple_add_2 _ _)
   (tuple_addW0 a1 a2 _ _ n1 n2 none none #[] #[] (by simp)) ⟨g1,g2,k.here I (.tup o2 r2)⟩
 .by_cases hw:vs2=[]
  .subst hw;obtain rfl:y=[]:=List.eq_nil_of_length_eq_zero l2.symm;exact concat_meets ⟨_,g1,rfl⟩ ⟨_,g2,rfl⟩ noFill_tuple_add seq_tuple_add PySem.F.slot_tuple_add PySem.F.entry_tuple_add (PySem.F.args_tuple_add_2 _ _)
    (tuple_addW1 a1 a2 _ _ n1 n2 none none #[] #[] (by simpa using hv) (by simp)) ⟨g1,g2,k.here I (by rw[List.append_nil];exact .tup o1 r1)⟩
  .refine concat_meets ⟨_,g1,rfl⟩ ⟨_,g2,rfl⟩ noFill_tuple_add seq_tuple_add PySem.F.slot_tuple_add PySem.F.entry_tuple_add (PySem.F.args_tuple_add_2 _ _)
    (tuple_addW2 a1 a2 _ _ n1 n2 none none #[] #[] (by simpa using hv) (by simpa using hw) (by simpa [sizeLine,dM,l1,l2] using hm)) ⟨g1,g2,?_⟩
   have:=k.note I (I.newTup (vs1++vs2) 0) P.s.toks (t_ I (I.off (Sv _)) (r1.append r2) rfl)
   simpa using this
theorem BJ {l b:Addr} {ws:List Value} {n m:Op} (hl:s.heap.get? l=some (uz vs n)) (hb:s.heap.get? b=some (uz ws m)) (h:Q (.ref s.heap.objs.size) {s with heap:=s.heap.push {cls:=.type "list",data:=.seq (vs.toArray++ws.toArray)}}) (hsz:vs.toArray.size+ws.toArray.size<=sizeLine):wpAny C.M A (binaryOp .Add (.ref l) (.ref b)) Q E s:=
 concat_meets ⟨_,hl,rfl⟩ ⟨_,hb,rfl⟩ noFill_list_add seq_list_add PySem.F.slot_list_add PySem.F.entry_list_add (PySem.F.args_list_add_2 _ _) (list_addW l b vs.toArray ws.toArray n.n m.n n.d m.d n.sl m.sl hsz) ⟨hl,hb,h⟩
theorem IT {x y:List D} {u:Value} (I:aL C P) (hu:iM C P x u) (hv:iM C P y v) (hm:x.length+y.length<=dM) (k:mw C P (.lst (x++y)) Q):wpAny C.M A (binaryOp .Add u v) Q E P.s:=by
 obtain @⟨a1,vs1,n1,g1,_,r1⟩:=hu;obtain @⟨a2,vs2,n2,g2,_,r2⟩:=hv;refine BJ g1 g2 ?_ (by simpa [sizeLine,dM,r1.length,r2.length] using hm);have:=k.note I (I.push (o:=aU (vs1++vs2) 0) rfl) P.s.toks (kH I (I.off (Sv _)) (r1.append r2) rfl)
 simpa using this
theorem L6 (I:aL C P):∀ {u v z:D} {x y:Value},fB C P x u->fB C P y v->NX u v=some z->mw C P z Q->wpAny C.M A (binaryOp .Add x y) Q E P.s:=by
 intro Z0 v z x y hu hv e k;cases Z0 with
 |int a=>
  obtain ⟨b,e1,rfl⟩:=a_ e;obtain ⟨t,rfl⟩:=RD.view hu;obtain ⟨s,rfl⟩:=d5 e1 hv;exact add_int (k.tok I (.int _ _) _)
 |str a=>
  obtain ⟨b,e1,e⟩:=aq e;obtain ⟨hm,rfl⟩:=eb e;obtain ⟨ha,t,rfl⟩:=RD.view hu;obtain ⟨hb,s,rfl⟩:=fQ e1 hv;refine add_str (fun t' tk=>k.tok I ?_ _) (by simpa [Str.length,sizeLine,dM] using hm);exact pL (by rw[Str.cps_append];simp) ⟨fun c hc=>(SC.mp hc).elim (ha.1 c) (hb.1 c),by simpa using hm⟩ _
 |tup a=>
  obtain ⟨b,e1,e⟩:=aq e;obtain ⟨hm,rfl⟩:=eb e;exact IS I (RD.view hu) (J7 e1 hv) hm k
 |lst a=>
  obtain ⟨b,e1,e⟩:=aq e;obtain ⟨hm,rfl⟩:=eb e;exact IT I hu (gP e1 hv) hm k
 |_=>cases e
noncomputable def a9:BO:=⟨.Add,NX,fun I hu hv e k=>L6 I hu hv e k⟩
noncomputable def Kz (g:D->D->Option D) (x y:PV):PM PV:=fun σ=>(rd σ x).bind fun u=>(rd σ y).bind fun v=>(g u v).map fun z=>(.ok (.d z),σ)
theorem tU {g:D->D->Option D} {y:PV} (h:Wp K (Kz g x y σ)):∃ u v z,rd σ x=some u/\rd σ y=some v/\g u v=some z/\K (.ok (.d z)) σ:=by
 unfold Kz at h;cases e1:rd σ x with
 |none=>rw[e1] at h;exact h.elim
 |some u=>
 cases e2:rd σ y with
 |none=>rw[e1,e2] at h;exact h.elim
 |some v=>
 cases e3:g u v with
 |none=>rw[e1,e2,Si,Si,e3] at h;exact h.elim
 |some z=>rw[e1,e2,Si,Si,e3] at h;exact ⟨u,v,z,rfl,rfl,e3,h⟩
end
section
theorem LV (o:BO) (a b:CE) (h:mq (fun l op r _=>op==o.op&&a.is X.sx l&&b.is X.sx r) e=true) (I:aL X.C P) (G:EnvOK X P ρ) (w:Wp K (bW (a.ev X.ker ρ) (fun x=>bW (b.ev X.ker ρ) fun y=>Kz o.g x y) P.σ)) (p:bu X (RV X.C) P K Q E):
  wpAny X.M X.A (eval e X.env) Q E P.s:=
 mj (fun e=>wpAny X.M X.A (eval e X.env) Q E P.s) h fun l op r pos h=>wpAny_BinOp (a.ok X l ρ P _ _ E (an (ai h)) I G (aR w) (p.bind fun x v P1 g1 I1 r1 w p=>
  b.ok X r ρ P1 _ _ E (an h) I1 (G.ext g1) (aR w) (p.bind fun y u P2 g2 I2 r2 w p=>by
   obtain ⟨i,j,z,e1,e2,e3,k⟩:=tU w;rw[bR (ai (ai h))];exact o.ok I2 (bL I2 (r1.ext g2.toExt) e1) (bL I2 r2 e2) e3 (p.fin k))))
end
noncomputable def aK (o:BO) (a b:CE):CE:=⟨fun K ρ=>bW (a.ev K ρ) fun x=>bW (b.ev K ρ) fun y=>Kz o.g x y,fun s=>mq fun l op r _=>op==o.op&&a.is s l&&b.is s r,fun _ _ _ _ _ _ _ h I G w p=>LV o a b h I G w p⟩
noncomputable def OF (p:D->Bool):D->Bool
 | .none=>true
 | .int _=>true
 | .str _=>true
 | .tup l=>l.all p
 | .lst l=>l.all p
 |_=>false
noncomputable def pl:Nat->D->Bool
 |0=>OF fun _=>false
 |n+1=>OF (pl n)
noncomputable def AK (f:D->PyData):D->PyData
 | .none=>.none
 | .int i=>.int i
 | .str s=>.str (cA s)
 | .tup l=>.tuple (l.map f)
 | .lst l=>.list (l.map f)
 |_=>.dict []
noncomputable def py:Nat->D->PyData
 |0=>AK fun _=>.none
 |n+1=>AK (py n)
theorem kM {f:D->PyData} {p:D->Bool} (ih:∀ x y,p x=true->p y=true->(PyData.eqv (f x) (f y)=true<->x=y)):∀ l m:List D,l.all p=true->m.all p=true->(PyData.eqvAll (l.map f) (m.map f)=true<->l=m)
 |[],[],_,_=>⟨fun _=>rfl,fun _=>by simp [PyData.eqvAll]⟩
 |[],_::_,_,_=>⟨fun h=>by simp [PyData.eqvAll] at h,nofun⟩
 |_::_,[],_,_=>⟨fun h=>by simp [PyData.eqvAll] at h,nofun⟩
 |x::l,y::m,h1,h2=>by
  have q:=ih x y (ai h1) (ai h2);have r:=kM ih l m (an h1) (an h2);rw[List.map_cons,List.map_cons,PyData.eqvAll,Bool.and_eq_true,q,r,List.cons.injEq]
theorem EJ (a b:List Nat):(cA a==cA b)=true<->a=b:=by
 rw[beq_iff_eq];exact ⟨fun h=>congrArg Array.toList (congrArg Str.cps h),fun h=>by rw[h]⟩
inductive IV (p:D->Bool):D->Prop
 |none:IV p .none
 |int (i:Int):IV p (.int i)
 |str (s:List Nat):IV p (.str s)
 |tup (l:List D):l.all p=true->IV p (.tup l)
 |lst (l:List D):l.all p=true->IV p (.lst l)
theorem j1 {p:D->Bool}:∀ {x:D},OF p x=true->IV p x
 | .none,_=>.none
 | .int i,_=>.int i
 | .str s,_=>.str s
 | .tup l,h=>.tup l h
 | .lst l,h=>.lst l h
 | .bool _,h=>absurd h SI
 | .dct _ _,h=>absurd h SI
 | .rng _ _ _,h=>absurd h SI
 | .exc _,h=>absurd h SI
theorem xt {f:D->PyData} {p:D->Bool} (ih:∀ x y,p x=true->p y=true->(PyData.eqv (f x) (f y)=true<->x=y)) {x y:D} (hx:IV p x) (hy:IV p y):PyData.eqv (AK f x) (AK f y)=true<->x=y:=by
 cases hx with
 |none=>cases hy<;>(delta AK;simp [PyData.eqv])
 |int i=>
  cases hy with
  |int j=>(delta AK;simp only [PyData.eqv,beq_iff_eq]);exact ⟨fun h=>h ▸ rfl,fun h=>by injection h⟩
  |_=>(delta AK;simp [PyData.eqv])
 |str s=>
  cases hy with
  |str t=>(delta AK;simp only [PyData.eqv]);exact (EJ s t).trans ⟨fun h=>h ▸ rfl,fun h=>by injection h⟩
  |_=>(delta AK;simp [PyData.eqv])
 |tup l h=>
  cases hy with
  |tup m h'=>(delta AK;simp only [PyData.eqv]);exact (kM ih l m h h').trans ⟨fun h=>h ▸ rfl,fun h=>by injection h⟩
  |_=>(delta AK;simp [PyData.eqv])
 |lst l h=>
  cases hy with
  |lst m h'=>(delta AK;simp only [PyData.eqv]);exact (kM ih l m h h').trans ⟨fun h=>h ▸ rfl,fun h=>by injection h⟩
  |_=>(delta AK;simp [PyData.eqv])
theorem u8:∀ (n:Nat) (x y:D),pl n x=true->pl n y=true->(PyData.eqv (py n x) (py n y)=true<->x=y):=by
 intro n
 induction n with
 |zero=>
  intro _ _ hx hy;exact xt (fun _ _ h=>absurd h SI) (j1 hx) (j1 hy)
 |succ n ih=>
  intro _ _ hx hy;exact xt (ih) (j1 hx) (j1 hy)
section
theorem pC {l:List Nat} (h:∀ c∈l,c<0x110000):PyData.strOk (cA l)=true:=by
 simp only [PyData.strOk,List.all_toArray,List.all_eq_true,decide_eq_true_eq];exact h
inductive rP (h:Heap) (n:Nat) (v:Value) (d:PyData):Prop
 |mk (as:List Addr):Reads h v d as->d.canLay0=true->d.depth<=n->rP h n v d
inductive BN (h:Heap) (n:Nat) (vs:List Value) (ds:List PyData):Prop
 |mk (as:List Addr):ReadsAll h vs ds as->PyData.canLayAll0 ds=true->PyData.depthAll ds<=n->BN h n vs ds
theorem gD {h:Heap} {n:Nat} {f:D->PyData} {p:D->Bool} (ih:∀ x v,RD C P.own x v->p x=true->rP h n v (f x)):∀ {l:List D} {vs:List Value},RDs C P.own l vs->l.all p=true->BN h n vs (l.map f)
 |[],vs,r,_=>by rw[show vs=[] from r.view];exact .mk _ .nil rfl (SN _)
 |x::l,vs,r,e=>by
  obtain ⟨r1,r2⟩:dF C P.own x l vs:=r.view;obtain ⟨as,a1,a2,a3⟩:=ih x _ r1 (ai e);obtain ⟨bs,b1,b2,b3⟩:=gD ih r2 (an e);refine .mk _ (.cons a1 b1) ?_ ?_
  .rw[List.map_cons,PyData.canLayAll0,a2,b2];rfl
  .rw[List.map_cons,PyData.depthAll];exact Nat.max_le.mpr ⟨a3,b3⟩
theorem wa (I:aL C P) {f:D->PyData} {p:D->Bool} (ih:∀ x v,RD C P.own x v->p x=true->rP P.h n v (f x)) {x:D} (r:fB C P v x) (e:IV p x):rP P.h (n+1) v (AK f x):=by
 cases e with
 |none=>cases RD.view r;exact .mk _ .none rfl (SN _)
 |int i=>obtain ⟨t,rfl⟩:=RD.view r;exact .mk _ (.int _ _) rfl (SN _)
 |str s=>obtain ⟨hs,t,rfl⟩:=RD.view r;exact .mk _ (.str _ _) (pC hs.1) (SN _)
 |tup l h=>
  obtain ⟨o,s⟩:kg C P.own cy l v:=RD.view r;obtain ⟨as,a1,a2,a3⟩:=gD ih s h;exact .mk _ (reads_tuple_at (I.fz _ _ o) rfl rfl (by simpa using a1)) a2 (Tj a3)
 |lst l h=>
  obtain ⟨o,_,s⟩:iM C P l v:=r;obtain ⟨as,a1,a2,a3⟩:=gD ih s h;exact .mk _ (reads_list_at o rfl rfl (by simpa using a1)) a2 (Tj a3)
theorem j3 (I:aL C P):∀ (n:Nat) (x:D) (v:Value),fB C P v x->pl n x=true->rP P.h (n+1) v (py n x):=by
 intro n
 induction n with
 |zero=>
  intro _ _ r e;exact wa I (n:=0) (p:=fun _=>false) (fun _ _ _ h=>absurd h SI) r (j1 e)
 |succ n ih=>
  intro _ _ r e;exact wa I (fun x v r e=>ih x v (kI I r) e) r (j1 e)
theorem jW {d:PyData} (h:d.canLay0=true) (k:d.depth<=n) (hn:n<=64):SeqAt.shaped d=true:=by
 unfold SeqAt.shaped;rw[h,Bool.true_and];exact Sz (Ss k hn)
noncomputable def LL (a b:D):Option Bool:=match a with
 | .int i=>(iD b).map fun j=>decide (i=j)
 | .str s=>(sD b).map fun t=>decide (s=t)
 | .bool p=>(bD b).map fun q=>p==q
 |_=>none
open Classical in
noncomputable def QU (a b:D):Option Bool:=au ((pl 8 a&&pl 8 b)=true) (decide (a=b))
noncomputable def NH (a b:D):Option Bool:=(LL a b).or (QU a b)
theorem Hl {p q:Option α} {a:α} (h:p.or q=some a):p=some a∨q=some a:=by
 cases p with
 |none=>exact .inr h
 |some x=>exact .inl h
open Classical in
theorem FM (I:aL C P) {v:D} {x:Value} (hu:fB C P x u) (hv:fB C P y v) (e:NH u v=some c):∃ d d' as bs,Reads P.h x d as/\Reads P.h y d' bs/\SeqAt.shaped d=true/\SeqAt.shaped d'=true/\PyData.eqv d d'=c:=by
 rcases Hl e with e|e
 .cases u<;>try (cases e;done)
  .obtain ⟨q,e1,rfl⟩:=a_ e;cases RD.view hu;cases LZ e1 hv;exact ⟨_,_,_,_,.bool _,.bool _,rfl,rfl,by simp [PyData.eqv]⟩
  .obtain ⟨j,e1,rfl⟩:=a_ e;obtain ⟨t,rfl⟩:=RD.view hu;obtain ⟨s,rfl⟩:=d5 e1 hv;exact ⟨_,_,_,_,.int _ _,.int _ _,rfl,rfl,by simp only [PyData.eqv];rfl⟩
  .obtain ⟨s,e1,rfl⟩:=a_ e;obtain ⟨h1,t,rfl⟩:=RD.view hu;obtain ⟨h2,t',rfl⟩:=fQ e1 hv;refine ⟨_,_,_,_,.str _ _,.str _ _,jW (pC h1.1) (Sv 0) (by decide),jW (pC h2.1) (Sv 0) (by decide),?_⟩;rw[Bool.eq_iff_iff,decide_eq_true_eq,<-EJ];simp only [PyData.eqv]
 .obtain ⟨h,rfl⟩:=eb e;obtain ⟨as,a1,a2,a3⟩:=j3 I 8 _ _ hu (ai h);obtain ⟨bs,b1,b2,b3⟩:=j3 I 8 _ _ hv (an h);refine ⟨_,_,as,bs,a1,b1,jW a2 a3 (by decide),jW b2 b3 (by decide),?_⟩;rw[Bool.eq_iff_iff,decide_eq_true_eq];exact u8 8 u v (ai h) (an h)
structure CO where
 op:CmpOp
 g:D->D->Option Bool
 ok:∀ {C:bH} {A:Around} {P:Pt} {u v:D} {c:Bool} {x y:Value} {Q E:Value->Shared->Prop},fh C->A.units+64<cLine->aL C P->fB C P x u->fB C P y v->g u v=some c->mw C P (.bool c) Q->wpAny C.M A (compareOp op x y) Q E P.s
noncomputable def dp:CO:=⟨.Eq,NH,fun _ hu I a b e k=>by
 obtain ⟨d,d',as,bs,r1,r2,s1,s2,rfl⟩:=FM I a b e;exact eq_dataH r1 r2 s1 s2 hu (k.here I (.bool _))⟩
noncomputable def gU:CO:=⟨.NotEq,fun u v=>(NH u v).map fun c=> !c,fun _ hu I a b e k=>by
 obtain ⟨c,e',rfl⟩:=a_ e;obtain ⟨d,d',as,bs,r1,r2,s1,s2,rfl⟩:=FM I a b e';exact ne_dataH r1 r2 s1 s2 hu (k.here I (.bool _))⟩
noncomputable def F2 (f:Int->Int->Bool) (u v:D):Option Bool:=(iD u).bind fun a=>(iD v).map fun b=>f a b
theorem lZ {f:Int->Int->Bool} {v:D} {x:Value} (h:F2 f u v=some c) (hu:fB C P x u) (hv:fB C P y v):∃ a b t s,x= .int a t/\y= .int b s/\c=f a b:=by
 obtain ⟨a,e1,h⟩:=aq h;obtain ⟨b,e2,h⟩:=a_ h;obtain ⟨t,e4⟩:=d5 e1 hu;obtain ⟨s,e5⟩:=d5 e2 hv;exact ⟨a,b,t,s,e4,e5,h.symm⟩
noncomputable def rR:CO:=⟨.Lt,F2 fun a b=>decide (a<b),fun _ _ I a b e k=>by
 obtain ⟨i,j,t,s,rfl,rfl,rfl⟩:=lZ e a b;exact lt_int (k.here I (.bool _))⟩
noncomputable def Ac:CO:=⟨.Gt,F2 fun a b=>decide (a>b),fun _ _ I a b e k=>by
 obtain ⟨i,j,t,s,rfl,rfl,rfl⟩:=lZ e a b;exact gt_int (k.here I (.bool _))⟩
noncomputable def NO:CO:=⟨.GtE,F2 fun a b=>decide (a≥b),fun _ _ I a b e k=>by
 obtain ⟨i,j,t,s,rfl,rfl,rfl⟩:=lZ e a b;exact ge_int (k.here I (.bool _))⟩
noncomputable def yc:CO:=⟨.LtE,F2 fun a b=>decide (a<=b),fun _ _ I a b e k=>by
 obtain ⟨i,j,t,s,rfl,rfl,rfl⟩:=lZ e a b;exact le_int (k.here I (.bool _))⟩
noncomputable def Ok:List Nat->List Nat->Bool
 |[],_=>true
 |_::_,[]=>false
 |a::r,b::q=>if a<b then true else if a=b then Ok r q else false
theorem E7:∀ a b:List Nat,Ok a b= !decide (b<a)
 |[],b=>by show true=_;simp
 |x::r,[]=>by show false=_;simp
 |x::r,y::q=>by
  have ih:=E7 r q;show (if x<y then true else if x=y then Ok r q else false)=_;simp only [List.cons_lt_cons_iff];by_cases h1:x<y
  .simp [h1];omega
  .by_cases h2:x=y
   .subst h2;simp [ih]
   .have h3:y<x:=by exact Nat.lt_of_le_of_ne (Tm.mp h1) (Ne.symm h2)
    simp [h1,h2,h3]
noncomputable def vb:CO:=⟨.LtE,fun u v=>(sD u).bind fun a=>(sD v).map fun b=>Ok a b,fun _ _ I a b e k=>by
 obtain ⟨s,e1,e⟩:=aq e;obtain ⟨t,e2,rfl⟩:=a_ e;obtain ⟨_,t1,rfl⟩:=fQ e1 a;obtain ⟨_,t2,rfl⟩:=fQ e2 b;refine PySem.P.le_str ?_;have:=k.here I (.bool _);rw[E7] at this
 simpa using this⟩
noncomputable def Sc:D->Option Bool
 | .none=>some true
 | .int _| .str _| .tup _| .lst _| .bool _=>some false
 |_=>none
noncomputable def Np (u v:D):Option Bool:=match v with
 | .none=>Sc u
 |_=>none
theorem HV {v:D} {x:Value} (h:Np u v=some c) (hu:fB C P x u) (hv:fB C P y v):y= .none/\((x= .none/\c=true)∨(x≠ .none/\c=false)):=by
 cases v<;>try (cases h;done)
 refine ⟨RD.view hv,?_⟩;cases u<;>try (cases h;done)
 .cases h;exact .inl ⟨RD.view hu,rfl⟩
 .cases h;cases RD.view hu;exact .inr ⟨nofun,rfl⟩
 .cases h;obtain ⟨t,rfl⟩:=RD.view hu;exact .inr ⟨nofun,rfl⟩
 .cases h;obtain ⟨_,t,rfl⟩:=RD.view hu;exact .inr ⟨nofun,rfl⟩
 .cases h;obtain ⟨_,_⟩:=RD.view hu;exact .inr ⟨nofun,rfl⟩
 .cases h;obtain ⟨_,_,_⟩:=hu;exact .inr ⟨nofun,rfl⟩
noncomputable def IG:CO:=⟨.Is,Np,fun _ _ I a b e k=>by
 obtain ⟨rfl,⟨rfl,rfl⟩|⟨hn,rfl⟩⟩:=HV e a b
 .exact wpAny_is_self (by decide) (k.here I (.bool _))
 .exact is_none_ne hn (k.here I (.bool _))⟩
noncomputable def MH:List Nat->Option Nat
 |[c]=>some c
 |_=>none
noncomputable def QQ (u v:D):Option Bool:=(sD u).bind fun s=>(MH s).bind fun c=>(sD v).map fun t=>decide (c∈t)
theorem A6 {v:D} {x:Value} (h:QQ u v=some c) (hu:fB C P x u) (hv:fB C P y v):∃ a l t s,x= .str (cA [a]) t/\y= .str (cA l) s/\c=decide (a∈l):=by
 obtain ⟨s,e1,h⟩:=aq h;obtain ⟨a,e2,h⟩:=aq h;obtain ⟨l,e3,rfl⟩:=a_ h;obtain ⟨_,t1,e4⟩:=fQ e1 hu;obtain ⟨_,t2,e5⟩:=fQ e3 hv;obtain rfl:s=[a]:=by
  rcases s with _|⟨z,_|⟨w,y⟩⟩<;>first|(cases e2;done)|(cases e2;rfl)
 exact ⟨a,l,t1,t2,e4,e5,rfl⟩
noncomputable def Ab:CO:=⟨.In,QQ,fun _ _ I a b e k=>by
 obtain ⟨i,l,t,s,rfl,rfl,rfl⟩:=A6 e a b;exact in_str (by rw[StrLaws.found_one];exact k.here I (.bool _))⟩
noncomputable def IF:CO:=⟨.NotIn,fun u v=>(QQ u v).map fun c=> !c,fun _ _ I a b e k=>by
 obtain ⟨c,e',rfl⟩:=a_ e;obtain ⟨i,l,t,s,rfl,rfl,rfl⟩:=A6 e' a b;exact notIn_str (by rw[StrLaws.found_one];exact k.here I (.bool _))⟩
open Classical in
noncomputable def Lr (u v:D):Option Bool:=(lD v).bind fun l=>au ((pl 8 u&&l.all (pl 8))=true) (decide (u∈l))
open Classical in
theorem A7 (I:aL C P) {v:D} {x:Value} (hu:fB C P x u) (hv:fB C P y v) (e:Lr u v=some c):∃ d ds as bs,Reads P.h x d as/\Reads P.h y (.list ds) bs/\PyData.canLayAll0 ds=true/\d.canLay0=true/\PyData.depthAll ds<=9/\d.depth<=9/\(ds.any fun z=>PyData.eqv z d)=c:=by
 obtain ⟨l,e1,e⟩:=aq e;obtain ⟨h,rfl⟩:=eb e;obtain @⟨a,vs,n,g,_,r⟩:=gP e1 hv;obtain ⟨as,a1,a2,a3⟩:=j3 I 8 _ _ hu (ai h);obtain ⟨bs,b1,b2,b3⟩:=gD (fun x v r e=>j3 I 8 x v (kI I r) e) r (an h);refine ⟨_,_,as,_,a1,reads_list_at g rfl rfl (by simpa using b1),b2,a2,b3,a3,?_⟩;rw[Bool.eq_iff_iff,decide_eq_true_eq,List.any_map,List.any_eq_true];constructor
 .rintro ⟨z,hz,q⟩;exact (u8 8 z u (List.all_eq_true.mp (an h) z hz) (ai h)).mp q ▸ hz
 .exact fun hz=>⟨u,hz,(u8 8 u u (ai h) (ai h)).mpr rfl⟩
noncomputable def JI:CO:=⟨.In,Lr,fun _ hu I a b e k=>by
 obtain ⟨d,ds,as,bs,r1,r2,h1,h2,h3,h4,rfl⟩:=A7 I a b e;exact SeqAt.in_list_reads r2 r1 h1 h2 (MS hu h3) (k.here I (.bool _))⟩
noncomputable def kP:CO:=⟨.NotIn,fun u v=>(Lr u v).map fun c=> !c,fun _ hu I a b e k=>by
 obtain ⟨c,e',rfl⟩:=a_ e;obtain ⟨d,ds,as,bs,r1,r2,h1,h2,h3,h4,rfl⟩:=A7 I a b e';exact SeqAt.notIn_list_reads r2 r1 h1 h2 (MS hu h3) (k.here I (.bool _))⟩
end
noncomputable def DD (g:D->D->Option Bool) (x y:PV):PM Bool:=fun σ=>(rd σ x).bind fun u=>(rd σ y).bind fun v=>(g u v).map fun c=>(.ok c,σ)
theorem my {K:R Bool->az->Prop} {g:D->D->Option Bool} {y:PV} (h:Wp K (DD g x y σ)):∃ u v c,rd σ x=some u/\rd σ y=some v/\g u v=some c/\K (.ok c) σ:=by
 unfold DD at h;cases e1:rd σ x with
 |none=>rw[e1] at h;exact h.elim
 |some u=>
 cases e2:rd σ y with
 |none=>rw[e1,e2] at h;exact h.elim
 |some v=>
 cases e3:g u v with
 |none=>rw[e1,e2,Si,Si,e3] at h;exact h.elim
 |some z=>rw[e1,e2,Si,Si,e3] at h;exact ⟨u,v,z,rfl,rfl,e3,h⟩
noncomputable def Ra:D->Option Bool
 | .bool b=>some b
 | .none=>some false
 | .int i=>some (i !=0)
 | .str s=>some (!s.isEmpty)
 |_=>none
noncomputable def Mb (v:PV):PM Bool:=Hm ((j7 v).bind Ra)
noncomputable def bV (b:Bool):PV:=.d (.bool b)
section
variable {Q:Bool->Shared->Prop}
theorem Ms (I:aL C P):∀ {x:D} {v:Value} {b:Bool},RD C P.own x v->Ra x=some b->(∀ P',bQ P P'->aL C P'->P'.σ=P.σ->Q b P'.s)->wpAny C.M A (truthy v) Q E P.s:=by
 intro Z0 v b r e k;cases Z0 with
 |bool c=>
  cases e;rw[show v= .bool b from r.view];exact wpAny_truthy_bool (k P (.refl P) I rfl)
 |none=>
  cases e;rw[show v= .none from r.view];exact truthy_none (k P (.refl P) I rfl)
 |int i=>
  cases e;obtain ⟨t,q⟩:∃ t,v= .int i t:=r.view;rw[q];exact truthy_int (k P (.refl P) I rfl)
 |str l=>
  cases e;obtain ⟨hx,t,q⟩:jb l/\∃ t,v= .str (cA l) t:=r.view;rw[q];have hl:=hx.2;refine PySem.P.truthy_str (by simp [Str.length,dM] at hl ⊢;exact SW.mpr (SJ hl (Sp rfl))) ?_;have h:=k (P.to P.h (P.s.toks+1+1)) (.to ..) (I.to fun _ _ e=>e) rfl;rw[show ((Str.length (cA l):Int) !=0)= !l.isEmpty by cases l<;>simp [Str.length];exact O2];exact h
 |_=>cases e
theorem lW {x:D}:∀ {p:PV},j7 p=some x->RV C P v p->RD C P.own x v
 | .d _,e,r=>by cases e;exact r
theorem yh {K:R Bool->az->Prop} (I:aL C P) (r:RV C P v p) (w:Wp K (Mb p P.σ)) (h:dW C A oM P K Q E):wpAny C.M A (truthy v) Q E P.s:=by
 refine bn fun G9 k9=> ?_;obtain ⟨b,e,k⟩:=gI w;obtain ⟨x,e1,e2⟩:=aq e;refine k9 ?_;exact Ms I (lW e1 r) e2 fun P' g I' e=>h.ok b b P' g I' rfl (e ▸ k)
theorem m9 {v:D} {x:Value} (o:CO) (G:fh C) (hu:A.units+64<cLine) (I:aL C P) (a:fB C P x u) (b:fB C P y v) (e:o.g u v=some c) (k:∀ P',bQ P P'->aL C P'->P'.σ=P.σ->Q c P'.s):
  wpAny C.M A (compareOp o.op x y) (fun z s=>wpAny C.M A (truthy z) Q E s) E P.s:=
 o.ok G hu I a b e fun z P' g I' r e'=>by
  rw[show z= .bool c from r.view];exact wpAny_truthy_bool (k P' g I' e')
end
theorem dW.bindB {Rel:Pt->β->α->Prop} {K:R α->az->Prop} {Q:β->Shared->Prop} {f:Bool->PM α} {Q':Bool->Shared->Prop} (h:dW C A Rel P K Q E) (k:∀ b P',bQ P P'->aL C P'->Wp K (f b P'.σ)->dW C A Rel P' K Q E->Q' b P'.s):dW C A oM P (bK K f) Q' E:=
 ⟨fun p v P' g i r w=>(show v=p from r) ▸ k p P' g i w (h.mono g),h.ex⟩
section
variable {KB:R Bool->az->Prop} {QB:Bool->Shared->Prop}
theorem Cx.lt (X:Cx):X.A.units+64<cLine:=O1 X.uni
theorem LQ (o:CO) (a b:CE) (h:xT (fun l op r=>op==o.op&&behindInMarks op r==false&&a.is X.sx l&&b.is X.sx r) e=true) (I:aL X.C P) (G:EnvOK X P ρ) (w:Wp K (bW (a.ev X.ker ρ) (fun x=>bW (b.ev X.ker ρ) fun y=>bW (DD o.g x y) fun c=>ret (bV c)) P.σ)) (p:bu X (RV X.C) P K Q E):
  wpAny X.M X.A (eval e X.env) Q E P.s:=
 rH (fun e=>wpAny X.M X.A (eval e X.env) Q E P.s) h fun l op r pos h=>wpAny_Compare1 (a.ok X l ρ P _ _ E (an (ai h)) I G (aR w) (p.bind fun x v P1 g1 I1 r1 w p=>
  b.ok X r ρ P1 _ _ E (an h) I1 (G.ext g1) (aR w) (p.bind fun y u P2 g2 I2 r2 w p=>by
   refine bn fun G9 k9=> ?_;obtain ⟨i,j,z,e1,e2,e3,k⟩:=my (aR w);refine k9 ?_;rw[bR (ai (ai (ai h)))];exact o.ok X.good X.lt I2 (bL I2 (r1.ext g2.toExt) e1) (bL I2 r2 e2) e3 (p.fin k)))) (bR (an (ai (ai h))))
theorem GT (o:CO) (a b:CE) (h:xT (fun l op r=>op==o.op&&behindInMarks op r==false&&a.is X.sx l&&b.is X.sx r) e=true) (I:aL X.C P) (G:EnvOK X P ρ) (w:Wp KB (bW (a.ev X.ker ρ) (fun x=>bW (b.ev X.ker ρ) fun y=>DD o.g x y) P.σ)) (p:bu X oM P KB QB E):
  wpAny X.M X.A (isTrue e X.env (eval e X.env)) QB E P.s:=
 rH (fun e=>wpAny X.M X.A (isTrue e X.env (eval e X.env)) QB E P.s) h fun l op r pos h=>wpAny_isTrue_Compare1 (a.ok X l ρ P _ _ E (an (ai h)) I G (aR w) (p.bind fun x v P1 g1 I1 r1 w p=>
  b.ok X r ρ P1 _ _ E (an h) I1 (G.ext g1) (aR w) (p.bind fun y u P2 g2 I2 r2 w p=>by
   refine bn fun G9 k9=> ?_;obtain ⟨i,j,z,e1,e2,e3,k⟩:=my w;refine k9 ?_;rw[bR (ai (ai (ai h)))];exact m9 o X.good X.lt I2 (bL I2 (r1.ext g2.toExt) e1) (bL I2 r2 e2) e3 fun P' g I' e=>p.ok z z P' g I' rfl (e ▸ k)))) (bR (an (ai (ai h))))
noncomputable def Q1 (m:PM PV) (g1 g2:D->D->Option Bool) (x y:PV):PM PV:=bW (DD g1 x y) fun c=>if c then bW m fun z=>bW (DD g2 y z) fun c=>ret (bV c) else ret (bV false)
theorem IA (o q:CO) (a b c:CE) (h:rI (fun l o1 o2 r s=>o1==o.op&&o2==q.op&&lastMarks [o1,o2] [r,s]==false&&a.is X.sx l&&b.is X.sx r&&c.is X.sx s) e=true) (I:aL X.C P) (G:EnvOK X P ρ) (w:Wp K (bW (a.ev X.ker ρ) (fun x=>bW (b.ev X.ker ρ) fun y=>Q1 (c.ev X.ker ρ) o.g q.g x y) P.σ)) (p:bu X (RV X.C) P K Q E):
  wpAny X.M X.A (eval e X.env) Q E P.s:=
 nY (fun e=>wpAny X.M X.A (eval e X.env) Q E P.s) h fun l o1 o2 r s pos h=>Compare_chain (a.ok X l ρ P _ _ E (an (ai (ai h))) I G (aR w) (p.bind fun x v P1 g1 I1 r1 w p=>
  chain_link (b.ok X r ρ P1 _ _ E (an (ai h)) I1 (G.ext g1) (aR w) (p.bind fun y u P2 g2 I2 r2 w p=>by
   refine bn fun G9 k9=> ?_;obtain ⟨i,j,z,e1,e2,e3,k⟩:=my (aR w);refine k9 ?_;rw[bR (ai (ai (ai (ai (ai h)))))];refine o.ok X.good X.lt I2 (bL I2 (r1.ext g2.toExt) e1) (bL I2 r2 e2) e3 fun t P3 g3 I3 r3 e'=> ?_;rw[show t= .bool z from r3.view];refine wpAny_truthy_bool ?_;have k:=e' ▸ k;cases z with
   |false=>exact ((p.mono g3).fin k).here I3 (.bool _)
   |true=>
    refine chain_last (c.ok X s ρ P3 _ _ E (an h) I3 ((G.ext g1).ext (g2.trans g3)) (aR k) ((p.mono g3).bind fun t' v' P4 g4 I4 r4 w p=> ?_));refine bn fun G9 k9=> ?_;obtain ⟨i',j',z',f1,f2,f3,k⟩:=my (aR w);refine k9 ?_;rw[bR (an (ai (ai (ai (ai h)))))];exact q.ok X.good X.lt I4 (bL I4 (r2.ext (g3.trans g4).toExt) f1) (bL I4 r4 f2) f3 (p.fin k))))) (bR (an (ai (ai (ai h)))))
theorem BU {M:Model} {A:Around} {E:Value->Shared->Prop} {s:Shared} {pos:Pos} {a:Value} {op op':CmpOp} {ops:List CmpOp} {r r':Sem Value} {rs:List (Sem Value)} {Q:Bool->Shared->Prop}
  (h:wpAny M A r (fun b s₁=>wpAny M A (compareOp op a b) (fun c s₂=>wpAny M A (PySem.truthy c)
   (fun t s₃=>if t then wpAny M A (testChain pos b (op'::ops) (r'::rs)) Q E s₃ else Q false s₃) E s₂) E s₁) E s):
  wpAny M A (testChain pos a (op::op'::ops) (r::r'::rs)) Q E s:=by
 show wpAny M A (do
  let rv<-holding [a] r
  standAt pos
  let c<-holding [a,rv] (compareOp op a rv)
  release [a,rv] [c]
  if<-holding [c,rv] (PySem.truthy c) then testChain pos rv (op'::ops) (r'::rs) else pure false) Q E s
 refine Sw (wpAny_holding (wpAny_mono h (fun b s₁ h₁=>Sw (wpAny_standAt (Sw (wpAny_holding (wpAny_mono h₁ (fun c s₂ h₂=>
  Sw (wpAny_release' (Sw (wpAny_holding (wpAny_mono h₂ (fun t s₃ h₃=> ?_) fun _ _ x=>x))))) fun _ _ x=>x))))) fun _ _ x=>x))
 cases t with
 |false=>exact Sy h₃
 |true=>exact h₃
theorem BV {M:Model} {A:Around} {E:Value->Shared->Prop} {s:Shared} {pos:Pos} {a:Value} {op:CmpOp} {r:Sem Value} {Q:Bool->Shared->Prop}
  (h:wpAny M A r (fun b s₁=>wpAny M A (compareOp op a b) (fun c s₂=>wpAny M A (PySem.truthy c) Q E s₂) E s₁) E s):wpAny M A (testChain pos a [op] [r]) Q E s:=by
 show wpAny M A (do
  let rv<-holding [a] r
  standAt pos
  let c<-operate [a,rv] (compareOp op a rv)
  holding [c] (PySem.truthy c)) Q E s
 exact Sw (wpAny_holding (wpAny_mono h (fun b s₁ h₁=>Sw (wpAny_standAt (Sw (wpAny_operate' (wpAny_mono h₁ (fun c s₂ h₂=>wpAny_holding h₂) fun _ _ x=>x))))) fun _ _ x=>x))
noncomputable def Mt (m:PM PV) (g1 g2:D->D->Option Bool) (x y:PV):PM Bool:=bW (DD g1 x y) fun c=>if c then bW m fun z=>DD g2 y z else ret false
theorem DU (o q:CO) (a b c:CE) (h:rI (fun l o1 o2 r s=>o1==o.op&&o2==q.op&&lastMarks [o1,o2] [r,s]==false&&a.is X.sx l&&b.is X.sx r&&c.is X.sx s) e=true) (I:aL X.C P) (G:EnvOK X P ρ) (w:Wp KB (bW (a.ev X.ker ρ) (fun x=>bW (b.ev X.ker ρ) fun y=>Mt (c.ev X.ker ρ) o.g q.g x y) P.σ)) (p:bu X oM P KB QB E):
  wpAny X.M X.A (isTrue e X.env (eval e X.env)) QB E P.s:=
 nY (fun e=>wpAny X.M X.A (isTrue e X.env (eval e X.env)) QB E P.s) h fun l o1 o2 r s pos h=>isTrue_chain (a.ok X l ρ P _ _ E (an (ai (ai h))) I G (aR w) (p.bind fun x v P1 g1 I1 r1 w p=>
  BU (b.ok X r ρ P1 _ _ E (an (ai h)) I1 (G.ext g1) (aR w) (p.bind fun y u P2 g2 I2 r2 w p=>by
   refine bn fun G9 k9=> ?_;obtain ⟨i,j,z,e1,e2,e3,k⟩:=my (aR w);refine k9 ?_;rw[bR (ai (ai (ai (ai (ai h)))))];refine m9 o X.good X.lt I2 (bL I2 (r1.ext g2.toExt) e1) (bL I2 r2 e2) e3 fun P3 g3 I3 e'=> ?_;have k:=e' ▸ k;cases z with
   |false=>exact (p.mono g3).here I3 rfl k
   |true=>
    refine BV (c.ok X s ρ P3 _ _ E (an h) I3 ((G.ext g1).ext (g2.trans g3)) (aR k) ((p.mono g3).bind fun t' v' P4 g4 I4 r4 w p=> ?_));refine bn fun G9 k9=> ?_;obtain ⟨i',j',z',f1,f2,f3,k⟩:=my w;refine k9 ?_;rw[bR (an (ai (ai (ai (ai h)))))];exact m9 q X.good X.lt I4 (bL I4 (r2.ext (g3.trans g4).toExt) f1) (bL I4 r4 f2) f3 fun P' g I' e=>p.ok z' z' P' g I' rfl (e ▸ k))))) (bR (an (ai (ai (ai h)))))
theorem KS (a:CE) (h:fN (fun o x _=>Ma false o&&a.is X.sx x) e=true) (I:aL X.C P) (G:EnvOK X P ρ) (w:Wp K (bW (a.ev X.ker ρ) (fun x=>bW (Hm ((j7 x).bind iD)) fun i=>ret (.d (.int (-i)))) P.σ)) (p:bu X (RV X.C) P K Q E):wpAny X.M X.A (eval e X.env) Q E P.s:=
 jL (fun e=>wpAny X.M X.A (eval e X.env) Q E P.s) h fun o x pos h=>GM (fun o=>wpAny X.M X.A (eval (.UnaryOp o x pos) X.env) Q E P.s) (ai h) (wpAny_UnaryOp (a.ok X x ρ P _ _ E (an h) I G (aR w) (p.bind fun y v P1 g1 I1 r1 w p=>by
  refine bn fun G9 k9=> ?_;obtain ⟨i,e1,k⟩:=gI (aR w);obtain ⟨z,e2,e3⟩:=aq e1;obtain ⟨t,q⟩:=d5 e3 (kI I1 (lW e2 r1));refine k9 ?_;rw[q];exact neg_int ((p.fin k).tok I1 (.int _ _) _))))
theorem GQ (a:CT) (h:fN (fun o x _=>Ma true o&&a.is X.sx x) e=true) (I:aL X.C P) (G:EnvOK X P ρ) (w:Wp KB (bW (a.ts X.ker ρ) (fun b=>ret !b) P.σ)) (p:bu X oM P KB QB E):wpAny X.M X.A (isTrue e X.env (eval e X.env)) QB E P.s:=
 jL (fun e=>wpAny X.M X.A (isTrue e X.env (eval e X.env)) QB E P.s) h fun o x pos h=>GL (fun o=>wpAny X.M X.A (isTrue (.UnaryOp o x pos) X.env (eval (.UnaryOp o x pos) X.env)) QB E P.s) (ai h)
  (isTrue_not (a.ok X x ρ P _ _ E (an h) I G (aR w) ⟨fun b c P2 g2 I2 e k=>p.ok (!b) (!c) P2 g2 I2 (congrArg _ e) k,p.ex⟩))
theorem Le (t:CT) (a b:CE) (h:pq (fun te ae be _=>t.is X.sx te&&a.is X.sx ae&&b.is X.sx be) e=true) (I:aL X.C P) (G:EnvOK X P ρ) (w:Wp K (bW (t.ts X.ker ρ) (fun c=>if c then a.ev X.ker ρ else b.ev X.ker ρ) P.σ)) (p:bu X (RV X.C) P K Q E):We X e Q E P:=
 vp (fun e=>We X e Q E P) h fun te ae be pos h=>IfExp_ (t.ok X te ρ P _ _ E (ai (ai h)) I G (aR w) (p.bindB fun c P1 g1 I1 w p=>by
  cases c with
  |true=>exact a.ok X ae ρ P1 _ _ E (an (ai h)) I1 (G.ext g1) w p
  |false=>exact b.ok X be ρ P1 _ _ E (an h) I1 (G.ext g1) w p))
end
noncomputable def EA (e:Expr):Bool:=e.ctorIdx==16||e.ctorIdx==19||e.ctorIdx==20||e.ctorIdx==21||e.ctorIdx==23
theorem Ci (h:EA e=true) (env:Env) (whole:Sem Value):isTrue e env whole=(do let v<-whole;standAt e.pos;holding [v] (PySem.truthy v)):=by
 cases e<;>first|rfl|(cases h;done)
noncomputable def rj (o:CO) (a b:CE):CE:=⟨fun K ρ=>bW (a.ev K ρ) fun x=>bW (b.ev K ρ) fun y=>bW (DD o.g x y) fun c=>ret (bV c),fun s=>xT fun l op r=>op==o.op&&behindInMarks op r==false&&a.is s l&&b.is s r,fun _ _ _ _ _ _ _ h I G w p=>LQ o a b h I G w p⟩
noncomputable def aJ (o:CO) (a b:CE):CT:=⟨fun K ρ=>bW (a.ev K ρ) fun x=>bW (b.ev K ρ) fun y=>DD o.g x y,fun s=>xT fun l op r=>op==o.op&&behindInMarks op r==false&&a.is s l&&b.is s r,fun _ _ _ _ _ _ _ h I G w p=>GT o a b h I G w p⟩
noncomputable def Dp (o q:CO) (a b c:CE):CE:=⟨fun K ρ=>bW (a.ev K ρ) fun x=>bW (b.ev K ρ) fun y=>Q1 (c.ev K ρ) o.g q.g x y,fun s=>rI fun l o1 o2 r t=>o1==o.op&&o2==q.op&&lastMarks [o1,o2] [r,t]==false&&a.is s l&&b.is s r&&c.is s t,fun _ _ _ _ _ _ _ h I G w p=>IA o q a b c h I G w p⟩
noncomputable def vJ (o q:CO) (a b c:CE):CT:=⟨fun K ρ=>bW (a.ev K ρ) fun x=>bW (b.ev K ρ) fun y=>Mt (c.ev K ρ) o.g q.g x y,fun s=>rI fun l o1 o2 r t=>o1==o.op&&o2==q.op&&lastMarks [o1,o2] [r,t]==false&&a.is s l&&b.is s r&&c.is s t,fun _ _ _ _ _ _ _ h I G w p=>DU o q a b c h I G w p⟩
noncomputable def neg (a:CE):CE:=⟨fun K ρ=>bW (a.ev K ρ) fun x=>bW (Hm ((j7 x).bind iD)) fun i=>ret (.d (.int (-i))),fun s=>fN fun o x _=>Ma false o&&a.is s x,fun _ _ _ _ _ _ _ h I G w p=>KS a h I G w p⟩
noncomputable def fq (a:CT):CT:=⟨fun K ρ=>bW (a.ts K ρ) fun b=>ret !b,fun s=>fN fun o x _=>Ma true o&&a.is s x,fun _ _ _ _ _ _ _ h I G w p=>GQ a h I G w p⟩
noncomputable def C0 (t:CT) (a b:CE):CE:=⟨fun K ρ=>bW (t.ts K ρ) fun c=>if c then a.ev K ρ else b.ev K ρ,fun s=>pq fun te ae be _=>t.is s te&&a.is s ae&&b.is s be,fun _ _ _ _ _ _ _ h I G w p=>Le t a b h I G w p⟩
noncomputable def rQ (a:CE):CT:=⟨fun K ρ=>bW (a.ev K ρ) Mb,fun s e=>EA e&&a.is s e,fun X e ρ P K Q E h I G w p=>isTrue_plain (a.ok X e ρ P _ _ E (an h) I G (aR w) (p.bind fun y v P1 g1 I1 r1 w p=>yh I1 r1 w p)) (Ci (ai h) _ _)⟩
structure CA where
 ev:cG->bg->PM PV
 is:Sx->List Expr->Bool
 ok:∀ (X:Cx) (es:List Expr) (pos:Pos) (ρ:bg) (P:Pt) (K:R PV->az->Prop) (Q E:Value->Shared->Prop),is X.sx es=true->aL X.C P->EnvOK X P ρ->Wp K (ev X.ker ρ P.σ)->bu X (RV X.C) P K Q E->wpAny X.M X.A (eval (.BoolOp .And es pos) X.env) Q E P.s
structure yb (op:BoolOp) where
 ts:cG->bg->PM Bool
 is:Sx->List Expr->Bool
 ok:∀ (X:Cx) (es:List Expr) (pos:Pos) (whole:Sem Value) (ρ:bg) (P:Pt) (K:R Bool->az->Prop) (Q:Bool->Shared->Prop) (E:Value->Shared->Prop),is X.sx es=true->aL X.C P->EnvOK X P ρ->Wp K (ts X.ker ρ P.σ)->bu X oM P K Q E->wpAny X.M X.A (isTrue (.BoolOp op es pos) X.env whole) Q E P.s
noncomputable def iC {α:Type} (f:α->Bool) (g:List α->Bool):List α->Bool
 |a::r=>f a&&g r
 |[]=>false
theorem c6 (q:List α->Prop) {f:α->Bool} {g:List α->Bool}:∀ {l:List α},iC f g l=true->(∀ a r,f a=true->g r=true->q (a::r))->q l
 |a::r,h,k=>k a r (ai h) (an h)
 |[],h,_=>nomatch h
noncomputable def w7 {α:Type} (f:α->Bool) (g:List α->Bool):List α->Bool
 |a::b::r=>f a&&g (b::r)
 |_=>false
theorem qE (q:List α->Prop) {f:α->Bool} {g:List α->Bool}:∀ {l:List α},w7 f g l=true->(∀ a b r,f a=true->g (b::r)=true->q (a::b::r))->q l
 |a::b::r,h,k=>k a b r (ai h) (an h)
 |[],h,_=>nomatch h
 |[_],h,_=>nomatch h
section
variable {whole:Sem Value} {KB:R Bool->az->Prop} {QB:Bool->Shared->Prop}
theorem IP (a:CE) (l:CA) (h:w7 (a.is X.sx) (l.is X.sx) es=true) (I:aL X.C P) (G:EnvOK X P ρ) (w:Wp K (bW (a.ev X.ker ρ) (fun x=>bW (Mb x) fun b=>if b then l.ev X.ker ρ else ret x) P.σ)) (p:bu X (RV X.C) P K Q E):wpAny X.M X.A (eval (.BoolOp .And es pos) X.env) Q E P.s:=
 qE (fun es=>wpAny X.M X.A (eval (.BoolOp .And es pos) X.env) Q E P.s) h fun e e2 r h1 h2=>BoolOp_and (a.ok X e ρ P _ _ E h1 I G (aR w) (p.bind fun x v P1 g1 I1 r1 w p=>
  yh I1 r1 (aR w) (p.bindB fun c P2 g2 I2 w p=>by
   cases c with
   |true=>exact l.ok X _ pos ρ P2 _ _ E h2 I2 (G.ext (g1.trans g2)) w p
   |false=>exact p.here I2 (r1.ext g2.toExt) w)))
theorem DV (a:CT) (l:yb .And) (h:iC (a.is X.sx) (l.is X.sx) es=true) (I:aL X.C P) (G:EnvOK X P ρ) (w:Wp KB (bW (a.ts X.ker ρ) (fun b=>if b then l.ts X.ker ρ else ret false) P.σ)) (p:bu X oM P KB QB E):wpAny X.M X.A (isTrue (.BoolOp .And es pos) X.env whole) QB E P.s:=
 c6 (fun es=>wpAny X.M X.A (isTrue (.BoolOp .And es pos) X.env whole) QB E P.s) h fun e r h1 h2=>isTrue_and (a.ok X e ρ P _ _ E h1 I G (aR w) (p.bindB fun c P1 g1 I1 w p=>by
  cases c with
  |true=>exact l.ok X _ pos whole ρ P1 _ _ E h2 I1 (G.ext g1) w p
  |false=>exact p.here I1 rfl w))
theorem GP (a:CT) (l:yb .Or) (h:iC (a.is X.sx) (l.is X.sx) es=true) (I:aL X.C P) (G:EnvOK X P ρ) (w:Wp KB (bW (a.ts X.ker ρ) (fun b=>if b then ret true else l.ts X.ker ρ) P.σ)) (p:bu X oM P KB QB E):wpAny X.M X.A (isTrue (.BoolOp .Or es pos) X.env whole) QB E P.s:=
 c6 (fun es=>wpAny X.M X.A (isTrue (.BoolOp .Or es pos) X.env whole) QB E P.s) h fun e r h1 h2=>isTrue_or (a.ok X e ρ P _ _ E h1 I G (aR w) (p.bindB fun c P1 g1 I1 w p=>by
  cases c with
  |false=>exact l.ok X _ pos whole ρ P1 _ _ E h2 I1 (G.ext g1) w p
  |true=>exact p.here I1 rfl w))
end
noncomputable def L3 (a:CE):CA:=⟨a.ev,fun s=>one (a.is s),fun X es pos ρ P K Q E h I G w p=>dB (fun es=>wpAny X.M X.A (eval (.BoolOp .And es pos) X.env) Q E P.s) h fun e h=>BoolOp_one (a.ok X e ρ P K Q E h I G w p)⟩
noncomputable def IQ (a:CE) (l:CA):CA:=⟨fun K ρ=>bW (a.ev K ρ) fun x=>bW (Mb x) fun b=>if b then l.ev K ρ else ret x,fun s=>w7 (a.is s) (l.is s),fun _ _ _ _ _ _ _ _ h I G w p=>IP a l h I G w p⟩
noncomputable def L4 (l:CA):CE:=⟨l.ev,fun s=>ii fun o es _=>Mi true o&&l.is s es,fun X e ρ P K Q E h I G w p=>fo (fun e=>We X e Q E P) h fun o es pos h=>BG (fun o=>wpAny X.M X.A (eval (.BoolOp o es pos) X.env) Q E P.s) (ai h) (l.ok X es pos ρ P K Q E (an h) I G w p)⟩
noncomputable def km:yb .And:=⟨fun _ _=>ret true,fun _ es=>es.isEmpty,fun X es pos whole ρ P K Q E h I G w p=>bZ (fun es=>wpAny X.M X.A (isTrue (.BoolOp .And es pos) X.env whole) Q E P.s) h (isTrue_and_nil (p.here I rfl w))⟩
noncomputable def dw (a:CT) (l:yb .And):yb .And:=⟨fun K ρ=>bW (a.ts K ρ) fun b=>if b then l.ts K ρ else ret false,fun s=>iC (a.is s) (l.is s),fun _ _ _ _ _ _ _ _ _ h I G w p=>DV a l h I G w p⟩
noncomputable def d3:yb .Or:=⟨fun _ _=>ret false,fun _ es=>es.isEmpty,fun X es pos whole ρ P K Q E h I G w p=>bZ (fun es=>wpAny X.M X.A (isTrue (.BoolOp .Or es pos) X.env whole) Q E P.s) h (isTrue_or_nil (p.here I rfl w))⟩
noncomputable def bC (a:CT) (l:yb .Or):yb .Or:=⟨fun K ρ=>bW (a.ts K ρ) fun b=>if b then ret true else l.ts K ρ,fun s=>iC (a.is s) (l.is s),fun _ _ _ _ _ _ _ _ _ h I G w p=>GP a l h I G w p⟩
noncomputable def pz (l:yb .And):CT:=⟨l.ts,fun s=>ii fun o es _=>Mi true o&&l.is s es,fun X e ρ P K Q E h I G w p=>fo (fun e=>wpAny X.M X.A (isTrue e X.env (eval e X.env)) Q E P.s) h fun o es pos h=>BG (fun o=>wpAny X.M X.A (isTrue (.BoolOp o es pos) X.env (eval (.BoolOp o es pos) X.env)) Q E P.s) (ai h) (l.ok X es pos _ ρ P K Q E (an h) I G w p)⟩
noncomputable def ki (l:yb .Or):CT:=⟨l.ts,fun s=>ii fun o es _=>Mi false o&&l.is s es,fun X e ρ P K Q E h I G w p=>fo (fun e=>wpAny X.M X.A (isTrue e X.env (eval e X.env)) Q E P.s) h fun o es pos h=>Gi (fun o=>wpAny X.M X.A (isTrue (.BoolOp o es pos) X.env (eval (.BoolOp o es pos) X.env)) Q E P.s) (ai h) (l.ok X es pos _ ρ P K Q E (an h) I G w p)⟩
theorem aW {q:α->Prop}:∀ p∈([]:List α),q p:=fun _ h=>absurd h SF
theorem dj (h:iv e=true):starEach (e::es) env=(false,eval e env)::starEach es env:=by
 cases e<;>first|rfl|(cases h;done)
section
variable {K:R (List PV)->az->Prop} {Q:List Value->Shared->Prop}
theorem LS (a:CE) (l:CL) (h:iC (fun e=>iv e&&a.is X.sx e) (l.is X.sx) es=true) (I:aL X.C P) (G:EnvOK X P ρ) (w:Wp K (bW (a.ev X.ker ρ) (fun x=>bW (l.ev X.ker ρ) fun xs=>ret (x::xs)) P.σ)) (p:bu X (N2 X.C) P K Q E):
  wpAny X.M X.A (spliced (backTo pos (starEach es X.env))) Q E P.s:=
 c6 (fun es=>wpAny X.M X.A (spliced (backTo pos (starEach es X.env))) Q E P.s) h fun e r h1 h2=>by
  rw[dj (ai h1)];exact Calls.spliced_cons (a.ok X e ρ P _ _ E (an h1) I G (aR w) (p.bind fun x v P1 g1 I1 r1 w p=>
   l.ok X r pos ρ P1 _ _ E h2 I1 (G.ext g1) (aR w) ⟨fun xs vs P2 g2 I2 r2 k=>p.ok (x::xs) (v::vs) P2 g2 I2 (.cons (r1.ext g2.toExt) r2) k,p.ex⟩))
theorem F4 (a:CE) (l:CL) (sx:Sx) (es:List Expr) (env:Env) (pos:Pos) (h:iC (fun e=>iv e&&a.is sx e) (l.is sx) es=true):∀ x∈backTo pos (starEach es env),x.1=false:=
 c6 (fun es=>∀ x∈backTo pos (starEach es env),x.1=false) h fun e r h1 h2 x hx=>by
  rw[dj (ai h1)] at hx;rcases Sj.mp hx with q|q
  .rw[q]
  .exact l.star sx r env pos h2 x q
end
noncomputable def ao:CL:=⟨fun _ _=>ret [],fun _ es=>es.isEmpty,fun sx es env pos h=>bZ (fun es=>∀ x∈backTo pos (starEach es env),x.1=false) h aW,fun X es pos ρ P K Q E h I G w p=>bZ (fun es=>wpAny X.M X.A (spliced (backTo pos (starEach es X.env))) Q E P.s) h (Calls.spliced_nil (p.here I .nil w))⟩
noncomputable def aj (a:CE) (l:CL):CL:=⟨fun K ρ=>bW (a.ev K ρ) fun x=>bW (l.ev K ρ) fun xs=>ret (x::xs),fun s=>iC (fun e=>iv e&&a.is s e) (l.is s),F4 a l,fun _ _ _ _ _ _ _ _ h I G w p=>LS a l h I G w p⟩
section
theorem FT:∀ {ps:List PV} {vs:List Value} {ds:List D},kZ C P ps vs->sL ps=some ds->RDs C P.own ds vs:=by
 intro ps
 induction ps with
 |nil=>
  intro vs _ h e;cases e;cases h;exact .nil
 |cons p ps ih=>
  intro vs _ h e;cases h with
  |cons h r=>
  obtain ⟨x,e1,e⟩:=aq e;obtain ⟨xs,e2,rfl⟩:=a_ e;exact .cons (lW e1 h) (ih r e2)
noncomputable def vH (mk:List D->PV) (ps:List PV):PM PV:=Hm ((sL ps).bind fun ds=>au (ds.length<=1000) (mk ds))
theorem t6 {ds:List D} (r:RDs C w ds vs) (h:ds.length<=1000):vs.toArray.size<=sizeLine:=by
 rw[SG,r.length];exact Ss h (by decide)
theorem Cl (I:aL C P) (r:kZ C P ps vs) (w:Wp K (vH (fun ds=>.d (.tup ds)) ps P.σ)) (p:dW C A (RV C) P K Q E):wpAny C.M A (newTuple vs) Q E P.s:=by
 obtain ⟨v,e,k⟩:=gI w;obtain ⟨ds,e1,e⟩:=aq e;obtain ⟨hl,e⟩:=eb e;have r:=FT r e1;subst e;exact wpAny_newObj_type ((p.fin k).note I (I.newTup vs 0) P.s.toks (t_ I (I.off (Sv _)) r rfl)) (t6 r hl)
theorem Cn (I:aL C P) (r:kZ C P ps vs) (w:Wp K (vH (fun ds=>.d (.lst ds)) ps P.σ)) (p:dW C A (RV C) P K Q E):wpAny C.M A (newList vs) Q E P.s:=by
 obtain ⟨v,e,k⟩:=gI w;obtain ⟨ds,e1,e⟩:=aq e;obtain ⟨hl,e⟩:=eb e;have r:=FT r e1;subst e;exact wpAny_newObj_type ((p.fin k).note I (I.push (o:=aU vs 0) rfl) P.s.toks (kH I (I.off (Sv _)) r rfl)) (t6 r hl)
theorem dW.make (p:dW C A (RV C) P K Q E) (I:aL C P) (n:vD C P h' a o) (r:RF C (im P.own a (.cell P.σ.length 0)) o f) (k:K (.ok (.p P.σ.length 0)) (P.σ++[.fld f])):Q (.ref a) {P.s with heap:=h',toks:=t}:=
 p.ok (.p P.σ.length 0) _ (P.make h' t a (.fld f)) (.make n.own) (I.make rfl n ⟨_,.mk (bU _ _ _) n.at_ r⟩) (I.rvMake rfl) k
noncomputable def QN (ps:List PV):PM PV:=bW (Hm ((sL ps).bind fun ds=>au (ds.length<=1000) ds)) fun ds=>iW (.fld (.list ds))
theorem Cm (I:aL C P) (r:kZ C P ps vs) (w:Wp K (QN ps P.σ)) (p:dW C A (RV C) P K Q E):wpAny C.M A (newList vs) Q E P.s:=by
 obtain ⟨ds,e,k⟩:=gI (aR w);obtain ⟨ds',e1,e⟩:=aq e;obtain ⟨hl,e⟩:=eb e;cases e;have r:=FT r e1;have hn:=I.push (o:=aU vs 0) rfl;exact wpAny_newObj_type (p.make (f:=.list ds) (t:=P.s.toks) I hn ⟨vs,0,rfl,r.ext (eG hn.own)⟩ k) (t6 r hl)
end
section
theorem JY (l:CL) (h:pj (fun es _ _=>l.is X.sx es) e=true) (I:aL X.C P) (G:EnvOK X P ρ) (w:Wp K (bW (l.ev X.ker ρ) (vH fun ds=>.d (.tup ds)) P.σ)) (p:bu X (RV X.C) P K Q E):We X e Q E P:=
 vj (fun e=>We X e Q E P) h fun es k pos h=>Tuple_ (l.ok X es pos ρ P _ _ E h I G (aR w) (p.bind fun xs vs P1 g1 I1 r1 w p=>Cl I1 r1 w p))
theorem K3 (l:CL) (h:nh (fun es _=>l.is X.sx es) e=true) (I:aL X.C P) (G:EnvOK X P ρ) (w:Wp K (bW (l.ev X.ker ρ) (vH fun ds=>.d (.lst ds)) P.σ)) (p:bu X (RV X.C) P K Q E):We X e Q E P:=
 nW (fun e=>We X e Q E P) h fun es pos h=>List_ (l.ok X es pos ρ P _ _ E h I G (aR w) (p.bind fun xs vs P1 g1 I1 r1 w p=>Cn I1 r1 w p))
theorem Hv (l:CL) (h:nh (fun es _=>l.is X.sx es) e=true) (I:aL X.C P) (G:EnvOK X P ρ) (w:Wp K (bW (l.ev X.ker ρ) QN P.σ)) (p:bu X (RV X.C) P K Q E):We X e Q E P:=
 nW (fun e=>We X e Q E P) h fun es pos h=>List_ (l.ok X es pos ρ P _ _ E h I G (aR w) (p.bind fun xs vs P1 g1 I1 r1 w p=>Cm I1 r1 w p))
noncomputable abbrev u':Obj:={cls:=.type "dict",data:=.dict #[]}
theorem Bw:fC C w u' [] []:=.mk _ [] .str ⟨#[],0,⟨rfl,rfl,rfl⟩,rfl,fun _ he=>by simp at he,Pairs.nil,S9⟩ rfl rfl aW
theorem Iq (h:jO (fun ks vs _=>ks.isEmpty&&vs.isEmpty) e=true) (I:aL X.C P) (w:Wp K (ret (.d (.dct [] [])) P.σ)) (p:bu X (RV X.C) P K Q E):We X e Q E P:=
 jN (fun e=>We X e Q E P) h fun ks vs pos h=>bZ (fun ks=>wpAny X.M X.A (eval (.Dict ks vs pos) X.env) Q E P.s) (ai h) (bZ (fun vs=>wpAny X.M X.A (eval (.Dict [] vs pos) X.env) Q E P.s) (an h)
  (wpAny_Dict_empty ((p.fin w).note I (I.push (o:=u') rfl) P.s.toks (.dct (bU _ _ _) Bw .nil))))
theorem EO (h:jO (fun ks vs _=>ks.isEmpty&&vs.isEmpty) e=true) (I:aL X.C P) (w:Wp K (iW (.fld (.dict [] [])) P.σ)) (p:bu X (RV X.C) P K Q E):We X e Q E P:=
 jN (fun e=>We X e Q E P) h fun ks vs pos h=>bZ (fun ks=>wpAny X.M X.A (eval (.Dict ks vs pos) X.env) Q E P.s) (ai h) (bZ (fun vs=>wpAny X.M X.A (eval (.Dict [] vs pos) X.env) Q E P.s) (an h)
  (wpAny_Dict_empty (p.make (f:=.dict [] []) (t:=P.s.toks) I (I.push (o:=u') rfl) ⟨[],Bw,.nil⟩ w)))
end
noncomputable def bx (l:CL):CE:=⟨fun K ρ=>bW (l.ev K ρ) (vH fun ds=>.d (.tup ds)),fun s=>pj fun es _ _=>l.is s es,fun _ _ _ _ _ _ _ h I G w p=>JY l h I G w p⟩
noncomputable def gV (l:CL):CE:=⟨fun K ρ=>bW (l.ev K ρ) (vH fun ds=>.d (.lst ds)),fun s=>nh fun es _=>l.is s es,fun _ _ _ _ _ _ _ h I G w p=>K3 l h I G w p⟩
noncomputable def gO (l:CL):CE:=⟨fun K ρ=>bW (l.ev K ρ) QN,fun s=>nh fun es _=>l.is s es,fun _ _ _ _ _ _ _ h I G w p=>Hv l h I G w p⟩
noncomputable def Bv:CE:=⟨fun _ _=>ret (.d (.dct [] [])),fun _=>jO fun ks vs _=>ks.isEmpty&&vs.isEmpty,fun _ _ _ _ _ _ _ h I _ w p=>Iq h I w p⟩
noncomputable def mJ:CE:=⟨fun _ _=>iW (.fld (.dict [] [])),fun _=>jO fun ks vs _=>ks.isEmpty&&vs.isEmpty,fun _ _ _ _ _ _ _ h I _ w p=>EO h I w p⟩
noncomputable def eD:D->D->Bool
 | .int a,.int b=>decide (a=b)
 | .str a,.str b=>decide (a=b)
 |_,_=>false
noncomputable def Lo:D->Bool
 | .int _=>true
 |_=>false
noncomputable def GB:D->Bool
 | .str _=>true
 |_=>false
noncomputable def kd (k:D) (ks:List D):Bool:=(Lo k&&ks.all Lo)||(GB k&&ks.all GB)
noncomputable def eA (k:D):List D->List D->Option D
 |x::ks,v::vs=>if eD x k then some v else eA k ks vs
 |_,_=>none
noncomputable def ey (k:D):List D->List D
 |[]=>[k]
 |x::ks=>if eD x k then x::ks else x::ey k ks
noncomputable def ew (k v:D):List D->List D->List D
 |x::ks,u::vs=>if eD x k then v::vs else u::ew k v ks vs
 |_,_=>[v]
inductive JM (C:bH) (o:Obj) (k:D) (vk:Value) (ks:List D) (vs:List Value):Prop
 |mk (d:KD C) (l:List (d.K×Value)) (c:d.K):xZ C d->(letI:=d.dec;o.IsDictOf d.knd l)->ks=l.map (fun p=>d.toD p.1)->vs=l.map (·.2)->(∀ p∈l,d.ok p.1)->k=d.toD c->(letI:=d.dec;d.knd.is c vk=true)->d.ok c->JM C o k vk ks vs
section
theorem xB {K K':Type} [DecidableEq K] [DecidableEq K'] {knd:KeyKind C.prog C.w K} {knd':KeyKind C.prog C.w K'} (h:o.IsDictOf knd []):o.IsDictOf knd' []:=by
 obtain ⟨es,ep,h1,h2,_,h4,_⟩:=h;have he:es=#[]:=by
  cases q:es.toList with
  |nil=>exact Array.toList_eq_nil_iff.mp q
  |cons e r=>rw[q] at h4;cases h4
 subst he;exact ⟨#[],ep,h1,h2,fun e he=>by simp at he,by simpa using Pairs.nil,S9⟩
theorem uC {k:D} {vk:Value} {ks:List D} (h:fC C w o ks vs) (hk:RD C w k vk) (hf:kd k ks=true):JM C o k vk ks vs:=by
 cases h with
 |pr xs es ep _ _ _ _ _ e _ hne=>
  cases xs with
  |nil=>exact absurd rfl hne
  |cons x xs=>
   rw[e] at hf;have hf:((Lo k&&false)||(GB k&&false))=true:=hf;rw[Bool.and_false,Bool.and_false] at hf;cases hf
 |mk d l hd h1 h2 h3 h4=>
  subst h2;subst h3;rcases (Bool.or_eq_true _ _).mp hf with hf|hf
  .cases k with
   |int i=>
    obtain ⟨t,e⟩:∃ t,vk= .int i t:=hk.view;rw[e];cases hd with
    |int=>exact .mk _ l i .int h1 rfl rfl h4 rfl (intKind_is _ _ _ _) trivial
    |str=>
     cases l with
     |nil=>exact .mk _ [] i .int (xB h1) rfl rfl aW rfl (intKind_is _ _ _ _) trivial
     |cons p l=>cases ai (an hf)
   |_=>cases ai hf
  .cases k with
   |str s=>
    obtain ⟨hs,t,e⟩:jb s/\∃ t,vk= .str (cA s) t:=hk.view;rw[e];cases hd with
    |str=>exact .mk _ l (cA s) .str h1 rfl rfl h4 rfl (strKind_is _ _ _ _) hs
    |int=>
     cases l with
     |nil=>exact .mk _ [] (cA s) .str (xB h1) rfl rfl aW rfl (strKind_is _ _ _ _) hs
     |cons p l=>cases ai (an hf)
   |_=>cases ai hf
theorem hO {d:KD C} (hd:xZ C d) (a b:d.K):eD (d.toD a) (d.toD b)=true<->a=b:=by
 cases hd with
 |int=>exact decide_eq_true_iff
 |str=>
  show decide _=true<->_;rw[decide_eq_true_eq];exact ⟨fun h=>by
   obtain ⟨⟨a⟩⟩:=a;obtain ⟨⟨b⟩⟩:=b
   simpa using h,fun h=>by rw[h]⟩
theorem oX {d:KD C} (hd:xZ C d) (c:d.K):∀ {l:List (d.K×Value)} {ps:List D},RDs C w ps (l.map (·.2))->match eA (d.toD c) (l.map fun p=>d.toD p.1) ps,(letI:=d.dec;valueAt l c) with
  |some p,some v=>RD C w p v
  |none,none=>True
  |_,_=>False
 |[],ps,r=>by
  cases ps with
  |nil=>trivial
  |cons=>cases r.length
 |(a,v)::l,[],r=>by cases r.length
 |(a,v)::l,p::ps,r=>by
  obtain ⟨r1,r2⟩:dF C w p ps (v::l.map Prod.snd):=r.view
  letI:=d.dec
  show match (if eD (d.toD a) (d.toD c) then some p else eA (d.toD c) (l.map fun p=>d.toD p.1) ps),(List.find? (fun kv=>decide (kv.1=c)) ((a,v)::l)).map (·.2) with
   |some p,some v=>RD C w p v
   |none,none=>True
   |_,_=>False
  by_cases h:a=c
  .rw[if_pos ((hO hd a c).mpr h),List.find?_cons_of_pos (by simpa using h)];exact r1
  .rw[if_neg (fun q=>h ((hO hd a c).mp q)),List.find?_cons_of_neg (by simpa using h)];exact oX hd c r2
theorem Ey {d:KD C} (hd:xZ C d) (c:d.K) {q:D} {u:Value} (hq:RD C w q u):∀ {l:List (d.K×Value)} {ps:List D},RDs C w ps (l.map (·.2))->(l.map (·.1)).Nodup->
  (letI:=d.dec;ey (d.toD c) (l.map fun p=>d.toD p.1)=(stored l c u).map (fun p=>d.toD p.1)/\RDs C w (ew (d.toD c) q (l.map fun p=>d.toD p.1) ps) ((stored l c u).map (·.2)))
 |[],ps,r,_=>by
  cases ps with
  |nil=>exact ⟨rfl,.cons hq .nil⟩
  |cons=>cases r.length
 |(a,v)::l,[],r,_=>by cases r.length
 |(a,v)::l,p::ps,r,hn=>by
  obtain ⟨r1,r2⟩:dF C w p ps (v::l.map Prod.snd):=r.view
  letI:=d.dec
  rw[List.map_cons,S6] at hn;show (if eD (d.toD a) (d.toD c) then d.toD a::l.map fun p=>d.toD p.1 else d.toD a::ey (d.toD c) (l.map fun p=>d.toD p.1))=_/\RDs C w (if eD (d.toD a) (d.toD c) then q::ps else p::ew (d.toD c) q (l.map fun p=>d.toD p.1) ps) _;by_cases h:a=c
  .have e2:stored ((a,v)::l) c u=(a,u)::l:=by
    subst h;rw[stored,List.any_cons,Sz rfl,Bool.true_or,if_pos rfl,List.map_cons,if_pos rfl];congr 1;refine (List.map_congr_left fun kv hkv=> ?_).trans (List.map_id _);have hne:¬kv.1=a:=fun e=>hn.1 (SA.mpr ⟨kv,hkv,e⟩);rw[if_neg hne];rfl
   rw[if_pos ((hO hd a c).mpr h),if_pos ((hO hd a c).mpr h),e2];exact ⟨rfl,.cons hq r2⟩
  .have e2:stored ((a,v)::l) c u=(a,v)::stored l c u:=by
    rw[stored,stored,List.any_cons,Tc h,Bool.false_or,List.map_cons,if_neg h];by_cases hr:(l.any fun kv=>decide (kv.1=c))=true
    .rw[if_pos hr,if_pos hr]
    .rw[if_neg hr,if_neg hr];rfl
   have ih:=Ey hd c hq r2 hn.2;rw[if_neg (fun q=>h ((hO hd a c).mp q)),if_neg (fun q=>h ((hO hd a c).mp q)),e2];exact ⟨congrArg _ ih.1,.cons r1 ih.2⟩
end
section
theorem ft (G:fh C) (I:aL C P) (h:P.own a≠ .no):(a==sysModules)=false:=by
 refine beq_eq_false_iff_ne.mpr fun q=> ?_;obtain ⟨o,ho⟩:=G.big;exact h (q ▸ (I.base _ _ ho).2)
end
noncomputable def cF (u v:D):Option D:=match u with
 | .tup l=>(iD v).bind fun i=>(au (bS i=true) ()).bind fun _=>(cg i l.length).bind fun k=>l[k]?
 | .lst l=>(iD v).bind fun i=>(au (bS i=true) ()).bind fun _=>(cg i l.length).bind fun k=>l[k]?
 | .str l=>(iD v).bind fun i=>(au (bS i=true) ()).bind fun _=>(cg i l.length).bind fun k=>(l[k]?).map fun c=>.str [c]
 | .dct ks vs=>(au (kd v ks=true) ()).bind fun _=>eA v ks vs
 |_=>none
section
theorem dz (h:dg e=true) (o i:Value):subscripted e false o i=operate [o,i] (PySem.getItem o i):=by
 cases e<;>first|rfl|(cases h;done)
theorem jZ {i:Int} (h:cg i n=some k):seqIndex? i n=some k/\k<n:=by
 unfold cg at h;split at h
 .split at h
  .rename_i h1 h2
   cases h;exact ⟨seqIndex_of h1 h2,by exact (Int.toNat_lt h1).mpr h2⟩
  .cases h
 .split at h
  .rename_i h1 h2
   cases h;exact ⟨seqIndex_neg (by exact Int.lt_of_not_ge h1) (by exact Int.add_nonneg_iff_neg_le.mp h2),PD h1 h2⟩
  .cases h
theorem g6 {i:Int} (h:bS i=true): -(2^63)<=i/\i<2^63:=by
 simp only [bS,Bool.and_eq_true,decide_eq_true_eq] at h;exact ⟨SS (by decide) (Ti h.1),Int.lt_trans h.2 (by decide)⟩
theorem uG {v:D} {f:Nat->Option α} {z:α} (h:((iD v).bind fun i=>(au (bS i=true) ()).bind fun _=>(cg i n).bind f)=some z) (hv:fB C P y v):∃ i t k,y= .int i t/\bS i=true/\cg i n=some k/\f k=some z:=by
 refine bn fun G9 k9=> ?_;obtain ⟨i,e1,h⟩:=aq h;obtain ⟨_,e2,h⟩:=aq h;obtain ⟨k,e3,h⟩:=aq h;obtain ⟨t,q⟩:=d5 e1 hv;refine k9 ?_;exact ⟨i,t,k,q,(eb e2).1,e3,h⟩
theorem E1 {l:List D} {vs:List Value} {a:Addr} {i:Int} {t:Tok} {k:Nat} {p:D} {s:Shared} (hl:s.heap.IsList a vs.toArray) (hr:RDs C P.own l vs) (hs:bS i=true) (hk:cg i l.length=some k) (hp:l[k]? =some p)
  (hQ:∀ v,RD C P.own p v->Q v s):wpAny C.M A (PySem.getItem (.ref a) (.int i t)) Q E s:=by
 obtain ⟨v,hv,hrv⟩:=hr.get hp;have hlen:=hr.length;unfold cg at hk;split at hk
 .split at hk
  .rename_i h1 h2
   cases hk;exact wpAny_getItem_list hl h1 (g6 hs).2 (by simpa using hv) (hQ v hrv)
  .cases hk
 .split at hk
  .rename_i h1 h2
   cases hk;refine wpAny_getItem_list_neg hl (by exact Int.lt_of_not_ge h1) (by simp [hlen];exact Int.add_nonneg_iff_neg_le.mp h2) (g6 hs).1 (by simpa [hlen] using hv) (hQ v hrv)
  .cases hk
theorem H3 (G:fh C) (I:aL C P) {value:Expr} (he:dg e=true):∀ {u v z:D} {x y:Value},fB C P x u->fB C P y v->RD C P.own v y->cF u v=some z->mw C P z Q->wpAny C.M A (subscriptTail value e x y) Q E P.s:=by
 intro Z0 v z x y hu hv hr e k;cases Z0 with
 |tup l=>
  refine bn fun G9 k9=> ?_;obtain ⟨i,t,n,q,h1,h2,h3⟩:=uG e hv;refine k9 ?_;rw[q];refine bn fun G9 k9=> ?_;obtain @⟨a,vs,m,h4,h5⟩:kg C P.own cy l x:=RD.view hu;obtain ⟨w,h6,h7⟩:=h5.get h3;refine k9 ?_;have ht:IsTup P.h a vs.toArray:=⟨_,I.fz _ _ h4,rfl,m,rfl⟩;exact tail_any ht.typeIs slot_tuple_getitem.lookup (PyProof.Rows.getItem_tuple ht (g6 h1).1 (g6 h1).2 (by simpa [h5.length] using (jZ h2).1) (by simpa using h6) (k.here I h7)) (dz he _ _)
 |lst l=>
  refine bn fun G9 k9=> ?_;obtain ⟨i,t,n,q,h1,h2,h3⟩:=uG e hv;refine k9 ?_;rw[q];refine bn fun G9 k9=> ?_;obtain @⟨a,vs,m,h4,_,h5⟩:iM C P l x:=hu;refine k9 ?_;have hl:P.h.IsList a vs.toArray:=⟨_,h4,rfl,_,rfl⟩;exact tail_any hl.typeIs slot_list_getitem.lookup (E1 hl h5 h1 h2 h3 fun w hw=>k.here I hw) (dz he _ _)
 |str l=>
  refine bn fun G9 k9=> ?_;obtain ⟨i,t,n,q,h1,h2,h3⟩:=uG e hv;refine k9 ?_;rw[q];refine bn fun G9 k9=> ?_;obtain ⟨hx,t',r⟩:jb l/\∃ t,x= .str (cA l) t:=RD.view hu;obtain ⟨c,h4,rfl⟩:=a_ h3;refine k9 ?_;rw[r];have h63:=g6 h1;refine tail_any (typeIs_str P.s _ t') F.slot_str_getitem.lookup (PySem.P.getItem_str (c:=c) (by simp;exact And.comm.mp (id (And.symm h63))) ?_ (k.tok I (.str [c] _ ⟨fun d hd=> ?_,by simp [dM]⟩) _)) (dz he _ _)
  .have:seqIndex? i (Str.length (cA l))=some n:=by simpa [Str.length] using (jZ h2).1
   rw[this]
   simpa using h4
  .rw[So.mp hd];exact hx.1 c (SO h4)
 |dct ks ps=>
  refine bn fun G9 k9=> ?_;obtain ⟨_,e1,e⟩:=aq e;obtain @⟨a,o,vs,h1,h2,h3,h4⟩:vA C P ks ps x:=hu;obtain ⟨d,l,c,hd,h5,rfl,rfl,h6,rfl,h7,h8⟩:=uC h3 hr (eb e1).1;refine k9 ?_
  letI:=d.dec
  have hl:=oX hd c h4;rw[e] at hl;cases q:valueAt l c with
  |none=>rw[q] at hl;exact hl.elim
  |some w=>
   rw[q] at hl;have hM:=(Heap.dictOf_iff.mpr ⟨o,h1,h5⟩).mapOf;exact tail_any hM.typeIs slot_dict_getitem.lookup (wpAny_getItem_of h7 hM q (k.tok I hl _)) (dz he _ _)
 |_=>cases e
end
noncomputable def vK (x y:PV):PM PV:=fun σ=>(rd σ x).bind fun u=>(j7 y).bind fun v=>(cF u v).map fun z=>(.ok (.d z),σ)
theorem GF {y:PV} (h:Wp K (vK x y σ)):∃ u v z,rd σ x=some u/\j7 y=some v/\cF u v=some z/\K (.ok (.d z)) σ:=by
 unfold vK at h;cases e1:rd σ x with
 |none=>rw[e1] at h;exact h.elim
 |some u=>
 cases e2:j7 y with
 |none=>rw[e1,e2] at h;exact h.elim
 |some v=>
 cases e3:cF u v with
 |none=>rw[e1,e2,Si,Si,e3] at h;exact h.elim
 |some z=>rw[e1,e2,Si,Si,e3] at h;exact ⟨u,v,z,rfl,rfl,e3,h⟩
section
theorem J9 (a i:CE) (h:bT (fun v j _=>dg j&&a.is X.sx v&&i.is X.sx j) e=true) (I:aL X.C P) (G:EnvOK X P ρ) (w:Wp K (bW (a.ev X.ker ρ) (fun x=>bW (i.ev X.ker ρ) fun y=>vK x y) P.σ)) (p:bu X (RV X.C) P K Q E):We X e Q E P:=
 cx (fun e=>We X e Q E P) h fun v j pos h=>Subscript_ (a.ok X v ρ P _ _ E (an (ai h)) I G (aR w) (p.bind fun x v P1 g1 I1 r1 w p=>
  i.ok X j ρ P1 _ _ E (an h) I1 (G.ext g1) (aR w) (p.bind fun y u P2 g2 I2 r2 w p=>by
   refine bn fun G9 k9=> ?_;obtain ⟨i,j,z,e1,e2,e3,k⟩:=GF w;refine k9 ?_;have r2:=lW e2 r2;exact H3 X.good I2 (ai (ai h)) (bL I2 (r1.ext g2.toExt) e1) (kI I2 r2) r2 e3 (p.fin k))))
end
noncomputable def sub (a i:CE):CE:=⟨fun K ρ=>bW (a.ev K ρ) fun x=>bW (i.ev K ρ) fun y=>vK x y,fun s=>bT fun v j _=>dg j&&a.is s v&&i.is s j,fun _ _ _ _ _ _ _ h I G w p=>J9 a i h I G w p⟩
structure CP where
 ev:cG->bg->PM PV
 is:Sx->Option Expr->Bool
 ok:∀ (X:Cx) (e:Option Expr) (ρ:bg) (P:Pt) (K:R PV->az->Prop) (Q E:Value->Shared->Prop),is X.sx e=true->aL X.C P->EnvOK X P ρ->Wp K (ev X.ker ρ P.σ)->bu X (RV X.C) P K Q E->wpAny X.M X.A (evalPart e X.env) Q E P.s
noncomputable def EL:CP:=⟨fun _ _=>ret (.d .none),fun _ e=>e.isNone,fun X e ρ P K Q E h I G w p=>jp (fun e=>wpAny X.M X.A (evalPart e X.env) Q E P.s) h (Sy ((p.fin w).here I .none))⟩
noncomputable def tL (a:CE):CP:=⟨a.ev,fun s=>GA (a.is s),fun X e ρ P K Q E h I G w p=>gf (fun e=>wpAny X.M X.A (evalPart e X.env) Q E P.s) h fun e h=>a.ok X e ρ P K Q E h I G w p⟩
noncomputable def nQ (d:Int):D->Option Int
 | .none=>some d
 | .int i=>au (bS i=true) i
 |_=>none
noncomputable def EC (d:Nat):D->Option Nat
 | .none=>some d
 | .int i=>au (0<=i) i.toNat
 |_=>none
noncomputable def cz (u lo hi:D):Option D:=match u with
 | .lst s=>(au (s.length<=dM) ()).bind fun _=>(nQ 0 lo).bind fun l=>(nQ s.length hi).map fun h=>.lst (bJ s (dm l s.length) (dm h s.length))
 | .str s=>(EC 0 lo).bind fun l=>(EC s.length hi).bind fun h=>au (l<=h/\h<=s.length) (.str (bJ s l h))
 | .tup s=>(EC 0 lo).bind fun l=>(EC s.length hi).bind fun h=>au (l<=h/\h<=s.length/\h - l<s.length/\s.length<=dM) (.tup (bJ s l h))
 |_=>none
section
theorem re (j:Int) (m:Nat):clipAt m j=dm j m:=by
 unfold clipAt dm;by_cases h:j<0
 .rw[if_pos h,if_pos h,Int.min_eq_left (PC h)];rcases Int.le_total 0 (j+m) with q|q
  .rw[Int.max_eq_right q]
  .rw[Int.max_eq_left q,Int.toNat_of_nonpos q];rfl
 .rw[if_neg h,if_neg h];obtain ⟨n,rfl⟩:=Int.eq_ofNat_of_zero_le (Tn.mp h);rcases Nat.le_total n m with q|q
  .rw[Int.min_eq_left (SV.mpr q),Int.max_eq_right (Tl n)];exact (Nat.min_eq_left q).symm
  .rw[Int.min_eq_right (SV.mpr q),Int.max_eq_right (Tl m)];exact (Nat.min_eq_right q).symm
theorem rn {n i:Int}:∀ {p:D},RD C w p v->nQ n p=some i->∃ o:Option Int,IsPart v o/\∀ m:Nat,(o.elim (dm n m) (clipAt m))=dm i m:=by
 intro Z0 r e;cases Z0 with
 |none=>
  cases e;rw[show v= .none from r.view];exact ⟨none,.none,fun m=>rfl⟩
 |int j=>
  obtain ⟨t,q⟩:∃ t,v= .int j t:=r.view;rw[q];rw[<-(eb e).2];exact ⟨some j,.int j t,fun m=>re j m⟩
 |_=>cases e
theorem Ir (n:Nat):dm (n:Int) n=n:=by
 unfold dm;rw[if_neg (Gz)];simp
theorem B8 {x:Value} (I:aL C P) (hu:iM C P l x) (r1:RD C P.own lo vl) (r2:RD C P.own hi vu) (e:cz (.lst l) lo hi=some z) (k:mw C P z Q):
  wpAny C.M A (PySem.getItem x (.ref P.h.objs.size)) Q E {P.s with heap:=P.h.push {cls:=.type "slice",data:=.fields #[vl,vu,.none]}}:=by
 refine bn fun G9 k9=> ?_;obtain @⟨a,vs,n,g,_,r⟩:=hu;obtain ⟨_,e1,e⟩:=aq e;obtain ⟨i,e2,e⟩:=aq e;obtain ⟨j,e3,rfl⟩:=a_ e;obtain ⟨o1,p1,q1⟩:=rn r1 e2;obtain ⟨o2,p2,q2⟩:=rn r2 e3;refine k9 ?_;have hlen:=r.length;have hl:(P.h.push {cls:=.type "slice",data:=.fields #[vl,vu,.none]}).IsList a vs.toArray:=⟨_,Sr _ g,rfl,_,rfl⟩;have z1:o1.elim 0 (clipAt vs.length)=dm i l.length:=by
  have h:=q1 l.length;rw[show dm 0 l.length=0 by unfold dm;rw[if_neg (by decide)];simp] at h;rw[hlen,h]
 have z2:o2.elim vs.length (clipAt vs.length)=dm j l.length:=by
  have h:=q2 l.length;rw[Ir] at h;rw[hlen,h]
 have e8:slicePick vs.toArray o1 o2 none=(bJ vs (dm i l.length) (dm j l.length)).toArray:=by
  rw[slicePick_plain];simp only [SG,z1,z2];rfl
 refine wpAny_getItem_list_slice hl (Heap.IsSliceOf.new ..) p1 p2 .none (by simp) ?_ (by rw[SG,hlen];exact Ss (eb e1).1 (by decide));rw[e8];have hn:=SE (P.h.push {cls:=.type "slice",data:=.fields #[vl,vu,.none]}) (o:=aU (bJ vs (dm i l.length) (dm j l.length)) 0) rfl;have q:=k.note I ⟨fun b o e=>Sr _ (Sr _ e),I.off (by rw[Heap.size_push];exact S5 _),I.out (by rw[Heap.size_push];exact S5 _),hn⟩ P.s.toks (kH I (I.off (by rw[Heap.size_push];exact S5 _)) ((r.drop _).take _) rfl);exact q
theorem oS:∀ {p:D},RD C w p v->EC n p=some i->∃ o:Option (Int×Tok),v=partValue o/\o.map (·.1)=(if o.isSome then some (i:Int) else none)/\(o=none->i=n):=by
 intro Z0 r e;cases Z0 with
 |none=>
  cases e;exact ⟨none,r.view,rfl,fun _=>rfl⟩
 |int j=>
  obtain ⟨t,q⟩:∃ t,v= .int j t:=r.view;obtain ⟨h,rfl⟩:=eb e;exact ⟨some (j,t),q,by show some j=some (j.toNat:Int);rw[SZ h],fun h=>(nomatch h)⟩
 |_=>cases e
theorem t5 {x:Str} {l u:Option Int} {a b:Nat} (hab:a<=b) (hb:b<=x.length) (hl:l=some (a:Int)∨(l=none/\a=0)) (hu:u=some (b:Int)∨(u=none/\b=x.length)):StrLaws.sliceText x l u=⟨((x.cps.toList.drop a).take (b - a)).toArray⟩:=by
 rw[<-StrLaws.sliceText_nat x hab hb];unfold StrLaws.sliceText;have e:Builtin.Str.strSliceIndices l u 1 x.length=Builtin.Str.strSliceIndices (some (a:Int)) (some (b:Int)) 1 x.length:=by
  rcases hl with rfl|⟨rfl,rfl⟩
  .rcases hu with rfl|⟨rfl,rfl⟩
   .rfl
   .rw[StrLaws.sliceIdx_none_hi]
  .rcases hu with rfl|⟨rfl,rfl⟩
   .rw[StrLaws.sliceIdx_none_lo];rfl
   .rw[StrLaws.sliceIdx_none_lo,StrLaws.sliceIdx_none_hi];rfl
 rw[e]
theorem B7 {l:List Nat} {x:Value} (I:aL C P) (hu:jb l/\∃ t,x= .str (cA l) t) (r1:RD C P.own lo vl) (r2:RD C P.own hi vu) (e:cz (.str l) lo hi=some z) (k:mw C P z Q):
  wpAny C.M A (PySem.getItem x (.ref P.h.objs.size)) Q E {P.s with heap:=P.h.push {cls:=.type "slice",data:=.fields #[vl,vu,.none]}}:=by
 refine bn fun G9 k9=> ?_;obtain ⟨ho,t,hx⟩:=hu;obtain ⟨i,e2,e⟩:=aq e;obtain ⟨j,e3,e⟩:=aq e;obtain ⟨⟨q1,q2⟩,rfl⟩:=eb e;obtain ⟨o1,f1,p1,z1⟩:=oS r1 e2;obtain ⟨o2,f2,p2,z2⟩:=oS r2 e3;refine k9 ?_;have hs:=t5 (x:=cA l) (l:=o1.map (·.1)) (u:=o2.map (·.1)) q1 q2 (by
  cases o1 with
  |none=>exact .inr ⟨rfl,z1 rfl⟩
  |some o=>exact .inl p1) (by
  cases o2 with
  |none=>exact .inr ⟨rfl,z2 rfl⟩
  |some o=>exact .inl p2)
 rw[hx];refine wpAny_getItem_str_slice (l:=o1) (u:=o2) (st:=none) ⟨_,SE _ rfl,rfl,by rw[f1,f2];rfl⟩ rfl (post_val_or_str ⟨?_,fun t' n=> ?_⟩)
 .show (StrLaws.sliceText (cA l) (o1.map (·.1)) (o2.map (·.1))).length<=sizeLine;rw[hs];show ((l.drop i).take (j - i)).toArray.size<=sizeLine;rw[SG,List.length_take,List.length_drop];exact Ss (Ss (Nat.min_le_right _ _) (Nat.sub_le _ _)) (Ss ho.2 (by decide))
 .have q:=k.grown I (h':=P.h.push {cls:=.type "slice",data:=.fields #[vl,vu,.none]}) (v:=.str (StrLaws.sliceText (cA l) (o1.map (·.1)) (o2.map (·.1))) t') (fun b o e=>Sr _ e) (by
   rw[hs];refine .str _ t' ⟨fun c hc=>ho.1 c (List.mem_of_mem_drop (List.mem_of_mem_take hc)),?_⟩;rw[bJ,List.length_take,List.length_drop];exact Ss (Ss (Nat.min_le_right _ _) (Nat.sub_le _ _)) ho.2) n
  exact q
theorem Q3 {o1 o2:Option Int} (h1:o1=some (i:Int)∨(o1=none/\i=0)) (h2:o2=some (j:Int)∨(o2=none/\j=n)) (hij:i<=j) (hj:j<=n):Builtin.Slice.sliceAdjust o1 o2 1 (n:Int)=((i:Int),(j:Int)):=by
 have a1:¬((1:Int)<0):=by decide
 have a2:¬((i:Int)<0):=Gz;have a3:¬((j:Int)<0):=Gz;have a4:min (i:Int) (n:Int)=i:=by exact Int.min_eq_left (SV.mpr (Ss hij hj))
 have a5:min (j:Int) (n:Int)=j:=by exact Int.min_eq_left (SV.mpr hj)
 rcases h1 with rfl|⟨rfl,rfl⟩<;>rcases h2 with rfl|⟨rfl,rfl⟩<;>simp only [Builtin.Slice.sliceAdjust,a1,a2,a3,a4,a5,if_false]<;>rfl
theorem OE (h:i<=j):Builtin.Slice.slicePlaces (i:Int) (j:Int) 1=j - i:=by
 unfold Builtin.Slice.slicePlaces;rw[if_pos (by decide),Int.ediv_one,Int.sub_add_cancel];split
 .exact Int.toNat_sub j i
 .rename_i q
  exact (Nat.sub_eq_zero_of_le (SV.mp (Tn.mp q))).symm
theorem v6 {o:Option (Int×Tok)} {Q:Option Int->Shared->Prop} (h:Q (o.map (·.1)) s):wpAny C.M A (Builtin.Slice.slicePartIndex (partValue o)) Q E s:=by
 cases o with
 |none=>exact slicePart_none h
 |some p=>exact slicePart_int h
theorem Gl {sl:Addr} {o1 o2:Option (Int×Tok)} {Q:Int×Int×Nat->Shared->Prop} (hs:s.heap.IsSliceOf sl (partValue o1) (partValue o2) .none) (h1:o1.map (·.1)=some (i:Int)∨(o1.map (·.1)=none/\i=0)) (h2:o2.map (·.1)=some (j:Int)∨(o2.map (·.1)=none/\j=n)) (hij:i<=j) (hj:j<=n) (h:Q ((i:Int),1,j - i) s):
  wpAny C.M A (Builtin.Slice.sliceApplied (.ref sl) (pure (n:Int))) Q E s:=by
 obtain ⟨os,hos,hcs,hds⟩:=id hs;unfold Builtin.Slice.sliceApplied Builtin.Slice.sliceFields;refine Sw (Sw (wpAny_field hos hds (x:=partValue o1) rfl (Sw (wpAny_field hos hds (x:=partValue o2) rfl (Sw (wpAny_field hos hds (x:=.none) rfl (Sy ?_)))))));refine Sw (slicePart_none ?_);show wpAny _ _ (if ((1:Int)==0)=true then _ else _) _ _ s;rw[if_neg (by decide)];refine Sw (v6 (Sw (v6 (Sw (Sy ?_)))));show wpAny _ _ (match Builtin.Slice.sliceAdjust (o1.map (·.1)) (o2.map (·.1)) 1 (n:Int) with|(lo,hi)=>pure (lo,(1:Int),Builtin.Slice.slicePlaces lo hi 1)) _ _ s
 rw[Q3 h1 h2 hij hj];show wpAny _ _ (pure ((i:Int),(1:Int),Builtin.Slice.slicePlaces (i:Int) (j:Int) 1)) _ _ s;rw[OE hij];exact Sy h
theorem MG (xs:List Value) (i j:Nat):((List.range (j - i)).filterMap fun (k:Nat)=>xs.toArray[((i:Int)+(k:Int)*1).toNat]?).toArray=(bJ xs i j).toArray:=by
 have e:(fun (k:Nat)=>xs.toArray[((i:Int)+(k:Int)*1).toNat]?)=(fun x=>xs.toArray[x]?) ∘ fun k=>i+k:=by
  funext k;have:((i:Int)+(k:Int)*1).toNat=i+k:=PB;rw[this];rfl
 rw[e,<-List.filterMap_map,pick_run];rfl
theorem BR {t sl:Addr} {vs:List Value} {o1 o2:Option (Int×Tok)} {i j:Nat} {s:Shared} {Q:Value->Shared->Prop} (ht:IsTup s.heap t vs.toArray) (hs:s.heap.IsSliceOf sl (partValue o1) (partValue o2) .none) (h1:o1.map (·.1)=some (i:Int)∨(o1.map (·.1)=none/\i=0)) (h2:o2.map (·.1)=some (j:Int)∨(o2.map (·.1)=none/\j=vs.length)) (hij:i<=j) (hj:j<=vs.length) (hp:j - i<vs.length) (hsz:vs.length<=sizeLine)
  (h:Q (.ref s.heap.objs.size) {s with heap:=s.heap.push {cls:=.type "tuple",data:=.seq (bJ vs i j).toArray}}):wpAny C.M A (PySem.getItem (.ref t) (.ref sl)) Q E s:=by
 have hok:sizeOk (.seq (bJ vs i j).toArray):=by
  show (bJ vs i j).toArray.size<=sizeLine;rw[SG,bJ,List.length_take,List.length_drop];exact Ss (Nat.min_le_right _ _) (Ss (Nat.sub_le _ _) hsz)
 obtain ⟨os,hos,hcs,hds⟩:=id hs;have hT:s.TypeIs (.ref sl) "slice":=⟨os,hos,hcs⟩;unfold PySem.getItem
 try with_reducible refine wpAny_holding ?_
 first|refine Sw (Sy ?_)|skip
 refine Sw (wpAny_sequenceKey ht.typeIs (by decide) ?_);refine Sw (wpAny_callSpecial?_slot (name:=Str.ofString "__getitem__") ht.typeIs slot_tuple_getitem
  (wpAny_call_entry slot_tuple_getitem ht.typeIs entry_tuple_getitem ?_ (args_tuple_getitem _ _)))
 show wpAny _ _ (Builtin.Tuple.tupleItemsOf (.ref t)>>=_) _ _ s;refine Sw (tupleItemsOf_ ht ?_);refine Sw (wpAny_typeOf hT ?_);rw[if_pos (by decide)];rw[SG];refine Sw (Gl hs h1 h2 hij hj ?_);have hno:¬(((i:Int)==0&&(1:Int)==1&&(j - i)==vs.toArray.size)=true):=by
  have:((j - i)==vs.toArray.size)=false:=by rw[beq_eq_false_iff_ne,SG];exact Nat.ne_of_lt hp
  rw[this,Bool.and_false];exact SI
 show wpAny _ _ (if ((i:Int)==0&&(1:Int)==1&&(j - i)==vs.toArray.size)=true then _ else _) _ _ s;rw[if_neg hno,MG]
 first
  |exact Sw (m:=Builtin.Tuple.tupleExact _) (wpAny_newObj_type (Sy ⟨_,rfl,Sy h⟩) hok)
  |exact Sw (m:=Builtin.Tuple.tupleExact _) (wpAny_newObj_type (Sw (Sy (Sy ⟨_,rfl,Sy h⟩))) hok)
  |exact Sw (Sw (m:=Builtin.Tuple.tupleExact _) (wpAny_newObj_type (Sy (Sy ⟨_,rfl,Sy h⟩)) hok))
  |exact Sw (Sw (m:=Builtin.Tuple.tupleExact _) (wpAny_newObj_type (Sy ⟨_,rfl,Sy h⟩) hok))
theorem B6 {x:Value} (I:aL C P) (hu:kg C P.own cy l x) (r1:RD C P.own lo vl) (r2:RD C P.own hi vu) (e:cz (.tup l) lo hi=some z) (k:mw C P z Q):
  wpAny C.M A (PySem.getItem x (.ref P.h.objs.size)) Q E {P.s with heap:=P.h.push {cls:=.type "slice",data:=.fields #[vl,vu,.none]}}:=by
 refine bn fun G9 k9=> ?_;obtain @⟨a,vs,n,g,r⟩:=hu;obtain ⟨i,e2,e⟩:=aq e;obtain ⟨j,e3,e⟩:=aq e;obtain ⟨⟨q1,q2,q3,q4⟩,rfl⟩:=eb e;obtain ⟨o1,f1,p1,z1⟩:=oS r1 e2;obtain ⟨o2,f2,p2,z2⟩:=oS r2 e3;refine k9 ?_;have hlen:=r.length;have ht:IsTup (P.h.push {cls:=.type "slice",data:=.fields #[vl,vu,.none]}) a vs.toArray:=⟨_,Sr _ (I.fz _ _ g),rfl,n,rfl⟩;refine BR (o1:=o1) (o2:=o2) (i:=i) (j:=j) ht (by rw[<-f1,<-f2];exact Heap.IsSliceOf.new ..) (by
  cases o1 with
  |none=>exact .inr ⟨rfl,z1 rfl⟩
  |some o=>exact .inl p1) (by
  cases o2 with
  |none=>exact .inr ⟨rfl,by rw[hlen];exact z2 rfl⟩
  |some o=>exact .inl p2) q1 (by rw[hlen];exact q2) (by rw[hlen];exact q3) (by rw[hlen];exact Ss q4 (by decide)) ?_
 have hn:=SE (P.h.push {cls:=.type "slice",data:=.fields #[vl,vu,.none]}) (o:=cy (bJ vs i j) 0) rfl;exact k.note I ⟨fun b o e=>Sr _ (Sr _ e),I.off (by rw[Heap.size_push];exact S5 _),I.out (by rw[Heap.size_push];exact S5 _),hn⟩ P.s.toks (t_ I (I.off (by rw[Heap.size_push];exact S5 _)) ((r.drop _).take _) rfl)
theorem D5 {value:Expr} {le ue:Option Expr} {sp:Pos} (I:aL C P):∀ {u lo hi z:D} {x:Value},fB C P x u->RD C P.own lo vl->RD C P.own hi vu->cz u lo hi=some z->mw C P z Q->
  wpAny C.M A (subscriptTail value (.Slice le ue none sp) x (.ref P.h.objs.size)) Q E {P.s with heap:=P.h.push {cls:=.type "slice",data:=.fields #[vl,vu,.none]}}:=by
 intro Z0 lo hi z x hu r1 r2 e k;cases Z0 with
 |lst l=>
  have q:=B8 (A:=A) (E:=E) I hu r1 r2 e k;refine bn fun G9 k9=> ?_;obtain @⟨a,vs,n,g,_,r⟩:iM C P l x:=hu;refine k9 ?_;have hl:(P.h.push {cls:=.type "slice",data:=.fields #[vl,vu,.none]}).IsList a vs.toArray:=⟨_,Sr _ g,rfl,_,rfl⟩;exact tail_any hl.typeIs list_getitem_lookup q (ops:=[.ref P.h.objs.size,.ref a]) rfl
 |str l=>
  have q:=B7 (A:=A) (E:=E) I (RD.view hu) r1 r2 e k;obtain ⟨_,t,hx⟩:jb l/\∃ t,x= .str (cA l) t:=RD.view hu;rw[hx] at q ⊢;exact tail_any (typeIs_str _ _ t) F.slot_str_getitem.lookup q (ops:=[.ref P.h.objs.size,.str (cA l) t]) rfl
 |tup l=>
  have q:=B6 (A:=A) (E:=E) I (RD.view hu) r1 r2 e k;refine bn fun G9 k9=> ?_;obtain @⟨a,vs,n,g,r⟩:kg C P.own cy l x:=RD.view hu;refine k9 ?_;have ht:IsTup (P.h.push {cls:=.type "slice",data:=.fields #[vl,vu,.none]}) a vs.toArray:=⟨_,Sr _ (I.fz _ _ g),rfl,n,rfl⟩;exact tail_any ht.typeIs slot_tuple_getitem.lookup q (ops:=[.ref P.h.objs.size,.ref a]) rfl
 |_=>cases e
end
noncomputable def t0 (x lo hi:PV):PM PV:=fun σ=>(rd σ x).bind fun u=>(j7 lo).bind fun l=>(j7 hi).bind fun h=>(cz u l h).map fun z=>(.ok (.d z),σ)
theorem BQ {lo hi:PV} (h:Wp K (t0 x lo hi σ)):∃ u l v z,rd σ x=some u/\j7 lo=some l/\j7 hi=some v/\cz u l v=some z/\K (.ok (.d z)) σ:=by
 unfold t0 at h;cases e1:rd σ x with
 |none=>rw[e1] at h;exact h.elim
 |some u=>
 cases e2:j7 lo with
 |none=>rw[e1,e2] at h;exact h.elim
 |some l=>
 cases e4:j7 hi with
 |none=>rw[e1,e2,e4] at h;exact h.elim
 |some v=>
 cases e3:cz u l v with
 |none=>rw[e1,e2,e4,Si,Si,Si,e3] at h;exact h.elim
 |some z=>rw[e1,e2,e4,Si,Si,Si,e3] at h;exact ⟨u,l,v,z,rfl,rfl,rfl,e3,h⟩
section
theorem J' (a:CE) (lo hi:CP) (h:vo (fun v l u=>a.is X.sx v&&lo.is X.sx l&&hi.is X.sx u) e=true) (I:aL X.C P) (G:EnvOK X P ρ) (w:Wp K (bW (a.ev X.ker ρ) (fun x=>bW (lo.ev X.ker ρ) fun l=>bW (hi.ev X.ker ρ) fun h=>t0 x l h) P.σ)) (p:bu X (RV X.C) P K Q E):wpAny X.M X.A (eval e X.env) Q E P.s:=
 nV (fun e=>wpAny X.M X.A (eval e X.env) Q E P.s) h fun v l u sp pos h=>Subscript_ (a.ok X v ρ P _ _ E (ai (ai h)) I G (aR w) (p.bind fun x v P1 g1 I1 r1 w p=>
  wpAny_Slice (lo.ok X l ρ P1 _ _ E (an (ai h)) I1 (G.ext g1) (aR w) (p.bind fun y1 v1 P2 g2 I2 r2 w p=>
   hi.ok X u ρ P2 _ _ E (an h) I2 ((G.ext g1).ext g2) (aR w) (p.bind fun y2 v2 P3 g3 I3 r3 w p=>by
    refine bn fun G9 k9=> ?_;obtain ⟨u1,u2,u3,z,e1,e2,e3,e4,k⟩:=BQ w;refine k9 ?_;rw[evalPart_none];exact Sy (D5 I3 (bL I3 ((r1.ext g2.toExt).ext g3.toExt) e1) (lW e2 (r2.ext g3.toExt)) (lW e3 r3) e4 (p.fin k)))))))
end
noncomputable def Az (a:CE) (lo hi:CP):CE:=⟨fun K ρ=>bW (a.ev K ρ) fun x=>bW (lo.ev K ρ) fun l=>bW (hi.ev K ρ) fun h=>t0 x l h,fun s=>vo fun v l u=>a.is s v&&lo.is s l&&hi.is s u,fun _ _ _ _ _ _ _ h I G w p=>J' a lo hi h I G w p⟩
structure BF where
 nm:Str
 val:Value
 mem:(nm,val)∈fL
 g:Bool->List PV->PM PV
 ok:∀ {C:bH} {A:Around} {P:Pt} {hd:Bool} {K:R PV->az->Prop} {ps:List PV} {vs:List Value} {Q E:Value->Shared->Prop},fh C->(hd=false->A.handled=none)->aL C P->kZ C P ps vs->Wp K (g hd ps P.σ)->dW C A (RV C) P K Q E->wpAny C.M A (call val vs) Q E P.s
theorem NQ:∀ p∈fL,(∃ id,p.2= .builtin id)∨(∃ T,p.2= .type T):=by
 have h:fL.all (fun p=>match p.2 with| .builtin _=>true| .type _=>true|_=>false)=true:=by decide+kernel
 intro p hp;have q:=List.all_eq_true.mp h p hp;cases e:p.2<;>rw[e] at q<;>first|exact .inl ⟨_,rfl⟩|exact .inr ⟨_,rfl⟩|cases q
theorem eS {l:List (Bool×Sem Value)} (h:∀ x∈l,x.1=false):l.any (·.1)=false:=by
 rw[Bool.eq_false_iff];intro q;obtain ⟨x,hx,e⟩:=List.any_eq_true.mp q;rw[h x hx] at e;cases e
theorem dC {M:Model} {f:Value} {l:List (Bool×Sem Value)} {Q:Args->Shared->Prop} (hl:∀ x∈l,x.1=false) (h:wpAny M A (spliced l) (fun vs s'=>Q ⟨vs,[]⟩ s') E s):
  wpAny M A (evalArgs f true l []) Q E s:=by
 cases l with
 |nil=>
  unfold evalArgs;show wpAny M A (spliced []>>=_) Q E s;refine Sw (wpAny_mono h (fun vs s' h'=> ?_) fun _ _ x=>x);refine Sw (Sy ?_);refine wpAny_holding ?_;exact Sw (Sy (Sw (Sy (Sy h'))))
 |cons x r=>
  obtain ⟨b,t⟩:=x;obtain rfl:b=false:=hl _ (.head _);exact Calls.evalArgs_plain h
section
theorem NR (f:BF) (l:CL) (h:eQ (fun x es=>x==f.nm&&ef X.sx.sc x&&l.is X.sx es) e=true) (I:aL X.C P) (G:EnvOK X P ρ) (w:Wp K (bW (l.ev X.ker ρ) (f.g X.ker.hd) P.σ)) (p:bu X (RV X.C) P K Q E):wpAny X.M X.A (eval e X.env) Q E P.s:=
 eO (fun e=>wpAny X.M X.A (eval e X.env) Q E P.s) h fun x px es pos h=>by
  have hw:=an (ai h);rw[bR (ai (ai h))] at hw ⊢;have hp:=l.star X.sx es X.env pos (an h);refine wpAny_Call_NameR (fI I hw f.mem ?_);have args:wpAny X.M X.A (evalArgs f.val true (backTo pos (starEach es X.env)) []) (fun a s₁=>wpAny X.M X.A (PySem.call f.val ([]++a.pos) a.kw) Q E s₁) E P.s:=
   dC hp (l.ok X es pos ρ P _ _ E (an h) I G (aR w) (p.bind fun ps vs P1 g1 I1 r1 w p=>f.ok X.good X.hnd I1 r1 w p))
  rcases NQ _ f.mem with ⟨id,q⟩|⟨T,q⟩
  .have q:f.val=_:=q;rw[q] at args ⊢;exact Calls.callWith_builtin (eS hp) args
  .have q:f.val=_:=q;rw[q] at args ⊢;exact PyProof.Rows.callWith_type (eS hp) args
end
noncomputable def bi (f:BF) (l:CL):CE:=⟨fun K ρ=>bW (l.ev K ρ) (f.g K.hd),fun s=>eQ fun x es=>x==f.nm&&ef s.sc x&&l.is s es,fun _ _ _ _ _ _ _ h I G w p=>NR f l h I G w p⟩
noncomputable def g1 (g:D->Option D):List PV->PM PV
 |[x]=>fun σ=>(rd σ x).bind fun u=>(g u).map fun z=>(.ok (.d z),σ)
 |_=>fun _=>none
noncomputable def g2 (g:D->D->Option D):List PV->PM PV
 |[x,y]=>Kz g x y
 |_=>fun _=>none
section
inductive Ao (C:bH) (P:Pt) (p:PV) (ps:List PV):List Value->Prop
 |mk {v:Value} {vs:List Value}:RV C P v p->kZ C P ps vs->Ao C P p ps (v::vs)
def NZ (C:bH) (P:Pt) (vs:List Value):List PV->Prop
 |[]=>vs=[]
 |p::ps=>Ao C P p ps vs
theorem kZ.view (h:kZ C P ps vs):NZ C P vs ps:=by
 cases h with
 |nil=>rfl
 |cons h r=>exact .mk h r
theorem gT {g:D->Option D} (q:List Value->Prop) (I:aL C P) (r:kZ C P ps vs) (w:Wp K (g1 g ps P.σ)) (k:∀ v u z,fB C P v u->g u=some z->K (.ok (.d z)) P.σ->q [v]):q vs:=by
 match ps,r,w with
 |[x],r,w=>
  obtain ⟨r1,r2⟩:Ao C P x [] vs:=r.view;rw[show _=[] from r2.view];have w:Wp K ((rd P.σ x).bind fun u=>(g u).map fun z=>(.ok (.d z),P.σ)):=w;cases e1:rd P.σ x with
  |none=>rw[e1] at w;exact w.elim
  |some u=>
   cases e2:g u with
   |none=>rw[e1,Si,e2] at w;exact w.elim
   |some z=>rw[e1,Si,e2] at w;exact k _ u z (bL I r1 e1) e2 w
 |[],_,w=>exact w.elim
 |_::_::_,_,w=>exact w.elim
theorem Fx {g:D->D->Option D} (q:List Value->Prop) (I:aL C P) (r:kZ C P ps vs) (w:Wp K (g2 g ps P.σ)) (k:∀ x y u v z,fB C P x u->fB C P y v->g u v=some z->K (.ok (.d z)) P.σ->q [x,y]):q vs:=by
 match ps,r,w with
 |[x,y],r,w=>
  obtain ⟨r1,r2⟩:Ao C P x [y] vs:=r.view;obtain ⟨r4,r3⟩:Ao C P y [] _:=r2.view;rw[show _=[] from r3.view];obtain ⟨u,v,z,e1,e2,e3,w⟩:=tU w;exact k _ _ u v z (bL I r1 e1) (bL I r4 e2) e3 w
 |[],_,w=>exact w.elim
 |[_],_,w=>exact w.elim
 |_::_::_::_,_,w=>exact w.elim
noncomputable def HQ (u:D):Option D:=(match u with
 | .str s=>some s.length
 | .tup l=>some l.length
 | .lst l=>some l.length
 |_=>none).bind fun n=>au (n<=dM) (.int (n:Nat))
theorem K7 (I:aL C P):∀ {u z:D} {v:Value},fB C P v u->HQ u=some z->mw C P z Q->wpAny C.M A (call (.builtin "len") [v]) Q E P.s:=by
 intro Z0 z v h e k;cases Z0 with
 |str l=>
  obtain ⟨hm,rfl⟩:=eb e;obtain ⟨_,t,q⟩:jb l/\∃ t,v= .str (cA l) t:=RD.view h;rw[q];have k:=k.tok I (.int _ _) (P.s.toks+1+1) (v:=.int l.length (P.s.toks+1));simp only [dM] at hm;exact PyProof.Rows.len_str (by simp [Str.length];exact O_ hm) (by simpa [Str.length] using k)
 |tup l=>
  obtain ⟨hm,rfl⟩:=eb e;obtain @⟨a,vs,n,o,r⟩:kg C P.own cy l v:=RD.view h;have k:=k.tok I (.int _ _) (P.s.toks+1+1) (v:=.int l.length (P.s.toks+1));simp only [dM] at hm;exact PyProof.Rows.len_tuple (items:=vs.toArray) ⟨_,I.fz _ _ o,rfl,n,rfl⟩ (by simp [r.length];exact O_ hm) (by simpa [r.length] using k)
 |lst l=>
  obtain ⟨hm,rfl⟩:=eb e;obtain @⟨a,vs,n,o,_,r⟩:iM C P l v:=h;have k:=k.tok I (.int _ _) (P.s.toks+1+1) (v:=.int l.length (P.s.toks+1));simp only [dM] at hm;exact PyProof.Rows.len_list (items:=vs.toArray) ⟨_,o,rfl,_,rfl⟩ (by simp [r.length];exact O_ hm) (by simpa [r.length] using k)
 |_=>cases e
end
noncomputable def bf:BF:=⟨"len",.builtin "len",by decide+kernel,fun _=>g1 HQ,fun {C A P hd K ps vs Q E} _ _ I r w p=>gT (fun vs=>wpAny C.M A (call (.builtin "len") vs) Q E P.s) I r w fun v u z h e k=>K7 I h e (p.fin k)⟩
noncomputable def OC (u:D):Option D:=(iD u).bind fun b=>au (bS b=true) (.rng 0 b 1)
noncomputable def jH:BF:=⟨"range",.type "range",by decide+kernel,fun _=>g1 OC,fun {C A P hd K ps vs Q E} _ _ I r w p=>gT (fun vs=>wpAny C.M A (call (.type "range") vs) Q E P.s) I r w fun v u z h e k=>by
 obtain ⟨b,e1,e⟩:=aq e;obtain ⟨hs,rfl⟩:=eb e;obtain ⟨t,q⟩:=d5 e1 h;rw[q];exact call_range_1 ((p.fin k).note I (I.push rfl) _ (.rng 0 b 1 _ _ _ (bU _ _ _)))⟩
noncomputable def iF:BF:=⟨"tuple",.type "tuple",by decide+kernel,fun _=>g1 fun u=>(lD u).bind fun l=>au (l.length<=dM) (.tup l),fun {C A P hd K ps vs Q E} _ _ I r w p=>gT (fun vs=>wpAny C.M A (call (.type "tuple") vs) Q E P.s) I r w fun v u z h e k=>by
 obtain ⟨l,e1,e⟩:=aq e;obtain ⟨hm,rfl⟩:=eb e;obtain @⟨a,vs,n,o,_,rr⟩:=gP e1 h;refine call_tuple_list (items:=vs.toArray) ⟨_,o,rfl,_,rfl⟩ (fun h' kp=> ?_) (by rw[SG,rr.length];exact Ss hm (by decide));have hn:h'.objs.size≥P.h.objs.size∨True:=.inr trivial;have own:P.own h'.objs.size= .no:=by
  by_cases q:P.own h'.objs.size= .no
  .exact q
  .obtain ⟨o,ho⟩:=I.live _ q;exact absurd (SR (kp _ _ ho)) (S4 _)
 have H:C.H.get? h'.objs.size=none:=by
  cases q:C.H.get? h'.objs.size with
  |none=>rfl
  |some o=>exact absurd (SR (kp _ _ (I.base _ _ q).1)) (S4 _)
 exact (p.fin k).note I ⟨fun b o e=>Sr _ (kp b o e),own,H,SE _ rfl⟩ P.s.toks (t_ I own rr rfl)⟩
noncomputable def kQ:List D->Option (List Bool)
 |[]=>some []
 | .bool b::r=>(kQ r).map (b::·)
 |_=>none
noncomputable def off {α:Type} (hd:Bool) (m:PM α):PM α:=fun σ=>match hd with
 |true=>none
 |false=>m σ
theorem gK {hd:Bool} {K:R α->az->Prop} {m:PM α} (w:Wp K (off hd m σ)):hd=false/\Wp K (m σ):=by
 cases hd with
 |true=>exact w.elim
 |false=>exact ⟨rfl,w⟩
theorem Ad:∀ {vs:List Value} {bs:List Bool},RDs C w l vs->kQ l=some bs->vs=bs.map Value.bool:=by
 induction l with
 |nil=>exact fun r e=>by cases e;exact r.view
 |cons x l ih=>
  intro vs bs r e;cases x with
  |bool b=>
   obtain ⟨r1,r2⟩:dF C w (.bool b) l vs:=r.view;obtain ⟨bs',e1,rfl⟩:=a_ e;rw[show _=Value.bool b from r1.view,ih r2 e1];rfl
  |_=>cases e
theorem Dz {bs:List Bool}:(List.range bs.length).all (fun i=>(bs[i]?).getD true)=bs.all id:=by
 rw[Bool.eq_iff_iff,List.all_eq_true,List.all_eq_true];constructor
 .intro h b hb;obtain ⟨i,hi⟩:=List.mem_iff_getElem?.mp hb;have:=h i (List.mem_range.mpr (Sl.mp hi).1);rw[hi] at this
  simpa using this
 .intro h i hi;have hi':=List.mem_range.mp hi;rw[Sn hi']
  simpa using h _ (List.getElem_mem hi')
theorem L5 {bs:List Bool} (I:aL C P) (hh:A.handled=none) (h:iM C P l v) (e2:kQ l=some bs) (k:mw C P (.bool (bs.all id)) Q):wpAny C.M A (call (.builtin "all") [v]) Q E P.s:=by
 obtain @⟨a,vs,q,g,_,hs⟩:=h;have hvs:=Ad hs e2;have hl:P.h.IsList a vs.toArray:=⟨_,g,rfl,_,rfl⟩;have hane:a≠P.h.objs.size:=Nat.ne_of_lt (SR g);refine call_all_walk (wpAny_pyIter_list hl ?_);refine ⟨_,_,_,_,_,_,fun i=>(bs[i]?).getD true,rfl,Walks.list (A:=A.in1) hh P.h.objs.size _ hane vs.toArray,⟨⟨_,SE _ rfl,rfl,rfl⟩,hl.at fun o e=>Sr _ e⟩,?_,fun h' tk kp=> ?_⟩
 .intro i v s' Q' E' hP hQ;rw[hvs] at hP;simp only [List.getElem?_toArray,SB] at hP;obtain ⟨b,hb,rfl⟩:=S8.mp hP;dsimp only at hQ;rw[hb] at hQ;exact wpAny_truthy_bool hQ
 .have hn:vs.toArray.size=bs.length:=by simp [hvs]
  rw[hn,Dz];refine k.grown I (fun b o e=>kp b o (fun hm=> ?_) (Sr _ e)) (.bool _) _;rw[So.mp hm] at e;exact absurd (SR e) (S4 _)
noncomputable def uX:BF:=⟨"all",.builtin "all",by decide+kernel,fun hd ps=>off hd (g1 (fun u=>(lD u).bind fun l=>(kQ l).map fun bs=>.bool (bs.all id)) ps),fun {C A P hd K ps vs Q E} _ hh I r w p=>gT (fun vs=>wpAny C.M A (call (.builtin "all") vs) Q E P.s) I r (gK w).2 fun v u z h e k=>by
 obtain ⟨l,e1,e⟩:=aq e;obtain ⟨bs,e2,rfl⟩:=a_ e;exact L5 I (hh (gK w).1) (gP e1 h) e2 (p.fin k)⟩
noncomputable def aN (n:Int):List Nat:=(Str.ofString (toString n)).cps.toList
noncomputable def zO:D->Option (List Nat)
 | .str s=>some s
 | .int i=>au (i.natAbs.log2<1920) (aN i)
 |_=>none
theorem yC {i:Int} (h:i.natAbs.log2<1920):jb (aN i):=by
 have e:(Str.ofString (toString i)).cps.toList=(toString i).toList.map Char.toNat:=by rw[Str.ofString_eq_toList]
 refine ⟨fun c hc=> ?_,?_⟩
 .unfold aN at hc;rw[e] at hc;obtain ⟨x,_,rfl⟩:=SA.mp hc;rcases x.valid with q|q
  .exact Th q (by decide)
  .exact q.2
 .have h1:=int_text_length_le (k:=1920) (by decide) h;have h2:(aN i).length=(toString i).length:=PySem.ofString_length _;rw[h2];exact Ss h1 (by decide)
theorem FD {l:List Nat}:∀ {x:D},RD C w x v->zO x=some l->jb l/\((∃ t,v= .str (cA l) t)∨∃ i t,v= .int i t/\i.natAbs.log2<1920/\l=aN i):=by
 intro Z0 r e;cases Z0 with
 |str s=>
  cases e;exact ⟨r.view.1,.inl r.view.2⟩
 |int i=>
  obtain ⟨t,q⟩:∃ t,v= .int i t:=r.view;obtain ⟨h,rfl⟩:=eb e;exact ⟨yC h,.inr ⟨i,t,q,h,rfl⟩⟩
 |_=>cases e
noncomputable def d1 (g:D->Option D):List PV->PM PV
 |[.d u]=>fun σ=>(g u).map fun z=>(.ok (.d z),σ)
 |_=>fun _=>none
theorem LM {g:D->Option D} (q:List Value->Prop) (r:kZ C P ps vs) (w:Wp K (d1 g ps P.σ)) (k:∀ v u z,RD C P.own u v->g u=some z->K (.ok (.d z)) P.σ->q [v]):q vs:=by
 match ps,r,w with
 |[.d u],r,w=>
  obtain ⟨r1,r2⟩:Ao C P (.d u) [] vs:=r.view;rw[show _=[] from r2.view];have w:Wp K ((g u).map fun z=>(.ok (.d z),P.σ)):=w;cases e:g u with
  |none=>rw[e] at w;exact w.elim
  |some z=>rw[e] at w;exact k _ u z r1 e w
 |[],_,w=>exact w.elim
 |[.p _ _],_,w=>exact w.elim
 | .d _::_::_,_,w=>exact w.elim
 | .p _ _::_::_,_,w=>exact w.elim
noncomputable def sK:BF:=⟨"str",.type "str",by decide+kernel,fun _=>d1 fun u=>(zO u).map .str,fun {C A P hd K ps vs Q E} _ _ I r w p=>LM (fun vs=>wpAny C.M A (call (.type "str") vs) Q E P.s) r w fun v u z h e k=>by
 obtain ⟨l,e1,rfl⟩:=a_ e;obtain ⟨ho,⟨t,q⟩|⟨i,t,q,hi,hl⟩⟩:=FD h e1
 .rw[q];exact PySem.P.str_of_str ((p.fin k).here I (.str l t ho))
 .rw[q];exact PySem.P.str_of_int hi ((p.fin k).tok I (pL hl.symm ho _) _)⟩
structure MF where
 nm:Str
 T:String
 id:String
 pa:PlainAttrs T
 sl:Slot T nm id
 ty:typeOf (.builtin id)=pure (.type "method_descriptor")
 fit:PV->D->Bool
 fitok:∀ {C:bH} {P:Pt} {v:Value} {p:PV} {x:D},aL C P->RV C P v p->rd P.σ p=some x->fit p x=true->P.s.TypeIs v T/\∀ a,v= .ref a->∃ ob,P.h.get? a=some ob/\ob.dict=none
 g:PV->List PV->PM PV
 ok:∀ {C:bH} {A:Around} {P:Pt} {K:R PV->az->Prop} {x:PV} {ps:List PV} {v:Value} {vs:List Value} {Q E:Value->Shared->Prop},fh C->aL C P->RV C P v x->kZ C P ps vs->Wp K (g x ps P.σ)->dW C A (RV C) P K Q E->wpAny C.M A (call (.builtin id) (v::vs)) Q E P.s
theorem vg {v:Expr} {x:Str} (h:fV v=true):attributeBase v x env (eval v env)=eval v env:=by
 cases v with
 |Call f es kw pos=>
  cases f<;>first|rfl|skip
  cases es<;>first|rfl|skip
  cases kw<;>first|rfl|(cases h;done)
 |_=>rfl
theorem FF {l:CL} {sx:Sx} (h:l.is sx es=true) (hl:es.length<29):
  ((backTo pos (starEach es env)).all (fun x=> !x.1)&&(backToKw pos (keywordEach [] env)).all (fun x=>x.1.isSome)&&decide (es.length+([]:List Keyword).length+(if ([]:List Keyword).isEmpty then 0 else 1)<30))=true:=by
 have hp:=l.star sx es env pos h;have h1:(backTo pos (starEach es env)).all (fun x=> !x.1)=true:=List.all_eq_true.mpr fun x hx=>by rw[hp x hx];rfl
 have h2:decide (es.length+([]:List Keyword).length+(if ([]:List Keyword).isEmpty then 0 else 1)<30)=true:=Sz (by simp;exact Nat.lt_succ_of_lt hl);rw[h1,h2];rfl
noncomputable def Ih (f:PV->D->Bool) (x:PV) (m:PM PV):PM PV:=fun σ=>match (rd σ x).any (f x) with
 |true=>m σ
 |false=>none
theorem JU {f:PV->D->Bool} {m:PM PV} (w:Wp K (Ih f x m σ)):(∃ u,rd σ x=some u/\f x u=true)/\Wp K (m σ):=by
 unfold Ih at w;cases e:rd σ x with
 |none=>rw[e] at w;exact w.elim
 |some u=>
  rw[e] at w;have w:Wp K (match f x u with|true=>m σ|false=>none):=w
  cases q:f x u with
  |true=>rw[q] at w;exact ⟨⟨u,rfl,q⟩,w⟩
  |false=>rw[q] at w;exact w.elim
section
theorem NP (f:MF) (o:CE) (l:CL) (h:mi (fun v x ap es pos=>x==f.nm&&fV v&&ap.endLine==pos.line&&o.is X.sx v&&l.is X.sx es&&decide (es.length<29)) e=true) (I:aL X.C P) (G:EnvOK X P ρ) (w:Wp K (bW (o.ev X.ker ρ) (fun x=>Ih f.fit x (bW (l.ev X.ker ρ) fun ps=>f.g x ps)) P.σ)) (p:bu X (RV X.C) P K Q E):wpAny X.M X.A (eval e X.env) Q E P.s:=
 mh (fun e=>wpAny X.M X.A (eval e X.env) Q E P.s) h fun v x ap es pos h=>by
  rw[bR (ai (ai (ai (ai (ai h)))))];have hl:=an (ai h);have hp:=l.star X.sx es X.env pos hl;refine wpAny_Call_method_late (vg (an (ai (ai (ai (ai h)))))) (FF hl (S3 (an h))) (an (ai (ai (ai h)))) rfl ?_;refine o.ok X v ρ P _ _ E (an (ai (ai h))) I G (aR w) (p.bind fun x v P1 g1 I1 r1 w p=> ?_);obtain ⟨⟨u,e1,e2⟩,w⟩:=JU w;obtain ⟨k4,k5⟩:=f.fitok I1 r1 e1 e2;refine ⟨f.T,f.id,f.pa,f.sl,f.ty,k4,k5,?_⟩;refine Calls.callWith_builtin (eS hp) (dC hp ?_);exact l.ok X es pos ρ P1 _ _ E hl I1 (G.ext g1) (aR w) (p.bind fun ps vs P2 g2 I2 r2 w p=>f.ok X.good I2 (r1.ext g2.toExt) r2 w p)
end
noncomputable def bm (f:MF) (o:CE) (l:CL):CE:=⟨fun K ρ=>bW (o.ev K ρ) fun x=>Ih f.fit x (bW (l.ev K ρ) fun ps=>f.g x ps),fun s=>mi fun v x ap es pos=>x==f.nm&&fV v&&ap.endLine==pos.line&&o.is s v&&l.is s es&&decide (es.length<29),fun _ _ _ _ _ _ _ h I G w p=>NP f o l h I G w p⟩
noncomputable def Sd:D->Bool
 | .lst _=>true
 |_=>false
noncomputable def Lp:D->Bool
 | .dct _ _=>true
 |_=>false
section
noncomputable def Lm:PV->D->Bool
 | .p _ _,.lst _=>true
 |_,_=>false
theorem Ie {x:D} (I:aL C P) (r:RV C P v p) (h:rd P.σ p=some x) (e:Lm p x=true):P.s.TypeIs v "list"/\∀ a,v= .ref a->∃ ob,P.h.get? a=some ob/\ob.dict=none:=by
 cases p with
 |d y=>cases e
 |b _ _=>cases e
 |p n j=>
  obtain ⟨f,e1,e2⟩:=Option.bind_eq_some_iff.mp h;have q:=nU I r e1 (jm e2).2;cases f with
  |list l=>
   obtain ⟨_,g,ws,m,e3,_⟩:=q;subst e3;exact ⟨⟨_,g,rfl⟩,fun b q=>by cases q;exact ⟨_,g,rfl⟩⟩
  |dict a b=>cases e2;cases e
  |d y=>cases e2
theorem Ig {x:D} (I:aL C P) (r:RV C P v p) (hh:rd P.σ p=some x) (e:Lp x=true):P.s.TypeIs v "dict"/\∀ a,v= .ref a->∃ ob,P.h.get? a=some ob/\ob.dict=none:=by
 cases x with
 |dct ks ps=>
  obtain ⟨g,_,h,_⟩:vA C P ks ps v:=bL I r hh;cases h with
  |mk d l _ h1 _=>
   letI:=d.dec
   have hD:=Heap.dictOf_iff.mpr ⟨_,g,h1⟩;exact ⟨hD.typeIs,hD.mapOf.noDict⟩
  |pr xs es ep h1=>
   exact ⟨⟨_,g,h1.1⟩,fun a e=>by cases e;exact ⟨_,g,h1.2.1⟩⟩
 |_=>cases e
theorem Bj {x:D} (I:aL C P) (r:RV C P v p) (hh:rd P.σ p=some x) (e:GB x=true):P.s.TypeIs v "str"/\∀ a,v= .ref a->∃ ob,P.h.get? a=some ob/\ob.dict=none:=by
 cases x with
 |str l=>
  obtain ⟨_,t,q⟩:jb l/\∃ t,v= .str (cA l) t:=RD.view (bL I r hh);rw[q];exact ⟨typeIs_str _ _ _,nofun⟩
 |_=>cases e
noncomputable def I8 (x:PV) (g:cU->Option cU):PM PV:=match x with
 | .p n j=>fun σ=>(ck σ n j).bind fun f=>(g f).map fun f'=>(.ok (.d .none),dH σ n j f')
 |_=>fun _=>none
theorem GE {g:cU->Option cU} (w:Wp K (I8 x g σ)):∃ n j f f',x= .p n j/\ck σ n j=some f/\g f=some f'/\K (.ok (.d .none)) (dH σ n j f'):=by
 cases x with
 |d=>exact w.elim
 |b=>exact w.elim
 |p n j=>
  have w:Wp K ((ck σ n j).bind fun f=>(g f).map fun f'=>(.ok (.d .none),dH σ n j f')):=w;cases e1:ck σ n j with
  |none=>rw[e1] at w;exact w.elim
  |some f=>
   cases e2:g f with
   |none=>rw[e1,Si,e2] at w;exact w.elim
   |some f'=>rw[e1,Si,e2] at w;exact ⟨n,j,f,f',rfl,e1,e2,w⟩
theorem AM {o:PO} (h:o.at j=some f):∀ i,o.has i->(o.put j f').has i:=fun i=>by
 cases o with
 |fld=>exact id
 |rcd b l=>intro q;show i<(l.set (j - 2) f').length+2;rw[SL];exact q
 |dead=>exact id
 |wrp _=>exact id
theorem FG:∀ {f:cU},(∀ x,f≠ .d x)->jS C w h n (i+2) f v->FA C w h n i v f
 | .d x,hf,_=>absurd rfl (hf x)
 | .list _,_,r=>r
 | .dict _ _,_,r=>r
theorem jS.is (I:aL C P) (q:jS C P.own P.h n j f v) (ha:P.own a= .cell n j):v= .ref a:=by
 obtain ⟨z1,_,_⟩:=q;rw[I.one _ _ _ _ z1 ha]
theorem Kj (I:aL C P) (hf':∀ x,f'≠ .d x) (hf:∀ x,f≠ .d x) (ha:P.own a= .cell n j) (hs:∀ b o,b≠a->P.h.get? b=some o->h'.get? b=some o) (ho:h'.get? a=some o') (r:RF C P.own o' f'):
  ∀ {o:PO},RO C P.own P.h n o->o.at j=some f->RO C P.own h' n (o.put j f'):=by
 have k:∀ b i o,P.own b= .cell n i->i≠j->P.h.get? b=some o->h'.get? b=some o:=fun b i o e ne q=>hs b o (fun c=>by rw[c,ha] at e;cases e;exact ne rfl) q;have fa:∀ (l:List cU) (i:Nat) (x:cU) (v:Value),j=i+2->l[i]? =some f->∀ i' y,(l.set i f')[i']? =some y->(∀ y,l[i']? =some y->FA C P.own P.h n i' v y)->(i'=i->v= .ref a)->FA C P.own h' n i' v y:=fun l i x v ej e i' y e' q1 q2=>by
  by_cases c:i=i'
  .subst c;rw[List.getElem?_set_self (Sl.mp e).1] at e';cases e';rw[q2 rfl];exact FG hf' (.mk (ej ▸ ha) ho r)
  .rw[SP c] at e';have q:=q1 y e';cases y with
   |d x=>exact q
   |list l=>
    obtain ⟨z1,z2,z3⟩:jS C P.own P.h n (i'+2) (.list l) v:=q;exact jS.mk z1 (k _ _ _ z1 (by omega) z2) z3
   |dict ks ps=>
    obtain ⟨z1,z2,z3⟩:jS C P.own P.h n (i'+2) (.dict ks ps) v:=q;exact jS.mk z1 (k _ _ _ z1 (by omega) z2) z3
 intro o ro e;rcases o with f0|⟨b,l⟩|_|f0
 .cases j with
  |zero=>exact ⟨_,.mk ha ho r⟩
  |succ j=>cases e
 .rcases j with _|_|i
  .cases e
  .cases e
  have e:l[i]? =some f:=e;cases b with
  |true=>
  obtain @⟨x,d,es,m,h1,h2,h3,h4,h5,h6,h7,h8⟩:i9 C P.own P.h n l:=ro;refine i9.mk h1 (k _ _ _ h1 nofun h2) h3 (k _ _ _ h3 (PA) h4) h5 (by rw[SL];exact h6) (by rw[SL];exact h7) fun i' y en e1 e2=> ?_;refine fa l i y en.val rfl e i' y e1 (fun y q=>h8 i' y en q e2) fun c=> ?_;subst c;exact ((h8 _ f en e e2).at hf).is I ha
  |false=>
  obtain @⟨d,o,kvs,h1,h2,h3,h4,h5,h6,h8⟩:rO C P.own P.h n l:=ro;refine rO.mk h1 (k _ _ _ h1 nofun h2) h3 (by rw[SL];exact h4) (by rw[SL];exact h5) h6 fun i' y en e1 e2=> ?_;refine fa l i y en.2 rfl e i' y e1 (fun y q=>h8 i' y en q e2) fun c=> ?_;subst c;exact ((h8 _ f en e e2).at hf).is I ha
 .cases j<;>cases e
 .rcases j with _|_|_|j
  .cases e
  .cases e
  .obtain ⟨t,vs,q,v,z1,z2,z3,z4⟩:=ro;refine ⟨t,vs,q,v,z1,k t 0 _ z1 nofun z2,z3,?_⟩;rw[z4.is I ha];exact .mk ha ho r
  .cases e
theorem Cg {o:PO} (e:σ[n]? =some o):dH σ n j f=σ.set n (o.put j f):=by
 unfold dH;rw[e]
theorem oN (I:aL C P) (hf':∀ x,f'≠ .d x) (hf:∀ x,f≠ .d x) (e:ck P.σ n j=some f) (ha:P.own a= .cell n j) (hs:∀ b o,b≠a->P.h.get? b=some o->h'.get? b=some o) (ho:h'.get? a=some o') (r:RF C P.own o' f'):
  ∃ P',bQ P P'/\aL C P'/\P'.σ=dH P.σ n j f'/\P'.own=P.own/\P'.s={P.s with heap:=h',toks:=t}:=by
 obtain ⟨o,e1,e2⟩:=aq e;exact ⟨P.turn h' t n (o.put j f'),.turn e1 (AM e2),I.turn (AM e2) e1 ha hs ho (Kj I hf' hf ha hs ho r (I.obj n o e1) e2),(Cg e1).symm,rfl,rfl⟩
theorem mr {s:Shared} {l:Addr} {vs:List Value} {n:Nat} {x:Value} (ho:s.heap.get? l=some (aU vs n)) (hsz:vs.length<=sizeLine)
  (hQ:∀ h' n',h'.get? l=some (aU (vs++[x]) n')->Heap.SameBut l s.heap h'->Q .none {s with heap:=h'}):wpAny C.M A (call (.builtin "list.append") [.ref l,x]) Q E s:=by
 have hl:s.heap.IsList l vs.toArray:=⟨_,ho,rfl,n,rfl⟩;refine wpAny_call_entry slot_list_append hl.typeIs entry_list_append ?_ (args_list_append _ _);show wpAny _ _ (updateSeq l (·.push x)>>=fun _=>PySem.ret .none) _ _ s;have e1:∃ n',(aU vs n).mapSeq (·.push x)=aU (vs++[x]) n':=⟨_,by simp [Obj.mapSeq];rfl⟩;obtain ⟨n',e1⟩:=e1;have g:=Heap.get?_update_self (Obj.mapSeq (·.push x)) ho (by rw[e1];rfl);rw[e1] at g;exact Sw (wpAny_updateSeq (hz:=by simpa using hsz) ho rfl (Sy ⟨.none,rfl,hQ _ n' (by simpa using g) (Heap.SameBut.update ..)⟩))
noncomputable def NW (y:D):cU->Option cU
 | .list l=>au (l.length<dM) (.list (l++[y]))
 |_=>none
noncomputable def NV (x:PV):List PV->PM PV
 |[.d y]=>I8 x (NW y)
 |_=>fun _=>none
theorem L0 (I:aL C P) (r:RV C P v x) (rs:kZ C P ps vs) (w:Wp K (NV x ps P.σ)) (p:dW C A (RV C) P K Q E):wpAny C.M A (call (.builtin "list.append") (v::vs)) Q E P.s:=by
 have s:∃ y,ps=[.d y]:=by
  cases ps with
  |nil=>exact w.elim
  |cons y t=>
  cases y with
  |d y=>
   cases t with
   |nil=>exact ⟨y,rfl⟩
   |cons _ _=>exact w.elim
  |_=>cases t<;>exact w.elim
 obtain ⟨y,rfl⟩:=s;obtain @⟨u,_,r1,r2⟩:Ao C P (.d y) [] vs:=rs.view;rw[show _=[] from r2.view];obtain ⟨n,j,f,f',e1,e2,e3,k⟩:=GE w;subst e1;cases f with
 |list l=>
  obtain ⟨hl,q⟩:=eb e3;obtain @⟨a,o,h1,h2,h3⟩:=nU I r e2 (fun _ h=>by cases h);obtain ⟨ws,m,e4,rr⟩:=h3;subst q;subst e4;refine mr h2 (by rw[rr.length];exact Ss (SY hl) (by decide)) fun h' n' z1 z2=> ?_;obtain ⟨P',q1,q2,q3,q4,q5⟩:=oN (t:=P.s.toks) (f':=.list (l++[y])) I (fun _ h=>by cases h) (fun _ h=>by cases h) e2 h1 (fun b o hb e=>z2.extBut b o hb e) z1 ⟨_,n',rfl,rr.append (.cons r1 .nil)⟩;have:=p.ok (.d .none) .none P' q1 q2 .none (by rw[q3];exact k);rw[q5] at this;exact this
 |_=>cases e3
end
noncomputable def aT:MF:=⟨"append","list","list.append",F.plainAttrs_list,F.slot_list_append,F.type_list_append,Lm,Ie,NV,fun _ I r rs w p=>L0 I r rs w p⟩
noncomputable def Fv (u k z:D):Option D:=match u with
 | .dct ks vs=>au (kd k ks=true) ((eA k ks vs).getD z)
 |_=>none
noncomputable def gG (x:PV):List PV->PM PV
 |[.d k,.d z]=>fun σ=>(rd σ x).bind fun u=>(Fv u k z).map fun r=>(.ok (.d r),σ)
 |_=>fun _=>none
section
theorem H2 {k y:D} {x vk vz:Value} (G:fh C) (I:aL C P) (hu:fB C P x u) (hk:RD C P.own k vk) (hz:RD C P.own z vz) (e:Fv u k z=some y) (f:mw C P y Q):wpAny C.M A (call (.builtin "dict.get") [x,vk,vz]) Q E P.s:=by
 cases u with
 |dct ks ps=>
  obtain ⟨hf,q⟩:=eb e;subst q;obtain @⟨a,o,vs,h1,h2,h3,h4⟩:vA C P ks ps x:=hu;obtain ⟨d,l,c,hd,h5,e1,e2,h6,e3,h7,h8⟩:=uC h3 hk hf;subst e1;subst e2;subst e3
  letI:=d.dec
  have hl:=oX hd c h4;have hD:=Heap.dictOf_iff.mpr ⟨o,h1,h5⟩;have rr:RD C P.own ((eA (d.toD c) (l.map fun p=>d.toD p.1) ps).getD z) ((valueAt l c).getD vz):=by
   revert hl
   cases eA (d.toD c) (l.map fun p=>d.toD p.1) ps<;>cases valueAt l c<;>intro hl<;>first|exact hz|exact hl.elim|exact hl
  exact call_meetsIn PySem.F.slot_dict_get hD.typeIs PySem.F.entry_dict_get (PySem.F.args_dict_get_3 _ _ _) (meets_dict_get_default _ a h7 (ft G I h2) vz) ⟨_,hD.mapOf,f.tok I rr _⟩
 |_=>cases e
theorem Ly (G:fh C) (I:aL C P) (r:RV C P v x) (rs:kZ C P ps vs) (w:Wp K (gG x ps P.σ)) (p:dW C A (RV C) P K Q E):wpAny C.M A (call (.builtin "dict.get") (v::vs)) Q E P.s:=by
 have s:∃ k z,ps=[.d k,.d z]:=by
  cases ps with
  |nil=>exact w.elim
  |cons y t=>
  cases t with
  |nil=>cases y<;>exact w.elim
  |cons z t=>
  cases y with
  |d y=>
   cases z with
   |d z=>
    cases t with
    |nil=>exact ⟨y,z,rfl⟩
    |cons _ _=>exact w.elim
   |_=>cases t<;>exact w.elim
  |_=>cases z<;>cases t<;>exact w.elim
 obtain ⟨k,z,rfl⟩:=s;obtain @⟨vk,_,r1,r2⟩:Ao C P (.d k) [.d z] vs:=rs.view;obtain @⟨vz,_,r3,r4⟩:Ao C P (.d z) [] _:=r2.view;rw[show _=[] from r4.view];have w:Wp K ((rd P.σ x).bind fun u=>(Fv u k z).map fun r=>(.ok (.d r),P.σ)):=w;cases e1:rd P.σ x with
 |none=>rw[e1] at w;exact w.elim
 |some u=>
  cases e2:Fv u k z with
  |none=>rw[e1,Si,e2] at w;exact w.elim
  |some y=>rw[e1,Si,e2] at w;exact H2 G I (bL I r e1) r1 r3 e2 (p.fin w)
end
noncomputable def Ct:MF:=⟨"get","dict","dict.get",F.plainAttrs_dict,F.slot_dict_get,F.type_dict_get,fun _=>Lp,Ig,gG,fun G I r rs w p=>Ly G I r rs w p⟩
noncomputable def RG (u v:D):Option Bool:=match v with
 | .dct ks vs=>au (kd u ks=true) (eA u ks vs).isSome
 |_=>none
section
theorem aL.szF (I:aL C P) (h:P.fs≠[]):C.H.objs.size<=P.h.objs.size:=by
 cases q:P.fs with
 |nil=>exact absurd q h
 |cons f r=>
  have z:=I.fr.ns f (by rw[q];exact .head _);exact SY (SJ z.2.2 z.1.lt)
theorem tE {f:Nat} (I:aL X.C P) (G:EnvOK X P ρ) (r:kZ X.C P ps vs) (w:Wp K (X.ker.Φ X.ker.hd f ps P.σ)) (p:bu X (RV X.C) P K Q E):wpAny X.M X.A (call (.ref (X.C.fadr f)) vs) Q E P.s:=
 wpAny_call (X.calls X.hd X.A P f ps vs K Q E G.frs (I.szF G.ne) (by have:=X.dep;exact SJ (S0 (by decide) _) this) (by have:=X.uni;exact SJ (S0 (by decide) _) this) X.hnd I r w p)
theorem IE (f:Nat) (l:CL) (h:eQ (fun x es=>x==(X.sx.fnm f).1&& !(X.sx.fnm f).2&&ef X.sx.sc x&&l.is X.sx es) e=true) (I:aL X.C P) (G:EnvOK X P ρ) (w:Wp K (bW (l.ev X.ker ρ) (X.ker.Φ X.ker.hd f) P.σ)) (p:bu X (RV X.C) P K Q E):wpAny X.M X.A (eval e X.env) Q E P.s:=
 eO (fun e=>wpAny X.M X.A (eval e X.env) Q E P.s) h fun x px es pos h=>by
  have hw:=an (ai h);rw[bR (ai (ai (ai h)))] at hw ⊢;obtain ⟨hn,o,fd,ho,hdata⟩:=X.good.fn f ((Bool.not_eq_true' _).mp (an (ai (ai h))));refine wpAny_Call_NameR (d9 I hw hn ?_);refine Calls.callWith_function (o:=o) (fd:=fd) (dC (l.star X.sx es X.env pos (an h)) ?_);exact l.ok X es pos ρ P _ _ E (an h) I G (aR w) (p.bind fun ps vs P1 g1 I1 r1 w p=>⟨⟨(I1.base _ _ ho).1,hdata⟩,tE I1 (G.ext g1) r1 w p⟩)
end
noncomputable def ax (f:Nat) (l:CL):CE:=⟨fun K ρ=>bW (l.ev K ρ) (K.Φ K.hd f),fun s=>eQ fun x es=>x==(s.fnm f).1&& !(s.fnm f).2&&ef s.sc x&&l.is s es,fun _ _ _ _ _ _ _ h I G w p=>IE f l h I G w p⟩
noncomputable def df (b:Bool) (σ:az) (n:Nat):Option (List cU):=match σ[n]? with
 |some (.rcd c l)=>if c=b then some l else none
 |_=>none
theorem jY {l:List cU} (h:df b σ n=some l):σ[n]? =some (.rcd b l):=by
 unfold df at h;split at h
 .rename_i c l' e
  split at h
  .rename_i q;cases h;cases q;exact e
  .cases h
 .cases h
noncomputable def Db (n k:Nat):cU->PV
 | .d x=>.d x
 |_=>.p n (k+2)
noncomputable def rF (b:Bool) (k:Nat):PV->PM PV
 | .p n 0=>fun σ=>(df b σ n).bind fun l=>(l[k]?).map fun f=>(.ok (Db n k f),σ)
 |_=>fun _=>none
theorem As (w:Wp K (rF b k x σ)):∃ n l f,x= .p n 0/\σ[n]? =some (.rcd b l)/\l[k]? =some f/\K (.ok (Db n k f)) σ:=by
 match x,w with
 | .p n 0,w=>
  have w:Wp K ((df b σ n).bind fun l=>(l[k]?).map fun f=>(.ok (Db n k f),σ)):=w;cases e1:df b σ n with
  |none=>rw[e1] at w;exact w.elim
  |some l=>
   cases e2:l[k]? with
   |none=>rw[e1,Si,e2] at w;exact w.elim
   |some f=>rw[e1,Si,e2] at w;exact ⟨n,l,f,rfl,jY e1,e2,w⟩
 | .p _ (_+1),w=>exact w.elim
 | .d _,w=>exact w.elim
section
theorem Ek (I:aL C P) {l:List cU} (e:P.σ[n]? =some (.rcd b l)):∀ {f:cU},l[k]? =some f->FA C P.own P.h n k v f->RV C P v (Db n k f)
 | .d _,_,r=>r
 | .list m,h,r=>⟨⟨_,e,Nat.add_lt_add_right (Sl.mp h).1 2⟩,fun _ q=>jS.is I (f:=.list m) r q⟩
 | .dict x y,h,r=>⟨⟨_,e,Nat.add_lt_add_right (Sl.mp h).1 2⟩,fun _ q=>jS.is I (f:=.dict x y) r q⟩
theorem vh (x y:Str) (t:Tok):(Value.str x t).isStr y=decide (x=y):=by
 show (x==y)=_;rw[Bool.eq_iff_iff,beq_iff_eq,decide_eq_true_eq]
theorem Gj (inj:∀ i,i<7->∀ k,k<7->C.att i=C.att k->i=k):∀ {es:List DictEntry} {off k:Nat} {e:DictEntry},(∀ (i:Nat) (e:DictEntry),es[i]? =some e->∃ t,e.key=Value.str (C.att (off+i)) t)->off+es.length<=7->es[k]? =some e->es.find? (·.key.isStr (C.att (off+k)))=some e:=by
 intro es
 induction es with
 |nil=>
  intro _ _ _ _ _ h;cases h
 |cons a es ih=>
  intro off k e h hl hk;obtain ⟨t,ht⟩:=h 0 a rfl;simp only [Sq] at hl;cases k with
  |zero=>
   cases hk;rw[List.find?_cons,ht,vh,Sz (by rfl)]
  |succ k=>
   have hk':es[k]? =some e:=hk;have hlt:=(Sl.mp hk').1;rw[List.find?_cons,ht,vh,Tc (fun q=>by have:=inj _ (by exact Nat.lt_of_add_right_lt hl) _ (Pz hl hlt) q;exact absurd this.symm (Nat.ne_of_gt (Nat.lt_add_of_pos_right (Nat.succ_pos _))))];have:=ih (off:=off+1) (k:=k) (e:=e) (fun i e he=>by have:=h (i+1) e he;rw[show off+(i+1)=off+1+i by exact PI] at this;exact this) (by exact Py hl) hk';rw[show off+1+k=off+(k+1) by exact Nb] at this;exact this
theorem xP:∀ {es:List DictEntry} {off:Nat} {x:Str},(∀ (i:Nat) (e:DictEntry),es[i]? =some e->∃ t,e.key=Value.str (C.att (off+i)) t)->(∀ i,off<=i->i<off+es.length->C.att i≠x)->es.find? (·.key.isStr x)=none/\es.any (·.refKey)=false:=by
 intro es
 induction es with
 |nil=>
  intro _ _ _ _;exact ⟨rfl,rfl⟩
 |cons a es ih=>
  intro off x h hn;obtain ⟨t,ht⟩:=h 0 a rfl;have ih:=ih (off:=off+1) (x:=x) (fun i e he=>by have:=h (i+1) e he;rw[show off+(i+1)=off+1+i by exact PI] at this;exact this) (fun i h1 h2=>hn i (by exact Nat.le_of_succ_le h1) (by simp only [Sq];exact Rn h2));refine ⟨?_,?_⟩
  .rw[List.find?_cons,ht,vh,Tc (hn (off+0) (Sv _) (by simp only [Sq];exact Px))];exact ih.1
  .rw[List.any_cons,ih.2,Bool.or_false];unfold DictEntry.refKey;rw[ht]
theorem Ai {es:List DictEntry} (h:rE C es) (i:Nat) (e:DictEntry) (he:es[i]? =some e):∃ t,e.key=Value.str (C.att (0+i)) t:=by rw[Td];exact (h i e he).1
theorem C6:∀ {x:D} {v:Value} {w:bE},RD C w x v->PySem.W.handedIn v=true
 |_,_,_,r=>by cases r<;>rfl
theorem C7:∀ {f:cU},FA C w h n i v f->PySem.W.handedIn v=true
 | .d _,r=>C6 r
 | .list l,r=>by
  obtain ⟨_,_,_⟩:jS C w h n (i+2) (.list l) v:=r;rfl
 | .dict ks ps,r=>by
  obtain ⟨_,_,_⟩:jS C w h n (i+2) (.dict ks ps) v:=r;rfl
theorem zC {l:List cU} {vx:Value} {expr:Bool} (G:fh C) (hk:k<7) (I:aL C P) (hx:RV C P vx (.p n 0)) (e1:P.σ[n]? =some (.rcd true l)) (e2:l[k]? =some f) (kk:∀ v t,FA C P.own P.h n k v f->Q v {P.s with toks:=t}):
  wpAny C.M A (PySem.getAttr vx (C.att k) expr) Q E P.s:=by
 obtain @⟨x,d,es,m,h1,h2,h3,h4,h5,h6,h7,h8⟩:i9 C P.own P.h n l:=I.obj n _ e1;rw[hx.2 x h1];have W:=G.cls;obtain ⟨cd,c1,c2⟩:=W.cd;have hlt:k<es.length:=by rw[h6];exact (Sl.mp e2).1
 have hen:es[k]? =some es[k]:=Sn hlt;have fa:=h8 k f _ e2 hen;have X:PySem.W.Frag.In C.K P.h:=W.X.keeps fun b o e=>(I.base b o e).1;have hfind:es.find? (·.key.isStr (C.att k))=some es[k]:=by
  have:=Gj W.inj (off:=0) (k:=k) (Ai h5) (Pu h6 h7) hen
  rwa [Td] at this
 have hlook:PySem.W.lookIn (C.att k) (d6 es m)=some (some es[k].val):=by
  unfold PySem.W.lookIn;show (match es.find? (·.key.isStr (C.att k)) with|some e=>some (some e.val)|none=>_)=_
  rw[hfind]
 refine PySem.W.get_value X (show PySem.W.InstAt P.h x (mU C.book d) C.book (some (d6 es m)) from ⟨h2,rfl,rfl,h4⟩) W.ga ?_ (C7 fa) (kk _ _ fa);unfold PySem.W.findObj;rw[c1,W.no k hk];show (PySem.W.ownOf cd (some (d6 es m)) (C.att k)).bind _=_;unfold PySem.W.ownOf;rw[c2,if_pos rfl];show (PySem.W.lookIn (C.att k) (d6 es m)).bind _=_;rw[hlook];rfl
end
section
theorem IJ (a:CE) (k:Nat) (h:dE (fun v x _=>x==X.sx.att k&&decide (k<7)&&fV v&&a.is X.sx v) e=true) (I:aL X.C P) (G:EnvOK X P ρ) (w:Wp K (bW (a.ev X.ker ρ) (rF true k) P.σ)) (p:bu X (RV X.C) P K Q E):wpAny X.M X.A (eval e X.env) Q E P.s:=
 fg (fun e=>wpAny X.M X.A (eval e X.env) Q E P.s) h fun v x pos h=>by
  rw[bR (ai (ai (ai h))),arm_eval_Attribute,vg (an (ai h))];refine Sw (a.ok X v ρ P _ _ E (an h) I G (aR w) (p.bind fun x vx P1 g1 I1 r1 w p=> ?_));obtain ⟨n,l,f,q,e1,e2,kk⟩:=As w;subst q;refine Sw (wpAny_standAt (Sw (wpAny_holding (zC X.good (S3 (an (ai (ai h)))) I1 r1 e1 e2 fun v t fa=> ?_))));refine Sw (wpAny_letTemporaryGo (Sy ?_));exact p.ok _ v (P1.to P1.h t) (.to ..) (I1.to fun _ _ e=>e) (Ek I1 e1 e2 fa) kk
noncomputable def No:PV->PM Unit
 | .p n 0=>fun σ=>(df true σ n).map fun _=>(.ok (),σ)
 |_=>fun _=>none
theorem JS {K:R Unit->az->Prop} (w:Wp K (No x σ)):∃ n l,x= .p n 0/\σ[n]? =some (.rcd true l)/\K (.ok ()) σ:=by
 match x,w with
 | .p n 0,w=>
  have w:Wp K ((df true σ n).map fun _=>(.ok (),σ)):=w;cases e1:df true σ n with
  |none=>rw[e1] at w;exact w.elim
  |some l=>rw[e1] at w;exact ⟨n,l,rfl,jY e1,w⟩
 | .p _ (_+1),w=>exact w.elim
 | .d _,w=>exact w.elim
theorem Hz (o:CE) (m:Nat) (l:CL) (h:mi (fun v x ap es pos=>x==(X.sx.fnm m).1&&(X.sx.fnm m).2&&fV v&&ap.endLine==pos.line&&o.is X.sx v&&l.is X.sx es&&decide (es.length<29)) e=true) (I:aL X.C P) (G:EnvOK X P ρ)
  (w:Wp K (bW (o.ev X.ker ρ) (fun x=>bW (No x) fun _=>bW (l.ev X.ker ρ) fun ps=>X.ker.Φ X.ker.hd m (x::ps)) P.σ)) (p:bu X (RV X.C) P K Q E):wpAny X.M X.A (eval e X.env) Q E P.s:=
 mh (fun e=>wpAny X.M X.A (eval e X.env) Q E P.s) h fun v x ap es pos h=>by
  have W:=X.good.cls;obtain ⟨w1,w2,w3,of,fd,w4,w5⟩:=W.meth m (an (ai (ai (ai (ai (ai h))))));have hl:=an (ai h);rw[bR (ai (ai (ai (ai (ai (ai h)))))),arm_eval_Call,vg (an (ai (ai (ai (ai h)))))];refine Sw (o.ok X v ρ P _ _ E (an (ai (ai h))) I G (aR w) (p.bind fun x vx P1 g1 I1 r1 w p=> ?_));refine Sw (wpAny_standAt ?_);have hform:methodCallForm (es.length+([]:List Keyword).length) (backTo pos (starEach es X.env)) (backToKw pos (keywordEach [] X.env))=true:=FF hl (S3 (an h));have hpos:methodCallPos true v X.env ap pos=pure pos:=by
   unfold methodCallPos;have:(ap.endLine==pos.line)=true:=an (ai (ai (ai h)));simp [this]
  obtain ⟨n,fl,q,e1,w⟩:=JS (aR w);subst q;obtain @⟨a,d,en,k,i1,i2,i3,i4,i5,i6,i7,_⟩:i9 X.C P1.own P1.h n fl:=I1.obj n _ e1;rw[r1.2 a i1];unfold methodCall;rw[hform];have XX:PySem.W.Frag.In X.C.K P1.h:=W.X.keeps fun b o e=>(I1.base b o e).1;have hnone:=xP (C:=X.C) (es:=en) (off:=0) (x:=(X.C.fnm m).1) (Ai i5) (fun i _ h=>w3 i (Ps i6 i7 h));refine Sw (wpAny_holding (PySem.W.method_fn XX (show PySem.W.InstAt P1.h a (mU X.C.book d) X.C.book (some (d6 en k)) from ⟨i2,rfl,rfl,i4⟩) W.ga W.gattr w1 w2 ?_ ?_))
  .unfold PySem.W.shadowIn PySem.W.lookIn;show Option.map _ (match en.find? (·.key.isStr (X.C.fnm m).1) with|some e=>some (some e.val)|none=>if en.any (·.refKey) then none else some none)=_
   rw[hnone.1,hnone.2];rfl
  .refine Sw (wpAny_of_eq hpos ?_);refine Calls.callWith_function (o:=of) (fd:=fd) (dC (l.star X.sx es X.env pos hl) ?_);have rr:RV X.C P1 (.ref a) (.p n 0):=⟨r1.1,fun b q=>by rw[I1.one b a n 0 q i1]⟩;exact l.ok X es pos ρ P1 _ _ E hl I1 (G.ext g1) (aR w) (p.bind fun ps vs P2 g2 I2 r2 w p=>⟨⟨(I2.base _ _ w4).1,w5⟩,tE I2 ((G.ext g1).ext g2) (.cons (rr.ext g2.toExt) r2) w p⟩)
end
noncomputable def b_ (a:CE) (k:Nat):CE:=⟨fun K ρ=>bW (a.ev K ρ) (rF true k),fun s=>dE fun v x _=>x==s.att k&&decide (k<7)&&fV v&&a.is s v,fun _ _ _ _ _ _ _ h I G w p=>IJ a k h I G w p⟩
noncomputable def meth (o:CE) (m:Nat) (l:CL):CE:=⟨fun K ρ=>bW (o.ev K ρ) fun x=>bW (No x) fun _=>bW (l.ev K ρ) fun ps=>K.Φ K.hd m (x::ps),fun s=>mi fun v x ap es pos=>x==(s.fnm m).1&&(s.fnm m).2&&fV v&&ap.endLine==pos.line&&o.is s v&&l.is s es&&decide (es.length<29),fun _ _ _ _ _ _ _ h I G w p=>Hz o m l h I G w p⟩
section
noncomputable def Pt.make2 (P:Pt) (h:Heap) (a b:Addr):Pt:={P with s:={P.s with heap:=h},own:=im (im P.own b (.cell P.σ.length 1)) a (.cell P.σ.length 0),σ:=P.σ++[.rcd true []]}
theorem EQ (I:aL C P) {x d:Addr} (k:∀ b o,P.h.get? b=some o->h'.get? b=some o) (hx:P.own x= .no) (hd:P.own d= .no) (Hx:C.H.get? x=none) (Hd:C.H.get? d=none) (ne:x≠d) (ox:h'.get? x=some (mU C.book d)) (od:h'.get? d=some (d6 [] 0)):
  aL C (P.make2 h' x d)/\bQ P (P.make2 h' x d)/\RV C (P.make2 h' x d) (.ref x) (.p P.σ.length 0):=by
 have na:∀ b,P.own b≠ .no->b≠x/\b≠d:=fun b q=>⟨fun e=>q (e ▸ hx),fun e=>q (e ▸ hd)⟩;have w1:(P.make2 h' x d).own x= .cell P.σ.length 0:=bU _ _ _;have w2:(P.make2 h' x d).own d= .cell P.σ.length 1:=(bB (Ne.symm ne)).trans (bU _ _ _);have w3:∀ b,b≠x->b≠d->(P.make2 h' x d).own b=P.own b:=fun b p q=>(bB p).trans (bB q);have cs:∀ b,(b=x/\(P.make2 h' x d).own b= .cell P.σ.length 0)∨(b=d/\(P.make2 h' x d).own b= .cell P.σ.length 1)∨(b≠x/\b≠d/\(P.make2 h' x d).own b=P.own b):=fun b=>by
  by_cases p:b=x
  .exact .inl ⟨p,p ▸ w1⟩
  .by_cases q:b=d
   .exact .inr (.inl ⟨q,q ▸ w2⟩)
   .exact .inr (.inr ⟨p,q,w3 b p q⟩)
 have kk:∀ b o y,P.own b=y->y≠ .no->P.h.get? b=some o->(P.make2 h' x d).own b=y/\h'.get? b=some o:=fun b o y e q r=>⟨(w3 b (na b (e ▸ q)).1 (na b (e ▸ q)).2).trans e,k b o r⟩;have fz:Fz P.own (P.make2 h' x d).own:=fun b o e=>(w3 b (na b (by rw[e];nofun)).1 (na b (by rw[e];nofun)).2).trans e;have lt:∀ b n j,P.own b= .cell n j->n≠P.σ.length:=fun b n j e=>Nat.ne_of_lt (I.bd b n j e).lt;refine ⟨⟨fun b o e=> ?_,fun b o e=> ?_,fun b e=> ?_,I.fr.mv (fun b o e q=>kk b o _ e nofun q) (fun b e=>mA (x:=.cell P.σ.length 1) (a:=d) cS.noConfusion (mA (x:=.cell P.σ.length 0) (a:=x) cS.noConfusion e)),I.gh.mv fz fun b o e q=>kk b o _ e nofun q,fun b c n j e f=> ?_,fun b n j e=> ?_,fun n o e=> ?_⟩,⟨⟨⟨h',_,rfl⟩,rfl,fz,fun _ _ v=>jT v,fun n j b v q=> ?_⟩,rfl⟩,Ej (by show 0<0+2;decide) fun b e=> ?_⟩
 .obtain ⟨e1,e2⟩:=I.base b o e;have p:b≠x:=fun q=>by rw[q,Hx] at e;cases e
  have q:b≠d:=fun q=>by rw[q,Hd] at e;cases e
  exact ⟨k b o e1,(w3 b p q).trans e2⟩
 .rcases cs b with ⟨_,q⟩|⟨_,q⟩|⟨_,_,q⟩
  .cases q.symm.trans e
  .cases q.symm.trans e
  .exact k b o (I.fz b o (q.symm.trans e))
 .rcases cs b with ⟨p,q⟩|⟨p,q⟩|⟨_,_,q⟩
  .exact ⟨_,p ▸ ox⟩
  .exact ⟨_,p ▸ od⟩
  .obtain ⟨o,ho⟩:=I.live b (q ▸ e);exact ⟨o,k b o ho⟩
 .rcases cs b with ⟨p,q⟩|⟨p,q⟩|⟨_,_,q⟩<;>rcases cs c with ⟨p',q'⟩|⟨p',q'⟩|⟨_,_,q'⟩
  .rw[p,p']
  .have z:=(q.symm.trans e).trans (q'.symm.trans f).symm;cases z
  .cases q.symm.trans e;exact absurd rfl (lt c _ _ (q'.symm.trans f))
  .have z:=(q.symm.trans e).trans (q'.symm.trans f).symm;cases z
  .rw[p,p']
  .cases q.symm.trans e;exact absurd rfl (lt c _ _ (q'.symm.trans f))
  .cases q'.symm.trans f;exact absurd rfl (lt b _ _ (q.symm.trans e))
  .cases q'.symm.trans f;exact absurd rfl (lt b _ _ (q.symm.trans e))
  .exact I.one b c n j (q.symm.trans e) (q'.symm.trans f)
 .rcases cs b with ⟨p,q⟩|⟨p,q⟩|⟨_,_,q⟩
  .cases q.symm.trans e;exact ⟨_,dG,by show 0<0+2;decide⟩
  .cases q.symm.trans e;exact ⟨_,dG,by show 1<0+2;decide⟩
  .exact jT (I.bd b n j (q.symm.trans e))
 .by_cases z:n=P.σ.length
  .rw[(dP e).2 z,z];exact i9.mk w1 ox w2 od (fun i e h=>by cases h) rfl (SN _) (fun i f e h=>by cases h)
  .exact (I.obj n o ((dP e).1 z)).mv fz fun b j o e q=>kk b o _ e nofun q
 .rcases cs b with ⟨p,z⟩|⟨p,z⟩|⟨_,_,z⟩
  .cases z.symm.trans q;exact absurd v.lt (S4 _)
  .cases z.symm.trans q;exact absurd v.lt (S4 _)
  .exact z.symm.trans q
 .rcases cs b with ⟨p,z⟩|⟨p,z⟩|⟨_,_,z⟩
  .exact p
  .cases z.symm.trans e
  .exact absurd rfl (lt b _ _ (z.symm.trans e))
end
noncomputable def Ng:PM PV:=iW (.rcd true [])
noncomputable def Nf (Φ:List PV->PM PV) (ps:List PV):PM PV:=bW Ng fun o=>bW (Φ (o::ps)) fun v=>bW (Hm ((j7 v).bind fun x=>match x with| .none=>some ()|_=>none)) fun _=>ret o
section
theorem KN (l:CL) (h:eQ (fun x es=>x==("Book":Str)&&ef X.sx.sc x&&l.is X.sx es) e=true) (I:aL X.C P) (G:EnvOK X P ρ) (w:Wp K (bW (l.ev X.ker ρ) (Nf (X.ker.Φ X.ker.hd 0)) P.σ)) (p:bu X (RV X.C) P K Q E):wpAny X.M X.A (eval e X.env) Q E P.s:=
 eO (fun e=>wpAny X.M X.A (eval e X.env) Q E P.s) h fun x px es pos h=>by
  have hw:=an (ai h);rw[bR (ai (ai h))] at hw ⊢;have W:=X.good.cls;refine wpAny_Call_NameR (d9 I hw W.name ?_);have hp:=l.star X.sx es X.env pos (an h);have hst:((backTo pos (starEach es X.env)).any (·.1)||([]:List (Option Str×Sem Value)).any fun x=>x.1.isNone)=false:=by rw[eS hp];rfl
  unfold callWith;refine Sw (wpAny_holding (dC hp ?_));refine l.ok X es pos ρ P _ _ E (an h) I G (aR w) (p.bind fun ps vs P1 g1 I1 r1 w p=> ?_);refine Sw (wpAny_standAt ?_);have XX:PySem.W.Frag.In X.C.K P1.h:=W.X.keeps fun b o e=>(I1.base b o e).1;have Y:=PySem.W.makes_of (M:=X.M) XX W.makes;obtain ⟨oc,od,cd,sl,hC0,_⟩:=Y.obj;refine Sw (m:=keeperOf (.ref X.C.book)) ?_;unfold keeperOf;refine Sw (wpAny_load hC0 ?_);refine Sw (Y.call X.A _ E P1.s (fun _ _ e=>e) ?_);rw[if_pos (by rfl)];refine Sy ?_;rw[hst];show wpAny _ _ (call (.ref X.C.book) vs []>>=fun r=>do holding [r] point;pure r) _ _ _;refine Sw (wpAny_mono (Q:=fun r s'=>Q r s') ?_ (fun r s' hr=>Sw (wpAny_holding (wpAny_point (Sy hr)))) fun _ _ x=>x);obtain ⟨⟨hh,g,dr,t,os⟩,fs,own,gh,σ⟩:=P1;refine wpAny_call (PySem.W.make_core Y (PySem.W.looks_findIn XX W.init.1) (fun self=>PySem.W.bind_fn XX self W.init.2) (.inl rfl) ?_);have hs1:=SE (hh.push PySem.W.emptyDict) (o:=PySem.W.instObj X.C.book hh.objs.size) rfl;rw[Heap.size_push] at hs1;obtain ⟨J,gJ,rJ⟩:=EQ I1 (h':=(hh.push PySem.W.emptyDict).push (PySem.W.instObj X.C.book hh.objs.size)) (x:=hh.objs.size+1) (d:=hh.objs.size) (fun b o e=>Sr _ (Sr _ e)) (I1.off (S5 _)) (I1.off (Sv _)) (I1.out (S5 _)) (I1.out (Sv _)) (Nat.succ_ne_self _)
   hs1 (Sr _ (SE _ rfl))
  have hdep:=X.dep;have huni:=X.uni;have d1:(X.A.under (.builtin "type.__call__" ⟨.ref X.C.book::vs,[]⟩)).depth=X.A.depth+1:=rfl;have u1:(X.A.under (.builtin "type.__call__" ⟨.ref X.C.book::vs,[]⟩)).units<=X.A.units+10:=S0 (Sp rfl) _;have f1:(X.A.under (.builtin "type.__call__" ⟨.ref X.C.book::vs,[]⟩)).frames=X.A.frames:=by
   generalize X.A=A;obtain ⟨_,_,fr,_,_⟩:=A;cases fr<;>rfl
  have G1:=G.ext g1;have w:Wp K (xJ (fun v=>bW (Hm ((j7 v).bind fun x=>match x with| .none=>some ()|_=>none)) fun _=>ret (.p σ.length 0)) (X.ker.Φ X.ker.hd 0 (.p σ.length 0::ps) (σ++[.rcd true []]))):=w
  refine codeAny_mono (X.calls X.hd (X.A.under (.builtin "type.__call__" ⟨.ref X.C.book::vs,[]⟩)) (Pt.make2 ⟨⟨hh,g,dr,t,os⟩,fs,own,gh,σ⟩ _ (hh.objs.size+1) hh.objs.size) 0 (.p σ.length 0::ps) (.ref (hh.objs.size+1)::vs) _ (fun v s'=>v= .none/\Q (.ref (hh.objs.size+1)) s') E (by
   obtain ⟨ls,q1,q2⟩:=G1.frs;exact ⟨ls,f1.trans q1,q2⟩) (J.szF G1.ne) (by rw[d1];exact Pq hdep) (Pp huni u1) X.hnd J (.cons rJ (r1.ext gJ.toExt)) (aR w) ⟨fun v u P3 g3 I3 r3 k=> ?_,fun c e P3 g3 I3 x3 k=> ?_⟩) fun r s' h=> ?_
  .obtain ⟨_,e1,k⟩:=gI (aR k);obtain ⟨z,e2,e3⟩:=aq e1;have e4:z= .none:=by cases z<;>first|rfl|cases e3
   have r3:=lW e2 r3;rw[e4] at r3;exact ⟨r3.view,p.ok (.p σ.length 0) _ P3 (gJ.trans g3) I3 (rJ.ext g3.toExt) k⟩
  .refine p.ex c e P3 (gJ.trans g3) I3 ?_ k;obtain ⟨q1,q2⟩:=x3;exact .mk (f1 ▸ q1) q2
  .cases r with
   |ok fl=>cases fl<;>exact h
   |error e=>exact h
end
noncomputable def KR (l:CL):CE:=⟨fun K ρ=>bW (l.ev K ρ) (Nf (K.Φ K.hd 0)),fun s=>eQ fun x es=>x==("Book":Str)&&ef s.sc x&&l.is s es,fun _ _ _ _ _ _ _ h I G w p=>KN l h I G w p⟩
def RL (Γ:Gw):Prop:=∀ x y i,Γ.lookup x=some i->Γ.lookup y=some i->x=y
structure SX extends Cx where
 outer:List Env
 L:Addr
 cs:List Addr
 fr:A.frames=some (env::outer)
 loc:env.locals=L
 frame:env.frame=some L
 cell:∀ x,env.kindOf x=some .cell->∃ c,env.cells.lookup x=some c/\c∈cs
 apart:∀ x y c,env.cells.lookup x=some c->env.cells.lookup y=some c->x=y
 inj:RL Γ
 scE:sc=env.scope
 dep2:A.depth+8*d+151<recursionLimit
 uni2:A.units+64*d+1005<cLine
 lmE:∀ l,lm=some l->C.lam=some l/\env.code= .ref l.c/\env.qual++"<lambda>"=l.qual
structure ct (X:SX) (P:Pt) (ρ:bg):Prop extends EnvOK X.toCx P ρ where
 hd:∃ f r,P.fs=f::r/\f.L=X.L/\f.cells=X.cs
section
variable {X:SX}
theorem ct.ext (G:ct X P ρ) (g:bQ P P'):ct X P' ρ:=⟨G.toEnvOK.ext g,g.fs ▸ G.hd⟩
theorem ct.gs (G:ct X P ρ) (g:bQ P P'):eY P P':=⟨g.toExt,by
 obtain ⟨f,r,e,_⟩:=G.hd;rw[g.fs,e];exact .mk (.refl f)⟩
end
def io (K:Out->az->Prop):Option (Out×az)->Prop
 |some (o,σ)=>K o σ
 |none=>False
def oK {α:Type} (K:Out->az->Prop) (ρ:bg) (k:α->az->Option (Out×az)):R α->az->Prop
 | .ok v,σ=>io K (k v σ)
 | .ex c,σ=>K (.ex c ρ) σ
theorem cW {K:Out->az->Prop} {m:PM α} {k:α->az->Option (Out×az)} (h:io K (b8 ρ m k σ)):Wp (oK K ρ k) (m σ):=by
 unfold b8 at h;generalize m σ=o at h
 match o,h with
 |none,h=>exact h
 |some (.ok _,_),h=>exact h
 |some (.ex _,_),h=>exact h
structure c8 (X:SX) (P:Pt) (K:Out->az->Prop) (Q:Flow->Shared->Prop) (E:Value->Shared->Prop):Prop where
 next:∀ ρ P',eY P P'->aL X.C P'->ct X P' ρ->K (.next ρ) P'.σ->Q .next P'.s
 ret:∀ p v P',eY P P'->aL X.C P'->RV X.C P' v p->K (.ret p) P'.σ->Q (.ret v) P'.s
 ex:∀ c ρ e P',eY P P'->aL X.C P'->vE X.C X.A P' c e->ct X P' ρ->K (.ex c ρ) P'.σ->E e P'.s
section
variable {X:SX} {K:Out->az->Prop} {Q:Flow->Shared->Prop}
theorem c8.mono (h:c8 X P K Q E) (g:eY P P'):c8 X P' K Q E:=
 ⟨fun ρ P'' g'=>h.next ρ P'' (g.trans g'),fun p v P'' g'=>h.ret p v P'' (g.trans g'),fun c ρ e P'' g'=>h.ex c ρ e P'' (g.trans g')⟩
theorem c8.bind {Rel:Pt->β->α->Prop} {k:α->az->Option (Out×az)} {Q':β->Shared->Prop} (h:c8 X P K Q E) (G:ct X P ρ) (kk:∀ p v P',bQ P P'->aL X.C P'->Rel P' v p->io K (k p P'.σ)->ct X P' ρ->c8 X P' K Q E->Q' v P'.s):dW X.C X.A Rel P (oK K ρ k) Q' E:=
 ⟨fun p v P' g i r w=>kk p v P' g i r w (G.ext g) (h.mono (G.gs g)),fun c e P' g i x w=>h.ex c ρ e P' (G.gs g) i x (G.ext g) w⟩
theorem c8.go (h:c8 X P K Q E) (I:aL X.C P) (G:ct X P ρ) (k:K (.next ρ) P.σ):Q .next P.s:=h.next ρ P (G.gs (.refl P)) I G k
end
abbrev Ws (X:SX) (e:Stmt) (Q:Flow->Shared->Prop) (E:Value->Shared->Prop) (P:Pt):Prop:=wpAny X.M X.A (PySem.exec e X.env) Q E P.s
structure C1 where
 ex:cG->bg->az->Option (Out×az)
 is:Sx->Stmt->Bool
 ok:∀ (X:SX) (st:Stmt) (ρ:bg) (P:Pt) (K:Out->az->Prop) (Q:Flow->Shared->Prop) (E:Value->Shared->Prop),is X.sx st=true->aL X.C P->ct X P ρ->io K (ex X.ker ρ P.σ)->c8 X P K Q E->Ws X st Q E P
structure CS where
 ex:cG->bg->az->Option (Out×az)
 is:Sx->List Stmt->Bool
 ok:∀ (X:SX) (st:List Stmt) (ρ:bg) (P:Pt) (K:Out->az->Prop) (Q:Flow->Shared->Prop) (E:Value->Shared->Prop),is X.sx st=true->aL X.C P->ct X P ρ->io K (ex X.ker ρ P.σ)->c8 X P K Q E->wpAny X.M X.A (PySem.execs st X.env) Q E P.s
def tK (K:Out->az->Prop) (k:bg->az->Option (Out×az)):Out->az->Prop
 | .next ρ,σ=>io K (k ρ σ)
 |o,σ=>K o σ
theorem Ar {K:Out->az->Prop} {k:bg->az->Option (Out×az)}:∀ {z:Option (Out×az)},io K (nv z k)->io (tK K k) z
 |none,h=>h
 |some (.next _,_),h=>h
 |some (.ret _,_),h=>h
 |some (.ex _ _,_),h=>h
noncomputable def sN:CS:=⟨fun _ ρ σ=>some (.next ρ,σ),fun _ st=>st.isEmpty,fun X st ρ P K Q E h I G w p=>bZ (fun st=>wpAny X.M X.A (PySem.execs st X.env) Q E P.s) h (wpAny_execs_nil (p.go I G w))⟩
noncomputable def sC (a:C1) (l:CS):CS:=⟨fun K ρ σ=>nv (a.ex K ρ σ) (l.ex K),fun s=>iC (a.is s) (l.is s),fun X st ρ P K Q E h I G w p=>c6 (fun st=>wpAny X.M X.A (PySem.execs st X.env) Q E P.s) h fun e r h1 h2=>
 wpAny_execs_cons (a.ok X e ρ P _ _ E h1 I G (Ar w) ⟨fun ρ' P' g I' G' k=>l.ok X r ρ' P' K Q E h2 I' G' k (p.mono g),p.ret,p.ex⟩)⟩
noncomputable def aV (a:CE):C1:=⟨fun K ρ=>b8 ρ (a.ev K ρ) fun v σ=>some (.ret v,σ),fun s=>lM fun v _=>GA (a.is s) v,fun X st ρ P K Q E h I G w p=>kx (fun st=>Ws X st Q E P) h fun v pos h=>gf (fun v=>wpAny X.M X.A (PySem.exec (.Return v pos) X.env) Q E P.s) h fun e h=>
 wpAny_Return_some (a.ok X.toCx e ρ P _ _ E h I G.toEnvOK (cW w) (p.bind G fun x v P1 g I1 r w G1 p=>p.ret x v P1 (G1.gs (.refl P1)) I1 r w))⟩
theorem gX {t:Option Expr} {l:Nat} (h:gi e=false):swapsWith e t l env=pure false:=by
 cases e<;>first|rfl|cases h
noncomputable def aP (a:CE):C1:=⟨fun K ρ=>b8 ρ (a.ev K ρ) fun _ σ=>some (.next ρ,σ),fun s=>zp fun e _=> !gi e&&a.is s e,fun X st ρ P K Q E h I G w p=>wY (fun st=>wpAny X.M X.A (PySem.exec st X.env) Q E P.s) h fun e pos h=>by
 rw[PySem.exec_Expr _ e pos (by unfold interactive;rw[X.kind];rfl) (gX ((Bool.not_eq_true' _).mp (ai h)))];exact Sw (wpAny_standAt (Sw (a.ok X.toCx e ρ P _ _ E (an h) I G.toEnvOK (cW w) (p.bind G fun x v P1 g I1 r w G1 p=>wpAny_dropValue (p.go I1 G1 w)))))⟩
noncomputable def ce (t:CT) (a b:CS):C1:=⟨fun K ρ=>b8 ρ (t.ts K ρ) fun c=>if c then a.ex K ρ else b.ex K ρ,fun s=>Ln fun te ae be _=>t.is s te&&a.is s ae&&b.is s be,fun X st ρ P K Q E h I G w p=>C3 (fun st=>wpAny X.M X.A (PySem.exec st X.env) Q E P.s) h fun te ae be pos h=>
 wpAny_If (t.ok X.toCx te ρ P _ _ E (ai (ai h)) I G.toEnvOK (cW w) (p.bind (Rel:=oM) G fun c v P1 g I1 r w G1 p=>by
  rw[show v=c from r];cases c with
  |true=>exact a.ok X ae ρ P1 K Q E (an (ai h)) I1 G1 w p
  |false=>exact b.ok X be ρ P1 K Q E (an h) I1 G1 w p))⟩
section
theorem aL.frame {f:Fm} {r:List Fm} (I:aL C P) (hf:P.fs=f::r) (lk:f.like g) (ha:a∈f.adr) (hs:∀ b o,b≠a->P.h.get? b=some o->h'.get? b=some o) (hn:h'.Ns g.L g.m) (hc:∀ c∈g.cells,h'.IsCell c (g.cv c)):
  aL C {P.to h' t with fs:=g::r}:=by
 have hm:f∈P.fs:=by rw[hf];exact .head _
 have own:P.own a= .fr:=by
  rcases Sj.mp ha with q|q
  .rw[q];exact (I.fr.ns f hm).2.1
  .exact (I.fr.cl f hm a q).2.1
 have le:f.L<=a:=by
  rcases Sj.mp ha with q|q
  .exact Ta q.symm
  .exact SY (I.fr.cl f hm a q).2.2
 have ord:=I.fr.ord;rw[hf] at ord;obtain ⟨o1,o2⟩:=List.pairwise_cons.mp ord;have kk:∀ b o x,P.own b=x->x≠ .fr->P.h.get? b=some o->P.own b=x/\h'.get? b=some o:=fun b o x e q z=>⟨e,hs b o (fun c=>q (by rw[<-e,c,own])) z⟩;have ne:∀ k∈r,∀ b∈k.adr,b≠a:=fun k hk b hb=>Nat.ne_of_lt (SK (o1 k hk b hb) le);refine ⟨fun b o e=>⟨hs b o (fun c=> ?_) (I.base b o e).1,(I.base b o e).2⟩,fun b o e=>(kk b o _ e cS.noConfusion (I.fz b o e)).2,fun b e=> ?_,⟨fun k hk=> ?_,fun k hk c hcc=> ?_,?_,fun b e=> ?_⟩,I.gh.mv (fun _ _ e=>e) fun b o e q=>kk b o _ e cS.noConfusion q,I.one,I.bd,fun n o e=>(I.obj n o e).mv (fun _ _ e=>e) fun b j o e q=>kk b o _ e cS.noConfusion q⟩
 .have q:=(I.base b o e).2;rw[c,own] at q;cases q
 .by_cases c:b=a
  .rw[c];rcases Sj.mp ha with q|q
   .rw[q,<-lk.1];obtain ⟨o,_,_,ho,_⟩:=hn;exact ⟨o,ho⟩
   .obtain ⟨o,ho,_⟩:=hc a (by rw[lk.2];exact q);exact ⟨o,ho⟩
  .obtain ⟨o,ho⟩:=I.live b e;exact ⟨o,hs b o c ho⟩
 .rcases Sj.mp hk with q|q
  .subst q;exact ⟨hn,by rw[lk.1];exact (I.fr.ns f hm).2⟩
  .obtain ⟨⟨o,es,ep,ho,z⟩,x⟩:=I.fr.ns k (by rw[hf];exact .tail _ q);exact ⟨⟨o,es,ep,hs _ _ (ne k q _ (.head _)) ho,z⟩,x⟩
 .rcases Sj.mp hk with q|q
  .subst q;exact ⟨hc c hcc,by rw[lk.1];exact (I.fr.cl f hm c (by rw[<-lk.2];exact hcc)).2⟩
  .obtain ⟨⟨o,ho,z⟩,x⟩:=I.fr.cl k (by rw[hf];exact .tail _ q) c hcc;exact ⟨⟨o,hs _ _ (ne k q _ (.tail _ hcc)) ho,z⟩,x⟩
 .exact List.pairwise_cons.mpr ⟨fun k hk b hb=>by rw[lk.1];exact o1 k hk b hb,o2⟩
 .obtain ⟨k,hk,z⟩:=I.fr.all b e;rw[hf] at hk;rcases Sj.mp hk with q|q
  .exact ⟨g,.head _,by rw[Fm.adr,lk.1,lk.2];exact q ▸ z⟩
  .exact ⟨k,.tail _ q,z⟩
end
section
variable {X:SX}
theorem t7 {q:PV} (h:(ρ.set i (some p))[j]? =some (some q)):(i=j/\q=p)∨(i≠j/\ρ[j]? =some (some q)):=by
 by_cases e:i=j
 .subst e;by_cases hl:i<ρ.length
  .rw[List.getElem?_set_self hl] at h;cases h;exact .inl ⟨rfl,rfl⟩
  .rw[List.getElem?_eq_none (by simpa using hl)] at h;cases h
 .rw[SP e] at h;exact .inr ⟨e,h⟩
theorem Fy {f:Fm} {r:List Fm} (lk:f.like g) (h:n6 A (f::r)):n6 A (g::r):=by
 obtain ⟨ls,e,hl⟩:=h;refine ⟨ls,e,fun x hx=> ?_⟩;obtain ⟨a,b,hb,c⟩:=hl x hx;refine ⟨a,?_⟩;rcases Sj.mp hb with q|q
 .exact ⟨g,.head _,by rw[c,q,lk.1]⟩
 .exact ⟨b,.tail _ q,c⟩
theorem je {x:Str} {i:Nat} {p:PV} {v:Value} {Q:Unit->Shared->Prop} {A:Around} {M:Model} (hx:X.Γ.lookup x=some i) (hb:gH X.sc x=true) (I:aL X.C P) (G:ct X P ρ) (hr:RV X.C P v p)
  (k:∀ P',eY P P'->aL X.C P'->ct X P' (ρ.set i (some p))->P'.σ=P.σ->Q () P'.s):wpAny M A (storeName X.env x v) Q E P.s:=by
 rw[X.scE] at hb;obtain ⟨f,r,hf,hL,hcs⟩:=G.hd;have hm:f∈P.fs:=by rw[hf];exact .head _
 have hns:=(I.fr.ns f hm).1;have hloc:X.env.locals=f.L:=X.loc.trans hL.symm;have fin:∀ (h':Heap) (t:Nat) (g:Fm),f.like g->aL X.C {P.to h' t with fs:=g::r}->BL X.env (g::r) x v->(∀ y w,y≠x->BL X.env (f::r) y w->BL X.env (g::r) y w)->Q () {P.s with heap:=h',toks:=t}:=fun h' t g lk J l1 l2=>by
  refine k {P.to h' t with fs:=g::r} ⟨⟨⟨h',t,rfl⟩,rfl,fun _ _ e=>e,fun _ _ e=>e,fun _ _ _ _ e=>e⟩,by rw[hf];exact .mk lk⟩ J ⟨⟨Fy lk (hf ▸ G.frs),nofun,fun y j q h1 h2 h3=> ?_⟩,⟨g,r,rfl,by rw[lk.1];exact hL,by rw[lk.2];exact hcs⟩⟩ rfl;rcases t7 h3 with ⟨e1,e2⟩|⟨e1,e2⟩
  .subst e1;have e3:=X.inj _ _ _ h1 hx;subst e3;subst e2;exact ⟨v,hr,l1⟩
  .obtain ⟨w,z1,z2⟩:=G.var y j q h1 h2 e2;exact ⟨w,z1,l2 y w (fun c=>e1 (by rw[c,hx] at h1;exact S_ h1)) (hf ▸ z2)⟩
 rcases (Bool.or_eq_true _ _).mp hb with hb|hb
 .have hb:=bR hb;rw[<-hloc] at hns;refine wpAny_storeName_local (m:=f.m) hb hns (fun h' hn' hs'=> ?_) (by rw[X.kind];rfl);rw[hloc] at hn' hs';refine fin h' _ {f with m:=fun y=>if y=x then some v else f.m y} ⟨rfl,rfl⟩ (I.frame hf ⟨rfl,rfl⟩ (.head _) (fun b o e h=>hs'.extBut b o e h) hn' fun c hc=>(I.fr.cl f hm c hc).1.sameBut hs' (Nat.ne_of_gt (I.fr.cl f hm c hc).2.2)) (.inl ⟨hb,_,.head _,hloc.symm,if_pos rfl⟩) fun y w e l=> ?_;rcases l with ⟨h1,f1,hf1,h2,h3⟩|⟨h1,c,h2,f1,hf1,h3,h4⟩
  .rcases Sj.mp hf1 with q|q
   .exact .inl ⟨h1,_,.head _,by rw[<-h2,q],by show (if y=x then _ else _)=_;rw[if_neg e,<-q];exact h3⟩
   .exact .inl ⟨h1,f1,.tail _ q,h2,h3⟩
  .rcases Sj.mp hf1 with q|q
   .exact .inr ⟨h1,c,h2,_,.head _,q ▸ h3,q ▸ h4⟩
   .exact .inr ⟨h1,c,h2,f1,.tail _ q,h3,h4⟩
 .have hb:=bR hb;obtain ⟨c,hc,hcf⟩:=X.cell x hb;rw[<-hcs] at hcf;refine wpAny_storeName_cell X.kind hb hc (I.fr.cl f hm c hcf).1 fun h' hc' hs'=> ?_;have hcL:f.L≠c:=Nat.ne_of_lt (I.fr.cl f hm c hcf).2.2;refine fin h' _ {f with cv:=fun a=>if a=c then some v else f.cv a} ⟨rfl,rfl⟩ (I.frame hf ⟨rfl,rfl⟩ (.tail _ hcf) (fun b o e h=>hs'.extBut b o e h) (hns.sameBut hs' hcL) fun c' hc1=> ?_) (.inr ⟨.inl hb,c,hc,_,.head _,hcf,if_pos rfl⟩) fun y w e l=> ?_
  .show h'.IsCell c' (if c'=c then _ else _);by_cases q:c'=c
   .rw[if_pos q,q];exact hc'
   .rw[if_neg q];exact (I.fr.cl f hm c' hc1).1.sameBut hs' q
  .rcases l with ⟨h1,f1,hf1,h2,h3⟩|⟨h1,c1,h2,f1,hf1,h3,h4⟩
   .rcases Sj.mp hf1 with q|q
    .exact .inl ⟨h1,_,.head _,by rw[<-h2,q],q ▸ h3⟩
    .exact .inl ⟨h1,f1,.tail _ q,h2,h3⟩
   .rcases Sj.mp hf1 with q|q
    .refine .inr ⟨h1,c1,h2,_,.head _,q ▸ h3,?_⟩;show (if c1=c then _ else _)=_;rw[if_neg (fun z:c1=c=>e (X.apart _ _ _ h2 (by rw[hc,z]))),<-q];exact h4
    .exact .inr ⟨h1,c1,h2,f1,.tail _ q,h3,h4⟩
end
noncomputable def J4 (i:Nat) (f:Sx->Expr->Bool) (s:Sx) (st:Stmt):Bool:=oj (fun t e=>dD (fun x _=> !gi e&&s.Γ.lookup x==some i&&gH s.sc x&&f s e) t) st
noncomputable def aG (i:Nat) (a:CE):C1:=⟨fun K ρ=>b8 ρ (a.ev K ρ) fun v σ=>some (.next (ρ.set i (some v)),σ),J4 i a.is,fun X st ρ P K Q E h I G w p=>fM (fun st=>Ws X st Q E P) h fun t e pos h=>cw (fun t=>wpAny X.M X.A (PySem.exec (.Assign [t] e pos) X.env) Q E P.s) h fun x px h=>
 wpAny_Assign_Name (a.ok X.toCx e ρ P _ _ E (an h) I G.toEnvOK (cW w) (p.bind G fun y v P1 g I1 r w G1 p=>
  je (bR (an (ai (ai h)))) (an (ai h)) I1 G1 r fun P2 g2 I2 G2 e2=>p.next _ P2 g2 I2 G2 (e2 ▸ w))) (gX ((Bool.not_eq_true' _).mp (ai (ai (ai h)))))⟩
theorem zP {k:Int} (h:bS k=true):Builtin.List.listFitsIndex k=true:=by
 have h2:=g6 h;by_cases q:0<=k
 .exact fitsIndex_of q (by omega)
 .exact fitsIndex_neg (by omega) (by omega)
set_option maxRecDepth 100000 in
theorem rV {prog:Program} {w:World} {A:Around} {E:Value->Shared->Prop} {s:Shared} {l:Addr} {vs:List Value} {n j:Nat} {k:Int} {t:Tok} {v:Value} {Q:Unit->Shared->Prop} (ho:s.heap.get? l=some (aU vs n)) (hs:bS k=true) (hp:cg k vs.length=some j)
  (hQ:∀ h',h'.get? l=some (aU (vs.set j v) n)->Heap.SameBut l s.heap h'->Q () {s with heap:=h'}):wpAny (model prog w) A (PySem.setItem (.ref l) (.int k t) v) Q E s:=by
 have hl:s.heap.IsList l vs.toArray:=⟨_,ho,rfl,n,rfl⟩;have hj:=(jZ hp).2;have hx':vs.toArray[j]? =some vs[j]:=by simp [hj]
 have e1:(aU vs n).mapSeq (·.setIfInBounds j v)=aU (vs.set j v) n:=by simp [Obj.mapSeq]
 have g:=Heap.get?_update_self (Obj.mapSeq (·.setIfInBounds j v)) ho (by rw[e1];rfl);rw[e1] at g;unfold PySem.setItem
 try with_reducible refine wpAny_holding ?_
 first|refine Sw (Sy ?_)|skip
 refine Sw (wpAny_sequenceKey hl.typeIs (by decide) ?_);refine Sw (wpAny_callSpecial?_slot (name:=Str.ofString "__setitem__") hl.typeIs slot_list_setitem
  (wpAny_call_entry slot_list_setitem hl.typeIs entry_list_setitem ?_ (args_list_setitem _ _ _)))
 show wpAny _ _ (Builtin.List.listSubscript? (.int k t)>>=_) _ _ s;refine Sw (wpAny_listSubscript_int (zP hs) ?_);clear hs;cases k with
 |ofNat m=>
  have h0:(0:Int)<=Int.ofNat m:=Int.ofNat_nonneg m;have hm:m=j:=by
   unfold cg at hp;rw[if_pos h0] at hp;split at hp
   .exact S_ hp
   .cases hp
  subst hm;show wpAny _ _ ((seqItemAt l m>>=fun r=>pure (r.map (m,·)))>>=_) _ _ s;refine Sw (Sw (wpAny_seqItemAt ho rfl (Sy ?_)));rw[hx'];show wpAny _ _ (setSeqItemAt l m v>>=_) _ _ s;refine Sw (wpAny_setSeqItemAt ho rfl ?_)
  first
   |exact Sw (Sy (Sy ⟨.none,rfl,Sy (hQ _ (by simpa using g) (Heap.SameBut.update ..))⟩))
   |exact Sy ⟨.none,rfl,Sy (hQ _ (by simpa using g) (Heap.SameBut.update ..))⟩
 |negSucc m=>
  have hidx:=(jZ hp).1;show wpAny _ _ ((Builtin.List.listItems (.ref l)>>=fun xs=>pure ((seqIndex? (Int.negSucc m) xs.size).bind fun i=>xs[i]?.map (i,·)))>>=_) _ _ s;refine Sw (Sw ?_);show wpAny _ _ (seqItems? (.ref l)>>=_) _ _ s;refine Sw (wpAny_seqItems ho rfl (Sy (Sy ?_)));rw[SG,hidx];simp only [Si,hx',Option.map_some];show wpAny _ _ (setSeqItemAt l j v>>=_) _ _ s;refine Sw (wpAny_setSeqItemAt ho rfl ?_)
  first
   |exact Sw (Sy (Sy ⟨.none,rfl,Sy (hQ _ (by simpa using g) (Heap.SameBut.update ..))⟩))
   |exact Sy ⟨.none,rfl,Sy (hQ _ (by simpa using g) (Heap.SameBut.update ..))⟩
noncomputable def D_ (k v:D):cU->Option cU
 | .list l=>(iD k).bind fun i=>(au (bS i=true) ()).bind fun _=>(cg i l.length).map fun j=>.list (l.set j v)
 | .dict ks vs=>au (kd k ks=true/\ks.length<100000) (.dict (ey k ks) (ew k v ks vs))
 | .d _=>none
theorem yF {K:Type} [DecidableEq K] {ks:List (K×Value)} {k:K} {P:K->Prop} (h:∀ e∈ks,P e.1) (hk:P k):∀ e∈stored ks k v,P e.1:=by
 intro e he;unfold stored at he;split at he
 .obtain ⟨x,hx,rfl⟩:=SA.mp he;split
  .exact h x hx
  .exact h x hx
 .rcases SC.mp he with he|he
  .exact h e he
  .rw[So.mp he];exact hk
section
variable {Q:Unit->Shared->Prop}
theorem yr {n j:Nat} {f f':cU} {k v:D} {vx vk vv:Value} (I:aL C P) (hx:RV C P vx (.p n j)) (hk:RD C P.own k vk) (hv:RD C P.own v vv) (e:ck P.σ n j=some f) (e':D_ k v f=some f')
  (kk:∀ P',bQ P P'->aL C P'->P'.σ=dH P.σ n j f'->Q () P'.s):wpAny C.M A (PySem.setItem vx vk vv) Q E P.s:=by
 cases f with
 |d x=>cases e'
 |list l=>
  refine bn fun G9 k9=> ?_;obtain ⟨i,e1,e2⟩:=aq e';obtain ⟨_,e3,e2⟩:=aq e2;obtain ⟨jj,e4,q⟩:=a_ e2;refine k9 ?_;have h1:=(eb e3).1;subst q;refine bn fun G9 k9=> ?_;obtain ⟨t,q⟩:=d5 e1 (kI I hk);obtain @⟨a,o,h2,h3,ws,m,e3,rr⟩:=nU I hx e (fun _ h=>by cases h);refine k9 ?_;rw[q];subst e3;refine rV h3 h1 (by rw[rr.length];exact e4) fun h' z1 z2=> ?_;refine bn fun G9 k9=> ?_;obtain ⟨P',q1,q2,q3,q4,q5⟩:=oN (t:=P.s.toks) (f':=.list (l.set jj v)) I (fun _ h=>by cases h) (fun _ h=>by cases h) e h2 (fun b o hb e=>z2.extBut b o hb e) z1 ⟨_,m,rfl,rr.set hv⟩;refine k9 ?_;have:=kk P' q1 q2 q3;rw[q5] at this;exact this
 |dict ks ps=>
  obtain ⟨⟨h1,h4⟩,q⟩:=eb e';subst q;refine bn fun G9 k9=> ?_;obtain @⟨a,o,h2,h3,vs,hd,rr⟩:=nU I hx e (fun _ h=>by cases h);obtain ⟨d,l,c,hk1,h5,e1,e2,h6,e3,h7,h8⟩:=uC hd hk h1;refine k9 ?_;subst e1;subst e2;subst e3
  letI:=d.dec
  have hlen:l.length<100000:=by rw[Sg] at h4;exact h4
  refine wpAny_setItem_pairs h7 (Heap.dictOf_iff.mpr ⟨o,h3,h5⟩) (fun h' z1 z2=> ?_) (Ss (SY hlen) (by decide));refine bn fun G9 k9=> ?_;obtain ⟨o',z3,z4⟩:=Heap.dictOf_iff.mp z1;have hnd:(l.map (·.1)).Nodup:=by obtain ⟨_,_,_,_,_,_,h⟩:=h5;exact h
  have pa:=Ey hk1 c hv rr hnd;obtain ⟨P',q1,q2,q3,q4,q5⟩:=oN (t:=P.s.toks+1) (f':=.dict (ey (d.toD c) (l.map fun p=>d.toD p.1)) (ew (d.toD c) v (l.map fun p=>d.toD p.1) ps)) I (fun _ h=>by cases h) (fun _ h=>by cases h) e h2 (fun b o hb e=>z2.extBut b o hb e) z3 ⟨_,.mk d _ hk1 z4 pa.1 rfl (yF (P:=d.ok) h6 h8),pa.2⟩;refine k9 ?_;have:=kk P' q1 q2 q3;rw[q5] at this;exact this
end
noncomputable def Ca (x:PV) (k v:D) (σ:az):Option az:=match x with
 | .p n j=>(ck σ n j).bind fun f=>(D_ k v f).map fun f'=>dH σ n j f'
 |_=>none
theorem B_ {k v:D} {σ':az} (h:Ca x k v σ=some σ'):∃ n j f f',x= .p n j/\ck σ n j=some f/\D_ k v f=some f'/\σ'=dH σ n j f':=by
 cases x with
 |d=>cases h
 |b=>cases h
 |p n j=>
  refine bn fun G9 k9=> ?_;obtain ⟨f,e1,h⟩:=aq h;obtain ⟨f',e2,h⟩:=a_ h;refine k9 ?_;exact ⟨n,j,f,f',rfl,e1,e2,h.symm⟩
noncomputable def fS {α:Type} (o:Option α) (k:α->Option (Out×az)):Option (Out×az):=o.bind k
theorem ee {K:Out->az->Prop} {k:α->Option (Out×az)}:∀ {o:Option α},io K (fS o k)->∃ a,o=some a/\io K (k a)
 |some a,h=>⟨a,rfl,h⟩
section
variable {X:SX} {K:Out->az->Prop} {Q:Flow->Shared->Prop}
theorem G4 (o i a:CE) (h:oj (fun t e=>bT (fun oe ke _=> !gi e&&dg ke&&o.is X.sx oe&&i.is X.sx ke&&a.is X.sx e) t) st=true) (I:aL X.C P) (G:ct X P ρ)
  (w:io K (b8 ρ (a.ev X.ker ρ) (fun v=>b8 ρ (o.ev X.ker ρ) fun x=>b8 ρ (i.ev X.ker ρ) fun k σ=>fS (j7 k) fun k=>fS (j7 v) fun v=>fS (Ca x k v σ) fun σ'=>some (.next ρ,σ')) P.σ)) (p:c8 X P K Q E):Ws X st Q E P:=
 fM (fun st=>Ws X st Q E P) h fun t e pos h=>cx (fun t=>wpAny X.M X.A (PySem.exec (.Assign [t] e pos) X.env) Q E P.s) h fun oe ke px h=>
  wpAny_Assign_Subscript (a.ok X.toCx e ρ P _ _ E (an h) I G.toEnvOK (cW w) (p.bind G fun v vv P1 g1 I1 r1 w G1 p=>
   o.ok X.toCx oe ρ P1 _ _ E (an (ai (ai h))) I1 G1.toEnvOK (cW w) (p.bind G1 fun x vx P2 g2 I2 r2 w G2 p=>
    i.ok X.toCx ke ρ P2 _ _ E (an (ai h)) I2 G2.toEnvOK (cW w) (p.bind G2 fun k vk P3 g3 I3 r3 w G3 p=>by
     refine bn fun G9 k9=> ?_;obtain ⟨dk,e1,w⟩:=ee w;obtain ⟨dv,e2,w⟩:=ee w;obtain ⟨σ',e3,w⟩:=ee w;obtain ⟨n,j,f,f',q,e4,e5,e6⟩:=B_ e3;refine k9 ?_;subst q;subst e6;exact yr I3 (r2.ext g3.toExt) (lW e1 r3) (lW e2 (r1.ext (g2.trans g3).toExt)) e4 e5 fun P4 g4 I4 e=>p.next ρ P4 (G3.gs g4) I4 (G3.ext g4) (e ▸ w))))) (gX ((Bool.not_eq_true' _).mp (ai (ai (ai (ai h))))))
end
noncomputable def t9 (o i a:CE):C1:=⟨fun K ρ=>b8 ρ (a.ev K ρ) fun v=>b8 ρ (o.ev K ρ) fun x=>b8 ρ (i.ev K ρ) fun k σ=>fS (j7 k) fun k=>fS (j7 v) fun v=>fS (Ca x k v σ) fun σ'=>some (.next ρ,σ'),fun s=>oj fun t e=>bT (fun oe ke _=> !gi e&&dg ke&&o.is s oe&&i.is s ke&&a.is s e) t,fun X st ρ P K Q E h I G w p=>G4 o i a h I G w p⟩
noncomputable def zq (v:PV) (σ:az):Option (PV×az):=match v with
 | .p n 0=>(ck σ n 0).bind fun f=>f.rd.map fun x=>(.d x,σ.set n .dead)
 |_=>none
theorem Kl (h:w a= .fz o):∀ {f:cU} {x:D},f.rd=some x->RF C w o f->RD C w x (.ref a):=by
 intro f x e r;cases f with
 |d _=>cases e
 |list _=>
  obtain ⟨vs,n,e',r⟩:=r;cases e;exact .lst (n:=⟨n,none,#[]⟩) (h.trans (congrArg cS.fz e')) r
 |dict _ _=>
  obtain ⟨vs,d,r⟩:=r;cases e;exact .dct h d r
theorem Fr {y:PV} {σ':az} (I:aL C P) (e:zq x P.σ=some (y,σ')):∃ P',bQ P P'/\aL C P'/\P'.σ=σ'/\P'.s=P.s/\∀ v,RV C P v x->RV C P' v y:=by
 match x,e with
 | .p n 0,e=>
  refine bn fun G9 k9=> ?_;obtain ⟨f,e1,e⟩:=aq e;obtain ⟨z,e2,e⟩:=a_ e;refine k9 ?_;cases e;refine bn fun G9 k9=> ?_;obtain ⟨o',e3,e4⟩:=aq e1;obtain ⟨_,q⟩:=Jg (I.obj n o' e3) e4 (jm e2).2;obtain @⟨a,o,h1,h2,h3⟩:=q;refine k9 ?_;have g:=bQ.ice (o:=o) e3 h1;exact ⟨P.ice n a o,g,I.ice e3 h1 h2,rfl,rfl,fun v r=>by rw[r.2 a h1];exact Kl (bU _ _ _) e2 (h3.ext g.fz)⟩
 | .p _ (_+1),e=>cases e
 | .d _,e=>cases e
theorem G5 (i:Nat) (l:CS) {X:SX} {st:List Stmt} {K:Out->az->Prop} {Q:Flow->Shared->Prop} (h:l.is X.sx st=true) (I:aL X.C P) (G:ct X P ρ) (w:io K (fS ((ρ[i]?).join) fun v=>fS (zq v P.σ) fun q=>l.ex X.ker (ρ.set i (some q.1)) q.2)) (p:c8 X P K Q E):wpAny X.M X.A (PySem.execs st X.env) Q E P.s:=by
 refine bn fun G9 k9=> ?_;obtain ⟨v,e1,w⟩:=ee w;obtain ⟨⟨y,σ'⟩,e2,w⟩:=ee w;obtain ⟨P',g,I',e3,e4,k⟩:=Fr I e2;refine k9 ?_;have G':=G.ext g;rw[<-e4];refine l.ok X st (ρ.set i (some y)) P' K Q E h I' ⟨⟨G'.frs,G'.ne,fun x j q h1 h2 h3=> ?_⟩,G'.hd⟩ (by rw[e3];exact w) (p.mono (G.gs g));rcases t7 h3 with ⟨c1,c2⟩|⟨c1,c2⟩
 .subst c1;subst c2;obtain ⟨u,r,ld⟩:=G.var x i v h1 h2 (th e1);exact ⟨u,k u r,g.fs ▸ ld⟩
 .exact G'.var x j q h1 h2 c2
noncomputable def Eg (i:Nat) (l:CS):CS:=⟨fun K ρ σ=>fS ((ρ[i]?).join) fun v=>fS (zq v σ) fun q=>l.ex K (ρ.set i (some q.1)) q.2,l.is,fun _ _ _ _ _ _ _ h I G w p=>G5 i l h I G w p⟩
section
noncomputable def Pt.adopt (P:Pt) (h:Heap) (t:Nat) (a:Addr) (m n j:Nat) (o:PO):Pt:={P.to h t with own:=im P.own a (.cell n j),σ:=(P.σ.set m .dead).set n o}
theorem DA (I:aL C P) {h':Heap} {t m n i j:Nat} {a d:Addr} {oa od:Obj} {po p0 p1:PO} (em:P.σ[m]? =some po) (en:P.σ[n]? =some p0) (ne:m≠n) (ha:P.own a= .cell m 0) (hd:P.own d= .cell n i) (hs:∀ b o,b≠d->P.h.get? b=some o->h'.get? b=some o)
  (oa:P.h.get? a=some oa) (od:h'.get? d=some od) (hno:∀ b,P.own b≠ .cell n j) (h1:∀ b k,P.own b= .cell n k->p1.has k) (h2:p1.has j) (r:RO C (im P.own a (.cell n j)) h' n p1):aL C (P.adopt h' t a m n j p1)/\Fz P.own (im P.own a (.cell n j)):=by
 have nad:a≠d:=fun q=>by rw[q,hd] at ha;cases ha;exact ne rfl
 have kk:∀ b o x,P.own b=x->x≠ .cell m 0->x≠ .cell n i->P.h.get? b=some o->im P.own a (.cell n j) b=x/\h'.get? b=some o:=fun b o x e q1 q2 z=>
  have na:b≠a:=fun c=>q1 (by rw[<-e,c,ha]);have nd:b≠d:=fun c=>q2 (by rw[<-e,c,hd])
  ⟨(bB na).trans e,hs b o nd z⟩
 have fz:Fz P.own (im P.own a (.cell n j)):=fun b o e=>(bB fun c=>by rw[c,ha] at e;cases e).trans e;have len:(P.σ.set m .dead).length=P.σ.length:=SL;have ln:=(Sl.mp en).1;have gn:((P.σ.set m .dead).set n p1)[n]? =some p1:=by rw[List.getElem?_set_self (by rw[len];exact ln)]
 refine ⟨⟨fun b o e=> ?_,fun c o e=> ?_,fun c e=> ?_,I.fr.mv (fun b o e q=>kk b o _ e cS.noConfusion cS.noConfusion q) (fun b e=>mA cS.noConfusion e),I.gh.mv fz fun b o e q=>kk b o _ e cS.noConfusion cS.noConfusion q,fun b c k j' e f=> ?_,fun c k j' e=> ?_,fun k o e=> ?_⟩,fz⟩
 .obtain ⟨e1,e2⟩:=I.base b o e;exact (kk b o _ e2 cS.noConfusion cS.noConfusion e1).symm
 .rcases cX P.own a (.cell n j) c with ⟨_,q⟩|⟨_,q⟩
  .cases q.symm.trans e
  .have z:=q.symm.trans e;exact (kk c o _ z cS.noConfusion cS.noConfusion (I.fz c o z)).2
 .by_cases c1:c=d
  .exact ⟨_,c1 ▸ od⟩
  .rcases cX P.own a (.cell n j) c with ⟨p,q⟩|⟨_,q⟩
   .exact ⟨_,hs c _ c1 (p ▸ oa)⟩
   .obtain ⟨o,ho⟩:=I.live c (q ▸ e);exact ⟨o,hs c o c1 ho⟩
 .rcases cX P.own a (.cell n j) b with ⟨p,q⟩|⟨_,q⟩<;>rcases cX P.own a (.cell n j) c with ⟨p',q'⟩|⟨_,q'⟩
  .rw[p,p']
  .cases q.symm.trans e;exact absurd (q'.symm.trans f) (hno c)
  .cases q'.symm.trans f;exact absurd (q.symm.trans e) (hno b)
  .exact I.one b c k j' (q.symm.trans e) (q'.symm.trans f)
 .rcases cX P.own a (.cell n j) c with ⟨p,q⟩|⟨_,q⟩
  .cases q.symm.trans e;exact ⟨_,gn,h2⟩
  .have e:=q.symm.trans e;by_cases c1:k=n
   .rw[c1] at e ⊢;exact ⟨_,gn,h1 c j' e⟩
   .obtain ⟨o,e1,e2⟩:=d7 em (o':=.dead) (fun _ _=>trivial) (I.bd c k j' e);exact ⟨o,by show ((P.σ.set m .dead).set n p1)[k]? =_;rw[SP (Ne.symm c1)];exact e1,e2⟩
 .by_cases c1:k=n
  .rw[c1] at e ⊢;cases (gn.symm.trans e);exact r
  .have e:((P.σ.set m .dead).set n p1)[k]? =some o:=e;rw[SP (Ne.symm c1)] at e;by_cases c2:k=m
   .rw[c2,List.getElem?_set_self (Sl.mp em).1] at e;cases e;exact True.intro
   .rw[SP (Ne.symm c2)] at e;exact (I.obj k o e).mv fz fun b j o e q=>kk b o _ e (fun z=>by cases z;exact c2 rfl) (fun z=>by cases z;exact c1 rfl) q
theorem xV (I:aL C P) {h':Heap} {t m n i:Nat} {a d:Addr} {oa od:Obj} {po:PO} {b:Bool} {l l':List cU} (em:P.σ[m]? =some po) (en:P.σ[n]? =some (.rcd b l)) (ne:m≠n) (ha:P.own a= .cell m 0) (hd:P.own d= .cell n i) (hs:∀ b o,b≠d->P.h.get? b=some o->h'.get? b=some o)
  (oa:P.h.get? a=some oa) (od:h'.get? d=some od) (hl:l'.length=l.length+1) (r:RO C (im P.own a (.cell n (l.length+2))) h' n (.rcd b l')):aL C (P.adopt h' t a m n (l.length+2) (.rcd b l'))/\bQ P (P.adopt h' t a m n (l.length+2) (.rcd b l')):=by
 have lt:∀ b k,P.own b= .cell n k->k<l.length+2:=fun b k q=>by
  obtain ⟨o',e1,e2⟩:=I.bd b n _ q;rw[en] at e1;cases e1;exact e2
 have up:∀ k,k<l.length+2->k<l'.length+2:=fun k q=>by rw[hl];exact Nat.lt_succ_of_lt q
 obtain ⟨J,fz⟩:=DA (t:=t) (j:=l.length+2) (p1:=.rcd b l') I em en ne ha hd hs oa od (fun b q=>S4 _ (lt b _ q)) (fun b k q=>up k (lt b k q)) (by show l.length+2<l'.length+2;rw[hl];exact Nat.lt_succ_self _) r;refine ⟨J,⟨⟨⟨h',t,rfl⟩,rfl,fz,fun k j v=> ?_,fun k j c v q=> ?_⟩,rfl⟩⟩
 .have e2:(P.σ.set m .dead)[n]? =some (.rcd b l):=by rw[SP ne];exact en
  exact d7 e2 up (d7 em (fun _ _=>trivial) v)
 .rcases cX P.own a (.cell n (l.length+2)) c with ⟨p,z⟩|⟨_,z⟩
  .cases z.symm.trans q;obtain ⟨o',e1,e2⟩:=v;rw[en] at e1;cases e1;exact absurd e2 (S4 _)
  .exact z.symm.trans q
theorem BZ {A:Around} {s:Shared} {x dx:Addr} {es es':List DictEntry} {n n':Nat} {name:Str} {tk:Tok} {v:Value} {R:Result->Shared->Prop} (W:JN C) (X:PySem.W.Frag.In C.K s.heap) (hx:s.heap.get? x=some (mU C.book dx)) (hd:s.heap.get? dx=some (d6 es n))
  (hno:PySem.W.findIn C.K (.ref C.book) name=some none) (href:es.any (·.refKey)=false) (hp:Obj.putName name (PyData.keyHash C.w.params name) (.str name s.toks) v (d6 es n)=d6 es' n') (hz:es'.length<=1000)
  (h:∀ h',h'.get? dx=some (d6 es' n')->Heap.SameBut dx s.heap h'->R (.ok (.ret .none)) {s with heap:=h',toks:=s.toks+1}):
  codeAny C.M A (.call (.builtin "object.__setattr__") ⟨[.ref x,.str name tk,v],[]⟩) R s:=by
 refine PySem.W.osa_open X (od:=some (d6 es n)) ⟨hx,rfl,rfl,hd⟩ W.plain (r:=none) (by unfold PySem.W.takerIn;rw[hno];rfl) fun b=> ?_;obtain ⟨cd,hc,hd'⟩:=W.cd;have g:=Heap.get?_update_self (Obj.putName name (PyData.keyHash C.w.params name) (.str name s.toks) v) hd (by rw[hp];rfl);rw[hp] at g;refine Sw (Sy (Sw (Sw (wpAny_loadPart hx (Sw ((PySem.W.looks_clsIn X hc).here ?_))))));rw[hd'];refine Sy (a:=some dx) (Sw (Sy (Sw ?_)));unfold nsSet;refine Sw (Sw (wpAny_askSetting (Sy (Sw (wpAny_mkText (Sw (wpAny_loadPart hd ?_)))))));dsimp only;have c:(!es.toArray.any (·.key.isStr name)&&es.toArray.any (·.refKey))=false:=by
  rw[<-Array.any_toList,<-Array.any_toList,href,Bool.and_false]
 rw[aRefKeyMayBeTheName_at,c];refine wpAny_updatePart hd ?_;refine Sw (wpAny_lookBehind g (pastItsLine_dict (by rw[SG];exact Ss hz (by decide))) ?_);exact Sy (h _ g (Heap.SameBut.update ..))
noncomputable def Ea (k:Nat) (x v:PV) (σ:az):Option az:=match x with
 | .p n 0=>(df true σ n).bind fun l=>(au (k=l.length) ()).bind fun _=>match v with
  | .d y=>some (σ.set n (.rcd true (l++[.d y])))
  | .p m 0=>(au (m≠n) ()).bind fun _=>(ck σ m 0).bind fun f=>f.rd.map fun _=>(σ.set m .dead).set n (.rcd true (l++[f]))
  |_=>none
 |_=>none
theorem FA.mono {w':bE} (x:Fz w w') (k:∀ b o,w b= .cell n (i+2)->h.get? b=some o->w' b= .cell n (i+2)/\h'.get? b=some o) (q:FA C w h n i v f):FA C w' h' n i v f:=by
 cases f with
 |d y=>exact RD.ext x q
 |list l=>
  obtain ⟨a,b,c⟩:jS C w h n (i+2) (.list l) v:=q;exact jS.mk (k _ _ a b).1 (k _ _ a b).2 (RF.ext x c)
 |dict ks ps=>
  obtain ⟨a,b,c⟩:jS C w h n (i+2) (.dict ks ps) v:=q;exact jS.mk (k _ _ a b).1 (k _ _ a b).2 (RF.ext x c)
theorem yt {A:Around} {E:Value->Shared->Prop} {Q:Unit->Shared->Prop} {k:Nat} {x v:PV} {vx vv:Value} {σ':az} (G:fh C) (hk:k<7) (I:aL C P) (hx:RV C P vx x) (hv:RV C P vv v) (e:Ea k x v P.σ=some σ')
  (kk:∀ P',bQ P P'->aL C P'->P'.σ=σ'->Q () P'.s):wpAny C.M A (PySem.setAttr vx (C.att k) vv) Q E P.s:=by
 cases x with
 |d _=>cases e
 |b _ _=>cases e
 |p n j=>
 cases j with
 |succ _=>cases e
 |zero=>
 obtain ⟨l,e1,e⟩:=aq e;obtain ⟨_,e2,e⟩:=aq e;have e2:=(eb e2).1;have en:=jY e1;obtain @⟨a,d,es,m,h1,h2,h3,h4,h5,h6,h7,h8⟩:i9 C P.own P.h n l:=I.obj n _ en;have W:=G.cls;have XX:PySem.W.Frag.In C.K P.h:=W.X.keeps fun b o e=>(I.base b o e).1;have hnone:=xP (C:=C) (es:=es) (off:=0) (x:=C.att k) (Ai h5) (fun i _ h q=>by have:=W.inj i (Po hk e2 h6 h) k hk q;exact Pn e2 h6 h this);have nad:d≠a:=fun q=>by rw[q,h1] at h3;cases h3
 rw[hx.2 a h1];have hp:Obj.putName (C.att k) (PyData.keyHash C.w.params (C.att k)) (.str (C.att k) (P.s.toks+1)) vv (d6 es m)=d6 (es++[⟨PyData.keyHash C.w.params (C.att k),.str (C.att k) (P.s.toks+1),vv⟩]) (m+1):=by
  rw[Obj.putName_eq];show (match es.toArray.findIdx? (·.key.isStr (C.att k)) with|some i=>_|none=>_)=_
  have:es.toArray.findIdx? (·.key.isStr (C.att k))=none:=by
   rw[List.findIdx?_toArray,List.findIdx?_eq_none_iff];intro e he;have:=hnone.1;rw[List.find?_eq_none] at this
   simpa using this e he
  rw[this];show ({cls:=.type "dict",data:=.dict (es.toArray.push _) (m+1)}:Obj)=_;rw[List.push_toArray]
 refine PySem.W.set_plain XX (show PySem.W.InstAt P.h a (mU C.book d) C.book (some (d6 es m)) from ⟨h2,rfl,rfl,h4⟩) W.sattr ?_;refine BZ (s:={P.s with toks:=P.s.toks+1}) W XX h2 h4 (W.no k hk) hnone.2 hp (by simp;exact Pm hk e2 h6) fun h' g1 g2=> ?_;have at':rE C (es++[⟨PyData.keyHash C.w.params (C.att k),.str (C.att k) (P.s.toks+1),vv⟩]):=fun i e he=>by
  by_cases c:i=es.length
  .rw[(dP he).2 c,c,h6,<-e2];exact ⟨⟨_,rfl⟩,rfl⟩
  .exact h5 i e ((dP he).1 c)
 have ro:∀ (w':bE) (f:cU),Fz P.own w'->(∀ b j,P.own b= .cell n j->w' b= .cell n j)->FA C w' h' n k vv f->RO C w' h' n (.rcd true (l++[f])):=fun w' f fz kw fa=>by
  refine i9.mk (kw _ _ h1) (g2.extBut _ _ (Ne.symm nad) h2) (kw _ _ h3) g1 at' (by simp [h6]) (by simp;exact Pk hk e2) fun i f' en' q1 q2=> ?_;by_cases c:i=l.length
  .rw[(dP q1).2 c,(dP q2).2 (c.trans h6.symm),c,<-e2];exact fa
  .refine (h8 i f' en' ((dP q1).1 c) ((dP q2).1 (fun z=>c (z.trans h6)))).mono fz fun b o z1 z2=>⟨kw b _ z1,g2.extBut b o (fun z=> ?_) z2⟩;rw[z,h3] at z1;cases z1
 cases v with
 |b _ _=>cases e
 |d y=>
  cases e;have J:=I.turn (h':=h') (t:=P.s.toks+1+1) (po':=.rcd true (l++[.d y])) (fun j q=>by show j<(l++[cU.d y]).length+2;simp;have:j<l.length+2:=q;exact Nat.lt_succ_of_lt this) en h3 (fun b o hb e=>g2.extBut b o hb e) g1 (ro P.own (.d y) (fun _ _ e=>e) (fun _ _ e=>e) hv);exact kk _ (.turn en fun j q=>by show j<(l++[cU.d y]).length+2;simp;have:j<l.length+2:=q;exact Nat.lt_succ_of_lt this) J rfl
 |p m' j=>
 cases j with
 |succ _=>cases e
 |zero=>
  obtain ⟨_,z1,e⟩:=aq e;obtain ⟨f,z2,e⟩:=aq e;obtain ⟨u,z3,e⟩:=a_ e;have z1:=(eb z1).1;obtain ⟨o',z4,z5⟩:=aq z2;obtain @⟨af,of,y1,y2,y3⟩:=nU I hv z2 (jm z3).2;have fz:Fz P.own (im P.own af (.cell n (l.length+2))):=fun b o e=>(bB fun c=>by rw[c,y1] at e;cases e).trans e;have ndf:af≠d:=fun q=>by rw[q,h3] at y1;cases y1
  obtain ⟨J,g⟩:=xV (t:=P.s.toks+1+1) (l':=l++[f]) I z4 en z1 y1 h3 (fun b o hb e=>g2.extBut b o hb e) y2 g1 (by simp)
   (ro _ f fz (fun b j e=>(bB fun c=>by rw[c,y1] at e;cases e;exact z1 rfl).trans e) (FG (jm z3).2 (by rw[e2];exact jS.mk (bU _ _ _) (g2.extBut _ _ ndf y2) (y3.ext fz))))
  exact kk _ g J e
end
section
variable {X:SX} {K:Out->az->Prop} {Q:Flow->Shared->Prop}
theorem Ei (o:CE) (k:Nat) (a:CE) (h:oj (fun t e=>dE (fun oe x _=> !gi e&&x==X.sx.att k&&decide (k<7)&&o.is X.sx oe&&a.is X.sx e) t) st=true) (I:aL X.C P) (G:ct X P ρ)
  (w:io K (b8 ρ (a.ev X.ker ρ) (fun v=>b8 ρ (o.ev X.ker ρ) fun x σ=>fS (Ea k x v σ) fun σ'=>some (.next ρ,σ')) P.σ)) (p:c8 X P K Q E):wpAny X.M X.A (PySem.exec st X.env) Q E P.s:=
 fM (fun st=>wpAny X.M X.A (PySem.exec st X.env) Q E P.s) h fun t e pos h=>fg (fun t=>wpAny X.M X.A (PySem.exec (.Assign [t] e pos) X.env) Q E P.s) h fun oe x px h=>by
  rw[bR (an (ai (ai (ai h))))];exact plainObj_wpAny_Assign_Attribute (a.ok X.toCx e ρ P _ _ E (an h) I G.toEnvOK (cW w) (p.bind G fun v vv P1 g1 I1 r1 w G1 p=>
   o.ok X.toCx oe ρ P1 _ _ E (an (ai h)) I1 G1.toEnvOK (cW w) (p.bind G1 fun x vx P2 g2 I2 r2 w G2 p=>by
    obtain ⟨σ',e3,w⟩:=ee w;exact yt X.good (S3 (an (ai (ai h)))) I2 r2 (r1.ext g2.toExt) e3 fun P4 g4 I4 e=>p.next ρ P4 (G2.gs g4) I4 (G2.ext g4) (e ▸ w)))) (gX ((Bool.not_eq_true' _).mp (ai (ai (ai (ai h))))))
end
noncomputable def ko (o:CE) (k:Nat) (a:CE):C1:=⟨fun K ρ=>b8 ρ (a.ev K ρ) fun v=>b8 ρ (o.ev K ρ) fun x σ=>fS (Ea k x v σ) fun σ'=>some (.next ρ,σ'),fun s=>oj fun t e=>dE (fun oe x _=> !gi e&&x==s.att k&&decide (k<7)&&o.is s oe&&a.is s e) t,fun X st ρ P K Q E h I G w p=>Ei o k a h I G w p⟩
section
noncomputable def Pt.hide (P:Pt) (h:Heap) (t:Nat) (a:Addr) (o:Obj):Pt:={P.to h t with own:=im P.own a .gh,G:=(a,o)::P.G}
noncomputable def Pt.show (P:Pt) (h:Heap) (t:Nat) (a:Addr) (G:List (Addr×Obj)):Pt:={P.to h t with own:=im P.own a .no,G:=G}
theorem aL.hide (I:aL C P) (n:vD C P h' a o):aL C (P.hide h' t a o):=by
 have kk:∀ b o x,P.own b=x->x≠ .no->P.h.get? b=some o->im P.own a .gh b=x/\h'.get? b=some o:=fun b o x e q z=>⟨(bB fun c=>q (by rw[<-e,c,n.own])).trans e,n.keep b o z⟩;have cs:=cX P.own a .gh;refine ⟨fun b o e=> ?_,fun b o e=> ?_,fun b e=> ?_,I.fr.mv (fun b o e q=>kk b o _ e cS.noConfusion q) (fun b e=>mA cS.noConfusion e),⟨fun p hp=> ?_,?_,fun z e=>(I.gh.tab z e).map (eG n.own) fun b o q=>⟨n.keep b o q.1,(kk b o _ q.2.1 cS.noConfusion q.1).1,fun p hp=> ?_⟩⟩,fun b c k j e f=> ?_,fun b k j e=> ?_,fun k o e=>(I.obj k o e).mv (fun b o e=>(bB fun c=>by rw[c,n.own] at e;cases e).trans e) fun b j o e q=>kk b o _ e cS.noConfusion q⟩
 .obtain ⟨e1,e2⟩:=I.base b o e;exact ⟨n.keep b o e1,(bB fun c=>by rw[c,n.H] at e;cases e).trans e2⟩
 .rcases cs b with ⟨_,q⟩|⟨_,q⟩
  .cases q.symm.trans e
  .exact n.keep b o (I.fz b o (q.symm.trans e))
 .rcases cs b with ⟨p,q⟩|⟨_,q⟩
  .exact ⟨o,p ▸ n.at_⟩
  .obtain ⟨o,ho⟩:=I.live b (q ▸ e);exact ⟨o,n.keep b o ho⟩
 .rcases Sj.mp hp with q|q
  .rw[q];exact ⟨n.at_,bU _ _ _⟩
  .exact (kk _ _ _ (I.gh.at_ p q).2 cS.noConfusion (I.gh.at_ p q).1).symm
 .refine S6.mpr ⟨fun q=> ?_,I.gh.nd⟩;obtain ⟨p,hp,e⟩:=SA.mp q;have:=(I.gh.at_ p hp).2;rw[e,n.own] at this;cases this
 .rcases Sj.mp hp with z|z
  .rw[z];intro c;have:=q.2.1;rw[<-c,n.own] at this;cases this
  .exact q.2.2 p z
 .rcases cs b with ⟨_,q⟩|⟨_,q⟩
  .cases q.symm.trans e
  .rcases cs c with ⟨_,q'⟩|⟨_,q'⟩
   .cases q'.symm.trans f
   .exact I.one b c k j (q.symm.trans e) (q'.symm.trans f)
 .rcases cs b with ⟨_,q⟩|⟨_,q⟩
  .cases q.symm.trans e
  .exact I.bd b k j (q.symm.trans e)
section
theorem aL.gturn (I:aL C P) (hG:P.G=(a,o)::G) (hs:∀ b o,b≠a->P.h.get? b=some o->h'.get? b=some o) (ho:h'.get? a=some o'):aL C {P.to h' t with G:=(a,o')::G}:=by
 have own:P.own a= .gh:=(I.gh.at_ (a,o) (by rw[hG];exact .head _)).2;have nd:=I.gh.nd;rw[hG] at nd;have kk:∀ b o x,P.own b=x->x≠ .gh->P.h.get? b=some o->P.own b=x/\h'.get? b=some o:=fun b o x e q z=>⟨e,hs b o (fun c=>q (by rw[<-e,c,own])) z⟩;refine ⟨fun b o e=>⟨hs b o (fun c=> ?_) (I.base b o e).1,(I.base b o e).2⟩,fun b o e=>(kk b o _ e cS.noConfusion (I.fz b o e)).2,fun b e=> ?_,I.fr.mv (fun b o e q=>kk b o _ e cS.noConfusion q) (fun _ e=>e),⟨fun p hp=> ?_,nd,fun z e=>(I.gh.tab z e).map (fun _ _ e=>e) fun b o q=>⟨hs b o (Ne.symm (q.2.2 (a,_) (by rw[hG];exact .head _))) q.1,q.2.1,fun p hp=>(Sj.mp hp).elim (fun c=>by rw[c];show a≠b;exact q.2.2 (a,_) (by rw[hG];exact .head _)) fun c=>q.2.2 p (by rw[hG];exact .tail _ c)⟩⟩,I.one,I.bd,fun k o e=>(I.obj k o e).mv (fun _ _ e=>e) fun b j o e q=>kk b o _ e cS.noConfusion q⟩
 .have:=(I.base b o e).2;rw[c,own] at this;cases this
 .by_cases c:b=a
  .exact ⟨o',c ▸ ho⟩
  .obtain ⟨o,z⟩:=I.live b e;exact ⟨o,hs b o c z⟩
 .rcases Sj.mp hp with q|q
  .rw[q];exact ⟨ho,own⟩
  .have z:=I.gh.at_ p (by rw[hG];exact .tail _ q);exact ⟨hs _ _ (fun c=>(S6.mp nd).1 (SA.mpr ⟨p,q,c⟩)) z.1,z.2⟩
theorem aL.show (I:aL C P) (hG:P.G=(a,o)::G) (hs:∀ b o,b≠a->P.h.get? b=some o->h'.get? b=some o):aL C (P.show h' t a G):=by
 have own:P.own a= .gh:=(I.gh.at_ (a,o) (by rw[hG];exact .head _)).2;have nd:=I.gh.nd;rw[hG] at nd;have cs:=cX P.own a .no;have kk:∀ b o x,b≠a->P.own b=x->P.h.get? b=some o->im P.own a .no b=x/\h'.get? b=some o:=fun b o x c e z=>⟨(bB c).trans e,hs b o c z⟩;have ka:∀ b x,P.own b=x->x≠ .gh->b≠a:=fun b x e q c=>q (by rw[<-e,c,own]);refine ⟨fun b o e=> ?_,fun b o e=> ?_,fun b e=> ?_,I.fr.mv (fun b o e q=>kk b o _ (ka b _ e cS.noConfusion) e q) (fun b e=>mA cS.noConfusion e),⟨fun p hp=> ?_,(S6.mp nd).2,fun z e=>(I.gh.tab z e).map (fun b o e=>(bB (ka b _ e cS.noConfusion)).trans e) fun b o q=>have ne:=Ne.symm (q.2.2 (a,_) (by rw[hG];exact .head _));⟨hs b o ne q.1,(bB ne).trans q.2.1,fun p hp=>q.2.2 p (by rw[hG];exact .tail _ hp)⟩⟩,fun b c k j e f=> ?_,fun b k j e=> ?_,fun k o e=>(I.obj k o e).mv (fun b o e=>(bB (ka b _ e cS.noConfusion)).trans e) fun b j o e q=>kk b o _ (ka b _ e cS.noConfusion) e q⟩
 .obtain ⟨e1,e2⟩:=I.base b o e;exact (kk b o _ (ka b _ e2 cS.noConfusion) e2 e1).symm
 .rcases cs b with ⟨_,q⟩|⟨c,q⟩
  .cases q.symm.trans e
  .exact hs b o c (I.fz b o (q.symm.trans e))
 .rcases cs b with ⟨_,q⟩|⟨c,q⟩
  .exact absurd q e
  .obtain ⟨o,z⟩:=I.live b (q ▸ e);exact ⟨o,hs b o c z⟩
 .have z:=I.gh.at_ p (by rw[hG];exact .tail _ hp);exact (kk _ _ _ (fun c=>(S6.mp nd).1 (SA.mpr ⟨p,hp,c⟩)) z.2 z.1).symm
 .rcases cs b with ⟨_,q⟩|⟨_,q⟩
  .cases q.symm.trans e
  .rcases cs c with ⟨_,q'⟩|⟨_,q'⟩
   .cases q'.symm.trans f
   .exact I.one b c k j (q.symm.trans e) (q'.symm.trans f)
 .rcases cs b with ⟨_,q⟩|⟨_,q⟩
  .cases q.symm.trans e
  .exact I.bd b k j (q.symm.trans e)
theorem uJ (I:aL C P) (hG:P.G=(a,o)::G):P.own a= .gh/\P.h.get? a=some o:=by
 have z:=I.gh.at_ (a,o) (by rw[hG];exact .head _);exact ⟨z.2,z.1⟩
theorem gy (e:w a= .gh):Fz w (im w a .no):=fun b o q=>(bB fun c=>by rw[c,e] at q;cases q).trans q
theorem m_ {b:Addr} (q:im w a .no b= .cell n j):w b= .cell n j:=by
 rcases cX w a .no b with ⟨_,r⟩|⟨_,r⟩
 .cases r.symm.trans q
 .exact r.symm.trans q
theorem RV.show (e:P.own a= .gh):∀ {p:PV},RV C P v p->RV C (P.show h t a G) v p:=fun r=>r.mv (P':=P.show h t a G) (gy e) (fun _ _ h=>h) fun _ _ _ _ q=>m_ q
end
structure kX (P₀ P:Pt) (a:Addr) (o:Obj):Prop where
 sm:rN P₀.s P.s
 fs:sT P₀.fs P.fs
 G:P.G=(a,o)::P₀.G
 fz:Fz P₀.own P.own
 val:∀ n j,dh P₀.σ n j->dh P.σ n j
 cell:∀ n j b,dh P₀.σ n j->P.own b= .cell n j->P₀.own b= .cell n j
theorem kX.show (x:kX P₀ P a o) (e:P.own a= .gh):eY P₀ (P.show h t a P₀.G):=
 ⟨⟨x.sm.trans ⟨h,t,rfl⟩,rfl,fun b o q=>gy e b o (x.fz b o q),x.val,fun n j b v q=>x.cell n j b v (m_ q)⟩,x.fs⟩
theorem kX.grow (x:kX P₀ P a o) (g:eY P P'):kX P₀ P' a o:=
 ⟨x.sm.trans g.sm,x.fs.trans g.fs,g.G.trans x.G,fun b o q=>g.fz b o (x.fz b o q),fun n j v=>g.val n j (x.val n j v),fun n j b v q=>x.cell n j b v (g.cell n j b (x.val n j v) q)⟩
theorem kX.turn (x:kX P₀ P a o):kX P₀ {P.to h t with G:=(a,o')::P₀.G} a o':=
 ⟨x.sm.trans ⟨h,t,rfl⟩,x.fs,rfl,x.fz,x.val,x.cell⟩
theorem kX.start (e:P.own a= .no) (hf:∃ f r,P.fs=f::r):kX P (P.hide h t a o) a o:=by
 obtain ⟨f,r,hf⟩:=hf;refine ⟨⟨h,t,rfl⟩,by show sT P.fs P.fs;rw[hf];exact .mk (.refl f),rfl,eG e,fun _ _ v=>v,fun n j b v q=> ?_⟩;rcases cX P.own a .gh b with ⟨_,r⟩|⟨_,r⟩
 .cases r.symm.trans q
 .exact r.symm.trans q
end
structure Mk (C:bH) (va:Value) (x:D) (w:bE) (I:Addr) (St:Nat->Heap->Prop):Prop where
 own:∀ i h h',St i h->h'.get? I=h.get? I->St i h'
 fld:∀ i h,St i h->∃ o,h.get? I=some o
 self:∀ (A:Around) (i:Nat) (s:Shared) (Q:Value->Shared->Prop) (E:Value->Shared->Prop),St i s.heap->Q (.ref I) s->wpAny C.M A (pyIter (.ref I)) Q E s
 item:∀ (A:Around) (i:Nat) (P:Pt) (xs:List D) (y:D) (Q:Option Value->Shared->Prop) (E:Value->Shared->Prop),A.handled=none->aL C P->Fz w P.own->fB C P va x->items x=some xs->xs[i]? =some y->St i P.h->
  (∀ val h' tk,RD C P.own y val->St (i+1) h'->(∀ b o,b≠I->P.h.get? b=some o->h'.get? b=some o)->Q (some val) {P.s with heap:=h',toks:=tk})->wpAny C.M A (pyNext (.ref I)) Q E P.s
 done:∀ (A:Around) (i:Nat) (P:Pt) (xs:List D) (Q:Option Value->Shared->Prop) (E:Value->Shared->Prop),A.handled=none->aL C P->Fz w P.own->fB C P va x->items x=some xs->xs.length=i->St i P.h->
  (∀ h' tk,(∀ b o,b≠I->P.h.get? b=some o->h'.get? b=some o)->Q none {P.s with heap:=h',toks:=tk})->wpAny C.M A (pyNext (.ref I)) Q E P.s
section
theorem Lf (I:aL C P) {va:Value} {l:List D} (hn:kg C P.own cy l va)
  (k:∀ o St,o.isFreed=false->Mk C va (.tup l) P.own P.h.objs.size St->St 0 (P.h.push o)->Q (.ref P.h.objs.size) {P.s with heap:=P.h.push o}):wpAny C.M A (pyIter va) Q E P.s:=by
 obtain @⟨a,vs,n,o,r⟩:=hn;refine wpAny_pyIter_tuple (items:=vs.toArray) ⟨_,I.fz _ _ o,rfl,n,rfl⟩ (k _ (fun i h=>h.IsTupleIter P.h.objs.size a i) rfl ⟨?_,?_,fun A i s Q E st h=>wpAny_pyIter_tupleiter st h,?_,?_⟩ ⟨_,SE _ rfl,rfl,rfl⟩)
 .exact fun i h h' x e=>x.at fun o q=>e.trans q
 .rintro i h ⟨o,ho,_⟩;exact ⟨o,ho⟩
 .intro A i P' xs y Q E hh I' fz hr hx hi hst k;cases hx;obtain ⟨w,hw,hrw⟩:=(r.ext fz).get hi;exact wpAny_pyNext_tuple_item hst ⟨_,I'.fz _ _ (fz _ _ o),rfl,_,rfl⟩ (x:=w) (by simpa using hw) fun h' h1 h2=>k w h' P'.s.toks hrw h1 fun b o hb e=>h2.extBut b o hb e
 .intro A i P' xs Q E hh I' fz hr hx hi hst k;cases hx;exact wpAny_pyNext_tuple_end hh hst ⟨_,I'.fz _ _ (fz _ _ o),rfl,_,rfl⟩ (by simp [r.length,hi]) fun h' h2=>k h' P'.s.toks fun b o hb e=>h2 b o hb e
theorem Li (I:aL C P) {va:Value} {l:List D} (hn:iM C P l va)
  (k:∀ o St,o.isFreed=false->Mk C va (.lst l) P.own P.h.objs.size St->St 0 (P.h.push o)->Q (.ref P.h.objs.size) {P.s with heap:=P.h.push o}):wpAny C.M A (pyIter va) Q E P.s:=by
 obtain @⟨a,vs,n,o,_,r⟩:=hn;refine wpAny_pyIter_list (items:=vs.toArray) ⟨_,o,rfl,_,rfl⟩ (k _ (fun i h=>h.IsListIter P.h.objs.size a i) rfl ⟨?_,?_,fun A i s Q E st h=>wpAny_pyIter_listiter st h,?_,?_⟩ ⟨_,SE _ rfl,rfl,rfl⟩)
 .exact fun i h h' x e=>x.at fun o q=>e.trans q
 .rintro i h ⟨o,ho,_⟩;exact ⟨o,ho⟩
 .intro A i P' xs y Q E hh I' fz hr hx hi hst k;cases (eb hx).2;generalize he:Value.ref a=v at hr;obtain @⟨b,vs',n',o',_,r'⟩:iM C P' l v:=hr;cases he;obtain ⟨w,hw,hrw⟩:=r'.get hi;exact wpAny_pyNext_list_item hst ⟨_,o',rfl,_,rfl⟩ (x:=w) (by simpa using hw) fun h' h1 h2=>k w h' P'.s.toks hrw h1 fun b o hb e=>h2.extBut b o hb e
 .intro A i P' xs Q E hh I' fz hr hx hi hst k;cases (eb hx).2;generalize he:Value.ref a=v at hr;obtain @⟨b,vs',n',o',_,r'⟩:iM C P' l v:=hr;cases he;exact wpAny_pyNext_list_end hh hst ⟨_,o',rfl,_,rfl⟩ (by simp [r'.length,hi]) fun h' h2=>k h' P'.s.toks fun b o hb e=>h2 b o hb e
theorem Lg (I:aL C P) {va:Value} {l:List Nat} (hn:jb l/\∃ t,va= .str (cA l) t)
  (k:∀ o St,o.isFreed=false->Mk C va (.str l) P.own P.h.objs.size St->St 0 (P.h.push o)->Q (.ref P.h.objs.size) {P.s with heap:=P.h.push o}):wpAny C.M A (pyIter va) Q E P.s:=by
 obtain ⟨hs,t,q⟩:=hn;subst q;have hchar:∀ i (x:D) (xs:List D),items (.str l)=some xs->xs[i]? =some x->∃ c,x= .str [c]/\l[i]? =some c/\jb [c]:=fun i x xs hx hi=>by
  cases (eb hx).2;rw[SB] at hi;obtain ⟨c,hc,rfl⟩:=S8.mp hi;exact ⟨c,rfl,hc,fun d hd=>by rw[So.mp hd];exact hs.1 c (SO hc),by simp [dM]⟩
 have hlen:∀ (xs:List D),items (.str l)=some xs->xs.length=l.length:=fun xs hx=>by
  cases (eb hx).2;simp
 cases ha:(cA l).cps.all (· <128)
 .refine wpAny_pyIter_wide ha (k _ (fun i h=>h.IsStrIter P.h.objs.size "str_iterator" (cA l) t i) rfl ⟨?_, ?_,fun A i s Q E st h=>wpAny_pyIter_striter_wide st h, ?_, ?_⟩ ⟨_,SE _ rfl,rfl,rfl⟩)
  .rintro i h h' ⟨o,ho,r⟩ e;exact ⟨o,e.trans ho,r⟩
  .rintro i h ⟨o,ho,_⟩;exact ⟨o,ho⟩
  .intro A i P' xs y Q E hh I' fz hr hx hi hst k;obtain ⟨c,rfl,hc,hk⟩:=hchar i y xs hx hi;exact wpAny_pyNext_wide_item hst (c:=c) (by simpa using hc) fun h' h1 h2=>k _ h' _ (.str [c] _ hk) h1 fun b o hb e=>h2.extBut b o hb e
  .intro A i P' xs Q E hh I' fz hr hx hi hst k;exact wpAny_pyNext_wide_end hh hst (by simp [<-hi,hlen xs hx]) fun h' h2=>k h' P'.s.toks fun b o hb e=>h2 b o hb e
 .refine wpAny_pyIter_ascii ha (k _ (fun i h=>h.IsStrIter P.h.objs.size "str_ascii_iterator" (cA l) t i) rfl ⟨?_, ?_,fun A i s Q E st h=>wpAny_pyIter_striter_ascii st h, ?_, ?_⟩ ⟨_,SE _ rfl,rfl,rfl⟩)
  .rintro i h h' ⟨o,ho,r⟩ e;exact ⟨o,e.trans ho,r⟩
  .rintro i h ⟨o,ho,_⟩;exact ⟨o,ho⟩
  .intro A i P' xs y Q E hh I' fz hr hx hi hst k;obtain ⟨c,rfl,hc,hk⟩:=hchar i y xs hx hi;exact wpAny_pyNext_ascii_item hst (c:=c) (by simpa using hc) fun h' h1 h2=>k _ h' _ (.str [c] _ hk) h1 fun b o hb e=>h2.extBut b o hb e
  .intro A i P' xs Q E hh I' fz hr hx hi hst k;exact wpAny_pyNext_ascii_end hh hst (by simp [<-hi,hlen xs hx]) fun h' h2=>k h' P'.s.toks fun b o hb e=>h2 b o hb e
theorem Lh (I:aL C P) {va:Value} {a b c:Int} {xs:List D} (hn:L9 P.own a b c va) (hx0:items (.rng a b c)=some xs)
  (k:∀ o St,o.isFreed=false->Mk C va (.rng a b c) P.own P.h.objs.size St->St 0 (P.h.push o)->Q (.ref P.h.objs.size) {P.s with heap:=P.h.push o}):wpAny C.M A (pyIter va) Q E P.s:=by
 obtain @⟨r,t,u,v,hm⟩:=hn;obtain ⟨hg,_⟩:=eb hx0;simp only [Bool.and_eq_true,decide_eq_true_eq] at hg;obtain ⟨⟨⟨⟨g1,g2⟩,g3⟩,g4⟩,g5⟩:=hg;have s1: -(2^62)<a/\a<2^62:=by simpa [bS] using g1
 have s2: -(2^62)<b/\b<2^62:=by simpa [bS] using g2
 have hsize:Builtin.Range.rangeSize a b c=(cD a b c:Int):=by
  unfold Builtin.Range.rangeSize cD;rw[if_pos g3];split
  .have:0<=(b - a - 1) / c:=Int.ediv_nonneg (Pj (by assumption)) (by exact Ti g3);exact (SZ (SS this (Tg (by decide)))).symm
  .rfl
 have hfit:∀ i:Int,-(2^63)<=i->i<2^63->Builtin.Range.rangeFitsLong i=true:=fun i h1 h2=>by
  unfold Builtin.Range.rangeFitsLong;simp;exact ⟨h1,h2⟩
 have hsm:Builtin.Range.small a b c=true:=by
  unfold Builtin.Range.small;rw[hsize,hfit a (Na s1) (M' s1),hfit b (Na s2) (M' s2),hfit c (by exact SS (by decide) g3) (by exact SS g4 (by decide)),hfit _ (Pi) (by exact SW.mpr (SJ g5 (Sp rfl))),if_pos g3,hfit (b+(c - 1)) (by exact SS (by decide:(-2^63:Int)<= -2^62+(0+1 - 1)) (Int.add_le_add (Ti s2.1) (Int.sub_le_sub_right (Int.add_one_le_of_lt g3) 1))) (by exact Int.lt_trans (Int.add_lt_add s2.2 (Int.sub_lt_sub_right g4 1)) (by decide))];simp
 refine wpAny_pyIter_range (I.fz _ _ hm) hsm (k _ (fun i h=>IsRangeIter h P.h.objs.size (a+(i:Nat)*c) ((cD a b c:Int) - (i:Nat)) c) rfl ⟨?_,?_,fun A i s Q E st h=>wpAny_pyIter_rangeiter st h,?_,?_⟩ ?_)
 .intro i h h' x e;exact e.trans x
 .intro i h x;exact ⟨_,x⟩
 .intro A i P' xs2 y Q E hh I' fz hr hx2 hi hst k;cases (eb hx2).2;rw[SB] at hi;obtain ⟨j,hj,rfl⟩:=S8.mp hi;obtain ⟨hlt,hj⟩:=Sl.mp hj;simp at hlt hj;subst hj;refine wpAny_pyNext_range_item hst (by exact Int.sub_pos_of_lt (SW.mpr hlt)) fun h' h1 h2=>k _ h' _ (.int _ _) ?_ fun b o hb e=>h2.extBut b o hb e;have e1:a+((i+1:Nat):Int)*c=a+(i:Int)*c+c:=by push_cast;rw[Int.add_mul,Int.one_mul,Int.add_assoc]
  have e2:(cD a b c:Int) - ((i+1:Nat):Int)=(cD a b c:Int) - (i:Int) - 1:=by push_cast;exact Ph
  show IsRangeIter _ _ _ _ _;rw[e1,e2];exact h1
 .intro A i P' xs2 Q E hh I' fz hr hx2 hi hst k;cases (eb hx2).2;simp at hi;exact wpAny_pyNext_range_end hh hst (Pg hi) fun h' h2=>k h' P'.s.toks fun b o hb e=>h2 b o hb e
 .rw[hsize];have:=SE P.h (o:={cls:=.type "range_iterator",data:=.fields #[rawInt a,rawInt (cD a b c:Int),rawInt c]}) rfl
  simpa using this
end
section
theorem K_ {d:KD C} (hd:xZ C d) {c:d.K} {kv:Value} (h:letI:=d.dec;d.knd.is c kv=true) (ok:d.ok c):RD C w (d.toD c) kv:=by
 cases hd with
 |str=>
  cases kv with
  |str x t=>
   have e:x=c:=by simpa [PySem.strKind,Value.isStrOf] using h
   rw[e];exact pL rfl ok t
  |_=>simp [PySem.strKind,Value.isStrOf] at h
 |int=>
  cases kv with
  |int x t=>
   have e:x=c:=by simpa [intKind,Value.isInt] using h
   rw[e];exact .int c t
  |_=>simp [intKind,Value.isInt] at h
theorem Lj (G:fh C) (I:aL C P) {va:Value} {ks ps ys:List D} (hn:I0 C P.own ks ps va) (hit:items (.dct ks ps)=some ys)
  (k:∀ o St,o.isFreed=false->Mk C va (.dct ks ps) P.own P.h.objs.size St->St 0 (P.h.push o)->Q (.ref P.h.objs.size) {P.s with heap:=P.h.push o}):wpAny C.M A (pyIter va) Q E P.s:=by
 obtain @⟨a,o,vs,ho,hda,_⟩:=hn;cases hda with
 |pr xs es ep _ _ _ _ _ e _ hne=>
  have hf:=(eb hit).1.2;cases xs with
  |nil=>exact absurd rfl hne
  |cons x xs=>rw[e] at hf;cases hf
 |mk d l hd h1 h2 h3 h4=>
 letI:=d.dec
 obtain ⟨es,ep,z1,z2,z3,z4,z5⟩:=h1;have hD:∀ P':Pt,aL C P'->Fz P.own P'.own->P'.h.DictAt d.knd a l ep:=fun P' I' fz=>⟨o,es,I'.fz _ _ (fz _ _ ho),z1,z2,z3,z4,z5⟩;refine wpAny_pyIter_dict (ep:=ep) (ft G I (by rw[ho];nofun)) (hD P I fun _ _ e=>e) (k _ (fun i h=>h.IsKeyIter P.h.objs.size a i l.length ep) rfl ⟨?_,?_,fun A i s Q E st h=>wpAny_pyIter_keyiter st h,?_,?_⟩ ⟨_,SE _ rfl,rfl,rfl⟩)
 .exact fun i h h' x e=>x.at fun o q=>e.trans q
 .rintro i h ⟨o,ho,_⟩;exact ⟨o,ho⟩
 .intro A i P' xs y Q E hh I' fz hr hx hi hst k;have e:=(eb hx).2;rw[<-e,h2,SB] at hi;obtain ⟨⟨c,v⟩,hc,rfl⟩:=S8.mp hi;refine wpAny_pyNext_dict_item hst (hD P' I' fz) hc fun kv h' hkv g1 g2=> ?_;exact k _ h' P'.s.toks (K_ hd hkv (h4 _ (SO hc))) g1 fun b o hb e=>g2.extBut b o hb e
 .intro A i P' xs Q E hh I' fz hr hx hi hst k;have e:=(eb hx).2;rw[<-e,h2,Sg] at hi;exact wpAny_pyNext_dict_end hh hst (hD P' I' fz) (by rw[<-hi];exact List.getElem?_eq_none (Sv _)) fun h' h2=>k h' P'.s.toks fun b o hb e=>h2 b o hb e
noncomputable def MJ (x:D):PV->Bool
 | .d _=>true
 |_=>Sd x
noncomputable def C2 (v:PV) (σ:az):Option (D×List D):=(rd σ v).bind fun x=>(au (MJ x v=true) ()).bind fun _=>(items x).map fun xs=>(x,xs)
theorem qy {v:PV} {x:D} {xs:List D} (h:C2 v σ=some (x,xs)):rd σ v=some x/\MJ x v=true/\items x=some xs:=by
 obtain ⟨y,e1,h⟩:=aq h;obtain ⟨_,e2,h⟩:=aq h;obtain ⟨ys,e3,h⟩:=a_ h;cases h;exact ⟨e1,(eb e2).1,e3⟩
theorem A0 (G:fh C) (I:aL C P) {v:PV} {va:Value} {x:D} {xs:List D} (r:RV C P va v) (e:C2 v P.σ=some (x,xs))
  (k:∀ o St,o.isFreed=false->Mk C va x P.own P.h.objs.size St->St 0 (P.h.push o)->Q (.ref P.h.objs.size) {P.s with heap:=P.h.push o}):wpAny C.M A (pyIter va) Q E P.s:=by
 obtain ⟨e1,e2,e3⟩:=qy e;have hn:=bL I r e1;cases x with
 |tup l=>exact Lf I (RD.view hn) k
 |lst l=>exact Li I hn k
 |str l=>exact Lg I (RD.view hn) k
 |rng a b c=>exact Lh I (RD.view hn) e3 k
 |dct ks ps=>
  cases v with
  |p n j=>cases e2
  |b _ _=>cases e2
  |d y=>
   cases e1;exact Lj G I (RD.view r) e3 k
 |_=>cases e3
theorem sY {v:PV} {va:Value} {x:D} (I':aL C P') (r:RV C P' va v):∀ {σ:az},rd σ v=some x->bI P'.σ x v=true->fB C P' va x:=fun {σ} e h=>by
 cases v with
 |d y=>cases e;exact kI I' r
 |p n j=>exact bL I' r (@S3 _ (_) h)
 |b _ _=>cases e
end
noncomputable def lE (e:Expr):Bool:=e.ctorIdx !=7
theorem tm (h:lE e=true) (x:Value):foldedSetIterable e env x=pure x:=by
 cases e<;>first|rfl|(cases h;done)
def fK (K:Out->az->Prop) (v:PV) (x:D) (i:Nat) (body:bg->az->Option (Out×az)) (r:List D):Out->az->Prop
 | .next ρ,σ=>bI σ x v=true/\io K (dq v x i body r ρ σ)
 |o,σ=>K o σ
theorem JT {K:Out->az->Prop} {v:PV} {x y:D} {body:bg->az->Option (Out×az)} {r:List D} (h:io K (dq v x i body (y::r) ρ σ)):io (fK K v x i body r) (body (ρ.set i (some (.d y))) σ):=by
 have h:io K (match body (ρ.set i (some (.d y))) σ with
  |some (.next ρ',σ')=>if bI σ' x v then dq v x i body r ρ' σ' else none
  |z=>z):=h
 generalize body (ρ.set i (some (.d y))) σ=z at h
 match z,h with
 |none,h=>exact h
 |some (.ret _,_),h=>exact h
 |some (.ex _ _,_),h=>exact h
 |some (.next ρ',σ'),h=>
  have h:io K (if bI σ' x v then dq v x i body r ρ' σ' else none):=h;cases q:bI σ' x v with
  |true=>rw[q] at h;exact ⟨q,h⟩
  |false=>rw[q] at h;exact h.elim
inductive N8 (X:SX) (K:Out->az->Prop) (b:CS) (i:Nat) (v:PV) (va:Value) (x:D) (xs:List D) (σ₀:az) (St:Nat->Heap->Prop) (P₀:Pt) (n:Nat) (s:Shared):Prop
 |mk (P:Pt) (ρ:bg) (j:Nat) (o:Obj):P.s=s->kX P₀ P P₀.h.objs.size o->aL X.C P->ct X P ρ->RV X.C P va v->bI P.σ x v=true->St j P.h->j<=xs.length->n=xs.length - j->
  io K (dq v x i (fun ρ=>b.ex X.ker ρ) (xs.drop j) ρ P.σ)->N8 X K b i v va x xs σ₀ St P₀ n s
section
variable {X:SX} {K:Out->az->Prop} {Q:Flow->Shared->Prop}
theorem ct.show (e:P.own a= .gh) (q:ct X P ρ):ct X (P.show h t a G) ρ:=
 ⟨⟨q.frs,q.ne,fun x i p h1 h2 h3=>by
  obtain ⟨v,r,l⟩:=q.var x i p h1 h2 h3;exact ⟨v,r.show e,l⟩⟩,q.hd⟩
theorem CZ {b:Addr} (h:kept (im w a .no b)):kept (w b):=by
 rcases cX w a .no b with ⟨_,r⟩|⟨_,r⟩
 .rw[r] at h;exact h.elim
 .rw[r] at h;exact h
theorem vE.show {c:Nat} {e:Value}:vE C A P c e->vE C A (P.show P.h P.s.toks a G) c e:=fun h=>by
 obtain ⟨h1,B,k1,k2,k3,k4,k5,k6⟩:=h;exact ⟨h1,B,k1,k2,k3,k4,fun b o q=>k5 b o (CZ q),k6⟩
theorem c8.past (p:c8 X P₀ K Q E) (x:kX P₀ P a o) (I:aL X.C P):(∀ q v P',eY P P'->aL X.C P'->RV X.C P' v q->K (.ret q) P'.σ->Q (.ret v) P'.s)/\(∀ c ρ e P',eY P P'->aL X.C P'->vE X.C X.A P' c e->ct X P' ρ->K (.ex c ρ) P'.σ->E e P'.s):=by
 refine ⟨fun q v P' g I' r k=> ?_,fun c ρ e P' g I' xx G k=> ?_⟩
 .have x':=x.grow g;have w:=(uJ I' x'.G).1;exact p.ret q v (P'.show P'.h P'.s.toks a P₀.G) (x'.show w) (I'.show x'.G fun _ _ _ e=>e) (r.show w) k
 .have x':=x.grow g;have w:=(uJ I' x'.G).1;exact p.ex c ρ e (P'.show P'.h P'.s.toks a P₀.G) (x'.show w) (I'.show x'.G fun _ _ _ e=>e) xx.show (G.show w) k
end
noncomputable def c9 (h:Heap):List Addr->Heap
 |[]=>h
 |a::r=>(c9 h r).update a fun o=>{o with data:=.freed}
theorem get?_freed (h:Heap) (a b:Addr):(h.update a fun o=>{o with data:=.freed}).get? b=if b=a then none else h.get? b:=by
 by_cases e:b=a
 .subst e;rw[if_pos rfl];unfold Heap.get? Heap.update;rw[Array.getElem?_modify,if_pos rfl];cases h.objs[b]? <;>rfl
 .rw[if_neg e];exact Heap.get?_update_other _ _ (Ne.symm e)
theorem get?_without (h:Heap):∀ (l:List Addr) (b:Addr),(c9 h l).get? b=if b∈l then none else h.get? b:=by
 intro l
 induction l with
 |nil=>
  intro b;show h.get? b=_;simp
 |cons a r ih=>
  intro b;show ((c9 h r).update a fun o=>{o with data:=.freed}).get? b=_;rw[get?_freed,ih b];by_cases e:b=a
  .simp [e]
  .simp [e]
section
variable {M:Model} {outer:List Env} {e:Addr} {c:Nat}
theorem aL.slots (I:aL C P) (kb:∀ b o,C.H.get? b=some o->h'.get? b=some o) (kn:∀ b o,kept (P.own b)->P.h.get? b=some o->h'.get? b=some o) (u:P.h.UpToSlots h'):aL C (P.to h' P.s.toks):=by
 have kk:∀ b o x,P.own b=x->kept x->P.h.get? b=some o->P.own b=x/\h'.get? b=some o:=fun b o x e q z=>⟨e,kn b o (e ▸ q) z⟩;refine ⟨fun b o e=>⟨kb b o e,(I.base b o e).2⟩,fun b o e=>(kk b o _ e trivial (I.fz b o e)).2,fun b e=> ?_,⟨fun f hf=>⟨u.ns (I.fr.ns f hf).1,(I.fr.ns f hf).2⟩,fun f hf c hc=>⟨?_,(I.fr.cl f hf c hc).2⟩,I.fr.ord,I.fr.all⟩,I.gh.mv (fun _ _ e=>e) fun b o e q=>kk b o _ e trivial q,I.one,I.bd,fun n o e=>(I.obj n o e).mv (fun _ _ e=>e) fun b j o e q=>kk b o _ e trivial q⟩
 .obtain ⟨o,ho⟩:=I.live b e;cases q:P.own b with
  |no=>exact absurd q e
  |fr=>
   have z:∀ vs,o.data≠ .fields vs:=by
    obtain ⟨f,hf,hm⟩:=I.fr.all b q;rcases Sj.mp hm with r|r
    .obtain ⟨o',es,ep,h1,h2,_⟩:=(I.fr.ns f hf).1;rw[<-r,ho] at h1;cases h1;intro vs;rw[h2];nofun
    .obtain ⟨o',h1,h2⟩:=(I.fr.cl f hf b r).1;rw[ho] at h1;cases h1;intro vs;rw[h2];nofun
   obtain ⟨sl,e⟩:=u b o ho z;exact ⟨_,e⟩
  |fz o'=>exact ⟨o,kn b o (by rw[q];trivial) ho⟩
  |cell n j=>exact ⟨o,kn b o (by rw[q];trivial) ho⟩
  |gh=>exact ⟨o,kn b o (by rw[q];trivial) ho⟩
 .obtain ⟨o,ho,hd⟩:=(I.fr.cl f hf c hc).1;obtain ⟨sl,e⟩:=u c o ho fun vs q=>by rw[hd] at q;cases q
  exact ⟨_,e,hd⟩
def kh (C:bH) (P:Pt) (ls:List Env) (e:Addr) (c:Nat) (fl:Value):Prop:=
 ∃ B:Heap,B.StaysIn P.h/\B.get? e=none/\P.h.FunFrames B ls/\(∀ b o,C.H.get? b=some o->B.get? b=some o)/\(∀ b o,kept (P.own b)->P.h.get? b=some o->B.get? b=some o)/\∃ a0,P.h.TracedAtW B e (.ref (C.exc c)) a0 fl
theorem kh.at (hf:env.frame=some L) (x:kh C P (env::outer) e c (rawInt L)):tS C P (env::outer) e c:=by
 refine bn fun G9 k9=> ?_;obtain ⟨B,k1,k2,k3,k4,k5,a0,ht⟩:=x;refine k9 ?_;exact ⟨B,k1,k2,k3,k4,k5,.inr (.inr ⟨a0,env,L,rfl,hf,ht⟩)⟩
theorem o_ {B:Heap} (I:aL C P) (k1:B.StaysIn P.h) (k5:∀ b o,kept (P.own b)->P.h.get? b=some o->B.get? b=some o):∀ b o,kept (P.own b)->h'.get? b=some o->B.StaysIn h'->B.get? b=some o:=fun b o q z s=>by
 obtain ⟨o',ho⟩:=I.live b (fun e=>by rw[e] at q;exact q);have:=k5 b o' q ho;rw[s b o' this] at z;cases z;exact this
theorem Dc {L:Addr} {Q:Unit->Shared->Prop} (hfr:A.frames=some (env::outer)) (hf:env.frame=some L) (I:aL C P) (hx:tS C P (env::outer) e c)
  (hQ:∀ h',aL C (P.to h' P.s.toks)->tS C (P.to h' P.s.toks) outer e c->Q () {P.s with heap:=h'}):wpAny M A (leaving env (.ref e)) Q E P.s:=by
 refine bn fun G9 k9=> ?_;obtain ⟨B,k1,k2,k3,k4,k5,hx⟩:=hx;refine k9 ?_;have fin:∀ h',B.StaysIn h'->h'.FunFrames B outer->P.h.UpToSlots h'->(∃ a0,h'.TracedW B e (.ref (C.exc c)) a0)->Q () {P.s with heap:=h'}:=fun h' x1 x2 x4 x3=>
  hQ h' (I.slots (fun b o q=>x1 b o (k4 b o q)) (fun b o q z=>x1 _ _ (k5 b o q z)) x4) ⟨B,x1,k2,x2,k4,fun b o q z=>o_ I k1 k5 b o q z x1,.inr (.inl x3)⟩
 rcases hx with ⟨oe,vs,a0,he,hc,hd,h1,h0⟩|⟨a0,ht⟩|⟨a0,env',L',hh,hf',ht⟩
 .exact wpAny_leaving_firstW hfr k3 hf he k1 k2 hd h1 h0 fun h' ⟨x1,⟨_,_,x2⟩,x3,x4⟩=>fin h' x1 x2 x4 ⟨a0,hc ▸ x3⟩
 .exact wpAny_leaving_nextW hfr k3 hf ht k1 k2 fun h' ⟨x1,⟨_,_,x2⟩,x3,x4⟩=>fin h' x1 x2 x4 ⟨a0,x3⟩
 .cases hh;unfold leaving;refine Sw (wpAny_noteFrame_againW hf' ht ?_);refine wpAny_setFlight_noneW k1 k3 ht fun h' x1 x2 x3 x4=> ?_;obtain ⟨_,_,x2⟩:=x2;exact fin h' x1 x2 (fun b o hb hn=>⟨o.slots,x4 b o hb hn⟩) ⟨a0,x3⟩
theorem xq {L:Addr} {Q:Unit->Shared->Prop} (hfr:A.frames=some (env::outer)) (hf:env.frame=some L) (I:aL C P) (hx:tS C P (env::outer) e c)
  (hQ:∀ h',aL C (P.to h' P.s.toks)->kh C (P.to h' P.s.toks) (env::outer) e c (rawInt L)->Q () {P.s with heap:=h'}):wpAny M A (noteFrame (.ref e) env) Q E P.s:=by
 refine bn fun G9 k9=> ?_;obtain ⟨B,k1,k2,k3,k4,k5,hx⟩:=hx;refine k9 ?_;have fin:∀ h',B.StaysIn h'->h'.FunFrames B (env::outer)->P.h.UpToSlots h'->(∃ a0,h'.TracedAtW B e (.ref (C.exc c)) a0 (rawInt L))->Q () {P.s with heap:=h'}:=fun h' x1 x2 x4 x3=>
  hQ h' (I.slots (fun b o q=>x1 b o (k4 b o q)) (fun b o q z=>x1 _ _ (k5 b o q z)) x4) ⟨B,x1,k2,x2,k4,fun b o q z=>o_ I k1 k5 b o q z x1,x3⟩
 rcases hx with ⟨oe,vs,a0,he,hc,hd,h1,h0⟩|⟨a0,ht⟩|⟨a0,env',L',hh,hf',ht⟩
 .unfold noteFrame;simp only [hf];refine Sw (wpAny_field he hd h1 ?_);rw[if_neg (by decide)];exact wpAny_entryW hfr k3 hf he k1 k2 hd (Array.getElem?_eq_some_iff.mp h1).1 h0 fun h' ⟨x1,x2,x3,x4⟩=>fin h' x1 x2 x4 ⟨a0,hc ▸ x3⟩
 .exact wpAny_noteFrame_onW hfr k3 hf ht k1 k2 fun h' ⟨x1,x2,x3,x4⟩=>fin h' x1 x2 x4 ⟨a0,x3⟩
 .cases hh;rw[hf] at hf';cases hf';exact wpAny_noteFrame_againW hf ht (hQ P.h I ⟨B,k1,k2,k3,k4,k5,a0,ht⟩)
theorem Ij {L:Addr} {Q:Unit->Shared->Prop} (hf:env.frame=some L) (I:aL C P) (hx:kh C P ls e c (rawInt L))
  (hQ:∀ h',aL C (P.to h' P.s.toks)->kh C (P.to h' P.s.toks) ls e c (rawInt L)->Q () {P.s with heap:=h'}):wpAny M A (setFlight (.ref e) env.frame) Q E P.s:=by
 refine bn fun G9 k9=> ?_;obtain ⟨B,k1,k2,k3,k4,k5,a0,oe,vs,T,oT,ts,he,hcls,hd,h1,hnT,hTe,hT,hdT,h3⟩:=hx;refine k9 ?_;have hsz3:3<ts.size:=(Array.getElem?_eq_some_iff.mp h3).1;have aE:∀ b,b≠T->(P.h.update T (Obj.mapFields (·.setIfInBounds 3 (rawInt L)))).get? b=P.h.get? b:=
  fun b hb=>Heap.get?_update_other _ _ (Ne.symm hb)
 have noRecord:∀ b o,P.h.get? b=some o->(∀ vs,o.data≠ .fields vs)->b≠T:=fun b o hb hnf q=>by
  rw[q,hT] at hb;injection hb with hb;subst hb;exact hnf ts hdT
 unfold setFlight;refine Sw (wpAny_field he hd h1 ?_);rw[if_pos (show (Value.ref T !=Value.none)=true from by simp),hf];have st:∀ b o,B.get? b=some o->(P.h.update T (Obj.mapFields (·.setIfInBounds 3 (rawInt L)))).get? b=some o:=fun b o hbo=>(aE b fun q=>by rw[q,hnT] at hbo;cases hbo).trans (k1 b o hbo);refine wpAny_setField hT hdT hsz3 (hQ _ (I.slots (fun b o q=>st b o (k4 b o q)) (fun b o q z=>st _ _ (k5 b o q z)) fun b o hb hn=>⟨o.slots,(aE b (noRecord b o hb hn)).trans hb⟩) ?_);refine ⟨B,st,k2,k3.of_keeps fun b o hb hnf=>⟨o,(aE b (noRecord b o hb hnf)).trans hb,rfl⟩,k4,fun b o q z=>o_ I k1 k5 b o q z st,a0,?_⟩;exact ⟨oe,vs,T,_,_,(aE e (Ne.symm hTe)).trans he,hcls,hd,h1,hnT,hTe,Heap.get?_update_self _ hT (Obj.isFreed_of_fields (Obj.data_mapFields hdT _)),Obj.data_mapFields hdT _,by simp [hsz3]⟩
theorem kh.trail {fl:Value} (hx:kh C P ls e c fl):∃ oe vs T,P.h.get? e=some oe/\oe.data= .fields vs/\vs[1]? =some (.ref T):=by
 refine bn fun G9 k9=> ?_;obtain ⟨B,k1,k2,k3,k4,k5,a0,oe,vs,T,oT,ts,he,hcls,hd,h1,_⟩:=hx;refine k9 ?_;exact ⟨oe,vs,T,he,hd,h1⟩
theorem FJ {L:Addr} {Q:Unit->Shared->Prop} (hf:env.frame=some L) (I:aL C P) (hx:kh C P ls e c (rawInt L))
  (hQ:∀ h',aL C (P.to h' P.s.toks)->kh C (P.to h' P.s.toks) ls e c (rawInt L)->Q () {P.s with heap:=h'}):
  wpAny M A (do
   if (<-field (.ref e) 1)== .none then unsupported "frame.own-activation:exception-without-traceback"
   setFlight (.ref e) env.frame) Q E P.s:=by
 refine bn fun G9 k9=> ?_;obtain ⟨oe,vs,T,he,hd,h1⟩:=hx.trail;refine k9 ?_;refine Sw (wpAny_field he hd h1 ?_);rw[if_neg (show¬((Value.ref T==Value.none)=true) from by simp)];exact Ij hf I hx hQ
theorem FI {tk:Nat} (I:aL C P) (hA:n6 A P.fs) (hx:Heap.MadeExcOf P.h h' e (.ref (C.exc c)) vs):aL C (P.to h' tk)/\vE C A (P.to h' tk) c (.ref e):=by
 refine bn fun G9 k9=> ?_;obtain ⟨k,new,t,he,_,_⟩:=hx;obtain ⟨ls,hls,hl⟩:=hA;refine k9 ?_;refine ⟨I.to k,.mk hls ⟨c9 P.h (P.fs.map (·.L)),fun b o hb=> ?_,?_,?_,fun b o hb=> ?_,fun b o q hb=> ?_,.inl ⟨_,_,_,he,rfl,rfl,rfl,rfl⟩⟩⟩
 .rw[get?_without] at hb;split at hb
  .cases hb
  .exact k b o hb
 .rw[get?_without];split
  .rfl
  .exact new
 .clear hls
  induction ls with
  |nil=>trivial
  |cons env ls ih=>
   refine bn fun G9 k9=> ?_;obtain ⟨a,f,hf,b⟩:=hl env (.head _);obtain ⟨o,es,ep,ho,hd,_⟩:=(I.fr.ns f hf).1;refine k9 ?_;refine ⟨a,⟨f.L,o,b,?_,k _ _ ho,fun vs q=>by rw[hd] at q;cases q⟩,ih fun e he=>hl e (.tail _ he)⟩;rw[get?_without,if_pos (List.mem_map_of_mem hf)]
 .rw[get?_without,if_neg]
  .exact (I.base b o hb).1
  .intro q;obtain ⟨f,hf,z⟩:=SA.mp q;have:=(I.base b o hb).2;rw[<-z,(I.fr.ns f hf).2.1] at this;cases this
 .have hb':P.h.get? b=some o:=by
   obtain ⟨o',ho⟩:=I.live b (fun e=>by have q:kept (P.own b):=q;rw[e] at q;exact q);have:=k b o' ho;rw[show h'.get? b=some o from hb] at this;cases this;exact ho
  rw[get?_without,if_neg]
  .exact hb'
  .intro z;obtain ⟨f,hf,z⟩:=SA.mp z;have q:kept (P.own b):=q;rw[<-z,(I.fr.ns f hf).2.1] at q;exact q
end
section
variable {X:SX} {K:Out->az->Prop} {Q:Flow->Shared->Prop}
theorem xr {c:Nat} {e:Value} {M:Model} (I:aL X.C P) (hx:vE X.C X.A P c e) (k:∀ P',bQ P P'->aL X.C P'->P'.σ=P.σ->vE X.C X.A P' c e->E e P'.s):notedBy M X.A X.env (cameBackBy M X.A X.env E) e P.s:=by
 obtain ⟨h1,h2⟩:=hx;rw[X.fr] at h1;cases h1;unfold notedBy;refine xq X.fr X.frame I h2 fun h1 I1 x1=> ?_;unfold cameBackBy;refine FJ (P:=P.to h1 P.s.toks) X.frame I1 x1 fun h2 I2 x2=> ?_;exact k ((P.to h1 P.s.toks).to h2 P.s.toks) ((bQ.to ..).trans (.to ..)) I2 rfl (.mk X.fr (x2.at X.frame))
noncomputable def RE (c:Nat) (m:List Nat) (s:Sx) (st:Stmt):Bool:=uF (fun ex cause _=>cause.isNone&&GA (eQ fun x es=>one (cj fun k _ _=>Dv (fun t=>x==j5 c&&decide (c<nX)&&ef s.sc x&&t.cps.toList==m&&Mf m) k) es) ex) st
theorem Ex (c:Nat) (m:List Nat) (h:RE c m X.sx st=true) (I:aL X.C P) (G:ct X P ρ) (w:io K (match X.ker.hd with|true=>none|false=>some (Out.ex c ρ,P.σ))) (p:c8 X P K Q E):wpAny X.M X.A (PySem.exec st X.env) Q E P.s:=by
 refine uE (fun st=>wpAny X.M X.A (PySem.exec st X.env) Q E P.s) h fun ex cause pos h=> ?_;refine jp (fun cause=>wpAny X.M X.A (PySem.exec (.Raise ex cause pos) X.env) Q E P.s) (ai h) ?_;refine gf (fun ex=>wpAny X.M X.A (PySem.exec (.Raise ex none pos) X.env) Q E P.s) (an h) fun ex h=> ?_;refine eO (fun ex=>wpAny X.M X.A (PySem.exec (.Raise (some ex) none pos) X.env) Q E P.s) h fun x px es q4 h=> ?_;refine dB (fun es=>wpAny X.M X.A (PySem.exec (.Raise (some (.Call (.Name x px) es [] q4)) none pos) X.env) Q E P.s) h fun a h=> ?_;refine cI (fun a=>wpAny X.M X.A (PySem.exec (.Raise (some (.Call (.Name x px) [a] [] q4)) none pos) X.env) Q E P.s) h fun k q2 q3 h=> ?_;refine nj (fun k=>wpAny X.M X.A (PySem.exec (.Raise (some (.Call (.Name x px) [.Constant k q2 q3] [] q4)) none pos) X.env) Q E P.s) h fun s h=> ?_;have hw:=an (ai (ai h));have h17:=S3 (an (ai (ai (ai h))));rw[bR (ai (ai (ai (ai h))))] at hw ⊢;cases hh:X.hd with
 |true=>rw[show X.ker.hd=true from hh] at w;exact w.elim
 |false=>
 rw[show X.ker.hd=false from hh] at w;refine bn fun G9 k9=> ?_;obtain ⟨tl,Nn,nm,q,bs,hdct,sn,sub,ab,col,dd,k0,k1,k2,k3,k5,mN,hcls,hN,hni,T⟩:=(X.good.exc c h17).obj;refine k9 ?_;have keep:∀ b o,X.C.H.get? b=some o->P.h.get? b=some o:=fun b o e=>(I.base b o e).1;refine wpAny_Raise_call_subT (C:=X.C.exc c) (nm:=nm) (q:=q) (N:=Nn) (bs:=bs) (bm:=tl) (hdct:=hdct) (sn:=sn) (sub:=sub) (ab:=ab) (col:=col) (dd:=dd) (k0:=k0) (k1:=k1) (k2:=k2) (k3:=k3) (k5:=k5)
  PySem.F.excBase_ValueError (mN:=mN) (T.hasType PySem.F.excBase_ValueError.hasBase) (X.hnd hh) rfl hni (d9 I hw (X.good.exc c h17).bound ⟨rfl,?_⟩)
 refine dC (fun y hy=>by cases So.mp hy;rfl) ?_;refine Calls.spliced_cons ?_;refine wpAny_Constant_str (k:=q2) (pos:=q3) ?_;refine Calls.spliced_nil ⟨rfl,by simp [sizeLine],keep _ _ hcls,hN.keeps keep,T.keeps keep,fun h' e hx=> ?_⟩;obtain ⟨I',x⟩:=FI (tk:=P.s.toks+1) I G.frs hx;exact p.ex c ρ _ (P.to h' (P.s.toks+1)) (G.gs (.to ..)) I' x (G.ext (.to ..)) w
end
noncomputable def bX (c:Nat) (m:List Nat):C1:=⟨fun K ρ σ=>match K.hd with|true=>none|false=>some (.ex c ρ,σ),RE c m,fun _ _ _ _ _ _ _ h I G w p=>Ex c m h I G w p⟩
section
variable {X:SX} {K:Out->az->Prop} {Q:Flow->Shared->Prop}
theorem ct.hide (e:P.own a= .no) (q:ct X P ρ):ct X (P.hide h t a o) ρ:=
 ⟨⟨q.frs,q.ne,fun x i p h1 h2 h3=>by
  obtain ⟨v,r,l⟩:=q.var x i p h1 h2 h3;have pa:=kX.start (h:=h) (t:=t) (o:=o) e (by obtain ⟨f,r,z,_⟩:=q.hd;exact ⟨f,r,z⟩);exact ⟨v,r.mv pa.fz (fun _ _ z=>z) pa.cell,l⟩⟩,q.hd⟩
theorem RV.hide (e:P.own a= .no) (hf:∃ f r,P.fs=f::r) (r:RV C P v p):RV C (P.hide h t a o) v p:=by
 have pa:=kX.start (h:=h) (t:=t) (o:=o) e hf;exact r.mv pa.fz (fun _ _ z=>z) pa.cell
theorem RV.gto:∀ {p:PV},RV C P v p->RV C {P.to h t with G:=G} v p:=fun r=>r.mv (P':={P.to h t with G:=G}) (fun _ _ z=>z) (fun _ _ z=>z) fun _ _ _ _ z=>z
theorem ct.gto (q:ct X P ρ):ct X {P.to h t with G:=G} ρ:=
 ⟨⟨q.frs,q.ne,fun x i p h1 h2 h3=>by
  obtain ⟨v,r,l⟩:=q.var x i p h1 h2 h3;exact ⟨v,r.gto,l⟩⟩,q.hd⟩
theorem LI (i:Nat) (it:CE) (b:CS) (h:A4 (fun t e be el _=>el.isEmpty&&dD (fun x _=>X.sx.Γ.lookup x==some i&&gH X.sx.sc x&&lE e&&it.is X.sx e&&b.is X.sx be) t) st=true) (I:aL X.C P) (G:ct X P ρ)
  (w:io K (match X.ker.hd with|true=>none|false=>b8 ρ (it.ev X.ker ρ) (fun v σ=>fS (C2 v σ) fun q=>dq v q.1 i (fun ρ=>b.ex X.ker ρ) q.2 ρ σ) P.σ)) (p:c8 X P K Q E):wpAny X.M X.A (PySem.exec st X.env) Q E P.s:=by
 refine zo (fun st=>wpAny X.M X.A (PySem.exec st X.env) Q E P.s) h fun t e be el pos h=> ?_;refine bZ (fun el=>wpAny X.M X.A (PySem.exec (.For t e be el pos) X.env) Q E P.s) (ai h) ?_;refine cw (fun t=>wpAny X.M X.A (PySem.exec (.For t e be [] pos) X.env) Q E P.s) (an h) fun y py h=> ?_;cases hd:X.hd with
 |true=>rw[show X.ker.hd=true from hd] at w;exact w.elim
 |false=>
 rw[show X.ker.hd=false from hd] at w;have hh:=X.hnd hd;refine wpAny_For (it.ok X.toCx e ρ P _ _ E (an (ai h)) I G.toEnvOK (cW w) (p.bind G fun v va P₀ g₀ I₀ r₀ w G₀ p=> ?_)) (tm (an (ai (ai h))));obtain ⟨⟨x,xs⟩,e0,w⟩:=ee w;obtain ⟨e1,e2,e3⟩:=qy e0;refine A0 X.good I₀ r₀ e0 fun oi St hof W st0=> ?_;have hfs:∃ f r,P₀.fs=f::r:=by obtain ⟨f,r,z,_⟩:=G₀.hd;exact ⟨f,r,z⟩
 have hn:=I₀.push hof;have still0:bI P₀.σ x v=true:=by
  cases v with
  |d y=>rfl
  |p n j=>exact @Sz _ (_) e1
  |b _ _=>cases e1
 refine codeAny_forLoop (N8 X K b i v va x xs P₀.σ St P₀) ?_ xs.length ⟨P₀.hide (P₀.h.push oi) P₀.s.toks P₀.h.objs.size oi,ρ,0,oi,rfl,.start hn.own hfs,I₀.hide hn,G₀.hide hn.own,r₀.hide hn.own hfs,still0,st0,SN _,rfl,w⟩;rintro n s ⟨P₁,ρ₁,j,o₁,rfl,x₁,I₁,G₁,r₁,s₁,st₁,hj,rfl,w⟩;have now₁:=sY I₁ r₁ e1 s₁;rcases Nat.lt_or_ge j xs.length with hlt|hge
 .rw[List.drop_eq_getElem_cons hlt] at w;refine W.item X.A j P₁ xs xs[j] _ _ hh I₁ x₁.fz now₁ e3 (Sn hlt) st₁ fun val h' tk rv st₂ kp=> ?_;obtain ⟨o₂,ho₂⟩:=W.fld _ _ st₂;have I₂:=I₁.gturn (t:=tk) x₁.G kp ho₂;have x₂:=x₁.turn (o':=o₂) (h:=h') (t:=tk);have G₂:=G₁.gto (G:=(P₀.h.objs.size,o₂)::P₀.G) (h:=h') (t:=tk);refine wpAny_assign_Name (je (p:=.d xs[j]) (bR (ai (ai (ai (ai h))))) (an (ai (ai (ai h)))) I₂ G₂ rv fun P₃ g₃ I₃ G₃ e₃=> ?_);have x₃:=x₂.grow g₃;have pp:=p.past x₃ I₃;refine b.ok X be _ P₃ (fK K v x i (fun ρ=>b.ex X.ker ρ) (xs.drop (j+1))) _ _ (an h) I₃ G₃ (by rw[e₃];exact JT w) ⟨fun ρ₄ P₄ g₄ I₄ G₄ k=> ?_,fun q u P₄ g₄ I₄ r₄ k=>pp.1 q u P₄ g₄ I₄ r₄ k,fun c ρ' e P₄ g₄ I₄ xx G₄ k=> ?_⟩
  .have x₄:=x₃.grow g₄;refine ⟨xs.length - (j+1),O8 hlt,⟨P₄,ρ₄,j+1,o₂,rfl,x₄,I₄,G₄,?_,k.1,W.own _ _ _ st₂ ?_,hlt,rfl,k.2⟩⟩
   .exact (r₁.gto.ext g₃.toExt).ext g₄.toExt
   .rw[(uJ I₄ x₄.G).2,ho₂]
  .refine xr I₄ xx fun P₅ g₅ I₅ e₅ x₅=>pp.2 c ρ' e P₅ (g₄.grow g₅) I₅ x₅ (G₄.ext g₅) (e₅ ▸ k)
 .have hjx:j=xs.length:=Nat.le_antisymm hj hge;rw[hjx,List.drop_length] at w;refine W.done X.A j P₁ xs _ _ hh I₁ x₁.fz now₁ e3 hjx.symm st₁ fun h' tk kp=> ?_;have w₁:=(uJ I₁ x₁.G).1;exact wpAny_execs_nil (p.next ρ₁ (P₁.show h' tk P₀.h.objs.size P₀.G) (x₁.show w₁) (I₁.show x₁.G kp) (G₁.show w₁) w)
end
noncomputable def cZ (i:Nat) (it:CE) (b:CS):C1:=⟨fun K ρ σ=>match K.hd with|true=>none|false=>b8 ρ (it.ev K ρ) (fun v σ=>fS (C2 v σ) fun q=>dq v q.1 i (fun ρ=>b.ex K ρ) q.2 ρ σ) σ,fun s=>A4 fun t e be el _=>el.isEmpty&&dD (fun x _=>s.Γ.lookup x==some i&&gH s.sc x&&lE e&&it.is s e&&b.is s be) t,fun _ _ _ _ _ _ _ h I G w p=>LI i it b h I G w p⟩
section
open Classical in
noncomputable def Pt.enter (P:Pt) (h:Heap) (t:Nat) (g:Fm):Pt:={P.to h t with fs:=g::P.fs,own:=fun a=>if a∈g.adr then .fr else P.own a}
theorem FR (e:a∈g.adr):(P.enter h t g).own a= .fr:=@if_pos _ (_) e _ _ _
theorem xz (e:a∉g.adr):(P.enter h t g).own a=P.own a:=@if_neg _ (_) e _ _ _
theorem xy {x:cS} (e:(P.enter h t g).own a=x) (hx:x≠ .fr):P.own a=x:=by
 by_cases q:a∈g.adr
 .exact absurd ((FR q).symm.trans e).symm hx
 .exact (xz q).symm.trans e
theorem aL.enter (I:aL C P) (sz:C.H.objs.size<=P.h.objs.size) (kp:∀ b o,P.h.get? b=some o->h'.get? b=some o) (hL:P.h.objs.size<=g.L) (hn:h'.Ns g.L g.m) (hc:∀ c∈g.cells,h'.IsCell c (g.cv c)/\g.L<c):aL C (P.enter h' t g):=by
 have ge:∀ a∈g.adr,P.h.objs.size<=a:=fun a ha=>by
  rcases Sj.mp ha with q|q
  .rw[q];exact hL
  .exact Ss hL (SY (hc a q).2)
 have no:∀ b o,P.h.get? b=some o->b∉g.adr:=fun b o e q=>Tm.mpr (ge b q) (SR e);have kk:∀ b o x,P.own b=x->P.h.get? b=some o->(P.enter h' t g).own b=x/\h'.get? b=some o:=fun b o x e z=>⟨(xz (no b o z)).trans e,kp b o z⟩;refine ⟨fun b o e=>(kk b o _ (I.base b o e).2 (I.base b o e).1).symm,fun b o e=>kp b o (I.fz b o (xy e cS.noConfusion)),fun b e=> ?_,⟨fun f hf=> ?_,fun f hf c hcc=> ?_,?_,fun b e=> ?_⟩,I.gh.mv (fun b o e=>(kk b o _ e (I.fz b o e)).1) fun b o e q=>kk b o _ e q,fun a b n j e f=>I.one a b n j (xy e cS.noConfusion) (xy f cS.noConfusion),fun a n j e=>I.bd a n j (xy e cS.noConfusion),fun n o e=>(I.obj n o e).mv (fun b o e=>(kk b o _ e (I.fz b o e)).1) fun b j o e q=>kk b o _ e q⟩
 .by_cases q:b∈g.adr
  .rcases Sj.mp q with z|z
   .obtain ⟨o,_,_,ho,_⟩:=hn;exact ⟨o,z ▸ ho⟩
   .obtain ⟨o,ho,_⟩:=(hc b z).1;exact ⟨o,ho⟩
  .obtain ⟨o,ho⟩:=I.live b (xz q ▸ e);exact ⟨o,kp b o ho⟩
 .rcases Sj.mp hf with q|q
  .rw[q];exact ⟨hn,FR (.head _),Ss sz hL⟩
  .obtain ⟨⟨o,es,ep,ho,z⟩,x,y⟩:=I.fr.ns f q;exact ⟨⟨o,es,ep,kp _ _ ho,z⟩,(kk _ _ _ x ho).1,y⟩
 .rcases Sj.mp hf with q|q
  .subst q;exact ⟨(hc c hcc).1,FR (.tail _ hcc),(hc c hcc).2⟩
  .obtain ⟨⟨o,ho,z⟩,x,y⟩:=I.fr.cl f q c hcc;exact ⟨⟨o,kp _ _ ho,z⟩,(kk _ _ _ x ho).1,y⟩
 .refine List.pairwise_cons.mpr ⟨fun f hf a ha=> ?_,I.fr.ord⟩;refine SK ?_ hL;rcases Sj.mp ha with q|q
  .rw[q];obtain ⟨⟨o,_,_,ho,_⟩,_⟩:=I.fr.ns f hf;exact SR ho
  .obtain ⟨⟨o,ho,_⟩,_⟩:=I.fr.cl f hf a q;exact SR ho
 .by_cases q:b∈g.adr
  .exact ⟨g,.head _,q⟩
  .obtain ⟨f,hf,z⟩:=I.fr.all b (xz q ▸ e);exact ⟨f,.tail _ hf,z⟩
theorem Ext.enter (I:aL C P) (no:∀ b o,P.h.get? b=some o->b∉g.adr):Ext P (P.enter h' t g):=
 ⟨⟨h',t,rfl⟩,rfl,fun b o e=>(xz (no b o (I.fz b o e))).trans e,fun _ _ v=>v,fun n j b _ e=>xy e cS.noConfusion⟩
structure Pa (P₀ P:Pt) (g:List (Addr×Obj)):Prop where
 sm:rN P₀.s P.s
 G:P.G=g++P₀.G
 fz:Fz P₀.own P.own
 val:∀ n j,dh P₀.σ n j->dh P.σ n j
 cell:∀ n j b,dh P₀.σ n j->P.own b= .cell n j->P₀.own b= .cell n j
section
variable {g g':List (Addr×Obj)}
theorem Pa.grow (x:Pa P₀ P g) (y:Ext P P'):Pa P₀ P' g:=
 ⟨x.sm.trans y.sm,y.G.trans x.G,fun b o q=>y.fz b o (x.fz b o q),fun n j v=>y.val n j (x.val n j v),fun n j b v q=>x.cell n j b v (y.cell n j b (x.val n j v) q)⟩
theorem Pa.turn (x:Pa P₀ P g):Pa P₀ {P.to h t with G:=g'++P₀.G} g':=⟨x.sm.trans ⟨h,t,rfl⟩,rfl,x.fz,x.val,x.cell⟩
theorem Pa.rv (x:Pa P₀ P g):∀ {p:PV},RV C P₀ v p->RV C P v p:=fun r=>r.mv x.fz x.val x.cell
theorem Pa.hide (x:Pa P₀ P g) (e:P.own a= .no):Pa P₀ (P.hide h t a o) ((a,o)::g):=
 ⟨x.sm.trans ⟨h,t,rfl⟩,congrArg ((a,o)::·) x.G,fun b o q=>eG e b o (x.fz b o q),x.val,fun n j b v q=>x.cell n j b v (by
  rcases cX P.own a .gh b with ⟨_,r⟩|⟨_,r⟩
  .cases r.symm.trans q
  .exact r.symm.trans q)⟩
theorem Pa.show (x:Pa P₀ P ((a,o)::g)) (e:P.own a= .gh):Pa P₀ (P.show h t a (g++P₀.G)) g:=
 ⟨x.sm.trans ⟨h,t,rfl⟩,rfl,fun b o q=>gy e b o (x.fz b o q),x.val,fun n j b v q=>x.cell n j b v (m_ q)⟩
theorem Pa.refl (P:Pt):Pa P P []:=⟨.refl _,rfl,fun _ _ e=>e,fun _ _ v=>v,fun _ _ _ _ e=>e⟩
end
section
variable {p q:Addr×Obj}
theorem aL.swap (I:aL C P) (hG:P.G=p::q::G):aL C {P with G:=q::p::G}:=by
 have mm:∀ r,r∈q::p::G->r∈P.G:=fun r hr=>by
  rw[hG];rcases Sj.mp hr with z|z
  .rw[z];exact .tail _ (.head _)
  .rcases Sj.mp z with z|z
   .rw[z];exact .head _
   .exact .tail _ (.tail _ z)
 refine ⟨I.base,I.fz,I.live,I.fr,⟨fun r hr=>I.gh.at_ r (mm r hr),?_,fun z e=>(I.gh.tab z e).map (fun _ _ e=>e) fun b o q=>⟨q.1,q.2.1,fun r hr=>q.2.2 r (mm r hr)⟩⟩,I.one,I.bd,I.obj⟩
 .have nd:=I.gh.nd;rw[hG] at nd;exact (List.Perm.swap _ _ _).nodup_iff.mp nd
end
noncomputable def Pt.pop (P:Pt) (L:Addr) (o:Obj) (fs:List Fm):Pt:={P with own:=im P.own L .gh,G:=(L,o)::P.G,fs:=fs}
theorem aL.pop (I:aL C P) (hf:P.fs=g::fs) (hc:g.cells=[]) (ho:P.h.get? g.L=some o):aL C (P.pop g.L o fs):=by
 have own:P.own g.L= .fr:=(I.fr.ns g (by rw[hf];exact .head _)).2.1;have ord:=I.fr.ord;rw[hf] at ord;obtain ⟨o1,o2⟩:=List.pairwise_cons.mp ord;have cs:=cX P.own g.L .gh;have ne:∀ k∈fs,∀ b∈k.adr,b≠g.L:=fun k hk b hb=>Nat.ne_of_lt (o1 k hk b hb);have kk:∀ b o x,P.own b=x->x≠ .fr->P.h.get? b=some o->im P.own g.L .gh b=x/\P.h.get? b=some o:=fun b o x e q z=>⟨(bB fun c=>q (by rw[<-e,c,own])).trans e,z⟩;have bk:∀ b x,im P.own g.L .gh b=x->x≠ .gh->P.own b=x:=fun b x e q=>by
  rcases cs b with ⟨_,r⟩|⟨_,r⟩
  .exact absurd (r.symm.trans e).symm q
  .exact r.symm.trans e
 refine ⟨fun b o e=>(kk b o _ (I.base b o e).2 cS.noConfusion (I.base b o e).1).symm,fun b o e=>I.fz b o (bk b _ e cS.noConfusion),fun b e=> ?_,⟨fun f h=> ?_,fun f h c hcc=> ?_,o2,fun b e=> ?_⟩,⟨fun p hp=> ?_,S6.mpr ⟨fun q=> ?_,I.gh.nd⟩,fun z e=>(I.gh.tab z e).map (fun b o e=>(kk b o _ e cS.noConfusion (I.fz b o e)).1) fun b o q=>⟨q.1,(kk b o _ q.2.1 cS.noConfusion q.1).1,fun p hp=>(Sj.mp hp).elim (fun c d=> ?_) (q.2.2 p)⟩⟩,fun a b n j e f=>I.one a b n j (bk a _ e cS.noConfusion) (bk b _ f cS.noConfusion),fun a n j e=>I.bd a n j (bk a _ e cS.noConfusion),fun n o e=>(I.obj n o e).mv (fun b o e=>(kk b o _ e cS.noConfusion (I.fz b o e)).1) fun b j o e q=>kk b o _ e cS.noConfusion q⟩
 .rcases cs b with ⟨z,r⟩|⟨_,r⟩
  .exact ⟨o,z ▸ ho⟩
  .exact I.live b (r ▸ e)
 .obtain ⟨x,y,z⟩:=I.fr.ns f (by rw[hf];exact .tail _ h);exact ⟨x,(bB (ne f h _ (.head _))).trans y,z⟩
 .obtain ⟨x,y,z⟩:=I.fr.cl f (by rw[hf];exact .tail _ h) c hcc;exact ⟨x,(bB (ne f h _ (.tail _ hcc))).trans y,z⟩
 .rcases cs b with ⟨_,r⟩|⟨nb,r⟩
  .cases r.symm.trans e
  .obtain ⟨f,h,z⟩:=I.fr.all b (r.symm.trans e);rw[hf] at h;rcases Sj.mp h with q|q
   .rw[q,Fm.adr,hc] at z;exact absurd (So.mp z) nb
   .exact ⟨f,q,z⟩
 .rcases Sj.mp hp with q|q
  .rw[q];exact ⟨ho,bU _ _ _⟩
  .exact (kk _ _ _ (I.gh.at_ p q).2 cS.noConfusion (I.gh.at_ p q).1).symm
 .obtain ⟨p,hp,e⟩:=SA.mp q;have:=(I.gh.at_ p hp).2;rw[e,own] at this;cases this
 .have:=q.2.1;rw[<-d,c,own] at this;cases this
theorem Pa.pop {g:List (Addr×Obj)} (x:Pa P₀ P g) (e:P.own L= .fr):Pa P₀ (P.pop L o fs) ((L,o)::g):=by
 refine ⟨x.sm,congrArg ((L,o)::·) x.G,fun b o q=>(bB fun c=> ?_).trans (x.fz b o q),x.val,fun n j b v q=>x.cell n j b v ?_⟩
 .have:=x.fz b o q;rw[c,e] at this;cases this
 .rcases cX P.own L .gh b with ⟨_,r⟩|⟨_,r⟩
  .cases r.symm.trans q
  .exact r.symm.trans q
theorem Pa.past (x:Pa P₀ P [(a,o)]) (e:sT P₀.fs P.fs):kX P₀ P a o:=⟨x.sm,e,x.G,x.fz,x.val,x.cell⟩
end
theorem qr (x:Str):(relabel scope env).names.lookup x=(scope.names.lookup x).map fun k=>if (k==NameKind.free&&env.scope.kind== .function&&env.kindOf x==some .cell)=true then NameKind.cell else k:=by
 unfold relabel;generalize scope.names=l
 induction l with
 |nil=>rfl
 |cons p l ih=>
  obtain ⟨n,k⟩:=p;rw[List.map_cons];cases hx:x==n with
  |true=>
   obtain rfl:=beq_iff_eq.mp hx;by_cases hc:(k==NameKind.free&&env.scope.kind== .function&&env.kindOf x==some .cell)=true
   .simp only [List.lookup_cons,hc,if_true,hx,Option.map]
   .simp only [List.lookup_cons,hc,if_false,hx,Option.map];simp
  |false=>
   have e:((if (k==NameKind.free&&env.scope.kind== .function&&env.kindOf n==some .cell)=true then (n,NameKind.cell) else (n,k)):Str×NameKind).1=n:=by split<;>rfl
   rw[List.lookup_cons,List.lookup_cons];simp only [e,hx];exact ih
theorem kN {env:Env}:∀ (l:List (Str×NameKind)) (cl:List (Str×Addr)),(∀ p∈l,p.2=NameKind.free->∃ c,env.cells.lookup p.1=some c)->(∀ y c,cl.lookup y=some c->env.cells.lookup y=some c)->
  ∃ cl',(forIn l cl fun (x:Str×NameKind) (r:List (Str×Addr))=>(if (x.2==NameKind.free)=true then do let a<-cellOf env x.1;pure (ForInStep.yield ((x.1,a)::r)) else pure (ForInStep.yield r):Sem (ForInStep (List (Str×Addr)))))=pure cl'/\
   (∀ y c,cl'.lookup y=some c->env.cells.lookup y=some c)/\(∀ y c,cl.lookup y=some c->cl'.lookup y=some c)/\(∀ p∈l,p.2=NameKind.free->(cl'.lookup p.1).isSome=true)
 |[],cl,_,h2=>⟨cl,rfl,h2,fun _ _ h=>h,fun p hp=>(SF hp).elim⟩
 |(n,k)::l,cl,h1,h2=>by
  by_cases hk:k=NameKind.free
  .subst hk;obtain ⟨c,hc⟩:=h1 (n,.free) (.head _) rfl;have h2':∀ y d,List.lookup y ((n,c)::cl)=some d->env.cells.lookup y=some d:=fun y d hd=>by
    rw[List.lookup_cons] at hd;cases hy:y==n with
    |true=>rw[hy] at hd;cases hd;rw[beq_iff_eq.mp hy];exact hc
    |false=>rw[hy] at hd;exact h2 y d hd
   obtain ⟨cl',e,q1,q2,q3⟩:=kN l ((n,c)::cl) (fun p hp=>h1 p (.tail _ hp)) h2';refine ⟨cl',?_,q1,fun y d hd=> ?_,fun p hp hf=> ?_⟩
   .rw[List.forIn_cons];rw[if_pos (beq_self_eq_true _)];have hcell:cellOf env n=pure c:=by unfold cellOf;rw[hc]
    simp only [hcell];exact e
   .refine q2 y d ?_;rw[List.lookup_cons];cases hy:y==n with
    |true=>
     have:=h2 y d hd;rw[beq_iff_eq.mp hy,hc] at this;exact this
    |false=>exact hd
   .rcases Sj.mp hp with rfl|hp
    .rw[q2 n c (by rw[List.lookup_cons,beq_self_eq_true])];rfl
    .exact q3 p hp hf
  .obtain ⟨cl',e,q1,q2,q3⟩:=kN l cl (fun p hp=>h1 p (.tail _ hp)) h2;refine ⟨cl',?_,q1,q2,fun p hp hf=> ?_⟩
   .rw[List.forIn_cons];rw[if_neg (by simpa using hk)];exact e
   .rcases Sj.mp hp with rfl|hp
    .exact absurd hf hk
    .exact q3 p hp hf
theorem kA (h:∀ p∈scope.names,p.2=NameKind.free->∃ c,env.cells.lookup p.1=some c):
  ∃ cl,closureFor scope env=pure cl/\(∀ p∈scope.names,p.2=NameKind.free->cl.lookup p.1=env.cells.lookup p.1):=by
 obtain ⟨cl,e,q1,_,q3⟩:=kN scope.names [] h (fun y c hc=>nomatch hc);refine ⟨cl,?_,fun p hp hf=> ?_⟩
 .unfold closureFor;have:(forIn scope.names [] fun (x:Str×NameKind) (r:List (Str×Addr))=>(match x with
   |(name,kind)=>if (kind==NameKind.free)=true then do let a<-cellOf env name;pure (ForInStep.yield ((name,a)::r)) else pure (ForInStep.yield r):Sem (ForInStep (List (Str×Addr)))))=pure cl:=e
  simp only [this];rfl
 .obtain ⟨c,hc⟩:=Option.isSome_iff_exists.mp (q3 p hp hf);rw[hc,q1 _ _ hc]
theorem cO {β:Type} {x:Str} {b:β}:∀ {l:List (Str×β)},l.lookup x=some b->(x,b)∈l
 |[],h=>nomatch h
 |(n,c)::l,h=>by
  rw[List.lookup_cons] at h;cases hx:x==n with
  |true=>rw[hx] at h;cases h;rw[beq_iff_eq.mp hx];exact .head _
  |false=>rw[hx] at h;exact .tail _ (cO h)
structure nn (sc scope:Scope) (x:Str):Prop where
 kind:scope.kind= .function
 cell:∀ p∈scope.names,p.2≠ .cell
 var:scope.names.lookup x=some .local
 loc:∀ p∈scope.names,p.2= .local->scope.names.lookup p.1=some .local/\(p.1=x∨p.1=(".0":Str))
 free:∀ p∈scope.names,p.2= .free->sc.names.lookup p.1=some .cell
theorem tC {x:Str} (h:m8 sc scope x=true):nn sc scope x:=by
 simp only [m8,Bool.and_eq_true,beq_iff_eq,List.all_eq_true,bne_iff_ne,ne_eq,Bool.or_eq_true] at h;obtain ⟨⟨⟨⟨h1,h2⟩,h3⟩,h4⟩,h5⟩:=h;exact ⟨h1,h2,h3,fun p hp e=>(h4 p hp).resolve_left fun q=>q e,fun p hp e=>(h5 p hp).resolve_left fun q=>q e⟩
noncomputable abbrev oE (scope:Scope) (cl:List (Str×Addr)) (L:Addr) (env:Env):Env:=compEnvC scope cl L env
section
variable {x:Str} {cl:List (Str×Addr)}
theorem fe (y:Str):(oE scope cl L env).scope.names.lookup y=(scope.names.lookup y).map fun k=>if (k==NameKind.free&&env.scope.kind== .function&&env.kindOf y==some .cell)=true then NameKind.cell else k:=qr y
theorem tH {y:Str} (h:scope.names.lookup y=some .free):(oE scope cl L env).scope.names.lookup y=some .cell∨(oE scope cl L env).scope.names.lookup y=some .free:=by
 rw[fe,h];show some (if _ then _ else _)=_∨some (if _ then _ else _)=_;split
 .exact .inl rfl
 .exact .inr rfl
theorem AU {s:Scope} {y:Str} (h:s.names.lookup y=some .cell∨s.names.lookup y=some .free):n_ s y=true:=by
 unfold n_;rcases h with h|h
 .rw[h];rfl
 .rw[h];rfl
theorem Hy {s:Scope} {y:Str} (h:n_ s y=true):s.names.lookup y=some .local∨s.names.lookup y=some .cell∨s.names.lookup y=some .free:=by
 rcases (Bool.or_eq_true _ _).mp h with h|h
 .rcases (Bool.or_eq_true _ _).mp h with h|h
  .exact .inl (bR h)
  .exact .inr (.inl (bR h))
 .exact .inr (.inr (bR h))
theorem Aa (K:nn sc scope x):BM scope (oE scope cl L env):=fun y=>by
 refine ⟨fun h=> ?_,fun h=> ?_,fun h=>absurd rfl (K.cell _ (cO h))⟩
 .rcases Hy h with h|h|h
  .unfold n_;rw[fe,h];rfl
  .exact absurd rfl (K.cell _ (cO h))
  .exact AU (tH h)
 .have h:=bR (ai h);show (oE scope cl L env).scope.names.lookup y=_;rw[fe,h];rfl
noncomputable def Cx.comp (X:Cx) (K:nn X.sc scope x) (i:Nat) (cl:List (Str×Addr)) (L:Addr):Cx:=
 ⟨X.C,X.A,oE scope cl L X.env,scope,(x,i)::X.Γ,X.d,X.hd,X.good,X.calls,Aa K,K.kind,X.glob,X.blt,X.dep,X.uni,X.hnd,none⟩
end
section
variable {x:Str} {cl:List (Str×Addr)}
theorem FZ {gl:List (Addr×Obj)} (K:nn X.sc scope x) (hcl:∀ p∈scope.names,p.2=NameKind.free->cl.lookup p.1=X.env.cells.lookup p.1) (hi:∀ q∈X.Γ,q.2≠i) (h0:X.Γ.lookup (".0":Str)=none) (G:EnvOK X P ρ) (pa:Pa P P' gl) (hf:P'.fs=g::P.fs) (hr:RV X.C P' v p) (hm:g.m x=some v):
  EnvOK (X.comp K i cl g.L) P' (ρ.set i (some p)):=by
 obtain ⟨ls,q1,q2⟩:=G.frs;refine ⟨⟨ls,q1,fun en hen=> ?_⟩,by rw[hf];nofun,fun y j q hy hmine hq=> ?_⟩
 .obtain ⟨a,f,hf',b⟩:=q2 en hen;exact ⟨a,f,by rw[hf];exact .tail _ hf',b⟩
 have hy:List.lookup y ((x,i)::X.Γ)=some j:=hy;rw[List.lookup_cons] at hy;cases hx:y==x with
 |true=>
  rw[hx] at hy;cases hy;rcases t7 hq with ⟨_,z⟩|⟨z,_⟩
  .rw[z];refine ⟨v,hr,.inl ⟨?_,g,by rw[hf];exact .head _,rfl,by rw[beq_iff_eq.mp hx];exact hm⟩⟩;show (oE scope cl g.L X.env).scope.names.lookup y=_;rw[fe,beq_iff_eq.mp hx,K.var];rfl
  .exact absurd rfl z
 |false=>
  rw[hx] at hy;rcases t7 hq with ⟨z,_⟩|⟨_,hq⟩
  .exact absurd z.symm (hi (y,j) (cO hy))
  have hmine:n_ (oE scope cl g.L X.env).scope y=true:=hmine;have hfree:scope.names.lookup y=some .free:=by
   cases hs:scope.names.lookup y with
   |none=>unfold n_ at hmine;rw[fe,hs] at hmine;cases hmine
   |some k=>
    cases k with
    |free=>rfl
    |«local»=>
     obtain ⟨_,h|h⟩:=K.loc _ (cO hs) rfl
     .rw[show y=x from h,beq_self_eq_true] at hx;cases hx
     .rw[show y=(".0":Str) from h,h0] at hy;cases hy
    |cell=>exact absurd rfl (K.cell _ (cO hs))
    |_=>unfold n_ at hmine;rw[fe,hs] at hmine;cases hmine
  have hk:=((X.kinds y).2.2 (K.free _ (cO hfree) rfl)).1;obtain ⟨w,hw,hl⟩:=G.var y j q hy (AU (.inl hk)) hq;refine ⟨w,pa.rv hw,?_⟩;rcases hl with ⟨h1,_⟩|⟨_,c,h2,f,hf',h3,h4⟩
  .rw[hk] at h1;cases h1
  .exact .inr ⟨tH hfree,c,(hcl _ (cO hfree) rfl).trans h2,f,by rw[hf];exact .tail _ hf',h3,h4⟩
end
structure CI where
 ts:cG->bg->PM Bool
 is:Sx->List Expr->Bool
 ok:∀ (X:Cx) (cs:List Expr) (ρ:bg) (P:Pt) (K:R Bool->az->Prop) (Q:Bool->Shared->Prop) (E:Value->Shared->Prop),is X.sx cs=true->aL X.C P->EnvOK X P ρ->Wp K (ts X.ker ρ P.σ)->bu X oM P K Q E->
  wpAny X.M X.A (forIn cs true fun c r=>if r=true then do let ok<-isTrue c X.env (eval c X.env);pure (ForInStep.yield ok) else pure (ForInStep.yield r)) Q E P.s
noncomputable def fG:CI:=⟨fun _ _=>ret true,fun _ cs=>cs.isEmpty,fun X cs ρ P K Q E h I G w p=>bZ (fun cs=>wpAny X.M X.A (forIn cs true fun c r=>if r=true then do let ok<-isTrue c X.env (eval c X.env);pure (ForInStep.yield ok) else pure (ForInStep.yield r)) Q E P.s) h (wpAny_tests_nil (p.here I rfl w))⟩
noncomputable def lA (t:CT):CI:=⟨t.ts,fun s=>one (t.is s),fun X cs ρ P K Q E h I G w p=>dB (fun cs=>wpAny X.M X.A (forIn cs true fun c r=>if r=true then do let ok<-isTrue c X.env (eval c X.env);pure (ForInStep.yield ok) else pure (ForInStep.yield r)) Q E P.s) h fun c h=>wpAny_tests_one (t.ok X c ρ P K Q E h I G w p)⟩
section
variable (K:R (List D)->az->Prop) (v:PV) (x:D) (i:Nat) (test:bg->PM Bool) (cq:bg->PM PV) (ρ:bg) (y:D) (r acc:List D)
def Q2:R PV->az->Prop
 | .ok (.d z),σ=>(bI σ x v=true/\acc.length<dM)/\Wp K (dJ v x i test cq ρ r (acc++[z]) σ)
 | .ok _,_=>False
 | .ex c,σ=>K (.ex c) σ
def RJ:R Bool->az->Prop
 | .ok false,σ=>bI σ x v=true/\Wp K (dJ v x i test cq ρ r acc σ)
 | .ok true,σ=>Wp (Q2 K v x i test cq ρ r acc) (cq (ρ.set i (some (.d y))) σ)
 | .ex _,_=>False
end
section
variable {K:R (List D)->az->Prop} {v:PV} {x:D} {test:bg->PM Bool} {cq:bg->PM PV} {y:D} {r acc:List D}
theorem DH:∀ {z:Option (R PV×az)},Wp K (match z with
   |some (.ok (.d z),σ'')=>if bI σ'' x v/\acc.length<dM then dJ v x i test cq ρ r (acc++[z]) σ'' else none
   |some (.ex c,σ'')=>some (.ex c,σ'')
   |_=>none)->Wp (Q2 K v x i test cq ρ r acc) z:=by
 intro z h;cases z with
 |none=>exact h
 |some z=>
 obtain ⟨z,σ⟩:=z;cases z with
 |ex _=>exact h
 |ok z=>
 cases z with
 |p _ _=>exact h
 |b _ _=>exact h
 |d z=>
  have h:Wp K (if bI σ x v/\acc.length<dM then dJ v x i test cq ρ r (acc++[z]) σ else none):=h;by_cases q:bI σ x v=true/\acc.length<dM
  .rw[if_pos q] at h;exact ⟨q,h⟩
  .rw[if_neg q] at h;exact h.elim
theorem GJ (h:Wp K (dJ v x i test cq ρ (y::r) acc σ)):Wp (RJ K v x i test cq ρ y r acc) (test (ρ.set i (some (.d y))) σ):=by
 have h:Wp K (match test (ρ.set i (some (.d y))) σ with
  |some (.ok false,σ')=>if bI σ' x v then dJ v x i test cq ρ r acc σ' else none
  |some (.ok true,σ')=>(match cq (ρ.set i (some (.d y))) σ' with
   |some (.ok (.d z),σ'')=>if bI σ'' x v/\acc.length<dM then dJ v x i test cq ρ r (acc++[z]) σ'' else none
   |some (.ex c,σ'')=>some (.ex c,σ'')
   |_=>none)
  |_=>none):=h
 generalize test (ρ.set i (some (.d y))) σ=z at h;cases z with
 |none=>exact h
 |some z=>
 obtain ⟨z,σ'⟩:=z;cases z with
 |ex _=>exact h
 |ok b=>
 cases b with
 |true=>exact DH h
 |false=>
  have h:Wp K (if bI σ' x v then dJ v x i test cq ρ r acc σ' else none):=h;cases q:bI σ' x v with
  |true=>rw[q] at h;exact ⟨q,h⟩
  |false=>rw[q] at h;exact h.elim
end
noncomputable def Sx.comp (s:Sx) (scope:Scope) (x:Str) (i:Nat):Sx:={s with sc:=scope,Γ:=(x,i)::s.Γ,lm:=none}
noncomputable def RB (xc:Bool) {α:Type}:Option (R α×az)->Option (R α×az)
 |some (.ok a,σ)=>some (.ok a,σ)
 |some (.ex c,σ)=>if xc then some (.ex c,σ) else none
 |none=>none
noncomputable def rh (xc:Bool) (i:Nat) (it:CE) (t:CI) (cq:CE) (K:cG) (ρ:bg):PM (List D):=match K.hd with
 |true=>fun _=>none
 |false=>bW (it.ev K ρ) fun v σ=>(C2 v σ).bind fun q=>RB xc (dJ v q.1 i (t.ts K) (cq.ev K) ρ q.2 [] σ)
noncomputable abbrev ri (i:Nat) (it:CE) (t:CI) (cq:CE) (K:cG) (ρ:bg):PM (List D):=rh false i it t cq K ρ
theorem k7 {K:R β->az->Prop} {k:α->Option (R β×az)}:∀ {o:Option α},Wp K (o.bind k)->∃ a,o=some a/\Wp K (k a)
 |some a,h=>⟨a,rfl,h⟩
def xK {α:Type} (xc:Bool) (K:R α->az->Prop):R α->az->Prop
 | .ok a,σ=>K (.ok a) σ
 | .ex c,σ=>xc=true/\K (.ex c) σ
theorem JQ {xc:Bool} {K:R α->az->Prop}:∀ {z:Option (R α×az)},Wp K (RB xc z)->Wp (xK xc K) z
 |none,h=>h
 |some (.ok _,_),h=>h
 |some (.ex c,σ),h=>by
  cases xc with
  |true=>exact ⟨rfl,h⟩
  |false=>exact h.elim
inductive FreshL (C:bH) (P:Pt):Value->List D->Prop
 |mk {a:Addr} {vs:List Value} {n:Nat} {l:List D}:vD C P P.h a (aU vs n)->RDs C P.own l vs->FreshL C P (.ref a) l
theorem LF {x:cS} (e:∀ o,w a≠ .fz o):Fz w (im w a x):=fun b o q=>(bB fun c=>by rw[c] at q;exact e o q).trans q
theorem Pa.frm {g:List (Addr×Obj)} (x:Pa P₀ P g):Pa P₀ {P with fs:=fs} g:=⟨x.sm,x.G,x.fz,x.val,x.cell⟩
inductive N_ (X:Cx) (K:R (List D)->az->Prop) (i:Nat) (t:CI) (cq:CE) (ρ:bg) (v:PV) (x:D) (xs:List D) (St:Nat->Heap->Prop) (P₁:Pt) (aI aD L:Addr) (n:Nat) (s:Shared):Prop
 |mk (P:Pt) (g:Fm) (j:Nat) (oi:Obj) (vs:List Value) (m:Nat) (acc:List D):P.s=s->Pa P₁ P [(aI,oi),(aD,aU vs m)]->P.fs=g::P₁.fs->g.L=L->g.cells=[]->aL X.C P->RDs X.C P.own acc vs->bI P.σ x v=true->St j P.h->j<=xs.length->n=xs.length - j->
  Wp K (dJ v x i (t.ts X.ker) (cq.ev X.ker) ρ (xs.drop j) acc P.σ)->N_ X K i t cq ρ v x xs St P₁ aI aD L n s
theorem Pa.of {P₁ P₂:Pt} {g:List (Addr×Obj)} (a:Ext P P₁) (x:Pa P₁ P₂ g):Pa P P₂ g:=
 ⟨a.sm.trans x.sm,by rw[x.G,a.G],fun b o q=>x.fz b o (a.fz b o q),fun n j q=>x.val n j (a.val n j q),fun n j b v q=>a.cell n j b v (x.cell n j b (a.val n j v) q)⟩
theorem Iz {X:Cx} {ρ:bg} {P:Pt} {K:R (List D)->az->Prop} {E:Value->Shared->Prop} {RR:Value->Addr->Result->Shared->Prop} {PP:Value->Env->Result->Shared->Prop} (xc:Bool) (i:Nat) (it:CE) (t:CI) (cq:CE) {el iter:Expr} {cs:List Expr} {x:Str} {px pos:Pos} {scope scope':Scope} {cl:List (Str×Addr)}
  (hcl:∀ p∈scope.names,p.2=NameKind.free->cl.lookup p.1=X.env.cells.lookup p.1) (hsc:scope'=relabel scope X.env) (hPP:∀ v L r s,RR v L r s->PP v (newEnv scope L X.env.globals cl X.env.qual none .none (some X.env) builtinsNs) r s)
  (Kc:nn X.sc scope x) (h2:it.is X.sx iter=true) (h3:cq.is (X.sx.comp scope x i) el=true) (h4:t.is (X.sx.comp scope x i) cs=true) (h5:∀ q∈X.Γ,q.2≠i) (h6:X.Γ.lookup (".0":Str)=none) (hd:X.hd=false)
  (I:aL X.C P) (G:EnvOK X P ρ) (w:Wp K (rh xc i it t cq X.ker ρ P.σ)) (pe:∀ c e P',bQ P P'->aL X.C P'->vE X.C X.A P' c e->K (.ex c) P'.σ->E e P'.s)
  (pk:∀ acc v L oL P',Pa P P' [(L,oL)]->P'.fs=P.fs->aL X.C P'->FreshL X.C P' v acc->(∃ m,P'.h.Ns L m)->K (.ok acc) P'.σ->RR v L (.ok .next) P'.s)
  (qx:∀ c e v P' g p q,Pa P P' [p,q]->P'.fs=g::P.fs->g.cells=[]->aL X.C P'->vE X.C X.A P' c e->xc=true->K (.ex c) P'.σ->notedBy X.M X.A (oE scope cl g.L X.env) (fun e s=>RR v g.L (.error e) s) e P'.s):
  wpAny X.M X.A (eval iter X.env) (fun xv s₁=>wpAny X.M X.A (pyIter xv) (fun it s₂=>wpAny X.M X.A (newList []) (fun acc s₃=>
   wpAny X.M X.A (newFunctionEnv scope X.env.globals cl [] X.env.qual none .none (some X.env)) (fun cenv s₄=>
    codeAny X.M X.A (.compStart (.ListComp el [⟨.Name x px,iter,cs,0⟩] scope pos) 0 it acc {cenv with scope:=scope'}) (PP acc cenv) s₄) E s₃) E s₂) E s₁) E P.s:=by
 subst hsc;unfold rh at w;rw[show X.ker.hd=false from hd] at w;have hh:=X.hnd hd;refine it.ok X iter ρ P _ _ E h2 I G (aR w) ⟨fun v va P₁ g₁ I₁ r₁ w=> ?_,pe⟩;refine bn fun G9 k9=> ?_;obtain ⟨⟨x0,xs⟩,e0,w⟩:=k7 w;have w:=JQ w;obtain ⟨e1,e2,e3⟩:=qy e0;refine k9 ?_;refine A0 X.good I₁ r₁ e0 fun oi St hof W st0=> ?_;have G₁:=G.ext g₁;have hn:=I₁.push hof;have I₂:=I₁.hide (t:=P₁.s.toks) hn;have hn₂:=I₂.push (o:=aU [] 0) rfl;have I₃:=(I₂.hide (t:=P₁.s.toks) hn₂).swap rfl;have pa₃:=((((Pa.refl P₁).hide (h:=P₁.h.push oi) (t:=P₁.s.toks) (o:=oi) hn.own).hide (h:=(P₁.h.push oi).push (aU [] 0)) (t:=P₁.s.toks) (o:=aU [] 0) hn₂.own).turn (h:=(P₁.h.push oi).push (aU [] 0)) (t:=P₁.s.toks) (g':=[(P₁.h.objs.size,oi),((P₁.h.push oi).objs.size,aU [] 0)]));refine wpAny_newObj_type (wpAny_newFunctionEnv Kc.cell (fun y hy=>(SF hy).elim) (fun h₁ hns₁ hsb₁=> ?_) Kc.kind);generalize hP₃:(Pt.mk {P₁.s with heap:=(P₁.h.push oi).push (aU [] 0),toks:=P₁.s.toks} P₁.fs (im (im P₁.own P₁.h.objs.size .gh) (P₁.h.push oi).objs.size .gh) ((P₁.h.objs.size,oi)::((P₁.h.push oi).objs.size,aU [] 0)::P₁.G) P₁.σ)=P₃;replace I₃:aL X.C P₃:=by rw[<-hP₃];exact I₃
 replace pa₃:Pa P₁ P₃ [(P₁.h.objs.size,oi),((P₁.h.push oi).objs.size,aU [] 0)]:=by rw[<-hP₃];exact pa₃
 have es:P₃.s={P₁.s with heap:=(P₁.h.push oi).push (aU [] 0)}:=by rw[<-hP₃]
 have eh:P₃.h=(P₁.h.push oi).push (aU [] 0):=by rw[<-hP₃]
 have efs:P₃.fs=P₁.fs:=by rw[<-hP₃]
 have eσ:P₃.σ=P₁.σ:=by rw[<-hP₃]
 change h₁.Ns ((P₁.h.push oi).push (aU [] 0)).objs.size _ at hns₁;change Heap.SameBut ((P₁.h.push oi).push (aU [] 0)).objs.size (((P₁.h.push oi).push (aU [] 0)).push _) h₁ at hsb₁;rw[<-eh] at hns₁ hsb₁;have kp:∀ b o,P₃.h.get? b=some o->h₁.get? b=some o:=fun b o e=>hsb₁.extBut b o (Nat.ne_of_lt (SR e)) (Sr _ e);have sz:X.C.H.objs.size<=P₃.h.objs.size:=I₃.szF (by rw[efs];exact G₁.ne);generalize hg:(⟨P₃.h.objs.size,fun y=>([]:List (Str×Value)).reverse.lookup y,[],fun _=>none⟩:Fm)=g₄;have I₄:=I₃.enter (g:=g₄) (t:=P₁.s.toks) sz kp (by rw[<-hg];exact Sv _) (by rw[<-hg];exact hns₁) (fun c hc=>by rw[<-hg] at hc;exact (SF hc).elim);have pa₄:=pa₃.grow (Ext.enter (h':=h₁) (t:=P₁.s.toks) (g:=g₄) I₃ fun b o e q=>by
  rw[<-hg] at q;exact absurd (So.mp q) (Nat.ne_of_lt (SR e)))
 have st4:St 0 h₁:=W.own _ _ _ st0 (by
  obtain ⟨oi2,e4⟩:=W.fld _ _ st0;rw[e4];exact kp _ _ (by rw[eh];exact Sr _ e4))
 have still0:bI P₁.σ x0 v=true:=by
  cases v with
  |d y=>rfl
  |p n j=>exact @Sz _ (_) e1
  |b _ _=>cases e1
 have loop:∀ s₃:Shared,s₃={P₁.s with heap:=h₁}->
   codeAny X.M X.A (.compLoop (.ListComp el [⟨.Name x px,iter,cs,0⟩] scope pos) 0 (.ref P₁.h.objs.size) (.ref (P₁.h.push oi).objs.size) (oE scope cl P₃.h.objs.size X.env)) (RR (.ref (P₁.h.push oi).objs.size) P₃.h.objs.size) s₃:=by
  rintro s₃ rfl;refine codeAny_compLoop_tests (N_ X (xK xc K) i t cq ρ v x0 xs St P₁ P₁.h.objs.size (P₁.h.push oi).objs.size P₃.h.objs.size) ?_ xs.length
   ⟨P₃.enter h₁ P₁.s.toks g₄,g₄,0,oi,[],0,[],by show {P₃.s with heap:=h₁,toks:=P₁.s.toks}=_;rw[es],?_,by show g₄::P₃.fs=_;rw[efs],by rw[<-hg],by rw[<-hg],I₄,.nil,by show bI P₃.σ x0 v=true;rw[eσ];exact still0,st4,SN _,rfl,by show Wp (xK xc K) (dJ _ _ _ _ _ _ _ _ P₃.σ);rw[eσ];exact w⟩
  .rintro n s ⟨P₅,g₅,j,o₅,vs,m,acc,rfl,pa,hf,hgL,hgc,I₅,rs,s₅,st₅,hj,rfl,w⟩;have now₅:=sY I₅ (pa.rv r₁) e1 s₅;have hL:=I₅.fr.ns g₅ (by rw[hf];exact .head _);rcases Nat.lt_or_ge j xs.length with hlt|hge
   .rw[List.drop_eq_getElem_cons hlt] at w;refine W.item X.A j P₅ xs xs[j] _ _ hh I₅ pa.fz now₅ e3 (Sn hlt) st₅ fun val h' tk rv st₆ kp=> ?_;obtain ⟨o₆,ho₆⟩:=W.fld _ _ st₆;have I₆:=I₅.gturn (t:=tk) pa.G kp ho₆;have pa₆:=pa.turn (h:=h') (t:=tk) (g':=[(P₁.h.objs.size,o₆),((P₁.h.push oi).objs.size,aU vs m)]);refine wpAny_assign_Name (wpAny_storeName_local (m:=g₅.m) (env:=oE scope cl P₃.h.objs.size X.env) (s:={P₅.s with heap:=h',toks:=tk}) ?_ (hgL ▸ (I₆.fr.ns g₅ (by show g₅∈P₅.fs;rw[hf];exact .head _)).1) (fun h₇ hn₇ hs₇=> ?_) ?_)
    .show (oE scope cl P₃.h.objs.size X.env).scope.names.lookup x=_;rw[fe,Kc.var];rfl
    rotate_left
    .show (scope.kind==_||(scope.kind==_&&_))=false;rw[Kc.kind];rfl
    have I₇:=I₆.frame (t:=tk+1) (g:=⟨P₃.h.objs.size,fun y=>if y=x then some val else g₅.m y,[],fun _=>none⟩) hf ⟨hgL.symm,hgc.symm⟩ (.head _) (fun b o hb e=>hs₇.extBut b o (by rw[<-hgL];exact hb) e) hn₇ (fun c hc=>(SF hc).elim);have pa₇:=(pa₆.turn (h:=h₇) (t:=tk+1) (g':=[(P₁.h.objs.size,o₆),((P₁.h.push oi).objs.size,aU vs m)])).frm (fs:=⟨P₃.h.objs.size,fun y=>if y=x then some val else g₅.m y,[],fun _=>none⟩::P₁.fs);have G₇:=FZ (g:=⟨P₃.h.objs.size,fun y=>if y=x then some val else g₅.m y,[],fun _=>none⟩) (i:=i) (p:=.d xs[j]) (v:=val) Kc hcl h5 h6 G₁ pa₇ rfl rv (if_pos rfl);refine t.ok (X.comp Kc i cl P₃.h.objs.size) cs _ _ (RJ (xK xc K) v x0 i (t.ts X.ker) (cq.ev X.ker) ρ xs[j] (xs.drop (j+1)) acc) _ _ h4 I₇ G₇ (GJ w) ⟨fun b c P₈ g₈ I₈ r₈ k=> ?_,fun c e P' _ _ _ k=>k.elim⟩;rw[show c=b from r₈];have pa₈:=pa₇.grow g₈.toExt;cases b with
    |false=>
     exact ⟨xs.length - (j+1),O8 hlt,⟨P₈,_,j+1,o₆,vs,m,acc,rfl,pa₈,g₈.fs,rfl,rfl,I₈,rs.ext g₈.fz,k.1,W.own _ _ _ st₆ (by rw[(uJ I₈ pa₈.G).2,ho₆]),hlt,rfl,k.2⟩⟩
    |true=>
     refine cq.ok (X.comp Kc i cl P₃.h.objs.size) el _ P₈ (Q2 (xK xc K) v x0 i (t.ts X.ker) (cq.ev X.ker) ρ (xs.drop (j+1)) acc) _ _ h3 I₈ (G₇.ext g₈) k ⟨fun q vy P₉ g₉ I₉ r₉ k=> ?_,fun c e P₉ g₉ I₉ x₉ k=>qx c e _ P₉ _ _ _ (.of g₁.toExt (pa₈.grow g₉.toExt)) (by rw[g₉.fs,g₈.fs,<-g₁.fs]) rfl I₉ x₉ k.1 k.2⟩;cases q with
     |p n' j'=>exact k.elim
     |b _ _=>exact k.elim
     |d z=>
      have pa₉:=pa₈.grow g₉.toExt;have J:=I₉.swap pa₉.G;have hD:=(uJ J rfl).2;have rs₉:=(rs.ext g₈.fz).ext g₉.fz;refine mr hD (by rw[rs₉.length];exact Ss (SY k.1.2) (by decide)) fun h₁₀ n' e10 s10=> ?_;have J1:=J.gturn (t:=P₉.s.toks) rfl (fun b o hb e=>s10.extBut b o hb e) e10;have J2:=J1.swap rfl;have pa₁₀:=pa₉.turn (h:=h₁₀) (t:=P₉.s.toks) (g':=[(P₁.h.objs.size,o₆),((P₁.h.push oi).objs.size,aU (vs++[vy]) n')]);exact ⟨xs.length - (j+1),O8 hlt,⟨_,_,j+1,o₆,vs++[vy],n',acc++[z],rfl,pa₁₀,g₉.fs.trans g₈.fs,rfl,rfl,J2,rs₉.append (.cons r₉ .nil),k.1.1,W.own _ _ _ st₆ (by rw[ho₆];exact (uJ J2 rfl).2),hlt,rfl,k.2⟩⟩
   .have hjx:j=xs.length:=Nat.le_antisymm hj hge;rw[hjx,List.drop_length] at w;refine W.done X.A j P₅ xs _ _ hh I₅ pa.fz now₅ e3 hjx.symm st₅ fun h' tk kp=> ?_;have a1:=(uJ I₅ pa.G).1;have J1:=I₅.show (t:=tk) pa.G kp;have p1:=pa.show (h:=h') (t:=tk) a1;have a2:=(uJ J1 p1.G).1;have oD:=(uJ J1 p1.G).2;have J2:=J1.show (h':=h') (t:=tk) p1.G fun _ _ _ e=>e;have p2:=p1.show (h:=h') (t:=tk) a2;refine bn fun G9 k9=> ?_;obtain ⟨⟨o,es2,ep2,hoL,hrest⟩,frL,_⟩:=J2.fr.ns g₅ (by show g₅∈P₅.fs;rw[hf];exact .head _);refine k9 ?_;have J3:=J2.pop (o:=o) (fs:=P₁.fs) hf hgc hoL;have p3:=p2.pop (o:=o) (fs:=P₁.fs) frL;rw[hgL] at J3 p3 frL;refine pk acc _ P₃.h.objs.size o _ (.of g₁.toExt p3) g₁.fs J3 (.mk (vs:=vs) (n:=m) ⟨fun _ _ e=>e,?_,J1.offH (by rw[a2];nofun),oD⟩ ?_) ⟨g₅.m,o,es2,ep2,hgL ▸ hoL,hrest⟩ w
    .exact (bB fun q=>by rw[<-q] at frL;cases (bU _ _ _).symm.trans frL).trans (bU _ _ _)
    .exact ((rs.ext (gy a1)).ext (gy a2)).ext (LF fun o q=>by cases frL.symm.trans q)
  .exact pa₄
 have eL:P₃.h.objs.size=((P₁.h.push oi).push (aU [] 0)).objs.size:=by rw[eh]
 rw[eL] at loop;exact codeAny_mono (codeAny_compStart_list (loop _ rfl) (W.self X.A 0 _ _ _ st4 (loop _ rfl))) fun r s hr=>hPP _ _ r s hr
theorem tB {X:Cx} {ρ:bg} {P:Pt} {K:R (List D)->az->Prop} {Q E:Value->Shared->Prop} (i:Nat) (it:CE) (t:CI) (cq:CE) {el iter:Expr} {cs:List Expr} {x:Str} {px pos p2:Pos} {scope:Scope} {use:Option (Value->Sem Unit)}
  (Kc:nn X.sc scope x) (h1:lE iter=true) (h2:it.is X.sx iter=true) (h3:cq.is (X.sx.comp scope x i) el=true) (h4:t.is (X.sx.comp scope x i) cs=true) (h5:∀ q∈X.Γ,q.2≠i) (h6:X.Γ.lookup (".0":Str)=none)
  (I:aL X.C P) (G:EnvOK X P ρ) (w:Wp K (ri i it t cq X.ker ρ P.σ)) (pe:∀ c e P',bQ P P'->aL X.C P'->vE X.C X.A P' c e->K (.ex c) P'.σ->E e P'.s)
  (pk:∀ acc v L oL P',Pa P P' [(L,oL)]->P'.fs=P.fs->aL X.C P'->FreshL X.C P' v acc->(∃ m,P'.h.Ns L m)->K (.ok acc) P'.σ->compPost X.M X.A E use Q v L (.ok .next) P'.s):
  wpAny X.M X.A (comprehension (.ListComp el [⟨.Name x px,iter,cs,0⟩] scope pos) scope X.env p2 (newList []) false (eval iter X.env) use) Q E P.s:=by
 cases hd:X.hd with
 |true=>unfold ri rh at w;rw[show X.ker.hd=true from hd] at w;exact w.elim
 |false=>
 obtain ⟨cl,hclos,hcl⟩:=kA (scope:=scope) (env:=X.env) (fun p hp e=>((X.kinds p.1).2.2 (Kc.free p hp e)).2);refine wpAny_comprehension_free rfl (tm h1) hclos Kc.kind (fun y hy e=>(Kc.loc y hy e).1) ?_;exact Iz (RR:=compPost X.M X.A E use Q) (PP:=fun v cenv=>compPost X.M X.A E use Q v cenv.locals) false i it t cq hcl rfl (fun _ _ _ _ h=>h) Kc h2 h3 h4 h5 h6 hd I G w pe pk fun _ _ _ _ _ _ _ _ _ _ _ _ h=>nomatch h
abbrev N4 (C:bH) (P:Pt) (v:Value) (l:List D):Prop:=FreshL C P v l
structure CF where
 ev:cG->bg->PM (List D)
 is:Sx->Expr->Bool
 ok:∀ (X:Cx) (e:Expr) (ρ:bg) (P:Pt) (K:R (List D)->az->Prop) (Q E:Value->Shared->Prop),is X.sx e=true->aL X.C P->EnvOK X P ρ->Wp K (ev X.ker ρ P.σ)->bu X (N4 X.C) P K Q E->wpAny X.M X.A (eval e X.env) Q E P.s
noncomputable def KQ (mu:Bool) (l:List D):PM PV:=match mu with
 |false=>ret (.d (.lst l))
 |true=>iW (.fld (.list l))
theorem uk {mu:Bool} (I:aL C P) (r:FreshL C P v l) (w:Wp K (KQ mu l P.σ)):∃ p P',bQ P P'/\aL C P'/\RV C P' v p/\P'.s=P.s/\K (.ok p) P'.σ:=by
 obtain @⟨a,vs,n,_,hn,rs⟩:=r;cases mu with
 |false=>exact ⟨.d (.lst l),P.note P.h P.s.toks a (aU vs n),.note hn.own,I.note hn,.lst (n:=⟨n,none,#[]⟩) (bU _ _ _) (rs.ext (eG hn.own)),rfl,w⟩
 |true=>exact ⟨.p P.σ.length 0,P.make P.h P.s.toks a (.fld (.list l)),.make hn.own,I.make rfl hn ⟨.ref a,.mk (bU _ _ _) hn.at_ ⟨vs,n,rfl,rs.ext (eG hn.own)⟩⟩,I.rvMake rfl,rfl,w⟩
noncomputable def n8 (mu:Bool) (f:CF):CE:=⟨fun K ρ=>bW (f.ev K ρ) (KQ mu),f.is,fun X e ρ P K Q E h I G w p=>f.ok X e ρ P _ Q E h I G (aR w) (p.bind fun l v P1 g I1 r w p=>by
 obtain ⟨q,P2,g2,I2,r2,e2,k⟩:=uk I1 r w;rw[<-e2];exact p.ok q v P2 g2 I2 r2 k)⟩
noncomputable def pd (i:Nat) (it:CE) (t:CI) (cq:CE) (s:Sx):Expr->Bool:=NU fun el x iter cs ay scope=>ay==0&&m8 s.sc scope x&&lE iter&&it.is s iter&&cq.is (s.comp scope x i) el&&t.is (s.comp scope x i) cs&&s.Γ.all (fun q=>q.2 !=i)&&s.Γ.lookup (".0":Str)==none
theorem FreshL.show (e:P.own L= .gh) (hs:∀ b o,b≠L->P.h.get? b=some o->h'.get? b=some o):FreshL C P v l->FreshL C (P.show h' t L G) v l
 |@FreshL.mk _ _ a _ _ _ n r=>
  have ne:a≠L:=fun q=>by have:=n.own;rw[q,e] at this;cases this
  .mk ⟨fun _ _ e=>e,(bB ne).trans n.own,n.H,hs _ _ ne n.at_⟩ (r.ext (gy e))
section
variable {K:R (List D)->az->Prop}
theorem Pa.done {oL:Obj} (x:Pa P P' [(L,oL)]) (hf:P'.fs=P.fs) (I:aL X.C P') (hs:Heap.SameBut L P'.h h'):bQ P (P'.show h' P'.s.toks L P.G)/\aL X.C (P'.show h' P'.s.toks L P.G):=by
 have a:=(uJ I x.G).1;have y:=x.show (h:=h') (t:=P'.s.toks) a;exact ⟨⟨⟨y.sm,y.G,y.fz,y.val,y.cell⟩,hf⟩,I.show x.G fun b o hb e=>hs.extBut b o hb e⟩
theorem Iy (i:Nat) (it:CE) (t:CI) (cq:CE) (h:pd i it t cq X.sx e=true) (I:aL X.C P) (G:EnvOK X P ρ) (w:Wp K (ri i it t cq X.ker ρ P.σ)) (p:bu X (N4 X.C) P K Q E):wpAny X.M X.A (eval e X.env) Q E P.s:=
 tM (fun e=>wpAny X.M X.A (eval e X.env) Q E P.s) h fun el x px iter cs ay scope pos h=>by
  have h0:=ai (ai (ai (ai (ai (ai (ai h))))));rw[bR h0,eval_ListComp];refine tB i it t cq (tC (an (ai (ai (ai (ai (ai (ai h)))))))) (an (ai (ai (ai (ai (ai h)))))) (an (ai (ai (ai (ai h))))) (an (ai (ai (ai h)))) (an (ai (ai h))) (fun q hq z=> ?_) (bR (an h)) I G w p.ex fun acc v L oL P' x' hf I' r hn k=> ?_
  .have:=List.all_eq_true.mp (an (ai h)) q hq;rw[z,bne_self_eq_false] at this;cases this
  .obtain ⟨m,hn⟩:=hn;refine ⟨m,hn,fun h' hs=> ?_⟩;obtain ⟨g,J⟩:=x'.done (X:=X) hf I' hs;exact p.ok acc v _ g J (r.show (uJ I' x'.G).1 fun b o hb e=>hs.extBut b o hb e) k
end
noncomputable def gt (i:Nat) (it:CE) (t:CI) (cq:CE):CF:=⟨ri i it t cq,pd i it t cq,fun _ _ _ _ _ _ _ h I G w p=>Iy i it t cq h I G w p⟩
theorem yk {el iter:Expr} {x y:Str} {px py:Pos} {cs:List Expr} {l:Nat}:∃ b,swapsWith (.ListComp el [⟨.Name x px,iter,cs,0⟩] scope pos) (some (.Name y py)) l env=pure b:=⟨_,rfl⟩
noncomputable def F0 (xc mu:Bool) (j i:Nat) (it:CE) (t:CI) (cq:CE) (K:cG) (ρ:bg):az->Option (Out×az):=b8 ρ (bW (rh xc i it t cq K ρ) (KQ mu)) fun v σ=>some (.next (ρ.set j (some v)),σ)
theorem Al (xc mu:Bool) (j i:Nat) (it:CE) (t:CI) (cq:CE) {X:SX} {el iter:Expr} {cs:List Expr} {x y:Str} {px py pos q2:Pos} {scope:Scope} {ρ:bg} {P:Pt} {K:Out->az->Prop} {Q:Flow->Shared->Prop} {E:Value->Shared->Prop}
  (run:∀ {K:R (List D)->az->Prop} {Q:Value->Shared->Prop} (p2:Pos) (use:Option (Value->Sem Unit)),Wp K (rh xc i it t cq X.ker ρ P.σ)->(∀ c e P',bQ P P'->aL X.C P'->vE X.C X.A P' c e->K (.ex c) P'.σ->E e P'.s)->
   (∀ acc v L oL P',Pa P P' [(L,oL)]->P'.fs=P.fs->aL X.C P'->FreshL X.C P' v acc->(∃ m,P'.h.Ns L m)->K (.ok acc) P'.σ->compPost X.M X.A E use Q v L (.ok .next) P'.s)->
   wpAny X.M X.A (comprehension (.ListComp el [⟨.Name x px,iter,cs,0⟩] scope q2) scope X.env p2 (newList []) false (eval iter X.env) use) Q E P.s)
  (hy:X.Γ.lookup y=some j) (hb:gH X.sc y=true) (G:ct X P ρ) (w:io K (F0 xc mu j i it t cq X.ker ρ P.σ)) (p:c8 X P K Q E):wpAny X.M X.A (PySem.exec (.Assign [.Name y py] (.ListComp el [⟨.Name x px,iter,cs,0⟩] scope q2) pos) X.env) Q E P.s:=by
 have pe:∀ c e P',bQ P P'->aL X.C P'->vE X.C X.A P' c e->K (.ex c ρ) P'.σ->E e P'.s:=fun c e P' g I' x k=>p.ex c ρ e P' (G.gs g) I' x (G.ext g) k;obtain ⟨b,hsw⟩:=yk (el:=el) (iter:=iter) (x:=x) (y:=y) (px:=px) (py:=py) (pos:=q2) (cs:=cs) (scope:=scope) (l:=pos.line) (env:=X.env);cases b with
 |false=>
  refine wpAny_Assign_Name ?_ hsw;rw[eval_ListComp];refine run _ none (aR (cW w)) pe fun acc v L oL P' x' hf I' r hn k=> ?_;obtain ⟨m,hn⟩:=hn;refine ⟨m,hn,fun h' hs=> ?_⟩;obtain ⟨g,J⟩:=x'.done (X:=X.toCx) hf I' hs;obtain ⟨q,P1,g1,I1,r1,e1,k⟩:=uk J (r.show (uJ I' x'.G).1 fun b o hb e=>hs.extBut b o hb e) k;show wpAny X.M X.A (storeName X.env y v) (fun _=>Q .next) E (P'.show h' P'.s.toks L P.G).s;rw[<-e1];exact je hy hb I1 ((G.ext g).ext g1) r1 fun P2 g2 I2 G2 e2=>p.next _ P2 ((G.gs (g.trans g1)).trans g2) I2 G2 (e2 ▸ k)
 |true=>
  rw[exec_Assign_Name_used _ _ _ _ hsw];refine Sw (wpAny_standAt (Sw ?_));show wpAny _ X.A (do let _<-comprehension (.ListComp el [⟨.Name x px,iter,cs,0⟩] scope q2) scope X.env _ (newList []) false (eval iter X.env) (some (assign (.Name y py) X.env))) _ _ P.s;refine Sw (wpAny_mono (run (Q:=fun _ s'=>Q .next s') _ _ (aR (cW w)) pe fun acc v L oL P' x' hf I' r hn k=> ?_) (fun _ s' hq=>Sy (Sy hq)) fun _ _ e=>e);obtain ⟨m,oo,es,ep,hn1,hn2⟩:=hn;have hoo:oo=oL:=S_ (hn1.symm.trans (uJ I' x'.G).2);have hlk:sT P.fs P'.fs:=by
   obtain ⟨f,r,z,_⟩:=G.hd;rw[hf,z];exact .mk (.refl f)
  have past:=x'.past hlk;have G':ct X P' ρ:=⟨⟨hf ▸ G.frs,hf ▸ G.ne,fun x i p h1 h2 h3=>by
   obtain ⟨v,r,l⟩:=G.var x i p h1 h2 h3;exact ⟨v,x'.rv r,hf ▸ l⟩⟩,hf ▸ G.hd⟩
  obtain ⟨q,P1,g1,I1,r1,e1,k⟩:=uk I' r k;rw[<-e1];refine wpAny_assign_Name (je hy hb I1 (G'.ext g1) r1 fun P2 g2 I2 G2 e2=> ?_);have past2:=past.grow ((G'.gs g1).trans g2);have gh2:=uJ I2 past2.G;refine ⟨m,⟨oo,es,ep,by rw[hoo];exact gh2.2,hn2⟩,fun h' hs=> ?_⟩;exact p.next _ (P2.show h' P2.s.toks L P.G) (past2.show gh2.1) (I2.show past2.G fun b o hb e=>hs.extBut b o hb e) (G2.show gh2.1) (by show K _ P2.σ;rw[e2];exact k)
theorem Gm {Γ:Gw} (h:Γ.all (fun q=>q.2 !=i)=true):∀ q∈Γ,q.2≠i:=fun q hq z=>by
 have:=List.all_eq_true.mp h q hq;rw[z,bne_self_eq_false] at this;cases this
theorem Ak (mu:Bool) (j i:Nat) (it:CE) (t:CI) (cq:CE) {X:SX} {st:Stmt} {ρ:bg} {P:Pt} {K:Out->az->Prop} {Q:Flow->Shared->Prop} {E:Value->Shared->Prop} (h:oj (fun t' e=>dD (fun x _=>X.sx.Γ.lookup x==some j&&gH X.sx.sc x&&pd i it t cq X.sx e) t') st=true) (I:aL X.C P) (G:ct X P ρ)
  (w:io K (F0 false mu j i it t cq X.ker ρ P.σ)) (p:c8 X P K Q E):Ws X st Q E P:=
 fM (fun st=>Ws X st Q E P) h fun te e pos h=>cw (fun te=>wpAny X.M X.A (PySem.exec (.Assign [te] e pos) X.env) Q E P.s) h fun y py h=>by
  have hy:=bR (ai (ai h));have hb:=an (ai h);refine tM (fun e=>wpAny X.M X.A (PySem.exec (.Assign [.Name y py] e pos) X.env) Q E P.s) (an h) (fun el x px iter cs ay scope q2 h=> ?_);have h0:=bR (ai (ai (ai (ai (ai (ai (ai h)))))));subst h0;exact Al false mu j i it t cq (fun p2 use w pe pk=>tB (X:=X.toCx) i it t cq (tC (an (ai (ai (ai (ai (ai (ai h)))))))) (an (ai (ai (ai (ai (ai h)))))) (an (ai (ai (ai (ai h))))) (an (ai (ai (ai h)))) (an (ai (ai h))) (Gm (an (ai h))) (bR (an h)) I G.toEnvOK w pe pk) hy hb G w p
noncomputable def s0 (mu:Bool) (j i:Nat) (it:CE) (t:CI) (cq:CE):C1:=⟨F0 false mu j i it t cq,fun s=>oj fun t' e=>dD (fun x _=>s.Γ.lookup x==some j&&gH s.sc x&&pd i it t cq s e) t',fun _ _ _ _ _ _ _ h I G w p=>Ak mu j i it t cq h I G w p⟩
noncomputable def SX.up (X:SX) (v:Option Value):SX:={X with A:=X.A.mark v,hd:=true,dep:=X.dep,uni:=X.uni,hnd:=(fun q=>by cases q),fr:=X.fr,dep2:=X.dep2,uni2:=X.uni2}
section
variable {M:Model} {e:Addr} {c:Nat}
theorem q_ {fl:Value} {Q:Unit->Shared->Prop} (I:aL C P) (hx:kh C P ls e c fl) (hQ:∀ h',aL C (P.to h' P.s.toks)->kh C (P.to h' P.s.toks) ls e c .none->Q () {P.s with heap:=h'}):
  wpAny M A (setFlight (.ref e) none) Q E P.s:=by
 refine bn fun G9 k9=> ?_;obtain ⟨B,k1,k2,k3,k4,k5,a0,ht⟩:=hx;refine k9 ?_;refine wpAny_setFlight_noneW k1 k3 ht fun h' x1 x2 x3 x4=> ?_;exact hQ h' (I.slots (fun b o q=>x1 b o (k4 b o q)) (fun b o q z=>x1 _ _ (k5 b o q z)) fun b o hb hn=>⟨o.slots,x4 b o hb hn⟩) ⟨B,x1,k2,x2,k4,fun b o q z=>o_ I k1 k5 b o q z x1,a0,x3⟩
theorem De (I:aL C P) (hx:kh C P ls e c .none):∃ oe,bQ P (P.note P.h P.s.toks e oe)/\aL C (P.note P.h P.s.toks e oe)/\RD C (im P.own e (.fz oe)) (.exc c) (.ref e):=by
 refine bn fun G9 k9=> ?_;obtain ⟨B,k1,k2,k3,k4,k5,a0,oe,vs,T,oT,ts,he,hc,hd,_⟩:=hx;refine k9 ?_;have n1:P.own e= .no:=by
  have key:¬kept (P.own e):=fun q=>by rw[k5 e oe q he] at k2;cases k2
  cases q:P.own e with
  |no=>rfl
  |fr=>
   obtain ⟨f,hf,hm⟩:=I.fr.all e q;rcases Sj.mp hm with r|r
   .obtain ⟨o',es,ep,h1,h2,_⟩:=(I.fr.ns f hf).1;rw[<-r,he] at h1;cases h1;rw[hd] at h2;cases h2
   .obtain ⟨o',h1,h2⟩:=(I.fr.cl f hf e r).1;rw[he] at h1;cases h1;rw[hd] at h2;cases h2
  |fz o=>rw[q] at key;exact absurd trivial key
  |cell n j=>rw[q] at key;exact absurd trivial key
  |gh=>rw[q] at key;exact absurd trivial key
 have n3:C.H.get? e=none:=by
  cases q:C.H.get? e with
  |none=>rfl
  |some o=>rw[k4 e o q] at k2;cases k2
 exact ⟨oe,.note n1,I.note ⟨fun _ _ q=>q,n1,n3,he⟩,.exc vs (bU _ _ _) hc.1 hd⟩
end
noncomputable def KJ:Option (Out×az)->Option (Out×az)
 |some (.ex _ _,_)=>none
 |z=>z
def nK (K:Out->az->Prop):Out->az->Prop
 | .ex _ _,_=>False
 |o,σ=>K o σ
theorem GH {K:Out->az->Prop}:∀ {z:Option (Out×az)},io K (KJ z)->io (nK K) z
 |none,h=>h
 |some (.next _,_),h=>h
 |some (.ret _,_),h=>h
 |some (.ex _ _,_),h=>h
noncomputable def EF:Option (Out×az)->Option (Out×az)
 |some (.ret v,σ)=>some (.ret v,σ)
 |_=>none
def rK (K:Out->az->Prop):Out->az->Prop
 | .ret v,σ=>K (.ret v) σ
 |_,_=>False
theorem DG {K:Out->az->Prop}:∀ {z:Option (Out×az)},io K (EF z)->io (rK K) z
 |none,h=>h
 |some (.next _,_),h=>h
 |some (.ret _,_),h=>h
 |some (.ex _ _,_),h=>h
structure CH where
 ex:cG->Nat->bg->az->Option (Out×az)
 is:Sx->List ExceptHandler->Bool
 ok:∀ (X:SX) (hs:List ExceptHandler) (e:Addr) (c:Nat) (ρ:bg) (P:Pt) (K:Out->az->Prop) (Q:Flow->Shared->Prop) (E:Value->Shared->Prop),is X.sx hs=true->c<nX->aL X.C P->kh X.C P (X.env::X.outer) e c .none->ct X P ρ->io K (ex X.ker c ρ P.σ)->c8 X P K Q E->wpAny X.M X.A (handleBy (.ref e) X.env hs) Q E P.s
noncomputable def hN:CH:=⟨fun _ _ _ _=>none,fun _ _=>true,fun _ _ _ _ _ _ _ _ _ _ _ _ _ _ w=>w.elim⟩
noncomputable def Nu (f:Option Expr->Option Str->List Stmt->Bool):ExceptHandler->Bool
 | .ExceptHandler t y b _=>f t y b
theorem w6 (q:ExceptHandler->Prop) {f:Option Expr->Option Str->List Stmt->Bool}:∀ {h:ExceptHandler},Nu f h=true->(∀ t y b pos,f t y b=true->q (.ExceptHandler t y b pos))->q h
 | .ExceptHandler t y b pos,h,k=>k t y b pos h
noncomputable def l9 (s:Sx) (c':Nat) (t:Option Expr):Bool:=GA (dD fun n _=>n==j5 c'&&decide (c'<nX)&&ef s.sc n) t
section
variable {X:SX} {hs:List ExceptHandler} {e:Addr} {c:Nat} {K:Out->az->Prop} {Q:Flow->Shared->Prop}
theorem xH {c':Nat} {t:Option Expr} {y:Option Str} {be:List Stmt} {pos:Pos} (h:l9 X.sx c' t=true) (h17:c<nX) (I:aL X.C P) (L:kh X.C P (X.env::X.outer) e c .none)
  (k1:(c==c'||c'==0)=true->codeAny X.M (X.A.mark (some (.ref e))) (.handlers (.ref e) [.ExceptHandler none y be pos] X.env) (fun r s₂=>match r with
     | .ok f=>(match y with
      |none=>Q f s₂
      |some n=>wpAny X.M X.A (do bindName X.env n .none;unbindBehindTheSuite X.env n pos) (fun _ s₃=>Q f s₃) E s₂)
     | .error x=>cameBackBy X.M X.A X.env E x s₂) P.s)
  (k2:(c==c'||c'==0)=false->wpAny X.M X.A (handleBy (.ref e) X.env hs) Q E P.s):wpAny X.M X.A (handleBy (.ref e) X.env (.ExceptHandler t y be pos::hs)) Q E P.s:=by
 refine gf (fun t=>wpAny X.M X.A (handleBy (.ref e) X.env (.ExceptHandler t y be pos::hs)) Q E P.s) h fun t h=> ?_;refine cw (fun t=>wpAny X.M X.A (handleBy (.ref e) X.env (.ExceptHandler (some t) y be pos::hs)) Q E P.s) h fun n np h=> ?_;have h0:=bR (ai (ai h));subst h0;have hc':=S3 (an (ai h));have XX:=X.good.cls.X.keeps fun b o e=>(I.base b o e).1;refine wpAny_handleBy_cons (codeAny_handlers_test (d9 (X:=(X.up (some (.ref e))).toCx) I (an h) (X.good.exc c' hc').bound ?_)) (fun q=>by cases q);have LT:PySem.W.Looks X.M P.h (typeOf (.ref e)) (.ref (X.C.exc c)):=by
  refine bn fun G9 k9=> ?_;obtain ⟨B,k1,k2,k3,k4,k5,a0,oe,vs,T,oT,ts,he,hc,hd,_⟩:=L;refine k9 ?_;exact hc.1 ▸ (PySem.W.Looks.ld he).andThen .now
 refine (PySem.W.exm_one XX LT (X.good.exm c h17 c' hc')).here ?_;cases hm:(c==c'||c'==0) with
 |true=>exact k1 hm
 |false=>exact k2 hm
theorem ct.up (G:ct X P ρ) (v:Option Value):ct (X.up v) P ρ:=⟨⟨G.frs,G.ne,G.var⟩,G.hd⟩
theorem ct.dn {v:Option Value} (G:ct (X.up v) P ρ):ct X P ρ:=⟨⟨G.frs,G.ne,G.var⟩,G.hd⟩
noncomputable def Nr (b:Bool) (x y:Option (Out×az)):Option (Out×az):=match b with
 |true=>x
 |false=>y
theorem Nv (c':Nat) (b:CS) (r:CH) (h:iC (Nu fun t y be=>l9 X.sx c' t&&y.isNone&& !be.isEmpty&&b.is X.sx be) (r.is X.sx) hs=true) (h17:c<nX) (I:aL X.C P) (L:kh X.C P (X.env::X.outer) e c .none) (G:ct X P ρ)
  (w:io K (Nr (c==c'||c'==0) (KJ (b.ex X.ker.up ρ P.σ)) (r.ex X.ker c ρ P.σ))) (p:c8 X P K Q E):wpAny X.M X.A (handleBy (.ref e) X.env hs) Q E P.s:=by
 refine c6 (fun hs=>wpAny X.M X.A (handleBy (.ref e) X.env hs) Q E P.s) h fun hn hs h1 h2=> ?_;refine w6 (fun hn=>wpAny X.M X.A (handleBy (.ref e) X.env (hn::hs)) Q E P.s) h1 fun t y be pos h=> ?_;refine jp (fun y=>wpAny X.M X.A (handleBy (.ref e) X.env (.ExceptHandler t y be pos::hs)) Q E P.s) (an (ai (ai h))) ?_;refine xH (ai (ai (ai h))) h17 I L (fun q=> ?_) fun q=>r.ok X hs e c ρ P K Q E h2 h17 I L G (by rw[q] at w;exact w) p;rw[q] at w;cases be with
 |nil=>cases an (ai h)
 |cons b0 bt=>
 refine codeAny_handlers_suite (q_ I L fun h1 I1 L1=> ?_);have g1:=bQ.to P h1 P.s.toks;refine b.ok (X.up (some (.ref e))) _ ρ (P.to h1 P.s.toks) (nK K) _ _ (an h) I1 ((G.ext g1).up _) (GH w) ⟨fun ρ' P' g I' G' k=> ?_,fun q v P' g I' r k=> ?_,fun c ρ' e P' g I' x G' k=>k.elim⟩
 .exact p.next ρ' P' ((G.gs g1).trans g) I' G'.dn k
 .exact p.ret q v P' ((G.gs g1).trans g) I' r k
theorem Nw (c' i:Nat) (b:CS) (r:CH) (h:iC (Nu fun t y be=>l9 X.sx c' t&&GA (fun y=>X.sx.Γ.lookup y==some i&&X.sx.sc.names.lookup y==some .local) y&& !be.isEmpty&&b.is X.sx be) (r.is X.sx) hs=true) (h17:c<nX) (I:aL X.C P) (L:kh X.C P (X.env::X.outer) e c .none) (G:ct X P ρ)
  (w:io K (Nr (c==c'||c'==0) (EF (b.ex X.ker.up (ρ.set i (some (.d (.exc c)))) P.σ)) (r.ex X.ker c ρ P.σ))) (p:c8 X P K Q E):wpAny X.M X.A (handleBy (.ref e) X.env hs) Q E P.s:=by
 refine c6 (fun hs=>wpAny X.M X.A (handleBy (.ref e) X.env hs) Q E P.s) h fun hn hs h1 h2=> ?_;refine w6 (fun hn=>wpAny X.M X.A (handleBy (.ref e) X.env (hn::hs)) Q E P.s) h1 fun t y be pos h=> ?_;refine gf (fun y=>wpAny X.M X.A (handleBy (.ref e) X.env (.ExceptHandler t y be pos::hs)) Q E P.s) (an (ai (ai h))) fun y hy=> ?_;refine xH (ai (ai (ai h))) h17 I L (fun q=> ?_) fun q=>r.ok X hs e c ρ P K Q E h2 h17 I L G (by rw[q] at w;exact w) p;rw[q] at w;cases be with
 |nil=>cases an (ai h)
 |cons b0 bt=>
 refine codeAny_handlers_suite_as (q_ I L fun h1 I1 L1=> ?_);have g1:=bQ.to P h1 P.s.toks;obtain ⟨oe,g2,I2,r2⟩:=De I1 L1;have G2:=(G.ext g1).ext g2;have hl:X.sc.names.lookup y=some .local:=bR (an hy);have hb2:gH X.sc y=true:=by unfold gH;rw[hl];rfl
 refine je (X:=X.up (some (.ref e))) (p:=.d (.exc c)) (bR (ai hy)) hb2 I2 (G2.up _) r2 fun P3 g3 I3 G3 e3=> ?_;refine b.ok (X.up (some (.ref e))) _ _ P3 (rK K) _ _ (an h) I3 G3 (by rw[e3];exact DG w) ⟨fun ρ' P' g I' G' k=>k.elim,fun q v P' g I' r k=> ?_,fun c ρ' e P' g I' x G' k=>k.elim⟩;have gs:=(((G.gs g1).grow g2).trans g3).trans g;refine bn fun G9 k9=> ?_;obtain ⟨f,fr,hf,hL,hcs⟩:=G.hd;refine k9 ?_;have hlk:=gs.fs;rw[hf] at hlk;obtain ⟨f2,fr2,hf2,lk⟩:∃ f2 r2,P'.fs=f2::r2/\f.like f2:=by
  generalize P'.fs=z at hlk;obtain ⟨lk⟩:=hlk;exact ⟨_,_,rfl,lk⟩
 have hm:f2∈P'.fs:=by rw[hf2];exact .head _
 have hloc:X.env.locals=f2.L:=X.loc.trans (hL.symm.trans lk.1.symm);have hns:=(I'.fr.ns f2 hm).1;rw[<-hloc] at hns;rw[X.scE] at hl;refine wpAny_nameGoes hl hns (by rw[X.kind];rfl) fun h' m' hn' hs'=> ?_;have J:=I'.frame (t:=P'.s.toks+1) (g:={f2 with m:=m'}) hf2 ⟨rfl,rfl⟩ (a:=f2.L) (.head _) (fun b o e h=>hs'.extBut b o (by rw[hloc];exact e) h) (by rw[hloc] at hn';exact hn') fun c hc=>(I'.fr.cl f2 hm c hc).1.sameBut hs' (by rw[hloc];exact Nat.ne_of_gt (I'.fr.cl f2 hm c hc).2.2);refine p.ret q v {P'.to h' (P'.s.toks+1) with fs:={f2 with m:=m'}::fr2} (gs.trans ⟨⟨⟨h',P'.s.toks+1,rfl⟩,rfl,fun _ _ e=>e,fun _ _ e=>e,fun _ _ _ _ e=>e⟩,by rw[hf2];exact .mk ⟨rfl,rfl⟩⟩) J ?_ k;cases q with
 |d x=>exact r
 |p n j=>exact r
 |b _ _=>exact r
end
noncomputable def hC (c':Nat) (b:CS) (r:CH):CH:=⟨fun K c ρ σ=>Nr (c==c'||c'==0) (KJ (b.ex K.up ρ σ)) (r.ex K c ρ σ),fun s=>iC (Nu fun t y be=>l9 s c' t&&y.isNone&& !be.isEmpty&&b.is s be) (r.is s),fun _ _ _ _ _ _ _ _ _ h h17 I L G w p=>Nv c' b r h h17 I L G w p⟩
noncomputable def hA (c' i:Nat) (b:CS) (r:CH):CH:=⟨fun K c ρ σ=>Nr (c==c'||c'==0) (EF (b.ex K.up (ρ.set i (some (.d (.exc c)))) σ)) (r.ex K c ρ σ),fun s=>iC (Nu fun t y be=>l9 s c' t&&GA (fun y=>s.Γ.lookup y==some i&&s.sc.names.lookup y==some .local) y&& !be.isEmpty&&b.is s be) (r.is s),fun _ _ _ _ _ _ _ _ _ h h17 I L G w p=>Nw c' i b r h h17 I L G w p⟩
noncomputable def GO (h:CH) (K:cG):Option (Out×az)->Option (Out×az)
 |some (.ex c ρ,σ)=>if c<nX then h.ex K c ρ σ else none
 |z=>z
def Mr (K:Out->az->Prop) (h:CH) (k:cG):Out->az->Prop
 | .ex c ρ,σ=>c<nX/\io K (h.ex k c ρ σ)
 |o,σ=>K o σ
theorem JP {K:Out->az->Prop} {h:CH} {k:cG}:∀ {z:Option (Out×az)},io K (GO h k z)->io (Mr K h k) z
 |none,w=>w
 |some (.next _,_),w=>w
 |some (.ret _,_),w=>w
 |some (.ex c ρ,σ),w=>by
  have w:io K (if c<nX then h.ex k c ρ σ else none):=w;by_cases q:c<nX
  .rw[if_pos q] at w;exact ⟨q,w⟩
  .rw[if_neg q] at w;exact w.elim
noncomputable def AC (b:CS) (h:CH) (K:cG) (ρ:bg) (σ:az):Option (Out×az):=match K.hd with
 |true=>none
 |false=>GO h K (b.ex K ρ σ)
theorem JZ (b:CS) (h:CH) {X:SX} {st:Stmt} {ρ:bg} {P:Pt} {K:Out->az->Prop} {Q:Flow->Shared->Prop} {E:Value->Shared->Prop} (hE:A1 (fun be he el fin _=>el.isEmpty&&fin.isEmpty&& !he.isEmpty&&b.is X.sx be&&h.is X.sx he) st=true) (I:aL X.C P) (G:ct X P ρ)
  (w:io K (AC b h X.ker ρ P.σ)) (p:c8 X P K Q E):wpAny X.M X.A (PySem.exec st X.env) Q E P.s:=by
 refine zl (fun st=>wpAny X.M X.A (PySem.exec st X.env) Q E P.s) hE fun be he el fin pos h0=> ?_;refine bZ (fun el=>wpAny X.M X.A (PySem.exec (.Try be he el fin pos) X.env) Q E P.s) (ai (ai (ai (ai h0)))) ?_;refine bZ (fun fin=>wpAny X.M X.A (PySem.exec (.Try be he [] fin pos) X.env) Q E P.s) (an (ai (ai (ai h0)))) ?_;cases hd:X.hd with
 |true=>unfold AC at w;rw[show X.ker.hd=true from hd] at w;exact w.elim
 |false=>
 unfold AC at w;rw[show X.ker.hd=false from hd] at w;cases he with
 |nil=>cases an (ai (ai h0))
 |cons h₀ hs=>
 refine wpAny_Try_except (b.ok X be ρ P (Mr K h X.ker) _ _ (an (ai h0)) I G (JP w) ⟨fun ρ' P' g I' G' k=>wpAny_execs_nil (p.next ρ' P' g I' G' k),p.ret,fun c ρ' e P' g I' x G' k=> ?_⟩);obtain ⟨h1,h2⟩:=x;rw[X.fr] at h1;cases h1;refine xq X.fr X.frame I' h2 fun h1 I1 x1=> ?_;refine q_ I1 x1 fun h2 I2 L2=> ?_;have g2:=(bQ.to P' h1 P'.s.toks).trans (.to _ h2 P'.s.toks);exact h.ok X _ _ c ρ' ((P'.to h1 P'.s.toks).to h2 P'.s.toks) K Q E (an h0) k.1 I2 L2 (G'.ext g2) k.2 (p.mono (g.grow g2))
noncomputable def Ec (b:CS) (h:CH):C1:=⟨AC b h,fun s=>A1 fun be he el fin _=>el.isEmpty&&fin.isEmpty&& !he.isEmpty&&b.is s be&&h.is s he,fun _ _ _ _ _ _ _ hE I G w p=>JZ b h hE I G w p⟩
noncomputable def td (L:Addr) (n:Nat) (m:Option Nat) (a:Addr):cS->cS
 | .fr=>if L<=a then .no else .fr
 | .cell k j=>if k<n then .cell k j else if m=some k then .cell n j else .no
 |x=>x
section
variable {m:Option Nat}
theorem EY (x:cS):td L n m a x= .no∨(td L n m a x=x/\(x= .fr->a<L)/\∀ k j,x= .cell k j->k<n)∨∃ k j,x= .cell k j/\n<=k/\m=some k/\td L n m a x= .cell n j:=by
 cases x with
 |no=>exact .inl rfl
 |fz o=>exact .inr (.inl ⟨rfl,cS.noConfusion,fun _ _=>cS.noConfusion⟩)
 |gh=>exact .inr (.inl ⟨rfl,cS.noConfusion,fun _ _=>cS.noConfusion⟩)
 |fr=>
  by_cases q:L<=a
  .exact .inl (if_pos q)
  .exact .inr (.inl ⟨if_neg q,fun _=>Nat.lt_of_not_le q,fun _ _=>cS.noConfusion⟩)
 |cell k j=>
  by_cases q:k<n
  .exact .inr (.inl ⟨if_pos q,cS.noConfusion,fun k' j' e=>by cases e;exact q⟩)
  .by_cases z:m=some k
   .exact .inr (.inr ⟨k,j,rfl,Nat.le_of_not_lt q,z,(if_neg q).trans (if_pos z)⟩)
   .exact .inl ((if_neg q).trans (if_neg z))
theorem Jw {x y:cS} (h:td L n m a x=y) (hy:y≠ .no) (hc:∀ j,y≠ .cell n j):x=y/\(x= .fr->a<L)/\∀ k j,x= .cell k j->k<n:=by
 rcases EY (L:=L) (a:=a) (n:=n) (m:=m) x with q|⟨q,z⟩|⟨k,j,_,_,_,q⟩
 .exact absurd (h.symm.trans q) hy
 .exact ⟨q.symm.trans h,z⟩
 .exact absurd (h.symm.trans q) (hc j)
theorem iA {x:cS} (h:td L n m a x= .cell k j):(x= .cell k j/\k<n)∨(k=n/\∃ k',m=some k'/\n<=k'/\x= .cell k' j):=by
 rcases EY (L:=L) (a:=a) (n:=n) (m:=m) x with q|⟨q,_,z⟩|⟨k',j',e,le,em,q⟩
 .cases h.symm.trans q
 .have e:=q.symm.trans h;exact .inl ⟨e,z k j e⟩
 .cases h.symm.trans q;exact .inr ⟨rfl,k',em,le,e⟩
theorem HK {x:cS} (h:kept (td L n m a x)):kept x:=by
 rcases EY (L:=L) (a:=a) (n:=n) (m:=m) x with q|⟨q,_⟩|⟨k',j',e,_⟩
 .rw[q] at h;exact h.elim
 .rw[q] at h;exact h
 .rw[e];trivial
end
section
variable {m:Option Nat} {tl:az}
noncomputable def Pt.leave (P:Pt) (L:Addr) (n:Nat) (m:Option Nat) (tl:az) (fs:List Fm):Pt:={P with fs:=fs,own:=fun a=>td L n m a (P.own a),σ:=P.σ.take n++tl}
theorem k8 {l t:List α} (h:k<n) (hn:n<=l.length):(l.take n++t)[k]? =l[k]? :=by
 rw[S7 (by rw[List.length_take,Nat.min_eq_left hn];exact h),List.getElem?_take_of_lt h]
theorem tW {l:List α} {x:α} (hn:n<=l.length):(l.take n++[x])[n]? =some x:=by
 have e:(l.take n).length=n:=by rw[List.length_take,Nat.min_eq_left hn]
 rw[SH (Ta e),e,Nat.sub_self];rfl
def N6 (σ:az) (n:Nat) (m:Option Nat) (tl:az):Prop:=(m=none/\tl=[])∨∃ k o,m=some k/\n<=k/\σ[k]? =some o/\tl=[o]
theorem Fd (hn:n<=σ.length) (h:N6 σ n m tl) {o:PO} (e:(σ.take n++tl)[k]? =some o):(k<n/\σ[k]? =some o)∨(k=n/\∃ k',m=some k'/\n<=k'/\σ[k']? =some o):=by
 rcases Nat.lt_or_ge k n with q|q
 .rw[k8 q hn] at e;exact .inl ⟨q,e⟩
 .have el:(σ.take n).length=n:=by rw[List.length_take,Nat.min_eq_left hn]
  rw[SH (by rw[el];exact q),el] at e;rcases h with ⟨_,z⟩|⟨k',o',z1,z2,z3,z4⟩
  .rw[z] at e;cases e
  .rw[z4] at e;cases hk:k - n with
   |succ x=>rw[hk] at e;cases e
   |zero=>
    rw[hk] at e;cases e;exact .inr ⟨by exact Nat.le_antisymm (Nat.sub_eq_zero_iff_le.mp hk) q,k',z1,z2,z3⟩
theorem aL.leave (I:aL C P) (hf:P.fs=g::fs) (hn:n<=P.σ.length) (ht:N6 P.σ n m tl):aL C (P.leave g.L n m tl fs):=by
 have ord:=I.fr.ord;rw[hf] at ord;obtain ⟨o1,o2⟩:=List.pairwise_cons.mp ord;have lt:∀ k∈fs,∀ b∈k.adr,td g.L n m b .fr= .fr:=fun k hk b hb=>if_neg (Nat.not_le.mpr (o1 k hk b hb));have fz:Fz P.own (P.leave g.L n m tl fs).own:=fun b o e=>by show td g.L n m b (P.own b)=_;rw[e];rfl
 refine ⟨fun b o e=>⟨(I.base b o e).1,?_⟩,fun b o e=>I.fz b o (Jw e cS.noConfusion fun _=>cS.noConfusion).1,fun b e=>I.live b fun q=>e ?_,⟨fun f h=> ?_,fun f h c hc=> ?_,o2,fun b e=> ?_⟩,I.gh.mv fz fun b o e q=>⟨?_,q⟩,fun a b k j e f=> ?_,fun a k j e=> ?_,fun k o e=> ?_⟩
 .show td g.L n m b (P.own b)=_;rw[(I.base b o e).2];rfl
 .show td g.L n m b (P.own b)=_;rw[q];rfl
 .obtain ⟨x,y,z⟩:=I.fr.ns f (by rw[hf];exact .tail _ h);exact ⟨x,by show td g.L n m f.L (P.own f.L)=_;rw[y];exact lt f h _ (.head _),z⟩
 .obtain ⟨x,y,z⟩:=I.fr.cl f (by rw[hf];exact .tail _ h) c hc;exact ⟨x,by show td g.L n m c (P.own c)=_;rw[y];exact lt f h _ (.tail _ hc),z⟩
 .obtain ⟨x,y,_⟩:=Jw e cS.noConfusion fun _=>cS.noConfusion;obtain ⟨f,h,z⟩:=I.fr.all b x;rw[hf] at h;rcases Sj.mp h with q|q
  .subst q;have lb:=y x;rcases Sj.mp z with z|z
   .rw[z] at lb;exact absurd lb (S4 _)
   .exact absurd (Th lb (I.fr.cl f (by rw[hf];exact .head _) b z).2.2) (S4 _)
  .exact ⟨f,q,z⟩
 .show td g.L n m b (P.own b)=_;rw[e];rfl
 .rcases iA e with ⟨e1,e2⟩|⟨e1,k1,e2,e3,e4⟩<;>rcases iA f with ⟨f1,f2⟩|⟨f1,k2,f2,f3,f4⟩
  .exact I.one a b k j e1 f1
  .exact absurd f1 (Nat.ne_of_lt e2)
  .exact absurd e1 (Nat.ne_of_lt f2)
  .rw[e2] at f2;cases f2;exact I.one a b k1 j e4 f4
 .rcases iA e with ⟨e1,e2⟩|⟨e1,k1,e2,e3,e4⟩
  .obtain ⟨o,h1,h2⟩:=I.bd a k j e1;exact ⟨o,by show (P.σ.take n++tl)[k]? =_;rw[k8 e2 hn];exact h1,h2⟩
  .obtain ⟨o,h1,h2⟩:=I.bd a k1 j e4;rcases ht with ⟨z,_⟩|⟨k',o',z1,z2,z3,z4⟩
   .rw[z] at e2;cases e2
   .rw[z1] at e2;cases e2;rw[h1] at z3;cases z3;exact ⟨o,by show (P.σ.take n++tl)[k]? =_;rw[e1,z4];exact tW hn,h2⟩
 .rcases Fd hn ht e with ⟨e1,e2⟩|⟨e1,k',e2,e3,e4⟩
  .exact (I.obj k o e2).mv fz fun b j o e q=>⟨by show td g.L n m b (P.own b)=_;rw[e];exact if_pos e1,q⟩
  .subst e1;exact (I.obj k' o e4).mv fz fun b j o e q=>⟨by show td g.L k m b (P.own b)=_;rw[e];exact (if_neg (Tm.mpr e3)).trans (if_pos e2),q⟩
theorem bQ.leave (x:Ext P₀ P) (hn:P₀.σ.length<=P.σ.length):bQ P₀ (P.leave L P₀.σ.length m tl P₀.fs):=by
 refine ⟨⟨x.sm,x.G,fun b o e=>by show td L _ m b (P.own b)=_;rw[x.fz b o e];rfl,fun k j v=> ?_,fun k j a v e=> ?_⟩,rfl⟩
 .obtain ⟨o,h1,h2⟩:=x.val k j v;exact ⟨o,by show (P.σ.take _++tl)[k]? =_;rw[k8 v.lt hn];exact h1,h2⟩
 .rcases iA e with ⟨e1,_⟩|⟨e1,_⟩
  .exact x.cell k j a v e1
  .exact absurd v.lt (by rw[e1];exact S4 _)
theorem Ext.len (x:Ext P₀ P):P₀.σ.length<=P.σ.length:=by
 cases h:P₀.σ.length with
 |zero=>exact SN _
 |succ k=>
  have hk:k<P₀.σ.length:=by rw[h];exact Nat.lt_succ_self k
  have v:∃ j,dh P₀.σ k j:=by
   cases q:P₀.σ[k] with
   |fld f=>exact ⟨0,_,Sn hk,by rw[q];rfl⟩
   |rcd b l=>exact ⟨0,_,Sn hk,by rw[q];exact Nat.succ_pos _⟩
   |dead=>exact ⟨0,_,Sn hk,by rw[q];trivial⟩
   |wrp f=>exact ⟨0,_,Sn hk,by rw[q];exact Nat.zero_lt_succ _⟩
  obtain ⟨j,v⟩:=v;exact (x.val k j v).lt
theorem vE.leave {e:Addr} {c:Nat} (hA:A.frames=some ls):tS C P ls e c->vE C A (P.leave L n m tl fs) c (.ref e):=fun h=>by
 obtain ⟨B,k1,k2,k3,k4,k5,k6⟩:=h;exact .mk hA ⟨B,k1,k2,k3,k4,fun b o q=>k5 b o (HK q),k6⟩
def eK (K:R PV->az->Prop) (keep:Bool) (n:Nat):Out->az->Prop
 | .next _,σ=>K (.ok (.d .none)) (σ.take n)
 | .ret v,σ=>Wp K (Kk keep n v σ)
 | .ex c _,σ=>K (.ex c) (σ.take n)
theorem JV:∀ {z:Option (Out×az)},Wp K (FQ keep n z)->io (eK K keep n) z
 |none,h=>h
 |some (.next _,_),h=>h
 |some (.ret _,_),h=>h
 |some (.ex _ _,_),h=>h
theorem Er {x:D} {o:PO} (w:Wp K (G_ n σ x (some o))):∃ l,o= .rcd true l/\Wp K (some (.ok (.b n x),σ.take n++[.rcd true l])):=by
 cases o with
 |rcd c l=>
  cases c with
  |true=>exact ⟨l,rfl,w⟩
  |false=>exact w.elim
 |_=>exact w.elim
theorem Ep {o:PO} (w:Wp K (Cd keep n σ j (some o))):j=0/\(Wp K (some (.ok (.p n 0),σ.take n++[o]))∨∃ f,o= .fld f/\((∃ z,f= .d z)∨∃ z,f.rd=some z/\Wp K (some (.ok (.d z),σ.take n)))):=by
 cases j with
 |succ _=>exact w.elim
 |zero=>
 refine ⟨rfl,?_⟩;cases o with
 |fld f=>
  cases keep with
  |true=>exact .inl w
  |false=>
   refine .inr ⟨f,rfl,?_⟩;cases f with
   |d z=>exact .inl ⟨z,rfl⟩
   |list l=>exact .inr ⟨_,rfl,w⟩
   |dict a b=>exact .inr ⟨_,rfl,w⟩
 |rcd b l=>cases keep<;>exact .inl w
 |dead=>cases keep<;>exact .inl w
 |wrp f=>cases keep<;>exact .inl w
theorem yw (I:aL C P) (x:Ext P₀ P) (hf:P.fs=g::P₀.fs) (r:RV C P v p) (w:Wp K (Kk keep P₀.σ.length p P.σ)) (k:∀ p P',bQ P₀ P'->aL C P'->RV C P' v p->K (.ok p) P'.σ->Q v P'.s):Q v P.s:=by
 have hn:=x.len;have nil:∀ σ:az,σ.take P₀.σ.length++[]=σ.take P₀.σ.length:=fun σ=>List.append_nil _;cases p with
 |d z=>exact k (.d z) (P.leave g.L P₀.σ.length none [] P₀.fs) (.leave x hn) (I.leave hf hn (.inl ⟨rfl,rfl⟩)) (RD.ext (fun b o e=>by show td g.L _ none b (P.own b)=_;rw[e];rfl) r) (by show K _ (P.σ.take _++[]);rw[nil];exact w)
 |b m y=>
  have fz:Fz P.own (P.leave g.L P₀.σ.length (some m) [] P₀.fs).own:=fun b o e=>by show td g.L _ (some m) b (P.own b)=_;rw[e];rfl
  by_cases q:m<P₀.σ.length
  .have w:Wp K (if m<P₀.σ.length then none else G_ P₀.σ.length P.σ y P.σ[m]?):=w;rw[if_pos q] at w;exact w.elim
  .have q:=Nat.le_of_not_lt q;have w:Wp K (if m<P₀.σ.length then none else G_ P₀.σ.length P.σ y P.σ[m]?):=w;rw[if_neg (Tm.mpr q)] at w;obtain ⟨⟨o,h1,h2⟩,t,u,z,k',e,f,gg,r⟩:=r;rw[h1] at w;obtain ⟨l,rfl,w2⟩:=Er w;refine k (.b P₀.σ.length y) (P.leave g.L P₀.σ.length (some m) [.rcd true l] P₀.fs) (.leave x hn) (I.leave hf hn (.inr ⟨m,_,rfl,q,h1,rfl⟩)) ⟨⟨_,tW hn,h2⟩,t,u,z,k',e,fz _ _ f,fun a e'=> ?_,RD.ext fz r⟩ w2;rcases iA e' with ⟨_,e1⟩|⟨_,k'',e1,_,e2⟩
   .exact absurd e1 (S4 _)
   .cases e1;exact gg a e2
 |p m j=>
  by_cases q:m<P₀.σ.length
  .have w:Wp K (if m<P₀.σ.length then some (.ok (.p m j),P.σ.take P₀.σ.length) else _):=w;rw[if_pos q] at w;refine k (.p m j) (P.leave g.L P₀.σ.length none [] P₀.fs) (.leave x hn) (I.leave hf hn (.inl ⟨rfl,rfl⟩)) ⟨?_,fun a e=> ?_⟩ (by show K _ (P.σ.take _++[]);rw[nil];exact w)
   .obtain ⟨o,h1,h2⟩:=r.1;exact ⟨o,by show (P.σ.take _++[])[m]? =_;rw[k8 q hn];exact h1,h2⟩
   .rcases iA e with ⟨e1,_⟩|⟨e1,_⟩
    .exact r.2 a e1
    .omega
  .have q:=Nat.le_of_not_lt q;have w:Wp K (if m<P₀.σ.length then some (.ok (.p m j),P.σ.take P₀.σ.length) else Cd keep P₀.σ.length P.σ j P.σ[m]?):=w;rw[if_neg (Tm.mpr q)] at w;obtain ⟨o,h1,h2⟩:=r.1;rw[h1] at w;obtain ⟨j0,w2|⟨f,e1,⟨z,e2⟩|⟨z,e2,w2⟩⟩⟩:=Ep w
   .subst j0;refine k (.p P₀.σ.length 0) (P.leave g.L P₀.σ.length (some m) [o] P₀.fs) (.leave x hn) (I.leave hf hn (.inr ⟨m,o,rfl,q,h1,rfl⟩)) ⟨⟨o,tW hn,h2⟩,fun a e=> ?_⟩ w2;rcases iA e with ⟨_,e1⟩|⟨_,k',e1,_,e2⟩
    .exact absurd e1 (S4 _)
    .cases e1;exact r.2 a e2
   .rw[e1,e2] at h1;obtain ⟨_,_,_,h⟩:∃ v,jS C P.own P.h m 0 (.d z) v:=I.obj m _ h1;exact h.elim
   .subst e1;subst j0;have e4:zq (.p m 0) P.σ=some (.d z,P.σ.set m .dead):=by
     show (((P.σ[m]?).bind fun o=>o.at 0).bind fun f=>f.rd.map fun x=>(PV.d x,P.σ.set m PO.dead))=_;rw[h1];show (f.rd.map fun x=>(PV.d x,P.σ.set m PO.dead))=_;rw[e2];rfl
    obtain ⟨P',g',I',e5,e6,kk⟩:=Fr I e4;have x':=x.trans g'.toExt;rw[<-e6];refine k (.d z) (P'.leave g.L P₀.σ.length none [] P₀.fs) (.leave x' x'.len) (I'.leave (g'.fs.trans hf) x'.len (.inl ⟨rfl,rfl⟩)) (RD.ext (fun b o e=>by show td g.L _ none b (P'.own b)=_;rw[e];rfl) (kk v r)) ?_;show K _ (P'.σ.take _++[]);rw[nil,e5,List.take_set_of_le q];exact w2
end
theorem iT {α:Type}:∀ {ns:List Str} {vs:List α} {n:Str},n∈ns->ns.length=vs.length->((ns.zip vs).lookup n).isSome=true
 |[],_,_,h,_=>nomatch h
 |a::r,[],_,_,h=>by simp at h
 |a::r,v::vs,n,h,hl=>by
  rw[List.zip_cons_cons,List.lookup_cons];cases e:n==a with
  |true=>rfl
  |false=>
   refine iT ?_ (by simpa using hl);rcases Sj.mp h with q|q
   .subst q;simp at e
   .exact q
theorem m4 {f g:α->Option β}:∀ {l:List α},(∀ x∈l,f x=g x)->l.filterMap f=l.filterMap g:=by
 intro l
 induction l with
 |nil=>
  intro _;exact rfl
 |cons a r ih=>
  intro h;rw[List.filterMap_cons,List.filterMap_cons,h a (.head _),ih fun x hx=>h x (.tail _ hx)]
theorem kz {α:Type}:∀ {ns:List Str} {vs:List α},ns.Nodup->ns.length=vs.length->ns.filterMap (fun n=>((ns.zip vs).lookup n).map (n,·))=ns.zip vs
 |[],_,_,_=>by simp
 |a::r,[],_,h=>by simp at h
 |a::r,v::vs,hn,hl=>by
  rw[List.filterMap_cons];have h0:(((a::r).zip (v::vs)).lookup a).map (a,·)=some (a,v):=by simp [List.lookup_cons]
  rw[h0];simp only [List.zip_cons_cons];congr 1;rw[m4 (g:=fun n=>((r.zip vs).lookup n).map (n,·)) fun n hnr=> ?_]
  .exact kz (S6.mp hn).2 (by simpa using hl)
  .rw[List.lookup_cons];have:(n==a)=false:=beq_eq_false_iff_ne.mpr fun e=>(S6.mp hn).1 (e ▸ hnr);rw[this]
theorem QS {γ:Type} {l:List α} {b:β} {f:α->β->Sem (ForInStep β)} {g:β->Sem γ} (h:l=[]):(forIn l b f>>=g)=g b:=by subst h;rfl
theorem l_ {fd:FuncData} {vals:List Value} {names:List Str} (h1:fd.params.posonlyargs=[]) (h2:fd.params.kwonlyargs=[]) (h3:fd.params.vararg=none) (h4:fd.params.kwarg=none) (h5:fd.params.args.map (·.arg)=names)
  (h6:fd.defaults= .none) (hl:names.length=vals.length) (hn:names.Nodup):bindArgs fd ⟨vals,[]⟩=pure (names.zip vals):=by
 obtain ⟨f1,f2,⟨p1,p2,p3,p4,p5,p6,p7⟩,f4,f5,f6,f7,f8,f9,f10,f11,f12,f13,f14,f15⟩:=fd;dsimp only at h1 h2 h3 h4 h5 h6;subst h1 h2 h3 h4 h5 h6;have hm:((p2.map (·.arg)).take ((p2.map (·.arg)).length - ([]:List Value).length)).filter (fun n=>(((p2.map (·.arg)).zip vals).lookup n).isNone)=[]:=by
  rw[Tb,Nat.sub_zero,List.take_length];refine List.filter_eq_nil_iff.mpr fun n hnm=> ?_;have:=iT hnm hl;cases e:((p2.map (·.arg)).zip vals).lookup n with
  |none=>rw[e] at this;cases this
  |some=>exact SI
 have hd:([]:List Value).drop (([]:List Value).length - (p2.map (·.arg)).length)=[]:=List.drop_nil;refine (if_neg ?_).trans ?_
 .show¬(decide (vals.length>(p2.map (·.arg)).length)&&true)=true;rw[hl,Tc (S4 _)];exact SI
 refine (if_neg ?_).trans ?_
 .show¬(!(((p2.map (·.arg)).take ((p2.map (·.arg)).length - (([]:List Value).drop (([]:List Value).length - (p2.map (·.arg)).length)).length)).filter fun n=>(((p2.map (·.arg)).zip vals).lookup n).isNone).isEmpty)=true;rw[hd,hm];exact SI
 refine (QS ?_).trans ?_
 .show ((p2.map (·.arg)).drop _).zip (([]:List Value).drop (([]:List Value).length - (p2.map (·.arg)).length))=[];rw[hd,List.zip_nil_right]
 show (pure (((p2.map (fun x:Arg=>x.arg))++[]).filterMap fun n=>(((p2.map (fun x:Arg=>x.arg)).zip vals).lookup n).map (n,·)):Sem _)=_;rw[List.append_nil,kz hn hl]
theorem wc [BEq α] [LawfulBEq α]:∀ {l:List α},pT l=true->l.Nodup:=by
 intro l
 induction l with
 |nil=>
  intro _;exact S9
 |cons a r ih=>
  intro h;have h:(!r.contains a&&pT r)=true:=h;simp only [Bool.and_eq_true,Bool.not_eq_true'] at h;exact S6.mpr ⟨fun q=>by rw[List.contains_iff_mem.mpr q] at h;exact absurd h.1 (by simp),ih h.2⟩
theorem Fo:∀ {Γ:Gw},(Γ.map (·.2)).Nodup->RL Γ
 |[],_=>fun x y i h=>by cases h
 |(a,j)::r,hn=>fun x y i h1 h2=>by
  have ih:=Fo (S6.mp hn).2;have hj:∀ z,r.lookup z≠some j:=fun z q=>(S6.mp hn).1 (SA.mpr ⟨(z,j),PySem.mem_of_lookup q,rfl⟩);rw[List.lookup_cons] at h1 h2;cases e1:x==a<;>cases e2:y==a<;>rw[e1] at h1<;>rw[e2] at h2
  .exact ih x y i h1 h2
  .cases h2;exact absurd h1 (hj x)
  .cases h1;exact absurd h2 (hj y)
  .rw[beq_iff_eq.mp e1,beq_iff_eq.mp e2]
noncomputable def Ol (Γ:Gw) (sc:Scope):Nat->List Arg->Bool
 |_,[]=>true
 |k,a::r=>Γ.lookup a.arg==some k&&gH sc a.arg&&Ol Γ sc (k+1) r
structure oJ where
 id:Nat
 nm:Str
 mth:Bool
 Γ:Gw
 params:Nat
 slots:Nat
 keep:Bool
 body:CS
noncomputable def oJ.pf (r:oJ):PF:=⟨r.params,r.slots,r.keep,r.body.ex⟩
noncomputable def Om (s:Sx) (r:oJ) (ps:Arguments) (body:List Stmt):Bool:=
 ps.posonlyargs.isEmpty&&ps.kwonlyargs.isEmpty&&ps.vararg.isNone&&ps.kwarg.isNone&&ps.args.length==r.params&&Ol r.Γ s.sc 0 ps.args&&pT (ps.args.map (·.arg))&&
 pT (r.Γ.map (·.2))&&s.sc.kind== .function&& !s.sc.isCoroutine&& !s.sc.isGenerator&&r.body.is s body
noncomputable def A2 (a:Addr):Value->Bool
 | .ref b=>b==a
 |_=>false
theorem Fl (h:A2 a v=true):v= .ref a:=by
 cases v<;>first|exact congrArg Value.ref (bR h)|cases h
noncomputable def CX (l:Option xY) (cd:Value) (q:Str):Option xY:=l.bind fun z=>if (A2 z.c cd&&(q++".<locals>."++"<lambda>"==z.qual))=true then some z else none
theorem CW {l:Option xY} {cd:Value} {q:Str} {z:xY} (h:CX l cd q=some z):l=some z/\cd= .ref z.c/\q++".<locals>."++"<lambda>"=z.qual:=by
 cases l with
 |none=>cases h
 |some y=>
  have h:(if (A2 y.c cd&&(q++".<locals>."++"<lambda>"==y.qual))=true then some y else none)=some z:=h;by_cases k:(A2 y.c cd&&(q++".<locals>."++"<lambda>"==y.qual))=true
  .rw[if_pos k] at h;cases h;exact ⟨rfl,Fl (ai k),bR (an k)⟩
  .rw[if_neg k] at h;cases h
def Q7 (C:bH) (r:oJ) (a:Addr):Prop:=∃ o fd body,C.H.get? a=some o/\o.data= .func fd/\C.H.CodeRec fd.code fd.qualname/\fd.body= .stmts body/\fd.closure=[]/\fd.globals=mainGlobals/\fd.builtins=builtinsNs/\fd.defaults= .none/\
 Om ⟨C.fnm,C.att,C.key,C.gls,fd.scope,r.Γ,CX C.lam fd.code fd.qualname⟩ r fd.params body=true
def Ap (C:bH):Prop:=∀ f pf,C.T f=some pf->∃ r:oJ,pf=r.pf/\Q7 C r (C.fadr f)
theorem tI {kindOf:Str->Option NameKind}:∀ {ns:List Str} {vs:List Value} {m:Str->Option Value} {k:Nat} {x:Str} {v:Value},ns.Nodup->ns[k]? =some x->vs[k]? =some v->kindOf x=some .local->bindL kindOf (ns.zip vs) m x=some v
 |[],_,_,_,_,_,_,h,_,_=>by simp at h
 |a::r,[],_,_,_,_,_,_,h,_=>by simp at h
 |a::r,u::vs,m,k,x,v,hn,h1,h2,hk=>by
  rw[List.zip_cons_cons,bindL];cases k with
  |zero=>
   simp at h1 h2;subst h1;subst h2;rw[if_pos hk];have keep:∀ (l:List (Str×Value)) (m:Str->Option Value),a∉l.map (·.1)->bindL kindOf l m a=m a:=by
    intro l
    induction l with
    |nil=>intro m _;rfl
    |cons p l ih=>
     intro m hm;obtain ⟨n,w⟩:=p;rw[bindL,ih _ fun q=>hm (.tail _ q)];split
     .exact if_neg (fun e:a=n=>hm (by rw[e];exact .head _))
     .rfl
   rw[keep _ _ fun q=>(S6.mp hn).1 (by
    obtain ⟨p,hp,e⟩:=SA.mp q;exact e ▸ (List.of_mem_zip hp).1)]
   simp
  |succ k=>exact tI (S6.mp hn).2 (by simpa using h1) (by simpa using h2) hk
theorem tJ {kindOf:Str->Option NameKind}:∀ {ns:List Str} {vs:List Value} {m:Str->Option Value} {k:Nat} {x:Str} {v:Value},ns.Nodup->ns[k]? =some x->vs[k]? =some v->kindOf x=some .cell->bindC kindOf (ns.zip vs) m x=some v
 |[],_,_,_,_,_,_,h,_,_=>by simp at h
 |a::r,[],_,_,_,_,_,_,h,_=>by simp at h
 |a::r,u::vs,m,k,x,v,hn,h1,h2,hk=>by
  rw[List.zip_cons_cons,bindC];cases k with
  |zero=>
   simp at h1 h2;subst h1;subst h2;rw[if_neg (by rw[hk];decide)];have keep:∀ (l:List (Str×Value)) (m:Str->Option Value),a∉l.map (·.1)->bindC kindOf l m a=m a:=by
    intro l
    induction l with
    |nil=>intro m _;rfl
    |cons p l ih=>
     intro m hm;obtain ⟨n,w⟩:=p;rw[bindC,ih _ fun q=>hm (.tail _ q)];split
     .rfl
     .exact if_neg (fun e:a=n=>hm (by rw[e];exact .head _))
   rw[keep _ _ fun q=>(S6.mp hn).1 (by
    obtain ⟨p,hp,e⟩:=SA.mp q;exact e ▸ (List.of_mem_zip hp).1)]
   simp
  |succ k=>exact tJ (S6.mp hn).2 (by simpa using h1) (by simpa using h2) hk
theorem A3 {Γ:Gw}:∀ {l:List Arg} {k:Nat},Ol Γ sc k l=true->∀ j a,l[j]? =some a->Γ.lookup a.arg=some (k+j)/\gH sc a.arg=true:=by
 intro l
 induction l with
 |nil=>
  intro _ _ j a e;simp at e
 |cons b r ih=>
  intro k h j a e;have h:(Γ.lookup b.arg==some k&&gH sc b.arg&&Ol Γ sc (k+1) r)=true:=h;simp only [Bool.and_eq_true,beq_iff_eq] at h;cases j with
  |zero=>simp at e;subst e;exact h.1
  |succ j=>
   have:=ih h.2 j a (by simpa using e);rw[show k+1+j=k+(j+1) by exact Nb] at this;exact this
noncomputable def pi (cs:List (Str×Addr)):List Addr:=(cs.filter fun p=>cs.lookup p.1==some p.2).map (·.2)
noncomputable def FW (cs:List (Str×Addr)) (cm:Str->Option Value) (c:Addr):Option Value:=match cs.find? fun p=>p.2==c with
 |some p=>cm p.1
 |none=>none
theorem xC {cs:List (Str×Addr)} {cm:Str->Option Value} {x:Str} {c:Addr} (hp:cs.Pairwise fun x y=>x.2≠y.2) (h:cs.lookup x=some c):FW cs cm c=cm x:=by
 have hm:=PySem.mem_of_lookup h;unfold FW;cases e:cs.find? fun p=>p.2==c with
 |none=>exact absurd (List.find?_eq_none.mp e _ hm) (by simp)
 |some p=>
  have h1:=List.mem_of_find?_eq_some e;have h2:p.2=c:=by simpa using List.find?_some e
  rw[PySem.name_of_addr hp hm (n':=p.1) (by rw[<-h2];exact h1)]
theorem kZ.length (h:kZ C P ps vs):vs.length=ps.length:=by
 induction h with
 |nil=>rfl
 |cons _ _ ih=>exact congrArg Nat.succ ih
theorem kZ.get (h:kZ C P ps vs):∀ {k:Nat} {p:PV},ps[k]? =some p->∃ v,vs[k]? =some v/\RV C P v p:=by
 induction h with
 |nil=>exact fun e=>nomatch e
 |cons h _ ih=>
  intro k p e;cases k with
  |zero=>cases e;exact ⟨_,rfl,h⟩
  |succ k=>exact ih (k:=k) e
theorem Dr {d:Nat} (G:fh C) (hF:Ap C) (hS:vC C d):vC C (d+1):=by
 intro hd A P f args vs K Q E hfrs hX hdep huni hhnd I hargs w p;have w:Wp K ((match C.T f with
  |some pf=>Kh ⟨kB C.T d,hd⟩ pf args
  |none=>fun _=>none) P.σ):=w
 cases hT:C.T f with
 |none=>rw[hT] at w;exact w.elim
 |some pf=>
 rw[hT] at w;obtain ⟨rw,hpf,o,fd,body,ho,hdata,hcd,hbody,hclo,hgl,hbl,hdf,hf⟩:=hF f pf hT;subst hpf;simp only [Om,Bool.and_eq_true,beq_iff_eq,List.isEmpty_iff,Option.isNone_iff_eq_none,Bool.not_eq_true'] at hf;obtain ⟨⟨⟨⟨⟨⟨⟨⟨⟨⟨⟨p1,p2⟩,p3⟩,p4⟩,p5⟩,p6⟩,p7⟩,p8⟩,p9⟩,p10⟩,p11⟩,p12⟩:=hf;have w:Wp K (if args.length=rw.params then FQ rw.keep P.σ.length (rw.body.ex ⟨kB C.T d,hd⟩ (args.map some++List.replicate (rw.slots - rw.params) none) P.σ) else none):=w;by_cases hlen:args.length=rw.params
 case neg=>rw[if_neg hlen] at w;exact w.elim
 rw[if_pos hlen] at w;have base:∀ b o,C.H.get? b=some o->P.h.get? b=some o:=fun b o e=>(I.base b o e).1;have hvl:vs.length=args.length:=hargs.length;have hnm:(fd.params.args.map (·.arg)).length=vs.length:=by simp [p5,hvl,hlen]
 have hnd:=wc p7;have hkinds:∀ x∈(fd.params.args.map (·.arg)).zip vs,fd.scope.names.lookup x.1=some .local∨fd.scope.names.lookup x.1=some .cell:=fun x hx=>by
  obtain ⟨a,ha,e⟩:=SA.mp (List.of_mem_zip hx).1;obtain ⟨j,hj⟩:=List.mem_iff_getElem?.mp ha;have:=(A3 p6 j a hj).2;rw[<-e]
  simpa [gH] using this
 refine (codeAny_call_cells (Pe hdep) (base _ _ ho) hdata (G.nolimit.keeps base) (hcd.keeps base) hbody (l_ p1 p2 p3 p4 rfl hdf hnm hnd) hclo ?_ (fun s₁ x=> ?_) p10 p11 p9)
 .intro x hx;rcases hkinds x hx with h|h
  .exact .inl h
  .exact .inr ⟨h,PySem.W.cellsFrom_some _ _ _ (.inl h)⟩
 .generalize henv:callEnvC fd P.h.objs.size (C.fadr f)=env' at x ⊢;have e1:env'.locals=P.h.objs.size:=by rw[<-henv];rfl
  have e2:env'.frame=some P.h.objs.size:=by rw[<-henv];rfl
  have e3:env'.scope=fd.scope:=by rw[<-henv];rfl
  have e4:env'.globals=mainGlobals:=by rw[<-henv,<-hgl];rfl
  have e5:env'.builtins=builtinsNs:=by rw[<-henv,<-hbl];rfl
  have e6:env'.cells=cellsFrom (P.h.objs.size+1) fd.scope.names []:=by rw[<-henv];rfl
  obtain ⟨h₁,t₁,es⟩:=x.toInCall.same;generalize hg:(⟨P.h.objs.size,bindL env'.kindOf ((fd.params.args.map (·.arg)).zip vs) fun _=>none,pi env'.cells,FW env'.cells (bindC env'.kindOf ((fd.params.args.map (·.arg)).zip vs) fun _=>none)⟩:Fm)=g;have gL:g.L=P.h.objs.size:=by rw[<-hg]
  have gc:g.cells=pi env'.cells:=by rw[<-hg]
  have hcm:∀ c∈pi env'.cells,∃ y,env'.cells.lookup y=some c:=fun c hc=>by
   obtain ⟨p,hp,rfl⟩:=SA.mp hc;exact ⟨p.1,by simpa using (List.mem_filter.mp hp).2⟩
  have hmc:∀ y c,env'.cells.lookup y=some c->c∈pi env'.cells:=fun y c hc=>SA.mpr ⟨(y,c),List.mem_filter.mpr ⟨PySem.mem_of_lookup hc,by simpa using hc⟩,rfl⟩;have abv:∀ c∈g.cells,g.L<c:=fun c hc=>by
   rw[gc] at hc;obtain ⟨y,hy⟩:=hcm c hc;have:=x.above y c (PySem.mem_of_lookup hy);rw[gL,<-e1];exact this
  have eh:s₁.heap=h₁:=by rw[es]
  have J:aL C (P.enter h₁ t₁ g):=by
   refine I.enter hX (by rw[<-eh];exact x.toInCall.keep) (Ta gL.symm) (by rw[<-hg,<-eh];rw[e1] at x;exact x.toInCall.ns) fun c hc=>⟨?_,abv c hc⟩;have hc':=hc;rw[gc] at hc';obtain ⟨y,hy⟩:=hcm c hc';rw[<-hg,<-eh];show s₁.heap.IsCell c (FW _ _ c);rw[xC x.apart hy];exact x.cell y c hy
  have xE:Ext P (P.enter h₁ t₁ g):=.enter I fun b o e q=>by
   have lt:=SR e;rcases Sj.mp q with z|z
   .rw[z,gL] at lt;exact S4 _ lt
   .have:=abv b z;rw[gL] at this;exact S4 _ (Th lt this)
  obtain ⟨ls,hls,hfr⟩:=hfrs;have hcell:∀ y,env'.kindOf y=some .cell->∃ c,env'.cells.lookup y=some c/\c∈g.cells:=fun y hy=>by
   have hk:fd.scope.names.lookup y=some .cell:=by rw[<-e3];exact hy
   have:=PySem.W.cellsFrom_some (x:=y) fd.scope.names (P.h.objs.size+1) [] (.inl hk);rw[<-e6] at this;obtain ⟨c,hc⟩:=Option.isSome_iff_exists.mp this;exact ⟨c,hc,gc ▸ hmc y c hc⟩
  have hinj:=Fo (wc p8);have fr:(A.deeper env').frames=some (env'::ls):=by simp [Around.deeper,hls]
  let X:SX:={C:=C,A:=A.deeper env',env:=env',sc:=env'.scope,Γ:=rw.Γ,d:=d,hd:=hd,good:=G,calls:=hS,kinds:=fun y=>⟨id,fun h=>bR (ai h),fun h=>⟨h,(hcell y h).imp fun _ q=>q.1⟩⟩,kind:=(by rw[e3];exact p9),glob:=e4,blt:=e5,dep:=(by show A.depth+1+8*d+150<recursionLimit;exact Pd hdep),uni:=(by show A.units+3+64*d+1000<cLine;exact Pc huni),hnd:=hhnd,lm:=CX C.lam fd.code fd.qualname,outer:=ls,L:=g.L,cs:=g.cells,fr:=fr,loc:=(by rw[gL];exact e1),frame:=(by rw[gL];exact e2),cell:=hcell,apart:=fun y z c h1 h2=>PySem.name_of_addr x.apart (PySem.mem_of_lookup h1) (PySem.mem_of_lookup h2),inj:=hinj,scE:=rfl,dep2:=(by show A.depth+1+8*d+151<recursionLimit;exact Pb hdep),uni2:=(by show A.units+3+64*d+1005<cLine;exact O' huni),lmE:=fun l h=>(by obtain ⟨a,b,c⟩:=CW h;exact ⟨a,by rw[<-henv];exact b,by rw[<-henv];exact c⟩)}
  have hE:ct X (P.enter h₁ t₁ g) (args.map some++List.replicate (rw.slots - rw.params) none):=by
   refine ⟨⟨⟨env'::ls,fr,fun z hz=> ?_⟩,fun q=>(by cases q),fun y i p hy hm hp=> ?_⟩,⟨g,P.fs,rfl,rfl,rfl⟩⟩
   .rcases Sj.mp hz with q|hz
    .rw[q];exact ⟨by rw[e3,p9];decide,g,.head _,by rw[gL];exact e2⟩
    .obtain ⟨k,q,hq,e⟩:=hfr z hz;exact ⟨k,q,.tail _ hq,e⟩
   have hi:i<args.length:=by
    rcases Nat.lt_or_ge i args.length with h|h
    .exact h
    .rw[SH (by simpa using h)] at hp;obtain ⟨hh,e⟩:=Sl.mp hp;rw[List.getElem_replicate] at e;cases e
   rw[S7 (by simpa using hi),SB] at hp;obtain ⟨q,hq,e⟩:=S8.mp hp;cases e;obtain ⟨v,hv,hr⟩:=hargs.get hq;have hi':i<fd.params.args.length:=by rw[p5];exact QJ hlen hi
   obtain ⟨a,ha⟩:∃ a,fd.params.args[i]? =some a:=⟨_,Sn hi'⟩;obtain ⟨h1,h2⟩:=A3 p6 i a ha;rw[Td] at h1;have hya:=hinj _ _ _ hy h1;subst hya;have hn:(fd.params.args.map (·.arg))[i]? =some a.arg:=by rw[SB,ha];rfl
   refine ⟨v,hr.ext xE,?_⟩;rw[gH,Bool.or_eq_true,beq_iff_eq,beq_iff_eq] at h2;have h2:env'.kindOf a.arg=some NameKind.«local»∨env'.kindOf a.arg=some .cell:=by unfold Env.kindOf;rw[e3];exact h2
   rcases h2 with h2|h2
   .exact .inl ⟨h2,g,.head _,gL.trans e1.symm,by rw[<-hg];exact tI hnd hn hv h2⟩
   .obtain ⟨c,hc,hcc⟩:=hcell _ h2;refine .inr ⟨.inl h2,c,hc,g,.head _,hcc,?_⟩;rw[<-hg];show FW _ _ c=_;rw[xC x.apart hc];exact tJ hnd hn hv h2
  have eP:s₁=(P.enter h₁ t₁ g).s:=es;rw[eP];refine rw.body.ok X body _ (P.enter h₁ t₁ g) (eK K rw.keep P.σ.length) _ _ (by show rw.body.is ⟨C.fnm,C.att,C.key,C.gls,env'.scope,rw.Γ,CX C.lam fd.code fd.qualname⟩ body=true;rw[e3];exact p12) J hE (JV w) ⟨fun ρ P' gs I' G' k=> ?_,fun q v P' gs I' r k=> ?_,fun c ρ e P' gs I' xx G' k=> ?_⟩
  .obtain ⟨g',hf'⟩:∃ g',P'.fs=g'::P.fs:=by
    have:=gs.fs;generalize P'.fs=z at this;obtain ⟨_⟩:=this;exact ⟨_,rfl⟩
   exact yw (keep:=rw.keep) (p:=.d .none) I' (xE.trans gs.toExt) hf' .none k fun p' P'' g2 I2 r2 k2=>p.ok p' _ P'' g2 I2 r2 k2
  .obtain ⟨g',hf'⟩:∃ g',P'.fs=g'::P.fs:=by
    have:=gs.fs;generalize P'.fs=z at this;obtain ⟨_⟩:=this;exact ⟨_,rfl⟩
   exact yw I' (xE.trans gs.toExt) hf' r k fun p' P'' g2 I2 r2 k2=>p.ok p' v P'' g2 I2 r2 k2
  .obtain ⟨g',hf'⟩:∃ g',P'.fs=g'::P.fs:=by
    have:=gs.fs;generalize P'.fs=z at this;obtain ⟨_⟩:=this;exact ⟨_,rfl⟩
   obtain ⟨a1,a2⟩:=xx;rw[show X.A.frames=some (env'::ls) from fr] at a1;cases a1;refine Dc fr e2 I' a2 fun h' I2 x2=> ?_;have y:=(xE.trans gs.toExt).trans (bQ.to P' h' P'.s.toks).toExt;exact p.ex c _ ((P'.to h' P'.s.toks).leave g'.L P.σ.length none [] P.fs) (.leave y y.len) (I2.leave hf' y.len (.inl ⟨rfl,rfl⟩)) (vE.leave hls x2) (by show K _ (P'.σ.take _++[]);rw[List.append_nil];exact k)
theorem tN {C:bH} (G:fh C) (hF:Ap C):∀ d,vC C d
 |0=>fun _ _ _ _ _ _ _ _ _ _ _ _ _ _ _ _ w=>w.elim
 |d+1=>Dr G hF (tN G hF d)
section
open PySem.W PySem.Builtin PySem.Builtin.ObjectAttr PySem.Builtin.Getset_descriptor
variable {prog:Program} {w:World} {K:Frag} {x D:Addr} {ox:Obj}
end
structure TY where
 nm:Str
 val:bH->Value
 g:D->Option Bool
 mean:∀ {C:bH},fh C->C.mg nm=some (val C)∨(nm,val C)∈fL
 ok:∀ {C:bH} {A:Around} {P:Pt} {v:Value} {x:D} {b:Bool} {Q E:Value->Shared->Prop},fh C->aL C P->fB C P v x->g x=some b->(∀ t,Q (.bool b) {P.s with toks:=t})->wpAny C.M A (call (.builtin "isinstance") [v,val C]) Q E P.s
theorem Hq (t:TY) (I:aL X.C P) (hw:ef X.sc t.nm=true) (h:Q (t.val X.C) P.s):wpAny X.M X.A (eval (.Name t.nm pos) X.env) Q E P.s:=by
 rcases t.mean X.good with q|q
 .exact d9 I hw q h
 .exact fI I hw q h
noncomputable def HU (t:TY) (x:PV):PM PV:=fun σ=>(rd σ x).bind fun u=>(t.g u).map fun b=>(.ok (.d (.bool b)),σ)
theorem JR {t:TY} (w:Wp K (HU t x σ)):∃ u b,rd σ x=some u/\t.g u=some b/\K (.ok (.d (.bool b))) σ:=by
 unfold HU at w;cases e1:rd σ x with
 |none=>rw[e1] at w;exact w.elim
 |some u=>
  rw[e1,Si] at w;cases e2:t.g u with
  |none=>rw[e2] at w;exact w.elim
  |some b=>rw[e2] at w;exact ⟨u,b,rfl,e2,w⟩
theorem Lk (t:TY) (a:CE) {X:Cx} {e:Expr} {ρ:bg} {P:Pt} {K:R PV->az->Prop} {Q E:Value->Shared->Prop} (h:eQ (fun x es=>x==("isinstance":Str)&&ef X.sx.sc x&&Mo (fun e y=>iv e&&a.is X.sx e&&dD (fun y _=>y==t.nm&&ef X.sx.sc y) y) es) e=true) (I:aL X.C P) (G:EnvOK X P ρ)
  (w:Wp K (bW (a.ev X.ker ρ) (HU t) P.σ)) (p:bu X (RV X.C) P K Q E):wpAny X.M X.A (eval e X.env) Q E P.s:=
 eO (fun e=>wpAny X.M X.A (eval e X.env) Q E P.s) h fun x px es pos h=>by
  refine pu (fun es=>wpAny X.M X.A (eval (.Call (.Name x px) es [] pos) X.env) Q E P.s) (an h) fun e y h2=> ?_;refine cw (fun y=>wpAny X.M X.A (eval (.Call (.Name x px) [e,y] [] pos) X.env) Q E P.s) (an h2) fun y py h3=> ?_;have hw:=an (ai h);have hy:=an h3;rw[bR (ai h3)] at hy ⊢;rw[bR (ai (ai h))] at hw ⊢;have hst:starEach [e,.Name t.nm py] X.env=[(false,eval e X.env),(false,eval (.Name t.nm py) X.env)]:=by
   rw[dj (ai (ai h2))];rfl
  have hpl:∀ x∈backTo pos (starEach [e,.Name t.nm py] X.env),x.1=false:=by
   rw[hst];intro x hx;rcases Sj.mp hx with q|q
   .rw[q]
   .rw[So.mp q]
  refine wpAny_Call_NameR (fI (v:=.builtin "isinstance") I hw (by decide+kernel) ?_);refine Calls.callWith_builtin (eS hpl) (dC hpl ?_);rw[hst];refine Calls.spliced_cons (a.ok X e ρ P _ _ E (an (ai h2)) I G (aR w) (p.bind fun q v P1 g1 I1 r1 w p=> ?_));obtain ⟨u,b,e1,e2,k⟩:=JR w;refine Calls.spliced_cons (Hq t I1 hy (Calls.spliced_nil ?_));exact t.ok X.good I1 (bL I1 r1 e1) e2 fun tk=>(p.fin k).tok I1 (.bool b) tk
noncomputable def Sb (t:TY) (a:CE):CE:=⟨fun K ρ=>bW (a.ev K ρ) (HU t),fun s=>eQ fun x es=>x==("isinstance":Str)&&ef s.sc x&&Mo (fun e y=>iv e&&a.is s e&&dD (fun y _=>y==t.nm&&ef s.sc y) y) es,fun _ _ _ _ _ _ _ h I G w p=>Lk t a h I G w p⟩
noncomputable def Ny:D->Option Bool
 | .none=>some false
 | .bool _=>some false
 | .int _=>some false
 | .str _=>some true
 | .tup _=>some false
 | .lst _=>some false
 |_=>none
noncomputable def JX:TY:=⟨"str",fun _=>.type "str",Ny,fun _=>.inr (by decide+kernel),fun {C A P v x b Q E} _ I h e k=>by
 cases x with
 |none=>cases e;cases (RD.view h);exact IsiPair.NoneType_str (k _)
 |bool b=>cases e;cases (RD.view h);exact IsiPair.bool_str (k _)
 |int i=>cases e;obtain ⟨t,q⟩:=RD.view h;rw[q];exact IsiPair.int_str (k _)
 |str l=>cases e;obtain ⟨_,t,q⟩:=RD.view h;rw[q];exact IsiPair.str_str (k P.s.toks)
 |tup l=>cases e;obtain ⟨z,_⟩:=RD.view h;exact IsiPair.tuple_str (I.fz _ _ z) rfl (k _)
 |lst l=>cases e;obtain ⟨z,_,_⟩:iM C P l v:=h;exact IsiPair.list_str z rfl (k _)
 |_=>cases e⟩
section
theorem Ls {v:D} {x:Value} (G:fh C) (I:aL C P) (hu:fB C P x u) (hv:fB C P y v) (e:RG u v=some c) (k:mw C P (.bool c) Q):wpAny C.M A (compareOp .In x y) Q E P.s:=by
 cases v with
 |dct ks ps=>
  obtain ⟨hf,z⟩:=eb e;subst z;obtain @⟨a,o,vs,h1,h2,h3,h4⟩:vA C P ks ps y:=hv;have hu:RD C P.own u x:=by
   cases u<;>first|exact hu|(cases hf;done)
  obtain ⟨d,l,i,hd,h5,e1,e2,h6,e3,h7,h8⟩:=uC h3 hu hf;subst e1;subst e2;subst e3
  letI:=d.dec
  have hl:=oX hd i h4;have ez:(valueAt l i).isSome=(eA (d.toD i) (l.map fun p=>d.toD p.1) ps).isSome:=by
   revert hl
   cases eA (d.toD i) (l.map fun p=>d.toD p.1) ps<;>cases valueAt l i<;>intro hl<;>first|rfl|exact hl.elim
  exact wpAny_in_of h7 (ft G I h2) (Heap.dictOf_iff.mpr ⟨o,h1,h5⟩).mapOf (k.tok I (by rw[ez];exact .bool _) _)
 |_=>cases e
end
noncomputable def NN:CO:=⟨.In,RG,fun G _ I a b e k=>Ls G I a b e k⟩
noncomputable def RC:PV->PM PV:=fun x=>fun σ=>(rd σ x).bind fun u=>match u with
 | .dct ks vs=>(au (ks.length<=100000/\ks.all xo=true) ()).bind fun _=>iW (.fld (.dict ks vs)) σ
 |_=>none
theorem Nh (G:fh C) (I:aL C P) (r:RV C P v x) (w:Wp K (RC x P.σ)) (p:dW C A (RV C) P K Q E):wpAny C.M A (call (.type "dict") [v]) Q E P.s:=by
 obtain ⟨u,e1,w⟩:=k7 w;cases u with
 |dct ks ps=>
  obtain ⟨_,e2,w⟩:=k7 w;have hl:=(eb e2).1.1;have hf:=(eb e2).1.2;obtain @⟨a,o,vs,h1,h2,h3,h4⟩:vA C P ks ps v:=bL I r e1;cases h3 with
  |pr xs es ep _ _ _ _ _ e _ hne=>
   cases xs with
   |nil=>exact absurd rfl hne
   |cons x xs=>rw[e] at hf;cases hf
  |mk d l hd h5 e3 e4 h6=>
  subst e3;subst e4
  letI:=d.dec
  refine kt_call_dict (ft G I h2) (Heap.dictOf_iff.mpr ⟨o,h1,h5⟩) (by rw[Sg] at hl;exact Ss hl (by decide)) fun h' hd' hs=> ?_;obtain ⟨o',ho',hd'⟩:=Heap.dictOf_iff.mp hd';have n:vD C P h' P.h.objs.size o':=⟨fun b o e=>hs.extBut b o (Nat.ne_of_lt (SR e)) (Sr _ e),I.off (Sv _),I.out (Sv _),ho'⟩;exact p.make (f:=.dict (l.map fun q:d.K×Value=>d.toD q.1) ps) (t:=P.s.toks) I n ⟨_,.mk d l hd hd' rfl rfl h6,h4.ext (eG n.own)⟩ w
 |_=>exact w.elim
noncomputable def Bm:BF:=⟨"dict",.type "dict",by decide+kernel,fun _ ps=>match ps with
 |[x]=>RC x
 |_=>fun _=>none,fun {C A P hd K ps vs Q E} G _ I r w p=>by
 match ps,r,w with
 |[x],r,w=>
  obtain ⟨r1,r2⟩:Ao C P x [] vs:=r.view;rw[show _=[] from r2.view];exact Nh G I r1 w p
 |[],_,w=>exact w.elim
 |_::_::_,_,w=>exact w.elim⟩
noncomputable def dI (sep:List Nat):List (List Nat)->List Nat
 |[]=>[]
 |[x]=>x
 |x::r=>x++sep++dI sep r
noncomputable def pB:List D->Option (List (List Nat))
 |[]=>some []
 |x::r=>(sD x).bind fun s=>(pB r).map (s::·)
theorem Mz {x:D} {s:List Nat} (h:RD C w x v) (e:sD x=some s):jb s/\∃ t,v= .str (cA s) t:=by
 cases x<;>first|(cases e;exact h.view)|(cases e;done)
theorem BY:∀ {l:List D} {vs:List Value} {ts:List (List Nat)},RDs C w l vs->pB l=some ts->StrsAre vs (ts.map fun t=>⟨t.toArray⟩)/\∀ t∈ts,jb t:=by
 intro l
 induction l with
 |nil=>
  intro vs ts h e;cases e;rw[show vs=[] from h.view];exact ⟨.nil,aW⟩
 |cons x l ih=>
  intro vs ts h e;obtain ⟨r1,r2⟩:dF C w x l vs:=h.view;obtain ⟨s,e1,e⟩:=aq e;obtain ⟨ts',e2,rfl⟩:=a_ e;obtain ⟨ho,t,q⟩:=Mz r1 e1;obtain ⟨k1,k2⟩:=ih r2 e2;rw[q];exact ⟨.cons _ t k1,fun y hy=>(Sj.mp hy).elim (fun z=>z ▸ ho) (k2 y)⟩
theorem mT (s:List Nat):∀ ts:List (List Nat),(Str.join ⟨s.toArray⟩ (ts.map fun t=>⟨t.toArray⟩)).cps.toList=dI s ts
 |[]=>rfl
 |[x]=>rfl
 |x::y::r=>by
  show (x.toArray++s.toArray++(Str.join ⟨s.toArray⟩ ((y::r).map fun t=>⟨t.toArray⟩)).cps).toList=_;rw[Array.toList_append,mT s (y::r),Array.toList_append];rfl
theorem wV {s:List Nat} (hs:jb s):∀ {ts:List (List Nat)},(∀ t∈ts,jb t)->(∀ c∈dI s ts,c<0x110000)/\(dI s ts).length<=(ts.map List.length).sum+ts.length*s.length
 |[],_=>⟨fun _ h=>(nomatch h),SN _⟩
 |[x],h=>⟨(h x (.head _)).1,by show x.length<=x.length+0+1*s.length;exact R9⟩
 |x::y::r,h=>by
  obtain ⟨k1,k2⟩:=wV hs (ts:=y::r) fun t ht=>h t (.tail _ ht);show (∀ c∈x++s++dI s (y::r),c<0x110000)/\(x++s++dI s (y::r)).length<=x.length+((y::r).map List.length).sum+((y::r).length+1)*s.length;refine ⟨fun c hc=> ?_,?_⟩
  .rcases SC.mp hc with hc|hc
   .rcases SC.mp hc with hc|hc
    .exact (h x (.head _)).1 c hc
    .exact hs.1 c hc
   .exact k1 c hc
  .rw[Sk,Sk,Nat.succ_mul];exact R8 k2
noncomputable def JA (x:PV):List PV->PM PV
 |[y]=>Kz (fun u v=>(sD u).bind fun s=>(lD v).bind fun l=>(pB l).bind fun ts=>au ((ts.map List.length).sum+ts.length<=1048576/\s.length<=15) (.str (dI s ts))) x y
 |_=>fun _=>none
theorem Ff (I:aL C P) (r:RV C P v x) (rs:kZ C P ps vs) (w:Wp K (JA x ps P.σ)) (p:dW C A (RV C) P K Q E):wpAny C.M A (call (.builtin "str.join") (v::vs)) Q E P.s:=by
 match ps,rs,w with
 |[y],rs,w=>
  obtain ⟨r1,r2⟩:Ao C P y [] vs:=rs.view;rw[show _=[] from r2.view];obtain ⟨u,v',z,e1,e2,e,w⟩:=tU w;obtain ⟨s,e3,e⟩:=aq e;obtain ⟨l,e4,e⟩:=aq e;obtain ⟨ts,e5,e⟩:=aq e;obtain ⟨⟨hw,hs⟩,rfl⟩:=eb e;obtain ⟨ho,t,q⟩:=fQ e3 (bL I r e1);rw[q];obtain @⟨a,ws,n,g,_,rr⟩:=gP e4 (bL I r1 e2);obtain ⟨k1,k2⟩:=BY rr e5;obtain ⟨k3,k4⟩:=wV ho k2;refine join_listW (items:=ws.toArray) ⟨_,g,rfl,_,rfl⟩ k1 (by simp [Str.length];exact SM hs) (by rw[List.map_map,Sg];exact hw) fun t' k=>(p.fin w).tok I (pL ((congrArg (fun x:Str=>x.cps.toList) (StrLaws.glued_eq_join _ _)).trans (mT s ts)) ⟨k3,?_⟩ t') _;have:ts.length*s.length<=ts.length*15:=To _ hs;show _<=2^24;exact O9 hw k4 this
 |[],_,w=>exact w.elim
 |_::_::_,_,w=>exact w.elim
noncomputable def iN:MF:=⟨"join","str","str.join",F.plainAttrs_str,F.slot_str_join,F.type_str_join,fun _=>GB,Bj,JA,fun _ I r rs w p=>Ff I r rs w p⟩
noncomputable def Cs:List Int->Option Int
 |[]=>none
 |a::r=>some (r.foldl max a)
noncomputable def qC:List D->Option (List Int)
 |[]=>some []
 |x::r=>(iD x).bind fun i=>(qC r).map (i::·)
theorem Nt {x:D} {i:Int} (h:RD C w x v) (e:iD x=some i):∃ t,v= .int i t:=by
 cases x<;>first|(cases e;exact h.view)|(cases e;done)
theorem C5:∀ {l:List D} {vs:List Value} {ts:List Int},RDs C w l vs->qC l=some ts->IntsAre vs ts:=by
 intro l
 induction l with
 |nil=>
  intro vs ts h e;cases e;rw[show vs=[] from h.view];exact .nil
 |cons x l ih=>
  intro vs ts h e;obtain ⟨r1,r2⟩:dF C w x l vs:=h.view;obtain ⟨s,e1,e⟩:=aq e;obtain ⟨ts',e2,rfl⟩:=a_ e;obtain ⟨t,q⟩:=Nt r1 e1;rw[q];exact .cons _ t (ih r2 e2)
theorem H_:∀ (r:List Int) (a:Int),(a<=r.foldl max a)/\(∀ b∈r,b<=r.foldl max a)/\(r.foldl max a=a∨r.foldl max a∈r):=by
 intro r
 induction r with
 |nil=>intro a;exact ⟨Int.le_refl _,aW,.inl rfl⟩
 |cons b r ih=>
  intro a;obtain ⟨k1,k2,k3⟩:=ih (max a b);rw[List.foldl_cons];refine ⟨by omega,fun c hc=> ?_,?_⟩
  .rcases Sj.mp hc with rfl|hc
   .omega
   .exact k2 c hc
  .rcases k3 with k3|k3
   .rcases Int.le_total a b with q|q
    .right;rw[k3,show max a b=b by exact Int.max_eq_right q];exact .head _
    .left;exact k3.trans (Int.max_eq_left q)
   .exact .inr (.tail _ k3)
theorem wg {l:List Int} (h:Cs l=some m):m∈l/\∀ a∈l,a<=m:=by
 cases l with
 |nil=>cases h
 |cons a r=>
  cases h;obtain ⟨k1,k2,k3⟩:=H_ r a;refine ⟨?_,fun c hc=> ?_⟩
  .rcases k3 with k3|k3
   .rw[k3];exact .head _
   .exact .tail _ k3
  .rcases Sj.mp hc with rfl|hc
   .exact k1
   .exact k2 c hc
theorem AV {l:List Int} {M:Int} (h:Cs l=some m) (h1:M∈l) (h2:∀ a∈l,a<=M):M=m:=
 Int.le_antisymm ((wg h).2 M h1) (h2 m (wg h).1)
theorem KY {is:List Int} (I:aL C P) (hh:A.handled=none) (h:iM C P l v) (e2:qC l=some is) (e3:Cs is=some m) (k:mw C P (.int m) Q):wpAny C.M A (call (.builtin "max") [v]) Q E P.s:=by
 obtain @⟨a,vs,q,g,_,hs⟩:=h;have hi:=C5 hs e2;obtain ⟨xs,e⟩:=hi.allInts.items;have hns:is=xs.toList.map (·.1):=by rw[<-hi.numsOf,<-nums_intItems,<-e]
 have hsz:0<xs.size:=by
  rcases Nat.eq_zero_or_pos xs.size with q|q
  .rw[hns,Array.size_eq_zero_iff.mp q] at e3;cases e3
  .exact q
 have hl:P.h.IsList a (intItems xs):=e ▸ (⟨_,g,rfl,_,rfl⟩:P.h.IsList a vs.toArray);refine max_intList hh hl hsz fun v h' tk hv hk=> ?_;obtain ⟨t,rfl⟩:=intItems_at hv;obtain ⟨h1,h2⟩:=argBest_gt (numAt xs) (xs.size - 1);refine k.grown I hk ?_ _;have:=AV (M:=numAt xs (argBest (fun i j=>decide (numAt xs i>numAt xs j)) (xs.size - 1))) e3 ?_ fun a ha=> ?_
 .rw[<-this];exact .int _ _
 .rw[hns,numAt_eq];exact getD_mem (by rw[Sg,Array.length_toList];exact Nat.lt_of_le_pred hsz h1)
 .rw[hns] at ha;obtain ⟨j,hj,rfl⟩:=mem_getD ha;rw[Sg,Array.length_toList] at hj;rw[<-numAt_eq];exact h2 j (by exact Nat.le_sub_one_of_lt hj)
noncomputable def FH:BF:=⟨"max",.builtin "max",by decide+kernel,fun hd ps=>off hd (g1 (fun u=>(lD u).bind fun l=>(qC l).bind fun is=>(Cs is).map .int) ps),fun {C A P hd K ps vs Q E} _ hh I r w p=>gT (fun vs=>wpAny C.M A (call (.builtin "max") vs) Q E P.s) I r (gK w).2 fun v u z h e k=>by
 obtain ⟨l,e1,e⟩:=aq e;obtain ⟨is,e2,e⟩:=aq e;obtain ⟨m,e3,rfl⟩:=a_ e;exact KY I (hh (gK w).1) (gP e1 h) e2 e3 (p.fin k)⟩
noncomputable def tn:BF:=⟨"max",.builtin "max",by decide+kernel,fun hd ps=>off hd (g2 (fun u v=>(iD u).bind fun x=>(iD v).map fun y=>.int (max x y)) ps),fun {C A P hd K ps vs Q E} _ hh I r w p=>Fx (fun vs=>wpAny C.M A (call (.builtin "max") vs) Q E P.s) I r (gK w).2 fun vx vy u v z h1 h2 e k=>by
 obtain ⟨x,e1,e⟩:=aq e;obtain ⟨y,e2,rfl⟩:=a_ e;obtain ⟨t,q⟩:=d5 e1 h1;obtain ⟨t',q'⟩:=d5 e2 h2;rw[q,q'];refine max_two_ints (hh (gK w).1) fun h' tk kp=>(p.fin k).grown I kp ?_ _;by_cases hc:y>x
 .rw[if_pos hc,show max x y=y by exact Int.max_eq_right (Ti hc)];exact .int _ _
 .rw[if_neg hc,show max x y=x by exact Int.max_eq_left (Tn.mp hc)];exact .int _ _⟩
noncomputable def xp:BF:=⟨"min",.builtin "min",by decide+kernel,fun hd ps=>off hd (g2 (fun u v=>(iD u).bind fun x=>(iD v).map fun y=>.int (min x y)) ps),fun {C A P hd K ps vs Q E} _ hh I r w p=>Fx (fun vs=>wpAny C.M A (call (.builtin "min") vs) Q E P.s) I r (gK w).2 fun vx vy u v z h1 h2 e k=>by
 obtain ⟨x,e1,e⟩:=aq e;obtain ⟨y,e2,rfl⟩:=a_ e;obtain ⟨t,q⟩:=d5 e1 h1;obtain ⟨t',q'⟩:=d5 e2 h2;rw[q,q'];refine min_two_ints (hh (gK w).1) fun h' tk kp=>(p.fin k).grown I kp ?_ _;by_cases hc:y<x
 .rw[if_pos hc,show min x y=y by exact Int.min_eq_right (Ti hc)];exact .int _ _
 .rw[if_neg hc,show min x y=x by exact Int.min_eq_left (Tn.mp hc)];exact .int _ _⟩
noncomputable def KX (a b:CE):CF:=⟨fun K ρ=>bW (a.ev K ρ) fun x=>bW (b.ev K ρ) fun y=>fun σ=>(((rd σ x).bind lD).bind fun l=>((rd σ y).bind lD).bind fun m=>au (l.length+m.length<=dM) (l++m)).map fun z=>(.ok z,σ),fun s=>mq fun l op r _=>op== .Add&&a.is s l&&b.is s r,
 fun X e ρ P K Q E h I G w p=>mj (fun e=>wpAny X.M X.A (eval e X.env) Q E P.s) h fun l op r pos h=>wpAny_BinOp (a.ok X l ρ P _ _ E (an (ai h)) I G (aR w) (p.bind fun x v P1 g1 I1 r1 w p=>
  b.ok X r ρ P1 _ _ E (an h) I1 (G.ext g1) (aR w) (p.bind fun y u P2 g2 I2 r2 w p=>by
   obtain ⟨z,e,k⟩:=gI w;obtain ⟨l1,e1,e⟩:=aq e;obtain ⟨l2,e2,e⟩:=aq e;obtain ⟨hm,rfl⟩:=eb e;obtain ⟨u1,e3,e4⟩:=aq e1;obtain ⟨u2,e5,e6⟩:=aq e2;rw[bR (ai (ai h))];obtain @⟨a1,vs1,n1,g1',_,rr1⟩:=gP e4 (bL I2 (r1.ext g2.toExt) e3);obtain @⟨a2,vs2,n2,g2',_,rr2⟩:=gP e6 (bL I2 r2 e5);refine BJ g1' g2' ?_ (by simpa [sizeLine,dM,rr1.length,rr2.length] using hm);have n:=I2.push (o:=aU (vs1++vs2) 0) rfl;have eo:aU (vs1++vs2) 0=({cls:=.type "list",data:=.seq (vs1.toArray++vs2.toArray)}:Obj):=by simp
   have:=p.ok (l1++l2) (.ref P2.h.objs.size) (P2.to (P2.h.push (aU (vs1++vs2) 0)) P2.s.toks) (.to ..) (I2.to n.keep) (.mk ⟨fun _ _ e=>e,n.own,n.H,n.at_⟩ (rr1.append rr2)) k;rw[eo] at this;exact this)))⟩
structure FS where
 ev:cG->bg->List Nat->PM (List Nat)
 is:Sx->List Expr->Bool
 ok:∀ (X:Cx) (es:List Expr) (ρ:bg) (P:Pt) (acc:List Nat) (K:R (List Nat)->az->Prop) (Q E:Value->Shared->Prop),is X.sx es=true->aL X.C P->EnvOK X P ρ->jb acc->Wp K (ev X.ker ρ acc P.σ)->bu X (fun _ v t=>jb t/\∃ k,v=Value.str (cA t) k) P K Q E->wpAny X.M X.A (joinParts (cA acc) (evalEach es X.env)) Q E P.s
noncomputable def Nz:FS:=⟨fun _ _ acc=>ret acc,fun _ es=>es.isEmpty,fun X es ρ P acc K Q E h I G ho w p=>bZ (fun es=>wpAny X.M X.A (joinParts (cA acc) (evalEach es X.env)) Q E P.s) h (joinParts_nil (p.ok acc _ (P.to P.h (P.s.toks+1)) (.to ..) (I.to fun _ _ e=>e) ⟨ho,_,rfl⟩ w) (Ss ho.2 (by decide)))⟩
noncomputable def HZ (l:FS) (K:cG) (ρ:bg) (acc t:List Nat):PM (List Nat):=fun σ=>(au (acc.length+t.length<=dM) ()).bind fun _=>l.ev K ρ (acc++t) σ
theorem uI (l:FS) {acc t:List Nat} {K:R (List Nat)->az->Prop} {k:Tok} (h:l.is X.sx es=true) (I:aL X.C P) (G:EnvOK X P ρ) (ho:jb acc) (ht:jb t) (w:Wp K (HZ l X.ker ρ acc t P.σ)) (p:bu X (fun _ v t=>jb t/\∃ k,v=Value.str (cA t) k) P K Q E):
  (match Value.str (cA t) k with| .str y _=>(cA acc++y).length<=sizeLine/\wpAny X.M X.A (joinParts (cA acc++y) (evalEach es X.env)) Q E P.s|_=>False):=by
 obtain ⟨_,e1,w⟩:=k7 w;have hz:=(eb e1).1;have e:cA acc++cA t=cA (acc++t):=congrArg Str.mk (List.append_toArray acc t);show (cA acc++cA t).length<=sizeLine/\wpAny X.M X.A (joinParts (cA acc++cA t) (evalEach es X.env)) Q E P.s;rw[e];refine ⟨?_,l.ok X es ρ P _ K Q E h I G ⟨fun c hc=>(SC.mp hc).elim (ho.1 c) (ht.1 c),by rw[Sk];exact hz⟩ w p⟩;show (acc++t).toArray.size<=sizeLine;rw[SG,Sk];exact Ss hz (by decide)
noncomputable def w_ (x:List Nat) (l:FS):FS:=⟨fun K ρ acc=>HZ l K ρ acc x,fun s=>iC (fun e=>cj (fun c _ _=>Dv (fun y=>y.cps.toList==x&&Mf x) c) e) (l.is s),fun X es ρ P acc K Q E h I G ho w p=>c6 (fun es=>wpAny X.M X.A (joinParts (cA acc) (evalEach es X.env)) Q E P.s) h fun e r h1 h2=>by
 refine joinParts_cons ?_;refine cI (fun e=>wpAny X.M X.A (eval e X.env) _ E P.s) h1 fun c k pos h1=>nj (fun c=>wpAny X.M X.A (eval (.Constant c k pos) X.env) _ E P.s) h1 fun y h1=> ?_;have hy:y=cA x:=by
  obtain ⟨⟨l⟩⟩:=y;rw[<-bR (ai h1)]
 rw[hy];have g:=bQ.to P P.h (P.s.toks+1);exact wpAny_Constant_str (uI l (k:=P.s.toks) (P:=P.to P.h (P.s.toks+1)) h2 (I.to fun _ _ e=>e) (G.ext g) ho (yB (an h1)) w (p.mono g))⟩
noncomputable def w9 (a:CE) (l:FS):FS:=⟨fun K ρ acc=>bW (a.ev K ρ) fun x=>fun σ=>((j7 x).bind zO).bind fun t=>HZ l K ρ acc t σ,fun s=>iC (fun e=>ff (fun v c sp _=>c== -1&&sp.isNone&&a.is s v) e) (l.is s),fun X es ρ P acc K Q E h I G ho w p=>c6 (fun es=>wpAny X.M X.A (joinParts (cA acc) (evalEach es X.env)) Q E P.s) h fun e r h1 h2=>by
 refine joinParts_cons ?_;refine ja (fun e=>wpAny X.M X.A (eval e X.env) _ E P.s) h1 fun v c sp pos h1=> ?_;rw[bR (ai (ai h1))];refine jp (fun sp=>wpAny X.M X.A (eval (.FormattedValue v (-1) sp pos) X.env) _ E P.s) (an (ai h1)) ?_;refine FormattedValue_plain (a.ok X v ρ P _ _ E (an h1) I G (aR w) (p.bind fun x vx P1 g1 I1 r1 w p=> ?_));obtain ⟨t,e1,w⟩:=k7 w;obtain ⟨u,e2,e3⟩:=aq e1;have G1:=G.ext g1;obtain ⟨ht,⟨k,q⟩|⟨i,k,q,hi,hl⟩⟩:=FD (lW e2 r1) e3
 .rw[q];exact formatField_str (fun t' tk=>uI l (k:=t') (P:=P1.to P1.h tk) h2 (I1.to fun _ _ e=>e) (G1.ext (.to ..)) ho ht w (p.mono (.to ..))) (Ss (by show t.toArray.size<=dM;rw[SG];exact ht.2) (by decide))
 .rw[q];subst hl;exact formatField_int_small hi (uI l (P:=P1.to P1.h (P1.s.toks+1+1)) (k:=P1.s.toks+1) h2 (I1.to fun _ _ e=>e) (G1.ext (.to ..)) ho ht w (p.mono (.to ..)))⟩
noncomputable def C8 (l:FS):CE:=⟨fun K ρ=>bW (l.ev K ρ []) fun t=>ret (.d (.str t)),fun s=>jM fun es _=>l.is s es&&decide (2<=es.length),fun X e ρ P K Q E h I G w p=>ni (fun e=>wpAny X.M X.A (eval e X.env) Q E P.s) h fun es pos h=>by
 match es,h with
 |e1::e2::es,h=>
  exact JoinedStr_many (l.ok X (e1::e2::es) ρ P [] _ Q E (ai h) I G ⟨aW,SN _⟩ (aR w) (p.bind fun t v P1 g1 I1 r1 w p=>by
   obtain ⟨ho,k,q⟩:=r1;rw[q];exact (p.fin w).here I1 (.str t k ho)))
 |[],h=>exact absurd (an h) (by decide)
 |[_],h=>exact absurd (an h) (by simp)⟩
end Mine.Internal
namespace Mine.Internal
open PySem PyProof.Rows PySem.W
variable {K:Frag} {b:Addr} {x:Obj}
noncomputable def Ax (l:List oJ) (n:Nat):Option PF:=(l.find? fun r=>r.id==n).map (·.pf)
noncomputable def gw (r0:oJ) (l:List oJ) (n:Nat):oJ:=(l.find? fun r=>r.id==n).getD r0
noncomputable def KM (r0:oJ) (l:List oJ) (n:Nat):Str×Bool:=((gw r0 l n).nm,(gw r0 l n).mth)
noncomputable def iL:Nat->Str
 |0=>"home"|1=>"names"|2=>"told"|3=>"made"|4=>"gone"|5=>"ends"|6=>"deeds"|_=>"?"
theorem IK:∀ i,i<7->∀ k,k<7->iL i=iL k->i=k:=by decide+kernel
theorem BB:∀ p∈fL,bootBuiltins p.1=some p.2/\p.1≠"__name__":=by
 have h:fL.all (fun p=>bootBuiltins p.1==some p.2&& !(p.1==("__name__":Str)))=true:=by kernel_rfl
 exact fun p hp=>⟨bR (ai (List.all_eq_true.mp h p hp)),fun q=>by have:=an (List.all_eq_true.mp h p hp);rw[q,beq_self_eq_true] at this;cases this⟩
noncomputable def JC (o:Obj):Bool:=match o.data with
 | .cls _=>true
 |_=>false
noncomputable def yE (o:Obj):Bool:= !(o.cls== .type "list")&& !(o.cls== .none)
noncomputable def Go (t:BT) (n:Nat):Frag:=((List.range n).filterMap fun a=>((t.get a).bind alive).map fun o=>(a,o)).filter fun q=>yE q.2
noncomputable def zD (t:BT) (n:Nat):Frag:=(Go t n).filter (fun q=>JC q.2)++(Go t n).filter (fun q=> !JC q.2)
theorem wJ {α:Type} {K:List (Nat×α)} {a:Nat} {o:α} (h:K.lookup a=some o):(a,o)∈K:=by
 induction K with
 |nil=>cases h
 |cons q r ih=>
  rw[List.lookup_cons] at h;cases e:(a==q.1) with
  |true=>rw[e] at h;cases h;rw[beq_iff_eq.mp e];exact .head _
  |false=>rw[e] at h;exact .tail _ (ih h)
theorem H7 (t:BT) (n:Nat) (life:Life):(zD t n).In (absHeap t n life):=fun a o e=>by
 have:=wJ e;have hm:(a,o)∈Go t n:=by
  rcases SC.mp this with q|q<;>exact (List.mem_filter.mp q).1
 refine bn fun G9 k9=> ?_;obtain ⟨b,hb,e1⟩:=List.mem_filterMap.mp (List.mem_filter.mp hm).1;obtain ⟨o',ho,e'⟩:=S8.mp e1;refine k9 ?_;cases e';obtain ⟨o2,h1,h2⟩:=Option.bind_eq_some_iff.mp ho;rw[abs_get (List.mem_range.mp hb) h1];exact h2
noncomputable def IR (K:Frag) (x:Str):Addr:=match nsIn K mainGlobals x with
 |some (some (.ref a))=>a
 |_=>0
noncomputable def i8 (K:Frag):Addr:=IR K "Book"
noncomputable def nN (K:Frag) (r:oJ):Addr:=if r.mth then (match findIn K (.ref (i8 K)) r.nm with
 |some (some (.ref a))=>a
 |_=>0) else IR K r.nm
noncomputable def iB (sp:Option (Str×Pos)) (K:Frag):Option xY:=sp.bind fun q=>(tabIn K q.1).map fun z=>⟨z.1,z.2,q.2,q.1++".<locals>."++"<lambda>"⟩
noncomputable def JB (o:Obj):Bool:=o.cls== .none&&o.dict.isNone&&(match o.data with
 | .fields vs=>vs.isEmpty
 |_=>false)&&o.slots.isEmpty
theorem Fk {o:Obj} (h:JB o=true):o=tX #[]:=by
 obtain ⟨cl,di,da,sl⟩:=o;have e1:cl= .none:=bR (ai (ai (ai h)));have e2:di=none:=Option.isNone_iff_eq_none.mp (an (ai (ai h)));have e3:sl=#[]:=Array.isEmpty_iff.mp (an h);have h:=an (ai h);subst e1 e2 e3;cases da with
 |fields vs=>rw[Array.isEmpty_iff.mp h]
 |_=>cases h
noncomputable def yj (sp:Option (Str×Pos)) (K:Frag) (t:BT) (n:Nat):Bool:=(iB sp K).all fun l=>decide (l.P<n)&&((t.get l.P).bind alive).any JB
def tP (sp:Option (Str×Pos)) (K:Frag) (h:Heap):Prop:=∀ l,iB sp K=some l->h.get? l.P=some (tX #[])
theorem GU {sp:Option (Str×Pos)} {t:BT} {n:Nat} (life:Life) (h:yj sp K t n=true):tP sp K (absHeap t n life):=fun l e=>by
 unfold yj at h;rw[e] at h;refine bn fun G9 k9=> ?_;obtain ⟨o,ho,k⟩:=any_some (an h);obtain ⟨o2,h1,h2⟩:=Option.bind_eq_some_iff.mp ho;refine k9 ?_;rw[abs_get (S3 (ai h)) h1,h2,Fk k]
noncomputable def LJ (K:Frag) (s:Scope->Gw->Value->Str->Sx) (r:oJ):Bool:=match K.lookup (nN K r) with
 |some ⟨cls,_,.func fd,_⟩=>cls== .type "function"&&codeIn K fd.code fd.qualname&&(match fd.body with
   | .stmts body=>Om (s fd.scope r.Γ fd.code fd.qualname) r fd.params body
   |_=>false)&&fd.closure.isEmpty&&fd.globals==mainGlobals&&fd.builtins==builtinsNs&&fd.defaults== .none
 |_=>false
noncomputable def Jf (K:Frag) (s:Scope->Gw->Value->Str->Sx) (r:oJ):Bool:=LJ K s r&&(if r.mth then findIn K (.ref (i8 K)) r.nm==some (some (.ref (nN K r)))&&(List.range 7).all (fun k=>iL k !=r.nm) else nsIn K mainGlobals r.nm==some (some (.ref (nN K r))))
noncomputable def NL (K:Frag) (f0:Addr):Bool:=(nsIn K mainGlobals "Book"==some (some (.ref (i8 K)))&&(clsIn K (i8 K)).any (·.hasDict)&&plainOver K (i8 K)&&makesIn K (i8 K)&&findIn K (.ref (i8 K)) "__getattribute__"==some (some (.builtin "object.__getattribute__"))&&findIn K (.ref (i8 K)) "__getattr__"==some none)&&
 (findIn K (.ref (i8 K)) "__setattr__"==some (some (.builtin "object.__setattr__"))&&(List.range 7).all (fun k=>findIn K (.ref (i8 K)) (iL k)==some none)&&findIn K (.ref (i8 K)) "__init__"==some (some (.ref f0))&&typeIn K (.ref f0)==some (.type "function"))
noncomputable def NT:List Value:=[.type "ValueError",.type "Exception",.type "BaseException",.type "object"]
noncomputable def NF (K:Frag) (ea:Nat->Addr):Bool:=(List.range nX).all fun c=>(nsIn K mainGlobals (j5 c)==some (some (.ref (ea c)))&&excIn K (ea c) NT "ValueError.__new__"&&NG K (ea c)&&kitOne K (.ref (ea c)) (.type "ValueError")==some true)&&
 (List.range nX).all fun k=>kitOne K (.ref (ea c)) (.ref (ea k))==some (c==k||k==0)&&exmOne K (.ref (ea c)) (.ref (ea k))==some (c==k||k==0)
noncomputable def NA (K:Frag):Bool:=fL.all fun p=>nsIn K mainGlobals p.1==some none
noncomputable def RH (v:Value):Option Int×List Nat->Bool
 |(some i,_)=>(match v with
  | .int j _=>i==j
  |_=>false)
 |(none,l)=>(match v with
  | .str x _=>x.cps.toList==l&&Mf l
  |_=>false)
noncomputable def Se (K:Frag) (gls:List (Str×(Option Int×List Nat))):Bool:=gls.all fun q=>match nsIn K mainGlobals q.1 with
 |some (some v)=>RH v q.2
 |_=>false
noncomputable def Me (sp:Option (Str×Pos)) (r0:oJ) (ba:List oJ) (gls:List (Str×(Option Int×List Nat))) (key:Nat->Str) (K:Frag):Bool:=
 (K.lookup sysModules).isSome&&K.all (fun q=>yE q.2)&&NA K&&Se K gls&&NF K (fun c=>IR K (j5 c))&&NL K (nN K (gw r0 ba 0))&&(r0::ba).all (Jf K fun sc Γ cd q=>⟨KM r0 ba,iL,key,gls,sc,Γ,CX (iB sp K) cd q⟩)&&(iB sp K).all (fun l=>codeHdIn K l.c l.P)
theorem Cc {r0:oJ} {ba:List oJ} (n:Nat):gw r0 ba n∈r0::ba:=by
 unfold gw;cases e:ba.find? fun r=>r.id==n with
 |none=>exact .head _
 |some r=>exact .tail _ (List.mem_of_find?_eq_some e)
theorem Lx {v:Value}:∀ {q:Option Int×List Nat},RH v q=true->Lw v q
 |(some i,_),h=>by
  cases v<;>first|(cases h;done)|exact ⟨_,by rw[bR h]⟩
 |(none,l),h=>by
  cases v<;>first|(cases h;done)|skip
  rename_i x t
  refine ⟨yB (an h),t,?_⟩;obtain ⟨⟨z⟩⟩:=x;rw[<-bR (ai h)]
theorem Ic {sx:Scope->Gw->Value->Str->Sx} {r:oJ} {h:Heap} (X:K.In h) (e:LJ K sx r=true):typeIn K (.ref (nN K r))=some (.type "function")/\∃ o fd body,h.get? (nN K r)=some o/\o.data= .func fd/\h.CodeRec fd.code fd.qualname/\fd.body= .stmts body/\fd.closure=[]/\fd.globals=mainGlobals/\fd.builtins=builtinsNs/\fd.defaults= .none/\
  Om (sx fd.scope r.Γ fd.code fd.qualname) r fd.params body=true:=by
 unfold LJ at e;split at e
 .rename_i cls dd fd sl ho
  simp only [Bool.and_eq_true,beq_iff_eq] at e;refine bn fun G9 k9=> ?_;obtain ⟨⟨⟨⟨⟨⟨e1,e2⟩,e3⟩,e4⟩,e5⟩,e6⟩,e7⟩:=e;refine k9 ?_;split at e3
  .rename_i body hb
   exact ⟨(by show (K.lookup (nN K r)).map (·.cls)=_;rw[ho,<-e1];rfl),_,fd,body,X _ _ ho,rfl,codeRec_of X e2,hb,List.isEmpty_iff.mp e4,e5,e6,e7,e3⟩
  .cases e3
 .cases e
noncomputable def rD (sp:Option (Str×Pos)) (scr:Addr) (K:Frag):List Addr:=scr::(iB sp K).toList.map (·.P)
noncomputable def F5 (prog:Program) (w:World) (s:Shared) (scr:Addr) (K:Frag) (mg mb:Str->Option Value) (sp:Option (Str×Pos)) (r0:oJ) (ba:List oJ) (gls:List (Str×(Option Int×List Nat))) (key:Nat->Str):bH:=
 ⟨prog,w,c9 s.heap (rD sp scr K),i8 K,fun c=>IR K (j5 c),K,mg,mb,KM r0 ba,fun n=>nN K (gw r0 ba n),iL,key,gls,Ax ba,iB sp K⟩
section
variable {p:Program} {loose:List Str} {mean:ExcName->Option Value} {mg mb:Str->Option Value} {prog:Program} {w:World} {s:Shared} {sp:Option (Str×Pos)} {r0:oJ} {ba:List oJ} {gls:List (Str×(Option Int×List Nat))} {key:Nat->Str} {scr:Addr} {o:Obj} {ws:List Addr}
def N5 (s:Shared) (ws:List Addr):Prop:=∀ a∈ws,∃ o,s.heap.get? a=some o/\yE o=false/\∀ es ep,o.data≠ .dict es ep
theorem K4 {vs:Array Value} {n:Nat} (ho:s.heap.get? scr=some o) (hc:o.cls= .type "list") (hd:o.data= .seq vs n) (TK:tP sp K s.heap):N5 s (rD sp scr K):=fun a ha=>by
 rcases Sj.mp ha with q|q
 .exact ⟨o,q ▸ ho,by unfold yE;rw[hc];rfl,fun es ep e=>by rw[hd] at e;cases e⟩
 .obtain ⟨l,hl,q⟩:=SA.mp q;exact ⟨_,q ▸ TK l (Option.mem_toList.mp hl),rfl,fun es ep e=>by cases e⟩
theorem zA (h:s.heap.get? b=some x) (ne:b∉ws):(c9 s.heap ws).get? b=some x:=by
 rw[get?_without,if_neg ne];exact h
theorem MK (h:(c9 s.heap ws).get? b=some x):s.heap.get? b=some x/\b∉ws:=by
 rw[get?_without] at h;by_cases q:b∈ws
 .rw[if_pos q] at h;cases h
 .rw[if_neg q] at h;exact ⟨h,q⟩
theorem Fu (lw:N5 s ws) (h:s.heap.get? b=some x) (hx:yE x=true):(c9 s.heap ws).get? b=some x:=zA h fun q=>by
 obtain ⟨o,h1,h2,_⟩:=lw b q;rw[h] at h1;cases h1;rw[hx] at h2;cases h2
theorem AQ {a:Addr} {m:Str->Option Value} (lw:N5 s ws) (h:s.heap.Ns a m):(c9 s.heap ws).Ns a m:=by
 refine bn fun G9 k9=> ?_;obtain ⟨x,es,ep,h1,h2,r⟩:=h;refine k9 ?_;exact ⟨x,es,ep,zA h1 (fun q=>by
  obtain ⟨o,h3,_,h4⟩:=lw a q;rw[h1] at h3;cases h3;exact h4 _ _ h2),h2,r⟩
theorem H6 (X:K.In s.heap) (h:K.all (fun q=>yE q.2)=true) (lw:N5 s ws):K.In (c9 s.heap ws):=fun a x e=>
 Fu lw (X a x e) (List.all_eq_true.mp h _ (wJ e))
theorem H0 (T:Top p loose mean mg mb s.heap) (X:K.In s.heap) (ok:Me sp r0 ba gls key K=true) (hkey:∀ i j,i<100->j<100->key i=key j->i=j) (lw:N5 s (rD sp scr K)) (TK:tP sp K s.heap):
  fh (F5 prog w s scr K mg mb sp r0 ba gls key)/\Ap (F5 prog w s scr K mg mb sp r0 ba gls key):=by
 simp only [Me,Bool.and_eq_true] at ok;refine bn fun G9 k9=> ?_;obtain ⟨⟨⟨⟨⟨⟨⟨o1,o0⟩,o2⟩,o3⟩,o4⟩,o5⟩,o6⟩,o7⟩:=ok;refine k9 ?_;have X':=H6 X o0 lw;have g:=AQ lw T.g;have nl:(c9 s.heap (rD sp scr K)).NoLimit:=by
  obtain ⟨mc,h1,h2⟩:=T.nolimit;exact ⟨mc,AQ lw h1,h2⟩
 have TR:TopRead p loose mg mb (c9 s.heap (rD sp scr K)):=⟨g,AQ lw T.b,nl,T.builtins,T.free⟩;have row:∀ n,Jf K (fun sc Γ cd q=>⟨KM r0 ba,iL,key,gls,sc,Γ,CX (iB sp K) cd q⟩) (gw r0 ba n)=true:=fun n=>List.all_eq_true.mp o6 _ (Cc n);have fn:=fun n=>Ic X' (ai (row n));simp only [NL,Bool.and_eq_true,List.all_eq_true,beq_iff_eq,List.mem_range] at o5;have ex:=fun c (hc:c<nX)=>List.all_eq_true.mp o4 c (List.mem_range.mpr hc);simp only [Bool.and_eq_true,List.all_eq_true,beq_iff_eq,List.mem_range] at ex;refine ⟨⟨g,TR.b,nl,?_,?_,⟨X',mg_of X' g o5.1.1.1.1.1.1,any_some o5.1.1.1.1.1.2,o5.1.1.1.1.2,o5.1.1.1.2,o5.1.1.2,o5.1.2,o5.2.1.1.1,o5.2.1.1.2,IK,⟨o5.2.1.2,o5.2.2⟩,fun m hm=> ?_⟩,fun c hc=>own_of_in X' TR (ex c hc).1.1.1.1 (ex c hc).1.1.1.2,fun c hc=>(ex c hc).1.1.2,fun c hc k hk=>((ex c hc).2 k hk).1,fun c hc=>(ex c hc).1.2,fun c hc k hk=>((ex c hc).2 k hk).2,
  fun n hn=> ?_,fun q hq=>⟨ns_none_of X' g (bR (List.all_eq_true.mp o2 q hq)),(T.builtins _ (BB q hq).2).trans (BB q hq).1⟩,fun x q e=> ?_,hkey,fun l e=> ?_⟩,fun n pf hT=> ?_⟩
 .obtain ⟨mc,h1,h2⟩:=T.nodigits;exact ⟨mc,AQ lw h1,h2⟩
 .obtain ⟨x,hx⟩:=Option.isSome_iff_exists.mp o1;exact ⟨x,X' _ _ hx⟩
 .have hm:(gw r0 ba m).mth=true:=hm;have:=an (row m);rw[if_pos hm] at this;simp only [Bool.and_eq_true,beq_iff_eq,List.all_eq_true,List.mem_range,bne_iff_ne] at this;refine bn fun G9 k9=> ?_;obtain ⟨h1,o,fd,body,h2,h3,_⟩:=fn m;refine k9 ?_;exact ⟨this.1,h1,this.2,o,fd,h2,h3⟩
 .have hn:(gw r0 ba n).mth=false:=hn;have:=an (row n);rw[if_neg (by rw[hn];exact SI)] at this;refine bn fun G9 k9=> ?_;obtain ⟨_,o,fd,body,h2,h3,_⟩:=fn n;refine k9 ?_;exact ⟨mg_of X' g (beq_iff_eq.mp this),o,fd,h2,h3⟩
 .have h3:=List.all_eq_true.mp o3 _ (cO e);dsimp only at h3;split at h3
  .rename_i v hv
   exact ⟨v,mg_of X' g hv,Lx h3⟩
  .cases h3
 .have e:iB sp K=some l:=e;have tb:=TK l e;rw[e] at o7;refine bn fun G9 k9=> ?_;obtain ⟨bm,ob,b1,b2,b3,b4,b5,b6⟩:=T.bmain;refine k9 ?_;refine ⟨codeHd_of_K X' o7,⟨bm,ob,b1,b2,fun q=> ?_,fun q=> ?_,Fu lw b3 (by unfold yE;rw[b4];rfl),b4,b5,b6⟩,fun q=> ?_⟩
  .obtain ⟨o,es,ep,e2,hd,_⟩:=T.g;rw[q,e2] at b3;cases b3;rw[hd] at b6;cases b6
  .rw[q,tb] at b3;cases b3;cases b4
  .obtain ⟨o,es,ep,e2,hd,_⟩:=T.g;rw[q,tb] at e2;cases e2;cases hd
 .have hT':(ba.find? fun r=>r.id==n).map (·.pf)=some pf:=hT;refine bn fun G9 k9=> ?_;obtain ⟨r,hr,hpf⟩:=S8.mp hT';have er:gw r0 ba n=r:=by unfold gw;rw[hr];rfl
  obtain ⟨_,o,fd,body,h2,h3,h4,h5,h6,h7,h8,h9,h10⟩:=fn n;refine k9 ?_;rw[er] at h10;exact ⟨r,hpf.symm,o,fd,body,h2,h3,h4,h5,h6,h7,h8,h9,h10⟩
theorem GX (h:Heap):∀ ws:List Addr,(c9 h ws).objs.size=h.objs.size:=by
 intro ws
 induction ws with
 |nil=>
  exact rfl
 |cons a ws ih=>
  show ((c9 h ws).update a _).objs.size=_;unfold Heap.update;rw[Array.size_modify,ih]
theorem HW {C:bH} {w:bE} {vs:List Value} {sc:List Int} (h:IntsAre vs sc):RDs C w (sc.map .int) vs:=by
 induction h with
 |nil=>exact .nil
 |cons n t _ ih=>exact .cons (.int n t) ih
theorem HS {fa:Addr} {vs:List Value} {sc:List Int} {f d:Nat} {σ':az} {Q:Result->Shared->Prop} (hkey:∀ i j,i<100->j<100->key i=key j->i=j) (T:Top p loose mean mg mb s.heap) (X:K.In s.heap) (ok:Me sp r0 ba gls key K=true) (TK:tP sp K s.heap) (hl:s.heap.IsList scr vs.toArray) (hi:IntsAre vs sc)
  (hf:(gw r0 ba f).mth=false) (hfa:mg (gw r0 ba f).nm=some (.ref fa)) (hd:d<=50) (hrun:kB (Ax ba) (d+1) false f [.d (.lst (sc.map .int))] []=some (.ok (.d (.bool true)),σ'))
  (hQ:∀ s',rN s s'->(∀ b o,b∉(iB sp K).toList.map (·.P)->s.heap.get? b=some o->s'.heap.get? b=some o)->(∀ l,iB sp K=some l->∃ ps,s'.heap.get? l.P=some (tX ps))->Q (.ok (.ret (.bool true))) s'):codeAny (model prog w) callerA (.call (.ref fa) ⟨[.ref scr],[]⟩) Q s:=by
 refine bn fun G9 k9=> ?_;obtain ⟨⟨cl,dd,da,sl⟩,ho,hc,n,hdat⟩:=id hl;refine k9 ?_;simp only at hc hdat;subst hc;subst hdat;have lw:=K4 (scr:=scr) (K:=K) (sp:=sp) ho rfl rfl TK;obtain ⟨G,F⟩:=H0 (prog:=prog) (w:=w) T X ok hkey lw TK;generalize hC:F5 prog w s scr K mg mb sp r0 ba gls key=C at G F;have cH:C.H=c9 s.heap (rD sp scr K):=by rw[<-hC];rfl
 have cT:C.T=Ax ba:=by rw[<-hC];rfl
 have cM:C.M=model prog w:=by rw[<-hC];rfl
 have cL:C.lam=iB sp K:=by rw[<-hC];rfl
 have hadr:C.fadr f=fa:=by
  have h1:=(G.fn f (by rw[<-hC];exact hf)).1;have h2:mg (gw r0 ba f).nm=some (.ref (C.fadr f)):=by rw[<-hC] at h1 ⊢;exact h1
  rw[hfa] at h2;exact (Value.ref.inj (S_ h2)).symm
 generalize ht:(iB sp K).toList.map (·.P)=ts at hQ;have aw:rD sp scr K=scr::ts:=by rw[<-ht];rfl
 have hts:∀ a∈ts,s.heap.get? a=some (tX #[]):=fun a ha=>by
  rw[<-ht] at ha;obtain ⟨l,hl,q⟩:=SA.mp ha;exact q ▸ TK l (Option.mem_toList.mp hl)
 let P:Pt:=⟨s,[],fun a=>if a=scr then .fz (uz vs ⟨n,dd,sl⟩) else if a∈ts then .gh else .no,[],[]⟩
 have own:∀ a x,P.own a=x->x≠ .no->(a=scr/\x= .fz (uz vs ⟨n,dd,sl⟩))∨(a∈ts/\x= .gh):=fun a x e q=>by
  by_cases z:a=scr
  .exact .inl ⟨z,e.symm.trans (if_pos z)⟩
  .have e:(if a∈ts then cS.gh else .no)=x:=(if_neg z).symm.trans e;by_cases y:a∈ts
   .exact .inr ⟨y,e.symm.trans (if_pos y)⟩
   .exact absurd (e.symm.trans (if_neg y)) q
 have I:aL C P:=by
  refine ⟨fun b o e=> ?_,fun a o e=> ?_,fun a e=> ?_,⟨fun f h=>(SF h).elim,fun f h=>(SF h).elim,List.Pairwise.nil,(fun a e=>by rcases own a .fr e cS.noConfusion with ⟨_,q⟩|⟨_,q⟩<;>cases q)⟩,⟨fun p h=>(SF h).elim,S9,fun z e=> ?_⟩,(fun a b n j e=>by rcases own a (.cell n j) e cS.noConfusion with ⟨_,q⟩|⟨_,q⟩<;>cases q),(fun a n j e=>by rcases own a (.cell n j) e cS.noConfusion with ⟨_,q⟩|⟨_,q⟩<;>cases q),fun n o e=>nomatch e⟩
  .rw[cH] at e;obtain ⟨h1,h2⟩:=MK e;rw[aw] at h2;refine ⟨h1,?_⟩;show (if b=scr then cS.fz (uz vs ⟨n,dd,sl⟩) else if b∈ts then cS.gh else .no)= .no;rw[if_neg fun q=>h2 (by rw[q];exact .head _),if_neg (show¬b∈ts from fun q=>h2 (.tail _ q))]
  .rcases own a _ e cS.noConfusion with ⟨h1,h2⟩|⟨_,h2⟩
   .cases h2;rw[h1];exact ho
   .cases h2
  .rcases own a _ rfl e with ⟨h1,_⟩|⟨h1,_⟩
   .exact ⟨_,h1 ▸ ho⟩
   .exact ⟨_,hts a h1⟩
  .rw[cL] at e;have tb:=TK z e;have hm:z.P∈ts:=by rw[<-ht,e];exact .head _
   refine .inl ⟨tb,(if_neg fun q=> ?_).trans (if_pos hm),fun p h=>(SF h).elim⟩;rw[q,ho] at tb;cases tb
 have hsz:C.H.objs.size<=P.h.objs.size:=by
  rw[cH];exact Ta (GX _ _)
 rw[<-hadr,<-cM];refine codeAny_mono (tN G F (d+1) false callerA P f [.d (.lst (sc.map .int))] [.ref scr] (fun r _=>r= .ok (.d (.bool true))) (fun v s'=>v= .bool true/\rN s s'/\(∀ b o,b∉ts->s.heap.get? b=some o->s'.heap.get? b=some o)/\∀ l,iB sp K=some l->∃ ps,s'.heap.get? l.P=some (tX ps)) (fun _ _=>False) ⟨[],rfl,fun e h=>(SF h).elim⟩ hsz ?_ ?_ (fun _=>rfl) I (.cons (.lst (n:=⟨n,dd,sl⟩) (if_pos rfl) (HW hi)) .nil) ?_ ⟨fun q v P' g I' r k=> ?_,fun c e P' _ _ _ k=>by cases k⟩) fun r s' h=> ?_
 .show 1+claimMargin+8*(d+1)+144<1000;have:claimMargin=300:=rfl;exact O7 hd this
 .show 4+64*(d+1)+945<9900;exact SJ (Nat.add_le_add_right (S0 (To 64 (Tj hd)) 4) 945) (by decide)
 .show Wp _ (kB C.T (d+1) false f _ []);rw[cT,hrun];rfl
 .cases k;refine ⟨r.view,g.sm,fun b o hb e=> ?_,fun l e=> ?_⟩
  .by_cases z:b=scr
   .rw[z,ho] at e;cases e;rw[z];exact I'.fz _ _ (g.fz _ _ (if_pos rfl))
   .exact (I'.base b o (by rw[cH,aw];exact zA e fun q=>(Sj.mp q).elim z hb)).1
  .rcases I'.gh.tab l (cL.trans e) with h|⟨_,_,_,_,h,_⟩
   .exact ⟨_,h.1⟩
   .exact ⟨_,h.1⟩
 .cases r with
  |ok fl=>
   cases fl with
   |ret v=>obtain ⟨rfl,sm,k1,k2⟩:=h;exact hQ s' sm k1 k2
   |_=>exact h.elim
  |error e=>exact h.elim
end
end Mine.Internal
namespace Mine.Internal
open PySem PyProof.Rows PySem.W
variable {C:bH} {A:Around} {P:Pt} {E Q:Value->Shared->Prop} {kvs:List (Str×Value)} {k:Nat} {v:Value} {x y:PV} {σ σ':az} {s:List Nat} {K:R PV->az->Prop} {X:Cx} {e:Expr} {ρ:bg} {st:Stmt} {a:Addr}
section
theorem K9 (G:fh C) (hk:∀ i p,kvs[i]? =some p->p.1=C.key i) (hl:kvs.length<=100) {p:Str×Value} (e:kvs[k]? =some p):valueAt kvs (C.key k)=some p.2:=by
 have hlt:=(Sl.mp e).1;have h1:∀ j,j<k->∀ q,kvs[j]? =some q->q.1≠C.key k:=fun j hj q hq z=>by
  have:=hk j q hq;have:=G.keys j k (by exact SK (Th hj hlt) hl) (by exact SK hlt hl) (this.symm.trans z);exact Nat.ne_of_lt hj this
 show (kvs.find? fun kv=>decide (kv.1=C.key k)).map (·.2)=_;have:kvs.find? (fun kv=>decide (kv.1=C.key k))=some p:=by
  rw[List.find?_eq_some_iff_getElem];refine ⟨Sz (hk k p e),k,hlt,(Sl.mp e).2,fun j hj=> ?_⟩;have:=h1 j hj kvs[j] (Sn (by exact Th hj hlt));rw[Tc this];rfl
 rw[this];rfl
theorem yl {k:Str} (h:∀ p∈kvs,p.1≠k):stored kvs k v=kvs++[(k,v)]:=by
 unfold stored;rw[if_neg];intro q;simp only [List.any_eq_true,decide_eq_true_eq] at q;obtain ⟨p,hp,e⟩:=q;exact h p hp e
theorem ec {α:Type} {l:List α} {x y:α} {i:Nat} (h:(l++[x])[i]? =some y):(i≠l.length->l[i]? =some y)/\(i=l.length->y=x):=by
 constructor
 .intro q;have lt:=(Sl.mp h).1;rw[Sk,Su] at lt
  rwa [S7 (by exact Nat.lt_of_le_of_ne (Tp lt) q)] at h
 .intro q;rw[q,dG] at h;exact (S_ h).symm
structure Q5 (C:bH) (kvs:List (Str×Value)) (k:Nat) (v:Value) (res:List (Str×Value)) (n:Nat):Prop where
 len:res.length=n
 nm:∀ i p,res[i]? =some p->p.1=C.key i
 nw:∀ p,res[k]? =some p->p.2=v
 old:∀ i p,i≠k->res[i]? =some p->kvs[i]? =some p
theorem DZ (G:fh C) (hk:∀ i p,kvs[i]? =some p->p.1=C.key i) (hl:kvs.length<100):Q5 C kvs kvs.length v (stored kvs (C.key kvs.length) v) (kvs.length+1):=by
 rw[yl fun p hp q=>by
  obtain ⟨i,hi,e⟩:=List.getElem_of_mem hp;have h1:=hk i p (by rw[Sn hi,e]);have:=G.keys i kvs.length (by exact Th hi hl) hl (h1.symm.trans q);exact Nat.ne_of_lt hi this]
 refine ⟨by rw[Sk];rfl,fun i p h=> ?_,fun p h=> ?_,fun i p q h=>(ec h).1 q⟩
 .by_cases q:i=kvs.length
  .rw[(ec h).2 q,q]
  .exact hk i p ((ec h).1 q)
 .rw[(ec h).2 rfl]
theorem J_ (G:fh C) (hk:∀ i p,kvs[i]? =some p->p.1=C.key i) (hl:kvs.length<=100) (hk':k<kvs.length):Q5 C kvs k v (stored kvs (C.key k) v) kvs.length:=by
 have hm:kvs.any (fun kv=>decide (kv.1=C.key k))=true:=List.any_eq_true.mpr ⟨kvs[k],List.getElem_mem hk',Sz (hk k _ (Sn hk'))⟩;have e:stored kvs (C.key k) v=kvs.map (fun kv=>if kv.1=C.key k then (kv.1,v) else kv):=if_pos hm;rw[e];have key:∀ i p,(kvs.map (fun kv=>if kv.1=C.key k then (kv.1,v) else kv))[i]? =some p->∃ q,kvs[i]? =some q/\(if q.1=C.key k then (q.1,v) else q)=p:=fun i p h=>by
  rw[SB] at h;exact S8.mp h
 refine ⟨Sg ..,fun i p h=> ?_,fun p h=> ?_,fun i p q h=> ?_⟩
 .obtain ⟨z,e1,e2⟩:=key i p h;rw[<-e2,<-hk i z e1];split<;>rfl
 .obtain ⟨z,e1,e2⟩:=key k p h;rw[<-e2,if_pos (hk k z e1)]
 .obtain ⟨z,e1,e2⟩:=key i p h;rw[<-e2,if_neg,e1];intro c;have hi:=(Sl.mp e1).1;exact q (G.keys i k (by exact SK hi hl) (by exact SK hk' hl) ((hk i z e1).symm.trans c))
noncomputable def Nq:cU->Bool
 | .d _=>true
 |_=>false
noncomputable def G0 (k:Nat) (x v:PV) (σ:az):Option az:=match x with
 | .p n 0=>(df false σ n).bind fun l=>match v with
  | .d y=>if k=l.length then au (k<100) (σ.set n (.rcd false (l++[.d y]))) else (l[k]?).bind fun f=>au (Nq f=true) (σ.set n (.rcd false (l.set k (.d y))))
  | .p m 0=>(au (k=l.length/\k<100/\m≠n) ()).bind fun _=>(ck σ m 0).bind fun f=>f.rd.map fun _=>(σ.set m .dead).set n (.rcd false (l++[f]))
  |_=>none
 |_=>none
noncomputable def jn (x:PV) (σ:az):Nat:=match x with
 | .p n _=>((df false σ n).getD []).length
 |_=>0
theorem AN {v:PV} {vx vv:Value} (G:fh C) (I:aL C P) (hx:RV C P vx x) (hv:RV C P vv v) (e:G0 k x v P.σ=some σ'):
  ∃ d kvs,vx= .ref d/\P.h.DictOf (strKind C.prog C.w) d kvs/\kvs.length<=100/\kvs.length=jn x P.σ/\∀ h' t,h'.DictOf (strKind C.prog C.w) d (stored kvs (C.key k) vv)->Heap.SameBut d P.h h'->∃ P',bQ P P'/\aL C P'/\P'.σ=σ'/\P'.s={P.s with heap:=h',toks:=t}:=by
 cases x with
 |d _=>cases e
 |b _ _=>cases e
 |p n j=>
 cases j with
 |succ _=>cases e
 |zero=>
 obtain ⟨l,e1,e⟩:=aq e;have en:=jY e1;obtain @⟨d,o,kvs,h1,h2,h3,h4,h5,h6,h7⟩:rO C P.own P.h n l:=I.obj n _ en;refine ⟨d,kvs,hx.2 d h1,Heap.dictOf_iff.mpr ⟨o,h2,h3⟩,by exact le_of_eq_of_le h4 h5,by show kvs.length=((df false P.σ n).getD []).length;rw[e1];exact h4,fun h' t hd hs=> ?_⟩;obtain ⟨o',g1,g2⟩:=Heap.dictOf_iff.mp hd;have ro:∀ (w':bE) (f:cU) (l':List cU) (q:Q5 C kvs k vv (stored kvs (C.key k) vv) l'.length),l'.length<=100->(∀ i f',i≠k->l'[i]? =some f'->l[i]? =some f')->(∀ f',l'[k]? =some f'->f'=f)->Fz P.own w'->(∀ b j,P.own b= .cell n j->w' b= .cell n j)->FA C w' h' n k vv f->RO C w' h' n (.rcd false l'):=fun w' f l' q hl i1 i2 fz kw fa=>by
  refine rO.mk (kw _ _ h1) g1 g2 q.len hl q.nm fun i f' p z1 z2=> ?_;by_cases c:i=k
  .subst c;rw[i2 f' z1,q.nw p z2];exact fa
  .refine (h7 i f' p (i1 i f' c z1) (q.old i p c z2)).mono fz fun b o y1 y2=>⟨kw b _ y1,hs.extBut b o (fun z=> ?_) y2⟩;rw[z,h1] at y1;cases y1
 cases v with
 |b _ _=>cases e
 |d y=>
  have e:(if k=l.length then au (k<100) (P.σ.set n (.rcd false (l++[.d y]))) else (l[k]?).bind fun f=>au (Nq f=true) (P.σ.set n (.rcd false (l.set k (.d y)))))=some σ':=e;by_cases c:k=l.length
  .rw[if_pos c] at e;obtain ⟨hk,e⟩:=eb e;have q:=DZ (v:=vv) G h6 (by rw[h4,<-c];exact hk);rw[h4,<-c] at q;have r:=ro P.own (.d y) (l++[.d y]) (by rw[Sk,<-c];exact q) (by rw[Sk,<-c];exact hk) (fun i f' hi z=>(ec z).1 (by rw[<-c];exact hi)) (fun f' z=>(ec z).2 c) (fun _ _ e=>e) (fun _ _ e=>e) hv;have kp:∀ j,(PO.rcd false l).has j->(PO.rcd false (l++[.d y])).has j:=fun j q=>by show j<(l++[cU.d y]).length+2;rw[Sk];have:j<l.length+2:=q;exact O6 this
   exact ⟨_,.turn en kp,I.turn (h':=h') (t:=t) kp en h1 (fun b o hb e=>hs.extBut b o hb e) g1 r,e.symm ▸ rfl,rfl⟩
  .rw[if_neg c] at e;obtain ⟨f0,e2,e⟩:=aq e;obtain ⟨_,e⟩:=eb e;have hk:=(Sl.mp e2).1;have q:=J_ (v:=vv) (k:=k) G h6 (by exact le_of_eq_of_le h4 h5) (by exact Nat.lt_of_lt_of_eq hk (id (Eq.symm h4)));have r:=ro P.own (.d y) (l.set k (.d y)) (by rw[SL,<-h4];exact q) (by rw[SL];exact String.Pos.Raw.mk_le_mk.mp h5) (fun i f' hi z=>by rwa [SP (Ne.symm hi)] at z) (fun f' z=>by rw[List.getElem?_set_self hk] at z;exact (S_ z).symm) (fun _ _ e=>e) (fun _ _ e=>e) hv;have kp:∀ j,(PO.rcd false l).has j->(PO.rcd false (l.set k (.d y))).has j:=fun j q=>by show j<(l.set k (.d y)).length+2;rw[SL];exact q
   exact ⟨_,.turn en kp,I.turn (h':=h') (t:=t) kp en h1 (fun b o hb e=>hs.extBut b o hb e) g1 r,e.symm ▸ rfl,rfl⟩
 |p m' j=>
 cases j with
 |succ _=>cases e
 |zero=>
  obtain ⟨_,z1,e⟩:=aq e;obtain ⟨f,z2,e⟩:=aq e;obtain ⟨u,z3,e⟩:=a_ e;obtain ⟨c,hk,z1⟩:=(eb z1).1;obtain ⟨o',z4,z5⟩:=aq z2;obtain @⟨af,of,y1,y2,y3⟩:=nU I hv z2 (jm z3).2;have fz:Fz P.own (im P.own af (.cell n (l.length+2))):=fun b o e=>(bB fun c=>by rw[c,y1] at e;cases e).trans e;have ndf:af≠d:=fun q=>by rw[q,h1] at y1;cases y1;exact z1 rfl
  have q:=DZ (v:=.ref af) G h6 (by rw[h4,<-c];exact hk);rw[h4,<-c] at q;obtain ⟨J,g⟩:=xV (t:=t) (l':=l++[f]) I z4 en z1 y1 h1 (fun b o hb e=>hs.extBut b o hb e) y2 g1 (by rw[Sk];rfl)
   (ro _ f (l++[f]) (by rw[Sk,<-c];exact q) (by rw[Sk,<-c];exact hk) (fun i f' hi z=>(ec z).1 (by rw[<-c];exact hi)) (fun f' z=>(ec z).2 c) fz (fun b j e=>(bB fun c=>by rw[c,y1] at e;cases e;exact z1 rfl).trans e) (FG (jm z3).2 (by rw[c];exact jS.mk (bU _ _ _) (hs.extBut _ _ ndf y2) (y3.ext fz))))
  exact ⟨_,g,J,e,rfl⟩
end
noncomputable def k_:PV->Option (List Nat)
 | .d x=>sD x
 |_=>none
theorem pD (h:k_ y=some s):y= .d (.str s):=by
 cases y with
 |d v=>cases v<;>first|(cases h;done)|(cases h;rfl)
 |_=>cases h
noncomputable def Lc (k:Nat) (s:List Nat) (x y:PV):PM PV:=fun σ=>(au (k_ y=some s) ()).bind fun _=>rF false k x σ
theorem GI (w:Wp K (Lc k s x y σ)):y= .d (.str s)/\Wp K (rF false k x σ):=by
 have w:Wp K ((au (k_ y=some s) ()).bind fun _=>rF false k x σ):=w;unfold au at w;by_cases q:k_ y=some s
 .rw[if_pos q] at w;exact ⟨pD q,w⟩
 .rw[if_neg q] at w;exact w.elim
section
theorem La (o:CE) (k:Nat) (s:List Nat) (h:bT (fun v j _=>dg j&&cA s==X.sx.key k&&o.is X.sx v&&(aH s).is X.sx j) e=true) (I:aL X.C P) (G:EnvOK X P ρ) (w:Wp K (bW (o.ev X.ker ρ) (fun x=>bW ((aH s).ev X.ker ρ) fun y=>Lc k s x y) P.σ)) (p:bu X (RV X.C) P K Q E):wpAny X.M X.A (eval e X.env) Q E P.s:=
 cx (fun e=>wpAny X.M X.A (eval e X.env) Q E P.s) h fun v j pos h=>Subscript_ (o.ok X v ρ P _ _ E (an (ai h)) I G (aR w) (p.bind fun x vx P1 g1 I1 r1 w p=>
  (aH s).ok X j ρ P1 _ _ E (an h) I1 (G.ext g1) (aR w) (p.bind fun y u P2 g2 I2 r2 w p=>by
   obtain ⟨hy,w2⟩:=GI w;subst hy;obtain ⟨n,l,f,q,e1,e2,kk⟩:=As w2;subst q;obtain ⟨_,t,hu⟩:jb s/\∃ t,u= .str (cA s) t:=RD.view r2;have hk:cA s=X.C.key k:=bR (an (ai (ai h)));obtain @⟨d,ob,kvs,h1,h2,h3,h4,h5,h6,h7⟩:rO X.C P2.own P2.h n l:=I2.obj n _ e1;have hlt:=(Sl.mp e2).1;have ek:kvs[k]? =some kvs[k]:=Sn (by exact Nat.lt_of_lt_of_eq hlt (id (Eq.symm h4)));have hM:=(Heap.dictOf_iff.mpr ⟨ob,h2,h3⟩).mapOf;rw[hu,(r1.ext g2.toExt).2 d h1,hk];exact tail_any hM.typeIs slot_dict_getitem.lookup (wpAny_getItem_of (strKind_is _ _ _ _) hM (K9 X.good h6 (by exact le_of_eq_of_le h4 h5) ek) (p.ok _ _ (P2.to P2.h _) (.to ..) (I2.to fun _ _ e=>e) (Ek I2 e1 e2 (h7 k f _ e2 ek)) kk)) (dz (ai (ai (ai h))) _ _))))
end
noncomputable def key (o:CE) (k:Nat) (s:List Nat):CE:=⟨fun K ρ=>bW (o.ev K ρ) fun x=>bW ((aH s).ev K ρ) fun y=>Lc k s x y,fun sx=>bT fun v j _=>dg j&&cA s==sx.key k&&o.is sx v&&(aH s).is sx j,fun _ _ _ _ _ _ _ h I G w p=>La o k s h I G w p⟩
noncomputable def oZ (key:Nat->Str):Nat->List (List Nat)->Bool
 |_,[]=>true
 |i,s::r=>cA s==key i&&oZ key (i+1) r
theorem zh {key:Nat->Str}:∀ {tb:List (List Nat)} {i k:Nat} {s:List Nat},oZ key i tb=true->tb[k]? =some s->cA s=key (i+k):=by
 intro tb
 induction tb with
 |nil=>
  intro _ _ _ _ e;exact nomatch e
 |cons a tb ih=>
  intro i k s h e;cases k with
  |zero=>cases e;exact bR (ai h)
  |succ k=>
   have:=ih (k:=k) (an h) e;rw[this,Nat.add_assoc,Nat.add_comm 1 k]
noncomputable def uh (tb:List (List Nat)) (k:Nat) (v x y:PV) (σ:az):Option az:=(tb[k]?).bind fun s=>(au (k_ y=some s) ()).bind fun _=>G0 k x v σ
theorem s_ {tb:List (List Nat)} {v:PV} (h:uh tb k v x y σ=some σ'):∃ s,tb[k]? =some s/\y= .d (.str s)/\G0 k x v σ=some σ':=by
 obtain ⟨s,e1,h⟩:=aq h;obtain ⟨_,e2,h⟩:=aq h;exact ⟨s,e1,pD (eb e2).1,h⟩
section
variable {X:SX} {K:Out->az->Prop} {Q:Flow->Shared->Prop}
theorem Ef (tb:List (List Nat)) (kf:PV->az->Nat) (o i a:CE) (h:oj (fun t e=>bT (fun oe ke _=> !gi e&&dg ke&&oZ X.sx.key 0 tb&&o.is X.sx oe&&i.is X.sx ke&&a.is X.sx e) t) st=true) (I:aL X.C P) (G:ct X P ρ)
  (w:io K (b8 ρ (a.ev X.ker ρ) (fun v=>b8 ρ (o.ev X.ker ρ) fun x=>b8 ρ (i.ev X.ker ρ) fun y σ=>fS (uh tb (kf x σ) v x y σ) fun σ'=>some (.next ρ,σ')) P.σ)) (p:c8 X P K Q E):wpAny X.M X.A (PySem.exec st X.env) Q E P.s:=
 fM (fun st=>wpAny X.M X.A (PySem.exec st X.env) Q E P.s) h fun t e pos h=>cx (fun t=>wpAny X.M X.A (PySem.exec (.Assign [t] e pos) X.env) Q E P.s) h fun oe ke px h=>
  wpAny_Assign_Subscript (a.ok X.toCx e ρ P _ _ E (an h) I G.toEnvOK (cW w) (p.bind G fun v vv P1 g1 I1 r1 w G1 p=>
   o.ok X.toCx oe ρ P1 _ _ E (an (ai (ai h))) I1 G1.toEnvOK (cW w) (p.bind G1 fun x vx P2 g2 I2 r2 w G2 p=>
    i.ok X.toCx ke ρ P2 _ _ E (an (ai h)) I2 G2.toEnvOK (cW w) (p.bind G2 fun y vy P3 g3 I3 r3 w G3 p=>by
     obtain ⟨σ',e3,w2⟩:=ee w;obtain ⟨s,e4,q,e5⟩:=s_ e3;subst q;obtain ⟨_,t,hu⟩:jb s/\∃ t,vy= .str (cA s) t:=RD.view r3;have hk:=zh (an (ai (ai (ai h)))) e4;rw[Td] at hk;obtain ⟨d,kvs,q1,q2,q3,_,q4⟩:=AN X.good I3 (r2.ext g3.toExt) (r1.ext (g2.trans g3).toExt) e5;rw[q1,hu,hk];refine wpAny_setItem_pairs (strKind_is _ _ _ _) q2 (fun h' z1 z2=> ?_) (Ss q3 (by decide));obtain ⟨P4,g4,I4,y1,y2⟩:=q4 h' (P3.s.toks+1) z1 z2;have:=p.next ρ P4 (G3.gs g4) I4 (G3.ext g4) (y1 ▸ w2);rw[y2] at this;exact this)))) (gX ((Bool.not_eq_true' _).mp (ai (ai (ai (ai (ai h)))))))
end
noncomputable def Je (tb:List (List Nat)) (kf:PV->az->Nat) (o i a:CE):C1:=⟨fun K ρ=>b8 ρ (a.ev K ρ) fun v=>b8 ρ (o.ev K ρ) fun x=>b8 ρ (i.ev K ρ) fun y σ=>fS (uh tb (kf x σ) v x y σ) fun σ'=>some (.next ρ,σ'),fun s=>oj fun t e=>bT (fun oe ke _=> !gi e&&dg ke&&oZ s.key 0 tb&&o.is s oe&&i.is s ke&&a.is s e) t,fun X st ρ P K Q E h I G w p=>Ef tb kf o i a h I G w p⟩
noncomputable def Kd (tb:List (List Nat)) (k:Nat) (o i a:CE):C1:=Je tb (fun _ _=>k) o i a
noncomputable def My (tb:List (List Nat)) (o i a:CE):C1:=Je tb jn o i a
noncomputable def D8 (s:List Nat) (x y v:PV):PM PV:=fun σ=>(au (jn x σ=0) ()).bind fun _=>(uh [s] 0 v x y σ).map fun σ'=>(.ok x,σ')
theorem GG {v:PV} (w:Wp K (D8 s x y v σ)):∃ σ',jn x σ=0/\uh [s] 0 v x y σ=some σ'/\K (.ok x) σ':=by
 have w:Wp K ((au (jn x σ=0) ()).bind fun _=>(uh [s] 0 v x y σ).map fun σ'=>(.ok x,σ')):=w;unfold au at w;by_cases q:jn x σ=0
 .rw[if_pos q,Si] at w;cases e:uh [s] 0 v x y σ with
  |none=>rw[e] at w;exact w.elim
  |some σ'=>rw[e] at w;exact ⟨σ',q,rfl,w⟩
 .rw[if_neg q] at w;exact w.elim
section
theorem Cr (s:List Nat) (a:CE) (h:jO (fun ks vs _=>iC (GA fun ke=>(aH s).is X.sx ke) List.isEmpty ks&&iC (fun ve=>cA s==X.sx.key 0&&a.is X.sx ve) List.isEmpty vs) e=true) (I:aL X.C P) (G:EnvOK X P ρ)
  (w:Wp K (bW (iW (.rcd false [])) (fun x=>bW ((aH s).ev X.ker ρ) fun y=>bW (a.ev X.ker ρ) fun v=>D8 s x y v) P.σ)) (p:bu X (RV X.C) P K Q E):wpAny X.M X.A (eval e X.env) Q E P.s:=
 jN (fun e=>wpAny X.M X.A (eval e X.env) Q E P.s) h fun ks vs pos h=>c6 (fun ks=>wpAny X.M X.A (eval (.Dict ks vs pos) X.env) Q E P.s) (ai h) fun ke kr h1 h2=>bZ (fun kr=>wpAny X.M X.A (eval (.Dict (ke::kr) vs pos) X.env) Q E P.s) h2
  (c6 (fun vs=>wpAny X.M X.A (eval (.Dict [ke] vs pos) X.env) Q E P.s) (an h) fun ve vr h3 h4=>bZ (fun vr=>wpAny X.M X.A (eval (.Dict [ke] (ve::vr) pos) X.env) Q E P.s) h4
   (gf (fun ke=>wpAny X.M X.A (eval (.Dict [ke] [ve] pos) X.env) Q E P.s) h1 fun ke h5=>by
    refine wpAny_Dict_walk (knd:=strKind X.C.prog X.C.w) rfl rfl (fun q=>nomatch q) (Sp rfl) (pairTrees_cons_walk ?_);have hn:=I.push (o:=u') rfl;have d0:u'.IsDictOf (strKind X.C.prog X.C.w) []:=⟨#[],0,⟨rfl,rfl,rfl⟩,rfl,fun _ he=>by simp at he,Pairs.nil,S9⟩;have J:aL X.C (P.make (P.h.push u') P.s.toks P.h.objs.size (.rcd false [])):=I.make Nat.two_pos hn (rO.mk (bU _ _ _) hn.at_ d0 rfl (SN _) (fun i p e=>nomatch e) fun i f p e=>nomatch e);have g0:bQ P (P.make (P.h.push u') P.s.toks P.h.objs.size (.rcd false [])):=.make hn.own;have rx:RV X.C (P.make (P.h.push u') P.s.toks P.h.objs.size (.rcd false [])) (.ref P.h.objs.size) (.p P.σ.length 0):=I.rvMake Nat.two_pos;have w:Wp K (bW ((aH s).ev X.ker ρ) (fun y=>bW (a.ev X.ker ρ) fun v=>D8 s (.p P.σ.length 0) y v) (P.σ++[.rcd false []])):=w;refine (aH s).ok X ke ρ (P.make (P.h.push u') P.s.toks P.h.objs.size (.rcd false [])) _ _ E h5 J (G.ext g0) (aR w) ((p.mono g0).bind fun y vy P1 g1 I1 r1 w p=> ?_);refine a.ok X ve ρ P1 _ _ E (an h3) I1 ((G.ext g0).ext g1) (aR w) (p.bind fun v vv P2 g2 I2 r2 w p=> ?_);refine pairTrees_nil_walk ?_;refine bn fun G9 k9=> ?_;obtain ⟨σ',e0,e1,k⟩:=GG w;obtain ⟨s',e2,q,e3⟩:=s_ e1;refine k9 ?_;cases e2;subst q;refine bn fun G9 k9=> ?_;obtain ⟨_,t,hu⟩:jb s/\∃ t,vy= .str (cA s) t:=RD.view r1;have hk:cA s=X.C.key 0:=bR (ai h3);have rx2:=(rx.ext g1.toExt).ext g2.toExt;obtain ⟨d,kvs,q1,q2,q3,q5,q4⟩:=AN X.good I2 rx2 r2 e3;refine k9 ?_;cases q1;rw[e0] at q5;have q6:=List.eq_nil_of_length_eq_zero q5;subst q6;refine ⟨[(X.C.key 0,vv)],⟨by rw[hu,hk];exact strKind_is _ _ _ _,rfl,trivial⟩,q2,fun h' z1 z2=> ?_⟩;refine bn fun G9 k9=> ?_;obtain ⟨P4,g4,I4,y1,y2⟩:=q4 h' (P2.s.toks+1) z1 z2;refine k9 ?_;have:=p.ok (.p P.σ.length 0) _ P4 g4 I4 (rx2.ext g4.toExt) (y1 ▸ k);rw[y2] at this;exact this))
end
noncomputable def EN (s:List Nat) (a:CE):CE:=⟨fun K ρ=>bW (iW (.rcd false [])) fun x=>bW ((aH s).ev K ρ) fun y=>bW (a.ev K ρ) fun v=>D8 s x y v,fun sx=>jO fun ks vs _=>iC (GA fun ke=>(aH s).is sx ke) List.isEmpty ks&&iC (fun ve=>cA s==sx.key 0&&a.is sx ve) List.isEmpty vs,fun _ _ _ _ _ _ _ h I G w p=>Cr s a h I G w p⟩
noncomputable def Nm:List D->Bool
 |[a,b]=>(sD a).isSome&&(sD b).isSome
 |_=>false
noncomputable def qA:D->Bool
 | .tup l=>Nm l
 |_=>false
noncomputable def Bi (k:D) (ks:List D):Bool:=qA k&&ks.all qA
open Classical in
noncomputable def fR (k:D):List D->List D
 |[]=>[k]
 |x::ks=>if x=k then x::ks else x::fR k ks
open Classical in
noncomputable def ly (k v:D):List D->List D->List D
 |x::ks,u::vs=>if x=k then v::vs else u::ly k v ks vs
 |_,_=>[v]
section
variable {w:bE}
theorem Eh {a:D} (h:(sD a).isSome=true):∃ x,a= .str x:=by
 cases a<;>first|(cases h;done)|exact ⟨_,rfl⟩
theorem wW {k:D} (h:qA k=true):∃ a b,k= .tup [.str a,.str b]:=by
 cases k with
 |tup l=>
  cases l with
  |nil=>cases h
  |cons x l=>
   cases l with
   |nil=>cases h
   |cons y l=>
    cases l with
    |nil=>
     have h:((sD x).isSome&&(sD y).isSome)=true:=h;obtain ⟨a,e1⟩:=Eh (ai h);obtain ⟨b,e2⟩:=Eh (an h);rw[e1,e2];exact ⟨a,b,rfl⟩
    |cons=>cases h
 |_=>cases h
theorem oR:∀ {x y:List Str},rW x=rW y<->x=y:=by
 have key:∀ x y:List Str,(x.map fun s=>D.str s.cps.toList)=(y.map fun s=>D.str s.cps.toList)->x=y:=by
  intro x
  induction x with
  |nil=>intro y h;cases y with
   |nil=>rfl
   |cons=>cases h
  |cons a x ih=>intro y h;cases y with
   |nil=>cases h
   |cons b y=>
    rw[List.map_cons,List.map_cons] at h;injection h with h1 h2;injection h1 with h1;rw[ih y h2,PySem.Str.ext' (Array.toList_inj.mp h1)]
 intro x y;constructor
 .intro h;injection h with h;exact key x y h
 .intro h;rw[h]
theorem Kr {k:D} {vk:Value} (h:qA k=true) (hk:RD C w k vk):∃ ks a,k=rW ks/\vk= .ref a/\nZ C w ks a:=by
 refine bn fun G9 k9=> ?_;obtain ⟨a,b,rfl⟩:=wW h;obtain @⟨ad,vs,n,h1,h2⟩:kg C w cy [.str a,.str b] vk:=hk.view;obtain ⟨r1,h3⟩:dF C w (.str a) [.str b] vs:=h2.view;obtain ⟨r2,h4⟩:dF C w (.str b) [] _:=h3.view;obtain ⟨o1,t1,e1⟩:jb a/\∃ t,_=Value.str (cA a) t:=r1.view;obtain ⟨o2,t2,e2⟩:jb b/\∃ t,_=Value.str (cA b) t:=r2.view;refine k9 ?_;have e3:_=[]:=h4.view;subst e1 e2 e3;refine ⟨[cA a,cA b],ad,rfl,rfl,_,n,h1,?_,rfl,fun s hs=> ?_⟩
 .exact .cons (strKind_is _ _ _ _) (.cons (strKind_is _ _ _ _) .nil)
 .rcases Sj.mp hs with z|hs
  .rw[z];exact o1
  .rw[So.mp hs];exact o2
theorem nZ.is (I:aL C P) {ks:List Str} (h:nZ C P.own ks a):(tupleKind (strKind C.prog C.w)).is P.h ks a:=by
 refine bn fun G9 k9=> ?_;obtain ⟨vs,n,h1,h2,_⟩:=h;refine k9 ?_;exact ⟨_,vs.toArray,n,I.fz _ _ h1,rfl,rfl,h2⟩
inductive Gu (C:bH) (P:Pt) (a:Addr) (o:Obj) (ks:List D) (vs:List Value):Prop
 |mk (xs:List (List Str×Addr×Value)):P.h.DictOfH (tupleKind (strKind C.prog C.w)) a xs->(∀ x∈xs,nZ C P.own x.1 x.2.1)->ks=xs.map (fun x=>rW x.1)->vs=xs.map (·.2.2)->(xs.map (·.1)).Nodup->Gu C P a o ks vs
theorem Hi (I:aL C P) {o:Obj} {ks:List D} {vs:List Value} (ho:P.h.get? a=some o) (h:fC C P.own o ks vs) (hf:ks.all qA=true):Gu C P a o ks vs:=by
 cases h with
 |pr xs es ep h1 h2 h3 h4 h5 h6 h7 h8=>exact .mk xs ⟨o,es,ep,ho,h1,h2,h3,fun x hx=>(h4 x hx).is I,h5⟩ h4 h6 h7 h5
 |mk d l hd h1 h2 h3 h4=>
  cases l with
  |cons p l=>
   rw[h2] at hf;have hf:=ai hf;cases hd with
   |str=>cases hf
   |int=>cases hf
  |nil=>
   letI:=d.dec
   refine bn fun G9 k9=> ?_;obtain ⟨es,ep,z1,z2,_,z4,_⟩:=h1;refine k9 ?_;have he:es=#[]:=by
    cases q:es.toList with
    |nil=>exact Array.toList_eq_nil_iff.mp q
    |cons e r=>rw[q] at z4;cases z4
   subst he;exact .mk [] ⟨o,#[],ep,ho,z1,z2,rfl,fun x hx=>absurd hx SF,S9⟩ aW h2 h3 S9
theorem Ji (c:List Str) {a:Addr} {q:D} {u:Value} (hq:RD C w q u):∀ {xs:List (List Str×Addr×Value)} {ps:List D},RDs C w ps (xs.map (·.2.2))->(xs.map (·.1)).Nodup->
  fR (rW c) (xs.map fun x=>rW x.1)=(storedH xs c a u).map (fun x=>rW x.1)/\RDs C w (ly (rW c) q (xs.map fun x=>rW x.1) ps) ((storedH xs c a u).map (·.2.2))
 |[],ps,r,_=>by
  cases ps with
  |nil=>exact ⟨rfl,.cons hq .nil⟩
  |cons=>cases r.length
 |x::xs,[],r,_=>by cases r.length
 |x::xs,p::ps,r,hn=>by
  obtain ⟨r1,r2⟩:dF C w p ps (x.2.2::List.map (fun y:List Str×Addr×Value=>y.2.2) xs):=r.view;rw[List.map_cons,S6] at hn;show fR (rW c) (rW x.1::xs.map fun x=>rW x.1)=_/\RDs C w (ly (rW c) q (rW x.1::xs.map fun x=>rW x.1) (p::ps)) _;by_cases h:x.1=c
  .have e1:atKey (x::xs) c=some x.2:=by unfold atKey;rw[List.find?_cons_of_pos (by simpa using h)];rfl
   have e2:storedH (x::xs) c a u=(x.1,x.2.1,u)::xs:=by
    rw[storedH_old e1,List.map_cons,map_putAt_of_not_mem xs c u (fun z=>hn.1 (h ▸ z)),PySem.putAt,if_pos h]
   rw[e2,fR,ly,if_pos (oR.mpr h),if_pos (oR.mpr h)];exact ⟨rfl,.cons hq r2⟩
  .have ih:=Ji c (a:=a) hq r2 hn.2;have e2:storedH (x::xs) c a u=x::storedH xs c a u:=by
    have e1:atKey (x::xs) c=atKey xs c:=by unfold atKey;rw[List.find?_cons_of_neg (by simpa using h)]
    unfold storedH;rw[e1];split
    .rw[List.map_cons,PySem.putAt,if_neg h]
    .rfl
   rw[e2,fR,ly,if_neg (fun q=>h (oR.mp q)),if_neg (fun q=>h (oR.mp q))];exact ⟨congrArg (rW x.1::·) ih.1,.cons r1 ih.2⟩
theorem wf {xs:List (List Str×Addr×Value)} {c:List Str} {u:Value} {p:List Str->Addr->Prop} (h:∀ x∈xs,p x.1 x.2.1) (hc:p c a):∀ x∈storedH xs c a u,p x.1 x.2.1:=by
 intro x hx;unfold storedH at hx;split at hx
 .obtain ⟨y,hy,rfl⟩:=SA.mp hx;unfold PySem.putAt;split
  .exact h y hy
  .exact h y hy
 .rcases SC.mp hx with hx|hx
  .exact h x hx
  .rw[So.mp hx];exact hc
theorem ym {xs:List (List Str×Addr×Value)} {c:List Str} {u:Value}:storedH xs c a u≠[]:=by
 intro h;unfold storedH at h;split at h
 .rename_i q
  cases xs with
  |nil=>cases q
  |cons=>cases h
 .exact List.append_ne_nil_of_right_ne_nil xs (by nofun) h
end
section
end
section
end
noncomputable def AB (k v:D):cU->Option cU
 | .dict ks vs=>au (Bi k ks=true/\ks.length<100000) (.dict (fR k ks) (ly k v ks vs))
 |_=>none
noncomputable def D9 (x:PV) (k v:D) (σ:az):Option az:=match x with
 | .p n j=>(ck σ n j).bind fun f=>(AB k v f).map fun f'=>dH σ n j f'
 |_=>none
theorem yq {k v:D} (h:D9 x k v σ=some σ'):∃ n j f f',x= .p n j/\ck σ n j=some f/\AB k v f=some f'/\σ'=dH σ n j f':=by
 cases x with
 |d=>cases h
 |b=>cases h
 |p n j=>
  refine bn fun G9 k9=> ?_;obtain ⟨f,e1,h⟩:=aq h;obtain ⟨f',e2,h⟩:=a_ h;refine k9 ?_;exact ⟨n,j,f,f',rfl,e1,e2,h.symm⟩
section
variable {Q:Unit->Shared->Prop}
theorem vS {n j:Nat} {f f':cU} {k v:D} {vx vk vv:Value} (hu:A.units+100<cLine) (I:aL C P) (hx:RV C P vx (.p n j)) (hk:RD C P.own k vk) (hv:RD C P.own v vv) (e:ck P.σ n j=some f) (e':AB k v f=some f')
  (kk:∀ P',bQ P P'->aL C P'->P'.σ=dH P.σ n j f'->Q () P'.s):wpAny C.M A (PySem.setItem vx vk vv) Q E P.s:=by
 cases f with
 |d x=>cases e'
 |list l=>cases e'
 |dict ks ps=>
  obtain ⟨⟨h1,h4⟩,q⟩:=eb e';subst q;refine bn fun G9 k9=> ?_;obtain @⟨a,o,h2,h3,vs,hd,rr⟩:=nU I hx e (fun _ h=>by cases h);obtain ⟨c,ad,e1,e2,h5⟩:=Kr (ai h1) hk;obtain ⟨xs,h6,h7,e3,e4,h8⟩:=Hi I h3 hd (an h1);refine k9 ?_;subst e1 e2 e3 e4;have hlen:xs.length<100000:=by rw[Sg] at h4;exact h4
  refine wpAny_setItem_heap (by show A.units+_<cLine;exact Sa hu) (h5.is I) h6 (fun h' z1 z2=> ?_) (Ss (SY hlen) (by decide));refine bn fun G9 k9=> ?_;obtain ⟨o',es,ep,y1,y2,y3,y4,y5,y6⟩:=z1;have pa:=Ji c (a:=ad) hv rr h8;obtain ⟨P',q1,q2,q3,q4,q5⟩:=oN (t:=P.s.toks+(tupleKind (strKind C.prog C.w)).draws c) (f':=.dict (fR (rW c) (xs.map fun x=>rW x.1)) (ly (rW c) v (xs.map fun x=>rW x.1) ps)) I (fun _ h=>by cases h) (fun _ h=>by cases h) e h2 (fun b o hb e=>z2.extBut b o hb e) y1 ⟨_,.pr (storedH xs c ad vv) es ep y2 y3 y4 (wf h7 h5) y6 pa.1 rfl ym,pa.2⟩;refine k9 ?_;have:=kk P' q1 q2 q3;rw[q5] at this;exact this
end
section
variable {X:SX} {K:Out->az->Prop} {Q:Flow->Shared->Prop}
theorem Ed (o i a:CE) (h:oj (fun t e=>bT (fun oe ke _=> !gi e&&dg ke&&o.is X.sx oe&&i.is X.sx ke&&a.is X.sx e) t) st=true) (I:aL X.C P) (G:ct X P ρ)
  (w:io K (b8 ρ (a.ev X.ker ρ) (fun v=>b8 ρ (o.ev X.ker ρ) fun x=>b8 ρ (i.ev X.ker ρ) fun k σ=>fS (j7 k) fun k=>fS (j7 v) fun v=>fS (D9 x k v σ) fun σ'=>some (.next ρ,σ')) P.σ)) (p:c8 X P K Q E):Ws X st Q E P:=
 fM (fun st=>Ws X st Q E P) h fun t e pos h=>cx (fun t=>wpAny X.M X.A (PySem.exec (.Assign [t] e pos) X.env) Q E P.s) h fun oe ke px h=>
  wpAny_Assign_Subscript (a.ok X.toCx e ρ P _ _ E (an h) I G.toEnvOK (cW w) (p.bind G fun v vv P1 g1 I1 r1 w G1 p=>
   o.ok X.toCx oe ρ P1 _ _ E (an (ai (ai h))) I1 G1.toEnvOK (cW w) (p.bind G1 fun x vx P2 g2 I2 r2 w G2 p=>
    i.ok X.toCx ke ρ P2 _ _ E (an (ai h)) I2 G2.toEnvOK (cW w) (p.bind G2 fun k vk P3 g3 I3 r3 w G3 p=>by
     refine bn fun G9 k9=> ?_;obtain ⟨dk,e1,w⟩:=ee w;obtain ⟨dv,e2,w⟩:=ee w;obtain ⟨σ',e3,w⟩:=ee w;obtain ⟨n,j,f,f',q,e4,e5,e6⟩:=yq e3;refine k9 ?_;subst q;subst e6;exact vS (R_ X.uni) I3 (r2.ext g3.toExt) (lW e1 r3) (lW e2 (r1.ext (g2.trans g3).toExt)) e4 e5 fun P4 g4 I4 e=>p.next ρ P4 (G3.gs g4) I4 (G3.ext g4) (e ▸ w))))) (gX ((Bool.not_eq_true' _).mp (ai (ai (ai (ai h))))))
end
noncomputable def Jd (o i a:CE):C1:=⟨fun K ρ=>b8 ρ (a.ev K ρ) fun v=>b8 ρ (o.ev K ρ) fun x=>b8 ρ (i.ev K ρ) fun k σ=>fS (j7 k) fun k=>fS (j7 v) fun v=>fS (D9 x k v σ) fun σ'=>some (.next ρ,σ'),fun s=>oj fun t e=>bT (fun oe ke _=> !gi e&&dg ke&&o.is s oe&&i.is s ke&&a.is s e) t,fun X st ρ P K Q E h I G w p=>Ed o i a h I G w p⟩
theorem KO (I:aL C P) {h':Heap} {o:Obj} (kp:∀ b o',P.h.get? b=some o'->h'.get? b=some o') (ho:h'.get? P.h.objs.size=some o):vD C P h' P.h.objs.size o:=⟨kp,I.off (Sv _),I.out (Sv _),ho⟩
theorem HL {l:List D} (I:aL C P) (h:iM C P l v) (hl:l.length<=dM) (k:∀ h' vs n,vD C P h' P.h.objs.size (aU vs n)->RDs C P.own l vs->Q (.ref P.h.objs.size) {P.s with heap:=h'}):wpAny C.M A (call (.type "list") [v]) Q E P.s:=by
 obtain @⟨a,vs,n,g,_,r⟩:=h;exact call_list_seq a (T:="list") (items:=vs.toArray) (.inl rfl) g rfl rfl (fun h' c' kp ho=>k h' vs c' (KO I kp ho) r) (by rw[SG,r.length];exact Ss hl (by decide))
noncomputable def ND:BF:=⟨"list",.type "list",by decide+kernel,fun _=>g1 fun u=>(lD u).bind fun l=>au (l.length<=dM) (.lst l),fun {C A P hd K ps vs Q E} _ _ I r w p=>gT (fun vs=>wpAny C.M A (call (.type "list") vs) Q E P.s) I r w fun v u z h e k=>by
 obtain ⟨l,e1,e⟩:=aq e;obtain ⟨hm,rfl⟩:=eb e;exact HL I (gP e1 h) hm fun h' ws n nw rr=>(p.fin k).note I nw P.s.toks (kH I nw.own rr rfl)⟩
noncomputable def iP:PV->Option Int
 | .d v=>iD v
 |_=>none
theorem zv {a:D} {x:Int} (h:iD a=some x):a= .int x:=by
 cases a<;>first|(cases h;done)|exact congrArg D.int (S_ h)
theorem zt {v:PV} {x:Int} (h:iP v=some x):v= .d (.int x):=by
 cases v with
 |d a=>rw[zv h]
 |_=>cases h
noncomputable def MB:List PV->PM PV
 |[x,y,z]=>fun σ=>(iP x).bind fun a=>(iP y).bind fun b=>(iP z).bind fun c=>(au ((bS a&&bS b&&decide (0<c)&&decide (c<1000))=true) (PV.d (.rng a b c))).map fun z=>(.ok z,σ)
 |_=>fun _=>none
theorem En:∀ {ps:List PV},Wp K (MB ps σ)->∃ a b c,ps=[.d (.int a),.d (.int b),.d (.int c)]/\(bS a&&bS b&&decide (0<c)&&decide (c<1000))=true/\K (.ok (.d (.rng a b c))) σ
 |[x,y,z],w=>by
  have w:Wp K ((iP x).bind fun a=>(iP y).bind fun b=>(iP z).bind fun c=>(au ((bS a&&bS b&&decide (0<c)&&decide (c<1000))=true) (PV.d (.rng a b c))).map fun z=>(.ok z,σ)):=w;cases e1:iP x with
  |none=>rw[e1] at w;exact w.elim
  |some a=>
   cases e2:iP y with
   |none=>rw[e1,e2] at w;exact w.elim
   |some b=>
    cases e3:iP z with
    |none=>rw[e1,e2,e3] at w;exact w.elim
    |some c=>
     rw[e1,e2,e3] at w;obtain ⟨z,e,k⟩:=gI w;obtain ⟨h,rfl⟩:=eb e;rw[zt e1,zt e2,zt e3];exact ⟨a,b,c,rfl,h,k⟩
 |[],w|[_],w|[_,_],w|_::_::_::_::_,w=>w.elim
noncomputable def Bl:BF:=⟨"range",.type "range",by decide+kernel,fun _=>MB,fun {C A P hd K ps vs Q E} _ _ I r w p=>by
 obtain ⟨a,b,c,rfl,h,k⟩:=En w;obtain ⟨r1,r2⟩:Ao C P (.d (.int a)) [.d (.int b),.d (.int c)] vs:=r.view;obtain ⟨r3,r4⟩:Ao C P (.d (.int b)) [.d (.int c)] _:=r2.view;obtain ⟨r5,r6⟩:Ao C P (.d (.int c)) [] _:=r4.view;obtain ⟨t1,q1⟩:∃ t,_=Value.int a t:=RD.view r1;obtain ⟨t2,q2⟩:∃ t,_=Value.int b t:=RD.view r3;obtain ⟨t3,q3⟩:∃ t,_=Value.int c t:=RD.view r5;rw[show _=[] from r6.view,q1,q2,q3];have h0:=S3 (an (ai h));have h1:=S3 (an h);exact call_range_3 (by exact Ne.symm (Int.ne_of_lt h0)) ((p.fin k).note I (I.push rfl) _ (.rng a b c _ _ _ (bU _ _ _))) (.inl (PyProof.noPylong_small (by exact nA (Ti h0) (Int.lt_trans h1 (by decide)))))⟩
noncomputable def QT:BF:=⟨"abs",.builtin "abs",by decide+kernel,fun _=>g1 fun u=>(iD u).map fun x=>.int (if x<0 then -x else x),fun {C A P hd K ps vs Q E} _ _ I r w p=>gT (fun vs=>wpAny C.M A (call (.builtin "abs") vs) Q E P.s) I r w fun v u z h e k=>by
 obtain ⟨x,e1,rfl⟩:=a_ e;obtain ⟨t,q⟩:=d5 e1 h;rw[q];exact call_abs_int fun u tk=>(p.fin k).tok I (.int _ _) _⟩
noncomputable def fO (t:CT) (b:CS) (k:cG):Nat->bg->az->Option (Out×az)
 |0,_,_=>none
 |n+1,ρ,σ=>b8 ρ (t.ts k ρ) (fun c=>if c then fun σ=>nv (b.ex k ρ σ) (fO t b k n) else fun σ=>some (.next ρ,σ)) σ
section
variable {X:SX} {K:Out->az->Prop} {Q:Flow->Shared->Prop}
theorem DI (t:CT) (b:CS) (N:Nat) (h:pb (fun te be el _=>el.isEmpty&&t.is X.sx te&&b.is X.sx be) st=true) (I:aL X.C P) (G:ct X P ρ)
  (w:io K (fO t b X.ker N ρ P.σ)) (p:c8 X P K Q E):wpAny X.M X.A (PySem.exec st X.env) Q E P.s:=by
 refine uD (fun st=>wpAny X.M X.A (PySem.exec st X.env) Q E P.s) h fun te be el pos h=> ?_;refine bZ (fun el=>wpAny X.M X.A (PySem.exec (.While te be el pos) X.env) Q E P.s) (ai (ai h)) ?_;refine wpAny_While (codeAny_whileLoop (fun n s=>∃ P' ρ',s=P'.s/\eY P P'/\aL X.C P'/\ct X P' ρ'/\io K (fO t b X.ker n ρ' P'.σ)) ?_ N ⟨P,ρ,rfl,G.gs (.refl P),I,G,w⟩);rintro n s ⟨P₁,ρ₁,rfl,g₁,I₁,G₁,w₁⟩;cases n with
 |zero=>exact w₁.elim
 |succ n=>
  have p₁:=p.mono g₁;have pE:c8 X P₁ K Q (notedBy X.M X.A X.env (cameBackBy X.M X.A X.env E)):=⟨p₁.next,p₁.ret,fun c ρ' e P₄ g₄ I₄ xx G₄ k=>xr I₄ xx fun P₅ g₅ I₅ e₅ x₅=>p₁.ex c ρ' e P₅ (g₄.grow g₅) I₅ x₅ (G₄.ext g₅) (e₅ ▸ k)⟩;refine t.ok X.toCx te ρ₁ P₁ _ _ _ (an (ai h)) I₁ G₁.toEnvOK (cW w₁) (pE.bind (Rel:=oM) G₁ fun c v P2 g I2 r w G2 p2=> ?_);rw[show v=c from r];cases c with
  |false=>exact wpAny_execs_nil (p2.go I2 G2 w)
  |true=>
   refine b.ok X be ρ₁ P2 (tK K (fO t b X.ker n)) _ _ (an h) I2 G2 (Ar w) ⟨fun ρ₄ P₄ g₄ I₄ G₄ k=>⟨n,Nat.lt_succ_self n,P₄,ρ₄,rfl,(g₁.trans (G₁.gs g)).trans g₄,I₄,G₄,k⟩,fun q u P₄ g₄ I₄ r₄ k=>p2.ret q u P₄ g₄ I₄ r₄ k,fun c ρ' e P₄ g₄ I₄ xx G₄ k=>p2.ex c ρ' e P₄ g₄ I₄ xx G₄ k⟩
end
noncomputable def Eb (N:Nat) (t:CT) (b:CS):C1:=⟨fun K=>fO t b K N,fun s=>pb fun te be el _=>el.isEmpty&&t.is s te&&b.is s be,fun _ _ _ _ _ _ _ h I G w p=>DI t b N h I G w p⟩
end Mine.Internal
namespace Mine.Internal
open PySem PySem.W PyProof.Rows
variable {k:Nat}
noncomputable def Cb {α:Type} (lt:Nat->Nat->Bool):KasT α->α
 | .ret a=>a
 | .ask i j k=>Cb lt (k (lt i j))
def tQ {α:Type} (lt:Nat->Nat->Bool) (n:Nat):KasT α->(α->Prop)->Prop
 | .ret a,R=>R a
 | .ask i j k,R=>i<n/\j<n/\tQ lt n (k (lt i j)) R
section
variable {α β:Type} {lt:Nat->Nat->Bool} {n:Nat} {p:Array Nat}
theorem lC {f:α->KasT β} {R:β->Prop} (t:KasT α):tQ lt n t (fun a=>tQ lt n (f a) R)->tQ lt n (t.bind f) R:=by
 induction t with
 |ret a=>exact id
 |ask i j k ih=>exact fun h=>⟨h.1,h.2.1,ih _ h.2.2⟩
theorem lB {R R':α->Prop} (hr:∀ a,R a->R' a) (t:KasT α):tQ lt n t R->tQ lt n t R':=by
 induction t with
 |ret a=>exact hr a
 |ask i j k ih=>exact fun h=>⟨h.1,h.2.1,ih _ h.2.2⟩
theorem KA {R:α->Prop} (t:KasT α):tQ lt n t R->R (Cb lt t):=by
 induction t with
 |ret a=>exact id
 |ask i j k ih=>exact fun h=>ih _ h.2.2
theorem MI {rj:Nat->Nat->(Bool->Shared->Prop)->Shared->Prop} {Q:α->Shared->Prop} {R:α->Prop} {s:Shared} (hc:∀ i j (Q:Bool->Shared->Prop),i<n->j<n->Q (lt i j) s->rj i j Q s) (t:KasT α):tQ lt n t R->Q (Cb lt t) s->t.kasWp rj Q s:=by
 induction t with
 |ret a=>exact fun _ q=>q
 |ask i j k ih=>exact fun h q=>hc i j _ h.1 h.2.1 (ih _ h.2.2 q)
structure rT (p:Array Nat) (n:Nat):Prop where
 sz:p.size=n
 pm:p.Perm (List.toArray (List.range n))
theorem rT.of {p':Array Nat} (h:rT p n) (hs:p'.Perm p):rT p' n:=⟨hs.size_eq.trans h.sz,hs.trans h.pm⟩
theorem OG:rT (List.toArray (List.range n)) n:=⟨by rw[SG,List.length_range],Array.Perm.refl _⟩
theorem rT.inn (h:rT p n) (h0:0<n) (i:Nat):p.getD i 0<n:=by
 rw[Array.getD_eq_getD_getElem?,<-Array.getElem?_toList];cases e:p.toList[i]? with
 |none=>exact h0
 |some x=>exact List.mem_range.mp ((Array.perm_iff_toList_perm.mp h.pm).mem_iff.mp (SO e))
theorem EI (h:rT p n) (h0:0<n) (f:Nat):∀ m,tQ lt n (kas_asc p f m) fun _=>True:=by
 induction f with
 |zero=>exact fun _=>trivial
 |succ f ih=>
  intro m;refine ⟨h.inn h0 _,h.inn h0 _,?_⟩;cases lt (p.getD m 0) (p.getD (m - 1) 0) with
  |true=>trivial
  |false=>exact ih _
theorem EG (h:rT p n) (h0:0<n) (f:Nat):∀ l r,tQ lt n (kas_place p k f l r) fun _=>True:=by
 induction f with
 |zero=>exact fun _ _=>trivial
 |succ f ih=>
  intro l r;show tQ lt n (if l≥r then _ else _) _;by_cases z:l≥r
  .rw[if_pos z];trivial
  rw[if_neg z];refine ⟨h.inn h0 _,h.inn h0 _,?_⟩;cases lt (p.getD k 0) (p.getD ((l+r) / 2) 0) with
  |true=>exact ih _ _
  |false=>exact ih _ _
theorem KC (h0:0<n) (f:Nat):∀ (p:Array Nat) (k:Nat),rT p n->tQ lt n (kas_bin f p k) fun p'=>rT p' n:=by
 induction f with
 |zero=>exact fun p k h=>h
 |succ f ih=>exact fun p k h=>lC _ (lB (fun l _=>ih _ _ (h.of (bubble_perm _ _ _))) _ (EG h h0 _ _ _))
theorem rT.rev (h:rT p n) {i j:Nat}:rT (kas_rev p i j) n:=h.of (mirror_perm _ _ _ _)
theorem nB {c:Prop} [Decidable c] {a b:KasT α} {R:α->Prop} (h1:tQ lt n a R) (h2:tQ lt n b R):tQ lt n (if c then a else b) R:=by
 by_cases z:c
 .rw[if_pos z];exact h1
 .rw[if_neg z];exact h2
theorem Hn (h0:0<n) (f:Nat):∀ (p:Array Nat) (m q:Nat),rT p n->tQ lt n (kas_desc f p m q) fun r=>rT r.1 n:=by
 induction f with
 |zero=>exact fun p m q h=>h
 |succ f ih=>exact fun p m q h=>⟨h.inn h0 _,h.inn h0 _,nB (nB (ih _ _ _ h.rev) (ih _ _ _ h)) ⟨h.inn h0 _,h.inn h0 _,nB h (ih _ _ _ h)⟩⟩
theorem v8 (h0:0<n) {m:Nat} (h:rT p n):tQ lt n (kas_tail3 m k p) fun r=>rT r.2 n:=lC _ (lB (fun _ _=>h.rev) _ (EI h.rev h0 _ _))
theorem v9 (h0:0<n) {m:Nat} (h:rT p n):tQ lt n (kas_descPart m k p) fun r=>rT r.2 n:=lC _ (lB (fun _ q=>nB (v8 h0 q.rev) (v8 h0 q)) _ (Hn h0 _ _ _ _ h))
theorem EH (h0:0<n) (h:rT p n):tQ lt n (kas_count k p) fun r=>rT r.2 n:=by
 refine lC _ (lB (fun m _=> ?_) _ (EI h h0 _ _));refine nB ?_ (nB ?_ (v9 h0 h))
 .exact h
 .refine ⟨h.inn h0 _,h.inn h0 _,nB ?_ (v9 h0 h.rev)⟩;exact h
theorem AP (h0:0<n):tQ lt n (kas_sort n) fun p=>rT p n:=by
 refine lC _ (lB (fun r q=>nB (KC h0 _ _ _ q) ?_) _ (EH h0 OG));exact q
end
noncomputable def rY (n:Nat) (lt:Nat->Nat->Bool):List Nat:=if n<2 then List.range n else (Cb lt (kas_sort n)).toList
theorem lz {n:Nat} {lt:Nat->Nat->Bool}:(rY n lt).Perm (List.range n):=by
 unfold rY;by_cases z:n<2
 .rw[if_pos z]
 .rw[if_neg z];exact Array.perm_iff_toList_perm.mp (KA _ (AP (by omega))).pm
end Mine.Internal
namespace Mine.Internal
open PySem PySem.W PyProof.Rows
section
variable {prog:Program} {w:World} {A:Around} {E:Value->Shared->Prop} {s:Shared} {kvs vs:List Value} {lt:Nat->Nat->Bool}
noncomputable def jf (h:Heap) (a:Addr) (vs:List Value):Heap:=((h.update a (Obj.mapSeq fun _=>(#[]:Array Value))).push (seqObj "tuple" vs.toArray 0)).push (seqObj "list" #[] 0)
theorem pJ {h:Heap} {a b:Addr} {o:Obj} (hb:b≠a) (e:h.get? b=some o):(jf h a vs).get? b=some o:=by
 refine Sr _ (Sr _ ?_);rw[Heap.get?_update_ne _ _ _ _ hb];exact e
theorem Ew:∀ (vs:List Value),(List.range vs.length).map (fun i=>vs.getD i Value.none)=vs:=fun vs=>by
 apply List.ext_getElem?
 intro i;rw[SB];by_cases h:i<vs.length
 .rw[List.getElem?_range h,Option.map_some,SD,Sn h];rfl
 .rw[List.getElem?_eq_none (by rw[List.length_range];omega),List.getElem?_eq_none (by omega)];rfl
def sS (h h':Heap):Prop:=∀ b x,h.get? b=some x->h'.get? b=some x
theorem vU {α:Type} {κ:SortKind} {F:PUnit×SortSt->Sem α} {Q:α->Shared->Prop} (lv:kvs.length=vs.length) (h64:vs.length<64)
  (hk:∀ (Q:SortKind->Shared->Prop),0<kvs.length->Q κ s->wpAny (model prog w) A (keyKind' kvs.toArray) Q E s)
  (hc:∀ i j (Q:Bool->Shared->Prop),i<vs.length->j<vs.length->Q (lt i j) s->wpAny (model prog w) A (keyLt' κ (kvs.getD i Value.none) (kvs.getD j Value.none)) Q (fun _ _=>False) s)
  (h:∀ st,(arrOf st).map (·.2)=List.toArray ((rY vs.length lt).map fun i=>vs.getD i Value.none)->failedOf st=none->wpAny (model prog w) A (F (⟨⟩,st)) Q E s):wpAny (model prog w) A (if vs.toArray.size<2 then pure general'>>=fun kind=>(StateT.run (if vs.toArray.size<2 then pure () else sortRuns') (SortSt.mk' kind (kvs.toArray.zip vs.toArray) #[] 7 none))>>=F else keyKind' kvs.toArray>>=fun kind=>(StateT.run (if vs.toArray.size<2 then pure () else sortRuns') (SortSt.mk' kind (kvs.toArray.zip vs.toArray) #[] 7 none))>>=F) Q E s:=by
 by_cases h2:vs.toArray.size<2
 .rw[if_pos h2,if_pos h2];rw[SG] at h2;refine Sw (Sy ?_);rw[StateT.run_pure];refine Sw (Sy (h _ ?_ rfl));rw[show rY vs.length lt=List.range vs.length from if_pos h2,Ew];show (kvs.toArray.zip vs.toArray).map (·.2)=vs.toArray
  apply Array.toList_inj.mp
  rw[Array.toList_map,Array.toList_zip];exact List.map_snd_zip (Ta lv.symm)
 .rw[if_neg h2,if_neg h2];rw[SG] at h2;refine Sw (hk _ (by omega) (Sw (wpAny_mono (kat_run (Q:=fun st s'=>s'=s/\arrOf st=(Cb lt (kas_sort vs.length)).map (kas_item (kvs.toArray.zip vs.toArray))/\failedOf st=none) (G:=fun p s'=>s'=s/\p=Cb lt (kas_sort vs.length)) lv (by omega) h64 (fun p st s' _ a2 a3 a4=>⟨a4.1,a4.2 ▸ a2,a3⟩) (MI hc _ (AP (by omega)) ⟨rfl,rfl⟩)) (fun r s' q=> ?_) fun _ _ e=>e)));rw[q.1];refine h r.2 ((kat_snds lv q.2.1).trans ?_) q.2.2;rw[show rY vs.length lt=_ from if_neg h2]
theorem pH {v:Value} {kw:List (Str×Value)} {Q:Value->Shared->Prop} (ha1:argsOk "sorted" ⟨[v],kw⟩) (ha2:∀ x,argsOk "list.sort" ⟨[.ref x],kw⟩)
  (h:wpAny (model prog w) A.in1 (collect v) (fun vs s1=>vs.length<=sizeLine/\wpAny (model prog w) A.in1.in1 (Builtin.«list.sort» ⟨[.ref s1.heap.objs.size],kw⟩) (fun fin s'=>∃ x,fin= .done (.ret x)/\Q (.ref s1.heap.objs.size) s') E {s1 with heap:=s1.heap.push (seqObj "list" vs.toArray 0)}) E s):
  wpAny (model prog w) A (call (.builtin "sorted") [v] kw) Q E s:=by
 refine call_function_entry_kw kind_sorted plain_sorted entry_sorted ha1 ?_;unfold Builtin.«sorted»;refine Sw (m:=checkCount "sorted" 1 1 _) (Sy ?_);refine Sw (wpAny_mono h (fun vs s1 h1=> ?_) fun _ _ e=>e);refine Sw (wpAny_newList ?_ h1.1);refine Sw (wpAny_holding (wpAny_call_entry_kw slot_list_sort ⟨_,SE _ rfl,rfl⟩ entry_list_sort (wpAny_mono h1.2 (fun fin s' q=> ?_) fun _ _ e=>e) (ha2 _)));obtain ⟨x,rfl,q⟩:=q;exact ⟨_,rfl,Sy ⟨_,rfl,q⟩⟩
def I5 (M:Model) (A:Around) (v:Value) (vs:List Value) (E:Value->Shared->Prop) (s:Shared):Prop:=∀ Q:List Value->Shared->Prop,(∀ h' tk,sS s.heap h'->s.heap.objs.size<=h'.objs.size->Q vs {s with heap:=h',toks:=tk})->wpAny M A (collect v) Q E s
theorem Dm {l:Addr} (hl:s.heap.IsList l vs.toArray) (h64:vs.length<64):I5 (model prog w) A (.ref l) vs E s:=fun Q h=>by
 refine collect_list hl (h _ s.toks (fun b x q=> ?_) ?_) (by rw[sizeLine_eq];omega)
 .have hlt:b<s.heap.objs.size:=SR q;rw[Heap.get?_update_ne _ _ _ _ (Nat.ne_of_lt hlt),Heap.get?_push_ne _ _ _ (Nat.ne_of_lt hlt)];exact q
 .rw[Heap.size_update,size_push'];exact S5 _
theorem yp {κ:SortKind} {v:Value} {Q:Value->Shared->Prop} (col:I5 (model prog w) A.in1 v vs E s) (h64:vs.length<64)
  (hk:∀ (h':Heap) (tk:Nat) (Q:SortKind->Shared->Prop),sS s.heap h'->0<vs.length->Q κ {s with heap:=h',toks:=tk}->wpAny (model prog w) A.in1.in1 (keyKind' vs.toArray) Q E {s with heap:=h',toks:=tk})
  (hc:∀ (h':Heap) (tk:Nat) i j (Q:Bool->Shared->Prop),sS s.heap h'->i<vs.length->j<vs.length->Q (lt i j) {s with heap:=h',toks:=tk}->wpAny (model prog w) A.in1.in1 (keyLt' κ (vs.getD i Value.none) (vs.getD j Value.none)) Q (fun _ _=>False) {s with heap:=h',toks:=tk})
  (h:∀ (h':Heap) (tk:Nat) (a:Addr) (c:Nat),s.heap.objs.size<=a->h'.get? a=some (seqObj "list" (List.toArray ((rY vs.length lt).map fun i=>vs.getD i Value.none)) c)->sS s.heap h'->Q (.ref a) {s with heap:=h',toks:=tk}):
  wpAny (model prog w) A (call (.builtin "sorted") [v]) Q E s:=by
 refine pH (args_sorted1 _) (fun _=>args_list_sort _) (col _ fun h1 tk mo sz=>⟨by rw[sizeLine_eq];omega,?_⟩);generalize ha:h1.objs.size=a at sz;have ho:(h1.push (seqObj "list" vs.toArray 0)).get? a=some (seqObj "list" vs.toArray 0):=by rw[<-ha];exact SE _ rfl
 have ne:∀ b x,s.heap.get? b=some x->b≠a:=fun b x q=>Nat.ne_of_lt (SK (SR q) sz);have keep:sS s.heap (h1.push (seqObj "list" vs.toArray 0)):=fun b x q=>Sr _ (mo b x q);generalize h1.push (seqObj "list" vs.toArray 0)=h2 at ho keep;obtain ⟨e1,ho1⟩:∃ e1,(h2.update a (Obj.mapSeq fun _=>(#[]:Array Value))).get? a=some (seqObj "list" #[] e1):=⟨_,get?_update_seq ho fun _=>#[]⟩;have ho6:(jf h2 a vs).get? a=some (seqObj "list" #[] e1):=Sr _ (Sr _ ho1);have kp:sS s.heap (jf h2 a vs):=fun b x q=>pJ (ne b x q) (keep b x q);rw[list_sort_plain];refine Sw (listItems_at ho rfl ?_);refine Sw (listUpdate_at ho rfl ?_ (by rw[SG,sizeLine_eq];omega) (SN _));refine Sw (seqEpoch_at ho1 rfl ?_);refine Sw (wpAny_newTuple ?_ (by show vs.length<=_;rw[sizeLine_eq];omega));refine Sw (wpAny_newList ?_ (SN _));refine wpAny_holding ?_;show wpAny (model prog w) A.in1.in1 _ _ E {s with heap:=jf h2 a vs,toks:=tk};generalize jf h2 a vs=h3 at ho6 kp;dsimp only;refine vU (lt:=lt) rfl h64 (fun Q p q=>hk _ tk Q kp p q) (fun i j Q hi hj q=>hc _ tk i j Q kp hi hj q) fun st hout hf=> ?_;have lo:((rY vs.length lt).map fun i=>vs.getD i Value.none).length=vs.length:=by rw[Sg,lz.length_eq,List.length_range]
 generalize (rY vs.length lt).map (fun i=>vs.getD i Value.none)=out at hout lo h
 try dsimp only
 rw[hout];obtain ⟨c2,hc2⟩:∃ c2,(h3.update a (Obj.mapSeq fun _=>List.toArray out)).get? a=some (seqObj "list" (List.toArray out) c2):=⟨_,get?_update_seq ho6 fun _=>List.toArray out⟩;refine Sw (seqEpoch_at ho6 rfl ?_);refine Sw (listUpdate_at ho6 rfl ?_ (SN _) (by rw[SG,lo,sizeLine_eq];omega));rw[hf];simp only [bne_self_eq_false,Bool.false_eq_true,if_false];refine Sy ⟨_,rfl,h _ tk a c2 sz hc2 fun b x q=> ?_⟩;rw[Heap.get?_update_ne _ _ _ _ (ne b x q)];exact kp b x q
end
end Mine.Internal
namespace Mine.Internal
open PySem PySem.W PyProof.Rows
section
variable {prog:Program} {w:World} {A:Around} {E:Value->Shared->Prop} {s:Shared}
noncomputable def HN (a b c d:List Nat):Bool:=if a=c then decide (b<d) else decide (a<c)
noncomputable def HO (a b c d:Int):Bool:=if a=c then decide (b<d) else decide (a<c)
theorem tY {x y:Str}:(x==y)=decide (x.cps.toList=y.cps.toList):=by
 rw[Bool.eq_iff_iff,beq_iff_eq,decide_eq_true_eq];constructor
 .intro h;rw[h]
 .intro h;cases x;cases y;exact congrArg Str.mk (Array.toList_inj.mp h)
theorem EZ {x y:Addr} {ox oy:Obj} {a b c d:Str} {t1 t2 t3 t4:Tok} {n k:Nat} {Q:Bool->Shared->Prop} (hx:s.heap.get? x=some ox) (dx:ox.data= .seq #[.str a t1,.str b t2] n) (hy:s.heap.get? y=some oy) (dy:oy.data= .seq #[.str c t3,.str d t4] k)
  (h:Q (HN a.cps.toList b.cps.toList c.cps.toList d.cps.toList) s):wpAny (model prog w) A (keyLt' (tuples' true) (.ref x) (.ref y)) Q E s:=by
 refine kat_lt hx dx hy dy (kat_cons (eqBool_str (kat_go (fun e=> ?_) fun e=> ?_)))
 .rw[tY,decide_eq_true_eq] at e;unfold HN at h;rw[if_pos e] at h;refine kat_yes (kat_cons (eqBool_str (kat_go (fun e2=> ?_) fun e2=> ?_)))
  .rw[tY,decide_eq_true_eq] at e2;refine kat_yes (kat_nil ?_);rw[e2,Tc (List.lt_irrefl _)] at h;exact h
  .exact kat_no (kat_one _ _ (lt_str h))
 .rw[tY,decide_eq_false_iff_not] at e;unfold HN at h;rw[if_neg e] at h;exact kat_no (oneLt_str h)
theorem E0 {x y:Addr} {ox oy:Obj} {a b c d:Int} {t1 t2 t3 t4:Tok} {n k:Nat} {Q:Bool->Shared->Prop} (hx:s.heap.get? x=some ox) (dx:ox.data= .seq #[.int a t1,.int b t2] n) (hy:s.heap.get? y=some oy) (dy:oy.data= .seq #[.int c t3,.int d t4] k)
  (h:Q (HO a b c d) s):wpAny (model prog w) A (keyLt' (tuples' true) (.ref x) (.ref y)) Q E s:=by
 refine kat_lt hx dx hy dy (kat_cons (wpAny_eqBool_int (kat_go (fun e=> ?_) fun e=> ?_)))
 .rw[beq_iff_eq] at e;unfold HO at h;rw[if_pos e] at h;refine kat_yes (kat_cons (wpAny_eqBool_int (kat_go (fun e2=> ?_) fun e2=> ?_)))
  .rw[beq_iff_eq] at e2;refine kat_yes (kat_nil ?_);rw[e2,Tc (Int.lt_irrefl _)] at h;exact h
  .exact kat_no (kat_one _ _ (PyProof.Rows.lt_int h))
 .rw[beq_eq_false_iff_ne] at e;unfold HO at h;rw[if_neg e] at h;exact kat_no (oneLt_int h)
end
end Mine.Internal
namespace Mine.Internal
open PySem PySem.W PyProof.Rows
section
variable {prog:Program} {w:World} {A:Around} {E:Value->Shared->Prop} {s:Shared} {d it:Addr} {es:Array DictEntry} {ep i:Nat}
def nk (h:Heap) (d:Addr) (es:Array DictEntry) (ep:Nat):Prop:=∃ o,h.get? d=some o/\o.ExactDict/\o.data= .dict es ep
theorem nk.at {h h':Heap} (x:nk h d es ep) (k:∀ o,h.get? d=some o->h'.get? d=some o):nk h' d es ep:=let ⟨o,a,r⟩:=x;⟨o,k o a,r⟩
theorem nk.typeIs (x:nk s.heap d es ep):s.TypeIs (.ref d) "dict":=let ⟨o,a,r,_⟩:=x;⟨o,a,r.1⟩
theorem nk.lt {h:Heap} (x:nk h d es ep):d<h.objs.size:=let ⟨_,a,_⟩:=x;SR a
theorem Et {Q:Value->Shared->Prop} (hd:(d==sysModules)=false) (hm:nk s.heap d es ep)
  (hQ:Q (.ref s.heap.objs.size) {s with heap:=s.heap.push {cls:=.type "dict_keyiterator",data:=.fields #[.ref d,.int 0 0,.int es.size 0,.int ep 0]}}):wpAny (model prog w) A (pyIter (.ref d)) Q E s:=by
 obtain ⟨o,ho,_,hdat⟩:=id hm;have hT:=hm.typeIs;refine wpAny_pyIter_slot hT F.slot_dict_iter (wpAny_call_entry F.slot_dict_iter hT F.entry_dict_iter ?_ (F.args_dict_iter_1 _));unfold Builtin.«dict.__iter__»;refine Sw ?_;unfold Builtin.Dict.dictSlotNone;refine Sw (wpAny_notOrdered_dict hT ?_);show wpAny _ _ (pure (Value.ref d)) _ _ s;refine Sy ?_;show wpAny _ _ (Builtin.Dict.showsAll d>>=_) _ _ s;unfold Builtin.Dict.showsAll;rw[if_neg (by rw[hd];exact SI)];refine Sw (Sy (Sw (wpAny_dictEntries ho hdat (Sw (wpAny_dictEpoch ho hdat ?_)))));exact Sw (wpAny_newObj_type (Sy ⟨_,rfl,"dict_keyiterator",_,⟨_,SE _ rfl,rfl⟩,F.slot_dict_keyiterator_next.lookup,hQ⟩))
theorem vW {Q:Option Value->Shared->Prop} (hh:A.handled=none) (hit:s.heap.IsKeyIter it d i es.size ep) (hm:nk s.heap d es ep)
  (h1:∀ e h',es[i]? =some e->h'.IsKeyIter it d (i+1) es.size ep->Heap.ExtBut it s.heap h'->Q (some e.key) {s with heap:=h'})
  (h2:∀ h',es[i]? =none->Heap.ExtBut it s.heap h'->Q none {s with heap:=h'}):wpAny (model prog w) A (pyNext (.ref it)) Q E s:=by
 obtain ⟨o,ho,hc,hd⟩:=id hit;obtain ⟨od,hod,_,hdd⟩:=id hm;unfold pyNext;refine Sw (wpAny_attempt (wpAny_callSpecial?_slot (name:=Str.ofString "__next__") hit.typeIs F.slot_dict_keyiterator_next
  (wpAny_call_entry F.slot_dict_keyiterator_next hit.typeIs F.entry_dict_keyiterator_next ?_ (F.args_dict_keyiterator_next_1 _))))
 refine Sw (Sy ?_);refine Sw ?_;refine Sw ?_
 first|refine Sw (wpAny_typeNameOfWhole_keyiter hit.typeIs (Sy ?_))|refine Sw (wpAny_typeNameOf_keyiter hit.typeIs (Sy ?_))
 refine Sw (wpAny_fieldsOf ho hd ?_);have hown:Builtin.Dict_items.ownsTuple "dict_keyiterator"=false:=by decide
 rw[hown];show wpAny _ _ (if (Value.ref d==Value.none)=true then _ else _) _ _ s;rw[if_neg (show¬((Value.ref d==Value.none)=true) from SI)];refine Sw (Sy ?_);refine Sw (wpAny_dictEntries hod hdd ?_);rw[if_neg (by simp)];refine Sw (Sy ?_);refine Sw (wpAny_dictEpoch hod hdd ?_);rw[if_neg (by simp)];refine Sy ?_;cases hx:es[i]? with
 |some e=>
  simp only [show¬((i:Int)<0) from Gz,if_false,Int.toNat_natCast,hx];refine Sw ?_
  first|refine Sw (wpAny_typeNameOfWhole_keyiter hit.typeIs (Sy ?_))|refine Sw (wpAny_typeNameOf_keyiter hit.typeIs (Sy ?_))
  refine Sw (wpAny_isOneOf_keyiter hit.typeIs ?_);show wpAny _ _ (setField (.ref it) 1 (rawInt ((i:Int)+1))>>=_) _ _ s;refine Sw (wpAny_setField ho hd (by simp) ?_);have hit':(s.heap.update it (Obj.mapFields (·.setIfInBounds 1 (rawInt ((i:Int)+1))))).IsKeyIter it d (i+1) es.size ep:=
   ⟨_,Heap.get?_update_self _ ho (Obj.isFreed_of_fields (Obj.data_mapFields hd _)),(Obj.cls_mapFields ..).trans hc,by rw[Obj.data_mapFields hd];simp [rawInt]⟩
  refine Sw (wpAny_holding ?_);refine Sw (wpAny_isOneOf_keyiter (s:={s with heap:=s.heap.update it (Obj.mapFields (·.setIfInBounds 1 (rawInt ((i:Int)+1))))}) hit'.typeIs ?_);show wpAny _ _ (pure e.key) _ _ _;exact Sy (Sy ⟨_,rfl,Sy (h1 e _ hx hit' (Heap.SameBut.update ..).extBut)⟩)
 |none=>
  simp only [show¬((i:Int)<0) from Gz,if_false,Int.toNat_natCast,hx];refine Sw ?_
  first|refine Sw (wpAny_typeNameOfWhole_keyiter hit.typeIs (Sy ?_))|refine Sw (wpAny_typeNameOf_keyiter hit.typeIs (Sy ?_))
  show wpAny _ _ (setField (.ref it) 0 .none>>=_) _ _ s;refine Sw (wpAny_setField ho hd (by simp) ?_);show wpAny _ _ (newExc (.type "StopIteration") []>>=_) _ _ _;refine Sw ?_;simp only [newExc,newTuple];refine Sw (wpAny_newObj_type ?_ (by size_fits));refine Sw (m:=firstArgMember _ _) (wpAny_of_eq (a:=Value.none) (by first|rfl|(simp only [firstArgMember];rfl)) ?_)
  refine wpAny_newObj_type ?_ (by size_fits);simp only [raiseNew];refine Sw (wpAny_handled ?_);rw[show A.in1.handled=none from hh];refine Sw (Sy (wpAny_throw ?_));refine Sw (wpAny_isInstance (T:="StopIteration") (b:=true) ⟨_,SE _ rfl,rfl⟩ isSubtype_stop ?_);exact Sy (h2 _ hx (((Heap.SameBut.update ..).extBut.push _).push _))
theorem Hc (lo:(d==sysModules)=false):KdlSrc prog w "dict" d d es.size (fun i v=>∃ e,es[i]? =some e/\v=e.key) (fun h=>nk h d es ep) where
 type:=fun _ hm=>hm.typeIs
 there:=fun _ hm=>⟨hm.lt,hm.lt⟩
 keep:=fun _ _ hm hk=>hm.at fun o e=>hk d (.inl rfl) o e
 notList:=by decide
 notTuple:=by decide
 hint:=fun _ _ _ _ hm hq=>kdl_hint_dict hm.typeIs hq
 iter:=fun A s hh hm=>⟨_,fun i h=>h.IsKeyIter s.heap.objs.size d i es.size ep/\nk h d es ep,(fun _ _ hq=>Et lo hm hq),{
   sub:=fun b hb=>by rw[So.mp hb];exact .head _
   frame:=fun _ _ _ st hk=>⟨st.1.at fun o e=>hk _ (.head _) o e,st.2.at fun o e=>hk d (.tail _ (.head _)) o e⟩
   item:=fun i s' Q E hi st hQ=>vW hh st.1 st.2 (fun e h' he hit x=>hQ _ h' s'.toks ⟨e,he,rfl⟩ ⟨hit,st.2.at fun o q=>x d o (Nat.ne_of_lt hm.lt) q⟩ fun b o hb q=>x b o (fun z=>hb (z ▸ .head _)) q) (fun h' he _=>by rw[Array.getElem?_eq_getElem hi] at he;cases he)
   done:=fun s' Q E st hQ=>vW hh st.1 st.2 (fun e h' he _ _=>by rw[Array.getElem?_eq_none (Sv _)] at he;cases he) (fun h' _ x=>hQ h' s'.toks fun b o hb q=>x b o (fun z=>hb (z ▸ .head _)) q)
   self:=fun _ _ _ _ st hQ=>wpAny_pyIter_keyiter st.1 hQ},⟨⟨_,SE _ rfl,rfl,rfl⟩,hm.at fun o e=>Sr _ e⟩⟩
theorem Fi {acc:Array Value} (h:ItemsOf (fun i v=>∃ e,es[i]? =some e/\v=e.key) acc es.size):acc.toList=es.toList.map (·.key):=by
 apply List.ext_getElem?
 intro i;rw[SB,Array.getElem?_toList,Array.getElem?_toList];by_cases q:i<acc.size
 .obtain ⟨e,h1,h2⟩:=h.2 i acc[i] (Array.getElem?_eq_getElem q);rw[Array.getElem?_eq_getElem q,h1,h2];rfl
 .rw[Array.getElem?_eq_none (Nat.le_of_not_lt q),Array.getElem?_eq_none (by rw[<-h.1];exact Nat.le_of_not_lt q)];rfl
theorem Do (lo:(d==sysModules)=false) (hh:A.handled=none) (hm:nk s.heap d es ep) (hn:es.size<=sizeLine):I5 (model prog w) A (.ref d) (es.toList.map (·.key)) E s:=fun Q h=>by
 unfold collect;have run:∀ R:Result->Shared->Prop,(∀ h' tk acc c',sS s.heap h'->h'.get? s.heap.objs.size=some {cls:=.type "list",dict:=none,data:=.seq acc c',slots:=#[]}->ItemsOf (fun i v=>∃ e,es[i]? =some e/\v=e.key) acc es.size->R (.ok (.ret (.ref s.heap.objs.size))) {s with heap:=h',toks:=tk})->codeAny (model prog w) A (.builtin "proto.collect" ⟨[.ref d],[]⟩) R s:=fun R kR=>by
  refine codeAny_builtin entry_proto_collect' ?_;show wpAny _ _ (do again (.builtin "list.__iadd__" ⟨[<-newList [],.ref d],[]⟩)) _ _ s;refine Sw (wpAny_newList (Sy ⟨Code.quiet_builtin _ (by decide+kernel),codeAny_builtin entry_list_iadd' ?_⟩));show wpAny _ _ (Builtin.List.listExtendWith (.ref s.heap.objs.size) (.ref d) (.ref s.heap.objs.size)) _ _ {s with heap:=s.heap.push (seqObj "list" #[] 0)};rw[Around.under_plainId F.plain_list_iadd _];exact kdl_extend (s:={s with heap:=s.heap.push (seqObj "list" #[] 0)}) (Hc (es:=es) (ep:=ep) lo) hh (hm.at fun o e=>Sr _ e) _ (Nat.ne_of_gt hm.lt) (Nat.ne_of_gt hm.lt) _ 0 (SE _ rfl) (fun h' tk acc c' hk hS hacc=>kR h' tk acc c' (fun b o q=>hk b o (Nat.ne_of_lt (SR q)) (Sr _ q)) hS hacc) hn
 refine Sw (wpAny_runValue (run _ fun h' tk acc c' mo hS hacc=> ?_));refine Sw (wpAny_load hS ?_);show wpAny _ _ (pure acc.toList) Q E _;rw[Fi hacc];exact Sy (h h' tk mo (SY (SR hS)))
end
end Mine.Internal
namespace Mine.Internal
open PySem PySem.W PyProof.Rows
variable {w:bE}
noncomputable def d4 {κ α:Type} [Inhabited κ] (lt:κ->κ->Bool) (ks:List κ) (l:List α):List α:=(rY ks.length fun i j=>lt (ks.getD i default) (ks.getD j default)).filterMap (l[·]?)
noncomputable def DC:D->List Nat×List Nat
 | .tup [.str a,.str b]=>(a,b)
 |_=>([],[])
noncomputable abbrev Oj (x y:List Nat×List Nat):Bool:=HN x.1 x.2 y.1 y.2
noncomputable abbrev K2 (x y:Int×Int):Bool:=HO x.1 x.2 y.1 y.2
section
variable {C:bH} {A:Around} {P:Pt} {Q E:Value->Shared->Prop} {l:List D} {v:Value} {vs:List Value}
def JK (P:Pt) (x:List Nat×List Nat) (v:Value):Prop:=∃ b t u m,v= .ref b/\P.h.get? b=some (cy [.str (cA x.1) t,.str (cA x.2) u] m)
theorem ED (I:aL C P) {d:D} (h:qA d=true) (r:RD C P.own d v):JK P (DC d) v:=by
 obtain ⟨a,b,rfl⟩:=wW h;obtain @⟨ad,vs,n,o,rs⟩:kg C P.own cy [.str a,.str b] v:=r.view;obtain ⟨r1,rt⟩:dF C P.own (.str a) [.str b] vs:=rs.view;obtain ⟨r2,ru⟩:dF C P.own (.str b) [] _:=rt.view;obtain ⟨_,t1,e1⟩:jb a/\∃ t,_=Value.str (cA a) t:=r1.view;obtain ⟨_,t2,e2⟩:jb b/\∃ t,_=Value.str (cA b) t:=r2.view;have e3:_=[]:=ru.view;subst e1 e2 e3;exact ⟨_,_,_,_,rfl,I.fz _ _ o⟩
theorem Av (I:aL C P) {h':Heap} (kp:sS P.h h'):∀ {l:List D} {vs:List Value},RDs C P.own l vs->l.all qA=true->∃ fs,KatTups h' vs fs/\fs.length=vs.length/\∀ v∈fs,∃ x t,v= .str x t
 |[],vs,r,_=>by rw[show vs=[] from r.view];exact ⟨[],trivial,rfl,fun _ h=>absurd h SF⟩
 |d::l,vs,r,h=>by
  obtain ⟨r1,rs⟩:dF C P.own d l vs:=r.view;rw[List.all_cons,Bool.and_eq_true] at h;obtain ⟨fs,t,e,k⟩:=Av I kp rs h.2;obtain ⟨b,t1,u1,m,rfl,g⟩:=ED I h.1 r1;exact ⟨_::fs,KatTups.cons (kp _ _ g) rfl rfl rfl t,congrArg (· +1) e,fun v hv=>(Sj.mp hv).elim (fun z=>⟨_,_,z⟩) (k v)⟩
theorem AG {α:Type} {w:bE} {f:α->D} {g:α->Value}:∀ {l:List α},(∀ x∈l,RD C w (f x) (g x))->RDs C w (l.map f) (l.map g)
 |[],_=>.nil
 |x::l,h=>.cons (h x (.head _)) (AG fun y hy=>h y (.tail _ hy))
theorem ua (r:RDs C w l vs) {i:Nat} (hi:i<l.length):RD C w (l.getD i .none) (vs.getD i Value.none):=by
 have e1:l[i]? =some l[i]:=Sn hi;obtain ⟨y,e2,ry⟩:=r.get e1;rw[SD,SD,e1,e2];exact ry
theorem Es (r:RDs C w l vs) (L:List Nat):(∀ i∈L,i<l.length)->RDs C w (L.filterMap (l[·]?)) (L.map fun i=>vs.getD i Value.none):=by
 induction L with
 |nil=>exact fun _=>.nil
 |cons i L ih=>
  intro h;have hi:=h i (.head _);have e:l[i]? =some (l.getD i .none):=by rw[SD,Sn hi];rfl
  rw[List.filterMap_cons,e];exact .cons (ua r hi) (ih fun j hj=>h j (.tail _ hj))
theorem pK {κ:Type} [Inhabited κ] {lt:κ->κ->Bool} {ks:List κ} (r:RDs C w l vs) (hl:ks.length=l.length):RDs C w (d4 lt ks l) ((rY ks.length fun i j=>lt (ks.getD i default) (ks.getD j default)).map fun i=>vs.getD i Value.none):=
 Es r _ fun i hi=>by rw[<-hl];exact List.mem_range.mp (lz.mem_iff.mp hi)
theorem B5 (I:aL C P) (r:RDs C P.own l vs) (col:I5 C.M A.in1 v vs E P.s) (hp:l.all qA=true) (h64:l.length<64) (k:∀ h' t a vs n,vD C P h' a (aU vs n)->RDs C P.own (d4 Oj (l.map DC) l) vs->Q (.ref a) {P.s with heap:=h',toks:=t}):wpAny C.M A (call (.builtin "sorted") [v]) Q E P.s:=by
 have len:=r.length;have lm:(l.map DC).length=l.length:=Sg _;have at_:∀ i,i<vs.length->JK P ((l.map DC).getD i default) (vs.getD i Value.none):=fun i hi=>by
  rw[len] at hi;have e:(l.map DC).getD i default=DC (l.getD i .none):=by rw[SD,SD,SB,Sn hi];rfl
  rw[e];exact ED I (List.all_eq_true.mp hp _ (by rw[SD,Sn hi];exact List.getElem_mem hi)) (ua r hi)
 refine yp (lt:=fun i j=>Oj ((l.map DC).getD i default) ((l.map DC).getD j default)) (κ:=tuples' true) col (by omega) (fun h' tk Q' kp h2 q=> ?_) (fun h' tk i j Q' kp hi hj q=> ?_) fun h' tk b c hb hg kp=> ?_
 .obtain ⟨fs,t,e,kk⟩:=Av I kp r hp;refine kat_kind (T:=.type "str") t (by omega) (fun y hy=> ?_) (by decide) q;obtain ⟨x,tt,rfl⟩:=kk y hy;exact .now
 .obtain ⟨b1,t1,u1,m1,e1,g1⟩:=at_ i hi;obtain ⟨b2,t2,u2,m2,e2,g2⟩:=at_ j hj;rw[e1,e2];exact EZ (kp _ _ g1) rfl (kp _ _ g2) rfl q
 .rw[len,<-lm] at hg;exact k h' tk b _ c ⟨kp,I.off hb,I.out hb,hg⟩ (pK r lm)
theorem E_ (I:aL C P) {ks ps:List D} (h:vA C P ks ps v) (hp:ks.all qA=true):∃ d es ep,v= .ref d/\P.own d≠ .no/\nk P.h d es ep/\RDs C P.own ks (es.toList.map (·.key))/\es.size=ks.length:=by
 obtain @⟨a,o,vs,h1,h2,h3,_⟩:=h;cases h3 with
 |pr xs es ep z1 z2 z3 z4 z5 z6 z7 z8=>
  subst z6;refine ⟨a,es,ep,rfl,h2,⟨o,h1,z1,z2⟩,?_,?_⟩
  .rw[z3,List.map_map];refine AG fun x hx=> ?_;obtain ⟨vs,n,e1,e2,_,e4⟩:=z4 x hx;refine .tup e1 ?_;clear e1;generalize x.1=ks at e2 e4
   induction e2 with
   |nil=>exact .nil
   |cons q _ ih=>
    obtain ⟨t,rfl⟩:=Value.isStrOf_shape q;refine .cons ?_ (ih fun s hs=>e4 s (.tail _ hs));have:=RD.str (C:=C) (w:=P.own) _ t (e4 _ (.head _));exact this
  .rw[<-Array.length_toList,z3,Sg,Sg]
 |mk d l hd q1 q2 q3 q4=>
  cases l with
  |cons p l=>
   rw[q2] at hp;have hf:=ai hp;cases hd with
   |str=>cases hf
   |int=>cases hf
  |nil=>
   letI:=d.dec
   obtain ⟨es,ep,z1,z2,_,z4,_⟩:=q1;have he:es=#[]:=by
    cases q:es.toList with
    |nil=>exact Array.toList_eq_nil_iff.mp q
    |cons e r=>rw[q] at z4;cases z4
   subst he;rw[q2];exact ⟨a,#[],ep,rfl,h2,⟨o,h1,z1,z2⟩,.nil,rfl⟩
end
noncomputable def D3:D->Option D
 | .dct ks _=>au (ks.all qA=true/\ks.length<64) (.lst (d4 Oj (ks.map DC) ks))
 |_=>none
noncomputable def Ii:BF:=⟨"sorted",.builtin "sorted",by decide+kernel,fun hd ps=>off hd (g1 D3 ps),fun {C A P hd K ps vs Q E} G hh I r w p=>gT (fun vs=>wpAny C.M A (call (.builtin "sorted") vs) Q E P.s) I r (gK w).2 fun v u z h e k=>by
 cases u with
 |dct ks vs'=>
  obtain ⟨hm,rfl⟩:=eb e;obtain ⟨d,es,ep,rfl,hn,hr,rr,hs⟩:=E_ I h hm.1;exact B5 I rr (Do (ft G I hn) (hh (gK w).1) hr (by rw[hs,sizeLine_eq];omega)) hm.1 hm.2 fun h' t a ws n nw rr=>(p.fin k).note I nw t (kH I nw.own rr rfl)
 |_=>cases e⟩
section
variable {X:Cx} {es:List Expr} {pos:Pos} {ρ:bg} {P:Pt} {K:R PV->az->Prop} {Q E:Value->Shared->Prop}
theorem Ky (a b:CE) (h:w7 (a.is X.sx) (one (b.is X.sx)) es=true) (I:aL X.C P) (G:EnvOK X P ρ) (w:Wp K (bW (a.ev X.ker ρ) (fun x=>bW (Mb x) fun t=>if t then ret x else b.ev X.ker ρ) P.σ)) (p:bu X (RV X.C) P K Q E):wpAny X.M X.A (eval (.BoolOp .Or es pos) X.env) Q E P.s:=
 qE (fun es=>wpAny X.M X.A (eval (.BoolOp .Or es pos) X.env) Q E P.s) h fun e e2 r h1 h2=>BoolOp_or (a.ok X e ρ P _ _ E h1 I G (aR w) (p.bind fun x v P1 g1 I1 r1 w p=>
  yh I1 r1 (aR w) (p.bindB fun c P2 g2 I2 w p=>by
   cases c with
   |false=>exact dB (fun es=>wpAny X.M X.A (eval (.BoolOp .Or es pos) X.env) Q E P2.s) h2 fun e h=>BoolOp_one (b.ok X e ρ P2 _ _ E h I2 (G.ext (g1.trans g2)) w p)
   |true=>exact p.here I2 (r1.ext g2.toExt) w)))
end
noncomputable def R6 (a b:CE):CE:=⟨fun K ρ=>bW (a.ev K ρ) fun x=>bW (Mb x) fun t=>if t then ret x else b.ev K ρ,fun s=>ii fun o es _=>Mi false o&&w7 (a.is s) (one (b.is s)) es,fun X e ρ P K Q E h I G w p=>fo (fun e=>wpAny X.M X.A (eval e X.env) Q E P.s) h fun o es pos h=>Gi (fun o=>wpAny X.M X.A (eval (.BoolOp o es pos) X.env) Q E P.s) (ai h) (Ky a b (an h) I G w p)⟩
end Mine.Internal
namespace Mine.Internal
open PySem PySem.W PyProof.Rows
variable {k:CE}
noncomputable def QP:List D->Option (Int×Int)
 |a::b::_=>(iD a).bind fun x=>(iD b).map fun z=>(z,x)
 |_=>none
noncomputable def wS:D->Option (Int×Int)
 | .tup l=>QP l
 |_=>none
noncomputable def mS (k:Int×Int):D:=.tup [.int k.1,.int k.2]
noncomputable def AY:CE:=bx (aj (sub (ag 0) (ah 1)) (aj (sub (ag 0) (ah 0)) ao))
theorem Fc {y:D} {k:Int×Int} (h:wS y=some k):∃ r,y= .tup (.int k.2:: .int k.1::r):=by
 cases y with
 |tup l=>
  cases l with
  |nil=>cases h
  |cons a l=>
   cases l with
   |nil=>cases h
   |cons b r=>
    refine bn fun G9 k9=> ?_;obtain ⟨x,hx,h2⟩:=Option.bind_eq_some_iff.mp h;obtain ⟨z,hz,rfl⟩:=S8.mp h2;refine k9 ?_;rw[zv hx,zv hz];exact ⟨r,rfl⟩
 |_=>cases h
theorem Lb {y:D} {k:Int×Int} {K:cG} {σ:az} (h:wS y=some k):AY.ev K [some (.d y)] σ=some (.ok (.d (mS k)),σ):=by
 obtain ⟨r,rfl⟩:=Fc h;have l1:(1:Int)<((D.int k.2::D.int k.1::r).length:Nat):=by rw[Sq,Sq];exact O5
 have l0:(0:Int)<((D.int k.2::D.int k.1::r).length:Nat):=by rw[Sq];exact O4
 have p1:cg 1 (D.int k.2::D.int k.1::r).length=some 1:=by unfold cg;rw[if_pos (by decide),if_pos l1];rfl
 have p0:cg 0 (D.int k.2::D.int k.1::r).length=some 0:=by unfold cg;rw[if_pos (by decide),if_pos l0];rfl
 have g1:cF (.tup (.int k.2:: .int k.1::r)) (.int 1)=some (.int k.1):=by
  show ((au (bS 1=true) ()).bind fun _=>(cg 1 (D.int k.2::D.int k.1::r).length).bind fun i=>(D.int k.2::D.int k.1::r)[i]?)=_;rw[p1];rfl
 have g0:cF (.tup (.int k.2:: .int k.1::r)) (.int 0)=some (.int k.2):=by
  show ((au (bS 0=true) ()).bind fun _=>(cg 0 (D.int k.2::D.int k.1::r).length).bind fun i=>(D.int k.2::D.int k.1::r)[i]?)=_;rw[p0];rfl
 have e1:vK (.d (.tup (.int k.2:: .int k.1::r))) (.d (.int 1)) σ=some (.ok (.d (.int k.1)),σ):=by
  show (Option.map (fun z=>(R.ok (PV.d z),σ)) (cF (.tup (.int k.2:: .int k.1::r)) (.int 1)))=_;rw[g1];rfl
 have e0:vK (.d (.tup (.int k.2:: .int k.1::r))) (.d (.int 0)) σ=some (.ok (.d (.int k.2)),σ):=by
  show (Option.map (fun z=>(R.ok (PV.d z),σ)) (cF (.tup (.int k.2:: .int k.1::r)) (.int 0)))=_;rw[g0];rfl
 show xJ (vH fun ds=>.d (.tup ds)) (xJ _ (vK (.d (.tup (.int k.2:: .int k.1::r))) (.d (.int 1)) σ))=_;rw[e1];show xJ (vH fun ds=>.d (.tup ds)) (xJ _ (xJ _ (vK (.d (.tup (.int k.2:: .int k.1::r))) (.d (.int 0)) σ)))=_;rw[e0];rfl
noncomputable def wX (k:CE) (s:Sx) (ps:Arguments) (body:Expr) (scope:Scope):Bool:=
 ps.posonlyargs.isEmpty&&ps.kwonlyargs.isEmpty&&ps.vararg.isNone&&ps.kwarg.isNone&&ps.defaults.isEmpty&&ps.kw_defaults.isEmpty&&one (fun a=>scope.names.lookup a.arg==some .local&&k.is ⟨s.fnm,s.att,s.key,s.gls,scope,[(a.arg,0)],none⟩ body) ps.args&&
 scope.names.all (fun p=>p.2 != .cell&&p.2 != .free)&&scope.kind== .function&& !scope.isCoroutine&& !scope.isGenerator
inductive n5 (k:CE) (C:bH) (w:bE) (l:xY) (fa:Addr):Prop
 |mk {nm:Str} {ps:Arguments} {body:Expr} {scope:Scope} {clos:List (Str×Addr)} {pm ctv:Value} {c:Addr} {oc:Obj} {vs:Array Value} {t:Tok} {s:Sx}:s.fnm=C.fnm->s.att=C.att->s.key=C.key->s.gls=C.gls->wX k s ps body scope=true->w fa= .fz (kla_obj nm l.qual ps body scope clos pm c ctv)->w c= .fz oc->oc.data= .fields vs->vs[1]? =some (.str l.qual t)->n5 k C w l fa
theorem n5.ext {C:bH} {w w':bE} {l:xY} {fa:Addr} (x:Fz w w'):n5 k C w l fa->n5 k C w' l fa
 |⟨a,b,c,d,e,f,g,h,i⟩=>⟨a,b,c,d,e,x _ _ f,x _ _ g,h,i⟩
section
variable {C:bH} {P:Pt} {l:xY}
theorem aL.code (I:aL C P) (hl:C.lam=some l) {h':Heap} {t:Nat} {c:Addr} {oc ot:Obj} {vs:Array Value} {tq:Tok} (hid:N7 P.h P.own P.G l.P ot) (hx:∀ b o,b≠l.P->P.h.get? b=some o->h'.get? b=some o) (hP:h'.get? l.P=some (tX #[rawInt l.pos.line,rawInt l.pos.col,.ref c])) (hc:h'.get? c=some oc) (hge:P.h.objs.size<=c) (hd:oc.data= .fields vs) (hv:vs[1]? =some (.str l.qual tq)):
  aL C (P.note h' t c oc):=by
 have own:=hid.2.1;have no:P.own c= .no:=I.off hge;have cs:=cX P.own c (.fz oc);have kk:∀ b o x,P.own b=x->x≠ .gh->x≠ .no->P.h.get? b=some o->im P.own c (.fz oc) b=x/\h'.get? b=some o:=fun b o x e q1 q2 z=>⟨(bB fun y=>q2 (by rw[<-e,y,no])).trans e,hx b o (fun y=>q1 (by rw[<-e,y,own])) z⟩;refine ⟨fun b o e=> ?_,fun b o e=> ?_,fun b e=> ?_,I.fr.mv (fun b o e q=>kk b o _ e cS.noConfusion cS.noConfusion q) (fun b e=>mA cS.noConfusion e),⟨fun p hp=> ?_,I.gh.nd,fun z e=> ?_⟩,fun b d k j e f=> ?_,fun b k j e=> ?_,fun k o e=>(I.obj k o e).mv (eG no) fun b j o e q=>kk b o _ e cS.noConfusion cS.noConfusion q⟩
 .obtain ⟨e1,e2⟩:=I.base b o e;exact ⟨hx b o (fun y=>by rw[y,own] at e2;cases e2) e1,(bB fun y=>by rw[y] at e1;exact S4 _ (SK (SR e1) hge)).trans e2⟩
 .rcases cs b with ⟨q,z⟩|⟨_,z⟩
  .cases z.symm.trans e;rw[q];exact hc
  .have e1:=z.symm.trans e;exact (kk b o _ e1 cS.noConfusion cS.noConfusion (I.fz b o e1)).2
 .rcases cs b with ⟨q,z⟩|⟨_,z⟩
  .exact ⟨_,q ▸ hc⟩
  .by_cases y:b=l.P
   .exact ⟨_,y ▸ hP⟩
   .obtain ⟨o,ho⟩:=I.live b (z ▸ e);exact ⟨o,hx b o y ho⟩
 .obtain ⟨e1,e2⟩:=I.gh.at_ p hp;exact ⟨hx _ _ (hid.2.2 p hp) e1,(bB fun y=>by rw[y,no] at e2;cases e2).trans e2⟩
 .rw[hl] at e;cases e;exact .inr ⟨c,oc,vs,tq,⟨hP,(bB fun y=>by rw[y,no] at own;cases own).trans own,hid.2.2⟩,bU _ _ _,hd,hv⟩
 .rcases cs b with ⟨_,q⟩|⟨_,q⟩
  .cases q.symm.trans e
  .rcases cs d with ⟨_,q'⟩|⟨_,q'⟩
   .cases q'.symm.trans f
   .exact I.one b d k j (q.symm.trans e) (q'.symm.trans f)
 .rcases cs b with ⟨_,q⟩|⟨_,q⟩
  .cases q.symm.trans e
  .exact I.bd b k j (q.symm.trans e)
theorem zn {s:Sx} {ps:Arguments} {body:Expr} {scope:Scope} {env:Env} (h:wX k s ps body scope=true):∃ cl,closureFor scope env=pure cl:=by
 obtain ⟨cl,e,_⟩:=kA (env:=env) (scope:=scope) fun p hp q=>by
  have:=an (List.all_eq_true.mp (an (ai (ai (ai h)))) p hp);rw[q] at this;cases this
 exact ⟨cl,e⟩
theorem zm {s:Sx} {ps:Arguments} {body:Expr} {scope:Scope} {env:Env} (h:wX k s ps body scope=true):defaultsOf ps env=([],[]):=by
 have h:=ai (ai (ai (ai (ai h))));refine bn fun G9 k9=> ?_;obtain ⟨p1,p2,p3,p4,p5,p6,p7⟩:=ps;refine k9 ?_;have e1:p7=[]:=List.isEmpty_iff.mp (an (ai h));have e2:p5=[]:=List.isEmpty_iff.mp (an h);subst e1;subst e2;rfl
theorem E8 {ke:CE} {X:SX} {ps:Arguments} {body:Expr} {scope:Scope} {pos:Pos} {P:Pt} {Q E:Value->Shared->Prop} (hl:X.lm=some l) (I:aL X.C P) (his:wX ke X.sx ps body scope=true) (h1:pos.line=l.pos.line) (h2:pos.col=l.pos.col)
  (k:∀ fa P',bQ P P'->aL X.C P'->P'.σ=P.σ->n5 ke X.C P'.own l fa->Q (.ref fa) P'.s):wpAny X.M X.A (eval (.Lambda ps body scope pos) X.env) Q E P.s:=by
 refine bn fun G9 k9=> ?_;obtain ⟨hC,hcode,hq⟩:=X.lmE l hl;obtain ⟨cl,hcl⟩:=zn (env:=X.env) his;obtain ⟨g1,⟨bm,ob,b1,b2,b3,b4,b5,b6⟩,g3⟩:=X.good.lam l hC;refine k9 ?_;have base:∀ b o,X.C.H.get? b=some o->P.h.get? b=some o:=fun b o e=>(I.base b o e).1;have bat:P.h.BuiltinsAt X.C.mg l.P:=⟨bm,ob,b1,b2,b3,b4,base _ _ b5,b6⟩;refine kla_eval (zm his) ?_;rw[hq];rcases I.gh.tab l hC with h|⟨c,oc,vs,t,h,e1,e2,e3⟩
 .refine kla_makeFunction hcl X.glob (X.good.g.keeps base) hcode (g1.keeps base) h.1 trivial rfl g3 bat fun c' ctv h' tk hx hge hlt hrec htb=> ?_;refine bn fun G9 k9=> ?_;obtain ⟨c2,oc,vs,t,e,hoc,hd,hv⟩:=hrec;refine k9 ?_;cases e;rw[h1,h2] at htb;have J:=I.code (t:=tk) hC h hx htb hoc hge hd hv;have g:bQ P (P.note h' tk c' oc):=.note (I.off hge);have n:=J.push (o:=kla_obj "<lambda>" l.qual ps body scope cl ((X.C.mg "__name__").getD .none) c' ctv) rfl;exact k _ _ (g.trans (.note n.own)) (J.note (t:=tk) n) rfl ⟨rfl,rfl,rfl,rfl,his,bU _ _ _,eG n.own _ _ (bU _ _ _),hd,hv⟩
 .have hf:codeAmong pos [rawInt l.pos.line,rawInt l.pos.col,.ref c]=some (.ref c):=by
   show (if ((l.pos.line:Int)==(pos.line:Int)&&(l.pos.col:Int)==(pos.col:Int))=true then some (Value.ref c) else _)=_;rw[h1,h2,beq_self_eq_true,beq_self_eq_true];rfl
  refine kla_makeFunctionHit hcl X.glob (X.good.g.keeps base) hcode (g1.keeps base) h.1 (show TriplesOk [rawInt l.pos.line,rawInt l.pos.col,Value.ref c] from trivial) hf bat fun ctv h' tk hk hsz=> ?_;have n:vD X.C P (h'.push (kla_obj "<lambda>" l.qual ps body scope cl ((X.C.mg "__name__").getD .none) c ctv)) h'.objs.size (kla_obj "<lambda>" l.qual ps body scope cl ((X.C.mg "__name__").getD .none) c ctv):=⟨fun b o e=>Sr _ (hk b o e),I.off hsz,I.out hsz,SE _ rfl⟩;exact k _ _ (.note n.own) (I.note (t:=tk) n) rfl ⟨rfl,rfl,rfl,rfl,his,bU _ _ _,eG n.own _ _ e1,e2,e3⟩
set_option maxHeartbeats 400000 in
theorem E9 {ke:CE} {A:Around} {fa:Addr} {y:D} {v:Value} {ky:Int×Int} {Q E:Value->Shared->Prop} (Gd:fh C) (hfrs:n6 A P.fs) (hX:C.H.objs.size<=P.h.objs.size) (hdep:A.depth+151<recursionLimit) (huni:A.units+1003<cLine) (I:aL C P) (L:n5 ke C P.own l fa) (r:RD C P.own y v) (hk:∀ K,ke.ev K [some (.d y)] P.σ=some (.ok (.d (mS ky)),P.σ))
  (k:∀ kv P',bQ P P'->aL C P'->P'.σ=P.σ->RD C P'.own (mS ky) kv->Q kv P'.s):wpAny C.M A (call (.ref fa) [v]) Q E P.s:=by
 refine bn fun G9 k9=> ?_;obtain @⟨nm,ps,body,scope,clos,pm,ctv,c,oc,vs,t,s,f1,f2,f3,f4,his,w1,w2,w3,w4⟩:=L;have p11:=(Bool.not_eq_true' _).mp (an his);have p10:=(Bool.not_eq_true' _).mp (an (ai his));have p9:=bR (an (ai (ai his)));have p8:=an (ai (ai (ai his)));have his:=ai (ai (ai (ai his)));have p7:=an his;have his:=ai (ai (ai his));have p4:=Option.isNone_iff_eq_none.mp (an his);have p3:=Option.isNone_iff_eq_none.mp (an (ai his));have p2:=List.isEmpty_iff.mp (an (ai (ai his)));have p1:=List.isEmpty_iff.mp (ai (ai (ai his)));have base:∀ b o,C.H.get? b=some o->P.h.get? b=some o:=fun b o e=>(I.base b o e).1;obtain ⟨a,ea,pn,pk⟩:∃ a,ps.args=[a]/\scope.names.lookup a.arg=some .local/\ke.is ⟨s.fnm,s.att,s.key,s.gls,scope,[(a.arg,0)],none⟩ body=true:=
  dB (fun as=>∃ a,as=[a]/\scope.names.lookup a.arg=some .local/\ke.is ⟨s.fnm,s.att,s.key,s.gls,scope,[(a.arg,0)],none⟩ body=true) p7 fun a h=>⟨a,rfl,bR (ai h),an h⟩
 refine k9 ?_;have hcell:∀ x∈scope.names,x.2≠ .cell:=fun x hx q=>by
  have:=ai (List.all_eq_true.mp p8 x hx);rw[q] at this;cases this
 have hnc:∀ y,scope.names.lookup y≠some .cell:=fun y q=>hcell _ (cO q) rfl;refine wpAny_call (kla_callFunE (by exact Nat.lt_of_add_right_lt hdep) (I.fz _ _ w1) rfl p10 p11 rfl ⟨c,oc,vs,t,rfl,I.fz _ _ w2,w3,w4⟩ ?_);rw[l_ (names:=[a.arg]) p1 p2 p3 p4 (by show ps.args.map _=_;rw[ea];rfl) rfl rfl (S6.mpr ⟨SF,S9⟩)];refine Sy (wpAny_newFunctionEnv hcell (fun x hx=>by rw[So.mp hx];exact pn) (fun h₁ hns hsb=>⟨((Gd.nolimit).keeps base).fresh _ hsb,?_⟩) p9);refine kla_codeExpr ?_;generalize henv:newEnv scope P.s.heap.objs.size mainGlobals clos (l.qual++".<locals>.") (some fa) (.ref c) none builtinsNs=env';have e1:env'.locals=P.h.objs.size:=by rw[<-henv];rfl
 have e2:env'.frame=some P.h.objs.size:=by rw[<-henv];rfl
 have e3:env'.scope=scope:=by rw[<-henv];rfl
 have e4:env'.globals=mainGlobals:=by rw[<-henv];rfl
 have e5:env'.builtins=builtinsNs:=by rw[<-henv];rfl
 have kp:∀ b o,P.h.get? b=some o->h₁.get? b=some o:=fun b o e=>hsb.extBut b o (Nat.ne_of_lt (SR e)) (Sr _ e);generalize hg:(⟨P.h.objs.size,fun x=>List.lookup x [(a.arg,v)].reverse,[],fun _=>none⟩:Fm)=g;have gL:g.L=P.h.objs.size:=by rw[<-hg]
 have gm:g.m a.arg=some v:=by rw[<-hg];show List.lookup a.arg [(a.arg,v)]=_;rw[List.lookup_cons,beq_self_eq_true]
 have gc:g.cells=[]:=by rw[<-hg]
 have J:aL C (P.enter h₁ (P.s.toks+1) g):=I.enter hX kp (Ta gL.symm) (by rw[<-hg];exact hns) (by rw[gc];exact fun c hc=>absurd hc SF);have xE:Ext P (P.enter h₁ (P.s.toks+1) g):=.enter I fun b o e q=>by
  rw[Fm.adr,gc,So] at q;have lt:=SR e;rw[q,gL] at lt;exact S4 _ lt
 obtain ⟨ls,hls,hfr⟩:=hfrs;have fr:(A.deeper env').frames=some (env'::ls):=by simp [Around.deeper,hls]
 let X:Cx:={C:=C,A:=A.deeper env',env:=env',sc:=scope,Γ:=[(a.arg,0)],d:=0,hd:=true,good:=Gd,calls:=fun _ _ _ _ _ _ _ _ _ _ _ _ _ _ _ _ w=>w.elim,kinds:=fun y=>⟨by rw[e3];exact id,fun h=>by unfold Env.kindOf;rw[e3];exact bR (ai h),fun h=>absurd h (hnc y)⟩,kind:=(by rw[e3];exact p9),glob:=e4,blt:=e5,dep:=(by show A.depth+1+8*0+150<recursionLimit;exact Nat.lt_of_succ_le hdep),uni:=(by show A.units+3+64*0+1000<cLine;exact Nat.lt_of_succ_le huni),hnd:=(fun q=>by cases q),lm:=none}
 have hE:EnvOK X (P.enter h₁ (P.s.toks+1) g) [some (.d y)]:=by
  refine ⟨⟨env'::ls,fr,fun z hz=> ?_⟩,fun q=>(by cases q),fun y' i p hy hm hp=> ?_⟩
  .rcases Sj.mp hz with q|hz
   .rw[q];exact ⟨by rw[e3,p9];decide,g,.head _,by rw[gL];exact e2⟩
   .obtain ⟨k,q,hq,e⟩:=hfr z hz;exact ⟨k,q,.tail _ hq,e⟩
  .have hy:List.lookup y' [(a.arg,0)]=some i:=hy;rw[List.lookup_cons] at hy;cases q:y'==a.arg with
   |false=>rw[q] at hy;cases hy
   |true=>
    rw[q] at hy;cases hy;cases hp;obtain rfl:=bR q;exact ⟨v,RV.ext xE (p:=.d y) r,.inl ⟨by unfold Env.kindOf;rw[show X.env=env' from rfl,e3];exact pn,g,.head _,gL.trans e1.symm,gm⟩⟩
 refine ke.ok X body [some (.d y)] (P.enter h₁ (P.s.toks+1) g) (fun z σ=>z= .ok (.d (mS ky))/\σ=P.σ) _ _ (by show ke.is ⟨C.fnm,C.att,C.key,C.gls,scope,[(a.arg,0)],none⟩ body=true;rw[<-f1,<-f2,<-f3,<-f4];exact pk) J hE (by show Wp _ (ke.ev X.ker [some (.d y)] P.σ);rw[hk];exact ⟨rfl,rfl⟩) ⟨fun p w P' g' I' r' kk=> ?_,fun c e P' _ _ _ kk=>by cases kk.1⟩;obtain ⟨q1,q2⟩:=kk;cases q1;have x:=xE.trans g'.toExt;refine yw (K:=fun z σ=>z= .ok (.d (mS ky))/\σ=P.σ) (keep:=false) I' x g'.fs r' ?_ fun p' P'' g2 I2 r2 k2=> ?_
 .show _/\P'.σ.take P.σ.length=P.σ;rw[q2,List.take_length];exact ⟨rfl,rfl⟩
 .cases k2.1;exact k w P'' g2 I2 k2.2 r2
end
end Mine.Internal
namespace Mine.Internal
open PySem PySem.W PyProof.Rows
variable {P:Pt}
noncomputable abbrev eU (y:D):Int×Int:=(wS y).getD (0,0)
theorem zi {y:D} (h:(wS y).isSome=true):wS y=some (eU y):=by
 obtain ⟨k,e⟩:=Option.isSome_iff_exists.mp h;unfold eU;rw[e];rfl
noncomputable abbrev wO (l:List D):List D:=(l.map eU).map mS
theorem Pa.ext {P₀:Pt} (x:Pa P₀ P []):Ext P₀ P:=⟨x.sm,x.G,x.fz,x.val,x.cell⟩
section
variable {C:bH} {A:Around} {P₀:Pt} {ks:List (Int×Int)} {E:Value->Shared->Prop} {Pf:PySem.Fin->Shared->Prop} {items:List D} {vs kvs:List Value} {a kS:Addr} {n e1:Nat}
theorem EE (I:aL C P) {k:Int×Int} {v:Value} (r:RD C P.own (mS k) v):∃ b t u m,v= .ref b/\P.h.get? b=some (cy [.int k.1 t,.int k.2 u] m):=by
 obtain @⟨ad,vs,n,o,rs⟩:kg C P.own cy [.int k.1,.int k.2] v:=r.view;obtain ⟨r1,rt⟩:dF C P.own (.int k.1) [.int k.2] vs:=rs.view;obtain ⟨r2,ru⟩:dF C P.own (.int k.2) [] _:=rt.view;obtain ⟨t1,e1⟩:∃ t,_=Value.int k.1 t:=r1.view;obtain ⟨t2,e2⟩:∃ t,_=Value.int k.2 t:=r2.view;have e3:_=[]:=ru.view;subst e1 e2 e3;exact ⟨_,_,_,_,rfl,I.fz _ _ o⟩
theorem Aw (I:aL C P) {h':Heap} (kp:sS P.h h'):∀ {ks:List (Int×Int)} {vs:List Value},RDs C P.own (ks.map mS) vs->∃ fs,KatTups h' vs fs/\fs.length=vs.length/\∀ v∈fs,∃ x t,v= .int x t
 |[],vs,r=>by rw[show vs=[] from r.view];exact ⟨[],trivial,rfl,fun _ h=>absurd h SF⟩
 |d::l,vs,r=>by
  obtain ⟨r1,rs⟩:dF C P.own (mS d) (l.map mS) vs:=r.view;obtain ⟨fs,t,e,k⟩:=Aw I kp rs;obtain ⟨b,t1,u1,m,rfl,g⟩:=EE I r1;exact ⟨_::fs,KatTups.cons (kp _ _ g) rfl rfl rfl t,congrArg (· +1) e,fun v hv=>(Sj.mp hv).elim (fun z=>⟨_,_,z⟩) (k v)⟩
theorem yn {st:SortSt} {out:List Value} {ds:List D} (I:aL C P) (pa:Pa P₀ P [(kS,aU kvs n),(a,aU [] e1)]) (hfs:P.fs=P₀.fs) (hσ:P.σ=P₀.σ) (hout:(arrOf st).map (·.2)=List.toArray out) (hf:failedOf st=none) (hz:out.length<64) (hkz:kvs.length<64) (ro:RDs C P.own ds out)
  (k:∀ P',bQ P₀ P'->aL C P'->P'.σ=P₀.σ->RD C P'.own (.lst ds) (.ref a)->Pf (.done (.ret .none)) P'.s):wpAny C.M A (ksk_tail a false e1 (.ref kS) st) Pf E P.s:=by
 have gk:=uJ I pa.G;have ga:=I.gh.at_ (a,aU [] e1) (by rw[pa.G];exact .tail _ (.head _));have ne:a≠kS:=fun q=>by
  have nd:=I.gh.nd;rw[pa.G] at nd;exact (S6.mp nd).1 (by rw[<-q];exact .head _)
 have s1:=Heap.SameBut.update P.h kS (Obj.mapSeq fun _=>(#[]:Array Value));have ga1:(P.h.update kS (Obj.mapSeq fun _=>(#[]:Array Value))).get? a=some (aU [] e1):=(s1.2 a ne).trans ga.1;have s2:=Heap.SameBut.update (P.h.update kS (Obj.mapSeq fun _=>(#[]:Array Value))) a (Obj.mapSeq fun _=>List.toArray out);obtain ⟨c2,hc2⟩:∃ c2,((P.h.update kS (Obj.mapSeq fun _=>(#[]:Array Value))).update a (Obj.mapSeq fun _=>List.toArray out)).get? a=some (aU out c2):=⟨_,get?_update_seq ga1 fun _=>List.toArray out⟩;unfold ksk_tail
 try dsimp only
 rw[hout];refine Sw (listUpdate_at gk.2 rfl ?_ (by rw[SG,sizeLine_eq];omega) (SN _));refine Sw (wpAny_letGo ?_);refine Sw (seqEpoch_at ga1 rfl ?_);refine Sw (listUpdate_at ga1 rfl ?_ (SN _) (by simp only [Bool.false_eq_true,if_false];rw[SG,sizeLine_eq];omega));rw[hf];simp only [bne_self_eq_false,Bool.false_eq_true,if_false];refine Sy ?_;show Pf _ {P.s with heap:=(P.h.update kS (Obj.mapSeq fun _=>(#[]:Array Value))).update a (Obj.mapSeq fun _=>List.toArray out)};generalize P.h.update kS (Obj.mapSeq fun _=>(#[]:Array Value))=h1 at s1 ga1 s2 hc2 ⊢;generalize h1.update a (Obj.mapSeq fun _=>List.toArray out)=h2 at s2 hc2 ⊢;have J1:=I.show (t:=P.s.toks) pa.G fun b o hb e=>s1.extBut b o hb e;have p1:=pa.show (h:=h1) (t:=P.s.toks) gk.1;have a1:=(uJ J1 p1.G).1;have J2:=J1.show (t:=P.s.toks) p1.G fun b o hb e=>s2.extBut b o hb e;have p2:=p1.show (h:=h2) (t:=P.s.toks) a1;have nw:vD C ((P.show h1 P.s.toks kS ([(a,aU [] e1)]++P₀.G)).show h2 P.s.toks a P₀.G) h2 a (aU out c2):=⟨fun _ _ e=>e,bU _ _ _,J1.offH (by rw[a1];exact cS.noConfusion),hc2⟩;exact k _ ((bQ.mk p2.ext hfs).trans (.note nw.own)) (J2.note (t:=P.s.toks) nw) hσ (kH J2 nw.own ((ro.ext (gy gk.1)).ext (gy a1)) rfl)
theorem B4 (I:aL C P) (pa:Pa P₀ P [(kS,aU kvs n),(a,aU [] e1)]) (hfs:P.fs=P₀.fs) (hσ:P.σ=P₀.σ) (rk:RDs C P.own (wO items) kvs) (rv:RDs C P.own items vs) (h64:items.length<64)
  (k:∀ P',bQ P₀ P'->aL C P'->P'.σ=P₀.σ->RD C P'.own (.lst (d4 K2 (items.map eU) items)) (.ref a)->Pf (.done (.ret .none)) P'.s):wpAny C.M A (ksk_end a false vs.toArray e1 (.ref kS) kvs.toArray) Pf E P.s:=by
 have lk:kvs.length=items.length:=by rw[rk.length,Sg,Sg]
 have lv:=rv.length;unfold ksk_end;simp only [Bool.false_eq_true,if_false];have lm:(items.map eU).length=items.length:=Sg _;have at_:∀ i,i<vs.length->∃ b t u m,kvs.getD i Value.none= .ref b/\P.h.get? b=some (cy [.int ((items.map eU).getD i default).1 t,.int ((items.map eU).getD i default).2 u] m):=fun i hi=>by
  have hi':i<(items.map eU).length:=by omega
  have r1:=ua rk (i:=i) (by rw[Sg];exact hi');rw[show (wO items).getD i .none=mS ((items.map eU).getD i default) by rw[SD,SD,SB,Sn hi'];rfl] at r1;exact EE I r1
 refine vU (lt:=fun i j=>K2 ((items.map eU).getD i default) ((items.map eU).getD j default)) (κ:=tuples' true) (by omega) (by omega) (fun Q p q=> ?_) (fun i j Q hi hj q=> ?_) fun st hout hf=> ?_
 .obtain ⟨fs,t,e,kk⟩:=Aw I (fun _ _ e=>e) rk;refine kat_kind (T:=.type "int") t (by omega) (fun y hy=> ?_) (by decide) q;obtain ⟨x,tt,rfl⟩:=kk y hy;exact .now
 .obtain ⟨b1,t1,u1,m1,z1,g1⟩:=at_ i hi;obtain ⟨b2,t2,u2,m2,z2,g2⟩:=at_ j hj;rw[z1,z2];exact E0 g1 rfl g2 rfl q
 .rw[lv,<-lm] at hout;exact yn I pa hfs hσ hout hf (by rw[Sg,lz.length_eq,List.length_range,lm];exact h64) (by omega) (pK rv lm) k
theorem yo {l:xY} {fa:Addr} (Gd:fh C) (hfrs:n6 A P₀.fs) (hX:P₀.fs≠[]) (hdep:A.depth+151<recursionLimit) (huni:A.units+1003<cLine) (I:aL C P) (pa:Pa P₀ P [(kS,aU [] 0),(a,aU [] e1)]) (hfs:P.fs=P₀.fs) (hσ:P.σ=P₀.σ) (L:n5 AY C P₀.own l fa) (rv:RDs C P₀.own items vs) (hk:∀ y∈items,(wS y).isSome=true) (h64:items.length<64)
  (k:∀ P',bQ P₀ P'->aL C P'->P'.σ=P₀.σ->RD C P'.own (.lst (d4 K2 (items.map eU) items)) (.ref a)->Pf (.done (.ret .none)) P'.s):wpAny C.M A (ksk_rest a (.ref fa) false vs.toArray e1 (.ref kS)) Pf E P.s:=by
 have lv:=rv.length;unfold ksk_rest;refine Sw (wpAny_rule ?_)
 first
  |rw[List.forIn_toArray]
  |(rw[<-Array.forIn_toList];simp only [List.toList_toArray])
  |rw[<-Array.forIn_toList]
 refine Sw (ksk_fold (fun j s'=>∃ P' kvs n,P'.s=s'/\Pa P₀ P' [(kS,aU kvs n),(a,aU [] e1)]/\P'.fs=P₀.fs/\P'.σ=P₀.σ/\aL C P'/\RDs C P'.own (wO (items.take j)) kvs) vs 0 P.s ⟨P,[],0,rfl,pa,hfs,hσ,I,.nil⟩ (fun j x s' hx hI=> ?_) fun s' hI=> ?_)
 .rw[Td] at hI ⊢;obtain ⟨P',kvs,m,rfl,pa',hfs',hσ',I',rk⟩:=hI;obtain ⟨hj,ex⟩:=Sl.mp hx;have hj':j<items.length:=by omega
  have ei:items[j]? =some items[j]:=Sn hj';obtain ⟨x',ex',rx⟩:=rv.get ei;rw[hx] at ex';cases ex';refine Sw (wpAny_attempt (E9 Gd (hfs'.symm ▸ hfrs) (I'.szF (by rw[hfs'];exact hX)) hdep huni I' (L.ext pa'.fz) (rx.ext pa'.fz) (fun K=>Lb (zi (hk _ (List.getElem_mem hj')))) fun kv P'' g I'' e r=> ?_));have pa'':=pa'.grow g.toExt;have gk:=uJ I'' pa''.G;have s1:=Heap.SameBut.update P''.h kS (Obj.mapSeq (·.push kv));have ea:(List.toArray kvs).push kv=List.toArray (kvs++[kv]):=by simp
  obtain ⟨c2,hc2⟩:∃ c2,(P''.h.update kS (Obj.mapSeq (·.push kv))).get? kS=some (aU (kvs++[kv]) c2):=⟨_,by rw[aU,<-ea];exact get?_update_seq gk.2 (·.push kv)⟩;have lkv:kvs.length=j:=by rw[rk.length,Sg,Sg,List.length_take];omega
  try dsimp only
  refine Sw (listUpdate_at gk.2 rfl ?_ (by rw[SG,sizeLine_eq];omega) (Ss (Ta (Array.size_push ..)) (by rw[SG,sizeLine_eq];omega)));have J:=I''.gturn (t:=P''.s.toks) pa''.G (fun b o hb e=>s1.extBut b o hb e) hc2;refine Sy ⟨rfl,_,kvs++[kv],c2,rfl,pa''.turn (h:=P''.h.update kS (Obj.mapSeq (·.push kv))) (t:=P''.s.toks) (g':=[(kS,aU (kvs++[kv]) c2),(a,aU [] e1)]),g.fs.trans hfs',e.trans hσ',J,?_⟩;have et:wO (items.take (j+1))=wO (items.take j)++[mS (eU items[j])]:=by rw[List.take_succ,ei];show (List.map eU (items.take j++[items[j]])).map mS=_;rw[List.map_append,List.map_append];rfl
  rw[et];exact (rk.ext g.fz).append (.cons r .nil)
 .rw[Td] at hI;obtain ⟨P',kvs,m,rfl,pa',hfs',hσ',I',rk⟩:=hI;rw[lv,List.take_length] at rk
  try dsimp only
  refine Sw (listItems_at (uJ I' pa'.G).2 rfl ?_);exact B4 I' pa' hfs' hσ' rk (rv.ext pa'.fz) h64 k
theorem D2 {l:xY} {fa:Addr} {v:Value} {Q:Value->Shared->Prop} (Gd:fh C) (hfrs:n6 A P.fs) (hX:P.fs≠[]) (hdep:A.depth+151<recursionLimit) (huni:A.units+1005<cLine) (I:aL C P) (L:n5 AY C P.own l fa) (hv:iM C P items v) (hk:∀ y∈items,(wS y).isSome=true) (h64:items.length<64)
  (k:∀ v P',bQ P P'->aL C P'->P'.σ=P.σ->RD C P'.own (.lst (d4 K2 (items.map eU) items)) v->Q v P'.s):wpAny C.M A (call (.builtin "sorted") [v] [(Str.ofString "key",.ref fa)]) Q E P.s:=by
 obtain @⟨la,vs,ln,g,_,rv⟩:=hv;have lv:=rv.length;refine pH (ksk_s1 _ _) (fun x=>ksk_l1 _ _) (Dm ⟨_,g,rfl,_,rfl⟩ (by omega) _ fun h1 tk mo sz=>⟨by rw[sizeLine_eq];omega,?_⟩);rw[ksk_t1];generalize ha:h1.objs.size=a at sz;have ho:(h1.push (seqObj "list" vs.toArray 0)).get? a=some (seqObj "list" vs.toArray 0):=by rw[<-ha];exact SE _ rfl
 obtain ⟨e1,ho1⟩:∃ e1,((h1.push (seqObj "list" vs.toArray 0)).update a (Obj.mapSeq fun _=>(#[]:Array Value))).get? a=some (seqObj "list" #[] e1):=⟨_,get?_update_seq ho fun _=>#[]⟩;have ne:∀ b x,P.h.get? b=some x->b≠a:=fun b x q=>Nat.ne_of_lt (SK (SR q) sz);have kp:sS P.h (jf (h1.push (seqObj "list" vs.toArray 0)) a vs):=fun b x q=>pJ (ne b x q) (Sr _ (mo b x q));have n1:vD C P (jf (h1.push (seqObj "list" vs.toArray 0)) a vs) a (aU [] e1):=⟨kp,I.off sz,I.out sz,Sr _ (Sr _ ho1)⟩;have J1:=I.hide (t:=tk) n1;generalize hS:(((h1.push (seqObj "list" vs.toArray 0)).update a (Obj.mapSeq fun _=>(#[]:Array Value))).push (seqObj "tuple" vs.toArray 0)).objs.size=kS;have la:a<kS:=by rw[<-hS];exact SR (Sr _ ho1)
 have n2:vD C (P.hide (jf (h1.push (seqObj "list" vs.toArray 0)) a vs) tk a (aU [] e1)) (jf (h1.push (seqObj "list" vs.toArray 0)) a vs) kS (aU [] 0):=
  ⟨fun _ _ e=>e,(bB (Nat.ne_of_gt la)).trans (I.off (Ss sz (SY la))),I.out (Ss sz (SY la)),by rw[<-hS];exact SE _ rfl⟩
 have J2:=J1.hide (t:=tk) n2;unfold ksk_tree;refine Sw (listItems_at ho rfl ?_);refine Sw (listUpdate_at ho rfl ?_ (by rw[SG,sizeLine_eq];omega) (SN _));refine Sw (seqEpoch_at ho1 rfl ?_);refine Sw (wpAny_newTuple ?_ (by show vs.length<=_;rw[sizeLine_eq];omega));refine Sw (wpAny_newList ?_ (SN _));refine wpAny_holding ?_;have pa:=((Pa.refl P).hide (h:=jf (h1.push (seqObj "list" vs.toArray 0)) a vs) (t:=tk) (o:=aU [] e1) n1.own).hide (h:=jf (h1.push (seqObj "list" vs.toArray 0)) a vs) (t:=tk) (o:=aU [] 0) n2.own;have fin:=yo (A:=A.in1.in1) (E:=E) (Pf:=fun fin s'=>∃ x,fin= .done (.ret x)/\Q (.ref a) s') Gd hfrs hX hdep (by show A.units+1+1+1003<cLine;omega) J2 pa rfl rfl L rv hk h64 fun P' g I' e r=>⟨_,rfl,k _ P' g I' e r⟩;rw[<-hS] at fin;exact fin
end
noncomputable def pI (l:List D):Option D:=au ((∀ y∈l,(wS y).isSome=true)/\l.length<64) (.lst (d4 K2 (l.map eU) l))
noncomputable def Nl (s:Sx) (a:CE) (e:Expr):Bool:=rL (fun g es kw _=>dD (fun x _=>x==("sorted":Str)&&ef s.sc x) g&&one (fun e=>iv e&&a.is s e) es&&
 one (fun k=>k.arg==some ("key":Str)&&rG (fun ps b sc lp=>wX AY s ps b sc&&s.lm.any (fun l=>lp.line==l.pos.line&&lp.col==l.pos.col)) k.value) kw) e
section
variable {X:SX} {st:Stmt} {ρ:bg} {K:Out->az->Prop} {Q:Flow->Shared->Prop} {E:Value->Shared->Prop}
theorem Ee (a:CE) {e:Expr} {Q:Value->Shared->Prop} {K:R PV->az->Prop} (h:Nl X.sx a e=true) (I:aL X.C P) (G:ct X P ρ) (w:Wp K (bW (a.ev X.ker ρ) (fun x=>g1 (fun u=>(lD u).bind pI) [x]) P.σ)) (p:bu X.toCx (RV X.C) P K Q E):wpAny X.M X.A (eval e X.env) Q E P.s:=by
 refine jQ (fun e=>wpAny X.M X.A (eval e X.env) Q E P.s) h fun g es kw pos h=> ?_;refine cw (fun g=>wpAny X.M X.A (eval (.Call g es kw pos) X.env) Q E P.s) (ai (ai h)) fun x px hx=> ?_;refine dB (fun es=>wpAny X.M X.A (eval (.Call (.Name x px) es kw pos) X.env) Q E P.s) (an (ai h)) fun ae ha=> ?_;refine dB (fun kw=>wpAny X.M X.A (eval (.Call (.Name x px) [ae] kw pos) X.env) Q E P.s) (an h) fun kwd hk=> ?_;obtain ⟨arg,le,kpos⟩:=kwd;have harg:arg=some ("key":Str):=bR (ai hk);subst harg;refine sR (fun le=>wpAny X.M X.A (eval (.Call (.Name x px) [ae] [⟨some ("key":Str),le,kpos⟩] pos) X.env) Q E P.s) (an hk) fun ps b sc lp hl=> ?_;have hn:x=("sorted":Str):=bR (ai hx);subst hn;obtain ⟨l,hlm,hpos⟩:=any_some (an hl);show wpAny X.M X.A (do callWith pos (<-eval (.Name ("sorted":Str) px) X.env) [] (backTo pos (starEach [ae] X.env)) (backToKw pos (keywordEach [⟨some ("key":Str),.Lambda ps b sc lp,kpos⟩] X.env))) Q E P.s;refine Sw (fI (v:=.builtin "sorted") I (an hx) (by decide+kernel) ?_);refine callWith_kw ?_ (by rw[dj (ai ha)];rfl) (by rw[dj (ai ha)];rfl);rw[dj (ai ha)];refine Calls.spliced_cons (a.ok X.toCx ae ρ P _ _ E (an ha) I G.toEnvOK (aR w) (p.bind fun z v P1 g1 I1 r1 w p=>Calls.spliced_nil ?_));refine kws_cons (E8 hlm I1 (ai hl) (bR (ai hpos)) (bR (an hpos)) fun fa P2 g2 I2 e2 L=>kws_nil ?_);have r2:kZ X.C P2 [z] [v]:=.cons (r1.ext g2.toExt) .nil;have G2:=(G.ext g1).ext g2;refine gT (fun vs=>wpAny X.M X.A (call (.builtin "sorted") vs [(Str.ofString "key",.ref fa)]) Q E P2.s) I2 r2 (by rw[e2];exact w) fun v u z hnow e k=> ?_;obtain ⟨items,q1,e⟩:=aq e;obtain ⟨hm,rfl⟩:=eb e;have d2:=X.dep2;have u2:=X.uni2;refine D2 X.good G2.frs G2.ne (by omega) (by omega) I2 L (gP q1 hnow) hm.1 hm.2 fun v' P3 g3 I3 e3 r3=> ?_;exact p.ok (.d (.lst (d4 K2 (items.map eU) items))) v' P3 (g2.trans g3) I3 r3 (by rw[e3];exact k)
end
noncomputable def Mx (a:CE):C1:=⟨fun K ρ=>b8 ρ (bW (a.ev K ρ) fun x=>g1 (fun u=>(lD u).bind pI) [x]) fun v σ=>some (.ret v,σ),fun s=>lM fun v _=>GA (Nl s a) v,fun X st ρ P K Q E h I G w p=>kx (fun st=>Ws X st Q E P) h fun v pos h=>gf (fun v=>wpAny X.M X.A (PySem.exec (.Return v pos) X.env) Q E P.s) h fun e h=>
 wpAny_Return_some (Ee a h I G (cW w) (p.bind G fun x v P1 g I1 r w G1 p=>p.ret x v P1 (G1.gs (.refl P1)) I1 r w))⟩
end Mine.Internal
namespace Mine.Internal
open PySem PyProof.Rows PySem.W
variable {c:Nat}
section
open Builtin Builtin.Str
theorem B0 {C:bH} {A:Around} {s:Shared} {Q E:Value->Shared->Prop} {x y:PySem.Str} {t u:Tok} (hy:(y.length==0)=false) (h1:x.length<=sizeLine) (h2:x.length+2<=sizeLine)
  (h:∀ l k,l.map (·.1)=Txt.split x y->Q (.ref s.heap.objs.size) {s with toks:=k,heap:=s.heap.push {cls:=.type "list",data:=.seq (strValues l).toArray}}):wpAny C.M A (call (.builtin "str.split") [.str x t,.str y u]) Q E s:=by
 cases e1:(decide (x.length<y.length)||decide (strKind x<strKind y))
 .cases hf:(occurrences x y 0 x.length (x.length+1)).isEmpty
  .refine call_meets F.slot_str_split (typeIs_str _ _ _) F.entry_str_split (F.args_str_split_2 _ _) (meets_str_split_sep x y t u e1 hy hf h1 ?_) ?_
   .have:=split_le x y;unfold Txt.split at this;rw[if_neg (ne_true_of_eq_false e1),if_neg (ne_true_of_eq_false hf)] at this;exact Ss this h2
   .show wants Q E _ {s with toks:=_,heap:=s.heap.push {cls:=.type "list",data:=.seq (strsFrom s.toks (partsBetween x (occurrences x y 0 x.length (x.length+1)) y.length)).toArray}};rw[strsFrom_eq];exact h (numbered s.toks _) _ ((numbered_texts _ _).trans ((if_neg (ne_true_of_eq_false e1)).trans (if_neg (ne_true_of_eq_false hf))).symm)
  .exact call_meets F.slot_str_split (typeIs_str _ _ _) F.entry_str_split (F.args_str_split_2 _ _) (meets_str_split_not_found x y t u e1 hy hf)
    (h [(x,t)] _ ((if_neg (ne_true_of_eq_false e1)).trans (if_pos hf)).symm)
 .exact call_meets F.slot_str_split (typeIs_str _ _ _) F.entry_str_split (F.args_str_split_2 _ _) (meets_str_split_cannot_occur x y t u e1)
   (h [(x,t)] _ (if_pos e1).symm)
end
noncomputable def Mc (c x:Nat) (q:List (List Nat)):List (List Nat):=if x=c then []::q else (x::q.headD [])::q.tail
noncomputable def bp (c:Nat):List Nat->List (List Nat)
 |[]=>[[]]
 |x::r=>Mc c x (bp c r)
theorem gZ {x:Nat} {r:List Nat}:bp c (x::r)=Mc c x (bp c r):=rfl
theorem d8:∀ {p:List Nat},c∉p->bp c p=[p]:=by
 intro p
 induction p with
 |nil=>
  intro _;exact rfl
 |cons x p ih=>
  intro h;rw[gZ,ih fun k=>h (.tail _ k)];exact if_neg fun e:x=c=>h (e ▸ .head _)
theorem kF {l:List Nat}:∀ {p:List Nat},c∉p->bp c (p++c::l)=p::bp c l:=by
 intro p
 induction p with
 |nil=>
  intro _;exact if_pos rfl
 |cons x p ih=>
  intro h;rw[List.cons_append,gZ,ih fun k=>h (.tail _ k)];exact if_neg fun e:x=c=>h (e ▸ .head _)
theorem pG {c:Nat}:∀ {ps:List (List Nat)},ps≠[]->(∀ p∈ps,c∉p)->bp c (dI [c] ps)=ps
 |[],h,_=>absurd rfl h
 |[p],_,h=>d8 (h p (.head _))
 |p::q::r,_,h=>by
  show bp c (p++[c]++dI [c] (q::r))=_;rw[List.append_assoc];exact (kF (h p (.head _))).trans (congrArg (p::·) (pG nofun fun x hx=>h x (.tail _ hx)))
theorem B2 (l:List Nat) (c:Nat):Txt.split (cA l) (cA [c])=(bp c l).map cA:=by
 have e:((Txt.split (cA l) (cA [c])).map fun p=>p.cps.toList).map cA=Txt.split (cA l) (cA [c]):=by
  rw[List.map_map];exact List.map_id _
 have h:=mT [c] ((Txt.split (cA l) (cA [c])).map fun p=>p.cps.toList);have h2:(PySem.Str.join (cA [c]) (Txt.split (cA l) (cA [c]))).cps.toList=l:=congrArg (fun x:PySem.Str=>x.cps.toList) (StrLaws.join_split (cA l) (cA [c]));have h3:=h.symm.trans ((congrArg (fun q=>(PySem.Str.join (cA [c]) q).cps.toList) e).trans h2);have hs:=pG (c:=c) (ps:=(Txt.split (cA l) (cA [c])).map fun p=>p.cps.toList) (fun q=>by
  have:=split_pos (cA l) (cA [c]);rw[List.map_eq_nil_iff.mp q] at this;exact absurd this (by decide)) fun p hp=>by
   obtain ⟨q,hq,rfl⟩:=SA.mp hp;exact StrLaws.split_free _ _ q hq
 rw[h3] at hs;rw[hs,e]
theorem gY (c:Nat):∀ l:List Nat,bp c l=(bp c l).headD []::(bp c l).tail:=by
 intro l
 induction l with
 |nil=>
  exact rfl
 |cons x r ih=>
  rw[gZ,Mc];split<;>rfl
theorem kE:∀ {l p:List Nat},p∈bp c l->(∀ x∈p,x∈l)/\p.length<=l.length:=by
 intro l
 induction l with
 |nil=>
  intro p h;rw[So.mp h];exact ⟨aW,Sv _⟩
 |cons x r ih=>
  intro p h;have ih:=fun q hq=>ih (p:=q) hq;have up:∀ {q},q∈bp c r->(∀ y∈q,y∈x::r)/\q.length<=r.length+1:=fun hq=>⟨fun y hy=>.tail _ ((ih _ hq).1 y hy),SM (ih _ hq).2⟩;have e:=gY c r;rw[gZ,Mc] at h;split at h
  .rcases Sj.mp h with rfl|h
   .exact ⟨aW,SN _⟩
   .exact up h
  .rcases Sj.mp h with rfl|h
   .have k:=ih ((bp c r).headD []) (by rw[e];exact .head _);exact ⟨fun y hy=>(Sj.mp hy).elim (fun q=>q ▸ .head _) fun hy=>.tail _ (k.1 y hy),Tj k.2⟩
   .exact up (by rw[e];exact .tail _ h)
theorem vL {C:bH} {w:bE}:∀ {ts:List (List Nat)} {l:List (PySem.Str×Tok)},(∀ t∈ts,jb t)->l.map (·.1)=ts.map cA->RDs C w (ts.map .str) (strValues l)
 |[],[],_,_=>.nil
 |t::ts,(x,k)::l,h,e=>by
  have e1:x=cA t:=(List.cons.inj e).1;subst e1;exact .cons (.str t k (h t (.head _))) (vL (fun t ht=>h t (.tail _ ht)) (List.cons.inj e).2)
 |[],_::_,_,e=>nomatch e
 |_::_,[],_,e=>nomatch e
noncomputable def Rb (u v:D):Option (List D):=(sD u).bind fun s=>(sD v).bind fun t=>match t with
 |[c]=>au (s.length<=1048576) ((bp c s).map .str)
 |_=>none
theorem D0 {C:bH} {A:Around} {P:Pt} {Q E:Value->Shared->Prop} {u v:D} {z:List D} {x y:Value} (I:aL C P) (hu:fB C P x u) (hv:fB C P y v) (e:Rb u v=some z)
  (k:∀ h' vs n t,vD C P h' P.h.objs.size (aU vs n)->RDs C P.own z vs->Q (.ref P.h.objs.size) {P.s with heap:=h',toks:=t}):wpAny C.M A (call (.builtin "str.split") [x,y]) Q E P.s:=by
 obtain ⟨s,e1,e⟩:=aq e;obtain ⟨t,e2,e⟩:=aq e;obtain ⟨ho,t1,q1⟩:=fQ e1 hu;obtain ⟨_,t2,q2⟩:=fQ e2 hv
 match t,e with
 |[c],e=>
  obtain ⟨hl,rfl⟩:=eb e;rw[q1,q2];refine B0 rfl (by show s.toArray.size<=_;rw[SG];exact Ss hl (by decide)) (by show s.toArray.size+2<=_;rw[SG];exact Ss (Nat.add_le_add_right hl 2) (by decide)) fun l t' hl=> ?_;have n:=I.push (o:=aU (strValues l) 0) rfl;exact k _ (strValues l) 0 t' n (vL (fun t ht=>⟨fun c hc=>ho.1 c ((kE ht).1 c hc),Ss (kE ht).2 ho.2⟩) (hl.trans (B2 s c)))
 |[],e=>cases e
 |_::_::_,e=>cases e
noncomputable def mK:MF:=⟨"split","str","str.split",F.plainAttrs_str,F.slot_str_split,F.type_str_split,fun _=>GB,Bj,fun x ps=>match ps with
 |[y]=>Kz (fun u v=>(Rb u v).map .lst) x y
 |_=>fun _=>none,fun {C A P K x ps v vs Q E} _ I r rs w p=>by
 match ps,rs,w with
 |[y],rs,w=>
  obtain ⟨r1,r2⟩:Ao C P y [] vs:=rs.view;rw[show _=[] from r2.view];obtain ⟨u,v',z,e1,e2,e,w⟩:=tU w;obtain ⟨l,e3,rfl⟩:=a_ e;exact D0 I (bL I r e1) (bL I r1 e2) e3 fun h' ws n t nw rr=>(p.fin w).note I nw t (kH I nw.own rr rfl)
 |[],_,w=>exact w.elim
 |_::_::_,_,w=>exact w.elim⟩
end Mine.Internal
namespace Mine.Internal
open PySem PyProof.Rows PySem.W
noncomputable def isDg (c:Nat):Bool:=decide (48<=c)&&decide (c<=57)
noncomputable def On (s:List Nat):Option Nat:=au (s≠[]/\s.all isDg=true/\s.length<=600) (NumText.digitsVal s)
noncomputable def wZ:List Nat->Option Int
 |45::r=>Option.map (fun n:Nat=> -(n:Int)) (On r)
 |s=>Option.map (fun n:Nat=>(n:Int)) (On s)
theorem Gn {s:List Nat} (h:s.all isDg=true):NumText.AllDigits s:=fun c hc=>⟨S3 (ai (List.all_eq_true.mp h c hc)),S3 (an (List.all_eq_true.mp h c hc))⟩
theorem tj {s:List Nat} {n:Int} (h:wZ s=some n):PySem.intText? (cA s)=some n/\s.length<=601:=by
 unfold wZ at h;split at h
 .rename_i r
  obtain ⟨m,e,rfl⟩:=a_ h;obtain ⟨⟨h1,h2,h3⟩,rfl⟩:=eb e;exact ⟨PySem.intText_neg (cs:=r) rfl (Gn h2) h1 (by show (45::r).toArray.size<=_;rw[SG,Sq];omega),Tj h3⟩
 .obtain ⟨m,e,rfl⟩:=a_ h;obtain ⟨⟨h1,h2,h3⟩,rfl⟩:=eb e;exact ⟨PySem.intText_digits (Gn h2) h1 (by show s.toArray.size<=_;rw[SG];omega),SM h3⟩
noncomputable def NE:BF:=⟨"int",.type "int",by decide+kernel,fun _=>g1 fun u=>(sD u).bind fun s=>(wZ s).map .int,fun {C A P hd K ps vs Q E} _ _ I r w p=>gT (fun vs=>wpAny C.M A (call (.type "int") vs) Q E P.s) I r w fun v u z h e k=>by
 obtain ⟨s,e1,e⟩:=aq e;obtain ⟨n,e2,rfl⟩:=a_ e;obtain ⟨_,t,q⟩:=fQ e1 h;rw[q];exact KIN.call_text (tj e2).1 (by show s.toArray.size<=_;rw[SG];exact Ss (tj e2).2 (by decide)) ((p.fin k).tok I (.int _ _) _)⟩
noncomputable def mE (u lo hi:D):Option D:=(sD u).bind fun s=>(nQ 0 lo).bind fun l=>(nQ s.length hi).bind fun h=>au (dm l s.length<=dm h s.length) (.str (bJ s (dm l s.length) (dm h s.length)))
theorem xI {C:bH} {w:bE} {v:Value} {n i:Int}:∀ {p:D},RD C w p v->nQ n p=some i->∃ o:Option (Int×Tok),v=partValue o/\(o.map (·.1)=some i∨(o.map (·.1)=none/\i=n)):=by
 intro Z0 r e;cases Z0 with
 |none=>
  cases e;exact ⟨none,r.view,.inr ⟨rfl,rfl⟩⟩
 |int j=>
  obtain ⟨t,q⟩:∃ t,v= .int j t:=r.view;rw[<-(eb e).2];exact ⟨some (j,t),q,.inl rfl⟩
 |_=>cases e
theorem FX (i:Int) (n:Nat):dm i n<=n:=by
 unfold dm;split<;>omega
theorem Bx (i:Int) (n:Nat):dm (dm i n:Int) n=dm i n:=by
 show (if ((dm i n:Nat):Int)<0 then _ else min ((dm i n:Nat):Int).toNat n)=_;rw[if_neg (Tn.mpr (Tl _)),Int.toNat_natCast,Nat.min_eq_left (FX i n)]
theorem HY {i j:Int} {n:Nat}:Builtin.Str.strSliceIndices (some i) (some j) 1 n=Builtin.Str.strSliceIndices (some (dm i n:Int)) (some (dm j n:Int)) 1 n:=by
 have k:∀ a b:Int,Builtin.Str.strSliceIndices (some a) (some b) 1 n=sliceRange (dm a n) (dm b n) 1:=fun a b=>by
  rw[<-re,<-re,clipAt_cast,clipAt_cast];rfl
 rw[k,k,Bx,Bx]
theorem B9 {x:PySem.Str} {l u:Option Int} {i j:Int} (hl:l=some i∨(l=none/\i=0)) (hu:u=some j∨(u=none/\j=x.length)) (h:dm i x.length<=dm j x.length):
  StrLaws.sliceText x l u=⟨(bJ x.cps.toList (dm i x.length) (dm j x.length)).toArray⟩:=by
 refine Eq.trans ?_ (StrLaws.sliceText_nat x h (FX _ _));unfold StrLaws.sliceText;have e:Builtin.Str.strSliceIndices l u 1 x.length=Builtin.Str.strSliceIndices (some i) (some j) 1 x.length:=by
  rcases hl with rfl|⟨rfl,rfl⟩
  .rcases hu with rfl|⟨rfl,rfl⟩
   .rfl
   .rw[StrLaws.sliceIdx_none_hi]
  .rcases hu with rfl|⟨rfl,rfl⟩
   .rw[StrLaws.sliceIdx_none_lo]
   .rw[StrLaws.sliceIdx_none_lo,StrLaws.sliceIdx_none_hi]
 rw[e,HY]
theorem GW {C:bH} {A:Around} {P:Pt} {Q E:Value->Shared->Prop} {value:Expr} {le ue:Option Expr} {sp:Pos} {u lo hi z:D} {x vl vu:Value} (I:aL C P) (hu:fB C P x u) (r1:RD C P.own lo vl) (r2:RD C P.own hi vu) (e:mE u lo hi=some z) (k:mw C P z Q):
  wpAny C.M A (subscriptTail value (.Slice le ue none sp) x (.ref P.h.objs.size)) Q E {P.s with heap:=P.h.push {cls:=.type "slice",data:=.fields #[vl,vu,.none]}}:=by
 obtain ⟨s,e1,e⟩:=aq e;obtain ⟨i,e2,e⟩:=aq e;obtain ⟨j,e3,e⟩:=aq e;obtain ⟨hc,rfl⟩:=eb e;obtain ⟨ho,t,q⟩:=fQ e1 hu;obtain ⟨o1,f1,p1⟩:=xI r1 e2;obtain ⟨o2,f2,p2⟩:=xI r2 e3;have hn:(cA s).length=s.length:=SG;have hs:=B9 (x:=cA s) p1 (by rw[hn];exact p2) (by rw[hn];exact hc);rw[hn] at hs;have hl:(bJ s (dm i s.length) (dm j s.length)).length<=s.length:=by
  rw[bJ,List.length_take,List.length_drop];exact Ss (Nat.min_le_right _ _) (Nat.sub_le _ _)
 rw[q];refine tail_any (typeIs_str _ _ t) F.slot_str_getitem.lookup (wpAny_getItem_str_slice (l:=o1) (u:=o2) (st:=none) ⟨_,SE _ rfl,rfl,by rw[f1,f2];rfl⟩ rfl (post_val_or_str ⟨?_,fun t' n=> ?_⟩)) (ops:=[.ref P.h.objs.size,.str (cA s) t]) rfl
 .show (StrLaws.sliceText (cA s) (o1.map (·.1)) (o2.map (·.1))).length<=sizeLine;rw[hs];show (List.toArray _).size<=sizeLine;rw[SG];exact Ss hl (Ss ho.2 (by decide))
 .have q:=k.grown I (h':=P.h.push {cls:=.type "slice",data:=.fields #[vl,vu,.none]}) (v:=.str (StrLaws.sliceText (cA s) (o1.map (·.1)) (o2.map (·.1))) t') (fun b o e=>Sr _ e) (by
   rw[hs];exact .str _ t' ⟨fun c hc=>ho.1 c (List.mem_of_mem_drop (List.mem_of_mem_take hc)),Ss hl ho.2⟩) n
  exact q
noncomputable def Ka (a:CE) (lo hi:CP):CE:=⟨fun K ρ=>bW (a.ev K ρ) fun x=>bW (lo.ev K ρ) fun l=>bW (hi.ev K ρ) fun h=>fun σ=>((rd σ x).bind fun u=>(j7 l).bind fun l=>(j7 h).bind fun h=>(mE u l h).map PV.d).map fun z=>(.ok z,σ),fun s=>vo fun v l u=>a.is s v&&lo.is s l&&hi.is s u,fun X e ρ P K Q E h I G w p=>
 nV (fun e=>wpAny X.M X.A (eval e X.env) Q E P.s) h fun v l u sp pos h=>Subscript_ (a.ok X v ρ P _ _ E (ai (ai h)) I G (aR w) (p.bind fun x v P1 g1 I1 r1 w p=>
  wpAny_Slice (lo.ok X l ρ P1 _ _ E (an (ai h)) I1 (G.ext g1) (aR w) (p.bind fun y1 v1 P2 g2 I2 r2 w p=>
   hi.ok X u ρ P2 _ _ E (an h) I2 ((G.ext g1).ext g2) (aR w) (p.bind fun y2 v2 P3 g3 I3 r3 w p=>by
    obtain ⟨z,e,k⟩:=gI w;obtain ⟨u1,e1,e⟩:=aq e;obtain ⟨u2,e2,e⟩:=aq e;obtain ⟨u3,e3,e⟩:=aq e;obtain ⟨z,e4,rfl⟩:=a_ e;rw[evalPart_none];exact Sy (GW I3 (bL I3 ((r1.ext g2.toExt).ext g3.toExt) e1) (lW e2 (r2.ext g3.toExt)) (lW e3 r3) e4 (p.fin k)))))))⟩
section
open Builtin Builtin.Str
end
end Mine.Internal
namespace Mine.Internal
open PySem PyProof.Rows PySem.W
section
open Builtin Builtin.Str
end
abbrev Q6 (m:Nat) (C:bH) (P:Pt) (v:Value) (z:PV):Prop:=m<=P.s.toks/\RV C P v z
abbrev N3 (m:Nat) (C:bH) (P:Pt) (vs:List Value) (zs:List PV):Prop:=m<=P.s.toks/\kZ C P zs vs
structure CG (n m:Nat) where
 ev:cG->bg->PM PV
 is:Sx->Expr->Bool
 ok:∀ (X:Cx) (e:Expr) (ρ:bg) (P:Pt) (K:R PV->az->Prop) (Q E:Value->Shared->Prop),is X.sx e=true->n<=P.s.toks->aL X.C P->EnvOK X P ρ->Wp K (ev X.ker ρ P.σ)->bu X (Q6 m X.C) P K Q E->wpAny X.M X.A (eval e X.env) Q E P.s
structure Q_ (n m:Nat) where
 ev:cG->bg->PM (List PV)
 is:Sx->List Expr->Bool
 star:∀ sx es env pos,is sx es=true->∀ x∈backTo pos (starEach es env),x.1=false
 ok:∀ (X:Cx) (es:List Expr) (pos:Pos) (ρ:bg) (P:Pt) (K:R (List PV)->az->Prop) (Q:List Value->Shared->Prop) (E:Value->Shared->Prop),is X.sx es=true->n<=P.s.toks->aL X.C P->EnvOK X P ρ->Wp K (ev X.ker ρ P.σ)->bu X (N3 m X.C) P K Q E->
  wpAny X.M X.A (spliced (backTo pos (starEach es X.env))) Q E P.s
theorem vY {α β:Type} {C:bH} {A:Around} {Rel:Pt->β->α->Prop} {P:Pt} {K:R α->az->Prop} {Q:β->Shared->Prop} {E:Value->Shared->Prop} {n:Nat} (p:dW C A (fun P v z=>n<=P.s.toks/\Rel P v z) P K Q E):
  dW C A Rel P K (fun v s=>n<=s.toks->Q v s) (fun e s=>n<=s.toks->E e s):=
 ⟨fun z v P' g I r k h=>p.ok z v P' g I ⟨h,r⟩ k,fun c e P' g I x k _=>p.ex c e P' g I x k⟩
noncomputable def CE.up (a:CE) (n:Nat):CG n n:=⟨a.ev,a.is,fun X e ρ P K Q E h hn I G w p=>wpAny_with_toks hn (a.ok X e ρ P K _ _ h I G w (vY p))⟩
noncomputable def CL.up (a:CL) (n:Nat):Q_ n n:=⟨a.ev,a.is,a.star,fun X e pos ρ P K Q E h hn I G w p=>wpAny_with_toks hn (a.ok X e pos ρ P K _ _ h I G w (vY p))⟩
noncomputable def Q_.dn {m:Nat} (a:Q_ 0 m):CL:=⟨a.ev,a.is,a.star,fun X e pos ρ P K Q E h I G w p=>a.ok X e pos ρ P K Q E h (SN _) I G w ⟨fun z v P' g I r k=>p.ok z v P' g I r.2 k,p.ex⟩⟩
end Mine.Internal
namespace Mine.Internal
open PySem PyProof.Rows PySem.W
variable {N d i j k m n:Nat} {c h note s:List Nat} {K:cG} {α β γ:Type} {ρ ρ':bg} {ds r σ σ' σ'':az} {f f':cU} {hd kp q:Bool} {z:Option (R PV×az)} {a cq e it ke o:CE} {ks l vs:List D} {u v:D} {M b g t:Int} {x y:PV} {xs:List PV} {F G T ns:List (List Nat)} {X o' o1 o2:PO} {sc:List Int} {mm:List (List Nat×D)} {x2 x3:Option PV}
noncomputable def Bb (w f:List Nat):Bool:= !f.isEmpty&&decide (f.length<=60)&&f.all isDg&& !(f.head? ==some 48&&w !=[48])
noncomputable def sJ:List Nat->List Nat
 |45::r=>r
 |w=>w
noncomputable def v_ (w:List Nat):Option Int:=if Bb w (sJ w)=true then wZ w else none
noncomputable def ed (m:Nat):List Nat:=(Nat.toDigits 10 m).map Char.toNat
theorem u_ (m:Nat):ed m≠[]/\(ed m).all isDg=true/\NumText.digitsVal (ed m)=m/\(m≠0->(ed m).head? ≠some 48)/\(m=0->ed m=[48]):=by
 have h3:NumText.digitsVal (ed m)=m:=KIN.val_back m;have h2:∀ c∈ed m,48<=c/\c<=57:=fun c hc=>by
  obtain ⟨ch,hch,e⟩:=SA.mp hc;rw[<-e];exact digit_range (Nat.isDigit_of_mem_toDigits (by decide) (by decide) hch)
 have h1:ed m≠[]:=fun e=>by
  have:=congrArg List.length e;rw[ed,Sg,Tb] at this;exact absurd (List.length_eq_zero_iff.mp this) Nat.toDigits_ne_nil
 refine ⟨h1,List.all_eq_true.mpr fun c hc=>by rw[isDg,Sz (h2 c hc).1,Sz (h2 c hc).2];rfl,h3,fun hm hh=> ?_,fun hm=>by rw[hm];decide⟩;obtain ⟨c,r,e⟩:=List.exists_cons_of_ne_nil h1;have t:=NumText.toDigits_all (ed m) h2;rw[h3] at t;rw[e] at hh t;obtain rfl:c=48:=S_ hh;have l:(Nat.toDigits 10 m).length=r.length+1:=by
  have:=congrArg List.length e
  rwa [ed,Sg,Sq] at this
 rw[List.dropWhile_cons_of_pos (by decide)] at t;have dl:(r.dropWhile (· ==48)).length<=r.length:=(List.dropWhile_sublist _).length_le;cases q:r.dropWhile (· ==48) with
 |nil=>
  rw[q] at t;have t:Nat.toDigits 10 m=['0']:=t;rw[t] at l;have r0:r=[]:=List.length_eq_zero_iff.mp (by simpa using l.symm);rw[e,r0] at h3;exact hm h3.symm
 |cons x y=>
  rw[q] at t dl;have t:Nat.toDigits 10 m=(x::y).map Char.ofNat:=t;rw[t,Sg] at l;omega
theorem tu {w:List Nat} (h:m<10^31) (hw:m≠0∨w=[48]):Bb w (ed m)=true/\On (ed m)=some m:=by
 obtain ⟨h1,h2,h3,h4,h5⟩:=u_ m;have l:(ed m).length<=60:=by
  have e:(Str.ofString (toString ((m:Nat):Int))).cps.toList=ed m:=KIN.signs_num m;have e2:(Str.ofString (toString ((m:Nat):Int))).length=(toString ((m:Nat):Int)).length:=PySem.ofString_length _;have e3:=int_text_length_le10 (a:=(m:Int)) (k:=31) (by decide) h;have e4:(Str.ofString (toString ((m:Nat):Int))).length=(ed m).length:=by rw[<-e];exact (Array.length_toList).symm
  omega
 constructor
 .unfold Bb;rw[h2,Sz l,show (ed m).isEmpty=false by simpa using h1];rcases hw with q|q
  .rw[beq_eq_false_iff_ne.mpr (h4 q)];rfl
  .rw[q,bne_self_eq_false,Bool.and_false];rfl
 .refine (if_pos ⟨h1,h2,by omega⟩).trans (congrArg some h3)
theorem zV (m:Nat):aN (m:Int)=ed m:=KIN.signs_num m
theorem zU (k:Nat):aN (Int.negSucc k)=45::ed (k+1):=by
 unfold aN;rw[Str.ofString_eq_toList];show ("-"++Nat.repr (k+1)).toList.map Char.toNat=_;rw[String.toList_append,List.map_append,Nat.toList_repr];rfl
theorem nI {n:Int} (h:n.natAbs<10^31):v_ (aN n)=some n/\(aN n).all (fun c=>c==45||isDg c)=true:=by
 cases n with
 |ofNat m=>
  have e:aN (Int.ofNat m)=ed m:=zV m;obtain ⟨h1,h2,h3,h4,h5⟩:=u_ m;have h:m<10^31:=h;have hw:m≠0∨ed m=[48]:=(Decidable.em (m=0)).symm.imp id h5;obtain ⟨g1,g2⟩:=tu h hw;have n45:∀ r,ed m≠45::r:=fun r q=>by
   rw[q] at h2;exact absurd h2 (by simp [isDg])
  have f:sJ (ed m)=ed m:=by
   unfold sJ;split
   .rename_i r q;exact absurd q (n45 r)
   .rfl
  have i:wZ (ed m)=some (m:Int):=by
   unfold wZ;split
   .rename_i r q;exact absurd q (n45 r)
   .rw[g2];rfl
  rw[e,v_,f,if_pos g1,i];refine ⟨rfl,List.all_eq_true.mpr fun c hc=>by rw[List.all_eq_true.mp h2 c hc,Bool.or_true]⟩
 |negSucc k=>
  obtain ⟨h1,h2,h3,h4,h5⟩:=u_ (k+1);have h:k+1<10^31:=h;obtain ⟨g1,g2⟩:=tu (w:=45::ed (k+1)) h (.inl (Nat.succ_ne_zero k));have i:wZ (45::ed (k+1))=some (Int.negSucc k):=by
   show Option.map _ (On (ed (k+1)))=_;rw[g2];rfl
  rw[zU,v_,show sJ (45::ed (k+1))=ed (k+1) from rfl,if_pos g1,i];refine ⟨rfl,List.all_eq_true.mpr fun c hc=> ?_⟩;rcases Sj.mp hc with rfl|hc
  .rfl
  .rw[List.all_eq_true.mp h2 c hc,Bool.or_true]
noncomputable section
noncomputable def wP:List (List Nat):=[Tq,[102,105,114,115,116],Tr,Tt,[116,111,108,100],Tw,TJ,Tu,[109,111,115,116]]
def xL:CS:=(sC (aG 4 (ah 0)) (sC (cZ 5 (b_ (ag 0) 3) (sC (ce (ki (bC (aJ IG (ag 3) gp) (bC (aJ yc (sub (ag 5) (ah 1)) (ag 3)) d3))) (sC (cZ 6 (sub (ag 5) (ah 3)) (sC (ce (pz (dw (aJ dp (sub (ag 6) (ah 0)) (ag 1)) (dw (aJ dp (sub (ag 6) (ah 1)) (ag 2)) km))) (sC (aG 4 (aK a9 (ag 4) (sub (ag 6) (ah 2)))) sN) sN) sN)) sN) sN) sN)) (sC (aV (ag 4)) sN)))
def mW:CS:=(sC (ce (ki (bC (aJ gU (bi bf (aj (ag 0) ao)) (ah 3)) (bC (fq (rQ (bi uX (aj (n8 false (gt 1 (ag 0) fG (rj Ab (ag 1) (zy "GREAT" (none,TG))))) ao)))) d3))) (sC (bX 2 [110,111,32,99,117,114,114,101,110,99,121]) sN) sN) sN)
def oF:CS:=(sC (ce (aJ kP (ag 1) (b_ (ag 0) 1)) (sC (bX 11 [110,111,32,115,117,99,104,32,97,99,99,111,117,110,116]) sN) sN) sN)
def Ag:CS:=(sC (aP (meth (ag 0) 15 (aj (ag 1) ao))) (sC (aP (ax 5 (aj (ag 2) ao))) (sC (aV (meth (ag 0) 26 (aj (ag 1) (aj (ag 2) (aj gp ao))))) sN)))
abbrev iS:CS:=(sC (ce (pz (dw (aJ dp (sub (ag 6) (ah 0)) (ag 2)) (dw (aJ dp (sub (ag 6) (ah 1)) (ag 3)) km))) (sC (aG 4 (aK a9 (ag 4) (sub (ag 6) (ah 2)))) sN) sN) sN)
abbrev iR:CS:=(sC (cZ 6 (sub (ag 5) (ah 3)) iS) sN)
abbrev iQ:CS:=(sC (aG 4 (ah 0)) (sC (cZ 5 (key (ag 1) 3 Tt) iR) (sC (ce (aJ gU (meth (ag 0) 27 (aj (ag 2) (aj (ag 3) ao))) (ag 4)) (sC (aV (co false)) sN) sN) sN)))
abbrev iO:CS:=(sC (cZ 3 (key (ag 1) 2 Tr) iQ) sN)
abbrev og:C1:=(cZ 2 (key (ag 1) 0 Tq) iO)
def ul:CS:=(sC og (sC (aV (co true)) sN))
def Ga:CS:=(sC (aG 5 (aK a9 (bi bf (aj (b_ (ag 0) 3) ao)) (ah 1))) (sC (aP (bm aT (b_ (ag 0) 3) (aj (bx (aj (ag 5) (aj (ag 1) (aj (ag 2) (aj (ag 3) (aj (ag 4) ao)))))) ao))) (sC (aV (ag 5)) sN)))
def Dt:CS:=(sC (ce (aJ dp (bi bf (aj (b_ (ag 0) 5) ao)) (ah 0)) (sC (aV (neg (ah 1))) sN) sN) (sC (aV (sub (b_ (ag 0) 5) (aK c_ (bi bf (aj (b_ (ag 0) 5) ao)) (ah 1)))) sN))
def xh:CS:=(sC (ce (ki (bC (aJ rR (ag 0) (ah 0)) (bC (aJ Ac (ag 0) (zy "LAST_DAY" (some 99999,[]))) d3))) (sC (bX 4 [110,111,32,100,97,121]) sN) sN) sN)
def vd:CS:=(sC (aP (ax 3 (aj (ag 1) ao))) (sC (ce (aJ yc (ag 1) (meth (ag 0) 2 ao)) (sC (bX 8 [97,32,99,108,111,115,101,100,32,100,97,121]) sN) sN) sN))
def F':CS:=(sC (ce (ki (bC (aJ rR (ag 1) (ah 1)) (bC (aJ Ac (ag 1) (bi bf (aj (b_ (ag 0) 3) ao))) d3))) (sC (bX 12 [110,111,32,115,117,99,104,32,101,110,116,114,121]) sN) sN) (sC (aV (sub (b_ (ag 0) 3) (aK c_ (ag 1) (ah 1)))) sN))
def nS:CS:=(sC (aG 3 (meth (ag 0) 8 (aj (ag 1) ao))) (sC (ce (ki (bC (aJ gU (sub (ag 3) (ah 4)) (ah 0)) (bC (aJ NN (ag 1) (b_ (ag 0) 4)) d3))) (sC (bX 10 [97,110,32,101,110,116,114,121,32,116,104,97,116,32,99,97,110,39,116,32,98,101,32,116,97,107,101,110,32,98,97,99,107]) sN) sN) (sC (aP (meth (ag 0) 4 (aj (ag 2) ao))) (sC (aG 4 (bi iF (aj (n8 false (gt 5 (sub (ag 3) (ah 3)) fG (bx (aj (sub (ag 5) (ah 0)) (aj (sub (ag 5) (ah 1)) (aj (neg (sub (ag 5) (ah 2))) ao)))))) ao))) (sC (t9 (b_ (ag 0) 4) (ag 1) (co true)) (sC (aP (bm aT (b_ (ag 0) 6) (aj (bx (aj (aH TB) (aj (ag 1) (aj (ag 2) ao)))) ao))) (sC (aV (meth (ag 0) 7 (aj (ag 2) (aj (sub (ag 3) (ah 2)) (aj (ag 4) (aj (ag 1) ao)))))) sN)))))))
abbrev wu:C1:=(Ec (sC (aP (meth (ag 0) 9 (aj (ag 1) (aj (neg (ah 1)) ao)))) sN) (hC 10 (sC (aV (co true)) sN) (hC 4 (sC (aV (co false)) sN) hN)))
def ET:CS:=(sC wu (sC (aV gp) sN))
abbrev g_:CS:=(sC (aG 3 (R6 (rj JI (sub (ag 2) (ah 0)) (key (ag 1) 6 TJ)) (rj gU (sub (ag 2) (ah 4)) (ah 0)))) (sC (ce (aJ gU (ax 158 (aj (ag 0) (aj (sub (ag 2) (ah 0)) ao))) (ag 3)) (sC (aV (co false)) sN) sN) sN))
abbrev mM:C1:=(cZ 2 (key (ag 1) 3 Tt) g_)
def r7:CS:=(sC mM (sC (aV (co true)) sN))
def Ae:CS:=(sC (aV (bi bf (aj (b_ (ag 0) 5) ao))) sN)
abbrev ux:C1:=(aV (sub (aK a9 (gV (aj (neg (ah 1)) ao)) (key (ag 0) 5 Tw)) (neg (ah 1))))
def CK:CS:=(sC ux sN)
def BC:CS:=(sC (aP (ax 5 (aj (ag 1) ao))) (sC (aP (ax 3 (aj (ag 2) ao))) (sC (ce (aJ dp (ag 1) (b_ (ag 0) 0)) (sC (aV (bx (aj (ah 1) (aj (ah 1) ao)))) sN) sN) (sC (aG 3 (bm Ct (b_ (ag 0) 2) (aj (ag 1) (aj Bv ao)))) (sC (s0 false 4 5 (ag 3) (lA (aJ yc (ag 5) (ag 2))) (ag 5)) (sC (ce (aJ dp (bi bf (aj (ag 4) ao)) (ah 0)) (sC (bX 13 [110,111,32,114,97,116,101,32,102,111,114,32,116,104,105,115,32,100,97,121]) sN) sN) (sC (aV (sub (ag 3) (bi FH (aj (ag 4) ao)))) sN)))))))
abbrev jr:CS:=(sC (ce (pz (dw (aJ dp (sub (ag 4) (ah 0)) (ag 1)) (dw (aJ yc (sub (ag 4) (ah 1)) (ag 2)) (dw (ki (bC (aJ IG (ag 3) gp) (bC (aJ NO (sub (ag 4) (ah 1)) (sub (ag 3) (ah 1))) d3))) km)))) (sC (aG 3 (ag 4)) sN) sN) sN)
abbrev wy:C1:=(ce (aJ dp (ag 1) (sub (key (ag 0) 2 Tr) (ah 0))) (sC (aV (bx (aj (ah 1) (aj (ah 1) ao)))) sN) sN)
abbrev nF:C1:=(aV (bx (aj (sub (ag 3) (ah 2)) (aj (sub (ag 3) (ah 3)) ao))))
def wz:CS:=(sC wy (sC (aG 3 gp) (sC (cZ 4 (key (ag 0) 4 [116,111,108,100]) jr) (sC (ce (aJ IG (ag 3) gp) (sC (aV gp) sN) sN) (sC nF sN)))))
def IH:CS:=(sC (aV (bi bf (aj (b_ (ag 0) 3) ao))) sN)
def xM:CS:=(sC (aV (bi ND (aj (b_ (ag 0) 1) ao))) sN)
abbrev qc:CS:=(sC (ce (aJ gU (meth (ag 0) 8 (aj (aK a9 (ag 2) (ah 1)) ao)) (sub (key (ag 1) 3 Tt) (ag 2))) (sC (aV (co false)) sN) sN) sN)
abbrev qb:CS:=(sC (ce (aJ gU (meth (ag 0) 14 (aj (sub (ag 3) (ah 0)) (aj (sub (ag 3) (ah 1)) ao))) (ax 75 (aj (ag 1) (aj (sub (ag 3) (ah 0)) (aj (sub (ag 3) (ah 1)) ao))))) (sC (aV (co false)) sN) sN) sN)
abbrev qa:C1:=(ce (ki (bC (aJ gU (meth (ag 0) 60 ao) (key (ag 1) 0 Tq)) (bC (aJ gU (meth (ag 0) 1 ao) (bi bf (aj (key (ag 1) 3 Tt) ao))) d3))) (sC (aV (co false)) sN) sN)
abbrev yR:C1:=(cZ 2 (bi jH (aj (bi bf (aj (key (ag 1) 3 Tt) ao)) ao)) qc)
abbrev yQ:C1:=(ce (ki (bC (aJ gU (meth (ag 0) 2 ao) (ax 70 (aj (ag 1) ao))) (bC (aJ gU (b_ (ag 0) 0) (sub (key (ag 1) 2 Tr) (ah 0))) d3))) (sC (aV (co false)) sN) sN)
abbrev yP:C1:=(aV (rj dp (meth (ag 0) 22 ao) (bi bf (aj (key (ag 1) 5 Tw) ao))))
def HD:CS:=(sC qa (sC yR (sC (cZ 3 (key (ag 1) 4 [116,111,108,100]) qb) (sC yQ (sC yP sN)))))
def sw:CS:=(sC (aG 1 (sub (ag 0) (ah 1))) (sC (aG 2 (sub (ag 0) (ah 2))) (sC (aG 3 (bi bf (aj (sub (ag 0) (ah 3)) ao))) (sC (aG 4 (gO (aj (C8 (w_ TH (w9 (ag 1) (w_ [32] (w9 (ag 3) (w_ [32] (w9 (ag 2) Nz))))))) ao))) (sC (cZ 5 (sub (ag 0) (ah 3)) (sC (aG 6 (sub (ag 5) (ah 0))) (sC (aG 7 (sub (ag 5) (ah 1))) (sC (aG 8 (sub (ag 5) (ah 2))) (sC (aP (bm aT (ag 4) (aj (C8 (w_ TF (w9 (ag 6) (w_ [32] (w9 (ag 7) (w_ [32] (w9 (ag 8) Nz))))))) ao))) sN))))) (sC (aV (ag 4)) sN))))))
def uU:CS:=(sC (ce (aJ dp (sub (ag 0) (ah 0)) (aH Tz)) (sC (aV (ax 23 (aj (ag 0) ao))) sN) sN) (sC (ce (aJ dp (sub (ag 0) (ah 0)) (aH TA)) (sC (aG 1 (gV (aj (aH TA) (aj (bi sK (aj (sub (ag 0) (ah 1)) ao)) (aj (sub (ag 0) (ah 3)) (aj (sub (ag 0) (ah 4)) (aj (bi sK (aj (sub (ag 0) (ah 5)) ao)) (aj (sub (ag 0) (ah 6)) (aj (sub (ag 0) (ah 7)) (aj (sub (ag 0) (ah 2)) ao)))))))))) (sC (aV (gV (aj (bm iN (aH [32]) (aj (ag 1) ao)) ao))) sN)) sN) (sC (aV (gV (aj (bm iN (aH [32]) (aj (n8 false (gt 2 (ag 0) fG (bi sK (aj (ag 2) ao)))) ao)) ao))) sN)))
def zE:CS:=(sC (aG 1 (gV (aj (aK a9 (aH [104,111,109,101,32]) (b_ (ag 0) 0)) ao))) (sC (cZ 2 (b_ (ag 0) 6) (sC (aG 1 (aK a9 (ag 1) (ax 24 (aj (ag 2) ao)))) sN)) (sC (aV (bm iN (aH []) (aj (n8 false (gt 3 (ag 1) fG (aK a9 (ag 3) (aH [10])))) ao))) sN)))
def zL:CS:=(sC (ce (ki (bC (aJ rR (bi bf (aj (ag 0) ao)) (ah 1)) (bC (aJ Ac (bi bf (aj (ag 0) ao)) (ah 12)) (bC (aJ IF (sub (ag 0) (ah 0)) (zy "SMALL" (none,TL))) d3)))) (sC (aV (co false)) sN) sN) (sC (aV (bi uX (aj (n8 false (gt 1 (ag 0) fG (rj Ab (ag 1) (aK a9 (zy "SMALL" (none,TL)) (zy "FIGURES" (none,TM)))))) ao))) sN))
def Gc:CS:=(sC (ce (fq (rQ (ax 36 (aj (ag 1) ao)))) (sC (bX 1 [110,111,32,110,97,109,101,32,111,102,32,97,110,32,97,99,99,111,117,110,116]) sN) sN) (sC (ce (aJ JI (ag 1) (b_ (ag 0) 1)) (sC (bX 9 [97,110,32,97,99,99,111,117,110,116,32,116,104,97,116,32,105,115,32,116,104,101,114,101,32,97,108,114,101,97,100,121]) sN) sN) (sC (aP (bm aT (b_ (ag 0) 1) (aj (ag 1) ao))) (sC (aP (bm aT (b_ (ag 0) 6) (aj (bx (aj (aH TC) (aj (ag 1) ao))) ao))) sN))))
abbrev yG:C1:=(aV (bm iN (aH []) (aj (n8 false (gt 1 (ag 0) fG (aK a9 (ag 1) (aH [10])))) ao)))
def HB:CS:=(sC yG sN)
abbrev qi:CS:=(sC (aP (bm aT (ag 1) (aj (aK a9 (aH TN) (ag 2)) ao))) sN)
abbrev qg:CS:=(sC (aP (bm aT (ag 1) (aj (aK a9 (aK a9 (aK a9 (aK a9 (aK a9 (aH TF) (sub (ag 4) (ah 0))) (aH [32])) (sub (ag 4) (ah 1))) (aH [32])) (bi sK (aj (sub (ag 4) (ah 2)) ao))) ao))) sN)
abbrev iy:CS:=(sC (ce (aJ dp (sub (ag 3) (ah 0)) (aH Tz)) (sC (aP (bm aT (ag 1) (aj (aK a9 (aK a9 (aK a9 (aK a9 (aK a9 (aH TH) (bi sK (aj (sub (ag 3) (ah 1)) ao))) (aH [32])) (bi sK (aj (bi bf (aj (sub (ag 3) (ah 3)) ao)) ao))) (aH [32])) (sub (ag 3) (ah 2))) ao))) (sC (cZ 4 (sub (ag 3) (ah 3)) qg) sN)) (sC (aP (bm aT (ag 1) (aj (bm iN (aH [32]) (aj (n8 false (gt 5 (ag 3) fG (bi sK (aj (ag 5) ao)))) ao)) ao))) sN)) sN)
abbrev qf:C1:=(aG 1 (gO (aj (aK a9 (aH [104,111,109,101,32]) (sub (key (ag 0) 2 Tr) (ah 0))) ao)))
abbrev qe:C1:=(cZ 2 (Az (key (ag 0) 0 Tq) (tL (ah 1)) (tL (key (ag 0) 1 [102,105,114,115,116]))) qi)
abbrev qd:C1:=(cZ 3 (key (ag 0) 7 Tu) iy)
def HE:CS:=(sC qf (sC qe (sC qd (sC (aV (ag 1)) sN))))
def vc:CS:=(sC (aP (ax 5 (aj (ag 1) ao))) (sC (aP (meth (ag 0) 4 (aj (ag 2) ao))) (sC (ce (ki (bC (aJ dp (ag 1) (b_ (ag 0) 0)) (bC (fq (vJ yc yc (ah 1) (ag 3) (zy "GREATEST" (some 1000000000,[])))) (bC (fq (vJ yc yc (ah 1) (ag 4) (zy "GREATEST" (some 1000000000,[])))) d3)))) (sC (bX 6 [110,111,32,114,97,116,101]) sN) sN) (sC (aG 5 (bi Bm (aj (bm Ct (b_ (ag 0) 2) (aj (ag 1) (aj Bv ao))) ao))) (sC (t9 (ag 5) (ag 2) (bx (aj (ag 3) (aj (ag 4) ao)))) (Eg 5 (sC (t9 (b_ (ag 0) 2) (ag 1) (ag 5)) (sC (aP (bm aT (b_ (ag 0) 6) (aj (bx (aj (aH TD) (aj (ag 1) (aj (ag 2) (aj (ag 3) (aj (ag 4) ao)))))) ao))) sN))))))))
def xn:CS:=(sC (aG 1 mJ) (sC (cZ 2 (ag 0) (sC (t9 (ag 1) (sub (ag 2) (ah 1)) (aK a9 (bm Ct (ag 1) (aj (sub (ag 2) (ah 1)) (aj (ah 0) ao))) (sub (ag 2) (ah 2)))) sN)) (Eg 1 (sC (aV (bi uX (aj (n8 false (gt 3 (ag 1) fG (rj dp (sub (ag 1) (ag 3)) (ah 0)))) ao))) sN))))
def uT:CS:=(sC (aV (L4 (IQ (rj gU (ag 0) (ah 0)) (L3 (Dp rR rR (neg (zy "BOUND" (some 1000000000000000000000000000000,[]))) (ag 0) (zy "BOUND" (some 1000000000000000000000000000000,[]))))))) sN)
def vf:CS:=(sC (aP (meth (ag 0) 15 (aj (sub (ag 1) (ah 0)) ao))) (sC (aP (ax 5 (aj (sub (ag 1) (ah 1)) ao))) (sC (ce (fq (rQ (ax 12 (aj (sub (ag 1) (ah 2)) ao)))) (sC (bX 3 [110,111,32,97,109,111,117,110,116]) sN) sN) sN)))
def uP:CS:=(sC (ce (ki (bC (aJ Ac (bi bf (aj (ag 0) ao)) (ah 40)) (bC (fq (rQ (bi uX (aj (n8 false (gt 1 (ag 0) fG (Dp vb vb (aH [32]) (ag 1) (aH [126])))) ao)))) d3))) (sC (bX 5 [110,111,32,110,111,116,101]) sN) sN) sN)
def BD:CS:=(sC (aP (meth (ag 0) 4 (aj (ag 1) ao))) (sC (aP (ax 16 (aj (ag 2) ao))) (sC (ce (ki (bC (aJ rR (bi bf (aj (ag 3) ao)) (ah 2)) (bC (aJ Ac (bi bf (aj (ag 3) ao)) (ah 60)) d3))) (sC (bX 7 [116,111,111,32,102,101,119,32,111,114,32,116,111,111,32,109,97,110,121,32,108,105,110,101,115]) sN) sN) (sC (cZ 4 (ag 3) (sC (aP (meth (ag 0) 19 (aj (ag 4) ao))) sN)) (sC (ce (fq (rQ (ax 18 (aj (ag 3) ao)))) (sC (bX 7 [108,105,110,101,115,32,116,104,97,116,32,100,111,32,110,111,116,32,99,111,109,101,32,116,111,32,110,111,117,103,104,116]) sN) sN) (sC (aG 5 (bi iF (aj (n8 false (gt 6 (ag 3) fG (bx (aj (sub (ag 6) (ah 0)) (aj (sub (ag 6) (ah 1)) (aj (sub (ag 6) (ah 2)) ao)))))) ao))) (sC (aP (bm aT (b_ (ag 0) 6) (aj (bx (aj (aH Tz) (aj (ag 1) (aj (ag 2) (aj (ag 5) ao))))) ao))) (sC (aV (meth (ag 0) 7 (aj (ag 1) (aj (ag 2) (aj (ag 5) (aj (ah 0) ao)))))) sN))))))))
def zN:CS:=(sC (aV (aK bY (aK fT (aK fT (ag 0) (sub (ag 1) (ah 0))) (sub (ag 2) (ah 1))) (aK fT (sub (ag 1) (ah 1)) (sub (ag 2) (ah 0))))) sN)
abbrev sP:C1:=(ce (aJ dp (ag 4) (ag 7)) (sC (bX 2 [98,111,116,104,32,99,117,114,114,101,110,99,105,101,115,32,97,114,101,32,116,104,101,32,115,97,109,101]) sN) sN)
abbrev sO:C1:=(ce (ki (bC (aJ rR (ag 5) (ah 1)) (bC (fq (rQ (ax 12 (aj (ag 5) ao)))) d3))) (sC (bX 3 [110,111,32,97,109,111,117,110,116,32,116,111,32,99,111,110,118,101,114,116]) sN) sN)
abbrev sM:C1:=(aG 8 (ax 13 (aj (ag 5) (aj (meth (ag 0) 14 (aj (ag 4) (aj (ag 1) ao))) (aj (meth (ag 0) 14 (aj (ag 7) (aj (ag 1) ao))) ao)))))
abbrev rC:C1:=(ce (aJ dp (ag 8) (ah 0)) (sC (bX 14 [110,111,116,104,105,110,103,32,105,115,32,103,111,116]) sN) sN)
abbrev rB:C1:=(ce (fq (rQ (ax 12 (aj (ag 8) ao)))) (sC (bX 3 [116,111,111,32,109,117,99,104,32,105,115,32,103,111,116]) sN) sN)
abbrev rA:C1:=(aG 9 (bx (aj (bx (aj (ag 3) (aj (ag 4) (aj (neg (ag 5)) ao)))) (aj (bx (aj (aH Ty) (aj (ag 4) (aj (ag 5) ao)))) (aj (bx (aj (aH Ty) (aj (ag 7) (aj (neg (ag 8)) ao)))) (aj (bx (aj (ag 6) (aj (ag 7) (aj (ag 8) ao)))) ao))))))
abbrev rz:C1:=(aP (bm aT (b_ (ag 0) 6) (aj (bx (aj (aH TA) (aj (ag 1) (aj (ag 2) (aj (ag 3) (aj (ag 4) (aj (ag 5) (aj (ag 6) (aj (ag 7) ao))))))))) ao)))
abbrev rq:C1:=(aV (meth (ag 0) 7 (aj (ag 1) (aj (ag 2) (aj (ag 9) (aj (ah 0) ao))))))
def Af:CS:=(sC (aP (meth (ag 0) 4 (aj (ag 1) ao))) (sC (aP (ax 16 (aj (ag 2) ao))) (sC (aP (meth (ag 0) 15 (aj (ag 3) ao))) (sC (aP (meth (ag 0) 15 (aj (ag 6) ao))) (sC (aP (ax 5 (aj (ag 4) ao))) (sC (aP (ax 5 (aj (ag 7) ao))) (sC sP (sC sO (sC sM (sC rC (sC rB (sC rA (sC rz (sC rq sN))))))))))))))
def Gb:CS:=(sC (aP (meth (ag 0) 4 (aj (ag 1) ao))) (sC (aP (bm aT (b_ (ag 0) 5) (aj (ag 1) ao))) (sC (aP (bm aT (b_ (ag 0) 6) (aj (bx (aj (aH TI) (aj (ag 1) ao))) ao))) (sC (aV (bi bf (aj (b_ (ag 0) 5) ao))) sN))))
abbrev zM:C1:=(ce (aJ dp (sub (ag 1) (ah 0)) (aH TC)) (sC (aP (meth (ag 0) 37 (aj (sub (ag 1) (ah 1)) ao))) sN) (sC (ce (aJ dp (sub (ag 1) (ah 0)) (aH TD)) (sC (aP (meth (ag 0) 6 (aj (sub (ag 1) (ah 1)) (aj (sub (ag 1) (ah 2)) (aj (sub (ag 1) (ah 3)) (aj (sub (ag 1) (ah 4)) ao)))))) sN) (sC (ce (aJ dp (sub (ag 1) (ah 0)) (aH Tz)) (sC (aP (meth (ag 0) 20 (aj (sub (ag 1) (ah 1)) (aj (sub (ag 1) (ah 2)) (aj (sub (ag 1) (ah 3)) ao))))) sN) (sC (ce (aJ dp (sub (ag 1) (ah 0)) (aH TA)) (sC (aP (meth (ag 0) 17 (aj (sub (ag 1) (ah 1)) (aj (sub (ag 1) (ah 2)) (aj (sub (sub (ag 1) (ah 3)) (ah 0)) (aj (sub (sub (ag 1) (ah 3)) (ah 1)) (aj (sub (sub (ag 1) (ah 3)) (ah 2)) (aj (sub (ag 1) (ah 4)) (aj (sub (ag 1) (ah 5)) ao))))))))) sN) (sC (ce (aJ dp (sub (ag 1) (ah 0)) (aH TB)) (sC (aP (meth (ag 0) 9 (aj (sub (ag 1) (ah 1)) (aj (sub (ag 1) (ah 2)) ao)))) sN) (sC (aP (meth (ag 0) 11 (aj (sub (ag 1) (ah 1)) ao))) sN)) sN)) sN)) sN)) sN))
def Ib:CS:=(sC zM sN)
def II:CS:=(sC (aP (ax 5 (aj (ag 1) ao))) (sC (ko (ag 0) 0 (ag 1)) (sC (ko (ag 0) 1 (gO (aj (aH Ty) ao))) (sC (ko (ag 0) 2 mJ) (sC (ko (ag 0) 3 (gO ao)) (sC (ko (ag 0) 4 mJ) (sC (ko (ag 0) 5 (gO ao)) (sC (ko (ag 0) 6 (gO ao)) sN))))))))
abbrev iX:C1:=(ce (aJ dp (Ka (ag 0) EL (tL (ah 1))) (aH [45])) (sC (aG 1 (Ka (ag 0) (tL (ah 1)) EL)) sN) sN)
abbrev ov:C1:=(ce (ki (bC (aJ dp (ag 1) (aH [])) (bC (aJ Ac (bi bf (aj (ag 1) ao)) (ah 60)) (bC (fq (rQ (bi uX (aj (n8 false (gt 2 (ag 1) fG (rj Ab (ag 2) (zy "FIGURES" (none,TM))))) ao)))) d3)))) (sC (bX 16 [110,111,32,110,117,109,98,101,114]) sN) sN)
abbrev ou:C1:=(ce (pz (dw (aJ dp (sub (ag 1) (ah 0)) (aH [48])) (dw (aJ gU (ag 0) (aH [48])) km))) (sC (bX 16 [97,32,110,117,109,98,101,114,32,119,105,116,104,32,97,32,110,111,117,103,104,116,32,97,104,101,97,100]) sN) sN)
def uO:CS:=(sC (aG 1 (ag 0)) (sC iX (sC ov (sC ou (sC (aV (bi NE (aj (ag 0) ao))) sN)))))
abbrev qG:C1:=(ce (ki (bC (aJ gU (sub (ag 3) (ah 0)) (ag 1)) (bC (aJ gU (bi bf (aj (ag 3) ao)) (ag 2)) d3))) (sC (bX 16 [110,111,32,114,111,119]) sN) sN)
def xe:CS:=(sC (aG 3 (bm mK (ag 0) (aj (aH [32]) ao))) (sC qG (sC (aV (ag 3)) sN)))
abbrev sr:C1:=(ce (ki (bC (aJ dp (ag 0) (aH [])) (bC (fq (rQ (bi uX (aj (n8 false (gt 1 (ag 0) fG (Dp vb vb (aH [33]) (ag 1) (aH [126])))) ao)))) d3))) (sC (bX 16 [110,111,32,110,97,109,101]) sN) sN)
def zI:CS:=(sC sr (sC (aV (ag 0)) sN))
abbrev oC:C1:=(ce (aJ rR (bi bf (aj (ag 1) ao)) (ah 8)) (sC (bX 16 [110,111,32,99,111,110,118,101,114,115,105,111,110]) sN) sN)
abbrev oB:C1:=(aG 2 (bm iN (aH [32]) (aj (Az (ag 1) (tL (ah 7)) EL) ao)))
abbrev oA:C1:=(aG 3 (bx (aj (ax 93 (aj (sub (ag 1) (ah 2)) ao)) (aj (ax 93 (aj (sub (ag 1) (ah 3)) ao)) (aj (ax 91 (aj (sub (ag 1) (ah 4)) ao)) ao)))))
abbrev oz:C1:=(aV (bx (aj (aH TA) (aj (ax 91 (aj (sub (ag 1) (ah 1)) ao)) (aj (ag 2) (aj (ag 3) (aj (ax 93 (aj (sub (ag 1) (ah 5)) ao)) (aj (ax 93 (aj (sub (ag 1) (ah 6)) ao)) ao))))))))
def uV:CS:=(sC (aG 1 (bm mK (ag 0) (aj (aH [32]) ao))) (sC oC (sC oB (sC oA (sC oz sN)))))
abbrev su:C1:=(aG 1 (ax 92 (aj (ag 0) (aj (aH [108,105,110,101]) (aj (ah 4) ao)))))
abbrev ss:C1:=(aV (bx (aj (ax 93 (aj (sub (ag 1) (ah 1)) ao)) (aj (ax 93 (aj (sub (ag 1) (ah 2)) ao)) (aj (ax 91 (aj (sub (ag 1) (ah 3)) ao)) ao)))))
def zJ:CS:=(sC su (sC ss sN))
abbrev q7:C1:=(aG 2 (bm mK (sub (ag 0) (ag 1)) (aj (aH [32]) ao)))
abbrev qY:C1:=(ce (aJ rR (bi bf (aj (ag 2) ao)) (ah 4)) (sC (bX 16 [110,111,32,101,110,116,114,121]) sN) sN)
abbrev qT:C1:=(ce (ki (bC (aJ rR (ag 4) (ah 0)) (bC (aJ Ac (ag 4) (aK c_ (aK c_ (bi bf (aj (ag 0) ao)) (ag 1)) (ah 1))) d3))) (sC (bX 16 [116,111,111,32,102,101,119,32,108,105,110,101,115]) sN) sN)
abbrev qQ:C1:=(s0 false 5 6 (Az (ag 0) (tL (aK a9 (ag 1) (ah 1))) (tL (aK a9 (aK a9 (ag 1) (ah 1)) (ag 4)))) fG (ax 95 (aj (ag 6) ao)))
abbrev qP:C1:=(aV (bx (aj (aH Tz) (aj (ag 3) (aj (bm iN (aH [32]) (aj (Az (ag 2) (tL (ah 3)) EL) ao)) (aj (ag 5) ao))))))
def xk:CS:=(sC q7 (sC qY (sC (aG 3 (ax 91 (aj (sub (ag 2) (ah 1)) ao))) (sC (aG 4 (ax 91 (aj (sub (ag 2) (ah 2)) ao))) (sC qT (sC qQ (sC qP sN)))))))
abbrev sI:C1:=(aG 2 (sub (bm mK (sub (ag 0) (ag 1)) (aj (aH [32]) ao)) (ah 0)))
abbrev sH:C1:=(ce (aJ dp (ag 2) (aH Tz)) (sC (aV (ax 96 (aj (ag 0) (aj (ag 1) ao)))) sN) sN)
abbrev sG:C1:=(ce (aJ dp (ag 2) (aH TA)) (sC (aV (ax 94 (aj (sub (ag 0) (ag 1)) ao))) sN) sN)
abbrev sF:C1:=(ce (aJ dp (ag 2) (aH TC)) (sC (aV (bx (aj (aH TC) (aj (ax 93 (aj (sub (ax 92 (aj (sub (ag 0) (ag 1)) (aj (aH TC) (aj (ah 2) ao)))) (ah 1)) ao)) ao)))) sN) sN)
abbrev sE:C1:=(ce (aJ dp (ag 2) (aH TD)) (sC (aG 3 (ax 92 (aj (sub (ag 0) (ag 1)) (aj (aH TD) (aj (ah 5) ao))))) (sC (aV (bx (aj (aH TD) (aj (ax 93 (aj (sub (ag 3) (ah 1)) ao)) (aj (ax 91 (aj (sub (ag 3) (ah 2)) ao)) (aj (ax 91 (aj (sub (ag 3) (ah 3)) ao)) (aj (ax 91 (aj (sub (ag 3) (ah 4)) ao)) ao))))))) sN)) sN)
abbrev sB:C1:=(ce (aJ dp (ag 2) (aH TB)) (sC (aG 3 (ax 92 (aj (sub (ag 0) (ag 1)) (aj (aH TB) (aj (ah 3) ao))))) (sC (aV (bx (aj (aH TB) (aj (ax 91 (aj (sub (ag 3) (ah 1)) ao)) (aj (ax 91 (aj (sub (ag 3) (ah 2)) ao)) ao))))) sN)) sN)
abbrev sA:C1:=(aG 3 (ax 92 (aj (sub (ag 0) (ag 1)) (aj (aH TI) (aj (ah 2) ao)))))
abbrev sy:C1:=(aV (bx (aj (aH TI) (aj (ax 91 (aj (sub (ag 3) (ah 1)) ao)) ao))))
def q8:CS:=(sC sI (sC sH (sC sG (sC sF (sC sE (sC sB (sC sA (sC sy sN))))))))
abbrev jG:CS:=(sC (aG 3 (ax 97 (aj (ag 0) (aj (ag 2) ao)))) (sC (aP (bm aT (ag 1) (aj (ag 3) ao))) (sC (aG 2 (aK a9 (ag 2) (ah 1))) (sC (ce (aJ dp (sub (ag 3) (ah 0)) (aH Tz)) (sC (aG 2 (aK a9 (ag 2) (bi bf (aj (sub (ag 3) (ah 3)) ao)))) sN) sN) sN))))
def xm:CS:=(sC (aG 1 (gO ao)) (sC (aG 2 (ah 0)) (sC (Eb 100000 (aJ rR (ag 2) (bi bf (aj (ag 0) ao))) jG) (sC (aV (ag 1)) sN))))
abbrev qH:CS:=(sC (aP (ax 90 (aj (ag 4) (aj (ag 5) ao)))) sN)
abbrev zH:C1:=(ce (ki (bC (aJ gU (sub (ag 1) (aK c_ (bi bf (aj (ag 1) ao)) (ah 1))) (aH [])) (bC (aJ rR (bi bf (aj (ag 1) ao)) (ah 2)) d3))) (sC (bX 16 [110,111,32,108,97,115,116,32,108,105,110,101,32,101,110,100]) sN) sN)
abbrev zG:C1:=(aG 2 (ax 93 (aj (sub (ax 92 (aj (sub (ag 1) (ah 0)) (aj (aH [104,111,109,101]) (aj (ah 2) ao)))) (ah 1)) ao)))
abbrev zF:C1:=(aG 3 (ax 98 (aj (Az (ag 1) (tL (ah 1)) (tL (aK c_ (bi bf (aj (ag 1) ao)) (ah 1)))) ao)))
def H':CS:=(sC (aG 1 (bm mK (ag 0) (aj (aH [10]) ao))) (sC zH (sC zG (sC zF (sC (aG 4 (KR (aj (ag 2) ao))) (sC (cZ 5 (ag 3) qH) (sC (aV (ag 4)) sN)))))))
abbrev wq:C1:=(aG 3 (sub (key (ag 1) 2 Tr) (ah 0)))
abbrev wp:C1:=(aG 4 (sub (key (ag 1) 2 Tr) (ah 1)))
abbrev wn:C1:=(aG 5 (bi xp (aj (ah 99999) (aj (aK a9 (ax 70 (aj (ag 1) ao)) (ah 1)) ao))))
abbrev wm:C1:=(ce (aJ dp (ag 2) (ah 0)) (sC (aV (meth (ag 0) 37 (aj (sub (key (ag 1) 0 Tq) (neg (ah 1))) ao))) sN) sN)
abbrev wl:C1:=(ce (aJ dp (ag 2) (ah 1)) (sC (aV (meth (ag 0) 6 (aj (ag 3) (aj (ag 5) (aj (ah 1) (aj (ah 1) ao)))))) sN) sN)
abbrev wk:C1:=(ce (aJ dp (ag 2) (ah 2)) (sC (aV (meth (ag 0) 20 (aj (ag 5) (aj (aH TO) (aj (gV (aj (bx (aj (aH Ty) (aj (ag 3) (aj (ah 5) ao)))) (aj (bx (aj (aH Ty) (aj (ag 4) (aj (neg (ah 5)) ao)))) ao))) ao))))) sN) sN)
abbrev wj:C1:=(ce (aJ dp (ag 2) (ah 3)) (sC (aV (meth (ag 0) 17 (aj (ag 5) (aj (aH TO) (aj (aH Ty) (aj (ag 3) (aj (aK yD (ah 10) (ah 30)) (aj (aH Ty) (aj (ag 4) ao))))))))) sN) sN)
abbrev wi:C1:=(ce (aJ dp (ag 2) (ah 4)) (sC (aV (meth (ag 0) 9 (aj (aK a9 (bi bf (aj (key (ag 1) 3 Tt) ao)) (ah 1)) (aj (ag 5) ao)))) sN) sN)
abbrev wh:C1:=(aV (meth (ag 0) 11 (aj (ax 70 (aj (ag 1) ao)) ao)))
def wr:CS:=(sC wq (sC wp (sC wn (sC wm (sC wl (sC wk (sC wj (sC wi (sC wh sN)))))))))
abbrev lH:CS:=(sC (aG 3 (co false)) (sC (Ec (sC (aP (ax 161 (aj (ag 0) (aj (ag 1) (aj (ag 2) ao))))) sN) (hC 0 (sC (aG 3 (co true)) sN) hN)) (sC (ce (fq (rQ (ag 3))) (sC (aV (co false)) sN) sN) sN)))
def Cv:CS:=(sC (cZ 2 (bi jH (aj (ah 6) ao)) lH) (sC (aV (co true)) sN))
abbrev CJ:C1:=(ce (aJ dp (aK bA (ag 1) (ah 3)) (ah 0)) (sC (aV (aK a9 (aK a9 (ag 2) (ah 1)) (aK bA (aK bY (ag 1) (ah 3)) (aK c_ (ah 99999) (ag 2))))) sN) sN)
abbrev CD:C1:=(aV (bi xp (aj (ah 99999) (aj (aK a9 (aK a9 (ag 2) (ah 1)) (aK bA (aK bY (ag 1) (ah 3)) (ah 7))) ao))))
def K1:CS:=(sC (aG 2 (ax 70 (aj (ag 0) ao))) (sC CJ (sC CD sN)))
abbrev wx:C1:=(aP (bm aT (key (ag 1) 5 Tw) (aj (ag 3) ao)))
abbrev ww:C1:=(aP (bm aT (key (ag 1) 7 Tu) (aj (bx (aj (aH TI) (aj (ag 3) ao))) ao)))
abbrev wv:C1:=(aV (rj dp (meth (ag 0) 11 (aj (ag 3) ao)) (bi bf (aj (key (ag 1) 5 Tw) ao))))
def EU:CS:=(sC (aG 3 (ax 71 (aj (ag 1) (aj (ag 2) ao)))) (sC wx (sC ww (sC wv sN))))
abbrev Cy:C1:=(aG 5 (aK a9 (bi bf (aj (key (ag 0) 3 Tt) ao)) (ah 1)))
abbrev Cw:C1:=(aP (bm aT (key (ag 0) 3 Tt) (aj (bx (aj (ag 5) (aj (ag 1) (aj (ag 2) (aj (bi iF (aj (ag 3) ao)) (aj (ag 4) ao)))))) ao)))
def K0:CS:=(sC Cy (sC Cw (sC (aV (ag 5)) sN)))
abbrev qq:C1:=(aG 4 (aK a9 (ah 1) (aK bA (ag 3) (bi tn (aj (ah 1) (aj (bi bf (aj (key (ag 1) 3 Tt) ao)) ao))))))
abbrev qp:C1:=(ce (ki (bC (aJ dp (key (ag 1) 3 Tt) (gV ao)) (bC (aJ JI (ag 4) (key (ag 1) 6 TJ)) (bC (aJ gU (sub (sub (key (ag 1) 3 Tt) (aK c_ (ag 4) (ah 1))) (ah 4)) (ah 0)) d3)))) (sC (aV (co true)) sN) sN)
abbrev qo:C1:=(aG 5 (sub (key (ag 1) 3 Tt) (aK c_ (ag 4) (ah 1))))
abbrev jv:C1:=(s0 false 7 9 (sub (ag 5) (ah 3)) fG (bx (aj (sub (ag 9) (ah 0)) (aj (sub (ag 9) (ah 1)) (aj (aK c_ (ah 0) (sub (ag 9) (ah 2))) ao)))))
abbrev qn:C1:=(aG 8 (ax 73 (aj (ag 1) (aj (ag 6) (aj (sub (ag 5) (ah 2)) (aj (ag 7) (aj (ag 4) ao)))))))
abbrev qm:C1:=(aP (bm aT (key (ag 1) 6 TJ) (aj (ag 4) ao)))
abbrev ql:C1:=(aP (bm aT (key (ag 1) 7 Tu) (aj (bx (aj (aH TB) (aj (ag 4) (aj (ag 6) ao)))) ao)))
abbrev qk:C1:=(aV (rj dp (meth (ag 0) 9 (aj (ag 4) (aj (ag 6) ao))) (ag 8)))
def wE:CS:=(sC qq (sC qp (sC qo (sC (aG 6 (ax 71 (aj (ag 1) (aj (ag 2) ao)))) (sC jv (sC qn (sC qm (sC ql (sC qk sN)))))))))
abbrev qj:CS:=(sC (aG 2 (aK a9 (ag 2) (sub (ag 1) (aK bA (aK a9 (aK bY (ag 0) (ah 41)) (aK fT (aK bY (ag 0) (ah 3854)) (ag 3))) (ah 94))))) sN)
abbrev yZ:C1:=(aG 1 (aH TP))
abbrev yY:C1:=(aG 1 (aK a9 (ag 1) (aH TQ)))
abbrev yX:C1:=(aG 1 (aK a9 (ag 1) (aH TS)))
abbrev yW:C1:=(cZ 3 (bi jH (aj (aK bA (ag 0) (ah 41)) ao)) qj)
def HG:CS:=(sC yZ (sC yY (sC yX (sC (aG 2 (aH [])) (sC yW (sC (aV (ag 2)) sN))))))
abbrev uy:C1:=(aV (aK a9 (ah 1) (aK bA (aK bY (ag 0) (ah 4)) (C0 (aJ dp (aK bA (ag 0) (ah 4)) (ah 0)) (aK fT (ah 4) (aK yD (ah 10) (ah 29))) (ah 500)))))
def CM:CS:=(sC uy sN)
abbrev sf:C1:=(aG 5 (bi bf (aj (key (ag 1) 2 Tr) ao)))
abbrev sd:C1:=(aG 6 (sub (key (ag 1) 2 Tr) (aK bA (ag 3) (ag 5))))
abbrev sb:C1:=(aG 7 (sub (key (ag 1) 2 Tr) (aK bA (aK a9 (aK a9 (ag 3) (ah 1)) (aK bA (aK bY (ag 3) (ag 5)) (aK c_ (ag 5) (ah 1)))) (ag 5))))
abbrev sa:C1:=(aG 8 (sub (key (ag 1) 0 Tq) (aK bA (aK bY (ag 3) (ah 6)) (bi bf (aj (key (ag 1) 0 Tq) ao)))))
abbrev r_:C1:=(aG 9 (sub (key (ag 1) 0 Tq) (aK bA (aK bY (ag 3) (ah 7)) (bi bf (aj (key (ag 1) 0 Tq) ao)))))
abbrev r9:C1:=(aG 11 (gV (aj (ax 75 (aj (ag 1) (aj (ag 6) (aj (ag 4) ao)))) (aj (ax 75 (aj (ag 1) (aj (ag 7) (aj (ag 4) ao)))) ao))))
abbrev kt:C1:=(ce (ki (bC (aJ IG (sub (ag 11) (ah 0)) gp) (bC (aJ IG (sub (ag 11) (ah 1)) gp) d3))) (sC (aV (co true)) sN) sN)
abbrev ju:C1:=(aG 12 (aK fT (aK fT (ag 10) (sub (sub (ag 11) (ah 0)) (ah 0))) (sub (sub (ag 11) (ah 1)) (ah 1))))
abbrev jt:C1:=(aG 12 (aK bY (ag 12) (aK fT (sub (sub (ag 11) (ah 0)) (ah 1)) (sub (sub (ag 11) (ah 1)) (ah 0)))))
abbrev gb:C1:=(ce (ki (bC (aJ dp (ag 12) (ah 0)) (bC (aJ NO (ag 12) (aK yD (ah 10) (ah 30))) d3))) (sC (aV (co true)) sN) sN)
abbrev f_:C1:=(aG 13 (gV (aj (bx (aj (ag 8) (aj (ag 6) (aj (aK c_ (ah 0) (ag 10)) ao)))) (aj (bx (aj (aH Ty) (aj (ag 6) (aj (ag 10) ao)))) ao))))
abbrev fZ:C1:=(aG 13 (aK a9 (ag 13) (gV (aj (bx (aj (aH Ty) (aj (ag 7) (aj (aK c_ (ah 0) (ag 12)) ao)))) (aj (bx (aj (ag 9) (aj (ag 7) (aj (ag 12) ao)))) ao)))))
abbrev fY:C1:=(aG 15 (ax 73 (aj (ag 1) (aj (ag 4) (aj (ag 14) (aj (ag 13) (aj (ah 0) ao)))))))
abbrev fX:C1:=(aP (bm aT (key (ag 1) 7 Tu) (aj (bx (aj (aH TA) (aj (ag 4) (aj (ag 8) (aj (ag 6) (aj (ag 10) (aj (ag 9) (aj (ag 7) (aj (ag 14) ao))))))))) ao)))
abbrev fW:C1:=(aV (rj dp (meth (ag 0) 17 (aj (ag 4) (aj (ag 14) (aj (ag 8) (aj (ag 6) (aj (ag 10) (aj (ag 9) (aj (ag 7) ao)))))))) (ag 15)))
def iz:CS:=(sC (aG 4 (ax 71 (aj (ag 1) (aj (ag 2) ao)))) (sC sf (sC sd (sC sb (sC sa (sC r_ (sC (aG 10 (ax 76 (aj (aK bY (ag 2) (ah 5)) ao))) (sC r9 (sC kt (sC ju (sC jt (sC gb (sC f_ (sC fZ (sC (aG 14 (ax 56 (aj (aK bY (ag 3) (ah 2)) ao))) (sC fY (sC fX (sC fW sN))))))))))))))))))
abbrev yL:C1:=(aG 5 (sub (key (ag 1) 2 Tr) (aK a9 (ah 1) (aK bA (ag 3) (aK c_ (bi bf (aj (key (ag 1) 2 Tr) ao)) (ah 1))))))
abbrev yK:C1:=(aG 6 (bx (aj (ag 5) (aj (ag 4) (aj (aK a9 (ah 1) (aK bA (aK bY (ag 3) (ah 2)) (aK yD (ah 10) (ah 9)))) (aj (aK a9 (ah 1) (aK bA (aK bY (ag 2) (ah 7)) (aK yD (ah 10) (ah 9)))) ao))))))
abbrev pV:C1:=(ce (aJ Ac (aK bA (aK bY (ag 3) (ah 3)) (ah 3)) (ah 0)) (sC (aG 6 (bx (aj (sub (ag 6) (ah 0)) (aj (ag 4) (aj (aK a9 (ah 1) (aK bA (aK bY (ag 3) (ah 2)) (ah 40))) (aj (aK a9 (ah 1) (aK bA (aK bY (ag 2) (ah 7)) (ah 40))) ao)))))) sN) sN)
abbrev yJ:C1:=(aP (bm aT (key (ag 1) 4 [116,111,108,100]) (aj (ag 6) ao)))
abbrev yI:C1:=(aP (bm aT (key (ag 1) 7 Tu) (aj (bx (aj (aH TD) (aj (sub (ag 6) (ah 0)) (aj (ag 4) (aj (sub (ag 6) (ah 2)) (aj (sub (ag 6) (ah 3)) ao)))))) ao)))
abbrev yH:C1:=(aV (rj IG (meth (ag 0) 6 (aj (sub (ag 6) (ah 0)) (aj (ag 4) (aj (sub (ag 6) (ah 2)) (aj (sub (ag 6) (ah 3)) ao))))) gp))
def HC:CS:=(sC (aG 4 (ax 71 (aj (ag 1) (aj (ag 2) ao)))) (sC yL (sC yK (sC pV (sC yJ (sC yI (sC yH sN)))))))
def HH:CS:=(sC (aG 1 (aH TU)) (sC (aG 2 (sub (ag 1) (aK bA (ag 0) (ah 26)))) (sC (aG 3 (aK bY (ag 0) (ah 26))) (sC (cZ 4 (bi jH (aj (aK bA (ag 3) (ah 12)) ao)) (sC (aG 2 (aK a9 (ag 2) (sub (ag 1) (aK bA (aK a9 (aK bY (ag 3) (ah 12)) (aK fT (aK bY (ag 3) (ah 432)) (ag 4))) (ah 36))))) sN)) (sC (aV (ag 2)) sN)))))
abbrev wH:C1:=(ce (ki (bC (aJ JI (ag 3) (key (ag 1) 0 Tq)) (bC (aJ Ac (bi bf (aj (key (ag 1) 0 Tq) ao)) (ah 6)) d3))) (sC (aV (co true)) sN) sN)
abbrev wG:C1:=(aP (bm aT (key (ag 1) 0 Tq) (aj (ag 3) ao)))
abbrev wF:C1:=(aP (bm aT (key (ag 1) 7 Tu) (aj (bx (aj (aH TC) (aj (ag 3) ao))) ao)))
def EX:CS:=(sC (aG 3 (ax 43 (aj (ag 2) ao))) (sC wH (sC wG (sC wF (sC (aV (rj IG (meth (ag 0) 37 (aj (ag 3) ao)) gp)) sN)))))
abbrev js:CS:=(sC (aG 7 (aK a9 (aK bY (ag 2) (ah 3)) (aK fT (ah 5) (ag 6)))) (sC (aG 8 (sub (key (ag 0) 2 Tr) (aK bA (ag 7) (bi bf (aj (key (ag 0) 2 Tr) ao))))) (sC (aG 9 (ax 76 (aj (aK a9 (ag 1) (aK fT (ah 77) (ag 6))) ao))) (sC (aG 10 (aK fT (ax 76 (aj (aK a9 (aK bY (ag 1) (ah 3)) (ag 6)) ao)) (aK c_ (aK bA (aK bY (ag 7) (ah 3)) (ah 3)) (ah 1)))) (sC (aP (bm aT (ag 4) (aj (bx (aj (sub (ag 3) (aK bA (aK bY (ag 7) (ah 9)) (bi bf (aj (ag 3) ao)))) (aj (ag 8) (aj (ag 9) ao)))) ao))) (sC (aP (bm aT (ag 4) (aj (bx (aj (sub (ag 3) (aK bA (aK bY (ag 7) (ah 5)) (bi bf (aj (ag 3) ao)))) (aj (ag 8) (aj (aK c_ (aK c_ (ah 0) (ag 9)) (ag 10)) ao)))) ao))) (sC (aP (bm aT (ag 4) (aj (bx (aj (sub (ag 3) (aK bA (aK bY (ag 7) (ah 7)) (bi bf (aj (ag 3) ao)))) (aj (ag 8) (aj (ag 10) ao)))) ao))) sN)))))))
abbrev wB:C1:=(aG 5 (C0 (aJ dp (aK bA (ag 2) (ah 16)) (ah 7)) (aK a9 (ah 1) (aK bA (aK bY (ag 2) (ah 16)) (ah 20))) (aK a9 (ah 1) (aK bA (ag 2) (ah 3)))))
abbrev wA:C1:=(aV (n8 false (gt 11 (ag 4) (lA (aJ gU (sub (ag 11) (ah 2)) (ah 0))) (ag 11))))
def EV:CS:=(sC (aG 3 (key (ag 0) 0 Tq)) (sC (aG 4 (gO ao)) (sC wB (sC (cZ 6 (bi jH (aj (ag 5) ao)) js) (sC wA sN)))))
abbrev yV:C1:=(aG 6 (ax 80 (aj (ag 1) (aj (aK bY (ag 2) (ah 5)) (aj (ag 3) ao)))))
abbrev yU:C1:=(aG 7 (ax 73 (aj (ag 1) (aj (ag 4) (aj (ag 5) (aj (ag 6) (aj (ah 0) ao)))))))
abbrev yT:C1:=(aP (bm aT (key (ag 1) 7 Tu) (aj (bx (aj (aH Tz) (aj (ag 4) (aj (ag 5) (aj (bi iF (aj (ag 6) ao)) ao))))) ao)))
abbrev yS:C1:=(aV (rj dp (meth (ag 0) 20 (aj (ag 4) (aj (ag 5) (aj (ag 6) ao)))) (ag 7)))
def HF:CS:=(sC (aG 4 (ax 71 (aj (ag 1) (aj (ag 2) ao)))) (sC (aG 5 (ax 56 (aj (ag 3) ao))) (sC yV (sC yU (sC yT (sC yS sN))))))
abbrev p_:C1:=(ce (ki (bC (aJ NO (ax 70 (aj (ag 1) ao)) (ah 99999)) (bC (aJ Ac (bi bf (aj (key (ag 1) 3 Tt) ao)) (key (ag 1) 8 [109,111,115,116])) d3))) (sC (aV (co true)) sN) sN)
abbrev pZ:C1:=(ce (aJ rR (aK bA (ag 2) (ah 8)) (ah 3)) (sC (aV (ax 81 (aj (ag 0) (aj (ag 1) (aj (ag 3) (aj (ag 4) ao)))))) sN) sN)
abbrev pY:C1:=(ce (pz (dw (aJ dp (aK bA (ag 2) (ah 8)) (ah 3)) (dw (aJ dp (aK bA (aK bY (ag 2) (ah 8)) (ah 3)) (ah 0)) km))) (sC (aV (ax 79 (aj (ag 0) (aj (ag 1) (aj (ag 3) ao))))) sN) sN)
abbrev pX:C1:=(ce (aJ dp (aK bA (ag 2) (ah 8)) (ah 3)) (sC (aV (ax 78 (aj (ag 0) (aj (ag 1) (aj (ag 3) (aj (ag 4) ao)))))) sN) sN)
abbrev pW:C1:=(ce (aJ rR (aK bA (ag 2) (ah 8)) (ah 6)) (sC (aV (ax 77 (aj (ag 0) (aj (ag 1) (aj (ag 3) (aj (ag 4) ao)))))) sN) sN)
abbrev yO:C1:=(ce (aJ dp (aK bA (ag 2) (ah 8)) (ah 6)) (sC (aV (ax 74 (aj (ag 0) (aj (ag 1) (aj (ag 3) (aj (ag 4) ao)))))) sN) sN)
abbrev yM:C1:=(aV (ax 72 (aj (ag 0) (aj (ag 1) (aj (ag 3) ao)))))
def uq:CS:=(sC p_ (sC pZ (sC pY (sC pX (sC pW (sC yO (sC yM sN)))))))
abbrev nG:CS:=(sC (ce (fq (rQ (ax 82 (aj (ag 0) (aj (ag 1) (aj (sub (ag 2) (ag 5)) (aj (sub (ag 2) (aK a9 (ag 5) (ah 1))) (aj (sub (ag 2) (aK a9 (ag 5) (ah 2))) ao)))))))) (sC (aV (co false)) sN) sN) sN)
abbrev wC:C1:=(cZ 5 (bi Bl (aj (ag 3) (aj (bi xp (aj (aK c_ (bi bf (aj (ag 2) ao)) (ah 2)) (aj (ag 4) ao))) (aj (ah 3) ao)))) nG)
def EW:CS:=(sC wC (sC (aV (co true)) sN))
abbrev nf:C1:=(aV (meth (ag 0) 26 (aj (ag 1) (aj (ag 2) (aj (ag 3) ao)))))
def sQ:CS:=(sC (aP (meth (ag 0) 15 (aj (ag 1) ao))) (sC (aP (ax 5 (aj (ag 2) ao))) (sC (aP (ax 3 (aj (ag 3) ao))) (sC nf sN))))
abbrev uW:C1:=(s0 false 3 4 (b_ (ag 0) 3) (lA (vJ yc yc (ag 1) (sub (ag 4) (ah 1)) (ag 2))) (ag 4))
def Da:CS:=(sC uW (sC (Mx (ag 3)) sN))
abbrev ow:C1:=(ce (aJ rR (ag 1) (ag 0)) (sC (bX 4 [116,104,101,32,108,97,115,116,32,100,97,121,32,105,115,32,98,101,108,111,119,32,116,104,101,32,102,105,114,115,116,32,111,110,101]) sN) sN)
def uQ:CS:=(sC (aP (ax 3 (aj (ag 0) ao))) (sC (aP (ax 3 (aj (ag 1) ao))) (sC ow sN)))
abbrev fx:CS:=(sC (ce (pz (dw (aJ dp (sub (ag 9) (ah 0)) (ag 1)) (dw (aJ dp (sub (ag 9) (ah 1)) (ag 2)) km))) (sC (aG 6 (aK a9 (ag 6) (sub (ag 9) (ah 2)))) (sC (aP (bm aT (ag 7) (aj (bx (aj (sub (ag 8) (ah 1)) (aj (sub (ag 8) (ah 0)) (aj (sub (ag 9) (ah 2)) (aj (ag 6) ao))))) ao))) sN)) sN) sN)
abbrev oq:CS:=(sC (cZ 9 (sub (ag 8) (ah 3)) fx) sN)
abbrev on:C1:=(aG 5 (meth (ag 0) 26 (aj (ag 1) (aj (ag 2) (aj (aK c_ (ag 3) (ah 1)) ao)))))
abbrev om:C1:=(cZ 8 (ax 126 (aj (ag 0) (aj (ag 3) (aj (ag 4) ao)))) oq)
def uL:CS:=(sC (aP (meth (ag 0) 15 (aj (ag 1) ao))) (sC (aP (ax 5 (aj (ag 2) ao))) (sC (aP (ax 163 (aj (ag 3) (aj (ag 4) ao)))) (sC on (sC (aG 6 (ag 5)) (sC (aG 7 (gO ao)) (sC om (Eg 7 (sC (aV (bx (aj (ag 5) (aj (ag 7) (aj (ag 6) ao))))) sN)))))))))
abbrev dc:CS:=(sC (aG 2 (aK bA (ag 0) (ag 1))) (sC (aG 0 (ag 1)) (sC (aG 1 (ag 2)) sN)))
def C':CS:=(sC (Eb 100000 (aJ gU (ag 1) (ah 0)) dc) (sC (aV (ag 0)) sN))
abbrev uS:C1:=(aG 2 (ax 131 (aj (bi QT (aj (ag 0) ao)) (aj (ag 1) ao))))
abbrev uR:C1:=(aV (bx (aj (aK bY (ag 0) (ag 2)) (aj (aK bY (ag 1) (ag 2)) ao))))
def C_:CS:=(sC uS (sC uR sN))
abbrev jB:CS:=(sC (Jd (ag 2) (bx (aj (sub (ag 4) (ah 0)) (aj (sub (ag 4) (ah 1)) ao))) (co true)) sN)
abbrev jA:CS:=(sC (cZ 4 (sub (ag 3) (ah 3)) jB) sN)
abbrev qI:C1:=(cZ 3 (ax 126 (aj (ag 0) (aj (ah 0) (aj (ag 1) ao)))) jA)
def xg:CS:=(sC (aG 2 mJ) (sC qI (sC (aV (bi Ii (aj (ag 2) ao))) sN)))
abbrev nJ:CS:=(sC (aG 4 (meth (ag 0) 26 (aj (sub (ag 3) (ah 0)) (aj (sub (ag 3) (ah 1)) (aj (ag 1) ao))))) (sC (ce (aJ gU (ag 4) (ah 0)) (sC (aP (bm aT (ag 2) (aj (bx (aj (sub (ag 3) (ah 0)) (aj (sub (ag 3) (ah 1)) (aj (ag 4) ao)))) ao))) sN) sN) sN))
abbrev xf:C1:=(cZ 3 (ax 127 (aj (ag 0) (aj (ag 1) ao))) nJ)
def FB:CS:=(sC (aP (ax 3 (aj (ag 1) ao))) (sC (aG 2 (gO ao)) (sC xf (sC (aV (ag 2)) sN))))
abbrev jz:CS:=(sC (ce (aJ dp (sub (ag 5) (ah 0)) (ag 1)) (sC (aG 6 (meth (ag 0) 14 (aj (sub (ag 5) (ah 1)) (aj (ag 2) ao)))) (sC (aG 3 (aK a9 (aK fT (ag 3) (sub (ag 6) (ah 1))) (aK fT (aK fT (sub (ag 5) (ah 2)) (sub (ag 6) (ah 0))) (ag 4)))) (sC (aG 4 (aK fT (ag 4) (sub (ag 6) (ah 1)))) sN))) sN) sN)
abbrev xb:C1:=(cZ 5 (ax 128 (aj (ag 0) (aj (ag 2) ao))) jz)
def xd:CS:=(sC (aP (meth (ag 0) 15 (aj (ag 1) ao))) (sC (aP (ax 3 (aj (ag 2) ao))) (sC (aG 3 (ah 0)) (sC (aG 4 (ah 1)) (sC xb (sC (aV (ax 132 (aj (ag 3) (aj (ag 4) ao)))) sN))))))
abbrev mL:C1:=(Ec (sC (aV (ax 133 (aj (ag 0) (aj (ag 1) (aj (ag 2) ao))))) sN) (hC 13 (sC (aV gp) sN) hN))
def rZ:CS:=(sC mL sN)
abbrev jC:CS:=(sC (ce (pz (dw (aJ dp (bx (aj (sub (ag 7) (ah 0)) (aj (sub (ag 7) (ah 1)) ao))) (ag 1)) (dw (aJ Ac (sub (ag 7) (ah 2)) (ah 0)) km))) (sC (aG 4 (aK a9 (ag 4) (sub (ag 7) (ah 2)))) sN) sN) (sC (ce (pz (dw (aJ dp (bx (aj (sub (ag 7) (ah 0)) (aj (sub (ag 7) (ah 1)) ao))) (ag 1)) (dw (aJ rR (sub (ag 7) (ah 2)) (ah 0)) km))) (sC (aG 5 (aK c_ (ag 5) (sub (ag 7) (ah 2)))) sN) sN) sN))
abbrev xj:CS:=(sC (cZ 7 (sub (ag 6) (ah 3)) jC) sN)
abbrev xi:C1:=(cZ 6 (ax 126 (aj (ag 0) (aj (ag 2) (aj (ag 3) ao)))) xj)
def FC:CS:=(sC (aG 4 (ah 0)) (sC (aG 5 (ah 0)) (sC xi (sC (aV (bx (aj (ag 4) (aj (ag 5) ao)))) sN))))
abbrev lT:CS:=(sC (aG 6 (meth (ag 0) 26 (aj (sub (ag 5) (ah 0)) (aj (sub (ag 5) (ah 1)) (aj (aK c_ (ag 3) (ah 1)) ao))))) (sC (aG 7 (ax 146 (aj (ag 0) (aj (ag 5) (aj (ag 3) (aj (ag 2) ao)))))) (sC (aP (bm aT (ag 4) (aj (bx (aj (sub (ag 5) (ah 0)) (aj (sub (ag 5) (ah 1)) (aj (ag 6) (aj (sub (ag 7) (ah 0)) (aj (sub (ag 7) (ah 1)) (aj (aK c_ (aK a9 (ag 6) (sub (ag 7) (ah 0))) (sub (ag 7) (ah 1))) ao))))))) ao))) sN)))
abbrev uN:C1:=(ce (ki (bC (aJ rR (ag 1) (ah 1)) (bC (aJ Ac (ag 1) (meth (ag 0) 22 ao)) d3))) (sC (bX 15 [110,111,32,115,117,99,104,32,112,101,114,105,111,100]) sN) sN)
abbrev lR:C1:=(ce (aJ Ac (ag 1) (ah 1)) (sC (aG 3 (aK a9 (sub (b_ (ag 0) 5) (aK c_ (ag 1) (ah 2))) (ah 1))) sN) sN)
abbrev uM:C1:=(cZ 5 (ax 127 (aj (ag 0) (aj (ag 2) ao))) lT)
def C9:CS:=(sC uN (sC (aG 2 (sub (b_ (ag 0) 5) (aK c_ (ag 1) (ah 1)))) (sC (aG 3 (ah 0)) (sC lR (sC (aG 4 (gO ao)) (sC uM (Eg 4 (sC (aV (bx (aj (ag 3) (aj (ag 2) (aj (ag 4) ao))))) sN))))))))
abbrev sv:C1:=(aV (ax 126 (aj (ag 0) (aj (ag 1) (aj (ag 2) ao)))))
def zK:CS:=(sC (aP (ax 163 (aj (ag 1) (aj (ag 2) ao)))) (sC sv sN))
abbrev nE:CS:=(sC (aP (bm aT (ag 5) (aj (ax 164 (aj (ag 0) (aj (aH Ty) (aj (ag 7) (aj (ah 0) (aj (ag 6) ao)))))) ao))) (sC (aP (bm aT (ag 5) (aj (meth (ag 0) 61 (aj (sub (key (ag 1) 0 Tq) (neg (ah 1))) (aj (ag 7) (aj (ag 6) ao)))) ao))) sN))
abbrev nD:CS:=(sC (aP (bm aT (ag 5) (aj (ax 128 (aj (ag 0) (aj (ag 6) ao))) ao))) (sC (aP (bm aT (ag 5) (aj (ax 165 (aj (ag 0) (aj (sub (key (ag 1) 0 Tq) (aK bA (ag 2) (bi bf (aj (key (ag 1) 0 Tq) ao)))) (aj (ag 6) ao)))) ao))) (sC (cZ 7 (Az (key (ag 1) 2 Tr) EL (tL (ah 3))) nE) sN)))
abbrev wt:C1:=(aG 4 (gV (aj (aK bA (ag 2) (ah 100000)) (aj (bi tn (aj (ah 0) (aj (ag 3) ao))) (aj (aK bA (ag 2) (aK a9 (bi tn (aj (ah 0) (aj (ag 3) ao))) (ah 1))) ao)))))
abbrev nC:C1:=(aG 5 (n8 true (KX (Az (n8 false (gt 8 (bi jH (aj (bi bf (aj (key (ag 1) 5 Tw) ao)) ao)) fG (ax 147 (aj (ag 0) (aj (aK a9 (ag 8) (ah 1)) ao))))) (tL (neg (ah 4))) EL) (gV (aj (ax 166 (aj (ag 0) (aj (ah 0) (aj (sub (ag 4) (ah 0)) ao)))) ao)))))
def ES:CS:=(sC (aG 3 (ax 70 (aj (ag 1) ao))) (sC wt (sC nC (sC (cZ 6 (ag 4) nD) (sC (aV (ag 5)) sN)))))
def HI:CS:=(sC (ce (aJ rR (ag 1) (bi bf (aj (ag 0) ao))) (sC (aV (sub (ag 0) (ag 1))) sN) sN) (sC (aV (ah 0)) sN))
abbrev kJ:CS:=(sC (aP (meth (ag 1) 37 (aj (ag 2) ao))) sN)
abbrev y_:C1:=(aG 1 (KR (aj (sub (key (ag 0) 2 Tr) (ah 0)) ao)))
abbrev y0:C1:=(cZ 2 (Az (key (ag 0) 0 Tq) (tL (ah 1)) EL) kJ)
def HJ:CS:=(sC y_ (sC y0 (sC (aV (ag 1)) sN)))
def HA:CS:=(sC (aG 3 (aK bA (ag 1) (bi bf (aj (ag 0) ao)))) (sC (aV (aK a9 (aK a9 (Az (ag 0) EL (tL (ag 3))) (sub (ag 2) (aK bA (aK bY (ag 1) (ah 13)) (ah 26)))) (Az (ag 0) (tL (aK a9 (ag 3) (ah 1))) EL))) sN))
def wD:CS:=(sC (aG 1 (aH TG)) (sC (aG 2 (sub (ag 1) (aK bA (ag 0) (ah 26)))) (sC (aG 2 (aK a9 (ag 2) (sub (ag 1) (aK bA (aK bY (ag 0) (ah 26)) (ah 26))))) (sC (aV (aK a9 (ag 2) (sub (ag 1) (aK bA (aK bY (ag 0) (ah 676)) (ah 26))))) sN))))
abbrev fb:CS:=(sC (ce (pz (dw (aJ kP (ag 4) (ag 1)) (dw (aJ rR (bi bf (aj (ag 1) ao)) (ag 3)) km))) (sC (aP (bm aT (ag 1) (aj (ag 4) ao))) sN) sN) sN)
abbrev mP:C1:=(aG 2 (gO (aj (ax 41 (aj (sub (ag 0) (ah 0)) ao)) (aj (ax 41 (aj (sub (ag 0) (ah 1)) ao)) (aj (aH [69,85,82]) (aj (aH [74,80,89]) (aj (aH [85,83,68]) ao)))))))
abbrev mO:C1:=(aG 2 (n8 true (KX (ag 2) (gV (aj (aH [75,87,68]) (aj (aH [67,72,70]) (aj (aH [71,66,80]) (aj (aH [83,69,75]) (aj (aH [69,85,83]) ao)))))))))
abbrev hJ:C1:=(aG 3 (C0 (aJ dp (aK bA (aK bY (sub (ag 0) (ah 0)) (ah 3)) (ah 8)) (ah 3)) (ah 8) (ah 4)))
abbrev hH:C1:=(ce (aJ dp (aK bA (sub (ag 0) (ah 1)) (ah 2)) (ah 1)) (sC (t9 (ag 2) (ah 1) (ax 40 (aj (sub (ag 2) (ah 0)) (aj (aK bY (sub (ag 0) (ah 1)) (ah 2)) (aj (aH TG) ao))))) sN) sN)
def r8:CS:=(sC (aG 1 (gO ao)) (sC mP (sC mO (sC hJ (sC hH (sC (cZ 4 (ag 2) fb) (sC (aV (ag 1)) sN)))))))
abbrev lJ:CS:=(sC (ce (aJ kP (ag 3) (ag 2)) (sC (aP (bm aT (ag 2) (aj (ag 3) ao))) sN) sN) sN)
abbrev uw:C1:=(aG 1 (gO (aj (ax 43 (aj (sub (ag 0) (ah 0)) ao)) (aj (ax 43 (aj (sub (ag 0) (ah 1)) ao)) (aj (aH [97]) (aj (aH [122,57]) ao))))))
abbrev lI:C1:=(ce (aJ dp (aK bA (sub (ag 0) (ah 1)) (ah 2)) (ah 1)) (sC (t9 (ag 1) (ah 1) (ax 40 (aj (sub (ag 1) (ah 0)) (aj (aK bY (sub (ag 0) (ah 1)) (ah 2)) (aj (aH TL) ao))))) sN) sN)
abbrev uv:C1:=(aG 2 (gO (aj (aH Ty) ao)))
def CB:CS:=(sC uw (sC lI (sC uv (sC (cZ 3 (ag 1) lJ) (sC (aV (ag 2)) sN)))))
abbrev uu:CS:=(sC (My wP (ag 1) (ag 2) (gO ao)) sN)
abbrev ut:C1:=(aG 1 (EN Tq (ax 87 (aj (gV (aj (ax 33 (aj (ag 0) (aj (ah 0) ao))) (aj (ax 33 (aj (ag 0) (aj (ah 1) ao))) ao))) ao))))
abbrev ur:C1:=(cZ 2 (gV (aj (aH Tt) (aj (aH [116,111,108,100]) (aj (aH Tw) (aj (aH TJ) (aj (aH Tu) ao)))))) uu)
def Cz:CS:=(sC ut (sC (Kd wP 1 (ag 1) (aH [102,105,114,115,116]) (bi bf (aj (key (ag 1) 0 Tq) ao))) (sC (Kd wP 2 (ag 1) (aH Tr) (ax 42 (aj (gV (aj (ax 33 (aj (ag 0) (aj (ah 2) ao))) (aj (ax 33 (aj (ag 0) (aj (ah 3) ao))) ao))) ao))) (sC ur (sC (Kd wP 8 (ag 1) (aH [109,111,115,116]) (ah 6)) (sC (aV (ag 1)) sN))))))
abbrev qO:C1:=(aG 3 (aK a9 (ah 7) (aK fT (ah 3) (aK bA (ax 33 (aj (ag 0) (aj (ah 6) ao))) (aK a9 (ah 1) (aK bY (bi bf (aj (ag 0) ao)) (ah 3)))))))
abbrev qM:C1:=(ce (ki (bC (fq (rQ (ax 83 (aj (ag 2) (aj (ag 1) (aj (ag 0) (aj (ah 7) (aj (ag 3) ao)))))))) (bC (fq (rQ (ax 162 (aj (ag 2) (aj (ag 1) ao))))) d3))) (sC (aV (co false)) sN) sN)
abbrev qL:C1:=(ce (ki (bC (fq (rQ (Sb JX (ag 5)))) (bC (aJ gU (ag 5) (ag 4)) d3))) (sC (aV (co false)) sN) sN)
abbrev qJ:C1:=(ce (ki (bC (fq (rQ (ax 160 (aj (ag 6) (aj (ag 1) ao))))) (bC (aJ gU (ax 25 (aj (ag 6) ao)) (ag 4)) (bC (fq (rQ (ax 159 (aj (ag 6) (aj (ag 1) ao))))) d3)))) (sC (aV (co false)) sN) sN)
abbrev nL:C1:=(ce (aJ gU (ax 167 (aj (ag 6) (aj (ag 1) (aj (ax 33 (aj (ag 0) (aj (ah 4) ao))) ao)))) (ax 167 (aj (ag 2) (aj (ag 1) (aj (ax 33 (aj (ag 0) (aj (ah 4) ao))) ao))))) (sC (aV (co false)) sN) sN)
abbrev jF:C1:=(ce (ki (bC (fq (rQ (ax 162 (aj (ag 6) (aj (ag 1) ao))))) (bC (fq (rQ (ax 83 (aj (ag 6) (aj (ag 1) (aj (ag 0) (aj (ag 3) (aj (ah 63) ao)))))))) d3))) (sC (aV (co false)) sN) sN)
abbrev gC:C1:=(ce (fq (rQ (ax 162 (aj (ag 6) (aj (ag 1) ao))))) (sC (aV (co false)) sN) sN)
abbrev gB:C1:=(ce (ki (bC (aJ gU (ax 25 (aj (ax 99 (aj (ag 4) ao)) ao)) (ag 4)) (bC (aJ gU (ax 25 (aj (ag 2) ao)) (ag 4)) (bC (aJ gU (ax 25 (aj (ag 6) ao)) (ax 105 (aj (ax 107 (aj (ag 1) ao)) ao))) d3)))) (sC (aV (co false)) sN) sN)
abbrev gA:C1:=(aG 7 (sub (n8 false (gt 8 (gV (aj (aH [113,55]) (aj (aH [113,56]) (aj (aH [113,57]) (aj (aH [113,97]) (aj (aH [113,98]) (aj (aH [113,99]) (aj (aH [113,100]) ao)))))))) (lA (aJ kP (ag 8) (key (ag 1) 0 Tq))) (ag 8))) (ah 0)))
abbrev gz:C1:=(ce (aJ gU (ax 25 (aj (ag 2) ao)) (aK a9 (aK a9 (aK a9 (ag 4) (aH TN)) (ag 7)) (aH [10]))) (sC (aV (co false)) sN) sN)
abbrev jD:C1:=(aV (L4 (IQ (ax 160 (aj (ag 6) (aj (ag 1) ao))) (IQ (ax 159 (aj (ag 6) (aj (ag 1) ao))) (L3 (ax 157 (aj (ag 6) (aj (ag 1) ao))))))))
def Ia:CS:=(sC (aG 1 (ax 168 (aj (ag 0) ao))) (sC (aG 2 (ax 86 (aj (ag 1) ao))) (sC qO (sC qM (sC (aG 4 (ax 105 (aj (ax 107 (aj (ag 1) ao)) ao))) (sC (aG 5 (ax 25 (aj (ag 2) ao))) (sC qL (sC (aG 6 (ax 99 (aj (ag 4) ao))) (sC qJ (sC nL (sC jF (sC gC (sC gB (sC gA (sC (aP (meth (ag 2) 37 (aj (ag 7) ao))) (sC gz (sC jD sN)))))))))))))))))
def G8:oJ:=⟨0,"__init__",true,[("self",0),("home",1)],2,2,false,II⟩
def AD:List oJ:=[
 G8,
 ⟨1,"many",true,[("self",0)],1,1,false,IH⟩,
 ⟨2,"closed",true,[("self",0)],1,1,false,Dt⟩,
 ⟨3,"need_day",false,[("day",0)],1,1,false,xh⟩,
 ⟨4,"need_open",true,[("self",0),("day",1)],2,2,false,vd⟩,
 ⟨5,"need_currency",false,[("text",0)],1,2,false,mW⟩,
 ⟨6,"tell_rate",true,[("self",0),("currency",1),("day",2),("top",3),("bottom",4),("days",5)],5,6,false,vc⟩,
 ⟨7,"enter",true,[("self",0),("day",1),("note",2),("lines",3),("back",4),("number",5)],5,6,false,Ga⟩,
 ⟨8,"entry",true,[("self",0),("number",1)],2,2,false,F'⟩,
 ⟨9,"contrary",true,[("self",0),("number",1),("day",2),("old",3),("lines",4)],3,6,false,nS⟩,
 ⟨11,"close",true,[("self",0),("day",1)],2,2,false,Gb⟩,
 ⟨12,"is_amount",false,[("amount",0)],1,1,false,uT⟩,
 ⟨13,"changed",false,[("amount",0),("one",1),("other",2)],3,3,false,zN⟩,
 ⟨14,"rate",true,[("self",0),("currency",1),("day",2),("days",3),("known",4)],3,6,false,BC⟩,
 ⟨15,"need_account",true,[("self",0),("account",1)],2,2,false,oF⟩,
 ⟨16,"need_note",false,[("text",0)],1,2,false,uP⟩,
 ⟨17,"convert",true,[("self",0),("day",1),("note",2),("giver",3),("one",4),("amount",5),("taker",6),("other",7),("got",8),("lines",9)],8,10,false,Af⟩,
 ⟨18,"balanced",false,[("lines",0),("totals",1),("line",2)],1,4,false,xn⟩,
 ⟨19,"need_line",true,[("self",0),("line",1)],2,2,false,vf⟩,
 ⟨20,"post",true,[("self",0),("day",1),("note",2),("lines",3),("line",4),("kept",5)],4,7,false,BD⟩,
 ⟨22,"periods",true,[("self",0)],1,1,false,Ae⟩,
 ⟨23,"entry_rows",false,[("deed",0),("day",1),("note",2),("count",3),("found",4),("line",5),("account",6),("currency",7),("amount",8)],1,9,false,sw⟩,
 ⟨24,"deed_rows",false,[("deed",0),("words",1)],1,3,false,uU⟩,
 ⟨25,"written",false,[("book",0),("rows",1),("deed",2)],1,4,false,zE⟩,
 ⟨26,"added_up",true,[("self",0),("account",1),("currency",2),("last",3),("total",4),("old",5),("line",6)],4,7,false,xL⟩,
 ⟨27,"balance",true,[("self",0),("account",1),("currency",2)],3,3,false,Ag⟩,
 ⟨33,"_law_cell",false,[("_law_script",0),("_law_k",1)],2,2,false,HI⟩,
 ⟨36,"is_name",false,[("text",0)],1,2,false,zL⟩,
 ⟨37,"admit",true,[("self",0),("account",1)],2,2,false,Gc⟩,
 ⟨40,"_law_twin",false,[("_law_text_here",0),("_law_cell_here",1),("_law_signs",2),("_law_at",3)],3,4,false,HA⟩,
 ⟨41,"_law_currency",false,[("_law_cell_here",0),("_law_signs",1),("_law_found",2)],1,3,false,wD⟩,
 ⟨42,"_law_currencies",false,[("_law_cells",0),("_law_found",1),("_law_some",2),("_law_limit",3),("_law_currency_here",4)],1,5,false,r8⟩,
 ⟨43,"_law_name",false,[("_law_cell_here",0),("_law_signs",1),("_law_found",2),("_law_left",3),("_law_k",4)],1,5,false,HH⟩,
 ⟨56,"_law_note",false,[("_law_cell_here",0),("_law_some",1),("_law_found",2),("_law_k",3)],1,4,false,HG⟩,
 ⟨60,"accounts",true,[("self",0)],1,1,false,xM⟩,
 ⟨61,"balance_on",true,[("self",0),("account",1),("currency",2),("day",3)],4,4,false,sQ⟩,
 ⟨70,"_law_closed",false,[("_law_plain_here",0)],1,1,false,CK⟩,
 ⟨71,"_law_day",false,[("_law_plain_here",0),("_law_cell_here",1),("_law_closed_here",2)],2,3,false,K1⟩,
 ⟨72,"_law_shut",false,[("_law_book_here",0),("_law_plain_here",1),("_law_big",2),("_law_day_here",3)],3,4,false,EU⟩,
 ⟨73,"_law_put",false,[("_law_plain_here",0),("_law_day_here",1),("_law_note_here",2),("_law_lines_here",3),("_law_back",4),("_law_number",5)],5,6,false,K0⟩,
 ⟨74,"_law_contrary",false,[("_law_book_here",0),("_law_plain_here",1),("_law_big",2),("_law_pick",3),("_law_number",4),("_law_entry",5),("_law_day_here",6),("_law_lines_here",7),("_law_due",8)],4,10,false,wE⟩,
 ⟨75,"_law_rate",false,[("_law_plain_here",0),("_law_currency_here",1),("_law_day_here",2),("_law_found",3),("_law_row",4)],3,5,false,wz⟩,
 ⟨76,"_law_amount",false,[("_law_cell_here",0)],1,1,false,CM⟩,
 ⟨77,"_law_convert",false,[("_law_book_here",0),("_law_plain_here",1),("_law_big",2),("_law_pick",3),("_law_day_here",4),("_law_many",5),("_law_one",6),("_law_other",7),("_law_giver",8),("_law_taker",9),("_law_amount_here",10),("_law_rates",11),("_law_found",12),("_law_lines_here",13),("_law_note_here",14),("_law_due",15)],4,16,false,iz⟩,
 ⟨78,"_law_tell",false,[("_law_book_here",0),("_law_plain_here",1),("_law_big",2),("_law_pick",3),("_law_day_here",4),("_law_currency_here",5),("_law_row",6)],4,7,false,HC⟩,
 ⟨79,"_law_admit",false,[("_law_book_here",0),("_law_plain_here",1),("_law_big",2),("_law_name_here",3)],3,4,false,EX⟩,
 ⟨80,"_law_lines",false,[("_law_plain_here",0),("_law_big",1),("_law_pick",2),("_law_names_here",3),("_law_found",4),("_law_many",5),("_law_k",6),("_law_left",7),("_law_currency_here",8),("_law_one",9),("_law_two",10)],3,12,false,EV⟩,
 ⟨81,"_law_post",false,[("_law_book_here",0),("_law_plain_here",1),("_law_big",2),("_law_pick",3),("_law_day_here",4),("_law_note_here",5),("_law_lines_here",6),("_law_due",7)],4,8,false,HF⟩,
 ⟨82,"_law_step",false,[("_law_book_here",0),("_law_plain_here",1),("_law_way",2),("_law_big",3),("_law_pick",4)],5,5,false,uq⟩,
 ⟨83,"_law_deeds",false,[("_law_book_here",0),("_law_plain_here",1),("_law_script",2),("_law_first",3),("_law_last",4),("_law_k",5)],5,6,false,EW⟩,
 ⟨86,"_law_book",false,[("_law_plain_here",0),("_law_book_here",1),("_law_name_here",2)],1,3,false,HJ⟩,
 ⟨87,"_law_names",false,[("_law_cells",0),("_law_some",1),("_law_found",2),("_law_name_here",3)],1,4,true,CB⟩,
 ⟨90,"done",false,[("book",0),("deed",1)],2,2,false,Ib⟩,
 ⟨91,"number_of",false,[("word",0),("figures",1)],1,3,false,uO⟩,
 ⟨92,"words_of",false,[("row",0),("first",1),("many",2),("words",3)],3,4,false,xe⟩,
 ⟨93,"name_of",false,[("word",0)],1,2,false,zI⟩,
 ⟨94,"change_of",false,[("row",0),("words",1),("note",2),("first",3)],1,4,false,uV⟩,
 ⟨95,"line_of",false,[("row",0),("words",1)],1,2,false,zJ⟩,
 ⟨96,"entry_of",false,[("rows",0),("at",1),("words",2),("day",3),("count",4),("lines",5)],2,7,false,xk⟩,
 ⟨97,"deed_of",false,[("rows",0),("at",1),("word",2),("words",3)],2,4,false,q8⟩,
 ⟨98,"deeds_of",false,[("rows",0),("found",1),("at",2),("deed",3)],1,4,false,xm⟩,
 ⟨99,"read",false,[("text",0),("rows",1),("home",2),("deeds",3),("book",4),("deed",5)],1,6,false,H'⟩,
 ⟨105,"_law_text",false,[("_law_rows_here",0)],1,2,false,HB⟩,
 ⟨107,"_law_rows",false,[("_law_plain_here",0),("_law_rows_here",1),("_law_name_here",2),("_law_deed",3),("_law_line",4)],1,6,false,HE⟩,
 ⟨126,"by_day",false,[("book",0),("first",1),("last",2),("found",3)],3,5,false,Da⟩,
 ⟨127,"pairs_to",false,[("book",0),("last",1),("found",2),("old",3),("line",4)],2,5,false,xg⟩,
 ⟨128,"sheet",false,[("book",0),("day",1),("found",2),("pair",3),("total",4)],2,5,false,FB⟩,
 ⟨131,"common",false,[("one",0),("other",1),("rest",2)],2,3,false,C'⟩,
 ⟨132,"lowest",false,[("top",0),("bottom",1),("part",2)],2,3,false,C_⟩,
 ⟨133,"worth",false,[("book",0),("account",1),("day",2),("top",3),("bottom",4),("row",5),("rate",6)],3,7,false,xd⟩,
 ⟨146,"moved",false,[("book",0),("pair",1),("first",2),("last",3),("came",4),("went",5),("old",6),("line",7)],4,8,false,FC⟩,
 ⟨147,"period",false,[("book",0),("number",1),("last",2),("first",3),("rows",4),("pair",5),("opening",6),("both",7)],2,8,false,C9⟩,
 ⟨157,"_law_sums_good",false,[("_law_book_here",0),("_law_plain_here",1),("_law_name_here",2),("_law_currency_here",3),("_law_due",4),("_law_entry",5),("_law_line",6)],2,7,false,ul⟩,
 ⟨158,"_law_taken",false,[("_law_book_here",0),("_law_number",1)],2,2,false,ET⟩,
 ⟨159,"_law_taken_good",false,[("_law_book_here",0),("_law_plain_here",1),("_law_entry",2),("_law_due",3)],2,4,false,r7⟩,
 ⟨160,"_law_same",false,[("_law_again",0),("_law_plain_here",1),("_law_k",2),("_law_row",3)],2,4,false,HD⟩,
 ⟨161,"_law_wrong",false,[("_law_book_here",0),("_law_plain_here",1),("_law_which",2),("_law_one",3),("_law_other",4),("_law_day_here",5)],3,6,false,wr⟩,
 ⟨162,"_law_wrongs",false,[("_law_book_here",0),("_law_plain_here",1),("_law_which",2),("_law_refused",3)],2,4,false,Cv⟩,
 ⟨163,"need_days",false,[("first",0),("last",1)],2,2,false,uQ⟩,
 ⟨164,"statement",false,[("book",0),("account",1),("currency",2),("first",3),("last",4),("opening",5),("closing",6),("rows",7),("old",8),("line",9)],5,10,false,uL⟩,
 ⟨165,"_law_worth_told",false,[("_law_book_here",0),("_law_account",1),("_law_day_here",2)],3,3,false,rZ⟩,
 ⟨166,"journal",false,[("book",0),("first",1),("last",2)],3,3,false,zK⟩,
 ⟨167,"_law_told",false,[("_law_book_here",0),("_law_plain_here",1),("_law_cell_here",2),("_law_closed_here",3),("_law_days",4),("_law_found",5),("_law_day_here",6),("_law_currency_here",7)],3,9,false,ES⟩,
 ⟨168,"_law_plain",false,[("_law_script",0),("_law_plain_here",1),("_law_part",2)],1,3,false,Cz⟩,
 ⟨169,"law",false,[("_law_script",0),("_law_plain_here",1),("_law_book_here",2),("_law_place",3),("_law_text_here",4),("_law_found",5),("_law_again",6),("_law_more",7)],1,9,false,Ia⟩]
noncomputable def QO:Nat:=169
noncomputable def Lu:List (Str×(Option Int×List Nat)):=[("SMALL",(none,TL)),("GREAT",(none,TG)),("FIGURES",(none,TM)),("LAST_DAY",(some 99999,[])),("BOUND",(some 1000000000000000000000000000000,[])),("GREATEST",(some 1000000000,[]))]
abbrev TT:Nat->Option PF:=Ax AD
end
open PySem PySem.W PySem.Calls PyProof.Rows
set_option Elab.async false
set_option maxRecDepth 100000
set_option maxHeartbeats 8000000
noncomputable def wQ (i:Nat):Str:=(wP[i]?).elim ⟨#[0,i]⟩ fun l=>⟨l.toArray⟩
noncomputable def B3:Option (Str×Pos):=some ("by_day",⟨343,29,343,57⟩)
def KP (h:Heap):Prop:=∃ K:Frag,K.In h/\Me B3 G8 AD Lu wQ K=true/\tP B3 K h
def yN (s:Shared):Prop:=KP s.heap
theorem KP.keeps {h h':Heap} (x:KP h) (k:∀ b o,h.get? b=some o->h'.get? b=some o):KP h':=x.elim fun K y=>⟨K,y.1.keeps k,y.2.1,fun l e=>k _ _ (y.2.2 l e)⟩
theorem J6 {h:Heap} {K:Frag} (X:K.In h) (ok:Me B3 G8 AD Lu wQ K=true) (TK:tP B3 K h):TabsAt ((iB B3 K).toList.map fun l=>(l.c,l.P)) h:=fun q hq=>by
 obtain ⟨l,hl,rfl⟩:=SA.mp hq;have e:=Option.mem_toList.mp hl;have o7:=an ok;rw[e] at o7;exact ⟨codeHd_of_K X o7,TK l e⟩
theorem Fs {h:Heap} {K:Frag} (x:∀ l,iB B3 K=some l->∃ ps,h.get? l.P=some (tX ps)):GrownAll ((iB B3 K).toList.map fun l=>(l.c,l.P)) h:=by
 cases e:iB B3 K with
 |none=>exact trivial
 |some l=>exact ⟨x l e,trivial⟩
theorem zz {h h':Heap} {K:Frag} (x:∀ b o,b∉(iB B3 K).toList.map (·.P)->h.get? b=some o->h'.get? b=some o) (b:Addr) (o:Obj) (e:(ghostOf h ((iB B3 K).toList.map fun l=>(l.c,l.P))).get? b=some o):h'.get? b=some o:=
 x b o (fun hb=>by
  rw[hideAll_none _ (by rw[List.map_map];exact hb)] at e;cases e) (of_hideAll _ e)
theorem RS:∀ (w:World) (os:OsState),(eq pN w 11 (some (.ref 6)) 40178 ⟨fP (boot_heap w.params).objs.toList,11,{},Array.mk [],boot_drawn,boot_toks,os⟩ (topStub pN)).map (fun s=>Me B3 G8 AD Lu wQ (zD s.tree s.n)&&yj B3 (zD s.tree s.n) s.tree s.n)=some true:=fun w os=>by kernel_rfl
noncomputable abbrev iV (x:Int):Option PV:=some (.d (.int x))
noncomputable abbrev sV (x:List Nat):Option PV:=some (.d (.str x))
noncomputable abbrev dV (x:D):Option PV:=some (.d x)
noncomputable abbrev qV (n:Nat):Option PV:=some (.p n 0)
noncomputable abbrev CC (d:Nat) (hd:Bool) (f:Nat) (args:List PV) (σ:az):Option (R PV×az):=kB TT d hd f args σ
noncomputable abbrev KK (d:Nat) (hd:Bool):cG:=⟨kB TT d,hd⟩
abbrev Ev (K:cG) (e:CE) (ρ:bg) (σ:az) (v:PV):Prop:=e.ev K ρ σ=some (.ok v,σ)
abbrev Ts (K:cG) (t:CT) (ρ:bg) (σ:az) (b:Bool):Prop:=t.ts K ρ σ=some (.ok b,σ)
section
variable {c f:Nat}
theorem aC {m:PM α} {g:α->PM β} {a:α} {z:Option (R β×az)} (h:m σ=some (.ok a,σ')) (k:g a σ'=z):bW m g σ=z:=by
 unfold bW;rw[h];exact k
theorem cN {m:PM α} {k:α->az->Option (Out×az)} {a:α} {z:Option (Out×az)} (h:m σ=some (.ok a,σ')) (h2:k a σ'=z):b8 ρ m k σ=z:=by
 unfold b8;rw[h];exact h2
theorem yA {m:PM α} {k:α->az->Option (Out×az)} (h:m σ=some (.ex c,σ')):b8 ρ m k σ=some (.ex c ρ,σ'):=by
 unfold b8;rw[h]
theorem aa {a:C1} {l:CS} {z:Option (Out×az)} (h:a.ex K ρ σ=some (.next ρ',σ')) (k:l.ex K ρ' σ'=z):(sC a l).ex K ρ σ=z:=by
 show nv (a.ex K ρ σ) (l.ex K)=z;rw[h];exact k
theorem aM {a:C1} {l:CS} {v:PV} (h:a.ex K ρ σ=some (.ret v,σ')):(sC a l).ex K ρ σ=some (.ret v,σ'):=by
 show nv (a.ex K ρ σ) (l.ex K)=_;rw[h];rfl
theorem dA {a:C1} {l:CS} (h:a.ex K ρ σ=some (.ex c ρ',σ')):(sC a l).ex K ρ σ=some (.ex c ρ',σ'):=by
 show nv (a.ex K ρ σ) (l.ex K)=_;rw[h];rfl
theorem aF {v:PV} (h:e.ev K ρ σ=some (.ok v,σ')):(aV e).ex K ρ σ=some (.ret v,σ'):=cN h rfl
theorem av {v:PV} (h:e.ev K ρ σ=some (.ok v,σ')) (k:ρ.set i (some v)=ρ'):(aG i e).ex K ρ σ=some (.next ρ',σ'):=by
 subst k;exact cN h rfl
theorem Gk (h:e.ev K ρ σ=some (.ex c,σ')):(aG i e).ex K ρ σ=some (.ex c ρ,σ'):=yA h
theorem aA {v:PV} (h:e.ev K ρ σ=some (.ok v,σ')):(aP e).ex K ρ σ=some (.next ρ,σ'):=cN h rfl
theorem fJ (h:e.ev K ρ σ=some (.ex c,σ')):(aP e).ex K ρ σ=some (.ex c ρ,σ'):=yA h
theorem jk (h:e.ev K ρ σ=some (.ex c,σ')):(aV e).ex K ρ σ=some (.ex c ρ,σ'):=yA h
theorem bP {t:CT} {a b:CS} {z:Option (Out×az)} (h:Ts K t ρ σ true) (k:a.ex K ρ σ=z):(ce t a b).ex K ρ σ=z:=cN h k
theorem aX {t:CT} {a b:CS} {z:Option (Out×az)} (h:Ts K t ρ σ false) (k:b.ex K ρ σ=z):(ce t a b).ex K ρ σ=z:=cN h k
theorem jU {i:CE} {k:D} (h1:Ev K a ρ σ (.d v)) (h2:Ev K o ρ σ x) (h3:Ev K i ρ σ (.d k)) (h4:Ca x k v σ=some σ'):(t9 o i a).ex K ρ σ=some (.next ρ,σ'):=by
 refine cN h1 (cN h2 (cN h3 ?_));show (Ca x k v σ).bind _=_;rw[h4];rfl
theorem bl {b:CS} {v:PV} {x:D} {xs:List D} {z:Option (Out×az)} (h:Ev K it ρ σ v) (h1:C2 v σ=some (x,xs)) (h2:dq v x i (fun ρ=>b.ex K ρ) xs ρ σ=z) (hK:K.hd=false:=by rfl):(cZ i it b).ex K ρ σ=z:=by
 show (match K.hd with|true=>none|false=>_)=z
 rw[hK];refine cN h ?_;show (C2 v σ).bind _=z;rw[h1];exact h2
theorem br {v:PV} {x y:D} {b:bg->az->Option (Out×az)} {z:Option (Out×az)} (h:b (ρ.set i (dV y)) σ=some (.next ρ',σ')) (hs:bI σ' x v=true) (k:dq v x i b l ρ' σ'=z):dq v x i b (y::l) ρ σ=z:=by
 show (match b (ρ.set i (dV y)) σ with
  |some (.next ρ',σ')=>if bI σ' x v then dq v x i b l ρ' σ' else none
  |z=>z)=z
 rw[h];show (if bI σ' x v then _ else none)=z;rw[if_pos hs];exact k
theorem Bh {v:PV} {x:D} {b:bg->az->Option (Out×az)} (N:Nat) (Pr:List D->bg->az->Prop):∀ (xs pre:List D) (ρ:bg) (σ:az),pre.length+xs.length<=N->Pr pre ρ σ->(∀ pre y ρ σ,y∈xs->pre.length<N->Pr pre ρ σ->∃ ρ' σ',b (ρ.set i (dV y)) σ=some (.next ρ',σ')/\bI σ' x v=true/\Pr (pre++[y]) ρ' σ')->∃ ρ' σ',dq v x i b xs ρ σ=some (.next ρ',σ')/\Pr (pre++xs) ρ' σ':=by
 intro xs
 induction xs with
 |nil=>
  intro pre ρ σ _ h _;exact ⟨ρ,σ,rfl,by rw[List.append_nil];exact h⟩
 |cons y xs ih=>
  intro pre ρ σ hl h st;rw[Sq] at hl;obtain ⟨ρ1,σ1,e1,s1,p1⟩:=st pre y ρ σ (.head _) (Nat.lt_of_add_right_lt hl) h;obtain ⟨ρ2,σ2,e2,p2⟩:=ih (pre++[y]) ρ1 σ1 (by rw[Sk,Su];exact MM hl) p1 fun pre z ρ σ hz=>st pre z ρ σ (.tail _ hz);exact ⟨ρ2,σ2,br e1 s1 e2,by rw[List.append_cons];exact p2⟩
theorem lQ {v:PV} {x:D} {b:bg->az->Option (Out×az)} (f:α->D) (mk:β->γ->bg) (g:β->α->β) (hs:bI σ x v=true):∀ (ys:List α),(∀ s c y,y∈ys->∃ c',b ((mk s c).set i (dV (f y))) σ=some (.next (mk (g s y) c'),σ))->∀ s c,∃ c',dq v x i b (ys.map f) (mk s c) σ=some (.next (mk (ys.foldl g s) c'),σ):=by
 intro ys
 induction ys with
 |nil=>
  intro _ s c;exact ⟨c,rfl⟩
 |cons y ys ih=>
  intro h s c;obtain ⟨c1,e1⟩:=h s c y (.head _);obtain ⟨c2,e2⟩:=ih (fun s c z hz=>h s c z (.tail _ hz)) (g s y) c1;exact ⟨c2,br e1 hs e2⟩
theorem dY {x:D} (h:rd σ (.p n j)=some x):bI σ x (.p n j)=true:=@Sz _ (_) h
theorem rm {p s:Nat} {b:CS} {args:List PV} {o:Out} (hT:TT f=some ⟨p,s,kp,b.ex⟩) (hl:args.length=p) (hr:args.map some++List.replicate (s - p) none=ρ) (h:b.ex (KK d hd) ρ σ=some (o,σ')) (k:FQ kp σ.length (some (o,σ'))=z):CC (d+1) hd f args σ=z:=by
 show (match TT f with
  |some pf=>Kh ⟨kB TT d,hd⟩ pf args
  |none=>fun _=>none) σ=z
 rw[hT];show (if args.length=p then FQ kp σ.length (b.ex (KK d hd) (args.map some++List.replicate (s - p) none) σ) else none)=z;rw[if_pos hl,hr,h];exact k
theorem a8 {p s:Nat} {b:CS} {args:List PV} (hT:TT f=some ⟨p,s,kp,b.ex⟩) (hl:args.length=p) (hr:args.map some++List.replicate (s - p) none=ρ) (h:b.ex (KK d hd) ρ σ=some (.ret (.d v),σ')) (k:σ'.take σ.length=σ''):CC (d+1) hd f args σ=some (.ok (.d v),σ''):=
 rm hT hl hr h (by show some (R.ok (PV.d v),σ'.take σ.length)=_;rw[k])
theorem dL {p s:Nat} {b:CS} {args:List PV} (hT:TT f=some ⟨p,s,kp,b.ex⟩) (hl:args.length=p) (hr:args.map some++List.replicate (s - p) none=ρ) (h:b.ex (KK d hd) ρ σ=some (.next ρ',σ')) (k:σ'.take σ.length=σ''):CC (d+1) hd f args σ=some (.ok (.d .none),σ''):=
 rm hT hl hr h (by show some (R.ok (PV.d .none),σ'.take σ.length)=_;rw[k])
theorem fy {p s:Nat} {b:CS} {args:List PV} (hT:TT f=some ⟨p,s,kp,b.ex⟩) (hl:args.length=p) (hr:args.map some++List.replicate (s - p) none=ρ) (h:b.ex (KK d hd) ρ σ=some (.ex c ρ',σ')) (k:σ'.take σ.length=σ''):CC (d+1) hd f args σ=some (.ex c,σ''):=
 rm hT hl hr h (by show some (R.ex c,σ'.take σ.length)=_;rw[k])
theorem tG {p s:Nat} {b:CS} {args:List PV} (hT:TT f=some ⟨p,s,false,b.ex⟩) (hl:args.length=p) (hr:args.map some++List.replicate (s - p) none=ρ) (h:b.ex (KK d hd) ρ σ=some (.ret (.p m 0),σ')) (hm:σ.length<=m) (ho:σ'[m]? =some (.fld f')) (k:σ'.take σ.length=σ''):CC (d+1) hd f args σ=some (.ok (.d f'.toD),σ''):=
 rm hT hl hr h (by
  show (if m<σ.length then _ else Cd false σ.length σ' 0 σ'[m]?)=_;rw[if_neg (Tm.mpr hm),ho,<-k];rfl)
theorem tk (σ:az):σ.take σ.length=σ:=List.take_length
theorem Gx (σ l:az):(σ++l).take σ.length=σ:=List.take_left
theorem aO {o:BO} {b:CE} {w z:D} (h1:Ev K a ρ σ x) (h2:Ev K b ρ σ y) (r1:rd σ x=some u) (r2:rd σ y=some w) (h:o.g u w=some z):Ev K (aK o a b) ρ σ (.d z):=by
 refine aC h1 (aC h2 ?_);show (rd σ x).bind _=_;rw[r1,Si,r2,Si,h];rfl
theorem nP {o:CO} {w:D} (h:o.g u w=some q) (r1:rd σ x=some u) (r2:rd σ y=some w):DD o.g x y σ=some (.ok q,σ):=by
 unfold DD;rw[r1,Si,r2,Si,h];rfl
theorem jI {o:CO} {b:CE} {w:D} (h1:Ev K a ρ σ x) (h2:Ev K b ρ σ y) (r1:rd σ x=some u) (r2:rd σ y=some w) (h:o.g u w=some q):Ev K (rj o a b) ρ σ (.d (.bool q)):=
 aC h1 (aC h2 (aC (nP h r1 r2) rfl))
theorem ak {o:CO} {b:CE} {w:D} (h1:Ev K a ρ σ x) (h2:Ev K b ρ σ y) (r1:rd σ x=some u) (r2:rd σ y=some w) (h:o.g u w=some q):Ts K (aJ o a b) ρ σ q:=
 aC h1 (aC h2 (nP h r1 r2))
theorem bN {l:yb .Or} (h:l.ts K ρ σ=some (.ok q,σ)):Ts K (ki l) ρ σ q:=h
theorem ci {l:yb .And} (h:l.ts K ρ σ=some (.ok q,σ)):Ts K (pz l) ρ σ q:=h
theorem Br {l:CA} (h:l.ev K ρ σ=z):(L4 l).ev K ρ σ=z:=h
theorem Bq (h:a.ev K ρ σ=z):(L3 a).ev K ρ σ=z:=h
theorem jd {a:CT} (h:Ts K a ρ σ true):Ts K (fq a) ρ σ false:=aC h rfl
theorem I9 {a:CT} (h:Ts K a ρ σ false):Ts K (fq a) ρ σ true:=aC h rfl
theorem yf {t:CT} {z:Option (R Bool×az)} (h:t.ts K ρ σ=z):(lA t).ts K ρ σ=z:=h
theorem kD {a:CT} (h:Ts K a ρ σ q):Ts K (fq a) ρ σ (!q):=aC h rfl
theorem eT (h:Ev K a ρ σ (.d (.bool q))):Ts K (rQ a) ρ σ q:=aC h rfl
theorem bz {a:CT} {l:yb .Or} (h:Ts K a ρ σ false) (k:l.ts K ρ σ=some (.ok q,σ)):(bC a l).ts K ρ σ=some (.ok q,σ):=aC h k
theorem gr {a:CT} {l:yb .Or} (h:Ts K a ρ σ true):(bC a l).ts K ρ σ=some (.ok true,σ):=aC h rfl
theorem cQ {a:CT} {l:yb .And} (h:Ts K a ρ σ true) (k:l.ts K ρ σ=some (.ok q,σ)):(dw a l).ts K ρ σ=some (.ok q,σ):=aC h k
theorem eX {a:CT} {l:yb .And} (h:Ts K a ρ σ false):(dw a l).ts K ρ σ=some (.ok false,σ):=aC h rfl
theorem zS {l:CA} (h:Ev K a ρ σ (.d (.bool true))) (k:l.ev K ρ σ=z):(IQ a l).ev K ρ σ=z:=aC h (aC (a:=true) (σ':=σ) rfl k)
theorem NM {o q:CO} {c:CE} {w:PV} {t:D} {p r:Bool} (h3:Ev K c ρ σ w) (r1:rd σ x=some u) (r2:rd σ y=some v) (r3:rd σ w=some t) (e1:o.g u v=some p) (e2:q.g v t=some r):Q1 (c.ev K ρ) o.g q.g x y σ=some (.ok (.d (.bool (p&&r))),σ):=by
 refine aC (nP e1 r1 r2) ?_;cases p with
 |true=>exact aC h3 (aC (nP e2 r2 r3) rfl)
 |false=>rfl
theorem u6 {o q:CO} {b c:CE} {w:PV} {t:D} {p r:Bool} (h1:Ev K a ρ σ x) (h2:Ev K b ρ σ y) (h3:Ev K c ρ σ w) (r1:rd σ x=some u) (r2:rd σ y=some v) (r3:rd σ w=some t) (e1:o.g u v=some p) (e2:q.g v t=some r):Ev K (Dp o q a b c) ρ σ (.d (.bool (p&&r))):=aC h1 (aC h2 (NM h3 r1 r2 r3 e1 e2))
theorem tV {o q:CO} {b c:CE} {w:PV} {t:D} {p r:Bool} (h1:Ev K a ρ σ x) (h2:Ev K b ρ σ y) (h3:Ev K c ρ σ w) (r1:rd σ x=some u) (r2:rd σ y=some v) (r3:rd σ w=some t) (e1:o.g u v=some p) (e2:q.g v t=some r):Ts K (vJ o q a b c) ρ σ (p&&r):=by
 refine aC h1 (aC h2 (aC (nP e1 r1 r2) ?_));cases p with
 |true=>exact aC h3 (nP e2 r2 r3)
 |false=>rfl
theorem uY {i:Int} (h:Ev K a ρ σ (.d (.int i))):Ev K (neg a) ρ σ (.d (.int (-i))):=aC h rfl
theorem u0 {t:CT} {b:CE} (h:Ts K t ρ σ true) (k:a.ev K ρ σ=z):(C0 t a b).ev K ρ σ=z:=aC h k
theorem u5 {t:CT} {b:CE} (h:Ts K t ρ σ false) (k:b.ev K ρ σ=z):(C0 t a b).ev K ρ σ=z:=aC h k
theorem cl1 (h:Ev K a ρ σ x):(aj a ao).ev K ρ σ=some (.ok [x],σ):=aC h (aC (a:=[]) (σ':=σ) rfl rfl)
theorem cP {l:CL} (h:Ev K a ρ σ x) (k:l.ev K ρ σ=some (.ok xs,σ)):(aj a l).ev K ρ σ=some (.ok (x::xs),σ):=aC h (aC k rfl)
theorem ca {f:BF} {l:CL} (h:l.ev K ρ σ=some (.ok xs,σ)) (k:f.g K.hd xs σ=z):(bi f l).ev K ρ σ=z:=aC h k
theorem aB {l:CL} (h:l.ev (KK d hd) ρ σ=some (.ok xs,σ)) (k:CC d hd n xs σ=z):(ax n l).ev (KK d hd) ρ σ=z:=aC h k
theorem aY {l:CL} (k:CC d hd n xs σ=z) (h:l.ev (KK d hd) ρ σ=some (.ok xs,σ)):(ax n l).ev (KK d hd) ρ σ=z:=aC h k
theorem tT {t:CT} {p:Prop} {i:Decidable p} (q:p) (h:Ts K t ρ σ (decide p)):Ts K t ρ σ true:=by rw[Sz q] at h;exact h
theorem tF {t:CT} {p:Prop} {i:Decidable p} (q:¬p) (h:Ts K t ρ σ (decide p)):Ts K t ρ σ false:=by rw[Tc q] at h;exact h
theorem Ik {l:CL} (h0:Ev (KK d hd) o ρ σ x) (hx:No x σ=some (.ok (),σ)) (h:l.ev (KK d hd) ρ σ=some (.ok xs,σ)) (k:CC d hd n (x::xs) σ=z):(meth o n l).ev (KK d hd) ρ σ=z:=aC h0 (aC hx (aC h k))
theorem aS {q:Prop} [Decidable q] {a:α} (h:q):au q a=some a:=if_pos h
theorem eH {l:CL} {ds:List D} (h:l.ev K ρ σ=some (.ok xs,σ)) (k:sL xs=some ds:=by rfl) (hl:ds.length<=1000:=by exact Sp rfl):Ev K (gV l) ρ σ (.d (.lst ds)):=by
 refine aC h ?_;show ((sL xs).bind fun ds=>au (ds.length<=1000) (PV.d (.lst ds))).map _=_;rw[k,Si,aS hl];rfl
theorem bv {l:CL} {ds:List D} (h:l.ev K ρ σ=some (.ok xs,σ)) (k:sL xs=some ds:=by rfl) (hl:ds.length<=1000:=by exact Sp rfl):Ev K (bx l) ρ σ (.d (.tup ds)):=by
 refine aC h ?_;show ((sL xs).bind fun ds=>au (ds.length<=1000) (PV.d (.tup ds))).map _=_;rw[k,Si,aS hl];rfl
theorem fk {l:CL} {ds:List D} (h:l.ev K ρ σ=some (.ok xs,σ)) (k:sL xs=some ds:=by rfl) (hl:ds.length<=1000:=by exact Sp rfl):(gO l).ev K ρ σ=some (.ok (.p σ.length 0),σ++[.fld (.list ds)]):=by
 refine aC h (aC (a:=ds) (σ':=σ) ?_ rfl);show ((sL xs).bind fun ds=>au (ds.length<=1000) ds).map _=_;rw[k,Si,aS hl];rfl
theorem ku (h:rd σ x=some (.lst l)) (hl:l.length<=dM):bf.g hd [x] σ=some (.ok (.d (.int l.length)),σ):=by
 show ((rd σ x).bind fun u=>(HQ u).map fun z=>(R.ok (PV.d z),σ))=_;rw[h,Si];show (Option.map _ (au (l.length<=dM) (D.int l.length)))=_;rw[aS hl];rfl
theorem Jx (h:rd σ x=some (.tup l)) (hl:l.length<=dM):bf.g hd [x] σ=some (.ok (.d (.int l.length)),σ):=by
 show ((rd σ x).bind fun u=>(HQ u).map fun z=>(R.ok (PV.d z),σ))=_;rw[h,Si];show (Option.map _ (au (l.length<=dM) (D.int l.length)))=_;rw[aS hl];rfl
theorem wK {l:List Nat} (hl:l.length<=dM):bf.g hd [.d (.str l)] σ=some (.ok (.d (.int l.length)),σ):=by
 show (Option.map _ (au (l.length<=dM) (D.int l.length)))=_;rw[aS hl];rfl
theorem cY {i:Int} (h0: -1000<=i) (h:i<=100000000):bS i=true:=by rw[bS,Sz (by exact SS (by decide) h0),Sz (by exact ST h (by decide))];rfl
theorem bc {i:CE} {w z:D} (h1:Ev K a ρ σ x) (h2:Ev K i ρ σ y) (r1:rd σ x=some u) (r2:j7 y=some w) (h:cF u w=some z):Ev K (sub a i) ρ σ (.d z):=by
 refine aC h1 (aC h2 ?_);show (rd σ x).bind _=_;rw[r1,Si,r2,Si,h];rfl
theorem v0 (h:k<n):cg k n=some k:=by
 unfold cg;rw[if_pos (o9),if_pos (SW.mpr h),Int.toNat_natCast]
theorem uK (l:List D) (i:Int):cF (.lst l) (.int i)=(au (bS i=true) ()).bind fun _=>(cg i l.length).bind fun k=>l[k]? :=rfl
theorem Lz (l:List D) (i:Int):cF (.tup l) (.int i)=cF (.lst l) (.int i):=rfl
theorem LA (l:List Nat) (i:Int):cF (.str l) (.int i)=(au (bS i=true) ()).bind fun _=>(cg i l.length).bind fun k=>(l[k]?).map fun c=>D.str [c]:=rfl
theorem b7 {z:D} (h:l[k]? =some z) (hk:k<=100000:=by decide):cF (.lst l) (.int k)=some z:=by
 rw[uK,aS (cY (KG) (SV.mpr (Ss hk (Sp rfl)))),Si,v0 (Sl.mp h).1];exact h
theorem qF {z:D} (h:l[k]? =some z) (hk:k<=100000:=by decide):cF (.tup l) (.int k)=some z:=by rw[Lz];exact b7 h hk
theorem cC {z:D} (k:Nat) (h:Ev K a ρ σ (.d (.tup l))) (hz:l[k]? =some z) (hk:k<=100000:=by decide):Ev K (sub a (ah (k:Nat))) ρ σ (.d z):=bc h rfl rfl rfl (qF hz hk)
theorem Ft {l:List Nat} {c:Nat} (h:l[k]? =some c) (hk:k<=100000:=by decide):cF (.str l) (.int k)=some (.str [c]):=by
 rw[LA,aS (cY (KG) (SV.mpr (Ss hk (Sp rfl)))),Si,v0 (Sl.mp h).1,Si,h];rfl
theorem cb {y:D} (h0:Ev K o ρ σ (.p n j)) (h1:Ev K a ρ σ (.d y)) (h:ck σ n j=some (.list l)) (hl:l.length<dM):(bm aT o (aj a ao)).ev K ρ σ=some (.ok (.d .none),dH σ n j (.list (l++[y]))):=by
 refine aC h0 ?_;have r:rd σ (.p n j)=some (.lst l):=by show (ck σ n j).bind _=_;rw[h];rfl
 show (match (rd σ (.p n j)).any (Lm (.p n j)) with|true=>_|false=>none)=_
 rw[r];refine aC (cl1 h1) ?_;show ((ck σ n j).bind fun f=>(NW y f).map _)=_;rw[h,Si];show Option.map _ (au (l.length<dM) _)=_;rw[aS hl];rfl
theorem xA (h1:0<b) (h2:b<2^250):jJ b=true:=by
 simp only [jJ,Bool.and_eq_true,bne_iff_ne,ne_eq,decide_eq_true_eq];refine ⟨by exact Int.ne_of_gt h1,SK (m:=2^250) ?_ (Nat.pow_le_pow_right (by decide) (by decide))⟩;have:((2^250:Nat):Int)=2^250:=by norm_cast
 exact O0 h1 h2
theorem aZ {a:Int} (hb:0<b):0<=a.fmod b/\a.fmod b<b:=by
 rw[Int.fmod_eq_emod_of_nonneg a (Ti hb)];exact ⟨Int.emod_nonneg a (Ne.symm (Int.ne_of_lt hb)),Int.emod_lt_of_pos a hb⟩
theorem gx {a:Int} (h1:0<b) (h2:b<2^250):bA.g (.int a) (.int b)=some (.int (a.fmod b)):=by
 show (au (jJ b=true) (a.fmod b)).map _=_;rw[aS (xA h1 h2)];rfl
theorem Bf {a:Int} (h1:0<b) (h2:b<2^250):bY.g (.int a) (.int b)=some (.int (a.fdiv b)):=by
 show (au (jJ b=true) (a.fdiv b)).map _=_;rw[aS (xA h1 h2)];rfl
theorem Oi {a:Int} (h:a.natAbs<2^64):g9 a b=true:=by rw[g9,Sz h];rfl
theorem fj {a:Int} (h:b.natAbs<2^64):g9 a b=true:=by rw[g9,Sz h,Bool.or_true];rfl
theorem hZ {a:Int} (h:g9 a b=true):fT.g (.int a) (.int b)=some (.int (a*b)):=by
 show (au (g9 a b=true) (a*b)).map _=_;rw[aS h];rfl
theorem iU {a b:List Nat} (h:a.length+b.length<=dM):a9.g (.str a) (.str b)=some (.str (a++b)):=if_pos h
section
variable {a:Int} {t:List Nat}
theorem CQ (h:a<b):rR.g (.int a) (.int b)=some true:=congrArg some (Sz h)
theorem j_ (h:¬a<b):rR.g (.int a) (.int b)=some false:=congrArg some (Tc h)
theorem zx (h:b<a):Ac.g (.int a) (.int b)=some true:=congrArg some (Sz h)
theorem ol (h:¬b<a):Ac.g (.int a) (.int b)=some false:=congrArg some (Tc h)
theorem wM (h:a<=b):yc.g (.int a) (.int b)=some true:=congrArg some (Sz h)
theorem Nj (h:¬a<=b):yc.g (.int a) (.int b)=some false:=congrArg some (Tc h)
theorem m5 (h:a=b):dp.g (.int a) (.int b)=some true:=congrArg some (Sz h)
theorem xw (h:a≠b):dp.g (.int a) (.int b)=some false:=congrArg some (Tc h)
theorem we (h:a≠b):gU.g (.int a) (.int b)=some true:=congrArg (fun c=>some !c) (Tc h)
theorem n9 (h:a=b):gU.g (.int a) (.int b)=some false:=congrArg (fun c=>some !c) (Sz h)
theorem gj (h:s=t):dp.g (.str s) (.str t)=some true:=congrArg some (Sz h)
theorem eV (h:s≠t):dp.g (.str s) (.str t)=some false:=congrArg some (Tc h)
theorem kq (h:s=t):gU.g (.str s) (.str t)=some false:=congrArg (fun c=>some !c) (Sz h)
end
theorem ie {t:CI} {v:PV} {x:D} {xs:List D} (h:Ev K it ρ σ v) (h1:C2 v σ=some (x,xs)) (h2:dJ v x i (t.ts K) (cq.ev K) ρ xs [] σ=some (.ok l,σ')) (hK:K.hd=false):ri i it t cq K ρ σ=some (.ok l,σ'):=by
 unfold ri rh;rw[hK];refine aC h ?_;show (C2 v σ).bind _=_;rw[h1,Si,h2];rfl
theorem eJ {t:CI} {v:PV} {x:D} {xs:List D} (h:Ev K it ρ σ v) (h1:C2 v σ=some (x,xs)) (h2:dJ v x i (t.ts K) (cq.ev K) ρ xs [] σ=some (.ok l,σ')) (hK:K.hd=false:=by rfl):(gt i it t cq).ev K ρ σ=some (.ok l,σ'):=ie h h1 h2 hK
theorem li {t:CI} (h:ri i it t cq K ρ σ=some (.ok l,σ')) (k:ρ.set j (dV (.lst l))=ρ'):(s0 false j i it t cq).ex K ρ σ=some (.next ρ',σ'):=by
 subst k;exact cN (aC h rfl) rfl
theorem lU {f:CF} (h:f.ev K ρ σ=some (.ok l,σ')):(n8 false f).ev K ρ σ=some (.ok (.d (.lst l)),σ'):=aC h rfl
theorem Dl {y:D} {w:PV} (hs:bI σ y w=true) (f g:α->D):∀ (xs:List α) (acc:List D),(∀ x∈xs,Ev K cq (ρ.set i (dV (f x))) σ (.d (g x)))->acc.length+xs.length<=1000000->dJ w y i (fG.ts K) (cq.ev K) ρ (xs.map f) acc σ=some (.ok (acc++xs.map g),σ):=by
 intro xs
 induction xs with
 |nil=>
  intro acc _ _;rw[List.map_nil,List.map_nil,List.append_nil];rfl
 |cons x xs ih=>
  intro acc h hl;have e:=h x (.head _);rw[Sq] at hl;have ih:=ih (acc++[g x]) (fun z hz=>h z (.tail _ hz)) (by rw[Sk,Su];exact Rv hl);rw[List.map_cons,List.map_cons,List.append_cons,<-ih];show (match cq.ev K (ρ.set i (dV (f x))) σ with
   |some (.ok (.d z),σ'')=>if bI σ'' y w/\acc.length<dM then dJ w y i (fG.ts K) (cq.ev K) ρ (xs.map f) (acc++[z]) σ'' else none
   |some (.ex c,σ'')=>some (.ex c,σ'')
   |_=>none)=_
  rw[e];exact if_pos ⟨hs,SJ (Ss (Tf _ _) hl) (by decide)⟩
theorem eM {y:D} (f g:α->D):∀ (xs:List α) (acc:List D),(∀ x∈xs,Ev K cq (ρ.set i (dV (f x))) σ (.d (g x)))->acc.length+xs.length<=1000000->dJ (.d y) y i (fG.ts K) (cq.ev K) ρ (xs.map f) acc σ=some (.ok (acc++xs.map g),σ):=Dl rfl f g
theorem Ds (p:α->Bool):∀ xs:List α,kQ (xs.map fun x=>.bool (p x))=some (xs.map p):=by
 intro xs
 induction xs with
 |nil=>
  exact rfl
 |cons x xs ih=>
  show (kQ (xs.map fun x=>.bool (p x))).map (p x::·)=_;rw[ih];rfl
theorem JJ (p:α->Bool) (xs:List α):uX.g false [.d (.lst (xs.map fun x=>.bool (p x)))] σ=some (.ok (.d (.bool (xs.all p))),σ):=by
 show (Option.map _ (Option.map _ (kQ (xs.map fun x=>.bool (p x)))))=_;rw[Ds];show some (R.ok (PV.d (.bool ((xs.map p).all id))),σ)=_;rw[List.all_map];rfl
theorem dO {x:D} {xs:List D} (h:items x=some xs):C2 (.d x) σ=some (x,xs):=by
 show (Option.map _ (items x))=_;rw[h];rfl
theorem ij {t:List Nat} {p:Nat->Bool} (h:Ev K it ρ σ (.d (.str t))) (hl:t.length<=1000) (k:∀ c∈t,Ev K cq (ρ.set i (sV [c])) σ (.d (.bool (p c)))) (hK:K.hd=false:=by rfl):Ev K (bi uX (aj (n8 false (gt i it fG cq)) ao)) ρ σ (.d (.bool (t.all p))):=by
 have e:items (.str t)=some (t.map fun c=>.str [c]):=if_pos (Ss hl (by decide));refine ca (cl1 (lU (eJ h (dO e) (eM (fun c=>.str [c]) (fun c=>.bool (p c)) t [] k (by rw[Tb];exact Ro hl)) hK))) ?_;rw[hK];exact JJ p t
end
noncomputable def hW:List Nat:=TG
noncomputable def mD:List Nat:=TL
noncomputable def NC:List Nat:=TM
noncomputable def bh (t:List Nat):Bool:=decide (t.length=3)&&t.all fun c=>decide (c∈hW)
def bq (n:Int):Prop:=0<=n/\n<=99999
def dK (t:List Nat):Prop:=t.length<=40/\∀ c∈t,32<=c/\c<=126
noncomputable def c7 (a:Int):Bool:=decide (a≠0)&&(decide (-(10^30)<a)&&decide (a<10^30))
section
theorem AX {a b:Nat} (h:a<=b):vb.g (.str [a]) (.str [b])=some true:=by
 show some (if a<b then true else if a=b then true else false)=_;rcases Nat.lt_or_eq_of_le h with q|q
 .rw[if_pos q]
 .rw[if_neg (OZ q),if_pos q]
theorem cJ {n:Int} (h:bq n):CC (d+1) hd 3 [.d (.int n)] σ=some (.ok (.d .none),σ):=
 dL rfl rfl rfl (aa (aX (bN (bz (ak rfl rfl rfl rfl (j_ (Tn.mpr h.1))) (bz (ak rfl rfl rfl rfl (ol (Tn.mpr h.2))) rfl))) rfl) rfl) (tk σ)
theorem wd {n:Int} (h:¬bq n):CC (d+1) false 3 [.d (.int n)] σ=some (.ex 4,σ):=by
 refine fy rfl rfl rfl (dA (bP (bN ?_) rfl)) (tk σ);by_cases q:n<0
 .exact gr (ak rfl rfl rfl rfl (CQ q))
 .exact bz (ak rfl rfl rfl rfl (j_ q)) (gr (ak rfl rfl rfl rfl (zx (by unfold bq at h;exact OY h q))))
theorem LO {t:List Nat} (hl:t.length<=1000):Ts (KK d false) (ki (bC (aJ gU (bi bf (aj (ag 0) ao)) (ah 3)) (bC (fq (rQ (bi uX (aj (n8 false (gt 1 (ag 0) fG (rj Ab (ag 1) (zy "GREAT" (none,TG))))) ao)))) d3))) [sV t,none] σ (!bh t):=by
 refine bN ?_;have e:=ij (K:=KK d false) (ρ:=[sV t,none]) (σ:=σ) (i:=1) (it:=ag 0) (p:=fun c=>decide (c∈hW)) (cq:=rj Ab (ag 1) (zy "GREAT" (none,TG))) rfl hl fun c _=>rfl;have l:Ev (KK d false) (bi bf (aj (ag 0) ao)) [sV t,none] σ (.d (.int t.length)):=ca (cl1 rfl) (wK (Ss hl (by decide)));by_cases q:t.length=3
 .unfold bh;rw[Sz q,Bool.true_and];refine bz (ak l rfl rfl rfl (n9 (by rw[q];rfl))) ?_;cases z:t.all fun c=>decide (c∈hW) with
  |true=>rw[z] at e;exact bz (kD (eT e)) rfl
  |false=>rw[z] at e;exact gr (kD (eT e))
 .unfold bh;rw[Tc q];exact gr (ak l rfl rfl rfl (we (Nat.ToInt.of_diseq rfl rfl q)))
theorem lY {t:List Nat} (h:bh t=true):t.length=3:=S3 (ai h)
theorem bO {t:List Nat} (h:bh t=true):CC (d+1) false 5 [.d (.str t)] σ=some (.ok (.d .none),σ):=by
 have e:=LO (d:=d) (σ:=σ) (t:=t) (by rw[lY h];decide);rw[h] at e;exact dL rfl rfl rfl (aa (aX e rfl) rfl) (tk σ)
theorem iw {t:List Nat} (h:dK t):CC (d+1) false 16 [.d (.str t)] σ=some (.ok (.d .none),σ):=by
 have hl:t.length<=1000:=Ss h.1 (by decide);have e:=ij (K:=KK d false) (ρ:=[sV t,none]) (σ:=σ) (i:=1) (it:=ag 0) (p:=fun _=>true) (cq:=Dp vb vb (aH [32]) (ag 1) (aH [126])) rfl hl fun c hc=> ?_
 .rw[show (t.all fun _=>true)=true from List.all_eq_true.mpr fun _ _=>rfl] at e;exact dL rfl rfl rfl (aa (aX (bN (bz (ak (ca (cl1 rfl) (wK (Ss hl (by decide)))) rfl rfl rfl (ol (by have:=h.1;exact Tn.mpr (SV.mpr this)))) (bz (kD (eT e)) rfl))) rfl) rfl) (tk σ)
 .exact u6 rfl rfl rfl rfl rfl rfl (AX (h.2 c hc).1) (AX (h.2 c hc).2)
theorem so {a:Int}:CC (d+1) hd 12 [.d (.int a)] σ=some (.ok (.d (.bool (c7 a))),σ):=by
 refine a8 rfl rfl rfl (aM (aF (Br ?_))) (tk σ);by_cases q:a=0
 .rw[q];exact rfl
 .refine zS (jI rfl rfl rfl rfl (we q)) ?_;unfold c7;rw[Sz q,Bool.true_and];exact Bq (u6 rfl rfl rfl rfl rfl rfl rfl rfl)
end
section
theorem bo (h:n<=1000):n<=dM:=Ss h (by decide)
theorem db (h:n<=1000):n<dM:=SJ h (by decide)
end
section
theorem Ay {a:List Nat}:D.str a∈ns.map D.str<->a∈ns:=by
 constructor
 .intro h;obtain ⟨b,hb,e⟩:=SA.mp h;cases e;exact hb
 .exact fun h=>List.mem_map_of_mem h
theorem A8 {a:List Nat}:Lr (.str a) (.lst (ns.map .str))=some (@decide (D.str a∈ns.map D.str) (Classical.propDecidable _)):=by
 have h:(pl 8 (.str a)&&(ns.map D.str).all (pl 8))=true:=Bool.and_eq_true_iff.mpr ⟨rfl,List.all_eq_true.mpr fun x hx=>by
  obtain ⟨b,_,e⟩:=SA.mp hx;rw[<-e];rfl⟩
 unfold Lr;show au _ _=_;unfold au;rw[if_pos h];congr
theorem Lq {a:List Nat} (h:a∈ns):JI.g (.str a) (.lst (ns.map .str))=some true:=A8.trans (congrArg some (@Sz _ (_) (Ay.mpr h)))
theorem HX {a:List Nat} (h:a∉ns):JI.g (.str a) (.lst (ns.map .str))=some false:=A8.trans (congrArg some (@Tc _ (_) fun q=>h (Ay.mp q)))
theorem AS {a:List Nat} (h:a∈ns):kP.g (.str a) (.lst (ns.map .str))=some false:=congrArg (Option.map fun c=> !c) (Lq h)
theorem AR {a:List Nat} (h:a∉ns):kP.g (.str a) (.lst (ns.map .str))=some true:=congrArg (Option.map fun c=> !c) (HX h)
end
section
theorem cV {l:az}:ck (l++[.fld f]) l.length 0=some f:=by
 unfold ck;rw[dG];rfl
theorem lh {l:az} {o:PO}:(l++[o]).set l.length o'=l++[o']:=by
 rw[List.set_append_right _ _ (Sv _),Nat.sub_self];rfl
theorem dZ {l:az}:dH (l++[.fld f]) l.length 0 f'=l++[.fld f']:=by
 unfold dH;rw[dG];exact lh
theorem ub {l:az} {x:D} (h:f.rd=some x):rd (l++[.fld f]) (.p l.length 0)=some x:=by
 show (ck (l++[.fld f]) l.length 0).bind cU.rd=_;rw[cV];exact h
theorem t8 {k:D} (h:kd k ks=true) (hl:ks.length<100000):D_ k v (.dict ks vs)=some (.dict (ey k ks) (ew k v ks vs)):=aS ⟨h,hl⟩
theorem oO {k:D} (h:ck σ n j=some f) (h2:D_ k v f=some f'):Ca (.p n j) k v σ=some (dH σ n j f'):=by
 show (ck σ n j).bind _=_;rw[h,Si,h2];rfl
theorem zR {b:CE} {k z:D} (h:Ev K o ρ σ x) (r1:rd σ x=some (.dct ks vs)) (h1:Ev K a ρ σ (.d k)) (h2:Ev K b ρ σ (.d z)) (hf:kd k ks=true):Ev K (bm Ct o (aj a (aj b ao))) ρ σ (.d ((eA k ks vs).getD z)):=by
 refine aC h ?_;show (match (rd σ x).any Lp with|true=>_|false=>none)=_
 rw[r1];refine aC (cP h1 (cl1 h2)) ?_;show ((rd σ x).bind fun u=>(Fv u k z).map _)=_;rw[r1,Si];show (au (kd k ks=true) _).map _=_;rw[aS hf];rfl
theorem pg {l:CS} {v:PV} {x:D} {z:Option (Out×az)} (h:ρ[i]? =some (some v)) (h1:zq v σ=some (.d x,σ')) (k:l.ex K (ρ.set i (dV x)) σ'=z):(Eg i l).ex K ρ σ=z:=by
 show ((ρ[i]?).join).bind _=z;rw[h];show (zq v σ).bind _=z;rw[h1];exact k
theorem ph {l:az} {x:D} (h:f.rd=some x):zq (.p l.length 0) (l++[.fld f])=some (.d x,l++[.dead]):=by
 show ((ck (l++[.fld f]) l.length 0).bind fun g=>g.rd.map fun x=>(PV.d x,(l++[PO.fld f]).set l.length .dead))=_;rw[cV,Si,h];show some (PV.d x,_)=_;rw[lh]
end
section
noncomputable def Mh (a t1 b1 t2 b2:Int):Int:=(a*t1*b2).fdiv (b1*t2)
theorem xG {a t1 b1 t2 b2:Int} (h1:1<=t1/\t1<=10^9) (h2:1<=b1/\b1<=10^9) (h3:1<=t2/\t2<=10^9) (h4:1<=b2/\b2<=10^9):CC (d+1) hd 13 [.d (.int a),.d (.tup [.int t1,.int b1]),.d (.tup [.int t2,.int b2])] σ=some (.ok (.d (.int (Mh a t1 b1 t2 b2))),σ):=by
 have p1:0<b1*t2:=Int.mul_pos (PN h2) (PN h3);have p2:b1*t2<=10^9*10^9:=Int.mul_le_mul h2.2 h3.2 (SS (by decide) h3.1) (by decide);exact a8 rfl rfl rfl (aM (aF (aO (aO (aO rfl rfl rfl rfl (hZ (fj (Oc h1)))) rfl rfl rfl (hZ (fj (Oc h4)))) (aO rfl rfl rfl rfl (hZ (fj (Oc h3)))) rfl rfl (Bf p1 (Ry p2))))) (tk _)
noncomputable def cn:List Nat:=Ty
end
section
noncomputable def gu:List Nat:=TU
def gS (c:List Nat):Prop:=∃ x r,c=x::r/\r.length<=11/\x∈mD/\∀ y∈r,y∈gu
theorem qz {t:List Nat} (h:gS t):CC (d+1) false 36 [.d (.str t)] σ=some (.ok (.d (.bool true)),σ):=by
 refine bn fun G9 k9=> ?_;obtain ⟨x,q,rfl,h1,h2,h3⟩:=h;refine k9 ?_;have hs:∀ y∈mD,y∈gu:=by decide
 have hl:(x::q).length<=1000:=by rw[Sq];exact SJ h1 (Sp rfl)
 have e:=ij (K:=KK d false) (ρ:=[sV (x::q),none]) (σ:=σ) (i:=1) (it:=ag 0) (t:=x::q) (p:=fun _=>true) (cq:=rj Ab (ag 1) (aK a9 (zy "SMALL" (none,TL)) (zy "FIGURES" (none,TM)))) rfl hl fun c hc=> ?_
 .rw[show ((x::q).all fun _=>true)=true from List.all_eq_true.mpr fun _ _=>rfl] at e;have l:Ev (KK d false) (bi bf (aj (ag 0) ao)) [sV (x::q),none] σ (.d (.int (x::q).length)):=ca (cl1 rfl) (wK (bo hl));refine a8 rfl rfl (ρ:=[sV (x::q),none]) rfl (aa (aX (bN (bz (ak l rfl rfl rfl (j_ ?_)) (bz (ak l rfl rfl rfl (ol ?_)) (bz (ak (bc rfl rfl rfl rfl (Ft (k:=0) rfl)) rfl rfl rfl ?_) rfl)))) rfl) (aM (aF e))) (tk _)
  .rw[Sq];exact QI
  .rw[Sq];exact Tn.mpr (SV.mpr (Tj h1))
  .exact congrArg (fun c=>some !c) (Sz h2)
 .refine jI rfl rfl rfl rfl ?_;refine congrArg some (Sz ?_);rcases Sj.mp hc with z|z
  .rw[z];exact hs x h2
  .exact h3 c z
theorem xO {v:PV} (h1:a.ev K ρ σ=some (.ok v,σ')) (h2:Ev K o ρ σ' x) (h3:Ea k x v σ'=some σ''):(ko o k a).ex K ρ σ=some (.next ρ,σ''):=by
 refine cN h1 (cN h2 ?_);show (Ea k x v σ').bind _=_;rw[h3];rfl
end
section
variable {n m:Int}
noncomputable def cell (sc:List Int) (k:Nat):Int:=sc.getD k 0
theorem F7 (hs:sc.length<=63) (hk:k<=1000):CC (d+1) hd 33 [.d (.lst (sc.map .int)),.d (.int k)] σ=some (.ok (.d (.int (cell sc k))),σ):=by
 have hl:(sc.map D.int).length=sc.length:=Sg ..;have l:Ev (KK d hd) (bi bf (aj (ag 0) ao)) [dV (.lst (sc.map .int)),iV k] σ (.d (.int sc.length)):=by
  have e:=ku (hd:=hd) (σ:=σ) (x:=.d (.lst (sc.map .int))) rfl (by rw[hl];exact bo (Ss (hs) (Sp rfl)));rw[hl] at e;exact ca (cl1 rfl) e
 by_cases q:k<sc.length
 .refine a8 rfl rfl (ρ:=[dV (.lst (sc.map .int)),iV k]) rfl (aM (bP (ak rfl l rfl rfl (CQ (SW.mpr q))) (aM (aF (bc rfl rfl rfl rfl (b7 ?_ (Ss hk (Sp rfl)))))))) (tk _);rw[SB,Sn q,cell,SD,Sn q];rfl
 .rw[show cell sc k=0 by rw[cell,SD,List.getElem?_eq_none (Nat.le_of_not_lt q)];rfl];exact a8 rfl rfl (ρ:=[dV (.lst (sc.map .int)),iV k]) rfl (aa (aX (ak rfl l rfl rfl (j_ (QH q))) rfl) rfl) (tk _)
theorem iG {t:CE} {l:List Nat} {a k:Int} (h1:Ev K t ρ σ (.d (.str l))) (h2:Ev K e ρ σ (.d (.int a))) (h3:0<k) (h4:k<=l.length) (h5:l.length<=1000):Ev K (sub t (aK bA e (ah k))) ρ σ (.d (.str [l.getD (a.fmod k).toNat 0])):=by
 have q:=aZ (a:=a) (b:=k) h3;have hk:(a.fmod k).toNat<l.length:=o8 h4 q;refine bc h1 (aO h2 rfl rfl rfl (gx h3 (Og h4 h5))) rfl rfl ?_;have e:a.fmod k=(((a.fmod k).toNat:Nat):Int):=Of q;rw[e];refine Ft ?_ (Oe h5 hk);rw[Int.toNat_natCast,SD,Sn hk];rfl
theorem jg {l:List Nat} {a k:Int} (h1:0<k) (h2:k<=l.length):l.getD (a.fmod k).toNat 0∈l.take k.toNat:=by
 have r:=aZ (a:=a) (b:=k) h1;rw[SD,Sn (o8 h2 r),Option.getD_some];exact List.mem_take_iff_getElem.mpr ⟨(a.fmod k).toNat,QG h2 r,rfl⟩
theorem i0 {a k:Int} (h:Ev K e ρ σ (.d (.int a))) (h1:0<k:=by decide) (h2:k<2^250:=by decide):Ev K (aK bY e (ah k)) ρ σ (.d (.int (a.fdiv k))):=aO h rfl rfl rfl (Bf h1 h2)
theorem iZ {a k:Int} (h:Ev K e ρ σ (.d (.int a))) (h1:0<k:=by decide) (h2:k<2^250:=by decide):Ev K (aK bA e (ah k)) ρ σ (.d (.int (a.fmod k))):=aO h rfl rfl rfl (gx h1 h2)
theorem lX:∃ t,bh t=true/\CC (d+1) hd 41 [.d (.int n)] σ=some (.ok (.d (.str t)),σ):=by
 have g:=fun a:Int=>List.mem_of_mem_take (jg (l:=hW) (a:=a) (k:=26) (by decide) (by decide));refine ⟨[hW.getD (n.fmod 26).toNat 0]++[hW.getD ((n.fdiv 26).fmod 26).toNat 0]++[hW.getD ((n.fdiv 676).fmod 26).toNat 0],?_,?_⟩
 .show (true&&(decide _&&(decide _&&(decide _&&true))))=true;rw[Sz (g _),Sz (g _),Sz (g _)];rfl
 .refine a8 rfl rfl (ρ:=[iV n,none,none]) rfl ?_ (tk _);refine aa rfl ?_;refine aa (av (iG (l:=hW) rfl rfl (by decide) (by decide) (by decide)) rfl) ?_;refine aa (av (aO rfl (iG (l:=hW) rfl rfl (by decide) (by decide) (by decide)) rfl rfl rfl) rfl) ?_;exact aM (aF (aO rfl (iG (l:=hW) rfl rfl (by decide) (by decide) (by decide)) rfl rfl rfl))
theorem qw (a b c:Int):items (.rng a b c)=au ((bS a&&bS b&&decide (0<c)&&decide (c<1000)&&decide (cD a b c<=100000))=true) ((List.range (cD a b c)).map fun (i:Nat)=>.int (a+(i:Int)*c)):=rfl
theorem MA (b:Int):jH.g hd [.d (.int b)] σ=(au (bS b=true) (D.rng 0 b 1)).map fun z=>(R.ok (PV.d z),σ):=rfl
theorem hU (h:k<=1000):items (.rng 0 k 1)=some ((List.range k).map fun (i:Nat)=>.int i):=by
 have e:cD 0 k 1=k:=by
  unfold cD;split
  .rw[Int.ediv_one];exact QF
  .exact QE (by assumption)
 rw[qw,aS]
 .rw[e];refine congrArg some (List.map_congr_left fun i _=> ?_);rw[Int.mul_one,Int.zero_add]
 .rw[e,cY (by decide) (by decide),cY (KG) (Rx h),Sz (by decide),Sz (by decide),Sz (Ss h (Sp rfl))];rfl
theorem rb (h:Ev K e ρ σ (.d (.int k))) (hk:k<=1000):Ev K (bi jH (aj e ao)) ρ σ (.d (.rng 0 k 1)):=by
 refine ca (cl1 h) ?_;rw[MA,aS (cY (KG) (Rx hk))];rfl
end
section
variable {n m:Int}
theorem fF {lo hi:CP} {l h:PV} {u1 u2 z:D} (h1:Ev K a ρ σ x) (h2:lo.ev K ρ σ=some (.ok l,σ)) (h3:hi.ev K ρ σ=some (.ok h,σ)) (r1:rd σ x=some u) (r2:j7 l=some u1) (r3:j7 h=some u2) (e:cz u u1 u2=some z):Ev K (Az a lo hi) ρ σ (.d z):=by
 refine aC h1 (aC h2 (aC h3 ?_));show (rd σ x).bind _=_;rw[r1,Si,r2,Si,r3,Si,e];rfl
theorem xQ (h:a.ev K ρ σ=z):(tL a).ev K ρ σ=z:=h
theorem MC {i:Int} (h0:0<=i) (h1:i<=s.length):cz (.str s) .none (.int i)=some (.str (s.take i.toNat)):=by
 show ((au (0<=i) i.toNat).bind fun h=>au (0<=h/\h<=s.length) (D.str (bJ s 0 h)))=_;rw[aS h0,Si,aS ⟨SN _,by exact Int.toNat_le.mpr h1⟩,bJ,List.drop_zero,Nat.sub_zero]
theorem Kt {i:Int} (h0:0<=i) (h1:i<=s.length):cz (.str s) (.int i) .none=some (.str (s.drop i.toNat)):=by
 show ((au (0<=i) i.toNat).bind fun l=>au (l<=s.length/\s.length<=s.length) (D.str (bJ s l s.length)))=_;rw[aS h0,Si,aS ⟨by exact Int.toNat_le.mpr h1,Sv _⟩,bJ,List.take_of_length_le (by rw[List.length_drop];exact Sv _)]
theorem vG {t sg:List Nat} (h1:1<=t.length) (h2:t.length<=50) (hs:sg.length=26):∃ k y,k<t.length/\y∈sg/\CC (d+1) hd 40 [.d (.str t),.d (.int n),.d (.str sg)] σ=some (.ok (.d (.str (t.set k y))),σ):=by
 have r:=aZ (a:=n) (b:=t.length) (Int.natCast_pos.mpr h1);have q:n.fmod t.length=(((n.fmod t.length).toNat:Nat):Int):=by exact (SZ r.1).symm
 have hk:(n.fmod t.length).toNat<t.length:=Od r;generalize (n.fmod t.length).toNat=k at q hk;have g:=List.mem_of_mem_take (jg (l:=sg) (a:=n.fdiv 13) (k:=26) (by decide) (by rw[hs];decide));refine ⟨k,_,hk,g,?_⟩;have e1:Ev (KK d hd) (aK bA (ag 1) (bi bf (aj (ag 0) ao))) [sV t,iV n,sV sg,none] σ (.d (.int k)):=by
  rw[<-q];exact aO rfl (ca (cl1 rfl) (wK (bo (Ss h2 (Sp rfl))))) rfl rfl (gx (Int.natCast_pos.mpr h1) (SW.mpr (SJ h2 (Sp rfl))))
 have e2:=iG (K:=KK d hd) (ρ:=[sV t,iV n,sV sg,iV k]) (σ:=σ) (t:=ag 2) (l:=sg) (e:=aK bY (ag 1) (ah 13)) (a:=n.fdiv 13) (k:=26) rfl rfl (by decide) (by rw[hs];decide) (Ss (Ta hs) (Sp rfl));rw[List.set_eq_take_append_cons_drop,if_pos hk,List.append_cons];have p1:=MC (s:=t) (i:=k) (o9) (QD r q);have p2:=Kt (s:=t) (i:=(k:Int)+1) (QC) (QA r q);rw[Int.toNat_natCast] at p1;rw[show ((k:Int)+1).toNat=k+1 by exact Qz] at p2;refine a8 rfl rfl (ρ:=[sV t,iV n,sV sg,none]) rfl (aa (av e1 rfl) (aM (aF (aO (aO (fF rfl rfl rfl rfl rfl rfl p1) e2 rfl rfl (iU ?_)) (fF rfl rfl rfl rfl rfl rfl p2) rfl rfl (iU ?_))))) (tk _)
 .rw[List.length_take,Su];exact bo (Nat.succ_le_of_lt (SJ (Ss (Nat.min_le_right _ _) h2) (by decide)))
 .rw[Sk,List.length_take,Su,List.length_drop];exact bo (Ss (Nat.add_le_add (Tj (Ss (Nat.min_le_right _ _) h2)) (Ss (Nat.sub_le _ _) h2)) (by decide))
theorem KL {t:List Nat} {y:Nat} (h:gS t) (hy:y∈mD):gS (t.set k y):=by
 refine bn fun G9 k9=> ?_;obtain ⟨x,r,rfl,h1,h2,h3⟩:=h;refine k9 ?_;have hs:∀ y∈mD,y∈gu:=by decide
 cases k with
 |zero=>exact ⟨y,r,rfl,h1,hy,h3⟩
 |succ k=>
  refine ⟨x,r.set k y,rfl,by rw[SL];exact h1,h2,fun z hz=> ?_⟩;rcases List.mem_or_eq_of_mem_set hz with hz|rfl
  .exact h3 z hz
  .exact hs _ hy
theorem Iu {t:List Nat} {y:Nat} (h:bh t=true) (hy:y∈hW):bh (t.set k y)=true:=by
 rw[bh,Bool.and_eq_true,decide_eq_true_eq,List.all_eq_true] at h ⊢;refine ⟨by rw[SL];exact h.1,fun z hz=> ?_⟩;rcases List.mem_or_eq_of_mem_set hz with hz|rfl
 .exact h.2 z hz
 .exact Sz hy
theorem EM {t:List Nat} (h:gS t):1<=t.length/\t.length<=12:=by
 refine bn fun G9 k9=> ?_;obtain ⟨x,r,rfl,h1,_⟩:=h;refine k9 ?_;rw[Sq];exact Qy h1
theorem sj (h:rd σ (.p i j)=some (.lst l)) (hl:l.length<=1000):C2 (.p i j) σ=some (.lst l,l):=by
 unfold C2;rw[h];show (Option.map _ (au (l.length<=dM) l))=_;rw[aS (bo hl)];rfl
end
section
theorem BS {a b:List Nat} (ha:a∈F) (hb:b∈F) (hc:c∈F) (h1:a≠b) (h2:a≠c) (h3:b≠c):3<=F.length:=by
 refine bn fun G9 k9=> ?_;obtain ⟨i,hi,rfl⟩:=List.mem_iff_getElem.mp ha;obtain ⟨j,hj,rfl⟩:=List.mem_iff_getElem.mp hb;obtain ⟨k,hk,rfl⟩:=List.mem_iff_getElem.mp hc;refine k9 ?_;have q1:i≠j:=fun q=>h1 (by subst q;rfl);have q2:i≠k:=fun q=>h2 (by subst q;rfl);have q3:j≠k:=fun q=>h3 (by subst q;rfl);exact Qx hi hj hk q1 q2 q3
noncomputable def curs:List (List Nat):=[[69,85,82],[74,80,89],[85,83,68],[75,87,68],[67,72,70],[71,66,80],[83,69,75],[69,85,83]]
theorem It:∀ x∈curs,bh x=true:=by decide
variable {n m:Int}
theorem F9 {b:CE} {m:List D} (h1:Ev K a ρ σ x) (h2:Ev K b ρ σ y) (r1:rd σ x=some (.lst l)) (r2:rd σ y=some (.lst m)) (hl:l.length+m.length<=1000):(n8 true (KX a b)).ev K ρ σ=some (.ok (.p σ.length 0),σ++[.fld (.list (l++m))]):=by
 refine aC (a:=l++m) (σ':=σ) (aC h1 (aC h2 ?_)) rfl;show ((((rd σ x).bind lD).bind fun l=>((rd σ y).bind lD).bind fun m=>au (l.length+m.length<=dM) (l++m)).map fun z=>(R.ok z,σ))=_;rw[r1,r2];show (au (l.length+m.length<=dM) (l++m)).map _=_;rw[aS (bo hl)];rfl
end
section
variable {w:List Nat} {L:Int}
noncomputable def Gp (L:Int) (F:List (List Nat)) (w:List Nat):List (List Nat):=if w∈F∨L<=F.length then F else F++[w]
theorem Jy {a b c e:Option PV} {Y:PO} (h:F.length<=8):Ev (KK 6 false) (bi bf (aj (ag 1) ao)) [a,qV 2,b,c,e] [o1,o2,.fld (.list (F.map .str)),X,Y] (.d (.int F.length)):=by
 have e:=ku (hd:=false) (σ:=[o1,o2,.fld (.list (F.map .str)),X,Y]) (x:=.p 2 0) rfl (by rw[Sg];exact bo (Ss h (by decide)));rw[Sg] at e;exact ca rfl e
theorem Iv {a b:Option PV} {Y:PO} (h:F.length<=8):fb.ex (KK 6 false) [a,qV 2,b,iV L,sV w] [o1,o2,.fld (.list (F.map .str)),X,Y]=some (.next [a,qV 2,b,iV L,sV w],[o1,o2,.fld (.list ((Gp L F w).map .str)),X,Y]):=by
 unfold Gp;by_cases q:w∈F
 .rw[if_pos (.inl q)];exact aa (aX (ci (eX (ak rfl rfl rfl rfl (AS q)))) rfl) rfl
 by_cases z:(F.length:Int)<L
 .rw[if_neg (fun y=>y.elim q (Int.not_le.mpr z)),List.map_append];exact aa (bP (ci (cQ (ak rfl rfl rfl rfl (AR q)) (cQ (ak (Jy h) rfl rfl rfl (CQ z)) rfl))) (aa (aA (cb (n:=2) (j:=0) (l:=F.map .str) (y:=.str w) rfl rfl rfl (by rw[Sg];exact db (Ss h (by decide))))) rfl)) rfl
 .rw[if_pos (.inr (Tn.mp z))];exact aa (aX (ci (cQ (ak rfl rfl rfl rfl (AR q)) (eX (ak (Jy h) rfl rfl rfl (j_ z))))) rfl) rfl
structure Cu (L:Int) (P:List Nat->Prop) (ws F:List (List Nat)):Prop where
 nd:F.Nodup
 le:(F.length:Int)<=L
 al:∀ x∈F,P x
 mm:∀ x∈ws,x∈F∨L<=F.length
theorem LP {P:List Nat->Prop} {ws:List (List Nat)} (h:Cu L P ws F) (hw:P w):Cu L P (w::ws) (Gp L F w):=by
 unfold Gp;by_cases q:w∈F∨L<=F.length
 .rw[if_pos q];refine ⟨h.nd,h.le,h.al,fun x hx=> ?_⟩;rcases Sj.mp hx with rfl|hx
  .exact q
  .exact h.mm x hx
 .rw[if_neg q];refine ⟨List.nodup_append.mpr ⟨h.nd,S6.mpr ⟨SF,S9⟩,fun a ha c hc=>by rw[So.mp hc];rintro rfl;exact q (.inl ha)⟩,by rw[Sk];exact Int.not_le.mp fun z=>q (.inr z),fun x hx=> ?_,fun x hx=>.inl ?_⟩
  .rcases SC.mp hx with z|z
   .exact h.al x z
   .rw[So.mp z];exact hw
  .rcases Sj.mp hx with rfl|hx
   .exact List.mem_append_right _ (.head _)
   .exact List.mem_append_left _ ((h.mm x hx).resolve_right fun z=>q (.inr z))
theorem Iw {P:List Nat->Prop} {a:Option PV} {ys:List D} (hL:L<=8):∀ (ws us F:List (List Nat)) (x:Option PV),Cu L P us F->(∀ x∈ws,P x)->∃ G y,Cu L P (ws.reverse++us) G/\dq (.p 4 0) (.lst ys) 4 (fun ρ=>fb.ex (KK 6 false) ρ) (ws.map .str) [a,qV 2,qV 4,iV L,x] [o1,o2,.fld (.list (F.map .str)),X,.fld (.list ys)]=some (.next [a,qV 2,qV 4,iV L,y],[o1,o2,.fld (.list (G.map .str)),X,.fld (.list ys)]):=by
 intro ws
 induction ws with
 |nil=>
  intro us F x h _;exact ⟨F,x,h,rfl⟩
 |cons w ws ih=>
  intro us F x h hw;refine bn fun G9 k9=> ?_;obtain ⟨G,y,c,e⟩:=ih (w::us) (Gp L F w) (sV w) (LP h (hw w (.head _))) fun x hx=>hw x (.tail _ hx);refine k9 ?_;exact ⟨G,y,by rw[List.reverse_cons,List.append_assoc];exact c,br (Iv (by have:=h.le;exact SV.mp (SS this hL))) (dY rfl) e⟩
theorem rf {c0 c1:Int}:∃ F:List (List Nat),F.Nodup/\(∀ x∈F,bh x=true)/\3<=F.length/\F.length<=8/\(∃ n0 v,∀ x∈F,x∈n0::v::curs)/\CC 7 false 42 [.d (.lst [.int c0,.int c1])] [o1,o2]=some (.ok (.d (.lst (F.map .str))),[o1,o2]):=by
 refine bn fun G9 k9=> ?_;obtain ⟨n0,h0,e0⟩:=lX (d:=5) (hd:=false) (σ:=[o1,o2,.fld (.list [])]) (n:=c0);obtain ⟨n1,h1,e1⟩:=lX (d:=5) (hd:=false) (σ:=[o1,o2,.fld (.list [])]) (n:=c1);refine k9 ?_;generalize hB:PO.fld (.list [.str n0,.str n1,.str [69,85,82],.str [74,80,89],.str [85,83,68]])=B;refine bn fun G9 k9=> ?_;obtain ⟨L,hL,x4⟩:∃ L:Int,(4<=L/\L<=8)/\∀ x y z s,hJ.ex (KK 6 false) [dV (.lst [.int c0,.int c1]),x,y,z,none] s=some (.next [dV (.lst [.int c0,.int c1]),x,y,iV L,none],s):=by
  by_cases q:(c0.fdiv 3).fmod 8=3
  .exact ⟨8,by decide,fun _ _ _ _=>av (u0 (tT q rfl) rfl) rfl⟩
  .exact ⟨4,by decide,fun _ _ _ _=>av (u5 (tF q rfl) rfl) rfl⟩
 obtain ⟨v,hv,x5⟩:∃ v,bh v=true/\∀ x y z,hH.ex (KK 6 false) [dV (.lst [.int c0,.int c1]),x,qV 4,y,z] [o1,o2,.fld (.list []),B,.fld (.list (.str n0:: .str n1::curs.map .str))]=some (.next [dV (.lst [.int c0,.int c1]),x,qV 4,y,z],[o1,o2,.fld (.list []),B,.fld (.list (.str n0:: .str v::curs.map .str))]):=by
  by_cases q:c1.fmod 2=1
  .obtain ⟨k,y,hk,hy,e2⟩:=vG (d:=5) (hd:=false) (n:=c1.fdiv 2) (t:=n0) (sg:=hW) (by rw[lY h0];decide) (by rw[lY h0];decide) rfl;exact ⟨n0.set k y,Iu h0 hy,fun _ _ _=>bP (tT q rfl) (aa (jU (aY e2 rfl) rfl rfl rfl) rfl)⟩
  .exact ⟨n1,h1,fun _ _ _=>aX (tF q rfl) rfl⟩
 obtain ⟨F,y,c,lp⟩:=Iw (P:=fun x=>bh x=true/\x∈n0::v::curs) (a:=dV (.lst [.int c0,.int c1])) (o1:=o1) (o2:=o2) (X:=B) (ys:=.str n0:: .str v::curs.map .str) hL.2 (n0::v::curs) [] [] none ⟨S9,by have:=hL.1;show (0:Int)<=L;exact SS (by decide) hL.1,aW,aW⟩ fun x hx=>⟨by
  rcases Sj.mp hx with rfl|hx
  .exact h0
  rcases Sj.mp hx with rfl|hx
  .exact hv
  .exact It x hx,hx⟩
 refine k9 ?_;have m:∀ x∈curs,x∈F∨L<=F.length:=fun x hx=>c.mm x (by rw[List.append_nil];exact List.mem_reverse.mpr (.tail _ (.tail _ hx)));have le:=c.le;refine ⟨F,c.nd,fun x hx=>(c.al x hx).1,?_,by exact SV.mp (SS le hL.2),⟨n0,v,fun x hx=>(c.al x hx).2⟩,?_⟩
 .by_cases z:L<=F.length
  .exact SV.mp (SS (SS (by decide) hL.1) z)
  .exact BS ((m [69,85,82] (.head _)).resolve_right z) ((m [74,80,89] (.tail _ (.head _))).resolve_right z) ((m [85,83,68] (.tail _ (.tail _ (.head _)))).resolve_right z) (by decide) (by decide) (by decide)
 .exact tG (f':=.list (F.map .str)) (m:=2) rfl rfl rfl (aa rfl (aa (av (fk (cP (aY e0 rfl) (cP (aY e1 rfl) rfl))) rfl) (aa (av (F9 rfl (eH rfl) rfl rfl (Sp rfl)) rfl) (aa (x4 _ _ _ _) (aa (hB ▸ x5 _ _ _) (aa (bl rfl rfl (hB ▸ lp)) rfl)))))) (Sv _) rfl rfl
end
section
variable {n m:Int}
theorem dU {b:CE} {x y:Int} (h1:Ev K a ρ σ (.d (.int x))) (h2:Ev K b ρ σ (.d (.int y))):Ev K (aK a9 a b) ρ σ (.d (.int (x+y))):=aO h1 h2 rfl rfl rfl
end
section
variable {n m:Int}
theorem LH {x acc:List Nat} {l:FS} {z:Option (R (List Nat)×az)} (hl:acc.length+x.length<=100000) (h:l.ev K ρ (acc++x) σ=z):(w_ x l).ev K ρ acc σ=z:=by
 show (au (acc.length+x.length<=dM) ()).bind _=z;rw[aS (Ss hl (by decide))];exact h
theorem LG {t acc:List Nat} {l:FS} {z:Option (R (List Nat)×az)} (h1:Ev K a ρ σ (.d u)) (h2:zO u=some t) (hl:acc.length+t.length<=100000) (h:l.ev K ρ (acc++t) σ=z):(w9 a l).ev K ρ acc σ=z:=by
 refine aC h1 ?_;show (zO u).bind _=z;rw[h2,Si];show (au (acc.length+t.length<=dM) ()).bind _=z;rw[aS (Ss hl (by decide))];exact h
theorem Bo {l:FS} {t:List Nat} (h:l.ev K ρ [] σ=some (.ok t,σ)):Ev K (C8 l) ρ σ (.d (.str t)):=aC h rfl
theorem iY {i:Int} (h:i.natAbs<10^31):zO (.int i)=some (aN i)/\(aN i).length<=32:=by
 have h1:i.natAbs.log2<128:=by
  by_cases q:i.natAbs=0
  .rw[q];decide
  .exact (Nat.log2_lt q).mpr (Th h (by decide))
 refine ⟨aS (Th h1 (by decide)),?_⟩;have h2:(aN i).length=(toString i).length:=PySem.ofString_length _;rw[h2];exact int_text_length_le10 (k:=31) (by decide) h
theorem sX {t:List Nat} (h1:Ev K e ρ σ (.d u)) (h:zO u=some t):Ev K (bi sK (aj e ao)) ρ σ (.d (.str t)):=by
 refine ca (cl1 h1) ?_;show ((zO u).map D.str).map _=_;rw[h];rfl
theorem vM:∀ ts:List (List Nat),pB (ts.map .str)=some ts:=by
 intro ts
 induction ts with
 |nil=>
  exact rfl
 |cons t ts ih=>
  show (pB (ts.map .str)).map (t::·)=_;rw[ih];rfl
theorem J8 {ts:List (List Nat)} (h:∀ t∈ts,t.length<=k):(ts.map List.length).sum<=ts.length*k:=by
 induction ts with
 |nil=>exact SN _
 |cons t ts ih=>
  rw[List.map_cons,List.sum_cons,Sq,Nat.succ_mul];have:=ih fun x hx=>h x (.tail _ hx);have:=h t (.head _);exact Qw (by assumption) this
theorem uZ {ts:List (List Nat)} (h1:Ev K o ρ σ (.d (.str s))) (h2:Ev K a ρ σ x) (r:rd σ x=some (.lst (ts.map .str))) (hs:s.length<=15) (ht:∀ t∈ts,t.length<=600) (hl:ts.length<=1000):Ev K (bm iN o (aj a ao)) ρ σ (.d (.str (dI s ts))):=by
 refine aC h1 (aC (cl1 h2) ?_);show ((rd σ x).bind fun v=>_)=_;rw[r,Si];show (((pB (ts.map .str)).bind fun ts=>au ((ts.map List.length).sum+ts.length<=1048576/\s.length<=15) (D.str (dI s ts))).map _)=_;have h3:=J8 ht;have h4:ts.length*600<=1000*600:=Nat.mul_le_mul_right _ hl;rw[vM,Si,aS ⟨by exact Ss (Nat.add_le_add (Ss h3 (Nat.mul_le_mul_right 600 hl)) hl) (by decide),hs⟩];rfl
end
section
variable {n m:Int}
end
section
variable {n m:Int}
theorem LD {a b:List D} (h:a.length+b.length<=1000):a9.g (.lst a) (.lst b)=some (.lst (a++b)):=if_pos (bo h)
end
section
variable [DecidableEq α]
noncomputable def jc (a:α) (v:D):List (α×D)->List (α×D)
 |[]=>[(a,v)]
 |x::l=>if x.1=a then (x.1,v)::l else x::jc a v l
noncomputable def gd (a:α):List (α×D)->Option D
 |[]=>none
 |x::l=>if x.1=a then some x.2 else gd a l
variable {mk:α->D}
theorem lL (hk:∀ a b,eD (mk a) (mk b)=decide (a=b)) (a:α):∀ l:List (α×D),eA (mk a) (l.map fun x=>mk x.1) (l.map (·.2))=gd a l:=by
 intro l
 induction l with
 |nil=>
  exact rfl
 |cons x l ih=>
  show (if eD (mk x.1) (mk a)=true then some x.2 else eA (mk a) (l.map fun x=>mk x.1) (l.map (·.2)))=if x.1=a then some x.2 else gd a l;rw[hk,ih];by_cases h:x.1=a
  .rw[if_pos h,if_pos (Sz h)]
  .rw[if_neg h,if_neg (by rw[Tc h];exact SI)]
theorem yy (hk:∀ a b,eD (mk a) (mk b)=decide (a=b)) (a:α) (v:D):∀ l:List (α×D),ey (mk a) (l.map fun x=>mk x.1)=(jc a v l).map fun x=>mk x.1:=by
 intro l
 induction l with
 |nil=>
  exact rfl
 |cons x l ih=>
  show (if eD (mk x.1) (mk a)=true then mk x.1::l.map (fun x=>mk x.1) else mk x.1::ey (mk a) (l.map fun x=>mk x.1))=(if x.1=a then (x.1,v)::l else x::jc a v l).map fun x=>mk x.1;rw[hk,ih];by_cases h:x.1=a
  .rw[if_pos h,if_pos (Sz h)];rfl
  .rw[if_neg h,if_neg (by rw[Tc h];exact SI)];rfl
theorem yx (hk:∀ a b,eD (mk a) (mk b)=decide (a=b)) (a:α) (v:D):∀ l:List (α×D),ew (mk a) v (l.map fun x=>mk x.1) (l.map (·.2))=(jc a v l).map (·.2):=by
 intro l
 induction l with
 |nil=>
  exact rfl
 |cons x l ih=>
  show (if eD (mk x.1) (mk a)=true then v::l.map (·.2) else x.2::ew (mk a) v (l.map fun x=>mk x.1) (l.map (·.2)))=(if x.1=a then (x.1,v)::l else x::jc a v l).map (·.2);rw[hk,ih];by_cases h:x.1=a
  .rw[if_pos h,if_pos (Sz h)];rfl
  .rw[if_neg h,if_neg (by rw[Tc h];exact SI)];rfl
theorem lK {a b:α}:∀ l:List (α×D),gd b (jc a v l)=if b=a then some v else gd b l:=by
 intro l
 induction l with
 |nil=>
  show (if a=b then some v else none)=if b=a then some v else none;by_cases h:b=a
  .rw[if_pos h,if_pos h.symm]
  .rw[if_neg h,if_neg fun e=>h e.symm]
 |cons x l ih=>
  show gd b (if x.1=a then (x.1,v)::l else x::jc a v l)=if b=a then some v else if x.1=b then some x.2 else gd b l;by_cases h:x.1=a
  .rw[if_pos h];show (if x.1=b then some v else gd b l)=_;by_cases k:b=a
   .rw[if_pos k,if_pos (h.trans k.symm)]
   .rw[if_neg k,if_neg fun e=>k (e.symm.trans h),if_neg fun e=>k (e.symm.trans h)]
  .rw[if_neg h];show (if x.1=b then some x.2 else gd b (jc a v l))=_;rw[ih];by_cases k:b=a
   .rw[if_pos k,if_neg fun e=>h (e.trans k),if_pos k]
   .rw[if_neg k,if_neg k]
theorem lG {a b:α}:∀ l:List (α×D),b∈(jc a v l).map (·.1)<->b=a∨b∈l.map (·.1):=by
 intro l
 induction l with
 |nil=>
  show b∈[a]<->b=a∨b∈[];simp
 |cons x l ih=>
  show b∈(if x.1=a then (x.1,v)::l else x::jc a v l).map (·.1)<->b=a∨b∈x.1::l.map (·.1);by_cases h:x.1=a
  .rw[if_pos h];show b∈x.1::l.map (·.1)<->_;rw[Sj,<-h];constructor
   .intro q;exact .inr q
   .rintro (q|q)
    .exact .inl q
    .exact q
  .rw[if_neg h];show b∈x.1::(jc a v l).map (·.1)<->_;rw[Sj,Sj,ih];constructor
   .rintro (q|q|q)
    .exact .inr (.inl q)
    .exact .inl q
    .exact .inr (.inr q)
   .rintro (q|q|q)
    .exact .inr (.inl q)
    .exact .inl q
    .exact .inr (.inr q)
theorem uA {a:α}:∀ l:List (α×D),(jc a v l).length<=l.length+1:=by
 intro l
 induction l with
 |nil=>
  exact Sv _
 |cons x l ih=>
  show (if x.1=a then (x.1,v)::l else x::jc a v l).length<=_;by_cases h:x.1=a
  .rw[if_pos h];exact S5 _
  .rw[if_neg h];exact Tj (ih)
end
noncomputable abbrev Rw:=List Nat×Int×Int×Int
variable {rs:List Rw}
noncomputable def s6 (x:Rw):D:=.tup [.str x.1,.int x.2.1,.int x.2.2.1,.int x.2.2.2]
noncomputable def Gy (x:Rw):D:=.tup [.int x.2.2.1,.int x.2.2.2]
open Classical in
noncomputable def rX (c:List Nat) (n:Int) (o:Option Rw) (x:Rw):Option Rw:=if x.1=c/\x.2.1<=n/\(∀ y,o=some y->y.2.1<=x.2.1) then some x else o
noncomputable def kT (c:List Nat) (n:Int) (rs:List Rw):Option Rw:=rs.foldl (rX c n) none
theorem ng {n:Int} {x:Rw}:kT c n (rs++[x])=rX c n (kT c n rs) x:=by
 unfold kT;rw[List.foldl_append];rfl
structure Q9 (c:List Nat) (l:List (Int×D)) (n:Int) (y:Rw):Prop where
 c:y.1=c
 m:y.2.1∈l.map (·.1)
 le:y.2.1<=n
 mx:∀ k∈l.map (·.1),k<=n->k<=y.2.1
 at_:gd y.2.1 l=some (Gy y)
structure DB (c:List Nat) (rs:List Rw) (l:List (Int×D)):Prop where
 no:∀ n,kT c n rs=none->∀ k∈l.map (·.1),n<k
 yes:∀ n y,kT c n rs=some y->Q9 c l n y
theorem FV:DB c [] []:=⟨fun _ _ k h=>(by cases h),fun _ _ h=>(by cases h)⟩
theorem zX {l:List (Int×D)} {x:Rw} (h:DB c rs l) (hx:x.1≠c):DB c (rs++[x]) l:=by
 have e:∀ n,kT c n (rs++[x])=kT c n rs:=fun n=>ng.trans (if_neg fun q=>hx q.1);exact ⟨fun n=>by rw[e];exact h.no n,fun n y=>by rw[e];exact h.yes n y⟩
theorem Dh {l:List (Int×D)} {x:Rw} (h:DB c rs l) (hx:x.1=c):DB c (rs++[x]) (jc x.2.1 (Gy x) l):=by
 refine ⟨fun n e k hk=> ?_,fun n y e=> ?_⟩
 .rw[ng] at e;unfold rX at e;split at e
  .cases e
  .next q=>
   rcases (lG l).mp hk with z|z
   .subst z;exact Int.not_le.mp fun z=>q ⟨hx,z,fun y hy=>by rw[e] at hy;cases hy⟩
   .exact h.no n e k z
 .rw[ng] at e;unfold rX at e;split at e
  .next q=>
   cases e;refine ⟨hx,(lG l).mpr (.inl rfl),q.2.1,fun k hk hn=> ?_,(lK l).trans (if_pos rfl)⟩;rcases (lG l).mp hk with z|z
   .exact Int.le_of_eq z
   .cases b:kT c n rs with
    |none=>exact absurd hn (Int.not_le.mpr (h.no n b k z))
    |some y=>exact SS ((h.yes n y b).mx k z hn) (q.2.2 y b)
  .next q=>
   have d:=h.yes n y e;have lt:x.2.1<=n->x.2.1<y.2.1:=fun z=>Int.not_le.mp fun z2=>q ⟨hx,z,fun y' hy=>by rw[e] at hy;cases hy;exact z2⟩;have ne:y.2.1≠x.2.1:=fun z=>absurd (lt (z ▸ d.le)) (Qv z);refine ⟨d.c,(lG l).mpr (.inr d.m),d.le,fun k hk hn=> ?_,(lK l).trans ((if_neg ne).trans d.at_)⟩;rcases (lG l).mp hk with z|z
   .subst z;exact Ti (lt hn)
   .exact d.mx k z hn
section
theorem LB {a:Int} (h:b<=a):NO.g (.int a) (.int b)=some true:=congrArg some (Sz h)
theorem H5 {a:Int} (h:¬b<=a):NO.g (.int a) (.int b)=some false:=congrArg some (Tc h)
theorem nH (a b:List Nat):eD (.str a) (.str b)=decide (a=b):=rfl
theorem Fb (a b:Int):eD (.int a) (.int b)=decide (a=b):=rfl
theorem mZ (f:α->List Nat) (g:List α):kd (.str c) (g.map fun x=>.str (f x))=true:=by
 have:(g.map fun x=>D.str (f x)).all GB=true:=List.all_eq_true.mpr fun x hx=>by
  obtain ⟨y,_,e⟩:=SA.mp hx;rw[<-e];rfl
 show (_||(true&&(g.map fun x=>D.str (f x)).all GB))=true;rw[this];exact Bool.or_true _
theorem q9 {c:Int} (f:α->Int) (g:List α):kd (.int c) (g.map fun x=>.int (f x))=true:=by
 have:(g.map fun x=>D.int (f x)).all Lo=true:=List.all_eq_true.mpr fun x hx=>by
  obtain ⟨y,_,e⟩:=SA.mp hx;rw[<-e];rfl
 show ((true&&(g.map fun x=>D.int (f x)).all Lo)||_)=true;rw[this];rfl
noncomputable def Di (l:List (Int×D)):D:=.dct (l.map fun x=>.int x.1) (l.map (·.2))
variable {n:Int} {m:List (List Nat×D)}
theorem gF {t:CI} {v:PV} {y:D} (hs:bI σ y v=true) (f g:α->D) (p:α->Bool):∀ (xs:List α) (acc:List D),(∀ x∈xs,t.ts K (ρ.set i (dV (f x))) σ=some (.ok (p x),σ))->(∀ x∈xs,p x=true->Ev K cq (ρ.set i (dV (f x))) σ (.d (g x)))->acc.length+xs.length<=1000000->dJ v y i (t.ts K) (cq.ev K) ρ (xs.map f) acc σ=some (.ok (acc++(xs.filter p).map g),σ):=by
 intro xs
 induction xs with
 |nil=>
  intro acc _ _ _;rw[List.map_nil,List.filter_nil,List.map_nil,List.append_nil];rfl
 |cons x xs ih=>
  intro acc h1 h2 hl;rw[Sq] at hl;rw[List.map_cons];show (match t.ts K (ρ.set i (dV (f x))) σ with
   |some (.ok false,σ')=>if bI σ' y v then dJ v y i (t.ts K) (cq.ev K) ρ (xs.map f) acc σ' else none
   |some (.ok true,σ')=>(match cq.ev K (ρ.set i (dV (f x))) σ' with
    |some (.ok (.d z),σ'')=>if bI σ'' y v/\acc.length<dM then dJ v y i (t.ts K) (cq.ev K) ρ (xs.map f) (acc++[z]) σ'' else none
    |some (.ex c,σ'')=>some (.ex c,σ'')
    |_=>none)
   |_=>none)=_
  rw[h1 x (.head _)];cases q:p x with
  |false=>
   rw[List.filter_cons_of_neg (by rw[q];exact SI)];show (if bI σ y v then _ else none)=_;rw[if_pos hs];exact ih acc (fun z hz=>h1 z (.tail _ hz)) (fun z hz=>h2 z (.tail _ hz)) (Nat.le_of_succ_le hl)
  |true=>
   rw[SQ q,List.map_cons,List.append_cons];show (match cq.ev K (ρ.set i (dV (f x))) σ with
    |some (.ok (.d z),σ'')=>if bI σ'' y v/\acc.length<dM then dJ v y i (t.ts K) (cq.ev K) ρ (xs.map f) (acc++[z]) σ'' else none
    |some (.ex c,σ'')=>some (.ex c,σ'')
    |_=>none)=_
   rw[h2 x (.head _) q];show (if bI σ y v/\acc.length<dM then _ else none)=_;rw[if_pos ⟨hs,SJ (Ss (Tf _ _) hl) (by decide)⟩];exact ih (acc++[g x]) (fun z hz=>h1 z (.tail _ hz)) (fun z hz=>h2 z (.tail _ hz)) (by rw[Sk,Su];exact Rv hl)
theorem Fn:∀ l:List Int,qC (l.map .int)=some l:=by
 intro l
 induction l with
 |nil=>
  exact rfl
 |cons x l ih=>
  show (qC (l.map .int)).map (x::·)=_;rw[ih];rfl
theorem KZ {l:List Int} {x:Int} (h1:x∈l) (h2:∀ a∈l,a<=x):FH.g false [.d (.lst (l.map .int))] σ=some (.ok (.d (.int x)),σ):=by
 show Option.map (fun z=>(R.ok (PV.d z),σ)) ((qC (l.map D.int)).bind fun is=>(Cs is).map D.int)=_;rw[Fn,Si];cases e:Cs l with
 |none=>cases l with
  |nil=>cases h1
  |cons a l=>cases e
 |some y=>rw[AV e h1 h2];rfl
noncomputable def Jh (o:Option Rw):R PV:=o.elim (.ex 13) fun y=>.ok (.d (Gy y))
noncomputable def e_ (h:List Nat) (rs:List Rw) (c:List Nat) (n:Int):Option Rw:=if c=h then some (c,0,1,1) else kT c n rs
noncomputable def Ki (o:Option Rw):D:=o.elim .none s6
end
section
variable {n:Int} {m:List (List Nat×D)}
theorem Ge {y:Rw}:∀ {rs:List Rw},kT c n rs=some y->y∈rs:=by
 have key:∀ (rs:List Rw) (o:Option Rw),rs.foldl (rX c n) o=some y->y∈rs∨o=some y:=by
  intro rs
  induction rs with
  |nil=>exact fun o h=>.inr h
  |cons x rs ih=>
   intro o h;rcases ih _ h with z|z
   .exact .inl (.tail _ z)
   .unfold rX at z;split at z
    .cases z;exact .inl (.head _)
    .exact .inr z
 exact fun {rs} h=>(key rs none h).resolve_right nofun
def An (x:Rw):Prop:=(1<=x.2.2.1/\x.2.2.1<=10^9)/\(1<=x.2.2.2/\x.2.2.2<=10^9)
theorem mF {y:Rw} (hr:∀ x∈rs,An x) (e:e_ h rs c n=some y):An y:=by
 unfold e_ at e;split at e
 .cases e;exact ⟨⟨Int.le_refl 1,(by decide:(1:Int)<=10^9)⟩,Int.le_refl 1,(by decide:(1:Int)<=10^9)⟩
 .exact hr y (Ge e)
theorem BI (h:1<=g):c7 g=decide (g<10^30):=by
 unfold c7;rw[Sz (show g≠0 by exact Ne.symm (Int.ne_of_lt h)),Sz (show -(10^30)<g by exact SS (by decide) h),Bool.true_and,Bool.true_and]
end
section
variable {m:List (List Nat×D)} {N:List (List Nat)}
theorem GN {b:CS} {h:CH} {c:Nat} {z:Option (Out×az)} (h1:b.ex (KK d false) ρ σ=some (.ex c ρ',σ')) (hc:c<nX) (k:h.ex (KK d false) c ρ' σ'=z):(Ec b h).ex (KK d false) ρ σ=z:=by
 show GO h (KK d false) (b.ex (KK d false) ρ σ)=z;rw[h1];show (if c<nX then h.ex (KK d false) c ρ' σ' else none)=z;rw[if_pos hc];exact k
noncomputable def Kp:List Nat:=(TP++TQ)++TS
theorem Ko:∀ c∈Kp,32<=c/\c<=126:=by decide
theorem wb {n:Int}:∃ t:List Nat,dK t/\∀ d σ,CC (d+1) false 56 [.d (.int n)] σ=some (.ok (.d (.str t)),σ):=by
 have q:=aZ (a:=n) (b:=41) (by decide);have e:n.fmod 41=(((n.fmod 41).toNat:Nat):Int):=by exact (SZ q.1).symm
 generalize hk:(n.fmod 41).toNat=k at e;have key:∀ (is:List Nat) (t:List Nat),(∀ c∈t,32<=c/\c<=126)->t.length+is.length<=40->(∀ i∈is,i<100)->∃ t',dK t'/\∀ d σ x3,∃ y3,dq (.d (.rng 0 k 1)) (.rng 0 k 1) 3 (fun ρ=>qj.ex (KK d false) ρ) (is.map fun (i:Nat)=>.int i) [iV n,sV Kp,sV t,x3] σ=some (.next [iV n,sV Kp,sV t',y3],σ):=by
  intro is
  induction is with
  |nil=>exact fun t h hl _=>⟨t,⟨hl,h⟩,fun d σ x3=>⟨x3,rfl⟩⟩
  |cons i is ih=>
   intro t h hl hi;rw[Sq] at hl;have g1:=jg (l:=Kp) (a:=n.fdiv 41+n.fdiv 3854*i) (k:=94) (by decide) (by decide);obtain ⟨t',h',lp⟩:=ih (t++[Kp.getD ((n.fdiv 41+n.fdiv 3854*i).fmod 94).toNat 0]) (fun c hc=>by
    rcases SC.mp hc with hc|hc
    .exact h c hc
    .rw[So.mp hc];exact Ko _ (List.mem_of_mem_take g1)) (by rw[Sk,Su];exact Qu hl) (fun j hj=>hi j (.tail _ hj))
   have hi':=hi i (.head _);refine ⟨t',h',fun d σ x3=> ?_⟩;obtain ⟨y3,lp⟩:=lp d σ (iV i);exact ⟨y3,br (aa (av (aO rfl (iG (l:=Kp) rfl (aO (i0 rfl) (aO rfl rfl rfl rfl (hZ (fj (Th hi' (by decide))))) rfl rfl rfl) (by decide) (by decide) (by decide)) rfl rfl (iU (bo (by rw[Su];exact Qt hl)))) rfl) rfl) rfl lp⟩
 obtain ⟨t,ht,lp⟩:=key (List.range k) [] aW (by rw[List.length_range,Tb];exact Qs q e) (fun i hi=>Qr q e (List.mem_range.mp hi));refine ⟨t,ht,fun d σ=> ?_⟩;obtain ⟨y3,lp⟩:=lp d σ none;have m0:=iZ (K:=KK d false) (ρ:=[iV n,sV Kp,sV [],none]) (σ:=σ) (e:=ag 0) (a:=n) (k:=41) rfl (by decide) (by decide);rw[e] at m0;refine a8 rfl rfl (ρ:=[iV n,none,none,none]) rfl ?_ (tk _);refine aa rfl ?_;refine aa rfl ?_;refine aa rfl ?_;refine aa rfl ?_;refine aa (bl (rb m0 (Ru q e)) (dO (hU (Ru q e))) lp) ?_;exact rfl
end
section
variable {N:List (List Nat)} {B C:PO}
theorem Bp (hs:sc.length<=63) (h0:Ev (KK (d+1) hd) e ρ σ (.d (.lst (sc.map .int)))) (h1:Ev (KK (d+1) hd) ke ρ σ (.d (.int k))) (hk:k<=1000):Ev (KK (d+1) hd) (ax 33 (aj e (aj ke ao))) ρ σ (.d (.int (cell sc k))):=aB (cP h0 (cl1 h1)) (F7 hs hk)
variable {p q:Int} {x:Option PV}
theorem HP (h:Ev K e ρ σ (.d (.lst (T.map .str)))) (hl:T.length<=1000):Ev K (bi bf (aj e ao)) ρ σ (.d (.int T.length)):=by
 have q:=ku (hd:=K.hd) (σ:=σ) (x:=.d (.lst (T.map .str))) rfl (by rw[Sg];exact bo hl);rw[Sg] at q;exact ca (cl1 h) q
end
section
theorem LU {p s f:Nat} {b:CS} {args:List PV} (hT:TT f=some ⟨p,s,true,b.ex⟩) (hl:args.length=p) (hr:args.map some++List.replicate (s - p) none=ρ) (h:b.ex (KK d hd) ρ σ=some (.ret (.p m 0),σ')) (hm:σ.length<=m) (ho:σ'[m]? =some (.fld f')) (k:σ'.take σ.length++[.fld f']=σ''):CC (d+1) hd f args σ=some (.ok (.p σ.length 0),σ''):=
 rm hT hl hr h (by
  show (if m<σ.length then _ else Cd true σ.length σ' 0 σ'[m]?)=_;rw[if_neg (Tm.mpr hm),ho,<-k];rfl)
variable {n:Int}
variable {a c2:List Nat} {fw:Int}
theorem p9:Ev K (aK yD (ah 10) (ah 9)) ρ σ (.d (.int (10^9))):=rfl
end
section
variable {N:List (List Nat)} {u w:Rw}
open Classical in
theorem FK {u:D} (p1:pl 8 u=true) (p2:pl 8 v=true) (hf:LL u v=none):dp.g u v=some (decide (u=v)):=by
 show NH u v=_;unfold NH;rw[hf];show QU u v=_;unfold QU au;rw[if_pos (by rw[p1,p2];rfl)]
theorem FL {u:D} (h:u=v) (p:pl 8 u=true) (hf:LL u v=none):dp.g u v=some true:=(FK p (h ▸ p) hf).trans (congrArg some (@Sz _ (_) h))
theorem JG {u:D} (h:u≠v) (p1:pl 8 u=true) (p2:pl 8 v=true) (hf:LL u v=none):dp.g u v=some false:=(FK p1 p2 hf).trans (congrArg some (@Tc _ (_) h))
theorem Jv {u:D} (h:u=v) (p:pl 8 u=true) (hf:LL u v=none):gU.g u v=some false:=congrArg (Option.map fun c=> !c) (FL h p hf)
end
section
theorem J5 (h:1<=l.length) (hl:l.length<=1000):cz (.lst l) (.int 1) .none=some (.lst (l.drop 1)):=by
 have e:∀ i:Int,cz (.lst l) (.int i) .none=(au (l.length<=dM) ()).bind fun _=>(au (bS i=true) i).bind fun a=>some (.lst (bJ l (dm a l.length) (dm l.length l.length))):=fun _=>rfl;rw[e,aS (bo hl),Si,aS (by decide),Si];have c1:dm 1 l.length=1:=by
  unfold dm;rw[if_neg (by decide)];show min 1 l.length=1;exact Nat.min_eq_left h
 have c2:dm l.length l.length=l.length:=by
  unfold dm;rw[if_neg (Gz),Int.toNat_natCast,Nat.min_self]
 rw[c1,c2,bJ,List.take_of_length_le (by rw[List.length_drop];exact Sv _)]
variable {N:List (List Nat)} {u w:Rw} {n1:List Nat}
end
noncomputable abbrev bG:=List Nat×List Nat×Int
variable {ls:List bG}
structure i_ where
 no:Int
 day:Int
 note:List Nat
 lines:List bG
 back:Int
variable {es:List i_}
structure St where
 home:List Nat
 names:List (List Nat)
 tk:List D
 tv:List D
 made:List i_
 gone:List Int
 ends:List Int
 deeds:List D
variable {S S':St}
noncomputable def bF (l:bG):D:=.tup [.str l.1,.str l.2.1,.int l.2.2]
noncomputable def dt (e:i_):D:=.tup [.int e.no,.int e.day,.str e.note,.tup (e.lines.map bF),.int e.back]
noncomputable def mX (S:St):List cU:=[.d (.str S.home),.list (S.names.map .str),.dict S.tk S.tv,.list (S.made.map dt),.dict (S.gone.map .int) (S.gone.map fun _=>.bool true),.list (S.ends.map .int),.list S.deeds]
noncomputable def bk (S:St):PO:=.rcd true (mX S)
noncomputable def cl (l:List Int):Int:=if l.length=0 then -1 else l.getD (l.length - 1) 0
structure Sh (S:St):Prop where
 n:S.names.length<=1000
 t:S.tk.length<=1000
 m:S.made.length<=1000
 g:S.gone.length<=1000
 e:S.ends.length<=1000
 d:S.deeds.length<=1000
abbrev Bk (σ:az) (n:Nat) (S:St):Prop:=σ[n]? =some (bk S)
section
variable {o:PO} {l:az}
theorem Bk.lt (h:Bk σ n S):n<σ.length:=(Sl.mp h).1
theorem eZ (h:n<σ.length):Bk (σ.set n (bk S)) n S:=List.getElem?_set_self h
theorem Bk.app (h:Bk σ n S):Bk (σ++l) n S:=by
 show (σ++l)[n]? =_;rw[S7 h.lt];exact h
theorem GZ (h:n<σ.length):(σ++l).set n o=σ.set n o++l:=List.set_append_left _ _ h
theorem iq:(σ.set n o).take σ.length=σ.set n o:=by
 have:=List.take_length (l:=σ.set n o);rw[SL] at this;exact this
theorem yi:(σ.set n o++l).take σ.length=σ.set n o:=by
 have:=List.take_left (l₁:=σ.set n o) (l₂:=l);rw[SL] at this;exact this
theorem Bk.same (h:Bk σ n S):σ.set n (bk S)=σ:=by
 obtain ⟨hl,e⟩:=Sl.mp h;rw[<-e];exact List.set_getElem_self hl
theorem Ll (h:Bk σ n S):No (.p n 0) σ=some (.ok (),σ):=by
 show (df true σ n).map _=_;unfold df;rw[h];rfl
theorem iI (h:Bk σ n S) (he:Ev K e ρ σ (.p n 0)) (hf:(mX S)[k]? =some f):Ev K (b_ e k) ρ σ (Db n k f):=by
 refine aC he ?_;show (df true σ n).bind _=_;unfold df;rw[h];show ((mX S)[k]?).map _=_;rw[hf];rfl
theorem kL (h:Bk σ n S) (hf:(mX S)[j]? =some f):ck σ n (j+2)=some f:=by
 unfold ck;rw[h];exact hf
theorem s9 {x:D} (h:Bk σ n S) (hf:(mX S)[j]? =some f) (hx:f.rd=some x):rd σ (.p n (j+2))=some x:=by
 show (ck σ n (j+2)).bind _=_;rw[kL h hf];exact hx
theorem mH (h:Bk σ n S) (hf:(mX S).set j f=mX S'):dH σ n (j+2) f=σ.set n (bk S'):=by
 unfold dH;rw[h];show σ.set n (.rcd true ((mX S).set (j+2 - 2) f))=_;rw[Nat.add_sub_cancel,hf];rfl
theorem j8 (h:Bk σ n S) (he:Ev K e ρ σ (.p n 0)):Ev K (b_ e 0) ρ σ (.d (.str S.home)):=iI (f:=.d (.str S.home)) h he rfl
theorem jK (h:Bk σ n S) (he:Ev K e ρ σ (.p n 0)):Ev K (b_ e 1) ρ σ (.p n 3):=iI (f:=.list (S.names.map .str)) h he rfl
theorem vi (h:Bk σ n S) (he:Ev K e ρ σ (.p n 0)):Ev K (b_ e 2) ρ σ (.p n 4):=iI (f:=.dict S.tk S.tv) h he rfl
theorem md (h:Bk σ n S) (he:Ev K e ρ σ (.p n 0)):Ev K (b_ e 3) ρ σ (.p n 5):=iI (f:=.list (S.made.map dt)) h he rfl
theorem BH (h:Bk σ n S) (he:Ev K e ρ σ (.p n 0)):Ev K (b_ e 4) ρ σ (.p n 6):=iI (f:=.dict (S.gone.map .int) (S.gone.map fun _=>.bool true)) h he rfl
theorem me (h:Bk σ n S) (he:Ev K e ρ σ (.p n 0)):Ev K (b_ e 5) ρ σ (.p n 7):=iI (f:=.list (S.ends.map .int)) h he rfl
theorem xS (h:Bk σ n S) (he:Ev K e ρ σ (.p n 0)):Ev K (b_ e 6) ρ σ (.p n 8):=iI (f:=.list S.deeds) h he rfl
theorem lr (h:Bk σ n S):rd σ (.p n 3)=some (.lst (S.names.map .str)):=s9 (f:=.list (S.names.map .str)) h rfl rfl
theorem AH (h:Bk σ n S):rd σ (.p n 4)=some (.dct S.tk S.tv):=s9 (f:=.dict S.tk S.tv) h rfl rfl
theorem jX (h:Bk σ n S):rd σ (.p n 5)=some (.lst (S.made.map dt)):=s9 (f:=.list (S.made.map dt)) h rfl rfl
theorem Hb (h:Bk σ n S):rd σ (.p n 6)=some (.dct (S.gone.map .int) (S.gone.map fun _=>.bool true)):=s9 (f:=.dict (S.gone.map .int) (S.gone.map fun _=>.bool true)) h rfl rfl
theorem oQ (h:Bk σ n S):rd σ (.p n 7)=some (.lst (S.ends.map .int)):=s9 (f:=.list (S.ends.map .int)) h rfl rfl
theorem vV (h:Bk σ n S):rd σ (.p n 8)=some (.lst S.deeds):=s9 (f:=.list S.deeds) h rfl rfl
theorem a' {f:Nat} {l:CL} (b:Bk σ n S) (h0:Ev (KK d hd) e ρ σ (.p n 0)) (h:l.ev (KK d hd) ρ σ=some (.ok xs,σ)) (k:CC d hd f (.p n 0::xs) σ=z):(meth e f l).ev (KK d hd) ρ σ=z:=Ik h0 (Ll b) h k
theorem fv {l:List D} (h:Ev K e ρ σ x) (r:rd σ x=some (.lst l)) (hl:l.length<=1000):Ev K (bi bf (aj e ao)) ρ σ (.d (.int l.length)):=ca (cl1 h) (ku r (bo hl))
theorem tg (b:Bk σ n S) (sh:S.made.length<=1000) (h:Ev K e ρ σ (.p n 0)):Ev K (bi bf (aj (b_ e 3) ao)) ρ σ (.d (.int S.made.length)):=by
 have q:=fv (md b h) (jX b) (by rw[Sg];exact sh);rw[Sg] at q;exact q
theorem qt (b:Bk σ n S) (sh:Sh S) (h:Ev K e ρ σ (.p n 0)):Ev K (bi bf (aj (b_ e 3) ao)) ρ σ (.d (.int S.made.length)):=tg b sh.m h
theorem wL (b:Bk σ n S) (sh:Sh S) (h:Ev K e ρ σ (.p n 0)):Ev K (bi bf (aj (b_ e 5) ao)) ρ σ (.d (.int S.ends.length)):=by
 have q:=fv (me b h) (oQ b) (by rw[Sg];exact sh.e);rw[Sg] at q;exact q
theorem kO (b:Bk σ n S) (sh:Sh S):CC (d+1) hd 2 [.p n 0] σ=some (.ok (.d (.int (cl S.ends))),σ):=by
 have e:Ev (KK d hd) (bi bf (aj (b_ (ag 0) 5) ao)) [qV n] σ (.d (.int S.ends.length)):=wL b sh rfl;unfold cl;by_cases q:S.ends.length=0
 .rw[if_pos q];exact a8 rfl rfl rfl (aM (bP (ak e rfl rfl rfl (m5 (by rw[q];rfl))) rfl)) (tk _)
 .rw[if_neg q];refine a8 rfl rfl rfl (aa (aX (ak e rfl rfl rfl (xw (Int.ofNat_ne_zero.mpr q))) rfl) (aM (aF (bc (me b rfl) (aO e rfl rfl rfl rfl) (oQ b) rfl (w:=.int (S.ends.length - 1)) ?_)))) (tk _);have hk:S.ends.length - 1<S.ends.length:=by exact Nat.sub_one_lt q
  have:=b7 (l:=S.ends.map D.int) (k:=S.ends.length - 1) (z:=.int (S.ends.getD (S.ends.length - 1) 0)) (by rw[SB,Sn hk,SD,Sn hk];rfl) (Qq sh.e);rw[show ((S.ends.length:Int) - 1)=((S.ends.length - 1:Nat):Int) by exact (Int.ofNat_sub (Nat.one_le_of_lt hk)).symm];exact this
theorem iu (b:Bk σ n S) (sh:Sh S) (h:bq t) (hc:cl S.ends<t):CC (d+2) hd 4 [.p n 0,.d (.int t)] σ=some (.ok (.d .none),σ):=
 dL rfl rfl rfl (aa (aA (aY (cJ h) rfl)) (aa (aX (ak rfl (a' b rfl rfl (kO b sh)) rfl rfl (Nj (Int.not_le.mpr hc))) rfl) rfl)) (tk _)
theorem oU (b:Bk σ n S) (sh:Sh S) (h:bq t) (hc:t<=cl S.ends):CC (d+2) false 4 [.p n 0,.d (.int t)] σ=some (.ex 8,σ):=
 fy rfl rfl rfl (aa (aA (aY (cJ h) rfl)) (dA (bP (ak rfl (a' b rfl rfl (kO b sh)) rfl rfl (wM hc)) rfl))) (tk _)
theorem v7 (h:¬bq t):CC (d+2) false 4 [.p n 0,.d (.int t)] σ=some (.ex 4,σ):=
 fy rfl rfl rfl (dA (fJ (aY (wd h) rfl))) (tk _)
theorem de {a:List Nat} (b:Bk σ n S) (h:a∈S.names):CC (d+1) hd 15 [.p n 0,.d (.str a)] σ=some (.ok (.d .none),σ):=
 dL rfl rfl rfl (aa (aX (ak rfl (jK b rfl) rfl (lr b) (AS h)) rfl) rfl) (tk _)
theorem m6 {t:i_} (b:Bk σ n S) (sh:Sh S) (h:S.made[k]? =some t):CC (d+1) hd 8 [.p n 0,.d (.int (k+1))] σ=some (.ok (.d (dt t)),σ):=by
 have hk:=(Sl.mp h).1;have sm:=sh.m;refine a8 rfl rfl rfl (aa (aX (bN (bz rfl (bz (ak rfl (qt b sh rfl) rfl rfl (ol (Tn.mpr (SV.mpr hk)))) rfl))) rfl) (aM (aF (bc (md b rfl) rfl (jX b) rfl (w:=.int ((k:Int)+1 - 1)) ?_)))) (tk _);rw[Int.add_sub_cancel];exact b7 (by rw[SB,h];rfl) (MR hk sm)
theorem FO {k:Int} (b:Bk σ n S) (sh:Sh S) (h:k<1∨S.made.length<k):CC (d+1) false 8 [.p n 0,.d (.int k)] σ=some (.ex 12,σ):=by
 refine fy rfl rfl rfl (dA (bP (bN ?_) rfl)) (tk _);by_cases q:k<1
 .exact gr (ak rfl rfl rfl rfl (CQ q))
 .exact bz (ak rfl rfl rfl rfl (j_ q)) (gr (ak rfl (qt b sh rfl) rfl rfl (zx (h.resolve_left q))))
theorem ER {t:i_} (b:Bk σ n S) (sh:S.made.length<=1000) (he:Ev K e ρ σ (.p n 0)) (h:Ev K a ρ σ (.d (dt t))):(bm aT (b_ e 3) (aj a ao)).ev K ρ σ=some (.ok (.d .none),σ.set n (bk {S with made:=S.made++[t]})):=by
 have q:=cb (md b he) h (kL (j:=3) b rfl) (by rw[Sg];exact db sh);rw[mH b (S':={S with made:=S.made++[t]}) (by simp only [mX,List.map_append];rfl)] at q;exact q
theorem Cp {t:List Nat} (b:Bk σ n S) (sh:S.names.length<=1000) (he:Ev K e ρ σ (.p n 0)) (h:Ev K a ρ σ (.d (.str t))):(bm aT (b_ e 1) (aj a ao)).ev K ρ σ=some (.ok (.d .none),σ.set n (bk {S with names:=S.names++[t]})):=by
 have q:=cb (jK b he) h (kL (j:=1) b rfl) (by rw[Sg];exact db sh);rw[mH b (S':={S with names:=S.names++[t]}) (by simp only [mX,List.map_append];rfl)] at q;exact q
theorem FP (b:Bk σ n S) (sh:S.ends.length<=1000) (he:Ev K e ρ σ (.p n 0)) (h:Ev K a ρ σ (.d (.int t))):(bm aT (b_ e 5) (aj a ao)).ev K ρ σ=some (.ok (.d .none),σ.set n (bk {S with ends:=S.ends++[t]})):=by
 have q:=cb (me b he) h (kL (j:=5) b rfl) (by rw[Sg];exact db sh);rw[mH b (S':={S with ends:=S.ends++[t]}) (by simp only [mX,List.map_append];rfl)] at q;exact q
theorem h_ {x:D} (b:Bk σ n S) (sh:S.deeds.length<=1000) (he:Ev K e ρ σ (.p n 0)) (h:Ev K a ρ σ (.d x)):(bm aT (b_ e 6) (aj a ao)).ev K ρ σ=some (.ok (.d .none),σ.set n (bk {S with deeds:=S.deeds++[x]})):=by
 have q:=cb (xS b he) h (kL (j:=6) b rfl) (db sh);rw[mH b (S':={S with deeds:=S.deeds++[x]}) rfl] at q;exact q
theorem m7 {day back:Int} (b:Bk σ n S) (sh:S.made.length<=1000):CC (d+1) hd 7 [.p n 0,.d (.int day),.d (.str note),.d (.tup (ls.map bF)),.d (.int back)] σ=some (.ok (.d (.int (S.made.length+1))),σ.set n (bk {S with made:=S.made++[⟨S.made.length+1,day,note,ls,back⟩]})):=
 a8 rfl rfl rfl (aa (av (aO (tg b sh rfl) rfl rfl rfl rfl) rfl) (aa (aA (ER (t:=⟨S.made.length+1,day,note,ls,back⟩) b sh rfl (bv rfl))) rfl)) iq
end
noncomputable def oI (a:List Nat):D:=.tup [.str TC,.str a]
noncomputable def gq (n:Int):D:=.tup [.str TI,.int n]
noncomputable def vX (c:List Nat) (n t b:Int):D:=.tup [.str TD,.str c,.int n,.int t,.int b]
noncomputable def fc (n:Int) (note:List Nat) (ls:List bG):D:=.tup [.str Tz,.int n,.str note,.tup (ls.map bF)]
noncomputable def l8 (n:Int) (note g one:List Nat) (a:Int) (t aE:List Nat):D:=.tup [.str TA,.int n,.str note,.str g,.str one,.int a,.str t,.str aE]
noncomputable def told (S:St) (c:List Nat) (n t b:Int) (ks vs:List D):St:={S with tk:=ey (.str c) S.tk,tv:=ew (.str c) (.dct (ey (.int n) ks) (ew (.int n) (.tup [.int t,.int b]) ks vs)) S.tk S.tv,deeds:=S.deeds++[vX c n t b]}
noncomputable def fA (S:St) (a:List Nat):St:={S with names:=S.names++[a],deeds:=S.deeds++[oI a]}
noncomputable def ui (S:St) (t:Int) (note:List Nat) (ls:List bG):St:={S with made:=S.made++[⟨S.made.length+1,t,note,ls,0⟩],deeds:=S.deeds++[fc t note ls]}
noncomputable def Bs (S:St) (t:Int):St:={S with ends:=S.ends++[t],deeds:=S.deeds++[gq t]}
section
variable {o:PO} {l:az}
theorem vI {o:PO}:((σ.set n o').set n o).take σ.length=σ.set n o:=by rw[List.set_set];exact iq
theorem jR {a:List Nat} (b:Bk σ n S) (sh:Sh S) (h:gS a) (hn:a∉S.names):CC (d+2) false 37 [.p n 0,.d (.str a)] σ=some (.ok (.d .none),σ.set n (bk (fA S a))):=
 dL rfl rfl (ρ:=[qV n,sV a]) rfl (aa (aX (jd (eT (aY (qz h) rfl))) rfl) (aa (aX (ak rfl (jK b rfl) rfl (lr b) (HX hn)) rfl) (aa (aA (Cp b sh.n rfl rfl)) (aa (aA (h_ (S:={S with names:=S.names++[a]}) (eZ b.lt) sh.d rfl (bv rfl))) rfl)))) vI
theorem xF (b:Bk σ n S) (sh:Sh S) (h:bq t) (hc:cl S.ends<t) (hl:S.ends.length<=900):CC (d+3) false 11 [.p n 0,.d (.int t)] σ=some (.ok (.d (.int (S.ends.length+1))),σ.set n (bk (Bs S t))):=by
 have q:=fv (K:=KK (d+2) false) (ρ:=[qV n,iV t]) (σ:=(σ.set n (bk {S with ends:=S.ends++[t]})).set n (bk {S with ends:=S.ends++[t],deeds:=S.deeds++[gq t]})) (e:=b_ (ag 0) 5) (x:=.p n 7) (l:=(S.ends++[t]).map .int) (me (S:={S with ends:=S.ends++[t],deeds:=S.deeds++[gq t]}) (eZ (by rw[SL];exact b.lt)) rfl) (oQ (S:={S with ends:=S.ends++[t],deeds:=S.deeds++[gq t]}) (eZ (by rw[SL];exact b.lt))) (by rw[Sg,Sk,Su];exact Ss (Tj hl) (Sp rfl));rw[Sg,Sk] at q;exact a8 rfl rfl (ρ:=[qV n,iV t]) rfl (aa (aA (a' b rfl rfl (iu b sh h hc))) (aa (aA (FP b sh.e rfl rfl)) (aa (aA (h_ (S:={S with ends:=S.ends++[t]}) (eZ b.lt) sh.d rfl (bv rfl))) (aM (aF q))))) vI
theorem F3 {c:Nat} (b:Bk σ n S) (h:CC (d+2) false 4 [.p n 0,.d (.int t)] σ=some (.ex c,σ)):CC (d+3) false 11 [.p n 0,.d (.int t)] σ=some (.ex c,σ):=
 fy rfl rfl rfl (dA (fJ (a' b rfl (cl1 rfl) h))) (tk _)
theorem mY {k:D} (h:kd k ks=true):ks.all xo=true:=by
 have h:((Lo k&&ks.all Lo)||(GB k&&ks.all GB))=true:=h;refine List.all_eq_true.mpr fun x hx=> ?_;rcases (Bool.or_eq_true _ _).mp h with z|z
 .have:=List.all_eq_true.mp (an z) x hx;cases x<;>first|rfl|cases this
 .have:=List.all_eq_true.mp (an z) x hx;cases x<;>first|rfl|cases this
theorem Im (h:Ev K a ρ σ (.d (.dct ks vs))) (hl:ks.length<=100000) (hf:ks.all xo=true):(bi Bm (aj a ao)).ev K ρ σ=some (.ok (.p σ.length 0),σ++[.fld (.dict ks vs)]):=by
 refine ca (cl1 h) ?_;show ((au (ks.length<=100000/\ks.all xo=true) ()).bind fun _=>iW (.fld (.dict ks vs)) σ)=_;rw[aS ⟨hl,hf⟩];rfl
theorem GR {u v:Int} (b:Bk σ n S) (sh:Sh S) (hc:bh c=true) (hn:bq t) (hk:cl S.ends<t) (hh:c≠S.home) (ht:1<=u/\u<=10^9) (hb:1<=v/\v<=10^9) (e:(eA (.str c) S.tk S.tv).getD (.dct [] [])= .dct ks vs) (f1:kd (.str c) S.tk=true) (f2:kd (.int t) ks=true) (l1:ks.length<1000):
  CC (d+3) false 6 [.p n 0,.d (.str c),.d (.int t),.d (.int u),.d (.int v)] σ=some (.ok (.d .none),σ.set n (bk (told S c t u v ks vs))):=by
 have g:=zR (K:=KK (d+2) false) (ρ:=[qV n,sV c,iV t,iV u,iV v,none]) (σ:=σ) (o:=b_ (ag 0) 2) (x:=.p n 4) (a:=ag 1) (b:=Bv) (ks:=S.tk) (vs:=S.tv) (k:=.str c) (z:=.dct [] []) (vi b rfl) (AH b) rfl rfl f1;rw[e] at g;have s1:=oO (σ:=σ++[.fld (.dict ks vs)]) (n:=σ.length) (j:=0) (k:=.int t) (v:=.tup [.int u,.int v]) cV (t8 (vs:=vs) f2 (Ss l1 (Sp rfl)));rw[dZ] at s1;have b':Bk (σ++[.dead]) n S:=b.app;have s2:=oO (σ:=σ++[.dead]) (n:=n) (j:=4) (k:=.str c) (v:=.dct (ey (.int t) ks) (ew (.int t) (.tup [.int u,.int v]) ks vs)) (kL (j:=2) b' rfl) (t8 (vs:=S.tv) f1 (by have:=sh.t;exact SJ this (Sp rfl)));rw[mH (j:=2) b' (S':={S with tk:=ey (.str c) S.tk,tv:=ew (.str c) (.dct (ey (.int t) ks) (ew (.int t) (.tup [.int u,.int v]) ks vs)) S.tk S.tv}) rfl] at s2;refine dL rfl rfl (ρ:=[qV n,sV c,iV t,iV u,iV v,none]) rfl (aa (aA (aB (cl1 rfl) (bO hc))) (aa (aA (a' b rfl rfl (iu b sh hn hk))) (aa (aX (bN (bz (ak rfl (j8 b rfl) rfl rfl (eV hh)) (bz (kD (tV rfl rfl rfl rfl rfl rfl (wM ht.1) (wM ht.2))) (bz (kD (tV rfl rfl rfl rfl rfl rfl (wM hb.1) (wM hb.2))) rfl)))) rfl) (aa (av (Im g (Ss (SY l1) (Sp rfl)) (mY f2)) rfl)
  (aa (jU (bv rfl) rfl rfl s1) (pg rfl (ph rfl) (aa (jU rfl (vi b' rfl) rfl s2) (aa (aA (h_ (S:={S with tk:=ey (.str c) S.tk,tv:=ew (.str c) (.dct (ey (.int t) ks) (ew (.int t) (.tup [.int u,.int v]) ks vs)) S.tk S.tv}) (eZ b'.lt) sh.d rfl (bv rfl))) rfl)))))))) ?_
 rw[List.set_set,GZ b.lt];exact yi
theorem GS {a2 a3:PV} (b:Bk σ n S) (hc:bh c=true) (h:CC (d+2) false 4 [.p n 0,.d (.int t)] σ=some (.ex k,σ)):CC (d+3) false 6 [.p n 0,.d (.str c),.d (.int t),a2,a3] σ=some (.ex k,σ):=
 fy rfl rfl rfl (aa (aA (aB (cl1 rfl) (bO hc))) (dA (fJ (a' b rfl (cl1 rfl) h)))) (tk _)
theorem uH {a:Int} {b:Bool} (h:c7 a=b):CC (d+1) hd 12 [.d (.int a)] σ=some (.ok (.d (.bool b)),σ):=h ▸ so
structure vw (S:St) (l:bG):Prop where
 n:l.1∈S.names
 c:bh l.2.1=true
 a:c7 l.2.2=true
theorem HM {x:bG} (b:Bk σ n S) (h:vw S x):CC (d+2) false 19 [.p n 0,.d (bF x)] σ=some (.ok (.d .none),σ):=
 dL rfl rfl (ρ:=[qV n,dV (bF x)]) rfl (aa (aA (a' b rfl rfl (de b h.n))) (aa (aA (aB rfl (bO h.c))) (aa (aX (jd (eT (aB rfl (uH h.a)))) rfl) rfl))) (tk _)
theorem zf {w:PV} (b:Bk σ n S) (hs:bI σ v w=true) (h:∀ l∈ls,vw S l):∀ {m note o4:PV} {o:Option PV},∃ o',dq w v 4 (fun ρ=>(sC (aP (meth (ag 0) 19 (aj (ag 4) ao))) sN).ex (KK (d+2) false) ρ) (ls.map bF) [qV n,some m,some note,some o4,o,none,none] σ=some (.next [qV n,some m,some note,some o4,o',none,none],σ):=by
 induction ls with
 |nil=>exact ⟨_,rfl⟩
 |cons l ls ih=>
  intro m note o4 o;obtain ⟨o',e⟩:=ih (fun x hx=>h x (.tail _ hx)) (m:=m) (note:=note) (o4:=o4) (o:=dV (bF l));exact ⟨o',br (aa (aA (a' b rfl (cl1 rfl) (HM b (h l (.head _))))) rfl) hs e⟩
theorem vZ (b:Bk σ n S) (sh:Sh S) (hn:bq t) (hk:cl S.ends<t) (ht:dK note) (hl:2<=ls.length/\ls.length<=60) (h:∀ l∈ls,vw S l) (hb:CC (d+2) false 18 [.d (.lst (ls.map bF))] σ=some (.ok (.d (.bool q)),σ)):
  CC (d+3) false 20 [.p n 0,.d (.int t),.d (.str note),.d (.lst (ls.map bF))] σ=some (bif q then (.ok (.d (.int (S.made.length+1))),σ.set n (bk (ui S t note ls))) else (.ex 7,σ)):=by
 obtain ⟨o',lp⟩:=zf (d:=d) (v:=.lst (ls.map bF)) (w:=.d (.lst (ls.map bF))) b rfl h (m:=.d (.int t)) (note:=.d (.str note)) (o4:=.d (.lst (ls.map bF))) (o:=none);have hlen:(ls.map bF).length=ls.length:=Sg ..;have ll:Ev (KK (d+2) false) (bi bf (aj (ag 3) ao)) [qV n,iV t,sV note,dV (.lst (ls.map bF)),none,none,none] σ (.d (.int ls.length)):=by
  have e:=ku (hd:=false) (σ:=σ) (x:=.d (.lst (ls.map bF))) rfl (by rw[hlen];exact bo (PK hl));rw[hlen] at e;exact ca rfl e
 have it:items (.lst (ls.map bF))=some (ls.map bF):=if_pos (by rw[hlen];exact bo (PK hl));have pre:∀ z,_=z->BD.ex (KK (d+2) false) [qV n,iV t,sV note,dV (.lst (ls.map bF)),none,none,none] σ=z:=fun z hz=>aa (aA (a' b rfl rfl (iu b sh hn hk))) (aa (aA (aB rfl (iw ht))) (aa (aX (bN (bz (ak ll rfl rfl rfl (j_ (Tn.mpr (SV.mpr hl.1)))) (bz (ak ll rfl rfl rfl (ol (Tn.mpr (SV.mpr hl.2)))) rfl))) rfl) (aa (bl rfl (dO it) lp) hz)));cases q with
 |false=>exact fy rfl rfl rfl (pre _ (dA (bP (I9 (eT (aB (cl1 rfl) hb))) rfl))) (tk _)
 |true=>
 refine a8 rfl rfl rfl (pre _ (aa (aX (jd (eT (aB (cl1 rfl) hb))) rfl) ?_)) (vI (o':=bk {S with deeds:=S.deeds++[fc t note ls]}));have kept:Ev (KK (d+2) false) (bi iF (aj (n8 false (gt 6 (ag 3) fG (bx (aj (sub (ag 6) (ah 0)) (aj (sub (ag 6) (ah 1)) (aj (sub (ag 6) (ah 2)) ao)))))) ao)) [qV n,iV t,sV note,dV (.lst (ls.map bF)),o',none,none] σ (.d (.tup (ls.map bF))):=by
  refine ca (cl1 (lU (eJ rfl (dO it) (eM bF bF ls [] (fun l hl=>bv rfl) (by rw[Tb];exact Qp hl))))) ?_;show (au ((ls.map bF).length<=dM) (D.tup (ls.map bF))).map _=_;rw[aS (by rw[hlen];exact bo (PK hl))];rfl
 exact aa (av kept rfl) (aa (aA (h_ b sh.d rfl (bv rfl))) (aM (aF (a' (S:={S with deeds:=S.deeds++[fc t note ls]}) (eZ b.lt) rfl rfl (m7 (S:={S with deeds:=S.deeds++[fc t note ls]}) (eZ b.lt) sh.m)))))
theorem Hg {a1 a2:PV} (b:Bk σ n S) (h:CC (d+2) false 4 [.p n 0,.d (.int t)] σ=some (.ex k,σ)):CC (d+3) false 20 [.p n 0,.d (.int t),a1,a2] σ=some (.ex k,σ):=
 fy rfl rfl rfl (dA (fJ (a' b rfl (cl1 rfl) h))) (tk _)
end
structure rM (S:St) (rs:List Rw) (m:List (List Nat×D)):Prop where
 k:S.tk=m.map fun x=>.str x.1
 v:S.tv=m.map (·.2)
 d:∀ c,∃ l:List (Int×D),(gd c m).getD (.dct [] [])=Di l/\DB c rs l/\l.length<=rs.length
 ml:m.length<=rs.length
section
variable {n:Int} {m:List (List Nat×D)}
theorem DT (T:rM S rs m) (sh:Sh S) (hc:bh c=true) (hn:bq n) (hk:cl S.ends<n) (hh:c≠S.home) (ht:1<=t/\t<=10^9) (hb:1<=b/\b<=10^9) (hr:rs.length<=900):
  ∃ ks vs m',rM (told S c n t b ks vs) (rs++[(c,n,t,b)]) m'/\∀ d σ i,Bk σ i S->CC (d+3) false 6 [.p i 0,.d (.str c),.d (.int n),.d (.int t),.d (.int b)] σ=some (.ok (.d .none),σ.set i (bk (told S c n t b ks vs))):=by
 obtain ⟨l,e,W,hl⟩:=T.d c;have e':(eA (.str c) S.tk S.tv).getD (.dct [] [])= .dct (l.map fun x=>.int x.1) (l.map (·.2)):=by rw[T.k,T.v,lL nH];exact e
 refine ⟨l.map fun x=>.int x.1,l.map (·.2),jc c (Di (jc n (Gy (c,n,t,b)) l)) m,⟨?_,?_,fun c'=> ?_,?_⟩,fun d σ i q=>GR q sh hc hn hk hh ht hb e' (by rw[T.k];exact mZ (·.1) m) (q9 (·.1) l) (by rw[Sg];exact SJ hl (SJ hr (Sp rfl)))⟩
 .show ey (.str c) S.tk=_;rw[T.k];exact yy nH c _ m
 .show ew (.str c) (.dct (ey (.int n) (l.map fun x=>.int x.1)) (ew (.int n) (.tup [.int t,.int b]) (l.map fun x=>.int x.1) (l.map (·.2)))) S.tk S.tv=_;rw[T.k,T.v,yy Fb n (.tup [.int t,.int b]) l,yx Fb n (.tup [.int t,.int b]) l];exact yx nH c _ m
 .rw[lK];by_cases q:c'=c
  .rw[if_pos q,q];exact ⟨_,rfl,Dh (x:=(c,n,t,b)) W rfl,by rw[Sk];exact Ss (uA l) (Nat.add_le_add_right hl 1)⟩
  .rw[if_neg q];obtain ⟨l',e1,D1,h1⟩:=T.d c';exact ⟨l',e1,zX D1 fun z=>q z.symm,by rw[Sk];exact Nat.le_add_right_of_le h1⟩
 .rw[Sk];exact Ss (uA m) (Nat.add_le_add_right T.ml 1)
theorem Eu (B:Bk σ i S) (T:rM S rs m) (hc:bh c=true) (hn:bq n) (hh:c≠S.home) (hr:rs.length<=900):CC (d+2) false 14 [.p i 0,.d (.str c),.d (.int n)] σ=some (Jh (kT c n rs),σ):=by
 obtain ⟨l,e,W,hl⟩:=T.d c;have g:=zR (K:=KK (d+1) false) (ρ:=[qV i,sV c,iV n,none,none,none]) (σ:=σ) (o:=b_ (ag 0) 2) (x:=.p i 4) (a:=ag 1) (b:=Bv) (ks:=S.tk) (vs:=S.tv) (k:=.str c) (z:=.dct [] []) (vi B rfl) (AH B) rfl rfl (by rw[T.k];exact mZ (·.1) m);rw[T.k,T.v,lL nH,e] at g;have it:items (Di l)=some (l.map fun x=>.int x.1):=if_pos ⟨by rw[Sg];exact Ss hl (Ss hr (Sp rfl)),mY (q9 (c:=0) (·.1) l)⟩;have cm:(s0 false 4 5 (ag 3) (lA (aJ yc (ag 5) (ag 2))) (ag 5)).ex (KK (d+1) false) [qV i,sV c,iV n,dV (Di l),none,none] σ=some (.next [qV i,sV c,iV n,dV (Di l),dV (.lst (((l.filter fun x=>decide (x.1<=n)).map (·.1)).map .int)),none],σ):=by
  refine li (ie rfl (dO it) (gF rfl (fun x:Int×D=>D.int x.1) (fun x=>.int x.1) (fun x=>decide (x.1<=n)) l [] (fun x _=>rfl) (fun x _ _=>rfl) (by rw[Tb];exact Rt hr hl)) rfl) ?_;rw[List.map_map];rfl
 have ll:∀ k:List Int,k.length<=1000->bf.g false [.d (.lst (k.map D.int))] σ=some (.ok (.d (.int k.length)),σ):=fun k hk=>by
  have:=ku (hd:=false) (σ:=σ) (x:=.d (.lst (k.map D.int))) rfl (by rw[Sg];exact bo hk);rw[Sg] at this;exact this
 have kl:((l.filter fun x=>decide (x.1<=n)).map (·.1)).length<=1000:=by
  rw[Sg];have:=List.length_filter_le (fun x:Int×D=>decide (x.1<=n)) l;exact Rs hr hl this
 have mem:∀ k,k∈(l.filter fun x=>decide (x.1<=n)).map (·.1)<->k∈l.map (·.1)/\k<=n:=fun k=>by
  constructor
  .intro h;obtain ⟨x,hx,e⟩:=SA.mp h;obtain ⟨h1,h2⟩:=List.mem_filter.mp hx;subst e;exact ⟨List.mem_map_of_mem h1,S3 h2⟩
  .rintro ⟨h1,h2⟩;obtain ⟨x,hx,e⟩:=SA.mp h1;subst e;exact SA.mpr ⟨x,List.mem_filter.mpr ⟨hx,Sz h2⟩,rfl⟩
 generalize (l.filter fun x=>decide (x.1<=n)).map (·.1)=kn at cm kl mem;have pre:∀ z,(sC (ce (aJ dp (bi bf (aj (ag 4) ao)) (ah 0)) (sC (bX 13 [110,111,32,114,97,116,101,32,102,111,114,32,116,104,105,115,32,100,97,121]) sN) sN) (sC (aV (sub (ag 3) (bi FH (aj (ag 4) ao)))) sN)).ex (KK (d+1) false) [qV i,sV c,iV n,dV (Di l),dV (.lst (kn.map .int)),none] σ=z->BC.ex (KK (d+1) false) [qV i,sV c,iV n,none,none,none] σ=z:=fun z h=>
  aa (aA (aB (cl1 rfl) (bO hc))) (aa (aA (aB (cl1 rfl) (cJ hn))) (aa (aX (ak rfl (j8 B rfl) rfl rfl (eV hh)) rfl) (aa (av g rfl) (aa cm h))))
 cases q:kT c n rs with
 |none=>
  have:kn=[]:=List.eq_nil_iff_forall_not_mem.mpr fun k hk=>by
   have:=W.no n q k ((mem k).mp hk).1;have:=((mem k).mp hk).2;exact Qo (by assumption) this
  subst this;exact fy rfl rfl rfl (pre _ rfl) (tk _)
 |some y=>
  have Y:=W.yes n y q;have hm:y.2.1∈kn:=(mem _).mpr ⟨Y.m,Y.le⟩;have hp:0<kn.length:=List.length_pos_of_mem hm;refine a8 rfl rfl rfl (pre _ (aa (aX (ak (ca (cl1 rfl) (ll kn kl)) rfl rfl rfl (xw (Int.natCast_ne_zero_iff_pos.mpr hp))) rfl) (aM (aF (bc rfl (ca (cl1 rfl) (KZ hm fun a ha=>Y.mx a ((mem a).mp ha).1 ((mem a).mp ha).2)) rfl rfl ?_))))) (tk _);show (au (kd (.int y.2.1) (l.map fun x=>.int x.1)=true) ()).bind (fun _=>eA (.int y.2.1) (l.map fun x=>.int x.1) (l.map (·.2)))=_;rw[aS (q9 (·.1) l),lL Fb];exact Y.at_
theorem Cf (B:Bk σ i S) (hc:bh S.home=true) (hn:bq n):CC (d+2) false 14 [.p i 0,.d (.str S.home),.d (.int n)] σ=some (.ok (.d (.tup [.int 1,.int 1])),σ):=
 a8 rfl rfl rfl (aa (aA (aB (cl1 rfl) (bO hc))) (aa (aA (aB rfl (cJ hn))) (aM (bP (ak rfl (j8 B rfl) rfl rfl (gj rfl)) rfl)))) (tk _)
theorem lu (B:Bk σ i S) (T:rM S rs m) (hh:bh S.home=true) (hc:bh c=true) (hn:bq n) (hr:rs.length<=900):CC (d+2) false 14 [.p i 0,.d (.str c),.d (.int n)] σ=some (Jh (e_ S.home rs c n),σ):=by
 unfold e_;by_cases q:c=S.home
 .rw[if_pos q,q];exact Cf B hh hn
 .rw[if_neg q];exact Eu B T hc hn q hr
noncomputable def By (S:St) (n:Int) (note gv one:List Nat) (a:Int) (tk' aE:List Nat) (g:Int):St:={S with made:=S.made++[⟨S.made.length+1,n,note,[(gv,one,-a),(cn,one,a),(cn,aE,-g),(tk',aE,g)],0⟩],deeds:=S.deeds++[l8 n note gv one a tk' aE]}
theorem z9 {a g t1 b1 t2 b2:Int} {note gv one tk' aE:List Nat} (B:Bk σ i S) (sh:Sh S) (hn:bq n) (hk:cl S.ends<n) (ht:dK note) (h1:gv∈S.names) (h2:tk'∈S.names) (c1:bh one=true) (c2:bh aE=true) (ne:one≠aE) (ha:1<=a) (ha2:c7 a=true)
  (r1:CC (d+2) false 14 [.p i 0,.d (.str one),.d (.int n)] σ=some (.ok (.d (.tup [.int t1,.int b1])),σ)) (r2:CC (d+2) false 14 [.p i 0,.d (.str aE),.d (.int n)] σ=some (.ok (.d (.tup [.int t2,.int b2])),σ))
  (q1:1<=t1/\t1<=10^9) (q2:1<=b1/\b1<=10^9) (q3:1<=t2/\t2<=10^9) (q4:1<=b2/\b2<=10^9) (eg:Mh a t1 b1 t2 b2=g) (hg:g≠0) (hg2:c7 g=true):
  CC (d+3) false 17 [.p i 0,.d (.int n),.d (.str note),.d (.str gv),.d (.str one),.d (.int a),.d (.str tk'),.d (.str aE)] σ=some (.ok (.d (.int (S.made.length+1))),σ.set i (bk (By S n note gv one a tk' aE g))):=by
 have hc:=xG (d:=d+1) (hd:=false) (σ:=σ) (a:=a) q1 q2 q3 q4;rw[eg] at hc;refine a8 rfl rfl (ρ:=[qV i,iV n,sV note,sV gv,sV one,iV a,sV tk',sV aE,none,none]) rfl ?_ (vI (o':=bk {S with deeds:=S.deeds++[l8 n note gv one a tk' aE]}));refine aa (aA (a' B rfl (cl1 rfl) (iu B sh hn hk))) ?_;refine aa (aA (aB rfl (iw ht))) ?_;refine aa (aA (a' B rfl rfl (de B h1))) ?_;refine aa (aA (a' B rfl rfl (de B h2))) ?_;refine aa (aA (aB (cl1 rfl) (bO c1))) ?_;refine aa (aA (aB (cl1 rfl) (bO c2))) ?_;refine aa (aX (ak rfl rfl rfl rfl (eV ne)) rfl) ?_;refine aa (aX (bN (bz (ak rfl rfl rfl rfl (j_ (Tn.mpr ha))) (bz (jd (eT (aB (cl1 rfl) (uH ha2)))) rfl))) rfl) ?_;refine aa (av (aB (cP rfl (cP (a' B rfl rfl r1) (cl1 (a' B rfl rfl r2)))) hc) rfl) ?_;refine aa (aX (tF hg rfl) rfl) ?_;refine aa (aX (jd (eT (aB (cl1 rfl) (uH hg2)))) rfl) ?_;refine aa rfl ?_;refine aa (aA (h_ B sh.d rfl (bv rfl))) ?_;exact aM (aF (a' (S:={S with deeds:=S.deeds++[l8 n note gv one a tk' aE]}) (eZ B.lt) rfl rfl (m7 (S:={S with deeds:=S.deeds++[l8 n note gv one a tk' aE]}) (ls:=[(gv,one,-a),(cn,one,a),(cn,aE,-g),(tk',aE,g)]) (eZ B.lt) sh.m)))
end
noncomputable def bM (c:List Nat) (ls:List bG):Int:=((ls.filter fun l=>decide (l.2.1=c)).map fun l=>l.2.2).sum
theorem xD {l:bG}:bM c (ls++[l])=bM c ls+(if l.2.1=c then l.2.2 else 0):=by
 unfold bM;rw[List.filter_append,List.map_append,List.sum_append];by_cases q:l.2.1=c
 .rw[if_pos q,SQ (p:=fun l:bG=>decide (l.2.1=c)) (Sz q)];show _+(l.2.2+0)=_;rw[Int.add_zero]
 .rw[if_neg q,List.filter_cons_of_neg (p:=fun l:bG=>decide (l.2.1=c)) (by rw[decide_eq_true_eq];exact q)];rfl
structure Gr (ls:List bG) (m:List (List Nat×D)):Prop where
 v:∀ c,(gd c m).getD (.int 0)= .int (bM c ls)
 l:m.length<=ls.length
section
variable {l:bG} {m:List (List Nat×D)} {o:Option PV}
theorem CV [DecidableEq α] {x:α×D}:∀ {m:List (α×D)},x∈m->∃ w,gd x.1 m=some w:=by
 intro m
 induction m with
 |nil=>
  intro h;exact absurd h SF
 |cons y m ih=>
  intro h;show ∃ w,(if y.1=x.1 then some y.2 else gd x.1 m)=some w;by_cases q:y.1=x.1
  .exact ⟨_,if_pos q⟩
  .rcases Sj.mp h with z|z
   .exact absurd (by rw[z]) q
   .obtain ⟨w,e⟩:=ih z;exact ⟨w,(if_neg q).trans e⟩
theorem Gf {a0:Option PV} (T:Gr ls m) (hl:ls.length<=1000):∃ m',Gr (ls++[l]) m'/\(sC (t9 (ag 1) (sub (ag 2) (ah 1)) (aK a9 (bm Ct (ag 1) (aj (sub (ag 2) (ah 1)) (aj (ah 0) ao))) (sub (ag 2) (ah 2)))) sN).ex K [a0,qV σ.length,dV (bF l),o] (σ++[.fld (.dict (m.map fun x=>.str x.1) (m.map (·.2)))])=some (.next [a0,qV σ.length,dV (bF l),o],σ++[.fld (.dict (m'.map fun x=>.str x.1) (m'.map (·.2)))]):=by
 have e1:Ev K (sub (ag 2) (ah 1)) [a0,qV σ.length,dV (bF l),o] (σ++[.fld (.dict (m.map fun x=>.str x.1) (m.map (·.2)))]) (.d (.str l.2.1)):=rfl;have g:=zR (K:=K) (ρ:=[a0,qV σ.length,dV (bF l),o]) (σ:=σ++[.fld (.dict (m.map fun x=>.str x.1) (m.map (·.2)))]) (o:=ag 1) (a:=sub (ag 2) (ah 1)) (b:=ah 0) (z:=.int 0) rfl (ub rfl) e1 rfl (mZ (·.1) m);rw[lL nH,T.v] at g;have s1:=oO (σ:=σ++[.fld (.dict (m.map fun x=>.str x.1) (m.map (·.2)))]) (n:=σ.length) (j:=0) (k:=.str l.2.1) (v:=.int (bM l.2.1 ls+l.2.2)) cV (t8 (vs:=m.map (·.2)) (mZ (·.1) m) (by rw[Sg];have:=T.l;exact SJ this (SJ hl (Sp rfl))));rw[dZ,yy nH l.2.1 (.int (bM l.2.1 ls+l.2.2)) m,yx nH l.2.1 (.int (bM l.2.1 ls+l.2.2)) m] at s1;refine ⟨jc l.2.1 (.int (bM l.2.1 ls+l.2.2)) m,⟨fun c=> ?_,?_⟩,aa (jU (aO g rfl rfl rfl rfl) rfl e1 s1) rfl⟩
 .rw[lK,xD];by_cases q:c=l.2.1
  .rw[if_pos q,if_pos q.symm,q];rfl
  .rw[if_neg q,if_neg fun z=>q z.symm,Int.add_zero];exact T.v c
 .rw[Sk];exact Ss (uA m) (Nat.add_le_add_right T.l 1)
theorem Gg {a0:Option PV} {w:PV} (hs:∀ o,bI (σ++[o]) v w=true):∀ (ms ls:List bG) (m:List (List Nat×D)) (o2:Option PV),Gr ls m->ls.length+ms.length<=1000->∃ m' o2',Gr (ls++ms) m'/\dq w v 2 (fun ρ=>(sC (t9 (ag 1) (sub (ag 2) (ah 1)) (aK a9 (bm Ct (ag 1) (aj (sub (ag 2) (ah 1)) (aj (ah 0) ao))) (sub (ag 2) (ah 2)))) sN).ex K ρ) (ms.map bF) [a0,qV σ.length,o2,none] (σ++[.fld (.dict (m.map fun x=>.str x.1) (m.map (·.2)))])=some (.next [a0,qV σ.length,o2',none],σ++[.fld (.dict (m'.map fun x=>.str x.1) (m'.map (·.2)))]):=by
 intro ms
 induction ms with
 |nil=>
  intro ls m o2 T _;exact ⟨m,o2,by rw[List.append_nil];exact T,rfl⟩
 |cons l ms ih=>
  intro ls m o2 T h;rw[Sq] at h;obtain ⟨m1,T1,e1⟩:=Gf (K:=K) (σ:=σ) (a0:=a0) (o:=none) (l:=l) T (Nat.le_of_add_right_le h);obtain ⟨m2,o2',T2,e2⟩:=ih (ls++[l]) m1 (dV (bF l)) T1 (by rw[Sk,Su];exact Rr h);exact ⟨m2,o2',by rw[List.append_cons];exact T2,br e1 (hs _) e2⟩
theorem BE (hl:ls.length<=900):∃ m,Gr ls m/\CC (d+1) false 18 [.d (.lst (ls.map bF))] σ=some (.ok (.d (.bool (m.all fun x=>decide (bM x.1 ls=0)))),σ):=by
 obtain ⟨m,o2,T,lp⟩:=Gg (K:=KK d false) (σ:=σ) (v:=.lst (ls.map bF)) (w:=.d (.lst (ls.map bF))) (a0:=dV (.lst (ls.map bF))) (fun _=>rfl) ls [] [] none ⟨fun c=>rfl,Sv _⟩ (by rw[Tb];exact Qm hl);rw[List.nil_append] at T;have ml:=T.l;refine ⟨m,T,a8 rfl rfl (ρ:=[dV (.lst (ls.map bF)),none,none,none]) rfl (aa rfl (aa (bl rfl (dO (if_pos (by rw[Sg];exact bo (OP hl)))) lp) (pg rfl (ph rfl) (aM (aF (ca (cl1 (lU (eJ rfl (dO (if_pos ⟨by rw[Sg];exact Ss ml (Ss hl (Sp rfl)),mY (mZ (c:=[]) (·.1) m)⟩)) (eM (fun x:List Nat×D=>.str x.1) (fun x=>.bool (decide (bM x.1 ls=0))) m [] (fun x hx=> ?_) (by rw[Tb];exact Rt hl ml))))) (JJ (fun x:List Nat×D=>decide (bM x.1 ls=0)) m))))))) (Gx σ [.dead])⟩;obtain ⟨w,hw⟩:=CV hx;have tv:=T.v x.1;rw[hw] at tv;refine jI (bc rfl rfl rfl rfl (z:=.int (bM x.1 ls)) ?_) rfl rfl rfl rfl;show (au (kd (.str x.1) (m.map fun x=>.str x.1)=true) ()).bind (fun _=>eA (.str x.1) (m.map fun x=>.str x.1) (m.map (·.2)))=_;rw[aS (mZ (·.1) m),Si,lL nH,hw];exact congrArg some tv
theorem LX (h:∀ c,bM c ls=0) (hl:ls.length<=900):CC (d+1) false 18 [.d (.lst (ls.map bF))] σ=some (.ok (.d (.bool true)),σ):=by
 obtain ⟨m,_,e⟩:=BE (d:=d) (σ:=σ) hl
 rwa [List.all_eq_true.mpr fun x _=>Sz (h x.1)] at e
theorem E3:∀ {m:List (List Nat×D)},(∀ x∈m,x.1≠c)->gd c m=none:=by
 intro m
 induction m with
 |nil=>exact fun _=>rfl
 |cons y m ih=>exact fun h=>(if_neg (h y (.head _))).trans (ih fun x hx=>h x (.tail _ hx))
theorem LY (h:bM c ls≠0) (hl:ls.length<=900):CC (d+1) false 18 [.d (.lst (ls.map bF))] σ=some (.ok (.d (.bool false)),σ):=by
 obtain ⟨m,T,e⟩:=BE (d:=d) (σ:=σ) hl
 rwa [show (m.all fun x=>decide (bM x.1 ls=0))=false from Bool.eq_false_iff.mpr fun q=> ?_] at e
 have v:=T.v c;rw[E3 (c:=c) fun x hx z=>h (by rw[<-z];exact S3 (List.all_eq_true.mp q x hx))] at v;exact h (S_ (congrArg iD v)).symm
theorem E2 {n:Int}:∀ g:List Int,(eA (.int n) (g.map .int) (g.map fun _=>.bool true)).isSome=decide (n∈g):=by
 intro g
 induction g with
 |nil=>
  exact rfl
 |cons a g ih=>
  show (if eD (.int a) (.int n)=true then some (D.bool true) else eA (.int n) (g.map .int) (g.map fun _=>.bool true)).isSome=_;rw[Fb];by_cases q:a=n
  .rw[if_pos (Sz q),Sz (by rw[q];exact .head _)];rfl
  .rw[if_neg (by rw[Tc q];exact SI),ih,Bool.eq_iff_iff,decide_eq_true_eq,decide_eq_true_eq,Sj];exact ⟨.inr,fun h=>h.resolve_left fun e=>q e.symm⟩
theorem He {n:Int}:∀ g:List Int,n∉g->ey (.int n) (g.map .int)=(g++[n]).map .int/\ew (.int n) (.bool true) (g.map .int) (g.map fun _=>.bool true)=(g++[n]).map fun _=>.bool true:=by
 intro g
 induction g with
 |nil=>
  intro _;exact ⟨rfl,rfl⟩
 |cons a g ih=>
  intro h;have q:¬eD (.int a) (.int n)=true:=by rw[Fb,decide_eq_true_eq];exact fun e=>h (by rw[e];exact .head _)
  obtain ⟨h1,h2⟩:=ih fun z=>h (.tail _ z);refine ⟨?_,?_⟩
  .show (if eD (.int a) (.int n)=true then _ else D.int a::ey (.int n) (g.map .int))=_;rw[if_neg q,h1];rfl
  .show (if eD (.int a) (.int n)=true then _ else D.bool true::ew (.int n) (.bool true) (g.map .int) (g.map fun _=>.bool true))=_;rw[if_neg q,h2];rfl
theorem Bc (B:Bk σ i S) (h0:Ev K e ρ σ (.p i 0)) (h:Ev K a ρ σ (.d (.int t))):Ts K (aJ NN a (b_ e 4)) ρ σ (decide (t∈S.gone)):=by
 refine ak h (BH B h0) rfl (Hb B) ?_;show au (kd (.int t) (S.gone.map .int)=true) _=_;rw[aS (q9 (fun x=>x) _),E2]
noncomputable def nT (n day:Int):D:=.tup [.str TB,.int n,.int day]
noncomputable def fu (l:bG):bG:=(l.1,l.2.1,-l.2.2)
noncomputable def Gh (S:St) (k:Nat) (e:i_) (t:Int):St:={S with made:=S.made++[⟨S.made.length+1,t,e.note,e.lines.map fu,k+1⟩],gone:=S.gone++[(k:Int)+1],deeds:=S.deeds++[nT (k+1) t]}
theorem nO {e:i_} (B:Bk σ i S) (sh:Sh S) (h:S.made[k]? =some e) (h2:e.back=0) (hl:e.lines.length<=1000) (hg:((k:Int)+1)∉S.gone) (hn:bq t) (hk:cl S.ends<t):
  CC (d+3) false 9 [.p i 0,.d (.int (k+1)),.d (.int t)] σ=some (.ok (.d (.int (S.made.length+1))),σ.set i (bk (Gh S k e t))):=by
 have g:=Bc (K:=KK (d+2) false) (ρ:=[qV i,iV (k+1),iV t,dV (dt e),none,none]) (e:=ag 0) (a:=ag 1) B rfl rfl;rw[Tc hg] at g;have lines:Ev (KK (d+2) false) (bi iF (aj (n8 false (gt 5 (sub (ag 3) (ah 3)) fG (bx (aj (sub (ag 5) (ah 0)) (aj (sub (ag 5) (ah 1)) (aj (neg (sub (ag 5) (ah 2))) ao)))))) ao)) [qV i,iV (k+1),iV t,dV (dt e),none,none] σ (.d (.tup ((e.lines.map fu).map bF))):=by
  rw[List.map_map];refine ca (cl1 (lU (eJ rfl rfl (eM bF (bF ∘ fu) e.lines [] (fun l hl=>bv rfl) (by rw[Tb];exact Ro hl))))) ?_;show (au ((e.lines.map (bF ∘ fu)).length<=dM) (D.tup (e.lines.map (bF ∘ fu)))).map _=_;rw[aS (by rw[Sg];exact bo hl)];rfl
 obtain ⟨p1,p2⟩:=He S.gone hg;have s1:=oO (σ:=σ) (n:=i) (j:=6) (k:=.int (k+1)) (v:=.bool true) (kL (j:=4) B rfl) (t8 (q9 (fun x=>x) S.gone) (by rw[Sg];have:=sh.g;exact SJ this (Sp rfl)));rw[p1,p2,mH (j:=4) B (S':={S with gone:=S.gone++[(k:Int)+1]}) rfl] at s1;have B1:Bk (σ.set i (bk {S with gone:=S.gone++[(k:Int)+1]})) i {S with gone:=S.gone++[(k:Int)+1]}:=eZ B.lt;refine a8 rfl rfl (ρ:=[qV i,iV (k+1),iV t,none,none,none]) rfl ?_ (σ':=((σ.set i (bk {S with gone:=S.gone++[(k:Int)+1]})).set i (bk {S with gone:=S.gone++[(k:Int)+1],deeds:=S.deeds++[nT (k+1) t]})).set i (bk (Gh S k e t))) (by rw[List.set_set];exact vI);refine aa (av (a' B rfl rfl (m6 B sh h)) rfl) ?_;refine aa (aX (bN (bz (ak rfl rfl rfl rfl (n9 h2)) (bz g rfl))) rfl) ?_;refine aa (aA (a' B rfl rfl (iu B sh hn hk))) ?_;refine aa (av lines rfl) ?_;refine aa (jU rfl (BH B rfl) rfl s1) ?_;refine aa (aA (h_ B1 sh.d rfl (bv rfl))) ?_;exact aM (aF (a' (S:={S with gone:=S.gone++[(k:Int)+1],deeds:=S.deeds++[nT (k+1) t]}) (eZ B1.lt) rfl rfl (m7 (S:={S with gone:=S.gone++[(k:Int)+1],deeds:=S.deeds++[nT (k+1) t]}) (ls:=e.lines.map fu) (eZ B1.lt) sh.m)))
end
section
variable {l:bG} {m:List (List Nat×D)} {o:Option PV}
noncomputable def xX (a c:List Nat) (t:Int) (l:bG):Int:=if l.1=a/\l.2.1=c then t+l.2.2 else t
noncomputable def A_ (q:Option Int) (n:Int):Bool:=q.elim true fun x=>decide (n<=x)
noncomputable def Am (a c:List Nat) (q:Option Int) (t:Int) (e:i_):Int:=if A_ q e.day=true then e.lines.foldl (xX a c) t else t
noncomputable def total (S:St) (a c:List Nat) (q:Option Int):Int:=S.made.foldl (Am a c q) 0
noncomputable def wN (q:Option Int):D:=q.elim .none .int
noncomputable abbrev Q4 (ia ic it il:Nat):CS:=(sC (ce (pz (dw (aJ dp (sub (ag il) (ah 0)) (ag ia)) (dw (aJ dp (sub (ag il) (ah 1)) (ag ic)) km))) (sC (aG it (aK a9 (ag it) (sub (ag il) (ah 2)))) sN) sN) sN)
theorem xW {ia ic it il:Nat} {a:List Nat} (h1:Ev K (ag ia) ρ σ (.d (.str a))) (h2:Ev K (ag ic) ρ σ (.d (.str c))) (h3:Ev K (ag it) ρ σ (.d (.int t))) (h4:Ev K (ag il) ρ σ (.d (bF l))) (h5:ρ.set it (iV t)=ρ):(Q4 ia ic it il).ex K ρ σ=some (.next (ρ.set it (iV (xX a c t l))),σ):=by
 have e1:Ev K (sub (ag il) (ah 0)) ρ σ (.d (.str l.1)):=bc h4 rfl rfl rfl (qF (k:=0) rfl);have e2:Ev K (sub (ag il) (ah 1)) ρ σ (.d (.str l.2.1)):=bc h4 rfl rfl rfl (qF (k:=1) rfl);unfold xX;by_cases q1:l.1=a
 .by_cases q2:l.2.1=c
  .rw[if_pos ⟨q1,q2⟩];exact aa (bP (ci (cQ (ak e1 h1 rfl rfl (gj q1)) (cQ (ak e2 h2 rfl rfl (gj q2)) rfl))) (aa (av (dU h3 (bc h4 rfl rfl rfl (qF (k:=2) rfl))) rfl) rfl)) rfl
  .rw[if_neg fun h=>q2 h.2,h5];exact aa (aX (ci (cQ (ak e1 h1 rfl rfl (gj q1)) (eX (ak e2 h2 rfl rfl (eV q2))))) rfl) rfl
 .rw[if_neg fun h=>q1 h.1,h5];exact aa (aX (ci (eX (ak e1 h1 rfl rfl (eV q1)))) rfl) rfl
theorem ik {a:List Nat} {q:Option Int} (B:Bk σ i S) (sh:Sh S):CC (d+1) false 26 [.p i 0,.d (.str a),.d (.str c),.d (wN q)] σ=some (.ok (.d (.int (total S a c q))),σ):=by
 obtain ⟨c',lp⟩:=lQ (σ:=σ) (v:=.p i 5) (x:=.lst (S.made.map dt)) (i:=5) (b:=fun ρ=>(sC (ce (ki (bC (aJ IG (ag 3) gp) (bC (aJ yc (sub (ag 5) (ah 1)) (ag 3)) d3))) (sC (cZ 6 (sub (ag 5) (ah 3)) (Q4 1 2 4 6)) sN) sN) sN).ex (KK d false) ρ)
  dt (fun (t:Int) (o:Option PV×Option PV)=>[qV i,sV a,sV c,dV (wN q),iV t,o.1,o.2]) (Am a c q) (dY (jX B)) S.made (fun t o e _=>by
   obtain ⟨c',lp⟩:=lQ (σ:=σ) (v:=.d (.tup (e.lines.map bF))) (x:=.tup (e.lines.map bF)) (i:=6) (b:=fun ρ=>(Q4 1 2 4 6).ex (KK d false) ρ)
    bF (fun (t:Int) (o:Option PV)=>[qV i,sV a,sV c,dV (wN q),iV t,dV (dt e),o]) (xX a c) rfl e.lines (fun t o l _=>⟨dV (bF l),xW rfl rfl rfl rfl rfl⟩) t o.2
   have d1:Ev (KK d false) (sub (ag 5) (ah 1)) [qV i,sV a,sV c,dV (wN q),iV t,dV (dt e),o.2] σ (.d (.int e.day)):=cC 1 rfl rfl;unfold Am;cases q with
   |none=>
    rw[if_pos (show A_ none e.day=true from rfl)];exact ⟨(dV (dt e),c'),aa (bP (bN (gr (ak rfl rfl rfl rfl rfl))) (aa (bl (cC 3 rfl rfl) (dO rfl) lp) rfl)) rfl⟩
   |some x=>
    by_cases z:e.day<=x
    .rw[if_pos (show A_ (some x) e.day=true from Sz z)];exact ⟨(dV (dt e),c'),aa (bP (bN (bz (ak rfl rfl rfl rfl rfl) (gr (ak d1 rfl rfl rfl (wM z))))) (aa (bl (cC 3 rfl rfl) (dO rfl) lp) rfl)) rfl⟩
    .rw[if_neg (show¬A_ (some x) e.day=true by show¬decide (e.day<=x)=true;rw[decide_eq_true_eq];exact z)];exact ⟨(dV (dt e),o.2),aa (aX (bN (bz (ak rfl rfl rfl rfl rfl) (bz (ak d1 rfl rfl rfl (Nj z)) rfl))) rfl) rfl⟩) 0 (none,none)
 exact a8 rfl rfl (ρ:=[qV i,sV a,sV c,dV (wN q),none,none,none]) rfl (aa (av rfl rfl) (aa (bl (md B rfl) (sj (jX B) (by rw[Sg];exact sh.m)) lp) (aM (aF rfl)))) (tk _)
end
structure JL (T:List (List Nat)):Prop where
 nd:T.Nodup
 ne:cn∉T
 nm:∀ x∈T,gS x
noncomputable def st0 (h:List Nat):St:=⟨h,[cn],[],[],[],[],[],[]⟩
theorem H8 {v:PV} {x:D} {b:bg->az->Option (Out×az)} (Pr:Nat->bg->az->Prop):∀ (n k:Nat) (ρ:bg) (σ:az),Pr k ρ σ->(∀ j ρ σ,j<k+n->Pr j ρ σ->∃ ρ' σ',b (ρ.set i (iV (j:Nat))) σ=some (.next ρ',σ')/\bI σ' x v=true/\Pr (j+1) ρ' σ')->∃ ρ' σ',dq v x i b ((List.range' k n).map fun (j:Nat)=>.int j) ρ σ=some (.next ρ',σ')/\Pr (k+n) ρ' σ':=by
 intro n
 induction n with
 |zero=>
  intro k ρ σ h _;exact ⟨ρ,σ,rfl,h⟩
 |succ n ih=>
  intro k ρ σ h st;obtain ⟨ρ1,σ1,e1,s1,p1⟩:=st k ρ σ (Ql) h;obtain ⟨ρ2,σ2,e2,p2⟩:=ih (k+1) ρ1 σ1 p1 fun j ρ σ hj=>st j ρ σ (Rn hj);exact ⟨ρ2,σ2,br e1 s1 e2,by rw[show k+(n+1)=k+1+n by exact PI];exact p2⟩
section
variable {n:Int}
theorem pU:∃ t,gS t/\CC (d+1) false 43 [.d (.int n)] σ=some (.ok (.d (.str t)),σ):=by
 have g0:=jg (l:=gu) (a:=n) (k:=26) (by decide) (by decide);have q:=aZ (a:=n.fdiv 26) (b:=12) (by decide);have e:(n.fdiv 26).fmod 12=((((n.fdiv 26).fmod 12).toNat:Nat):Int):=by exact (SZ q.1).symm
 generalize ((n.fdiv 26).fmod 12).toNat=k at e;have m0:=iZ (K:=KK d false) (ρ:=[iV n,sV gu,sV [gu.getD (n.fmod 26).toNat 0],iV (n.fdiv 26),none]) (σ:=σ) (e:=ag 3) (a:=n.fdiv 26) (k:=12) rfl (by decide) (by decide);rw[e] at m0;generalize hc:gu.getD (n.fmod 26).toNat 0=c at g0 m0;obtain ⟨ρ2,s2,lp,y4,r,rfl,rfl,hr,hm⟩:=H8 (v:=.d (.rng 0 k 1)) (x:=.rng 0 k 1) (i:=4) (b:=fun ρ=>(sC (aG 2 (aK a9 (ag 2) (sub (ag 1) (aK bA (aK a9 (aK bY (ag 3) (ah 12)) (aK fT (aK bY (ag 3) (ah 432)) (ag 4))) (ah 36))))) sN).ex (KK d false) ρ)
  (fun j ρ s=>∃ x4 r,ρ=[iV n,sV gu,sV (c::r),iV (n.fdiv 26),x4]/\s=σ/\r.length=j/\∀ y∈r,y∈gu) k 0 [iV n,sV gu,sV [c],iV (n.fdiv 26),none] σ ⟨none,[],rfl,rfl,rfl,fun _ h=>absurd h SF⟩ fun j ρ s hj ⟨x4,r,h1,h2,h3,h4⟩=>by
   subst h1 h2 h3;have ad:=aO (K:=KK d false) (ρ:=[iV n,sV gu,sV (c::r),iV (n.fdiv 26),iV (r.length:Nat)]) (σ:=s) (o:=a9) (a:=aK bY (ag 3) (ah 12)) (i0 rfl) (aO (o:=fT) (a:=aK bY (ag 3) (ah 432)) (b:=ag 4) (i0 rfl) rfl rfl rfl (hZ (fj (by omega)))) rfl rfl rfl;exact ⟨_,_,aa (av (aO rfl (iG (l:=gu) rfl ad (by decide) (by decide) (by decide)) rfl rfl (iU (by rw[Sq,Su];exact bo (by omega)))) rfl) rfl,rfl,_,r++[_],rfl,rfl,Sk,fun y hy=>(SC.mp hy).elim (h4 y) fun hy=>by rw[So.mp hy];exact List.mem_of_mem_take (jg (k:=36) (by decide) (by decide))⟩
 rw[Td] at hr;rw[<-List.range_eq_range'] at lp;refine ⟨c::r,⟨c,r,rfl,M_ q e hr,g0,hm⟩,a8 rfl rfl (ρ:=[iV n,none,none,none,none]) rfl (aa rfl (aa (av (iG (l:=gu) rfl rfl (by decide) (by decide) (by decide)) rfl) (aa rfl ?_))) (tk _)⟩;rw[hc];exact aa (bl (rb m0 (Rm q e)) (dO (hU (Rm q e))) lp) rfl
end
structure Pl where
 names:List (List Nat)
 first:Int
 curs:List (List Nat)
 ents:List i_
 told:List Rw
 ends:List Int
 backs:List Int
 deeds:List D
 most:Int
 ex:List cU
variable {p p':Pl}
noncomputable def Ck (p:Pl):List cU:=.list (p.names.map .str):: .d (.int p.first):: .d (.lst (p.curs.map .str)):: .list (p.ents.map dt):: .list (p.told.map s6):: .list (p.ends.map .int):: .list (p.backs.map .int):: .list p.deeds:: .d (.int p.most)::p.ex
noncomputable def pk (p:Pl):PO:=.rcd false (Ck p)
abbrev Rk (σ:az) (m:Nat) (p:Pl):Prop:=σ[m]? =some (pk p)
section
variable {l:az}
theorem Rk.lt (h:Rk σ m p):m<σ.length:=(Sl.mp h).1
theorem Rk.app (h:Rk σ m p):Rk (σ++l) m p:=by
 show (σ++l)[m]? =_;rw[S7 h.lt];exact h
theorem iH (h:Rk σ m p) (he:Ev K e ρ σ (.p m 0)) (hf:(Ck p)[k]? =some f):Ev K (key e k s) ρ σ (Db m k f):=by
 refine aC he (aC (a:=.d (.str s)) (σ':=σ) rfl ?_);show (au (k_ (.d (.str s))=some s) ()).bind (fun _=>rF false k (.p m 0) σ)=_;rw[aS (show k_ (.d (.str s))=some s from rfl),Si];show (df false σ m).bind _=_;unfold df;rw[h];show ((Ck p)[k]?).map _=_;rw[hf];rfl
theorem kK (h:Rk σ m p) (hf:(Ck p)[j]? =some f):ck σ m (j+2)=some f:=by
 unfold ck;rw[h];exact hf
theorem s8 {x:D} (h:Rk σ m p) (hf:(Ck p)[j]? =some f) (hx:f.rd=some x):rd σ (.p m (j+2))=some x:=by
 show (ck σ m (j+2)).bind _=_;rw[kK h hf];exact hx
theorem mG (h:Rk σ m p) (hf:(Ck p).set j f=Ck p'):dH σ m (j+2) f=σ.set m (pk p'):=by
 unfold dH;rw[h];show σ.set m (.rcd false ((Ck p).set (j+2 - 2) f))=_;rw[Nat.add_sub_cancel,hf];rfl
theorem cK (h:Rk σ m p) (he:Ev K e ρ σ (.p m 0)):Ev K (key e 0 s) ρ σ (.p m 2):=iH (f:=.list (p.names.map .str)) h he rfl
theorem HT (h:Rk σ m p) (he:Ev K e ρ σ (.p m 0)):Ev K (key e 1 s) ρ σ (.d (.int p.first)):=iH (f:=.d (.int p.first)) h he rfl
theorem gQ (h:Rk σ m p) (he:Ev K e ρ σ (.p m 0)):Ev K (key e 2 s) ρ σ (.d (.lst (p.curs.map .str))):=iH (f:=.d (.lst (p.curs.map .str))) h he rfl
theorem jy (h:Rk σ m p) (he:Ev K e ρ σ (.p m 0)):Ev K (key e 3 s) ρ σ (.p m 5):=iH (f:=.list (p.ents.map dt)) h he rfl
theorem zj (h:Rk σ m p) (he:Ev K e ρ σ (.p m 0)):Ev K (key e 4 s) ρ σ (.p m 6):=iH (f:=.list (p.told.map s6)) h he rfl
theorem qv (h:Rk σ m p) (he:Ev K e ρ σ (.p m 0)):Ev K (key e 5 s) ρ σ (.p m 7):=iH (f:=.list (p.ends.map .int)) h he rfl
theorem j4 (h:Rk σ m p) (he:Ev K e ρ σ (.p m 0)):Ev K (key e 6 s) ρ σ (.p m 8):=iH (f:=.list (p.backs.map .int)) h he rfl
theorem AZ (h:Rk σ m p) (he:Ev K e ρ σ (.p m 0)):Ev K (key e 7 s) ρ σ (.p m 9):=iH (f:=.list p.deeds) h he rfl
theorem Fe (h:Rk σ m p) (he:Ev K e ρ σ (.p m 0)):Ev K (key e 8 s) ρ σ (.d (.int p.most)):=iH (f:=.d (.int p.most)) h he rfl
theorem cB (h:Rk σ m p):rd σ (.p m 2)=some (.lst (p.names.map .str)):=s8 (f:=.list (p.names.map .str)) h rfl rfl
theorem ir (h:Rk σ m p):rd σ (.p m 5)=some (.lst (p.ents.map dt)):=s8 (f:=.list (p.ents.map dt)) h rfl rfl
theorem ud (h:Rk σ m p):rd σ (.p m 6)=some (.lst (p.told.map s6)):=s8 (f:=.list (p.told.map s6)) h rfl rfl
theorem uf (h:Rk σ m p):rd σ (.p m 7)=some (.lst (p.ends.map .int)):=s8 (f:=.list (p.ends.map .int)) h rfl rfl
theorem lx (h:Rk σ m p):rd σ (.p m 8)=some (.lst (p.backs.map .int)):=s8 (f:=.list (p.backs.map .int)) h rfl rfl
theorem AJ (h:Rk σ m p):rd σ (.p m 9)=some (.lst p.deeds):=s8 (f:=.list p.deeds) h rfl rfl
theorem Hj {t:List Nat} (h:Rk σ m p) (hl:p.names.length<=1000) (he:Ev K e ρ σ (.p m 0)) (ha:Ev K a ρ σ (.d (.str t))):(bm aT (key e 0 s) (aj a ao)).ev K ρ σ=some (.ok (.d .none),σ.set m (pk {p with names:=p.names++[t]})):=by
 have q:=cb (cK (s:=s) h he) ha (kK (j:=0) h rfl) (by rw[Sg];exact db hl);rw[mG h (p':={p with names:=p.names++[t]}) (by simp only [Ck,List.map_append];rfl)] at q;exact q
theorem Kw {t:i_} (h:Rk σ m p) (hl:p.ents.length<=1000) (he:Ev K e ρ σ (.p m 0)) (ha:Ev K a ρ σ (.d (dt t))):(bm aT (key e 3 s) (aj a ao)).ev K ρ σ=some (.ok (.d .none),σ.set m (pk {p with ents:=p.ents++[t]})):=by
 have q:=cb (jy (s:=s) h he) ha (kK (j:=3) h rfl) (by rw[Sg];exact db hl);rw[mG h (p':={p with ents:=p.ents++[t]}) (by simp only [Ck,List.map_append];rfl)] at q;exact q
theorem Kv {t:Rw} (h:Rk σ m p) (hl:p.told.length<=1000) (he:Ev K e ρ σ (.p m 0)) (ha:Ev K a ρ σ (.d (s6 t))):(bm aT (key e 4 s) (aj a ao)).ev K ρ σ=some (.ok (.d .none),σ.set m (pk {p with told:=p.told++[t]})):=by
 have q:=cb (zj (s:=s) h he) ha (kK (j:=4) h rfl) (by rw[Sg];exact db hl);rw[mG h (p':={p with told:=p.told++[t]}) (by simp only [Ck,List.map_append];rfl)] at q;exact q
theorem Kx (h:Rk σ m p) (hl:p.ends.length<=1000) (he:Ev K e ρ σ (.p m 0)) (ha:Ev K a ρ σ (.d (.int t))):(bm aT (key e 5 s) (aj a ao)).ev K ρ σ=some (.ok (.d .none),σ.set m (pk {p with ends:=p.ends++[t]})):=by
 have q:=cb (qv (s:=s) h he) ha (kK (j:=5) h rfl) (by rw[Sg];exact db hl);rw[mG h (p':={p with ends:=p.ends++[t]}) (by simp only [Ck,List.map_append];rfl)] at q;exact q
theorem Hk (h:Rk σ m p) (hl:p.backs.length<=1000) (he:Ev K e ρ σ (.p m 0)) (ha:Ev K a ρ σ (.d (.int t))):(bm aT (key e 6 s) (aj a ao)).ev K ρ σ=some (.ok (.d .none),σ.set m (pk {p with backs:=p.backs++[t]})):=by
 have q:=cb (j4 (s:=s) h he) ha (kK (j:=6) h rfl) (by rw[Sg];exact db hl);rw[mG h (p':={p with backs:=p.backs++[t]}) (by simp only [Ck,List.map_append];rfl)] at q;exact q
theorem j2 {t:D} (h:Rk σ m p) (hl:p.deeds.length<=1000) (he:Ev K e ρ σ (.p m 0)) (ha:Ev K a ρ σ (.d t)):(bm aT (key e 7 s) (aj a ao)).ev K ρ σ=some (.ok (.d .none),σ.set m (pk {p with deeds:=p.deeds++[t]})):=by
 have q:=cb (AZ (s:=s) h he) ha (kK (j:=7) h rfl) (db hl);rw[mG h (p':={p with deeds:=p.deeds++[t]}) rfl] at q;exact q
theorem jh (h:m<σ.length):Rk (σ.set m (pk p)) m p:=List.getElem?_set_self h
structure fD (σ:az) (m n:Nat) (p:Pl) (S:St):Prop where
 r:Rk σ m p
 b:Bk σ n S
 ne:m≠n
noncomputable def bb (σ:az) (m n:Nat) (p:Pl) (S:St):az:=(σ.set m (pk p)).set n (bk S)
theorem fD.to (h:fD σ m n p S) (p':Pl) (S':St):fD (Mine.Internal.bb σ m n p' S') m n p' S':=by
 refine ⟨?_,?_,h.ne⟩
 .show ((σ.set m (pk p')).set n (bk S'))[m]? =_;rw[SP (Ne.symm h.ne)];exact jh h.r.lt
 .exact eZ (by rw[SL];exact h.b.lt)
theorem NS {p1 p2:Pl} {S1 S2:St} (ne:m≠n):bb (bb σ m n p1 S1) m n p2 S2=bb σ m n p2 S2:=by
 unfold bb;rw[List.set_comm _ _ (Ne.symm ne),List.set_set,List.set_set]
theorem fD.same (h:fD σ m n p S):bb σ m n p S=σ:=by
 unfold bb;obtain ⟨hl,e⟩:=Sl.mp h.r;have:σ.set m (pk p)=σ:=by rw[<-e];exact List.set_getElem_self hl
 rw[this];exact h.b.same
theorem LW:(bb σ m n p S).length=σ.length:=by unfold bb;rw[SL,SL]
theorem nu:(bb σ m n p S).take σ.length=bb σ m n p S:=by
 have:=List.take_length (l:=bb σ m n p S);rw[LW] at this;exact this
theorem IB {l:List Int}:cg (-1) (l.length+1)=some l.length/\((D.int (-1))::l.map D.int)[l.length]? =some (.int (cl l)):=by
 constructor
 .unfold cg;rw[if_neg (by decide),if_pos (Qk)];congr 1;exact MQ
 .unfold cl;cases l with
  |nil=>rfl
  |cons a l=>
   rw[if_neg (by rw[Sq];exact Rl),Sq,List.getElem?_cons_succ,SB,Nat.add_sub_cancel,SD,Sn (by rw[Sq];exact Qj)];rfl
theorem d_ (h:Rk σ m p) (hl:p.ends.length<=900):CC (d+1) hd 70 [.p m 0] σ=some (.ok (.d (.int (cl p.ends))),σ):=by
 refine a8 rfl rfl (ρ:=[qV m]) rfl (aM (aF (bc (aO (eH (cl1 (uY rfl))) (qv h rfl) rfl (uf h) (LD (by rw[Sg];show 1+_<=_;exact Ss (S0 hl 1) (Sp rfl)))) (uY rfl) rfl rfl ?_))) (tk _);have q:=IB (l:=p.ends);have e:([D.int (-1)]++p.ends.map D.int).length=p.ends.length+1:=by rw[Sk,Sg];show 1+_=_;exact Qi
 rw[uK,aS (by decide),Si,e,q.1,Si];exact q.2
theorem lV {c:Int} (h:Rk σ m p) (hl:p.ends.length<=900) (h1: -1<=cl p.ends) (h2:cl p.ends<99999):∃ t,bq t/\cl p.ends<t/\∀ d σ,Rk σ m p->CC (d+2) false 71 [.p m 0,.d (.int c)] σ=some (.ok (.d (.int t)),σ):=by
 have q1:=aZ (a:=c.fdiv 3) (b:=99999 - cl p.ends) (Int.sub_pos_of_lt h2);have q2:=aZ (a:=c.fdiv 3) (b:=7) (by decide);by_cases z:c.fmod 3=0
 .exact ⟨cl p.ends+1+(c.fdiv 3).fmod (99999 - cl p.ends),⟨by exact Int.add_nonneg (Int.add_le_add_right h1 1) q1.1,Qh q1⟩,Qg q1,fun d σ h=>a8 rfl rfl (ρ:=[qV m,iV c,none]) rfl (aa (av (aB (cl1 rfl) (d_ h hl)) rfl) (aM (bP (ak (iZ rfl) rfl rfl rfl (m5 z)) (aM (aF (dU (dU rfl rfl) (aO (i0 rfl) rfl rfl rfl (gx (Int.sub_pos_of_lt h2) (ST (Int.sub_le_sub_left h1 99999) (by decide)))))))))) (tk _)⟩
 .exact ⟨min 99999 (cl p.ends+1+(c.fdiv 3).fmod 7),⟨by exact Int.le_min.mpr ⟨by decide,Int.add_nonneg (Int.add_le_add_right h1 1) q2.1⟩,Qf⟩,Qe h2 q2,fun d σ h=>a8 rfl rfl (ρ:=[qV m,iV c,none]) rfl (aa (av (aB (cl1 rfl) (d_ h hl)) rfl) (aa (aX (ak (iZ rfl) rfl rfl rfl (xw z)) rfl) rfl)) (tk _)⟩
theorem kW {c:Int}:∃ t,(1<=t/\t<=4*10^29)/\∀ d hd σ,CC (d+1) hd 76 [.d (.int c)] σ=some (.ok (.d (.int t)),σ):=by
 have q1:=aZ (a:=c.fdiv 4) (b:=4*10^29) (by decide);have q2:=aZ (a:=c.fdiv 4) (b:=500) (by decide);by_cases z:c.fmod 4=0
 .exact ⟨1+(c.fdiv 4).fmod (4*10^29),⟨by exact Tg q1.1,Qd q1⟩,fun d hd σ=>a8 rfl rfl rfl (aM (aF (dU rfl (aO (i0 rfl) (u0 (ak (iZ rfl) rfl rfl rfl (m5 z)) rfl) rfl rfl rfl)))) (tk _)⟩
 .exact ⟨1+(c.fdiv 4).fmod 500,⟨by exact Tg q2.1,by exact SS (Int.add_le_add_left (Ti q2.2) 1) (by decide)⟩,fun d hd σ=>a8 rfl rfl rfl (aM (aF (dU rfl (aO (i0 rfl) (u5 (ak (iZ rfl) rfl rfl rfl (xw z)) rfl) rfl rfl rfl)))) (tk _)⟩
theorem jx (h:Rk σ m p) (hl:p.ents.length<=1000) (he:Ev K e ρ σ (.p m 0)):Ev K (bi bf (aj (key e 3 s) ao)) ρ σ (.d (.int p.ents.length)):=by
 have q:=fv (jy (s:=s) h he) (ir h) (by rw[Sg];exact hl);rw[Sg] at q;exact q
theorem ug (h:Rk σ m p) (hl:p.ents.length<=1000) (hs:ls.length<=1000):CC (d+1) false 73 [.p m 0,.d (.int t),.d (.str note),.d (.lst (ls.map bF)),.d (.int b)] σ=some (.ok (.d (.int (p.ents.length+1))),σ.set m (pk {p with ents:=p.ents++[⟨p.ents.length+1,t,note,ls,b⟩]})):=by
 have tp:iF.g false [.d (.lst (ls.map bF))] σ=some (.ok (.d (.tup (ls.map bF))),σ):=by
  show (au ((ls.map bF).length<=dM) (D.tup (ls.map bF))).map _=_;rw[aS (by rw[Sg];exact bo hs)];rfl
 exact a8 rfl rfl (ρ:=[qV m,iV t,sV note,dV (.lst (ls.map bF)),iV b,none]) rfl (aa (av (dU (jx h hl rfl) rfl) rfl) (aa (aA (Kw (t:=⟨p.ents.length+1,t,note,ls,b⟩) h hl rfl (bv (cP rfl (cP rfl (cP rfl (cP (ca (cl1 rfl) tp) (cl1 rfl)))))))) rfl)) iq
end
noncomputable abbrev Tx:=List Nat
variable {Y tx w:Tx} {A C ba ws:List Tx}
noncomputable abbrev DM:Tx:=[108,105,110,101]
noncomputable abbrev ip:Tx:=Tz
noncomputable abbrev dX:Tx:=TA
noncomputable abbrev rU:Tx:=TC
noncomputable abbrev sU:Tx:=TD
noncomputable abbrev sW:Tx:=TB
noncomputable abbrev mz:Tx:=TI
noncomputable abbrev DN:Tx:=[104,111,109,101]
set_option genCtorIdx true in
inductive Dd where
 |acc (a:Tx)
 |rate (c:Tx) (n t b:Int)
 |entry (n:Int) (note:Tx) (ls:List bG)
 |change (n:Int) (note g one:Tx) (a:Int) (tk aE:Tx)
 |back (k n:Int)
 |close (n:Int)
noncomputable def Dd.mth:Dd->Nat
 | .acc _=>37
 | .rate _ _ _ _=>6
 | .entry _ _ _=>20
 | .change _ _ _ _ _ _ _=>17
 | .back _ _=>9
 | .close _=>11
noncomputable def Dd.args:Dd->List PV
 | .acc a=>[.d (.str a)]
 | .rate c n t b=>[.d (.str c),.d (.int n),.d (.int t),.d (.int b)]
 | .entry n note ls=>[.d (.int n),.d (.str note),.d (.lst (ls.map bF))]
 | .change n note g one a tk aE=>[.d (.int n),.d (.str note),.d (.str g),.d (.str one),.d (.int a),.d (.str tk),.d (.str aE)]
 | .back k n=>[.d (.int k),.d (.int n)]
 | .close n=>[.d (.int n)]
noncomputable def Dd.toD:Dd->D
 | .acc a=>oI a
 | .rate c n t b=>vX c n t b
 | .entry n note ls=>.tup [.str ip,.int n,.str note,.lst (ls.map bF)]
 | .change n note g one a tk aE=>.tup [.str dX,.int n,.str note,.tup [.str g,.str one,.int a],.str tk,.str aE]
 | .back k n=>nT k n
 | .close n=>gq n
noncomputable def DE:Dd->D
 | .entry n note ls=>fc n note ls
 | .change n note g one a tk aE=>l8 n note g one a tk aE
 |x=>x.toD
noncomputable def v4:Dd->D
 | .entry n note ls=>fc n note ls
 | .change n note g one a tk aE=>.tup [.str dX,.int n,.str g,.str one,.int a,.str tk,.str aE,.str note]
 |x=>x.toD
def Nd (w:Tx):Prop:=w=cn∨gS w
def IX (l:bG):Prop:=Nd l.1/\bh l.2.1=true/\c7 l.2.2=true
def vB:Dd->Prop
 | .acc a=>gS a
 | .rate c n t b=>bh c=true/\bq n/\(1<=t/\t<=10^9)/\(1<=b/\b<=10^9)
 | .entry n note ls=>bq n/\dK note/\ls.length<=60/\∀ l∈ls,IX l
 | .change n note g one a tk aE=>bq n/\dK note/\Nd g/\bh one=true/\c7 a=true/\Nd tk/\bh aE=true
 | .back k n=>(1<=k/\k<=1000)/\bq n
 | .close n=>bq n
def Dn (x:Dd) (S S':St):Prop:=∀ d σ n,Bk σ n S->CC (d+4) false 90 [.p n 0,.d x.toD] σ=some (.ok (.d .none),σ.set n (bk S'))
def Rp:St->List Dd->St->Prop
 |S,[],S'=>S'=S
 |S,x::l,S'=>∃ S1,Dn x S S1/\Rp S1 l S'
inductive Hs (p:Pl) (S:St):Prop
 |mk (T more:List Tx) (ds:List Dd):p.first=T.length+1->p.names=cn::(T++more)->(∀ x∈T,gS x)->p.deeds=ds.map v4->(∀ x∈ds,vB x)->Rp (st0 S.home) (T.map .acc++ds) S->S.deeds=(T.map Dd.acc++ds).map DE->Hs p S
section
variable {S'':St} {x:Dd}
theorem iJ {v:PV} (B:Bk σ n S) (h:CC (d+3) false x.mth (.p n 0::x.args) σ=some (.ok v,σ.set n (bk S'))):CC (d+4) false 90 [.p n 0,.d x.toD] σ=some (.ok (.d .none),σ.set n (bk S')):=by
 cases x with
 |acc a=>exact dL rfl rfl rfl (aa (bP rfl (aa (aA (a' B rfl rfl h)) rfl)) rfl) iq
 |rate c m t b=>exact dL rfl rfl rfl (aa (aX rfl (aa (bP rfl (aa (aA (a' B rfl rfl h)) rfl)) rfl)) rfl) iq
 |entry m note ls=>exact dL rfl rfl rfl (aa (aX rfl (aa (aX rfl (aa (bP rfl (aa (aA (a' B rfl rfl h)) rfl)) rfl)) rfl)) rfl) iq
 |change m note g one a tk' aE=>exact dL rfl rfl rfl (aa (aX rfl (aa (aX rfl (aa (aX rfl (aa (bP rfl (aa (aA (a' B rfl rfl h)) rfl)) rfl)) rfl)) rfl)) rfl) iq
 |back k m=>exact dL rfl rfl rfl (aa (aX rfl (aa (aX rfl (aa (aX rfl (aa (aX rfl (aa (bP rfl (aa (aA (a' B rfl rfl h)) rfl)) rfl)) rfl)) rfl)) rfl)) rfl) iq
 |close m=>exact dL rfl rfl rfl (aa (aX rfl (aa (aX rfl (aa (aX rfl (aa (aX rfl (aa (aX rfl (aa (aA (a' B rfl rfl h)) rfl)) rfl)) rfl)) rfl)) rfl)) rfl) iq
theorem Rp.snoc (k:Dn x S' S''):∀ {l:List Dd} {S:St},Rp S l S'->Rp S (l++[x]) S'':=by
 intro l
 induction l with
 |nil=>
  intro S h;cases h;exact ⟨S'',k,rfl⟩
 |cons y l ih=>exact fun h=>⟨h.choose,h.choose_spec.1,ih h.choose_spec.2⟩
theorem Hs.snoc {m:List Tx} (h:Hs p S) (ok:vB x) (dn:Dn x S S') (e1:p'.first=p.first) (e2:p'.names=p.names++m) (e3:p'.deeds=p.deeds++[v4 x]) (e4:S'.home=S.home) (e5:S'.deeds=S.deeds++[DE x]):Hs p' S':=by
 obtain ⟨T,more,ds,h1,h2,h3,h4,h5,h6,h7⟩:=h;refine ⟨T,more++m,ds++[x],e1.trans h1,by rw[e2,h2,List.cons_append,List.append_assoc],h3,by rw[e3,h4,List.map_append];rfl,fun y hy=>(SC.mp hy).elim (h5 y) fun hy=>by rw[So.mp hy];exact ok,?_,?_⟩
 .rw[e4,<-List.append_assoc];exact h6.snoc dn
 .rw[e5,h7,<-List.append_assoc,List.map_append (l₂:=[x])];rfl
end
structure x_ (N:List (List Nat)) (e:i_):Prop where
 l:∀ x∈e.lines,x.1∈N/\bh x.2.1=true/\c7 x.2.2=true
 n:e.lines.length<=60
 z:∀ c,bM c e.lines=0
 t:dK e.note
 d:bq e.day
def Mj (l:List i_):Prop:=l.map (·.no)=(List.range l.length).map fun i=>((i:Nat):Int)+1
theorem Mj.snoc {l:List i_} {x:i_} (h:Mj l) (hx:x.no=l.length+1):Mj (l++[x]):=by
 unfold Mj at*;rw[List.map_append,h,Sk,Su,List.range_succ,List.map_append];show _++[x.no]=_++[_];rw[hx]
structure Gd (N:Nat) (p:Pl) (S:St):Prop where
 names:S.names=p.names
 nm:∃ T,p.names=cn::T/\JL T
 nl:p.names.length<=7
 nd:p.curs.Nodup
 ic:∀ c∈p.curs,bh c=true
 c3:3<=p.curs.length
 c10:p.curs.length<=8
 home:p.curs[0]? =some S.home
 made:S.made=p.ents
 ends:S.ends=p.ends
 gone:S.gone=p.backs
 tell:∃ m,rM S p.told m
 rw:∀ x∈p.told,An x
 ent:∀ e∈p.ents,x_ p.names e
 cl1: -1<=cl p.ends
 cl2:cl p.ends<=99999
 l1:p.ents.length<=N
 l2:p.told.length<=N
 l3:p.ends.length<=N
 l4:p.backs.length<=N
 l5:p.deeds.length<=N
 l6:S.deeds.length<=N
 cu:∀ e∈p.ents,∀ x∈e.lines,x.2.1∈p.curs
 nos:Mj p.ents
 hs:Hs p S
 tc:∀ x∈p.told,bh x.1=true/\bq x.2.1
structure Ke (p p':Pl):Prop where
 c:p'.curs=p.curs
 m:p'.most=p.most
 e:p'.ents.length<=p.ents.length+1
 g:p.names ⊆ p'.names
section
theorem j6 {o:CO} {b:CE} {w:D} (h1:a.ev K ρ σ=some (.ok x,σ')) (h2:Ev K b ρ σ' y) (r1:rd σ' x=some u) (r2:rd σ' y=some w) (h:o.g u w=some q):(rj o a b).ev K ρ σ=some (.ok (.d (.bool q)),σ'):=aC h1 (aC h2 (aC (nP h r1 r2) rfl))
theorem Gd.sh (g:Gd N p S) (hN:N<=900):Sh S:=by
 obtain ⟨mm,T⟩:=g.tell;have:=g.nl;have:=g.l1;have:=g.l2;have:=g.l3;have:=g.l4;have:=g.l6;exact ⟨by rw[g.names];exact o3 (by assumption),by rw[T.k,Sg];have:=T.ml;exact Rs hN (by assumption) this,by rw[g.made];exact Ob hN (by assumption),by rw[g.gone];exact Ob hN (by assumption),by rw[g.ends];exact Ob hN (by assumption),Ob hN this⟩
theorem Gd.nmO (g:Gd N p S) {x:Tx} (h:x∈p.names):Nd x:=by
 obtain ⟨T,e,q⟩:=g.nm;rw[e] at h;exact (Sj.mp h).imp id (q.nm x)
theorem Gd.mono (g:Gd N p S) {M:Nat} (h:N<=M):Gd M p S:={g with l1:=Ss g.l1 h,l2:=Ss g.l2 h,l3:=Ss g.l3 h,l4:=Ss g.l4 h,l5:=Ss g.l5 h,l6:=Ss g.l6 h}
theorem fD.bm (h:fD σ m n p S):Bk (σ.set m (pk p')) n S:=by
 show (σ.set m (pk p'))[n]? =_;rw[SP h.ne];exact h.b
theorem b9 {l:List α} {x:α} (h:l.length<=N):(l++[x]).length<=N+1:=by rw[Sk];exact Tj h
theorem Bz {l:List Int} {x:Int}:cl (l++[x])=x:=by
 unfold cl;rw[Sk,Su,if_neg (Rl),Nat.add_sub_cancel,SD,SH (Sv _),Nat.sub_self];rfl
theorem rM.of (T:rM S rs mm) (h1:S'.tk=S.tk) (h2:S'.tv=S.tv):rM S' rs mm:=⟨by rw[h1];exact T.k,by rw[h2];exact T.v,T.d,T.ml⟩
theorem D7 {c:Int} (h:fD σ m n p S) (g:Gd N p S) (hN:N<=800) (ho:cl p.ends<99999):∃ p' S',Gd (N+1) p' S'/\Ke p p'/\(p'.ents=p.ents/\∃ t,p'.ends=p.ends++[t])/\CC (d+4) false 72 [.p n 0,.p m 0,.d (.int c)] σ=some (.ok (.d (.bool true)),bb σ m n p' S'):=by
 obtain ⟨t,h1,h2,dr⟩:=lV (c:=c) h.r (o1 hN g.l3) g.cl1 ho;have sh:=g.sh (o6 hN);refine ⟨{p with ends:=p.ends++[t],deeds:=p.deeds++[gq t]},Bs S t,?_,⟨rfl,rfl,S5 _,fun _ h=>h⟩,⟨rfl,t,rfl⟩,?_⟩
 .exact {names:=g.names,nm:=g.nm,nl:=g.nl,nd:=g.nd,ic:=g.ic,c3:=g.c3,c10:=g.c10,home:=g.home,made:=g.made,ends:=by show S.ends++[t]=p.ends++[t];rw[g.ends],gone:=g.gone,tell:=⟨g.tell.choose,g.tell.choose_spec.of rfl rfl⟩,rw:=g.rw,ent:=g.ent,cl1:=by show -1<=cl (p.ends++[t]);rw[Bz];have:=h1.1;exact Ti this,cl2:=by show cl (p.ends++[t])<=99999;rw[Bz];exact h1.2,l1:=SM g.l1,l2:=SM g.l2,l3:=b9 g.l3,l4:=SM g.l4,l5:=b9 g.l5,l6:=b9 g.l6,cu:=g.cu,nos:=g.nos,tc:=g.tc,hs:=g.hs.snoc (x:=.close t) h1 (fun d σ n b=>iJ b (xF b sh h1 (by rw[g.ends];exact h2) (by rw[g.ends];have:=g.l3;exact o1 hN this))) rfl (List.append_nil _).symm rfl rfl rfl}
 .have a1:=Kx (K:=KK (d+3) false) (ρ:=[qV n,qV m,iV c,iV t]) (e:=ag 1) (a:=ag 3) (s:=Tw) (t:=t) h.r (o0 hN g.l3) rfl rfl;have r1:Rk (σ.set m (pk {p with ends:=p.ends++[t]})) m {p with ends:=p.ends++[t]}:=jh h.r.lt;have a2:=j2 (K:=KK (d+3) false) (ρ:=[qV n,qV m,iV c,iV t]) (e:=ag 1) (a:=bx (aj (aH TI) (aj (ag 3) ao))) (s:=Tu) (t:=gq t) r1 (by have:=g.l5;show p.deeds.length<=_;exact o0 hN this) rfl (bv rfl);rw[List.set_set] at a2;have b2:Bk (σ.set m (pk {p with ends:=p.ends++[t],deeds:=p.deeds++[gq t]})) n S:=h.bm;have cr:=xF (d:=d) b2 sh h1 (by rw[g.ends];exact h2) (by rw[g.ends];have:=g.l3;exact o1 hN this);have r3:Rk (bb σ m n {p with ends:=p.ends++[t],deeds:=p.deeds++[gq t]} (Bs S t)) m {p with ends:=p.ends++[t],deeds:=p.deeds++[gq t]}:=(h.to _ _).r;have ln:Ev (KK (d+3) false) (bi bf (aj (key (ag 1) 5 Tw) ao)) [qV n,qV m,iV c,iV t] (bb σ m n {p with ends:=p.ends++[t],deeds:=p.deeds++[gq t]} (Bs S t)) (.d (.int (S.ends.length+1))):=by
   have q:=fv (K:=KK (d+3) false) (ρ:=[qV n,qV m,iV c,iV t]) (qv (e:=ag 1) (s:=Tw) r3 rfl) (uf r3) (by rw[Sg];show (p.ends++[t]).length<=_;rw[Sk,Su];have:=g.l3;exact SJ this (SJ hN (Sp rfl)));rw[Sg] at q;rw[g.ends];have e:(((p.ends++[t]).length:Nat):Int)=(p.ends.length:Int)+1:=by rw[Sk,Su];rfl
   rw[<-e];exact q
  exact a8 rfl rfl (ρ:=[qV n,qV m,iV c,none]) rfl (aa (av (aY (dr (d+1) _ h.r) rfl) rfl) (aa (aA a1) (aa (aA a2) (aM (aF (j6 (a' b2 rfl rfl cr) ln rfl rfl (m5 rfl))))))) nu
theorem zg {c:Int} (h:fD σ m n p S) (g:Gd N p S) (hN:N<=800):∃ p' S',Gd (N+1) p' S'/\Ke p p'/\CC (d+3) false 79 [.p n 0,.p m 0,.d (.int c)] σ=some (.ok (.d (.bool true)),bb σ m n p' S'):=by
 obtain ⟨t,ht,nr⟩:=pU (d:=d+1) (σ:=σ) (n:=c);have sh:=g.sh (o6 hN);have ln:Ev (KK (d+2) false) (bi bf (aj (key (ag 1) 0 Tq) ao)) [qV n,qV m,iV c,sV t] σ (.d (.int p.names.length)):=by
  have q:=fv (K:=KK (d+2) false) (ρ:=[qV n,qV m,iV c,sV t]) (cK (e:=ag 1) (s:=Tq) h.r rfl) (cB h.r) (by rw[Sg];have:=g.nl;exact o3 this);rw[Sg] at q;exact q
 by_cases z1:t∈p.names
 .refine ⟨p,S,g.mono (S5 _),⟨rfl,rfl,S5 _,fun _ h=>h⟩,?_⟩;rw[h.same];exact a8 rfl rfl (ρ:=[qV n,qV m,iV c,none]) rfl (aa (av (aB rfl nr) rfl) (aM (bP (bN (gr (ak rfl (cK h.r rfl) rfl (cB h.r) (Lq z1)))) rfl))) (tk _)
 by_cases z2:(6:Int)<p.names.length
 .refine ⟨p,S,g.mono (S5 _),⟨rfl,rfl,S5 _,fun _ h=>h⟩,?_⟩;rw[h.same];exact a8 rfl rfl (ρ:=[qV n,qV m,iV c,none]) rfl (aa (av (aB rfl nr) rfl) (aM (bP (bN (bz (ak rfl (cK h.r rfl) rfl (cB h.r) (HX z1)) (gr (ak ln rfl rfl rfl (zx z2))))) rfl))) (tk _)
 refine ⟨{p with names:=p.names++[t],deeds:=p.deeds++[oI t]},fA S t,?_,⟨rfl,rfl,S5 _,List.subset_append_left _ _⟩,?_⟩
 .obtain ⟨T,e1,e2⟩:=g.nm;refine {names:=by show S.names++[t]=p.names++[t];rw[g.names],nm:=⟨T++[t],by show p.names++[t]=_;rw[e1];rfl,⟨?_,?_,fun x hx=> ?_⟩⟩,nl:=by show (p.names++[t]).length<=7;rw[Sk,Su];exact Tj (SV.mp (Tn.mp z2)),nd:=g.nd,ic:=g.ic,c3:=g.c3,c10:=g.c10,home:=g.home,made:=g.made,ends:=g.ends,gone:=g.gone,tell:=⟨g.tell.choose,g.tell.choose_spec.of rfl rfl⟩,rw:=g.rw,ent:=fun e he=> ?_,cl1:=g.cl1,cl2:=g.cl2,l1:=SM g.l1,l2:=SM g.l2,l3:=SM g.l3,l4:=SM g.l4,l5:=b9 g.l5,l6:=b9 g.l6,cu:=g.cu,nos:=g.nos,tc:=g.tc,hs:=g.hs.snoc (x:=.acc t) ht (fun d σ n b=>iJ b (jR b sh ht (by rw[g.names];exact z1))) rfl rfl rfl rfl rfl}
  .exact List.nodup_append.mpr ⟨e2.nd,S6.mpr ⟨SF,S9⟩,fun a ha c hc=>by rw[So.mp hc];rintro rfl;exact z1 (by rw[e1];exact .tail _ ha)⟩
  .intro q;rcases SC.mp q with q|q
   .exact e2.ne q
   .exact z1 (by rw[<-So.mp q,e1];exact .head _)
  .rcases SC.mp hx with q|q
   .exact e2.nm x q
   .rw[So.mp q];exact ht
  .have q:=g.ent e he;exact ⟨fun x hx=>⟨List.mem_append_left _ (q.l x hx).1,(q.l x hx).2⟩,q.n,q.z,q.t,q.d⟩
 .have a1:=Hj (K:=KK (d+2) false) (ρ:=[qV n,qV m,iV c,sV t]) (e:=ag 1) (a:=ag 3) (s:=Tq) (t:=t) h.r (by have:=g.nl;exact Ss (SV.mp (Tn.mp z2)) (by decide)) rfl rfl;have r1:Rk (σ.set m (pk {p with names:=p.names++[t]})) m {p with names:=p.names++[t]}:=jh h.r.lt;have a2:=j2 (K:=KK (d+2) false) (ρ:=[qV n,qV m,iV c,sV t]) (e:=ag 1) (a:=bx (aj (aH TC) (aj (ag 3) ao))) (s:=Tu) (t:=oI t) r1 (by have:=g.l5;show p.deeds.length<=_;exact o0 hN this) rfl (bv rfl);rw[List.set_set] at a2;have b2:Bk (σ.set m (pk {p with names:=p.names++[t],deeds:=p.deeds++[oI t]})) n S:=h.bm;have ar:=jR (d:=d) b2 sh ht (by rw[g.names];exact z1);exact a8 rfl rfl (ρ:=[qV n,qV m,iV c,none]) rfl (aa (av (aB rfl nr) rfl) (aa (aX (bN (bz (ak rfl (cK h.r rfl) rfl (cB h.r) (HX z1)) (bz (ak ln rfl rfl rfl (ol z2)) rfl))) rfl) (aa (aA a1) (aa (aA a2) (aM (aF (j6 (a' b2 rfl rfl ar) rfl rfl rfl rfl))))))) nu
end
section
theorem qu (h:Rk σ m p) (hl:p.curs.length<=1000) (he:Ev K e ρ σ (.p m 0)):Ev K (bi bf (aj (key e 2 s) ao)) ρ σ (.d (.int p.curs.length)):=HP (gQ h he) hl
theorem tf (h:Rk σ m p) (hl:p.names.length<=1000) (he:Ev K e ρ σ (.p m 0)):Ev K (bi bf (aj (key e 0 s) ao)) ρ σ (.d (.int p.names.length)):=by
 have q:=fv (cK (s:=s) h he) (cB h) (by rw[Sg];exact hl);rw[Sg] at q;exact q
theorem CN {c k:Int} (h:fD σ m n p S) (g:Gd N p S) (hN:N<=800) (ho:cl p.ends<99999):∃ p' S',Gd (N+1) p' S'/\Ke p p'/\CC (d+4) false 78 [.p n 0,.p m 0,.d (.int c),.d (.int k)] σ=some (.ok (.d (.bool true)),bb σ m n p' S'):=by
 refine bn fun G9 k9=> ?_;obtain ⟨t,h1,h2,dr⟩:=lV (c:=c) h.r (o1 hN g.l3) g.cl1 ho;refine k9 ?_;have c3:=g.c3;have c10:=g.c10;have q:=aZ (a:=k) (b:=p.curs.length - 1) (Oa c3);have hk:1+(k.fmod (p.curs.length - 1)).toNat<p.curs.length:=Qc q;generalize hu:p.curs[1+(k.fmod (p.curs.length - 1)).toNat]=u;have um:u∈p.curs:=hu ▸ List.getElem_mem hk;have un:u≠S.home:=fun z=>by
  have h0:=g.home;obtain ⟨l0,e0⟩:=Sl.mp h0;have:=(List.getElem_inj g.nd (h₀:=l0) (h₁:=hk)).mp (by rw[e0,hu,z]);exact absurd this.symm (Nat.ne_of_gt (SK Nat.zero_lt_one (Tf _ _)))
 have e5:Ev (KK (d+3) false) (sub (key (ag 1) 2 Tr) (aK a9 (ah 1) (aK bA (ag 3) (aK c_ (bi bf (aj (key (ag 1) 2 Tr) ao)) (ah 1))))) [qV n,qV m,iV c,iV k,iV t,none,none] σ (.d (.str u)):=by
  refine bc (gQ h.r rfl) (dU rfl (aO rfl (aO (qu h.r (KH c10) rfl) rfl rfl rfl rfl) rfl rfl (gx (Oa c3) (Rj c10)))) rfl rfl ?_;rw[show (1:Int)+k.fmod (p.curs.length - 1)=((1+(k.fmod (p.curs.length - 1)).toNat:Nat):Int) by exact Qb q];exact b7 (by rw[SB,Sn hk,hu];rfl) (Ss (SY hk) (Ss c10 (by decide)))
 have f1:=aZ (a:=k.fdiv 2) (b:=10^9) (by decide);have f2:=aZ (a:=c.fdiv 7) (b:=10^9) (by decide);have f3:=aZ (a:=k.fdiv 2) (b:=40) (by decide);have f4:=aZ (a:=c.fdiv 7) (b:=40) (by decide);refine bn fun G9 k9=> ?_;obtain ⟨x,y,hx,hy,s4⟩:∃ x y,(1<=x/\x<=10^9)/\(1<=y/\y<=10^9)/\pV.ex (KK (d+3) false) [qV n,qV m,iV c,iV k,iV t,sV u,dV (s6 (u,t,1+(k.fdiv 2).fmod (10^9),1+(c.fdiv 7).fmod (10^9)))] σ=some (.next [qV n,qV m,iV c,iV k,iV t,sV u,dV (s6 (u,t,x,y))],σ):=by
  by_cases z:0<(k.fdiv 3).fmod 3
  .exact ⟨1+(k.fdiv 2).fmod 40,1+(c.fdiv 7).fmod 40,Ri f3,Ri f4,bP (ak (iZ (i0 rfl)) rfl rfl rfl (zx z)) rfl⟩
  .exact ⟨_,_,Rh f1,Rh f2,aX (ak (iZ (i0 rfl)) rfl rfl rfl (ol z)) rfl⟩
 obtain ⟨mm,T⟩:=g.tell;obtain ⟨ks,vs,m',T',run⟩:=DT T (g.sh (o6 hN)) (g.ic u um) h1 (by show cl S.ends<t;rw[g.ends];exact h2) un hx hy (o1 hN g.l2);refine k9 ?_;refine ⟨{p with told:=p.told++[(u,t,x,y)],deeds:=p.deeds++[vX u t x y]},told S u t x y ks vs,?_,⟨rfl,rfl,S5 _,fun _ h=>h⟩,?_⟩
 .have tc':∀ x'∈p.told++[(u,t,x,y)],bh x'.1=true/\bq x'.2.1:=fun z hz=>by
   rcases SC.mp hz with hz|hz
   .exact g.tc z hz
   .rw[So.mp hz];exact ⟨g.ic u um,h1⟩
  have rw':∀ x'∈p.told++[(u,t,x,y)],An x':=fun z hz=>by
   rcases SC.mp hz with hz|hz
   .exact g.rw z hz
   .rw[So.mp hz];exact ⟨hx,hy⟩
  exact {names:=g.names,nm:=g.nm,nl:=g.nl,nd:=g.nd,ic:=g.ic,c3:=g.c3,c10:=g.c10,home:=g.home,made:=g.made,ends:=g.ends,gone:=g.gone,tell:=⟨m',T'⟩,rw:=rw',ent:=g.ent,cl1:=g.cl1,cl2:=g.cl2,l1:=SM g.l1,l2:=b9 g.l2,l3:=SM g.l3,l4:=SM g.l4,l5:=b9 g.l5,l6:=b9 g.l6,cu:=g.cu,nos:=g.nos,tc:=tc',hs:=g.hs.snoc (x:=.rate u t x y) ⟨g.ic u um,h1,hx,hy⟩ (fun d σ n b=>iJ b (run d σ n b)) rfl (List.append_nil _).symm rfl rfl rfl}
 .have a1:=Kv (K:=KK (d+3) false) (ρ:=[qV n,qV m,iV c,iV k,iV t,sV u,dV (s6 (u,t,x,y))]) (e:=ag 1) (a:=ag 6) (s:=[116,111,108,100]) (t:=(u,t,x,y)) h.r (o0 hN g.l2) rfl rfl;have r1:Rk (σ.set m (pk {p with told:=p.told++[(u,t,x,y)]})) m {p with told:=p.told++[(u,t,x,y)]}:=jh h.r.lt;have a2:=j2 (K:=KK (d+3) false) (ρ:=[qV n,qV m,iV c,iV k,iV t,sV u,dV (s6 (u,t,x,y))]) (e:=ag 1) (a:=bx (aj (aH TD) (aj (sub (ag 6) (ah 0)) (aj (ag 4) (aj (sub (ag 6) (ah 2)) (aj (sub (ag 6) (ah 3)) ao)))))) (s:=Tu) (t:=vX u t x y) r1 (by have:=g.l5;show p.deeds.length<=_;exact o0 hN this) rfl (bv rfl);rw[List.set_set] at a2;have b2:Bk (σ.set m (pk {p with told:=p.told++[(u,t,x,y)],deeds:=p.deeds++[vX u t x y]})) n S:=h.bm;have tr:=run d _ n b2;exact a8 rfl rfl (ρ:=[qV n,qV m,iV c,iV k,none,none,none]) rfl (aa (av (aY (dr (d+1) _ h.r) rfl) rfl) (aa (av e5 rfl) (aa rfl (aa s4 (aa (aA a1) (aa (aA a2) (aM (aF (j6 (a' b2 rfl rfl tr) rfl rfl rfl rfl))))))))) nu
theorem zY:∀ ls:List bG,bM c (ls.map fu)= - bM c ls:=by
 intro ls
 induction ls with
 |nil=>
  exact rfl
 |cons l ls ih=>
  have ih:=ih;unfold bM at ih ⊢;rw[List.map_cons];by_cases q:l.2.1=c
  .rw[SQ (p:=fun l:bG=>decide (l.2.1=c)) (a:=fu l) (Sz q),SQ (p:=fun l:bG=>decide (l.2.1=c)) (Sz q),List.map_cons,List.map_cons,List.sum_cons,List.sum_cons,ih,Int.neg_add];rfl
  .rw[List.filter_cons_of_neg (p:=fun l:bG=>decide (l.2.1=c)) (a:=fu l) (by rw[decide_eq_true_eq];exact q),List.filter_cons_of_neg (p:=fun l:bG=>decide (l.2.1=c)) (by rw[decide_eq_true_eq];exact q),ih]
theorem vq {a:Int} (h:c7 a=true):c7 (-a)=true:=by
 unfold c7 at h ⊢;have h1:=S3 (ai h);have h2:=S3 (ai (an h));have h3:=S3 (an (an h));rw[Sz (show -a≠0 by exact Int.neg_ne_zero.mpr h1),Sz (show -(10^30)< -a by exact Int.neg_lt_neg h3),Sz (show -a<10^30 by exact Int.neg_lt_of_neg_lt h2)];rfl
theorem A5 {a:Int} {ns:List Int}:D.int a∈ns.map D.int<->a∈ns:=by
 constructor
 .intro h;obtain ⟨b,hb,e⟩:=SA.mp h;cases e;exact hb
 .exact fun h=>List.mem_map_of_mem h
theorem A9 {a:Int} {ns:List Int}:Lr (.int a) (.lst (ns.map .int))=some (@decide (D.int a∈ns.map D.int) (Classical.propDecidable _)):=by
 have h:(pl 8 (.int a)&&(ns.map D.int).all (pl 8))=true:=Bool.and_eq_true_iff.mpr ⟨rfl,List.all_eq_true.mpr fun x hx=>by
  obtain ⟨b,_,e⟩:=SA.mp hx;rw[<-e];rfl⟩
 unfold Lr;show au _ _=_;unfold au;rw[if_pos h];congr
theorem JD {a:Int} {ns:List Int} (h:a∈ns):JI.g (.int a) (.lst (ns.map .int))=some true:=A9.trans (congrArg some (@Sz _ (_) (A5.mpr h)))
theorem Fq {a:Int} {ns:List Int} (h:a∉ns):JI.g (.int a) (.lst (ns.map .int))=some false:=A9.trans (congrArg some (@Tc _ (_) fun q=>h (A5.mp q)))
theorem ME (e:i_):pl 7 (dt e)=true:=by
 have:(e.lines.map bF).all (pl 5)=true:=List.all_eq_true.mpr fun x hx=>by
  obtain ⟨l,_,q⟩:=SA.mp hx;rw[<-q];rfl
 show (true&&(true&&(true&&((e.lines.map bF).all (pl 5)&&(true&&true)))))=true;rw[this];rfl
theorem Ku (l:List i_):pl 8 (.lst (l.map dt))=true:=List.all_eq_true.mpr fun x hx=>by
 obtain ⟨y,_,e⟩:=SA.mp hx;rw[<-e];exact ME y
theorem FN {l:List i_} (h:l≠[]):dp.g (.lst (l.map dt)) (.lst [])=some false:=JG (fun z=>h (by injection z with z;exact List.map_eq_nil_iff.mp z)) (Ku l) rfl rfl
theorem si {c k:Int} (h:fD σ m n p S) (g:Gd N p S) (hN:N<=800) (ho:cl p.ends<99999):∃ p' S',Gd (N+1) p' S'/\Ke p p'/\CC (d+4) false 74 [.p n 0,.p m 0,.d (.int c),.d (.int k)] σ=some (.ok (.d (.bool true)),bb σ m n p' S'):=by
 have sh:=g.sh (o6 hN);have el:=g.l1;have le:∀ x4,Ev (KK (d+3) false) (bi bf (aj (key (ag 1) 3 Tt) ao)) [qV n,qV m,iV c,iV k,x4,none,none,none,none,none] σ (.d (.int p.ents.length)):=fun x4=>jx h.r (o0 hN el) rfl;by_cases z0:p.ents=[]
 .refine ⟨p,S,g.mono (S5 _),⟨rfl,rfl,S5 _,fun _ h=>h⟩,?_⟩;rw[h.same];have e4:Ev (KK (d+3) false) (aK a9 (ah 1) (aK bA (ag 3) (bi tn (aj (ah 1) (aj (bi bf (aj (key (ag 1) 3 Tt) ao)) ao))))) [qV n,qV m,iV c,iV k,none,none,none,none,none,none] σ (.d (.int (1+k.fmod (max 1 p.ents.length)))):=dU rfl (aO rfl (ca (cP rfl (cl1 (le none))) rfl) rfl rfl (gx (Rg) (Rf hN el)));exact a8 rfl rfl (ρ:=[qV n,qV m,iV c,iV k,none,none,none,none,none,none]) rfl (aa (av e4 rfl) (aM (bP (bN (gr (ak (jy h.r rfl) (eH rfl) (ir h.r) rfl (by rw[z0];exact FL rfl rfl rfl)))) rfl))) (tk _)
 have ep:0<p.ents.length:=List.length_pos_iff.mpr z0;have q:=aZ (a:=k) (b:=p.ents.length) (KF ep);have hk:(k.fmod p.ents.length).toNat<p.ents.length:=Od q;generalize hj:(k.fmod p.ents.length).toNat=j at hk;have kj:(1:Int)+k.fmod (max 1 p.ents.length)=(j:Int)+1:=by
  rw[show max (1:Int) p.ents.length=p.ents.length by exact Int.max_eq_right (SV.mpr ep)];exact Qa q hj
 have e4:Ev (KK (d+3) false) (aK a9 (ah 1) (aK bA (ag 3) (bi tn (aj (ah 1) (aj (bi bf (aj (key (ag 1) 3 Tt) ao)) ao))))) [qV n,qV m,iV c,iV k,none,none,none,none,none,none] σ (.d (.int (j+1))):=by
  have e:=dU (K:=KK (d+3) false) (ρ:=[qV n,qV m,iV c,iV k,none,none,none,none,none,none]) (σ:=σ) (a:=ah 1) (x:=1) (b:=aK bA (ag 3) (bi tn (aj (ah 1) (aj (bi bf (aj (key (ag 1) 3 Tt) ao)) ao)))) (y:=k.fmod (max 1 p.ents.length)) rfl (aO rfl (ca (cP rfl (cl1 (le none))) rfl) rfl rfl (gx (Rg) (Rf hN el)));rw[kj] at e;exact e
 have ej:p.ents[j]? =some p.ents[j]:=Sn hk;generalize p.ents[j]=E at ej;have Em:E∈p.ents:=SO ej;have eE:∀ x5 x6 x7 x8,Ev (KK (d+3) false) (sub (key (ag 1) 3 Tt) (aK c_ (ag 4) (ah 1))) [qV n,qV m,iV c,iV k,iV (j+1),x5,x6,x7,x8,none] σ (.d (dt E)):=fun x5 x6 x7 x8=>by
  refine bc (jy h.r rfl) rfl (ir h.r) rfl (w:=.int ((j:Int)+1 - 1)) ?_;rw[Int.add_sub_cancel];exact b7 (by rw[SB,ej];rfl) (MP hN el hk)
 have ne:Ts (KK (d+3) false) (aJ dp (key (ag 1) 3 Tt) (gV ao)) [qV n,qV m,iV c,iV k,iV (j+1),none,none,none,none,none] σ false:=ak (jy h.r rfl) (eH rfl) (ir h.r) rfl (FN z0);by_cases z1:((j:Int)+1)∈p.backs
 .refine ⟨p,S,g.mono (S5 _),⟨rfl,rfl,S5 _,fun _ h=>h⟩,?_⟩;rw[h.same];exact a8 rfl rfl (ρ:=[qV n,qV m,iV c,iV k,none,none,none,none,none,none]) rfl (aa (av e4 rfl) (aM (bP (bN (bz ne (gr (ak rfl (j4 h.r rfl) rfl (lx h.r) (JD z1))))) rfl))) (tk _)
 by_cases z2:E.back=0
 case neg=>
  refine ⟨p,S,g.mono (S5 _),⟨rfl,rfl,S5 _,fun _ h=>h⟩,?_⟩;rw[h.same];exact a8 rfl rfl (ρ:=[qV n,qV m,iV c,iV k,none,none,none,none,none,none]) rfl (aa (av e4 rfl) (aM (bP (bN (bz ne (bz (ak rfl (j4 h.r rfl) rfl (lx h.r) (Fq z1)) (gr (ak (bc (eE _ _ _ _) rfl rfl rfl (qF (k:=4) rfl)) rfl rfl rfl (we z2)))))) rfl))) (tk _)
 refine bn fun G9 k9=> ?_;obtain ⟨t,h1,h2,dr⟩:=lV (c:=c) h.r (o1 hN g.l3) g.cl1 ho;refine k9 ?_;have Eo:=g.ent E Em;have E6:=Eo.n;refine ⟨{p with ents:=p.ents++[⟨p.ents.length+1,t,E.note,E.lines.map fu,j+1⟩],backs:=p.backs++[(j:Int)+1],deeds:=p.deeds++[nT (j+1) t]},Gh S j E t,?_,⟨rfl,rfl,Ta Sk,fun _ h=>h⟩,?_⟩
 .have en:∀ e∈p.ents++[⟨p.ents.length+1,t,E.note,E.lines.map fu,j+1⟩],x_ p.names e:=fun e he=>by
   rcases SC.mp he with he|he
   .exact g.ent e he
   .rw[So.mp he];refine ⟨fun x hx=> ?_,by show (E.lines.map fu).length<=60;rw[Sg];exact E6,fun c=>by show bM c (E.lines.map fu)=0;rw[zY,Eo.z];rfl,Eo.t,h1⟩;obtain ⟨y,hy,rfl⟩:=SA.mp hx;have:=Eo.l y hy;exact ⟨this.1,this.2.1,vq this.2.2⟩
  have cu:∀ e∈p.ents++[⟨p.ents.length+1,t,E.note,E.lines.map fu,j+1⟩],∀ x∈e.lines,x.2.1∈p.curs:=fun e he x hx=>by
   rcases SC.mp he with he|he
   .exact g.cu e he x hx
   .rw[So.mp he] at hx;obtain ⟨y,hy,rfl⟩:=SA.mp hx;exact g.cu E Em y hy
  exact {names:=g.names,nm:=g.nm,nl:=g.nl,nd:=g.nd,ic:=g.ic,c3:=g.c3,c10:=g.c10,home:=g.home,made:=by show S.made++[⟨S.made.length+1,t,E.note,E.lines.map fu,j+1⟩]=_;rw[g.made],ends:=g.ends,gone:=by show S.gone++[(j:Int)+1]=_;rw[g.gone],tell:=⟨g.tell.choose,g.tell.choose_spec.of rfl rfl⟩,rw:=g.rw,ent:=en,cl1:=g.cl1,cl2:=g.cl2,l1:=b9 g.l1,l2:=SM g.l2,l3:=SM g.l3,l4:=b9 g.l4,l5:=b9 g.l5,l6:=b9 g.l6,cu:=cu,nos:=g.nos.snoc rfl,tc:=g.tc,hs:=g.hs.snoc (x:=.back (j+1) t) ⟨⟨M9,by exact SV.mpr (Ss hk (Ss el (Ss hN (Sp rfl))))⟩,h1⟩ (fun d σ n b=>iJ b (nO (k:=j) (e:=E) b sh (by rw[g.made];exact ej) z2 (Jr E6) (by rw[g.gone];exact z1) h1 (by rw[g.ends];exact h2))) rfl (List.append_nil _).symm rfl rfl rfl}
 .have cm:jv.ex (KK (d+3) false) [qV n,qV m,iV c,iV k,iV (j+1),dV (dt E),iV t,none,none,none] σ=some (.next [qV n,qV m,iV c,iV k,iV (j+1),dV (dt E),iV t,dV (.lst ((E.lines.map fu).map bF)),none,none],σ):=by
   refine li (ie rfl rfl (eM bF (fun l=>.tup [.str l.1,.str l.2.1,.int (0 - l.2.2)]) E.lines [] (fun l hl=>bv rfl) (by rw[Tb];exact MO E6)) rfl) ?_;rw[List.nil_append,List.map_map];have:(E.lines.map fun l=>D.tup [.str l.1,.str l.2.1,.int (0 - l.2.2)])=E.lines.map (bF ∘ fu):=List.map_congr_left fun l _=>by rw[Int.zero_sub];rfl
   rw[this];rfl
  have pr:=ug (d:=d+2) (t:=t) (b:=j+1) (note:=E.note) (ls:=E.lines.map fu) h.r (o0 hN el) (by rw[Sg];exact Jr E6);have r1:Rk (σ.set m (pk {p with ents:=p.ents++[⟨p.ents.length+1,t,E.note,E.lines.map fu,j+1⟩]})) m {p with ents:=p.ents++[⟨p.ents.length+1,t,E.note,E.lines.map fu,j+1⟩]}:=jh h.r.lt;have a1:=Hk (K:=KK (d+3) false) (ρ:=[qV n,qV m,iV c,iV k,iV (j+1),dV (dt E),iV t,dV (.lst ((E.lines.map fu).map bF)),iV (p.ents.length+1),none]) (e:=ag 1) (a:=ag 4) (s:=TJ) (t:=(j:Int)+1) r1 (by have:=g.l4;show p.backs.length<=_;exact o0 hN this) rfl rfl;rw[List.set_set] at a1;have r2:Rk (σ.set m (pk {p with ents:=p.ents++[⟨p.ents.length+1,t,E.note,E.lines.map fu,j+1⟩],backs:=p.backs++[(j:Int)+1]})) m {p with ents:=p.ents++[⟨p.ents.length+1,t,E.note,E.lines.map fu,j+1⟩],backs:=p.backs++[(j:Int)+1]}:=jh h.r.lt;have a2:=j2 (K:=KK (d+3) false) (ρ:=[qV n,qV m,iV c,iV k,iV (j+1),dV (dt E),iV t,dV (.lst ((E.lines.map fu).map bF)),iV (p.ents.length+1),none]) (e:=ag 1) (a:=bx (aj (aH TB) (aj (ag 4) (aj (ag 6) ao)))) (s:=Tu) (t:=nT (j+1) t) r2 (by have:=g.l5;show p.deeds.length<=_;exact o0 hN this) rfl (bv rfl);rw[List.set_set] at a2;have b2:Bk (σ.set m (pk {p with ents:=p.ents++[⟨p.ents.length+1,t,E.note,E.lines.map fu,j+1⟩],backs:=p.backs++[(j:Int)+1],deeds:=p.deeds++[nT (j+1) t]})) n S:=h.bm;have cr:=nO (d:=d) (k:=j) (e:=E) b2 sh (by rw[g.made];exact ej) z2 (Jr E6) (by rw[g.gone];exact z1) h1 (by rw[g.ends];exact h2);exact a8 rfl rfl (ρ:=[qV n,qV m,iV c,iV k,none,none,none,none,none,none]) rfl (aa (av e4 rfl) (aa (aX (bN (bz ne (bz (ak rfl (j4 h.r rfl) rfl (lx h.r) (Fq z1)) (bz (ak (bc (eE _ _ _ _) rfl rfl rfl (qF (k:=4) rfl)) rfl rfl rfl (n9 z2)) rfl)))) rfl) (aa (av (eE _ _ _ _) rfl) (aa (av (aB rfl (dr (d+1) _ h.r)) rfl) (aa cm (aa (av (aB rfl pr) rfl) (aa (aA a1) (aa (aA a2) (aM (aF (j6 (a' b2 rfl rfl cr) rfl rfl rfl (m5 (by rw[g.made]))))))))))))) nu
end
noncomputable def Os (o:Option Rw):D:=o.elim .none Gy
theorem cc {l:bG}:bM c (l::ls)=(if l.2.1=c then l.2.2 else 0)+bM c ls:=by
 unfold bM;by_cases q:l.2.1=c
 .rw[if_pos q,SQ (p:=fun l:bG=>decide (l.2.1=c)) (Sz q),List.map_cons,List.sum_cons]
 .rw[if_neg q,List.filter_cons_of_neg (p:=fun l:bG=>decide (l.2.1=c)) (by rw[decide_eq_true_eq];exact q),Int.zero_add]
theorem KW {a k:Int} (h1:0<k) (h2:k<M):a.fmod M≠(a+k).fmod M:=by
 have hM:0<=M:=by exact SS (by decide) (ST h1 h2)
 rw[Int.fmod_eq_emod_of_nonneg a hM,Int.fmod_eq_emod_of_nonneg (a+k) hM];intro h;have e1:=Int.emod_add_mul_ediv a M;have e2:=Int.emod_add_mul_ediv (a+k) M;generalize a / M=x at e1;generalize (a+k) / M=y at e2;rw[h] at e1;have e3:M*(y - x)=k:=by rw[Int.mul_sub];exact P_ e1 e2
 rcases Int.lt_or_le (y - x) 1 with q|q
 .have:M*(y - x)<=M*0:=Int.mul_le_mul_of_nonneg_left (Int.le_iff_lt_add_one.mpr q) hM;rw[Int.mul_zero] at this;exact P9 h1 e3 this
 .have:M*1<=M*(y - x):=Int.mul_le_mul_of_nonneg_left q hM;rw[Int.mul_one] at this;exact P8 h2 e3 this
section
theorem mQ (R:Rk σ m p) (hh:p.curs[0]? =some h) (hr:p.told.length<=900):CC (d+1) false 75 [.p m 0,.d (.str c),.d (.int t)] σ=some (.ok (.d (Os (e_ h p.told c t))),σ):=by
 unfold e_;have e0:Ev (KK d false) (sub (key (ag 0) 2 Tr) (ah 0)) [qV m,sV c,iV t,none,none] σ (.d (.str h)):=bc (gQ R rfl) rfl rfl rfl (b7 (k:=0) (by rw[SB,hh];rfl));by_cases q:c=h
 .rw[if_pos q];exact a8 rfl rfl (ρ:=[qV m,sV c,iV t,none,none]) rfl (aM (bP (ak rfl e0 rfl rfl (gj q)) rfl)) (tk _)
 .rw[if_neg q];obtain ⟨c',lp⟩:=lQ (σ:=σ) (v:=.p m 6) (x:=.lst (p.told.map s6)) (i:=4) (b:=fun ρ=>jr.ex (KK d false) ρ) s6 (fun (o:Option Rw) (x4:Option PV)=>[qV m,sV c,iV t,dV (Ki o),x4]) (rX c t) (dY (ud R)) p.told (fun o x4 x _=>by
   refine ⟨dV (s6 x),?_⟩;have a0:∀ o,Ev (KK d false) (sub (ag 4) (ah 0)) [qV m,sV c,iV t,o,dV (s6 x)] σ (.d (.str x.1)):=fun o=>rfl;have a1:∀ o,Ev (KK d false) (sub (ag 4) (ah 1)) [qV m,sV c,iV t,o,dV (s6 x)] σ (.d (.int x.2.1)):=fun o=>rfl;unfold rX;by_cases q1:x.1=c
   .by_cases q2:x.2.1<=t
    .cases o with
     |none=>
      rw[if_pos ⟨q1,q2,fun y h=>by cases h⟩];exact aa (bP (ci (cQ (ak (a0 _) rfl rfl rfl (gj q1)) (cQ (tT q2 rfl) rfl))) rfl) rfl
     |some y=>
      by_cases q3:y.2.1<=x.2.1
      .rw[if_pos ⟨q1,q2,fun z h=>by cases h;exact q3⟩];exact aa (bP (ci (cQ (ak (a0 _) rfl rfl rfl (gj q1)) (cQ (ak (a1 _) rfl rfl rfl (wM q2)) (cQ (bN (bz (ak rfl rfl rfl rfl rfl) (gr (ak (a1 _) (cC 1 rfl rfl) rfl rfl (LB q3))))) rfl)))) rfl) rfl
      .rw[if_neg fun z=>q3 (z.2.2 y rfl)];exact aa (aX (ci (cQ (ak (a0 _) rfl rfl rfl (gj q1)) (cQ (ak (a1 _) rfl rfl rfl (wM q2)) (eX (bN (bz (ak rfl rfl rfl rfl rfl) (bz (ak (a1 _) (cC 1 rfl rfl) rfl rfl (H5 q3)) rfl))))))) rfl) rfl
    .rw[if_neg fun z=>q2 z.2.1];exact aa (aX (ci (cQ (ak (a0 _) rfl rfl rfl (gj q1)) (eX (tF q2 rfl)))) rfl) rfl
   .rw[if_neg fun z=>q1 z.1];exact aa (aX (ci (eX (ak (a0 _) rfl rfl rfl (eV q1)))) rfl) rfl) none none
  have lp:dq (.p m 6) (.lst (p.told.map s6)) 4 (fun ρ=>jr.ex (KK d false) ρ) (p.told.map s6) [qV m,sV c,iV t,dV .none,none] σ=some (.next [qV m,sV c,iV t,dV (Ki (kT c t p.told)),c'],σ):=lp;have pre:∀ z,(sC (ce (aJ IG (ag 3) gp) (sC (aV gp) sN) sN) (sC nF sN)).ex (KK d false) [qV m,sV c,iV t,dV (Ki (kT c t p.told)),c'] σ=z->wz.ex (KK d false) [qV m,sV c,iV t,none,none] σ=z:=fun z hz=>aa (aX (ak rfl e0 rfl rfl (eV q)) rfl) (aa rfl (aa (bl (zj R rfl) (sj (ud R) (by rw[Sg];exact OP hr)) lp) hz));cases z:kT c t p.told with
  |none=>
   rw[z] at pre;exact a8 rfl rfl rfl (pre _ rfl) (tk _)
  |some y=>
   rw[z] at pre;exact a8 rfl rfl rfl (pre _ rfl) (tk _)
theorem pP {x:CE} {k:Int} (R:Rk σ m p) (he:Ev K e ρ σ (.p m 0)) (hx:Ev K x ρ σ (.d (.int k))) (hm:Ev K ke ρ σ (.d (.int M))) (h1:0<M) (h2:M<=p.names.length) (h3:p.names.length<=1000):∃ z∈p.names,Ev K (sub (key e 0 s) (aK bA x ke)) ρ σ (.d (.str z)):=by
 have q:=aZ (a:=k) (b:=M) h1;have hk:(k.fmod M).toNat<p.names.length:=o8 h2 q;have g:=gx (a:=k) h1 (show M<2^250 by exact Og h2 h3);rw[show k.fmod M=(((k.fmod M).toNat:Nat):Int) by exact Of q] at g;exact ⟨_,List.getElem_mem hk,bc (cK R he) (aO hx hm rfl rfl g) (cB R) rfl (b7 (by rw[SB,Sn hk];rfl) (Oe h3 hk))⟩
theorem pQ {x:CE} {k:Int} (R:Rk σ m p) (he:Ev K e ρ σ (.p m 0)) (hx:Ev K x ρ σ (.d (.int k))) (hm:Ev K ke ρ σ (.d (.int M))) (h1:0<M) (h2:M<=p.curs.length) (h3:p.curs.length<=1000):∃ z,p.curs[(k.fmod M).toNat]? =some z/\Ev K (sub (key e 2 s) (aK bA x ke)) ρ σ (.d (.str z)):=by
 have q:=aZ (a:=k) (b:=M) h1;have hk:(k.fmod M).toNat<p.curs.length:=o8 h2 q;have g:=gx (a:=k) h1 (show M<2^250 by exact Og h2 h3);rw[show k.fmod M=(((k.fmod M).toNat:Nat):Int) by exact Of q] at g;exact ⟨_,Sn hk,bc (gQ R he) (aO hx hm rfl rfl g) rfl rfl (b7 (by rw[SB,Sn hk];rfl) (Oe h3 hk))⟩
end
section
noncomputable def eI (gv one tk' aE:List Nat) (a g:Int):List bG:=[(gv,one,-a),(cn,one,a),(cn,aE,-g),(tk',aE,g)]
theorem LN {gv one tk' aE:List Nat} {a:Int} (c:List Nat):bM c (eI gv one tk' aE a g)=0:=by
 unfold eI;rw[cc,cc,cc,cc];show (if one=c then -a else 0)+((if one=c then a else 0)+((if aE=c then -g else 0)+((if aE=c then g else 0)+0)))=0;split<;>split<;>omega
noncomputable abbrev vR (n m:Nat) (c k:Int) (x4 x5 x6 x7 x8 x9 x10 x11 x12 x13 x14 x15:Option PV):bg:=[qV n,qV m,iV c,iV k,x4,x5,x6,x7,x8,x9,x10,x11,x12,x13,x14,x15]
theorem Gd.conv {am:Int} {gv one tk' aE:List Nat} (G:Gd N p S) (h1:bq t) (ht:dK note) (v1:gv∈p.names) (v2:tk'∈p.names) (m1:one∈p.curs) (m2:aE∈p.curs) (ha:c7 am=true) (hg:c7 g=true) (dn:Dn (.change t note gv one am tk' aE) S (By S t note gv one am tk' aE g)):
  Gd (N+1) {p with ents:=p.ents++[⟨p.ents.length+1,t,note,eI gv one tk' aE am g,0⟩],deeds:=p.deeds++[v4 (.change t note gv one am tk' aE)]} (By S t note gv one am tk' aE g):=by
 have c1:=G.ic one m1;have c2:=G.ic aE m2;have cu:∀ e∈p.ents++[⟨p.ents.length+1,t,note,eI gv one tk' aE am g,0⟩],∀ x∈e.lines,x.2.1∈p.curs:=fun e he x hx=>by
  rcases SC.mp he with he|he
  .exact G.cu e he x hx
  .rw[So.mp he] at hx;rcases Sj.mp hx with z|hx
   .rw[z];exact m1
   rcases Sj.mp hx with z|hx
   .rw[z];exact m1
   rcases Sj.mp hx with z|hx
   .rw[z];exact m2
   .rw[So.mp hx];exact m2
 have en:∀ e∈p.ents++[⟨p.ents.length+1,t,note,eI gv one tk' aE am g,0⟩],x_ p.names e:=fun e he=>by
  rcases SC.mp he with he|he
  .exact G.ent e he
  .rw[So.mp he];have ex:cn∈p.names:=by obtain ⟨T,e,_⟩:=G.nm;rw[e];exact .head _
   refine ⟨fun x hx=> ?_,Sp rfl,LN,ht,h1⟩;rcases Sj.mp hx with z|hx
   .rw[z];exact ⟨v1,c1,vq ha⟩
   rcases Sj.mp hx with z|hx
   .rw[z];exact ⟨ex,c1,ha⟩
   rcases Sj.mp hx with z|hx
   .rw[z];exact ⟨ex,c2,vq hg⟩
   .rw[So.mp hx];exact ⟨v2,c2,hg⟩
 exact {names:=G.names,nm:=G.nm,nl:=G.nl,nd:=G.nd,ic:=G.ic,c3:=G.c3,c10:=G.c10,home:=G.home,made:=by show S.made++[⟨S.made.length+1,t,note,eI gv one tk' aE am g,0⟩]=_;rw[G.made],ends:=G.ends,gone:=G.gone,tell:=⟨G.tell.choose,G.tell.choose_spec.of rfl rfl⟩,rw:=G.rw,ent:=en,cl1:=G.cl1,cl2:=G.cl2,l1:=b9 G.l1,l2:=SM G.l2,l3:=SM G.l3,l4:=SM G.l4,l5:=b9 G.l5,l6:=b9 G.l6,cu:=cu,nos:=G.nos.snoc rfl,tc:=G.tc,hs:=G.hs.snoc (x:=.change t note gv one am tk' aE) ⟨h1,ht,G.nmO v1,c1,ha,G.nmO v2,c2⟩ dn rfl (List.append_nil _).symm rfl rfl rfl}
theorem uB {c k:Int} (h:fD σ m n p S) (G:Gd N p S) (hN:N<=800) (ho:cl p.ends<99999):∃ p' S',Gd (N+1) p' S'/\Ke p p'/\CC (d+4) false 77 [.p n 0,.p m 0,.d (.int c),.d (.int k)] σ=some (.ok (.d (.bool true)),bb σ m n p' S'):=by
 refine bn fun G9 k9=> ?_;obtain ⟨t,h1,h2,dr⟩:=lV (c:=c) h.r (o1 hN G.l3) G.cl1 ho;have sh:=G.sh (o6 hN);have c3:=G.c3;have c10:=G.c10;have nl:=G.nl;have n0:0<p.names.length:=by obtain ⟨T,e,_⟩:=G.nm;rw[e,Sq];exact Js
 have r0:=aZ (a:=k.fdiv p.curs.length) (b:=p.curs.length - 1) (Oa c3);obtain ⟨one,i1,e6⟩:=pQ (K:=KK (d+3) false) (ρ:=vR n m c k (iV t) (iV p.curs.length) none none none none none none none none none none) (e:=ag 1) (s:=Tr) (x:=ag 3) (ke:=ag 5) (k:=k) (M:=p.curs.length) h.r rfl rfl rfl (Mg c3) (PH) (KH c10);obtain ⟨aE,i2,e7⟩:=pQ (K:=KK (d+3) false) (ρ:=vR n m c k (iV t) (iV p.curs.length) (sV one) none none none none none none none none none) (e:=ag 1) (s:=Tr) (x:=aK a9 (aK a9 (ag 3) (ah 1)) (aK bA (aK bY (ag 3) (ag 5)) (aK c_ (ag 5) (ah 1)))) (ke:=ag 5) (k:=k+1+(k.fdiv p.curs.length).fmod (p.curs.length - 1)) (M:=p.curs.length) h.r rfl (dU rfl (aO (aO rfl rfl rfl rfl (Bf (Mg c3) (SW.mpr (SJ c10 (Sp rfl))))) rfl rfl rfl (gx (Oa c3) (Rj c10)))) rfl (Mg c3) (PH) (KH c10);obtain ⟨gv,v1,e8⟩:=pP (K:=KK (d+3) false) (ρ:=vR n m c k (iV t) (iV p.curs.length) (sV one) (sV aE) none none none none none none none none) (e:=ag 1) (s:=Tq) (x:=aK bY (ag 3) (ah 6)) (ke:=bi bf (aj (key (ag 1) 0 Tq) ao)) h.r rfl rfl (tf h.r (o3 nl) rfl) (KF n0) (Int.le_refl _) (o3 nl);obtain ⟨tk',v2,e9⟩:=pP (K:=KK (d+3) false) (ρ:=vR n m c k (iV t) (iV p.curs.length) (sV one) (sV aE) (sV gv) none none none none none none none) (e:=ag 1) (s:=Tq) (x:=aK bY (ag 3) (ah 7)) (ke:=bi bf (aj (key (ag 1) 0 Tq) ao)) h.r rfl rfl (tf h.r (o3 nl) rfl) (KF n0) (Int.le_refl _) (o3 nl);have ne:one≠aE:=fun z=>by
  have q1:=aZ (a:=k) (b:=p.curs.length) (Mg c3);have q2:=aZ (a:=k+1+(k.fdiv p.curs.length).fmod (p.curs.length - 1)) (b:=p.curs.length) (Mg c3);have:=(List.getElem?_inj (Od q1) G.nd).mp (i1.trans ((congrArg some z).trans i2.symm));have mn:=KW (a:=k) (k:=1+(k.fdiv p.curs.length).fmod (p.curs.length - 1)) (M:=p.curs.length) (SU (by decide) (Tg r0.1)) (P7 r0);rw[<-Int.add_assoc] at mn;exact P6 q1 q2 this mn
 have c1:=G.ic one (SO i1);have c2:=G.ic aE (SO i2);obtain ⟨am,ham,ea⟩:=kW (c:=c.fdiv 5);refine k9 ?_;have a2:c7 am=true:=by rw[BI ham.1];exact Sz (Re ham)
 have l1:=mQ (d:=d+2) (σ:=σ) (c:=one) (t:=t) h.r G.home (o1 hN G.l2);have l2:=mQ (d:=d+2) (σ:=σ) (c:=aE) (t:=t) h.r G.home (o1 hN G.l2);have pre:∀ z,(sC kt (sC ju (sC jt (sC gb (sC f_ (sC fZ (sC (aG 14 (ax 56 (aj (aK bY (ag 3) (ah 2)) ao))) (sC fY (sC fX (sC fW sN)))))))))).ex (KK (d+3) false) (vR n m c k (iV t) (iV p.curs.length) (sV one) (sV aE) (sV gv) (sV tk') (iV am) (dV (.lst [Os (e_ S.home p.told one t),Os (e_ S.home p.told aE t)])) none none none none) σ=z->iz.ex (KK (d+3) false) (vR n m c k none none none none none none none none none none none none) σ=z:=fun z hz=>
  aa (av (aB rfl (dr (d+1) _ h.r)) rfl) (aa (av (qu h.r (KH c10) rfl) rfl) (aa (av e6 rfl) (aa (av e7 rfl) (aa (av e8 rfl) (aa (av e9 rfl) (aa (av (aB rfl (ea _ _ _)) rfl) (aa (av (eH (cP (aB rfl l1) (cl1 (aB rfl l2)))) rfl) hz)))))))
 have same:∀ (hz:iz.ex (KK (d+3) false) (vR n m c k none none none none none none none none none none none none) σ=some (.ret (.d (.bool true)),σ)),∃ p' S',Gd (N+1) p' S'/\Ke p p'/\CC (d+4) false 77 [.p n 0,.p m 0,.d (.int c),.d (.int k)] σ=some (.ok (.d (.bool true)),bb σ m n p' S'):=fun hz=>⟨p,S,G.mono (S5 _),⟨rfl,rfl,S5 _,fun _ h=>h⟩,by rw[h.same];exact a8 rfl rfl rfl hz (tk _)⟩;cases zu:e_ S.home p.told one t with
 |none=>
  rw[zu] at pre;exact same (pre _ rfl)
 |some u=>
 cases zw:e_ S.home p.told aE t with
 |none=>
  rw[zu,zw] at pre;exact same (pre _ rfl)
 |some w=>
 rw[zu,zw] at pre;have uo:=mF G.rw zu;have wo:=mF G.rw zw;refine bn fun G9 k9=> ?_;obtain ⟨⟨u1,u2⟩,u3,u4⟩:=uo;obtain ⟨⟨w1,w2⟩,w3,w4⟩:=wo;refine k9 ?_;have p1:0<u.2.2.2*w.2.2.1:=Int.mul_pos (o2 u3) (o2 w1);have p2:u.2.2.2*w.2.2.1<=10^9*10^9:=Int.mul_le_mul u4 w2 (Ti w1) (by decide);have p3:0<am*u.2.2.1*w.2.2.2:=Int.mul_pos (Int.mul_pos (ham.1) (o2 u1)) (o2 w3);have g0:0<=Mh am u.2.2.1 u.2.2.2 w.2.2.1 w.2.2.2:=by
  unfold Mh;rw[Int.fdiv_eq_ediv_of_nonneg _ (Ti p1)];exact Int.ediv_nonneg (Ti p3) (Ti p1)
 have pre2:∀ z,(sC gb (sC f_ (sC fZ (sC (aG 14 (ax 56 (aj (aK bY (ag 3) (ah 2)) ao))) (sC fY (sC fX (sC fW sN))))))).ex (KK (d+3) false) (vR n m c k (iV t) (iV p.curs.length) (sV one) (sV aE) (sV gv) (sV tk') (iV am) (dV (.lst [Gy u,Gy w])) (iV (Mh am u.2.2.1 u.2.2.2 w.2.2.1 w.2.2.2)) none none none) σ=z->iz.ex (KK (d+3) false) (vR n m c k none none none none none none none none none none none none) σ=z:=fun z hz=>
  pre z (aa rfl (aa (av (aO (aO rfl rfl rfl rfl (hZ (fj (PG u1 u2)))) rfl rfl rfl (hZ (fj (PG w3 w4)))) rfl) (aa (av (aO rfl (aO rfl rfl rfl rfl (hZ (fj (PG w1 w2)))) rfl rfl (Bf p1 (Ry p2))) rfl) hz)))
 generalize hg:Mh am u.2.2.1 u.2.2.2 w.2.2.1 w.2.2.2=g at pre2 g0;have p30:∀ ρ,Ev (KK (d+3) false) (aK yD (ah 10) (ah 30)) ρ σ (.d (.int (10^30))):=fun ρ=>rfl;by_cases z1:g=0
 .exact same (pre2 _ (aM (bP (bN (gr (tT z1 rfl))) rfl)))
 by_cases z2:10^30<=g
 .exact same (pre2 _ (aM (bP (bN (bz (ak rfl rfl rfl rfl (xw z1)) (gr (ak rfl (p30 _) rfl rfl (LB z2))))) rfl)))
 obtain ⟨note,hn,en⟩:=wb (n:=k.fdiv 2);have hg2:c7 g=true:=by rw[BI (P5 g0 z1)];exact Sz (Int.lt_of_not_ge z2)
 obtain ⟨mm,T⟩:=G.tell;have hh:bh S.home=true:=G.ic _ (SO G.home);have cv:∀ d σ n,Bk σ n S->CC (d+3) false 17 [.p n 0,.d (.int t),.d (.str note),.d (.str gv),.d (.str one),.d (.int am),.d (.str tk'),.d (.str aE)] σ=some (.ok (.d (.int (S.made.length+1))),σ.set n (bk (By S t note gv one am tk' aE g))):=fun d σ n b=>by
  have x1:=lu (d:=d) b T hh c1 h1 (o1 hN G.l2);have x2:=lu (d:=d) b T hh c2 h1 (o1 hN G.l2);rw[zu] at x1;rw[zw] at x2;exact z9 b sh h1 (by rw[G.ends];exact h2) hn (by rw[G.names];exact v1) (by rw[G.names];exact v2) c1 c2 ne ham.1 a2 x1 x2 ⟨u1,u2⟩ ⟨u3,u4⟩ ⟨w1,w2⟩ ⟨w3,w4⟩ hg z1 hg2
 refine ⟨_,_,G.conv h1 hn v1 v2 (SO i1) (SO i2) a2 hg2 (fun d σ n b=>iJ b (cv d σ n b)),⟨rfl,rfl,Ta Sk,fun _ h=>h⟩,?_⟩
 have pr:=ug (d:=d+2) (t:=t) (b:=0) (note:=note) (ls:=eI gv one tk' aE am g) h.r (o0 hN G.l1) (Sp rfl);have r1:Rk (σ.set m (pk {p with ents:=p.ents++[⟨p.ents.length+1,t,note,eI gv one tk' aE am g,0⟩]})) m {p with ents:=p.ents++[⟨p.ents.length+1,t,note,eI gv one tk' aE am g,0⟩]}:=jh h.r.lt;have a1:=j2 (K:=KK (d+3) false) (ρ:=vR n m c k (iV t) (iV p.curs.length) (sV one) (sV aE) (sV gv) (sV tk') (iV am) (dV (.lst [Gy u,Gy w])) (iV g) (dV (.lst ((eI gv one tk' aE am g).map bF))) (sV note) (iV (p.ents.length+1))) (e:=ag 1) (a:=bx (aj (aH TA) (aj (ag 4) (aj (ag 8) (aj (ag 6) (aj (ag 10) (aj (ag 9) (aj (ag 7) (aj (ag 14) ao))))))))) (s:=Tu) (t:=.tup [.str TA,.int t,.str gv,.str one,.int am,.str tk',.str aE,.str note]) r1 (by have:=G.l5;show p.deeds.length<=_;exact o0 hN this) rfl (bv rfl);rw[List.set_set] at a1;have b2:Bk (σ.set m (pk {p with ents:=p.ents++[⟨p.ents.length+1,t,note,eI gv one tk' aE am g,0⟩],deeds:=p.deeds++[.tup [.str TA,.int t,.str gv,.str one,.int am,.str tk',.str aE,.str note]]})) n S:=h.bm;refine a8 rfl rfl rfl (pre2 _ ?_) nu;refine aa (aX (bN (bz (ak rfl rfl rfl rfl (xw z1)) (bz (ak rfl (p30 _) rfl rfl (H5 z2)) rfl))) rfl) ?_;refine aa (av (eH (ds:=[bF (gv,one,-am),bF (cn,one,am)]) rfl (by rw[Int.zero_sub];rfl)) rfl) ?_;refine aa (av (aO rfl (eH (ds:=[bF (cn,aE,-g),bF (tk',aE,g)]) rfl (by rw[Int.zero_sub];rfl)) rfl rfl rfl) rfl) ?_;refine aa (av (aB rfl (en (d+2) _)) rfl) ?_;refine aa (av (aB rfl pr) rfl) ?_;refine aa (aA a1) ?_;exact aM (aF (j6 (a' b2 rfl rfl (cv d _ n b2)) rfl rfl rfl (m5 (by rw[G.made]))))
end
noncomputable def nz (l:bG):Bool:=decide (l.2.2≠0)
theorem Dj:∀ ls:List bG,bM c (ls.filter nz)=bM c ls:=by
 intro ls
 induction ls with
 |nil=>
  exact rfl
 |cons l ls ih=>
  rw[cc];by_cases q:l.2.2=0
  .rw[List.filter_cons_of_neg (by show¬decide (l.2.2≠0)=true;rw[decide_eq_true_eq];exact fun z=>z q),ih,q];split<;>omega
  .rw[SQ (by show decide (l.2.2≠0)=true;exact Sz q),cc,ih]
theorem zZ {l1 l2:List bG}:bM c (l1++l2)=bM c l1+bM c l2:=by
 unfold bM;rw[List.filter_append,List.map_append,List.sum_append]
section
theorem Hh {x:CE} {k:Int} {v:PV} (he:Ev K e ρ σ v) (hr:rd σ v=some (.lst (T.map .str))) (hx:Ev K x ρ σ (.d (.int k))) (hm:Ev K ke ρ σ (.d (.int M))) (h1:0<M) (h2:M<=T.length) (h3:T.length<=1000):∃ z∈T,Ev K (sub e (aK bA x ke)) ρ σ (.d (.str z)):=by
 have q:=aZ (a:=k) (b:=M) h1;have hk:(k.fmod M).toNat<T.length:=o8 h2 q;have g:=gx (a:=k) h1 (show M<2^250 by exact Og h2 h3);rw[show k.fmod M=(((k.fmod M).toNat:Nat):Int) by exact Of q] at g;exact ⟨_,List.getElem_mem hk,bc he (aO hx hm rfl rfl g) hr rfl (b7 (by rw[SB,Sn hk];rfl) (Oe h3 hk))⟩
theorem K6 {v:PV} (he:Ev K e ρ σ v) (hr:rd σ v=some (.lst (T.map .str))) (hl:T.length<=1000):Ev K (bi bf (aj e ao)) ρ σ (.d (.int T.length)):=by
 have q:=fv he hr (by rw[Sg];exact hl);rw[Sg] at q;exact q
structure L_ (N C:List (List Nat)) (k:Nat) (fs:List bG):Prop where
 l:∀ x∈fs,x.1∈N/\bh x.2.1=true/\(x.2.2≠0->c7 x.2.2=true)
 n:fs.length=3*k
 z:∀ c,bM c fs=0
 m:2*k<=(fs.filter nz).length
 u:∀ x∈fs,x.2.1∈C
noncomputable abbrev nR (m:Nat) (b k M:Int) (n:Nat) (x6 x7 x8 x9 x10:Option PV):bg:=[qV m,iV b,iV k,some (.p m 2),qV n,iV M,x6,x7,x8,x9,x10,none]
theorem zd {k:Int} {fs:List bG} {x7 x8 x9 x10:Option PV} (R:Rk σ m p) (G:Gd N p S) (q:L_ p.names p.curs j fs) (hj:j<=30) (hi:i<100):∃ fs' y7 y8 y9 y10,L_ p.names p.curs (j+1) fs'/\js.ex (KK (d+1) false) (nR m b k M σ.length (iV i) x7 x8 x9 x10) (σ++[.fld (.list (fs.map bF))])=some (.next (nR m b k M σ.length (iV i) y7 y8 y9 y10),σ++[.fld (.list (fs'.map bF))]):=by
 have c3:=G.c3;have c10:=G.c10;have nl:=G.nl;have n0:0<p.names.length:=by obtain ⟨T,e,_⟩:=G.nm;rw[e,Sq];exact Js
 have R':∀ o,Rk (σ++[o]) m p:=fun o=>R.app;generalize hL:k.fdiv 3+5*(i:Int)=L;have e7:Ev (KK (d+1) false) (aK a9 (aK bY (ag 2) (ah 3)) (aK fT (ah 5) (ag 6))) (nR m b k M σ.length (iV i) x7 x8 x9 x10) (σ++[.fld (.list (fs.map bF))]) (.d (.int L)):=by
  rw[<-hL];exact rfl
 refine bn fun G9 k9=> ?_;obtain ⟨u,i1,e8⟩:=pQ (K:=KK (d+1) false) (ρ:=nR m b k M σ.length (iV i) (iV L) x8 x9 x10) (e:=ag 0) (s:=Tr) (x:=ag 7) (ke:=bi bf (aj (key (ag 0) 2 Tr) ao)) (k:=L) (M:=p.curs.length) (R' (.fld (.list (fs.map bF)))) rfl rfl (qu (R' _) (KH c10) rfl) (Mg c3) (PH) (KH c10);have uc:=G.ic u (SO i1);obtain ⟨a1,h1,ea1⟩:=kW (c:=b+77*(i:Int));obtain ⟨a2,h2,ea2⟩:=kW (c:=b.fdiv 3+(i:Int));refine k9 ?_;have q3:=aZ (a:=L.fdiv 3) (b:=3) (by decide);have hy:(L.fdiv 3).fmod 3 - 1= -1∨(L.fdiv 3).fmod 3 - 1=0∨(L.fdiv 3).fmod 3 - 1=1:=by omega
 have e10:∀ x10,Ev (KK (d+1) false) (aK fT (ax 76 (aj (aK a9 (aK bY (ag 1) (ah 3)) (ag 6)) ao)) (aK c_ (aK bA (aK bY (ag 7) (ah 3)) (ah 3)) (ah 1))) (nR m b k M σ.length (iV i) (iV L) (sV u) (iV a1) x10) (σ++[.fld (.list (fs.map bF))]) (.d (.int (a2*((L.fdiv 3).fmod 3 - 1)))):=fun x10=>aO (aB rfl (ea2 _ _ _)) rfl rfl rfl (hZ (fj (P0 q3)));generalize (L.fdiv 3).fmod 3 - 1=y at e10 hy;have hw:(-(4*10^29)<=a2*y/\a2*y<=4*10^29):=by
  rcases hy with rfl|rfl|rfl<;>omega
 generalize a2*y=w at e10 hw;have pk:∀ (o:az) (D':Int) x,0<D'->D'<100->∃ z∈p.names,Ev (KK (d+1) false) (sub (ag 3) (aK bA (aK bY (ag 7) (ah D')) (bi bf (aj (ag 3) ao)))) (nR m b k M σ.length (iV i) (iV L) (sV u) (iV a1) (iV w)) (σ++[x]) (.d (.str z)):=fun o D' x h0 h9=>Hh (T:=p.names) (v:=.p m 2) rfl (cB (R' x)) (i0 rfl h0 (SS h9 (by decide))) (K6 (T:=p.names) (v:=.p m 2) rfl (cB (R' x)) (o3 nl)) (KF n0) (Int.le_refl _) (o3 nl);have r4:∀ o,Ev (KK (d+1) false) (ag 4) (nR m b k M σ.length (iV i) (iV L) (sV u) (iV a1) (iV w)) (σ++[o]) (.p σ.length 0):=fun o=>rfl;obtain ⟨z1,m1,f1⟩:=pk [] 9 (.fld (.list (fs.map bF))) (by decide) (by decide);have g1:=cP f1 (l:=aj (ag 8) (aj (ag 9) ao)) (xs:=[.d (.str u),.d (.int a1)]) rfl;have v1:Ev (KK (d+1) false) (bx (aj (sub (ag 3) (aK bA (aK bY (ag 7) (ah 9)) (bi bf (aj (ag 3) ao)))) (aj (ag 8) (aj (ag 9) ao)))) (nR m b k M σ.length (iV i) (iV L) (sV u) (iV a1) (iV w)) (σ++[.fld (.list (fs.map bF))]) (.d (bF (z1,u,a1))):=bv g1;have ap1:=cb (r4 _) v1 cV (by rw[Sg,q.n];exact db (Ss (To 3 hj) (by decide)));rw[dZ] at ap1;obtain ⟨z2,m2,f2⟩:=pk [] 5 (.fld (.list (fs.map bF++[bF (z1,u,a1)]))) (by decide) (by decide);have g2:=cP f2 (l:=aj (ag 8) (aj (aK c_ (aK c_ (ah 0) (ag 9)) (ag 10)) ao)) (xs:=[.d (.str u),.d (.int (0 - a1 - w))]) rfl;have v2:Ev (KK (d+1) false) (bx (aj (sub (ag 3) (aK bA (aK bY (ag 7) (ah 5)) (bi bf (aj (ag 3) ao)))) (aj (ag 8) (aj (aK c_ (aK c_ (ah 0) (ag 9)) (ag 10)) ao)))) (nR m b k M σ.length (iV i) (iV L) (sV u) (iV a1) (iV w)) (σ++[.fld (.list (fs.map bF++[bF (z1,u,a1)]))]) (.d (bF (z2,u,0 - a1 - w))):=bv g2;have ap2:=cb (r4 _) v2 cV (by rw[Sk,Sg,q.n,Su];exact db (Ss (Tj (To 3 hj)) (Sp rfl)));rw[dZ] at ap2;obtain ⟨z3,m3,f3⟩:=pk [] 7 (.fld (.list ((fs.map bF++[bF (z1,u,a1)])++[bF (z2,u,0 - a1 - w)]))) (by decide) (by decide);have g3:=cP f3 (l:=aj (ag 8) (aj (ag 10) ao)) (xs:=[.d (.str u),.d (.int w)]) rfl;have v3:Ev (KK (d+1) false) (bx (aj (sub (ag 3) (aK bA (aK bY (ag 7) (ah 7)) (bi bf (aj (ag 3) ao)))) (aj (ag 8) (aj (ag 10) ao)))) (nR m b k M σ.length (iV i) (iV L) (sV u) (iV a1) (iV w)) (σ++[.fld (.list ((fs.map bF++[bF (z1,u,a1)])++[bF (z2,u,0 - a1 - w)]))]) (.d (bF (z3,u,w))):=bv g3;have ap3:=cb (r4 _) v3 cV (by rw[Sk,Sk,Sg,q.n,Su,Su];exact db (Ss (Nat.add_le_add_right (To 3 hj) 2) (by decide)));rw[dZ] at ap3;have e9:Ev (KK (d+1) false) (ax 76 (aj (aK a9 (ag 1) (aK fT (ah 77) (ag 6))) ao)) (nR m b k M σ.length (iV i) (iV L) (sV u) x9 x10) (σ++[.fld (.list (fs.map bF))]) (.d (.int a1)):=aB rfl (ea1 _ _ _);refine ⟨fs++[(z1,u,a1),(z2,u,0 - a1 - w),(z3,u,w)],iV L,sV u,iV a1,iV w,⟨fun x hx=> ?_,by rw[Sk,q.n];show 3*j+3=_;exact PZ,fun c=> ?_,?_,fun x hx=> ?_⟩,aa (av e7 rfl) (aa (av e8 rfl) (aa (av e9 rfl) (aa (av (e10 _) rfl) (aa (aA ap1) (aa (aA ap2) (aa (aA ap3) ?_))))))⟩
 .rcases SC.mp hx with hx|hx
  .exact q.l x hx
  have am:∀ v:Int,-(10^30)<v->v<10^30->v≠0->c7 v=true:=fun v y1 y2 y3=>by unfold c7;rw[Sz y3,Sz y1,Sz y2];rfl
  rcases Sj.mp hx with z|hx
  .rw[z];exact ⟨m1,uc,am a1 (SS (by decide) h1.1) (Re h1)⟩
  rcases Sj.mp hx with z|hx
  .rw[z];exact ⟨m2,uc,am (0 - a1 - w) (SU (by decide:(-10^30:Int)<0 - 4*10^29 - 4*10^29) (Int.sub_le_sub (Int.sub_le_sub_left h1.2 0) hw.2)) (ST (Int.sub_le_sub (Int.sub_le_sub_left h1.1 0) hw.1) (by decide))⟩
  .rw[So.mp hx];exact ⟨m3,uc,am w (SU (by decide) hw.1) (ST hw.2 (by decide))⟩
 .rw[zZ,q.z c,cc,cc,cc];show 0+((if u=c then a1 else 0)+((if u=c then 0 - a1 - w else 0)+((if u=c then w else 0)+0)))=0;split<;>omega
 .rw[List.filter_append,Sk];have:2<=([(z1,u,a1),(z2,u,0 - a1 - w),(z3,u,w)].filter nz).length:=by
   rw[SQ (by show decide (a1≠0)=true;exact Sz (Int.ne_of_gt (SU (by decide) h1.1))),Sq];by_cases y:w=0
   .rw[SQ (by show decide (0 - a1 - w≠0)=true;exact Sz (PY h1 y)),Sq];exact PE
   .by_cases y2:0 - a1 - w=0
    .rw[List.filter_cons_of_neg (by show¬decide (0 - a1 - w≠0)=true;rw[decide_eq_true_eq];exact fun z=>z y2),SQ (by show decide (w≠0)=true;exact Sz y),Sq];exact PE
    .rw[SQ (by show decide (0 - a1 - w≠0)=true;exact Sz y2),Sq];exact PE
  have:=q.m;exact PX (by assumption) this
 .rcases SC.mp hx with hx|hx
  .exact q.u x hx
  have um:=SO i1;rcases Sj.mp hx with z|hx
  .rw[z];exact um
  rcases Sj.mp hx with z|hx
  .rw[z];exact um
  .rw[So.mp hx];exact um
 .rw[List.map_append];simp only [List.append_assoc];rfl
structure IW (N C:List (List Nat)) (ls:List bG):Prop where
 l:∀ x∈ls,x.1∈N/\bh x.2.1=true/\c7 x.2.2=true
 lo:2<=ls.length
 hi:ls.length<=60
 z:∀ c,bM c ls=0
 u:∀ x∈ls,x.2.1∈C
theorem zc {k:Int} (R:Rk σ m p) (G:Gd N p S):∃ ls,IW p.names p.curs ls/\CC (d+2) false 80 [.p m 0,.d (.int b),.d (.int k)] σ=some (.ok (.d (.lst (ls.map bF))),σ):=by
 refine bn fun G9 k9=> ?_;obtain ⟨M,hM1,hM2,e5⟩:∃ M:Nat,1<=M/\M<=20/\∀ s,Ev (KK (d+1) false) (C0 (aJ dp (aK bA (ag 2) (ah 16)) (ah 7)) (aK a9 (ah 1) (aK bA (aK bY (ag 2) (ah 16)) (ah 20))) (aK a9 (ah 1) (aK bA (ag 2) (ah 3)))) [qV m,iV b,iV k,some (.p m 2),qV σ.length,none,none,none,none,none,none,none] s (.d (.int M)):=by
  have q1:=aZ (a:=k.fdiv 16) (b:=20) (by decide);have q2:=aZ (a:=k) (b:=3) (by decide);by_cases z:k.fmod 16=7
  .refine ⟨(1+(k.fdiv 16).fmod 20).toNat,by exact SV.mp (SS (Tg q1.1) (Int.self_le_toNat _)),PW q1,fun s=> ?_⟩;rw[SZ (Int.add_nonneg (by decide) q1.1)];exact u0 (ak (iZ rfl) rfl rfl rfl (m5 z)) rfl
  .refine ⟨(1+k.fmod 3).toNat,by exact SV.mp (SS (Tg q2.1) (Int.self_le_toNat _)),by exact Int.toNat_le.mpr (SS (Int.add_le_add_left (Ti q2.2) 1) (by decide)),fun s=> ?_⟩;rw[SZ (Int.add_nonneg (by decide) q2.1)];exact u5 (ak (iZ rfl) rfl rfl rfl (xw z)) rfl
 obtain ⟨ρ2,s2,lp,fs,x6,x7,x8,x9,x10,rfl,rfl,q⟩:=Bh (v:=.d (.rng 0 M 1)) (x:=.rng 0 M 1) (i:=6) (b:=fun ρ=>js.ex (KK (d+1) false) ρ) M
  (fun pre ρ s=>∃ fs x6 x7 x8 x9 x10,ρ=nR m b k M σ.length x6 x7 x8 x9 x10/\s=σ++[.fld (.list (fs.map bF))]/\L_ p.names p.curs pre.length fs) ((List.range M).map fun (i:Nat)=>.int i) [] (nR m b k M σ.length none none none none none) (σ++[.fld (.list [])]) (by rw[Sg,List.length_range,Tb];exact PU) ⟨[],none,none,none,none,none,rfl,rfl,aW,rfl,fun _=>rfl,Sv _,aW⟩ fun pre x ρ s hx hp H9=>by
   obtain ⟨fs,x6,x7,x8,x9,x10,h1,h2,q⟩:=H9;obtain ⟨i,hi,rfl⟩:=SA.mp hx;have hi':=List.mem_range.mp hi;subst h1 h2;obtain ⟨fs',y7,y8,y9,y10,q',e⟩:=zd (d:=d) (b:=b) (k:=k) (M:=M) (i:=i) (x7:=x7) (x8:=x8) (x9:=x9) (x10:=x10) R G q (Ss (SY hp) (Ss hM2 (by decide))) (Ss hi' (Ss hM2 (Sp rfl)));exact ⟨_,_,e,rfl,⟨fs',_,y7,y8,y9,y10,rfl,rfl,by rw[Sk];exact q'⟩⟩
 refine k9 ?_;rw[List.nil_append,Sg,List.length_range] at q;have hl:(fs.filter nz).length<=60:=by have:=List.length_filter_le nz fs;rw[q.n] at this;exact Ss this (To 3 hM2)
 refine ⟨fs.filter nz,⟨fun x hx=> ?_,by have:=q.m;exact Ss (To 2 hM1) this,hl,fun c=>by rw[Dj];exact q.z c,fun x hx=>q.u x (List.mem_filter.mp hx).1⟩,?_⟩
 .obtain ⟨h1,h2⟩:=List.mem_filter.mp hx;have:=q.l x h1;exact ⟨this.1,this.2.1,this.2.2 (S3 h2)⟩
 .refine a8 rfl rfl (ρ:=[qV m,iV b,iV k,none,none,none,none,none,none,none,none,none]) rfl ?_ (Gx σ [.fld (.list (fs.map bF))]);refine aa (av (cK R rfl) rfl) (aa rfl (aa (av (e5 _) rfl) ?_));refine aa (bl (rb rfl (Ss hM2 (Sp rfl))) (dO (hU (Ss hM2 (Sp rfl)))) lp) ?_;refine aM (aF (lU (eJ rfl (sj (ub rfl) (by rw[Sg,q.n];exact Ss (To 3 hM2) (by decide))) ?_)));have cf:=gF (K:=KK (d+1) false) (ρ:=nR m b k M σ.length x6 x7 x8 x9 x10) (σ:=σ++[.fld (.list (fs.map bF))]) (i:=11) (cq:=ag 11) (t:=lA (aJ gU (sub (ag 11) (ah 2)) (ah 0))) (v:=.p σ.length 0) (y:=.lst (fs.map bF)) (dY (ub rfl)) bF bF nz fs [] (fun l _=> ?_) (fun l _ _=>rfl) (by rw[Tb,q.n];exact Ss (Ta (Td _)) (Ss (To 3 hM2) (by decide)))
  .exact cf
  .refine yf (ak rfl rfl rfl rfl ?_);by_cases z:l.2.2=0
   .rw[show nz l=false from Tc (fun y=>y z)];exact n9 z
   .rw[show nz l=true from Sz z];exact we z
theorem IW.ent {N C:List (List Nat)} {no:Int} (q:IW N C ls) (h1:bq t) (h2:dK note):x_ N ⟨no,t,note,ls,0⟩:=⟨q.l,q.hi,q.z,h2,h1⟩
theorem Gd.post (G:Gd N p S) (h1:bq t) (ht:dK note) (q:IW p.names p.curs ls) (dn:Dn (.entry t note ls) S (ui S t note ls)):
  Gd (N+1) {p with ents:=p.ents++[⟨p.ents.length+1,t,note,ls,0⟩],deeds:=p.deeds++[fc t note ls]} (ui S t note ls):=by
 have en:∀ e∈p.ents++[⟨p.ents.length+1,t,note,ls,0⟩],x_ p.names e:=fun e he=>by
  rcases SC.mp he with he|he
  .exact G.ent e he
  .rw[So.mp he];exact q.ent h1 ht
 have cu:∀ e∈p.ents++[⟨p.ents.length+1,t,note,ls,0⟩],∀ x∈e.lines,x.2.1∈p.curs:=fun e he x hx=>by
  rcases SC.mp he with he|he
  .exact G.cu e he x hx
  .rw[So.mp he] at hx;exact q.u x hx
 exact {names:=G.names,nm:=G.nm,nl:=G.nl,nd:=G.nd,ic:=G.ic,c3:=G.c3,c10:=G.c10,home:=G.home,made:=by show S.made++[⟨S.made.length+1,t,note,ls,0⟩]=_;rw[G.made],ends:=G.ends,gone:=G.gone,tell:=⟨G.tell.choose,G.tell.choose_spec.of rfl rfl⟩,rw:=G.rw,ent:=en,cl1:=G.cl1,cl2:=G.cl2,l1:=b9 G.l1,l2:=SM G.l2,l3:=SM G.l3,l4:=SM G.l4,l5:=b9 G.l5,l6:=b9 G.l6,cu:=cu,nos:=G.nos.snoc rfl,tc:=G.tc,hs:=G.hs.snoc (x:=.entry t note ls) ⟨h1,ht,q.hi,fun l hl=>⟨G.nmO (q.l l hl).1,(q.l l hl).2⟩⟩ dn rfl (List.append_nil _).symm rfl rfl rfl}
theorem CU {c k:Int} (h:fD σ m n p S) (G:Gd N p S) (hN:N<=800) (ho:cl p.ends<99999):∃ p' S',Gd (N+1) p' S'/\Ke p p'/\CC (d+4) false 81 [.p n 0,.p m 0,.d (.int c),.d (.int k)] σ=some (.ok (.d (.bool true)),bb σ m n p' S'):=by
 refine bn fun G9 k9=> ?_;obtain ⟨t,h1,h2,dr⟩:=lV (c:=c) h.r (o1 hN G.l3) G.cl1 ho;obtain ⟨note,hn,en⟩:=wb (n:=k);obtain ⟨ls,q,er⟩:=zc (d:=d+1) (b:=c.fdiv 5) (k:=k) h.r G;refine k9 ?_;have sh:=G.sh (o6 hN);have qh:=q.hi;have po:∀ d σ n,Bk σ n S->CC (d+3) false 20 [.p n 0,.d (.int t),.d (.str note),.d (.lst (ls.map bF))] σ=some (.ok (.d (.int (S.made.length+1))),σ.set n (bk (ui S t note ls))):=fun d σ n b=>vZ b sh h1 (by rw[G.ends];exact h2) hn ⟨q.lo,q.hi⟩ (fun l hl=>⟨by rw[G.names];exact (q.l l hl).1,(q.l l hl).2.1,(q.l l hl).2.2⟩) (LX q.z (Ss qh (Sp rfl)));refine ⟨_,_,G.post h1 hn q (fun d σ n b=>iJ b (po d σ n b)),⟨rfl,rfl,Ta Sk,fun _ h=>h⟩,?_⟩;have pr:=ug (d:=d+2) (t:=t) (b:=0) (note:=note) (ls:=ls) h.r (o0 hN G.l1) (Jr qh);have r1:Rk (σ.set m (pk {p with ents:=p.ents++[⟨p.ents.length+1,t,note,ls,0⟩]})) m {p with ents:=p.ents++[⟨p.ents.length+1,t,note,ls,0⟩]}:=jh h.r.lt;have tp:∀ s:az,iF.g false [.d (.lst (ls.map bF))] s=some (.ok (.d (.tup (ls.map bF))),s):=fun s=>by
  show (au ((ls.map bF).length<=dM) (D.tup (ls.map bF))).map _=_;rw[aS (by rw[Sg];exact bo (Jr qh))];rfl
 have a1:=j2 (K:=KK (d+3) false) (ρ:=[qV n,qV m,iV c,iV k,iV t,sV note,dV (.lst (ls.map bF)),iV (p.ents.length+1)]) (e:=ag 1) (a:=bx (aj (aH Tz) (aj (ag 4) (aj (ag 5) (aj (bi iF (aj (ag 6) ao)) ao))))) (s:=Tu) (t:=fc t note ls) r1 (by have:=G.l5;show p.deeds.length<=_;exact o0 hN this) rfl (bv (cP rfl (cP rfl (cP rfl (cl1 (ca (cl1 rfl) (tp _)))))));rw[List.set_set] at a1;have b2:Bk (σ.set m (pk {p with ents:=p.ents++[⟨p.ents.length+1,t,note,ls,0⟩],deeds:=p.deeds++[fc t note ls]})) n S:=h.bm;exact a8 rfl rfl (ρ:=[qV n,qV m,iV c,iV k,none,none,none,none]) rfl (aa (av (aB rfl (dr (d+1) _ h.r)) rfl) (aa (av (aB (cl1 rfl) (en (d+2) _)) rfl) (aa (av (aB rfl er) rfl) (aa (av (aB rfl pr) rfl) (aa (aA a1) (aM (aF (j6 (a' b2 rfl rfl (po d _ n b2)) rfl rfl rfl (m5 (by rw[G.made])))))))))) nu
end
section
noncomputable abbrev qS (n m:Nat) (w b k:Int):bg:=[qV n,qV m,iV w,iV b,iV k]
noncomputable abbrev qD (n m:Nat) (sc:List Int) (f l:Int) (x:Option PV):bg:=[qV n,qV m,dV (.lst (sc.map .int)),iV f,iV l,x]
def GC (p:Pl):Prop:=(p.ents.length:Int)<=p.most+1
structure Kf (p p':Pl):Prop where
 c:p'.curs=p.curs
 m:p'.most=p.most
 k:GC p->GC p'
 g:p.names ⊆ p'.names
theorem DX {w k:Int} (h:fD σ m n p S) (G:Gd N p S) (hN:N<=800):∃ p' S',Gd (N+1) p' S'/\Ke p p'/\(GC p->GC p')/\CC (d+5) false 82 [.p n 0,.p m 0,.d (.int w),.d (.int b),.d (.int k)] σ=some (.ok (.d (.bool true)),bb σ m n p' S'):=by
 have cr:=d_ (d:=d+3) (hd:=false) h.r (o1 hN G.l3);have le:Ev (KK (d+4) false) (bi bf (aj (key (ag 1) 3 Tt) ao)) (qS n m w b k) σ (.d (.int p.ents.length)):=jx h.r (o0 hN G.l1) rfl;have same:∀ (hz:uq.ex (KK (d+4) false) (qS n m w b k) σ=some (.ret (.d (.bool true)),σ)),∃ p' S',Gd (N+1) p' S'/\Ke p p'/\(GC p->GC p')/\CC (d+5) false 82 [.p n 0,.p m 0,.d (.int w),.d (.int b),.d (.int k)] σ=some (.ok (.d (.bool true)),bb σ m n p' S'):=fun hz=>⟨p,S,G.mono (S5 _),⟨rfl,rfl,S5 _,fun _ h=>h⟩,id,by rw[h.same];exact a8 rfl rfl rfl hz (tk _)⟩;by_cases z1:99999<=cl p.ends
 .exact same (aM (bP (bN (gr (ak (aB (cl1 rfl) cr) rfl rfl rfl (LB z1)))) rfl))
 by_cases z2:p.most<p.ents.length
 .exact same (aM (bP (bN (bz (ak (aB (cl1 rfl) cr) rfl rfl rfl (H5 z1)) (gr (ak le (Fe h.r rfl) rfl rfl (zx z2))))) rfl))
 have ho:cl p.ends<99999:=by exact Int.lt_of_not_ge z1
 have s1:p_.ex (KK (d+4) false) (qS n m w b k) σ=some (.next (qS n m w b k),σ):=aX (bN (bz (ak (aB (cl1 rfl) cr) rfl rfl rfl (H5 z1)) (bz (ak le (Fe h.r rfl) rfl rfl (ol z2)) rfl))) rfl;have w8:Ev (KK (d+4) false) (aK bA (ag 2) (ah 8)) (qS n m w b k) σ (.d (.int (w.fmod 8))):=rfl;have fin:∀ (hx:∃ p' S',Gd (N+1) p' S'/\Ke p p'/\uq.ex (KK (d+4) false) (qS n m w b k) σ=some (.ret (.d (.bool true)),bb σ m n p' S')),∃ p' S',Gd (N+1) p' S'/\Ke p p'/\(GC p->GC p')/\CC (d+5) false 82 [.p n 0,.p m 0,.d (.int w),.d (.int b),.d (.int k)] σ=some (.ok (.d (.bool true)),bb σ m n p' S'):=fun ⟨p',S',g,ke,e⟩=>⟨p',S',g,ke,fun _=>by unfold GC;rw[ke.m];have:=ke.e;exact SS (SV.mpr this) (Int.add_le_add_right (Tn.mp z2) 1),a8 rfl rfl rfl e nu⟩;refine fin ?_;by_cases y1:w.fmod 8<3
 .obtain ⟨p',S',g,ke,e⟩:=CU (d:=d) (c:=b) (k:=k) h G hN ho;exact ⟨p',S',g,ke,aa s1 (aM (bP (tT y1 rfl) (aM (aF (aB rfl e)))))⟩
 have s2:pZ.ex (KK (d+4) false) (qS n m w b k) σ=some (.next (qS n m w b k),σ):=aX (tF y1 rfl) rfl;by_cases y2:w.fmod 8=3
 .by_cases y3:(w.fdiv 8).fmod 3=0
  .obtain ⟨p',S',g,ke,e⟩:=zg (d:=d+1) (c:=b) h G hN;exact ⟨p',S',g,ke,aa s1 (aa s2 (aM (bP (ci (cQ (ak w8 rfl rfl rfl (m5 y2)) (cQ (ak (iZ (i0 rfl)) rfl rfl rfl (m5 y3)) rfl))) (aM (aF (aB (cP rfl (cP rfl (cl1 rfl))) e))))))⟩
  .obtain ⟨p',S',g,ke,e⟩:=CN (d:=d) (c:=b) (k:=k) h G hN ho;exact ⟨p',S',g,ke,aa s1 (aa s2 (aa (aX (ci (cQ (ak w8 rfl rfl rfl (m5 y2)) (eX (ak (iZ (i0 rfl)) rfl rfl rfl (xw y3))))) rfl) (aM (bP (ak w8 rfl rfl rfl (m5 y2)) (aM (aF (aB rfl e)))))))⟩
 have s3:pY.ex (KK (d+4) false) (qS n m w b k) σ=some (.next (qS n m w b k),σ):=aX (ci (eX (tF y2 rfl))) rfl;have s4:pX.ex (KK (d+4) false) (qS n m w b k) σ=some (.next (qS n m w b k),σ):=aX (tF y2 rfl) rfl;by_cases y4:w.fmod 8<6
 .obtain ⟨p',S',g,ke,e⟩:=uB (d:=d) (c:=b) (k:=k) h G hN ho;exact ⟨p',S',g,ke,aa s1 (aa s2 (aa s3 (aa s4 (aM (bP (tT y4 rfl) (aM (aF (aB rfl e))))))))⟩
 have s5:pW.ex (KK (d+4) false) (qS n m w b k) σ=some (.next (qS n m w b k),σ):=aX (tF y4 rfl) rfl;by_cases y5:w.fmod 8=6
 .obtain ⟨p',S',g,ke,e⟩:=si (d:=d) (c:=b) (k:=k) h G hN ho;exact ⟨p',S',g,ke,aa s1 (aa s2 (aa s3 (aa s4 (aa s5 (aM (bP (tT y5 rfl) (aM (aF (aB rfl e)))))))))⟩
 refine bn fun G9 k9=> ?_;obtain ⟨p',S',g,ke,_,e⟩:=D7 (d:=d) (c:=b) h G hN ho;refine k9 ?_;exact ⟨p',S',g,ke,aa s1 (aa s2 (aa s3 (aa s4 (aa s5 (aa (aX (tF y5 rfl) rfl) (aM (aF (aB rfl e))))))))⟩
theorem DQ {a:CT} (h:a.ts K ρ σ=some (.ok q,σ')):(fq a).ts K ρ σ=some (.ok (!q),σ'):=aC h rfl
theorem yg (h:a.ev K ρ σ=some (.ok (.d (.bool q)),σ')):(rQ a).ts K ρ σ=some (.ok q,σ'):=aC h rfl
theorem A' {t:CT} {a b:CS} {z:Option (Out×az)} (h:t.ts K ρ σ=some (.ok false,σ')) (k:b.ex K ρ σ'=z):(ce t a b).ex K ρ σ=z:=cN h k
theorem zB {x:CE} (hs:sc.length<=63) (he:Ev K e ρ σ (.d (.lst (sc.map .int)))) (hx:Ev K x ρ σ (.d (.int k))) (hk:k<sc.length):Ev K (sub e x) ρ σ (.d (.int (cell sc k))):=bc he hx rfl rfl (b7 (by rw[SB,Sn hk,cell,SD,Sn hk];rfl) (Ss (SY (SK hk hs)) (Sp rfl)))
theorem Ld {a:Int} (h1:0<=a/\a<=1000) (h2: -1000<=b/\b<=1000):items (.rng a b 3)=some ((List.range (cD a b 3)).map fun (i:Nat)=>.int (a+(i:Int)*3))/\(∀ i,i<cD a b 3->a+(i:Int)*3<b)/\cD a b 3<=1000:=by
 have hr:cD a b 3<=1000/\∀ i:Nat,i<cD a b 3->a+(i:Int)*3<b:=by
  unfold cD;by_cases q:a<b
  .rw[if_pos q];exact ⟨by exact Int.toNat_le.mpr (SS (Int.add_le_add_right (Int.ediv_le_ediv (by decide) (Int.sub_le_sub (Int.sub_le_sub h2.2 h1.1) (Int.le_refl 1))) 1) (by decide)),fun i hi=>by exact Int.add_lt_of_lt_sub_left (Int.lt_of_le_sub_one (Int.mul_le_of_le_ediv (by decide) (Int.le_of_lt_add_one (Int.lt_toNat.mp hi))))⟩
  .rw[if_neg q];exact ⟨by decide,fun i hi=>PT hi⟩
 refine ⟨?_,hr.2,hr.1⟩;rw[qw,aS];rw[cY (SS (by decide) h1.1) (SS h1.2 (by decide)),cY (h2.1) (SS h2.2 (by decide)),Sz (by decide),Sz (by decide),Sz (by omega)];rfl
theorem OD {f m:Int} (h:7<=f) (k:m<=61):cD f m 3<=20:=by
 unfold cD;split<;>omega
theorem tw {f l:Int} (hs:sc.length<=63) (hf:7<=f/\f<=500) (hl:0<=l/\l<=500) (h:fD σ m n p S) (G:Gd N p S) (hN:N<=700):∃ p' S',Gd (N+20) p' S'/\Kf p p'/\CC (d+6) false 83 [.p n 0,.p m 0,.d (.lst (sc.map .int)),.d (.int f),.d (.int l)] σ=some (.ok (.d (.bool true)),bb σ m n p' S'):=by
 have i3:=Ld (a:=f) (b:=min (sc.length - 2) l) ⟨by exact SS (by decide) hf.1,by exact SS hf.2 (by decide)⟩ ⟨Rd hl,by exact SS (Tk _ _) (SS (Int.sub_le_self _ (by decide)) (SS (SV.mpr hs) (by decide)))⟩;have r63:cD f (min (sc.length - 2) l) 3<=20:=by
  exact OD hf.1 (SS (Tk _ _) (Int.sub_le_sub_right (SV.mpr hs) 2))
 refine bn fun G9 k9=> ?_;obtain ⟨ρ2,s2,lp,p',S',x5,rfl,rfl,g,ke⟩:=Bh (v:=.d (.rng f (min (sc.length - 2) l) 3)) (x:=.rng f (min (sc.length - 2) l) 3) (i:=5) (b:=fun ρ=>nG.ex (KK (d+5) false) ρ) 20
  (fun pre ρ s=>∃ p' S' x5,ρ=(qD n m sc f l x5)/\s=bb σ m n p' S'/\Gd (N+pre.length) p' S'/\Kf p p') ((List.range (cD f (min (sc.length - 2) l) 3)).map fun (i:Nat)=>.int (f+(i:Int)*3)) [] (qD n m sc f l none) σ (by rw[Sg,List.length_range,Tb];omega) ⟨p,S,none,rfl,h.same.symm,G,rfl,rfl,id,fun _ h=>h⟩ fun pre x ρ s hx hp H9=>by
   obtain ⟨p',S',x5,h1,h2,g,ke⟩:=H9;obtain ⟨i,hi,rfl⟩:=SA.mp hx;have hi':=i3.2.1 i (List.mem_range.mp hi);subst h1 h2;have kk:f+(i:Int)*3=((f.toNat+i*3:Nat):Int):=M8 hf;rw[kk];obtain ⟨p2,S2,g2,ke2,kc,e⟩:=DX (d:=d) (w:=cell sc (f.toNat+i*3)) (b:=cell sc (f.toNat+i*3+1)) (k:=cell sc (f.toNat+i*3+2)) (h.to p' S') g (Ss (Nat.add_le_add (hN) (Tp hp)) (Sp rfl));rw[NS h.ne] at e;have e1:∀ (o:PV) s,Ev (KK (d+5) false) (aK a9 (ag 5) (ah 1)) (qD n m sc f l (iV ((f.toNat+i*3:Nat):Int))) s (.d (.int ((f.toNat+i*3+1:Nat):Int))):=fun o s=>by rw[Int.natCast_add (f.toNat+i*3) 1];exact rfl
   have e2:∀ (o:PV) s,Ev (KK (d+5) false) (aK a9 (ag 5) (ah 2)) (qD n m sc f l (iV ((f.toNat+i*3:Nat):Int))) s (.d (.int ((f.toNat+i*3+2:Nat):Int))):=fun o s=>by rw[Int.natCast_add (f.toNat+i*3) 2];exact rfl
   have g0:Ev (KK (d+5) false) (sub (ag 2) (ag 5)) (qD n m sc f l (iV ((f.toNat+i*3:Nat):Int))) (bb σ m n p' S') (.d (.int (cell sc (f.toNat+i*3)))):=zB hs rfl rfl (by omega);have g1:Ev (KK (d+5) false) (sub (ag 2) (aK a9 (ag 5) (ah 1))) (qD n m sc f l (iV ((f.toNat+i*3:Nat):Int))) (bb σ m n p' S') (.d (.int (cell sc (f.toNat+i*3+1)))):=zB hs rfl (e1 (.p 0 0) _) (by omega);have g2':Ev (KK (d+5) false) (sub (ag 2) (aK a9 (ag 5) (ah 2))) (qD n m sc f l (iV ((f.toNat+i*3:Nat):Int))) (bb σ m n p' S') (.d (.int (cell sc (f.toNat+i*3+2)))):=zB hs rfl (e2 (.p 0 0) _) (by omega);have ar:=cP (K:=KK (d+5) false) (ρ:=(qD n m sc f l (iV ((f.toNat+i*3:Nat):Int)))) (σ:=bb σ m n p' S') (a:=ag 0) (x:=.p n 0) rfl (cP (a:=ag 1) (x:=.p m 0) rfl (cP g0 (cP g1 (cl1 g2'))));exact ⟨_,_,aa (A' (DQ (yg (aB ar e))) rfl) rfl,rfl,⟨p2,S2,_,rfl,rfl,by rw[Sk];exact g2,ke2.c.trans ke.c,ke2.m.trans ke.m,fun q=>kc (ke.k q),List.Subset.trans ke.g ke2.g⟩⟩
 refine k9 ?_;rw[List.nil_append,Sg,List.length_range] at g;refine ⟨p',S',g.mono (by omega),ke,a8 rfl rfl (ρ:=(qD n m sc f l none)) rfl ?_ nu⟩;have ln:Ev (KK (d+5) false) (bi bf (aj (ag 2) ao)) (qD n m sc f l none) σ (.d (.int sc.length)):=by
  have q:=ku (hd:=false) (σ:=σ) (x:=.d (.lst (sc.map .int))) rfl (by rw[Sg];exact bo (Ss (hs) (Sp rfl)));rw[Sg] at q;exact ca rfl q
 have mn:Ev (KK (d+5) false) (bi xp (aj (aK c_ (bi bf (aj (ag 2) ao)) (ah 2)) (aj (ag 4) ao))) (qD n m sc f l none) σ (.d (.int (min (sc.length - 2) l))):=ca (cP (aO ln rfl rfl rfl rfl) rfl) rfl;have rg:Ev (KK (d+5) false) (bi Bl (aj (ag 3) (aj (bi xp (aj (aK c_ (bi bf (aj (ag 2) ao)) (ah 2)) (aj (ag 4) ao))) (aj (ah 3) ao)))) (qD n m sc f l none) σ (.d (.rng f (min (sc.length - 2) l) 3)):=by
  refine ca (cP rfl (cP mn rfl)) ?_;show (au ((bS f&&bS (min (sc.length - 2) l)&&decide ((0:Int)<3)&&decide ((3:Int)<1000))=true) (PV.d (.rng f (min (sc.length - 2) l) 3))).map _=_;rw[aS (by rw[cY (SS (by decide) hf.1) (SS hf.2 (by decide)),cY (Rd hl) (SS (Tk _ _) (SS (Int.sub_le_self _ (by decide)) (SS (SV.mpr hs) (by decide))))];rfl)];rfl
 exact aa (bl rg (dO i3.1) lp) rfl
end
section
end
section
variable {w:List Nat}
noncomputable def oH (T:List (List Nat)) (w:List Nat):List (List Nat):=if w∈cn::T then T else T++[w]
theorem oV (h:JL T) (hw:gS w):JL (oH T w):=by
 unfold oH;by_cases q:w∈cn::T
 .rw[if_pos q];exact h
 rw[if_neg q];refine ⟨List.nodup_append.mpr ⟨h.nd,S6.mpr ⟨SF,S9⟩,fun a ha c hc=>by rw[So.mp hc];rintro rfl;exact q (.tail _ ha)⟩,fun z=> ?_,fun y hy=> ?_⟩
 .rcases SC.mp z with z|z
  .exact h.ne z
  .exact q (by rw[<-So.mp z];exact .head _)
 .rcases SC.mp hy with z|z
  .exact h.nm y z
  .rw[So.mp z];exact hw
theorem oY:(oH T w).length<=T.length+1:=by
 unfold oH;by_cases q:w∈cn::T
 .rw[if_pos q];exact S5 _
 .rw[if_neg q,Sk];exact Sv _
theorem oW {a b:Option PV} {B:PO} (h:T.length<=4):lJ.ex (KK 6 false) [a,b,qV 2,sV w] [o1,B,.fld (.list ((cn::T).map .str))]=some (.next [a,b,qV 2,sV w],[o1,B,.fld (.list ((cn::oH T w).map .str))]):=by
 unfold oH;by_cases q:w∈cn::T
 .rw[if_pos q];exact aa (aX (ak rfl rfl rfl rfl (AS q)) rfl) rfl
 .rw[if_neg q,<-List.cons_append,List.map_append];exact aa (bP (ak rfl rfl rfl rfl (AR q)) (aa (aA (cb (n:=2) (j:=0) (l:=(cn::T).map .str) (y:=.str w) rfl rfl rfl (by rw[Sg];exact db (Ss (Tj h) (by decide))))) rfl)) rfl
theorem Co {c0 c1:Int}:∃ T,JL T/\T.length<=4/\CC 7 false 87 [.d (.lst [.int c0,.int c1])] [.rcd false []]=some (.ok (.p 1 0),[.rcd false [],.fld (.list ((cn::T).map .str))]):=by
 refine bn fun G9 k9=> ?_;obtain ⟨n0,h0,e0⟩:=pU (d:=5) (σ:=[.rcd false []]) (n:=c0);obtain ⟨n1,h1,e1⟩:=pU (d:=5) (σ:=[.rcd false []]) (n:=c1);obtain ⟨v,hv,x2⟩:∃ v,gS v/\lI.ex (KK 6 false) [dV (.lst [.int c0,.int c1]),qV 1,none,none] [.rcd false [],.fld (.list [.str n0,.str n1,.str [97],.str [122,57]])]=some (.next [dV (.lst [.int c0,.int c1]),qV 1,none,none],[.rcd false [],.fld (.list [.str n0,.str v,.str [97],.str [122,57]])]):=by
  by_cases q:c1.fmod 2=1
  .obtain ⟨k,y,hk,hy,e2⟩:=vG (d:=5) (hd:=false) (n:=c1.fdiv 2) (t:=n0) (sg:=mD) (EM h0).1 (by have:=(EM h0).2;exact Ss this (Sp rfl)) rfl;exact ⟨n0.set k y,KL h0 hy,bP (tT q rfl) (aa (jU (aY e2 rfl) rfl rfl rfl) rfl)⟩
  .exact ⟨n1,h1,aX (tF q rfl) rfl⟩
 refine k9 ?_;have t1:=oY (T:=[]) (w:=n0);rw[Tb] at t1;have t2:=oY (T:=oH [] n0) (w:=v);have t3:=oY (T:=oH (oH [] n0) v) (w:=[97]);have t4:=oY (T:=oH (oH (oH [] n0) v) [97]) (w:=[122,57]);have st:∀ o:PO,bI [.rcd false [],.fld (.list [.str n0,.str v,.str [97],.str [122,57]]),o] (.lst [.str n0,.str v,.str [97],.str [122,57]]) (.p 1 0)=true:=fun o=>dY rfl;exact ⟨_,oV (oV (oV (oV ⟨S9,SF,aW⟩ h0) hv) ⟨97,[],rfl,by decide,by decide,aW⟩) ⟨122,[57],rfl,by decide,by decide,by decide⟩,Ss t4 (Tj (Ss t3 (Tj (Ss t2 (Tj t1))))),LU rfl rfl rfl (aa (av (fk (cP (aY e0 rfl) (cP (aY e1 rfl) rfl))) rfl) (aa x2 (aa rfl (aa (bl (v:=.p 1 0) (x:=.lst [.str n0,.str v,.str [97],.str [122,57]]) rfl rfl (br (oW (T:=[]) (by decide)) (st _) (br (oW (Ss (t1) (Sp rfl))) (st _) (br (oW (Ss (Ss t2 (Nat.add_le_add_right (t1) _)) (Sp rfl))) (st _) (br (oW (Ss (Ss t3 (Nat.add_le_add_right (Ss t2 (Nat.add_le_add_right (t1) _)) _)) (Sp rfl))) (st _) rfl))))) rfl)))) (by decide) rfl rfl⟩
end
section
theorem Be {o:PO}:(σ++(o::ds))[σ.length]? =some o:=by rw[SH (Sv _),Nat.sub_self];rfl
theorem AA {o:PO}:(σ++(o::ds)).set σ.length o'=σ++(o'::ds):=by rw[List.set_append_right _ _ (Sv _),Nat.sub_self];rfl
theorem AI {b:Bool} {l:List cU}:df b (σ++(.rcd b l::ds)) σ.length=some l:=by
 unfold df;rw[Be];exact if_pos rfl
theorem pO {ds':az} {b:Bool} {l:List cU}:df b ((σ++(.rcd b l::ds))++ds') σ.length=some l:=by
 rw[List.append_assoc,List.cons_append];exact AI
theorem tO {o:PO}:(((σ++(o::ds))++[PO.fld f]).set (σ++(o::ds)).length PO.dead).set σ.length o'=σ++(o'::(ds++[.dead])):=by
 rw[lh,List.append_assoc,List.cons_append,AA]
theorem ig {l:List cU} {x:D} (ha:a.ev K ρ (σ++(.rcd true l::ds))=some (.ok (.p (σ++(.rcd true l::ds)).length 0),(σ++(.rcd true l::ds))++[.fld f])) (he:Ev K o ρ ((σ++(.rcd true l::ds))++[.fld f]) (.p σ.length 0)) (hk:k=l.length) (hr:f.rd=some x):(ko o k a).ex K ρ (σ++(.rcd true l::ds))=some (.next ρ,σ++(.rcd true (l++[f])::(ds++[.dead]))):=by
 refine xO ha he ?_;show (df true ((σ++(.rcd true l::ds))++[.fld f]) σ.length).bind _=_;rw[pO,Si,aS hk,Si];show (au ((σ++(.rcd true l::ds)).length≠σ.length) ()).bind _=_;rw[aS (by rw[Sk,Sq];exact RA),Si,cV,Si,hr];exact congrArg some tO
theorem Fp (hc:bh h=true):CC (d+2) false 0 [.p σ.length 0,.d (.str h)] (σ++[.rcd true []])=some (.ok (.d .none),σ++[bk (st0 h)]):=by
 have l0:∀ s,Ev (KK (d+1) false) (ag 0) [qV σ.length,sV h] s (.p σ.length 0):=fun s=>rfl;have a1:(ko (ag 0) 0 (ag 1)).ex (KK (d+1) false) [qV σ.length,sV h] (σ++[.rcd true []])=some (.next [qV σ.length,sV h],σ++[.rcd true [.d (.str h)]]):=by
  refine xO (v:=.d (.str h)) rfl (l0 _) ?_;show (df true (σ++[.rcd true []]) σ.length).bind _=_;rw[AI,Si,aS (show 0=([]:List cU).length from rfl),Si];exact congrArg some AA
 have a2:=ig (K:=KK (d+1) false) (ρ:=[qV σ.length,sV h]) (σ:=σ) (o:=ag 0) (a:=gO (aj (aH Ty) ao)) (k:=1) (l:=[.d (.str h)]) (ds:=[]) (f:=.list [.str cn]) (fk rfl) (l0 _) rfl rfl;have a3:=ig (K:=KK (d+1) false) (ρ:=[qV σ.length,sV h]) (σ:=σ) (o:=ag 0) (a:=mJ) (k:=2) (l:=[.d (.str h),.list [.str cn]]) (ds:=[.dead]) (f:=.dict [] []) rfl (l0 _) rfl rfl;have a4:=ig (K:=KK (d+1) false) (ρ:=[qV σ.length,sV h]) (σ:=σ) (o:=ag 0) (a:=gO ao) (k:=3) (l:=[.d (.str h),.list [.str cn],.dict [] []]) (ds:=[.dead,.dead]) (f:=.list []) (fk rfl) (l0 _) rfl rfl;have a5:=ig (K:=KK (d+1) false) (ρ:=[qV σ.length,sV h]) (σ:=σ) (o:=ag 0) (a:=mJ) (k:=4) (l:=[.d (.str h),.list [.str cn],.dict [] [],.list []]) (ds:=[.dead,.dead,.dead]) (f:=.dict [] []) rfl (l0 _) rfl rfl;have a6:=ig (K:=KK (d+1) false) (ρ:=[qV σ.length,sV h]) (σ:=σ) (o:=ag 0) (a:=gO ao) (k:=5) (l:=[.d (.str h),.list [.str cn],.dict [] [],.list [],.dict [] []]) (ds:=[.dead,.dead,.dead,.dead]) (f:=.list []) (fk rfl) (l0 _) rfl rfl;have a7:=ig (K:=KK (d+1) false) (ρ:=[qV σ.length,sV h]) (σ:=σ) (o:=ag 0) (a:=gO ao) (k:=6) (l:=[.d (.str h),.list [.str cn],.dict [] [],.list [],.dict [] [],.list []]) (ds:=[.dead,.dead,.dead,.dead,.dead]) (f:=.list []) (fk rfl) (l0 _) rfl rfl;refine dL rfl rfl (ρ:=[qV σ.length,sV h]) rfl (aa (aA (aY (bO hc) rfl)) (aa a1 (aa a2 (aa a3 (aa a4 (aa a5 (aa a6 (aa a7 rfl)))))))) ?_;have e:σ++(bk (st0 h)::[.dead,.dead,.dead,.dead,.dead,.dead])=(σ++[bk (st0 h)])++[.dead,.dead,.dead,.dead,.dead,.dead]:=by rw[List.append_assoc];rfl
 show (σ++(bk (st0 h)::[.dead,.dead,.dead,.dead,.dead,.dead])).take (σ++[PO.rcd true []]).length=_;rw[e,show (σ++[PO.rcd true []]).length=(σ++[bk (st0 h)]).length by rw[Sk,Sk];rfl];exact List.take_left
theorem JH {p s f:Nat} {b:CS} {args:List PV} {o:PO} (hT:TT f=some ⟨p,s,kp,b.ex⟩) (hl:args.length=p) (hr:args.map some++List.replicate (s - p) none=ρ) (h:b.ex (KK d hd) ρ σ=some (.ret (.p σ.length 0),σ++(o::ds))) (ho:∀ f,o≠ .fld f) (k:σ++[o]=σ''):CC (d+1) hd f args σ=some (.ok (.p σ.length 0),σ''):=
 rm hT hl hr h (by
  show (if σ.length<σ.length then _ else Cd kp σ.length (σ++(o::ds)) 0 (σ++(o::ds))[σ.length]?)=_;rw[if_neg (S4 _),Be,<-k];cases o with
  |fld f=>exact absurd rfl (ho f)
  |rcd i l=>show some (R.ok (PV.p σ.length 0),(σ++(PO.rcd i l::ds)).take σ.length++[.rcd i l])=_;rw[List.take_left]
  |dead=>show some (R.ok (PV.p σ.length 0),(σ++(PO.dead::ds)).take σ.length++[.dead])=_;rw[List.take_left]
  |wrp f=>show some (R.ok (PV.p σ.length 0),(σ++(PO.wrp f::ds)).take σ.length++[.wrp f])=_;rw[List.take_left])
end
section
theorem Df {x:D} (ha:a.ev K ρ (σ++[.rcd false []])=some (.ok (.p (σ++[PO.rcd false []]).length 0),(σ++[.rcd false []])++[.fld f])) (hr:f.rd=some x):(EN s a).ev K ρ σ=some (.ok (.p σ.length 0),σ++(.rcd false [f]::[.dead])):=by
 show bW (iW (.rcd false [])) (fun x=>bW ((aH s).ev K ρ) fun y=>bW (a.ev K ρ) fun v=>D8 s x y v) σ=_;refine aC (m:=iW (.rcd false [])) (a:=PV.p σ.length 0) (σ':=σ++[PO.rcd false []]) rfl ?_;refine aC (m:=(aH s).ev K ρ) (a:=PV.d (.str s)) (σ':=σ++[PO.rcd false []]) rfl (aC ha ?_);have rl:jn (.p σ.length 0) ((σ++[.rcd false []])++[.fld f])=0:=by
  show ((df false ((σ++[.rcd false []])++[.fld f]) σ.length).getD []).length=_;rw[pO];rfl
 show (au (jn (.p σ.length 0) ((σ++[.rcd false []])++[.fld f])=0) ()).bind _=_;rw[aS rl,Si];show (uh [s] 0 (.p (σ++[PO.rcd false []]).length 0) (.p σ.length 0) (.d (.str s)) ((σ++[.rcd false []])++[.fld f])).map _=_;unfold uh;show ((au (k_ (.d (.str s))=some s) ()).bind fun _=>G0 0 (.p σ.length 0) (.p (σ++[PO.rcd false []]).length 0) ((σ++[.rcd false []])++[.fld f])).map _=_;rw[aS (show k_ (.d (.str s))=some s from rfl),Si];show ((df false ((σ++[.rcd false []])++[.fld f]) σ.length).bind _).map _=_;rw[pO,Si];show ((au (0=([]:List cU).length/\0<100/\(σ++[PO.rcd false []]).length≠σ.length) ()).bind _).map _=_;rw[aS ⟨rfl,by decide,by rw[Sk,Sq];exact RA⟩,Si,cV,Si,hr];show some (R.ok (PV.p σ.length 0),(((σ++(PO.rcd false []::[]))++[PO.fld f]).set (σ++(PO.rcd false []::[])).length .dead).set σ.length (.rcd false [f]))=_;rw[tO];rfl
noncomputable def Cj (T F:List (List Nat)) (mo:Int):Pl:=⟨cn::T,(T.length:Int)+1,F,[],[],[],[],[],mo,[]⟩
theorem F6 {x:Option PV} {s:az} (hs:sc.length<=63) (hi:i<=100) (hj:j<=100):(aj (gV (aj (ax 33 (aj (ag 0) (aj (ah (i:Nat)) ao))) (aj (ax 33 (aj (ag 0) (aj (ah (j:Nat)) ao))) ao))) ao).ev (KK 7 false) [dV (.lst (sc.map .int)),x,none] s=some (.ok [.d (.lst [.int (cell sc i),.int (cell sc j)])],s):=cl1 (eH (cP (Bp (d:=6) hs rfl rfl (MN hi)) (cl1 (Bp (d:=6) hs rfl rfl (MN hj)))))
theorem Ch (hs:sc.length<=63):∃ T F,JL T/\T.length<=4/\F.Nodup/\(∀ x∈F,bh x=true)/\3<=F.length/\F.length<=8/\(∃ n0 v,∀ x∈F,x∈n0::v::curs)/\CC 8 false 168 [.d (.lst (sc.map .int))] []=some (.ok (.p 0 0),[pk (Cj T F 6)]):=by
 obtain ⟨T,hT,hT4,eN⟩:=Co (c0:=cell sc 0) (c1:=cell sc 1);obtain ⟨F,hF,hC,hF3,hF10,hFq,eF⟩:=rf (o1:=.rcd false [.list ((cn::T).map .str),.d (.int ((T.length:Int)+1))]) (o2:=.dead) (c0:=cell sc 2) (c1:=cell sc 3);have ln:=fv (K:=KK 7 false) (ρ:=[dV (.lst (sc.map .int)),qV 0,none]) (σ:=[.rcd false [.list ((cn::T).map .str)],.dead]) (e:=key (ag 1) 0 Tq) (x:=.p 0 2) (l:=(cn::T).map .str) rfl rfl (by rw[Sg];exact Ss (Tj hT4) (by decide));rw[Sg] at ln;exact ⟨T,F,hT,hT4,hF,hC,hF3,hF10,hFq,rm (o:=.ret (.p 0 0)) (σ':=pk (Cj T F 6)::List.replicate 6 .dead) rfl rfl rfl (aa (av (Df (σ:=[]) (aY eN (F6 hs (by decide) (by decide))) rfl) rfl) (aa (ρ':=[dV (.lst (sc.map .int)),qV 0,none]) (σ':=[.rcd false [.list ((cn::T).map .str),.d (.int ((T.length:Int)+1))],.dead]) (cN ln rfl) (aa (ρ':=[dV (.lst (sc.map .int)),qV 0,none]) (σ':=[.rcd false [.list ((cn::T).map .str),.d (.int ((T.length:Int)+1)),.d (.lst (F.map .str))],.dead]) (cN (aY eF (F6 hs (by decide) (by decide))) rfl) (by kernel_rfl)))) rfl⟩
theorem NY:∀ (T:List (List Nat)) (S:St),Sh S->(∀ x∈T,gS x/\x∉S.names)->T.Nodup->S.names.length+T.length<=100->S.deeds.length+T.length<=100->Rp S (T.map .acc) {S with names:=S.names++T,deeds:=S.deeds++T.map oI}/\∀ x2:Option PV,∃ y2,dq (.d v) v 2 (fun ρ=>kJ.ex (KK (d+2) false) ρ) (T.map .str) [qV m,qV σ.length,x2] (σ++[bk S])=some (.next [qV m,qV σ.length,y2],σ++[bk {S with names:=S.names++T,deeds:=S.deeds++T.map oI}]):=by
 intro T
 induction T with
 |nil=>
  intro S _ _ _ _ _;rw[List.map_nil,List.map_nil,List.map_nil,List.append_nil,List.append_nil];exact ⟨rfl,fun x2=>⟨x2,rfl⟩⟩
 |cons b T ih=>
  intro S sh h nd l1 l2;rw[Sq] at l1 l2;have B:Bk (σ++[bk S]) σ.length S:=dG;have hb:=h b (.head _);have ar:=jR (d:=d) B sh hb.1 hb.2;rw[lh] at ar;have e:=ih (fA S b) ⟨by show (S.names++[b]).length<=_;rw[Sk,Su];exact PS l1,sh.t,sh.m,sh.g,sh.e,by show (S.deeds++[oI b]).length<=_;rw[Sk,Su];exact PR l2⟩ (fun x hx=>⟨(h x (.tail _ hx)).1,fun z=>by
   rcases SC.mp z with z|z
   .exact (h x (.tail _ hx)).2 z
   .rw[So.mp z] at hx;exact (S6.mp nd).1 hx⟩) (S6.mp nd).2 (by show (S.names++[b]).length+_<=_;rw[Sk,Su];exact Rc l1) (by show (S.deeds++[oI b]).length+_<=_;rw[Sk,Su];exact Rc l2)
  simp only [fA,List.append_assoc,List.singleton_append] at e;exact ⟨⟨fA S b,fun d σ n B=>iJ B (jR B sh hb.1 hb.2),e.1⟩,fun x2=>(e.2 (sV b)).imp fun y2 e=>br (aa (aA (a' B rfl (cl1 rfl) ar)) rfl) rfl e⟩
theorem RU:Sh (st0 h):=⟨Sp rfl,Sp rfl,Sp rfl,Sp rfl,Sp rfl,Sp rfl⟩
noncomputable def DF (h:List Nat) (T:List (List Nat)):St:=⟨h,cn::T,[],[],[],[],[],T.map oI⟩
theorem Gq (hT:JL T) (ht:T.length<=10):Rp (st0 c) (T.map .acc) (DF c T)/\∀ x2:Option PV,∃ y2,dq (.d v) v 2 (fun ρ=>kJ.ex (KK (d+2) false) ρ) (T.map .str) [qV m,qV σ.length,x2] (σ++[bk (st0 c)])=some (.next [qV m,qV σ.length,y2],σ++[bk (DF c T)]):=NY T (st0 c) RU (fun x hx=>⟨hT.nm x hx,fun z=>by rw[So.mp z] at hx;exact hT.ne hx⟩) hT.nd (by show 1+_<=_;exact Ss (S0 ht 1) (Sp rfl)) (by show 0+_<=_;exact Ss (S0 ht 0) (Sp rfl))
theorem AT {l:CL} (hl:l.ev (KK (d+2) false) ρ σ=some (.ok [.d (.str h)],σ)) (hh:bh h=true):(KR l).ev (KK (d+2) false) ρ σ=some (.ok (.p σ.length 0),σ++[bk (st0 h)]):=by
 refine aC hl ?_;refine aC (m:=Ng) (a:=PV.p σ.length 0) (σ':=σ++[PO.rcd true []]) rfl ?_;refine aC (Fp (d:=d) hh) ?_;rfl
theorem F_ (R:Rk σ m p) (hn:p.names=cn::T) (hc:p.curs=h::G) (hh:bh h=true) (hT:JL T) (ht:T.length<=10):CC (d+3) false 86 [.p m 0] σ=some (.ok (.p σ.length 0),σ++[bk (DF h T)]):=by
 obtain ⟨y2,lp⟩:=(Gq (d:=d) (m:=m) (σ:=σ) (v:=.lst (T.map .str)) (c:=h) hT ht).2 none;refine JH (o:=bk (DF h T)) (ds:=[]) rfl rfl (ρ:=[qV m,none,none]) rfl ?_ (fun f h=>nomatch (show PO.rcd true (mX _)= .fld f from h)) rfl;have e0:Ev (KK (d+2) false) (sub (key (ag 0) 2 Tr) (ah 0)) [qV m,none,none] σ (.d (.str h)):=bc (gQ R rfl) rfl rfl rfl (b7 (k:=0) (by rw[hc];rfl));have R':Rk (σ++[bk (st0 h)]) m p:=R.app;have sl:=J5 (l:=p.names.map D.str) (by rw[Sg,hn,Sq];exact Qn) (by rw[Sg,hn,Sq];exact Ss (Nat.add_le_add_right (ht) _) (Sp rfl));rw[show (p.names.map D.str).drop 1=T.map .str by rw[hn];rfl] at sl;refine aa (av (AT (cl1 e0) hh) rfl) ?_;refine aa (bl (fF (cK R' rfl) rfl rfl (cB R') rfl rfl sl) (dO (if_pos (by rw[Sg];exact bo (Ss ht (Sp rfl))))) lp) ?_;exact rfl
theorem Sf {mo:Int} (hT:JL T) (h4:T.length<=4) (hF:(h::G).Nodup) (hC:∀ x∈h::G,bh x=true) (h3:3<=(h::G).length) (h10:(h::G).length<=8):Gd 10 (Cj T (h::G) mo) (DF h T):=by
 exact {names:=rfl,nm:=⟨T,rfl,hT⟩,nl:=by show (cn::T).length<=7;rw[Sq];exact SJ h4 (Sp rfl),nd:=hF,ic:=hC,c3:=h3,c10:=h10,home:=rfl,made:=rfl,ends:=rfl,gone:=rfl,tell:=⟨[],rfl,rfl,fun c=>⟨[],rfl,FV,Sv _⟩,Sv _⟩,rw:=aW,ent:=aW,cl1:=Int.le_refl _,cl2:=(by decide:cl []<=99999),l1:=SN _,l2:=SN _,l3:=SN _,l4:=SN _,l5:=SN _,l6:=by show (T.map oI).length<=10;rw[Sg];exact Ss h4 (Sp rfl),cu:=aW,nos:=rfl,tc:=aW,hs:=.mk T [] [] rfl (by rw[List.append_nil];rfl) hT.nm rfl aW (by rw[List.append_nil];exact (Gq (d:=0) (m:=0) (σ:=[]) (v:=.none) hT (Ss h4 (Sp rfl))).1) (by rw[List.append_nil,List.map_map];rfl)}
end
structure Wd (w:Tx):Prop where
 c:∀ c∈w,33<=c/\c<=126
 e:w≠[]
 l:w.length<=32
section
variable {s r:Tx} {t:List Tx} {n:Int}
theorem pt (h:gS w):Wd w:=by
 obtain ⟨x,r,rfl,h1,h2,h3⟩:=h;exact ⟨fun c hc=>(Sj.mp hc).elim (fun q=>(show ∀ c∈mD,33<=c/\c<=126 by decide) c (q ▸ h2)) fun q=>(show ∀ c∈gu,33<=c/\c<=126 by decide) c (h3 c q),List.cons_ne_nil _ _,by rw[Sq];exact Ss (Nat.add_le_add_right (h1) _) (Sp rfl)⟩
theorem gM (h:Nd w):Wd w:=h.elim (fun e=>by rw[e];exact ⟨by decide,by decide,by decide⟩) pt
theorem du (h:bh w=true):Wd w:=by
 have l:=lY h;exact ⟨fun c hc=>(show ∀ c∈hW,33<=c/\c<=126 by decide) c (S3 (List.all_eq_true.mp (an h) c hc)),fun e=>(by rw[e] at l;cases l),OM l⟩
theorem fE (h:n.natAbs<10^31):Wd (aN n):=by
 have h1:=nI h;refine ⟨fun c hc=> ?_,fun e=>(by rw[e] at h1;cases h1.1),(iY h).2⟩;rcases (Bool.or_eq_true _ _).mp (List.all_eq_true.mp h1.2 c hc) with q|q
 .rw[eq_of_beq q];decide
 .have q1:=S3 (ai q);have q2:=S3 (an q);exact ⟨Ss (Sp rfl) q1,Ss q2 (Sp rfl)⟩
theorem dT (h:bq n):n.natAbs<10^31:=by have:=h.1;have:=h.2;exact OL (by assumption) this
theorem mt (h:c7 n=true):n.natAbs<10^31:=by
 have h2:=S3 (ai (an h));have h3:=S3 (an (an h));omega
theorem D6 {lo hi:CP} {l h:PV} {u1 u2 z:D} (h1:Ev K a ρ σ x) (h2:lo.ev K ρ σ=some (.ok l,σ)) (h3:hi.ev K ρ σ=some (.ok h,σ)) (r1:rd σ x=some u) (r2:j7 l=some u1) (r3:j7 h=some u2) (e:mE u u1 u2=some z):Ev K (Ka a lo hi) ρ σ (.d z):=by
 refine aC h1 (aC h2 (aC h3 ?_));show ((rd σ x).bind fun u=>(j7 l).bind fun l=>(j7 h).bind fun h=>(mE u l h).map PV.d).map _=_;rw[r1,r2,r3,Si,Si,Si,e];rfl
theorem NJ {c:Nat}:dm 1 (c::s).length=1:=by unfold dm;rw[if_neg (by decide),Sq];exact Nat.min_eq_left (Tj (SN _))
theorem QY:dm s.length s.length=s.length:=by unfold dm;rw[if_neg (Gz),Int.toNat_natCast,Nat.min_self]
theorem Mu {c:Nat}:mE (.str (c::s)) .none (.int 1)=some (.str [c]):=by
 show au (dm 0 (c::s).length<=dm 1 (c::s).length) (D.str (bJ (c::s) (dm 0 (c::s).length) (dm 1 (c::s).length)))=_;have z:dm 0 (c::s).length=0:=by unfold dm;rw[if_neg (by decide)];exact Nat.zero_min _
 rw[NJ,z];rfl
theorem D4 {c:Nat}:mE (.str (c::s)) (.int 1) .none=some (.str s):=by
 show au (dm 1 (c::s).length<=dm (c::s).length (c::s).length) (D.str (bJ (c::s) (dm 1 (c::s).length) (dm (c::s).length (c::s).length)))=_;rw[NJ,QY,aS (by rw[Sq];exact Qn)];show some (D.str (s.take (s.length+1 - 1)))=_;rw[Nat.add_sub_cancel,List.take_length]
theorem C4 (c:Nat) (h:isDg c=true):c∈NC:=by
 have e:=(show ∀ k<10,48+k∈NC by decide) (c - 48) (by have:=S3 (an h);exact Nat.lt_succ_of_le (Nat.sub_le_sub_right this 48))
 rwa [Nat.add_sub_cancel' (S3 (ai h))] at e
theorem fU (h:n.natAbs<10^31):CC (d+1) false 91 [.d (.str (aN n))] σ=some (.ok (.d (.int n)),σ):=by
 have i:=(nI h).1;have hw:=fE h;generalize aN n=w at i hw;by_cases g:Bb w (sJ w)=true
 case neg=>rw[v_,if_neg g] at i;cases i
 rw[v_,if_pos g] at i;obtain ⟨c,r,rfl⟩:=List.exists_cons_of_ne_nil hw.e;have hl:=hw.l;rw[Sq] at hl;have s2:iX.ex (KK d false) [sV (c::r),sV (c::r),none] σ=some (.next [sV (c::r),sV (sJ (c::r)),none],σ)/\(sJ (c::r)).length<=32:=by
  by_cases q:c=45
  .subst q;exact ⟨bP rfl (aa (av (D6 rfl rfl rfl rfl rfl rfl D4) rfl) rfl),by show r.length<=_;exact SY hl⟩
  .have:sJ (c::r)=c::r:=by
    unfold sJ;split
    .rename_i z;exact absurd (List.cons.inj z).1 q
    .rfl
   rw[this];exact ⟨aX (ak rfl rfl rfl rfl (eV fun z=>q (List.cons.inj z).1)) rfl,by rw[Sq];exact hl⟩
 generalize sJ (c::r)=f at s2 g;have g3:=an (ai g);have q1:f≠[]:=fun z=>by rw[z] at g;cases g
 have al:=ij (K:=KK d false) (ρ:=[sV (c::r),sV f,none]) (σ:=σ) (i:=2) (it:=ag 1) (t:=f) (p:=fun _=>true) (cq:=rj Ab (ag 2) (zy "FIGURES" (none,TM))) rfl (by have:=s2.2;omega) fun x hx=>congrArg (fun b=>some (R.ok (PV.d (.bool b)),σ)) (Sz (C4 x (List.all_eq_true.mp g3 x hx)));rw[show (f.all fun _=>true)=true from List.all_eq_true.mpr fun _ _=>rfl] at al;refine a8 rfl rfl rfl (aa rfl (aa s2.1 (aa (aX (bN (bz (ak rfl rfl rfl rfl (eV q1)) (bz (ak (ca (cl1 rfl) (wK (Ss s2.2 (by decide)))) rfl rfl rfl (ol (by have:=s2.2;omega))) (bz (kD (eT al)) rfl)))) rfl) (aa (aX (ci ?_) rfl) (aM (aF (ca (cl1 rfl) ?_))))))) (tk _)
 .obtain ⟨y,z,rfl⟩:=List.exists_cons_of_ne_nil q1;have e0:Ev (KK d false) (sub (ag 1) (ah 0)) [sV (c::r),sV (y::z),none] σ (.d (.str [y])):=bc rfl rfl rfl rfl (Ft (k:=0) rfl);by_cases q4:y=48
  .refine cQ (ak e0 rfl rfl rfl (gj (by rw[q4]))) (eX (ak rfl rfl rfl rfl (kq ?_)));by_cases q5:c::r=[48]
   .exact q5
   have g4:=an g;rw[q4] at g4;have g4:(!(true&&(c::r !=[48])))=true:=g4;rw[bne_iff_ne.mpr q5] at g4;cases g4
  .exact eX (ak e0 rfl rfl rfl (eV fun h=>q4 (List.cons.inj h).1))
 .show ((wZ (c::r)).map D.int).map _=_;rw[i];rfl
theorem fH (h:Wd w):CC (d+1) false 93 [.d (.str w)] σ=some (.ok (.d (.str w)),σ):=by
 have al:=ij (K:=KK d false) (ρ:=[sV w,none]) (σ:=σ) (i:=1) (it:=ag 0) (p:=fun _=>true) (cq:=Dp vb vb (aH [33]) (ag 1) (aH [126])) rfl (Ss h.l (by decide)) fun c hc=>u6 rfl rfl rfl rfl rfl rfl (AX (h.c c hc).1) (AX (h.c c hc).2);rw[show (w.all fun _=>true)=true from List.all_eq_true.mpr fun _ _=>rfl] at al;exact a8 rfl rfl rfl (aa (aX (bN (bz (ak rfl rfl rfl rfl (eV h.e)) (bz (kD (eT al)) rfl))) rfl) rfl) (tk _)
theorem dQ {c:Nat} (h:Ev K o ρ σ (.d (.str s))) (hl:s.length<=1048576) (hs:bp c s=ws):Ev K (bm mK o (aj (aH [c]) ao)) ρ σ (.d (.lst (ws.map .str))):=by
 subst hs;refine aC h ?_;show bW ((aj (aH [c]) ao).ev K ρ) _ σ=_;refine aC rfl ?_;show (Option.map D.lst (au (s.length<=1048576) ((bp c s).map D.str))).map _=_;rw[aS hl];rfl
theorem jw (h:Ev K e ρ σ (.d (.lst (ws.map .str)))) (hl:ws.length<=10000):Ev K (bi bf (aj e ao)) ρ σ (.d (.int ws.length)):=by
 have q:=ku (hd:=K.hd) (σ:=σ) (x:=.d (.lst (ws.map .str))) rfl (by rw[Sg];exact Ss hl (by decide));rw[Sg] at q;exact ca (cl1 h) q
theorem gW (hl:s.length<=1000) (hs:bp 32 s=w::ws) (hw:ws.length<=100):CC (d+1) false 92 [.d (.str s),.d (.str w),.d (.int ((w::ws).length:Nat))] σ=some (.ok (.d (.lst ((w::ws).map .str))),σ):=
 a8 rfl rfl rfl (aa (av (dQ rfl (Ss (hl) (Sp rfl)) hs) rfl) (aa (aX (bN (bz (ak (bc rfl rfl rfl rfl (b7 (k:=0) rfl)) rfl rfl rfl (kq rfl)) (bz (ak (jw (ws:=w::ws) rfl (by rw[Sq];exact Ss (Nat.add_le_add_right (hw) _) (Sp rfl))) rfl rfl rfl (n9 rfl)) rfl))) rfl) rfl)) (tk _)
end
noncomputable def g7:List Tx->Tx->Tx
 |[],w=>w
 |p::ws,w=>p++32::g7 ws w
noncomputable def JO:Dd->List Tx×Tx
 | .acc a=>([rU],a)
 | .rate c n t b=>([sU,c,aN n,aN t],aN b)
 | .entry n note ls=>([ip,aN n,aN ls.length],note)
 | .change n note g one a tk aE=>([dX,aN n,g,one,aN a,tk,aE],note)
 | .back k n=>([sW,aN k],aN n)
 | .close n=>([mz],aN n)
noncomputable def oh:Dd->List bG
 | .entry _ _ ls=>ls
 |_=>[]
noncomputable def ji (l:bG):Tx:=g7 [DM,l.1,l.2.1] (aN l.2.2)
noncomputable def lq (x:Dd):Tx:=g7 (JO x).1 (JO x).2
noncomputable def eu (x:Dd):List Tx:=lq x::(oh x).map ji
noncomputable def bw (ds:List Dd):List Tx:=(ds.map eu).flatten
section
variable {s r:Tx} {t:List Tx} {n:Int}
theorem Wd.sp (h:Wd w):32∉w:=fun q=>absurd (h.c 32 q).1 (by decide)
theorem Wd.nt (h:Wd w):dK w:=⟨Ss h.l (by decide),fun c hc=>⟨Nat.le_of_succ_le (h.c c hc).1,(h.c c hc).2⟩⟩
theorem aQ {q:α->Prop} {a:α} {l:List α} (h:q a) (k:∀ x∈l,q x):∀ x∈a::l,q x:=fun x hx=>(Sj.mp hx).elim (fun e=>e ▸ h) (k x)
theorem jV (h:∀ p∈ws,Wd p):bp 32 (g7 ws w)=ws++bp 32 w:=by
 induction ws with
 |nil=>rfl
 |cons p ws ih=>exact (kF (h p (.head _)).sp).trans (congrArg (p::·) (ih fun x hx=>h x (.tail _ hx)))
theorem vN (h:∀ p∈ws,Wd p) (hw:Wd w):bp 32 (g7 ws w)=ws++[w]:=by rw[jV h,d8 hw.sp]
theorem pM (h:∀ p∈ws,Wd p) (hw:dK w):(∀ c∈g7 ws w,32<=c)/\(g7 ws w).length<=33*ws.length+40:=by
 induction ws with
 |nil=>exact ⟨fun c hc=>(hw.2 c hc).1,hw.1⟩
 |cons p ws ih=>
  have i:=ih fun x hx=>h x (.tail _ hx);have hp:=h p (.head _);refine ⟨fun c hc=>(SC.mp hc).elim (fun q=>Nat.le_of_succ_le (hp.c c q).1) fun q=>(Sj.mp q).elim (fun e=>by rw[e];decide) (i.1 c),?_⟩;have:=hp.l;have:=i.2;show (p++32::g7 ws w).length<=33*(ws.length+1)+40;rw[Sk,Sq];omega
theorem JW:Wd DM:=⟨by decide,by decide,by decide⟩
theorem GK:Wd ip:=⟨by decide,by decide,by decide⟩
theorem vF:Wd dX:=⟨by decide,by decide,by decide⟩
theorem I6:Wd rU:=⟨by decide,by decide,by decide⟩
theorem DJ:Wd sU:=⟨by decide,by decide,by decide⟩
theorem DL:Wd sW:=⟨by decide,by decide,by decide⟩
theorem At:Wd mz:=⟨by decide,by decide,by decide⟩
theorem DK:Wd DN:=⟨by decide,by decide,by decide⟩
theorem yv {t:Int} (h:1<=t/\t<=10^9):t.natAbs<10^31:=OK h
theorem Aq {x:Dd} (h:vB x):(∀ p∈(JO x).1,Wd p)/\dK (JO x).2/\(JO x).1.length<=7:=by
 cases x with
 |acc a=>exact ⟨aQ I6 aW,(pt h).nt,Sp rfl⟩
 |rate c n t b=>exact ⟨aQ DJ (aQ (du h.1) (aQ (fE (dT h.2.1)) (aQ (fE (yv h.2.2.1)) aW))),(fE (yv h.2.2.2)).nt,Sp rfl⟩
 |entry n note ls=>exact ⟨aQ GK (aQ (fE (dT h.1)) (aQ (fE (Ho h.2.2.1)) aW)),h.2.1,Sp rfl⟩
 |change n note g one a tk' aE=>exact ⟨aQ vF (aQ (fE (dT h.1)) (aQ (gM h.2.2.1) (aQ (du h.2.2.2.1) (aQ (fE (mt h.2.2.2.2.1)) (aQ (gM h.2.2.2.2.2.1) (aQ (du h.2.2.2.2.2.2) aW)))))),h.2.1,Sp rfl⟩
 |back k n=>exact ⟨aQ DL (aQ (fE (KE h.1)) aW),(fE (dT h.2)).nt,Sp rfl⟩
 |close n=>exact ⟨aQ At aW,(fE (dT h)).nt,Sp rfl⟩
theorem E4 {l:bG} (h:IX l):∀ p∈[DM,l.1,l.2.1],Wd p:=aQ JW (aQ (gM h.1) (aQ (du h.2.1) aW))
theorem zb {x:Dd} (h:vB x):(∀ l∈oh x,IX l)/\(oh x).length<=60:=by
 cases x with
 |entry n note ls=>exact ⟨h.2.2.2,h.2.2.1⟩
 |acc a=>exact ⟨aW,SN _⟩
 |rate c n t b=>exact ⟨aW,SN _⟩
 |change n note g one a tk' aE=>exact ⟨aW,SN _⟩
 |back k n=>exact ⟨aW,SN _⟩
 |close n=>exact ⟨aW,SN _⟩
structure L8 (r:Tx):Prop where
 n:10∉r
 l:r.length<=300
theorem yu (h:∀ p∈ws,Wd p) (hw:dK w) (hl:ws.length<=7):L8 (g7 ws w):=by
 have i:=pM h hw;exact ⟨fun z=>absurd (i.1 10 z) (by decide),by omega⟩
theorem kG:∀ {ds:List Dd},(∀ x∈ds,vB x)->(∀ r∈bw ds,L8 r)/\(bw ds).length<=61*ds.length:=by
 intro ds
 induction ds with
 |nil=>exact fun _=>⟨aW,Sv _⟩
 |cons x ds ih=>
  intro h;have i:=ih fun y hy=>h y (.tail _ hy);have w:=Aq (h x (.head _));have l:=zb (h x (.head _));refine ⟨fun r hr=>(SC.mp (show r∈eu x++bw ds from hr)).elim (aQ (yu w.1 w.2.1 w.2.2) (fun y hy=> ?_) r) (i.1 r),?_⟩
  .obtain ⟨l',hl,rfl⟩:=SA.mp hy;exact yu (E4 (l.1 l' hl)) (fE (mt (l.1 l' hl).2.2)).nt (Sp rfl)
  .show (eu x++bw ds).length<=_;have:=i.2;have:=l.2;rw[Sk,Sq];show ((oh x).map ji).length+1+_<=_;rw[Sg];omega
end
section
variable {s r note:Tx} {t:List Tx} {n:Int} {x:Dd} {l:bG}
theorem zk {c:Nat}:∀ l:Tx,dI [c] (bp c l)=l:=by
 intro l
 induction l with
 |nil=>rfl
 |cons x l ih=>
  have e:=gY c l;rw[gZ,Mc];by_cases q:x=c
  .rw[q,if_pos rfl,e];show c::dI [c] ((bp c l).headD []::(bp c l).tail)=_;rw[<-e,ih]
  .rw[if_neg q];generalize (bp c l).headD []=h at e;rw[e] at ih;cases z:(bp c l).tail with
   |nil=>
    rw[z] at ih;exact congrArg (x::·) ih
   |cons y t=>
    rw[z] at ih;exact congrArg (x::·) ih
theorem mC {c:Nat}:∀ l:Tx,(bp c l).length<=l.length+1:=by
 intro l
 induction l with
 |nil=>exact Sv _
 |cons x r ih=>
  have e2:=congrArg List.length (gY c r);rw[Sq] at e2;rw[gZ,Mc];split
  .rw[Sq,Sq];exact Tj ih
  .rw[Sq,Sq];exact OU ih e2
theorem Bn (hk:k=ws.length) (h:Ev K e ρ σ (.d (.lst ((ws++bp 32 note).map .str)))) (hl:ws.length<=100) (hn:note.length<=40):Ev K (bm iN (aH [32]) (aj (Az e (tL (ah (k:Nat))) EL) ao)) ρ σ (.d (.str note)):=by
 subst hk;have sl:=mC (c:=32) note;have e0:cz (.lst ((ws++bp 32 note).map .str)) (.int ws.length) .none=some (.lst ((bp 32 note).map .str)):=by
  have e:∀ (l:List D) (i:Int),cz (.lst l) (.int i) .none=(au (l.length<=dM) ()).bind fun _=>(au (bS i=true) i).bind fun i=>(some (l.length:Int)).map fun h=>D.lst (bJ l (dm i l.length) (dm h l.length)):=fun l i=>rfl;have c1:∀ k m:Nat,k<=m->dm (k:Int) m=k:=fun k m h=>by unfold dm;rw[if_neg (Gz),Int.toNat_natCast,Nat.min_eq_left h]
  rw[e,Sg,Sk,aS (bo (Ss (Nat.add_le_add (hl) (Ss sl (Nat.add_le_add_right (hn) _))) (Sp rfl))),Si,aS (cY (KG) (SV.mpr (Ss hl (Sp rfl)))),Si,Option.map_some,c1 _ _ (Tf _ _),c1 _ _ (Sv _),bJ,List.map_append,List.drop_left' (Sg _),Nat.add_sub_cancel_left,List.take_of_length_le (Ta (Sg _))]
 have q:=uZ (K:=K) (ρ:=ρ) (σ:=σ) (o:=aH [32]) (s:=[32]) (a:=Az e (tL (ah (ws.length:Nat))) EL) (ts:=bp 32 note) rfl (fF h (xQ rfl) rfl rfl rfl rfl e0) rfl (by decide) (fun t ht=>Ss (kE ht).2 (Ss (hn) (Sp rfl))) (Ss (Ss sl (Nat.add_le_add_right (hn) _)) (Sp rfl));rw[zk] at q;exact q
theorem E5 (h:IX l):CC (d+2) false 95 [.d (.str (ji l))] σ=some (.ok (.d (bF l)),σ):=by
 have hw:=fE (mt h.2.2);have w:=gW (d:=d) (σ:=σ) (Ss (pM (E4 h) hw.nt).2 (Sp rfl)) (vN (E4 h) hw) (Sp rfl);exact a8 rfl rfl rfl (aa (av (aY w rfl) rfl) (aM (aF (bv (cP (aY (fH (gM h.1)) rfl) (cP (aY (fH (du h.2.1)) rfl) (cl1 (aY (fU (mt h.2.2)) rfl)))))))) (tk _)
theorem Aj (h:ba.drop k=r::t):ba[k]? =some r/\ba.length=k+1+t.length/\ba.drop (k+1)=t:=by
 have l:=congrArg List.length h;rw[List.length_drop,Sq] at l;refine ⟨?_,OT l,by rw[<-List.drop_drop,h];rfl⟩;have:=congrArg (fun x:List Tx=>x[0]?) h;rw[List.getElem?_drop] at this;exact this
theorem zQ {ei:CE} (he:Ev K e ρ σ (.d (.lst (ba.map .str)))) (hi:Ev K ei ρ σ (.d (.int k))) (h:ba[k]? =some r) (hk:k<=100000):Ev K (sub e ei) ρ σ (.d (.str r)):=bc he hi rfl rfl (b7 (by rw[SB,h];rfl) hk)
theorem tZ {l:List D} (hk:k<=m) (hm:m<=l.length) (hl:l.length<=10000):cz (.lst l) (.int k) (.int m)=some (.lst ((l.drop k).take (m - k))):=by
 have e:∀ i j:Int,cz (.lst l) (.int i) (.int j)=(au (l.length<=dM) ()).bind fun _=>(au (bS i=true) i).bind fun i=>(au (bS j=true) j).map fun h=>D.lst (bJ l (dm i l.length) (dm h l.length)):=fun i j=>rfl;have c1:∀ k:Nat,k<=l.length->dm (k:Int) l.length=k:=fun k h=>by unfold dm;rw[if_neg (Gz),Int.toNat_natCast,Nat.min_eq_left h]
 rw[e,aS (Ss hl (by decide)),Si,aS (cY (KG) (SS (SV.mpr (Ss hk (Ss hm hl))) (by decide))),Si,aS (cY (KG) (SS (SV.mpr (Ss hm hl)) (by decide))),Option.map_some,c1 _ (Ss hk hm),c1 _ hm,bJ]
theorem Dq {note g one tk' aE:Tx} {a:Int} (h:vB (.change n note g one a tk' aE)):CC (d+2) false 94 [.d (.str (lq (.change n note g one a tk' aE)))] σ=some (.ok (.d (Dd.toD (.change n note g one a tk' aE))),σ):=by
 have w:=Aq h;have hs:=jV (w:=note) w.1;have ln:=mC (c:=32) note;have l0:0<(bp 32 note).length:=by rw[gY,Sq];exact Nat.succ_pos _
 have n40:note.length<=40:=w.2.1.1;refine a8 rfl rfl rfl (aa (av (dQ rfl (Ss (pM w.1 w.2.1).2 (Sp rfl)) hs) rfl) (aa (aX (ak (jw (ws:=[dX,aN n,g,one,aN a,tk',aE]++bp 32 note) rfl (by rw[Sk];show 7+_<=_;exact Ss (S0 (Ss ln (Nat.add_le_add_right (n40) _)) _) (Sp rfl))) rfl rfl rfl (j_ (by rw[Sk];show¬((7+_:Nat):Int)<_;exact Tn.mpr (SV.mpr (S0 l0 7))))) rfl) (aa (av (Bn (ws:=[dX,aN n,g,one,aN a,tk',aE]) (k:=7) rfl rfl (Sp rfl) n40) rfl) (aa (av (bv (cP (aB (cl1 (bc rfl rfl rfl rfl (b7 (k:=2) rfl))) (fH (gM h.2.2.1))) (cP (aB (cl1 (bc rfl rfl rfl rfl (b7 (k:=3) rfl))) (fH (du h.2.2.2.1))) (cl1 (aB (cl1 (bc rfl rfl rfl rfl (b7 (k:=4) rfl))) (fU (mt h.2.2.2.2.1))))))) rfl) (aM (aF (bv (cP rfl (cP (aB (cl1 (bc rfl rfl rfl rfl (b7 (k:=1) rfl))) (fU (dT h.1))) (cP rfl (cP rfl (cP (aB (cl1 (bc rfl rfl rfl rfl (b7 (k:=5) rfl))) (fH (gM h.2.2.2.2.2.1))) (cl1 (aB (cl1 (bc rfl rfl rfl rfl (b7 (k:=6) rfl))) (fH (du h.2.2.2.2.2.2)))))))))))))))) (tk _)
theorem Dg (h:vB (.entry n note ls)) (hr:ba.drop k=eu (.entry n note ls)++t) (hl:ba.length<=9000):CC (d+3) false 96 [.d (.lst (ba.map .str)),.d (.int k)] σ=some (.ok (.d (Dd.toD (.entry n note ls))),σ):=by
 obtain ⟨e0,el,e1⟩:=Aj (t:=ls.map ji++t) hr;rw[Sk,Sg] at el;have w:=Aq h;have hs:=jV (w:=note) w.1;have ln:=mC (c:=32) note;have l0:0<(bp 32 note).length:=by rw[gY,Sq];exact Nat.succ_pos _
 have n40:note.length<=40:=w.2.1.1;have l60:=h.2.2.1;have sl:Ev (KK (d+2) false) (Az (ag 0) (tL (aK a9 (ag 1) (ah 1))) (tL (aK a9 (aK a9 (ag 1) (ah 1)) (ag 4)))) [dV (.lst (ba.map .str)),iV k,dV (.lst (([ip,aN n,aN ls.length]++bp 32 note).map .str)),iV n,iV (ls.length:Nat),none,none] σ (.d (.lst (ls.map fun l=>.str (ji l)))):=by
  refine fF rfl (xQ (dU rfl rfl)) rfl rfl rfl rfl ?_;have e:=tZ (k:=k+1) (m:=k+1+ls.length) (l:=ba.map D.str) (OS) (by rw[Sg];exact M7 el) (by rw[Sg];exact Ss (hl) (Sp rfl));rw[<-List.map_drop,e1,Nat.add_sub_cancel_left,<-List.map_take,List.take_left' (Sg _),List.map_map,Int.natCast_add (k+1),Int.natCast_add k 1] at e;exact e
 refine a8 rfl rfl rfl (aa (av (dQ (zQ rfl rfl e0 (M6 hl el)) (Ss (pM w.1 w.2.1).2 (Sp rfl)) hs) rfl) (aa (aX (ak (jw (ws:=[ip,aN n,aN ls.length]++bp 32 note) rfl (by rw[Sk];show 3+_<=_;exact Ss (S0 (Ss ln (Nat.add_le_add_right (n40) _)) _) (Sp rfl))) rfl rfl rfl (j_ (by rw[Sk];show¬((3+_:Nat):Int)<_;exact Tn.mpr (SV.mpr (S0 l0 3))))) rfl) (aa (av (aB (cl1 (bc rfl rfl rfl rfl (b7 (k:=1) rfl))) (fU (dT h.1))) rfl) (aa (av (aB (cl1 (bc rfl rfl rfl rfl (b7 (k:=2) rfl))) (fU (n:=(ls.length:Int)) (Ho l60))) rfl) (aa (aX (bN (bz (ak rfl rfl rfl rfl (j_ (Gz))) (bz (ak rfl (aO (aO (jw (ws:=ba) rfl (Ss (hl) (Sp rfl))) rfl rfl rfl rfl) rfl rfl rfl rfl) rfl rfl (ol (by omega))) rfl))) rfl) (aa (li (ie sl (dO (if_pos (by rw[Sg];exact bo (Jr l60)))) (eM (fun l=>.str (ji l)) bF ls [] (fun l hl=>aY (E5 (h.2.2.2 l hl)) rfl) (by rw[Tb];exact MO l60)) rfl) rfl) (aM (aF (bv (cP rfl (cP rfl (cP (Bn (ws:=[ip,aN n,aN ls.length]) (k:=3) rfl rfl (Sp rfl) n40) (cl1 rfl))))))))))))) (tk _)
end
noncomputable def mB (ba:List Tx):Tx:=(ba.map (· ++[10])).flatten
noncomputable def rowH (h:Tx):Tx:=g7 [DN] h
section
variable {s r note:Tx} {t:List Tx} {n:Int} {x:Dd}
noncomputable abbrev qR (ba:List Tx) (k:Nat) (x2 x3:Option PV):bg:=[dV (.lst (ba.map .str)),iV k,x2,x3]
theorem Ip (h:vB x) (hr:ba.drop k=eu x++t) (hl:ba.length<=9000):CC (d+4) false 97 [.d (.lst (ba.map .str)),.d (.int k)] σ=some (.ok (.d x.toD),σ):=by
 have e:=Aj (t:=(oh x).map ji++t) hr;have er:∀ x2 x3,Ev (KK (d+3) false) (sub (ag 0) (ag 1)) (qR ba k x2 x3) σ (.d (.str (lq x))):=fun _ _=>zQ rfl rfl e.1 (by have:=e.2.1;omega);have w:=Aq h;have hs:bp 32 (lq x)=_:=jV w.1;have rl:(lq x).length<=1000:=by have:=(pM w.1 w.2.1).2;have:=w.2.2;show (g7 _ _).length<=_;omega
 have rl':(lq x).length<=1048576:=by exact Ss (rl) (Sp rfl)
 have xR:∀ {v:D},q8.ex (KK (d+3) false) (qR ba k none none) σ=some (.ret (.d v),σ)->CC (d+4) false 97 [.d (.lst (ba.map .str)),.d (.int k)] σ=some (.ok (.d v),σ):=fun e=>a8 rfl rfl rfl e (tk _);cases x with
 |entry n note ls=>exact xR (aa (av (bc (dQ (er _ _) rl' hs) rfl rfl rfl (b7 (k:=0) rfl)) rfl) (aM (bP rfl (aM (aF (aY (Dg h hr hl) rfl))))))
 |change n note g one a tk' aE=>exact xR (aa (av (bc (dQ (er _ _) rl' hs) rfl rfl rfl (b7 (k:=0) rfl)) rfl) (aa (aX rfl rfl) (aM (bP rfl (aM (aF (aB (cl1 (er _ _)) (Dq h))))))))
 |acc a=>
  have hs:=hs.trans (congrArg _ (d8 (pt h).sp));exact xR (aa (av (bc (dQ (er _ _) rl' hs) rfl rfl rfl (b7 (k:=0) rfl)) rfl) (aa (aX rfl rfl) (aa (aX rfl rfl) (aM (bP rfl (aM (aF (bv (cP rfl (cl1 (aB (cl1 (bc (aB (cP (er _ _) rfl) (gW rl hs (Sp rfl))) rfl rfl rfl (b7 (k:=1) rfl))) (fH (pt h)))))))))))))
 |rate c n t b=>
  have hs:=hs.trans (congrArg _ (d8 (fE (yv h.2.2.2)).sp));exact xR (aa (av (bc (dQ (er _ _) rl' hs) rfl rfl rfl (b7 (k:=0) rfl)) rfl) (aa (aX rfl rfl) (aa (aX rfl rfl) (aa (aX rfl rfl) (aM (bP rfl (aa (av (aB (cP (er _ _) rfl) (gW rl hs (Sp rfl))) rfl) (aM (aF (bv (cP rfl (cP (aY (fH (du h.1)) rfl) (cP (aY (fU (dT h.2.1)) rfl) (cP (aY (fU (yv h.2.2.1)) rfl) (cl1 (aY (fU (yv h.2.2.2)) rfl))))))))))))))))
 |back k n=>
  have hs:=hs.trans (congrArg _ (d8 (fE (dT h.2)).sp));exact xR (aa (av (bc (dQ (er _ _) rl' hs) rfl rfl rfl (b7 (k:=0) rfl)) rfl) (aa (aX rfl rfl) (aa (aX rfl rfl) (aa (aX rfl rfl) (aa (aX rfl rfl) (aM (bP rfl (aa (av (aB (cP (er _ _) rfl) (gW rl hs (Sp rfl))) rfl) (aM (aF (bv (cP rfl (cP (aY (fU (KE h.1)) rfl) (cl1 (aY (fU (dT h.2)) rfl)))))))))))))))
 |close n=>
  have hs:=hs.trans (congrArg _ (d8 (fE (dT h)).sp));exact xR (aa (av (bc (dQ (er _ _) rl' hs) rfl rfl rfl (b7 (k:=0) rfl)) rfl) (aa (aX rfl rfl) (aa (aX rfl rfl) (aa (aX rfl rfl) (aa (aX rfl rfl) (aa (aX rfl rfl) (aa (av (aB (cP (er _ _) rfl) (gW rl hs (Sp rfl))) rfl) (aM (aF (bv (cP rfl (cl1 (aY (fU (dT h)) rfl)))))))))))))
theorem Mn {n:Nat} {t:CT} {b:CS} (h:Ts K t ρ σ false):fO t b K (n+1) ρ σ=some (.next ρ,σ):=cN h rfl
theorem Mm {n:Nat} {t:CT} {b:CS} {z:Option (Out×az)} (h:Ts K t ρ σ true) (h1:b.ex K ρ σ=some (.next ρ',σ')) (k:fO t b K n ρ' σ'=z):fO t b K (n+1) ρ σ=z:=by
 refine cN h ?_;show nv (b.ex K ρ σ) _=z;rw[h1];exact k
noncomputable abbrev qW (ba:List Tx) (n k:Nat) (x3:Option PV):bg:=[dV (.lst (ba.map .str)),qV n,iV k,x3]
noncomputable abbrev dS (σ:az) (l:List Dd):az:=σ++[.fld (.list (l.map Dd.toD))]
theorem zW (hl:ba.length<=9000):∀ (ds:List Dd) (k N:Nat) (acc:List Dd) (x3:Option PV),(∀ x∈ds,vB x)->ba.drop k=bw ds->ds.length<N->acc.length+ds.length<=1000->∃ k' y3,fO (aJ rR (ag 2) (bi bf (aj (ag 0) ao))) jG (KK (d+4) false) N (qW ba σ.length k x3) (dS σ acc)=some (.next (qW ba σ.length k' y3),dS σ (acc++ds)):=by
 intro ds
 induction ds with
 |nil=>
  intro k N acc x3 _ h hN _;obtain ⟨N,rfl⟩:=Nat.exists_eq_succ_of_ne_zero (Nat.ne_of_gt hN);have hk:=List.drop_eq_nil_iff.mp h;rw[List.append_nil];exact ⟨k,x3,Mn (ak rfl (jw (ws:=ba) rfl (Ss (hl) (Sp rfl))) rfl rfl (j_ (Tn.mpr (SV.mpr hk))))⟩
 |cons x ds ih=>
  intro k N acc x3 ok h hN ha;rw[Sq] at hN ha;obtain ⟨N,rfl⟩:=Nat.exists_eq_succ_of_ne_zero (Nat.ne_of_gt (Nat.zero_lt_of_lt hN));have hx:=ok x (.head _);have h:ba.drop k=eu x++bw ds:=h;have e:=Aj (t:=(oh x).map ji++bw ds) h;have el:=e.2.1;have ap:=cb (K:=KK (d+4) false) (ρ:=qW ba σ.length k (dV x.toD)) (o:=ag 1) (a:=ag 3) (y:=x.toD) (σ:=dS σ acc) (n:=σ.length) (j:=0) (l:=acc.map Dd.toD) rfl rfl cV (by rw[Sg];exact db (Nat.le_of_add_right_le ha));rw[dZ,show acc.map Dd.toD++[x.toD]=(acc++[x]).map Dd.toD by rw[List.map_append];rfl] at ap;have s4:(ce (aJ dp (sub (ag 3) (ah 0)) (aH Tz)) (sC (aG 2 (aK a9 (ag 2) (bi bf (aj (sub (ag 3) (ah 3)) ao)))) sN) sN).ex (KK (d+4) false) (qW ba σ.length (k+1) (dV x.toD)) (dS σ (acc++[x]))=some (.next (qW ba σ.length (k+1+(oh x).length) (dV x.toD)),dS σ (acc++[x])):=by
   cases x with
   |entry n' note ls=>
    refine bP rfl (aa (av (dU rfl (ca rfl (ku (l:=ls.map bF) rfl ?_))) ?_) rfl)
    .rw[Sg];exact bo (Ss hx.2.2.1 (by decide))
    .show [some (PV.d (.lst (ba.map .str))),some (PV.p σ.length 0),some (PV.d (.int ((k+1:Nat)+((ls.map bF).length:Int)))),_]=_;rw[Sg];rfl
   |acc a=>rfl
   |rate c n' t' b=>rfl
   |change n' note g one a tk aE=>rfl
   |back k' n'=>rfl
   |close n'=>rfl
  obtain ⟨k',y3,i⟩:=ih (k+1+(oh x).length) N (acc++[x]) (dV x.toD) (fun y hy=>ok y (.tail _ hy)) (by rw[<-List.drop_drop,e.2.2,List.drop_left' (Sg _)]) (Nat.lt_of_succ_lt_succ hN) (by rw[Sk,Su];exact Rr ha);rw[List.append_assoc] at i;exact ⟨k',y3,Mm (ak rfl (jw (ws:=ba) rfl (by omega)) rfl rfl (CQ (by omega))) (aa (av (aY (Ip hx h hl) rfl) rfl) (aa (aA ap) (aa rfl (aa s4 rfl)))) i⟩
theorem pF:∀ {ba:List Tx},(∀ r∈ba,L8 r)->bp 10 (mB ba)=ba++[[]]/\(mB ba).length<=301*ba.length:=by
 intro ba
 induction ba with
 |nil=>exact fun _=>⟨rfl,Sv _⟩
 |cons r ba ih=>
  intro h;have i:=ih fun x hx=>h x (.tail _ hx);have hr:=h r (.head _);have:=hr.l;have:=i.2;rw[show mB (r::ba)=r++10::mB ba from List.append_assoc r [10] _,kF hr.n,i.1,Sk,Sq,Sq];exact ⟨rfl,by omega⟩
theorem oP {h:Tx} (hc:bh h=true):L8 (rowH h):=yu (aQ DK aW) (du hc).nt (Sp rfl)
theorem Ce {x0 x1:Option PV}:∀ {ds:List Dd} {S:St} {x5:Option PV},Rp S ds S'->∃ y5,dq (.d v) v 5 (fun ρ=>qH.ex (KK (d+5) false) ρ) (ds.map Dd.toD) [x0,x1,x2,x3,qV σ.length,x5] (σ++[bk S])=some (.next [x0,x1,x2,x3,qV σ.length,y5],σ++[bk S']):=by
 intro ds
 induction ds with
 |nil=>
  intro S x5 h;cases h;exact ⟨x5,rfl⟩
 |cons x ds ih=>
  intro S x5 h;obtain ⟨S1,h1,h2⟩:=h;have e:=h1 (d+1) (σ++[bk S]) σ.length dG;rw[lh] at e;obtain ⟨y5,k⟩:=ih (x5:=dV x.toD) h2;exact ⟨y5,br (aa (aA (aY e rfl)) rfl) rfl k⟩
theorem Ha {h:Tx} {ds:List Dd} (hc:bh h=true) (ok:∀ x∈ds,vB x) (hl:ds.length<=54) (rp:Rp (st0 h) ds S):CC (d+6) false 99 [.d (.str (mB (rowH h::bw ds)))] σ=some (.ok (.p σ.length 0),σ++[bk S]):=by
 have ra:=kG ok;have st:=pF (aQ (oP hc) ra.1);rw[Sq] at st;have rl:=ra.2;obtain ⟨k',y3,dl⟩:=zW (d:=d) (σ:=σ) (ba:=bw ds) (by omega) ds 0 100000 [] none ok rfl (SJ (hl) (SK (Nat.lt_succ_self _) (Sp rfl))) (by rw[Tb];exact Ss (S0 (hl) _) (Sp rfl));have dr:CC (d+5) false 98 [.d (.lst ((bw ds).map .str))] σ=some (.ok (.d (.lst (ds.map Dd.toD))),σ):=tG (m:=σ.length) (f':=.list (ds.map Dd.toD)) rfl rfl rfl (aa rfl (aa rfl (aa dl rfl))) (Sv _) dG (Gx σ _);generalize bw ds=R at st rl dr;generalize mB (rowH h::R)=tx at st;have hw:∀ p∈[DN],Wd p:=aQ DK aW;have ln:∀ x2,Ev (KK (d+5) false) (aK c_ (bi bf (aj (ag 1) ao)) (ah 1)) [sV tx,dV (.lst ((rowH h::R++[[]]).map .str)),x2,none,none,none] σ (.d (.int (1+R.length:Nat))):=fun x2=>by
  have q:=aO (K:=KK (d+5) false) (o:=c_) (a:=bi bf (aj (ag 1) ao)) (b:=ah 1) (ρ:=[sV tx,dV (.lst ((rowH h::R++[[]]).map .str)),x2,none,none,none]) (σ:=σ) (jw (ws:=rowH h::R++[[]]) rfl (by rw[Sk,Sq,Su];exact EK hl rl)) rfl rfl rfl rfl;rw[show D.int (((rowH h::R++[[]]:List Tx).length:Int) - 1)= .int ((1+R.length:Nat):Int) from congrArg D.int (by rw[Sk,Sq,Su];exact OQ)] at q;exact q
 have sl:cz (.lst ((rowH h::R++[[]]).map .str)) (.int 1) (.int (1+R.length:Nat))=some (.lst (R.map .str)):=by
  refine (tZ (k:=1) (m:=1+R.length) (OO) (by rw[Sg,Sk,Sq];exact ON) (by rw[Sg,Sk,Sq,Su];exact EK hl rl)).trans ?_;rw[Nat.add_sub_cancel_left,List.cons_append,List.map_cons,List.drop_succ_cons,List.drop_zero,List.map_append,List.take_left' (Sg _)]
 obtain ⟨y5,lp⟩:=Ce (d:=d) (σ:=σ) (v:=.lst (ds.map Dd.toD)) (x0:=sV tx) (x1:=dV (.lst ((rowH h::R++[[]]).map .str))) (x2:=sV h) (x3:=dV (.lst (ds.map Dd.toD))) (x5:=none) rp;refine JH (o:=bk S) (ds:=[]) rfl rfl rfl (aa (av (dQ rfl (by omega) st.1) rfl) (aa (aX (bN (bz (ak (zQ (ba:=rowH h::R++[[]]) (r:=[]) rfl (ln none) (by rw[Nat.add_comm];exact List.getElem?_concat_length ..) (Ss (S0 (Ss rl (To _ (hl))) _) (Sp rfl))) rfl rfl rfl (kq rfl)) (bz (ak (jw (ws:=rowH h::R++[[]]) rfl (by rw[Sk,Sq,Su];exact EK hl rl)) rfl rfl rfl (j_ (by rw[Sk,Sq,Su];exact OR))) rfl))) rfl) (aa (av (aB (cl1 (bc (aB (cP (bc rfl rfl rfl rfl (b7 (k:=0) rfl)) rfl) (gW (Ss (oP hc).l (by decide)) (vN hw (du hc)) (Sp rfl))) rfl rfl rfl (b7 (k:=1) rfl))) (fH (du hc))) rfl) (aa (av (aB (cl1 (fF rfl rfl (xQ (ln _)) rfl rfl rfl sl)) dr) rfl) (aa (av (AT (d:=d+3) rfl hc) rfl) (aa (bl rfl (dO (if_pos (by rw[Sg];exact bo (Ss (hl) (Sp rfl))))) lp) rfl)))))) (fun f h=>nomatch (show PO.rcd true (mX _)= .fld f from h)) rfl
end
section
variable {s r x y:Tx} {t rs:List Tx} {b:CE} {l:bG}
theorem wU:∀ ts:List Tx,dI [] ts=ts.flatten
 |[]=>rfl
 |[t]=>(List.append_nil t).symm
 |t::u::r=>by
  show t++[]++dI [] (u::r)=t++(u::r).flatten;rw[List.append_nil,wU (u::r)]
theorem dN:dI [32] (ws++[w])=g7 ws w:=by
 induction ws with
 |nil=>rfl
 |cons p ws ih=>
  cases ws with
  |nil=>exact List.append_assoc p [32] w
  |cons q ws=>
   show p++[32]++dI [32] (q::ws++[w])=p++32::g7 (q::ws) w;rw[ih,List.append_assoc];rfl
theorem Nk {x:PV} {ts:List Tx} (h1:Ev K e ρ σ (.d (.str s))) (h2:Ev K a ρ σ x) (r:rd σ x=some (.lst (ts.map .str))) (hs:s.length<=15) (hl:(ts.map List.length).sum+ts.length<=1048576):Ev K (bm iN e (aj a ao)) ρ σ (.d (.str (dI s ts))):=by
 refine aC h1 (aC (cl1 h2) ?_);show ((rd σ x).bind fun v=>_)=_;rw[r,Si];show (((pB (ts.map .str)).bind fun ts=>au ((ts.map List.length).sum+ts.length<=1048576/\s.length<=15) (D.str (dI s ts))).map _)=_;rw[vM,Si,aS ⟨hl,hs⟩];rfl
theorem I7 (he:Ev K e ρ σ (.d (.lst (ba.map .str)))) (hi:∀ v,(ag i).ev K (ρ.set i (some v)) σ=some (.ok v,σ)) (hr:∀ r∈ba,L8 r) (hl:ba.length<=3470) (hK:K.hd=false):Ev K (bm iN (aH []) (aj (n8 false (gt i e fG (aK a9 (ag i) (aH [10])))) ao)) ρ σ (.d (.str (mB ba))):=by
 have cm:=eM (K:=K) (ρ:=ρ) (σ:=σ) (i:=i) (cq:=aK a9 (ag i) (aH [10])) (y:=.lst (ba.map .str)) D.str (fun r=>.str (r++[10])) ba [] (fun r hr'=>aO (hi _) rfl rfl rfl (iU (Ss (by have:=(hr r hr').l;show _+1<=301;exact Tj this) (by decide)))) (by rw[Tb];exact Ss (S0 (hl) _) (Sp rfl));have tl:((ba.map (· ++[10])).map List.length).sum<=301*ba.length:=by rw[<-List.length_flatten];exact (pF hr).2
 have q:=Nk (K:=K) (ρ:=ρ) (σ:=σ) (e:=aH []) (s:=[]) (ts:=ba.map (· ++[10])) rfl (lU (eJ he (dO (if_pos (by rw[Sg];exact Ss hl (by decide)))) cm hK)) (by rw[List.map_map];rfl) (by decide) (Ss (Nat.add_le_add tl (Ta (Sg _))) (Ss (Nat.add_le_add (To _ (hl)) (hl)) (Sp rfl)));rw[wU] at q;exact q
theorem v5 {ps:List (D×Tx)} (he:Ev K e ρ σ (.d (.tup (ps.map (·.1))))) (hi:∀ v,(ag i).ev K (ρ.set i (some v)) σ=some (.ok v,σ)) (h:∀ q∈ps,zO q.1=some q.2/\q.2.length<=600) (hl:ps.length<=100) (hK:K.hd=false):Ev K (bm iN (aH [32]) (aj (n8 false (gt i e fG (bi sK (aj (ag i) ao)))) ao)) ρ σ (.d (.str (dI [32] (ps.map (·.2))))):=by
 have cm:=eM (K:=K) (ρ:=ρ) (σ:=σ) (i:=i) (cq:=bi sK (aj (ag i) ao)) (y:=.tup (ps.map (·.1))) (fun q=>q.1) (fun q=>.str q.2) ps [] (fun q hq=>sX (hi _) (h q hq).1) (by rw[Tb];exact Ss (S0 (hl) _) (Sp rfl));exact uZ (o:=aH [32]) (s:=[32]) (ts:=ps.map (·.2)) rfl (lU (eJ he (dO rfl) cm hK)) (by rw[List.map_map];rfl) (by decide) (fun t ht=>by
  obtain ⟨q,hq,rfl⟩:=SA.mp ht;exact (h q hq).2) (by rw[Sg];exact MN hl)
noncomputable def Jj:Dd->List (D×Tx)
 | .acc a=>[(.str rU,rU),(.str a,a)]
 | .rate c n t b=>[(.str sU,sU),(.str c,c),(.int n,aN n),(.int t,aN t),(.int b,aN b)]
 | .entry _ _ _=>[]
 | .change n note g one a tk aE=>[(.str dX,dX),(.int n,aN n),(.str g,g),(.str one,one),(.int a,aN a),(.str tk,tk),(.str aE,aE),(.str note,note)]
 | .back k n=>[(.str sW,sW),(.int k,aN k),(.int n,aN n)]
 | .close n=>[(.str mz,mz),(.int n,aN n)]
theorem JE {s:Tx} (h:s.length<=40):zO (.str s)=some s/\s.length<=600:=⟨rfl,Ss h (by decide)⟩
theorem nM {i:Int} (h:i.natAbs<10^31):zO (.int i)=some (aN i)/\(aN i).length<=600:=⟨(iY h).1,Ss (iY h).2 (by decide)⟩
theorem Wd.fm (h:Wd w):zO (.str w)=some w/\w.length<=600:=JE h.nt.1
theorem pS {x:Dd} (h:vB x):∀ q∈Jj x,zO q.1=some q.2/\q.2.length<=600:=by
 cases x with
 |entry n note ls=>exact aW
 |acc a=>exact aQ I6.fm (aQ (pt h).fm aW)
 |rate c n u b=>exact aQ DJ.fm (aQ (du h.1).fm (aQ (nM (dT h.2.1)) (aQ (nM (yv h.2.2.1)) (aQ (nM (yv h.2.2.2)) aW))))
 |change n note g one a tk' aE=>exact aQ vF.fm (aQ (nM (dT h.1)) (aQ (gM h.2.2.1).fm (aQ (du h.2.2.2.1).fm (aQ (nM (mt h.2.2.2.2.1)) (aQ (gM h.2.2.2.2.2.1).fm (aQ (du h.2.2.2.2.2.2).fm (aQ (JE h.2.1.1) aW)))))))
 |back k n=>exact aQ DL.fm (aQ (nM (KE h.1)) (aQ (nM (dT h.2)) aW))
 |close n=>exact aQ At.fm (aQ (nM (dT h)) aW)
def Q8 (K:cG) (e:CE) (ρ:bg) (σ:az) (x:Tx) (N:Nat):Prop:=Ev K e ρ σ (.d (.str x))/\x.length<=N
theorem BA (h1:Ev K a ρ σ (.d (.str x))) (h2:Ev K b ρ σ (.d (.str y))) (hx:x.length<=10) (hy:y.length<=40):Q8 K (aK a9 a b) ρ σ (x++y) 50:=by
 have hl:x.length+y.length<=50:=by exact Nat.add_le_add (hx) (hy)
 exact ⟨aO h1 h2 rfl rfl (iU (Ss hl (by decide))),by rw[Sk];exact hl⟩
theorem ID (h1:Q8 K a ρ σ x N) (h2:Ev K b ρ σ (.d (.str y))) (hN:N<=900) (hy:y.length<=40):Q8 K (aK a9 (aK a9 a (aH [32])) b) ρ σ (x++32::y) (N+41):=by
 have hl:=h1.2;refine ⟨?_,by rw[Sk,Sq];exact Nat.add_le_add hl (Tj hy)⟩;rw[show x++32::y=(x++[32])++y by rw[List.append_assoc];rfl];exact aO (aO h1.1 rfl rfl rfl (iU (Ss (by show _+1<=901;exact Nat.add_le_add_right (Ss hl (hN)) _) (by decide)))) h2 rfl rfl (iU (Ss (m:=1000) (by rw[Sk];show _+1+_<=_;exact Ss (Nat.add_le_add (Nat.add_le_add_right (Ss hl (hN)) _) (hy)) (Sp rfl)) (by decide)))
theorem Bg {l:FS} {z:Option (R Tx×az)} (h1:Ev K b ρ σ (.d u)) (h2:zO u=some y) (hN:x.length<=900) (hy:y.length<=40) (h:l.ev K ρ (x++32::y) σ=z):(w_ [32] (w9 b l)).ev K ρ x σ=z:=by
 rw[show x++32::y=(x++[32])++y by rw[List.append_assoc];rfl] at h;exact LH (by show _+1<=_;exact Ss (Nat.add_le_add_right (hN) _) (Sp rfl)) (LG h1 h2 (by rw[Sk];show _+1+_<=_;exact Ss (Nat.add_le_add (Nat.add_le_add_right (hN) _) (hy)) (Sp rfl)) h)
noncomputable abbrev qK (m n:Nat) (x2 x3 x4:Option PV):bg:=[qV m,qV n,x2,x3,x4,none]
noncomputable abbrev rS (σ:az) (rs:List Tx):az:=σ++[.fld (.list (rs.map .str))]
theorem lj (h0:Ev K e ρ (rS σ rs) (.p σ.length 0)) (h:Ev K a ρ (rS σ rs) (.d (.str r))) (hl:rs.length<=5000):(aP (bm aT e (aj a ao))).ex K ρ (rS σ rs)=some (.next ρ,rS σ (rs++[r])):=by
 have q:=cb (K:=K) (l:=rs.map D.str) h0 h cV (by rw[Sg];exact SJ hl (by decide));rw[dZ,show rs.map D.str++[.str r]=(rs++[r]).map .str by rw[List.map_append];rfl] at q;exact aA q
theorem lO {v:PV} {y:D} {c:CS} {f:α->D} {g:α->List Tx} {mk:γ->bg} {P:α->Prop} {B M:Nat} (hs:∀ rs,bI (rS σ rs) y v=true) (st:∀ a rs o,P a->rs.length<=M->(∃ o',c.ex K ((mk o).set i (dV (f a))) (rS σ rs)=some (.next (mk o'),rS σ (rs++g a)))/\(g a).length<=B):∀ (l:List α) (rs:List Tx) (o:γ),(∀ a∈l,P a)->rs.length+B*l.length<=M->∃ o',dq v y i (fun ρ=>c.ex K ρ) (l.map f) (mk o) (rS σ rs)=some (.next (mk o'),rS σ (rs++(l.map g).flatten)):=by
 intro l
 induction l with
 |nil=>exact fun rs o _ _=>⟨o,by show _=some (Out.next (mk o),rS σ (rs++[]));rw[List.append_nil];rfl⟩
 |cons a l ih=>
  intro rs o h hl;rw[Sq,Nat.mul_succ] at hl;obtain ⟨⟨o1,e1⟩,l1⟩:=st a rs o (h a (.head _)) (Ss (Tf _ _) hl);obtain ⟨o',k⟩:=ih (rs++g a) o1 (fun x hx=>h x (.tail _ hx)) (by rw[Sk];exact Ss (Ta (Nat.add_assoc ..)) (Ss (S0 (Ss (Ta (Nat.add_comm ..)) (S0 l1 _)) _) hl));rw[List.append_assoc] at k;exact ⟨o',br e1 (hs _) k⟩
theorem AW (h:IX l):zO (.int l.2.2)=some (aN l.2.2)/\(aN l.2.2).length<=40:=⟨(iY (mt h.2.2)).1,Ss (iY (mt h.2.2)).2 (by decide)⟩
theorem AE:((TF++l.1)++32::l.2.1)++32::aN l.2.2=ji l:=congrArg (TF++·) (List.append_assoc l.1 (32::l.2.1) _)
theorem uj {f:α->Tx}:∀ l:List α,(l.map fun a=>[f a]).flatten=l.map f:=by
 intro l
 induction l with
 |nil=>
  exact rfl
 |cons a l ih=>
  exact congrArg (f a::·) (ih)
end
section
variable {s r y:Tx} {t rs:List Tx} {b:CE} {l:bG} {x:Dd} {ds:List Dd}
theorem ze (ls:List bG) (rs:List Tx) (x4:Option PV) (h:∀ l∈ls,IX l) (hl:rs.length+1*ls.length<=4500):∃ y4,dq (.d v) v 4 (fun ρ=>qg.ex (KK d false) ρ) (ls.map bF) (qK m σ.length x2 x3 x4) (rS σ rs)=some (.next (qK m σ.length x2 x3 y4),rS σ (rs++ls.map ji)):=by
 rw[<-uj];refine lO (v:=.d v) (y:=v) (g:=fun l=>[ji l]) (mk:=fun o=>qK m σ.length x2 x3 o) (P:=IX) (fun _=>rfl) (fun l rs o h hl=>⟨⟨dV (bF l),?_⟩,Sv _⟩) ls rs x4 h hl;have c5:=ID (ID (BA (K:=KK d false) (ρ:=qK m σ.length x2 x3 (dV (bF l))) (σ:=rS σ rs) (a:=aH TF) (x:=TF) (b:=sub (ag 4) (ah 0)) rfl rfl (by decide) (gM h.1).nt.1) (b:=sub (ag 4) (ah 1)) rfl (by decide) (du h.2.1).nt.1) (sX (e:=sub (ag 4) (ah 2)) rfl (AW h).1) (by decide) (AW h).2;rw[AE] at c5;exact aa (lj rfl c5.1 (Ss (hl) (Sp rfl))) rfl
theorem AF {n:Int} {note:Tx}:((TH++aN n)++32::aN k)++32::note=g7 [ip,aN n,aN k] note:=congrArg (TH++·) (List.append_assoc (aN n) (32::aN k) _)
theorem Io {n:Int} (h:n.natAbs<10^31):(aN n).length<=40:=Ss (iY h).2 (by decide)
theorem FU {x4:Option PV} (h:vB x) (hl:rs.length<=4000):∃ y4,iy.ex (KK d false) (qK m σ.length x2 (dV (v4 x)) x4) (rS σ rs)=some (.next (qK m σ.length x2 (dV (v4 x)) y4),rS σ (rs++eu x)):=by
 have pe:∀ (w:Tx) (l:List D),v4 x= .tup (.str w::l)->w≠ip->v4 x= .tup ((Jj x).map (·.1))->dI [32] ((Jj x).map (·.2))=lq x->oh x=[]->(Jj x).length<=100->iy.ex (KK d false) (qK m σ.length x2 (dV (v4 x)) x4) (rS σ rs)=some (.next (qK m σ.length x2 (dV (v4 x)) x4),rS σ (rs++eu x)):=fun w l e0 ne e1 e2 e3 e4=>by
  have q:=v5 (K:=KK d false) (ρ:=qK m σ.length x2 (dV (v4 x)) x4) (σ:=rS σ rs) (i:=5) (e:=ag 3) (congrArg (fun u=>some (R.ok (PV.d u),rS σ rs)) e1) (fun _=>rfl) (pS h) e4 rfl;rw[e2] at q;have e0':Ev (KK d false) (sub (ag 3) (ah 0)) (qK m σ.length x2 (dV (v4 x)) x4) (rS σ rs) (.d (.str w)):=by rw[e0];exact cC 0 rfl rfl
  rw[eu,e3];exact aa (aX (ak e0' rfl rfl rfl (eV ne)) (aa (lj rfl q (Ss (hl) (Sp rfl))) rfl)) rfl
 cases x with
 |acc a=>exact ⟨x4,pe _ _ rfl (by decide) rfl (dN (ws:=[rU])) rfl (Sp rfl)⟩
 |rate c n u b=>exact ⟨x4,pe _ _ rfl (by decide) rfl (dN (ws:=[sU,c,aN n,aN u])) rfl (Sp rfl)⟩
 |change n note g one a tk' aE=>exact ⟨x4,pe _ _ rfl (by decide) rfl (dN (ws:=[dX,aN n,g,one,aN a,tk',aE])) rfl (Sp rfl)⟩
 |back k n=>exact ⟨x4,pe _ _ rfl (by decide) rfl (dN (ws:=[sW,aN k])) rfl (Sp rfl)⟩
 |close n=>exact ⟨x4,pe _ _ rfl (by decide) rfl (dN (ws:=[mz])) rfl (Sp rfl)⟩
 |entry n note ls=>
  have l60:=h.2.2.1;have ln:Ev (KK d false) (bi bf (aj (sub (ag 3) (ah 3)) ao)) (qK m σ.length x2 (dV (v4 (.entry n note ls))) x4) (rS σ rs) (.d (.int ls.length)):=by
   have q:=Jx (hd:=false) (σ:=rS σ rs) (x:=.d (.tup (ls.map bF))) rfl (by rw[Sg];exact bo (Jr l60));rw[Sg] at q;exact ca rfl q
  have i2:((ls.length:Nat):Int).natAbs<10^31:=Ho l60;have c5:=ID (ID (BA (K:=KK d false) (ρ:=qK m σ.length x2 (dV (v4 (.entry n note ls))) x4) (σ:=rS σ rs) (a:=aH TH) (x:=TH) rfl (sX (e:=sub (ag 3) (ah 1)) rfl (iY (dT h.1)).1) (by decide) (Io (dT h.1))) (sX ln (iY i2).1) (by decide) (Io i2)) (b:=sub (ag 3) (ah 2)) rfl (by decide) h.2.1.1;rw[AF] at c5;obtain ⟨y4,k⟩:=ze (d:=d) (m:=m) (σ:=σ) (v:=.tup (ls.map bF)) (x2:=x2) (x3:=dV (v4 (.entry n note ls))) ls (rs++[lq (.entry n note ls)]) x4 h.2.2.2 (by rw[Sk,Su];exact Ss (Nat.add_le_add (Nat.add_le_add_right (hl) _) (To _ (l60))) (Sp rfl));rw[List.append_assoc] at k;exact ⟨y4,aa (bP rfl (aa (lj rfl c5.1 (Ss (hl) (Sp rfl))) (aa (bl rfl rfl k) rfl))) rfl⟩
theorem nx {a b:List Dd}:bw (a++b)=bw a++bw b:=by
 unfold bw;rw[List.map_append,List.flatten_append]
theorem CR {h:Tx} {T more:List Tx} (R:Rk σ m p) (hh:p.curs[0]? =some h) (hc:bh h=true) (h1:p.first=T.length+1) (h2:p.names=cn::(T++more)) (h3:∀ x∈T,gS x) (h4:p.deeds=ds.map v4) (h5:∀ x∈ds,vB x) (l1:p.names.length<=7) (l2:ds.length<=50):
  CC (d+1) false 107 [.p m 0] σ=some (.ok (.d (.lst ((rowH h::bw (T.map .acc++ds)).map .str))),σ):=by
 have R':∀ rs,Rk (rS σ rs) m p:=fun rs=>R.app;have hT:T.length<=6:=by rw[h2,Sq,Sk] at l1;exact ML l1
 have e0:Ev (KK d false) (sub (key (ag 0) 2 Tr) (ah 0)) [qV m,none,none,none,none,none] σ (.d (.str h)):=bc (gQ R rfl) rfl rfl rfl (b7 (k:=0) (by rw[SB,hh];rfl));have q:=BA (K:=KK d false) (a:=aH [104,111,109,101,32]) (x:=[104,111,109,101,32]) rfl e0 (by decide) (du hc).nt.1;have sl:cz (.lst (p.names.map .str)) (.int 1) (.int p.first)=some (.lst (T.map .str)):=by
  rw[h1,h2];refine (tZ (k:=1) (m:=T.length+1) (Qn) (by rw[Sg,Sq,Sk];exact OJ) (by rw[Sg,<-h2];exact Ss (l1) (Sp rfl))).trans ?_;rw[Nat.add_sub_cancel,List.map_cons,List.drop_succ_cons,List.drop_zero,List.map_append,List.take_left' (Sg _)]
 obtain ⟨y2,a1⟩:=lO (K:=KK d false) (σ:=σ) (i:=2) (v:=.d (.lst (T.map .str))) (y:=.lst (T.map .str)) (c:=qi) (f:=.str) (g:=fun a=>[lq (.acc a)]) (mk:=fun o=>qK m σ.length o none none) (P:=gS) (B:=1) (M:=4000) (fun _=>rfl) (fun a rs o h hl=>⟨⟨sV a,aa (lj rfl (BA (x:=TN) rfl rfl (by decide) (pt h).nt.1).1 (Ss (hl) (Sp rfl))) rfl⟩,Sv _⟩) T [rowH h] none h3 (by rw[Su];exact Ss (S0 (To _ (hT)) _) (Sp rfl));obtain ⟨o,a2⟩:=lO (K:=KK d false) (σ:=σ) (i:=3) (v:=.p m 9) (y:=.lst p.deeds) (c:=iy) (f:=v4) (g:=eu) (mk:=fun o:Option PV×Option PV=>qK m σ.length y2 o.1 o.2) (P:=vB) (B:=61) (M:=4000) (fun rs=>dY (AJ (R' rs))) (fun x rs o h hl=>⟨(FU h (hl)).imp' (fun y=>(dV (v4 x),y)) fun y e=>e,by have:=(zb h).2;show ((oh x).map ji).length+1<=_;rw[Sg];exact Tj this⟩) ds ([rowH h]++(T.map fun a=>[lq (.acc a)]).flatten) (none,none) h5 (by rw[uj,Sk,Sg,Su];exact Ss (Nat.add_le_add (S0 (hT) _) (To _ (l2))) (Sp rfl));have e:[rowH h]++(T.map fun a=>[lq (.acc a)]).flatten++(ds.map eu).flatten=rowH h::bw (T.map .acc++ds):=by
  rw[nx,bw,List.map_map];rfl
 rw[e,<-h4] at a2;have s1:qf.ex (KK d false) [qV m,none,none,none,none,none] σ=some (.next (qK m σ.length none none none),rS σ [rowH h]):=av (fk (cl1 q.1)) rfl;have f1:qe.ex (KK d false) (qK m σ.length none none none) (rS σ [rowH h])=_:=bl (fF (cK (R' _) rfl) rfl (xQ (HT (R' _) rfl)) (cB (R' _)) rfl rfl sl) (dO (if_pos (by rw[Sg];exact bo (Ss (hT) (Sp rfl))))) a1;have f2:qd.ex (KK d false) (qK m σ.length y2 none none) _=_:=bl (AZ (R' _) rfl) (sj (AJ (R' _)) (by rw[h4,Sg];exact Ss l2 (Sp rfl))) a2;generalize rowH h::bw (T.map .acc++ds)=ba at f2;exact tG (m:=σ.length) (f':=.list (ba.map .str)) rfl rfl rfl (aa s1 (aa f1 (aa f2 rfl))) (Sv _) dG (Gx σ _)
end
section
variable {s r y:Tx} {t rs:List Tx} {b:CE} {l:bG} {x:Dd} {ds:List Dd}
theorem DS (hr:∀ r∈ba,L8 r) (hl:ba.length<=3470):CC (d+1) false 105 [.d (.lst (ba.map .str))] σ=some (.ok (.d (.str (mB ba))),σ):=
 a8 rfl rfl rfl (aM (aF (I7 (K:=KK d false) (ρ:=[dV (.lst (ba.map .str)),none]) (i:=1) (e:=ag 0) rfl (fun _=>rfl) hr hl rfl))) (tk _)
noncomputable abbrev eR (n:Int) (note:Tx) (ls:List bG) (k:Nat) (o:Option PV×Option PV×Option PV×Option PV):bg:=[dV (fc n note ls),iV n,sV note,iV ls.length,qV k,o.1,o.2.1,o.2.2.1,o.2.2.2]
theorem rc {n:Int} {note:Tx} (h:vB (.entry n note ls)):CC (d+1) false 23 [.d (fc n note ls)] σ=some (.ok (.d (.lst ((eu (.entry n note ls)).map .str))),σ):=by
 have l60:=h.2.2.1;have st:∀ (l:bG) (rs:List Tx) (o:Option PV×Option PV×Option PV×Option PV),IX l->rs.length<=4000->(∃ o',(sC (aG 6 (sub (ag 5) (ah 0))) (sC (aG 7 (sub (ag 5) (ah 1))) (sC (aG 8 (sub (ag 5) (ah 2))) (sC (aP (bm aT (ag 4) (aj (C8 (w_ TF (w9 (ag 6) (w_ [32] (w9 (ag 7) (w_ [32] (w9 (ag 8) Nz))))))) ao))) sN)))).ex (KK d false) ((eR n note ls σ.length o).set 5 (dV (bF l))) (rS σ rs)=some (.next (eR n note ls σ.length o'),rS σ (rs++[ji l])))/\[ji l].length<=1:=fun l rs o h hl=>by
  refine ⟨⟨(dV (bF l),sV l.1,sV l.2.1,iV l.2.2),?_⟩,Sv _⟩;have d2:=(AW h).2;have n1:=(gM h.1).nt.1;have n2:=(du h.2.1).nt.1;have fs:Ev (KK d false) (C8 (w_ TF (w9 (ag 6) (w_ [32] (w9 (ag 7) (w_ [32] (w9 (ag 8) Nz))))))) (eR n note ls σ.length (dV (bF l),sV l.1,sV l.2.1,iV l.2.2)) (rS σ rs) (.d (.str (ji l))):=by
   rw[<-AE];exact Bo (LH (Sp rfl) (LG rfl rfl (by show 5+_<=_;exact Ss (S0 (n1) _) (Sp rfl)) (Bg rfl rfl (by show (_++_:Tx).length<=_;rw[Sk];show 5+_<=_;exact Ss (S0 (n1) _) (Sp rfl)) n2 (Bg rfl (AW h).1 (by rw[Sk,Sk,Sq];show 5+_+_<=_;exact Ss (Nat.add_le_add (S0 (n1) _) (Nat.add_le_add_right (n2) _)) (Sp rfl)) d2 rfl))))
  exact aa rfl (aa rfl (aa rfl (aa (lj rfl fs (Ss (hl) (Sp rfl))) rfl)))
 obtain ⟨o,lp⟩:=lO (K:=KK d false) (σ:=σ) (i:=5) (v:=.d (.tup (ls.map bF))) (y:=.tup (ls.map bF)) (f:=bF) (g:=fun l=>[ji l]) (mk:=eR n note ls σ.length) (P:=IX) (B:=1) (M:=4000) (fun _=>rfl) st ls [lq (.entry n note ls)] (none,none,none,none) h.2.2.2 (by rw[Su];exact Ss (S0 (To _ (l60)) _) (Sp rfl));rw[uj] at lp;have ln:Ev (KK d false) (bi bf (aj (sub (ag 0) (ah 3)) ao)) [dV (fc n note ls),iV n,sV note,none,none,none,none,none,none] σ (.d (.int ls.length)):=by
  have q:=Jx (hd:=false) (σ:=σ) (x:=.d (.tup (ls.map bF))) rfl (by rw[Sg];exact bo (Jr l60));rw[Sg] at q;exact ca rfl q
 have i2:((ls.length:Nat):Int).natAbs<10^31:=Ho l60;have d1:=Io (dT h.1);have d2:=Io i2;have fs:Ev (KK d false) (C8 (w_ TH (w9 (ag 1) (w_ [32] (w9 (ag 3) (w_ [32] (w9 (ag 2) Nz))))))) [dV (fc n note ls),iV n,sV note,iV ls.length,none,none,none,none,none] σ (.d (.str (lq (.entry n note ls)))):=by
  show Ev _ _ _ _ (.d (.str (g7 _ _)));rw[show g7 (JO (.entry n note ls)).1 (JO (.entry n note ls)).2=_ from AF.symm];exact Bo (LH (Sp rfl) (LG rfl (iY (dT h.1)).1 (by show 6+_<=_;exact Ss (S0 (d1) _) (Sp rfl)) (Bg rfl (iY i2).1 (by show (_++_:Tx).length<=_;rw[Sk];show 6+_<=_;exact Ss (S0 (d1) _) (Sp rfl)) d2 (Bg rfl rfl (by rw[Sk,Sk,Sq];show 6+_+_<=_;exact Ss (Nat.add_le_add (S0 (d1) _) (Nat.add_le_add_right (d2) _)) (Sp rfl)) h.2.1.1 rfl))))
 exact tG (m:=σ.length) (f':=.list ((eu (.entry n note ls)).map .str)) rfl rfl rfl (aa rfl (aa rfl (aa (av ln rfl) (aa (av (fk (cl1 fs)) rfl) (aa (bl rfl (dO rfl) lp) rfl))))) (Sv _) dG (Gx σ _)
theorem deed_rows (h:vB x):CC (d+2) false 24 [.d (DE x)] σ=some (.ok (.d (.lst ((eu x).map .str))),σ):=by
 have pe:∀ (w:Tx) (l:List D),DE x= .tup (.str w::l)->w≠ip->w≠dX->DE x= .tup ((Jj x).map (·.1))->dI [32] ((Jj x).map (·.2))=lq x->oh x=[]->(Jj x).length<=100->CC (d+2) false 24 [.d (DE x)] σ=some (.ok (.d (.lst ((eu x).map .str))),σ):=fun w l e0 ne nc e1 e2 e3 e4=>by
  have q:=v5 (K:=KK (d+1) false) (ρ:=[dV (DE x),none,none]) (σ:=σ) (i:=2) (e:=ag 0) (congrArg (fun u=>some (R.ok (PV.d u),σ)) e1) (fun _=>rfl) (pS h) e4 rfl;rw[e2] at q;have e0':Ev (KK (d+1) false) (sub (ag 0) (ah 0)) [dV (DE x),none,none] σ (.d (.str w)):=by rw[e0];exact cC 0 rfl rfl
  rw[eu,e3];exact a8 rfl rfl rfl (aa (aX (ak e0' rfl rfl rfl (eV ne)) rfl) (aa (aX (ak e0' rfl rfl rfl (eV nc)) rfl) (aM (aF (eH (cl1 q)))))) (tk _)
 cases x with
 |acc a=>exact pe _ _ rfl (by decide) (by decide) rfl (dN (ws:=[rU])) rfl (Sp rfl)
 |rate c n u b=>exact pe _ _ rfl (by decide) (by decide) rfl (dN (ws:=[sU,c,aN n,aN u])) rfl (Sp rfl)
 |back k n=>exact pe _ _ rfl (by decide) (by decide) rfl (dN (ws:=[sW,aN k])) rfl (Sp rfl)
 |close n=>exact pe _ _ rfl (by decide) (by decide) rfl (dN (ws:=[mz])) rfl (Sp rfl)
 |entry n note ls=>exact a8 rfl rfl rfl (aM (bP rfl (aM (aF (aY (rc h) rfl))))) (tk _)
 |change n note g one a tk' aE=>
  have q:=uZ (K:=KK (d+1) false) (ρ:=[dV (DE (.change n note g one a tk' aE)),dV (.lst [.str dX,.str (aN n),.str g,.str one,.str (aN a),.str tk',.str aE,.str note]),none]) (σ:=σ) (o:=aH [32]) (s:=[32]) (a:=ag 1) (ts:=[dX,aN n,g,one,aN a,tk',aE]++[note]) rfl rfl rfl (by decide) (fun t ht=>by obtain ⟨q,hq,rfl⟩:=SA.mp (show t∈(Jj (.change n note g one a tk' aE)).map (·.2) from ht);exact (pS h q hq).2) (Sp rfl);rw[dN] at q;exact a8 rfl rfl rfl (aa rfl (aM (bP rfl (aa (av (eH (cP rfl (cP (sX rfl (iY (dT h.1)).1) (cP rfl (cP rfl (cP (sX rfl (iY (mt h.2.2.2.2.1)).1) rfl)))))) rfl) (aM (aF (eH (cl1 q)))))))) (tk _)
theorem GD {f:PV} (hs:bI σ v f=true):∀ (ds:List Dd) (ba:List Tx) (x2:Option PV),(∀ x∈ds,vB x)->ba.length+61*ds.length<=4000->∃ y2,dq f v 2 (fun ρ=>(sC (aG 1 (aK a9 (ag 1) (ax 24 (aj (ag 2) ao)))) sN).ex (KK (d+2) false) ρ) (ds.map DE) [qV n,dV (.lst (ba.map .str)),x2,none] σ=some (.next [qV n,dV (.lst ((ba++bw ds).map .str)),y2,none],σ):=by
 intro ds
 induction ds with
 |nil=>exact fun ba x2 _ _=>⟨x2,by rw[show bw []=[] from rfl,List.append_nil];rfl⟩
 |cons x ds ih=>
  intro ba x2 h hl;rw[Sq] at hl;have l:(eu x).length<=61:=by have:=(zb (h x (.head _))).2;show ((oh x).map ji).length+1<=_;rw[Sg];exact Tj this
  obtain ⟨y2,e⟩:=ih (ba++eu x) (dV (DE x)) (fun y hy=>h y (.tail _ hy)) (by rw[Sk];exact M5 hl l);rw[List.append_assoc,show eu x++bw ds=bw (x::ds) from rfl,List.map_append] at e;exact ⟨y2,br (aa (av (aO rfl (aY (deed_rows (h x (.head _))) rfl) rfl rfl (show a9.g (.lst _) (.lst _)=_ from if_pos (by rw[Sg,Sg];exact Ss (m:=4061) (Nat.add_le_add (Ss (Tf _ _) hl) (l)) (by decide)))) rfl) rfl) hs e⟩
theorem nq (b:Bk σ n S) (hh:bh S.home=true) (e:S.deeds=ds.map DE) (h:∀ x∈ds,vB x) (hl:ds.length<=56):CC (d+3) false 25 [.p n 0] σ=some (.ok (.d (.str (mB (rowH S.home::bw ds)))),σ):=by
 obtain ⟨y2,lp⟩:=GD (d:=d) (n:=n) (v:=.lst S.deeds) (f:=.p n 8) (dY (vV b)) ds [rowH S.home] none h (by rw[Su];exact Ss (S0 (To _ (hl)) _) (Sp rfl));rw[List.singleton_append,<-e] at lp;have q:=kG h;exact a8 rfl rfl rfl (aa (av (eH (cl1 (aO rfl (j8 b rfl) rfl rfl (iU (by show 5+_<=dM;rw[lY hh];decide))))) rfl) (aa (bl (xS b rfl) (sj (vV b) (by rw[e,Sg];exact Ss (hl) (Sp rfl))) lp) (aM (aF (I7 (i:=3) (e:=ag 1) rfl (fun _=>rfl) (aQ (oP hh) q.1) (by have:=q.2;rw[Sq];omega) rfl))))) (tk _)
end
section
variable {one aE:Tx} {D:Int}
noncomputable abbrev qX (n m:Nat) (k:Int) (one aE:Tx) (D:Int):bg:=[qV n,qV m,iV k,sV one,sV aE,iV D]
theorem Jt:dK TO:=⟨by decide,by decide⟩
abbrev L7 (d m n:Nat) (σ:az) (k:Nat):Prop:=∃ c,c<nX/\CC (d+4) false 161 [.p n 0,.p m 0,.d (.int k)] σ=some (.ex c,σ)
theorem BP (h:fD σ m n p S) (G:Gd N p S) (hN:N<=800):L7 d m n σ 0/\L7 d m n σ 1/\L7 d m n σ 2/\L7 d m n σ 3/\L7 d m n σ 4/\L7 d m n σ 5:=by
 have sh:=G.sh (o6 hN);obtain ⟨T,eN,hT⟩:=G.nm;have hE:cn∈S.names:=by rw[G.names,eN];exact .head _
 obtain ⟨one,aE,r,eC⟩:∃ one aE r,p.curs=one::aE::r:=by
  have c3:=G.c3
  revert c3
  cases p.curs with
  |nil=>exact fun z=>absurd z (by decide)
  |cons a l=>
   cases l with
   |nil=>exact fun z=>absurd z (Nat.not_le_of_gt (Nat.lt_succ_of_lt (Nat.lt_succ_self _)))
   |cons b r=>exact fun _=>⟨a,b,r,rfl⟩
 have ho:=G.home;rw[eC] at ho;have e1:one=S.home:=S_ ho;have c1:=G.ic one (by rw[eC];exact .head _);have c2:=G.ic aE (by rw[eC];exact .tail _ (.head _));have ne:one≠aE:=fun z=>(S6.mp (eC ▸ G.nd)).1 (z ▸ .head _);have q1:=G.cl1;have q2:=G.cl2;rw[<-G.ends] at q1 q2;have lc:∀ d,CC (d+1) false 70 [.p m 0] σ=some (.ok (.d (.int (cl S.ends))),σ):=fun d=>by rw[G.ends];exact d_ h.r (o1 hN G.l3)
 generalize hD:min 99999 (cl S.ends+1)=D;have hd:bq D:=by unfold bq;exact M4 q1 hD
 have cu:∀ (k:Nat) (z:Tx) ρ,p.curs[k]? =some z->k<=100000->Ev (KK (d+3) false) (ag 1) ρ σ (.p m 0)->Ev (KK (d+3) false) (sub (key (ag 1) 2 Tr) (ah k)) ρ σ (.d (.str z)):=fun k z ρ hz hk he=>bc (gQ h.r he) rfl rfl rfl (b7 (by rw[SB,hz];rfl) hk);have pre:∀ (k:Nat) z,_=z->wr.ex (KK (d+3) false) [qV n,qV m,iV k,none,none,none] σ=z:=fun k z hz=>aa (av (cu 0 one _ (by rw[eC];rfl) (by decide) rfl) rfl) (aa (av (cu 1 aE _ (by rw[eC];rfl) (by decide) rfl) rfl) (aa (av (ca (cP rfl (cl1 (dU (aY (lc (d+2)) rfl) rfl))) (congrArg (fun D:Int=>some (R.ok (PV.d (.int D)),σ)) hD)) rfl) hz));have op:cl S.ends<D∨D<=cl S.ends:=Int.lt_or_le _ _;refine ⟨?_,?_,?_,?_,?_,?_⟩
 .have hl:T.length<p.names.length:=by rw[eN];exact Nat.lt_succ_self _
  have l7:=G.nl;have nm:gS p.names[T.length]:=(G.nmO (List.getElem_mem hl)).elim (fun z=>by rw[z];exact ⟨101,[120,99,104,97,110,103,101],rfl,by decide,by decide,by decide⟩) id;have ix:cF (.lst (p.names.map .str)) (.int (-1))=some (.str p.names[T.length]):=by
   rw[uK,aS (by decide),Si,Sg,show cg (-1) p.names.length=some T.length by unfold cg;rw[if_neg (by decide),if_pos (M3 hl)];congr 1;rw[eN,Sq];exact MQ,Si,SB,Sn hl];rfl
  refine ⟨9,by decide,fy rfl rfl rfl (pre _ _ (dA (bP rfl (dA (jk (a' h.b rfl (cl1 (bc (cK h.r rfl) rfl (cB h.r) rfl ix)) ?_)))))) (tk _)⟩;exact fy rfl rfl rfl (aa (aX (jd (eT (aY (qz nm) rfl))) rfl) (dA (bP (ak rfl (jK h.b rfl) rfl (lr h.b) (Lq (by rw[G.names];exact List.getElem_mem hl))) rfl))) (tk _)
 .refine op.elim (fun o=>⟨6,by decide,fy rfl rfl rfl (pre _ _ (aa (aX rfl rfl) (dA (bP rfl (dA (jk (a' h.b rfl rfl ?_))))))) (tk _)⟩) fun o=>⟨8,by decide,fy rfl rfl rfl (pre _ _ (aa (aX rfl rfl) (dA (bP rfl (dA (jk (a' h.b rfl rfl (GS h.b c1 (oU h.b sh hd o))))))))) (tk _)⟩;exact fy rfl rfl rfl (aa (aA (aY (bO c1) rfl)) (aa (aA (a' h.b rfl rfl (iu h.b sh hd o))) (dA (bP (bN (gr (ak rfl (j8 h.b rfl) rfl rfl (gj e1)))) rfl)))) (tk _)
 .have lk:∀ l∈[(cn,one,(5:Int)),(cn,aE,(-5:Int))],vw S l:=aQ ⟨hE,c1,by show c7 5=true;decide⟩ (aQ ⟨hE,c2,by show c7 (-5)=true;decide⟩ aW);have cs:bM one [(cn,one,(5:Int)),(cn,aE,(-5:Int))]≠0:=by
   rw[cc,cc,if_pos rfl,if_neg ne.symm];show (5:Int)+(0+0)≠0;decide
  have fi:∀ c,CC (d+3) false 20 [.p n 0,.d (.int D),.d (.str TO),.d (.lst ([(cn,one,(5:Int)),(cn,aE,(-5:Int))].map bF))] σ=some (.ex c,σ)->CC (d+4) false 161 [.p n 0,.p m 0,.d (.int (2:Nat))] σ=some (.ex c,σ):=fun c e=>fy rfl rfl rfl (pre _ _ (aa (aX rfl rfl) (aa rfl (dA (bP rfl (dA (jk (a' h.b rfl rfl e)))))))) (tk _);exact op.elim (fun o=>⟨7,by decide,fi 7 (vZ h.b sh hd o Jt ⟨Sp rfl,Sp rfl⟩ lk (LY cs (Sp rfl)))⟩) fun o=>⟨8,by decide,fi 8 (Hg h.b (oU h.b sh hd o))⟩
 .have fi:∀ c,CC (d+3) false 17 [.p n 0,.d (.int D),.d (.str TO),.d (.str cn),.d (.str one),.d (.int (10^30)),.d (.str cn),.d (.str aE)] σ=some (.ex c,σ)->CC (d+4) false 161 [.p n 0,.p m 0,.d (.int (3:Nat))] σ=some (.ex c,σ):=fun c e=>fy rfl rfl rfl (pre _ _ (aa (aX rfl rfl) (aa (aX rfl rfl) (aa (aX rfl rfl) (dA (bP rfl (dA (jk (a' h.b rfl rfl e))))))))) (tk _);refine op.elim (fun o=>⟨3,by decide,fi 3 ?_⟩) fun o=>⟨8,by decide,fi 8 (fy rfl rfl rfl (dA (fJ (a' h.b rfl rfl (oU h.b sh hd o)))) (tk _))⟩;exact fy rfl rfl rfl (aa (aA (a' h.b rfl rfl (iu h.b sh hd o))) (aa (aA (aB rfl (iw Jt))) (aa (aA (a' h.b rfl rfl (de h.b hE))) (aa (aA (a' h.b rfl rfl (de h.b hE))) (aa (aA (aB (cl1 rfl) (bO c1))) (aa (aA (aB (cl1 rfl) (bO c2))) (aa (aX (ak rfl rfl rfl rfl (eV ne)) rfl) (dA (bP (bN (bz rfl (gr (I9 (eT (aB rfl (uH (b:=false) (by decide)))))))) rfl))))))))) (tk _)
 .have ln:=jx (K:=KK (d+3) false) (ρ:=qX n m (4:Nat) one aE D) (e:=ag 1) (s:=Tt) h.r (o0 hN G.l1) rfl;exact ⟨12,by decide,fy rfl rfl rfl (pre _ _ (aa (aX rfl rfl) (aa (aX rfl rfl) (aa rfl (aa rfl (dA (bP rfl (dA (jk (a' h.b rfl (cP (dU ln rfl) rfl) (fy rfl rfl rfl (dA (Gk (a' h.b rfl rfl (FO h.b sh (.inr (by rw[G.made];exact OV)))))) (tk _)))))))))))) (tk _)⟩
 .have fi:∀ c,CC (d+2) false 4 [.p n 0,.d (.int (cl S.ends))] σ=some (.ex c,σ)->CC (d+4) false 161 [.p n 0,.p m 0,.d (.int (5:Nat))] σ=some (.ex c,σ):=fun c e=>fy rfl rfl rfl (pre _ _ (aa (aX rfl rfl) (aa (aX rfl rfl) (aa (aX rfl rfl) (aa (aX rfl rfl) (aa rfl (dA (jk (a' h.b rfl (cl1 (aY (lc (d+2)) rfl)) (F3 h.b e)))))))))) (tk _);by_cases z:cl S.ends<0
  .exact ⟨4,by decide,fi 4 (v7 fun y=>Tn.mpr y.1 z)⟩
  .exact ⟨8,by decide,fi 8 (oU h.b sh ⟨Nc z,q2⟩ (Int.le_refl _))⟩
theorem kC (h:fD σ m n p S) (G:Gd N p S) (hN:N<=800):CC (d+5) false 162 [.p n 0,.p m 0] σ=some (.ok (.d (.bool true)),σ):=by
 have st:∀ (k:Nat) x3,L7 d m n σ k->lH.ex (KK (d+4) false) [qV n,qV m,iV k,x3] σ=some (.next [qV n,qV m,iV k,dV (.bool true)],σ):=fun k x3 hk=>by
  obtain ⟨c,hc,e⟩:=hk;exact aa rfl (aa (GN (dA (fJ (aY e rfl))) hc (by
   show Nr (c==0||true) _ _=_;rw[Bool.or_true];rfl)) rfl)
 obtain ⟨w0,w1,w2,w3,w4,w5⟩:=BP (d:=d) h G hN;exact a8 rfl rfl rfl (aa (bl rfl rfl (br (st 0 _ w0) rfl (br (st 1 _ w1) rfl (br (st 2 _ w2) rfl (br (st 3 _ w3) rfl (br (st 4 _ w4) rfl (br (st 5 _ w5) rfl rfl))))))) rfl) (tk _)
end
section
variable {e:i_}
theorem jo {s:Tx}:pl n (.str s)=true:=by cases n<;>rfl
theorem cE {i:Int}:pl n (.int i)=true:=by cases n<;>rfl
theorem mI (h:∀ x∈l,pl n x=true):pl (n+1) (.lst l)=true:=List.all_eq_true.mpr h
theorem gN (h:∀ x∈l,pl n x=true):pl (n+1) (.tup l)=true:=List.all_eq_true.mpr h
theorem xU {q:β->Prop} {f:α->β} {l:List α} (h:∀ a∈l,q (f a)):∀ x∈l.map f,q x:=fun x hx=>by
 obtain ⟨a,ha,rfl⟩:=SA.mp hx;exact h a ha
theorem EB:pl (n+3) (dt e)=true:=gN (aQ cE (aQ cE (aQ jo (aQ (gN (xU fun l _=>gN (aQ jo (aQ jo (aQ cE aW))))) (aQ cE aW)))))
theorem DP (h1:Ev K o ρ σ x) (h2:Ev K a ρ σ y) (r1:rd σ x=some u) (r2:rd σ y=some u) (p:pl 8 u=true) (hf:LL u u=none):Ts K (aJ gU o a) ρ σ false:=ak h1 h2 r1 r2 (Jv rfl p hf)
theorem vt (B:Bk σ n S) (sh:Sh S):CC (d+1) hd 60 [.p n 0] σ=some (.ok (.d (.lst (S.names.map .str))),σ):=by
 refine a8 rfl rfl (ρ:=[qV n]) rfl (aM (aF (ca (cl1 (jK B rfl)) ?_))) (tk _);show ((rd σ (.p n 3)).bind fun u=>((lD u).bind fun l=>au (l.length<=dM) (D.lst l)).map _)=_;rw[lr B,Si];show (au ((S.names.map D.str).length<=dM) _).map _=_;rw[aS (by rw[Sg];exact bo sh.n)];rfl
theorem EP (b:Bk σ n S) (sh:Sh S):CC (d+1) hd 1 [.p n 0] σ=some (.ok (.d (.int S.made.length)),σ):=a8 rfl rfl rfl (aM (aF (qt b sh rfl))) (tk _)
theorem ny (B:Bk σ n S) (sh:Sh S):CC (d+1) hd 22 [.p n 0] σ=some (.ok (.d (.int S.ends.length)),σ):=a8 rfl rfl rfl (aM (aF (wL B sh rfl))) (tk _)
theorem Du {c:Tx} {x:Rw} (h1:x.1=c) (h2:x.2.1<=t):∀ (rs:List Rw) (o:Option Rw),o.isSome=true∨x∈rs->(rs.foldl (rX c t) o).isSome=true:=by
 intro rs
 induction rs with
 |nil=>exact fun o h=>h.elim id fun h=>absurd h SF
 |cons y rs ih=>
  intro o h;refine ih _ ?_;unfold rX;by_cases q:y.1=c/\y.2.1<=t/\∀ z,o=some z->z.2.1<=y.2.1
  .rw[if_pos q];exact .inl rfl
  .rw[if_neg q];cases o with
   |some z=>exact .inl rfl
   |none=>exact .inr ((Sj.mp (h.resolve_left SI)).resolve_left fun z=>q ⟨z ▸ h1,z ▸ h2,fun _ e=>by cases e⟩)
theorem lP {v:PV} {y:D} {c:CS} {f:α->D} {mk:γ->bg} (hs:bI σ y v=true):∀ (l:List α) (o:γ),(∀ a∈l,∀ o,∃ o',c.ex K ((mk o).set i (dV (f a))) σ=some (.next (mk o'),σ))->∃ o',dq v y i (fun ρ=>c.ex K ρ) (l.map f) (mk o) σ=some (.next (mk o'),σ):=by
 intro l
 induction l with
 |nil=>exact fun o _=>⟨o,rfl⟩
 |cons a l ih=>
  intro o h;obtain ⟨o1,e1⟩:=h a (.head _) o;obtain ⟨o2,e2⟩:=ih o1 fun b hb=>h b (.tail _ hb);exact ⟨o2,br e1 hs e2⟩
noncomputable abbrev qZ (n m:Nat) (o:Option PV×Option PV):bg:=[qV n,qV m,o.1,o.2]
theorem vT (h:fD σ m n p S) (G:Gd N p S) (hN:N<=800):CC (d+3) false 160 [.p n 0,.p m 0] σ=some (.ok (.d (.bool true)),σ):=by
 have sh:=G.sh (o6 hN);have l1:=G.l1;have l3:=G.l3;have le:∀ o,Ev (KK (d+2) false) (bi bf (aj (key (ag 1) 3 Tt) ao)) (qZ n m o) σ (.d (.int p.ents.length)):=fun o=>jx h.r (o0 hN l1) rfl;have s1:qa.ex (KK (d+2) false) (qZ n m (none,none)) σ=some (.next (qZ n m (none,none)),σ):=aX (bN (bz (DP (a' h.b rfl rfl (vt h.b sh)) (cK h.r rfl) rfl (by rw[cB h.r,G.names]) (mI (xU fun _ _=>jo)) rfl) (bz (ak (a' h.b rfl rfl (EP h.b sh)) (le _) rfl rfl (n9 (by rw[G.made]))) rfl))) rfl;obtain ⟨o2,f2⟩:=lP (K:=KK (d+2) false) (σ:=σ) (i:=2) (v:=.d (.rng 0 p.ents.length 1)) (y:=.rng 0 p.ents.length 1) (c:=qc) (f:=fun k:Nat=>.int k) (mk:=qZ n m) rfl (List.range p.ents.length) (none,none) fun k hk o=>⟨(iV k,o.2),by
  have hk:=List.mem_range.mp hk;have ek:=Sn hk;exact aa (aX (DP (a' h.b rfl rfl (m6 h.b sh (by rw[G.made];exact ek))) (bc (jy h.r rfl) rfl (ir h.r) rfl (b7 (by rw[SB,ek];rfl) (MP hN l1 hk))) rfl rfl EB rfl) rfl) rfl⟩
 obtain ⟨o3,f3⟩:=lP (K:=KK (d+2) false) (σ:=σ) (i:=3) (v:=.p m 6) (y:=.lst (p.told.map s6)) (c:=qb) (f:=s6) (mk:=qZ n m) (dY (ud h.r)) p.told o2 fun x hx o=>⟨(o.1,dV (s6 x)),by
  obtain ⟨mm,T⟩:=G.tell;have q:=G.tc x hx;have hh:bh S.home=true:=G.ic _ (SO G.home);have ra:=lu (d:=d) (c:=x.1) (n:=x.2.1) h.b T hh q.1 q.2 (o1 hN G.l2);have la:=mQ (d:=d+1) (c:=x.1) (t:=x.2.1) h.r G.home (o1 hN G.l2);obtain ⟨w,hw⟩:∃ w,e_ S.home p.told x.1 x.2.1=some w:=by
   unfold e_;by_cases z:x.1=S.home
   .rw[if_pos z];exact ⟨_,rfl⟩
   .rw[if_neg z];exact Option.isSome_iff_exists.mp (Du rfl (Int.le_refl _) p.told none (.inr hx))
  rw[hw] at ra la;exact aa (aX (DP (a' h.b rfl (cP (cC 0 rfl rfl) (cl1 (cC 1 rfl rfl))) ra) (aY la rfl) rfl rfl (gN (aQ cE (aQ cE aW))) rfl) rfl) rfl⟩
 have ln:Ev (KK (d+2) false) (bi bf (aj (key (ag 1) 5 Tw) ao)) (qZ n m o3) σ (.d (.int p.ends.length)):=by
  have q:=fv (K:=KK (d+2) false) (ρ:=qZ n m o3) (qv (e:=ag 1) (s:=Tw) h.r rfl) (uf h.r) (by rw[Sg];exact o0 hN l3);rw[Sg] at q;exact q
 exact a8 rfl rfl rfl (aa s1 (aa (bl (rb (le _) (o0 hN l1)) (dO (hU (o0 hN l1))) f2) (aa (bl (zj h.r rfl) (sj (ud h.r) (by rw[Sg];have:=G.l2;exact o0 hN this)) f3) (aa (aX (bN (bz (ak (a' h.b rfl rfl (kO h.b sh)) (aY (d_ h.r (o1 hN l3)) rfl) rfl rfl (n9 (by rw[G.ends]))) (bz (ak (j8 h.b rfl) (bc (gQ h.r rfl) rfl rfl rfl (b7 (k:=0) (by rw[SB,G.home];rfl))) rfl rfl (kq rfl)) rfl))) rfl) (aM (aF (jI (a' h.b rfl rfl (ny h.b sh)) ln rfl rfl (m5 (by rw[G.ends]))))))))) (tk _)
end
section
variable {e:i_}
theorem z_ (B:Bk σ n S) (sh:Sh S) (he:S.made[k]? =some e):CC (d+3) false 9 [.p n 0,.d (.int ((k:Int)+1)),.d (.int (-1))] σ=some (.ex (bif (decide (((k:Int)+1)∈S.gone)||decide (e.back≠0)) then 10 else 4),σ):=by
 have pre:∀ z,_=z->nS.ex (KK (d+2) false) [qV n,iV ((k:Int)+1),iV (-1),none,none,none] σ=z:=fun z hz=>aa (av (a' B rfl rfl (m6 B sh he)) rfl) hz;have e4:Ev (KK (d+2) false) (sub (ag 3) (ah 4)) [qV n,iV ((k:Int)+1),iV (-1),dV (dt e),none,none] σ (.d (.int e.back)):=cC 4 rfl rfl;have g:=Bc (K:=KK (d+2) false) (ρ:=[qV n,iV ((k:Int)+1),iV (-1),dV (dt e),none,none]) (e:=ag 0) (a:=ag 1) B rfl rfl;by_cases q1:e.back≠0
 .rw[Sz q1,Bool.or_true];exact fy rfl rfl rfl (pre _ (dA (bP (bN (gr (ak e4 rfl rfl rfl (we q1)))) rfl))) (tk _)
 .rw[Tc q1,Bool.or_false];have o:=ak (o:=gU) (b:=ah 0) e4 rfl rfl rfl (n9 (Decidable.not_not.mp q1));by_cases q2:((k:Int)+1)∈S.gone
  .rw[Sz q2] at g ⊢;exact fy rfl rfl rfl (pre _ (dA (bP (bN (bz o (gr g))) rfl))) (tk _)
  .rw[Tc q2] at g ⊢;exact fy rfl rfl rfl (pre _ (aa (aX (bN (bz o (bz g rfl))) rfl) (dA (fJ (a' B rfl rfl (v7 fun z=>absurd z.1 (by decide))))))) (tk _)
theorem BW (B:Bk σ n S) (sh:Sh S) (he:S.made[k]? =some e):CC (d+4) false 158 [.p n 0,.d (.int ((k:Int)+1))] σ=some (.ok (.d (.bool (decide (((k:Int)+1)∈S.gone)||decide (e.back≠0)))),σ):=by
 have c:=z_ (d:=d) B sh he;generalize (decide (((k:Int)+1)∈S.gone)||decide (e.back≠0))=q at c;cases q with
 |true=>exact a8 rfl rfl rfl (aM (GN (c:=10) (dA (fJ (a' B rfl rfl c))) (by decide) rfl)) (tk _)
 |false=>exact a8 rfl rfl rfl (aM (GN (c:=4) (dA (fJ (a' B rfl rfl c))) (by decide) rfl)) (tk _)
theorem QL {b:Bool}:gU.g (.bool b) (.bool b)=some false:=by cases b<;>rfl
theorem KI {l:List i_} (h:Mj l) (he:l[k]? =some e):e.no=(k:Int)+1:=by
 have q:=congrArg (fun l:List Int=>l[k]?) h;have q:(l.map (·.no))[k]? =((List.range l.length).map fun i=>((i:Nat):Int)+1)[k]? :=q;rw[SB,he,SB,List.getElem?_range (Sl.mp he).1] at q;exact S_ q
theorem pA (h:fD σ m n p S) (G:Gd N p S) (hN:N<=800):CC (d+5) false 159 [.p n 0,.p m 0] σ=some (.ok (.d (.bool true)),σ):=by
 have sh:=G.sh (o6 hN);have l1:=G.l1;obtain ⟨o,lp⟩:=lP (K:=KK (d+4) false) (σ:=σ) (i:=2) (v:=.p m 5) (y:=.lst (p.ents.map dt)) (c:=g_) (f:=dt) (mk:=qZ n m) (dY (ir h.r)) p.ents (none,none) fun e he o=>by
  obtain ⟨k,ek⟩:=List.mem_iff_getElem?.mp he;have no:=KI G.nos ek;have t:=BW (d:=d) h.b sh (by rw[G.made];exact ek);rw[G.gone,<-no] at t;have e0:∀ o,Ev (KK (d+4) false) (sub (ag 2) (ah 0)) (qZ n m (dV (dt e),o)) σ (.d (.int e.no)):=fun o=>cC 0 rfl rfl;refine ⟨(dV (dt e),dV (.bool (decide (e.no∈p.backs)||decide (e.back≠0)))),aa (av (v:=.d (.bool (decide (e.no∈p.backs)||decide (e.back≠0)))) ?_ rfl) (aa (aX (ak (aB (cP rfl (cl1 (e0 _))) t) rfl rfl rfl QL) rfl) rfl)⟩;by_cases q:e.no∈p.backs
  .rw[Sz q];exact aC (jI (e0 _) (j4 h.r rfl) rfl (lx h.r) (JD q)) (aC (a:=true) (σ':=σ) rfl rfl)
  .rw[Tc q];refine aC (jI (e0 _) (j4 h.r rfl) rfl (lx h.r) (Fq q)) (aC (a:=false) (σ':=σ) rfl ?_);by_cases q2:e.back=0
   .rw[Tc fun z=>z q2];exact jI (cC 4 rfl rfl) rfl rfl rfl (n9 q2)
   .rw[Sz q2];exact jI (cC 4 rfl rfl) rfl rfl rfl (we q2)
 exact a8 rfl rfl rfl (aa (bl (jy h.r rfl) (sj (ir h.r) (by rw[Sg];exact o0 hN l1)) lp) rfl) (tk _)
theorem xN {a c:Tx} (B:Bk σ n S) (sh:Sh S) (ha:a∈S.names) (hc:bh c=true):CC (d+2) false 27 [.p n 0,.d (.str a),.d (.str c)] σ=some (.ok (.d (.int (total S a c none))),σ):=
 a8 rfl rfl rfl (aa (aA (a' B rfl rfl (de B ha))) (aa (aA (aY (bO hc) rfl)) (aM (aF (a' B rfl rfl (ik (q:=none) B sh)))))) (tk _)
noncomputable abbrev qU (n m:Nat) (o:Option PV×Option PV×Option PV×Option PV×Option PV):bg:=[qV n,qV m,o.1,o.2.1,o.2.2.1,o.2.2.2.1,o.2.2.2.2]
theorem BX (h:fD σ m n p S) (G:Gd N p S) (hN:N<=800):CC (d+3) false 157 [.p n 0,.p m 0] σ=some (.ok (.d (.bool true)),σ):=by
 have sh:=G.sh (o6 hN);obtain ⟨o,lp⟩:=lP (K:=KK (d+2) false) (σ:=σ) (i:=2) (v:=.p m 2) (y:=.lst (p.names.map .str)) (c:=iO) (f:=.str) (mk:=qU n m) (dY (cB h.r)) p.names (none,none,none,none,none) fun a ha o=>by
  obtain ⟨o',lp⟩:=lP (K:=KK (d+2) false) (σ:=σ) (i:=3) (v:=.d (.lst (p.curs.map .str))) (y:=.lst (p.curs.map .str)) (c:=iQ) (f:=.str) (mk:=fun o=>qU n m (sV a,o)) rfl p.curs o.2 fun c hc o=>by
   obtain ⟨c',lp⟩:=lQ (σ:=σ) (v:=.p m 5) (x:=.lst (p.ents.map dt)) (i:=5) (b:=fun ρ=>iR.ex (KK (d+2) false) ρ) dt (fun (t:Int) (o:Option PV×Option PV)=>qU n m (sV a,sV c,iV t,o)) (Am a c none) (dY (ir h.r)) p.ents (fun t o e _=>by
    obtain ⟨c',lp⟩:=lQ (σ:=σ) (v:=.d (.tup (e.lines.map bF))) (x:=.tup (e.lines.map bF)) (i:=6) (b:=fun ρ=>iS.ex (KK (d+2) false) ρ) bF (fun (t:Int) (o:Option PV)=>qU n m (sV a,sV c,iV t,dV (dt e),o)) (xX a c) rfl e.lines (fun t o l _=>⟨dV (bF l),xW rfl rfl rfl rfl rfl⟩) t o.2;exact ⟨(dV (dt e),c'),aa (bl (cC 3 rfl rfl) (dO rfl) lp) rfl⟩) 0 (o.2.2.1,o.2.2.2)
   have b:=xN (d:=d) (a:=a) (c:=c) h.b sh (by rw[G.names];exact ha) (G.ic c hc);rw[total,G.made] at b;exact ⟨(sV c,iV (p.ents.foldl (Am a c none) 0),c'),aa rfl (aa (bl (jy h.r rfl) (sj (ir h.r) (by rw[Sg];have:=G.l1;exact o0 hN this)) lp) (aa (aX (ak (a' h.b rfl rfl b) rfl rfl rfl (n9 rfl)) rfl) rfl))⟩
  exact ⟨(sV a,o'),aa (bl (gQ h.r rfl) (dO (if_pos (by rw[Sg];exact bo (Ss G.c10 (by decide))))) lp) rfl⟩
 exact a8 rfl rfl rfl (aa (bl (cK h.r rfl) (sj (cB h.r) (by rw[Sg];have:=G.nl;exact o3 this)) lp) rfl) (tk _)
end
section
variable {P:Nat->β->Prop} {g:β->α->β} {Q:α->Prop}
theorem iE (hP:∀ k s a,Q a->P k s->P (k+1) (g s a)):∀ (l:List α) (k:Nat) (s:β),(∀ a∈l,Q a)->P k s->P (k+l.length) (l.foldl g s):=by
 intro l
 induction l with
 |nil=>exact fun k s _ h=>h
 |cons a l ih=>
  intro k s h hp;rw[Sq,Nat.add_comm l.length,<-Nat.add_assoc];exact ih (k+1) (g s a) (fun x hx=>h x (.tail _ hx)) (hP k s a (h a (.head _)) hp)
theorem mV {v:PV} {y:D} {M:Nat} {b:bg->az->Option (Out×az)} {f:α->D} {mk:β->γ->bg} {st:β->az} (hs:∀ s,bI (st s) y v=true) (hP:∀ k s a,Q a->P k s->P (k+1) (g s a)) (hb:∀ k s a c,Q a->P k s->k<=M->∃ c',b ((mk s c).set i (dV (f a))) (st s)=some (.next (mk (g s a) c'),st (g s a))):∀ (l:List α) (k:Nat) (s:β) (c:γ),(∀ a∈l,Q a)->P k s->k+l.length<=M->∃ c',dq v y i b (l.map f) (mk s c) (st s)=some (.next (mk (l.foldl g s) c'),st (l.foldl g s)):=by
 intro l
 induction l with
 |nil=>exact fun k s c _ _ _=>⟨c,rfl⟩
 |cons a l ih=>
  intro k s c h hp hl;rw[Sq] at hl;obtain ⟨c1,e1⟩:=hb k s a c (h a (.head _)) hp (Ss (Tf _ _) hl);obtain ⟨c2,e2⟩:=ih (k+1) (g s a) c1 (fun x hx=>h x (.tail _ hx)) (hP k s a (h a (.head _)) hp) (MM hl);exact ⟨c2,br e1 (hs _) e2⟩
end
noncomputable def gE {β:Type} (g:i_->β->bG->β) (s:β) (e:i_):β:=e.lines.foldl (g e) s
def Ml (q:bG->Prop) (e:i_):Prop:=e.lines.length<=60/\∀ l∈e.lines,q l
section
variable {f:Int} {e:i_}
variable {P:Nat->β->Prop} {g:i_->β->bG->β} {q:bG->Prop}
theorem LE (mono:∀ {k j s},k<=j->P k s->P j s) (hP:∀ e k s l,q l->P k s->P (k+1) (g e s l)):∀ k s e,Ml q e->P (60*k) s->P (60*(k+1)) (gE g s e):=fun k s e h hp=>mono (by have:=h.1;exact S0 this _) (iE (hP e) e.lines _ s h.2 hp)
theorem u9 {cs:CS} {le ll:Nat} {mk:β->Option PV×Option PV->bg} {st:β->az} (mono:∀ {k j s},k<=j->P k s->P j s) (hP:∀ e k s l,q l->P k s->P (k+1) (g e s l)) (se:∀ s o z,(mk s o).set le z=mk s (z,o.2)) (sl:∀ s o z,(mk s o).set ll z=mk s (o.1,z)) (he:∀ s z o,(ag le).ev (KK d false) (mk s (some z,o)) (st s)=some (.ok z,st s)) (hb:∀ e k s l,q l->P k s->k<=60000->cs.ex (KK d false) (mk s (dV (dt e),dV (bF l))) (st s)=some (.next (mk (g e s l) (dV (dt e),dV (bF l))),st (g e s l))) (h:∀ e∈es,Ml q e) (hl:es.length<=900) (s:β) (o:Option PV×Option PV) (hp:P 0 s):∃ o',dq (.d v) v le (fun ρ=>(sC (cZ ll (sub (ag le) (ah 3)) cs) sN).ex (KK d false) ρ) (es.map dt) (mk s o) (st s)=some (.next (mk (es.foldl (gE g) s) o'),st (es.foldl (gE g) s)):=by
 refine mV (M:=900) (P:=fun k s=>P (60*k) s) (fun _=>rfl) (LE mono hP) (fun k s e c h hp hk=> ?_) es 0 s o h hp (S0 (hl) _);obtain ⟨o',lp⟩:=mV (v:=.d (.tup (e.lines.map bF))) (y:=.tup (e.lines.map bF)) (i:=ll) (M:=60000) (b:=fun ρ=>cs.ex (KK d false) ρ) (f:=bF) (mk:=fun s o=>mk s (dV (dt e),o)) (st:=st) (fun _=>rfl) (hP e) (fun k s l c hl hp hk=>⟨dV (bF l),by rw[sl];exact hb e k s l hl hp hk⟩) e.lines (60*k) s c.2 h.2 hp (by have:=h.1;exact Ss (Nat.add_le_add (To _ (hk)) (this)) (Sp rfl));exact ⟨(dV (dt e),o'),by rw[se];exact aa (bl (bc (he ..) rfl rfl rfl (qF (k:=3) rfl)) (dO rfl) lp) rfl⟩
end
noncomputable abbrev n4:=List Nat×List Nat
noncomputable abbrev tz (f t:Int) (e:i_):Bool:=decide (f<=e.day)&&decide (e.day<=t)
section
variable {κ:Type} [Inhabited κ] {lt:κ->κ->Bool} {ks:List κ} {l:List α}
theorem vO {x:α} (h:x∈d4 lt ks l):x∈l:=by
 obtain ⟨i,_,hi⟩:=List.mem_filterMap.mp h;exact SO hi
theorem vQ:(d4 lt ks l).length<=ks.length:=by
 refine Ss (List.length_filterMap_le _ _) ?_;rw[lz.length_eq,List.length_range];exact Sv _
theorem vP (g:α->β):d4 lt ks (l.map g)=(d4 lt ks l).map g:=by
 unfold d4;rw[List.map_filterMap];exact congrArg (fun h=>List.filterMap h _) (funext fun i=>SB)
end
noncomputable def jE (es:List i_) (f t:Int):List i_:=d4 K2 (((es.filter (tz f t)).map dt).map eU) (es.filter (tz f t))
def Gv (A C:List Tx) (l:bG):Prop:=l.1∈A/\l.2.1∈C/\c7 l.2.2=true
structure Rq (S:St) (A C:List Tx):Prop where
 sh:Sh S
 m:S.made.length<64
 e:∀ e∈S.made,Ml (Gv A C) e
 a:A.length<=7
 c:C.length<=8
 ic:∀ c∈C,bh c=true
theorem Fg {f:Int} {e:i_} (h:e∈jE es f t):e∈es:=(List.mem_filter.mp (vO h)).1
theorem Fh {f:Int}:(jE es f t).length<=es.length:=Ss vQ (by rw[Sg,Sg];exact List.length_filter_le _ _)
noncomputable def Jb (a:n4) (e:i_) (s:Int×List D) (x:bG):Int×List D:=if x.1=a.1/\x.2.1=a.2 then (s.1+x.2.2,s.2++[.tup [.int e.day,.int e.no,.int x.2.2,.int (s.1+x.2.2)]]) else s
def Pv (k:Nat) (l:List D):Prop:=l.length<=k/\∀ x∈l,pl 4 x=true
theorem Pv.mono (h:k<=j) (p:Pv k l):Pv j l:=⟨Ss p.1 h,p.2⟩
theorem Pv.app {x:D} (h:Pv k l) (hx:pl 4 x=true):Pv (k+1) (l++[x]):=⟨by rw[Sk];exact Tj h.1,fun y hy=>(SC.mp hy).elim (h.2 y) fun q=>by rw[So.mp q];exact hx⟩
theorem Jl:∀ {x:D},pl n x=true->pl (n+1) x=true:=by
 induction n with
 |zero=>exact fun {x} h=>by cases x<;>first|exact h|exact List.all_eq_true.mpr fun y hy=>absurd (List.all_eq_true.mp h y hy) nofun
 |succ n ih=>exact fun {x} h=>by cases x<;>first|exact h|exact List.all_eq_true.mpr fun y hy=>ih (List.all_eq_true.mp h y hy)
section
variable {f:Int} {e:i_} {a:n4}
theorem iK (B:Bk σ n S) (h:S.made.length<64):CC (d+1) false 126 [.p n 0,.d (.int f),.d (.int t)] σ=some (.ok (.d (.lst ((jE S.made f t).map dt))),σ):=by
 have cf:=gF (K:=KK d false) (ρ:=[qV n,iV f,iV t,none,none]) (σ:=σ) (i:=4) (cq:=ag 4) (t:=lA (vJ yc yc (ag 1) (sub (ag 4) (ah 1)) (ag 2))) (v:=.p n 5) (y:=.lst (S.made.map dt)) (dY (jX B)) dt dt (tz f t) S.made [] (fun l _=>yf (tV rfl (cC 1 rfl rfl) rfl rfl rfl rfl rfl rfl)) (fun l _ _=>rfl) (by rw[Tb];exact R7 h);rw[List.nil_append] at cf;have sk:pI ((S.made.filter (tz f t)).map dt)=some (.lst ((jE S.made f t).map dt)):=by
  unfold pI;rw[aS ⟨xU fun _ _=>rfl,by rw[Sg];exact SJ (List.length_filter_le _ _) h⟩,vP];rfl
 refine a8 rfl rfl (ρ:=[qV n,iV f,iV t,none,none]) rfl (aa (li (ie (md B rfl) (sj (jX B) (by rw[Sg];exact o4 h)) cf rfl) rfl) (aM (cN (aC (a:=.d (.lst ((S.made.filter (tz f t)).map dt))) (σ':=σ) rfl ?_) rfl))) (tk _);show (Option.map _ (Option.bind (some ((S.made.filter (tz f t)).map dt)) pI))=_;rw[Si,sk];rfl
theorem lF (h1:bq f) (h2:bq t) (h:f<=t):CC (d+2) false 163 [.d (.int f),.d (.int t)] σ=some (.ok (.d .none),σ):=
 dL rfl rfl rfl (aa (aA (aY (cJ h1) rfl)) (aa (aA (aY (cJ h2) rfl)) (aa (aX (ak rfl rfl rfl rfl (j_ (Tn.mpr h))) rfl) rfl))) (tk _)
theorem wT (B:Bk σ n S) (q:Rq S A C) (h2:bq t):CC (d+3) false 166 [.p n 0,.d (.int 0),.d (.int t)] σ=some (.ok (.d (.lst ((jE S.made 0 t).map dt))),σ):=
 a8 rfl rfl rfl (aa (aA (aY (lF ⟨by decide,by decide⟩ h2 h2.1) rfl)) (aM (aF (aY (iK B q.m) rfl)))) (tk _)
noncomputable abbrev fp (S:St) (a:n4) (t:Int):Int:=total S a.1 a.2 (some t)
noncomputable def I_ (S:St) (a:n4) (t:Int):Int×List D:=(jE S.made 0 t).foldl (gE (Jb a)) (fp S a (0 - 1),[])
theorem Ja {s:Int×List D} {l:bG} (h:Pv k s.2):Pv (k+1) (Jb a e s l).2:=by
 unfold Jb;split
 .exact h.app (gN (aQ cE (aQ cE (aQ cE (aQ cE aW)))))
 .exact h.mono (S5 _)
noncomputable abbrev tR (n:Nat) (a:n4) (t o:Int) (r:Nat) (c:Int) (x:Option PV×Option PV):bg:=[qV n,sV a.1,sV a.2,iV 0,iV t,iV o,iV c,qV r,x.1,x.2]
theorem GV {o:Int} {s:Int×List D} {l:bG} (hl:Pv k s.2) (hk:k<=60000):fx.ex K (tR n a t o σ.length s.1 (dV (dt e),dV (bF l))) (σ++[.fld (.list s.2)])=some (.next (tR n a t o σ.length (Jb a e s l).1 (dV (dt e),dV (bF l))),σ++[.fld (.list (Jb a e s l).2)]):=by
 have e1:Ev K (sub (ag 9) (ah 0)) (tR n a t o σ.length s.1 (dV (dt e),dV (bF l))) (σ++[.fld (.list s.2)]) (.d (.str l.1)):=cC 0 rfl rfl;have e2:Ev K (sub (ag 9) (ah 1)) (tR n a t o σ.length s.1 (dV (dt e),dV (bF l))) (σ++[.fld (.list s.2)]) (.d (.str l.2.1)):=cC 1 rfl rfl;unfold Jb;by_cases q1:l.1=a.1
 .by_cases q2:l.2.1=a.2
  .rw[if_pos ⟨q1,q2⟩];have ap:=cb (K:=K) (ρ:=tR n a t o σ.length (s.1+l.2.2) (dV (dt e),dV (bF l))) (o:=ag 7) (a:=bx (aj (sub (ag 8) (ah 1)) (aj (sub (ag 8) (ah 0)) (aj (sub (ag 9) (ah 2)) (aj (ag 6) ao))))) (y:=.tup [.int e.day,.int e.no,.int l.2.2,.int (s.1+l.2.2)]) (l:=s.2) (σ:=σ++[.fld (.list s.2)]) rfl (bv (cP (cC 1 rfl rfl) (cP (cC 0 rfl rfl) (cP (cC 2 rfl rfl) (cl1 rfl))))) cV (SJ (Ss hl.1 hk) (by decide));rw[dZ] at ap;exact aa (bP (ci (cQ (ak e1 rfl rfl rfl (gj q1)) (cQ (ak e2 rfl rfl rfl (gj q2)) rfl))) (aa (av (dU rfl (cC 2 rfl rfl)) rfl) (aa (aA ap) rfl))) rfl
  .rw[if_neg fun h=>q2 h.2];exact aa (aX (ci (cQ (ak e1 rfl rfl rfl (gj q1)) (eX (ak e2 rfl rfl rfl (eV q2))))) rfl) rfl
 .rw[if_neg fun h=>q1 h.1];exact aa (aX (ci (eX (ak e1 rfl rfl rfl (eV q1)))) rfl) rfl
theorem Fj (h:es.length<=900):items (.lst (es.map dt))=some (es.map dt):=if_pos (by rw[Sg];exact bo (OP h))
theorem DY (q:Rq S A C) (ha:a.1∈S.names) (hc:bh a.2=true) (h2:bq t):∃ v,pl 7 v=true/\∀ d σ n,Bk σ n S->CC (d+3) false 164 [.p n 0,.d (.str a.1),.d (.str a.2),.d (.int 0),.d (.int t)] σ=some (.ok (.d v),σ):=by
 have hj:∀ e∈jE S.made 0 t,Ml (Gv A C) e:=fun e he=>q.e e (Fg he);have jl:(jE S.made 0 t).length<=900:=Ss Fh (by have:=q.m;exact Ss (Tp this) (Sp rfl));have pv:=iE (P:=fun k (s:Int×List D)=>Pv (60*k) s.2) (LE (q:=Gv A C) (g:=Jb a) (P:=fun k (s:Int×List D)=>Pv k s.2) Pv.mono fun e k s l _ h=>Ja h) (jE S.made 0 t) 0 (fp S a (0 - 1),[]) hj ⟨Sv _,aW⟩;refine ⟨.tup [.int (fp S a (0 - 1)),.lst (I_ S a t).2,.int (I_ S a t).1],gN (aQ cE (aQ (mI fun x hx=>Jl (pv.2 x hx)) (aQ cE aW))),fun d σ n B=> ?_⟩;obtain ⟨o,lp⟩:=u9 (d:=d+2) (v:=.lst ((jE S.made 0 t).map dt)) (cs:=fx) (le:=8) (ll:=9) (P:=fun k s=>Pv k s.2) (q:=Gv A C) (g:=Jb a) (mk:=fun s=>tR n a t (fp S a (0 - 1)) σ.length s.1) (st:=fun s=>σ++[.fld (.list s.2)]) Pv.mono (fun e k s l _ h=>Ja h) (fun _ _ _=>rfl) (fun _ _ _=>rfl) (fun _ _ _=>rfl) (fun e k s l _ hp hk=>GV hp hk) hj jl (fp S a (0 - 1),[]) (none,none) ⟨Sv _,aW⟩;exact a8 rfl rfl rfl (aa (aA (a' B rfl rfl (de B ha))) (aa (aA (aY (bO hc) rfl)) (aa (aA (aY (lF ⟨by decide,by decide⟩ h2 h2.1) rfl)) (aa (av (a' B rfl rfl (ik (q:=some (0 - 1)) B q.sh)) rfl) (aa (av rfl rfl) (aa (av (fk rfl) rfl) (aa (bl (aY (iK B.app q.m) rfl) (dO (Fj jl)) lp) (pg rfl (ph rfl) (aM (aF (bv rfl))))))))))) (Gx σ _)
theorem Ah (B:Bk σ n S) (sh:Sh S) (ha:a.1∈S.names) (hc:bh a.2=true) (h1:bq t):CC (d+2) false 61 [.p n 0,.d (.str a.1),.d (.str a.2),.d (.int t)] σ=some (.ok (.d (.int (fp S a t))),σ):=
 a8 rfl rfl rfl (aa (aA (a' B rfl rfl (de B ha))) (aa (aA (aY (bO hc) rfl)) (aa (aA (aY (cJ h1) rfl)) (aM (aF (a' B rfl rfl (ik (d:=d) (q:=some t) B sh))))))) (tk _)
end
noncomputable def kY (x:n4):D:=.tup [.str x.1,.str x.2]
theorem Hw {a b:n4} (h:kY a=kY b):a=b:=by
 injection h with h;injection h with h1 h2;injection h1 with h1;injection h2 with h2 _;injection h2 with h2;exact Prod.ext h1 h2
def RK (A C:List Tx) (x:D):Prop:=∃ a:n4,x=kY a/\a.1∈A/\a.2∈C
structure Dk (A C:List Tx) (k:Nat) (s:List D×List D):Prop where
 l:s.1.length<=k
 nd:s.1.Nodup
 p:∀ x∈s.1,RK A C x
section
variable {k x:D}
open Classical in
theorem AL:∀ {ks:List D},x∈fR k ks->x=k∨x∈ks:=by
 intro ks
 induction ks with
 |nil=>exact fun h=>.inl (So.mp h)
 |cons y ks ih=>
  intro h;have h:x∈if y=k then y::ks else y::fR k ks:=h;by_cases q:y=k
  .rw[if_pos q] at h;exact .inr h
  .rw[if_neg q] at h;exact (Sj.mp h).elim (fun e=>.inr (e ▸ .head _)) fun h=>(ih h).imp id (.tail _)
open Classical in
theorem Km:∀ {ks:List D},ks.Nodup->(fR k ks).Nodup/\(fR k ks).length<=ks.length+1:=by
 intro ks
 induction ks with
 |nil=>exact fun _=>⟨S6.mpr ⟨SF,S9⟩,Sv _⟩
 |cons y ks ih=>
  intro h;have i:=ih (S6.mp h).2;show (if y=k then y::ks else y::fR k ks).Nodup/\(if y=k then y::ks else y::fR k ks).length<=_;by_cases q:y=k
  .rw[if_pos q];exact ⟨h,S5 _⟩
  .rw[if_neg q];exact ⟨S6.mpr ⟨fun z=>(AL z).elim q (S6.mp h).1,i.1⟩,Tj i.2⟩
theorem Ks (nd:ks.Nodup) (h:∀ x∈ks,RK A C x) (hA:A.length<=7) (hC:C.length<=8):ks.length<64:=by
 have:=nd.length_le_of_subset (l₂:=A.flatMap fun a=>C.map fun c=>kY (a,c)) fun x hx=>by
  obtain ⟨a,rfl,h1,h2⟩:=h x hx;exact List.mem_flatMap.mpr ⟨a.1,h1,SA.mpr ⟨a.2,h2,rfl⟩⟩
 rw[List.length_flatMap] at this;have e:(A.map fun a=>(C.map fun c=>kY (a,c)).length).sum=A.length*C.length:=by
  clear this hA h
  induction A with
  |nil=>rw[Tb,Nat.zero_mul];rfl
  |cons a A ih=>rw[List.map_cons,List.sum_cons,ih,Sg,Sq,Nat.add_mul,Nat.one_mul,Nat.add_comm]
 have:=Nat.mul_le_mul hA hC;exact M2 (by assumption) e this
end
noncomputable def Md (_:i_) (s:List D×List D) (l:bG):List D×List D:=(fR (kY (l.1,l.2.1)) s.1,ly (kY (l.1,l.2.1)) (.bool true) s.1 s.2)
section
variable {f:Int} {e:i_} {a:n4}
theorem DW {i a:CE} {k:D} (h1:Ev K a ρ σ (.d v)) (h2:Ev K o ρ σ (.p n j)) (h3:Ev K i ρ σ (.d k)) (hf:ck σ n j=some (.dict ks vs)) (hp:Bi k ks=true) (hl:ks.length<100000):(Jd o i a).ex K ρ σ=some (.next ρ,dH σ n j (.dict (fR k ks) (ly k v ks vs))):=by
 refine cN h1 (cN h2 (cN h3 ?_));show ((ck σ n j).bind fun f=>(AB k v f).map fun f'=>dH σ n j f').bind _=_;rw[hf,Si];show ((au (Bi k ks=true/\ks.length<100000) _).map _).bind _=_;rw[aS ⟨hp,hl⟩];rfl
theorem Jk {s:List D×List D} {l:bG} (hl:Gv A C l) (h:Dk A C k s):Dk A C (k+1) (Md e s l):=by
 have i:=Km (k:=kY (l.1,l.2.1)) h.nd;exact ⟨Ss i.2 (Tj h.l),i.1,fun x hx=>(AL hx).elim (fun z=>⟨_,z,hl.1,hl.2.1⟩) (h.p x)⟩
theorem Dk.mono {s:List D×List D} (h:k<=j) (p:Dk A C k s):Dk A C j s:=⟨Ss p.l h,p.nd,p.p⟩
noncomputable abbrev pR (n:Nat) (t:Int) (r:Nat) (o:Option PV×Option PV):bg:=[qV n,iV t,qV r,o.1,o.2]
theorem Hf {s:List D×List D} {l:bG} (h:Dk A C k s) (hk:k<=60000):jB.ex K (pR n t σ.length (dV (dt e),dV (bF l))) (σ++[.fld (.dict s.1 s.2)])=some (.next (pR n t σ.length (dV (dt e),dV (bF l))),σ++[.fld (.dict (Md e s l).1 (Md e s l).2)]):=by
 have e6:Ev K (bx (aj (sub (ag 4) (ah 0)) (aj (sub (ag 4) (ah 1)) ao))) (pR n t σ.length (dV (dt e),dV (bF l))) (σ++[.fld (.dict s.1 s.2)]) (.d (kY (l.1,l.2.1))):=bv (cP (cC 0 rfl rfl) (cl1 (cC 1 rfl rfl)));have q:=DW (K:=K) (ρ:=pR n t σ.length (dV (dt e),dV (bF l))) (σ:=σ++[.fld (.dict s.1 s.2)]) (o:=ag 2) (a:=co true) (v:=.bool true) rfl rfl e6 cV (show Bi (kY (l.1,l.2.1)) s.1=true from List.all_eq_true.mpr fun x hx=>by obtain ⟨a,rfl,_⟩:=h.p x hx;rfl) (SJ (Ss h.l hk) (by decide));rw[dZ] at q;exact aa q rfl
noncomputable def N' (S:St) (t:Int):List D×List D:=(jE S.made 0 t).foldl (gE Md) ([],[])
theorem RI:Dk A C 0 ([],[]):=⟨Sv _,S9,aW⟩
theorem jq (q:Rq S A C):(∀ e∈jE S.made f t,Ml (Gv A C) e)/\(jE S.made f t).length<=900:=⟨fun e he=>q.e e (Fg he),Ss Fh (by have:=q.m;exact Ss (Tp this) (Sp rfl))⟩
theorem Kq (q:Rq S A C):Dk A C (60*(0+(jE S.made 0 t).length)) (N' S t):=iE (P:=fun k s=>Dk A C (60*k) s) (LE (q:=Gv A C) (g:=Md) (P:=Dk A C) Dk.mono fun e k s l hl h=>Jk hl h) (jE S.made 0 t) 0 ([],[]) (jq q).1 RI
theorem Ez (q:Rq S A C):∃ o,dq (.d (.lst ((jE S.made 0 t).map dt))) (.lst ((jE S.made 0 t).map dt)) 3 (fun ρ=>jA.ex (KK d false) ρ) ((jE S.made 0 t).map dt) (pR n t σ.length (none,none)) (σ++[.fld (.dict [] [])])=some (.next (pR n t σ.length o),σ++[.fld (.dict (N' S t).1 (N' S t).2)]):=
 u9 (le:=3) (ll:=4) (P:=Dk A C) (q:=Gv A C) (g:=Md) (mk:=fun _=>pR n t σ.length) (st:=fun s=>σ++[.fld (.dict s.1 s.2)]) Dk.mono (fun e k s l hl h=>Jk hl h) (fun _ _ _=>rfl) (fun _ _ _=>rfl) (fun _ _ _=>rfl) (fun e k s l _ hp hk=>Hf hp hk) (jq q).1 (jq q).2 ([],[]) (none,none) RI
theorem ta (q:Rq S A C):∃ L:List n4,(∀ a∈L,a.1∈A/\a.2∈C)/\L.length<64/\∀ d σ n,Bk σ n S->CC (d+2) false 127 [.p n 0,.d (.int t)] σ=some (.ok (.d (.lst (L.map kY))),σ):=by
 have dk:=Kq (t:=t) q;have lp:=fun d n (σ:az)=>Ez (d:=d) (n:=n) (σ:=σ) (t:=t) q;generalize N' S t=s at dk lp;have few:=Ks dk.nd dk.p q.a q.c;have es:s.1=(s.1.map DC).map kY:=by
  rw[List.map_map];exact (List.map_id' s.1).symm.trans (List.map_congr_left fun x hx=>by obtain ⟨a,rfl,_⟩:=dk.p x hx;rfl)
 refine ⟨d4 Oj (s.1.map DC) (s.1.map DC),fun a ha=> ?_,SJ vQ (by rw[Sg];exact few),fun d σ n B=> ?_⟩
 .obtain ⟨x,hx,rfl⟩:=SA.mp (vO ha);obtain ⟨a,rfl,h⟩:=dk.p x hx;exact h
 .obtain ⟨o,lp⟩:=lp (d+1) n σ;refine a8 rfl rfl rfl (aa (av (v:=.p σ.length 0) (σ':=σ++[PO.fld (.dict [] [])]) (ρ':=pR n t σ.length (none,none)) rfl rfl) (aa (bl (aY (iK B.app q.m) rfl) (dO (Fj (jq q).2)) lp) (aM (aF (ca (cl1 rfl) ?_))))) (Gx σ [.fld (.dict s.1 s.2)]);show ((rd (σ++[.fld (.dict s.1 s.2)]) (.p σ.length 0)).bind fun u=>(D3 u).map fun z=>(R.ok (PV.d z),σ++[PO.fld (.dict s.1 s.2)]))=_;rw[ub rfl,Si,<-vP,<-es];show (au (s.1.all qA=true/\s.1.length<64) _).map _=_;rw[aS ⟨List.all_eq_true.mpr fun x hx=>by obtain ⟨a,rfl,_⟩:=dk.p x hx;rfl,few⟩];rfl
end
noncomputable def g8 (x:n4×Int):D:=.tup [.str x.1.1,.str x.1.2,.int x.2]
def Gs (x:n4×Int):Prop:=bh x.1.2=true/\x.2.natAbs<=2^120
noncomputable def Kb (S:St) (t:Int) (X:List (n4×Int)) (a:n4):List (n4×Int):=if fp S a t=0 then X else X++[(a,fp S a t)]
def Oo (k:Nat) (X:List (n4×Int)):Prop:=X.length<=k/\∀ x∈X,Gs x
noncomputable def Oh (a:n4) (_:i_) (s:Int×Int) (l:bG):Int×Int:=(if (l.1,l.2.1)=a/\0<l.2.2 then s.1+l.2.2 else s.1,if (l.1,l.2.1)=a/\l.2.2<0 then s.2 - l.2.2 else s.2)
noncomputable def KT (S:St) (a:n4) (f t:Int):Int×Int:=(jE S.made f t).foldl (gE (Oh a)) (0,0)
noncomputable def MD (S:St) (f t:Int) (a:n4):D:=.tup [.str a.1,.str a.2,.int (fp S a (f - 1)),.int (KT S a f t).1,.int (KT S a f t).2,.int (fp S a (f - 1)+(KT S a f t).1 - (KT S a f t).2)]
section
variable {f:Int} {e:i_} {a:n4}
theorem IU {s:Int} {l:bG} (hl:c7 l.2.2=true) (h:s.natAbs<=k*10^30):(xX a.1 a.2 s l).natAbs<=(k+1)*10^30:=by
 have h2:=S3 (ai (an hl));have h3:=S3 (an (an hl));have hx:l.2.2.natAbs<=10^30:=PJ h2 h3;rw[Nat.succ_mul];unfold xX;split
 .exact Ss (Int.natAbs_add_le _ _) (Nat.add_le_add h hx)
 .exact Ss h (Tf _ _)
theorem J0 (q:Rq S A C):(fp S a t).natAbs<=2^120:=by
 have h:=iE (P:=fun k (s:Int)=>s.natAbs<=60*k*10^30) (g:=Am a.1 a.2 (some t)) (Q:=Ml (Gv A C)) (fun k s e he hs=>by
  have:=he.1;unfold Am;split
  .have h:=iE (P:=fun k (s:Int)=>s.natAbs<=k*10^30) (g:=xX a.1 a.2) (Q:=Gv A C) (fun k s l hl hs=>IU hl.2.2 hs) e.lines (60*k) s he.2 hs;exact Ss h (Nat.mul_le_mul_right _ (S0 this _))
  .exact Ss hs (Nat.mul_le_mul_right _ (M1))) S.made 0 0 q.e (SN _)
 exact Ss h (Ss (Nat.mul_le_mul_right _ (show 60*(0+S.made.length)<=3840 by have:=q.m;exact Ss (To _ (S0 (Tp this) _)) (Sp rfl))) (by decide))
theorem Jc (q:Rq S A C) {X:List (n4×Int)} (ha:a.1∈A/\a.2∈C) (h:Oo k X):Oo (k+1) (Kb S t X a):=by
 unfold Kb;split
 .exact ⟨SM h.1,h.2⟩
 .exact ⟨by rw[Sk];exact Tj h.1,fun x hx=>(SC.mp hx).elim (h.2 x) fun z=>by rw[So.mp z];exact ⟨q.ic _ ha.2,J0 q⟩⟩
noncomputable abbrev hR (n:Nat) (t:Int) (k:Nat) (o:Option PV×Option PV):bg:=[qV n,iV t,qV k,o.1,o.2]
theorem sZ (q:Rq S A C) (ht:bq t):∃ X:List (n4×Int),(∀ x∈X,Gs x)/\X.length<64/\∀ d σ n,Bk σ n S->CC (d+3) false 128 [.p n 0,.d (.int t)] σ=some (.ok (.d (.lst (X.map g8))),σ):=by
 obtain ⟨L,hL,l6,pr⟩:=ta (t:=t) q;have hp:=iE (P:=Oo) (g:=Kb S t) (fun k s a ha h=>Jc q ha h) L 0 [] hL ⟨Sv _,aW⟩;rw[Td] at hp;refine ⟨L.foldl (Kb S t) [],hp.2,SJ hp.1 l6,fun d σ n B=> ?_⟩;obtain ⟨o,lp⟩:=mV (v:=.d (.lst (L.map kY))) (y:=.lst (L.map kY)) (i:=3) (M:=100) (b:=fun ρ=>nJ.ex (KK (d+2) false) ρ) (f:=kY) (P:=Oo) (Q:=fun a=>a.1∈A/\a.2∈C) (g:=Kb S t) (mk:=fun _=>hR n t σ.length) (st:=fun X=>σ++[.fld (.list (X.map g8))]) (fun _=>rfl) (fun k s a ha h=>Jc q ha h) (fun k X a c ha h hk=>by
  have B':Bk (σ++[.fld (.list (X.map g8))]) n S:=B.app;have e4:Ev (KK (d+2) false) (meth (ag 0) 26 (aj (sub (ag 3) (ah 0)) (aj (sub (ag 3) (ah 1)) (aj (ag 1) ao)))) (hR n t σ.length (dV (kY a),c.2)) (σ++[.fld (.list (X.map g8))]) (.d (.int (fp S a t))):=a' B' rfl (cP (cC 0 rfl rfl) (cP (cC 1 rfl rfl) (cl1 rfl))) (ik (d:=d+1) (a:=a.1) (c:=a.2) (q:=some t) B' q.sh);refine ⟨(dV (kY a),iV (fp S a t)),?_⟩;unfold Kb;by_cases z:fp S a t=0
  .rw[if_pos z];exact aa (av e4 rfl) (aa (aX (ak rfl rfl rfl rfl (n9 z)) rfl) rfl)
  .rw[if_neg z];have ap:=cb (K:=KK (d+2) false) (ρ:=hR n t σ.length (dV (kY a),iV (fp S a t))) (o:=ag 2) (a:=bx (aj (sub (ag 3) (ah 0)) (aj (sub (ag 3) (ah 1)) (aj (ag 4) ao)))) (y:=g8 (a,fp S a t)) (l:=X.map g8) (σ:=σ++[.fld (.list (X.map g8))]) rfl (bv (cP (cC 0 rfl rfl) (cP (cC 1 rfl rfl) (cl1 rfl)))) cV (by rw[Sg];exact db (Ss h.1 (MN hk)));rw[dZ,show X.map g8++[g8 (a,fp S a t)]=(X++[(a,fp S a t)]).map g8 by rw[List.map_append];rfl] at ap;exact aa (av e4 rfl) (aa (bP (ak rfl rfl rfl rfl (we z)) (aa (aA ap) rfl)) rfl)) L 0 [] (none,none) hL ⟨Sv _,aW⟩ (Jq l6)
 exact tG (f':=.list ((L.foldl (Kb S t) []).map g8)) (m:=σ.length) rfl rfl rfl (aa (aA (aY (cJ ht) rfl)) (aa (av (fk rfl) rfl) (aa (bl (aY (pr (d) _ n B.app) rfl) (dO (if_pos (by rw[Sg];exact bo (o4 l6)))) lp) (aM (aF rfl))))) (Sv _) dG (Gx σ _)
theorem xu {b:n4} (h:b=a):dp.g (kY b) (kY a)=some true:=FL (by rw[h]) rfl rfl
theorem JF {b:n4} (h:b≠a):dp.g (kY b) (kY a)=some false:=JG (fun q=>h (Hw q)) rfl rfl rfl
noncomputable abbrev mR (n:Nat) (a:n4) (f t:Int) (s:Int×Int) (o:Option PV×Option PV):bg:=[qV n,dV (kY a),iV f,iV t,iV s.1,iV s.2,o.1,o.2]
theorem Hr {s:Int×Int} {l:bG} {o:Option PV}:jC.ex K (mR n a f t s (o,dV (bF l))) σ=some (.next (mR n a f t (Oh a e s l) (o,dV (bF l))),σ):=by
 have e1:∀ s,Ev K (bx (aj (sub (ag 7) (ah 0)) (aj (sub (ag 7) (ah 1)) ao))) (mR n a f t s (o,dV (bF l))) σ (.d (kY (l.1,l.2.1))):=fun _=>bv (cP (cC 0 rfl rfl) (cl1 (cC 1 rfl rfl)));have e2:∀ s,Ev K (sub (ag 7) (ah 2)) (mR n a f t s (o,dV (bF l))) σ (.d (.int l.2.2)):=fun _=>cC 2 rfl rfl;unfold Oh;by_cases q:(l.1,l.2.1)=a
 .by_cases z:0<l.2.2
  .rw[if_pos ⟨q,z⟩,if_neg fun h=>absurd h.2 (by omega)];exact aa (bP (ci (cQ (ak (e1 _) rfl rfl rfl (xu q)) (cQ (ak (e2 _) rfl rfl rfl (zx z)) rfl))) (aa (av (dU rfl (e2 _)) rfl) rfl)) (aa (aX (ci (cQ (ak (e1 (_,_)) rfl rfl rfl (xu q)) (eX (ak (e2 (_,_)) rfl rfl rfl (j_ (Tn.mpr (Ti z))))))) rfl) rfl)
  .rw[if_neg fun h=>z h.2];refine aa (aX (ci (cQ (ak (e1 _) rfl rfl rfl (xu q)) (eX (ak (e2 _) rfl rfl rfl (ol z))))) rfl) (aa ?_ rfl);by_cases y:l.2.2<0
   .rw[if_pos ⟨q,y⟩];exact bP (ci (cQ (ak (e1 _) rfl rfl rfl (xu q)) (cQ (ak (e2 _) rfl rfl rfl (CQ y)) rfl))) (aa (av (aO rfl (e2 _) rfl rfl rfl) rfl) rfl)
   .rw[if_neg fun h=>y h.2];exact aX (ci (cQ (ak (e1 _) rfl rfl rfl (xu q)) (eX (ak (e2 _) rfl rfl rfl (j_ y))))) rfl
 .rw[if_neg fun h=>q h.1,if_neg fun h=>q h.1];exact aa (aX (ci (eX (ak (e1 _) rfl rfl rfl (JF q)))) rfl) (aa (aX (ci (eX (ak (e1 _) rfl rfl rfl (JF q)))) rfl) rfl)
theorem Cq (B:Bk σ n S) (q:Rq S A C):CC (d+2) false 146 [.p n 0,.d (kY a),.d (.int f),.d (.int t)] σ=some (.ok (.d (.tup [.int (KT S a f t).1,.int (KT S a f t).2])),σ):=by
 obtain ⟨o,lp⟩:=u9 (d:=d+1) (v:=.lst ((jE S.made f t).map dt)) (cs:=jC) (le:=6) (ll:=7) (P:=fun _ _=>True) (q:=Gv A C) (g:=Oh a) (mk:=mR n a f t) (st:=fun _=>σ) (fun _ h=>h) (fun _ _ _ _ _ h=>h) (fun _ _ _=>rfl) (fun _ _ _=>rfl) (fun _ _ _=>rfl) (fun e k s l _ _ _=>Hr) (jq q).1 (jq q).2 (0,0) (none,none) trivial;exact a8 rfl rfl rfl (aa (av rfl rfl) (aa (av rfl rfl) (aa (bl (aY (iK B q.m) rfl) (dO (Fj (jq q).2)) lp) (aM (aF (bv rfl)))))) (tk _)
noncomputable abbrev dR (n:Nat) (k t f:Int) (r:Nat) (o:Option PV×Option PV×Option PV):bg:=[qV n,iV k,iV t,iV f,qV r,o.1,o.2.1,o.2.2]
theorem Bt {x:CE} (B:Bk σ n S) (sh:Sh S) (h:Ev K x ρ σ (.p n 0)) (hk:Ev K ke ρ σ (.d (.int k))) (ht:S.ends[k]? =some t):Ev K (sub (b_ x 5) ke) ρ σ (.d (.int t)):=
 bc (me B h) hk (oQ B) rfl (b7 (by rw[SB,ht];rfl) (by have:=(Sl.mp ht).1;have:=sh.e;exact MR (by assumption) this))
theorem Jm {rs:List D} (h:Pv k rs):Pv (k+1) (rs++[MD S f t a]):=h.app (gN (aQ jo (aQ jo (aQ cE (aQ cE (aQ cE (aQ cE aW)))))))
theorem yz (q:Rq S A C) (hk:k<S.ends.length):∃ v,pl 7 v=true/\∀ d σ n,Bk σ n S->CC (d+3) false 147 [.p n 0,.d (.int ((k:Int)+1))] σ=some (.ok (.d v),σ):=by
 have ek:=Sn hk;generalize S.ends[k]=t at ek;obtain ⟨L,hL,l6,pr⟩:=ta (t:=t) q;obtain ⟨f,hf⟩:∃ f,∀ d σ n,Bk σ n S->lR.ex (KK d false) [qV n,iV ((k:Int)+1),iV t,iV 0,none,none,none,none] σ=some (.next [qV n,iV ((k:Int)+1),iV t,iV f,none,none,none,none],σ):=by
  cases k with
  |zero=>exact ⟨0,fun d σ n B=>rfl⟩
  |succ j=>
   refine ⟨S.ends[j]+1,fun d σ n B=>bP (ak rfl rfl rfl rfl (zx (OW))) (aa (av (dU (Bt (k:=j) B q.sh rfl ?_ (Sn (SY hk))) rfl) rfl) rfl)⟩;have m2:=aO (K:=KK d false) (ρ:=[qV n,iV (((j+1:Nat):Int)+1),iV t,iV 0,none,none,none,none]) (σ:=σ) (o:=c_) (a:=ag 1) (b:=ah 2) (x:=.d (.int (((j+1:Nat):Int)+1))) (y:=.d (.int 2)) rfl rfl rfl rfl rfl;rw[show D.int (((j+1:Nat):Int)+1 - 2)= .int j from congrArg D.int (OX)] at m2;exact m2
 have pv:=iE (P:=Pv) (g:=fun rs a=>rs++[MD S f t a]) (Q:=fun _=>True) (fun k s a _ h=>Jm h) L 0 [] (fun _ _=>trivial) ⟨Sv _,aW⟩;refine ⟨.tup [.int f,.int t,.lst (L.foldl (fun rs a=>rs++[MD S f t a]) [])],gN (aQ cE (aQ cE (aQ (mI fun x hx=>Jl (pv.2 x hx)) aW))),fun d σ n B=> ?_⟩;obtain ⟨o,lp⟩:=mV (v:=.d (.lst (L.map kY))) (y:=.lst (L.map kY)) (i:=5) (M:=100) (b:=fun ρ=>lT.ex (KK (d+2) false) ρ) (f:=kY) (P:=Pv) (Q:=fun _=>True) (g:=fun rs a=>rs++[MD S f t a]) (mk:=fun _=>dR n ((k:Int)+1) t f σ.length) (st:=fun rs=>σ++[.fld (.list rs)]) (fun _=>rfl) (fun k s a _ h=>Jm h) (fun j rs a c _ h hj=>by
  have B':Bk (σ++[.fld (.list rs)]) n S:=B.app;have mv:=Cq (d:=d) (a:=a) (f:=f) (t:=t) B' q;unfold MD;generalize KT S a f t=w at mv;have ap:=cb (K:=KK (d+2) false) (ρ:=dR n ((k:Int)+1) t f σ.length (dV (kY a),iV (fp S a (f - 1)),dV (.tup [.int w.1,.int w.2]))) (o:=ag 4) (a:=bx (aj (sub (ag 5) (ah 0)) (aj (sub (ag 5) (ah 1)) (aj (ag 6) (aj (sub (ag 7) (ah 0)) (aj (sub (ag 7) (ah 1)) (aj (aK c_ (aK a9 (ag 6) (sub (ag 7) (ah 0))) (sub (ag 7) (ah 1))) ao))))))) (y:=.tup [.str a.1,.str a.2,.int (fp S a (f - 1)),.int w.1,.int w.2,.int (fp S a (f - 1)+w.1 - w.2)]) (l:=rs) (σ:=σ++[.fld (.list rs)]) rfl (bv rfl) cV (db (Ss h.1 (MN hj)));rw[dZ] at ap;exact ⟨(dV (kY a),iV (fp S a (f - 1)),dV (.tup [.int w.1,.int w.2])),aa (av (a' B' rfl rfl (ik (d:=d+1) (a:=a.1) (c:=a.2) (q:=some (f - 1)) B' q.sh)) rfl) (aa (av (aY mv rfl) rfl) (aa (aA ap) rfl))⟩) L 0 [] (none,none,none) (fun _ _=>trivial) ⟨Sv _,aW⟩ (Jq l6)
 have m1:=aO (K:=KK (d+2) false) (ρ:=[qV n,iV ((k:Int)+1),none,none,none,none,none,none]) (σ:=σ) (o:=c_) (a:=ag 1) (b:=ah 1) (x:=.d (.int ((k:Int)+1))) (y:=.d (.int 1)) rfl rfl rfl rfl rfl;rw[show D.int ((k:Int)+1 - 1)= .int k from congrArg D.int (Int.add_sub_cancel _ _)] at m1;exact a8 rfl rfl rfl (aa (aX (bN (bz rfl (bz (ak rfl (a' B rfl rfl (ny B q.sh)) rfl rfl (ol (Tn.mpr (SV.mpr hk)))) rfl))) rfl) (aa (av (Bt B q.sh rfl m1 ek) rfl) (aa rfl (aa (hf _ _ _ B) (aa rfl (aa (bl (aY (pr _ _ n B.app) rfl) (dO (if_pos (by rw[Sg];exact bo (o4 l6)))) lp) (pg rfl (ph rfl) rfl))))))) (Gx σ _)
end
section
theorem Bu (h1:0<b) (h2:b.toNat<2^k) (hk:k<=8000):jJ b=true:=by
 have h3:(2:Nat)^k<=2^9000:=Nat.pow_le_pow_right (by decide) (Ss hk (by decide));have h4:b.natAbs<2^9000:=SJ (Ta (Int.ofNat_inj.mp ((Int.natAbs_of_nonneg (Ti h1)).trans (SZ (Ti h1)).symm))) (SK h2 h3);show (b !=0&&decide (b.natAbs<2^9000))=true;rw[Sz h4,Bool.and_true];exact bne_iff_ne.mpr (Int.ne_of_gt h1)
theorem LC {a:Int} (h1:0<b) (h2:b.toNat<2^k) (hk:k<=8000):bA.g (.int a) (.int b)=some (.int (a.fmod b)):=by
 show (au (jJ b=true) (a.fmod b)).map _=_;rw[aS (Bu h1 h2 hk)];rfl
theorem Fw {a:Int} (h1:0<b) (h2:b.toNat<2^k) (hk:k<=8000):bY.g (.int a) (.int b)=some (.int (a.fdiv b)):=by
 show (au (jJ b=true) (a.fdiv b)).map _=_;rw[aS (Bu h1 h2 hk)];rfl
noncomputable abbrev cR (a b:Int) (x:Option PV):bg:=[iV a,iV b,x]
theorem u7 {a:Int} {x:Option PV} {z:Option (Out×az)} (h1:0<b) (h2:b.toNat<2^k) (hk:k<=8000) (h:fO (aJ gU (ag 1) (ah 0)) dc K N (cR b (a.fmod b) (iV (a.fmod b))) σ=z):fO (aJ gU (ag 1) (ah 0)) dc K (N+1) (cR a b x) σ=z:=
 Mm (ak rfl rfl rfl rfl (we (Int.ne_of_gt h1))) (aa (av (aO rfl rfl rfl rfl (LC h1 h2 hk)) rfl) (aa (av rfl rfl) (aa (av rfl rfl) rfl))) h
theorem LK:∀ (k:Nat) (a b:Int) (N:Nat),0<=b->b.toNat<2^k->k<=8000->2*k+1<=N->∃ g:Int,(b=0->g=a)/\(0<b->0<g/\g<=b)/\∀ K σ x,∃ x',fO (aJ gU (ag 1) (ah 0)) dc K N (cR a b x) σ=some (.next (cR g 0 x'),σ):=by
 have z0:∀ (a:Int) (N:Nat),1<=N->∃ g:Int,((0:Int)=0->g=a)/\((0:Int)<0->0<g/\g<=0)/\∀ K σ x,∃ x',fO (aJ gU (ag 1) (ah 0)) dc K N (cR a 0 x) σ=some (.next (cR g 0 x'),σ):=fun a N h=>by
  obtain ⟨M,rfl⟩:∃ M,N=M+1:=⟨N - 1,by exact (Nat.sub_eq_iff_eq_add h).mp rfl⟩;exact ⟨a,fun _=>rfl,fun h=>absurd h (by decide),fun K σ x=>⟨x,Mn (ak rfl rfl rfl rfl (n9 rfl))⟩⟩
 intro k
 induction k with
 |zero=>
  intro a b N h0 h1 _ hN;obtain rfl:b=0:=by have:b.toNat<1:=h1;exact Int.le_antisymm (Int.toNat_eq_zero.mp (Nat.lt_one_iff.mp h1)) h0
  exact z0 a N (Nat.one_le_of_lt hN)
 |succ k ih=>
  intro a b N h0 h1 hk hN;by_cases z:b=0
  .subst z;exact z0 a N (Nat.one_le_of_lt hN)
  have b0:0<b:=PL h0 z;obtain ⟨M,rfl⟩:∃ M,N=M+2:=⟨N - 2,by exact (Nat.sub_add_cancel (Ss (Ss (Nat.le_add_left 2 _) (S5 _)) hN)).symm⟩;have r:=aZ (a:=a) b0;have e2:(2:Nat)^(k+1)=2^k*2:=Nat.pow_succ ..;by_cases z1:(a.fmod b).toNat<2^k
  .obtain ⟨g,g1,g2,i⟩:=ih b (a.fmod b) (M+1) r.1 z1 (Nat.le_of_succ_le hk) (M0 hN);refine ⟨g,fun h=>absurd h z,fun _=> ?_,fun K σ x=>(i K σ _).imp fun x' e=>u7 b0 h1 hk e⟩;by_cases y:a.fmod b=0
   .rw[g1 y];exact ⟨b0,Int.le_refl _⟩
   .have:=g2 (by omega);exact ⟨this.1,SS this.2 (Ti r.2)⟩
  .have i:∀ K σ x N z,fO (aJ gU (ag 1) (ah 0)) dc K N (cR b (a.fmod b) (iV (a.fmod b))) σ=z->fO (aJ gU (ag 1) (ah 0)) dc K (N+1) (cR a b x) σ=z:=fun K σ x N z h=>u7 b0 h1 hk h;generalize a.fmod b=q at r z1 i;have p0:0<2^k:=Nat.pow_pos (by decide:0<2);rw[e2] at h1;have q0:0<q:=by exact Int.lt_toNat.mp (SK p0 (Tm.mp z1))
   have fm:b.fmod q=b - q:=by
    rw[Int.fmod_eq_emod_of_nonneg b (Ti q0),<-Int.sub_emod_right,Int.emod_eq_of_lt (Int.sub_nonneg_of_le (Ti r.2)) ((tA h1 z1).2)]
   obtain ⟨g,g1,g2,j⟩:=ih q (b - q) M (Int.sub_nonneg_of_le (Ti r.2)) ((tA h1 z1).1) (Nat.le_of_succ_le hk) (MZ hN);refine ⟨g,fun h=>absurd h z,fun _=> ?_,fun K σ x=>(j K σ (iV (b - q))).imp fun x' e=>i K σ x _ _ (u7 (k:=k+1) q0 (by omega) hk (by rw[fm];exact e))⟩;by_cases y:b - q=0
   .rw[g1 y];exact absurd y (Int.ne_of_gt (Int.sub_pos_of_lt r.2))
   .have:=g2 (Int.sub_pos_of_lt r.2);exact ⟨this.1,SS this.2 (Int.sub_le_self _ (Ti q0))⟩
theorem za {a:Int} (h0:0<b) (h1:b.toNat<2^k) (hk:k<=8000):∃ v,pl 7 v=true/\∀ d hd σ,CC (d+2) hd 132 [.d (.int a),.d (.int b)] σ=some (.ok (.d v),σ):=by
 obtain ⟨g,_,g2,i⟩:=LK k (if a<0 then -a else a) b 100000 (Ti h0) h1 hk (Ss (Tj (To 2 hk)) (by decide));have g2:=g2 h0;refine ⟨.tup [.int (a.fdiv g),.int (b.fdiv g)],gN (aQ cE (aQ cE aW)),fun d hd σ=> ?_⟩;obtain ⟨x,e⟩:=i (KK d hd) σ none;have cr:CC (d+1) hd 131 [.d (.int (if a<0 then -a else a)),.d (.int b)] σ=some (.ok (.d (.int g)),σ):=a8 rfl rfl rfl (aa e (aM (aF rfl))) (tk _);exact a8 rfl rfl rfl (aa (av (aB (cP (ca (cl1 rfl) rfl) (cl1 rfl)) cr) rfl) (aM (aF (bv (cP (aO rfl rfl rfl rfl (Fw g2.1 (Jp h0 h1 (by assumption)) hk)) (cl1 (aO rfl rfl rfl rfl (Fw g2.1 (Jp h0 h1 (by assumption)) hk)))))))) (tk _)
end
def Bd (k:Nat) (s:Int×Int):Prop:=1<=s.2/\s.2.natAbs<=2^(30*k)
theorem Bd.step {s:Int×Int} {u y:Int} (h:Bd k s) (hy:1<=y/\y<=10^9):Bd (k+1) (u,s.2*y):=by
 have ya:y.natAbs<=2^30:=Rz hy;have p:=Int.mul_pos (show 0<s.2 by have:=h.1;exact o2 this) (show 0<y by exact PN hy);refine ⟨p,?_⟩;show (s.2*y).natAbs<=_;rw[Int.natAbs_mul,Nat.mul_succ,Nat.pow_add];exact Nat.mul_le_mul h.2 ya
theorem Bd.mono {s:Int×Int} (h:k<=j) (b:Bd k s):Bd j s:=⟨b.1,Ss b.2 (Nat.pow_le_pow_right (by decide) (To _ h))⟩
theorem Ht {a:Int} (hk:k<=8000) (ha:a.natAbs<2^k) (hb:b.natAbs<2^k):g9 a b=true:=by
 have lg:∀ n:Nat,n<2^k->n.log2<=k:=fun n h=>by
  by_cases z:n=0
  .rw[z];exact SN _
  .exact SY ((Nat.log2_lt z).mpr h)
 have h1:=lg _ ha;have h2:=lg _ hb;have h3:a.natAbs.log2+b.natAbs.log2+2<=2^27:=by
  clear ha hb;have:(2:Nat)^27=134217728:=by decide
  exact Ss (Nat.add_le_add_right (Nat.add_le_add (Ss h1 hk) (Ss h2 hk)) 2) (by decide)
 rw[g9,Sz h3,Bool.or_true]
noncomputable abbrev wR (n:Nat) (a:Tx) (t:Int) (s:Int×Int) (o:Option PV×Option PV):bg:=[qV n,sV a,iV t,iV s.1,iV s.2,o.1,o.2]
section
variable {a:Tx}
theorem KV {y x:Int} (hx:1<=x/\x<=10^9):g9 y x=true:=fj (Oc hx)
theorem QM {s:Int×Int} {v x:Int} (h:Bd k s) (hk:k<=64) (hv:v.natAbs<=2^120) (hx:1<=x/\x<=10^9):g9 (v*x) s.2=true:=by
 refine Ht (k:=2001) (by decide) ?_ (SJ (h.mono hk).2 (Nat.pow_lt_pow_right (by decide) (by decide)));rw[Int.natAbs_mul];have xa:x.natAbs<=2^30:=Rz hx;exact SJ (Nat.mul_le_mul hv xa) (by rw[<-Nat.pow_add];exact Nat.pow_lt_pow_right (by decide) (by decide))
theorem NB {v:PV} {x y:D} {c:Nat} {b:bg->az->Option (Out×az)} (h:b (ρ.set i (dV y)) σ=some (.ex c ρ',σ')):dq v x i b (y::l) ρ σ=some (.ex c ρ',σ'):=by
 show (match b (ρ.set i (dV y)) σ with
  |some (.next ρ',σ')=>if bI σ' x v then dq v x i b l ρ' σ' else none
  |z=>z)=_
 rw[h]
theorem ye (T:rM S rs mm) (hh:bh S.home=true) (hn:bq t) (hr:rs.length<=900) (hw:∀ x∈rs,An x):∀ (X:List (n4×Int)) (k:Nat) (s:Int×Int),Bd k s->k+X.length<=64->(∀ x∈X,Gs x)->∃ r:Option (Int×Int),(∀ z,r=some z->Bd 64 z)/\∀ d σ n v o,Bk σ n S->∃ ρ' o',dq (.d v) v 5 (fun ρ=>jz.ex (KK (d+2) false) ρ) (X.map g8) (wR n a t s o) σ=r.elim (some (.ex 13 ρ',σ)) fun z=>some (.next (wR n a t z o'),σ):=by
 intro X
 induction X with
 |nil=>exact fun k s b hk _=>⟨some s,fun z h=>by cases h;exact b.mono hk,fun d σ n v o _=>⟨[],o,rfl⟩⟩
 |cons x X ih=>
  intro k s b hk ok;rw[Sq] at hk;have ox:=ok x (.head _);have ok':=fun y hy=>ok y (.tail _ hy);by_cases z:x.1.1=a
  .have ra:=fun d σ n (B:Bk σ n S)=>lu (d:=d) (c:=x.1.2) (n:=t) B T hh ox.1 hn hr;have ts:∀ d σ n o,Ts (KK (d+2) false) (aJ dp (sub (ag 5) (ah 0)) (ag 1)) (wR n a t s (dV (g8 x),o)) σ true:=fun d σ n o=>ak rfl rfl rfl rfl (gj z);cases zr:e_ S.home rs x.1.2 t with
   |none=>
    rw[zr] at ra;exact ⟨none,nofun,fun d σ n v o B=>⟨_,o,NB (dA (bP (ts _ _ _ _) (dA (Gk (a' B rfl rfl (ra d σ n B))))))⟩⟩
   |some w=>
    rw[zr] at ra;have wo:=mF hw zr;obtain ⟨r,hr,i⟩:=ih (k+1) (s.1*w.2.2.2+x.2*w.2.2.1*s.2,s.2*w.2.2.2) (b.step wo.2) (Ss (Ta (Nat.succ_add _ _)) hk) ok';refine ⟨r,hr,fun d σ n v o B=> ?_⟩;obtain ⟨ρ',o',e⟩:=i d σ n v (dV (g8 x),dV (Gy w)) B;exact ⟨ρ',o',br (aa (bP (ts _ _ _ _) (aa (av (a' B rfl rfl (ra d σ n B)) rfl) (aa (av (dU (aO rfl rfl rfl rfl (hZ (KV wo.2))) (aO (aO rfl rfl rfl rfl (hZ (KV wo.1))) rfl rfl rfl (hZ (QM b (Ss (Tf _ _) hk) ox.2 wo.1)))) rfl) (aa (av (aO rfl rfl rfl rfl (hZ (KV wo.2))) rfl) rfl)))) rfl) rfl e⟩
  .obtain ⟨r,hr,i⟩:=ih k s b (SY hk) ok';refine ⟨r,hr,fun d σ n v o B=> ?_⟩;obtain ⟨ρ',o',e⟩:=i d σ n v (dV (g8 x),o.2) B;exact ⟨ρ',o',br (aa (aX (ak rfl rfl rfl rfl (eV z)) rfl) rfl) rfl e⟩
theorem Oq {b:CS} {h:CH} {v:PV} (h1:b.ex (KK d false) ρ σ=some (.ret v,σ')):(Ec b h).ex (KK d false) ρ σ=some (.ret v,σ'):=by
 show GO h (KK d false) (b.ex (KK d false) ρ σ)=_;rw[h1];rfl
theorem yd (q:Rq S A C) (T:rM S rs mm) (hh:bh S.home=true) (hr:rs.length<=900) (hw:∀ x∈rs,An x) (ha:a∈S.names) (hn:bq t):∃ v,pl 7 v=true/\∀ d σ n,Bk σ n S->CC (d+5) false 165 [.p n 0,.d (.str a),.d (.int t)] σ=some (.ok (.d v),σ):=by
 obtain ⟨X,ok,hl,sh⟩:=sZ (t:=t) q hn;obtain ⟨r,hz,lp⟩:=ye (a:=a) T hh hn hr hw X 0 (0,1) ⟨Int.le_refl _,Sv _⟩ (Ss (S0 (Tp hl) _) (Sp rfl)) ok;have lp:=fun d σ n (B:Bk σ n S)=>lp (d+1) σ n (.lst (X.map g8)) (none,none) B;have pre:∀ d σ n,Bk σ n S->∀ z,dq (.d (.lst (X.map g8))) (.lst (X.map g8)) 5 (fun ρ=>jz.ex (KK (d+3) false) ρ) (X.map g8) (wR n a t (0,1) (none,none)) σ=z->xd.ex (KK (d+3) false) [qV n,sV a,iV t,none,none,none,none] σ=nv z ((sC (aV (ax 132 (aj (ag 3) (aj (ag 4) ao)))) sN).ex (KK (d+3) false)):=fun d σ n B z hz=>aa (aA (a' B rfl rfl (de B ha))) (aa (aA (aY (cJ hn) rfl)) (aa rfl (aa rfl (by
  rw[<-bl (it:=ax 128 (aj (ag 0) (aj (ag 2) ao))) (aY (sh d σ n B) rfl) (dO (if_pos (by rw[Sg];exact bo (o4 hl)))) hz];rfl))))
 cases r with
 |none=>
  refine ⟨.none,rfl,fun d σ n B=> ?_⟩;obtain ⟨ρ',o',e⟩:=lp d σ n B;have w:CC (d+4) false 133 [.p n 0,.d (.str a),.d (.int t)] σ=some (.ex 13,σ):=fy (ρ':=ρ') rfl rfl rfl (pre d σ n B _ e) (tk _);exact a8 rfl rfl rfl (aM (GN (c:=13) (dA (jk (aY w rfl))) (by decide) rfl)) (tk _)
 |some z=>
  have b:=hz z rfl;obtain ⟨v,pv,lw⟩:=za (a:=z.1) (b:=z.2) (k:=2001) (o2 b.1) (SJ (Ss (by omega) b.2) (Nat.pow_lt_pow_right (by decide) (by decide))) (by decide);refine ⟨v,pv,fun d σ n B=> ?_⟩;obtain ⟨ρ',o',e⟩:=lp d σ n B;have w:CC (d+4) false 133 [.p n 0,.d (.str a),.d (.int t)] σ=some (.ok (.d v),σ):=a8 rfl rfl rfl ((pre d σ n B _ e).trans (aM (aF (aY (lw _ _ _) rfl)))) (tk _);exact a8 rfl rfl rfl (aM (Oq (aM (aF (aY w rfl))))) (tk _)
end
def Pw (k:Nat) (l:List D):Prop:=l.length<=k/\∀ x∈l,pl 7 x=true
theorem Pw.app {x:D} (h:Pw k l) (hx:pl 7 x=true):Pw (k+1) (l++[x]):=⟨by rw[Sk];exact Tj h.1,fun y hy=>(SC.mp hy).elim (h.2 y) fun q=>by rw[So.mp q];exact hx⟩
noncomputable def QX (Sh Wt:Int->D) (Sm:Int×Tx->D) (Ba:Tx->Int->Int) (cs:List Tx) (rs:List D) (t:Int):List D:=cs.foldl (fun rs c=>rs++[Sm (t,c)]++[.int (Ba c t)]) (rs++[Sh t]++[Wt t])
section
variable {c:Int} {rs:List D} {x:CE} {s:Tx}
noncomputable abbrev lS (σ:az) (l:List D):az:=σ++[.fld (.list l)]
theorem Au (h0:Ev K e ρ (lS σ rs) (.p σ.length 0)) (h:Ev K x ρ (lS σ rs) (.d v)) (hl:rs.length<=1000):(aP (bm aT e (aj x ao))).ex K ρ (lS σ rs)=some (.next ρ,lS σ (rs++[v])):=by
 have q:=cb (K:=K) (l:=rs) h0 h cV (db hl);rw[dZ] at q;exact aA q
theorem Ju {i:Int} {z:Tx} (R:Rk σ m p) (he:Ev K e ρ σ (.p m 0)) (hx:Ev K x ρ σ (.d (.int i))) (hs:bS i=true) (hp:cg i p.names.length=some k) (hz:p.names[k]? =some z):Ev K (sub (key e 0 s) x) ρ σ (.d (.str z)):=by
 refine bc (cK R he) hx (cB R) rfl ?_;rw[uK,aS hs,Si,Sg,hp,Si,SB,hz];rfl
theorem K8 (R:Rk σ m p) (he:Ev K e ρ σ (.p m 0)) (hl:p.names.length<=1000):Ev K (bi bf (aj (key e 0 s) ao)) ρ σ (.d (.int p.names.length)):=by
 have q:=fv (cK (s:=s) R he) (cB R) (by rw[Sg];exact hl);rw[Sg] at q;exact q
noncomputable abbrev gR (n m:Nat) (c cl:Int) (L:D) (r:Nat) (o:Option PV×Option PV):bg:=[qV n,qV m,iV c,iV cl,dV L,qV r,o.1,o.2,none]
structure Tv (S:St) (u:Tx) (Sh Wt:Int->D) (Sm:Int×Tx->D):Prop where
 s:∀ t,bq t->pl 7 (Sh t)=true/\∀ d σ n,Bk σ n S->CC (d+3) false 128 [.p n 0,.d (.int t)] σ=some (.ok (.d (Sh t)),σ)
 w:∀ t,bq t->pl 7 (Wt t)=true/\∀ d σ n,Bk σ n S->CC (d+5) false 165 [.p n 0,.d (.str u),.d (.int t)] σ=some (.ok (.d (Wt t)),σ)
 m:∀ t:Int×Tx,bq t.1/\bh t.2=true->pl 7 (Sm t)=true/\∀ d σ n,Bk σ n S->CC (d+3) false 164 [.p n 0,.d (.str cn),.d (.str t.2),.d (.int 0),.d (.int t.1)] σ=some (.ok (.d (Sm t)),σ)
theorem sk {P:α->Prop} {Q:α->D->Prop} (h:∀ a,P a->∃ v,Q a v):∃ F:α->D,∀ a,P a->Q a (F a):=⟨fun a=>@Classical.epsilon D ⟨.none⟩ (Q a),fun a ha=>Classical.epsilon_spec_aux ⟨.none⟩ (Q a) (h a ha)⟩
variable {u:Tx} {Sh Wt:Int->D} {Sm:Int×Tx->D} {cs:List Tx} {k:Int} {L:D}
theorem GY (q:Rq S A C) (ht:bq t):∃ v,pl 7 v=true/\∀ d σ n,Bk σ n S->CC (d+3) false 128 [.p n 0,.d (.int t)] σ=some (.ok (.d v),σ):=by
 obtain ⟨X,_,_,h⟩:=sZ q ht;exact ⟨.lst (X.map g8),mI (xU (q:=fun x=>pl 6 x=true) fun x _=>gN (aQ jo (aQ jo (aQ cE aW)))),h⟩
theorem Mp (q:Rq S A C) {rs:List Rw} (T:rM S rs mm) (hh:bh S.home=true) (hr:rs.length<=900) (hw:∀ x∈rs,An x) (hu:u∈S.names) (hE:cn∈S.names):∃ Sh Wt Sm,Tv S u Sh Wt Sm:=by
 obtain ⟨Sh,h1⟩:=sk (P:=bq) fun t h=>GY q h;obtain ⟨Wt,h2⟩:=sk (P:=bq) fun t h=>yd q T hh hr hw hu h;obtain ⟨Sm,h3⟩:=sk (P:=fun t:Int×Tx=>bq t.1/\bh t.2=true) fun t h=>DY (a:=(cn,t.2)) q hE h.2 h.1;exact ⟨Sh,Wt,Sm,h1,h2,h3⟩
noncomputable abbrev Q0 (S:St) (w:Tx) (Sm:Int×Tx->D) (t:Int) (rs:List D) (u:Tx):List D:=rs++[Sm (t,u)]++[.int (fp S (w,u) t)]
theorem NK (V:Tv S u Sh Wt Sm) (ht:bq t) (B:Nat):∀ j rs c,bh c=true->Pw (B+2*j) rs->Pw (B+2*(j+1)) (Q0 S w Sm t rs c):=fun j rs c hc h=>(h.app (V.m (t,c) ⟨ht,hc⟩).1).app cE
theorem NI (V:Tv S u Sh Wt Sm) (ccs:∀ u∈cs,bh u=true) (lcs:cs.length<=3):∀ j rs t,bq t->Pw (801+20*j) rs->Pw (801+20*(j+1)) (QX Sh Wt Sm (fun u t=>fp S (w,u) t) cs rs t):=fun j rs t ht h=>by
 have i:=iE (P:=fun i rs=>Pw (801+20*j+2+2*i) rs) (NK (w:=w) V ht (801+20*j+2)) cs 0 _ ccs ((h.app (V.s t ht).1).app (V.w t ht).1);exact ⟨Ss i.1 (by omega),i.2⟩
theorem FY (V:Tv S u Sh Wt Sm) (q:Rq S A C) (ccs:∀ u∈cs,bh u=true) (lcs:cs.length<=3) (ht:bq t) (hw:w∈S.names) (p1:cg (-1) p.names.length=some N) (hz:p.names[N]? =some w) (R:Rk σ m p) (B:Bk σ n S) (hj:j<=3) (h:Pw (801+20*j+2) rs) (o:Option PV):∃ o',dq (.d (.lst (cs.map .str))) (.lst (cs.map .str)) 7 (fun ρ=>nE.ex (KK (d+5) false) ρ) (cs.map .str) (gR n m c k L σ.length (iV t,o)) (lS σ rs)=some (.next (gR n m c k L σ.length (iV t,o')),lS σ (cs.foldl (Q0 S w Sm t) rs)):=
 mV (M:=3) (P:=fun i rs=>Pw (801+20*j+2+2*i) rs) (Q:=fun u=>bh u=true) (g:=Q0 S w Sm t) (mk:=fun _ o=>gR n m c k L σ.length (iV t,o)) (st:=lS σ) (fun _=>rfl) (NK V ht _) (fun i rs u o hu h hi=>⟨sV u,aa (Au rfl (aY ((V.m (t,u) ⟨ht,hu⟩).2 (d+2) _ n B.app) rfl) (Ss h.1 (Ss (Nat.add_le_add (Nat.add_le_add_right (S0 (To _ (hj)) _) _) (To _ (hi))) (Sp rfl)))) (aa (Au rfl (a' B.app rfl (cP (Ju R.app rfl (uY rfl) (by decide) p1 hz) rfl) (Ah (a:=(w,u)) (d:=d+3) B.app q.sh hw hu ht)) (Ss (h.app (V.m (t,u) ⟨ht,hu⟩).1).1 (Ss (Nat.add_le_add_right (Nat.add_le_add (Nat.add_le_add_right (S0 (To _ (hj)) _) _) (To _ (hi))) _) (Sp rfl)))) rfl)⟩) cs 0 rs o ccs h (S0 (lcs) _)
theorem Il {M:Nat} {ds:List Int} (V:Tv S u Sh Wt Sm) (q:Rq S A C) (ccs:∀ u∈cs,bh u=true) (lcs:cs.length<=3) (hcs:cz (.lst (p.curs.map .str)) .none (.int 3)=some (.lst (cs.map .str))) (n7:p.names.length<=7) (n0:0<p.names.length) (hw:w∈S.names) (p1:cg (-1) p.names.length=some N) (hz:p.names[N]? =some w) (p2:cg (c.fmod p.names.length) p.names.length=some M) (hu:p.names[M]? =some u) (R:Rk σ m p) (B:Bk σ n S) (dd:∀ t∈ds,bq t) (hl:ds.length<=3) (h:Pw 801 rs) (o:Option PV×Option PV):∃ o',dq (.d L) L 6 (fun ρ=>nD.ex (KK (d+5) false) ρ) (ds.map .int) (gR n m c k L σ.length o) (lS σ rs)=some (.next (gR n m c k L σ.length o'),lS σ (ds.foldl (QX Sh Wt Sm (fun u t=>fp S (w,u) t) cs) rs)):=
 mV (M:=3) (P:=fun j rs=>Pw (801+20*j) rs) (Q:=bq) (g:=QX Sh Wt Sm (fun u t=>fp S (w,u) t) cs) (mk:=fun _=>gR n m c k L σ.length) (st:=lS σ) (fun _=>rfl) (NI V ccs lcs) (fun j rs t o ht h hj=>by
  have h1:=h.app (V.s t ht).1;obtain ⟨o',lp⟩:=FY (d:=d) (m:=m) (n:=n) (σ:=σ) (c:=c) (k:=k) (L:=L) V q ccs lcs ht hw p1 hz R B hj (h1.app (V.w t ht).1) o.2;have fm:=aZ (a:=c) (b:=p.names.length) (KF n0);exact ⟨(iV t,o'),aa (Au rfl (aY ((V.s t ht).2 (d+2) _ n B.app) rfl) (Ss h.1 (Ss (S0 (To _ (hj)) _) (Sp rfl)))) (aa (Au rfl (aB (cP rfl (cP (Ju R.app rfl (aO rfl (K8 R.app rfl (o3 n7)) rfl rfl (gx (KF n0) (SW.mpr (SJ n7 (Sp rfl))))) (cY (SS (by decide) fm.1) (SS (Ti fm.2) (SS (SV.mpr n7) (by decide)))) p2 hu) rfl)) ((V.w t ht).2 d _ n B.app)) (Ss h1.1 (Ss (Nat.add_le_add_right (S0 (To _ (hj)) _) _) (Sp rfl)))) (aa (bl (fF (gQ R.app rfl) rfl rfl rfl rfl rfl hcs) (dO (if_pos (by rw[Sg];exact bo (Ss lcs (Sp rfl))))) lp) rfl))⟩) ds 0 rs o dd h (S0 (hl) _)
theorem QZ (h3:3<=p.curs.length) (h8:p.curs.length<=8):cz (.lst (p.curs.map .str)) .none (.int 3)=some (.lst ((p.curs.take 3).map .str)):=by
 have e:∀ (l:List D) (i:Int),cz (.lst l) .none (.int i)=(au (l.length<=dM) ()).bind fun _=>(au (bS i=true) i).map fun h=>D.lst (bJ l (dm 0 l.length) (dm h l.length)):=fun l i=>rfl;have e1:dm 0 p.curs.length=0:=by unfold dm;rw[if_neg (by decide)];exact Nat.zero_min _
 have e2:dm 3 p.curs.length=3:=by unfold dm;rw[if_neg (by decide)];exact Nat.min_eq_left h3
 rw[e,Sg,aS (bo (KH h8)),Si,aS (by decide),Option.map_some,e1,e2,bJ,List.map_take];rfl
end
section
variable {c:Int} {rs:List D} {k:Int} {L:D}
noncomputable abbrev l4 (F:Nat->D) (k:Nat):List D:=bJ ((List.range k).map F) (dm (-4) k) (dm k k)
theorem Jz (F:Nat->D) {k:Nat} (hk:k<=800):cz (.lst ((List.range k).map F)) (.int (-4)) .none=some (.lst (l4 F k))/\(l4 F k).length<=800/\∀ x∈l4 F k,∃ j,j<k/\x=F j:=by
 have e:∀ (l:List D) (i:Int),cz (.lst l) (.int i) .none=(au (l.length<=dM) ()).bind fun _=>(au (bS i=true) i).bind fun i=>(some (l.length:Int)).map fun h=>D.lst (bJ l (dm i l.length) (dm h l.length)):=fun l i=>rfl;refine ⟨?_,?_,fun x hx=> ?_⟩
 .rw[e,Sg,List.length_range,aS (bo (Ss (hk) (Sp rfl))),Si,aS (by decide)];rfl
 .rw[l4,bJ,List.length_take,List.length_drop,Sg,List.length_range];exact Ss (Nat.min_le_right _ _) (Ss (Nat.sub_le _ _) hk)
 .obtain ⟨j,hj,rfl⟩:=SA.mp (List.mem_of_mem_drop (List.mem_of_mem_take hx));exact ⟨j,List.mem_range.mp hj,rfl⟩
theorem FE {F:Nat->D} (q:Rq S A C) (R:Rk σ m p) (B:Bk σ n S) (hE:S.ends=p.ends) (hl:p.ends.length<=800) (hF:∀ k,k<S.ends.length->pl 7 (F k)=true/\∀ d σ n,Bk σ n S->CC (d+3) false 147 [.p n 0,.d (.int ((k:Int)+1))] σ=some (.ok (.d (F k)),σ)) (ht:bq t) {x y:D}:nC.ex (KK (d+5) false) [qV n,qV m,iV c,iV k,dV (.lst [.int t,x,y]),none,none,none,none] σ=some (.next (gR n m c k (.lst [.int t,x,y]) σ.length (none,none)),lS σ (l4 F p.ends.length++[.lst ((jE S.made 0 t).map dt)])):=by
 have lf:=Jz F hl;have ln:Ev (KK (d+5) false) (bi bf (aj (key (ag 1) 5 Tw) ao)) [qV n,qV m,iV c,iV k,dV (.lst [.int t,x,y]),none,none,none,none] σ (.d (.int p.ends.length)):=by
  have q:=fv (K:=KK (d+5) false) (ρ:=[qV n,qV m,iV c,iV k,dV (.lst [.int t,x,y]),none,none,none,none]) (qv (e:=ag 1) (s:=Tw) R rfl) (uf R) (by rw[Sg];exact Ss (hl) (Sp rfl));rw[Sg] at q;exact q
 have cm:=eM (K:=KK (d+5) false) (ρ:=[qV n,qV m,iV c,iV k,dV (.lst [.int t,x,y]),none,none,none,none]) (σ:=σ) (i:=8) (cq:=ax 147 (aj (ag 0) (aj (aK a9 (ag 8) (ah 1)) ao))) (y:=.rng 0 p.ends.length 1) (fun j:Nat=>D.int j) F (List.range p.ends.length) [] (fun j hj=>aY ((hF j (by rw[hE];exact List.mem_range.mp hj)).2 (d+2) σ n B) rfl) (by rw[Tb,List.length_range];exact Ss (S0 (hl) _) (Sp rfl));exact av (F9 (fF (lU (eJ (rb ln (Ss (hl) (Sp rfl))) (dO (hU (Ss (hl) (Sp rfl)))) cm)) (xQ (uY rfl)) rfl rfl rfl rfl lf.1) (eH (cl1 (aB (cP rfl (cP rfl (cl1 (bc rfl rfl rfl rfl (b7 (k:=0) rfl))))) (wT (d:=d+2) B q ht)))) rfl rfl (by have:=lf.2.1;show _+1<=_;omega)) rfl
theorem DR (G:Gd N p S) (hN:N<=800) (hc:p.ents.length<64):∃ v,pl 8 v=true/\LL v v=none/\∀ d σ n,Rk σ m p->Bk σ n S->CC (d+6) false 167 [.p n 0,.p m 0,.d (.int c)] σ=some (.ok (.d v),σ):=by
 have l3:=G.l3;have n7:=G.nl;obtain ⟨T,eN,_⟩:=G.nm;have n0:0<p.names.length:=by rw[eN,Sq];exact Nat.succ_pos _
 have hh:bh S.home=true:=G.ic _ (SO G.home);have q:Rq S p.names p.curs:=⟨G.sh (o6 hN),by rw[G.made];exact hc,fun e he=>by rw[G.made] at he;exact ⟨(G.ent e he).n,fun l hl=>⟨((G.ent e he).l l hl).1,G.cu e he l hl,((G.ent e he).l l hl).2.2⟩⟩,G.nl,G.c10,G.ic⟩;obtain ⟨mm,Te⟩:=G.tell;have fm:=aZ (a:=c) (b:=p.names.length) (KF n0);obtain ⟨u,hu⟩:∃ u,p.names[(c.fmod p.names.length).toNat]? =some u:=⟨_,Sn (Od fm)⟩;obtain ⟨w,hw⟩:∃ w,p.names[p.names.length - 1]? =some w:=⟨_,Sn (Nat.sub_one_lt (Nat.ne_of_gt n0))⟩;have p1:cg (-1) p.names.length=some (p.names.length - 1):=by unfold cg;rw[if_neg (by decide),if_pos (OI n0)];congr 1;exact OH
 have p2:cg (c.fmod p.names.length) p.names.length=some (c.fmod p.names.length).toNat:=by unfold cg;rw[if_pos fm.1,if_pos fm.2]
 obtain ⟨Sh,Wt,Sm,V⟩:=Mp (u:=u) q Te hh (o1 hN G.l2) G.rw (by rw[G.names];exact SO hu) (by rw[G.names,eN];exact .head _);obtain ⟨F,hF⟩:=sk (P:=fun k:Nat=>k<S.ends.length) fun k h=>yz q h;have d0:=aZ (a:=c) (b:=100000) (by decide);have c1:=G.cl1;have c2:=G.cl2;have d2:=aZ (a:=c) (b:=max 0 (cl p.ends)+1) (Jo);generalize hcl:cl p.ends=k at c1 c2 d2;have dd:∀ t∈[c.fmod 100000,max 0 k,c.fmod (max 0 k+1)],bq t:=aQ ⟨by exact d0.1,by exact Int.le_of_lt_add_one d0.2⟩ (aQ ⟨PQ,by exact Int.max_le.mpr ⟨by decide,c2⟩⟩ (aQ ⟨by exact d2.1,by exact SS (Int.le_of_lt_add_one d2.2) (Int.max_le.mpr ⟨by decide,c2⟩)⟩ aW));have ccs:∀ u∈p.curs.take 3,bh u=true:=fun u hu=>G.ic u (List.mem_of_mem_take hu);have lcs:(p.curs.take 3).length<=3:=by rw[List.length_take];exact MY
 have lf:=Jz F (k:=p.ends.length) (Ss l3 hN);have q0:Pw 801 (l4 F p.ends.length++[.lst ((jE S.made 0 (c.fmod 100000)).map dt)]):=Pw.app ⟨lf.2.1,fun x hx=>by obtain ⟨j,hj,rfl⟩:=lf.2.2 x hx;exact (hF j (by rw[G.ends];exact hj)).1⟩ (mI (xU fun _ _=>EB));have fin:=iE (P:=fun j rs=>Pw (801+20*j) rs) (NI (w:=w) V ccs lcs) [c.fmod 100000,max 0 k,c.fmod (max 0 k+1)] 0 _ dd q0;refine ⟨.lst _,mI fin.2,rfl,fun d σ n R B=> ?_⟩;obtain ⟨o,lp⟩:=Il (d:=d) (m:=m) (n:=n) (σ:=σ) (c:=c) (k:=k) (L:=.lst [.int (c.fmod 100000),.int (max 0 k),.int (c.fmod (max 0 k+1))]) V q ccs lcs (QZ G.c3 G.c10) n7 n0 (by rw[G.names];exact SO hw) p1 hw p2 hu R B dd (Sv _) q0 (none,none);have cr:=d_ (d:=d+4) (hd:=false) R (o1 hN l3);rw[hcl] at cr;exact tG (f':=.list _) (m:=σ.length) rfl rfl rfl (aa (av (aY cr rfl) rfl) (aa (av (eH (cP rfl (cP rfl (cl1 (aO rfl (dU rfl rfl) rfl rfl (gx (Jo) (ST (Int.add_le_add_right (Int.max_le.mpr ⟨by decide,c2⟩) 1) (by decide)))))))) rfl) (aa (FE q R B G.ends (Ss l3 hN) hF (dd _ (.head _))) (aa (bl rfl rfl lp) (aM (aF rfl)))))) (Sv _) dG (Gx σ _)
end
structure Txt (p:Pl) (S:St) (X:Tx):Prop where
 l:∀ d σ m,Rk σ m p->∃ R,CC (d+1) false 107 [.p m 0] σ=some (.ok (.d R),σ)/\CC (d+1) false 105 [.d R] σ=some (.ok (.d (.str X)),σ)
 w:∀ d σ n,Bk σ n S->CC (d+3) false 25 [.p n 0] σ=some (.ok (.d (.str X)),σ)
section
theorem DO (G:Gd N p S) (hN:N<=50):∃ X,Txt p S X/\(N<=40->X.length<=1000000/\(∀ d σ,CC (d+6) false 99 [.d (.str X)] σ=some (.ok (.p σ.length 0),σ++[bk S]))/\∀ a,gS a->∀ d σ n,Bk σ n (fA S a)->CC (d+3) false 25 [.p n 0] σ=some (.ok (.d (.str (X++g7 [rU] a++[10]))),σ)):=by
 have hh:bh S.home=true:=G.ic _ (SO G.home);have l5:=G.l5;have nl:=G.nl;obtain ⟨T,more,ds,h1,h2,h3,h4,h5,h6,h7⟩:=G.hs;have hT:T.length<=6:=by rw[h2,Sq,Sk] at nl;exact ML nl
 rw[h4,Sg] at l5;have ok:∀ x∈T.map Dd.acc++ds,vB x:=fun x hx=>(SC.mp hx).elim (fun z=>by obtain ⟨a,ha,rfl⟩:=SA.mp z;exact h3 a ha) (h5 x);have al:(T.map Dd.acc++ds).length=T.length+ds.length:=by rw[Sk,Sg]
 have ra:=kG ok;have rt:∀ r∈rowH S.home::bw (T.map Dd.acc++ds),L8 r:=aQ (oP hh) ra.1;refine ⟨mB (rowH S.home::bw (T.map Dd.acc++ds)),⟨fun d σ m R=>⟨_,CR R G.home hh h1 h2 h3 h4 h5 nl (Ss l5 hN),DS rt (by have:=ra.2;rw[Sq];omega)⟩,fun d σ n B=>nq B hh h7 ok (Ss (Ta al) (Nat.add_le_add (hT) (Ss l5 (hN))))⟩,fun hn=>⟨?_,fun d σ=>Ha hh ok (Ss (Ss (Ta al) (Nat.add_le_add (hT) (Ss l5 (hn)))) (Sp rfl)) h6,fun a ha d σ n B=> ?_⟩⟩
 .have:=(pF rt).2;rw[Sq] at this;have:=ra.2;omega
 .have w:=nq (d:=d) (ds:=(T.map Dd.acc++ds)++[.acc a]) B hh (show S.deeds++[oI a]=_ by rw[h7,List.map_append (l₂:=[Dd.acc a])];rfl) (fun x hx=>(SC.mp hx).elim (ok x) fun z=>by rw[So.mp z];exact ha) (by rw[Sk,al,Su];exact Ss (Nat.add_le_add_right (Nat.add_le_add (hT) (Ss l5 (hn))) _) (Sp rfl));rw[nx] at w;have e:mB (rowH S.home::(bw (T.map Dd.acc++ds)++bw [.acc a]))=mB (rowH S.home::bw (T.map Dd.acc++ds))++g7 [rU] a++[10]:=by
   unfold mB;rw[<-List.cons_append,List.map_append,List.flatten_append,List.append_assoc];exact congrArg (_++·) (List.append_nil _)
  rw[show (fA S a).home=S.home from rfl,e] at w;exact w
end
section
variable {X:Tx}
theorem AO {a:CT} {l:yb .Or} (h:a.ts K ρ σ=some (.ok false,σ')) (k:l.ts K ρ σ'=some (.ok q,σ'')):(bC a l).ts K ρ σ=some (.ok q,σ''):=aC h k
theorem Mq {o:CO} {b:CE} {w:D} (h1:a.ev K ρ σ=some (.ok x,σ')) (h2:Ev K b ρ σ' y) (r1:rd σ' x=some u) (r2:rd σ' y=some w) (h:o.g u w=some q):(aJ o a b).ts K ρ σ=some (.ok q,σ'):=aC h1 (aC h2 (nP h r1 r2))
noncomputable abbrev LR (sc:List Int) (x1 x2 x3 x4 x5 x6 x7:Option PV):bg:=[dV (.lst (sc.map .int)),x1,x2,x3,x4,x5,x6,x7,none]
noncomputable abbrev lN:List Tx:=[[113,55],[113,56],[113,57],[113,97],[113,98],[113,99],[113,100]]
theorem Hu (G:Gd N p S):∃ a∈lN,a∉p.names:=by
 obtain ⟨T,e,_⟩:=G.nm;have nl:=G.nl;by_cases h:∃ a∈lN,a∉p.names
 .exact h
 have s:lN ⊆ T:=fun a ha=>by
  have z:a∈p.names:=Decidable.byContradiction fun z=>h ⟨a,ha,z⟩;rw[e] at z;exact (Sj.mp z).resolve_left fun y=>absurd (y ▸ ha) (by decide)
 have:=(show lN.Nodup by decide).length_le_of_subset s;rw[e,Sq] at nl;exact absurd (Ss (Tj this) nl) (by decide)
theorem QK:∀ a∈lN,gS a:=aQ ⟨_,_,rfl,by decide,by decide,by decide⟩ (aQ ⟨_,_,rfl,by decide,by decide,by decide⟩ (aQ ⟨_,_,rfl,by decide,by decide,by decide⟩ (aQ ⟨_,_,rfl,by decide,by decide,by decide⟩ (aQ ⟨_,_,rfl,by decide,by decide,by decide⟩ (aQ ⟨_,_,rfl,by decide,by decide,by decide⟩ (aQ ⟨_,_,rfl,by decide,by decide,by decide⟩ aW))))))
theorem Kg (R:Rk σ m p) (G:Gd N p S):∃ a,a∈lN/\a∉p.names/\∀ x2 x3 x4 x5 x6,gA.ex (KK 8 false) (LR sc (qV m) x2 x3 x4 x5 x6 none) σ=some (.next (LR sc (qV m) x2 x3 x4 x5 x6 (sV a)),σ):=by
 obtain ⟨b,hb,nb⟩:=Hu G;have mf:b∈lN.filter fun a=>decide (a∉p.names):=List.mem_filter.mpr ⟨hb,Sz nb⟩;obtain ⟨a,r,e⟩:=List.exists_cons_of_ne_nil (List.ne_nil_of_mem mf);have ma:=List.mem_filter.mp (e ▸ .head _:a∈lN.filter fun a=>decide (a∉p.names));refine ⟨a,ma.1,S3 ma.2,fun x2 x3 x4 x5 x6=> ?_⟩;have cf:=gF (K:=KK 8 false) (ρ:=LR sc (qV m) x2 x3 x4 x5 x6 none) (σ:=σ) (i:=8) (cq:=ag 8) (t:=lA (aJ kP (ag 8) (key (ag 1) 0 Tq))) (v:=.d (.lst (lN.map .str))) (y:=.lst (lN.map .str)) rfl D.str D.str (fun a=>decide (a∉p.names)) lN [] (fun a _=>yf (by
  by_cases q:a∈p.names
  .rw[Tc fun z=>z q];exact ak rfl (cK R rfl) rfl (cB R) (AS q)
  .rw[Sz q];exact ak rfl (cK R rfl) rfl (cB R) (AR q))) (fun a _ _=>rfl) (Sp rfl)
 rw[List.nil_append,e] at cf;exact av (bc (lU (eJ rfl (dO rfl) cf)) rfl rfl rfl (b7 (k:=0) rfl)) rfl
end
section
variable {X:Tx}
theorem QV {x5:Option PV} (G1:Gd 30 p S) (G2:Gd 50 p' S') (hn:p.names ⊆ p'.names) (xl:X.length<=1000000) (w1:∀ d σ n,Bk σ n S->CC (d+3) false 25 [.p n 0] σ=some (.ok (.d (.str X)),σ)) (rd1:∀ d σ,CC (d+6) false 99 [.d (.str X)] σ=some (.ok (.p σ.length 0),σ++[bk S])) (ad:∀ a,gS a->∀ d σ n,Bk σ n (fA S a)->CC (d+3) false 25 [.p n 0] σ=some (.ok (.d (.str (X++g7 [rU] a++[10]))),σ)) (T2:Txt p' S' Y):∃ σ',(sC gC (sC gB (sC gA (sC (aP (meth (ag 2) 37 (aj (ag 7) ao))) (sC gz (sC jD sN)))))).ex (KK 8 false) (LR sc (qV 0) (qV 1) x3 (sV X) x5 (qV 2) none) [pk p',bk S,bk S']=some (.ret (.d (.bool true)),σ'):=by
 have H:fD [pk p',bk S,bk S'] 0 2 p' S':=⟨rfl,rfl,by decide⟩;obtain ⟨R,l1,l2⟩:=T2.l 7 [pk p',bk S,bk S',bk S] 0 rfl;obtain ⟨a,ha,na,s14⟩:=Kg (sc:=sc) (σ:=[pk p',bk S,bk S',bk S]) (m:=0) (p:=p') rfl G2;have nm:=QK a ha;have H4:fD [pk p',bk (fA S a),bk S',bk S] 0 2 p' S':=⟨rfl,rfl,by decide⟩;have s12:gC.ex (KK 8 false) (LR sc (qV 0) (qV 1) x3 (sV X) x5 (qV 2) none) [pk p',bk S,bk S']=some (.next (LR sc (qV 0) (qV 1) x3 (sV X) x5 (qV 2) none),[pk p',bk S,bk S']):=aX (jd (eT (aY (kC (d:=3) H G2 (by decide)) rfl))) rfl;have s13:gB.ex (KK 8 false) (LR sc (qV 0) (qV 1) x3 (sV X) x5 (qV 2) none) [pk p',bk S,bk S']=some (.next (LR sc (qV 0) (qV 1) x3 (sV X) x5 (qV 2) none),[pk p',bk S,bk S',bk S]):=by
  have c1:(aJ gU (ax 25 (aj (ax 99 (aj (ag 4) ao)) ao)) (ag 4)).ts (KK 8 false) (LR sc (qV 0) (qV 1) x3 (sV X) x5 (qV 2) none) [pk p',bk S,bk S']=some (.ok false,[pk p',bk S,bk S',bk S]):=Mq (x:=.d (.str X)) (aC (aC (m:=(ax 99 (aj (ag 4) ao)).ev (KK 8 false) _) (aY (rd1 2 [pk p',bk S,bk S']) rfl) (aC (a:=[]) rfl rfl)) (w1 5 [pk p',bk S,bk S',bk S] 3 rfl)) rfl rfl rfl (kq rfl);exact A' (AO c1 (bz (ak (aY (w1 5 _ 1 rfl) rfl) rfl rfl rfl (kq rfl)) (bz (ak (aY (T2.w 5 _ 2 rfl) rfl) (aB (cl1 (aY l1 rfl)) l2) rfl rfl (kq rfl)) rfl))) rfl
 have adm:=jR (d:=6) (σ:=[pk p',bk S,bk S',bk S]) (n:=1) (S:=S) rfl (G1.sh (by decide)) nm fun z=>na (hn (by rw[<-G1.names];exact z));have s16:gz.ex (KK 8 false) (LR sc (qV 0) (qV 1) x3 (sV X) x5 (qV 2) (sV a)) [pk p',bk (fA S a),bk S',bk S]=some (.next (LR sc (qV 0) (qV 1) x3 (sV X) x5 (qV 2) (sV a)),[pk p',bk (fA S a),bk S',bk S]):=by
  have al:=(pt nm).nt.1;refine aX (ak (aY (ad a nm 5 _ 1 rfl) rfl) (aO (aO (aO rfl rfl rfl rfl (iU (Ss (m:=1000008) (by show _+8<=_;exact Nat.add_le_add_right (xl) _) (by decide)))) rfl rfl rfl (iU (Ss (m:=1000048) (by rw[Sk];show _+8+_<=_;exact Nat.add_le_add (Nat.add_le_add_right (xl) _) (al)) (by decide)))) rfl rfl rfl (iU (Ss (m:=1000049) (by rw[Sk,Sk];show _+8+_+1<=_;exact Nat.add_le_add_right (Nat.add_le_add (Nat.add_le_add_right (xl) _) (al)) _) (by decide)))) rfl rfl (kq ?_)) rfl;show X++(TN++a)++[10]=X++TN++a++[10];rw[<-List.append_assoc X]
 exact ⟨_,aa s12 (aa s13 (aa (s14 _ _ _ _ _) (aa (aA (a' (S:=S) rfl rfl rfl adm)) (aa s16 (aM (aF (Br (zS (aY (vT (d:=5) H4 G2 (by decide)) rfl) (zS (aY (pA (d:=3) H4 G2 (by decide)) rfl) (Bq (aY (BX (d:=5) H4 G2 (by decide)) rfl)))))))))))⟩
end
section
variable {X:Tx}
theorem QW {x5:Option PV} {pc:Int} (hs:sc.length<=63) (hp:7<=pc/\pc<=500) (G:Gd 30 p S) (hc:p.ents.length<64) (T:Txt p S X) (xl:X.length<=1000000) (rd1:∀ d σ,CC (d+6) false 99 [.d (.str X)] σ=some (.ok (.p σ.length 0),σ++[bk S])) (ad:∀ a,gS a->∀ d σ n,Bk σ n (fA S a)->CC (d+3) false 25 [.p n 0] σ=some (.ok (.d (.str (X++g7 [rU] a++[10]))),σ)):∃ σ',(sC qJ (sC nL (sC jF (sC gC (sC gB (sC gA (sC (aP (meth (ag 2) 37 (aj (ag 7) ao))) (sC gz (sC jD sN))))))))).ex (KK 8 false) (LR sc (qV 0) (qV 1) (iV pc) (sV X) x5 (qV 2) none) [pk p,bk S,bk S]=some (.ret (.d (.bool true)),σ'):=by
 have H:fD [pk p,bk S,bk S] 0 2 p S:=⟨rfl,rfl,by decide⟩;obtain ⟨v,pv,ev,tr⟩:=DR (m:=0) (c:=cell sc 4) G (by decide) hc;obtain ⟨p',S',G2,kf,e2⟩:=tw (d:=2) (sc:=sc) (f:=pc) (l:=63) hs hp ⟨by decide,by decide⟩ H G (by decide);obtain ⟨Y,T2,_⟩:=DO G2 (by decide);obtain ⟨σ',fin⟩:=QV (sc:=sc) (x3:=iV pc) (x5:=x5) G G2 kf.g xl T.w rd1 ad T2;have c4:Ev (KK 8 false) (ax 33 (aj (ag 0) (aj (ah 4) ao))) (LR sc (qV 0) (qV 1) (iV pc) (sV X) x5 (qV 2) none) [pk p,bk S,bk S] (.d (.int (cell sc 4))):=Bp (d:=7) (k:=4) hs rfl rfl (by decide);have s11:jF.ex (KK 8 false) (LR sc (qV 0) (qV 1) (iV pc) (sV X) x5 (qV 2) none) [pk p,bk S,bk S]=some (.next (LR sc (qV 0) (qV 1) (iV pc) (sV X) x5 (qV 2) none),[pk p',bk S,bk S']):=A' (AO (jd (eT (aY (kC (d:=3) H G (by decide)) rfl))) (AO (DQ (yg (aB rfl e2))) rfl)) rfl;exact ⟨σ',aa (aX (bN (bz (jd (eT (aY (vT (d:=5) H G (by decide)) rfl))) (bz (ak (aY (T.w 5 _ 2 rfl) rfl) rfl rfl rfl (kq rfl)) (bz (jd (eT (aY (pA (d:=3) H G (by decide)) rfl))) rfl)))) rfl) (aa (aX (ak (aB (cP rfl (cP rfl (cl1 c4))) (tr 2 _ 2 rfl rfl)) (aB (cP rfl (cP rfl (cl1 c4))) (tr 2 _ 1 rfl rfl)) rfl rfl (Jv rfl pv ev)) rfl) (aa s11 fin))⟩
theorem Kn (sc:List Int) (hs:sc.length<=63):∃ σ',CC 9 false 169 [.d (.lst (sc.map .int))] []=some (.ok (.d (.bool true)),σ'):=by
 obtain ⟨T,F,hT,hT4,hF,hC,hF3,hF10,hq,eP⟩:=Ch hs;cases F with
 |nil=>exact absurd hF3 (Nat.not_succ_le_zero _)
 |cons h G=>
 have eB:=F_ (d:=5) (σ:=[pk (Cj T (h::G) 6)]) (m:=0) (p:=Cj T (h::G) 6) rfl rfl rfl (hC h (.head _)) hT (Ss hT4 (Sp rfl));have H:fD [pk (Cj T (h::G) 6),bk (DF h T)] 0 1 (Cj T (h::G) 6) (DF h T):=⟨rfl,rfl,by decide⟩;have g0:=Sf (mo:=6) hT hT4 hF hC hF3 hF10;have fm:=aZ (a:=cell sc 6) (b:=1+(sc.length:Int).fdiv 3) (by have:=Int.fdiv_nonneg (a:=(sc.length:Int)) (b:=3) (o9) (by decide);exact SU Int.zero_lt_one (Tg this));have fd:(sc.length:Int).fdiv 3<=21/\0<=(sc.length:Int).fdiv 3:=by rw[Int.fdiv_eq_ediv_of_nonneg _ (by decide)];exact MW hs
 generalize hpc:7+3*(cell sc 6).fmod (1+(sc.length:Int).fdiv 3)=pc;obtain ⟨p,S,G1,kf,e1⟩:=tw (d:=2) (sc:=sc) (f:=7) (l:=pc) hs ⟨by decide,by decide⟩ ⟨MU fm hpc,Jn fm fd hpc⟩ H g0 (by decide);have cp:p.ents.length<64:=by
  have q:GC p:=kf.k (show ((0:Nat):Int)<=6+1 by decide);have q:(p.ents.length:Int)<=p.most+1:=q;rw[kf.m,show (Cj T (h::G) 6).most=6 from rfl] at q;exact SJ (SV.mp q) (SK (Nat.lt_succ_self 7) (Sp rfl))
 obtain ⟨X,T1,hX⟩:=DO G1 (by decide);obtain ⟨xl,rd1,ad⟩:=hX (by decide);have H1:fD [pk p,bk S] 0 1 p S:=⟨rfl,rfl,by decide⟩;obtain ⟨σ',fin⟩:=QW (sc:=sc) (x5:=sV X) (pc:=pc) hs ⟨MT fm hpc,Jn fm fd hpc⟩ G1 cp T1 xl rd1 ad;obtain ⟨R,r1,r2⟩:=T1.l 7 [pk p,bk S] 0 rfl;have s3:qO.ex (KK 8 false) (LR sc (qV 0) (qV 1) none none none none none) [pk (Cj T (h::G) 6),bk (DF h T)]=some (.next (LR sc (qV 0) (qV 1) (iV pc) none none none none),[pk (Cj T (h::G) 6),bk (DF h T)]):=by
  have ln:Ev (KK 8 false) (bi bf (aj (ag 0) ao)) (LR sc (qV 0) (qV 1) none none none none none) [pk (Cj T (h::G) 6),bk (DF h T)] (.d (.int sc.length)):=by
   have q:=ku (hd:=false) (σ:=[pk (Cj T (h::G) 6),bk (DF h T)]) (x:=.d (.lst (sc.map .int))) rfl (by rw[Sg];exact bo (Ss (hs) (Sp rfl)));rw[Sg] at q;exact ca rfl q
  rw[<-hpc];exact av (dU rfl (aO rfl (aO (Bp (d:=7) (k:=6) hs rfl rfl (by decide)) (dU rfl (i0 ln)) rfl rfl (gx (SU Int.zero_lt_one (Tg fd.2)) (ST (Int.add_le_add_left fd.1 1) (by decide)))) rfl rfl rfl)) rfl
 have s4:qM.ex (KK 8 false) (LR sc (qV 0) (qV 1) (iV pc) none none none none) [pk (Cj T (h::G) 6),bk (DF h T)]=some (.next (LR sc (qV 0) (qV 1) (iV pc) none none none none),[pk p,bk S]):=A' (AO (DQ (yg (aB rfl e1))) (bz (jd (eT (aY (kC (d:=3) H1 G1 (by decide)) rfl))) rfl)) rfl;have s7:qL.ex (KK 8 false) (LR sc (qV 0) (qV 1) (iV pc) (sV X) (sV X) none none) [pk p,bk S]=some (.next (LR sc (qV 0) (qV 1) (iV pc) (sV X) (sV X) none none),[pk p,bk S]):=aX (bN (bz rfl (bz (ak rfl rfl rfl rfl (kq rfl)) rfl))) rfl;exact ⟨[],a8 rfl rfl rfl (aa (av (aY eP rfl) rfl) (aa (av (aY eB rfl) rfl) (aa s3 (aa s4 (aa (av (aB (cl1 (aY r1 rfl)) r2) rfl) (aa (av (aY (T1.w 5 _ 1 rfl) rfl) rfl) (aa s7 (aa (av (aY (rd1 2 _) rfl) rfl) fin)))))))) rfl⟩
end
open PySem PySem.W PySem.Calls PyProof.Rows
set_option Elab.async false
set_option maxRecDepth 100000
set_option maxHeartbeats 8000000
theorem Ni:LeftO pN qN ["BOUND","GREATEST"] (fun _=>true) yN (fun _=>True) 40178:=HR z1 (by decide) z2 z3 z4 (fun s e=>⟨_,H7 s.tree s.n s.life,ai e,GU s.life (an e)⟩) (fun w os=>G7 (RT w os) (RS w os)) (fun w os=>G6 (RQ w os) (RP w os) (RN w os) (RM w os))
theorem CY:∀ i,i<100->∀ j,j<100->wQ i=wQ j->i=j:=by decide+kernel
theorem Fa:∀ i j,i<100->j<100->wQ i=wQ j->i=j:=fun i j hi hj h=>CY i hi j hj h
end Mine.Internal
open PySem PySem.W PyProof.Rows
set_option Elab.async false
set_option maxRecDepth 100000 in
set_option maxHeartbeats 8000000 in
theorem PySem.Challenge.cw_uf010015_11_holds : PySem.Challenge.rw_uf010015_11.Holds := by
 w_on
 refine holds_law Mine.Internal.Mw fun said=> ?_;refine holds_open (q:=Mine.Internal.qN) (loose:=["BOUND","GREATEST"]) (Xt:=fun _=>true) (XP:=fun _ _=>True) (Yf:=Mine.Internal.yN) (Ya:=fun _=>True) (YP:=fun _ h=>Mine.Internal.KP h) (N:=40178) Mine.Internal.Ni
  (fun w s e=>of_eq_true e) (fun w h h' a k=>Mine.Internal.KP.keeps a k) (fun _ _=>trivial) (fun _ _ _ _ _=>trivial) (by rfl) (by rfl) (by rfl) (fun s _=>recFacts_of (by rfl)) (by rfl) (by first|assumption|decide+kernel) (by decide+kernel) ⟨rfl,rfl,rfl,rfl,rfl,by decide+kernel⟩ ?hw ?hc
 (case hw=>w_witness2)
 intro w s₀ s₁ mg mb G Y fa o pm cd doc dV kV ho hd hcd hD hmg hg args vals as hpre hlay hrd hwl hlo;obtain ⟨K,X,ok,TK⟩:=Y;refine Ground.open G ?_;intro T B D TE TW
 wrow_args hpre hlay hrd hwl hlo
 refine enter_call ?_;refine kn_post (Mine.Internal.J6 X ok TK) (fun _ _=>rfl) ?_
 rename IntsAre _ _=>hI
 rename Heap.IsList _ _ _=>hL
 rename¬(_<_)=>hle
 obtain ⟨σ',hrun⟩:=Mine.Internal.Kn _ (Int.ofNat_le.mp (Int.not_lt.mp hle));refine Mine.Internal.HS (sp:=Mine.Internal.B3) (key:=Mine.Internal.wQ) Mine.Internal.Fa T X ok TK hL hI (f:=Mine.Internal.QO) (by kernel_rfl) (by exact hmg) (d:=8) (by decide) hrun ?_;intro s' sm keep gro;obtain ⟨h',tk,rfl⟩:=sm;refine ⟨⟨.inl ⟨_,.bool true,[],rfl,raisesW_false (by wrow_none_raised),ReadsW.bool true,?_,unshared_nil⟩,Mine.Internal.zz keep,rfl,hg⟩,Mine.Internal.Fs gro⟩
 wrow_post