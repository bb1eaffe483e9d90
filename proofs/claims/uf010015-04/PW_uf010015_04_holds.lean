import PyProof.Rows.All
import Wide.All
import OpenK.AllK
import Wide.FinOn
import PySem.Challenge.RW_uf010015_04
set_option autoImplicit false
set_option linter.all false
set_option bootstrap.genMatcherCode false
set_option compiler.extract_closed false
set_option genSizeOf false
set_option genInjectivity false
set_option maxRecDepth 40000
namespace Mine.Internal
noncomputable abbrev OD:List Nat:=[101,110,116,114,121]
noncomputable abbrev OE:List Nat:=[97,99,99,111,117,110,116]
noncomputable abbrev OF:List Nat:=[115,116,114,97,110,103,101,114]
noncomputable abbrev OG:List Nat:=[65,66,67,68,69,70,71,72,73,74,75,76,77,78,79,80,81,82,83,84,85,86,87,88,89,90]
noncomputable abbrev OH:List Nat:=[99,104,97,110,103,101]
noncomputable abbrev OI:List Nat:=[114,97,116,101]
noncomputable abbrev OJ:List Nat:=[78,111,65,99,99,111,117,110,116]
noncomputable abbrev OK:List Nat:=[97,98,99,100,101,102,103,104,105,106,107,108,109,110,111,112,113,114,115,116,117,118,119,120,121,122]
noncomputable abbrev OL:List Nat:=[48,49,50,51,52,53,54,55,56,57]
noncomputable abbrev OM:List Nat:=[101,120,99,104,97,110,103,101]
noncomputable abbrev ON:List Nat:=[85,110,98,97,108,97,110,99,101,100]
noncomputable abbrev OO:List Nat:=[66,97,100,67,117,114,114,101,110,99,121]
noncomputable abbrev OP:List Nat:=[66,97,100,65,109,111,117,110,116]
noncomputable abbrev OQ:List Nat:=[32,33,34,35,36,38,39,40,41,42,43,44,45,46,47,48,49,50,51,52,53,54,55,56,57,58,59,60,61,62,63,64]
noncomputable abbrev OR:List Nat:=[65,66,67,68,69,70,71,72,73,74,75,76,77,78,79,80,81,82,83,84,85,86,87,88,89,90,91,92,93,94,95,96]
noncomputable abbrev OS:List Nat:=[97,98,99,100,101,102,103,104,105,106,107,108,109,110,111,112,113,114,115,116,117,118,119,120,121,122,123,124,125,126]
noncomputable abbrev OT:List Nat:=[97,98,99,100,101,102,103,104,105,106,107,108,109,110,111,112,113,114,115,116,117,118,119,120,121,122,48,49,50,51,52,53,54,55,56,57]
def Nz:=@List.length_map
def NA:=@Option.bind_some
def NB:=@List.mem_cons
def NC:=@List.length_append
def ND:=@List.getElem?_eq_some_iff
def NE:=@List.getElem?_eq_getElem
def NG:=@List.mem_singleton
def NH:=@Nat.le_of_ble_eq_true
def NI:=@List.length_cons
def NJ:=@PySem.Heap.get?_push_of_some
def NK:=@Nat.le_trans
def NL:=@List.length_singleton
def NM:=@Nat.le_refl
def NN:=@PySem.wpAny_bind
def NO:=@PySem.wpAny_pure
def NP:=@decide_eq_true
def NQ:=@List.mem_map
def NR:=@List.getElem?_map
def NS:=@List.mem_append
def NT:=@List.getD_eq_getElem?_getD
def NU:=@PySem.Heap.get?_push_size
def NV:=@List.not_mem_nil
def NW:=@List.size_toArray
def NX:=@List.getElem?_append_right
def NY:=@Bool.false_ne_true
def NZ:=@Nat.lt_of_le_of_lt
def N0:=@Nat.lt_of_lt_of_le
def N1:=@List.length_set
def N2:=@Nat.le_succ_of_le
def N3:=@Nat.zero_le
def N5:=@List.mem_of_getElem?
def N6:=@List.getElem?_set_ne
def N7:=@List.filter_cons_of_pos
def N8:=@PySem.Heap.lt_size
def N9:=@Int.le_trans
def N_:=@Int.lt_of_le_of_lt
def N':=@Int.lt_of_lt_of_le
def Oa:=@Int.ofNat_le
def Ob:=@Int.ofNat_lt
def Oc:=@Nat.le_of_lt
def Od:=@Int.toNat_of_nonneg
def Oe:=@Nat.add_le_add_left
def Of:=@of_decide_eq_true
def Og:=@Nat.lt_irrefl
def Oh:=@Nat.le_succ
def Oi:=@List.nodup_cons
def Oj:=@List.getElem?_append_left
def Ok:=@Option.map_eq_some_iff
def Ol:=@List.nodup_nil
def Om:=@Option.some.inj
def On:=@Nat.le_of_eq
def Oo:=@List.length_nil
def Op:=@decide_eq_false
def Oq:=@Nat.zero_add
def Os:=@Nat.le_add_right
def Ot:=@Int.le_add_of_nonneg_right
def Ou:=@Nat.lt_trans
def Ov:=@Int.le_of_lt
def Ow:=@Nat.succ_le_succ
def Ox:=@Int.min_le_left
def Oy:=@Int.natCast_nonneg
def Oz:=@Nat.not_lt
def OA:=@Int.not_lt
def OB:=@Nat.mul_le_mul_left
def OC:=@Nat.le_of_lt_succ
open PySem PySem.W PySem.Calls PyProof.Rows
set_option Elab.async false
set_option maxRecDepth 100000
set_option maxHeartbeats 8000000
theorem eu {a b:Bool} (h1:a=true) (h2:b=true):(a&&b)=true:=by rw[h1,h2];rfl
noncomputable def gH:{p:(OpenLaw->Bool)×(OpenLaw->Bool)×(OpenLaw->Bool)×(OpenLaw->Bool)×(OpenLaw->Bool)×(OpenLaw->Bool)×(OpenLaw->Bool)×(OpenLaw->Bool)×(OpenLaw->Bool)×(OpenLaw->Bool)×(OpenLaw->Bool)×(OpenLaw->Bool)×(OpenLaw->Bool)×(OpenLaw->Bool)×(OpenLaw->Bool)×(OpenLaw->Bool)×(OpenLaw->Bool)×(OpenLaw->Bool)×(OpenLaw->Bool) // ∀ l:OpenLaw,l.wellSaid=(p.1 l&&p.2.1 l&&p.2.2.1 l&&p.2.2.2.1 l&&p.2.2.2.2.1 l&&p.2.2.2.2.2.1 l&&p.2.2.2.2.2.2.1 l&&p.2.2.2.2.2.2.2.1 l&&p.2.2.2.2.2.2.2.2.1 l&&p.2.2.2.2.2.2.2.2.2.1 l&&p.2.2.2.2.2.2.2.2.2.2.1 l&&p.2.2.2.2.2.2.2.2.2.2.2.1 l&&p.2.2.2.2.2.2.2.2.2.2.2.2.1 l&&p.2.2.2.2.2.2.2.2.2.2.2.2.2.1 l&&p.2.2.2.2.2.2.2.2.2.2.2.2.2.2.1 l&&p.2.2.2.2.2.2.2.2.2.2.2.2.2.2.2.1 l&&p.2.2.2.2.2.2.2.2.2.2.2.2.2.2.2.2.1 l&&p.2.2.2.2.2.2.2.2.2.2.2.2.2.2.2.2.2.1 l&&p.2.2.2.2.2.2.2.2.2.2.2.2.2.2.2.2.2.2 l)}:=⟨(_,_,_,_,_,_,_,_,_,_,_,_,_,_,_,_,_,_,_),fun l=>rfl⟩
theorem Ng:gH.1.1 PySem.Challenge.rw_uf010015_04=true:=by kernel_rfl
theorem Nf:gH.1.2.1 PySem.Challenge.rw_uf010015_04=true:=by kernel_rfl
theorem Nd:gH.1.2.2.1 PySem.Challenge.rw_uf010015_04=true:=by kernel_rfl
theorem Nc:gH.1.2.2.2.1 PySem.Challenge.rw_uf010015_04=true:=by kernel_rfl
theorem Nb:gH.1.2.2.2.2.1 PySem.Challenge.rw_uf010015_04=true:=by kernel_rfl
theorem Na:gH.1.2.2.2.2.2.1 PySem.Challenge.rw_uf010015_04=true:=by kernel_rfl
theorem M':gH.1.2.2.2.2.2.2.1 PySem.Challenge.rw_uf010015_04=true:=by kernel_rfl
theorem M_:gH.1.2.2.2.2.2.2.2.1 PySem.Challenge.rw_uf010015_04=true:=by kernel_rfl
theorem M9:gH.1.2.2.2.2.2.2.2.2.1 PySem.Challenge.rw_uf010015_04=true:=by kernel_rfl
theorem M8:gH.1.2.2.2.2.2.2.2.2.2.1 PySem.Challenge.rw_uf010015_04=true:=by kernel_rfl
theorem J_:gH.1.2.2.2.2.2.2.2.2.2.2.1 PySem.Challenge.rw_uf010015_04=true:=by kernel_rfl
theorem J9:gH.1.2.2.2.2.2.2.2.2.2.2.2.1 PySem.Challenge.rw_uf010015_04=true:=by kernel_rfl
theorem J8:gH.1.2.2.2.2.2.2.2.2.2.2.2.2.1 PySem.Challenge.rw_uf010015_04=true:=by kernel_rfl
theorem J7:gH.1.2.2.2.2.2.2.2.2.2.2.2.2.2.1 PySem.Challenge.rw_uf010015_04=true:=by kernel_rfl
theorem J6:gH.1.2.2.2.2.2.2.2.2.2.2.2.2.2.2.1 PySem.Challenge.rw_uf010015_04=true:=by kernel_rfl
theorem J5:gH.1.2.2.2.2.2.2.2.2.2.2.2.2.2.2.2.1 PySem.Challenge.rw_uf010015_04=true:=by kernel_rfl
theorem J0:gH.1.2.2.2.2.2.2.2.2.2.2.2.2.2.2.2.2.1 PySem.Challenge.rw_uf010015_04=true:=by kernel_rfl
theorem JZ:gH.1.2.2.2.2.2.2.2.2.2.2.2.2.2.2.2.2.2.1 PySem.Challenge.rw_uf010015_04=true:=by kernel_rfl
theorem JY:gH.1.2.2.2.2.2.2.2.2.2.2.2.2.2.2.2.2.2.2 PySem.Challenge.rw_uf010015_04=true:=by kernel_rfl
theorem HJ:PySem.Challenge.rw_uf010015_04.wellSaid=true:=(gH.2 PySem.Challenge.rw_uf010015_04).trans (eu (eu (eu (eu (eu (eu (eu (eu (eu (eu (eu (eu (eu (eu (eu (eu (eu (eu (Ng) Nf) Nd) Nc) Nb) Na) M') M_) M9) M8) J_) J9) J8) J7) J6) J5) J0) JZ) JY)
open PySem PySem.W PySem.Calls PyProof.Rows
noncomputable def d0 (p:Program) (w:World) (n₀:Nat) (ann:Option Value):Nat->SharedT->Thread->Option SharedT
 |0,_,_=>none
 |n+1,s,t=>match through t with
  |true=>some s
  |false=>match PySem.W.Fast.tw6613529449190102663 n₀ ann t with
   |false=>none
   |true=>match PySem.W.Fast.tw10156331382660048174 (PySem.W.Fast.tw11892475500146522536 PySem.W.Fast.tw14364793385576792824) p w s t with
    |some (s',t')=>d0 p w n₀ ann n s' t'
    |none=>none
theorem nx {p:Program} {w:World} {n₀:Nat} {ann:Option Value}:∀ {n:Nat} {s s':SharedT} {t:Thread},d0 p w n₀ ann n s t=some s'->topRun treeTable p w n₀ ann n s.abs t=some s'.abs
 |0,_,_,_,h=>by cases h
 |n+1,s,s',t,h=>by
  unfold d0 at h;rw[<-PySem.W.Fast.te6613529449190102663,<-PySem.W.Fast.te10156331382660048174,<-PySem.W.Fast.te11892475500146522536,<-PySem.W.Fast.te14364793385576792824] at h;unfold topRun;cases ht:through t with
  |true=>rw[ht] at h;cases h;rfl
  |false=>
   rw[ht] at h;cases hk:stepOk n₀ ann t with
   |false=>rw[hk] at h;cases h
   |true=>
    rw[hk] at h;cases hs:stepT (denote treeTable) p w s t with
    |none=>rw[hs] at h;cases h
    |some x=>
     obtain ⟨s₂,t₂⟩:=x;rw[hs] at h;dsimp only;rw[stepT_spec hs];exact nx h
noncomputable def fu (l:List Obj):BT:=(l.foldl (fun (x:BT×Nat) o=>(x.1.ins x.2 o,x.2+1)) (.nil,0)).1
theorem Di {p q:Program} {loose:List Str} {Xt:Shared->Bool} {Yf:Shared->Prop} {Yt:SharedT->Bool} {N n0:Nat} {life0:Life} {ann:Option Value}
  (e:opening p=plainProg p.main.scope.names) (hN:Nat.ble 600 N=true) (f:∀ s,fenceModules? p s=some s)
  (hT:∀ P:Params,absHeap (fu (boot_heap P).objs.toList) n0 life0=boot_heap P)
  (size:∀ w:World,((boot_heap w.params).isNs mainGlobals,(boot_heap w.params).objs.size,(boot_heap w.params).nsMap mainGlobals "__annotations__")=(true,n0,ann))
  (hY:∀ s,Yt s=true->Yf s.abs)
  (run1:∀ (w:World) (os:OsState),(d0 p w n0 ann N ⟨fu (boot_heap w.params).objs.toList,n0,life0,Array.mk [],boot_drawn,boot_toks,os⟩ (topStub p)).map (fun s=>
   (staticsOk (PySem.W.Fast.tw5923862056798008813 p.main.body) (boot_heap w.params) s.abs.heap&&namesBound p s.abs.heap&&gensDone s.abs&&laidKept (boot_heap w.params) s.abs.heap,Yt s))=some (true,true))
  (run2:∀ (w:World) (os:OsState),(d0 p w n0 ann N ⟨fu (boot_heap w.params).objs.toList,n0,life0,Array.mk [],boot_drawn,boot_toks,os⟩ (topStub p)).map (fun s=>
   PySem.W.Fast.tw4187177175401517315 q loose (PySem.W.Fast.tw5923862056798008813 p.main.body) Xt true s.abs)=some (openGood q loose)):
  LeftO p q loose Xt Yf (fun _=>True) N:=fun w=>by
 obtain ⟨⟨h,gs,d,k,os⟩,e1,e2⟩:=Ok.mp (boot_open e hN f w);obtain ⟨rfl,rfl,rfl,rfl⟩:h=boot_heap w.params/\gs=Array.mk []/\d=boot_drawn/\k=boot_toks:=by simpa using e2
 obtain ⟨z1,z2,z3⟩:_/\_/\_:=by simpa only [Prod.mk.injEq] using size w
 obtain ⟨s',r1,r2⟩:=Ok.mp (run1 w os);have l2:=run2 w os;rw[r1] at l2;have l2:=Om l2;rw[<-PySem.W.Fast.te5923862056798008813] at r2;rw[<-PySem.W.Fast.te5923862056798008813,<-PySem.W.Fast.te4187177175401517315] at l2;obtain ⟨l1,l3⟩:_/\_:=by simpa only [Prod.mk.injEq] using r2
 have r:=nx r1;have ha:(SharedT.abs ⟨fu (boot_heap w.params).objs.toList,n0,life0,Array.mk [],boot_drawn,boot_toks,os⟩)=⟨boot_heap w.params,Array.mk [],boot_drawn,boot_toks,os⟩:=by
  show Shared.mk (absHeap _ _ _) _ _ _ _=_;rw[hT]
 rw[ha] at r;unfold openEnds;rw[e1];show (topFrom treeTable p w N _).map _=_;have t:topFrom treeTable p w N ⟨boot_heap w.params,Array.mk [],boot_drawn,boot_toks,os⟩=some s'.abs:=by
  unfold topFrom;dsimp only;rw[z1,z2,z3,r];show (match staticsOk (importedModules p.main.body) (boot_heap w.params) s'.abs.heap&&namesBound p s'.abs.heap&&gensDone s'.abs&&laidKept (boot_heap w.params) s'.abs.heap with|true=>some s'.abs|false=>none)=_
  rw[l1]
 rw[t];exact congrArg some (Prod.ext l2 (eq_true (hY s' l3)))
open PySem PySem.W PySem.Calls PyProof.Rows
theorem Cr {α:Type} {o:Option α} {f g:α->Bool} (h1:o.map f=some true) (h2:o.map g=some true):o.map (fun s=>(f s,g s))=some (true,true):=by
 cases o with
 |none=>cases h1
 |some a=>exact congrArg some (Prod.ext (Om h1) (Om h2))
theorem Cq {α:Type} {o:Option α} {F:α->Shared} {q:Program} {loose mods:List Str} {Xt:Shared->Bool}
  (hA:o.map (fun s=>((PySem.W.Fast.tw4187177175401517315 q loose mods Xt true (F s)).1,(PySem.W.Fast.tw4187177175401517315 q loose mods Xt true (F s)).2.1))=some (expectedOf q,bltViewBooted))
  (hB:o.map (fun s=>((PySem.W.Fast.tw4187177175401517315 q loose mods Xt true (F s)).2.2.1,(PySem.W.Fast.tw4187177175401517315 q loose mods Xt true (F s)).2.2.2.1))=some (true,true))
  (hC:o.map (fun s=>(PySem.W.Fast.tw4187177175401517315 q loose mods Xt true (F s)).2.2.2.2.2.1)=some (plainGoodE q (looseW q loose)))
  (hD:o.map (fun s=>((PySem.W.Fast.tw4187177175401517315 q loose mods Xt true (F s)).2.2.2.2.1,(PySem.W.Fast.tw4187177175401517315 q loose mods Xt true (F s)).2.2.2.2.2.2))=some (pinGoodD (drecsOf q),plainGoodD q loose,wideGood q,clsGoodW q loose)):
  o.map (fun s=>PySem.W.Fast.tw4187177175401517315 q loose mods Xt true (F s))=some (openGood q loose):=by
 cases o with
 |none=>cases hA
 |some a=>
  obtain ⟨a1,a2⟩:=Prod.mk.inj (Om hA);obtain ⟨b1,b2⟩:=Prod.mk.inj (Om hB);have c1:=Om hC;obtain ⟨d1,d2⟩:=Prod.mk.inj (Om hD);exact congrArg some (Prod.ext a1 (Prod.ext a2 (Prod.ext b1 (Prod.ext b2 (Prod.ext d1 (Prod.ext c1 d2))))))
open PySem PySem.W PySem.Calls PyProof.Rows
set_option Elab.async false
set_option maxRecDepth 100000
set_option maxHeartbeats 8000000
noncomputable def pN:Program:=PySem.Challenge.pw_uf010015_04
noncomputable def qN:Program:=view pN ((List.range 1).map (· +0)++(List.range 17).map (· +2)++(List.range 2).map (· +20)++(List.range 10).map (· +23)++(List.range 2).map (· +34)++(List.range 13).map (· +37)++(List.range 24).map (· +51))
theorem z1:opening pN=plainProg pN.main.scope.names:=by kernel_rfl
theorem z2:∀ s,fenceModules? pN s=some s:=fun s=>by kernel_rfl
theorem z3:∀ P:Params,absHeap (fu (boot_heap P).objs.toList) 11 {}=boot_heap P:=fun P=>by kernel_rfl
theorem z4:∀ w:World,((boot_heap w.params).isNs mainGlobals,(boot_heap w.params).objs.size,(boot_heap w.params).nsMap mainGlobals "__annotations__")=(true,11,some (.ref 6)):=fun w=>by kernel_rfl
theorem M5:∀ (w:World) (os:OsState),(d0 pN w 11 (some (.ref 6)) 40178 ⟨fu (boot_heap w.params).objs.toList,11,{},Array.mk [],boot_drawn,boot_toks,os⟩ (topStub pN)).map (fun s=>staticsOk (PySem.W.Fast.tw5923862056798008813 pN.main.body) (boot_heap w.params) s.abs.heap&&namesBound pN s.abs.heap&&gensDone s.abs&&laidKept (boot_heap w.params) s.abs.heap)=some true:=fun w os=>by kernel_rfl
theorem MZ:∀ (w:World) (os:OsState),(d0 pN w 11 (some (.ref 6)) 40178 ⟨fu (boot_heap w.params).objs.toList,11,{},Array.mk [],boot_drawn,boot_toks,os⟩ (topStub pN)).map (fun s=>((PySem.W.Fast.tw4187177175401517315 qN ["BOUND","GREATEST"] (PySem.W.Fast.tw5923862056798008813 pN.main.body) (fun _=>true) true s.abs).1,(PySem.W.Fast.tw4187177175401517315 qN ["BOUND","GREATEST"] (PySem.W.Fast.tw5923862056798008813 pN.main.body) (fun _=>true) true s.abs).2.1))=some (expectedOf qN,bltViewBooted):=fun w os=>by kernel_rfl
theorem MY:∀ (w:World) (os:OsState),(d0 pN w 11 (some (.ref 6)) 40178 ⟨fu (boot_heap w.params).objs.toList,11,{},Array.mk [],boot_drawn,boot_toks,os⟩ (topStub pN)).map (fun s=>((PySem.W.Fast.tw4187177175401517315 qN ["BOUND","GREATEST"] (PySem.W.Fast.tw5923862056798008813 pN.main.body) (fun _=>true) true s.abs).2.2.1,(PySem.W.Fast.tw4187177175401517315 qN ["BOUND","GREATEST"] (PySem.W.Fast.tw5923862056798008813 pN.main.body) (fun _=>true) true s.abs).2.2.2.1))=some (true,true):=fun w os=>by kernel_rfl
theorem MX:∀ (w:World) (os:OsState),(d0 pN w 11 (some (.ref 6)) 40178 ⟨fu (boot_heap w.params).objs.toList,11,{},Array.mk [],boot_drawn,boot_toks,os⟩ (topStub pN)).map (fun s=>(PySem.W.Fast.tw4187177175401517315 qN ["BOUND","GREATEST"] (PySem.W.Fast.tw5923862056798008813 pN.main.body) (fun _=>true) true s.abs).2.2.2.2.2.1)=some (plainGoodE qN (looseW qN ["BOUND","GREATEST"])):=fun w os=>by kernel_rfl
theorem MW:∀ (w:World) (os:OsState),(d0 pN w 11 (some (.ref 6)) 40178 ⟨fu (boot_heap w.params).objs.toList,11,{},Array.mk [],boot_drawn,boot_toks,os⟩ (topStub pN)).map (fun s=>((PySem.W.Fast.tw4187177175401517315 qN ["BOUND","GREATEST"] (PySem.W.Fast.tw5923862056798008813 pN.main.body) (fun _=>true) true s.abs).2.2.2.2.1,(PySem.W.Fast.tw4187177175401517315 qN ["BOUND","GREATEST"] (PySem.W.Fast.tw5923862056798008813 pN.main.body) (fun _=>true) true s.abs).2.2.2.2.2.2))=some (pinGoodD (drecsOf qN),plainGoodD qN ["BOUND","GREATEST"],wideGood qN,clsGoodW qN ["BOUND","GREATEST"]):=fun w os=>by kernel_rfl
noncomputable abbrev nX:Nat:=17
end Mine.Internal
namespace Mine.Internal
theorem bJ {T:Prop} (h:∀ G:Prop,(T->G)->G):T:=h T id
section
variable {a b c d e f g h:Nat} {i j k l m n p:Int}
theorem c3 (u:a<b) (v:b<c) (w:c<d):3<=d:=NK (Nat.succ_le_of_lt (NZ (Nat.succ_le_of_lt (NZ (Nat.succ_le_of_lt (NZ (N3 a) u)) v)) w)) (NM d)
theorem nA (u:0<=i) (v:i<(b:Int)):i.natAbs<b:=Ob.mp (by rw[Int.natAbs_of_nonneg u];exact v)
theorem o0:a<=800->b<=a->b<=1000:=fun u v=>NK v (NK u (NH rfl))
theorem o1:a<=800->b<=a->b<=900:=fun u v=>NK v (NK u (NH rfl))
theorem o2:1<=i->0<i:=fun u=>Int.lt_of_add_one_le u
theorem o3:a<=7->a<=1000:=fun u=>NK u (NH rfl)
theorem o4:a<64->a<=1000:=fun u=>NK (OC u) (NH rfl)
theorem o5:a+(b+1)=c->a<c:=fun u=>u ▸ Nat.lt_add_of_pos_right (Nat.succ_pos b)
theorem o6:a<=800->a<=900:=fun u=>NK u (NH rfl)
theorem o7:a<64->b=a->b<64:=fun u v=>lt_of_eq_of_lt v u
theorem o8:i<=(a:Int)->0<=j/\j<i->j.toNat<a:=fun u v=>(Int.toNat_lt v.1).mpr (N' v.2 u)
theorem o9:0<=(a:Int):=Oy a
theorem B1:¬(a:Int)<0:=Int.not_ofNat_neg a
theorem LV:i<=(a:Int)->a<=1000->i<2^250:=fun u v=>N_ (N9 u (Oa.mpr v)) (by decide)
theorem LL:a<=1000->i.toNat<a->i.toNat<=100000:=fun u v=>NK (Oc v) (NK u (by decide))
theorem B0: -1000<=(a:Int):=Int.neg_ofNat_le_natCast 1000 a
theorem MN:1<=a+1:=Nat.le_add_left 1 a
theorem H_:1<=a->0<(a:Int):=fun u=>Int.natCast_pos.mpr u
theorem Ho:a<=63->a<=1000:=fun u=>NK (u) (NH rfl)
theorem As:2<=a/\a<=60->a<=1000:=fun u=>NK u.2 (by decide)
theorem Ly:a+(b+1)=a+1+b:=Eq.symm (Nat.succ_add_eq_add_succ a b)
theorem Nk:(a:Int)<=(a:Int):=Int.le_refl ↑a
theorem H9:a<=100->a<=1000:=fun u=>NK (u) (NH rfl)
theorem K9:a<=2^24->(a:Int)<9223372036854775808:=fun u=>Ob.mpr (NZ u (NH rfl))
theorem K7:a<b->b - (a+1)<b - a:=fun u=>Nat.sub_succ_lt_self b a u
theorem JM:a<=1000->(a:Int)<=100000000:=fun u=>Oa.mpr (NK u (by decide))
theorem MM:a<=a+0+1*b:=Os a (1*b)
theorem ML:a<=b+c->d+e+a<=d+b+(c+e):=by lia
theorem MK:a+(b+1)<=1000000->a+1+b<=1000000:=fun u=>NK (On (Nat.succ_add a b)) u
theorem MJ:0<=i/\i<41->i=(a:Int)->a<=1000:=fun u v=>NK (Oc (Ob.mp (v ▸ u.2:(a:Int)<((41:Nat):Int)))) (by decide)
theorem Nj:a<=900->b<=a->0+b<=1000000:=fun u v=>NK (On (Oq b)) (NK v (NK u (by decide)))
theorem Ni:a+(b+1)<=1000->a+1+b<=1000:=fun u=>NK (On (Nat.succ_add a b)) u
theorem H2:a<=900->a<=1000:=fun u=>NK u (by decide)
theorem Kw:a<=1000->0+a<=1000000:=fun u=>NK (On (Oq a)) (NK u (by decide))
theorem MI:a<b+1+c->a<b+(c+1):=fun u=>N0 u (On (Nat.succ_add b c))
theorem MH:0<=i/\i<12->i=(a:Int)->a<=1000:=fun u v=>NK (Oc (Ob.mp (v ▸ u.2:(a:Int)<((12:Nat):Int)))) (by decide)
theorem Km:a+(b+1)<=100->a+1+b<=100:=fun u=>NK (On (Nat.succ_add a b)) u
theorem Iq:a+1+b=a+(b+1):=by lia
theorem Ip: -2^62<i/\i<2^62-> -2^63<=i:=fun u=>N9 (by decide) u.1
theorem Io: -2^62<i/\i<2^62->i<2^63:=fun u=>N9 u.2 (by decide)
theorem L5:a=b->c<a->c<b:=fun u v=>u ▸ v
theorem Im:i.natAbs<2^64-> -2^64<i:=fun u=>Int.neg_lt_of_neg_lt (N_ (Int.natAbs_neg i ▸ Int.le_natAbs) (N' (Ob.mpr u) (by decide)))
theorem Il:i.natAbs<2^64->i<2^64:=fun u=>N_ Int.le_natAbs (N' (Ob.mpr u) (by decide))
theorem Ik:a+64<b->c<=9->a+1+min c d<b:=fun u v=>NZ (NK (Oe (NK (Nat.min_le_left _ _) v) _) (Oe (by decide:10<=64) a)) u
theorem LZ:¬((a+1:Nat):Int)<1:=of_decide_eq_false rfl
theorem LY:¬b<a->¬(b:Int)<(a:Int):=fun u v=>u (Ob.mp v)
theorem LX:i<=(a:Int)->0<=j/\j<i->j.toNat<min i.toNat a:=fun u v=>Nat.lt_min.mpr ⟨(Int.toNat_lt v.1).mpr (N' v.2 (Int.self_le_toNat i)),(Int.toNat_lt v.1).mpr (N' v.2 u)⟩
theorem LW:((a:Int) - 0 - 1+1).toNat=a:=by rw[Int.sub_zero,Int.sub_add_cancel];rfl
theorem LU:¬0<(a:Int)->0=a:=fun u=>(Nat.eq_zero_of_not_pos fun q=>u (Ob.mpr q)).symm
theorem LS:0<=i/\i<(a:Int)->i=(b:Int)->(b:Int)<=(a:Int):=fun u v=>v ▸ Ov u.2
theorem LR:0<=(a:Int)+1:=Int.zero_le_ofNat (a+1)
theorem LQ:0<=i/\i<(a:Int)->i=(b:Int)->(b:Int)+1<=(a:Int):=fun u v=>Int.add_one_le_of_lt (v ▸ u.2)
theorem LP:((a:Int)+1).toNat=a+1:=Int.toNat_natCast_add_one
theorem LO:a<=11->1<=a+1/\a+1<=12:=fun u=>⟨Ow (N3 a),Ow u⟩
theorem LN:a<b->c<b->d<b->a≠c->a≠d->c≠d->3<=b:=fun u v w x y z=>(Nat.lt_or_gt_of_ne x).elim (fun p=>(Nat.lt_or_gt_of_ne z).elim (fun q=>c3 p q w) fun q=>(Nat.lt_or_gt_of_ne y).elim (fun r=>c3 r q v) fun r=>c3 r p v) fun p=>(Nat.lt_or_gt_of_ne y).elim (fun q=>c3 p q w) fun q=>(Nat.lt_or_gt_of_ne z).elim (fun r=>c3 r q u) fun r=>c3 r p u
theorem LM:a<=b->c<=d->c+a<=b+d:=fun u v=>NK (Nat.add_le_add v u) (On (Nat.add_comm d b))
theorem LK:a+(b+1)<=40->a+1+b<=40:=fun u=>NK (On (Nat.succ_add a b)) u
theorem LJ:a+(b+1)<=40->a+1<=1000:=fun u=>NK (Oe (Ow (N3 b)) a) (NK u (by decide))
theorem LI:0<=i/\i<41->i=(a:Int)->0+a<=40:=fun u v=>NK (On (Oq a)) (OC (Ob.mp (v ▸ u.2:(a:Int)<((41:Nat):Int))))
theorem LH:0<=i/\i<41->i=(a:Int)->b<a->b<100:=fun u v w=>Ou w (N0 (Ob.mp (v ▸ u.2:(a:Int)<((41:Nat):Int))) (by decide))
theorem LG:a<=1000->a - 1<=100000:=fun u=>NK (Nat.sub_le a 1) (NK u (by decide))
theorem Ij:a<b->b<=1000->a<=100000:=fun u v=>NK (Oc u) (NK v (by decide))
theorem Ii:a<=900->a+1<=1000:=fun u=>NK (Ow u) (NH rfl)
theorem Ih:2<=a/\a<=60->0+a<=1000000:=fun u=>NK (On (Oq a)) (NK u.2 (by decide))
theorem LF:a<=900->0+a<=1000:=fun u=>by rw[Oq];exact NK u (NH rfl)
theorem LE:((i+j) % 36).toNat=a->(i+j) % 36=(a:Int):=fun u=>u ▸ (Od (Int.emod_nonneg _ (by decide))).symm
theorem Ig:a<=3->a≠3+1:=fun u=>Nat.ne_of_lt (NZ u (NH rfl))
theorem Ie:a<=3->a≠4+1:=fun u=>Nat.ne_of_lt (NZ u (NH rfl))
theorem Ic:a<=3->a≠5+1:=fun u=>Nat.ne_of_lt (NZ u (NH rfl))
theorem LD:(i+j*(3:Int)) % 36=(13:Int)->(i+j*(5:Int)) % 36=(4:Int)->False:=fun u v=>by have h1:=Int.emod_emod_of_dvd (i+j*3) (show (2:Int) ∣ 36 by decide);have h2:=Int.emod_emod_of_dvd (i+j*5) (show (2:Int) ∣ 36 by decide);rw[u] at h1;rw[v,show i+j*5=i+j*3+2*j by rw[Int.add_assoc,Int.mul_comm 2,<-Int.mul_add];rfl,Int.add_mul_emod_self_left,<-h1] at h2;exact absurd h2 (by decide)
theorem Ib:¬a<=3->a≠0+1:=fun u v=>u (NK (On v) (NH rfl))
theorem Ia:¬a<=3->a≠1+1:=fun u v=>u (v ▸ by decide)
theorem H':¬a<=3->a≠2+1:=fun u v=>u (On v)
theorem LC:(i+j*(0:Int)) % 36=(19:Int)->(i+j*(2:Int)) % 36=(0:Int)->False:=fun u v=>by have h1:=Int.emod_emod_of_dvd (i+j*0) (show (2:Int) ∣ 36 by decide);have h2:=Int.emod_emod_of_dvd (i+j*2) (show (2:Int) ∣ 36 by decide);rw[u] at h1;rw[v,show i+j*2=i+j*0+2*j by rw[Int.add_assoc,Int.mul_comm 2,<-Int.mul_add];rfl,Int.add_mul_emod_self_left,<-h1] at h2;exact absurd h2 (by decide)
theorem LB:0<=i/\i<12->i=(a:Int)->b<0+a->b+1+1<=1000:=fun u v w=>NK (Ow (Nat.succ_le_of_lt (N0 w (NK (On (Oq a)) (Oc (Ob.mp (v ▸ u.2:(a:Int)<((12:Nat):Int)))))))) (by decide)
theorem LA:0<=i/\i<12->i=(a:Int)->b<0+a->((b:Int)).natAbs<2^64:=fun u v w=>N0 w (NK (On (Oq a)) (NK (Oc (Ob.mp (v ▸ u.2:(a:Int)<((12:Nat):Int)))) (by decide)))
theorem Lz:0<=i/\i<12->i=(a:Int)->a<=11:=fun u v=>OC (Ob.mp (v ▸ u.2:(a:Int)<((12:Nat):Int)))
theorem Lx:¬0<=i->0<=i+(a:Int)->(i+(a:Int)).toNat<a:=fun u v=>(Int.toNat_lt v).mpr (by have:=Int.add_lt_add_right (Int.not_le.mp u) (a:Int);rwa [Int.zero_add] at this)
theorem Lw:i<0->i+(a:Int)<=(a:Int):=fun u=>N9 (Int.add_le_add_right (Ov u) a) (Int.le_of_eq (Int.zero_add _))
theorem Lv:((a:Int)+(b:Int)*1).toNat=a+b:=by rw[Int.mul_one];exact Int.toNat_natCast (a+b)
theorem Lu:1≠a+1+1:=Nat.ne_of_beq_eq_false rfl
theorem Lr:a+(b+1)<=7->c<b->a+(c+1)<7:=fun u v=>N0 (Nat.add_lt_add_left (Nat.succ_lt_succ v) a) u
theorem Lq:a+(b+1)<=7->a+1+b<=7:=fun u=>NK (On (Nat.succ_add a b)) u
theorem Lp:a+0<a+(b+1):=Nat.add_lt_add_left (Nat.succ_pos b) a
theorem Lo:a=b->b<=7->0+a<=7:=fun u v=>NK (On ((Oq a).trans u)) v
theorem Ln:a=b->b<=7->c<0+a->c<7:=fun u v w=>N0 w (NK (On ((Oq a).trans u)) v)
theorem Lm:a+8*b+150<c->a+1+8*b+144<c:=fun u=>by rw[Nat.add_right_comm a 1];exact NZ (Oe (by decide:145<=150) _) u
theorem Ll:a+64*b+1000<c->d<=a+10->d+64*b+945<c:=fun u v=>NZ (NK (Nat.add_le_add_right (Nat.add_le_add_right v _) _) (by rw[Nat.add_right_comm a 10];exact Oe (by decide:955<=1000) _)) u
theorem Lk:a<7->a=b->c=b->d<0+c->d<7:=fun u v w x=>by subst v;subst w;rw[Oq] at x;exact Ou x u
theorem Lj:a=b->c=b->d<0+c->d=a->False:=fun u v w x=>by rw[x,v,u,Oq] at w;exact Og _ w
theorem Li:a<7->a=b->c=b->c<=999:=fun u v w=>by subst v;subst w;exact NK (Oc u) (by decide)
theorem Lh:a<7->a=b->b<=6:=fun u v=>v ▸ OC u
theorem Lg: -2^63<=(a:Int):=Int.neg_ofNat_le_natCast (2^63) a
theorem Lf:(a:Int) - ((b:Int)+1)=(a:Int) - (b:Int) - 1:=Eq.symm (Int.sub_sub (↑a) (↑b) 1)
theorem Le:a=b->(a:Int) - (b:Int)<=0:=fun u=>by rw[u,Int.sub_self];exact Int.le_refl 0
theorem Ld:a+8*(b+1)+144<c->a<c:=fun u=>NZ (NK (Os a _) (Os _ 144)) u
theorem Lc:a+8*(b+1)+144<c->a+1+8*b+150<c:=fun u=>NZ (by rw[Nat.mul_succ,<-Nat.add_assoc,Nat.add_right_comm a 1];exact Oe (by decide:151<=152) _) u
theorem Lb:a+64*(b+1)+945<c->a+3+64*b+1000<c:=fun u=>NZ (by rw[Nat.mul_succ,<-Nat.add_assoc,Nat.add_right_comm a 3];exact Oe (by decide:1003<=1009) _) u
theorem La:a+8*(b+1)+144<c->a+1+8*b+151<c:=fun u=>NZ (by rw[Nat.mul_succ,<-Nat.add_assoc,Nat.add_right_comm a 1];exact NM _) u
theorem K_:a+64*(b+1)+945<c->a+3+64*b+1005<c:=fun u=>NZ (by rw[Nat.mul_succ,<-Nat.add_assoc,Nat.add_right_comm a 3];exact Oe (by decide:1008<=1009) _) u
theorem K8:a+b<=1048576->c<=a+d->d<=b*15->c<=2^24:=fun u v w=>NK v (NK (Nat.add_le_add (NK (Os a b) u) (NK w (Nat.mul_le_mul_right 15 (NK (Nat.le_add_left b a) u)))) (by decide))
theorem K6:a<=50->b=300->1+b+8*(a+1)+144<1000:=fun u v=>by subst v;exact NZ (Nat.add_le_add_right (Oe (OB 8 (Ow u)) _) _) (by decide)
theorem K5:a<=2^24->¬a>(2^63 - 1) / 8:=fun u=>fun q=>absurd (N0 q u) (by decide)
theorem K4:a+b+2<=2^27->(c:Int)+(d:Int)>((2^27:Nat):Int)->c<=a+1->d<=b+1->False:=fun u v w x=>absurd (Ob.mp v) (Oz.mpr (NK (Nat.add_le_add w x) (NK (On (Nat.add_add_add_comm a 1 b 1)) u)))
theorem K3:1<=i/\i<=1000/\a=1->1*i<=2^63 - 1:=fun u=>by rw[Int.one_mul];exact N9 u.2.1 (by decide)
theorem K2:¬(a:Int)+1=0:=Int.ne_of_gt (Int.lt_add_one_of_le (Oy a))
theorem K1:a+64*b+1000<c->a+64<c:=fun u=>NZ (Nat.add_le_add (Os a _) (by decide)) u
theorem K0:0<i->i<2^250->i.natAbs<2^250:=fun u v=>Int.natAbs_lt_natAbs_of_nonneg_of_lt (b:=2^250) (Ov u) v
theorem H8:a=b->¬a<b:=fun u=>u ▸ Og a
theorem KZ:¬(0<=i/\i<=99999)->¬i<0->99999<i:=fun u v=>Int.not_le.mp fun q=>u ⟨OA.mp v,q⟩
theorem KY:a+(b+1)<=100000->a+1+b<=100000:=fun u=>by rw[Nat.add_right_comm];exact u
theorem KX:a+(b+1)<=900->a+1+b<=900:=fun u=>by rw[Nat.add_right_comm];exact u
theorem H7:a - b<=a - b:=NM _
theorem H6:¬60<a->¬60<(a:Int):=fun u=>OA.mpr (Oa.mpr (Oz.mp u))
theorem KW:¬a=b->(a:Int)≠(b:Int):=fun u=>fun h=>u (Int.ofNat.inj h)
theorem s8:a<=500->a<=1000:=fun u=>NK (u) (NH rfl)
theorem KV:a=4->1<a:=fun u=>by subst u;decide
theorem KU:a=4->2<a:=fun u=>by subst u;decide
theorem KT:a=4->3<a:=fun u=>by subst u;decide
theorem H5:a<=b->b<=10000->(a:Int)<=100000000:=fun u v=>N9 (Oa.mpr (NK u v)) (by decide)
theorem H4:8<=a->b<=6->b<a:=fun u v=>NZ v (N0 (Nat.lt_succ_self _) (Nat.le_of_succ_le u))
theorem KS:a - b=c+1->a=b+1+c:=fun u=>((Nat.sub_eq_iff_eq_add (Oc (Nat.lt_of_sub_pos (u ▸ Nat.succ_pos c)))).mp u).trans (by rw[Nat.add_comm,Nat.add_comm c,Nat.add_assoc])
theorem H3:a<=9000->a=b+1+c->b<=100000:=fun u v=>NK (NK (v ▸ NK (Oh _) (Os _ _)) u) (NH rfl)
theorem KR:b+1<=b+1+a:=Os _ _
theorem KQ:a<=9000->a=b+1+c->c<=9000:=fun u v=>NK (v ▸ Nat.le_add_left _ _) u
theorem KO:a<=9000->a=b+1+c->0+min d c<=1000000:=fun u v=>NK (On (Oq _)) (NK (Nat.min_le_right _ _) (NK (v ▸ Nat.le_add_left _ _) (NK u (NH rfl))))
theorem KN:a=5->1<a:=fun u=>by subst u;decide
theorem KM:a=5->2<a:=fun u=>by subst u;decide
theorem KL:a=5->3<a:=fun u=>by subst u;decide
theorem KJ:a=5->4<a:=fun u=>by subst u;decide
theorem KI:a=3->1<a:=fun u=>by subst u;decide
theorem KH:a=3->2<a:=fun u=>by subst u;decide
theorem KG:a=2->1<a:=fun u=>by subst u;decide
theorem KE:a=b+1+c->(b:Int)<(a:Int):=fun v=>Ob.mpr (v ▸ N0 (Nat.lt_succ_self _) (Os _ _))
theorem KC:a<=b+(c+1)->a<=b+1+d+c:=fun u=>NK u (by rw[Nat.add_right_comm b 1 d,Nat.add_assoc (b+d),Nat.add_comm 1];exact Nat.add_le_add_right (Os _ _) _)
theorem KA:a<=0+a:=Nat.le_add_left _ _
theorem FY:a<=8000->a+1+1<=10000:=fun u=>NK (Nat.add_le_add_right (Nat.add_le_add_right (u) _) _) (NH rfl)
theorem Kz:1<=1+a:=Os _ _
theorem Ky:a=3->a<=32:=fun u=>by subst u;decide
theorem Kx:0<=i->i<=99999->i.natAbs<10^31:=fun u v=>N0 (nA (b:=100000) u (Int.lt_add_one_of_le v)) (by decide)
theorem CV:1<=i/\i<=10^9->i.natAbs<10^31:=fun u=>N0 (nA (b:=1000000001) (N9 (by decide) u.1) (Int.lt_add_one_of_le u.2)) (by decide)
theorem H1:a<=60->((a:Int)).natAbs<10^31:=fun u=>NZ (show a<=60 from u) (by decide)
theorem Kv:(a:Int)<=((a+b:Nat):Int):=Oa.mpr (Os _ _)
theorem H0:1<=i/\i<=1000->i.natAbs<10^31:=fun u=>N0 (nA (b:=1001) (N9 (by decide) u.1) (Int.lt_add_one_of_le u.2)) (by decide)
theorem Ku:b<=a+b:=Nat.le_add_left _ _
theorem HZ:a<=32->a<=40:=fun u=>NK u (NH rfl)
theorem Kt:a<=12->b=3->4+(a+(b+0))+3<=149:=fun u v=>NK (Nat.add_le_add_right (Oe (Nat.add_le_add (u) (Nat.add_le_add_right (On v) _)) _) _) (NH rfl)
theorem Ks:a<=32->b<=32->c=3->4+(c+(a+(b+0)))+4<=149:=fun u v w=>NK (Nat.add_le_add_right (Oe (Nat.add_le_add (On w) (Nat.add_le_add (u) (Nat.add_le_add_right (v) _))) _) _) (NH rfl)
theorem Kr:a<=32->b<=32->5+(a+(b+0))+3<=149:=fun u v=>NK (Nat.add_le_add_right (Oe (Nat.add_le_add (u) (Nat.add_le_add_right (v) _)) _) _) (NH rfl)
theorem Kq:a<=32->b<=32->c<=12->d<=12->e=3->f=3->6+(a+(c+(e+(b+(d+(f+0))))))+7<=149:=fun u v w x y z=>NK (Nat.add_le_add_right (Oe (Nat.add_le_add (u) (Nat.add_le_add (w) (Nat.add_le_add (On y) (Nat.add_le_add (v) (Nat.add_le_add (x) (Nat.add_le_add_right (On z) _)))))) _) _) (NH rfl)
theorem Kp:a<=32->4+(a+0)+2<=149:=fun u=>NK (Nat.add_le_add_right (Oe (Nat.add_le_add_right (u) _) _) _) (NH rfl)
theorem Ko:a<=61->b<=61*c->a+b<=61*(c+1):=fun u v=>by rw[Nat.mul_succ,Nat.add_comm];exact Nat.add_le_add v u
theorem Kn:a<=b->c<=d->c+(a+1)<=b+(d+1):=fun u v=>by rw[Nat.add_comm b,Nat.add_assoc,Nat.add_comm 1];exact Nat.add_le_add v (Ow u)
theorem Kl:i<=8->(a:Int)<=i->a<=8:=by lia
theorem Kk:4<=i/\i<=8->0<=i:=by lia
theorem Kj:4<=i/\i<=8->(a:Int)<=i->a<=8:=by lia
theorem Ki:4<=i/\i<=8->i<=(a:Int)->3<=a:=by lia
theorem Kh:a=3->a<=40:=fun u=>by subst u;decide
theorem HY:0<=i/\i<9->i=(a:Int)->a<=1000:=by lia
theorem uX:a<=12->a+1<=1000:=fun u=>NK (Nat.add_le_add_right (u) _) (NH rfl)
theorem FX:¬40<a->¬40<(a:Int):=fun u=>OA.mpr (Oa.mpr (Oz.mp u))
theorem HX:¬a<2->¬(a:Int)<2:=fun u=>OA.mpr (Oa.mpr (Oz.mp u))
theorem HW:a<2∨60<a->¬a<2->60<(a:Int):=by lia
theorem HV:¬(a<2∨60<a)->¬(a:Int)<2:=by lia
theorem HU:¬(a<2∨60<a)->¬60<(a:Int):=by lia
theorem Kg:a=3->a<=4:=fun u=>by subst u;decide
theorem FW:(-1+(a:Int)).toNat=a - 1:=by lia
theorem HT:a - 1<a->0<= -1+(a:Int):=by lia
theorem HS:b=a+2->0<(b:Int):=by lia
theorem Kf:i=6->i≠5:=fun u=>by subst u;decide
theorem Iw:a=60->a<=200:=fun u=>by subst u;decide
theorem Iv:i=7->¬i<5:=fun u=>by subst u;decide
theorem Iu:i=7->i≠4:=fun u=>by subst u;decide
theorem It:i=7->i≠5:=fun u=>by subst u;decide
theorem Ir:i=7->i≠6:=fun u=>by subst u;decide
theorem qp:a<=12->a<=900:=fun u=>NK (u) (NH rfl)
theorem EO:a<=12->a+1+1<=1000:=fun u=>NK (Nat.add_le_add_right (Nat.add_le_add_right (u) _) _) (NH rfl)
theorem nO:2<=a/\a<=60->b=a->b<=1000:=by lia
theorem ta:a<=200->a<=900:=fun u=>NK (u) (NH rfl)
theorem At:a<=13->a+1<=1000:=fun u=>NK (Nat.add_le_add_right (u) _) (NH rfl)
theorem wL:a<=200->b=a->b<=1000:=fun u v=>NK (NK (On v) (u)) (NH rfl)
theorem s_:a<=13->a<=900:=fun u=>NK (u) (NH rfl)
end
inductive D where
 |none
 |bool (b:Bool)
 |int (i:Int)
 |str (s:List Nat)
 |tup (l:List D)
 |lst (l:List D)
 |dct (ks vs:List D)
 |rng (a b c:Int)
 |exc (c:Nat)
inductive PV where
 |d (x:D)
 |p (n j:Nat)
 /-- a list of the class's object at n and of data -/
 |b (n:Nat) (x:D)
inductive cB where
 |d (x:D)
 |list (l:List D)
 |dict (ks vs:List D)
inductive PO where
 |fld (f:cB)
 |rcd (i:Bool) (l:List cB)
 |dead
 |wrp (f:cB)
noncomputable abbrev av:=List PO
noncomputable abbrev bb:=List (Option PV)
inductive R (α:Type) where
 |ok (a:α)
 |ex (c:Nat)
noncomputable abbrev PM (α:Type):=av->Option (R α×av)
inductive Out where
 |next (ρ:bb)
 |ret (v:PV)
 |ex (c:Nat) (ρ:bb)
section
variable {α β:Type}
noncomputable def ret (a:α):PM α:=fun σ=>some (.ok a,σ)
noncomputable def GZ (f:α->PM β):Option (R α×av)->Option (R β×av)
 |some (.ok a,σ)=>f a σ
 |some (.ex c,σ)=>some (.ex c,σ)
 |none=>none
noncomputable def bP (m:PM α) (f:α->PM β):PM β:=fun σ=>GZ f (m σ)
noncomputable def CU (o:Option α):PM α:=fun σ=>o.map fun a=>(.ok a,σ)
def Wp (K:R α->av->Prop):Option (R α×av)->Prop
 |some (r,σ)=>K r σ
 |none=>False
def bK (K:R β->av->Prop) (f:α->PM β):R α->av->Prop
 | .ok a,σ=>Wp K (f a σ)
 | .ex c,σ=>K (.ex c) σ
theorem aL {K:R β->av->Prop} {f:α->PM β}:∀ {o:Option (R α×av)},Wp K (GZ f o)->Wp (bK K f) o
 |none,h=>h
 |some (.ok _,_),h=>h
 |some (.ex _,_),h=>h
theorem fq {K:R α->av->Prop} {σ:av}:∀ {o:Option α},Wp K (o.map fun a=>(.ok a,σ))->∃ a,o=some a/\K (.ok a) σ
 |none,h=>h.elim
 |some a,h=>⟨a,rfl,h⟩
end
noncomputable def cS:Nat:=2^24
noncomputable def cB.toD:cB->D
 | .d x=>x
 | .list l=>.lst l
 | .dict ks vs=>.dct ks vs
noncomputable def PO.at:PO->Nat->Option cB
 | .fld f,0=>some f
 | .rcd _ l,j+2=>l[j]?
 | .wrp f,2=>some f
 |_,_=>none
noncomputable def PO.put:PO->Nat->cB->PO
 | .fld _,_,f=>.fld f
 | .rcd i l,j,f=>.rcd i (l.set (j - 2) f)
 | .dead,_,_=>.dead
 | .wrp _,_,f=>.wrp f
noncomputable def cq (σ:av) (n j:Nat):Option cB:=(σ[n]?).bind fun o=>o.at j
noncomputable def eT (σ:av) (n j:Nat) (f:cB):av:=match σ[n]? with
 |some o=>σ.set n (o.put j f)
 |none=>σ
noncomputable def cB.rd:cB->Option D
 | .d _=>none
 | .list l=>some (.lst l)
 | .dict ks vs=>some (.dct ks vs)
noncomputable def rd (σ:av):PV->Option D
 | .d x=>some x
 | .p n j=>(cq σ n j).bind cB.rd
 | .b _ _=>none
noncomputable def km:PV->Option D
 | .d x=>some x
 |_=>none
noncomputable def qc:List PV->Option (List D)
 |[]=>some []
 |v::r=>(km v).bind fun x=>(qc r).map (x::·)
noncomputable def kN (o:PO):PM PV:=fun σ=>some (.ok (.p σ.length 0),σ++[o])
set_option genCtorIdx false
structure cQ where
 Φ:Bool->Nat->List PV->PM PV
 hd:Bool
noncomputable def cQ.up (K:cQ):cQ:=⟨K.Φ,true⟩
noncomputable def nU (a b:Int):Bool:=decide (a.natAbs<2^64)||decide (b.natAbs<2^64)||decide (a.natAbs.log2+b.natAbs.log2+2<=2^27)
noncomputable def mq (b:Int):Bool:=b !=0&&decide (b.natAbs<2^9000)
noncomputable def bQ (i:Int):Bool:=decide (-(2^62)<i)&&decide (i<2^62)
noncomputable def cV (i:Int) (n:Nat):Option Nat:=
 if 0<=i then (if i<n then some i.toNat else none) else if 0<=i+n then some (i+n).toNat else none
noncomputable def cZ (i:Int) (n:Nat):Nat:=if i<0 then (i+n).toNat else min i.toNat n
noncomputable def bf {α:Type} (l:List α) (lo hi:Nat):List α:=(l.drop lo).take (hi - lo)
noncomputable def Hk {α:Type} (l:List α):Nat->List α
 |0=>[]
 |n+1=>l++Hk l n
noncomputable def iD:D->Option Int
 | .int i=>some i
 |_=>none
noncomputable def bD:D->Option Bool
 | .bool b=>some b
 |_=>none
noncomputable def sD:D->Option (List Nat)
 | .str s=>some s
 |_=>none
noncomputable def tD:D->Option (List D)
 | .tup l=>some l
 |_=>none
noncomputable def lD:D->Option (List D)
 | .lst l=>some l
 |_=>none
noncomputable def aq {α:Type} (c:Prop) [Decidable c] (a:α):Option α:=if c then some a else none
noncomputable def Bb:D->Bool
 | .int _=>true
 | .str _=>true
 |_=>false
noncomputable def eY (a b c:Int):Nat:=if a<b then ((b - a - 1) / c+1).toNat else 0
noncomputable def items:D->Option (List D)
 | .tup l=>some l
 | .lst l=>aq (l.length<=cS) l
 | .str s=>aq (s.length<=cS) (s.map fun c=>.str [c])
 | .rng a b c=>aq ((bQ a&&bQ b&&decide (0<c)&&decide (c<1000)&&decide (eY a b c<=100000))=true) ((List.range (eY a b c)).map fun (i:Nat)=>.int (a+(i:Int)*c))
 | .dct ks _=>aq (ks.length<=100000/\ks.all Bb=true) ks
 |_=>none
open Classical in
noncomputable def bN (σ:av) (x:D):PV->Bool
 | .d _=>true
 |v=>decide (rd σ v=some x)
noncomputable def c6 (v:PV) (x:D) (i:Nat) (body:bb->av->Option (Out×av)):List D->bb->av->Option (Out×av)
 |[],ρ,σ=>some (.next ρ,σ)
 |y::r,ρ,σ=>match body (ρ.set i (some (.d y))) σ with
  |some (.next ρ',σ')=>if bN σ' x v then c6 v x i body r ρ' σ' else none
  |z=>z
noncomputable def dF (v:PV) (x:D) (i:Nat) (test:bb->PM Bool) (bM:bb->PM PV) (ρ:bb):List D->List D->PM (List D)
 |[],acc=>ret acc
 |y::r,acc=>fun σ=>match test (ρ.set i (some (.d y))) σ with
  |some (.ok false,σ')=>if bN σ' x v then dF v x i test bM ρ r acc σ' else none
  |some (.ok true,σ')=>(match bM (ρ.set i (some (.d y))) σ' with
   |some (.ok (.d z),σ'')=>if bN σ'' x v/\acc.length<cS then dF v x i test bM ρ r (acc++[z]) σ'' else none
   |some (.ex c,σ'')=>some (.ex c,σ'')
   |_=>none)
  |_=>none
noncomputable def df {α:Type} (ρ:bb) (m:PM α) (k:α->av->Option (Out×av)):av->Option (Out×av):=fun σ=>match m σ with
 |some (.ok v,σ')=>k v σ'
 |some (.ex n,σ')=>some (.ex n ρ,σ')
 |none=>none
noncomputable def lV (z:Option (Out×av)) (k:bb->av->Option (Out×av)):Option (Out×av):=match z with
 |some (.next ρ,σ)=>k ρ σ
 |z=>z
noncomputable def Ae (keep:Bool) (n:Nat) (σ:av):Nat->Option PO->Option (R PV×av)
 |0,some (.fld f)=>(match keep with
  |false=>some (.ok (.d f.toD),σ.take n)
  |true=>some (.ok (.p n 0),σ.take n++[.fld f]))
 |0,some o=>some (.ok (.p n 0),σ.take n++[o])
 |_,_=>none
noncomputable def CB (n:Nat) (σ:av) (x:D):Option PO->Option (R PV×av)
 |some (.rcd true l)=>some (.ok (.b n x),σ.take n++[.rcd true l])
 |_=>none
noncomputable def FG (keep:Bool) (n:Nat):PV->av->Option (R PV×av)
 | .d x,σ=>some (.ok (.d x),σ.take n)
 | .p m j,σ=>if m<n then some (.ok (.p m j),σ.take n) else Ae keep n σ j σ[m]?
 | .b m x,σ=>if m<n then none else CB n σ x σ[m]?
noncomputable def Bn (keep:Bool) (n:Nat):Option (Out×av)->Option (R PV×av)
 |some (.next _,σ')=>some (.ok (.d .none),σ'.take n)
 |some (.ret v,σ')=>FG keep n v σ'
 |some (.ex c _,σ')=>some (.ex c,σ'.take n)
 |none=>none
end Mine.Internal
namespace Mine.Internal
open PySem PyProof.Rows
variable {a:Addr} {o:Obj} {v:Value} {c:Const} {j n n' t:Nat} {G:List (Addr×Obj)} {e z:Expr} {σ:av} {α:Type} {po:PO}
structure Fm where
 L:Addr
 m:Str->Option Value
 cells:List Addr
 cv:Addr->Option Value
noncomputable def Fm.adr (f:Fm):List Addr:=f.L::f.cells
def Fm.like (f g:Fm):Prop:=g.L=f.L/\g.cells=f.cells
theorem Fm.like.refl (f:Fm):f.like f:=⟨rfl,rfl⟩
theorem Fm.like.trans {f g k:Fm} (a:f.like g) (b:g.like k):f.like k:=⟨b.1.trans a.1,b.2.trans a.2⟩
structure PF where
 params:Nat
 slots:Nat
 keep:Bool
 body:cQ->bb->av->Option (Out×av)
noncomputable def FD (K:cQ) (f:PF) (args:List PV):PM PV:=fun σ=>
 if args.length=f.params then Bn f.keep σ.length (f.body K (args.map some++List.replicate (f.slots - f.params) none) σ) else none
noncomputable def jQ (T:Nat->Option PF):Nat->Bool->Nat->List PV->PM PV
 |0,_,_,_=>fun _=>none
 |d+1,hd,f,args=>match T f with
  |some pf=>FD ⟨jQ T d,hd⟩ pf args
  |none=>fun _=>none
structure zv where
 c:Addr
 P:Addr
 pos:Pos
 qual:Str
structure bC where
 prog:Program
 w:World
 H:Heap
 book:Addr
 exc:Nat->Addr
 K:List (Addr×Obj)
 mg:Str->Option Value
 mb:Str->Option Value
 fnm:Nat->Str×Bool
 fadr:Nat->Addr
 att:Nat->Str
 key:Nat->Str
 gls:List (Str×(Option Int×List Nat))
 T:Nat->Option PF
 lam:Option zv
variable {C:bC}
noncomputable abbrev bC.M (C:bC):Model:=model C.prog C.w
noncomputable abbrev dh (vs:List Value) (n:Nat):Obj:={cls:=.type "tuple",data:=.seq vs.toArray n}
noncomputable abbrev aU (vs:List Value) (n:Nat):Obj:={cls:=.type "list",data:=.seq vs.toArray n}
structure JC where
 n:Nat
 d:Option Addr
 sl:Array (Option Value)
noncomputable abbrev og (vs:List Value) (r:JC):Obj:={cls:=.type "list",dict:=r.d,data:=.seq vs.toArray r.n,slots:=r.sl}
noncomputable abbrev Ab (a b c:Int) (t u v:Tok):Obj:={cls:=.type "range",data:=.fields #[.int a t,.int b u,.int c v]}
noncomputable abbrev lE (c d:Addr):Obj:={cls:=.ref c,dict:=some d,data:=.plain}
noncomputable abbrev dO (es:List DictEntry) (n:Nat):Obj:={cls:=.type "dict",data:=.dict es.toArray n}
set_option genCtorIdx true in
inductive c4 where
 |no
 |fz (o:Obj)
 |cell (n j:Nat)
 |gh
 |fr
variable {x:c4}
noncomputable abbrev bI:=Addr->c4
variable {w:bI}
def kl (s:List Nat):Prop:=(∀ c∈s,c<0x110000)/\s.length<=cS
noncomputable abbrev cE (s:List Nat):Str:=⟨s.toArray⟩
structure KD (C:bC) where
 K:Type
 dec:DecidableEq K
 knd:KeyKind C.prog C.w K
 toD:K->D
 ok:K->Prop
inductive uy (C:bC):KD C->Prop
 |str:uy C ⟨Str,inferInstance,strKind C.prog C.w,fun s=>.str s.cps.toList,fun s=>kl s.cps.toList⟩
 |int:uy C ⟨Int,inferInstance,intKind C.prog C.w,fun i=>.int i,fun _=>True⟩
def uw (C:bC) (w:bI) (ks:List Str) (a:Addr):Prop:=∃ vs n,w a= .fz (dh vs n)/\ItemsAre (strKind C.prog C.w) ks vs/\ks.length=2/\∀ s∈ks,kl s.cps.toList
noncomputable def MG (ks:List Str):D:=.tup (ks.map fun s=>.str s.cps.toList)
inductive fJ (C:bC) (w:bI) (o:Obj) (ks:List D) (vs:List Value):Prop
 |mk (k:KD C) (l:List (k.K×Value)):uy C k->(letI:=k.dec;o.IsDictOf k.knd l)->ks=l.map (fun p=>k.toD p.1)->vs=l.map (·.2)->(∀ p∈l,k.ok p.1)->fJ C w o ks vs
 |pr (xs:List (List Str×Addr×Value)) (es:Array DictEntry) (ep:Nat):o.ExactDict->o.data= .dict es ep->es.toList=xs.map (entryOfKey (tupleKind (strKind C.prog C.w)))->(∀ x∈xs,uw C w x.1 x.2.1)->(xs.map (·.1)).Nodup->ks=xs.map (fun x=>MG x.1)->vs=xs.map (·.2.2)->xs≠[]->fJ C w o ks vs
mutual
inductive RD (C:bC) (w:bI):D->Value->Prop
 |none:RD C w .none .none
 |bool (b:Bool):RD C w (.bool b) (.bool b)
 |int (i:Int) (t:Tok):RD C w (.int i) (.int i t)
 |str (s:List Nat) (t:Tok):kl s->RD C w (.str s) (.str (cE s) t)
 |tup {a:Addr} {vs:List Value} {n:Nat} {ps:List D}:w a= .fz (dh vs n)->RDs C w ps vs->RD C w (.tup ps) (.ref a)
 |lst {a:Addr} {vs:List Value} {n:JC} {ps:List D}:w a= .fz (og vs n)->RDs C w ps vs->RD C w (.lst ps) (.ref a)
 |dct {a:Addr} {o:Obj} {vs:List Value} {ks ps:List D}:w a= .fz o->fJ C w o ks vs->RDs C w ps vs->RD C w (.dct ks ps) (.ref a)
 |rng {r:Addr} (a b c:Int) (t u v:Tok):w r= .fz (Ab a b c t u v)->RD C w (.rng a b c) (.ref r)
 |exc {a:Addr} {o:Obj} {c:Nat} (vs:Array Value):w a= .fz o->o.cls= .ref (C.exc c)->o.data= .fields vs->RD C w (.exc c) (.ref a)
inductive RDs (C:bC) (w:bI):List D->List Value->Prop
 |nil:RDs C w [] []
 |cons {p:D} {v:Value} {ps:List D} {vs:List Value}:RD C w p v->RDs C w ps vs->RDs C w (p::ps) (v::vs)
end
section
variable {w':bI}
abbrev Fz (w w':bI):Prop:=∀ a o,w a= .fz o->w' a= .fz o
theorem uw.ext (x:Fz w w') {ks:List Str}:uw C w ks a->uw C w' ks a
 |⟨vs,n,h,r⟩=>⟨vs,n,x _ _ h,r⟩
theorem fJ.ext (x:Fz w w') {ks:List D} {vs:List Value}:fJ C w o ks vs->fJ C w' o ks vs
 | .mk k l a b c d e=>.mk k l a b c d e
 | .pr xs es ep a b c d e f g h=>.pr xs es ep a b c (fun y hy=>(d y hy).ext x) e f g h
theorem RD.ext (x:Fz w w') {p:D} (h:RD C w p v):RD C w' p v:=
 RD.rec (motive_1:=fun p v _=>RD C w' p v) (motive_2:=fun p v _=>RDs C w' p v) .none .bool .int .str (fun h _ r=>.tup (x _ _ h) r) (fun h _ r=>.lst (x _ _ h) r) (fun h d _ r=>.dct (x _ _ h) (d.ext x) r) (fun a b c t u v h=>.rng a b c t u v (x _ _ h)) (fun vs h a b=>.exc vs (x _ _ h) a b) .nil (fun _ _ h r=>.cons h r) h
theorem RDs.ext (x:Fz w w') {p:List D} {v:List Value} (h:RDs C w p v):RDs C w' p v:=
 RDs.rec (motive_1:=fun p v _=>RD C w' p v) (motive_2:=fun p v _=>RDs C w' p v) .none .bool .int .str (fun h _ r=>.tup (x _ _ h) r) (fun h _ r=>.lst (x _ _ h) r) (fun h d _ r=>.dct (x _ _ h) (d.ext x) r) (fun a b c t u v h=>.rng a b c t u v (x _ _ h)) (fun vs h a b=>.exc vs (x _ _ h) a b) .nil (fun _ _ h r=>.cons h r) h
inductive lc {ι:Type} (C:bC) (w:bI) (mk:List Value->ι->Obj) (ps:List D):Value->Prop
 |mk {a:Addr} {vs:List Value} {n:ι}:w a= .fz (mk vs n)->RDs C w ps vs->lc C w mk ps (.ref a)
inductive EA (C:bC) (w:bI) (ks ps:List D):Value->Prop
 |mk {a:Addr} {o:Obj} {vs:List Value}:w a= .fz o->fJ C w o ks vs->RDs C w ps vs->EA C w ks ps (.ref a)
inductive Hg (w:bI) (a b c:Int):Value->Prop
 |mk {r:Addr} (t u v:Tok):w r= .fz (Ab a b c t u v)->Hg w a b c (.ref r)
inductive Ez (C:bC) (w:bI) (c:Nat):Value->Prop
 |mk {a:Addr} {o:Obj}:w a= .fz o->o.cls= .ref (C.exc c)->Ez C w c (.ref a)
def JA (C:bC) (w:bI) (v:Value):D->Prop
 | .none=>v= .none
 | .bool b=>v= .bool b
 | .int i=>∃ t,v= .int i t
 | .str s=>kl s/\∃ t,v= .str (cE s) t
 | .tup ps=>lc C w dh ps v
 | .lst ps=>lc C w og ps v
 | .dct ks ps=>EA C w ks ps v
 | .rng a b c=>Hg w a b c v
 | .exc c=>Ez C w c v
theorem RD.view {p:D} (h:RD C w p v):JA C w v p:=by
 cases h with
 |none=>rfl
 |bool b=>rfl
 |int i t=>exact ⟨t,rfl⟩
 |str s t h=>exact ⟨h,t,rfl⟩
 |tup h r=>exact .mk h r
 |lst h r=>exact .mk h r
 |dct h d r=>exact .mk h d r
 |rng a b c t u v h=>exact .mk t u v h
 |exc vs h a b=>exact .mk h a
inductive fX (C:bC) (w:bI) (p:D) (ps:List D):List Value->Prop
 |mk {v:Value} {vs:List Value}:RD C w p v->RDs C w ps vs->fX C w p ps (v::vs)
def Jz (C:bC) (w:bI) (vs:List Value):List D->Prop
 |[]=>vs=[]
 |p::ps=>fX C w p ps vs
theorem RDs.view {ps:List D} {vs:List Value} (h:RDs C w ps vs):Jz C w vs ps:=by
 cases h with
 |nil=>rfl
 |cons h r=>exact .mk h r
theorem RDs.length:∀ {ps:List D} {vs:List Value},RDs C w ps vs->vs.length=ps.length:=by
 intro ps
 induction ps with
 |nil=>
  intro vs h;rw[show vs=[] from h.view];rfl
 |cons p ps ih=>
  intro vs h;obtain ⟨_,r⟩:fX C w p ps vs:=h.view;exact congrArg Nat.succ (ih r)
theorem RDs.append:∀ {ps qs:List D} {vs ws:List Value},RDs C w ps vs->RDs C w qs ws->RDs C w (ps++qs) (vs++ws):=by
 intro ps
 induction ps with
 |nil=>
  intro _ vs _ h k;rw[show vs=[] from h.view];exact k
 |cons p ps ih=>
  intro _ vs _ h k;obtain ⟨h1,r⟩:fX C w p ps vs:=h.view;exact .cons h1 (ih r k)
theorem RDs.get:∀ {ps:List D} {vs:List Value},RDs C w ps vs->∀ {k:Nat} {p:D},ps[k]? =some p->∃ v,vs[k]? =some v/\RD C w p v:=by
 intro ps
 induction ps with
 |nil=>
  intro _ _ _ _ e;exact nomatch e
 |cons p ps ih=>
  intro vs h k q e;obtain ⟨h1,r⟩:fX C w p ps vs:=h.view;cases k with
  |zero=>cases e;exact ⟨_,rfl,h1⟩
  |succ k=>exact ih r (k:=k) e
theorem RDs.set:∀ {ps:List D} {vs:List Value},RDs C w ps vs->∀ {k:Nat} {p:D} {v:Value},RD C w p v->RDs C w (ps.set k p) (vs.set k v):=by
 intro ps
 induction ps with
 |nil=>
  intro vs h _ _ _ _;rw[show vs=[] from h.view];exact .nil
 |cons p ps ih=>
  intro vs h k q v e;obtain ⟨h1,r⟩:fX C w p ps vs:=h.view;cases k with
  |zero=>exact .cons e r
  |succ k=>exact .cons h1 (ih r e)
theorem RDs.drop:∀ {ps:List D} {vs:List Value},RDs C w ps vs->∀ k:Nat,RDs C w (ps.drop k) (vs.drop k)
 |ps,vs,h,0=>h
 |[],vs,h,k+1=>by rw[show vs=[] from h.view];exact .nil
 |p::ps,vs,h,k+1=>by
  obtain ⟨h,r⟩:fX C w p ps vs:=h.view;exact r.drop k
theorem RDs.take:∀ {ps:List D} {vs:List Value},RDs C w ps vs->∀ k:Nat,RDs C w (ps.take k) (vs.take k)
 |ps,vs,h,0=>.nil
 |[],vs,h,k+1=>by rw[show vs=[] from h.view];exact .nil
 |p::ps,vs,h,k+1=>by
  obtain ⟨h1,r⟩:fX C w p ps vs:=h.view;exact .cons h1 (r.take k)
end
def RF (C:bC) (w:bI) (o:Obj):cB->Prop
 | .d _=>False
 | .list ps=>∃ vs n,o=aU vs n/\RDs C w ps vs
 | .dict ks ps=>∃ vs,fJ C w o ks vs/\RDs C w ps vs
inductive jw (C:bC) (w:bI) (h:Heap) (n j:Nat) (f:cB):Value->Prop
 |mk {a:Addr} {o:Obj}:w a= .cell n j->h.get? a=some o->RF C w o f->jw C w h n j f (.ref a)
def FA (C:bC) (w:bI) (h:Heap) (n i:Nat) (v:Value):cB->Prop
 | .d x=>RD C w x v
 | .list l=>jw C w h n (i+2) (.list l) v
 | .dict ks ps=>jw C w h n (i+2) (.dict ks ps) v
def ph (C:bC) (es:List DictEntry):Prop:=∀ i e,es[i]? =some e->(∃ t,e.key= .str (C.att i) t)/\e.hash=PyData.keyHash C.w.params (C.att i)
inductive gP (C:bC) (w:bI) (h:Heap) (n:Nat) (l:List cB):Prop
 |mk {x d:Addr} {es:List DictEntry} {k:Nat}:w x= .cell n 0->h.get? x=some (lE C.book d)->w d= .cell n 1->h.get? d=some (dO es k)->ph C es->es.length=l.length->l.length<=7->
  (∀ i f e,l[i]? =some f->es[i]? =some e->FA C w h n i e.val f)->gP C w h n l
inductive ux (C:bC) (w:bI) (h:Heap) (n:Nat) (l:List cB):Prop
 |mk {d:Addr} {o:Obj} {kvs:List (Str×Value)}:w d= .cell n 0->h.get? d=some o->o.IsDictOf (strKind C.prog C.w) kvs->kvs.length=l.length->l.length<=100->(∀ i p,kvs[i]? =some p->p.1=C.key i)->
  (∀ i f p,l[i]? =some f->kvs[i]? =some p->FA C w h n i p.2 f)->ux C w h n l
def RO (C:bC) (w:bI) (h:Heap) (n:Nat):PO->Prop
 | .fld f=>∃ v,jw C w h n 0 f v
 | .rcd true l=>gP C w h n l
 | .rcd false l=>ux C w h n l
 | .dead=>True
 | .wrp f=>∃ t vs k v,w t= .cell n 0/\h.get? t=some (dh vs k)/\vs[2]? =some v/\jw C w h n 2 f v
structure Pt where
 s:Shared
 fs:List Fm
 own:bI
 G:List (Addr×Obj)
 σ:av
variable {P:Pt}
noncomputable abbrev Pt.h (P:Pt):Heap:=P.s.heap
def PO.has (j:Nat):PO->Prop
 | .fld _=>j=0
 | .rcd _ l=>j<l.length+2
 | .dead=>True
 | .wrp _=>j<3
def c8 (σ:av) (n j:Nat):Prop:=∃ o,σ[n]? =some o/\o.has j
def RV (C:bC) (P:Pt) (v:Value):PV->Prop
 | .d x=>RD C P.own x v
 | .p n j=>c8 P.σ n j/\∀ a,P.own a= .cell n j->v= .ref a
 | .b n x=>c8 P.σ n 0/\∃ t u z k,v= .ref t/\P.own t= .fz (aU [u,z] k)/\(∀ a,P.own a= .cell n 0->u= .ref a)/\RD C P.own x z
inductive jR (C:bC) (P:Pt):List PV->List Value->Prop
 |nil:jR C P [] []
 |cons {p:PV} {v:Value} {ps:List PV} {vs:List Value}:RV C P v p->jR C P ps vs->jR C P (p::ps) (v::vs)
structure Ey (C:bC) (h:Heap) (w:bI) (fs:List Fm):Prop where
 ns:∀ f∈fs,h.Ns f.L f.m/\w f.L= .fr/\C.H.objs.size<=f.L
 cl:∀ f∈fs,∀ c∈f.cells,h.IsCell c (f.cv c)/\w c= .fr/\f.L<c
 ord:fs.Pairwise fun f g=>∀ a∈g.adr,a<f.L
 all:∀ a,w a= .fr->∃ f∈fs,a∈f.adr
noncomputable abbrev sJ (ps:Array Value):Obj:={cls:=.none,data:=.fields ps}
def JR (h:Heap) (w:bI) (G:List (Addr×Obj)) (a:Addr) (o:Obj):Prop:=h.get? a=some o/\w a= .gh/\∀ p∈G,p.1≠a
def xH (h:Heap) (w:bI) (G:List (Addr×Obj)) (l:zv):Prop:=JR h w G l.P (sJ #[])∨∃ c oc vs t,JR h w G l.P (sJ #[rawInt l.pos.line,rawInt l.pos.col,.ref c])/\w c= .fz oc/\oc.data= .fields vs/\vs[1]? =some (.str l.qual t)
structure Ex (l:Option zv) (h:Heap) (w:bI) (G:List (Addr×Obj)):Prop where
 at_:∀ p∈G,h.get? p.1=some p.2/\w p.1= .gh
 nd:(G.map (·.1)).Nodup
 tab:∀ z,l=some z->xH h w G z
structure aK (C:bC) (P:Pt):Prop where
 base:∀ b o,C.H.get? b=some o->P.h.get? b=some o/\P.own b= .no
 fz:∀ a o,P.own a= .fz o->P.h.get? a=some o
 live:∀ a,P.own a≠ .no->∃ o,P.h.get? a=some o
 fr:Ey C P.h P.own P.fs
 gh:Ex C.lam P.h P.own P.G
 one:∀ a b n j,P.own a= .cell n j->P.own b= .cell n j->a=b
 bd:∀ a n j,P.own a= .cell n j->c8 P.σ n j
 obj:∀ n o,P.σ[n]? =some o->RO C P.own P.h n o
def pt (s s':Shared):Prop:=∃ h tk,s'={s with heap:=h,toks:=tk}
theorem pt.refl (s:Shared):pt s s:=⟨s.heap,s.toks,rfl⟩
theorem pt.trans {s s' s'':Shared} (a:pt s s') (b:pt s' s''):pt s s'':=by
 obtain ⟨_,_,rfl⟩:=a;obtain ⟨h',tk',rfl⟩:=b;exact ⟨h',tk',rfl⟩
structure Ext (P P':Pt):Prop where
 sm:pt P.s P'.s
 G:P'.G=P.G
 fz:Fz P.own P'.own
 val:∀ n j,c8 P.σ n j->c8 P'.σ n j
 cell:∀ n j a,c8 P.σ n j->P'.own a= .cell n j->P.own a= .cell n j
structure bX (P P':Pt):Prop extends Ext P P' where
 fs:P'.fs=P.fs
inductive qj:List Fm->List Fm->Prop
 |mk {f f':Fm} {r:List Fm}:f.like f'->qj (f::r) (f'::r)
structure eA (P P':Pt):Prop extends Ext P P' where
 fs:qj P.fs P'.fs
section
variable {P' P'':Pt}
theorem Ext.refl (P:Pt):Ext P P:=⟨.refl _,rfl,fun _ _ h=>h,fun _ _ h=>h,fun _ _ _ _ h=>h⟩
theorem Ext.trans (a:Ext P P') (b:Ext P' P''):Ext P P'':=
 ⟨a.sm.trans b.sm,b.G.trans a.G,fun x o h=>b.fz x o (a.fz x o h),fun n j h=>b.val n j (a.val n j h),fun n j x h k=>a.cell n j x h (b.cell n j x (a.val n j h) k)⟩
theorem bX.refl (P:Pt):bX P P:=⟨.refl P,rfl⟩
theorem bX.trans (a:bX P P') (b:bX P' P''):bX P P'':=⟨a.toExt.trans b.toExt,b.fs.trans a.fs⟩
theorem qj.trans {a b c:List Fm}:qj a b->qj b c->qj a c:=fun h g=>by
 obtain ⟨x⟩:=h;obtain ⟨y⟩:=g;exact ⟨x.trans y⟩
theorem eA.trans (a:eA P P') (b:eA P' P''):eA P P'':=⟨a.toExt.trans b.toExt,a.fs.trans b.fs⟩
theorem eA.grow (a:eA P P') (b:bX P' P''):eA P P'':=⟨a.toExt.trans b.toExt,b.fs ▸ a.fs⟩
theorem RV.mv (fz:Fz P.own P'.own) (val:∀ n j,c8 P.σ n j->c8 P'.σ n j) (cell:∀ n j a,c8 P.σ n j->P'.own a= .cell n j->P.own a= .cell n j) {p:PV} (h:RV C P v p):RV C P' v p:=by
 cases p with
 |d _=>exact RD.ext fz h
 |p n j=>exact ⟨val n j h.1,fun a e=>h.2 a (cell n j a h.1 e)⟩
 |b n y=>
  obtain ⟨h1,t,u,z,k,e,f,g,r⟩:=h;exact ⟨val n 0 h1,t,u,z,k,e,fz _ _ f,fun a q=>g a (cell n 0 a h1 q),RD.ext fz r⟩
theorem RV.ext (x:Ext P P') {p:PV} (h:RV C P v p):RV C P' v p:=h.mv x.fz x.val x.cell
theorem jR.ext (x:Ext P P') {p:List PV} {v:List Value} (h:jR C P p v):jR C P' p v:=by
 induction h with
 |nil=>exact .nil
 |cons h _ ih=>exact .cons (h.ext x) ih
end
section
variable {P':Pt} {w':bI} {h h':Heap}
theorem RF.ext (x:Fz w w'):∀ {f:cB},RF C w o f->RF C w' o f:=by
 intro Z0 Z2;cases Z0 with
 |d _=>exact Z2
 |list _=>
  obtain ⟨vs,n,e,r⟩:=Z2;exact ⟨vs,n,e,r.ext x⟩
 |dict _ _=>
  obtain ⟨vs,e,r⟩:=Z2;exact ⟨vs,e.ext x,r.ext x⟩
theorem jw.mv {f:cB} (x:Fz w w') (k:∀ b j o,w b= .cell n j->h.get? b=some o->w' b= .cell n' j/\h'.get? b=some o):jw C w h n j f v->jw C w' h' n' j f v:=fun h=>by
 obtain ⟨a,b,c⟩:=h;exact ⟨(k _ _ _ a b).1,(k _ _ _ a b).2,c.ext x⟩
theorem FA.mv {i:Nat} (x:Fz w w') (k:∀ b j o,w b= .cell n j->h.get? b=some o->w' b= .cell n' j/\h'.get? b=some o):∀ {f:cB},FA C w h n i v f->FA C w' h' n' i v f
 | .d _,r=>RD.ext x r
 | .list _,r=>jw.mv x k r
 | .dict _ _,r=>jw.mv x k r
theorem RO.mv (x:Fz w w') (k:∀ b j o,w b= .cell n j->h.get? b=some o->w' b= .cell n' j/\h'.get? b=some o):∀ {o:PO},RO C w h n o->RO C w' h' n' o:=by
 intro o r;cases o with
 |fld _=>
  obtain ⟨v,r⟩:=r;exact ⟨v,r.mv x k⟩
 |rcd b l=>
  cases b with
  |true=>
   obtain ⟨a,b,c,d,e,f,g,z⟩:gP C w h n l:=r;exact gP.mk (k _ _ _ a b).1 (k _ _ _ a b).2 (k _ _ _ c d).1 (k _ _ _ c d).2 e f g fun i y u p q=>FA.mv x k (z i y u p q)
  |false=>
   obtain ⟨a,b,c,d,e,f,z⟩:ux C w h n l:=r;exact ux.mk (k _ _ _ a b).1 (k _ _ _ a b).2 c d e f fun i y u p q=>FA.mv x k (z i y u p q)
 |dead=>trivial
 |wrp _=>
  obtain ⟨t,vs,q,v,a,b,c,r⟩:=r;exact ⟨t,vs,q,v,(k _ _ _ a b).1,(k _ _ _ a b).2,c,r.mv x k⟩
theorem Ey.mv {fs:List Fm} (F:Ey C h w fs) (k:∀ b o,w b= .fr->h.get? b=some o->w' b= .fr/\h'.get? b=some o) (k':∀ b,w' b= .fr->w b= .fr):Ey C h' w' fs:=by
 refine ⟨fun f hf=> ?_,fun f hf c hc=> ?_,F.ord,fun a e=>F.all a (k' a e)⟩
 .obtain ⟨⟨o,es,ep,ho,r⟩,e,z⟩:=F.ns f hf;exact ⟨⟨o,es,ep,(k _ _ e ho).2,r⟩,(k _ _ e ho).1,z⟩
 .obtain ⟨⟨o,ho,r⟩,e,z⟩:=F.cl f hf c hc;exact ⟨⟨o,(k _ _ e ho).2,r⟩,(k _ _ e ho).1,z⟩
theorem xH.map {G':List (Addr×Obj)} {z:zv} (x:Fz w w') (k:∀ a o,JR h w G a o->JR h' w' G' a o):xH h w G z->xH h' w' G' z:=fun h=>by
 rcases h with a|⟨c,oc,vs,t,a,b,r⟩
 .exact .inl (k _ _ a)
 .exact .inr ⟨c,oc,vs,t,k _ _ a,x _ _ b,r⟩
theorem Ex.mv {l:Option zv} (F:Ex l h w G) (x:Fz w w') (k:∀ b o,w b= .gh->h.get? b=some o->w' b= .gh/\h'.get? b=some o):Ex l h' w' G:=
 ⟨fun p hp=>⟨(k _ _ (F.at_ p hp).2 (F.at_ p hp).1).2,(k _ _ (F.at_ p hp).2 (F.at_ p hp).1).1⟩,F.nd,fun z e=>(F.tab z e).map x fun a o q=>⟨(k a o q.2.1 q.1).2,(k a o q.2.1 q.1).1,q.2.2⟩⟩
noncomputable def fY (w:bI) (a:Addr) (x:c4):bI:=fun b=>if b=a then x else w b
theorem b8 (w:bI) (a:Addr) (x:c4):fY w a x a=x:=if_pos rfl
theorem bG {b:Addr} (e:b≠a):fY w a x b=w b:=if_neg e
theorem cG (w:bI) (a:Addr) (x:c4) (b:Addr):(b=a/\fY w a x b=x)∨(b≠a/\fY w a x b=w b):=by
 by_cases e:b=a
 .exact .inl ⟨e,if_pos e⟩
 .exact .inr ⟨e,if_neg e⟩
theorem jb {l:av}:c8 σ n j->c8 (σ++l) n j
 |⟨o,e,r⟩=>⟨o,by rw[Oj (ND.mp e).1];exact e,r⟩
theorem c8.lt:c8 σ n j->n<σ.length
 |⟨_,e,_⟩=>(ND.mp e).1
theorem nn {b:Addr} (hx:x≠ .fr) (h:fY w a x b= .fr):w b= .fr:=by
 rcases cG w a x b with ⟨_,r⟩|⟨_,r⟩
 .exact absurd (r.symm.trans h) hx
 .exact r.symm.trans h
structure Mv (C:bC) (P P':Pt) (a:Addr):Prop where
 k:∀ b o,b≠a->P.h.get? b=some o->P'.h.get? b=some o/\P'.own b=P.own b
 n:∀ b,b≠a->P'.own b=P.own b
 H:C.H.get? a=none
theorem aK.step (I:aK C P) {a:Addr} {z:Nat} (m:Mv C P P' a) (hfs:P'.fs=P.fs) (hG:P'.G=P.G) (h0:P.own a= .no∨∃ j,P.own a= .cell z j) (h1:(∃ o,P'.own a= .fz o/\P'.h.get? a=some o)∨(∃ o j,P'.own a= .cell z j/\P'.h.get? a=some o/\∀ b,b≠a->P.own b≠ .cell z j))
  (hz:∀ j,P'.own a= .cell z j->c8 P'.σ z j) (hs:∀ n o,n≠z->P'.σ[n]? =some o->P.σ[n]? =some o) (hl:∀ n j,c8 P.σ n j->c8 P'.σ n j) (ho:∀ o,P'.σ[z]? =some o->RO C P'.own P'.h z o):aK C P':=by
 have na:∀ {b x},P.own b=x->x≠ .no->(∀ j,x≠ .cell z j)->b≠a:=fun e h3 h4 q=>by
  subst q;rcases h0 with q|⟨j,q⟩
  .exact h3 (e.symm.trans q)
  .exact h4 j (e.symm.trans q)
 have fz:Fz P.own P'.own:=fun b o e=>(m.n b (na e (nofun) (nofun))).trans e;have frb:∀ b,P'.own b= .fr->P.own b= .fr:=fun b e=>by
  by_cases q:b=a
  .rw[q] at e;rcases h1 with ⟨_,e1,_⟩|⟨_,_,e1,_⟩
   .cases e1.symm.trans e
   .cases e1.symm.trans e
  .rw[<-m.n b q];exact e
 have kk:∀ b o x,P.own b=x->x≠ .no->(∀ j,x≠ .cell z j)->P.h.get? b=some o->P'.own b=x/\P'.h.get? b=some o:=fun b o x e h3 h4 q=>
  have ne:=na e h3 h4
  ⟨(m.k b o ne q).2.trans e,(m.k b o ne q).1⟩
 refine ⟨fun b o e=> ?_,fun b o e=> ?_,fun b e=> ?_,hfs ▸ I.fr.mv (fun b o e q=>kk b o _ e nofun nofun q) frb,hG ▸ I.gh.mv fz fun b o e q=>kk b o _ e nofun nofun q,fun b c n j e f=> ?_,fun b n j e=> ?_,fun n o e=> ?_⟩
 .have ne:b≠a:=fun q=>by rw[q,m.H] at e;cases e
  obtain ⟨e1,e2⟩:=I.base b o e;exact ⟨(m.k b o ne e1).1,(m.k b o ne e1).2.trans e2⟩
 .by_cases q:b=a
  .subst q;rcases h1 with ⟨o',e1,e2⟩|⟨o',j,e1,_⟩
   .rw[e1] at e;cases e;exact e2
   .rw[e1] at e;cases e
  .rw[m.n b q] at e;exact (m.k b o q (I.fz b o e)).1
 .by_cases q:b=a
  .subst q;rcases h1 with ⟨o',e1,e2⟩|⟨o',j,e1,e2,_⟩
   .exact ⟨_,e2⟩
   .exact ⟨_,e2⟩
  .rw[m.n b q] at e;obtain ⟨o,ho⟩:=I.live b e;exact ⟨o,(m.k b o q ho).1⟩
 .have key:∀ {b c},b=a->c≠a->P'.own b= .cell n j->P'.own c= .cell n j->False:=fun {b c} q r e f=>by
   subst q;rw[m.n c r] at f;rcases h1 with ⟨o',e1,e2⟩|⟨o',j',e1,e2,e3⟩
   .rw[e1] at e;cases e
   .rw[e1] at e;cases e;exact e3 c r f
  by_cases q:b=a
  .by_cases r:c=a
   .rw[q,r]
   .exact (key q r e f).elim
  .by_cases r:c=a
   .exact (key r q f e).elim
   .rw[m.n b q] at e;rw[m.n c r] at f;exact I.one b c n j e f
 .by_cases q:b=a
  .subst q;rcases h1 with ⟨o',e1,e2⟩|⟨o',j',e1,_⟩
   .rw[e1] at e;cases e
   .rw[e1] at e;cases e;exact hz _ e1
  .rw[m.n b q] at e;exact hl n j (I.bd b n j e)
 .by_cases q:n=z
  .subst q;exact ho o e
  .exact (I.obj n o (hs n o q e)).mv fz fun b j o e' q'=>kk b o _ e' nofun (fun j q2=>by cases q2;exact q rfl) q'
theorem aK.off (I:aK C P) (e:P.h.objs.size<=a):P.own a= .no:=by
 by_cases q:P.own a= .no
 .exact q
 .obtain ⟨o,ho⟩:=I.live a q;exact absurd (N8 ho) (Oz.mpr e)
theorem aK.offH (I:aK C P) (e:P.own a≠ .no):C.H.get? a=none:=by
 cases q:C.H.get? a with
 |none=>rfl
 |some o=>exact absurd (I.base a o q).2 e
theorem aK.out (I:aK C P) (e:P.h.objs.size<=a):C.H.get? a=none:=by
 cases q:C.H.get? a with
 |none=>rfl
 |some o=>exact absurd (N8 (I.base a o q).1) (Oz.mpr e)
noncomputable def Pt.to (P:Pt) (h:Heap) (t:Nat):Pt:={P with s:={P.s with heap:=h,toks:=t}}
theorem bX.to (P:Pt) (h:Heap) (t:Nat):bX P (P.to h t):=⟨⟨⟨h,t,rfl⟩,rfl,fun _ _ e=>e,fun _ _ e=>e,fun _ _ _ _ e=>e⟩,rfl⟩
theorem aK.to (I:aK C P) (k:∀ b o,P.h.get? b=some o->h'.get? b=some o):aK C (P.to h' t):=
 ⟨fun b o e=>⟨k b o (I.base b o e).1,(I.base b o e).2⟩,fun a o e=>k a o (I.fz a o e),fun a e=>(I.live a e).imp fun o q=>k a o q,I.fr.mv (fun b o e q=>⟨e,k b o q⟩) (fun _ e=>e),I.gh.mv (fun _ _ e=>e) fun b o e q=>⟨e,k b o q⟩,I.one,I.bd,fun n o e=>(I.obj n o e).mv (fun _ _ e=>e) fun b j o e q=>⟨e,k b o q⟩⟩
structure zt (C:bC) (P:Pt) (h':Heap) (a:Addr) (o:Obj):Prop where
 keep:∀ b o,P.h.get? b=some o->h'.get? b=some o
 own:P.own a= .no
 H:C.H.get? a=none
 at_:h'.get? a=some o
theorem aK.push (I:aK C P) (ho:o.isFreed=false):zt C P (P.h.push o) P.h.objs.size o:=
 ⟨fun b o e=>NJ _ e,I.off (NM _),I.out (NM _),NU _ ho⟩
noncomputable def Pt.note (P:Pt) (h:Heap) (t:Nat) (a:Addr) (o:Obj):Pt:={P.to h t with own:=fY P.own a (.fz o)}
theorem eH (e:P.own a= .no):Fz P.own (fY P.own a x):=fun b o q=>(bG fun r=>by rw[r,e] at q;cases q).trans q
theorem bX.note (e:P.own a= .no):bX P (P.note h' t a o):=
 ⟨⟨⟨h',t,rfl⟩,rfl,eH e,fun _ _ e=>e,fun n j b _ q=>by
  rcases cG P.own a (.fz o) b with ⟨_,r⟩|⟨_,r⟩
  .cases r.symm.trans q
  .exact r.symm.trans q⟩,rfl⟩
theorem Mv.new (n:zt C P h' a o) (hh:P'.h=h') (hw:P'.own=fY P.own a x):Mv C P P' a:=
 ⟨fun b o ne e=>⟨hh ▸ n.keep b o e,hw ▸ bG ne⟩,fun b ne=>hw ▸ bG ne,n.H⟩
theorem aK.note (I:aK C P) (n:zt C P h' a o):aK C (P.note h' t a o):=
 I.step (z:=P.σ.length) (Mv.new n rfl rfl) rfl rfl (.inl n.own) (.inl ⟨o,b8 _ _ _,n.at_⟩) (fun j e=>by cases (b8 P.own a (.fz o)).symm.trans e) (fun n o _ e=>e) (fun _ _ v=>v) fun o e=>absurd (ND.mp e).1 (Og _)
noncomputable def Pt.make (P:Pt) (h:Heap) (t:Nat) (a:Addr) (o:PO):Pt:={P.to h t with own:=fY P.own a (.cell P.σ.length 0),σ:=P.σ++[o]}
theorem bX.make {o:PO} (e:P.own a= .no):bX P (P.make h' t a o):=
 ⟨⟨⟨h',t,rfl⟩,rfl,eH e,fun _ _ e=>jb e,fun n j b v q=>by
  rcases cG P.own a (.cell P.σ.length 0) b with ⟨_,r⟩|⟨_,r⟩
  .cases r.symm.trans q;exact absurd v.lt (Og _)
  .exact r.symm.trans q⟩,rfl⟩
theorem dK {l:List α} {x:α} {y:α} (e:(l++[x])[n]? =some y):(n≠l.length->l[n]? =some y)/\(n=l.length->y=x):=by
 rcases Nat.lt_trichotomy n l.length with q|q|q
 .rw[Oj q] at e;exact ⟨fun _=>e,fun r=>absurd r (Nat.ne_of_lt q)⟩
 .subst q;rw[NX (NM _),Nat.sub_self] at e;exact ⟨fun r=>absurd rfl r,fun _=>(Om e).symm⟩
 .rw[List.getElem?_eq_none (by rw[NC];exact q)] at e;cases e
theorem eR {l:List α} {x:α}:(l++[x])[l.length]? =some x:=by rw[NX (NM _),Nat.sub_self];rfl
theorem aK.make (I:aK C P) (h0:po.has 0) (n:zt C P h' a o) (r:RO C (fY P.own a (.cell P.σ.length 0)) h' P.σ.length po):aK C (P.make h' t a po):=
 I.step (z:=P.σ.length) (Mv.new n rfl rfl) rfl rfl (.inl n.own) (.inr ⟨o,0,b8 _ _ _,n.at_,fun b _ q=>absurd (I.bd b _ _ q).lt (Og _)⟩) (fun j e=>by cases (b8 P.own a (.cell P.σ.length 0)).symm.trans e;exact ⟨po,eR,h0⟩)
  (fun n o ne e=>(dK e).1 ne) (fun _ _ v=>jb v) fun o e=>(dK e).2 rfl ▸ r
theorem z_ {s:Shared} {fs:List Fm} (h0:po.has 0) (h:∀ b,w b= .cell P.σ.length 0->b=a):RV C ⟨s,fs,w,G,P.σ++[po]⟩ (.ref a) (.p P.σ.length 0):=
 ⟨⟨po,by rw[NX (NM _),Nat.sub_self];rfl,h0⟩,fun b e=>by rw[h b e]⟩
theorem aK.rvMake (I:aK C P) (h0:po.has 0):RV C (P.make h' t a po) (.ref a) (.p P.σ.length 0):=
 z_ h0 fun b e=>by
  rcases cG P.own a (.cell P.σ.length 0) b with ⟨q,_⟩|⟨_,r⟩
  .exact q
  .exact absurd (I.bd b _ _ (r.symm.trans e)).lt (Og _)
noncomputable def Pt.turn (P:Pt) (h:Heap) (t n:Nat) (o:PO):Pt:={P.to h t with σ:=P.σ.set n o}
theorem dP {m:Nat} {o o':PO} (e:σ[n]? =some o) (k:∀ j,o.has j->o'.has j):c8 σ m j->c8 (σ.set n o') m j
 |⟨x,q,r⟩=>by
  by_cases c:n=m
  .subst c;rw[e] at q;cases q;exact ⟨o',by rw[List.getElem?_set_self (ND.mp e).1],k j r⟩
  .exact ⟨x,by rw[N6 c];exact q,r⟩
theorem bX.turn {o o':PO} (e:P.σ[n]? =some o) (k:∀ j,o.has j->o'.has j):bX P (P.turn h' t n o'):=
 ⟨⟨⟨h',t,rfl⟩,rfl,fun _ _ e=>e,fun m j v=>dP e k v,fun _ _ _ _ q=>q⟩,rfl⟩
theorem aK.turn (I:aK C P) {po':PO} (kp:∀ j,po.has j->po'.has j) (e:P.σ[n]? =some po) (ha:P.own a= .cell n j) (hs:∀ b o,b≠a->P.h.get? b=some o->h'.get? b=some o) (ho:h'.get? a=some o) (r:RO C P.own h' n po'):aK C (P.turn h' t n po'):=
 have hn:=(ND.mp e).1
 I.step (z:=n) ⟨fun b o ne e=>⟨hs b o ne e,rfl⟩,fun _ _=>rfl,I.offH (by rw[ha];nofun)⟩ rfl rfl (.inr ⟨j,ha⟩) (.inr ⟨o,j,ha,ho,fun b ne q=>ne (I.one b a n j q ha)⟩) (fun j q=>dP e kp (I.bd a n j q))
  (fun m o ne e=>by rwa [show (P.turn h' t n po').σ[m]? =P.σ[m]? from N6 (Ne.symm ne)] at e) (fun _ _ v=>dP e kp v)
  fun o e=>by
   rw[show (P.turn h' t n po').σ[n]? =some po' from List.getElem?_set_self hn] at e;cases e;exact r
noncomputable def Pt.ice (P:Pt) (n:Nat) (a:Addr) (o:Obj):Pt:={P with own:=fY P.own a (.fz o),σ:=P.σ.set n .dead}
theorem aK.ice (I:aK C P) (e:P.σ[n]? =some po) (ha:P.own a= .cell n j) (ho:P.h.get? a=some o):aK C (P.ice n a o):=
 I.step (z:=n) ⟨fun b o ne e=>⟨e,bG ne⟩,fun _ ne=>bG ne,I.offH (by rw[ha];nofun)⟩ rfl rfl (.inr ⟨j,ha⟩) (.inl ⟨o,b8 _ _ _,ho⟩) (fun j e=>by cases (b8 P.own a (.fz o)).symm.trans e)
  (fun m o ne e=>by rwa [show (P.ice n a _).σ[m]? =P.σ[m]? from N6 (Ne.symm ne)] at e) (fun _ _ v=>dP e (fun _ _=>trivial) v)
  fun o e=>by
   by_cases q:n<P.σ.length
   .rw[show (P.ice n a _).σ[n]? =some .dead from List.getElem?_set_self q] at e;cases e;exact True.intro
   .rw[show (P.ice n a _).σ[n]? =none from List.getElem?_eq_none (by show (P.σ.set n .dead).length<=n;rw[N1];exact Oz.mp q)] at e;cases e
theorem bX.ice (e:P.σ[n]? =some po) (ha:P.own a= .cell n j):bX P (P.ice n a o):=
 ⟨⟨.refl _,rfl,fun b o q=>(bG fun r=>by rw[r,ha] at q;cases q).trans q,fun m j v=>dP e (fun _ _=>trivial) v,fun n j b _ q=>by
  rcases cG P.own a (.fz o) b with ⟨_,r⟩|⟨_,r⟩
  .cases r.symm.trans q
  .exact r.symm.trans q⟩,rfl⟩
end
theorem ba {p:Prop} [Decidable p] {a:p->Bool} (h:(if h:p then a h else false)=true):p:=by
 by_cases k:p
 .exact k
 .rw[dif_neg k] at h;cases h
theorem ai {a b:Bool} (h:(a&&b)=true):a=true:=(Bool.and_eq_true_iff.mp h).1
theorem an {a b:Bool} (h:(a&&b)=true):b=true:=(Bool.and_eq_true_iff.mp h).2
theorem bO [BEq α] [LawfulBEq α] {a b:α} (h:(a==b)=true):a=b:=beq_iff_eq.mp h
noncomputable def i_ (f:BoolOp->List Expr->Pos->Bool) (z:Expr):Bool:=if h:z.ctorIdx=0 then Expr.BoolOp.elim z h f else false
theorem gm (q:Expr->Prop) {f:BoolOp->List Expr->Pos->Bool} (h:i_ f z=true) (k:∀ op es pos,f op es pos=true->q (.BoolOp op es pos)):q z:=Expr.BoolOp.elim (motive_1:=fun z=>i_ f z=true->q z) z (ba h) k h
noncomputable def jv (f:Expr->Operator->Expr->Pos->Bool) (z:Expr):Bool:=if h:z.ctorIdx=2 then Expr.BinOp.elim z h f else false
theorem ii (q:Expr->Prop) {f:Expr->Operator->Expr->Pos->Bool} (h:jv f z=true) (k:∀ l op r pos,f l op r pos=true->q (.BinOp l op r pos)):q z:=Expr.BinOp.elim (motive_1:=fun z=>jv f z=true->q z) z (ba h) k h
noncomputable def dU (f:UnaryOp->Expr->Pos->Bool) (z:Expr):Bool:=if h:z.ctorIdx=3 then Expr.UnaryOp.elim z h f else false
theorem fH (q:Expr->Prop) {f:UnaryOp->Expr->Pos->Bool} (h:dU f z=true) (k:∀ op x pos,f op x pos=true->q (.UnaryOp op x pos)):q z:=Expr.UnaryOp.elim (motive_1:=fun z=>dU f z=true->q z) z (ba h) k h
noncomputable def nh (f:Expr->Expr->Expr->Pos->Bool) (z:Expr):Bool:=if h:z.ctorIdx=5 then Expr.IfExp.elim z h f else false
theorem sq (q:Expr->Prop) {f:Expr->Expr->Expr->Pos->Bool} (h:nh f z=true) (k:∀ t a b pos,f t a b pos=true->q (.IfExp t a b pos)):q z:=Expr.IfExp.elim (motive_1:=fun z=>nh f z=true->q z) z (ba h) k h
noncomputable def lS (f:List (Option Expr)->List Expr->Pos->Bool) (z:Expr):Bool:=if h:z.ctorIdx=6 then Expr.Dict.elim z h f else false
theorem mA (q:Expr->Prop) {f:List (Option Expr)->List Expr->Pos->Bool} (h:lS f z=true) (k:∀ ks vs pos,f ks vs pos=true->q (.Dict ks vs pos)):q z:=Expr.Dict.elim (motive_1:=fun z=>lS f z=true->q z) z (ba h) k h
noncomputable def kd (f:Expr->List Comprehension->Scope->Pos->Bool) (z:Expr):Bool:=if h:z.ctorIdx=8 then Expr.ListComp.elim z h f else false
theorem mL (q:Expr->Prop) {f:Expr->List Comprehension->Scope->Pos->Bool} (h:kd f z=true) (k:∀ el gs scope pos,f el gs scope pos=true->q (.ListComp el gs scope pos)):q z:=Expr.ListComp.elim (motive_1:=fun z=>kd f z=true->q z) z (ba h) k h
noncomputable def ju (f:Expr->List CmpOp->List Expr->Pos->Bool) (z:Expr):Bool:=if h:z.ctorIdx=15 then Expr.Compare.elim z h f else false
theorem i9 (q:Expr->Prop) {f:Expr->List CmpOp->List Expr->Pos->Bool} (h:ju f z=true) (k:∀ l ops rs pos,f l ops rs pos=true->q (.Compare l ops rs pos)):q z:=Expr.Compare.elim (motive_1:=fun z=>ju f z=true->q z) z (ba h) k h
noncomputable def ss (f:Expr->List Expr->List Keyword->Pos->Bool) (z:Expr):Bool:=if h:z.ctorIdx=16 then Expr.Call.elim z h f else false
theorem mC (q:Expr->Prop) {f:Expr->List Expr->List Keyword->Pos->Bool} (h:ss f z=true) (k:∀ g es kw pos,f g es kw pos=true->q (.Call g es kw pos)):q z:=Expr.Call.elim (motive_1:=fun z=>ss f z=true->q z) z (ba h) k h
noncomputable def eM (f:Expr->Int->Option Expr->Pos->Bool) (z:Expr):Bool:=if h:z.ctorIdx=17 then Expr.FormattedValue.elim z h f else false
theorem iy (q:Expr->Prop) {f:Expr->Int->Option Expr->Pos->Bool} (h:eM f z=true) (k:∀ v c sp pos,f v c sp pos=true->q (.FormattedValue v c sp pos)):q z:=Expr.FormattedValue.elim (motive_1:=fun z=>eM f z=true->q z) z (ba h) k h
noncomputable def i8 (f:List Expr->Pos->Bool) (z:Expr):Bool:=if h:z.ctorIdx=18 then Expr.JoinedStr.elim z h f else false
theorem lQ (q:Expr->Prop) {f:List Expr->Pos->Bool} (h:i8 f z=true) (k:∀ es pos,f es pos=true->q (.JoinedStr es pos)):q z:=Expr.JoinedStr.elim (motive_1:=fun z=>i8 f z=true->q z) z (ba h) k h
noncomputable def cc (f:Const->Nat->Pos->Bool) (z:Expr):Bool:=if h:z.ctorIdx=19 then Expr.Constant.elim z h f else false
theorem cu (q:Expr->Prop) {f:Const->Nat->Pos->Bool} (h:cc f z=true) (k:∀ c k pos,f c k pos=true->q (.Constant c k pos)):q z:=Expr.Constant.elim (motive_1:=fun z=>cc f z=true->q z) z (ba h) k h
noncomputable def dz (f:Expr->Str->Pos->Bool) (z:Expr):Bool:=if h:z.ctorIdx=20 then Expr.Attribute.elim z h f else false
theorem eQ (q:Expr->Prop) {f:Expr->Str->Pos->Bool} (h:dz f z=true) (k:∀ v x pos,f v x pos=true->q (.Attribute v x pos)):q z:=Expr.Attribute.elim (motive_1:=fun z=>dz f z=true->q z) z (ba h) k h
noncomputable def cb (f:Expr->Expr->Pos->Bool) (z:Expr):Bool:=if h:z.ctorIdx=21 then Expr.Subscript.elim z h f else false
theorem cP (q:Expr->Prop) {f:Expr->Expr->Pos->Bool} (h:cb f z=true) (k:∀ v i pos,f v i pos=true->q (.Subscript v i pos)):q z:=Expr.Subscript.elim (motive_1:=fun z=>cb f z=true->q z) z (ba h) k h
noncomputable def dc (f:Str->Pos->Bool) (z:Expr):Bool:=if h:z.ctorIdx=23 then Expr.Name.elim z h f else false
theorem cj (q:Expr->Prop) {f:Str->Pos->Bool} (h:dc f z=true) (k:∀ x pos,f x pos=true->q (.Name x pos)):q z:=Expr.Name.elim (motive_1:=fun z=>dc f z=true->q z) z (ba h) k h
noncomputable def i0 (f:List Expr->Pos->Bool) (z:Expr):Bool:=if h:z.ctorIdx=24 then Expr.List.elim z h f else false
theorem iZ (q:Expr->Prop) {f:List Expr->Pos->Bool} (h:i0 f z=true) (k:∀ es pos,f es pos=true->q (.List es pos)):q z:=Expr.List.elim (motive_1:=fun z=>i0 f z=true->q z) z (ba h) k h
noncomputable def ng (f:List Expr->Nat->Pos->Bool) (z:Expr):Bool:=if h:z.ctorIdx=25 then Expr.Tuple.elim z h f else false
theorem si (q:Expr->Prop) {f:List Expr->Nat->Pos->Bool} (h:ng f z=true) (k:∀ es k pos,f es k pos=true->q (.Tuple es k pos)):q z:=Expr.Tuple.elim (motive_1:=fun z=>ng f z=true->q z) z (ba h) k h
noncomputable def sk (f:Option Expr->Option Expr->Option Expr->Pos->Bool) (z:Expr):Bool:=if h:z.ctorIdx=26 then Expr.Slice.elim z h f else false
theorem sj (q:Expr->Prop) {f:Option Expr->Option Expr->Option Expr->Pos->Bool} (h:sk f z=true) (k:∀ l u st pos,f l u st pos=true->q (.Slice l u st pos)):q z:=Expr.Slice.elim (motive_1:=fun z=>sk f z=true->q z) z (ba h) k h
noncomputable def ov (f:Option Expr->Pos->Bool) (z:Stmt):Bool:=if h:z.ctorIdx=3 then Stmt.Return.elim z h f else false
theorem pQ (q:Stmt->Prop) {f:Option Expr->Pos->Bool} {z:Stmt} (h:ov f z=true) (k:∀ v pos,f v pos=true->q (.Return v pos)):q z:=Stmt.Return.elim (motive_2:=fun z=>ov f z=true->q z) z (ba h) k h
noncomputable def ow (f:List Expr->Expr->Pos->Bool) (z:Stmt):Bool:=if h:z.ctorIdx=5 then Stmt.Assign.elim z h f else false
theorem pS (q:Stmt->Prop) {f:List Expr->Expr->Pos->Bool} {z:Stmt} (h:ow f z=true) (k:∀ ts e pos,f ts e pos=true->q (.Assign ts e pos)):q z:=Stmt.Assign.elim (motive_2:=fun z=>ow f z=true->q z) z (ba h) k h
noncomputable def w9 (f:Expr->Expr->List Stmt->List Stmt->Pos->Bool) (z:Stmt):Bool:=if h:z.ctorIdx=9 then Stmt.For.elim z h f else false
theorem vj (q:Stmt->Prop) {f:Expr->Expr->List Stmt->List Stmt->Pos->Bool} {z:Stmt} (h:w9 f z=true) (k:∀ t e b el pos,f t e b el pos=true->q (.For t e b el pos)):q z:=Stmt.For.elim (motive_2:=fun z=>w9 f z=true->q z) z (ba h) k h
noncomputable def m5 (f:Expr->List Stmt->List Stmt->Pos->Bool) (z:Stmt):Bool:=if h:z.ctorIdx=11 then Stmt.While.elim z h f else false
theorem rD (q:Stmt->Prop) {f:Expr->List Stmt->List Stmt->Pos->Bool} {z:Stmt} (h:m5 f z=true) (k:∀ t b el pos,f t b el pos=true->q (.While t b el pos)):q z:=Stmt.While.elim (motive_2:=fun z=>m5 f z=true->q z) z (ba h) k h
noncomputable def Gv (f:Expr->List Stmt->List Stmt->Pos->Bool) (z:Stmt):Bool:=if h:z.ctorIdx=12 then Stmt.If.elim z h f else false
theorem yI (q:Stmt->Prop) {f:Expr->List Stmt->List Stmt->Pos->Bool} {z:Stmt} (h:Gv f z=true) (k:∀ t a b pos,f t a b pos=true->q (.If t a b pos)):q z:=Stmt.If.elim (motive_2:=fun z=>Gv f z=true->q z) z (ba h) k h
noncomputable def rF (f:Option Expr->Option Expr->Pos->Bool) (z:Stmt):Bool:=if h:z.ctorIdx=16 then Stmt.Raise.elim z h f else false
theorem rE (q:Stmt->Prop) {f:Option Expr->Option Expr->Pos->Bool} {z:Stmt} (h:rF f z=true) (k:∀ x cause pos,f x cause pos=true->q (.Raise x cause pos)):q z:=Stmt.Raise.elim (motive_2:=fun z=>rF f z=true->q z) z (ba h) k h
noncomputable def w6 (f:List Stmt->List ExceptHandler->List Stmt->List Stmt->Pos->Bool) (z:Stmt):Bool:=if h:z.ctorIdx=17 then Stmt.Try.elim z h f else false
theorem vi (q:Stmt->Prop) {f:List Stmt->List ExceptHandler->List Stmt->List Stmt->Pos->Bool} {z:Stmt} (h:w6 f z=true) (k:∀ b hs el fin pos,f b hs el fin pos=true->q (.Try b hs el fin pos)):q z:=Stmt.Try.elim (motive_2:=fun z=>w6 f z=true->q z) z (ba h) k h
noncomputable def vm (f:Expr->Pos->Bool) (z:Stmt):Bool:=if h:z.ctorIdx=24 then Stmt.Expr.elim z h f else false
theorem tS (q:Stmt->Prop) {f:Expr->Pos->Bool} {z:Stmt} (h:vm f z=true) (k:∀ e pos,f e pos=true->q (.Expr e pos)):q z:=Stmt.Expr.elim (motive_2:=fun z=>vm f z=true->q z) z (ba h) k h
noncomputable def Em (f:Bool->Bool) (c:Const):Bool:=if h:c.ctorIdx=1 then Const.bool.elim c h f else false
theorem zm (q:Const->Prop) {f:Bool->Bool} (h:Em f c=true) (k:∀ b,f b=true->q (.bool b)):q c:=Const.bool.elim (motive:=fun c=>Em f c=true->q c) c (ba h) k h
noncomputable def El (f:Int->Bool) (c:Const):Bool:=if h:c.ctorIdx=2 then Const.int.elim c h f else false
theorem zl (q:Const->Prop) {f:Int->Bool} (h:El f c=true) (k:∀ b,f b=true->q (.int b)):q c:=Const.int.elim (motive:=fun c=>El f c=true->q c) c (ba h) k h
noncomputable def zj (f:Str->Bool) (c:Const):Bool:=if h:c.ctorIdx=5 then Const.str.elim c h f else false
theorem lT (q:Const->Prop) {f:Str->Bool} (h:zj f c=true) (k:∀ b,f b=true->q (.str b)):q c:=Const.str.elim (motive:=fun c=>zj f c=true->q c) c (ba h) k h
noncomputable def Ek (c:Const):Bool:=if h:c.ctorIdx=0 then Const.none.elim c h true else false
theorem zk (q:Const->Prop) (h:Ek c=true) (k:q .none):q c:=Const.none.elim (motive:=fun c=>Ek c=true->q c) c (ba h) (fun _=>k) h
noncomputable def ED (b:Bool) (o:UnaryOp):Bool:=match b with
 |true=>o.ctorIdx==UnaryOp.Not.ctorIdx
 |false=>o.ctorIdx==UnaryOp.USub.ctorIdx
theorem wu (q:UnaryOp->Prop) {o:UnaryOp} (h:ED true o=true) (k:q .Not):q o:=by cases o<;>first|exact k|cases h
theorem B_ (q:UnaryOp->Prop) {o:UnaryOp} (h:ED false o=true) (k:q .USub):q o:=by cases o<;>first|exact k|cases h
noncomputable def Js:Bool->BoolOp->Bool
 |true,.And=>true
 |false,.Or=>true
 |_,_=>false
theorem xC (q:BoolOp->Prop) {o:BoolOp} (h:Js true o=true) (k:q .And):q o:=by cases o<;>first|exact k|cases h
theorem G7 (q:BoolOp->Prop) {o:BoolOp} (h:Js false o=true) (k:q .Or):q o:=by cases o<;>first|exact k|cases h
section
noncomputable def one (f:α->Bool):List α->Bool
 |[a]=>f a
 |_=>false
theorem fB (q:List α->Prop) {f:α->Bool}:∀ {l:List α},one f l=true->(∀ a,f a=true->q [a])->q l
 |[a],h,k=>k a h
 |[],h,_=>nomatch h
 |_::_::_,h,_=>nomatch h
noncomputable def two (f:α->α->Bool):List α->Bool
 |[a,b]=>f a b
 |_=>false
theorem nv (q:List α->Prop) {f:α->α->Bool}:∀ {l:List α},two f l=true->(∀ a b,f a b=true->q [a,b])->q l
 |[a,b],h,k=>k a b h
 |[],h,_=>nomatch h
 |[_],h,_=>nomatch h
 |_::_::_::_,h,_=>nomatch h
theorem b_ (q:List α->Prop):∀ {l:List α},l.isEmpty=true->q []->q l:=by
 intro l
 induction l with
 |nil=>
  intro _ k;exact k
 |cons _ _ ih=>
  intro h _;exact nomatch h
noncomputable def Gj (f:α->Bool):Option α->Bool
 |some a=>f a
 |none=>false
theorem iO (q:Option α->Prop) {f:α->Bool}:∀ {o:Option α},Gj f o=true->(∀ a,f a=true->q (some a))->q o
 |some a,h,k=>k a h
 |none,h,_=>nomatch h
theorem iM (q:Option α->Prop):∀ {o:Option α},o.isNone=true->q none->q o
 |none,_,k=>k
 |some _,h,_=>nomatch h
end
noncomputable def eb (f:Str->List Expr->Bool) (e:Expr):Bool:=ss (fun g es kw _=>kw.isEmpty&&dc (fun x _=>f x es) g) e
theorem d_ (q:Expr->Prop) {f:Str->List Expr->Bool} (h:eb f e=true) (k:∀ x px es pos,f x es=true->q (.Call (.Name x px) es [] pos)):q e:=
 mC q h fun g es kw pos h=>b_ (fun kw=>q (.Call g es kw pos)) (ai h) (cj (fun g=>q (.Call g es [] pos)) (an h) fun x px h=>k x px es pos h)
noncomputable def k_ (f:Expr->Str->Pos->List Expr->Pos->Bool) (e:Expr):Bool:=ss (fun g es kw pos=>kw.isEmpty&&dz (fun v x ap=>f v x ap es pos) g) e
theorem k8 (q:Expr->Prop) {f:Expr->Str->Pos->List Expr->Pos->Bool} (h:k_ f e=true) (k:∀ v x ap es pos,f v x ap es pos=true->q (.Call (.Attribute v x ap) es [] pos)):q e:=
 mC q h fun g es kw pos h=>b_ (fun kw=>q (.Call g es kw pos)) (ai h) (eQ (fun g=>q (.Call g es [] pos)) (an h) fun v x ap h=>k v x ap es pos h)
noncomputable def pn (f:Expr->CmpOp->Expr->Bool) (e:Expr):Bool:=ju (fun l ops rs _=>one (fun o=>one (fun r=>f l o r) rs) ops) e
theorem kf (q:Expr->Prop) {f:Expr->CmpOp->Expr->Bool} (h:pn f e=true) (k:∀ l o r pos,f l o r=true->q (.Compare l [o] [r] pos)):q e:=
 i9 q h fun l ops rs pos h=>fB (fun ops=>q (.Compare l ops rs pos)) h fun o h=>fB (fun rs=>q (.Compare l [o] rs pos)) h fun r h=>k l o r pos h
noncomputable def pj (f:Expr->CmpOp->CmpOp->Expr->Expr->Bool) (e:Expr):Bool:=ju (fun l ops rs _=>two (fun o p=>two (fun r q=>f l o p r q) rs) ops) e
theorem mB (q:Expr->Prop) {f:Expr->CmpOp->CmpOp->Expr->Expr->Bool} (h:pj f e=true) (k:∀ l o p r s pos,f l o p r s=true->q (.Compare l [o,p] [r,s] pos)):q e:=
 i9 q h fun l ops rs pos h=>nv (fun ops=>q (.Compare l ops rs pos)) h fun o p h=>nv (fun rs=>q (.Compare l [o,p] rs pos)) h fun r s h=>k l o p r s pos h
noncomputable def so (f:Expr->Option Expr->Option Expr->Bool) (e:Expr):Bool:=cb (fun v i _=>sk (fun l u st _=>st.isNone&&f v l u) i) e
theorem mz (q:Expr->Prop) {f:Expr->Option Expr->Option Expr->Bool} (h:so f e=true) (k:∀ v l u p pos,f v l u=true->q (.Subscript v (.Slice l u none p) pos)):q e:=
 cP q h fun v i pos h=>sj (fun i=>q (.Subscript v i pos)) h fun l u st p h=>iM (fun st=>q (.Subscript v (.Slice l u st p) pos)) (ai h) (k v l u p pos (an h))
noncomputable def G8 (f:Expr->Str->Expr->List Expr->Int->Scope->Bool) (e:Expr):Bool:=kd (fun el gs scope _=>one (fun g=>dc (fun x _=>f el x g.iter g.ifs g.is_async scope) g.target) gs) e
theorem lP (q:Expr->Prop) {f:Expr->Str->Expr->List Expr->Int->Scope->Bool} (h:G8 f e=true) (k:∀ el x px iter cs ay scope pos,f el x iter cs ay scope=true->q (.ListComp el [⟨.Name x px,iter,cs,ay⟩] scope pos)):q e:=
 mL q h fun el gs scope pos h=>fB (fun gs=>q (.ListComp el gs scope pos)) h fun g h=>match g,h with
  |⟨t,iter,cs,ay⟩,h=>cj (fun t=>q (.ListComp el [⟨t,iter,cs,ay⟩] scope pos)) h fun x px h=>k el x px iter cs ay scope pos h
noncomputable def pP (f:Expr->Expr->Bool) (s:Stmt):Bool:=ow (fun ts e _=>one (fun t=>f t e) ts) s
theorem gE (q:Stmt->Prop) {f:Expr->Expr->Bool} {s:Stmt} (h:pP f s=true) (k:∀ t e pos,f t e=true->q (.Assign [t] e pos)):q s:=
 pS q h fun ts e pos h=>fB (fun ts=>q (.Assign ts e pos)) h fun t h=>k t e pos h
noncomputable abbrev BZ:=List (Str×Nat)
noncomputable def mE (sc:Scope) (x:Str):Bool:=sc.names.lookup x==some .local||sc.names.lookup x==some .cell||sc.names.lookup x==some .free
noncomputable def et (sc:Scope) (x:Str):Bool:=sc.names.lookup x==some .globalImplicit&& !(x==("__debug__":Str))
noncomputable def fC (e:Expr):Bool:=e.ctorIdx !=16|| !eb (fun _ es=>es.isEmpty) e
noncomputable def dq (e:Expr):Bool:=e.ctorIdx !=26
noncomputable def jt (sc scope:Scope) (x:Str):Bool:=
 scope.kind== .function&&scope.names.all (fun p=>p.2 != .cell)&&scope.names.lookup x==some .local&&
 scope.names.all (fun p=>p.2 != .local||(scope.names.lookup p.1==some .local&&(p.1==x||p.1==(".0":Str))))&&scope.names.all (fun p=>p.2 != .free||sc.names.lookup p.1==some .cell)
noncomputable def jo (e:Expr):Bool:=e.ctorIdx !=22
noncomputable def j4 (e:Expr):Bool:=e.ctorIdx==8||e.ctorIdx==9||e.ctorIdx==10
noncomputable def fg (sc:Scope) (x:Str):Bool:=sc.names.lookup x==some .local||sc.names.lookup x==some .cell
noncomputable def nP {α:Type} [BEq α]:List α->Bool
 |[]=>true
 |a::r=> !r.contains a&&nP r
structure Sx where
 fnm:Nat->Str×Bool
 att:Nat->Str
 key:Nat->Str
 gls:List (Str×(Option Int×List Nat))
 sc:Scope
 Γ:BZ
 lm:Option zv
end Mine.Internal
namespace Mine.Internal
open PySem PyProof.Rows PySem.W
variable {α β:Type} {C:bC} {A:Around} {P P' P₀:Pt} {E Q:Value->Shared->Prop} {ρ:bb} {hi lo u z:D} {fl v vl vu y:Value} {h h':Heap} {L a:Addr} {o o':Obj} {K:R PV->av->Prop} {w:bI} {c i j k n t:Nat} {f f':cB} {p x:PV} {e:Expr} {s:Shared} {pos:Pos} {b keep:Bool} {l:List D} {vs:List Value} {m:Int} {g:Fm} {σ:av} {es:List Expr} {env:Env} {ps:List PV} {st:Stmt} {G:List (Addr×Obj)} {ls:List Env} {fs:List Fm} {sc scope:Scope} {cl:List (Str×Addr)}
noncomputable def vN (K:Frag) (D:Addr):Bool:=
 findIn K (.ref D) "__getattribute__"==some (some (.builtin "BaseException.__getattribute__"))&&findIn K (.ref D) "__getattr__"==some none&&
 findIn K (.ref D) "__class__"==some (some (.builtin "object.__class__"))&&specialIn K (.builtin "object.__class__") "__get__"==some (some (.builtin "getset_descriptor.__get__"))&&
 takesIn K (.builtin "object.__class__")==some true&&mroIn K D (.type "object")==some true&&mroIn K D (.type "BaseException")==some true&&(clsIn K D).isSome
noncomputable def ia:Nat->Str
 |0=>"LedgerError"|1=>"BadName"|2=>"BadCurrency"|3=>"BadAmount"|4=>"BadDay"|5=>"BadNote"|6=>"BadRate"|7=>"Unbalanced"|8=>"Closed"|9=>"Taken"
 |10=>"TakenBack"|11=>"NoAccount"|12=>"NoEntry"|13=>"NoRate"|14=>"TooSmall"|15=>"NoPeriod"|16=>"BadText"|_=>"?"
noncomputable def fm:List (Str×Value):=[("len",.builtin "len"),("range",.type "range"),("min",.builtin "min"),("max",.builtin "max"),("abs",.builtin "abs"),("int",.type "int"),("str",.type "str"),("list",.type "list"),("tuple",.type "tuple"),
 ("dict",.type "dict"),("all",.builtin "all"),("sum",.builtin "sum"),("sorted",.builtin "sorted"),("isinstance",.builtin "isinstance"),("bool",.type "bool"),("ValueError",.type "ValueError")]
structure E4 (C:bC):Prop where
 X:Frag.In C.K C.H
 name:C.mg "Book"=some (.ref C.book)
 cd:∃ cd,clsIn C.K C.book=some cd/\cd.hasDict=true
 plain:plainOver C.K C.book=true
 makes:makesIn C.K C.book=true
 ga:findIn C.K (.ref C.book) "__getattribute__"=some (some (.builtin "object.__getattribute__"))
 gattr:findIn C.K (.ref C.book) "__getattr__"=some none
 sattr:findIn C.K (.ref C.book) "__setattr__"=some (some (.builtin "object.__setattr__"))
 no:∀ k,k<7->findIn C.K (.ref C.book) (C.att k)=some none
 inj:∀ i,i<7->∀ k,k<7->C.att i=C.att k->i=k
 init:findIn C.K (.ref C.book) "__init__"=some (some (.ref (C.fadr 0)))/\typeIn C.K (.ref (C.fadr 0))=some (.type "function")
 meth:∀ m,(C.fnm m).2=true->findIn C.K (.ref C.book) (C.fnm m).1=some (some (.ref (C.fadr m)))/\typeIn C.K (.ref (C.fadr m))=some (.type "function")/\(∀ k,k<7->C.att k≠(C.fnm m).1)/\∃ o fd,C.H.get? (C.fadr m)=some o/\o.data= .func fd
def GD (v:Value):Option Int×List Nat->Prop
 |(some i,_)=>∃ t,v= .int i t
 |(none,s)=>kl s/\∃ t,v= .str (cE s) t
structure gq (C:bC):Prop where
 g:C.H.Ns mainGlobals C.mg
 b:C.H.Ns builtinsNs C.mb
 nolimit:C.H.NoLimit
 nodigits:∃ mc,C.H.Ns cStatics mc/\mc "sys.int_max_str_digits"=none
 big:∃ o,C.H.get? sysModules=some o
 cls:E4 C
 exc:∀ c,c<nX->OwnCls (ia c) (C.exc c) [.type "ValueError",.type "Exception",.type "BaseException",.type "object"] "ValueError.__new__" C.mg C.H
 exk:∀ c,c<nX->vN C.K (C.exc c)=true
 kit:∀ c,c<nX->∀ k,k<nX->kitOne C.K (.ref (C.exc c)) (.ref (C.exc k))=some (c==k||k==0)
 kitV:∀ c,c<nX->kitOne C.K (.ref (C.exc c)) (.type "ValueError")=some true
 exm:∀ c,c<nX->∀ k,k<nX->exmOne C.K (.ref (C.exc c)) (.ref (C.exc k))=some (c==k||k==0)
 fn:∀ f,(C.fnm f).2=false->C.mg (C.fnm f).1=some (.ref (C.fadr f))/\∃ o fd,C.H.get? (C.fadr f)=some o/\o.data= .func fd
 bi:∀ p∈fm,C.mg p.1=none/\C.mb p.1=some p.2
 gl:∀ x q,C.gls.lookup x=some q->∃ v,C.mg x=some v/\GD v q
 keys:∀ i j,i<100->j<100->C.key i=C.key j->i=j
 lam:∀ l,C.lam=some l->CodeHd C.H l.c l.P/\C.H.BuiltinsAt C.mg l.P/\mainGlobals≠l.P
def qU (A:Around) (fs:List Fm):Prop:=∃ ls,A.frames=some ls/\∀ e∈ls,e.scope.kind≠ .module/\∃ f∈fs,e.frame=some f.L
def kept:c4->Prop
 | .no| .fr=>False
 |_=>True
def qX (C:bC) (P:Pt) (ls:List Env) (e:Addr) (c:Nat):Prop:=
 ∃ B:Heap,B.StaysIn P.h/\B.get? e=none/\P.h.FunFrames B ls/\(∀ b o,C.H.get? b=some o->B.get? b=some o)/\(∀ b o,kept (P.own b)->P.h.get? b=some o->B.get? b=some o)/\
  ((∃ oe vs a0,P.h.get? e=some oe/\oe.cls= .ref (C.exc c)/\oe.data= .fields vs/\vs[1]? =some Value.none/\vs[0]? =some a0)∨
  (∃ a0,P.h.TracedW B e (.ref (C.exc c)) a0)∨
  (∃ a0 env L,ls.head? =some env/\env.frame=some L/\P.h.TracedAtW B e (.ref (C.exc c)) a0 (rawInt L)))
inductive qk (C:bC) (A:Around) (P:Pt) (c:Nat):Value->Prop
 |mk {a:Addr} {ls:List Env}:A.frames=some ls->qX C P ls a c->qk C A P c (.ref a)
structure dA {α β:Type} (C:bC) (A:Around) (Rel:Pt->β->α->Prop) (P:Pt) (K:R α->av->Prop) (Q:β->Shared->Prop) (E:Value->Shared->Prop):Prop where
 ok:∀ p v P',bX P P'->aK C P'->Rel P' v p->K (.ok p) P'.σ->Q v P'.s
 ex:∀ c e P',bX P P'->aK C P'->qk C A P' c e->K (.ex c) P'.σ->E e P'.s
abbrev JD (C:bC) (P:Pt) (vs:List Value) (ps:List PV):Prop:=jR C P ps vs
abbrev lU (_:Pt) (c b:Bool):Prop:=c=b
section
variable {γ δ:Type} {Rel:Pt->β->α->Prop} {Rel':Pt->δ->γ->Prop} {K:R α->av->Prop} {Q:β->Shared->Prop}
theorem dA.mono (h:dA C A Rel P K Q E) (g:bX P P'):dA C A Rel P' K Q E:=
 ⟨fun p v P'' g'=>h.ok p v P'' (g.trans g'),fun c e P'' g'=>h.ex c e P'' (g.trans g')⟩
theorem dA.bind {f:γ->PM α} {Q':δ->Shared->Prop} (h:dA C A Rel P K Q E) (k:∀ p v P',bX P P'->aK C P'->Rel' P' v p->Wp K (f p P'.σ)->dA C A Rel P' K Q E->Q' v P'.s):dA C A Rel' P (bK K f) Q' E:=
 ⟨fun p v P' g i r w=>k p v P' g i r w (h.mono g),h.ex⟩
end
def sB (C:bC) (d:Nat):Prop:=∀ (hd:Bool) (A:Around) (P:Pt) (f:Nat) (args:List PV) (vs:List Value) (K:R PV->av->Prop) (Q E:Value->Shared->Prop),
 qU A P.fs->C.H.objs.size<=P.h.objs.size->A.depth+8*d+144<recursionLimit->A.units+64*d+945<cLine->(hd=false->A.handled=none)->aK C P->jR C P args vs->Wp K (jQ C.T d hd f args P.σ)->dA C A (RV C) P K Q E->
 codeAny C.M A (.call (.ref (C.fadr f)) ⟨vs,[]⟩) (fun r s'=>match r with| .ok (.ret v)=>Q v s'| .ok _=>False| .error e=>E e s') P.s
def xL (sc:Scope) (env:Env):Prop:=∀ x,(mE sc x=true->mE env.scope x=true)/\(et sc x=true->env.kindOf x=some .globalImplicit)/\(sc.names.lookup x=some .cell->env.kindOf x=some .cell/\∃ c,env.cells.lookup x=some c)
structure Cx where
 C:bC
 A:Around
 env:Env
 sc:Scope
 Γ:BZ
 d:Nat
 hd:Bool
 good:gq C
 calls:sB C d
 kinds:xL sc env
 kind:env.scope.kind= .function
 glob:env.globals=mainGlobals
 blt:env.builtins=builtinsNs
 dep:A.depth+8*d+150<recursionLimit
 uni:A.units+64*d+1000<cLine
 hnd:hd=false->A.handled=none
 lm:Option zv
variable {X:Cx}
noncomputable abbrev Cx.M (X:Cx):Model:=X.C.M
noncomputable def Cx.ker (X:Cx):cQ:=⟨jQ X.C.T X.d,X.hd⟩
noncomputable def Cx.sx (X:Cx):Sx:=⟨X.C.fnm,X.C.att,X.C.key,X.C.gls,X.sc,X.Γ,X.lm⟩
def xJ (env:Env) (fs:List Fm) (x:Str) (v:Value):Prop:=
 (env.kindOf x=some .local/\∃ f∈fs,f.L=env.locals/\f.m x=some v)∨
 ((env.kindOf x=some .cell∨env.kindOf x=some .free)/\∃ c,env.cells.lookup x=some c/\∃ f∈fs,c∈f.cells/\f.cv c=some v)
structure EnvOK (X:Cx) (P:Pt) (ρ:bb):Prop where
 frs:qU X.A P.fs
 ne:P.fs≠[]
 var:∀ x i p,X.Γ.lookup x=some i->mE X.env.scope x=true->ρ[i]? =some (some p)->∃ v,RV X.C P v p/\xJ X.env P.fs x v
theorem EnvOK.ext (h:EnvOK X P ρ) (g:bX P P'):EnvOK X P' ρ:=
 ⟨g.fs ▸ h.frs,g.fs ▸ h.ne,fun x i p a b c=>by
  obtain ⟨v,r,l⟩:=h.var x i p a b c;exact ⟨v,r.ext g.toExt,g.fs ▸ l⟩⟩
abbrev bw {α β:Type} (X:Cx) (Rel:Pt->β->α->Prop) (P:Pt) (K:R α->av->Prop) (Q:β->Shared->Prop) (E:Value->Shared->Prop):Prop:=dA X.C X.A Rel P K Q E
abbrev We (X:Cx) (e:Expr) (Q E:Value->Shared->Prop) (P:Pt):Prop:=wpAny X.M X.A (eval e X.env) Q E P.s
structure CE where
 ev:cQ->bb->PM PV
 is:Sx->Expr->Bool
 ok:∀ (X:Cx) (e:Expr) (ρ:bb) (P:Pt) (K:R PV->av->Prop) (Q E:Value->Shared->Prop),is X.sx e=true->aK X.C P->EnvOK X P ρ->Wp K (ev X.ker ρ P.σ)->bw X (RV X.C) P K Q E->We X e Q E P
structure CT where
 ts:cQ->bb->PM Bool
 is:Sx->Expr->Bool
 ok:∀ (X:Cx) (e:Expr) (ρ:bb) (P:Pt) (K:R Bool->av->Prop) (Q:Bool->Shared->Prop) (E:Value->Shared->Prop),is X.sx e=true->aK X.C P->EnvOK X P ρ->Wp K (ts X.ker ρ P.σ)->bw X lU P K Q E->wpAny X.M X.A (isTrue e X.env (eval e X.env)) Q E P.s
structure CL where
 ev:cQ->bb->PM (List PV)
 is:Sx->List Expr->Bool
 star:∀ sx es env pos,is sx es=true->∀ x∈backTo pos (starEach es env),x.1=false
 ok:∀ (X:Cx) (es:List Expr) (pos:Pos) (ρ:bb) (P:Pt) (K:R (List PV)->av->Prop) (Q:List Value->Shared->Prop) (E:Value->Shared->Prop),is X.sx es=true->aK X.C P->EnvOK X P ρ->Wp K (ev X.ker ρ P.σ)->bw X (JD X.C) P K Q E->
  wpAny X.M X.A (spliced (backTo pos (starEach es X.env))) Q E P.s
section
theorem dA.here {Rel:Pt->β->α->Prop} {K:R α->av->Prop} {Q:β->Shared->Prop} {v:β} {p:α} (h:dA C A Rel P K Q E) (I:aK C P) (r:Rel P v p) (k:K (.ok p) P.σ):Q v P.s:=h.ok p v P (.refl P) I r k
def mO (C:bC) (P:Pt) (z:D) (Q:Value->Shared->Prop):Prop:=∀ w P',bX P P'->aK C P'->RD C P'.own z w->P'.σ=P.σ->Q w P'.s
theorem mO.grown (k:mO C P z Q) (I:aK C P) (kp:∀ b o,P.h.get? b=some o->h'.get? b=some o) (r:RD C P.own z v) (t:Nat):Q v {P.s with heap:=h',toks:=t}:=k v (P.to h' t) (.to P h' t) (I.to kp) r rfl
theorem mO.tok (k:mO C P z Q) (I:aK C P) (r:RD C P.own z v) (t:Nat):Q v {P.s with toks:=t}:=k.grown I (fun _ _ e=>e) r t
theorem mO.here (k:mO C P z Q) (I:aK C P) (r:RD C P.own z v):Q v P.s:=k v P (.refl P) I r rfl
theorem mO.note (k:mO C P z Q) (I:aK C P) (n:zt C P h' a o) (t:Nat) (r:RD C (fY P.own a (.fz o)) z (.ref a)):Q (.ref a) {P.s with heap:=h',toks:=t}:=k _ (P.note h' t a o) (.note n.own) (I.note n) r rfl
theorem dA.fin (h:dA C A (RV C) P K Q E) (k:K (.ok (.d z)) P.σ):mO C P z Q:=fun w P' g I r e=>h.ok (.d z) w P' g I r (e ▸ k)
inductive ja (C:bC) (P:Pt) (l:List D):Value->Prop
 |mk {a:Addr} {vs:List Value} {n:JC}:P.h.get? a=some (og vs n)->P.own a≠ .no->RDs C P.own l vs->ja C P l (.ref a)
inductive wl (C:bC) (P:Pt) (ks ps:List D):Value->Prop
 |mk {a:Addr} {o:Obj} {vs:List Value}:P.h.get? a=some o->P.own a≠ .no->fJ C P.own o ks vs->RDs C P.own ps vs->wl C P ks ps (.ref a)
def fM (C:bC) (P:Pt) (v:Value):D->Prop
 | .lst l=>ja C P l v
 | .dct ks ps=>wl C P ks ps v
 |x=>RD C P.own x v
theorem iL (I:aK C P):∀ {x:D},RD C P.own x v->fM C P v x
 | .lst l,r=>by
  obtain ⟨e,r'⟩:lc C P.own og l v:=r.view;exact .mk (I.fz _ _ e) (by rw[e];nofun) r'
 | .dct ks ps,r=>by
  obtain ⟨e,d,r'⟩:EA C P.own ks ps v:=r.view;exact .mk (I.fz _ _ e) (by rw[e];nofun) d r'
 | .none,r=>r
 | .bool _,r=>r
 | .int _,r=>r
 | .str _,r=>r
 | .tup _,r=>r
 | .rng _ _ _,r=>r
 | .exc _,r=>r
theorem FA.at:∀ {f:cB},FA C w h n i v f->(∀ x,f≠ .d x)->jw C w h n (i+2) f v
 | .d _,_,hf=>absurd rfl (hf _)
 | .list _,r,_=>r
 | .dict _ _,r,_=>r
theorem jw.to {v':Value} (k:∀ a,w a= .cell n j->v'= .ref a):jw C w h n j f v->jw C w h n j f v':=fun h=>by
 obtain ⟨a,b,c⟩:=h;exact k _ a ▸ ⟨a,b,c⟩
theorem EK:∀ {o:PO} {j:Nat},RO C w h n o->o.at j=some f->(∀ x,f≠ .d x)->∃ v,jw C w h n j f v:=by
 intro o j r e hf;cases o with
 |dead=>cases e
 |fld _=>
  cases j with
  |zero=>cases e;exact r
  |succ _=>cases e
 |wrp _=>
  obtain ⟨_,_,_,v,_,_,_,r⟩:=r
  match j,e with
  |0,e=>cases e
  |1,e=>cases e
  |2,e=>cases e;exact ⟨v,r⟩
  |_+3,e=>cases e
 |rcd b l=>
  match j,e with
  |0,e=>cases e
  |1,e=>cases e
  |j+2,e=>
  have e:l[j]? =some f:=e;have q:=(ND.mp e).1;cases b with
  |true=>
   obtain ⟨_,_,_,_,_,h6,_,h8⟩:gP C w h n l:=r;rw[<-h6] at q;exact ⟨_,(h8 j f _ e (NE q)).at hf⟩
  |false=>
   obtain ⟨_,_,_,h4,_,_,h8⟩:ux C w h n l:=r;rw[<-h4] at q;exact ⟨_,(h8 j f _ e (NE q)).at hf⟩
theorem my (I:aK C P) (r:RV C P v (.p n j)) (e:cq P.σ n j=some f) (hf:∀ x,f≠ .d x):jw C P.own P.h n j f v:=by
 obtain ⟨o,e1,e2⟩:=Option.bind_eq_some_iff.mp e;obtain ⟨_,q⟩:=EK (I.obj n o e1) e2 hf;exact q.to r.2
theorem lv:∀ {f:cB} {x:D},f.rd=some x->f.toD=x/\∀ x,f≠ .d x
 | .list _,_,e=>by cases e;exact ⟨rfl,nofun⟩
 | .dict _ _,_,e=>by cases e;exact ⟨rfl,nofun⟩
theorem CW:∀ {f:cB},jw C P.own P.h n j f v->fM C P v f.toD:=by
 intro Z0 Z2;cases Z0 with
 |d _=>
  obtain ⟨_,_,h⟩:=Z2;exact h.elim
 |list _=>
  obtain ⟨h1,h2,h3⟩:=Z2;obtain ⟨vs,k,rfl,h3⟩:=h3;exact .mk (n:=⟨k,none,#[]⟩) h2 (by rw[h1];nofun) h3
 |dict _ _=>
  obtain ⟨h1,h2,h3⟩:=Z2;obtain ⟨vs,h3,h4⟩:=h3;exact .mk h2 (by rw[h1];nofun) h3 h4
theorem bz (I:aK C P) {x:D}:∀ {p:PV},RV C P v p->rd P.σ p=some x->fM C P v x:=by
 intro Z0 r e;cases Z0 with
 |d y=>
  cases e;exact iL I r
 |p n j=>
  obtain ⟨f,e1,e2⟩:=Option.bind_eq_some_iff.mp e;exact (lv e2).1 ▸ CW (my I r e1 (lv e2).2)
 |b _ _=>cases e
theorem qz:∀ {o:Option (Option α)} {a:α},o.join=some a->o=some (some a)
 |some (some _),_,e=>by cases e;rfl
end
section
theorem Gc (i:Nat) (h:dc (fun x _=>X.sx.Γ.lookup x==some i&&mE X.sx.sc x&& !(x==("__debug__":Str))&& !(x==("__classdict__":Str))) e=true) (I:aK X.C P) (G:EnvOK X P ρ) (w:Wp K (CU ((ρ[i]?).join) P.σ)) (p:bw X (RV X.C) P K Q E):
  wpAny X.M X.A (eval e X.env) Q E P.s:=by
 refine cj (fun e=>wpAny X.M X.A (eval e X.env) Q E P.s) h fun x pos h=> ?_;obtain ⟨q,e1,k⟩:=fq w;obtain ⟨v,r,l⟩:=G.var x i q (bO (ai (ai (ai h)))) ((X.kinds x).1 (an (ai (ai h)))) (qz e1);have done:Q v P.s:=p.here I r k;have n1:=(Bool.not_eq_true' _).mp (an (ai h));rcases l with ⟨hk,f,hf,hL,hm⟩|⟨hk,c,hc,f,hf,hcf,hcv⟩
 .exact wpAny_Name (wpAny_loadName_local X.kind hk (hL ▸ (I.fr.ns f hf).1) hm done) n1
 .have hcell:=(I.fr.cl f hf c hcf).1;rw[hcv] at hcell;rcases hk with hk|hk
  .exact wpAny_Name (wpAny_loadName_cell X.kind hk hc hcell done) n1
  .exact wpAny_Name (wpAny_loadName_free X.kind hk hc hcell done ((Bool.not_eq_true' _).mp (an h))) n1
theorem By (h:cc (fun c _ _=>Ek c) e=true) (I:aK X.C P) (w:Wp K (ret (.d .none) P.σ)) (p:bw X (RV X.C) P K Q E):We X e Q E P:=
 cu (fun e=>We X e Q E P) h fun c k pos h=>zk (fun c=>wpAny X.M X.A (eval (.Constant c k pos) X.env) Q E P.s) h (wpAny_Constant_none ((p.fin w).here I .none))
theorem BE (b:Bool) (h:cc (fun c _ _=>Em (fun c=>b==c) c) e=true) (I:aK X.C P) (w:Wp K (ret (.d (.bool b)) P.σ)) (p:bw X (RV X.C) P K Q E):We X e Q E P:=
 cu (fun e=>We X e Q E P) h fun c k pos h=>zm (fun c=>wpAny X.M X.A (eval (.Constant c k pos) X.env) Q E P.s) h fun c h=>wpAny_Constant_bool ((p.fin w).here I (bO h ▸ .bool b))
theorem D8 (i:Int) (h:cc (fun c _ _=>El (fun j=>i==j) c) e=true) (I:aK X.C P) (w:Wp K (ret (.d (.int i)) P.σ)) (p:bw X (RV X.C) P K Q E):We X e Q E P:=
 cu (fun e=>We X e Q E P) h fun c k pos h=>zl (fun c=>wpAny X.M X.A (eval (.Constant c k pos) X.env) Q E P.s) h fun j h=>wpAny_Constant_int ((p.fin w).tok I (bO h ▸ .int i _) _)
theorem jW {x:Str} {s:List Nat} (h:x.cps.toList=s) (k:kl s) (t:Tok):RD C w (.str s) (.str x t):=by
 obtain ⟨⟨l⟩⟩:=x;subst h;exact .str _ t k
noncomputable def Hn (s:List Nat):Bool:=s.all (· <0x110000)&&decide (s.length<=1000)
theorem uV {s:List Nat} (h:Hn s=true):kl s:=⟨fun c hc=>Of (List.all_eq_true.mp (ai h) c hc),NK (Of (an h)) (by decide)⟩
theorem D2 (s:List Nat) (h:cc (fun c _ _=>zj (fun x=>x.cps.toList==s&&Hn s) c) e=true) (I:aK X.C P) (w:Wp K (ret (.d (.str s)) P.σ)) (p:bw X (RV X.C) P K Q E):We X e Q E P:=
 cu (fun e=>We X e Q E P) h fun c k pos h=>lT (fun c=>wpAny X.M X.A (eval (.Constant c k pos) X.env) Q E P.s) h fun x h=>wpAny_Constant_str ((p.fin w).tok I (jW (bO (ai h)) (uV (an h)) _) _)
theorem dR {x:Str} (I:aK X.C P) (hw:et X.sc x=true) (hv:X.C.mg x=some v) (h:Q v P.s):wpAny X.M X.A (eval (.Name x pos) X.env) Q E P.s:=
 Calls.Name_function_global X.kind ((X.kinds x).2.1 hw) (Calls.loadGlobal_global (mg:=X.C.mg) (X.glob ▸ X.good.g.keeps fun b o e=>(I.base b o e).1) hv h) ((Bool.not_eq_true' _).mp (an hw))
theorem g7 {x:Str} (I:aK X.C P) (hw:et X.sc x=true) (hb:(x,v)∈fm) (h:Q v P.s):wpAny X.M X.A (eval (.Name x pos) X.env) Q E P.s:=
 Calls.Name_function_global X.kind ((X.kinds x).2.1 hw) (Calls.loadGlobal_builtin (mg:=X.C.mg) (mb:=X.C.mb) (X.glob ▸ X.good.g.keeps fun b o e=>(I.base b o e).1) (X.good.bi _ hb).1 (X.blt ▸ X.good.b.keeps fun b o e=>(I.base b o e).1) (X.good.bi _ hb).2 h) ((Bool.not_eq_true' _).mp (an hw))
noncomputable def Md:Option Int×List Nat->D
 |(some i,_)=>.int i
 |(none,s)=>.str s
theorem IV:∀ {q:Option Int×List Nat},GD v q->RD C w (Md q) v
 |(some i,_),⟨t,e⟩=>e ▸ .int i t
 |(none,s),⟨h,t,e⟩=>e ▸ .str s t h
theorem GC (x:Str) (q:Option Int×List Nat) (h:dc (fun y _=>y==x&&et X.sx.sc x&&X.sx.gls.lookup x==some q) e=true) (I:aK X.C P) (w:Wp K (ret (.d (Md q)) P.σ)) (p:bw X (RV X.C) P K Q E):wpAny X.M X.A (eval e X.env) Q E P.s:=by
 refine cj (fun e=>wpAny X.M X.A (eval e X.env) Q E P.s) h fun y pos h=> ?_;obtain ⟨v,hv,hg⟩:=X.good.gl x q (bO (an h));rw[bO (ai (ai h))];exact dR I (an (ai h)) hv ((p.fin w).here I (IV hg))
end
noncomputable def ag (i:Nat):CE:=⟨fun _ ρ=>CU ((ρ[i]?).join),fun x=>dc fun y _=>x.Γ.lookup y==some i&&mE x.sc y&& !(y==("__debug__":Str))&& !(y==("__classdict__":Str)),fun _ _ _ _ _ _ _ h I G w p=>Gc i h I G w p⟩
noncomputable def ff:CE:=⟨fun _ _=>ret (.d .none),fun _=>cc fun c _ _=>Ek c,fun _ _ _ _ _ _ _ h I _ w p=>By h I w p⟩
noncomputable def c7 (b:Bool):CE:=⟨fun _ _=>ret (.d (.bool b)),fun _=>cc fun c _ _=>Em (fun c=>b==c) c,fun _ _ _ _ _ _ _ h I _ w p=>BE b h I w p⟩
noncomputable def ah (i:Int):CE:=⟨fun _ _=>ret (.d (.int i)),fun _=>cc fun c _ _=>El (fun j=>i==j) c,fun _ _ _ _ _ _ _ h I _ w p=>D8 i h I w p⟩
noncomputable def aC (s:List Nat):CE:=⟨fun _ _=>ret (.d (.str s)),fun _=>cc fun c _ _=>zj (fun x=>x.cps.toList==s&&Hn s) c,fun _ _ _ _ _ _ _ h I _ w p=>D2 s h I w p⟩
noncomputable def vp (x:Str) (q:Option Int×List Nat):CE:=⟨fun _ _=>ret (.d (Md q)),fun c=>dc fun y _=>y==x&&et c.sc x&&c.gls.lookup x==some q,fun _ _ _ _ _ _ _ h I _ w p=>GC x q h I w p⟩
section
theorem d5 {v:D} {j:Int} (e:iD v=some j) (h:fM C P y v):∃ t,y= .int j t:=by
 cases v<;>first|(cases e;exact RD.view h)|cases e
theorem eD {v:D} {s:List Nat} (e:sD v=some s) (h:fM C P y v):kl s/\∃ t,y= .str (cE s) t:=by
 cases v<;>first|(cases e;exact RD.view h)|cases e
theorem BP {v:D} (e:bD v=some b) (h:fM C P y v):y= .bool b:=by
 cases v<;>first|(cases e;exact RD.view h)|cases e
theorem Fp {v:D} (e:tD v=some l) (h:fM C P y v):lc C P.own dh l y:=by
 cases v<;>first|(cases e;exact RD.view h)|cases e
theorem fD {v:D} (e:lD v=some l) (h:fM C P y v):ja C P l y:=by
 cases v<;>first|(cases e;exact h)|cases e
theorem dS {c:Prop} [Decidable c] {a x:α} (h:aq c a=some x):c/\a=x:=by
 unfold aq at h;by_cases k:c
 .rw[if_pos k] at h;exact ⟨k,Om h⟩
 .rw[if_neg k] at h;cases h
theorem am {f:α->Option β} {b:β}:∀ {o:Option α},o.bind f=some b->∃ a,o=some a/\f a=some b
 |some a,h=>⟨a,rfl,h⟩
theorem aN {f:α->β} {b:β}:∀ {o:Option α},o.map f=some b->∃ a,o=some a/\f a=b
 |some a,h=>⟨a,rfl,Om h⟩
theorem F9 {a b:Int} (h:nU a b=true):IntMulOk a b:=by
 simp only [nU,Bool.or_eq_true,decide_eq_true_eq] at h;rcases h with (h|h)|h
 .exact .of_left (intBits_le_64 (Im h) (Il h))
 .exact .of_right (intBits_le_64 (Im h) (Il h))
 .unfold IntMulOk Builtin.Int.intTooBig;simp only [Bool.and_eq_true,decide_eq_true_eq,not_and,and_imp];intro _ _ q;have h1:Builtin.Int.intBits a<=a.natAbs.log2+1:=by unfold Builtin.Int.intBits;split<;>omega
  have h2:Builtin.Int.intBits b<=b.natAbs.log2+1:=by unfold Builtin.Int.intBits;split<;>omega
  simp only [bitsLine] at q;exact K4 h q h1 h2
theorem vS {a b:Int} (h:mq b=true):b≠0/\Builtin.divisionGoesByPylong a b=false:=by
 simp only [mq,Bool.and_eq_true,bne_iff_ne,ne_eq,decide_eq_true_eq] at h;refine ⟨h.1,?_⟩;unfold Builtin.divisionGoesByPylong;have hb:b.natAbs.log2<9000:=by
  have:b.natAbs≠0:=by have:=h.1;exact Int.natAbs_ne_zero.mpr this
  exact (Nat.log2_lt this).mpr h.2
 have h0:(b==0)=false:=by simpa using h.1
 simp only [h0,Bool.and_eq_false_iff,decide_eq_false_iff_not]
 left
 simp only [Bool.false_eq_true,if_false];exact Oz.mpr (Nat.succ_le_of_lt ((Nat.div_lt_iff_lt_mul (by decide)).mpr hb))
structure BO where
 op:Operator
 g:D->D->Option D
 ok:∀ {C:bC} {A:Around} {P:Pt} {u v z:D} {x y:Value} {Q E:Value->Shared->Prop},aK C P->fM C P x u->fM C P y v->g u v=some z->mO C P z Q->wpAny C.M A (binaryOp op x y) Q E P.s
noncomputable def qA (f:Int->Int->Option Int) (u v:D):Option D:=(iD u).bind fun a=>(iD v).bind fun b=>(f a b).map .int
theorem gF {f:Int->Int->Option Int} {v:D} {x:Value} (h:qA f u v=some z) (hu:fM C P x u) (hv:fM C P y v):∃ a b c t s,x= .int a t/\y= .int b s/\f a b=some c/\z= .int c:=by
 obtain ⟨a,e1,h⟩:=am h;obtain ⟨b,e2,h⟩:=am h;obtain ⟨c,e3,h⟩:=aN h;obtain ⟨t,e4⟩:=d5 e1 hu;obtain ⟨s,e5⟩:=d5 e2 hv;exact ⟨a,b,c,t,s,e4,e5,e3,h.symm⟩
noncomputable def d4:BO:=⟨.Sub,qA fun a b=>some (a - b),fun I hu hv e k=>by
 obtain ⟨a,b,c,t,s,rfl,rfl,e',rfl⟩:=gF e hu hv;cases e';exact sub_int (k.tok I (.int _ _) _)⟩
noncomputable def bY:BO:=⟨.Mod,qA fun a b=>aq (mq b=true) (a.fmod b),fun I hu hv e k=>by
 obtain ⟨a,b,c,t,s,rfl,rfl,e',rfl⟩:=gF e hu hv;obtain ⟨hm,rfl⟩:=dS e';exact mod_int' (vS (a:=0) hm).1 (k.tok I (.int _ _) _)⟩
noncomputable def dI:BO:=⟨.FloorDiv,qA fun a b=>aq (mq b=true) (a.fdiv b),fun I hu hv e k=>by
 obtain ⟨a,b,c,t,s,rfl,rfl,e',rfl⟩:=gF e hu hv;obtain ⟨hm,rfl⟩:=dS e';exact floordiv_int (vS (a:=0) hm).1 (k.tok I (.int _ _) _) (.inl (vS hm).2)⟩
noncomputable def mD:BO:=⟨.Pow,qA fun a b=>aq (0<=b/\b<=1000/\0<=a/\a<=1000) (a^b.toNat),fun I hu hv e k=>by
 obtain ⟨a,b,c,t,s,rfl,rfl,e',rfl⟩:=gF e hu hv;obtain ⟨hm,rfl⟩:=dS e';exact pow_int_small hm.1 (by exact N9 hm.2.1 (by decide)) (by exact nA hm.2.2.1 (N_ hm.2.2.2 (by decide))) (k.tok I (.int _ _) _)⟩
noncomputable def pz:BO:=⟨.Mult,qA fun a b=>aq (nU a b=true) (a*b),fun I hu hv e k=>by
 obtain ⟨a,b,c,t,s,rfl,rfl,e',rfl⟩:=gF e hu hv;obtain ⟨hm,rfl⟩:=dS e';exact mul_int (k.tok I (.int _ _) _) (F9 hm)⟩
noncomputable def Fr (u v:D):Option D:=(sD u).bind fun s=>(iD v).bind fun k=>aq (1<=k/\k<=1000/\s.length=1) (.str (Hk s k.toNat))
theorem uO (l:List α) (n:Nat):Hk l n=(List.replicate n l).flatten:=by
 induction n with
 |zero=>rfl
 |succ n ih=>show l++Hk l n=_;rw[ih,List.replicate_succ,List.flatten_cons]
theorem yT (l:List (Array α)) (a:Array α):(l.foldl (fun x y=>x++y) a).toList=a.toList++(l.map Array.toList).flatten:=by
 induction l generalizing a with
 |nil=>simp
 |cons b l ih=>simp [ih]
noncomputable def EN:BO:=⟨.Mult,Fr,fun I hu hv e k=>by
 obtain ⟨x,e1,e⟩:=am e;obtain ⟨n,e2,e⟩:=am e;obtain ⟨hm,rfl⟩:=dS e;obtain ⟨hx,t,rfl⟩:=eD e1 hu;obtain ⟨u,rfl⟩:=d5 e2 hv;have hlen:Str.length (cE x)=1:=by simpa [Str.length] using hm.2.2
 refine SB.mul (n:=n) ⟨?_,?_,?_⟩ fun t' tk=>k.tok I ?_ _
 .simp;exact ⟨N9 (by decide) hm.1,N_ hm.2.1 (by decide)⟩
 .intro _ _;rw[hlen];have:(1:Int)<=(2^63 - 1) / n:=Int.le_ediv_of_mul_le (by exact hm.1) (K3 hm);exact Int.not_lt_of_ge this
 .intro _ _;rw[hlen];simp [Builtin.Str.tooLong,sizeLine];exact N9 hm.2.1 (by decide)
 .refine jW ?_ ⟨fun c hc=> ?_,?_⟩ _
  .unfold Txt.mul;rw[if_neg (by exact OA.mpr hm.1)];by_cases h1:n=1
   .subst h1;rw[show Hk x (1:Int).toNat=x from List.append_nil x];simp
   .rw[if_neg (by simp [h1,hlen]),yT,uO];simp
  .rw[uO] at hc;obtain ⟨l,hl,hcl⟩:=List.mem_flatten.mp hc;rw[(List.mem_replicate.mp hl).2] at hcl;exact hx.1 c hcl
  .rw[uO];simp [hm.2.2];simp only [cS];exact N9 hm.2.1 (by decide)⟩
noncomputable def Jv (u v:D):Option D:=match u with
 | .int a=>(iD v).map fun b=>.int (a+b)
 | .str a=>(sD v).bind fun b=>aq (a.length+b.length<=cS) (.str (a++b))
 | .tup a=>(tD v).bind fun b=>aq (a.length+b.length<=cS) (.tup (a++b))
 | .lst a=>(lD v).bind fun b=>aq (a.length+b.length<=cS) (.lst (a++b))
 |_=>none
theorem aK.newTup (I:aK C P) (vs:List Value) (n:Nat):zt C P (P.h.push (dh vs n)) P.h.objs.size (dh vs n):=I.push rfl
theorem ri (I:aK C P) (e:P.own a= .no) (r:RDs C P.own l vs) (ho:o=dh vs n):RD C (fY P.own a (.fz o)) (.tup l) (.ref a):=.tup (by rw[b8,ho]) (r.ext (eH e))
theorem nI (I:aK C P) (e:P.own a= .no) (r:RDs C P.own l vs) (ho:o=aU vs n):RD C (fY P.own a (.fz o)) (.lst l) (.ref a):=.lst (n:=⟨n,none,#[]⟩) (by rw[b8,ho]) (r.ext (eH e))
theorem Er {x y:List D} {u:Value} (I:aK C P) (hu:lc C P.own dh x u) (hv:lc C P.own dh y v) (hm:x.length+y.length<=cS) (k:mO C P (.tup (x++y)) Q):wpAny C.M A (binaryOp .Add u v) Q E P.s:=by
 obtain @⟨a1,vs1,n1,o1,r1⟩:=hu;obtain @⟨a2,vs2,n2,o2,r2⟩:=hv;have l1:=r1.length;have l2:=r2.length;have g1:=I.fz _ _ o1;have g2:=I.fz _ _ o2;by_cases hv:vs1=[]
 .subst hv;obtain rfl:x=[]:=List.eq_nil_of_length_eq_zero l1.symm;exact concat_meets ⟨_,g1,rfl⟩ ⟨_,g2,rfl⟩ noFill_tuple_add seq_tuple_add PySem.F.slot_tuple_add PySem.F.entry_tuple_add (PySem.F.args_tuple_add_2 _ _)
   (tuple_addW0 a1 a2 _ _ n1 n2 none none #[] #[] (by simp)) ⟨g1,g2,k.here I (.tup o2 r2)⟩
 .by_cases hw:vs2=[]
  .subst hw;obtain rfl:y=[]:=List.eq_nil_of_length_eq_zero l2.symm;exact concat_meets ⟨_,g1,rfl⟩ ⟨_,g2,rfl⟩ noFill_tuple_add seq_tuple_add PySem.F.slot_tuple_add PySem.F.entry_tuple_add (PySem.F.args_tuple_add_2 _ _)
    (tuple_addW1 a1 a2 _ _ n1 n2 none none #[] #[] (by simpa using hv) (by simp)) ⟨g1,g2,k.here I (by rw[List.append_nil];exact .tup o1 r1)⟩
  .refine concat_meets ⟨_,g1,rfl⟩ ⟨_,g2,rfl⟩ noFill_tuple_add seq_tuple_add PySem.F.slot_tuple_add PySem.F.entry_tuple_add (PySem.F.args_tuple_add_2 _ _)
    (tuple_addW2 a1 a2 _ _ n1 n2 none none #[] #[] (by simpa using hv) (by simpa using hw) (by simpa [sizeLine,cS,l1,l2] using hm)) ⟨g1,g2,?_⟩
   have:=k.note I (I.newTup (vs1++vs2) 0) P.s.toks (ri I (I.off (NM _)) (r1.append r2) rfl)
   simpa using this
theorem xG {l b:Addr} {ws:List Value} {n m:JC} (hl:s.heap.get? l=some (og vs n)) (hb:s.heap.get? b=some (og ws m)) (h:Q (.ref s.heap.objs.size) {s with heap:=s.heap.push {cls:=.type "list",data:=.seq (vs.toArray++ws.toArray)}}) (hsz:vs.toArray.size+ws.toArray.size<=sizeLine):wpAny C.M A (binaryOp .Add (.ref l) (.ref b)) Q E s:=
 concat_meets ⟨_,hl,rfl⟩ ⟨_,hb,rfl⟩ noFill_list_add seq_list_add PySem.F.slot_list_add PySem.F.entry_list_add (PySem.F.args_list_add_2 _ _) (list_addW l b vs.toArray ws.toArray n.n m.n n.d m.d n.sl m.sl hsz) ⟨hl,hb,h⟩
theorem Es {x y:List D} {u:Value} (I:aK C P) (hu:ja C P x u) (hv:ja C P y v) (hm:x.length+y.length<=cS) (k:mO C P (.lst (x++y)) Q):wpAny C.M A (binaryOp .Add u v) Q E P.s:=by
 obtain @⟨a1,vs1,n1,g1,_,r1⟩:=hu;obtain @⟨a2,vs2,n2,g2,_,r2⟩:=hv;refine xG g1 g2 ?_ (by simpa [sizeLine,cS,r1.length,r2.length] using hm);have:=k.note I (I.push (o:=aU (vs1++vs2) 0) rfl) P.s.toks (nI I (I.off (NM _)) (r1.append r2) rfl)
 simpa using this
theorem He (I:aK C P):∀ {u v z:D} {x y:Value},fM C P x u->fM C P y v->Jv u v=some z->mO C P z Q->wpAny C.M A (binaryOp .Add x y) Q E P.s:=by
 intro Z0 v z x y hu hv e k;cases Z0 with
 |int a=>
  obtain ⟨b,e1,rfl⟩:=aN e;obtain ⟨t,rfl⟩:=RD.view hu;obtain ⟨s,rfl⟩:=d5 e1 hv;exact add_int (k.tok I (.int _ _) _)
 |str a=>
  obtain ⟨b,e1,e⟩:=am e;obtain ⟨hm,rfl⟩:=dS e;obtain ⟨ha,t,rfl⟩:=RD.view hu;obtain ⟨hb,s,rfl⟩:=eD e1 hv;refine add_str (fun t' tk=>k.tok I ?_ _) (by simpa [Str.length,sizeLine,cS] using hm);exact jW (by rw[Str.cps_append];simp) ⟨fun c hc=>(NS.mp hc).elim (ha.1 c) (hb.1 c),by simpa using hm⟩ _
 |tup a=>
  obtain ⟨b,e1,e⟩:=am e;obtain ⟨hm,rfl⟩:=dS e;exact Er I (RD.view hu) (Fp e1 hv) hm k
 |lst a=>
  obtain ⟨b,e1,e⟩:=am e;obtain ⟨hm,rfl⟩:=dS e;exact Es I hu (fD e1 hv) hm k
 |_=>cases e
noncomputable def a':BO:=⟨.Add,Jv,fun I hu hv e k=>He I hu hv e k⟩
noncomputable def FU (g:D->D->Option D) (x y:PV):PM PV:=fun σ=>(rd σ x).bind fun u=>(rd σ y).bind fun v=>(g u v).map fun z=>(.ok (.d z),σ)
theorem uC {g:D->D->Option D} {y:PV} (h:Wp K (FU g x y σ)):∃ u v z,rd σ x=some u/\rd σ y=some v/\g u v=some z/\K (.ok (.d z)) σ:=by
 unfold FU at h;cases e1:rd σ x with
 |none=>rw[e1] at h;exact h.elim
 |some u=>
 cases e2:rd σ y with
 |none=>rw[e1,e2] at h;exact h.elim
 |some v=>
 cases e3:g u v with
 |none=>rw[e1,e2,NA,NA,e3] at h;exact h.elim
 |some z=>rw[e1,e2,NA,NA,e3] at h;exact ⟨u,v,z,rfl,rfl,e3,h⟩
end
section
theorem G4 (o:BO) (a b:CE) (h:jv (fun l op r _=>op==o.op&&a.is X.sx l&&b.is X.sx r) e=true) (I:aK X.C P) (G:EnvOK X P ρ) (w:Wp K (bP (a.ev X.ker ρ) (fun x=>bP (b.ev X.ker ρ) fun y=>FU o.g x y) P.σ)) (p:bw X (RV X.C) P K Q E):
  wpAny X.M X.A (eval e X.env) Q E P.s:=
 ii (fun e=>wpAny X.M X.A (eval e X.env) Q E P.s) h fun l op r pos h=>wpAny_BinOp (a.ok X l ρ P _ _ E (an (ai h)) I G (aL w) (p.bind fun x v P1 g1 I1 r1 w p=>
  b.ok X r ρ P1 _ _ E (an h) I1 (G.ext g1) (aL w) (p.bind fun y u P2 g2 I2 r2 w p=>by
   obtain ⟨i,j,z,e1,e2,e3,k⟩:=uC w;rw[bO (ai (ai h))];exact o.ok I2 (bz I2 (r1.ext g2.toExt) e1) (bz I2 r2 e2) e3 (p.fin k))))
end
noncomputable def aP (o:BO) (a b:CE):CE:=⟨fun K ρ=>bP (a.ev K ρ) fun x=>bP (b.ev K ρ) fun y=>FU o.g x y,fun s=>jv fun l op r _=>op==o.op&&a.is s l&&b.is s r,fun _ _ _ _ _ _ _ h I G w p=>G4 o a b h I G w p⟩
noncomputable def Kb (p:D->Bool):D->Bool
 | .none=>true
 | .int _=>true
 | .str _=>true
 | .tup l=>l.all p
 | .lst l=>l.all p
 |_=>false
noncomputable def pl:Nat->D->Bool
 |0=>Kb fun _=>false
 |n+1=>Kb (pl n)
noncomputable def wJ (f:D->PyData):D->PyData
 | .none=>.none
 | .int i=>.int i
 | .str s=>.str (cE s)
 | .tup l=>.tuple (l.map f)
 | .lst l=>.list (l.map f)
 |_=>.dict []
noncomputable def py:Nat->D->PyData
 |0=>wJ fun _=>.none
 |n+1=>wJ (py n)
theorem j9 {f:D->PyData} {p:D->Bool} (ih:∀ x y,p x=true->p y=true->(PyData.eqv (f x) (f y)=true<->x=y)):∀ l m:List D,l.all p=true->m.all p=true->(PyData.eqvAll (l.map f) (m.map f)=true<->l=m)
 |[],[],_,_=>⟨fun _=>rfl,fun _=>by simp [PyData.eqvAll]⟩
 |[],_::_,_,_=>⟨fun h=>by simp [PyData.eqvAll] at h,nofun⟩
 |_::_,[],_,_=>⟨fun h=>by simp [PyData.eqvAll] at h,nofun⟩
 |x::l,y::m,h1,h2=>by
  have q:=ih x y (ai h1) (ai h2);have r:=j9 ih l m (an h1) (an h2);rw[List.map_cons,List.map_cons,PyData.eqvAll,Bool.and_eq_true,q,r,List.cons.injEq]
theorem Ar (a b:List Nat):(cE a==cE b)=true<->a=b:=by
 rw[beq_iff_eq];exact ⟨fun h=>congrArg Array.toList (congrArg Str.cps h),fun h=>by rw[h]⟩
inductive Ew (p:D->Bool):D->Prop
 |none:Ew p .none
 |int (i:Int):Ew p (.int i)
 |str (s:List Nat):Ew p (.str s)
 |tup (l:List D):l.all p=true->Ew p (.tup l)
 |lst (l:List D):l.all p=true->Ew p (.lst l)
theorem jl {p:D->Bool}:∀ {x:D},Kb p x=true->Ew p x
 | .none,_=>.none
 | .int i,_=>.int i
 | .str s,_=>.str s
 | .tup l,h=>.tup l h
 | .lst l,h=>.lst l h
 | .bool _,h=>absurd h NY
 | .dct _ _,h=>absurd h NY
 | .rng _ _ _,h=>absurd h NY
 | .exc _,h=>absurd h NY
theorem t8 {f:D->PyData} {p:D->Bool} (ih:∀ x y,p x=true->p y=true->(PyData.eqv (f x) (f y)=true<->x=y)) {x y:D} (hx:Ew p x) (hy:Ew p y):PyData.eqv (wJ f x) (wJ f y)=true<->x=y:=by
 cases hx with
 |none=>cases hy<;>(delta wJ;simp [PyData.eqv])
 |int i=>
  cases hy with
  |int j=>(delta wJ;simp only [PyData.eqv,beq_iff_eq]);exact ⟨fun h=>h ▸ rfl,fun h=>by injection h⟩
  |_=>(delta wJ;simp [PyData.eqv])
 |str s=>
  cases hy with
  |str t=>(delta wJ;simp only [PyData.eqv]);exact (Ar s t).trans ⟨fun h=>h ▸ rfl,fun h=>by injection h⟩
  |_=>(delta wJ;simp [PyData.eqv])
 |tup l h=>
  cases hy with
  |tup m h'=>(delta wJ;simp only [PyData.eqv]);exact (j9 ih l m h h').trans ⟨fun h=>h ▸ rfl,fun h=>by injection h⟩
  |_=>(delta wJ;simp [PyData.eqv])
 |lst l h=>
  cases hy with
  |lst m h'=>(delta wJ;simp only [PyData.eqv]);exact (j9 ih l m h h').trans ⟨fun h=>h ▸ rfl,fun h=>by injection h⟩
  |_=>(delta wJ;simp [PyData.eqv])
theorem rY:∀ (n:Nat) (x y:D),pl n x=true->pl n y=true->(PyData.eqv (py n x) (py n y)=true<->x=y):=by
 intro n
 induction n with
 |zero=>
  intro _ _ hx hy;exact t8 (fun _ _ h=>absurd h NY) (jl hx) (jl hy)
 |succ n ih=>
  intro _ _ hx hy;exact t8 (ih) (jl hx) (jl hy)
section
theorem nC {l:List Nat} (h:∀ c∈l,c<0x110000):PyData.strOk (cE l)=true:=by
 simp only [PyData.strOk,List.all_toArray,List.all_eq_true,decide_eq_true_eq];exact h
inductive pu (h:Heap) (n:Nat) (v:Value) (d:PyData):Prop
 |mk (as:List Addr):Reads h v d as->d.canLay0=true->d.depth<=n->pu h n v d
inductive xM (h:Heap) (n:Nat) (vs:List Value) (ds:List PyData):Prop
 |mk (as:List Addr):ReadsAll h vs ds as->PyData.canLayAll0 ds=true->PyData.depthAll ds<=n->xM h n vs ds
theorem fV {h:Heap} {n:Nat} {f:D->PyData} {p:D->Bool} (ih:∀ x v,RD C P.own x v->p x=true->pu h n v (f x)):∀ {l:List D} {vs:List Value},RDs C P.own l vs->l.all p=true->xM h n vs (l.map f)
 |[],vs,r,_=>by rw[show vs=[] from r.view];exact .mk _ .nil rfl (N3 _)
 |x::l,vs,r,e=>by
  obtain ⟨r1,r2⟩:fX C P.own x l vs:=r.view;obtain ⟨as,a1,a2,a3⟩:=ih x _ r1 (ai e);obtain ⟨bs,b1,b2,b3⟩:=fV ih r2 (an e);refine .mk _ (.cons a1 b1) ?_ ?_
  .rw[List.map_cons,PyData.canLayAll0,a2,b2];rfl
  .rw[List.map_cons,PyData.depthAll];exact Nat.max_le.mpr ⟨a3,b3⟩
theorem tf (I:aK C P) {f:D->PyData} {p:D->Bool} (ih:∀ x v,RD C P.own x v->p x=true->pu P.h n v (f x)) {x:D} (r:fM C P v x) (e:Ew p x):pu P.h (n+1) v (wJ f x):=by
 cases e with
 |none=>cases RD.view r;exact .mk _ .none rfl (N3 _)
 |int i=>obtain ⟨t,rfl⟩:=RD.view r;exact .mk _ (.int _ _) rfl (N3 _)
 |str s=>obtain ⟨hs,t,rfl⟩:=RD.view r;exact .mk _ (.str _ _) (nC hs.1) (N3 _)
 |tup l h=>
  obtain ⟨o,s⟩:lc C P.own dh l v:=RD.view r;obtain ⟨as,a1,a2,a3⟩:=fV ih s h;exact .mk _ (reads_tuple_at (I.fz _ _ o) rfl rfl (by simpa using a1)) a2 (Ow a3)
 |lst l h=>
  obtain ⟨o,_,s⟩:ja C P l v:=r;obtain ⟨as,a1,a2,a3⟩:=fV ih s h;exact .mk _ (reads_list_at o rfl rfl (by simpa using a1)) a2 (Ow a3)
theorem jn (I:aK C P):∀ (n:Nat) (x:D) (v:Value),fM C P v x->pl n x=true->pu P.h (n+1) v (py n x):=by
 intro n
 induction n with
 |zero=>
  intro _ _ r e;exact tf I (n:=0) (p:=fun _=>false) (fun _ _ _ h=>absurd h NY) r (jl e)
 |succ n ih=>
  intro _ _ r e;exact tf I (fun x v r e=>ih x v (iL I r) e) r (jl e)
theorem jg {d:PyData} (h:d.canLay0=true) (k:d.depth<=n) (hn:n<=64):SeqAt.shaped d=true:=by
 unfold SeqAt.shaped;rw[h,Bool.true_and];exact NP (NK k hn)
noncomputable def Ht (a b:D):Option Bool:=match a with
 | .int i=>(iD b).map fun j=>decide (i=j)
 | .str s=>(sD b).map fun t=>decide (s=t)
 | .bool p=>(bD b).map fun q=>p==q
 |_=>none
open Classical in
noncomputable def Mj (a b:D):Option Bool:=aq ((pl 8 a&&pl 8 b)=true) (decide (a=b))
noncomputable def Jc (a b:D):Option Bool:=(Ht a b).or (Mj a b)
theorem CR {p q:Option α} {a:α} (h:p.or q=some a):p=some a∨q=some a:=by
 cases p with
 |none=>exact .inr h
 |some x=>exact .inl h
open Classical in
theorem Bm (I:aK C P) {v:D} {x:Value} {c:Bool} (hu:fM C P x u) (hv:fM C P y v) (e:Jc u v=some c):∃ d d' as bs,Reads P.h x d as/\Reads P.h y d' bs/\SeqAt.shaped d=true/\SeqAt.shaped d'=true/\PyData.eqv d d'=c:=by
 rcases CR e with e|e
 .cases u<;>try (cases e;done)
  .obtain ⟨q,e1,rfl⟩:=aN e;cases RD.view hu;cases BP e1 hv;exact ⟨_,_,_,_,.bool _,.bool _,rfl,rfl,by simp [PyData.eqv]⟩
  .obtain ⟨j,e1,rfl⟩:=aN e;obtain ⟨t,rfl⟩:=RD.view hu;obtain ⟨s,rfl⟩:=d5 e1 hv;exact ⟨_,_,_,_,.int _ _,.int _ _,rfl,rfl,by simp only [PyData.eqv];rfl⟩
  .obtain ⟨s,e1,rfl⟩:=aN e;obtain ⟨h1,t,rfl⟩:=RD.view hu;obtain ⟨h2,t',rfl⟩:=eD e1 hv;refine ⟨_,_,_,_,.str _ _,.str _ _,jg (nC h1.1) (NM 0) (by decide),jg (nC h2.1) (NM 0) (by decide),?_⟩;rw[Bool.eq_iff_iff,decide_eq_true_eq,<-Ar];simp only [PyData.eqv]
 .obtain ⟨h,rfl⟩:=dS e;obtain ⟨as,a1,a2,a3⟩:=jn I 8 _ _ hu (ai h);obtain ⟨bs,b1,b2,b3⟩:=jn I 8 _ _ hv (an h);refine ⟨_,_,as,bs,a1,b1,jg a2 a3 (by decide),jg b2 b3 (by decide),?_⟩;rw[Bool.eq_iff_iff,decide_eq_true_eq];exact rY 8 u v (ai h) (an h)
structure CO where
 op:CmpOp
 g:D->D->Option Bool
 ok:∀ {C:bC} {A:Around} {P:Pt} {u v:D} {c:Bool} {x y:Value} {Q E:Value->Shared->Prop},gq C->A.units+64<cLine->aK C P->fM C P x u->fM C P y v->g u v=some c->mO C P (.bool c) Q->wpAny C.M A (compareOp op x y) Q E P.s
noncomputable def c9:CO:=⟨.Eq,Jc,fun _ hu I a b e k=>by
 obtain ⟨d,d',as,bs,r1,r2,s1,s2,rfl⟩:=Bm I a b e;exact eq_dataH r1 r2 s1 s2 hu (k.here I (.bool _))⟩
noncomputable def fo:CO:=⟨.NotEq,fun u v=>(Jc u v).map fun c=> !c,fun _ hu I a b e k=>by
 obtain ⟨c,e',rfl⟩:=aN e;obtain ⟨d,d',as,bs,r1,r2,s1,s2,rfl⟩:=Bm I a b e';exact ne_dataH r1 r2 s1 s2 hu (k.here I (.bool _))⟩
noncomputable def Bz (f:Int->Int->Bool) (u v:D):Option Bool:=(iD u).bind fun a=>(iD v).map fun b=>f a b
theorem kW {f:Int->Int->Bool} {v:D} {x:Value} {c:Bool} (h:Bz f u v=some c) (hu:fM C P x u) (hv:fM C P y v):∃ a b t s,x= .int a t/\y= .int b s/\c=f a b:=by
 obtain ⟨a,e1,h⟩:=am h;obtain ⟨b,e2,h⟩:=aN h;obtain ⟨t,e4⟩:=d5 e1 hu;obtain ⟨s,e5⟩:=d5 e2 hv;exact ⟨a,b,t,s,e4,e5,h.symm⟩
noncomputable def m_:CO:=⟨.Lt,Bz fun a b=>decide (a<b),fun _ _ I a b e k=>by
 obtain ⟨i,j,t,s,rfl,rfl,rfl⟩:=kW e a b;exact lt_int (k.here I (.bool _))⟩
noncomputable def zg:CO:=⟨.Gt,Bz fun a b=>decide (a>b),fun _ _ I a b e k=>by
 obtain ⟨i,j,t,s,rfl,rfl,rfl⟩:=kW e a b;exact gt_int (k.here I (.bool _))⟩
noncomputable def Mq:CO:=⟨.GtE,Bz fun a b=>decide (a≥b),fun _ _ I a b e k=>by
 obtain ⟨i,j,t,s,rfl,rfl,rfl⟩:=kW e a b;exact ge_int (k.here I (.bool _))⟩
noncomputable def B4:CO:=⟨.LtE,Bz fun a b=>decide (a<=b),fun _ _ I a b e k=>by
 obtain ⟨i,j,t,s,rfl,rfl,rfl⟩:=kW e a b;exact le_int (k.here I (.bool _))⟩
noncomputable def IH:List Nat->List Nat->Bool
 |[],_=>true
 |_::_,[]=>false
 |a::r,b::q=>if a<b then true else if a=b then IH r q else false
theorem AN:∀ a b:List Nat,IH a b= !decide (b<a)
 |[],b=>by show true=_;simp
 |x::r,[]=>by show false=_;simp
 |x::r,y::q=>by
  have ih:=AN r q;show (if x<y then true else if x=y then IH r q else false)=_;simp only [List.cons_lt_cons_iff];by_cases h1:x<y
  .simp [h1];omega
  .by_cases h2:x=y
   .subst h2;simp [ih]
   .have h3:y<x:=by exact Nat.lt_of_le_of_ne (Oz.mp h1) (Ne.symm h2)
    simp [h1,h2,h3]
noncomputable def lL:CO:=⟨.LtE,fun u v=>(sD u).bind fun a=>(sD v).map fun b=>IH a b,fun _ _ I a b e k=>by
 obtain ⟨s,e1,e⟩:=am e;obtain ⟨t,e2,rfl⟩:=aN e;obtain ⟨_,t1,rfl⟩:=eD e1 a;obtain ⟨_,t2,rfl⟩:=eD e2 b;refine PySem.P.le_str ?_;have:=k.here I (.bool _);rw[AN] at this
 simpa using this⟩
noncomputable def Nq:D->Option Bool
 | .none=>some true
 | .int _| .str _| .tup _| .lst _| .bool _=>some false
 |_=>none
noncomputable def IL (u v:D):Option Bool:=match v with
 | .none=>Nq u
 |_=>none
theorem Dr {v:D} {x:Value} {c:Bool} (h:IL u v=some c) (hu:fM C P x u) (hv:fM C P y v):y= .none/\((x= .none/\c=true)∨(x≠ .none/\c=false)):=by
 cases v<;>try (cases h;done)
 refine ⟨RD.view hv,?_⟩;cases u<;>try (cases h;done)
 .cases h;exact .inl ⟨RD.view hu,rfl⟩
 .cases h;cases RD.view hu;exact .inr ⟨nofun,rfl⟩
 .cases h;obtain ⟨t,rfl⟩:=RD.view hu;exact .inr ⟨nofun,rfl⟩
 .cases h;obtain ⟨_,t,rfl⟩:=RD.view hu;exact .inr ⟨nofun,rfl⟩
 .cases h;obtain ⟨_,_⟩:=RD.view hu;exact .inr ⟨nofun,rfl⟩
 .cases h;obtain ⟨_,_,_⟩:=hu;exact .inr ⟨nofun,rfl⟩
noncomputable def Hv:CO:=⟨.Is,IL,fun _ _ I a b e k=>by
 obtain ⟨rfl,⟨rfl,rfl⟩|⟨hn,rfl⟩⟩:=Dr e a b
 .exact wpAny_is_self (by decide) (k.here I (.bool _))
 .exact is_none_ne hn (k.here I (.bool _))⟩
noncomputable def HO:List Nat->Option Nat
 |[c]=>some c
 |_=>none
noncomputable def Mc (u v:D):Option Bool:=(sD u).bind fun s=>(HO s).bind fun c=>(sD v).map fun t=>decide (c∈t)
theorem xb {v:D} {x:Value} {c:Bool} (h:Mc u v=some c) (hu:fM C P x u) (hv:fM C P y v):∃ a l t s,x= .str (cE [a]) t/\y= .str (cE l) s/\c=decide (a∈l):=by
 obtain ⟨s,e1,h⟩:=am h;obtain ⟨a,e2,h⟩:=am h;obtain ⟨l,e3,rfl⟩:=aN h;obtain ⟨_,t1,e4⟩:=eD e1 hu;obtain ⟨_,t2,e5⟩:=eD e3 hv;obtain rfl:s=[a]:=by
  rcases s with _|⟨z,_|⟨w,y⟩⟩<;>first|(cases e2;done)|(cases e2;rfl)
 exact ⟨a,l,t1,t2,e4,e5,rfl⟩
noncomputable def oW:CO:=⟨.In,Mc,fun _ _ I a b e k=>by
 obtain ⟨i,l,t,s,rfl,rfl,rfl⟩:=xb e a b;exact in_str (by rw[StrLaws.found_one];exact k.here I (.bool _))⟩
noncomputable def D_:CO:=⟨.NotIn,fun u v=>(Mc u v).map fun c=> !c,fun _ _ I a b e k=>by
 obtain ⟨c,e',rfl⟩:=aN e;obtain ⟨i,l,t,s,rfl,rfl,rfl⟩:=xb e' a b;exact notIn_str (by rw[StrLaws.found_one];exact k.here I (.bool _))⟩
open Classical in
noncomputable def IP (u v:D):Option Bool:=(lD v).bind fun l=>aq ((pl 8 u&&l.all (pl 8))=true) (decide (u∈l))
open Classical in
theorem xd (I:aK C P) {v:D} {x:Value} {c:Bool} (hu:fM C P x u) (hv:fM C P y v) (e:IP u v=some c):∃ d ds as bs,Reads P.h x d as/\Reads P.h y (.list ds) bs/\PyData.canLayAll0 ds=true/\d.canLay0=true/\PyData.depthAll ds<=9/\d.depth<=9/\(ds.any fun z=>PyData.eqv z d)=c:=by
 obtain ⟨l,e1,e⟩:=am e;obtain ⟨h,rfl⟩:=dS e;obtain @⟨a,vs,n,g,_,r⟩:=fD e1 hv;obtain ⟨as,a1,a2,a3⟩:=jn I 8 _ _ hu (ai h);obtain ⟨bs,b1,b2,b3⟩:=fV (fun x v r e=>jn I 8 x v (iL I r) e) r (an h);refine ⟨_,_,as,_,a1,reads_list_at g rfl rfl (by simpa using b1),b2,a2,b3,a3,?_⟩;rw[Bool.eq_iff_iff,decide_eq_true_eq,List.any_map,List.any_eq_true];constructor
 .rintro ⟨z,hz,q⟩;exact (rY 8 z u (List.all_eq_true.mp (an h) z hz) (ai h)).mp q ▸ hz
 .exact fun hz=>⟨u,hz,(rY 8 u u (ai h) (ai h)).mpr rfl⟩
noncomputable def Jk:CO:=⟨.In,IP,fun _ hu I a b e k=>by
 obtain ⟨d,ds,as,bs,r1,r2,h1,h2,h3,h4,rfl⟩:=xd I a b e;exact SeqAt.in_list_reads r2 r1 h1 h2 (Ik hu h3) (k.here I (.bool _))⟩
noncomputable def lK:CO:=⟨.NotIn,fun u v=>(IP u v).map fun c=> !c,fun _ hu I a b e k=>by
 obtain ⟨c,e',rfl⟩:=aN e;obtain ⟨d,ds,as,bs,r1,r2,h1,h2,h3,h4,rfl⟩:=xd I a b e';exact SeqAt.notIn_list_reads r2 r1 h1 h2 (Ik hu h3) (k.here I (.bool _))⟩
end
noncomputable def zu (g:D->D->Option Bool) (x y:PV):PM Bool:=fun σ=>(rd σ x).bind fun u=>(rd σ y).bind fun v=>(g u v).map fun c=>(.ok c,σ)
theorem lg {K:R Bool->av->Prop} {g:D->D->Option Bool} {y:PV} (h:Wp K (zu g x y σ)):∃ u v c,rd σ x=some u/\rd σ y=some v/\g u v=some c/\K (.ok c) σ:=by
 unfold zu at h;cases e1:rd σ x with
 |none=>rw[e1] at h;exact h.elim
 |some u=>
 cases e2:rd σ y with
 |none=>rw[e1,e2] at h;exact h.elim
 |some v=>
 cases e3:g u v with
 |none=>rw[e1,e2,NA,NA,e3] at h;exact h.elim
 |some z=>rw[e1,e2,NA,NA,e3] at h;exact ⟨u,v,z,rfl,rfl,e3,h⟩
noncomputable def MB:D->Option Bool
 | .bool b=>some b
 | .none=>some false
 | .int i=>some (i !=0)
 | .str s=>some (!s.isEmpty)
 |_=>none
noncomputable def Hj (v:PV):PM Bool:=CU ((km v).bind MB)
noncomputable def bV (b:Bool):PV:=.d (.bool b)
section
variable {Q:Bool->Shared->Prop}
theorem HD (I:aK C P):∀ {x:D} {v:Value} {b:Bool},RD C P.own x v->MB x=some b->(∀ P',bX P P'->aK C P'->P'.σ=P.σ->Q b P'.s)->wpAny C.M A (truthy v) Q E P.s:=by
 intro Z0 v b r e k;cases Z0 with
 |bool c=>
  cases e;rw[show v= .bool b from r.view];exact wpAny_truthy_bool (k P (.refl P) I rfl)
 |none=>
  cases e;rw[show v= .none from r.view];exact truthy_none (k P (.refl P) I rfl)
 |int i=>
  cases e;obtain ⟨t,q⟩:∃ t,v= .int i t:=r.view;rw[q];exact truthy_int (k P (.refl P) I rfl)
 |str l=>
  cases e;obtain ⟨hx,t,q⟩:kl l/\∃ t,v= .str (cE l) t:=r.view;rw[q];have hl:=hx.2;refine PySem.P.truthy_str (by simp [Str.length,cS] at hl ⊢;exact Ob.mpr (NZ hl (NH rfl))) ?_;have h:=k (P.to P.h (P.s.toks+1+1)) (.to ..) (I.to fun _ _ e=>e) rfl;rw[show ((Str.length (cE l):Int) !=0)= !l.isEmpty by cases l<;>simp [Str.length];exact K2];exact h
 |_=>cases e
theorem mJ {x:D}:∀ {p:PV},km p=some x->RV C P v p->RD C P.own x v
 | .d _,e,r=>by cases e;exact r
theorem uD {K:R Bool->av->Prop} (I:aK C P) (r:RV C P v p) (w:Wp K (Hj p P.σ)) (h:dA C A lU P K Q E):wpAny C.M A (truthy v) Q E P.s:=by
 refine bJ fun G9 k9=> ?_;obtain ⟨b,e,k⟩:=fq w;obtain ⟨x,e1,e2⟩:=am e;refine k9 ?_;exact HD I (mJ e1 r) e2 fun P' g I' e=>h.ok b b P' g I' rfl (e ▸ k)
theorem lI {v:D} {x:Value} {c:Bool} (o:CO) (G:gq C) (hu:A.units+64<cLine) (I:aK C P) (a:fM C P x u) (b:fM C P y v) (e:o.g u v=some c) (k:∀ P',bX P P'->aK C P'->P'.σ=P.σ->Q c P'.s):
  wpAny C.M A (compareOp o.op x y) (fun z s=>wpAny C.M A (truthy z) Q E s) E P.s:=
 o.ok G hu I a b e fun z P' g I' r e'=>by
  rw[show z= .bool c from r.view];exact wpAny_truthy_bool (k P' g I' e')
end
theorem dA.bindB {Rel:Pt->β->α->Prop} {K:R α->av->Prop} {Q:β->Shared->Prop} {f:Bool->PM α} {Q':Bool->Shared->Prop} (h:dA C A Rel P K Q E) (k:∀ b P',bX P P'->aK C P'->Wp K (f b P'.σ)->dA C A Rel P' K Q E->Q' b P'.s):dA C A lU P (bK K f) Q' E:=
 ⟨fun p v P' g i r w=>(show v=p from r) ▸ k p P' g i w (h.mono g),h.ex⟩
section
variable {KB:R Bool->av->Prop} {QB:Bool->Shared->Prop}
theorem Cx.lt (X:Cx):X.A.units+64<cLine:=K1 X.uni
theorem GU (o:CO) (a b:CE) (h:pn (fun l op r=>op==o.op&&behindInMarks op r==false&&a.is X.sx l&&b.is X.sx r) e=true) (I:aK X.C P) (G:EnvOK X P ρ) (w:Wp K (bP (a.ev X.ker ρ) (fun x=>bP (b.ev X.ker ρ) fun y=>bP (zu o.g x y) fun c=>ret (bV c)) P.σ)) (p:bw X (RV X.C) P K Q E):
  wpAny X.M X.A (eval e X.env) Q E P.s:=
 kf (fun e=>wpAny X.M X.A (eval e X.env) Q E P.s) h fun l op r pos h=>wpAny_Compare1 (a.ok X l ρ P _ _ E (an (ai h)) I G (aL w) (p.bind fun x v P1 g1 I1 r1 w p=>
  b.ok X r ρ P1 _ _ E (an h) I1 (G.ext g1) (aL w) (p.bind fun y u P2 g2 I2 r2 w p=>by
   refine bJ fun G9 k9=> ?_;obtain ⟨i,j,z,e1,e2,e3,k⟩:=lg (aL w);refine k9 ?_;rw[bO (ai (ai (ai h)))];exact o.ok X.good X.lt I2 (bz I2 (r1.ext g2.toExt) e1) (bz I2 r2 e2) e3 (p.fin k)))) (bO (an (ai (ai h))))
theorem Cg (o:CO) (a b:CE) (h:pn (fun l op r=>op==o.op&&behindInMarks op r==false&&a.is X.sx l&&b.is X.sx r) e=true) (I:aK X.C P) (G:EnvOK X P ρ) (w:Wp KB (bP (a.ev X.ker ρ) (fun x=>bP (b.ev X.ker ρ) fun y=>zu o.g x y) P.σ)) (p:bw X lU P KB QB E):
  wpAny X.M X.A (isTrue e X.env (eval e X.env)) QB E P.s:=
 kf (fun e=>wpAny X.M X.A (isTrue e X.env (eval e X.env)) QB E P.s) h fun l op r pos h=>wpAny_isTrue_Compare1 (a.ok X l ρ P _ _ E (an (ai h)) I G (aL w) (p.bind fun x v P1 g1 I1 r1 w p=>
  b.ok X r ρ P1 _ _ E (an h) I1 (G.ext g1) (aL w) (p.bind fun y u P2 g2 I2 r2 w p=>by
   refine bJ fun G9 k9=> ?_;obtain ⟨i,j,z,e1,e2,e3,k⟩:=lg w;refine k9 ?_;rw[bO (ai (ai (ai h)))];exact lI o X.good X.lt I2 (bz I2 (r1.ext g2.toExt) e1) (bz I2 r2 e2) e3 fun P' g I' e=>p.ok z z P' g I' rfl (e ▸ k)))) (bO (an (ai (ai h))))
noncomputable def Mm (m:PM PV) (g1 g2:D->D->Option Bool) (x y:PV):PM PV:=bP (zu g1 x y) fun c=>if c then bP m fun z=>bP (zu g2 y z) fun c=>ret (bV c) else ret (bV false)
theorem D6 (o q:CO) (a b c:CE) (h:pj (fun l o1 o2 r s=>o1==o.op&&o2==q.op&&lastMarks [o1,o2] [r,s]==false&&a.is X.sx l&&b.is X.sx r&&c.is X.sx s) e=true) (I:aK X.C P) (G:EnvOK X P ρ) (w:Wp K (bP (a.ev X.ker ρ) (fun x=>bP (b.ev X.ker ρ) fun y=>Mm (c.ev X.ker ρ) o.g q.g x y) P.σ)) (p:bw X (RV X.C) P K Q E):
  wpAny X.M X.A (eval e X.env) Q E P.s:=
 mB (fun e=>wpAny X.M X.A (eval e X.env) Q E P.s) h fun l o1 o2 r s pos h=>Compare_chain (a.ok X l ρ P _ _ E (an (ai (ai h))) I G (aL w) (p.bind fun x v P1 g1 I1 r1 w p=>
  chain_link (b.ok X r ρ P1 _ _ E (an (ai h)) I1 (G.ext g1) (aL w) (p.bind fun y u P2 g2 I2 r2 w p=>by
   refine bJ fun G9 k9=> ?_;obtain ⟨i,j,z,e1,e2,e3,k⟩:=lg (aL w);refine k9 ?_;rw[bO (ai (ai (ai (ai (ai h)))))];refine o.ok X.good X.lt I2 (bz I2 (r1.ext g2.toExt) e1) (bz I2 r2 e2) e3 fun t P3 g3 I3 r3 e'=> ?_;rw[show t= .bool z from r3.view];refine wpAny_truthy_bool ?_;have k:=e' ▸ k;cases z with
   |false=>exact ((p.mono g3).fin k).here I3 (.bool _)
   |true=>
    refine chain_last (c.ok X s ρ P3 _ _ E (an h) I3 ((G.ext g1).ext (g2.trans g3)) (aL k) ((p.mono g3).bind fun t' v' P4 g4 I4 r4 w p=> ?_));refine bJ fun G9 k9=> ?_;obtain ⟨i',j',z',f1,f2,f3,k⟩:=lg (aL w);refine k9 ?_;rw[bO (an (ai (ai (ai (ai h)))))];exact q.ok X.good X.lt I4 (bz I4 (r2.ext (g3.trans g4).toExt) f1) (bz I4 r4 f2) f3 (p.fin k))))) (bO (an (ai (ai (ai h)))))
theorem xT {M:Model} {A:Around} {E:Value->Shared->Prop} {s:Shared} {pos:Pos} {a:Value} {op op':CmpOp} {ops:List CmpOp} {r r':Sem Value} {rs:List (Sem Value)} {Q:Bool->Shared->Prop}
  (h:wpAny M A r (fun b s₁=>wpAny M A (compareOp op a b) (fun c s₂=>wpAny M A (PySem.truthy c)
   (fun t s₃=>if t then wpAny M A (testChain pos b (op'::ops) (r'::rs)) Q E s₃ else Q false s₃) E s₂) E s₁) E s):
  wpAny M A (testChain pos a (op::op'::ops) (r::r'::rs)) Q E s:=by
 show wpAny M A (do
  let rv<-holding [a] r
  standAt pos
  let c<-holding [a,rv] (compareOp op a rv)
  release [a,rv] [c]
  if<-holding [c,rv] (PySem.truthy c) then testChain pos rv (op'::ops) (r'::rs) else pure false) Q E s
 refine NN (wpAny_holding (wpAny_mono h (fun b s₁ h₁=>NN (wpAny_standAt (NN (wpAny_holding (wpAny_mono h₁ (fun c s₂ h₂=>
  NN (wpAny_release' (NN (wpAny_holding (wpAny_mono h₂ (fun t s₃ h₃=> ?_) fun _ _ x=>x))))) fun _ _ x=>x))))) fun _ _ x=>x))
 cases t with
 |false=>exact NO h₃
 |true=>exact h₃
theorem xU {M:Model} {A:Around} {E:Value->Shared->Prop} {s:Shared} {pos:Pos} {a:Value} {op:CmpOp} {r:Sem Value} {Q:Bool->Shared->Prop}
  (h:wpAny M A r (fun b s₁=>wpAny M A (compareOp op a b) (fun c s₂=>wpAny M A (PySem.truthy c) Q E s₂) E s₁) E s):wpAny M A (testChain pos a [op] [r]) Q E s:=by
 show wpAny M A (do
  let rv<-holding [a] r
  standAt pos
  let c<-operate [a,rv] (compareOp op a rv)
  holding [c] (PySem.truthy c)) Q E s
 exact NN (wpAny_holding (wpAny_mono h (fun b s₁ h₁=>NN (wpAny_standAt (NN (wpAny_operate' (wpAny_mono h₁ (fun c s₂ h₂=>wpAny_holding h₂) fun _ _ x=>x))))) fun _ _ x=>x))
noncomputable def HF (m:PM PV) (g1 g2:D->D->Option Bool) (x y:PV):PM Bool:=bP (zu g1 x y) fun c=>if c then bP m fun z=>zu g2 y z else ret false
theorem zI (o q:CO) (a b c:CE) (h:pj (fun l o1 o2 r s=>o1==o.op&&o2==q.op&&lastMarks [o1,o2] [r,s]==false&&a.is X.sx l&&b.is X.sx r&&c.is X.sx s) e=true) (I:aK X.C P) (G:EnvOK X P ρ) (w:Wp KB (bP (a.ev X.ker ρ) (fun x=>bP (b.ev X.ker ρ) fun y=>HF (c.ev X.ker ρ) o.g q.g x y) P.σ)) (p:bw X lU P KB QB E):
  wpAny X.M X.A (isTrue e X.env (eval e X.env)) QB E P.s:=
 mB (fun e=>wpAny X.M X.A (isTrue e X.env (eval e X.env)) QB E P.s) h fun l o1 o2 r s pos h=>isTrue_chain (a.ok X l ρ P _ _ E (an (ai (ai h))) I G (aL w) (p.bind fun x v P1 g1 I1 r1 w p=>
  xT (b.ok X r ρ P1 _ _ E (an (ai h)) I1 (G.ext g1) (aL w) (p.bind fun y u P2 g2 I2 r2 w p=>by
   refine bJ fun G9 k9=> ?_;obtain ⟨i,j,z,e1,e2,e3,k⟩:=lg (aL w);refine k9 ?_;rw[bO (ai (ai (ai (ai (ai h)))))];refine lI o X.good X.lt I2 (bz I2 (r1.ext g2.toExt) e1) (bz I2 r2 e2) e3 fun P3 g3 I3 e'=> ?_;have k:=e' ▸ k;cases z with
   |false=>exact (p.mono g3).here I3 rfl k
   |true=>
    refine xU (c.ok X s ρ P3 _ _ E (an h) I3 ((G.ext g1).ext (g2.trans g3)) (aL k) ((p.mono g3).bind fun t' v' P4 g4 I4 r4 w p=> ?_));refine bJ fun G9 k9=> ?_;obtain ⟨i',j',z',f1,f2,f3,k⟩:=lg w;refine k9 ?_;rw[bO (an (ai (ai (ai (ai h)))))];exact lI q X.good X.lt I4 (bz I4 (r2.ext (g3.trans g4).toExt) f1) (bz I4 r4 f2) f3 fun P' g I' e=>p.ok z' z' P' g I' rfl (e ▸ k))))) (bO (an (ai (ai (ai h)))))
theorem F6 (a:CE) (h:dU (fun o x _=>ED false o&&a.is X.sx x) e=true) (I:aK X.C P) (G:EnvOK X P ρ) (w:Wp K (bP (a.ev X.ker ρ) (fun x=>bP (CU ((km x).bind iD)) fun i=>ret (.d (.int (-i)))) P.σ)) (p:bw X (RV X.C) P K Q E):wpAny X.M X.A (eval e X.env) Q E P.s:=
 fH (fun e=>wpAny X.M X.A (eval e X.env) Q E P.s) h fun o x pos h=>B_ (fun o=>wpAny X.M X.A (eval (.UnaryOp o x pos) X.env) Q E P.s) (ai h) (wpAny_UnaryOp (a.ok X x ρ P _ _ E (an h) I G (aL w) (p.bind fun y v P1 g1 I1 r1 w p=>by
  refine bJ fun G9 k9=> ?_;obtain ⟨i,e1,k⟩:=fq (aL w);obtain ⟨z,e2,e3⟩:=am e1;obtain ⟨t,q⟩:=d5 e3 (iL I1 (mJ e2 r1));refine k9 ?_;rw[q];exact neg_int ((p.fin k).tok I1 (.int _ _) _))))
theorem FZ (a:CE) (h:dU (fun o x _=>ED true o&&a.is X.sx x) e=true) (I:aK X.C P) (G:EnvOK X P ρ) (w:Wp K (bP (a.ev X.ker ρ) (fun x=>bP (Hj x) fun b=>ret (bV !b)) P.σ)) (p:bw X (RV X.C) P K Q E):wpAny X.M X.A (eval e X.env) Q E P.s:=
 fH (fun e=>wpAny X.M X.A (eval e X.env) Q E P.s) h fun o x pos h=>wu (fun o=>wpAny X.M X.A (eval (.UnaryOp o x pos) X.env) Q E P.s) (ai h) (wpAny_UnaryOp (a.ok X x ρ P _ _ E (an h) I G (aL w) (p.bind fun y v P1 g1 I1 r1 w p=>
  not_of (uD I1 r1 (aL w) ⟨fun b c P2 g2 I2 e k=>p.ok (bV !b) _ P2 g2 I2 (by rw[show c=b from e];exact .bool _) k,p.ex⟩))))
theorem Ce (a:CT) (h:dU (fun o x _=>ED true o&&a.is X.sx x) e=true) (I:aK X.C P) (G:EnvOK X P ρ) (w:Wp KB (bP (a.ts X.ker ρ) (fun b=>ret !b) P.σ)) (p:bw X lU P KB QB E):wpAny X.M X.A (isTrue e X.env (eval e X.env)) QB E P.s:=
 fH (fun e=>wpAny X.M X.A (isTrue e X.env (eval e X.env)) QB E P.s) h fun o x pos h=>wu (fun o=>wpAny X.M X.A (isTrue (.UnaryOp o x pos) X.env (eval (.UnaryOp o x pos) X.env)) QB E P.s) (ai h)
  (isTrue_not (a.ok X x ρ P _ _ E (an h) I G (aL w) ⟨fun b c P2 g2 I2 e k=>p.ok (!b) (!c) P2 g2 I2 (congrArg _ e) k,p.ex⟩))
theorem Gk (t:CT) (a b:CE) (h:nh (fun te ae be _=>t.is X.sx te&&a.is X.sx ae&&b.is X.sx be) e=true) (I:aK X.C P) (G:EnvOK X P ρ) (w:Wp K (bP (t.ts X.ker ρ) (fun c=>if c then a.ev X.ker ρ else b.ev X.ker ρ) P.σ)) (p:bw X (RV X.C) P K Q E):We X e Q E P:=
 sq (fun e=>We X e Q E P) h fun te ae be pos h=>IfExp_ (t.ok X te ρ P _ _ E (ai (ai h)) I G (aL w) (p.bindB fun c P1 g1 I1 w p=>by
  cases c with
  |true=>exact a.ok X ae ρ P1 _ _ E (an (ai h)) I1 (G.ext g1) w p
  |false=>exact b.ok X be ρ P1 _ _ E (an h) I1 (G.ext g1) w p))
end
noncomputable def Ao (e:Expr):Bool:=e.ctorIdx==16||e.ctorIdx==19||e.ctorIdx==20||e.ctorIdx==21||e.ctorIdx==23
theorem yk (h:Ao e=true) (env:Env) (whole:Sem Value):isTrue e env whole=(do let v<-whole;standAt e.pos;holding [v] (PySem.truthy v)):=by
 cases e<;>first|rfl|(cases h;done)
noncomputable def qd (o:CO) (a b:CE):CE:=⟨fun K ρ=>bP (a.ev K ρ) fun x=>bP (b.ev K ρ) fun y=>bP (zu o.g x y) fun c=>ret (bV c),fun s=>pn fun l op r=>op==o.op&&behindInMarks op r==false&&a.is s l&&b.is s r,fun _ _ _ _ _ _ _ h I G w p=>GU o a b h I G w p⟩
noncomputable def aF (o:CO) (a b:CE):CT:=⟨fun K ρ=>bP (a.ev K ρ) fun x=>bP (b.ev K ρ) fun y=>zu o.g x y,fun s=>pn fun l op r=>op==o.op&&behindInMarks op r==false&&a.is s l&&b.is s r,fun _ _ _ _ _ _ _ h I G w p=>Cg o a b h I G w p⟩
noncomputable def vY (o q:CO) (a b c:CE):CE:=⟨fun K ρ=>bP (a.ev K ρ) fun x=>bP (b.ev K ρ) fun y=>Mm (c.ev K ρ) o.g q.g x y,fun s=>pj fun l o1 o2 r t=>o1==o.op&&o2==q.op&&lastMarks [o1,o2] [r,t]==false&&a.is s l&&b.is s r&&c.is s t,fun _ _ _ _ _ _ _ h I G w p=>D6 o q a b c h I G w p⟩
noncomputable def EF (o q:CO) (a b c:CE):CT:=⟨fun K ρ=>bP (a.ev K ρ) fun x=>bP (b.ev K ρ) fun y=>HF (c.ev K ρ) o.g q.g x y,fun s=>pj fun l o1 o2 r t=>o1==o.op&&o2==q.op&&lastMarks [o1,o2] [r,t]==false&&a.is s l&&b.is s r&&c.is s t,fun _ _ _ _ _ _ _ h I G w p=>zI o q a b c h I G w p⟩
noncomputable def neg (a:CE):CE:=⟨fun K ρ=>bP (a.ev K ρ) fun x=>bP (CU ((km x).bind iD)) fun i=>ret (.d (.int (-i))),fun s=>dU fun o x _=>ED false o&&a.is s x,fun _ _ _ _ _ _ _ h I G w p=>F6 a h I G w p⟩
noncomputable def L7 (a:CE):CE:=⟨fun K ρ=>bP (a.ev K ρ) fun x=>bP (Hj x) fun b=>ret (bV !b),fun s=>dU fun o x _=>ED true o&&a.is s x,fun _ _ _ _ _ _ _ h I G w p=>FZ a h I G w p⟩
noncomputable def dM (a:CT):CT:=⟨fun K ρ=>bP (a.ts K ρ) fun b=>ret !b,fun s=>dU fun o x _=>ED true o&&a.is s x,fun _ _ _ _ _ _ _ h I G w p=>Ce a h I G w p⟩
noncomputable def Gl (t:CT) (a b:CE):CE:=⟨fun K ρ=>bP (t.ts K ρ) fun c=>if c then a.ev K ρ else b.ev K ρ,fun s=>nh fun te ae be _=>t.is s te&&a.is s ae&&b.is s be,fun _ _ _ _ _ _ _ h I G w p=>Gk t a b h I G w p⟩
noncomputable def li (a:CE):CT:=⟨fun K ρ=>bP (a.ev K ρ) Hj,fun s e=>Ao e&&a.is s e,fun X e ρ P K Q E h I G w p=>isTrue_plain (a.ok X e ρ P _ _ E (an h) I G (aL w) (p.bind fun y v P1 g1 I1 r1 w p=>uD I1 r1 w p)) (yk (ai h) _ _)⟩
structure CA where
 ev:cQ->bb->PM PV
 is:Sx->List Expr->Bool
 ok:∀ (X:Cx) (es:List Expr) (pos:Pos) (ρ:bb) (P:Pt) (K:R PV->av->Prop) (Q E:Value->Shared->Prop),is X.sx es=true->aK X.C P->EnvOK X P ρ->Wp K (ev X.ker ρ P.σ)->bw X (RV X.C) P K Q E->wpAny X.M X.A (eval (.BoolOp .And es pos) X.env) Q E P.s
structure sE (op:BoolOp) where
 ts:cQ->bb->PM Bool
 is:Sx->List Expr->Bool
 ok:∀ (X:Cx) (es:List Expr) (pos:Pos) (whole:Sem Value) (ρ:bb) (P:Pt) (K:R Bool->av->Prop) (Q:Bool->Shared->Prop) (E:Value->Shared->Prop),is X.sx es=true->aK X.C P->EnvOK X P ρ->Wp K (ts X.ker ρ P.σ)->bw X lU P K Q E->wpAny X.M X.A (isTrue (.BoolOp op es pos) X.env whole) Q E P.s
noncomputable def j5 {α:Type} (f:α->Bool) (g:List α->Bool):List α->Bool
 |a::r=>f a&&g r
 |[]=>false
theorem dC (q:List α->Prop) {f:α->Bool} {g:List α->Bool}:∀ {l:List α},j5 f g l=true->(∀ a r,f a=true->g r=true->q (a::r))->q l
 |a::r,h,k=>k a r (ai h) (an h)
 |[],h,_=>nomatch h
noncomputable def A3 {α:Type} (f:α->Bool) (g:List α->Bool):List α->Bool
 |a::b::r=>f a&&g (b::r)
 |_=>false
theorem vo (q:List α->Prop) {f:α->Bool} {g:List α->Bool}:∀ {l:List α},A3 f g l=true->(∀ a b r,f a=true->g (b::r)=true->q (a::b::r))->q l
 |a::b::r,h,k=>k a b r (ai h) (an h)
 |[],h,_=>nomatch h
 |[_],h,_=>nomatch h
section
variable {whole:Sem Value} {KB:R Bool->av->Prop} {QB:Bool->Shared->Prop}
theorem Eo (a:CE) (l:CA) (h:A3 (a.is X.sx) (l.is X.sx) es=true) (I:aK X.C P) (G:EnvOK X P ρ) (w:Wp K (bP (a.ev X.ker ρ) (fun x=>bP (Hj x) fun b=>if b then l.ev X.ker ρ else ret x) P.σ)) (p:bw X (RV X.C) P K Q E):wpAny X.M X.A (eval (.BoolOp .And es pos) X.env) Q E P.s:=
 vo (fun es=>wpAny X.M X.A (eval (.BoolOp .And es pos) X.env) Q E P.s) h fun e e2 r h1 h2=>BoolOp_and (a.ok X e ρ P _ _ E h1 I G (aL w) (p.bind fun x v P1 g1 I1 r1 w p=>
  uD I1 r1 (aL w) (p.bindB fun c P2 g2 I2 w p=>by
   cases c with
   |true=>exact l.ok X _ pos ρ P2 _ _ E h2 I2 (G.ext (g1.trans g2)) w p
   |false=>exact p.here I2 (r1.ext g2.toExt) w)))
theorem zJ (a:CT) (l:sE .And) (h:j5 (a.is X.sx) (l.is X.sx) es=true) (I:aK X.C P) (G:EnvOK X P ρ) (w:Wp KB (bP (a.ts X.ker ρ) (fun b=>if b then l.ts X.ker ρ else ret false) P.σ)) (p:bw X lU P KB QB E):wpAny X.M X.A (isTrue (.BoolOp .And es pos) X.env whole) QB E P.s:=
 dC (fun es=>wpAny X.M X.A (isTrue (.BoolOp .And es pos) X.env whole) QB E P.s) h fun e r h1 h2=>isTrue_and (a.ok X e ρ P _ _ E h1 I G (aL w) (p.bindB fun c P1 g1 I1 w p=>by
  cases c with
  |true=>exact l.ok X _ pos whole ρ P1 _ _ E h2 I1 (G.ext g1) w p
  |false=>exact p.here I1 rfl w))
theorem Cd (a:CT) (l:sE .Or) (h:j5 (a.is X.sx) (l.is X.sx) es=true) (I:aK X.C P) (G:EnvOK X P ρ) (w:Wp KB (bP (a.ts X.ker ρ) (fun b=>if b then ret true else l.ts X.ker ρ) P.σ)) (p:bw X lU P KB QB E):wpAny X.M X.A (isTrue (.BoolOp .Or es pos) X.env whole) QB E P.s:=
 dC (fun es=>wpAny X.M X.A (isTrue (.BoolOp .Or es pos) X.env whole) QB E P.s) h fun e r h1 h2=>isTrue_or (a.ok X e ρ P _ _ E h1 I G (aL w) (p.bindB fun c P1 g1 I1 w p=>by
  cases c with
  |false=>exact l.ok X _ pos whole ρ P1 _ _ E h2 I1 (G.ext g1) w p
  |true=>exact p.here I1 rfl w))
end
noncomputable def wg (a:CE):CA:=⟨a.ev,fun s=>one (a.is s),fun X es pos ρ P K Q E h I G w p=>fB (fun es=>wpAny X.M X.A (eval (.BoolOp .And es pos) X.env) Q E P.s) h fun e h=>BoolOp_one (a.ok X e ρ P K Q E h I G w p)⟩
noncomputable def su (a:CE) (l:CA):CA:=⟨fun K ρ=>bP (a.ev K ρ) fun x=>bP (Hj x) fun b=>if b then l.ev K ρ else ret x,fun s=>A3 (a.is s) (l.is s),fun _ _ _ _ _ _ _ _ h I G w p=>Eo a l h I G w p⟩
noncomputable def wh (l:CA):CE:=⟨l.ev,fun s=>i_ fun o es _=>Js true o&&l.is s es,fun X e ρ P K Q E h I G w p=>gm (fun e=>We X e Q E P) h fun o es pos h=>xC (fun o=>wpAny X.M X.A (eval (.BoolOp o es pos) X.env) Q E P.s) (ai h) (l.ok X es pos ρ P K Q E (an h) I G w p)⟩
noncomputable def gw:sE .And:=⟨fun _ _=>ret true,fun _ es=>es.isEmpty,fun X es pos whole ρ P K Q E h I G w p=>b_ (fun es=>wpAny X.M X.A (isTrue (.BoolOp .And es pos) X.env whole) Q E P.s) h (isTrue_and_nil (p.here I rfl w))⟩
noncomputable def cC (a:CT) (l:sE .And):sE .And:=⟨fun K ρ=>bP (a.ts K ρ) fun b=>if b then l.ts K ρ else ret false,fun s=>j5 (a.is s) (l.is s),fun _ _ _ _ _ _ _ _ _ h I G w p=>zJ a l h I G w p⟩
noncomputable def cw:sE .Or:=⟨fun _ _=>ret false,fun _ es=>es.isEmpty,fun X es pos whole ρ P K Q E h I G w p=>b_ (fun es=>wpAny X.M X.A (isTrue (.BoolOp .Or es pos) X.env whole) Q E P.s) h (isTrue_or_nil (p.here I rfl w))⟩
noncomputable def aW (a:CT) (l:sE .Or):sE .Or:=⟨fun K ρ=>bP (a.ts K ρ) fun b=>if b then ret true else l.ts K ρ,fun s=>j5 (a.is s) (l.is s),fun _ _ _ _ _ _ _ _ _ h I G w p=>Cd a l h I G w p⟩
noncomputable def kr (l:sE .And):CT:=⟨l.ts,fun s=>i_ fun o es _=>Js true o&&l.is s es,fun X e ρ P K Q E h I G w p=>gm (fun e=>wpAny X.M X.A (isTrue e X.env (eval e X.env)) Q E P.s) h fun o es pos h=>xC (fun o=>wpAny X.M X.A (isTrue (.BoolOp o es pos) X.env (eval (.BoolOp o es pos) X.env)) Q E P.s) (ai h) (l.ok X es pos _ ρ P K Q E (an h) I G w p)⟩
noncomputable def fN (l:sE .Or):CT:=⟨l.ts,fun s=>i_ fun o es _=>Js false o&&l.is s es,fun X e ρ P K Q E h I G w p=>gm (fun e=>wpAny X.M X.A (isTrue e X.env (eval e X.env)) Q E P.s) h fun o es pos h=>G7 (fun o=>wpAny X.M X.A (isTrue (.BoolOp o es pos) X.env (eval (.BoolOp o es pos) X.env)) Q E P.s) (ai h) (l.ok X es pos _ ρ P K Q E (an h) I G w p)⟩
theorem aX {q:α->Prop}:∀ p∈([]:List α),q p:=fun _ h=>absurd h NV
theorem fZ (h:jo e=true):starEach (e::es) env=(false,eval e env)::starEach es env:=by
 cases e<;>first|rfl|(cases h;done)
section
variable {K:R (List PV)->av->Prop} {Q:List Value->Shared->Prop}
theorem GX (a:CE) (l:CL) (h:j5 (fun e=>jo e&&a.is X.sx e) (l.is X.sx) es=true) (I:aK X.C P) (G:EnvOK X P ρ) (w:Wp K (bP (a.ev X.ker ρ) (fun x=>bP (l.ev X.ker ρ) fun xs=>ret (x::xs)) P.σ)) (p:bw X (JD X.C) P K Q E):
  wpAny X.M X.A (spliced (backTo pos (starEach es X.env))) Q E P.s:=
 dC (fun es=>wpAny X.M X.A (spliced (backTo pos (starEach es X.env))) Q E P.s) h fun e r h1 h2=>by
  rw[fZ (ai h1)];exact Calls.spliced_cons (a.ok X e ρ P _ _ E (an h1) I G (aL w) (p.bind fun x v P1 g1 I1 r1 w p=>
   l.ok X r pos ρ P1 _ _ E h2 I1 (G.ext g1) (aL w) ⟨fun xs vs P2 g2 I2 r2 k=>p.ok (x::xs) (v::vs) P2 g2 I2 (.cons (r1.ext g2.toExt) r2) k,p.ex⟩))
theorem BB (a:CE) (l:CL) (sx:Sx) (es:List Expr) (env:Env) (pos:Pos) (h:j5 (fun e=>jo e&&a.is sx e) (l.is sx) es=true):∀ x∈backTo pos (starEach es env),x.1=false:=
 dC (fun es=>∀ x∈backTo pos (starEach es env),x.1=false) h fun e r h1 h2 x hx=>by
  rw[fZ (ai h1)] at hx;rcases NB.mp hx with q|q
  .rw[q]
  .exact l.star sx r env pos h2 x q
end
noncomputable def ao:CL:=⟨fun _ _=>ret [],fun _ es=>es.isEmpty,fun sx es env pos h=>b_ (fun es=>∀ x∈backTo pos (starEach es env),x.1=false) h aX,fun X es pos ρ P K Q E h I G w p=>b_ (fun es=>wpAny X.M X.A (spliced (backTo pos (starEach es X.env))) Q E P.s) h (Calls.spliced_nil (p.here I .nil w))⟩
noncomputable def aj (a:CE) (l:CL):CL:=⟨fun K ρ=>bP (a.ev K ρ) fun x=>bP (l.ev K ρ) fun xs=>ret (x::xs),fun s=>j5 (fun e=>jo e&&a.is s e) (l.is s),BB a l,fun _ _ _ _ _ _ _ _ h I G w p=>GX a l h I G w p⟩
section
theorem Bp:∀ {ps:List PV} {vs:List Value} {ds:List D},jR C P ps vs->qc ps=some ds->RDs C P.own ds vs:=by
 intro ps
 induction ps with
 |nil=>
  intro vs _ h e;cases e;cases h;exact .nil
 |cons p ps ih=>
  intro vs _ h e;cases h with
  |cons h r=>
  obtain ⟨x,e1,e⟩:=am e;obtain ⟨xs,e2,rfl⟩:=aN e;exact .cons (mJ e1 h) (ih r e2)
noncomputable def xP (mk:List D->PV) (ps:List PV):PM PV:=CU ((qc ps).bind fun ds=>aq (ds.length<=1000) (mk ds))
theorem re {ds:List D} (r:RDs C w ds vs) (h:ds.length<=1000):vs.toArray.size<=sizeLine:=by
 rw[NW,r.length];exact NK h (by decide)
theorem yn (I:aK C P) (r:jR C P ps vs) (w:Wp K (xP (fun ds=>.d (.tup ds)) ps P.σ)) (p:dA C A (RV C) P K Q E):wpAny C.M A (newTuple vs) Q E P.s:=by
 obtain ⟨v,e,k⟩:=fq w;obtain ⟨ds,e1,e⟩:=am e;obtain ⟨hl,e⟩:=dS e;have r:=Bp r e1;subst e;exact wpAny_newObj_type ((p.fin k).note I (I.newTup vs 0) P.s.toks (ri I (I.off (NM _)) r rfl)) (re r hl)
theorem yp (I:aK C P) (r:jR C P ps vs) (w:Wp K (xP (fun ds=>.d (.lst ds)) ps P.σ)) (p:dA C A (RV C) P K Q E):wpAny C.M A (newList vs) Q E P.s:=by
 obtain ⟨v,e,k⟩:=fq w;obtain ⟨ds,e1,e⟩:=am e;obtain ⟨hl,e⟩:=dS e;have r:=Bp r e1;subst e;exact wpAny_newObj_type ((p.fin k).note I (I.push (o:=aU vs 0) rfl) P.s.toks (nI I (I.off (NM _)) r rfl)) (re r hl)
theorem dA.make (p:dA C A (RV C) P K Q E) (I:aK C P) (n:zt C P h' a o) (r:RF C (fY P.own a (.cell P.σ.length 0)) o f) (k:K (.ok (.p P.σ.length 0)) (P.σ++[.fld f])):Q (.ref a) {P.s with heap:=h',toks:=t}:=
 p.ok (.p P.σ.length 0) _ (P.make h' t a (.fld f)) (.make n.own) (I.make rfl n ⟨_,.mk (b8 _ _ _) n.at_ r⟩) (I.rvMake rfl) k
noncomputable def L_ (ps:List PV):PM PV:=bP (CU ((qc ps).bind fun ds=>aq (ds.length<=1000) ds)) fun ds=>kN (.fld (.list ds))
theorem yo (I:aK C P) (r:jR C P ps vs) (w:Wp K (L_ ps P.σ)) (p:dA C A (RV C) P K Q E):wpAny C.M A (newList vs) Q E P.s:=by
 obtain ⟨ds,e,k⟩:=fq (aL w);obtain ⟨ds',e1,e⟩:=am e;obtain ⟨hl,e⟩:=dS e;cases e;have r:=Bp r e1;have hn:=I.push (o:=aU vs 0) rfl;exact wpAny_newObj_type (p.make (f:=.list ds) (t:=P.s.toks) I hn ⟨vs,0,rfl,r.ext (eH hn.own)⟩ k) (re r hl)
end
section
theorem Fk (l:CL) (h:ng (fun es _ _=>l.is X.sx es) e=true) (I:aK X.C P) (G:EnvOK X P ρ) (w:Wp K (bP (l.ev X.ker ρ) (xP fun ds=>.d (.tup ds)) P.σ)) (p:bw X (RV X.C) P K Q E):We X e Q E P:=
 si (fun e=>We X e Q E P) h fun es k pos h=>Tuple_ (l.ok X es pos ρ P _ _ E h I G (aL w) (p.bind fun xs vs P1 g1 I1 r1 w p=>yn I1 r1 w p))
theorem Ga (l:CL) (h:i0 (fun es _=>l.is X.sx es) e=true) (I:aK X.C P) (G:EnvOK X P ρ) (w:Wp K (bP (l.ev X.ker ρ) (xP fun ds=>.d (.lst ds)) P.σ)) (p:bw X (RV X.C) P K Q E):We X e Q E P:=
 iZ (fun e=>We X e Q E P) h fun es pos h=>List_ (l.ok X es pos ρ P _ _ E h I G (aL w) (p.bind fun xs vs P1 g1 I1 r1 w p=>yp I1 r1 w p))
theorem C4 (l:CL) (h:i0 (fun es _=>l.is X.sx es) e=true) (I:aK X.C P) (G:EnvOK X P ρ) (w:Wp K (bP (l.ev X.ker ρ) L_ P.σ)) (p:bw X (RV X.C) P K Q E):We X e Q E P:=
 iZ (fun e=>We X e Q E P) h fun es pos h=>List_ (l.ok X es pos ρ P _ _ E h I G (aL w) (p.bind fun xs vs P1 g1 I1 r1 w p=>yo I1 r1 w p))
noncomputable abbrev GR:Obj:={cls:=.type "dict",data:=.dict #[]}
theorem xu:fJ C w GR [] []:=.mk _ [] .str ⟨#[],0,⟨rfl,rfl,rfl⟩,rfl,fun _ he=>by simp at he,Pairs.nil,Ol⟩ rfl rfl aX
theorem DY (h:lS (fun ks vs _=>ks.isEmpty&&vs.isEmpty) e=true) (I:aK X.C P) (w:Wp K (ret (.d (.dct [] [])) P.σ)) (p:bw X (RV X.C) P K Q E):We X e Q E P:=
 mA (fun e=>We X e Q E P) h fun ks vs pos h=>b_ (fun ks=>wpAny X.M X.A (eval (.Dict ks vs pos) X.env) Q E P.s) (ai h) (b_ (fun vs=>wpAny X.M X.A (eval (.Dict [] vs pos) X.env) Q E P.s) (an h)
  (wpAny_Dict_empty ((p.fin w).note I (I.push (o:=GR) rfl) P.s.toks (.dct (b8 _ _ _) xu .nil))))
theorem Ax (h:lS (fun ks vs _=>ks.isEmpty&&vs.isEmpty) e=true) (I:aK X.C P) (w:Wp K (kN (.fld (.dict [] [])) P.σ)) (p:bw X (RV X.C) P K Q E):We X e Q E P:=
 mA (fun e=>We X e Q E P) h fun ks vs pos h=>b_ (fun ks=>wpAny X.M X.A (eval (.Dict ks vs pos) X.env) Q E P.s) (ai h) (b_ (fun vs=>wpAny X.M X.A (eval (.Dict [] vs pos) X.env) Q E P.s) (an h)
  (wpAny_Dict_empty (p.make (f:=.dict [] []) (t:=P.s.toks) I (I.push (o:=GR) rfl) ⟨[],xu,.nil⟩ w)))
end
noncomputable def bE (l:CL):CE:=⟨fun K ρ=>bP (l.ev K ρ) (xP fun ds=>.d (.tup ds)),fun s=>ng fun es _ _=>l.is s es,fun _ _ _ _ _ _ _ h I G w p=>Fk l h I G w p⟩
noncomputable def cF (l:CL):CE:=⟨fun K ρ=>bP (l.ev K ρ) (xP fun ds=>.d (.lst ds)),fun s=>i0 fun es _=>l.is s es,fun _ _ _ _ _ _ _ h I G w p=>Ga l h I G w p⟩
noncomputable def jZ (l:CL):CE:=⟨fun K ρ=>bP (l.ev K ρ) L_,fun s=>i0 fun es _=>l.is s es,fun _ _ _ _ _ _ _ h I G w p=>C4 l h I G w p⟩
noncomputable def E0:CE:=⟨fun _ _=>ret (.d (.dct [] [])),fun _=>lS fun ks vs _=>ks.isEmpty&&vs.isEmpty,fun _ _ _ _ _ _ _ h I _ w p=>DY h I w p⟩
noncomputable def nV:CE:=⟨fun _ _=>kN (.fld (.dict [] [])),fun _=>lS fun ks vs _=>ks.isEmpty&&vs.isEmpty,fun _ _ _ _ _ _ _ h I _ w p=>Ax h I w p⟩
noncomputable def fR:D->D->Bool
 | .int a,.int b=>decide (a=b)
 | .str a,.str b=>decide (a=b)
 |_,_=>false
noncomputable def IM:D->Bool
 | .int _=>true
 |_=>false
noncomputable def AT:D->Bool
 | .str _=>true
 |_=>false
noncomputable def oH (k:D) (ks:List D):Bool:=(IM k&&ks.all IM)||(AT k&&ks.all AT)
noncomputable def fQ (k:D):List D->List D->Option D
 |x::ks,v::vs=>if fR x k then some v else fQ k ks vs
 |_,_=>none
noncomputable def jC (k:D):List D->List D
 |[]=>[k]
 |x::ks=>if fR x k then x::ks else x::jC k ks
noncomputable def jB (k v:D):List D->List D->List D
 |x::ks,u::vs=>if fR x k then v::vs else u::jB k v ks vs
 |_,_=>[v]
inductive E3 (C:bC) (o:Obj) (k:D) (vk:Value) (ks:List D) (vs:List Value):Prop
 |mk (d:KD C) (l:List (d.K×Value)) (c:d.K):uy C d->(letI:=d.dec;o.IsDictOf d.knd l)->ks=l.map (fun p=>d.toD p.1)->vs=l.map (·.2)->(∀ p∈l,d.ok p.1)->k=d.toD c->(letI:=d.dec;d.knd.is c vk=true)->d.ok c->E3 C o k vk ks vs
section
theorem uc {K K':Type} [DecidableEq K] [DecidableEq K'] {knd:KeyKind C.prog C.w K} {knd':KeyKind C.prog C.w K'} (h:o.IsDictOf knd []):o.IsDictOf knd' []:=by
 obtain ⟨es,ep,h1,h2,_,h4,_⟩:=h;have he:es=#[]:=by
  cases q:es.toList with
  |nil=>exact Array.toList_eq_nil_iff.mp q
  |cons e r=>rw[q] at h4;cases h4
 subst he;exact ⟨#[],ep,h1,h2,fun e he=>by simp at he,by simpa using Pairs.nil,Ol⟩
theorem rC {k:D} {vk:Value} {ks:List D} (h:fJ C w o ks vs) (hk:RD C w k vk) (hf:oH k ks=true):E3 C o k vk ks vs:=by
 cases h with
 |pr xs es ep _ _ _ _ _ e _ hne=>
  cases xs with
  |nil=>exact absurd rfl hne
  |cons x xs=>
   rw[e] at hf;have hf:((IM k&&false)||(AT k&&false))=true:=hf;rw[Bool.and_false,Bool.and_false] at hf;cases hf
 |mk d l hd h1 h2 h3 h4=>
  subst h2;subst h3;rcases (Bool.or_eq_true _ _).mp hf with hf|hf
  .cases k with
   |int i=>
    obtain ⟨t,e⟩:∃ t,vk= .int i t:=hk.view;rw[e];cases hd with
    |int=>exact .mk _ l i .int h1 rfl rfl h4 rfl (intKind_is _ _ _ _) trivial
    |str=>
     cases l with
     |nil=>exact .mk _ [] i .int (uc h1) rfl rfl aX rfl (intKind_is _ _ _ _) trivial
     |cons p l=>cases ai (an hf)
   |_=>cases ai hf
  .cases k with
   |str s=>
    obtain ⟨hs,t,e⟩:kl s/\∃ t,vk= .str (cE s) t:=hk.view;rw[e];cases hd with
    |str=>exact .mk _ l (cE s) .str h1 rfl rfl h4 rfl (strKind_is _ _ _ _) hs
    |int=>
     cases l with
     |nil=>exact .mk _ [] (cE s) .str (uc h1) rfl rfl aX rfl (strKind_is _ _ _ _) hs
     |cons p l=>cases ai (an hf)
   |_=>cases ai hf
theorem gD {d:KD C} (hd:uy C d) (a b:d.K):fR (d.toD a) (d.toD b)=true<->a=b:=by
 cases hd with
 |int=>exact decide_eq_true_iff
 |str=>
  show decide _=true<->_;rw[decide_eq_true_eq];exact ⟨fun h=>by
   obtain ⟨⟨a⟩⟩:=a;obtain ⟨⟨b⟩⟩:=b
   simpa using h,fun h=>by rw[h]⟩
theorem mZ {d:KD C} (hd:uy C d) (c:d.K):∀ {l:List (d.K×Value)} {ps:List D},RDs C w ps (l.map (·.2))->match fQ (d.toD c) (l.map fun p=>d.toD p.1) ps,(letI:=d.dec;valueAt l c) with
  |some p,some v=>RD C w p v
  |none,none=>True
  |_,_=>False
 |[],ps,r=>by
  cases ps with
  |nil=>trivial
  |cons=>cases r.length
 |(a,v)::l,[],r=>by cases r.length
 |(a,v)::l,p::ps,r=>by
  obtain ⟨r1,r2⟩:fX C w p ps (v::l.map Prod.snd):=r.view
  letI:=d.dec
  show match (if fR (d.toD a) (d.toD c) then some p else fQ (d.toD c) (l.map fun p=>d.toD p.1) ps),(List.find? (fun kv=>decide (kv.1=c)) ((a,v)::l)).map (·.2) with
   |some p,some v=>RD C w p v
   |none,none=>True
   |_,_=>False
  by_cases h:a=c
  .rw[if_pos ((gD hd a c).mpr h),List.find?_cons_of_pos (by simpa using h)];exact r1
  .rw[if_neg (fun q=>h ((gD hd a c).mp q)),List.find?_cons_of_neg (by simpa using h)];exact mZ hd c r2
theorem Ak {d:KD C} (hd:uy C d) (c:d.K) {q:D} {u:Value} (hq:RD C w q u):∀ {l:List (d.K×Value)} {ps:List D},RDs C w ps (l.map (·.2))->(l.map (·.1)).Nodup->
  (letI:=d.dec;jC (d.toD c) (l.map fun p=>d.toD p.1)=(stored l c u).map (fun p=>d.toD p.1)/\RDs C w (jB (d.toD c) q (l.map fun p=>d.toD p.1) ps) ((stored l c u).map (·.2)))
 |[],ps,r,_=>by
  cases ps with
  |nil=>exact ⟨rfl,.cons hq .nil⟩
  |cons=>cases r.length
 |(a,v)::l,[],r,_=>by cases r.length
 |(a,v)::l,p::ps,r,hn=>by
  obtain ⟨r1,r2⟩:fX C w p ps (v::l.map Prod.snd):=r.view
  letI:=d.dec
  rw[List.map_cons,Oi] at hn;show (if fR (d.toD a) (d.toD c) then d.toD a::l.map fun p=>d.toD p.1 else d.toD a::jC (d.toD c) (l.map fun p=>d.toD p.1))=_/\RDs C w (if fR (d.toD a) (d.toD c) then q::ps else p::jB (d.toD c) q (l.map fun p=>d.toD p.1) ps) _;by_cases h:a=c
  .have e2:stored ((a,v)::l) c u=(a,u)::l:=by
    subst h;rw[stored,List.any_cons,NP rfl,Bool.true_or,if_pos rfl,List.map_cons,if_pos rfl];congr 1;refine (List.map_congr_left fun kv hkv=> ?_).trans (List.map_id _);have hne:¬kv.1=a:=fun e=>hn.1 (NQ.mpr ⟨kv,hkv,e⟩);rw[if_neg hne];rfl
   rw[if_pos ((gD hd a c).mpr h),if_pos ((gD hd a c).mpr h),e2];exact ⟨rfl,.cons hq r2⟩
  .have e2:stored ((a,v)::l) c u=(a,v)::stored l c u:=by
    rw[stored,stored,List.any_cons,Op h,Bool.false_or,List.map_cons,if_neg h];by_cases hr:(l.any fun kv=>decide (kv.1=c))=true
    .rw[if_pos hr,if_pos hr]
    .rw[if_neg hr,if_neg hr];rfl
   have ih:=Ak hd c hq r2 hn.2;rw[if_neg (fun q=>h ((gD hd a c).mp q)),if_neg (fun q=>h ((gD hd a c).mp q)),e2];exact ⟨congrArg _ ih.1,.cons r1 ih.2⟩
end
section
theorem fP (G:gq C) (I:aK C P) (h:P.own a≠ .no):(a==sysModules)=false:=by
 refine beq_eq_false_iff_ne.mpr fun q=> ?_;obtain ⟨o,ho⟩:=G.big;exact h (q ▸ (I.base _ _ ho).2)
end
noncomputable def fj (u v:D):Option D:=match u with
 | .tup l=>(iD v).bind fun i=>(aq (bQ i=true) ()).bind fun _=>(cV i l.length).bind fun k=>l[k]?
 | .lst l=>(iD v).bind fun i=>(aq (bQ i=true) ()).bind fun _=>(cV i l.length).bind fun k=>l[k]?
 | .str l=>(iD v).bind fun i=>(aq (bQ i=true) ()).bind fun _=>(cV i l.length).bind fun k=>(l[k]?).map fun c=>.str [c]
 | .dct ks vs=>(aq (oH v ks=true) ()).bind fun _=>fQ v ks vs
 |_=>none
section
theorem ck (h:dq e=true) (o i:Value):subscripted e false o i=operate [o,i] (PySem.getItem o i):=by
 cases e<;>first|rfl|(cases h;done)
theorem jk {i:Int} (h:cV i n=some k):seqIndex? i n=some k/\k<n:=by
 unfold cV at h;split at h
 .split at h
  .rename_i h1 h2
   cases h;exact ⟨seqIndex_of h1 h2,by exact (Int.toNat_lt h1).mpr h2⟩
  .cases h
 .split at h
  .rename_i h1 h2
   cases h;exact ⟨seqIndex_neg (by exact Int.lt_of_not_ge h1) (by exact Int.add_nonneg_iff_neg_le.mp h2),Lx h1 h2⟩
  .cases h
theorem gy {i:Int} (h:bQ i=true): -(2^63)<=i/\i<2^63:=by
 simp only [bQ,Bool.and_eq_true,decide_eq_true_eq] at h;exact ⟨N9 (by decide) (Ov h.1),Int.lt_trans h.2 (by decide)⟩
theorem rG {v:D} {f:Nat->Option α} {z:α} (h:((iD v).bind fun i=>(aq (bQ i=true) ()).bind fun _=>(cV i n).bind f)=some z) (hv:fM C P y v):∃ i t k,y= .int i t/\bQ i=true/\cV i n=some k/\f k=some z:=by
 refine bJ fun G9 k9=> ?_;obtain ⟨i,e1,h⟩:=am h;obtain ⟨_,e2,h⟩:=am h;obtain ⟨k,e3,h⟩:=am h;obtain ⟨t,q⟩:=d5 e1 hv;refine k9 ?_;exact ⟨i,t,k,q,(dS e2).1,e3,h⟩
theorem AG {l:List D} {vs:List Value} {a:Addr} {i:Int} {t:Tok} {k:Nat} {p:D} {s:Shared} (hl:s.heap.IsList a vs.toArray) (hr:RDs C P.own l vs) (hs:bQ i=true) (hk:cV i l.length=some k) (hp:l[k]? =some p)
  (hQ:∀ v,RD C P.own p v->Q v s):wpAny C.M A (PySem.getItem (.ref a) (.int i t)) Q E s:=by
 obtain ⟨v,hv,hrv⟩:=hr.get hp;have hlen:=hr.length;unfold cV at hk;split at hk
 .split at hk
  .rename_i h1 h2
   cases hk;exact wpAny_getItem_list hl h1 (gy hs).2 (by simpa using hv) (hQ v hrv)
  .cases hk
 .split at hk
  .rename_i h1 h2
   cases hk;refine wpAny_getItem_list_neg hl (by exact Int.lt_of_not_ge h1) (by simp [hlen];exact Int.add_nonneg_iff_neg_le.mp h2) (gy hs).1 (by simpa [hlen] using hv) (hQ v hrv)
  .cases hk
theorem DC (G:gq C) (I:aK C P) {value:Expr} (he:dq e=true):∀ {u v z:D} {x y:Value},fM C P x u->fM C P y v->RD C P.own v y->fj u v=some z->mO C P z Q->wpAny C.M A (subscriptTail value e x y) Q E P.s:=by
 intro Z0 v z x y hu hv hr e k;cases Z0 with
 |tup l=>
  refine bJ fun G9 k9=> ?_;obtain ⟨i,t,n,q,h1,h2,h3⟩:=rG e hv;refine k9 ?_;rw[q];refine bJ fun G9 k9=> ?_;obtain @⟨a,vs,m,h4,h5⟩:lc C P.own dh l x:=RD.view hu;obtain ⟨w,h6,h7⟩:=h5.get h3;refine k9 ?_;have ht:IsTup P.h a vs.toArray:=⟨_,I.fz _ _ h4,rfl,m,rfl⟩;exact tail_any ht.typeIs slot_tuple_getitem.lookup (PyProof.Rows.getItem_tuple ht (gy h1).1 (gy h1).2 (by simpa [h5.length] using (jk h2).1) (by simpa using h6) (k.here I h7)) (ck he _ _)
 |lst l=>
  refine bJ fun G9 k9=> ?_;obtain ⟨i,t,n,q,h1,h2,h3⟩:=rG e hv;refine k9 ?_;rw[q];refine bJ fun G9 k9=> ?_;obtain @⟨a,vs,m,h4,_,h5⟩:ja C P l x:=hu;refine k9 ?_;have hl:P.h.IsList a vs.toArray:=⟨_,h4,rfl,_,rfl⟩;exact tail_any hl.typeIs slot_list_getitem.lookup (AG hl h5 h1 h2 h3 fun w hw=>k.here I hw) (ck he _ _)
 |str l=>
  refine bJ fun G9 k9=> ?_;obtain ⟨i,t,n,q,h1,h2,h3⟩:=rG e hv;refine k9 ?_;rw[q];refine bJ fun G9 k9=> ?_;obtain ⟨hx,t',r⟩:kl l/\∃ t,x= .str (cE l) t:=RD.view hu;obtain ⟨c,h4,rfl⟩:=aN h3;refine k9 ?_;rw[r];have h63:=gy h1;refine tail_any (typeIs_str P.s _ t') F.slot_str_getitem.lookup (PySem.P.getItem_str (c:=c) (by simp;exact And.comm.mp (id (And.symm h63))) ?_ (k.tok I (.str [c] _ ⟨fun d hd=> ?_,by simp [cS]⟩) _)) (ck he _ _)
  .have:seqIndex? i (Str.length (cE l))=some n:=by simpa [Str.length] using (jk h2).1
   rw[this]
   simpa using h4
  .rw[NG.mp hd];exact hx.1 c (N5 h4)
 |dct ks ps=>
  refine bJ fun G9 k9=> ?_;obtain ⟨_,e1,e⟩:=am e;obtain @⟨a,o,vs,h1,h2,h3,h4⟩:wl C P ks ps x:=hu;obtain ⟨d,l,c,hd,h5,rfl,rfl,h6,rfl,h7,h8⟩:=rC h3 hr (dS e1).1;refine k9 ?_
  letI:=d.dec
  have hl:=mZ hd c h4;rw[e] at hl;cases q:valueAt l c with
  |none=>rw[q] at hl;exact hl.elim
  |some w=>
   rw[q] at hl;have hM:=(Heap.dictOf_iff.mpr ⟨o,h1,h5⟩).mapOf;exact tail_any hM.typeIs slot_dict_getitem.lookup (wpAny_getItem_of h7 hM q (k.tok I hl _)) (ck he _ _)
 |_=>cases e
end
noncomputable def Cj (x y:PV):PM PV:=fun σ=>(rd σ x).bind fun u=>(km y).bind fun v=>(fj u v).map fun z=>(.ok (.d z),σ)
theorem B6 {y:PV} (h:Wp K (Cj x y σ)):∃ u v z,rd σ x=some u/\km y=some v/\fj u v=some z/\K (.ok (.d z)) σ:=by
 unfold Cj at h;cases e1:rd σ x with
 |none=>rw[e1] at h;exact h.elim
 |some u=>
 cases e2:km y with
 |none=>rw[e1,e2] at h;exact h.elim
 |some v=>
 cases e3:fj u v with
 |none=>rw[e1,e2,NA,NA,e3] at h;exact h.elim
 |some z=>rw[e1,e2,NA,NA,e3] at h;exact ⟨u,v,z,rfl,rfl,e3,h⟩
section
theorem Fq (a i:CE) (h:cb (fun v j _=>dq j&&a.is X.sx v&&i.is X.sx j) e=true) (I:aK X.C P) (G:EnvOK X P ρ) (w:Wp K (bP (a.ev X.ker ρ) (fun x=>bP (i.ev X.ker ρ) fun y=>Cj x y) P.σ)) (p:bw X (RV X.C) P K Q E):We X e Q E P:=
 cP (fun e=>We X e Q E P) h fun v j pos h=>Subscript_ (a.ok X v ρ P _ _ E (an (ai h)) I G (aL w) (p.bind fun x v P1 g1 I1 r1 w p=>
  i.ok X j ρ P1 _ _ E (an h) I1 (G.ext g1) (aL w) (p.bind fun y u P2 g2 I2 r2 w p=>by
   refine bJ fun G9 k9=> ?_;obtain ⟨i,j,z,e1,e2,e3,k⟩:=B6 w;refine k9 ?_;have r2:=mJ e2 r2;exact DC X.good I2 (ai (ai h)) (bz I2 (r1.ext g2.toExt) e1) (iL I2 r2) r2 e3 (p.fin k))))
end
noncomputable def sub (a i:CE):CE:=⟨fun K ρ=>bP (a.ev K ρ) fun x=>bP (i.ev K ρ) fun y=>Cj x y,fun s=>cb fun v j _=>dq j&&a.is s v&&i.is s j,fun _ _ _ _ _ _ _ h I G w p=>Fq a i h I G w p⟩
structure CP where
 ev:cQ->bb->PM PV
 is:Sx->Option Expr->Bool
 ok:∀ (X:Cx) (e:Option Expr) (ρ:bb) (P:Pt) (K:R PV->av->Prop) (Q E:Value->Shared->Prop),is X.sx e=true->aK X.C P->EnvOK X P ρ->Wp K (ev X.ker ρ P.σ)->bw X (RV X.C) P K Q E->wpAny X.M X.A (evalPart e X.env) Q E P.s
noncomputable def nQ:CP:=⟨fun _ _=>ret (.d .none),fun _ e=>e.isNone,fun X e ρ P K Q E h I G w p=>iM (fun e=>wpAny X.M X.A (evalPart e X.env) Q E P.s) h (NO ((p.fin w).here I .none))⟩
noncomputable def gQ (a:CE):CP:=⟨a.ev,fun s=>Gj (a.is s),fun X e ρ P K Q E h I G w p=>iO (fun e=>wpAny X.M X.A (evalPart e X.env) Q E P.s) h fun e h=>a.ok X e ρ P K Q E h I G w p⟩
noncomputable def kY (d:Int):D->Option Int
 | .none=>some d
 | .int i=>aq (bQ i=true) i
 |_=>none
noncomputable def Ap (d:Nat):D->Option Nat
 | .none=>some d
 | .int i=>aq (0<=i) i.toNat
 |_=>none
noncomputable def dm (u lo hi:D):Option D:=match u with
 | .lst s=>(aq (s.length<=cS) ()).bind fun _=>(kY 0 lo).bind fun l=>(kY s.length hi).map fun h=>.lst (bf s (cZ l s.length) (cZ h s.length))
 | .str s=>(Ap 0 lo).bind fun l=>(Ap s.length hi).bind fun h=>aq (l<=h/\h<=s.length) (.str (bf s l h))
 | .tup s=>(Ap 0 lo).bind fun l=>(Ap s.length hi).bind fun h=>aq (l<=h/\h<=s.length/\h - l<s.length/\s.length<=cS) (.tup (bf s l h))
 |_=>none
section
theorem oS (j:Int) (m:Nat):clipAt m j=cZ j m:=by
 unfold clipAt cZ;by_cases h:j<0
 .rw[if_pos h,if_pos h,Int.min_eq_left (Lw h)];rcases Int.le_total 0 (j+m) with q|q
  .rw[Int.max_eq_right q]
  .rw[Int.max_eq_left q,Int.toNat_of_nonpos q];rfl
 .rw[if_neg h,if_neg h];obtain ⟨n,rfl⟩:=Int.eq_ofNat_of_zero_le (OA.mp h);rcases Nat.le_total n m with q|q
  .rw[Int.min_eq_left (Oa.mpr q),Int.max_eq_right (Oy n)];exact (Nat.min_eq_left q).symm
  .rw[Int.min_eq_right (Oa.mpr q),Int.max_eq_right (Oy m)];exact (Nat.min_eq_right q).symm
theorem oX {n i:Int}:∀ {p:D},RD C w p v->kY n p=some i->∃ o:Option Int,IsPart v o/\∀ m:Nat,(o.elim (cZ n m) (clipAt m))=cZ i m:=by
 intro Z0 r e;cases Z0 with
 |none=>
  cases e;rw[show v= .none from r.view];exact ⟨none,.none,fun m=>rfl⟩
 |int j=>
  obtain ⟨t,q⟩:∃ t,v= .int j t:=r.view;rw[q];rw[<-(dS e).2];exact ⟨some j,.int j t,fun m=>oS j m⟩
 |_=>cases e
theorem DZ (n:Nat):cZ (n:Int) n=n:=by
 unfold cZ;rw[if_neg (B1)];simp
theorem yb {x:Value} (I:aK C P) (hu:ja C P l x) (r1:RD C P.own lo vl) (r2:RD C P.own hi vu) (e:dm (.lst l) lo hi=some z) (k:mO C P z Q):
  wpAny C.M A (PySem.getItem x (.ref P.h.objs.size)) Q E {P.s with heap:=P.h.push {cls:=.type "slice",data:=.fields #[vl,vu,.none]}}:=by
 refine bJ fun G9 k9=> ?_;obtain @⟨a,vs,n,g,_,r⟩:=hu;obtain ⟨_,e1,e⟩:=am e;obtain ⟨i,e2,e⟩:=am e;obtain ⟨j,e3,rfl⟩:=aN e;obtain ⟨o1,p1,q1⟩:=oX r1 e2;obtain ⟨o2,p2,q2⟩:=oX r2 e3;refine k9 ?_;have hlen:=r.length;have hl:(P.h.push {cls:=.type "slice",data:=.fields #[vl,vu,.none]}).IsList a vs.toArray:=⟨_,NJ _ g,rfl,_,rfl⟩;have z1:o1.elim 0 (clipAt vs.length)=cZ i l.length:=by
  have h:=q1 l.length;rw[show cZ 0 l.length=0 by unfold cZ;rw[if_neg (by decide)];simp] at h;rw[hlen,h]
 have z2:o2.elim vs.length (clipAt vs.length)=cZ j l.length:=by
  have h:=q2 l.length;rw[DZ] at h;rw[hlen,h]
 have e8:slicePick vs.toArray o1 o2 none=(bf vs (cZ i l.length) (cZ j l.length)).toArray:=by
  rw[slicePick_plain];simp only [NW,z1,z2];rfl
 refine wpAny_getItem_list_slice hl (Heap.IsSliceOf.new ..) p1 p2 .none (by simp) ?_ (by rw[NW,hlen];exact NK (dS e1).1 (by decide));rw[e8];have hn:=NU (P.h.push {cls:=.type "slice",data:=.fields #[vl,vu,.none]}) (o:=aU (bf vs (cZ i l.length) (cZ j l.length)) 0) rfl;have q:=k.note I ⟨fun b o e=>NJ _ (NJ _ e),I.off (by rw[Heap.size_push];exact Oh _),I.out (by rw[Heap.size_push];exact Oh _),hn⟩ P.s.toks (nI I (I.off (by rw[Heap.size_push];exact Oh _)) ((r.drop _).take _) rfl);exact q
theorem mT:∀ {p:D},RD C w p v->Ap n p=some i->∃ o:Option (Int×Tok),v=partValue o/\o.map (·.1)=(if o.isSome then some (i:Int) else none)/\(o=none->i=n):=by
 intro Z0 r e;cases Z0 with
 |none=>
  cases e;exact ⟨none,r.view,rfl,fun _=>rfl⟩
 |int j=>
  obtain ⟨t,q⟩:∃ t,v= .int j t:=r.view;obtain ⟨h,rfl⟩:=dS e;exact ⟨some (j,t),q,by show some j=some (j.toNat:Int);rw[Od h],fun h=>(nomatch h)⟩
 |_=>cases e
theorem q_ {x:Str} {l u:Option Int} {a b:Nat} (hab:a<=b) (hb:b<=x.length) (hl:l=some (a:Int)∨(l=none/\a=0)) (hu:u=some (b:Int)∨(u=none/\b=x.length)):StrLaws.sliceText x l u=⟨((x.cps.toList.drop a).take (b - a)).toArray⟩:=by
 rw[<-StrLaws.sliceText_nat x hab hb];unfold StrLaws.sliceText;have e:Builtin.Str.strSliceIndices l u 1 x.length=Builtin.Str.strSliceIndices (some (a:Int)) (some (b:Int)) 1 x.length:=by
  rcases hl with rfl|⟨rfl,rfl⟩
  .rcases hu with rfl|⟨rfl,rfl⟩
   .rfl
   .rw[StrLaws.sliceIdx_none_hi]
  .rcases hu with rfl|⟨rfl,rfl⟩
   .rw[StrLaws.sliceIdx_none_lo];rfl
   .rw[StrLaws.sliceIdx_none_lo,StrLaws.sliceIdx_none_hi];rfl
 rw[e]
theorem ya {l:List Nat} {x:Value} (I:aK C P) (hu:kl l/\∃ t,x= .str (cE l) t) (r1:RD C P.own lo vl) (r2:RD C P.own hi vu) (e:dm (.str l) lo hi=some z) (k:mO C P z Q):
  wpAny C.M A (PySem.getItem x (.ref P.h.objs.size)) Q E {P.s with heap:=P.h.push {cls:=.type "slice",data:=.fields #[vl,vu,.none]}}:=by
 refine bJ fun G9 k9=> ?_;obtain ⟨ho,t,hx⟩:=hu;obtain ⟨i,e2,e⟩:=am e;obtain ⟨j,e3,e⟩:=am e;obtain ⟨⟨q1,q2⟩,rfl⟩:=dS e;obtain ⟨o1,f1,p1,z1⟩:=mT r1 e2;obtain ⟨o2,f2,p2,z2⟩:=mT r2 e3;refine k9 ?_;have hs:=q_ (x:=cE l) (l:=o1.map (·.1)) (u:=o2.map (·.1)) q1 q2 (by
  cases o1 with
  |none=>exact .inr ⟨rfl,z1 rfl⟩
  |some o=>exact .inl p1) (by
  cases o2 with
  |none=>exact .inr ⟨rfl,z2 rfl⟩
  |some o=>exact .inl p2)
 rw[hx];refine wpAny_getItem_str_slice (l:=o1) (u:=o2) (st:=none) ⟨_,NU _ rfl,rfl,by rw[f1,f2];rfl⟩ rfl (post_val_or_str ⟨?_,fun t' n=> ?_⟩)
 .show (StrLaws.sliceText (cE l) (o1.map (·.1)) (o2.map (·.1))).length<=sizeLine;rw[hs];show ((l.drop i).take (j - i)).toArray.size<=sizeLine;rw[NW,List.length_take,List.length_drop];exact NK (NK (Nat.min_le_right _ _) (Nat.sub_le _ _)) (NK ho.2 (by decide))
 .have q:=k.grown I (h':=P.h.push {cls:=.type "slice",data:=.fields #[vl,vu,.none]}) (v:=.str (StrLaws.sliceText (cE l) (o1.map (·.1)) (o2.map (·.1))) t') (fun b o e=>NJ _ e) (by
   rw[hs];refine .str _ t' ⟨fun c hc=>ho.1 c (List.mem_of_mem_drop (List.mem_of_mem_take hc)),?_⟩;rw[bf,List.length_take,List.length_drop];exact NK (NK (Nat.min_le_right _ _) (Nat.sub_le _ _)) ho.2) n
  exact q
theorem Mr {o1 o2:Option Int} (h1:o1=some (i:Int)∨(o1=none/\i=0)) (h2:o2=some (j:Int)∨(o2=none/\j=n)) (hij:i<=j) (hj:j<=n):Builtin.Slice.sliceAdjust o1 o2 1 (n:Int)=((i:Int),(j:Int)):=by
 have a1:¬((1:Int)<0):=by decide
 have a2:¬((i:Int)<0):=B1;have a3:¬((j:Int)<0):=B1;have a4:min (i:Int) (n:Int)=i:=by exact Int.min_eq_left (Oa.mpr (NK hij hj))
 have a5:min (j:Int) (n:Int)=j:=by exact Int.min_eq_left (Oa.mpr hj)
 rcases h1 with rfl|⟨rfl,rfl⟩<;>rcases h2 with rfl|⟨rfl,rfl⟩<;>simp only [Builtin.Slice.sliceAdjust,a1,a2,a3,a4,a5,if_false]<;>rfl
theorem Ka (h:i<=j):Builtin.Slice.slicePlaces (i:Int) (j:Int) 1=j - i:=by
 unfold Builtin.Slice.slicePlaces;rw[if_pos (by decide),Int.ediv_one,Int.sub_add_cancel];split
 .exact Int.toNat_sub j i
 .rename_i q
  exact (Nat.sub_eq_zero_of_le (Oa.mp (OA.mp q))).symm
theorem sZ {o:Option (Int×Tok)} {Q:Option Int->Shared->Prop} (h:Q (o.map (·.1)) s):wpAny C.M A (Builtin.Slice.slicePartIndex (partValue o)) Q E s:=by
 cases o with
 |none=>exact slicePart_none h
 |some p=>exact slicePart_int h
theorem BR {sl:Addr} {o1 o2:Option (Int×Tok)} {Q:Int×Int×Nat->Shared->Prop} (hs:s.heap.IsSliceOf sl (partValue o1) (partValue o2) .none) (h1:o1.map (·.1)=some (i:Int)∨(o1.map (·.1)=none/\i=0)) (h2:o2.map (·.1)=some (j:Int)∨(o2.map (·.1)=none/\j=n)) (hij:i<=j) (hj:j<=n) (h:Q ((i:Int),1,j - i) s):
  wpAny C.M A (Builtin.Slice.sliceApplied (.ref sl) (pure (n:Int))) Q E s:=by
 obtain ⟨os,hos,hcs,hds⟩:=id hs;unfold Builtin.Slice.sliceApplied Builtin.Slice.sliceFields;refine NN (NN (wpAny_field hos hds (x:=partValue o1) rfl (NN (wpAny_field hos hds (x:=partValue o2) rfl (NN (wpAny_field hos hds (x:=.none) rfl (NO ?_)))))));refine NN (slicePart_none ?_);show wpAny _ _ (if ((1:Int)==0)=true then _ else _) _ _ s;rw[if_neg (by decide)];refine NN (sZ (NN (sZ (NN (NO ?_)))));show wpAny _ _ (match Builtin.Slice.sliceAdjust (o1.map (·.1)) (o2.map (·.1)) 1 (n:Int) with|(lo,hi)=>pure (lo,(1:Int),Builtin.Slice.slicePlaces lo hi 1)) _ _ s
 rw[Mr h1 h2 hij hj];show wpAny _ _ (pure ((i:Int),(1:Int),Builtin.Slice.slicePlaces (i:Int) (j:Int) 1)) _ _ s;rw[Ka hij];exact NO h
theorem HN (xs:List Value) (i j:Nat):((List.range (j - i)).filterMap fun (k:Nat)=>xs.toArray[((i:Int)+(k:Int)*1).toNat]?).toArray=(bf xs i j).toArray:=by
 have e:(fun (k:Nat)=>xs.toArray[((i:Int)+(k:Int)*1).toNat]?)=(fun x=>xs.toArray[x]?) ∘ fun k=>i+k:=by
  funext k;have:((i:Int)+(k:Int)*1).toNat=i+k:=Lv;rw[this];rfl
 rw[e,<-List.filterMap_map,pick_run];rfl
theorem xO {t sl:Addr} {vs:List Value} {o1 o2:Option (Int×Tok)} {i j:Nat} {s:Shared} {Q:Value->Shared->Prop} (ht:IsTup s.heap t vs.toArray) (hs:s.heap.IsSliceOf sl (partValue o1) (partValue o2) .none) (h1:o1.map (·.1)=some (i:Int)∨(o1.map (·.1)=none/\i=0)) (h2:o2.map (·.1)=some (j:Int)∨(o2.map (·.1)=none/\j=vs.length)) (hij:i<=j) (hj:j<=vs.length) (hp:j - i<vs.length) (hsz:vs.length<=sizeLine)
  (h:Q (.ref s.heap.objs.size) {s with heap:=s.heap.push {cls:=.type "tuple",data:=.seq (bf vs i j).toArray}}):wpAny C.M A (PySem.getItem (.ref t) (.ref sl)) Q E s:=by
 have hok:sizeOk (.seq (bf vs i j).toArray):=by
  show (bf vs i j).toArray.size<=sizeLine;rw[NW,bf,List.length_take,List.length_drop];exact NK (Nat.min_le_right _ _) (NK (Nat.sub_le _ _) hsz)
 obtain ⟨os,hos,hcs,hds⟩:=id hs;have hT:s.TypeIs (.ref sl) "slice":=⟨os,hos,hcs⟩;unfold PySem.getItem
 try with_reducible refine wpAny_holding ?_
 first|refine NN (NO ?_)|skip
 refine NN (wpAny_sequenceKey ht.typeIs (by decide) ?_);refine NN (wpAny_callSpecial?_slot (name:=Str.ofString "__getitem__") ht.typeIs slot_tuple_getitem
  (wpAny_call_entry slot_tuple_getitem ht.typeIs entry_tuple_getitem ?_ (args_tuple_getitem _ _)))
 show wpAny _ _ (Builtin.Tuple.tupleItemsOf (.ref t)>>=_) _ _ s;refine NN (tupleItemsOf_ ht ?_);refine NN (wpAny_typeOf hT ?_);rw[if_pos (by decide)];rw[NW];refine NN (BR hs h1 h2 hij hj ?_);have hno:¬(((i:Int)==0&&(1:Int)==1&&(j - i)==vs.toArray.size)=true):=by
  have:((j - i)==vs.toArray.size)=false:=by rw[beq_eq_false_iff_ne,NW];exact Nat.ne_of_lt hp
  rw[this,Bool.and_false];exact NY
 show wpAny _ _ (if ((i:Int)==0&&(1:Int)==1&&(j - i)==vs.toArray.size)=true then _ else _) _ _ s;rw[if_neg hno,HN]
 first
  |exact NN (m:=Builtin.Tuple.tupleExact _) (wpAny_newObj_type (NO ⟨_,rfl,NO h⟩) hok)
  |exact NN (m:=Builtin.Tuple.tupleExact _) (wpAny_newObj_type (NN (NO (NO ⟨_,rfl,NO h⟩))) hok)
  |exact NN (NN (m:=Builtin.Tuple.tupleExact _) (wpAny_newObj_type (NO (NO ⟨_,rfl,NO h⟩)) hok))
  |exact NN (NN (m:=Builtin.Tuple.tupleExact _) (wpAny_newObj_type (NO ⟨_,rfl,NO h⟩) hok))
theorem x_ {x:Value} (I:aK C P) (hu:lc C P.own dh l x) (r1:RD C P.own lo vl) (r2:RD C P.own hi vu) (e:dm (.tup l) lo hi=some z) (k:mO C P z Q):
  wpAny C.M A (PySem.getItem x (.ref P.h.objs.size)) Q E {P.s with heap:=P.h.push {cls:=.type "slice",data:=.fields #[vl,vu,.none]}}:=by
 refine bJ fun G9 k9=> ?_;obtain @⟨a,vs,n,g,r⟩:=hu;obtain ⟨i,e2,e⟩:=am e;obtain ⟨j,e3,e⟩:=am e;obtain ⟨⟨q1,q2,q3,q4⟩,rfl⟩:=dS e;obtain ⟨o1,f1,p1,z1⟩:=mT r1 e2;obtain ⟨o2,f2,p2,z2⟩:=mT r2 e3;refine k9 ?_;have hlen:=r.length;have ht:IsTup (P.h.push {cls:=.type "slice",data:=.fields #[vl,vu,.none]}) a vs.toArray:=⟨_,NJ _ (I.fz _ _ g),rfl,n,rfl⟩;refine xO (o1:=o1) (o2:=o2) (i:=i) (j:=j) ht (by rw[<-f1,<-f2];exact Heap.IsSliceOf.new ..) (by
  cases o1 with
  |none=>exact .inr ⟨rfl,z1 rfl⟩
  |some o=>exact .inl p1) (by
  cases o2 with
  |none=>exact .inr ⟨rfl,by rw[hlen];exact z2 rfl⟩
  |some o=>exact .inl p2) q1 (by rw[hlen];exact q2) (by rw[hlen];exact q3) (by rw[hlen];exact NK q4 (by decide)) ?_
 have hn:=NU (P.h.push {cls:=.type "slice",data:=.fields #[vl,vu,.none]}) (o:=dh (bf vs i j) 0) rfl;exact k.note I ⟨fun b o e=>NJ _ (NJ _ e),I.off (by rw[Heap.size_push];exact Oh _),I.out (by rw[Heap.size_push];exact Oh _),hn⟩ P.s.toks (ri I (I.off (by rw[Heap.size_push];exact Oh _)) ((r.drop _).take _) rfl)
theorem zT {value:Expr} {le ue:Option Expr} {sp:Pos} (I:aK C P):∀ {u lo hi z:D} {x:Value},fM C P x u->RD C P.own lo vl->RD C P.own hi vu->dm u lo hi=some z->mO C P z Q->
  wpAny C.M A (subscriptTail value (.Slice le ue none sp) x (.ref P.h.objs.size)) Q E {P.s with heap:=P.h.push {cls:=.type "slice",data:=.fields #[vl,vu,.none]}}:=by
 intro Z0 lo hi z x hu r1 r2 e k;cases Z0 with
 |lst l=>
  have q:=yb (A:=A) (E:=E) I hu r1 r2 e k;refine bJ fun G9 k9=> ?_;obtain @⟨a,vs,n,g,_,r⟩:ja C P l x:=hu;refine k9 ?_;have hl:(P.h.push {cls:=.type "slice",data:=.fields #[vl,vu,.none]}).IsList a vs.toArray:=⟨_,NJ _ g,rfl,_,rfl⟩;exact tail_any hl.typeIs list_getitem_lookup q (ops:=[.ref P.h.objs.size,.ref a]) rfl
 |str l=>
  have q:=ya (A:=A) (E:=E) I (RD.view hu) r1 r2 e k;obtain ⟨_,t,hx⟩:kl l/\∃ t,x= .str (cE l) t:=RD.view hu;rw[hx] at q ⊢;exact tail_any (typeIs_str _ _ t) F.slot_str_getitem.lookup q (ops:=[.ref P.h.objs.size,.str (cE l) t]) rfl
 |tup l=>
  have q:=x_ (A:=A) (E:=E) I (RD.view hu) r1 r2 e k;refine bJ fun G9 k9=> ?_;obtain @⟨a,vs,n,g,r⟩:lc C P.own dh l x:=RD.view hu;refine k9 ?_;have ht:IsTup (P.h.push {cls:=.type "slice",data:=.fields #[vl,vu,.none]}) a vs.toArray:=⟨_,NJ _ (I.fz _ _ g),rfl,n,rfl⟩;exact tail_any ht.typeIs slot_tuple_getitem.lookup q (ops:=[.ref P.h.objs.size,.ref a]) rfl
 |_=>cases e
end
noncomputable def q9 (x lo hi:PV):PM PV:=fun σ=>(rd σ x).bind fun u=>(km lo).bind fun l=>(km hi).bind fun h=>(dm u l h).map fun z=>(.ok (.d z),σ)
theorem xN {lo hi:PV} (h:Wp K (q9 x lo hi σ)):∃ u l v z,rd σ x=some u/\km lo=some l/\km hi=some v/\dm u l v=some z/\K (.ok (.d z)) σ:=by
 unfold q9 at h;cases e1:rd σ x with
 |none=>rw[e1] at h;exact h.elim
 |some u=>
 cases e2:km lo with
 |none=>rw[e1,e2] at h;exact h.elim
 |some l=>
 cases e4:km hi with
 |none=>rw[e1,e2,e4] at h;exact h.elim
 |some v=>
 cases e3:dm u l v with
 |none=>rw[e1,e2,e4,NA,NA,NA,e3] at h;exact h.elim
 |some z=>rw[e1,e2,e4,NA,NA,NA,e3] at h;exact ⟨u,l,v,z,rfl,rfl,rfl,e3,h⟩
section
theorem Fv (a:CE) (lo hi:CP) (h:so (fun v l u=>a.is X.sx v&&lo.is X.sx l&&hi.is X.sx u) e=true) (I:aK X.C P) (G:EnvOK X P ρ) (w:Wp K (bP (a.ev X.ker ρ) (fun x=>bP (lo.ev X.ker ρ) fun l=>bP (hi.ev X.ker ρ) fun h=>q9 x l h) P.σ)) (p:bw X (RV X.C) P K Q E):wpAny X.M X.A (eval e X.env) Q E P.s:=
 mz (fun e=>wpAny X.M X.A (eval e X.env) Q E P.s) h fun v l u sp pos h=>Subscript_ (a.ok X v ρ P _ _ E (ai (ai h)) I G (aL w) (p.bind fun x v P1 g1 I1 r1 w p=>
  wpAny_Slice (lo.ok X l ρ P1 _ _ E (an (ai h)) I1 (G.ext g1) (aL w) (p.bind fun y1 v1 P2 g2 I2 r2 w p=>
   hi.ok X u ρ P2 _ _ E (an h) I2 ((G.ext g1).ext g2) (aL w) (p.bind fun y2 v2 P3 g3 I3 r3 w p=>by
    refine bJ fun G9 k9=> ?_;obtain ⟨u1,u2,u3,z,e1,e2,e3,e4,k⟩:=xN w;refine k9 ?_;rw[evalPart_none];exact NO (zT I3 (bz I3 ((r1.ext g2.toExt).ext g3.toExt) e1) (mJ e2 (r2.ext g3.toExt)) (mJ e3 r3) e4 (p.fin k)))))))
end
noncomputable def mQ (a:CE) (lo hi:CP):CE:=⟨fun K ρ=>bP (a.ev K ρ) fun x=>bP (lo.ev K ρ) fun l=>bP (hi.ev K ρ) fun h=>q9 x l h,fun s=>so fun v l u=>a.is s v&&lo.is s l&&hi.is s u,fun _ _ _ _ _ _ _ h I G w p=>Fv a lo hi h I G w p⟩
structure BF where
 nm:Str
 val:Value
 mem:(nm,val)∈fm
 g:Bool->List PV->PM PV
 ok:∀ {C:bC} {A:Around} {P:Pt} {hd:Bool} {K:R PV->av->Prop} {ps:List PV} {vs:List Value} {Q E:Value->Shared->Prop},gq C->(hd=false->A.handled=none)->aK C P->jR C P ps vs->Wp K (g hd ps P.σ)->dA C A (RV C) P K Q E->wpAny C.M A (call val vs) Q E P.s
theorem Jn:∀ p∈fm,(∃ id,p.2= .builtin id)∨(∃ T,p.2= .type T):=by
 have h:fm.all (fun p=>match p.2 with| .builtin _=>true| .type _=>true|_=>false)=true:=by decide+kernel
 intro p hp;have q:=List.all_eq_true.mp h p hp;cases e:p.2<;>rw[e] at q<;>first|exact .inl ⟨_,rfl⟩|exact .inr ⟨_,rfl⟩|cases q
theorem ec {l:List (Bool×Sem Value)} (h:∀ x∈l,x.1=false):l.any (·.1)=false:=by
 rw[Bool.eq_false_iff];intro q;obtain ⟨x,hx,e⟩:=List.any_eq_true.mp q;rw[h x hx] at e;cases e
theorem dw {M:Model} {f:Value} {l:List (Bool×Sem Value)} {Q:Args->Shared->Prop} (hl:∀ x∈l,x.1=false) (h:wpAny M A (spliced l) (fun vs s'=>Q ⟨vs,[]⟩ s') E s):
  wpAny M A (evalArgs f true l []) Q E s:=by
 cases l with
 |nil=>
  unfold evalArgs;show wpAny M A (spliced []>>=_) Q E s;refine NN (wpAny_mono h (fun vs s' h'=> ?_) fun _ _ x=>x);refine NN (NO ?_);refine wpAny_holding ?_;exact NN (NO (NN (NO (NO h'))))
 |cons x r=>
  obtain ⟨b,t⟩:=x;obtain rfl:b=false:=hl _ (.head _);exact Calls.evalArgs_plain h
section
theorem Jo (f:BF) (l:CL) (h:eb (fun x es=>x==f.nm&&et X.sx.sc x&&l.is X.sx es) e=true) (I:aK X.C P) (G:EnvOK X P ρ) (w:Wp K (bP (l.ev X.ker ρ) (f.g X.ker.hd) P.σ)) (p:bw X (RV X.C) P K Q E):wpAny X.M X.A (eval e X.env) Q E P.s:=
 d_ (fun e=>wpAny X.M X.A (eval e X.env) Q E P.s) h fun x px es pos h=>by
  have hw:=an (ai h);rw[bO (ai (ai h))] at hw ⊢;have hp:=l.star X.sx es X.env pos (an h);refine wpAny_Call_NameR (g7 I hw f.mem ?_);have args:wpAny X.M X.A (evalArgs f.val true (backTo pos (starEach es X.env)) []) (fun a s₁=>wpAny X.M X.A (PySem.call f.val ([]++a.pos) a.kw) Q E s₁) E P.s:=
   dw hp (l.ok X es pos ρ P _ _ E (an h) I G (aL w) (p.bind fun ps vs P1 g1 I1 r1 w p=>f.ok X.good X.hnd I1 r1 w p))
  rcases Jn _ f.mem with ⟨id,q⟩|⟨T,q⟩
  .have q:f.val=_:=q;rw[q] at args ⊢;exact Calls.callWith_builtin (ec hp) args
  .have q:f.val=_:=q;rw[q] at args ⊢;exact PyProof.Rows.callWith_type (ec hp) args
end
noncomputable def bi (f:BF) (l:CL):CE:=⟨fun K ρ=>bP (l.ev K ρ) (f.g K.hd),fun s=>eb fun x es=>x==f.nm&&et s.sc x&&l.is s es,fun _ _ _ _ _ _ _ h I G w p=>Jo f l h I G w p⟩
noncomputable def g1 (g:D->Option D):List PV->PM PV
 |[x]=>fun σ=>(rd σ x).bind fun u=>(g u).map fun z=>(.ok (.d z),σ)
 |_=>fun _=>none
noncomputable def g2 (g:D->D->Option D):List PV->PM PV
 |[x,y]=>FU g x y
 |_=>fun _=>none
section
inductive xI (C:bC) (P:Pt) (p:PV) (ps:List PV):List Value->Prop
 |mk {v:Value} {vs:List Value}:RV C P v p->jR C P ps vs->xI C P p ps (v::vs)
def Jy (C:bC) (P:Pt) (vs:List Value):List PV->Prop
 |[]=>vs=[]
 |p::ps=>xI C P p ps vs
theorem jR.view (h:jR C P ps vs):Jy C P vs ps:=by
 cases h with
 |nil=>rfl
 |cons h r=>exact .mk h r
theorem hV {g:D->Option D} (q:List Value->Prop) (I:aK C P) (r:jR C P ps vs) (w:Wp K (g1 g ps P.σ)) (k:∀ v u z,fM C P v u->g u=some z->K (.ok (.d z)) P.σ->q [v]):q vs:=by
 match ps,r,w with
 |[x],r,w=>
  obtain ⟨r1,r2⟩:xI C P x [] vs:=r.view;rw[show _=[] from r2.view];have w:Wp K ((rd P.σ x).bind fun u=>(g u).map fun z=>(.ok (.d z),P.σ)):=w;cases e1:rd P.σ x with
  |none=>rw[e1] at w;exact w.elim
  |some u=>
   cases e2:g u with
   |none=>rw[e1,NA,e2] at w;exact w.elim
   |some z=>rw[e1,NA,e2] at w;exact k _ u z (bz I r1 e1) e2 w
 |[],_,w=>exact w.elim
 |_::_::_,_,w=>exact w.elim
noncomputable def yF (u:D):Option D:=(match u with
 | .str s=>some s.length
 | .tup l=>some l.length
 | .lst l=>some l.length
 |_=>none).bind fun n=>aq (n<=cS) (.int (n:Nat))
theorem Ge (I:aK C P):∀ {u z:D} {v:Value},fM C P v u->yF u=some z->mO C P z Q->wpAny C.M A (call (.builtin "len") [v]) Q E P.s:=by
 intro Z0 z v h e k;cases Z0 with
 |str l=>
  obtain ⟨hm,rfl⟩:=dS e;obtain ⟨_,t,q⟩:kl l/\∃ t,v= .str (cE l) t:=RD.view h;rw[q];have k:=k.tok I (.int _ _) (P.s.toks+1+1) (v:=.int l.length (P.s.toks+1));simp only [cS] at hm;exact PyProof.Rows.len_str (by simp [Str.length];exact K9 hm) (by simpa [Str.length] using k)
 |tup l=>
  obtain ⟨hm,rfl⟩:=dS e;obtain @⟨a,vs,n,o,r⟩:lc C P.own dh l v:=RD.view h;have k:=k.tok I (.int _ _) (P.s.toks+1+1) (v:=.int l.length (P.s.toks+1));simp only [cS] at hm;exact PyProof.Rows.len_tuple (items:=vs.toArray) ⟨_,I.fz _ _ o,rfl,n,rfl⟩ (by simp [r.length];exact K9 hm) (by simpa [r.length] using k)
 |lst l=>
  obtain ⟨hm,rfl⟩:=dS e;obtain @⟨a,vs,n,o,_,r⟩:ja C P l v:=h;have k:=k.tok I (.int _ _) (P.s.toks+1+1) (v:=.int l.length (P.s.toks+1));simp only [cS] at hm;exact PyProof.Rows.len_list (items:=vs.toArray) ⟨_,o,rfl,_,rfl⟩ (by simp [r.length];exact K9 hm) (by simpa [r.length] using k)
 |_=>cases e
end
noncomputable def bh:BF:=⟨"len",.builtin "len",by decide+kernel,fun _=>g1 yF,fun {C A P hd K ps vs Q E} _ _ I r w p=>hV (fun vs=>wpAny C.M A (call (.builtin "len") vs) Q E P.s) I r w fun v u z h e k=>Ge I h e (p.fin k)⟩
noncomputable def J' (u:D):Option D:=(iD u).bind fun b=>aq (bQ b=true) (.rng 0 b 1)
noncomputable def oI:BF:=⟨"range",.type "range",by decide+kernel,fun _=>g1 J',fun {C A P hd K ps vs Q E} _ _ I r w p=>hV (fun vs=>wpAny C.M A (call (.type "range") vs) Q E P.s) I r w fun v u z h e k=>by
 obtain ⟨b,e1,e⟩:=am e;obtain ⟨hs,rfl⟩:=dS e;obtain ⟨t,q⟩:=d5 e1 h;rw[q];exact call_range_1 ((p.fin k).note I (I.push rfl) _ (.rng 0 b 1 _ _ _ (b8 _ _ _)))⟩
noncomputable def dN:BF:=⟨"tuple",.type "tuple",by decide+kernel,fun _=>g1 fun u=>(lD u).bind fun l=>aq (l.length<=cS) (.tup l),fun {C A P hd K ps vs Q E} _ _ I r w p=>hV (fun vs=>wpAny C.M A (call (.type "tuple") vs) Q E P.s) I r w fun v u z h e k=>by
 obtain ⟨l,e1,e⟩:=am e;obtain ⟨hm,rfl⟩:=dS e;obtain @⟨a,vs,n,o,_,rr⟩:=fD e1 h;refine call_tuple_list (items:=vs.toArray) ⟨_,o,rfl,_,rfl⟩ (fun h' kp=> ?_) (by rw[NW,rr.length];exact NK hm (by decide));have hn:h'.objs.size≥P.h.objs.size∨True:=.inr trivial;have own:P.own h'.objs.size= .no:=by
  by_cases q:P.own h'.objs.size= .no
  .exact q
  .obtain ⟨o,ho⟩:=I.live _ q;exact absurd (N8 (kp _ _ ho)) (Og _)
 have H:C.H.get? h'.objs.size=none:=by
  cases q:C.H.get? h'.objs.size with
  |none=>rfl
  |some o=>exact absurd (N8 (kp _ _ (I.base _ _ q).1)) (Og _)
 exact (p.fin k).note I ⟨fun b o e=>NJ _ (kp b o e),own,H,NU _ rfl⟩ P.s.toks (ri I own rr rfl)⟩
noncomputable def kc:List D->Option (List Bool)
 |[]=>some []
 | .bool b::r=>(kc r).map (b::·)
 |_=>none
noncomputable def off {α:Type} (hd:Bool) (m:PM α):PM α:=fun σ=>match hd with
 |true=>none
 |false=>m σ
theorem qZ {hd:Bool} {K:R α->av->Prop} {m:PM α} (w:Wp K (off hd m σ)):hd=false/\Wp K (m σ):=by
 cases hd with
 |true=>exact w.elim
 |false=>exact ⟨rfl,w⟩
theorem v7:∀ {vs:List Value} {bs:List Bool},RDs C w l vs->kc l=some bs->vs=bs.map Value.bool:=by
 induction l with
 |nil=>exact fun r e=>by cases e;exact r.view
 |cons x l ih=>
  intro vs bs r e;cases x with
  |bool b=>
   obtain ⟨r1,r2⟩:fX C w (.bool b) l vs:=r.view;obtain ⟨bs',e1,rfl⟩:=aN e;rw[show _=Value.bool b from r1.view,ih r2 e1];rfl
  |_=>cases e
theorem zn {bs:List Bool}:(List.range bs.length).all (fun i=>(bs[i]?).getD true)=bs.all id:=by
 rw[Bool.eq_iff_iff,List.all_eq_true,List.all_eq_true];constructor
 .intro h b hb;obtain ⟨i,hi⟩:=List.mem_iff_getElem?.mp hb;have:=h i (List.mem_range.mpr (ND.mp hi).1);rw[hi] at this
  simpa using this
 .intro h i hi;have hi':=List.mem_range.mp hi;rw[NE hi']
  simpa using h _ (List.getElem_mem hi')
theorem Hc {bs:List Bool} (I:aK C P) (hh:A.handled=none) (h:ja C P l v) (e2:kc l=some bs) (k:mO C P (.bool (bs.all id)) Q):wpAny C.M A (call (.builtin "all") [v]) Q E P.s:=by
 obtain @⟨a,vs,q,g,_,hs⟩:=h;have hvs:=v7 hs e2;have hl:P.h.IsList a vs.toArray:=⟨_,g,rfl,_,rfl⟩;have hane:a≠P.h.objs.size:=Nat.ne_of_lt (N8 g);refine call_all_walk (wpAny_pyIter_list hl ?_);refine ⟨_,_,_,_,_,_,fun i=>(bs[i]?).getD true,rfl,Walks.list (A:=A.in1) hh P.h.objs.size _ hane vs.toArray,⟨⟨_,NU _ rfl,rfl,rfl⟩,hl.at fun o e=>NJ _ e⟩,?_,fun h' tk kp=> ?_⟩
 .intro i v s' Q' E' hP hQ;rw[hvs] at hP;simp only [List.getElem?_toArray,NR] at hP;obtain ⟨b,hb,rfl⟩:=Ok.mp hP;dsimp only at hQ;rw[hb] at hQ;exact wpAny_truthy_bool hQ
 .have hn:vs.toArray.size=bs.length:=by simp [hvs]
  rw[hn,zn];refine k.grown I (fun b o e=>kp b o (fun hm=> ?_) (NJ _ e)) (.bool _) _;rw[NG.mp hm] at e;exact absurd (N8 e) (Og _)
noncomputable def rU:BF:=⟨"all",.builtin "all",by decide+kernel,fun hd ps=>off hd (g1 (fun u=>(lD u).bind fun l=>(kc l).map fun bs=>.bool (bs.all id)) ps),fun {C A P hd K ps vs Q E} _ hh I r w p=>hV (fun vs=>wpAny C.M A (call (.builtin "all") vs) Q E P.s) I r (qZ w).2 fun v u z h e k=>by
 obtain ⟨l,e1,e⟩:=am e;obtain ⟨bs,e2,rfl⟩:=aN e;exact Hc I (hh (qZ w).1) (fD e1 h) e2 (p.fin k)⟩
noncomputable def dL:BF:=⟨"int",.type "int",by decide+kernel,fun _=>g1 fun u=>(bD u).map fun b=>.int (if b then 1 else 0),fun {C A P hd K ps vs Q E} _ _ I r w p=>hV (fun vs=>wpAny C.M A (call (.type "int") vs) Q E P.s) I r w fun v u z h e k=>by
 obtain ⟨b,e1,rfl⟩:=aN e;rw[BP e1 h];exact call_int_bool ((p.fin k).tok I (.int _ _) _)⟩
noncomputable def aH (n:Int):List Nat:=(Str.ofString (toString n)).cps.toList
noncomputable def DK:D->Option (List Nat)
 | .str s=>some s
 | .int i=>aq (i.natAbs.log2<1920) (aH i)
 |_=>none
theorem uW {i:Int} (h:i.natAbs.log2<1920):kl (aH i):=by
 have e:(Str.ofString (toString i)).cps.toList=(toString i).toList.map Char.toNat:=by rw[Str.ofString_eq_toList]
 refine ⟨fun c hc=> ?_,?_⟩
 .unfold aH at hc;rw[e] at hc;obtain ⟨x,_,rfl⟩:=NQ.mp hc;rcases x.valid with q|q
  .exact Ou q (by decide)
  .exact q.2
 .have h1:=int_text_length_le (k:=1920) (by decide) h;have h2:(aH i).length=(toString i).length:=PySem.ofString_length _;rw[h2];exact NK h1 (by decide)
theorem A_ {l:List Nat}:∀ {x:D},RD C w x v->DK x=some l->kl l/\((∃ t,v= .str (cE l) t)∨∃ i t,v= .int i t/\i.natAbs.log2<1920/\l=aH i):=by
 intro Z0 r e;cases Z0 with
 |str s=>
  cases e;exact ⟨r.view.1,.inl r.view.2⟩
 |int i=>
  obtain ⟨t,q⟩:∃ t,v= .int i t:=r.view;obtain ⟨h,rfl⟩:=dS e;exact ⟨uW h,.inr ⟨i,t,q,h,rfl⟩⟩
 |_=>cases e
noncomputable def d1 (g:D->Option D):List PV->PM PV
 |[.d u]=>fun σ=>(g u).map fun z=>(.ok (.d z),σ)
 |_=>fun _=>none
theorem GS {g:D->Option D} (q:List Value->Prop) (r:jR C P ps vs) (w:Wp K (d1 g ps P.σ)) (k:∀ v u z,RD C P.own u v->g u=some z->K (.ok (.d z)) P.σ->q [v]):q vs:=by
 match ps,r,w with
 |[.d u],r,w=>
  obtain ⟨r1,r2⟩:xI C P (.d u) [] vs:=r.view;rw[show _=[] from r2.view];have w:Wp K ((g u).map fun z=>(.ok (.d z),P.σ)):=w;cases e:g u with
  |none=>rw[e] at w;exact w.elim
  |some z=>rw[e] at w;exact k _ u z r1 e w
 |[],_,w=>exact w.elim
 |[.p _ _],_,w=>exact w.elim
 | .d _::_::_,_,w=>exact w.elim
 | .p _ _::_::_,_,w=>exact w.elim
noncomputable def yV:BF:=⟨"str",.type "str",by decide+kernel,fun _=>d1 fun u=>(DK u).map .str,fun {C A P hd K ps vs Q E} _ _ I r w p=>GS (fun vs=>wpAny C.M A (call (.type "str") vs) Q E P.s) r w fun v u z h e k=>by
 obtain ⟨l,e1,rfl⟩:=aN e;obtain ⟨ho,⟨t,q⟩|⟨i,t,q,hi,hl⟩⟩:=A_ h e1
 .rw[q];exact PySem.P.str_of_str ((p.fin k).here I (.str l t ho))
 .rw[q];exact PySem.P.str_of_int hi ((p.fin k).tok I (jW hl.symm ho _) _)⟩
structure MF where
 nm:Str
 T:String
 id:String
 pa:PlainAttrs T
 sl:Slot T nm id
 ty:typeOf (.builtin id)=pure (.type "method_descriptor")
 fit:PV->D->Bool
 fitok:∀ {C:bC} {P:Pt} {v:Value} {p:PV} {x:D},aK C P->RV C P v p->rd P.σ p=some x->fit p x=true->P.s.TypeIs v T/\∀ a,v= .ref a->∃ ob,P.h.get? a=some ob/\ob.dict=none
 g:PV->List PV->PM PV
 ok:∀ {C:bC} {A:Around} {P:Pt} {K:R PV->av->Prop} {x:PV} {ps:List PV} {v:Value} {vs:List Value} {Q E:Value->Shared->Prop},gq C->aK C P->RV C P v x->jR C P ps vs->Wp K (g x ps P.σ)->dA C A (RV C) P K Q E->wpAny C.M A (call (.builtin id) (v::vs)) Q E P.s
theorem sd {v:Expr} {x:Str} (h:fC v=true):attributeBase v x env (eval v env)=eval v env:=by
 cases v with
 |Call f es kw pos=>
  cases f<;>first|rfl|skip
  cases es<;>first|rfl|skip
  cases kw<;>first|rfl|(cases h;done)
 |_=>rfl
theorem Bc {l:CL} {sx:Sx} (h:l.is sx es=true) (hl:es.length<29):
  ((backTo pos (starEach es env)).all (fun x=> !x.1)&&(backToKw pos (keywordEach [] env)).all (fun x=>x.1.isSome)&&decide (es.length+([]:List Keyword).length+(if ([]:List Keyword).isEmpty then 0 else 1)<30))=true:=by
 have hp:=l.star sx es env pos h;have h1:(backTo pos (starEach es env)).all (fun x=> !x.1)=true:=List.all_eq_true.mpr fun x hx=>by rw[hp x hx];rfl
 have h2:decide (es.length+([]:List Keyword).length+(if ([]:List Keyword).isEmpty then 0 else 1)<30)=true:=NP (by simp;exact Nat.lt_succ_of_lt hl);rw[h1,h2];rfl
noncomputable def DN (f:PV->D->Bool) (x:PV) (m:PM PV):PM PV:=fun σ=>match (rd σ x).any (f x) with
 |true=>m σ
 |false=>none
theorem E_ {f:PV->D->Bool} {m:PM PV} (w:Wp K (DN f x m σ)):(∃ u,rd σ x=some u/\f x u=true)/\Wp K (m σ):=by
 unfold DN at w;cases e:rd σ x with
 |none=>rw[e] at w;exact w.elim
 |some u=>
  rw[e] at w;have w:Wp K (match f x u with|true=>m σ|false=>none):=w
  cases q:f x u with
  |true=>rw[q] at w;exact ⟨⟨u,rfl,q⟩,w⟩
  |false=>rw[q] at w;exact w.elim
section
theorem Jl (f:MF) (o:CE) (l:CL) (h:k_ (fun v x ap es pos=>x==f.nm&&fC v&&ap.endLine==pos.line&&o.is X.sx v&&l.is X.sx es&&decide (es.length<29)) e=true) (I:aK X.C P) (G:EnvOK X P ρ) (w:Wp K (bP (o.ev X.ker ρ) (fun x=>DN f.fit x (bP (l.ev X.ker ρ) fun ps=>f.g x ps)) P.σ)) (p:bw X (RV X.C) P K Q E):wpAny X.M X.A (eval e X.env) Q E P.s:=
 k8 (fun e=>wpAny X.M X.A (eval e X.env) Q E P.s) h fun v x ap es pos h=>by
  rw[bO (ai (ai (ai (ai (ai h)))))];have hl:=an (ai h);have hp:=l.star X.sx es X.env pos hl;refine wpAny_Call_method_late (sd (an (ai (ai (ai (ai h)))))) (Bc hl (Of (an h))) (an (ai (ai (ai h)))) rfl ?_;refine o.ok X v ρ P _ _ E (an (ai (ai h))) I G (aL w) (p.bind fun x v P1 g1 I1 r1 w p=> ?_);obtain ⟨⟨u,e1,e2⟩,w⟩:=E_ w;obtain ⟨k4,k5⟩:=f.fitok I1 r1 e1 e2;refine ⟨f.T,f.id,f.pa,f.sl,f.ty,k4,k5,?_⟩;refine Calls.callWith_builtin (ec hp) (dw hp ?_);exact l.ok X es pos ρ P1 _ _ E hl I1 (G.ext g1) (aL w) (p.bind fun ps vs P2 g2 I2 r2 w p=>f.ok X.good I2 (r1.ext g2.toExt) r2 w p)
end
noncomputable def bm (f:MF) (o:CE) (l:CL):CE:=⟨fun K ρ=>bP (o.ev K ρ) fun x=>DN f.fit x (bP (l.ev K ρ) fun ps=>f.g x ps),fun s=>k_ fun v x ap es pos=>x==f.nm&&fC v&&ap.endLine==pos.line&&o.is s v&&l.is s es&&decide (es.length<29),fun _ _ _ _ _ _ _ h I G w p=>Jl f o l h I G w p⟩
noncomputable def Nr:D->Bool
 | .lst _=>true
 |_=>false
noncomputable def Gw:D->Bool
 | .dct _ _=>true
 |_=>false
section
noncomputable def AW:PV->D->Bool
 | .p _ _,.lst _=>true
 |_,_=>false
theorem rT {x:D} (I:aK C P) (r:RV C P v p) (h:rd P.σ p=some x) (e:AW p x=true):P.s.TypeIs v "list"/\∀ a,v= .ref a->∃ ob,P.h.get? a=some ob/\ob.dict=none:=by
 cases p with
 |d y=>cases e
 |b _ _=>cases e
 |p n j=>
  obtain ⟨f,e1,e2⟩:=Option.bind_eq_some_iff.mp h;have q:=my I r e1 (lv e2).2;cases f with
  |list l=>
   obtain ⟨_,g,ws,m,e3,_⟩:=q;subst e3;exact ⟨⟨_,g,rfl⟩,fun b q=>by cases q;exact ⟨_,g,rfl⟩⟩
  |dict a b=>cases e2;cases e
  |d y=>cases e2
theorem DM {x:D} (I:aK C P) (r:RV C P v p) (hh:rd P.σ p=some x) (e:Gw x=true):P.s.TypeIs v "dict"/\∀ a,v= .ref a->∃ ob,P.h.get? a=some ob/\ob.dict=none:=by
 cases x with
 |dct ks ps=>
  obtain ⟨g,_,h,_⟩:wl C P ks ps v:=bz I r hh;cases h with
  |mk d l _ h1 _=>
   letI:=d.dec
   have hD:=Heap.dictOf_iff.mpr ⟨_,g,h1⟩;exact ⟨hD.typeIs,hD.mapOf.noDict⟩
  |pr xs es ep h1=>
   exact ⟨⟨_,g,h1.1⟩,fun a e=>by cases e;exact ⟨_,g,h1.2.1⟩⟩
 |_=>cases e
theorem rS {x:D} (I:aK C P) (r:RV C P v p) (hh:rd P.σ p=some x) (e:AT x=true):P.s.TypeIs v "str"/\∀ a,v= .ref a->∃ ob,P.h.get? a=some ob/\ob.dict=none:=by
 cases x with
 |str l=>
  obtain ⟨_,t,q⟩:kl l/\∃ t,v= .str (cE l) t:=RD.view (bz I r hh);rw[q];exact ⟨typeIs_str _ _ _,nofun⟩
 |_=>cases e
noncomputable def ww (x:PV) (g:cB->Option cB):PM PV:=match x with
 | .p n j=>fun σ=>(cq σ n j).bind fun f=>(g f).map fun f'=>(.ok (.d .none),eT σ n j f')
 |_=>fun _=>none
theorem qY {g:cB->Option cB} (w:Wp K (ww x g σ)):∃ n j f f',x= .p n j/\cq σ n j=some f/\g f=some f'/\K (.ok (.d .none)) (eT σ n j f'):=by
 cases x with
 |d=>exact w.elim
 |b=>exact w.elim
 |p n j=>
  have w:Wp K ((cq σ n j).bind fun f=>(g f).map fun f'=>(.ok (.d .none),eT σ n j f')):=w;cases e1:cq σ n j with
  |none=>rw[e1] at w;exact w.elim
  |some f=>
   cases e2:g f with
   |none=>rw[e1,NA,e2] at w;exact w.elim
   |some f'=>rw[e1,NA,e2] at w;exact ⟨n,j,f,f',rfl,e1,e2,w⟩
theorem wK {o:PO} (h:o.at j=some f):∀ i,o.has i->(o.put j f').has i:=fun i=>by
 cases o with
 |fld=>exact id
 |rcd b l=>intro q;show i<(l.set (j - 2) f').length+2;rw[N1];exact q
 |dead=>exact id
 |wrp _=>exact id
theorem EY:∀ {f:cB},(∀ x,f≠ .d x)->jw C w h n (i+2) f v->FA C w h n i v f
 | .d x,hf,_=>absurd rfl (hf x)
 | .list _,_,r=>r
 | .dict _ _,_,r=>r
theorem jw.is (I:aK C P) (q:jw C P.own P.h n j f v) (ha:P.own a= .cell n j):v= .ref a:=by
 obtain ⟨z1,_,_⟩:=q;rw[I.one _ _ _ _ z1 ha]
theorem FF (I:aK C P) (hf':∀ x,f'≠ .d x) (hf:∀ x,f≠ .d x) (ha:P.own a= .cell n j) (hs:∀ b o,b≠a->P.h.get? b=some o->h'.get? b=some o) (ho:h'.get? a=some o') (r:RF C P.own o' f'):
  ∀ {o:PO},RO C P.own P.h n o->o.at j=some f->RO C P.own h' n (o.put j f'):=by
 have k:∀ b i o,P.own b= .cell n i->i≠j->P.h.get? b=some o->h'.get? b=some o:=fun b i o e ne q=>hs b o (fun c=>by rw[c,ha] at e;cases e;exact ne rfl) q;have fa:∀ (l:List cB) (i:Nat) (x:cB) (v:Value),j=i+2->l[i]? =some f->∀ i' y,(l.set i f')[i']? =some y->(∀ y,l[i']? =some y->FA C P.own P.h n i' v y)->(i'=i->v= .ref a)->FA C P.own h' n i' v y:=fun l i x v ej e i' y e' q1 q2=>by
  by_cases c:i=i'
  .subst c;rw[List.getElem?_set_self (ND.mp e).1] at e';cases e';rw[q2 rfl];exact EY hf' (.mk (ej ▸ ha) ho r)
  .rw[N6 c] at e';have q:=q1 y e';cases y with
   |d x=>exact q
   |list l=>
    obtain ⟨z1,z2,z3⟩:jw C P.own P.h n (i'+2) (.list l) v:=q;exact jw.mk z1 (k _ _ _ z1 (by omega) z2) z3
   |dict ks ps=>
    obtain ⟨z1,z2,z3⟩:jw C P.own P.h n (i'+2) (.dict ks ps) v:=q;exact jw.mk z1 (k _ _ _ z1 (by omega) z2) z3
 intro o ro e;rcases o with f0|⟨b,l⟩|_|f0
 .cases j with
  |zero=>exact ⟨_,.mk ha ho r⟩
  |succ j=>cases e
 .rcases j with _|_|i
  .cases e
  .cases e
  have e:l[i]? =some f:=e;cases b with
  |true=>
  obtain @⟨x,d,es,m,h1,h2,h3,h4,h5,h6,h7,h8⟩:gP C P.own P.h n l:=ro;refine gP.mk h1 (k _ _ _ h1 nofun h2) h3 (k _ _ _ h3 (Lu) h4) h5 (by rw[N1];exact h6) (by rw[N1];exact h7) fun i' y en e1 e2=> ?_;refine fa l i y en.val rfl e i' y e1 (fun y q=>h8 i' y en q e2) fun c=> ?_;subst c;exact ((h8 _ f en e e2).at hf).is I ha
  |false=>
  obtain @⟨d,o,kvs,h1,h2,h3,h4,h5,h6,h8⟩:ux C P.own P.h n l:=ro;refine ux.mk h1 (k _ _ _ h1 nofun h2) h3 (by rw[N1];exact h4) (by rw[N1];exact h5) h6 fun i' y en e1 e2=> ?_;refine fa l i y en.2 rfl e i' y e1 (fun y q=>h8 i' y en q e2) fun c=> ?_;subst c;exact ((h8 _ f en e e2).at hf).is I ha
 .cases j<;>cases e
 .rcases j with _|_|_|j
  .cases e
  .cases e
  .obtain ⟨t,vs,q,v,z1,z2,z3,z4⟩:=ro;refine ⟨t,vs,q,v,z1,k t 0 _ z1 nofun z2,z3,?_⟩;rw[z4.is I ha];exact .mk ha ho r
  .cases e
theorem yi {o:PO} (e:σ[n]? =some o):eT σ n j f=σ.set n (o.put j f):=by
 unfold eT;rw[e]
theorem kq (I:aK C P) (hf':∀ x,f'≠ .d x) (hf:∀ x,f≠ .d x) (e:cq P.σ n j=some f) (ha:P.own a= .cell n j) (hs:∀ b o,b≠a->P.h.get? b=some o->h'.get? b=some o) (ho:h'.get? a=some o') (r:RF C P.own o' f'):
  ∃ P',bX P P'/\aK C P'/\P'.σ=eT P.σ n j f'/\P'.own=P.own/\P'.s={P.s with heap:=h',toks:=t}:=by
 obtain ⟨o,e1,e2⟩:=am e;exact ⟨P.turn h' t n (o.put j f'),.turn e1 (wK e2),I.turn (wK e2) e1 ha hs ho (FF I hf' hf ha hs ho r (I.obj n o e1) e2),(yi e1).symm,rfl,rfl⟩
theorem la {s:Shared} {l:Addr} {vs:List Value} {n:Nat} {x:Value} (ho:s.heap.get? l=some (aU vs n)) (hsz:vs.length<=sizeLine)
  (hQ:∀ h' n',h'.get? l=some (aU (vs++[x]) n')->Heap.SameBut l s.heap h'->Q .none {s with heap:=h'}):wpAny C.M A (call (.builtin "list.append") [.ref l,x]) Q E s:=by
 have hl:s.heap.IsList l vs.toArray:=⟨_,ho,rfl,n,rfl⟩;refine wpAny_call_entry slot_list_append hl.typeIs entry_list_append ?_ (args_list_append _ _);show wpAny _ _ (updateSeq l (·.push x)>>=fun _=>PySem.ret .none) _ _ s;have e1:∃ n',(aU vs n).mapSeq (·.push x)=aU (vs++[x]) n':=⟨_,by simp [Obj.mapSeq];rfl⟩;obtain ⟨n',e1⟩:=e1;have g:=Heap.get?_update_self (Obj.mapSeq (·.push x)) ho (by rw[e1];rfl);rw[e1] at g;exact NN (wpAny_updateSeq (hz:=by simpa using hsz) ho rfl (NO ⟨.none,rfl,hQ _ n' (by simpa using g) (Heap.SameBut.update ..)⟩))
noncomputable def Ju (y:D):cB->Option cB
 | .list l=>aq (l.length<cS) (.list (l++[y]))
 |_=>none
noncomputable def Jt (x:PV):List PV->PM PV
 |[.d y]=>ww x (Ju y)
 |_=>fun _=>none
theorem G_ (I:aK C P) (r:RV C P v x) (rs:jR C P ps vs) (w:Wp K (Jt x ps P.σ)) (p:dA C A (RV C) P K Q E):wpAny C.M A (call (.builtin "list.append") (v::vs)) Q E P.s:=by
 have s:∃ y,ps=[.d y]:=by
  cases ps with
  |nil=>exact w.elim
  |cons y t=>
  cases y with
  |d y=>
   cases t with
   |nil=>exact ⟨y,rfl⟩
   |cons _ _=>exact w.elim
  |_=>cases t<;>exact w.elim
 obtain ⟨y,rfl⟩:=s;obtain @⟨u,_,r1,r2⟩:xI C P (.d y) [] vs:=rs.view;rw[show _=[] from r2.view];obtain ⟨n,j,f,f',e1,e2,e3,k⟩:=qY w;subst e1;cases f with
 |list l=>
  obtain ⟨hl,q⟩:=dS e3;obtain @⟨a,o,h1,h2,h3⟩:=my I r e2 (fun _ h=>by cases h);obtain ⟨ws,m,e4,rr⟩:=h3;subst q;subst e4;refine la h2 (by rw[rr.length];exact NK (Oc hl) (by decide)) fun h' n' z1 z2=> ?_;obtain ⟨P',q1,q2,q3,q4,q5⟩:=kq (t:=P.s.toks) (f':=.list (l++[y])) I (fun _ h=>by cases h) (fun _ h=>by cases h) e2 h1 (fun b o hb e=>z2.extBut b o hb e) z1 ⟨_,n',rfl,rr.append (.cons r1 .nil)⟩;have:=p.ok (.d .none) .none P' q1 q2 .none (by rw[q3];exact k);rw[q5] at this;exact this
 |_=>cases e3
end
noncomputable def bZ:MF:=⟨"append","list","list.append",F.plainAttrs_list,F.slot_list_append,F.type_list_append,AW,rT,Jt,fun _ I r rs w p=>G_ I r rs w p⟩
noncomputable def A8 (u k z:D):Option D:=match u with
 | .dct ks vs=>aq (oH k ks=true) ((fQ k ks vs).getD z)
 |_=>none
noncomputable def gG (x:PV):List PV->PM PV
 |[.d k,.d z]=>fun σ=>(rd σ x).bind fun u=>(A8 u k z).map fun r=>(.ok (.d r),σ)
 |_=>fun _=>none
section
theorem DB {k y:D} {x vk vz:Value} (G:gq C) (I:aK C P) (hu:fM C P x u) (hk:RD C P.own k vk) (hz:RD C P.own z vz) (e:A8 u k z=some y) (f:mO C P y Q):wpAny C.M A (call (.builtin "dict.get") [x,vk,vz]) Q E P.s:=by
 cases u with
 |dct ks ps=>
  obtain ⟨hf,q⟩:=dS e;subst q;obtain @⟨a,o,vs,h1,h2,h3,h4⟩:wl C P ks ps x:=hu;obtain ⟨d,l,c,hd,h5,e1,e2,h6,e3,h7,h8⟩:=rC h3 hk hf;subst e1;subst e2;subst e3
  letI:=d.dec
  have hl:=mZ hd c h4;have hD:=Heap.dictOf_iff.mpr ⟨o,h1,h5⟩;have rr:RD C P.own ((fQ (d.toD c) (l.map fun p=>d.toD p.1) ps).getD z) ((valueAt l c).getD vz):=by
   revert hl
   cases fQ (d.toD c) (l.map fun p=>d.toD p.1) ps<;>cases valueAt l c<;>intro hl<;>first|exact hz|exact hl.elim|exact hl
  exact call_meetsIn PySem.F.slot_dict_get hD.typeIs PySem.F.entry_dict_get (PySem.F.args_dict_get_3 _ _ _) (meets_dict_get_default _ a h7 (fP G I h2) vz) ⟨_,hD.mapOf,f.tok I rr _⟩
 |_=>cases e
theorem GF (G:gq C) (I:aK C P) (r:RV C P v x) (rs:jR C P ps vs) (w:Wp K (gG x ps P.σ)) (p:dA C A (RV C) P K Q E):wpAny C.M A (call (.builtin "dict.get") (v::vs)) Q E P.s:=by
 have s:∃ k z,ps=[.d k,.d z]:=by
  cases ps with
  |nil=>exact w.elim
  |cons y t=>
  cases t with
  |nil=>cases y<;>exact w.elim
  |cons z t=>
  cases y with
  |d y=>
   cases z with
   |d z=>
    cases t with
    |nil=>exact ⟨y,z,rfl⟩
    |cons _ _=>exact w.elim
   |_=>cases t<;>exact w.elim
  |_=>cases z<;>cases t<;>exact w.elim
 obtain ⟨k,z,rfl⟩:=s;obtain @⟨vk,_,r1,r2⟩:xI C P (.d k) [.d z] vs:=rs.view;obtain @⟨vz,_,r3,r4⟩:xI C P (.d z) [] _:=r2.view;rw[show _=[] from r4.view];have w:Wp K ((rd P.σ x).bind fun u=>(A8 u k z).map fun r=>(.ok (.d r),P.σ)):=w;cases e1:rd P.σ x with
 |none=>rw[e1] at w;exact w.elim
 |some u=>
  cases e2:A8 u k z with
  |none=>rw[e1,NA,e2] at w;exact w.elim
  |some y=>rw[e1,NA,e2] at w;exact DB G I (bz I r e1) r1 r3 e2 (p.fin w)
end
noncomputable def yv:MF:=⟨"get","dict","dict.get",F.plainAttrs_dict,F.slot_dict_get,F.type_dict_get,fun _=>Gw,DM,gG,fun G I r rs w p=>GF G I r rs w p⟩
noncomputable def MS (u v:D):Option Bool:=match v with
 | .dct ks vs=>aq (oH u ks=true) (fQ u ks vs).isSome
 |_=>none
section
theorem aK.szF (I:aK C P) (h:P.fs≠[]):C.H.objs.size<=P.h.objs.size:=by
 cases q:P.fs with
 |nil=>exact absurd q h
 |cons f r=>
  have z:=I.fr.ns f (by rw[q];exact .head _);exact Oc (NZ z.2.2 z.1.lt)
theorem qH {f:Nat} (I:aK X.C P) (G:EnvOK X P ρ) (r:jR X.C P ps vs) (w:Wp K (X.ker.Φ X.ker.hd f ps P.σ)) (p:bw X (RV X.C) P K Q E):wpAny X.M X.A (call (.ref (X.C.fadr f)) vs) Q E P.s:=
 wpAny_call (X.calls X.hd X.A P f ps vs K Q E G.frs (I.szF G.ne) (by have:=X.dep;exact NZ (Oe (by decide) _) this) (by have:=X.uni;exact NZ (Oe (by decide) _) this) X.hnd I r w p)
theorem D9 (f:Nat) (l:CL) (h:eb (fun x es=>x==(X.sx.fnm f).1&& !(X.sx.fnm f).2&&et X.sx.sc x&&l.is X.sx es) e=true) (I:aK X.C P) (G:EnvOK X P ρ) (w:Wp K (bP (l.ev X.ker ρ) (X.ker.Φ X.ker.hd f) P.σ)) (p:bw X (RV X.C) P K Q E):wpAny X.M X.A (eval e X.env) Q E P.s:=
 d_ (fun e=>wpAny X.M X.A (eval e X.env) Q E P.s) h fun x px es pos h=>by
  have hw:=an (ai h);rw[bO (ai (ai (ai h)))] at hw ⊢;obtain ⟨hn,o,fd,ho,hdata⟩:=X.good.fn f ((Bool.not_eq_true' _).mp (an (ai (ai h))));refine wpAny_Call_NameR (dR I hw hn ?_);refine Calls.callWith_function (o:=o) (fd:=fd) (dw (l.star X.sx es X.env pos (an h)) ?_);exact l.ok X es pos ρ P _ _ E (an h) I G (aL w) (p.bind fun ps vs P1 g1 I1 r1 w p=>⟨⟨(I1.base _ _ ho).1,hdata⟩,qH I1 (G.ext g1) r1 w p⟩)
end
noncomputable def au (f:Nat) (l:CL):CE:=⟨fun K ρ=>bP (l.ev K ρ) (K.Φ K.hd f),fun s=>eb fun x es=>x==(s.fnm f).1&& !(s.fnm f).2&&et s.sc x&&l.is s es,fun _ _ _ _ _ _ _ h I G w p=>D9 f l h I G w p⟩
noncomputable def ci (b:Bool) (σ:av) (n:Nat):Option (List cB):=match σ[n]? with
 |some (.rcd c l)=>if c=b then some l else none
 |_=>none
theorem jh {l:List cB} (h:ci b σ n=some l):σ[n]? =some (.rcd b l):=by
 unfold ci at h;split at h
 .rename_i c l' e
  split at h
  .rename_i q;cases h;cases q;exact e
  .cases h
 .cases h
noncomputable def Ba (n k:Nat):cB->PV
 | .d x=>.d x
 |_=>.p n (k+2)
noncomputable def qL (b:Bool) (k:Nat):PV->PM PV
 | .p n 0=>fun σ=>(ci b σ n).bind fun l=>(l[k]?).map fun f=>(.ok (Ba n k f),σ)
 |_=>fun _=>none
theorem wp (w:Wp K (qL b k x σ)):∃ n l f,x= .p n 0/\σ[n]? =some (.rcd b l)/\l[k]? =some f/\K (.ok (Ba n k f)) σ:=by
 match x,w with
 | .p n 0,w=>
  have w:Wp K ((ci b σ n).bind fun l=>(l[k]?).map fun f=>(.ok (Ba n k f),σ)):=w;cases e1:ci b σ n with
  |none=>rw[e1] at w;exact w.elim
  |some l=>
   cases e2:l[k]? with
   |none=>rw[e1,NA,e2] at w;exact w.elim
   |some f=>rw[e1,NA,e2] at w;exact ⟨n,l,f,rfl,jh e1,e2,w⟩
 | .p _ (_+1),w=>exact w.elim
 | .d _,w=>exact w.elim
section
theorem Aa (I:aK C P) {l:List cB} (e:P.σ[n]? =some (.rcd b l)):∀ {f:cB},l[k]? =some f->FA C P.own P.h n k v f->RV C P v (Ba n k f)
 | .d _,_,r=>r
 | .list m,h,r=>⟨⟨_,e,Nat.add_lt_add_right (ND.mp h).1 2⟩,fun _ q=>jw.is I (f:=.list m) r q⟩
 | .dict x y,h,r=>⟨⟨_,e,Nat.add_lt_add_right (ND.mp h).1 2⟩,fun _ q=>jw.is I (f:=.dict x y) r q⟩
theorem se (x y:Str) (t:Tok):(Value.str x t).isStr y=decide (x=y):=by
 show (x==y)=_;rw[Bool.eq_iff_iff,beq_iff_eq,decide_eq_true_eq]
theorem BQ (inj:∀ i,i<7->∀ k,k<7->C.att i=C.att k->i=k):∀ {es:List DictEntry} {off k:Nat} {e:DictEntry},(∀ (i:Nat) (e:DictEntry),es[i]? =some e->∃ t,e.key=Value.str (C.att (off+i)) t)->off+es.length<=7->es[k]? =some e->es.find? (·.key.isStr (C.att (off+k)))=some e:=by
 intro es
 induction es with
 |nil=>
  intro _ _ _ _ _ h;cases h
 |cons a es ih=>
  intro off k e h hl hk;obtain ⟨t,ht⟩:=h 0 a rfl;simp only [NI] at hl;cases k with
  |zero=>
   cases hk;rw[List.find?_cons,ht,se,NP (by rfl)]
  |succ k=>
   have hk':es[k]? =some e:=hk;have hlt:=(ND.mp hk').1;rw[List.find?_cons,ht,se,Op (fun q=>by have:=inj _ (by exact Nat.lt_of_add_right_lt hl) _ (Lr hl hlt) q;omega)];have:=ih (off:=off+1) (k:=k) (e:=e) (fun i e he=>by have:=h (i+1) e he;rw[show off+(i+1)=off+1+i by exact Ly] at this;exact this) (by exact Lq hl) hk';rw[show off+1+k=off+(k+1) by exact Iq] at this;exact this
theorem ur:∀ {es:List DictEntry} {off:Nat} {x:Str},(∀ (i:Nat) (e:DictEntry),es[i]? =some e->∃ t,e.key=Value.str (C.att (off+i)) t)->(∀ i,off<=i->i<off+es.length->C.att i≠x)->es.find? (·.key.isStr x)=none/\es.any (·.refKey)=false:=by
 intro es
 induction es with
 |nil=>
  intro _ _ _ _;exact ⟨rfl,rfl⟩
 |cons a es ih=>
  intro off x h hn;obtain ⟨t,ht⟩:=h 0 a rfl;have ih:=ih (off:=off+1) (x:=x) (fun i e he=>by have:=h (i+1) e he;rw[show off+(i+1)=off+1+i by exact Ly] at this;exact this) (fun i h1 h2=>hn i (by exact Nat.le_of_succ_le h1) (by simp only [NI];exact MI h2));refine ⟨?_,?_⟩
  .rw[List.find?_cons,ht,se,Op (hn (off+0) (NM _) (by simp only [NI];exact Lp))];exact ih.1
  .rw[List.any_cons,ih.2,Bool.or_false];unfold DictEntry.refKey;rw[ht]
theorem wc {es:List DictEntry} (h:ph C es) (i:Nat) (e:DictEntry) (he:es[i]? =some e):∃ t,e.key=Value.str (C.att (0+i)) t:=by rw[Oq];exact (h i e he).1
theorem yM:∀ {x:D} {v:Value} {w:bI},RD C w x v->PySem.W.handedIn v=true
 |_,_,_,r=>by cases r<;>rfl
theorem yO:∀ {f:cB},FA C w h n i v f->PySem.W.handedIn v=true
 | .d _,r=>yM r
 | .list l,r=>by
  obtain ⟨_,_,_⟩:jw C w h n (i+2) (.list l) v:=r;rfl
 | .dict ks ps,r=>by
  obtain ⟨_,_,_⟩:jw C w h n (i+2) (.dict ks ps) v:=r;rfl
theorem vt {l:List cB} {vx:Value} {expr:Bool} (G:gq C) (hk:k<7) (I:aK C P) (hx:RV C P vx (.p n 0)) (e1:P.σ[n]? =some (.rcd true l)) (e2:l[k]? =some f) (kk:∀ v t,FA C P.own P.h n k v f->Q v {P.s with toks:=t}):
  wpAny C.M A (PySem.getAttr vx (C.att k) expr) Q E P.s:=by
 obtain @⟨x,d,es,m,h1,h2,h3,h4,h5,h6,h7,h8⟩:gP C P.own P.h n l:=I.obj n _ e1;rw[hx.2 x h1];have W:=G.cls;obtain ⟨cd,c1,c2⟩:=W.cd;have hlt:k<es.length:=by rw[h6];exact (ND.mp e2).1
 have hen:es[k]? =some es[k]:=NE hlt;have fa:=h8 k f _ e2 hen;have X:PySem.W.Frag.In C.K P.h:=W.X.keeps fun b o e=>(I.base b o e).1;have hfind:es.find? (·.key.isStr (C.att k))=some es[k]:=by
  have:=BQ W.inj (off:=0) (k:=k) (wc h5) (Lo h6 h7) hen
  rwa [Oq] at this
 have hlook:PySem.W.lookIn (C.att k) (dO es m)=some (some es[k].val):=by
  unfold PySem.W.lookIn;show (match es.find? (·.key.isStr (C.att k)) with|some e=>some (some e.val)|none=>_)=_
  rw[hfind]
 refine PySem.W.get_value X (show PySem.W.InstAt P.h x (lE C.book d) C.book (some (dO es m)) from ⟨h2,rfl,rfl,h4⟩) W.ga ?_ (yO fa) (kk _ _ fa);unfold PySem.W.findObj;rw[c1,W.no k hk];show (PySem.W.ownOf cd (some (dO es m)) (C.att k)).bind _=_;unfold PySem.W.ownOf;rw[c2,if_pos rfl];show (PySem.W.lookIn (C.att k) (dO es m)).bind _=_;rw[hlook];rfl
end
section
theorem Eh (a:CE) (k:Nat) (h:dz (fun v x _=>x==X.sx.att k&&decide (k<7)&&fC v&&a.is X.sx v) e=true) (I:aK X.C P) (G:EnvOK X P ρ) (w:Wp K (bP (a.ev X.ker ρ) (qL true k) P.σ)) (p:bw X (RV X.C) P K Q E):wpAny X.M X.A (eval e X.env) Q E P.s:=
 eQ (fun e=>wpAny X.M X.A (eval e X.env) Q E P.s) h fun v x pos h=>by
  rw[bO (ai (ai (ai h))),arm_eval_Attribute,sd (an (ai h))];refine NN (a.ok X v ρ P _ _ E (an h) I G (aL w) (p.bind fun x vx P1 g1 I1 r1 w p=> ?_));obtain ⟨n,l,f,q,e1,e2,kk⟩:=wp w;subst q;refine NN (wpAny_standAt (NN (wpAny_holding (vt X.good (Of (an (ai (ai h)))) I1 r1 e1 e2 fun v t fa=> ?_))));refine NN (wpAny_letTemporaryGo (NO ?_));exact p.ok _ v (P1.to P1.h t) (.to ..) (I1.to fun _ _ e=>e) (Aa I1 e1 e2 fa) kk
noncomputable def Hr:PV->PM Unit
 | .p n 0=>fun σ=>(ci true σ n).map fun _=>(.ok (),σ)
 |_=>fun _=>none
theorem E8 {K:R Unit->av->Prop} (w:Wp K (Hr x σ)):∃ n l,x= .p n 0/\σ[n]? =some (.rcd true l)/\K (.ok ()) σ:=by
 match x,w with
 | .p n 0,w=>
  have w:Wp K ((ci true σ n).map fun _=>(.ok (),σ)):=w;cases e1:ci true σ n with
  |none=>rw[e1] at w;exact w.elim
  |some l=>rw[e1] at w;exact ⟨n,l,rfl,jh e1,w⟩
 | .p _ (_+1),w=>exact w.elim
 | .d _,w=>exact w.elim
theorem C6 (o:CE) (m:Nat) (l:CL) (h:k_ (fun v x ap es pos=>x==(X.sx.fnm m).1&&(X.sx.fnm m).2&&fC v&&ap.endLine==pos.line&&o.is X.sx v&&l.is X.sx es&&decide (es.length<29)) e=true) (I:aK X.C P) (G:EnvOK X P ρ)
  (w:Wp K (bP (o.ev X.ker ρ) (fun x=>bP (Hr x) fun _=>bP (l.ev X.ker ρ) fun ps=>X.ker.Φ X.ker.hd m (x::ps)) P.σ)) (p:bw X (RV X.C) P K Q E):wpAny X.M X.A (eval e X.env) Q E P.s:=
 k8 (fun e=>wpAny X.M X.A (eval e X.env) Q E P.s) h fun v x ap es pos h=>by
  have W:=X.good.cls;obtain ⟨w1,w2,w3,of,fd,w4,w5⟩:=W.meth m (an (ai (ai (ai (ai (ai h))))));have hl:=an (ai h);rw[bO (ai (ai (ai (ai (ai (ai h)))))),arm_eval_Call,sd (an (ai (ai (ai (ai h)))))];refine NN (o.ok X v ρ P _ _ E (an (ai (ai h))) I G (aL w) (p.bind fun x vx P1 g1 I1 r1 w p=> ?_));refine NN (wpAny_standAt ?_);have hform:methodCallForm (es.length+([]:List Keyword).length) (backTo pos (starEach es X.env)) (backToKw pos (keywordEach [] X.env))=true:=Bc hl (Of (an h));have hpos:methodCallPos true v X.env ap pos=pure pos:=by
   unfold methodCallPos;have:(ap.endLine==pos.line)=true:=an (ai (ai (ai h)));simp [this]
  obtain ⟨n,fl,q,e1,w⟩:=E8 (aL w);subst q;obtain @⟨a,d,en,k,i1,i2,i3,i4,i5,i6,i7,_⟩:gP X.C P1.own P1.h n fl:=I1.obj n _ e1;rw[r1.2 a i1];unfold methodCall;rw[hform];have XX:PySem.W.Frag.In X.C.K P1.h:=W.X.keeps fun b o e=>(I1.base b o e).1;have hnone:=ur (C:=X.C) (es:=en) (off:=0) (x:=(X.C.fnm m).1) (wc i5) (fun i _ h=>w3 i (Ln i6 i7 h));refine NN (wpAny_holding (PySem.W.method_fn XX (show PySem.W.InstAt P1.h a (lE X.C.book d) X.C.book (some (dO en k)) from ⟨i2,rfl,rfl,i4⟩) W.ga W.gattr w1 w2 ?_ ?_))
  .unfold PySem.W.shadowIn PySem.W.lookIn;show Option.map _ (match en.find? (·.key.isStr (X.C.fnm m).1) with|some e=>some (some e.val)|none=>if en.any (·.refKey) then none else some none)=_
   rw[hnone.1,hnone.2];rfl
  .refine NN (wpAny_of_eq hpos ?_);refine Calls.callWith_function (o:=of) (fd:=fd) (dw (l.star X.sx es X.env pos hl) ?_);have rr:RV X.C P1 (.ref a) (.p n 0):=⟨r1.1,fun b q=>by rw[I1.one b a n 0 q i1]⟩;exact l.ok X es pos ρ P1 _ _ E hl I1 (G.ext g1) (aL w) (p.bind fun ps vs P2 g2 I2 r2 w p=>⟨⟨(I2.base _ _ w4).1,w5⟩,qH I2 ((G.ext g1).ext g2) (.cons (rr.ext g2.toExt) r2) w p⟩)
end
noncomputable def cA (a:CE) (k:Nat):CE:=⟨fun K ρ=>bP (a.ev K ρ) (qL true k),fun s=>dz fun v x _=>x==s.att k&&decide (k<7)&&fC v&&a.is s v,fun _ _ _ _ _ _ _ h I G w p=>Eh a k h I G w p⟩
noncomputable def meth (o:CE) (m:Nat) (l:CL):CE:=⟨fun K ρ=>bP (o.ev K ρ) fun x=>bP (Hr x) fun _=>bP (l.ev K ρ) fun ps=>K.Φ K.hd m (x::ps),fun s=>k_ fun v x ap es pos=>x==(s.fnm m).1&&(s.fnm m).2&&fC v&&ap.endLine==pos.line&&o.is s v&&l.is s es&&decide (es.length<29),fun _ _ _ _ _ _ _ h I G w p=>C6 o m l h I G w p⟩
section
noncomputable def Pt.make2 (P:Pt) (h:Heap) (a b:Addr):Pt:={P with s:={P.s with heap:=h},own:=fY (fY P.own b (.cell P.σ.length 1)) a (.cell P.σ.length 0),σ:=P.σ++[.rcd true []]}
theorem Az (I:aK C P) {x d:Addr} (k:∀ b o,P.h.get? b=some o->h'.get? b=some o) (hx:P.own x= .no) (hd:P.own d= .no) (Hx:C.H.get? x=none) (Hd:C.H.get? d=none) (ne:x≠d) (ox:h'.get? x=some (lE C.book d)) (od:h'.get? d=some (dO [] 0)):
  aK C (P.make2 h' x d)/\bX P (P.make2 h' x d)/\RV C (P.make2 h' x d) (.ref x) (.p P.σ.length 0):=by
 have na:∀ b,P.own b≠ .no->b≠x/\b≠d:=fun b q=>⟨fun e=>q (e ▸ hx),fun e=>q (e ▸ hd)⟩;have w1:(P.make2 h' x d).own x= .cell P.σ.length 0:=b8 _ _ _;have w2:(P.make2 h' x d).own d= .cell P.σ.length 1:=(bG (Ne.symm ne)).trans (b8 _ _ _);have w3:∀ b,b≠x->b≠d->(P.make2 h' x d).own b=P.own b:=fun b p q=>(bG p).trans (bG q);have cs:∀ b,(b=x/\(P.make2 h' x d).own b= .cell P.σ.length 0)∨(b=d/\(P.make2 h' x d).own b= .cell P.σ.length 1)∨(b≠x/\b≠d/\(P.make2 h' x d).own b=P.own b):=fun b=>by
  by_cases p:b=x
  .exact .inl ⟨p,p ▸ w1⟩
  .by_cases q:b=d
   .exact .inr (.inl ⟨q,q ▸ w2⟩)
   .exact .inr (.inr ⟨p,q,w3 b p q⟩)
 have kk:∀ b o y,P.own b=y->y≠ .no->P.h.get? b=some o->(P.make2 h' x d).own b=y/\h'.get? b=some o:=fun b o y e q r=>⟨(w3 b (na b (e ▸ q)).1 (na b (e ▸ q)).2).trans e,k b o r⟩;have fz:Fz P.own (P.make2 h' x d).own:=fun b o e=>(w3 b (na b (by rw[e];nofun)).1 (na b (by rw[e];nofun)).2).trans e;have lt:∀ b n j,P.own b= .cell n j->n≠P.σ.length:=fun b n j e=>Nat.ne_of_lt (I.bd b n j e).lt;refine ⟨⟨fun b o e=> ?_,fun b o e=> ?_,fun b e=> ?_,I.fr.mv (fun b o e q=>kk b o _ e nofun q) (fun b e=>nn (x:=.cell P.σ.length 1) (a:=d) c4.noConfusion (nn (x:=.cell P.σ.length 0) (a:=x) c4.noConfusion e)),I.gh.mv fz fun b o e q=>kk b o _ e nofun q,fun b c n j e f=> ?_,fun b n j e=> ?_,fun n o e=> ?_⟩,⟨⟨⟨h',_,rfl⟩,rfl,fz,fun _ _ v=>jb v,fun n j b v q=> ?_⟩,rfl⟩,z_ (by show 0<0+2;decide) fun b e=> ?_⟩
 .obtain ⟨e1,e2⟩:=I.base b o e;have p:b≠x:=fun q=>by rw[q,Hx] at e;cases e
  have q:b≠d:=fun q=>by rw[q,Hd] at e;cases e
  exact ⟨k b o e1,(w3 b p q).trans e2⟩
 .rcases cs b with ⟨_,q⟩|⟨_,q⟩|⟨_,_,q⟩
  .cases q.symm.trans e
  .cases q.symm.trans e
  .exact k b o (I.fz b o (q.symm.trans e))
 .rcases cs b with ⟨p,q⟩|⟨p,q⟩|⟨_,_,q⟩
  .exact ⟨_,p ▸ ox⟩
  .exact ⟨_,p ▸ od⟩
  .obtain ⟨o,ho⟩:=I.live b (q ▸ e);exact ⟨o,k b o ho⟩
 .rcases cs b with ⟨p,q⟩|⟨p,q⟩|⟨_,_,q⟩<;>rcases cs c with ⟨p',q'⟩|⟨p',q'⟩|⟨_,_,q'⟩
  .rw[p,p']
  .have z:=(q.symm.trans e).trans (q'.symm.trans f).symm;cases z
  .cases q.symm.trans e;exact absurd rfl (lt c _ _ (q'.symm.trans f))
  .have z:=(q.symm.trans e).trans (q'.symm.trans f).symm;cases z
  .rw[p,p']
  .cases q.symm.trans e;exact absurd rfl (lt c _ _ (q'.symm.trans f))
  .cases q'.symm.trans f;exact absurd rfl (lt b _ _ (q.symm.trans e))
  .cases q'.symm.trans f;exact absurd rfl (lt b _ _ (q.symm.trans e))
  .exact I.one b c n j (q.symm.trans e) (q'.symm.trans f)
 .rcases cs b with ⟨p,q⟩|⟨p,q⟩|⟨_,_,q⟩
  .cases q.symm.trans e;exact ⟨_,eR,by show 0<0+2;decide⟩
  .cases q.symm.trans e;exact ⟨_,eR,by show 1<0+2;decide⟩
  .exact jb (I.bd b n j (q.symm.trans e))
 .by_cases z:n=P.σ.length
  .rw[(dK e).2 z,z];exact gP.mk w1 ox w2 od (fun i e h=>by cases h) rfl (N3 _) (fun i f e h=>by cases h)
  .exact (I.obj n o ((dK e).1 z)).mv fz fun b j o e q=>kk b o _ e nofun q
 .rcases cs b with ⟨p,z⟩|⟨p,z⟩|⟨_,_,z⟩
  .cases z.symm.trans q;exact absurd v.lt (Og _)
  .cases z.symm.trans q;exact absurd v.lt (Og _)
  .exact z.symm.trans q
 .rcases cs b with ⟨p,z⟩|⟨p,z⟩|⟨_,_,z⟩
  .exact p
  .cases z.symm.trans e
  .exact absurd rfl (lt b _ _ (z.symm.trans e))
end
noncomputable def Iz:PM PV:=kN (.rcd true [])
noncomputable def Iy (Φ:List PV->PM PV) (ps:List PV):PM PV:=bP Iz fun o=>bP (Φ (o::ps)) fun v=>bP (CU ((km v).bind fun x=>match x with| .none=>some ()|_=>none)) fun _=>ret o
section
theorem F3 (l:CL) (h:eb (fun x es=>x==("Book":Str)&&et X.sx.sc x&&l.is X.sx es) e=true) (I:aK X.C P) (G:EnvOK X P ρ) (w:Wp K (bP (l.ev X.ker ρ) (Iy (X.ker.Φ X.ker.hd 0)) P.σ)) (p:bw X (RV X.C) P K Q E):wpAny X.M X.A (eval e X.env) Q E P.s:=
 d_ (fun e=>wpAny X.M X.A (eval e X.env) Q E P.s) h fun x px es pos h=>by
  have hw:=an (ai h);rw[bO (ai (ai h))] at hw ⊢;have W:=X.good.cls;refine wpAny_Call_NameR (dR I hw W.name ?_);have hp:=l.star X.sx es X.env pos (an h);have hst:((backTo pos (starEach es X.env)).any (·.1)||([]:List (Option Str×Sem Value)).any fun x=>x.1.isNone)=false:=by rw[ec hp];rfl
  unfold callWith;refine NN (wpAny_holding (dw hp ?_));refine l.ok X es pos ρ P _ _ E (an h) I G (aL w) (p.bind fun ps vs P1 g1 I1 r1 w p=> ?_);refine NN (wpAny_standAt ?_);have XX:PySem.W.Frag.In X.C.K P1.h:=W.X.keeps fun b o e=>(I1.base b o e).1;have Y:=PySem.W.makes_of (M:=X.M) XX W.makes;obtain ⟨oc,od,cd,sl,hC0,_⟩:=Y.obj;refine NN (m:=keeperOf (.ref X.C.book)) ?_;unfold keeperOf;refine NN (wpAny_load hC0 ?_);refine NN (Y.call X.A _ E P1.s (fun _ _ e=>e) ?_);rw[if_pos (by rfl)];refine NO ?_;rw[hst];show wpAny _ _ (call (.ref X.C.book) vs []>>=fun r=>do holding [r] point;pure r) _ _ _;refine NN (wpAny_mono (Q:=fun r s'=>Q r s') ?_ (fun r s' hr=>NN (wpAny_holding (wpAny_point (NO hr)))) fun _ _ x=>x);obtain ⟨⟨hh,g,dr,t,os⟩,fs,own,gh,σ⟩:=P1;refine wpAny_call (PySem.W.make_core Y (PySem.W.looks_findIn XX W.init.1) (fun self=>PySem.W.bind_fn XX self W.init.2) (.inl rfl) ?_);have hs1:=NU (hh.push PySem.W.emptyDict) (o:=PySem.W.instObj X.C.book hh.objs.size) rfl;rw[Heap.size_push] at hs1;obtain ⟨J,gJ,rJ⟩:=Az I1 (h':=(hh.push PySem.W.emptyDict).push (PySem.W.instObj X.C.book hh.objs.size)) (x:=hh.objs.size+1) (d:=hh.objs.size) (fun b o e=>NJ _ (NJ _ e)) (I1.off (Oh _)) (I1.off (NM _)) (I1.out (Oh _)) (I1.out (NM _)) (Nat.succ_ne_self _)
   hs1 (NJ _ (NU _ rfl))
  have hdep:=X.dep;have huni:=X.uni;have d1:(X.A.under (.builtin "type.__call__" ⟨.ref X.C.book::vs,[]⟩)).depth=X.A.depth+1:=rfl;have u1:(X.A.under (.builtin "type.__call__" ⟨.ref X.C.book::vs,[]⟩)).units<=X.A.units+10:=Oe (NH rfl) _;have f1:(X.A.under (.builtin "type.__call__" ⟨.ref X.C.book::vs,[]⟩)).frames=X.A.frames:=by
   generalize X.A=A;obtain ⟨_,_,fr,_,_⟩:=A;cases fr<;>rfl
  have G1:=G.ext g1;have w:Wp K (GZ (fun v=>bP (CU ((km v).bind fun x=>match x with| .none=>some ()|_=>none)) fun _=>ret (.p σ.length 0)) (X.ker.Φ X.ker.hd 0 (.p σ.length 0::ps) (σ++[.rcd true []]))):=w
  refine codeAny_mono (X.calls X.hd (X.A.under (.builtin "type.__call__" ⟨.ref X.C.book::vs,[]⟩)) (Pt.make2 ⟨⟨hh,g,dr,t,os⟩,fs,own,gh,σ⟩ _ (hh.objs.size+1) hh.objs.size) 0 (.p σ.length 0::ps) (.ref (hh.objs.size+1)::vs) _ (fun v s'=>v= .none/\Q (.ref (hh.objs.size+1)) s') E (by
   obtain ⟨ls,q1,q2⟩:=G1.frs;exact ⟨ls,f1.trans q1,q2⟩) (J.szF G1.ne) (by rw[d1];exact Lm hdep) (Ll huni u1) X.hnd J (.cons rJ (r1.ext gJ.toExt)) (aL w) ⟨fun v u P3 g3 I3 r3 k=> ?_,fun c e P3 g3 I3 x3 k=> ?_⟩) fun r s' h=> ?_
  .obtain ⟨_,e1,k⟩:=fq (aL k);obtain ⟨z,e2,e3⟩:=am e1;have e4:z= .none:=by cases z<;>first|rfl|cases e3
   have r3:=mJ e2 r3;rw[e4] at r3;exact ⟨r3.view,p.ok (.p σ.length 0) _ P3 (gJ.trans g3) I3 (rJ.ext g3.toExt) k⟩
  .refine p.ex c e P3 (gJ.trans g3) I3 ?_ k;obtain ⟨q1,q2⟩:=x3;exact .mk (f1 ▸ q1) q2
  .cases r with
   |ok fl=>cases fl<;>exact h
   |error e=>exact h
end
noncomputable def C2 (l:CL):CE:=⟨fun K ρ=>bP (l.ev K ρ) (Iy (K.Φ K.hd 0)),fun s=>eb fun x es=>x==("Book":Str)&&et s.sc x&&l.is s es,fun _ _ _ _ _ _ _ h I G w p=>F3 l h I G w p⟩
def MV (Γ:BZ):Prop:=∀ x y i,Γ.lookup x=some i->Γ.lookup y=some i->x=y
structure SX extends Cx where
 outer:List Env
 L:Addr
 cs:List Addr
 fr:A.frames=some (env::outer)
 loc:env.locals=L
 frame:env.frame=some L
 cell:∀ x,env.kindOf x=some .cell->∃ c,env.cells.lookup x=some c/\c∈cs
 apart:∀ x y c,env.cells.lookup x=some c->env.cells.lookup y=some c->x=y
 inj:MV Γ
 scE:sc=env.scope
 dep2:A.depth+8*d+151<recursionLimit
 uni2:A.units+64*d+1005<cLine
 lmE:∀ l,lm=some l->C.lam=some l/\env.code= .ref l.c/\env.qual++"<lambda>"=l.qual
structure cn (X:SX) (P:Pt) (ρ:bb):Prop extends EnvOK X.toCx P ρ where
 hd:∃ f r,P.fs=f::r/\f.L=X.L/\f.cells=X.cs
section
variable {X:SX}
theorem cn.ext (G:cn X P ρ) (g:bX P P'):cn X P' ρ:=⟨G.toEnvOK.ext g,g.fs ▸ G.hd⟩
theorem cn.gs (G:cn X P ρ) (g:bX P P'):eA P P':=⟨g.toExt,by
 obtain ⟨f,r,e,_⟩:=G.hd;rw[g.fs,e];exact .mk (.refl f)⟩
end
def ij (K:Out->av->Prop):Option (Out×av)->Prop
 |some (o,σ)=>K o σ
 |none=>False
def oK {α:Type} (K:Out->av->Prop) (ρ:bb) (k:α->av->Option (Out×av)):R α->av->Prop
 | .ok v,σ=>ij K (k v σ)
 | .ex c,σ=>K (.ex c ρ) σ
theorem eB {K:Out->av->Prop} {m:PM α} {k:α->av->Option (Out×av)} (h:ij K (df ρ m k σ)):Wp (oK K ρ k) (m σ):=by
 unfold df at h;generalize m σ=o at h
 match o,h with
 |none,h=>exact h
 |some (.ok _,_),h=>exact h
 |some (.ex _,_),h=>exact h
structure cW (X:SX) (P:Pt) (K:Out->av->Prop) (Q:Flow->Shared->Prop) (E:Value->Shared->Prop):Prop where
 next:∀ ρ P',eA P P'->aK X.C P'->cn X P' ρ->K (.next ρ) P'.σ->Q .next P'.s
 ret:∀ p v P',eA P P'->aK X.C P'->RV X.C P' v p->K (.ret p) P'.σ->Q (.ret v) P'.s
 ex:∀ c ρ e P',eA P P'->aK X.C P'->qk X.C X.A P' c e->cn X P' ρ->K (.ex c ρ) P'.σ->E e P'.s
section
variable {X:SX} {K:Out->av->Prop} {Q:Flow->Shared->Prop}
theorem cW.mono (h:cW X P K Q E) (g:eA P P'):cW X P' K Q E:=
 ⟨fun ρ P'' g'=>h.next ρ P'' (g.trans g'),fun p v P'' g'=>h.ret p v P'' (g.trans g'),fun c ρ e P'' g'=>h.ex c ρ e P'' (g.trans g')⟩
theorem cW.bind {Rel:Pt->β->α->Prop} {k:α->av->Option (Out×av)} {Q':β->Shared->Prop} (h:cW X P K Q E) (G:cn X P ρ) (kk:∀ p v P',bX P P'->aK X.C P'->Rel P' v p->ij K (k p P'.σ)->cn X P' ρ->cW X P' K Q E->Q' v P'.s):dA X.C X.A Rel P (oK K ρ k) Q' E:=
 ⟨fun p v P' g i r w=>kk p v P' g i r w (G.ext g) (h.mono (G.gs g)),fun c e P' g i x w=>h.ex c ρ e P' (G.gs g) i x (G.ext g) w⟩
theorem cW.go (h:cW X P K Q E) (I:aK X.C P) (G:cn X P ρ) (k:K (.next ρ) P.σ):Q .next P.s:=h.next ρ P (G.gs (.refl P)) I G k
end
abbrev Ws (X:SX) (e:Stmt) (Q:Flow->Shared->Prop) (E:Value->Shared->Prop) (P:Pt):Prop:=wpAny X.M X.A (PySem.exec e X.env) Q E P.s
structure C1 where
 ex:cQ->bb->av->Option (Out×av)
 is:Sx->Stmt->Bool
 ok:∀ (X:SX) (st:Stmt) (ρ:bb) (P:Pt) (K:Out->av->Prop) (Q:Flow->Shared->Prop) (E:Value->Shared->Prop),is X.sx st=true->aK X.C P->cn X P ρ->ij K (ex X.ker ρ P.σ)->cW X P K Q E->Ws X st Q E P
structure CS where
 ex:cQ->bb->av->Option (Out×av)
 is:Sx->List Stmt->Bool
 ok:∀ (X:SX) (st:List Stmt) (ρ:bb) (P:Pt) (K:Out->av->Prop) (Q:Flow->Shared->Prop) (E:Value->Shared->Prop),is X.sx st=true->aK X.C P->cn X P ρ->ij K (ex X.ker ρ P.σ)->cW X P K Q E->wpAny X.M X.A (PySem.execs st X.env) Q E P.s
def tK (K:Out->av->Prop) (k:bb->av->Option (Out×av)):Out->av->Prop
 | .next ρ,σ=>ij K (k ρ σ)
 |o,σ=>K o σ
theorem wm {K:Out->av->Prop} {k:bb->av->Option (Out×av)}:∀ {z:Option (Out×av)},ij K (lV z k)->ij (tK K k) z
 |none,h=>h
 |some (.next _,_),h=>h
 |some (.ret _,_),h=>h
 |some (.ex _ _,_),h=>h
noncomputable def sN:CS:=⟨fun _ ρ σ=>some (.next ρ,σ),fun _ st=>st.isEmpty,fun X st ρ P K Q E h I G w p=>b_ (fun st=>wpAny X.M X.A (PySem.execs st X.env) Q E P.s) h (wpAny_execs_nil (p.go I G w))⟩
noncomputable def sC (a:C1) (l:CS):CS:=⟨fun K ρ σ=>lV (a.ex K ρ σ) (l.ex K),fun s=>j5 (a.is s) (l.is s),fun X st ρ P K Q E h I G w p=>dC (fun st=>wpAny X.M X.A (PySem.execs st X.env) Q E P.s) h fun e r h1 h2=>
 wpAny_execs_cons (a.ok X e ρ P _ _ E h1 I G (wm w) ⟨fun ρ' P' g I' G' k=>l.ok X r ρ' P' K Q E h2 I' G' k (p.mono g),p.ret,p.ex⟩)⟩
noncomputable def aO (a:CE):C1:=⟨fun K ρ=>df ρ (a.ev K ρ) fun v σ=>some (.ret v,σ),fun s=>ov fun v _=>Gj (a.is s) v,fun X st ρ P K Q E h I G w p=>pQ (fun st=>Ws X st Q E P) h fun v pos h=>iO (fun v=>wpAny X.M X.A (PySem.exec (.Return v pos) X.env) Q E P.s) h fun e h=>
 wpAny_Return_some (a.ok X.toCx e ρ P _ _ E h I G.toEnvOK (eB w) (p.bind G fun x v P1 g I1 r w G1 p=>p.ret x v P1 (G1.gs (.refl P1)) I1 r w))⟩
theorem ku {t:Option Expr} {l:Nat} (h:j4 e=false):swapsWith e t l env=pure false:=by
 cases e<;>first|rfl|cases h
noncomputable def aZ (a:CE):C1:=⟨fun K ρ=>df ρ (a.ev K ρ) fun _ σ=>some (.next ρ,σ),fun s=>vm fun e _=> !j4 e&&a.is s e,fun X st ρ P K Q E h I G w p=>tS (fun st=>wpAny X.M X.A (PySem.exec st X.env) Q E P.s) h fun e pos h=>by
 rw[PySem.exec_Expr _ e pos (by unfold interactive;rw[X.kind];rfl) (ku ((Bool.not_eq_true' _).mp (ai h)))];exact NN (wpAny_standAt (NN (a.ok X.toCx e ρ P _ _ E (an h) I G.toEnvOK (eB w) (p.bind G fun x v P1 g I1 r w G1 p=>wpAny_dropValue (p.go I1 G1 w)))))⟩
noncomputable def cf (t:CT) (a b:CS):C1:=⟨fun K ρ=>df ρ (t.ts K ρ) fun c=>if c then a.ex K ρ else b.ex K ρ,fun s=>Gv fun te ae be _=>t.is s te&&a.is s ae&&b.is s be,fun X st ρ P K Q E h I G w p=>yI (fun st=>wpAny X.M X.A (PySem.exec st X.env) Q E P.s) h fun te ae be pos h=>
 wpAny_If (t.ok X.toCx te ρ P _ _ E (ai (ai h)) I G.toEnvOK (eB w) (p.bind (Rel:=lU) G fun c v P1 g I1 r w G1 p=>by
  rw[show v=c from r];cases c with
  |true=>exact a.ok X ae ρ P1 K Q E (an (ai h)) I1 G1 w p
  |false=>exact b.ok X be ρ P1 K Q E (an h) I1 G1 w p))⟩
section
theorem aK.frame {f:Fm} {r:List Fm} (I:aK C P) (hf:P.fs=f::r) (lk:f.like g) (ha:a∈f.adr) (hs:∀ b o,b≠a->P.h.get? b=some o->h'.get? b=some o) (hn:h'.Ns g.L g.m) (hc:∀ c∈g.cells,h'.IsCell c (g.cv c)):
  aK C {P.to h' t with fs:=g::r}:=by
 have hm:f∈P.fs:=by rw[hf];exact .head _
 have own:P.own a= .fr:=by
  rcases NB.mp ha with q|q
  .rw[q];exact (I.fr.ns f hm).2.1
  .exact (I.fr.cl f hm a q).2.1
 have le:f.L<=a:=by
  rcases NB.mp ha with q|q
  .exact On q.symm
  .exact Oc (I.fr.cl f hm a q).2.2
 have ord:=I.fr.ord;rw[hf] at ord;obtain ⟨o1,o2⟩:=List.pairwise_cons.mp ord;have kk:∀ b o x,P.own b=x->x≠ .fr->P.h.get? b=some o->P.own b=x/\h'.get? b=some o:=fun b o x e q z=>⟨e,hs b o (fun c=>q (by rw[<-e,c,own])) z⟩;have ne:∀ k∈r,∀ b∈k.adr,b≠a:=fun k hk b hb=>Nat.ne_of_lt (N0 (o1 k hk b hb) le);refine ⟨fun b o e=>⟨hs b o (fun c=> ?_) (I.base b o e).1,(I.base b o e).2⟩,fun b o e=>(kk b o _ e c4.noConfusion (I.fz b o e)).2,fun b e=> ?_,⟨fun k hk=> ?_,fun k hk c hcc=> ?_,?_,fun b e=> ?_⟩,I.gh.mv (fun _ _ e=>e) fun b o e q=>kk b o _ e c4.noConfusion q,I.one,I.bd,fun n o e=>(I.obj n o e).mv (fun _ _ e=>e) fun b j o e q=>kk b o _ e c4.noConfusion q⟩
 .have q:=(I.base b o e).2;rw[c,own] at q;cases q
 .by_cases c:b=a
  .rw[c];rcases NB.mp ha with q|q
   .rw[q,<-lk.1];obtain ⟨o,_,_,ho,_⟩:=hn;exact ⟨o,ho⟩
   .obtain ⟨o,ho,_⟩:=hc a (by rw[lk.2];exact q);exact ⟨o,ho⟩
  .obtain ⟨o,ho⟩:=I.live b e;exact ⟨o,hs b o c ho⟩
 .rcases NB.mp hk with q|q
  .subst q;exact ⟨hn,by rw[lk.1];exact (I.fr.ns f hm).2⟩
  .obtain ⟨⟨o,es,ep,ho,z⟩,x⟩:=I.fr.ns k (by rw[hf];exact .tail _ q);exact ⟨⟨o,es,ep,hs _ _ (ne k q _ (.head _)) ho,z⟩,x⟩
 .rcases NB.mp hk with q|q
  .subst q;exact ⟨hc c hcc,by rw[lk.1];exact (I.fr.cl f hm c (by rw[<-lk.2];exact hcc)).2⟩
  .obtain ⟨⟨o,ho,z⟩,x⟩:=I.fr.cl k (by rw[hf];exact .tail _ q) c hcc;exact ⟨⟨o,hs _ _ (ne k q _ (.tail _ hcc)) ho,z⟩,x⟩
 .exact List.pairwise_cons.mpr ⟨fun k hk b hb=>by rw[lk.1];exact o1 k hk b hb,o2⟩
 .obtain ⟨k,hk,z⟩:=I.fr.all b e;rw[hf] at hk;rcases NB.mp hk with q|q
  .exact ⟨g,.head _,by rw[Fm.adr,lk.1,lk.2];exact q ▸ z⟩
  .exact ⟨k,.tail _ q,z⟩
end
section
variable {X:SX}
theorem rf {q:PV} (h:(ρ.set i (some p))[j]? =some (some q)):(i=j/\q=p)∨(i≠j/\ρ[j]? =some (some q)):=by
 by_cases e:i=j
 .subst e;by_cases hl:i<ρ.length
  .rw[List.getElem?_set_self hl] at h;cases h;exact .inl ⟨rfl,rfl⟩
  .rw[List.getElem?_eq_none (by simpa using hl)] at h;cases h
 .rw[N6 e] at h;exact .inr ⟨e,h⟩
theorem A9 {f:Fm} {r:List Fm} (lk:f.like g) (h:qU A (f::r)):qU A (g::r):=by
 obtain ⟨ls,e,hl⟩:=h;refine ⟨ls,e,fun x hx=> ?_⟩;obtain ⟨a,b,hb,c⟩:=hl x hx;refine ⟨a,?_⟩;rcases NB.mp hb with q|q
 .exact ⟨g,.head _,by rw[c,q,lk.1]⟩
 .exact ⟨b,.tail _ q,c⟩
theorem iE {x:Str} {i:Nat} {p:PV} {v:Value} {Q:Unit->Shared->Prop} {A:Around} {M:Model} (hx:X.Γ.lookup x=some i) (hb:fg X.sc x=true) (I:aK X.C P) (G:cn X P ρ) (hr:RV X.C P v p)
  (k:∀ P',eA P P'->aK X.C P'->cn X P' (ρ.set i (some p))->P'.σ=P.σ->Q () P'.s):wpAny M A (storeName X.env x v) Q E P.s:=by
 rw[X.scE] at hb;obtain ⟨f,r,hf,hL,hcs⟩:=G.hd;have hm:f∈P.fs:=by rw[hf];exact .head _
 have hns:=(I.fr.ns f hm).1;have hloc:X.env.locals=f.L:=X.loc.trans hL.symm;have fin:∀ (h':Heap) (t:Nat) (g:Fm),f.like g->aK X.C {P.to h' t with fs:=g::r}->xJ X.env (g::r) x v->(∀ y w,y≠x->xJ X.env (f::r) y w->xJ X.env (g::r) y w)->Q () {P.s with heap:=h',toks:=t}:=fun h' t g lk J l1 l2=>by
  refine k {P.to h' t with fs:=g::r} ⟨⟨⟨h',t,rfl⟩,rfl,fun _ _ e=>e,fun _ _ e=>e,fun _ _ _ _ e=>e⟩,by rw[hf];exact .mk lk⟩ J ⟨⟨A9 lk (hf ▸ G.frs),nofun,fun y j q h1 h2 h3=> ?_⟩,⟨g,r,rfl,by rw[lk.1];exact hL,by rw[lk.2];exact hcs⟩⟩ rfl;rcases rf h3 with ⟨e1,e2⟩|⟨e1,e2⟩
  .subst e1;have e3:=X.inj _ _ _ h1 hx;subst e3;subst e2;exact ⟨v,hr,l1⟩
  .obtain ⟨w,z1,z2⟩:=G.var y j q h1 h2 e2;exact ⟨w,z1,l2 y w (fun c=>e1 (by rw[c,hx] at h1;exact Om h1)) (hf ▸ z2)⟩
 rcases (Bool.or_eq_true _ _).mp hb with hb|hb
 .have hb:=bO hb;rw[<-hloc] at hns;refine wpAny_storeName_local (m:=f.m) hb hns (fun h' hn' hs'=> ?_) (by rw[X.kind];rfl);rw[hloc] at hn' hs';refine fin h' _ {f with m:=fun y=>if y=x then some v else f.m y} ⟨rfl,rfl⟩ (I.frame hf ⟨rfl,rfl⟩ (.head _) (fun b o e h=>hs'.extBut b o e h) hn' fun c hc=>(I.fr.cl f hm c hc).1.sameBut hs' (Nat.ne_of_gt (I.fr.cl f hm c hc).2.2)) (.inl ⟨hb,_,.head _,hloc.symm,if_pos rfl⟩) fun y w e l=> ?_;rcases l with ⟨h1,f1,hf1,h2,h3⟩|⟨h1,c,h2,f1,hf1,h3,h4⟩
  .rcases NB.mp hf1 with q|q
   .exact .inl ⟨h1,_,.head _,by rw[<-h2,q],by show (if y=x then _ else _)=_;rw[if_neg e,<-q];exact h3⟩
   .exact .inl ⟨h1,f1,.tail _ q,h2,h3⟩
  .rcases NB.mp hf1 with q|q
   .exact .inr ⟨h1,c,h2,_,.head _,q ▸ h3,q ▸ h4⟩
   .exact .inr ⟨h1,c,h2,f1,.tail _ q,h3,h4⟩
 .have hb:=bO hb;obtain ⟨c,hc,hcf⟩:=X.cell x hb;rw[<-hcs] at hcf;refine wpAny_storeName_cell X.kind hb hc (I.fr.cl f hm c hcf).1 fun h' hc' hs'=> ?_;have hcL:f.L≠c:=Nat.ne_of_lt (I.fr.cl f hm c hcf).2.2;refine fin h' _ {f with cv:=fun a=>if a=c then some v else f.cv a} ⟨rfl,rfl⟩ (I.frame hf ⟨rfl,rfl⟩ (.tail _ hcf) (fun b o e h=>hs'.extBut b o e h) (hns.sameBut hs' hcL) fun c' hc1=> ?_) (.inr ⟨.inl hb,c,hc,_,.head _,hcf,if_pos rfl⟩) fun y w e l=> ?_
  .show h'.IsCell c' (if c'=c then _ else _);by_cases q:c'=c
   .rw[if_pos q,q];exact hc'
   .rw[if_neg q];exact (I.fr.cl f hm c' hc1).1.sameBut hs' q
  .rcases l with ⟨h1,f1,hf1,h2,h3⟩|⟨h1,c1,h2,f1,hf1,h3,h4⟩
   .rcases NB.mp hf1 with q|q
    .exact .inl ⟨h1,_,.head _,by rw[<-h2,q],q ▸ h3⟩
    .exact .inl ⟨h1,f1,.tail _ q,h2,h3⟩
   .rcases NB.mp hf1 with q|q
    .refine .inr ⟨h1,c1,h2,_,.head _,q ▸ h3,?_⟩;show (if c1=c then _ else _)=_;rw[if_neg (fun z:c1=c=>e (X.apart _ _ _ h2 (by rw[hc,z]))),<-q];exact h4
    .exact .inr ⟨h1,c1,h2,f1,.tail _ q,h3,h4⟩
end
noncomputable def Fn (i:Nat) (f:Sx->Expr->Bool) (s:Sx) (st:Stmt):Bool:=pP (fun t e=>dc (fun x _=> !j4 e&&s.Γ.lookup x==some i&&fg s.sc x&&f s e) t) st
noncomputable def aG (i:Nat) (a:CE):C1:=⟨fun K ρ=>df ρ (a.ev K ρ) fun v σ=>some (.next (ρ.set i (some v)),σ),Fn i a.is,fun X st ρ P K Q E h I G w p=>gE (fun st=>Ws X st Q E P) h fun t e pos h=>cj (fun t=>wpAny X.M X.A (PySem.exec (.Assign [t] e pos) X.env) Q E P.s) h fun x px h=>
 wpAny_Assign_Name (a.ok X.toCx e ρ P _ _ E (an h) I G.toEnvOK (eB w) (p.bind G fun y v P1 g I1 r w G1 p=>
  iE (bO (an (ai (ai h)))) (an (ai h)) I1 G1 r fun P2 g2 I2 G2 e2=>p.next _ P2 g2 I2 G2 (e2 ▸ w))) (ku ((Bool.not_eq_true' _).mp (ai (ai (ai h)))))⟩
theorem vL {k:Int} (h:bQ k=true):Builtin.List.listFitsIndex k=true:=by
 have h2:=gy h;by_cases q:0<=k
 .exact fitsIndex_of q (by omega)
 .exact fitsIndex_neg (by omega) (by omega)
set_option maxRecDepth 100000 in
theorem pv {prog:Program} {w:World} {A:Around} {E:Value->Shared->Prop} {s:Shared} {l:Addr} {vs:List Value} {n j:Nat} {k:Int} {t:Tok} {v:Value} {Q:Unit->Shared->Prop} (ho:s.heap.get? l=some (aU vs n)) (hs:bQ k=true) (hp:cV k vs.length=some j)
  (hQ:∀ h',h'.get? l=some (aU (vs.set j v) n)->Heap.SameBut l s.heap h'->Q () {s with heap:=h'}):wpAny (model prog w) A (PySem.setItem (.ref l) (.int k t) v) Q E s:=by
 have hl:s.heap.IsList l vs.toArray:=⟨_,ho,rfl,n,rfl⟩;have hj:=(jk hp).2;have hx':vs.toArray[j]? =some vs[j]:=by simp [hj]
 have e1:(aU vs n).mapSeq (·.setIfInBounds j v)=aU (vs.set j v) n:=by simp [Obj.mapSeq]
 have g:=Heap.get?_update_self (Obj.mapSeq (·.setIfInBounds j v)) ho (by rw[e1];rfl);rw[e1] at g;unfold PySem.setItem
 try with_reducible refine wpAny_holding ?_
 first|refine NN (NO ?_)|skip
 refine NN (wpAny_sequenceKey hl.typeIs (by decide) ?_);refine NN (wpAny_callSpecial?_slot (name:=Str.ofString "__setitem__") hl.typeIs slot_list_setitem
  (wpAny_call_entry slot_list_setitem hl.typeIs entry_list_setitem ?_ (args_list_setitem _ _ _)))
 show wpAny _ _ (Builtin.List.listSubscript? (.int k t)>>=_) _ _ s;refine NN (wpAny_listSubscript_int (vL hs) ?_);clear hs;cases k with
 |ofNat m=>
  have h0:(0:Int)<=Int.ofNat m:=Int.ofNat_nonneg m;have hm:m=j:=by
   unfold cV at hp;rw[if_pos h0] at hp;split at hp
   .exact Om hp
   .cases hp
  subst hm;show wpAny _ _ ((seqItemAt l m>>=fun r=>pure (r.map (m,·)))>>=_) _ _ s;refine NN (NN (wpAny_seqItemAt ho rfl (NO ?_)));rw[hx'];show wpAny _ _ (setSeqItemAt l m v>>=_) _ _ s;refine NN (wpAny_setSeqItemAt ho rfl ?_)
  first
   |exact NN (NO (NO ⟨.none,rfl,NO (hQ _ (by simpa using g) (Heap.SameBut.update ..))⟩))
   |exact NO ⟨.none,rfl,NO (hQ _ (by simpa using g) (Heap.SameBut.update ..))⟩
 |negSucc m=>
  have hidx:=(jk hp).1;show wpAny _ _ ((Builtin.List.listItems (.ref l)>>=fun xs=>pure ((seqIndex? (Int.negSucc m) xs.size).bind fun i=>xs[i]?.map (i,·)))>>=_) _ _ s;refine NN (NN ?_);show wpAny _ _ (seqItems? (.ref l)>>=_) _ _ s;refine NN (wpAny_seqItems ho rfl (NO (NO ?_)));rw[NW,hidx];simp only [NA,hx',Option.map_some];show wpAny _ _ (setSeqItemAt l j v>>=_) _ _ s;refine NN (wpAny_setSeqItemAt ho rfl ?_)
  first
   |exact NN (NO (NO ⟨.none,rfl,NO (hQ _ (by simpa using g) (Heap.SameBut.update ..))⟩))
   |exact NO ⟨.none,rfl,NO (hQ _ (by simpa using g) (Heap.SameBut.update ..))⟩
noncomputable def sU (k v:D):cB->Option cB
 | .list l=>(iD k).bind fun i=>(aq (bQ i=true) ()).bind fun _=>(cV i l.length).map fun j=>.list (l.set j v)
 | .dict ks vs=>aq (oH k ks=true/\ks.length<100000) (.dict (jC k ks) (jB k v ks vs))
 | .d _=>none
theorem u6 {K:Type} [DecidableEq K] {ks:List (K×Value)} {k:K} {P:K->Prop} (h:∀ e∈ks,P e.1) (hk:P k):∀ e∈stored ks k v,P e.1:=by
 intro e he;unfold stored at he;split at he
 .obtain ⟨x,hx,rfl⟩:=NQ.mp he;split
  .exact h x hx
  .exact h x hx
 .rcases NS.mp he with he|he
  .exact h e he
  .rw[NG.mp he];exact hk
section
variable {Q:Unit->Shared->Prop}
theorem uL {n j:Nat} {f f':cB} {k v:D} {vx vk vv:Value} (I:aK C P) (hx:RV C P vx (.p n j)) (hk:RD C P.own k vk) (hv:RD C P.own v vv) (e:cq P.σ n j=some f) (e':sU k v f=some f')
  (kk:∀ P',bX P P'->aK C P'->P'.σ=eT P.σ n j f'->Q () P'.s):wpAny C.M A (PySem.setItem vx vk vv) Q E P.s:=by
 cases f with
 |d x=>cases e'
 |list l=>
  refine bJ fun G9 k9=> ?_;obtain ⟨i,e1,e2⟩:=am e';obtain ⟨_,e3,e2⟩:=am e2;obtain ⟨jj,e4,q⟩:=aN e2;refine k9 ?_;have h1:=(dS e3).1;subst q;refine bJ fun G9 k9=> ?_;obtain ⟨t,q⟩:=d5 e1 (iL I hk);obtain @⟨a,o,h2,h3,ws,m,e3,rr⟩:=my I hx e (fun _ h=>by cases h);refine k9 ?_;rw[q];subst e3;refine pv h3 h1 (by rw[rr.length];exact e4) fun h' z1 z2=> ?_;refine bJ fun G9 k9=> ?_;obtain ⟨P',q1,q2,q3,q4,q5⟩:=kq (t:=P.s.toks) (f':=.list (l.set jj v)) I (fun _ h=>by cases h) (fun _ h=>by cases h) e h2 (fun b o hb e=>z2.extBut b o hb e) z1 ⟨_,m,rfl,rr.set hv⟩;refine k9 ?_;have:=kk P' q1 q2 q3;rw[q5] at this;exact this
 |dict ks ps=>
  obtain ⟨⟨h1,h4⟩,q⟩:=dS e';subst q;refine bJ fun G9 k9=> ?_;obtain @⟨a,o,h2,h3,vs,hd,rr⟩:=my I hx e (fun _ h=>by cases h);obtain ⟨d,l,c,hk1,h5,e1,e2,h6,e3,h7,h8⟩:=rC hd hk h1;refine k9 ?_;subst e1;subst e2;subst e3
  letI:=d.dec
  have hlen:l.length<100000:=by rw[Nz] at h4;exact h4
  refine wpAny_setItem_pairs h7 (Heap.dictOf_iff.mpr ⟨o,h3,h5⟩) (fun h' z1 z2=> ?_) (NK (Oc hlen) (by decide));refine bJ fun G9 k9=> ?_;obtain ⟨o',z3,z4⟩:=Heap.dictOf_iff.mp z1;have hnd:(l.map (·.1)).Nodup:=by obtain ⟨_,_,_,_,_,_,h⟩:=h5;exact h
  have pa:=Ak hk1 c hv rr hnd;obtain ⟨P',q1,q2,q3,q4,q5⟩:=kq (t:=P.s.toks+1) (f':=.dict (jC (d.toD c) (l.map fun p=>d.toD p.1)) (jB (d.toD c) v (l.map fun p=>d.toD p.1) ps)) I (fun _ h=>by cases h) (fun _ h=>by cases h) e h2 (fun b o hb e=>z2.extBut b o hb e) z3 ⟨_,.mk d _ hk1 z4 pa.1 rfl (u6 (P:=d.ok) h6 h8),pa.2⟩;refine k9 ?_;have:=kk P' q1 q2 q3;rw[q5] at this;exact this
end
noncomputable def sT (x:PV) (k v:D) (σ:av):Option av:=match x with
 | .p n j=>(cq σ n j).bind fun f=>(sU k v f).map fun f'=>eT σ n j f'
 |_=>none
theorem yd {k v:D} {σ':av} (h:sT x k v σ=some σ'):∃ n j f f',x= .p n j/\cq σ n j=some f/\sU k v f=some f'/\σ'=eT σ n j f':=by
 cases x with
 |d=>cases h
 |b=>cases h
 |p n j=>
  refine bJ fun G9 k9=> ?_;obtain ⟨f,e1,h⟩:=am h;obtain ⟨f',e2,h⟩:=aN h;refine k9 ?_;exact ⟨n,j,f,f',rfl,e1,e2,h.symm⟩
noncomputable def jY {α:Type} (o:Option α) (k:α->Option (Out×av)):Option (Out×av):=o.bind k
theorem gR {K:Out->av->Prop} {k:α->Option (Out×av)}:∀ {o:Option α},ij K (jY o k)->∃ a,o=some a/\ij K (k a)
 |some a,h=>⟨a,rfl,h⟩
section
variable {X:SX} {K:Out->av->Prop} {Q:Flow->Shared->Prop}
theorem Cn (o i a:CE) (h:pP (fun t e=>cb (fun oe ke _=> !j4 e&&dq ke&&o.is X.sx oe&&i.is X.sx ke&&a.is X.sx e) t) st=true) (I:aK X.C P) (G:cn X P ρ)
  (w:ij K (df ρ (a.ev X.ker ρ) (fun v=>df ρ (o.ev X.ker ρ) fun x=>df ρ (i.ev X.ker ρ) fun k σ=>jY (km k) fun k=>jY (km v) fun v=>jY (sT x k v σ) fun σ'=>some (.next ρ,σ')) P.σ)) (p:cW X P K Q E):Ws X st Q E P:=
 gE (fun st=>Ws X st Q E P) h fun t e pos h=>cP (fun t=>wpAny X.M X.A (PySem.exec (.Assign [t] e pos) X.env) Q E P.s) h fun oe ke px h=>
  wpAny_Assign_Subscript (a.ok X.toCx e ρ P _ _ E (an h) I G.toEnvOK (eB w) (p.bind G fun v vv P1 g1 I1 r1 w G1 p=>
   o.ok X.toCx oe ρ P1 _ _ E (an (ai (ai h))) I1 G1.toEnvOK (eB w) (p.bind G1 fun x vx P2 g2 I2 r2 w G2 p=>
    i.ok X.toCx ke ρ P2 _ _ E (an (ai h)) I2 G2.toEnvOK (eB w) (p.bind G2 fun k vk P3 g3 I3 r3 w G3 p=>by
     refine bJ fun G9 k9=> ?_;obtain ⟨dk,e1,w⟩:=gR w;obtain ⟨dv,e2,w⟩:=gR w;obtain ⟨σ',e3,w⟩:=gR w;obtain ⟨n,j,f,f',q,e4,e5,e6⟩:=yd e3;refine k9 ?_;subst q;subst e6;exact uL I3 (r2.ext g3.toExt) (mJ e1 r3) (mJ e2 (r1.ext (g2.trans g3).toExt)) e4 e5 fun P4 g4 I4 e=>p.next ρ P4 (G3.gs g4) I4 (G3.ext g4) (e ▸ w))))) (ku ((Bool.not_eq_true' _).mp (ai (ai (ai (ai h))))))
end
noncomputable def lu (o i a:CE):C1:=⟨fun K ρ=>df ρ (a.ev K ρ) fun v=>df ρ (o.ev K ρ) fun x=>df ρ (i.ev K ρ) fun k σ=>jY (km k) fun k=>jY (km v) fun v=>jY (sT x k v σ) fun σ'=>some (.next ρ,σ'),fun s=>pP fun t e=>cb (fun oe ke _=> !j4 e&&dq ke&&o.is s oe&&i.is s ke&&a.is s e) t,fun X st ρ P K Q E h I G w p=>Cn o i a h I G w p⟩
noncomputable def vn (v:PV) (σ:av):Option (PV×av):=match v with
 | .p n 0=>(cq σ n 0).bind fun f=>f.rd.map fun x=>(.d x,σ.set n .dead)
 |_=>none
theorem FI (h:w a= .fz o):∀ {f:cB} {x:D},f.rd=some x->RF C w o f->RD C w x (.ref a):=by
 intro f x e r;cases f with
 |d _=>cases e
 |list _=>
  obtain ⟨vs,n,e',r⟩:=r;cases e;exact .lst (n:=⟨n,none,#[]⟩) (h.trans (congrArg c4.fz e')) r
 |dict _ _=>
  obtain ⟨vs,d,r⟩:=r;cases e;exact .dct h d r
theorem A1 {y:PV} {σ':av} (I:aK C P) (e:vn x P.σ=some (y,σ')):∃ P',bX P P'/\aK C P'/\P'.σ=σ'/\P'.s=P.s/\∀ v,RV C P v x->RV C P' v y:=by
 match x,e with
 | .p n 0,e=>
  refine bJ fun G9 k9=> ?_;obtain ⟨f,e1,e⟩:=am e;obtain ⟨z,e2,e⟩:=aN e;refine k9 ?_;cases e;refine bJ fun G9 k9=> ?_;obtain ⟨o',e3,e4⟩:=am e1;obtain ⟨_,q⟩:=EK (I.obj n o' e3) e4 (lv e2).2;obtain @⟨a,o,h1,h2,h3⟩:=q;refine k9 ?_;have g:=bX.ice (o:=o) e3 h1;exact ⟨P.ice n a o,g,I.ice e3 h1 h2,rfl,rfl,fun v r=>by rw[r.2 a h1];exact FI (b8 _ _ _) e2 (h3.ext g.fz)⟩
 | .p _ (_+1),e=>cases e
 | .d _,e=>cases e
theorem Co (i:Nat) (l:CS) {X:SX} {st:List Stmt} {K:Out->av->Prop} {Q:Flow->Shared->Prop} (h:l.is X.sx st=true) (I:aK X.C P) (G:cn X P ρ) (w:ij K (jY ((ρ[i]?).join) fun v=>jY (vn v P.σ) fun q=>l.ex X.ker (ρ.set i (some q.1)) q.2)) (p:cW X P K Q E):wpAny X.M X.A (PySem.execs st X.env) Q E P.s:=by
 refine bJ fun G9 k9=> ?_;obtain ⟨v,e1,w⟩:=gR w;obtain ⟨⟨y,σ'⟩,e2,w⟩:=gR w;obtain ⟨P',g,I',e3,e4,k⟩:=A1 I e2;refine k9 ?_;have G':=G.ext g;rw[<-e4];refine l.ok X st (ρ.set i (some y)) P' K Q E h I' ⟨⟨G'.frs,G'.ne,fun x j q h1 h2 h3=> ?_⟩,G'.hd⟩ (by rw[e3];exact w) (p.mono (G.gs g));rcases rf h3 with ⟨c1,c2⟩|⟨c1,c2⟩
 .subst c1;subst c2;obtain ⟨u,r,ld⟩:=G.var x i v h1 h2 (qz e1);exact ⟨u,k u r,g.fs ▸ ld⟩
 .exact G'.var x j q h1 h2 c2
noncomputable def FB (i:Nat) (l:CS):CS:=⟨fun K ρ σ=>jY ((ρ[i]?).join) fun v=>jY (vn v σ) fun q=>l.ex K (ρ.set i (some q.1)) q.2,l.is,fun _ _ _ _ _ _ _ h I G w p=>Co i l h I G w p⟩
section
noncomputable def Pt.adopt (P:Pt) (h:Heap) (t:Nat) (a:Addr) (m n j:Nat) (o:PO):Pt:={P.to h t with own:=fY P.own a (.cell n j),σ:=(P.σ.set m .dead).set n o}
theorem zo (I:aK C P) {h':Heap} {t m n i j:Nat} {a d:Addr} {oa od:Obj} {po p0 p1:PO} (em:P.σ[m]? =some po) (en:P.σ[n]? =some p0) (ne:m≠n) (ha:P.own a= .cell m 0) (hd:P.own d= .cell n i) (hs:∀ b o,b≠d->P.h.get? b=some o->h'.get? b=some o)
  (oa:P.h.get? a=some oa) (od:h'.get? d=some od) (hno:∀ b,P.own b≠ .cell n j) (h1:∀ b k,P.own b= .cell n k->p1.has k) (h2:p1.has j) (r:RO C (fY P.own a (.cell n j)) h' n p1):aK C (P.adopt h' t a m n j p1)/\Fz P.own (fY P.own a (.cell n j)):=by
 have nad:a≠d:=fun q=>by rw[q,hd] at ha;cases ha;exact ne rfl
 have kk:∀ b o x,P.own b=x->x≠ .cell m 0->x≠ .cell n i->P.h.get? b=some o->fY P.own a (.cell n j) b=x/\h'.get? b=some o:=fun b o x e q1 q2 z=>
  have na:b≠a:=fun c=>q1 (by rw[<-e,c,ha]);have nd:b≠d:=fun c=>q2 (by rw[<-e,c,hd])
  ⟨(bG na).trans e,hs b o nd z⟩
 have fz:Fz P.own (fY P.own a (.cell n j)):=fun b o e=>(bG fun c=>by rw[c,ha] at e;cases e).trans e;have len:(P.σ.set m .dead).length=P.σ.length:=N1;have ln:=(ND.mp en).1;have gn:((P.σ.set m .dead).set n p1)[n]? =some p1:=by rw[List.getElem?_set_self (by rw[len];exact ln)]
 refine ⟨⟨fun b o e=> ?_,fun c o e=> ?_,fun c e=> ?_,I.fr.mv (fun b o e q=>kk b o _ e c4.noConfusion c4.noConfusion q) (fun b e=>nn c4.noConfusion e),I.gh.mv fz fun b o e q=>kk b o _ e c4.noConfusion c4.noConfusion q,fun b c k j' e f=> ?_,fun c k j' e=> ?_,fun k o e=> ?_⟩,fz⟩
 .obtain ⟨e1,e2⟩:=I.base b o e;exact (kk b o _ e2 c4.noConfusion c4.noConfusion e1).symm
 .rcases cG P.own a (.cell n j) c with ⟨_,q⟩|⟨_,q⟩
  .cases q.symm.trans e
  .have z:=q.symm.trans e;exact (kk c o _ z c4.noConfusion c4.noConfusion (I.fz c o z)).2
 .by_cases c1:c=d
  .exact ⟨_,c1 ▸ od⟩
  .rcases cG P.own a (.cell n j) c with ⟨p,q⟩|⟨_,q⟩
   .exact ⟨_,hs c _ c1 (p ▸ oa)⟩
   .obtain ⟨o,ho⟩:=I.live c (q ▸ e);exact ⟨o,hs c o c1 ho⟩
 .rcases cG P.own a (.cell n j) b with ⟨p,q⟩|⟨_,q⟩<;>rcases cG P.own a (.cell n j) c with ⟨p',q'⟩|⟨_,q'⟩
  .rw[p,p']
  .cases q.symm.trans e;exact absurd (q'.symm.trans f) (hno c)
  .cases q'.symm.trans f;exact absurd (q.symm.trans e) (hno b)
  .exact I.one b c k j' (q.symm.trans e) (q'.symm.trans f)
 .rcases cG P.own a (.cell n j) c with ⟨p,q⟩|⟨_,q⟩
  .cases q.symm.trans e;exact ⟨_,gn,h2⟩
  .have e:=q.symm.trans e;by_cases c1:k=n
   .rw[c1] at e ⊢;exact ⟨_,gn,h1 c j' e⟩
   .obtain ⟨o,e1,e2⟩:=dP em (o':=.dead) (fun _ _=>trivial) (I.bd c k j' e);exact ⟨o,by show ((P.σ.set m .dead).set n p1)[k]? =_;rw[N6 (Ne.symm c1)];exact e1,e2⟩
 .by_cases c1:k=n
  .rw[c1] at e ⊢;cases (gn.symm.trans e);exact r
  .have e:((P.σ.set m .dead).set n p1)[k]? =some o:=e;rw[N6 (Ne.symm c1)] at e;by_cases c2:k=m
   .rw[c2,List.getElem?_set_self (ND.mp em).1] at e;cases e;exact True.intro
   .rw[N6 (Ne.symm c2)] at e;exact (I.obj k o e).mv fz fun b j o e q=>kk b o _ e (fun z=>by cases z;exact c2 rfl) (fun z=>by cases z;exact c1 rfl) q
theorem BV (I:aK C P) {h':Heap} {t m n i:Nat} {a d:Addr} {oa od:Obj} {po:PO} {b:Bool} {l l':List cB} (em:P.σ[m]? =some po) (en:P.σ[n]? =some (.rcd b l)) (ne:m≠n) (ha:P.own a= .cell m 0) (hd:P.own d= .cell n i) (hs:∀ b o,b≠d->P.h.get? b=some o->h'.get? b=some o)
  (oa:P.h.get? a=some oa) (od:h'.get? d=some od) (hl:l'.length=l.length+1) (r:RO C (fY P.own a (.cell n (l.length+2))) h' n (.rcd b l')):aK C (P.adopt h' t a m n (l.length+2) (.rcd b l'))/\bX P (P.adopt h' t a m n (l.length+2) (.rcd b l')):=by
 have lt:∀ b k,P.own b= .cell n k->k<l.length+2:=fun b k q=>by
  obtain ⟨o',e1,e2⟩:=I.bd b n _ q;rw[en] at e1;cases e1;exact e2
 have up:∀ k,k<l.length+2->k<l'.length+2:=fun k q=>by rw[hl];exact Nat.lt_succ_of_lt q
 obtain ⟨J,fz⟩:=zo (t:=t) (j:=l.length+2) (p1:=.rcd b l') I em en ne ha hd hs oa od (fun b q=>Og _ (lt b _ q)) (fun b k q=>up k (lt b k q)) (by show l.length+2<l'.length+2;rw[hl];exact Nat.lt_succ_self _) r;refine ⟨J,⟨⟨⟨h',t,rfl⟩,rfl,fz,fun k j v=> ?_,fun k j c v q=> ?_⟩,rfl⟩⟩
 .have e2:(P.σ.set m .dead)[n]? =some (.rcd b l):=by rw[N6 ne];exact en
  exact dP e2 up (dP em (fun _ _=>trivial) v)
 .rcases cG P.own a (.cell n (l.length+2)) c with ⟨p,z⟩|⟨_,z⟩
  .cases z.symm.trans q;obtain ⟨o',e1,e2⟩:=v;rw[en] at e1;cases e1;exact absurd e2 (Og _)
  .exact z.symm.trans q
theorem xW {A:Around} {s:Shared} {x dx:Addr} {es es':List DictEntry} {n n':Nat} {name:Str} {tk:Tok} {v:Value} {R:Result->Shared->Prop} (W:E4 C) (X:PySem.W.Frag.In C.K s.heap) (hx:s.heap.get? x=some (lE C.book dx)) (hd:s.heap.get? dx=some (dO es n))
  (hno:PySem.W.findIn C.K (.ref C.book) name=some none) (href:es.any (·.refKey)=false) (hp:Obj.putName name (PyData.keyHash C.w.params name) (.str name s.toks) v (dO es n)=dO es' n') (hz:es'.length<=1000)
  (h:∀ h',h'.get? dx=some (dO es' n')->Heap.SameBut dx s.heap h'->R (.ok (.ret .none)) {s with heap:=h',toks:=s.toks+1}):
  codeAny C.M A (.call (.builtin "object.__setattr__") ⟨[.ref x,.str name tk,v],[]⟩) R s:=by
 refine PySem.W.osa_open X (od:=some (dO es n)) ⟨hx,rfl,rfl,hd⟩ W.plain (r:=none) (by unfold PySem.W.takerIn;rw[hno];rfl) fun b=> ?_;obtain ⟨cd,hc,hd'⟩:=W.cd;have g:=Heap.get?_update_self (Obj.putName name (PyData.keyHash C.w.params name) (.str name s.toks) v) hd (by rw[hp];rfl);rw[hp] at g;refine NN (NO (NN (NN (wpAny_loadPart hx (NN ((PySem.W.looks_clsIn X hc).here ?_))))));rw[hd'];refine NO (a:=some dx) (NN (NO (NN ?_)));unfold nsSet;refine NN (NN (wpAny_askSetting (NO (NN (wpAny_mkText (NN (wpAny_loadPart hd ?_)))))));dsimp only;have c:(!es.toArray.any (·.key.isStr name)&&es.toArray.any (·.refKey))=false:=by
  rw[<-Array.any_toList,<-Array.any_toList,href,Bool.and_false]
 rw[aRefKeyMayBeTheName_at,c];refine wpAny_updatePart hd ?_;refine NN (wpAny_lookBehind g (pastItsLine_dict (by rw[NW];exact NK hz (by decide))) ?_);exact NO (h _ g (Heap.SameBut.update ..))
noncomputable def zX (k:Nat) (x v:PV) (σ:av):Option av:=match x with
 | .p n 0=>(ci true σ n).bind fun l=>(aq (k=l.length) ()).bind fun _=>match v with
  | .d y=>some (σ.set n (.rcd true (l++[.d y])))
  | .p m 0=>(aq (m≠n) ()).bind fun _=>(cq σ m 0).bind fun f=>f.rd.map fun _=>(σ.set m .dead).set n (.rcd true (l++[f]))
  |_=>none
 |_=>none
theorem FA.mono {w':bI} (x:Fz w w') (k:∀ b o,w b= .cell n (i+2)->h.get? b=some o->w' b= .cell n (i+2)/\h'.get? b=some o) (q:FA C w h n i v f):FA C w' h' n i v f:=by
 cases f with
 |d y=>exact RD.ext x q
 |list l=>
  obtain ⟨a,b,c⟩:jw C w h n (i+2) (.list l) v:=q;exact jw.mk (k _ _ a b).1 (k _ _ a b).2 (RF.ext x c)
 |dict ks ps=>
  obtain ⟨a,b,c⟩:jw C w h n (i+2) (.dict ks ps) v:=q;exact jw.mk (k _ _ a b).1 (k _ _ a b).2 (RF.ext x c)
theorem uM {A:Around} {E:Value->Shared->Prop} {Q:Unit->Shared->Prop} {k:Nat} {x v:PV} {vx vv:Value} {σ':av} (G:gq C) (hk:k<7) (I:aK C P) (hx:RV C P vx x) (hv:RV C P vv v) (e:zX k x v P.σ=some σ')
  (kk:∀ P',bX P P'->aK C P'->P'.σ=σ'->Q () P'.s):wpAny C.M A (PySem.setAttr vx (C.att k) vv) Q E P.s:=by
 cases x with
 |d _=>cases e
 |b _ _=>cases e
 |p n j=>
 cases j with
 |succ _=>cases e
 |zero=>
 obtain ⟨l,e1,e⟩:=am e;obtain ⟨_,e2,e⟩:=am e;have e2:=(dS e2).1;have en:=jh e1;obtain @⟨a,d,es,m,h1,h2,h3,h4,h5,h6,h7,h8⟩:gP C P.own P.h n l:=I.obj n _ en;have W:=G.cls;have XX:PySem.W.Frag.In C.K P.h:=W.X.keeps fun b o e=>(I.base b o e).1;have hnone:=ur (C:=C) (es:=es) (off:=0) (x:=C.att k) (wc h5) (fun i _ h q=>by have:=W.inj i (Lk hk e2 h6 h) k hk q;exact Lj e2 h6 h this);have nad:d≠a:=fun q=>by rw[q,h1] at h3;cases h3
 rw[hx.2 a h1];have hp:Obj.putName (C.att k) (PyData.keyHash C.w.params (C.att k)) (.str (C.att k) (P.s.toks+1)) vv (dO es m)=dO (es++[⟨PyData.keyHash C.w.params (C.att k),.str (C.att k) (P.s.toks+1),vv⟩]) (m+1):=by
  rw[Obj.putName_eq];show (match es.toArray.findIdx? (·.key.isStr (C.att k)) with|some i=>_|none=>_)=_
  have:es.toArray.findIdx? (·.key.isStr (C.att k))=none:=by
   rw[List.findIdx?_toArray,List.findIdx?_eq_none_iff];intro e he;have:=hnone.1;rw[List.find?_eq_none] at this
   simpa using this e he
  rw[this];show ({cls:=.type "dict",data:=.dict (es.toArray.push _) (m+1)}:Obj)=_;rw[List.push_toArray]
 refine PySem.W.set_plain XX (show PySem.W.InstAt P.h a (lE C.book d) C.book (some (dO es m)) from ⟨h2,rfl,rfl,h4⟩) W.sattr ?_;refine xW (s:={P.s with toks:=P.s.toks+1}) W XX h2 h4 (W.no k hk) hnone.2 hp (by simp;exact Li hk e2 h6) fun h' g1 g2=> ?_;have at':ph C (es++[⟨PyData.keyHash C.w.params (C.att k),.str (C.att k) (P.s.toks+1),vv⟩]):=fun i e he=>by
  by_cases c:i=es.length
  .rw[(dK he).2 c,c,h6,<-e2];exact ⟨⟨_,rfl⟩,rfl⟩
  .exact h5 i e ((dK he).1 c)
 have ro:∀ (w':bI) (f:cB),Fz P.own w'->(∀ b j,P.own b= .cell n j->w' b= .cell n j)->FA C w' h' n k vv f->RO C w' h' n (.rcd true (l++[f])):=fun w' f fz kw fa=>by
  refine gP.mk (kw _ _ h1) (g2.extBut _ _ (Ne.symm nad) h2) (kw _ _ h3) g1 at' (by simp [h6]) (by simp;exact Lh hk e2) fun i f' en' q1 q2=> ?_;by_cases c:i=l.length
  .rw[(dK q1).2 c,(dK q2).2 (c.trans h6.symm),c,<-e2];exact fa
  .refine (h8 i f' en' ((dK q1).1 c) ((dK q2).1 (fun z=>c (z.trans h6)))).mono fz fun b o z1 z2=>⟨kw b _ z1,g2.extBut b o (fun z=> ?_) z2⟩;rw[z,h3] at z1;cases z1
 cases v with
 |b _ _=>cases e
 |d y=>
  cases e;have J:=I.turn (h':=h') (t:=P.s.toks+1+1) (po':=.rcd true (l++[.d y])) (fun j q=>by show j<(l++[cB.d y]).length+2;simp;have:j<l.length+2:=q;exact Nat.lt_succ_of_lt this) en h3 (fun b o hb e=>g2.extBut b o hb e) g1 (ro P.own (.d y) (fun _ _ e=>e) (fun _ _ e=>e) hv);exact kk _ (.turn en fun j q=>by show j<(l++[cB.d y]).length+2;simp;have:j<l.length+2:=q;exact Nat.lt_succ_of_lt this) J rfl
 |p m' j=>
 cases j with
 |succ _=>cases e
 |zero=>
  obtain ⟨_,z1,e⟩:=am e;obtain ⟨f,z2,e⟩:=am e;obtain ⟨u,z3,e⟩:=aN e;have z1:=(dS z1).1;obtain ⟨o',z4,z5⟩:=am z2;obtain @⟨af,of,y1,y2,y3⟩:=my I hv z2 (lv z3).2;have fz:Fz P.own (fY P.own af (.cell n (l.length+2))):=fun b o e=>(bG fun c=>by rw[c,y1] at e;cases e).trans e;have ndf:af≠d:=fun q=>by rw[q,h3] at y1;cases y1
  obtain ⟨J,g⟩:=BV (t:=P.s.toks+1+1) (l':=l++[f]) I z4 en z1 y1 h3 (fun b o hb e=>g2.extBut b o hb e) y2 g1 (by simp)
   (ro _ f fz (fun b j e=>(bG fun c=>by rw[c,y1] at e;cases e;exact z1 rfl).trans e) (EY (lv z3).2 (by rw[e2];exact jw.mk (b8 _ _ _) (g2.extBut _ _ ndf y2) (y3.ext fz))))
  exact kk _ g J e
end
section
variable {X:SX} {K:Out->av->Prop} {Q:Flow->Shared->Prop}
theorem z9 (o:CE) (k:Nat) (a:CE) (h:pP (fun t e=>dz (fun oe x _=> !j4 e&&x==X.sx.att k&&decide (k<7)&&o.is X.sx oe&&a.is X.sx e) t) st=true) (I:aK X.C P) (G:cn X P ρ)
  (w:ij K (df ρ (a.ev X.ker ρ) (fun v=>df ρ (o.ev X.ker ρ) fun x σ=>jY (zX k x v σ) fun σ'=>some (.next ρ,σ')) P.σ)) (p:cW X P K Q E):wpAny X.M X.A (PySem.exec st X.env) Q E P.s:=
 gE (fun st=>wpAny X.M X.A (PySem.exec st X.env) Q E P.s) h fun t e pos h=>eQ (fun t=>wpAny X.M X.A (PySem.exec (.Assign [t] e pos) X.env) Q E P.s) h fun oe x px h=>by
  rw[bO (an (ai (ai (ai h))))];exact plainObj_wpAny_Assign_Attribute (a.ok X.toCx e ρ P _ _ E (an h) I G.toEnvOK (eB w) (p.bind G fun v vv P1 g1 I1 r1 w G1 p=>
   o.ok X.toCx oe ρ P1 _ _ E (an (ai h)) I1 G1.toEnvOK (eB w) (p.bind G1 fun x vx P2 g2 I2 r2 w G2 p=>by
    obtain ⟨σ',e3,w⟩:=gR w;exact uM X.good (Of (an (ai (ai h)))) I2 r2 (r1.ext g2.toExt) e3 fun P4 g4 I4 e=>p.next ρ P4 (G2.gs g4) I4 (G2.ext g4) (e ▸ w)))) (ku ((Bool.not_eq_true' _).mp (ai (ai (ai (ai h))))))
end
noncomputable def jA (o:CE) (k:Nat) (a:CE):C1:=⟨fun K ρ=>df ρ (a.ev K ρ) fun v=>df ρ (o.ev K ρ) fun x σ=>jY (zX k x v σ) fun σ'=>some (.next ρ,σ'),fun s=>pP fun t e=>dz (fun oe x _=> !j4 e&&x==s.att k&&decide (k<7)&&o.is s oe&&a.is s e) t,fun X st ρ P K Q E h I G w p=>z9 o k a h I G w p⟩
section
noncomputable def Pt.hide (P:Pt) (h:Heap) (t:Nat) (a:Addr) (o:Obj):Pt:={P.to h t with own:=fY P.own a .gh,G:=(a,o)::P.G}
noncomputable def Pt.show (P:Pt) (h:Heap) (t:Nat) (a:Addr) (G:List (Addr×Obj)):Pt:={P.to h t with own:=fY P.own a .no,G:=G}
theorem aK.hide (I:aK C P) (n:zt C P h' a o):aK C (P.hide h' t a o):=by
 have kk:∀ b o x,P.own b=x->x≠ .no->P.h.get? b=some o->fY P.own a .gh b=x/\h'.get? b=some o:=fun b o x e q z=>⟨(bG fun c=>q (by rw[<-e,c,n.own])).trans e,n.keep b o z⟩;have cs:=cG P.own a .gh;refine ⟨fun b o e=> ?_,fun b o e=> ?_,fun b e=> ?_,I.fr.mv (fun b o e q=>kk b o _ e c4.noConfusion q) (fun b e=>nn c4.noConfusion e),⟨fun p hp=> ?_,?_,fun z e=>(I.gh.tab z e).map (eH n.own) fun b o q=>⟨n.keep b o q.1,(kk b o _ q.2.1 c4.noConfusion q.1).1,fun p hp=> ?_⟩⟩,fun b c k j e f=> ?_,fun b k j e=> ?_,fun k o e=>(I.obj k o e).mv (fun b o e=>(bG fun c=>by rw[c,n.own] at e;cases e).trans e) fun b j o e q=>kk b o _ e c4.noConfusion q⟩
 .obtain ⟨e1,e2⟩:=I.base b o e;exact ⟨n.keep b o e1,(bG fun c=>by rw[c,n.H] at e;cases e).trans e2⟩
 .rcases cs b with ⟨_,q⟩|⟨_,q⟩
  .cases q.symm.trans e
  .exact n.keep b o (I.fz b o (q.symm.trans e))
 .rcases cs b with ⟨p,q⟩|⟨_,q⟩
  .exact ⟨o,p ▸ n.at_⟩
  .obtain ⟨o,ho⟩:=I.live b (q ▸ e);exact ⟨o,n.keep b o ho⟩
 .rcases NB.mp hp with q|q
  .rw[q];exact ⟨n.at_,b8 _ _ _⟩
  .exact (kk _ _ _ (I.gh.at_ p q).2 c4.noConfusion (I.gh.at_ p q).1).symm
 .refine Oi.mpr ⟨fun q=> ?_,I.gh.nd⟩;obtain ⟨p,hp,e⟩:=NQ.mp q;have:=(I.gh.at_ p hp).2;rw[e,n.own] at this;cases this
 .rcases NB.mp hp with z|z
  .rw[z];intro c;have:=q.2.1;rw[<-c,n.own] at this;cases this
  .exact q.2.2 p z
 .rcases cs b with ⟨_,q⟩|⟨_,q⟩
  .cases q.symm.trans e
  .rcases cs c with ⟨_,q'⟩|⟨_,q'⟩
   .cases q'.symm.trans f
   .exact I.one b c k j (q.symm.trans e) (q'.symm.trans f)
 .rcases cs b with ⟨_,q⟩|⟨_,q⟩
  .cases q.symm.trans e
  .exact I.bd b k j (q.symm.trans e)
section
theorem aK.gturn (I:aK C P) (hG:P.G=(a,o)::G) (hs:∀ b o,b≠a->P.h.get? b=some o->h'.get? b=some o) (ho:h'.get? a=some o'):aK C {P.to h' t with G:=(a,o')::G}:=by
 have own:P.own a= .gh:=(I.gh.at_ (a,o) (by rw[hG];exact .head _)).2;have nd:=I.gh.nd;rw[hG] at nd;have kk:∀ b o x,P.own b=x->x≠ .gh->P.h.get? b=some o->P.own b=x/\h'.get? b=some o:=fun b o x e q z=>⟨e,hs b o (fun c=>q (by rw[<-e,c,own])) z⟩;refine ⟨fun b o e=>⟨hs b o (fun c=> ?_) (I.base b o e).1,(I.base b o e).2⟩,fun b o e=>(kk b o _ e c4.noConfusion (I.fz b o e)).2,fun b e=> ?_,I.fr.mv (fun b o e q=>kk b o _ e c4.noConfusion q) (fun _ e=>e),⟨fun p hp=> ?_,nd,fun z e=>(I.gh.tab z e).map (fun _ _ e=>e) fun b o q=>⟨hs b o (Ne.symm (q.2.2 (a,_) (by rw[hG];exact .head _))) q.1,q.2.1,fun p hp=>(NB.mp hp).elim (fun c=>by rw[c];show a≠b;exact q.2.2 (a,_) (by rw[hG];exact .head _)) fun c=>q.2.2 p (by rw[hG];exact .tail _ c)⟩⟩,I.one,I.bd,fun k o e=>(I.obj k o e).mv (fun _ _ e=>e) fun b j o e q=>kk b o _ e c4.noConfusion q⟩
 .have:=(I.base b o e).2;rw[c,own] at this;cases this
 .by_cases c:b=a
  .exact ⟨o',c ▸ ho⟩
  .obtain ⟨o,z⟩:=I.live b e;exact ⟨o,hs b o c z⟩
 .rcases NB.mp hp with q|q
  .rw[q];exact ⟨ho,own⟩
  .have z:=I.gh.at_ p (by rw[hG];exact .tail _ q);exact ⟨hs _ _ (fun c=>(Oi.mp nd).1 (NQ.mpr ⟨p,q,c⟩)) z.1,z.2⟩
theorem aK.show (I:aK C P) (hG:P.G=(a,o)::G) (hs:∀ b o,b≠a->P.h.get? b=some o->h'.get? b=some o):aK C (P.show h' t a G):=by
 have own:P.own a= .gh:=(I.gh.at_ (a,o) (by rw[hG];exact .head _)).2;have nd:=I.gh.nd;rw[hG] at nd;have cs:=cG P.own a .no;have kk:∀ b o x,b≠a->P.own b=x->P.h.get? b=some o->fY P.own a .no b=x/\h'.get? b=some o:=fun b o x c e z=>⟨(bG c).trans e,hs b o c z⟩;have ka:∀ b x,P.own b=x->x≠ .gh->b≠a:=fun b x e q c=>q (by rw[<-e,c,own]);refine ⟨fun b o e=> ?_,fun b o e=> ?_,fun b e=> ?_,I.fr.mv (fun b o e q=>kk b o _ (ka b _ e c4.noConfusion) e q) (fun b e=>nn c4.noConfusion e),⟨fun p hp=> ?_,(Oi.mp nd).2,fun z e=>(I.gh.tab z e).map (fun b o e=>(bG (ka b _ e c4.noConfusion)).trans e) fun b o q=>have ne:=Ne.symm (q.2.2 (a,_) (by rw[hG];exact .head _));⟨hs b o ne q.1,(bG ne).trans q.2.1,fun p hp=>q.2.2 p (by rw[hG];exact .tail _ hp)⟩⟩,fun b c k j e f=> ?_,fun b k j e=> ?_,fun k o e=>(I.obj k o e).mv (fun b o e=>(bG (ka b _ e c4.noConfusion)).trans e) fun b j o e q=>kk b o _ (ka b _ e c4.noConfusion) e q⟩
 .obtain ⟨e1,e2⟩:=I.base b o e;exact (kk b o _ (ka b _ e2 c4.noConfusion) e2 e1).symm
 .rcases cs b with ⟨_,q⟩|⟨c,q⟩
  .cases q.symm.trans e
  .exact hs b o c (I.fz b o (q.symm.trans e))
 .rcases cs b with ⟨_,q⟩|⟨c,q⟩
  .exact absurd q e
  .obtain ⟨o,z⟩:=I.live b (q ▸ e);exact ⟨o,hs b o c z⟩
 .have z:=I.gh.at_ p (by rw[hG];exact .tail _ hp);exact (kk _ _ _ (fun c=>(Oi.mp nd).1 (NQ.mpr ⟨p,hp,c⟩)) z.2 z.1).symm
 .rcases cs b with ⟨_,q⟩|⟨_,q⟩
  .cases q.symm.trans e
  .rcases cs c with ⟨_,q'⟩|⟨_,q'⟩
   .cases q'.symm.trans f
   .exact I.one b c k j (q.symm.trans e) (q'.symm.trans f)
 .rcases cs b with ⟨_,q⟩|⟨_,q⟩
  .cases q.symm.trans e
  .exact I.bd b k j (q.symm.trans e)
theorem tX (I:aK C P) (hG:P.G=(a,o)::G):P.own a= .gh/\P.h.get? a=some o:=by
 have z:=I.gh.at_ (a,o) (by rw[hG];exact .head _);exact ⟨z.2,z.1⟩
theorem jp (e:w a= .gh):Fz w (fY w a .no):=fun b o q=>(bG fun c=>by rw[c,e] at q;cases q).trans q
theorem lJ {b:Addr} (q:fY w a .no b= .cell n j):w b= .cell n j:=by
 rcases cG w a .no b with ⟨_,r⟩|⟨_,r⟩
 .cases r.symm.trans q
 .exact r.symm.trans q
theorem RV.show (e:P.own a= .gh):∀ {p:PV},RV C P v p->RV C (P.show h t a G) v p:=fun r=>r.mv (P':=P.show h t a G) (jp e) (fun _ _ h=>h) fun _ _ _ _ q=>lJ q
end
structure ki (P₀ P:Pt) (a:Addr) (o:Obj):Prop where
 sm:pt P₀.s P.s
 fs:qj P₀.fs P.fs
 G:P.G=(a,o)::P₀.G
 fz:Fz P₀.own P.own
 val:∀ n j,c8 P₀.σ n j->c8 P.σ n j
 cell:∀ n j b,c8 P₀.σ n j->P.own b= .cell n j->P₀.own b= .cell n j
theorem ki.show (x:ki P₀ P a o) (e:P.own a= .gh):eA P₀ (P.show h t a P₀.G):=
 ⟨⟨x.sm.trans ⟨h,t,rfl⟩,rfl,fun b o q=>jp e b o (x.fz b o q),x.val,fun n j b v q=>x.cell n j b v (lJ q)⟩,x.fs⟩
theorem ki.grow (x:ki P₀ P a o) (g:eA P P'):ki P₀ P' a o:=
 ⟨x.sm.trans g.sm,x.fs.trans g.fs,g.G.trans x.G,fun b o q=>g.fz b o (x.fz b o q),fun n j v=>g.val n j (x.val n j v),fun n j b v q=>x.cell n j b v (g.cell n j b (x.val n j v) q)⟩
theorem ki.turn (x:ki P₀ P a o):ki P₀ {P.to h t with G:=(a,o')::P₀.G} a o':=
 ⟨x.sm.trans ⟨h,t,rfl⟩,x.fs,rfl,x.fz,x.val,x.cell⟩
theorem ki.start (e:P.own a= .no) (hf:∃ f r,P.fs=f::r):ki P (P.hide h t a o) a o:=by
 obtain ⟨f,r,hf⟩:=hf;refine ⟨⟨h,t,rfl⟩,by show qj P.fs P.fs;rw[hf];exact .mk (.refl f),rfl,eH e,fun _ _ v=>v,fun n j b v q=> ?_⟩;rcases cG P.own a .gh b with ⟨_,r⟩|⟨_,r⟩
 .cases r.symm.trans q
 .exact r.symm.trans q
end
structure Hw (C:bC) (va:Value) (x:D) (w:bI) (I:Addr) (St:Nat->Heap->Prop):Prop where
 own:∀ i h h',St i h->h'.get? I=h.get? I->St i h'
 fld:∀ i h,St i h->∃ o,h.get? I=some o
 self:∀ (A:Around) (i:Nat) (s:Shared) (Q:Value->Shared->Prop) (E:Value->Shared->Prop),St i s.heap->Q (.ref I) s->wpAny C.M A (pyIter (.ref I)) Q E s
 item:∀ (A:Around) (i:Nat) (P:Pt) (xs:List D) (y:D) (Q:Option Value->Shared->Prop) (E:Value->Shared->Prop),A.handled=none->aK C P->Fz w P.own->fM C P va x->items x=some xs->xs[i]? =some y->St i P.h->
  (∀ val h' tk,RD C P.own y val->St (i+1) h'->(∀ b o,b≠I->P.h.get? b=some o->h'.get? b=some o)->Q (some val) {P.s with heap:=h',toks:=tk})->wpAny C.M A (pyNext (.ref I)) Q E P.s
 done:∀ (A:Around) (i:Nat) (P:Pt) (xs:List D) (Q:Option Value->Shared->Prop) (E:Value->Shared->Prop),A.handled=none->aK C P->Fz w P.own->fM C P va x->items x=some xs->xs.length=i->St i P.h->
  (∀ h' tk,(∀ b o,b≠I->P.h.get? b=some o->h'.get? b=some o)->Q none {P.s with heap:=h',toks:=tk})->wpAny C.M A (pyNext (.ref I)) Q E P.s
section
theorem Gm (I:aK C P) {va:Value} {l:List D} (hn:lc C P.own dh l va)
  (k:∀ o St,o.isFreed=false->Hw C va (.tup l) P.own P.h.objs.size St->St 0 (P.h.push o)->Q (.ref P.h.objs.size) {P.s with heap:=P.h.push o}):wpAny C.M A (pyIter va) Q E P.s:=by
 obtain @⟨a,vs,n,o,r⟩:=hn;refine wpAny_pyIter_tuple (items:=vs.toArray) ⟨_,I.fz _ _ o,rfl,n,rfl⟩ (k _ (fun i h=>h.IsTupleIter P.h.objs.size a i) rfl ⟨?_,?_,fun A i s Q E st h=>wpAny_pyIter_tupleiter st h,?_,?_⟩ ⟨_,NU _ rfl,rfl,rfl⟩)
 .exact fun i h h' x e=>x.at fun o q=>e.trans q
 .rintro i h ⟨o,ho,_⟩;exact ⟨o,ho⟩
 .intro A i P' xs y Q E hh I' fz hr hx hi hst k;cases hx;obtain ⟨w,hw,hrw⟩:=(r.ext fz).get hi;exact wpAny_pyNext_tuple_item hst ⟨_,I'.fz _ _ (fz _ _ o),rfl,_,rfl⟩ (x:=w) (by simpa using hw) fun h' h1 h2=>k w h' P'.s.toks hrw h1 fun b o hb e=>h2.extBut b o hb e
 .intro A i P' xs Q E hh I' fz hr hx hi hst k;cases hx;exact wpAny_pyNext_tuple_end hh hst ⟨_,I'.fz _ _ (fz _ _ o),rfl,_,rfl⟩ (by simp [r.length,hi]) fun h' h2=>k h' P'.s.toks fun b o hb e=>h2 b o hb e
theorem Gp (I:aK C P) {va:Value} {l:List D} (hn:ja C P l va)
  (k:∀ o St,o.isFreed=false->Hw C va (.lst l) P.own P.h.objs.size St->St 0 (P.h.push o)->Q (.ref P.h.objs.size) {P.s with heap:=P.h.push o}):wpAny C.M A (pyIter va) Q E P.s:=by
 obtain @⟨a,vs,n,o,_,r⟩:=hn;refine wpAny_pyIter_list (items:=vs.toArray) ⟨_,o,rfl,_,rfl⟩ (k _ (fun i h=>h.IsListIter P.h.objs.size a i) rfl ⟨?_,?_,fun A i s Q E st h=>wpAny_pyIter_listiter st h,?_,?_⟩ ⟨_,NU _ rfl,rfl,rfl⟩)
 .exact fun i h h' x e=>x.at fun o q=>e.trans q
 .rintro i h ⟨o,ho,_⟩;exact ⟨o,ho⟩
 .intro A i P' xs y Q E hh I' fz hr hx hi hst k;cases (dS hx).2;generalize he:Value.ref a=v at hr;obtain @⟨b,vs',n',o',_,r'⟩:ja C P' l v:=hr;cases he;obtain ⟨w,hw,hrw⟩:=r'.get hi;exact wpAny_pyNext_list_item hst ⟨_,o',rfl,_,rfl⟩ (x:=w) (by simpa using hw) fun h' h1 h2=>k w h' P'.s.toks hrw h1 fun b o hb e=>h2.extBut b o hb e
 .intro A i P' xs Q E hh I' fz hr hx hi hst k;cases (dS hx).2;generalize he:Value.ref a=v at hr;obtain @⟨b,vs',n',o',_,r'⟩:ja C P' l v:=hr;cases he;exact wpAny_pyNext_list_end hh hst ⟨_,o',rfl,_,rfl⟩ (by simp [r'.length,hi]) fun h' h2=>k h' P'.s.toks fun b o hb e=>h2 b o hb e
theorem Gn (I:aK C P) {va:Value} {l:List Nat} (hn:kl l/\∃ t,va= .str (cE l) t)
  (k:∀ o St,o.isFreed=false->Hw C va (.str l) P.own P.h.objs.size St->St 0 (P.h.push o)->Q (.ref P.h.objs.size) {P.s with heap:=P.h.push o}):wpAny C.M A (pyIter va) Q E P.s:=by
 obtain ⟨hs,t,q⟩:=hn;subst q;have hchar:∀ i (x:D) (xs:List D),items (.str l)=some xs->xs[i]? =some x->∃ c,x= .str [c]/\l[i]? =some c/\kl [c]:=fun i x xs hx hi=>by
  cases (dS hx).2;rw[NR] at hi;obtain ⟨c,hc,rfl⟩:=Ok.mp hi;exact ⟨c,rfl,hc,fun d hd=>by rw[NG.mp hd];exact hs.1 c (N5 hc),by simp [cS]⟩
 have hlen:∀ (xs:List D),items (.str l)=some xs->xs.length=l.length:=fun xs hx=>by
  cases (dS hx).2;simp
 cases ha:(cE l).cps.all (· <128)
 .refine wpAny_pyIter_wide ha (k _ (fun i h=>h.IsStrIter P.h.objs.size "str_iterator" (cE l) t i) rfl ⟨?_, ?_,fun A i s Q E st h=>wpAny_pyIter_striter_wide st h, ?_, ?_⟩ ⟨_,NU _ rfl,rfl,rfl⟩)
  .rintro i h h' ⟨o,ho,r⟩ e;exact ⟨o,e.trans ho,r⟩
  .rintro i h ⟨o,ho,_⟩;exact ⟨o,ho⟩
  .intro A i P' xs y Q E hh I' fz hr hx hi hst k;obtain ⟨c,rfl,hc,hk⟩:=hchar i y xs hx hi;exact wpAny_pyNext_wide_item hst (c:=c) (by simpa using hc) fun h' h1 h2=>k _ h' _ (.str [c] _ hk) h1 fun b o hb e=>h2.extBut b o hb e
  .intro A i P' xs Q E hh I' fz hr hx hi hst k;exact wpAny_pyNext_wide_end hh hst (by simp [<-hi,hlen xs hx]) fun h' h2=>k h' P'.s.toks fun b o hb e=>h2 b o hb e
 .refine wpAny_pyIter_ascii ha (k _ (fun i h=>h.IsStrIter P.h.objs.size "str_ascii_iterator" (cE l) t i) rfl ⟨?_, ?_,fun A i s Q E st h=>wpAny_pyIter_striter_ascii st h, ?_, ?_⟩ ⟨_,NU _ rfl,rfl,rfl⟩)
  .rintro i h h' ⟨o,ho,r⟩ e;exact ⟨o,e.trans ho,r⟩
  .rintro i h ⟨o,ho,_⟩;exact ⟨o,ho⟩
  .intro A i P' xs y Q E hh I' fz hr hx hi hst k;obtain ⟨c,rfl,hc,hk⟩:=hchar i y xs hx hi;exact wpAny_pyNext_ascii_item hst (c:=c) (by simpa using hc) fun h' h1 h2=>k _ h' _ (.str [c] _ hk) h1 fun b o hb e=>h2.extBut b o hb e
  .intro A i P' xs Q E hh I' fz hr hx hi hst k;exact wpAny_pyNext_ascii_end hh hst (by simp [<-hi,hlen xs hx]) fun h' h2=>k h' P'.s.toks fun b o hb e=>h2 b o hb e
theorem Go (I:aK C P) {va:Value} {a b c:Int} {xs:List D} (hn:Hg P.own a b c va) (hx0:items (.rng a b c)=some xs)
  (k:∀ o St,o.isFreed=false->Hw C va (.rng a b c) P.own P.h.objs.size St->St 0 (P.h.push o)->Q (.ref P.h.objs.size) {P.s with heap:=P.h.push o}):wpAny C.M A (pyIter va) Q E P.s:=by
 obtain @⟨r,t,u,v,hm⟩:=hn;obtain ⟨hg,_⟩:=dS hx0;simp only [Bool.and_eq_true,decide_eq_true_eq] at hg;obtain ⟨⟨⟨⟨g1,g2⟩,g3⟩,g4⟩,g5⟩:=hg;have s1: -(2^62)<a/\a<2^62:=by simpa [bQ] using g1
 have s2: -(2^62)<b/\b<2^62:=by simpa [bQ] using g2
 have hsize:Builtin.Range.rangeSize a b c=(eY a b c:Int):=by
  unfold Builtin.Range.rangeSize eY;rw[if_pos g3];split
  .have:0<=(b - a - 1) / c:=Int.ediv_nonneg (by omega) (by exact Ov g3);exact (Od (N9 this (Ot (by decide)))).symm
  .rfl
 have hfit:∀ i:Int,-(2^63)<=i->i<2^63->Builtin.Range.rangeFitsLong i=true:=fun i h1 h2=>by
  unfold Builtin.Range.rangeFitsLong;simp;exact ⟨h1,h2⟩
 have hsm:Builtin.Range.small a b c=true:=by
  unfold Builtin.Range.small;rw[hsize,hfit a (Ip s1) (Io s1),hfit b (Ip s2) (Io s2),hfit c (by exact N9 (by decide) g3) (by exact N9 g4 (by decide)),hfit _ (Lg) (by exact Ob.mpr (NZ g5 (NH rfl))),if_pos g3,hfit (b+(c - 1)) (by exact N9 (by decide:(-2^63:Int)<= -2^62+(0+1 - 1)) (Int.add_le_add (Ov s2.1) (Int.sub_le_sub_right (Int.add_one_le_of_lt g3) 1))) (by exact Int.lt_trans (Int.add_lt_add s2.2 (Int.sub_lt_sub_right g4 1)) (by decide))];simp
 refine wpAny_pyIter_range (I.fz _ _ hm) hsm (k _ (fun i h=>IsRangeIter h P.h.objs.size (a+(i:Nat)*c) ((eY a b c:Int) - (i:Nat)) c) rfl ⟨?_,?_,fun A i s Q E st h=>wpAny_pyIter_rangeiter st h,?_,?_⟩ ?_)
 .intro i h h' x e;exact e.trans x
 .intro i h x;exact ⟨_,x⟩
 .intro A i P' xs2 y Q E hh I' fz hr hx2 hi hst k;cases (dS hx2).2;rw[NR] at hi;obtain ⟨j,hj,rfl⟩:=Ok.mp hi;obtain ⟨hlt,hj⟩:=ND.mp hj;simp at hlt hj;subst hj;refine wpAny_pyNext_range_item hst (by exact Int.sub_pos_of_lt (Ob.mpr hlt)) fun h' h1 h2=>k _ h' _ (.int _ _) ?_ fun b o hb e=>h2.extBut b o hb e;have e1:a+((i+1:Nat):Int)*c=a+(i:Int)*c+c:=by push_cast;rw[Int.add_mul,Int.one_mul,Int.add_assoc]
  have e2:(eY a b c:Int) - ((i+1:Nat):Int)=(eY a b c:Int) - (i:Int) - 1:=by push_cast;exact Lf
  show IsRangeIter _ _ _ _ _;rw[e1,e2];exact h1
 .intro A i P' xs2 Q E hh I' fz hr hx2 hi hst k;cases (dS hx2).2;simp at hi;exact wpAny_pyNext_range_end hh hst (Le hi) fun h' h2=>k h' P'.s.toks fun b o hb e=>h2 b o hb e
 .rw[hsize];have:=NU P.h (o:={cls:=.type "range_iterator",data:=.fields #[rawInt a,rawInt (eY a b c:Int),rawInt c]}) rfl
  simpa using this
end
section
theorem Gg {d:KD C} (hd:uy C d) {c:d.K} {kv:Value} (h:letI:=d.dec;d.knd.is c kv=true) (ok:d.ok c):RD C w (d.toD c) kv:=by
 cases hd with
 |str=>
  cases kv with
  |str x t=>
   have e:x=c:=by simpa [PySem.strKind,Value.isStrOf] using h
   rw[e];exact jW rfl ok t
  |_=>simp [PySem.strKind,Value.isStrOf] at h
 |int=>
  cases kv with
  |int x t=>
   have e:x=c:=by simpa [intKind,Value.isInt] using h
   rw[e];exact .int c t
  |_=>simp [intKind,Value.isInt] at h
theorem Gq (G:gq C) (I:aK C P) {va:Value} {ks ps ys:List D} (hn:EA C P.own ks ps va) (hit:items (.dct ks ps)=some ys)
  (k:∀ o St,o.isFreed=false->Hw C va (.dct ks ps) P.own P.h.objs.size St->St 0 (P.h.push o)->Q (.ref P.h.objs.size) {P.s with heap:=P.h.push o}):wpAny C.M A (pyIter va) Q E P.s:=by
 obtain @⟨a,o,vs,ho,hda,_⟩:=hn;cases hda with
 |pr xs es ep _ _ _ _ _ e _ hne=>
  have hf:=(dS hit).1.2;cases xs with
  |nil=>exact absurd rfl hne
  |cons x xs=>rw[e] at hf;cases hf
 |mk d l hd h1 h2 h3 h4=>
 letI:=d.dec
 obtain ⟨es,ep,z1,z2,z3,z4,z5⟩:=h1;have hD:∀ P':Pt,aK C P'->Fz P.own P'.own->P'.h.DictAt d.knd a l ep:=fun P' I' fz=>⟨o,es,I'.fz _ _ (fz _ _ ho),z1,z2,z3,z4,z5⟩;refine wpAny_pyIter_dict (ep:=ep) (fP G I (by rw[ho];nofun)) (hD P I fun _ _ e=>e) (k _ (fun i h=>h.IsKeyIter P.h.objs.size a i l.length ep) rfl ⟨?_,?_,fun A i s Q E st h=>wpAny_pyIter_keyiter st h,?_,?_⟩ ⟨_,NU _ rfl,rfl,rfl⟩)
 .exact fun i h h' x e=>x.at fun o q=>e.trans q
 .rintro i h ⟨o,ho,_⟩;exact ⟨o,ho⟩
 .intro A i P' xs y Q E hh I' fz hr hx hi hst k;have e:=(dS hx).2;rw[<-e,h2,NR] at hi;obtain ⟨⟨c,v⟩,hc,rfl⟩:=Ok.mp hi;refine wpAny_pyNext_dict_item hst (hD P' I' fz) hc fun kv h' hkv g1 g2=> ?_;exact k _ h' P'.s.toks (Gg hd hkv (h4 _ (N5 hc))) g1 fun b o hb e=>g2.extBut b o hb e
 .intro A i P' xs Q E hh I' fz hr hx hi hst k;have e:=(dS hx).2;rw[<-e,h2,Nz] at hi;exact wpAny_pyNext_dict_end hh hst (hD P' I' fz) (by rw[<-hi];exact List.getElem?_eq_none (NM _)) fun h' h2=>k h' P'.s.toks fun b o hb e=>h2 b o hb e
noncomputable def FV (x:D):PV->Bool
 | .d _=>true
 |_=>Nr x
noncomputable def uz (v:PV) (σ:av):Option (D×List D):=(rd σ v).bind fun x=>(aq (FV x v=true) ()).bind fun _=>(items x).map fun xs=>(x,xs)
theorem ot {v:PV} {x:D} {xs:List D} (h:uz v σ=some (x,xs)):rd σ v=some x/\FV x v=true/\items x=some xs:=by
 obtain ⟨y,e1,h⟩:=am h;obtain ⟨_,e2,h⟩:=am h;obtain ⟨ys,e3,h⟩:=aN h;cases h;exact ⟨e1,(dS e2).1,e3⟩
theorem w0 (G:gq C) (I:aK C P) {v:PV} {va:Value} {x:D} {xs:List D} (r:RV C P va v) (e:uz v P.σ=some (x,xs))
  (k:∀ o St,o.isFreed=false->Hw C va x P.own P.h.objs.size St->St 0 (P.h.push o)->Q (.ref P.h.objs.size) {P.s with heap:=P.h.push o}):wpAny C.M A (pyIter va) Q E P.s:=by
 obtain ⟨e1,e2,e3⟩:=ot e;have hn:=bz I r e1;cases x with
 |tup l=>exact Gm I (RD.view hn) k
 |lst l=>exact Gp I hn k
 |str l=>exact Gn I (RD.view hn) k
 |rng a b c=>exact Go I (RD.view hn) e3 k
 |dct ks ps=>
  cases v with
  |p n j=>cases e2
  |b _ _=>cases e2
  |d y=>
   cases e1;exact Gq G I (RD.view r) e3 k
 |_=>cases e3
theorem qm {v:PV} {va:Value} {x:D} (I':aK C P') (r:RV C P' va v):∀ {σ:av},rd σ v=some x->bN P'.σ x v=true->fM C P' va x:=fun {σ} e h=>by
 cases v with
 |d y=>cases e;exact iL I' r
 |p n j=>exact bz I' r (@Of _ (_) h)
 |b _ _=>cases e
end
noncomputable def g6 (e:Expr):Bool:=e.ctorIdx !=7
theorem jq (h:g6 e=true) (x:Value):foldedSetIterable e env x=pure x:=by
 cases e<;>first|rfl|(cases h;done)
def fK (K:Out->av->Prop) (v:PV) (x:D) (i:Nat) (body:bb->av->Option (Out×av)) (r:List D):Out->av->Prop
 | .next ρ,σ=>bN σ x v=true/\ij K (c6 v x i body r ρ σ)
 |o,σ=>K o σ
theorem E9 {K:Out->av->Prop} {v:PV} {x y:D} {body:bb->av->Option (Out×av)} {r:List D} (h:ij K (c6 v x i body (y::r) ρ σ)):ij (fK K v x i body r) (body (ρ.set i (some (.d y))) σ):=by
 have h:ij K (match body (ρ.set i (some (.d y))) σ with
  |some (.next ρ',σ')=>if bN σ' x v then c6 v x i body r ρ' σ' else none
  |z=>z):=h
 generalize body (ρ.set i (some (.d y))) σ=z at h
 match z,h with
 |none,h=>exact h
 |some (.ret _,_),h=>exact h
 |some (.ex _ _,_),h=>exact h
 |some (.next ρ',σ'),h=>
  have h:ij K (if bN σ' x v then c6 v x i body r ρ' σ' else none):=h;cases q:bN σ' x v with
  |true=>rw[q] at h;exact ⟨q,h⟩
  |false=>rw[q] at h;exact h.elim
inductive JJ (X:SX) (K:Out->av->Prop) (b:CS) (i:Nat) (v:PV) (va:Value) (x:D) (xs:List D) (σ₀:av) (St:Nat->Heap->Prop) (P₀:Pt) (n:Nat) (s:Shared):Prop
 |mk (P:Pt) (ρ:bb) (j:Nat) (o:Obj):P.s=s->ki P₀ P P₀.h.objs.size o->aK X.C P->cn X P ρ->RV X.C P va v->bN P.σ x v=true->St j P.h->j<=xs.length->n=xs.length - j->
  ij K (c6 v x i (fun ρ=>b.ex X.ker ρ) (xs.drop j) ρ P.σ)->JJ X K b i v va x xs σ₀ St P₀ n s
section
variable {X:SX} {K:Out->av->Prop} {Q:Flow->Shared->Prop}
theorem cn.show (e:P.own a= .gh) (q:cn X P ρ):cn X (P.show h t a G) ρ:=
 ⟨⟨q.frs,q.ne,fun x i p h1 h2 h3=>by
  obtain ⟨v,r,l⟩:=q.var x i p h1 h2 h3;exact ⟨v,r.show e,l⟩⟩,q.hd⟩
theorem yH {b:Addr} (h:kept (fY w a .no b)):kept (w b):=by
 rcases cG w a .no b with ⟨_,r⟩|⟨_,r⟩
 .rw[r] at h;exact h.elim
 .rw[r] at h;exact h
theorem qk.show {e:Value}:qk C A P c e->qk C A (P.show P.h P.s.toks a G) c e:=fun h=>by
 obtain ⟨h1,B,k1,k2,k3,k4,k5,k6⟩:=h;exact ⟨h1,B,k1,k2,k3,k4,fun b o q=>k5 b o (yH q),k6⟩
theorem cW.past (p:cW X P₀ K Q E) (x:ki P₀ P a o) (I:aK X.C P):(∀ q v P',eA P P'->aK X.C P'->RV X.C P' v q->K (.ret q) P'.σ->Q (.ret v) P'.s)/\(∀ c ρ e P',eA P P'->aK X.C P'->qk X.C X.A P' c e->cn X P' ρ->K (.ex c ρ) P'.σ->E e P'.s):=by
 refine ⟨fun q v P' g I' r k=> ?_,fun c ρ e P' g I' xx G k=> ?_⟩
 .have x':=x.grow g;have w:=(tX I' x'.G).1;exact p.ret q v (P'.show P'.h P'.s.toks a P₀.G) (x'.show w) (I'.show x'.G fun _ _ _ e=>e) (r.show w) k
 .have x':=x.grow g;have w:=(tX I' x'.G).1;exact p.ex c ρ e (P'.show P'.h P'.s.toks a P₀.G) (x'.show w) (I'.show x'.G fun _ _ _ e=>e) xx.show (G.show w) k
end
noncomputable def co (h:Heap):List Addr->Heap
 |[]=>h
 |a::r=>(co h r).update a fun o=>{o with data:=.freed}
theorem get?_freed (h:Heap) (a b:Addr):(h.update a fun o=>{o with data:=.freed}).get? b=if b=a then none else h.get? b:=by
 by_cases e:b=a
 .subst e;rw[if_pos rfl];unfold Heap.get? Heap.update;rw[Array.getElem?_modify,if_pos rfl];cases h.objs[b]? <;>rfl
 .rw[if_neg e];exact Heap.get?_update_other _ _ (Ne.symm e)
theorem get?_without (h:Heap):∀ (l:List Addr) (b:Addr),(co h l).get? b=if b∈l then none else h.get? b:=by
 intro l
 induction l with
 |nil=>
  intro b;show h.get? b=_;simp
 |cons a r ih=>
  intro b;show ((co h r).update a fun o=>{o with data:=.freed}).get? b=_;rw[get?_freed,ih b];by_cases e:b=a
  .simp [e]
  .simp [e]
section
variable {M:Model} {outer:List Env} {e:Addr}
theorem aK.slots (I:aK C P) (kb:∀ b o,C.H.get? b=some o->h'.get? b=some o) (kn:∀ b o,kept (P.own b)->P.h.get? b=some o->h'.get? b=some o) (u:P.h.UpToSlots h'):aK C (P.to h' P.s.toks):=by
 have kk:∀ b o x,P.own b=x->kept x->P.h.get? b=some o->P.own b=x/\h'.get? b=some o:=fun b o x e q z=>⟨e,kn b o (e ▸ q) z⟩;refine ⟨fun b o e=>⟨kb b o e,(I.base b o e).2⟩,fun b o e=>(kk b o _ e trivial (I.fz b o e)).2,fun b e=> ?_,⟨fun f hf=>⟨u.ns (I.fr.ns f hf).1,(I.fr.ns f hf).2⟩,fun f hf c hc=>⟨?_,(I.fr.cl f hf c hc).2⟩,I.fr.ord,I.fr.all⟩,I.gh.mv (fun _ _ e=>e) fun b o e q=>kk b o _ e trivial q,I.one,I.bd,fun n o e=>(I.obj n o e).mv (fun _ _ e=>e) fun b j o e q=>kk b o _ e trivial q⟩
 .obtain ⟨o,ho⟩:=I.live b e;cases q:P.own b with
  |no=>exact absurd q e
  |fr=>
   have z:∀ vs,o.data≠ .fields vs:=by
    obtain ⟨f,hf,hm⟩:=I.fr.all b q;rcases NB.mp hm with r|r
    .obtain ⟨o',es,ep,h1,h2,_⟩:=(I.fr.ns f hf).1;rw[<-r,ho] at h1;cases h1;intro vs;rw[h2];nofun
    .obtain ⟨o',h1,h2⟩:=(I.fr.cl f hf b r).1;rw[ho] at h1;cases h1;intro vs;rw[h2];nofun
   obtain ⟨sl,e⟩:=u b o ho z;exact ⟨_,e⟩
  |fz o'=>exact ⟨o,kn b o (by rw[q];trivial) ho⟩
  |cell n j=>exact ⟨o,kn b o (by rw[q];trivial) ho⟩
  |gh=>exact ⟨o,kn b o (by rw[q];trivial) ho⟩
 .obtain ⟨o,ho,hd⟩:=(I.fr.cl f hf c hc).1;obtain ⟨sl,e⟩:=u c o ho fun vs q=>by rw[hd] at q;cases q
  exact ⟨_,e,hd⟩
def gp (C:bC) (P:Pt) (ls:List Env) (e:Addr) (c:Nat) (fl:Value):Prop:=
 ∃ B:Heap,B.StaysIn P.h/\B.get? e=none/\P.h.FunFrames B ls/\(∀ b o,C.H.get? b=some o->B.get? b=some o)/\(∀ b o,kept (P.own b)->P.h.get? b=some o->B.get? b=some o)/\∃ a0,P.h.TracedAtW B e (.ref (C.exc c)) a0 fl
theorem gp.at (hf:env.frame=some L) (x:gp C P (env::outer) e c (rawInt L)):qX C P (env::outer) e c:=by
 refine bJ fun G9 k9=> ?_;obtain ⟨B,k1,k2,k3,k4,k5,a0,ht⟩:=x;refine k9 ?_;exact ⟨B,k1,k2,k3,k4,k5,.inr (.inr ⟨a0,env,L,rfl,hf,ht⟩)⟩
theorem m4 {B:Heap} (I:aK C P) (k1:B.StaysIn P.h) (k5:∀ b o,kept (P.own b)->P.h.get? b=some o->B.get? b=some o):∀ b o,kept (P.own b)->h'.get? b=some o->B.StaysIn h'->B.get? b=some o:=fun b o q z s=>by
 obtain ⟨o',ho⟩:=I.live b (fun e=>by rw[e] at q;exact q);have:=k5 b o' q ho;rw[s b o' this] at z;cases z;exact this
theorem yX {L:Addr} {Q:Unit->Shared->Prop} (hfr:A.frames=some (env::outer)) (hf:env.frame=some L) (I:aK C P) (hx:qX C P (env::outer) e c)
  (hQ:∀ h',aK C (P.to h' P.s.toks)->qX C (P.to h' P.s.toks) outer e c->Q () {P.s with heap:=h'}):wpAny M A (leaving env (.ref e)) Q E P.s:=by
 refine bJ fun G9 k9=> ?_;obtain ⟨B,k1,k2,k3,k4,k5,hx⟩:=hx;refine k9 ?_;have fin:∀ h',B.StaysIn h'->h'.FunFrames B outer->P.h.UpToSlots h'->(∃ a0,h'.TracedW B e (.ref (C.exc c)) a0)->Q () {P.s with heap:=h'}:=fun h' x1 x2 x4 x3=>
  hQ h' (I.slots (fun b o q=>x1 b o (k4 b o q)) (fun b o q z=>x1 _ _ (k5 b o q z)) x4) ⟨B,x1,k2,x2,k4,fun b o q z=>m4 I k1 k5 b o q z x1,.inr (.inl x3)⟩
 rcases hx with ⟨oe,vs,a0,he,hc,hd,h1,h0⟩|⟨a0,ht⟩|⟨a0,env',L',hh,hf',ht⟩
 .exact wpAny_leaving_firstW hfr k3 hf he k1 k2 hd h1 h0 fun h' ⟨x1,⟨_,_,x2⟩,x3,x4⟩=>fin h' x1 x2 x4 ⟨a0,hc ▸ x3⟩
 .exact wpAny_leaving_nextW hfr k3 hf ht k1 k2 fun h' ⟨x1,⟨_,_,x2⟩,x3,x4⟩=>fin h' x1 x2 x4 ⟨a0,x3⟩
 .cases hh;unfold leaving;refine NN (wpAny_noteFrame_againW hf' ht ?_);refine wpAny_setFlight_noneW k1 k3 ht fun h' x1 x2 x3 x4=> ?_;obtain ⟨_,_,x2⟩:=x2;exact fin h' x1 x2 (fun b o hb hn=>⟨o.slots,x4 b o hb hn⟩) ⟨a0,x3⟩
theorem oM {L:Addr} {Q:Unit->Shared->Prop} (hfr:A.frames=some (env::outer)) (hf:env.frame=some L) (I:aK C P) (hx:qX C P (env::outer) e c)
  (hQ:∀ h',aK C (P.to h' P.s.toks)->gp C (P.to h' P.s.toks) (env::outer) e c (rawInt L)->Q () {P.s with heap:=h'}):wpAny M A (noteFrame (.ref e) env) Q E P.s:=by
 refine bJ fun G9 k9=> ?_;obtain ⟨B,k1,k2,k3,k4,k5,hx⟩:=hx;refine k9 ?_;have fin:∀ h',B.StaysIn h'->h'.FunFrames B (env::outer)->P.h.UpToSlots h'->(∃ a0,h'.TracedAtW B e (.ref (C.exc c)) a0 (rawInt L))->Q () {P.s with heap:=h'}:=fun h' x1 x2 x4 x3=>
  hQ h' (I.slots (fun b o q=>x1 b o (k4 b o q)) (fun b o q z=>x1 _ _ (k5 b o q z)) x4) ⟨B,x1,k2,x2,k4,fun b o q z=>m4 I k1 k5 b o q z x1,x3⟩
 rcases hx with ⟨oe,vs,a0,he,hc,hd,h1,h0⟩|⟨a0,ht⟩|⟨a0,env',L',hh,hf',ht⟩
 .unfold noteFrame;simp only [hf];refine NN (wpAny_field he hd h1 ?_);rw[if_neg (by decide)];exact wpAny_entryW hfr k3 hf he k1 k2 hd (Array.getElem?_eq_some_iff.mp h1).1 h0 fun h' ⟨x1,x2,x3,x4⟩=>fin h' x1 x2 x4 ⟨a0,hc ▸ x3⟩
 .exact wpAny_noteFrame_onW hfr k3 hf ht k1 k2 fun h' ⟨x1,x2,x3,x4⟩=>fin h' x1 x2 x4 ⟨a0,x3⟩
 .cases hh;rw[hf] at hf';cases hf';exact wpAny_noteFrame_againW hf ht (hQ P.h I ⟨B,k1,k2,k3,k4,k5,a0,ht⟩)
theorem xl {L:Addr} {Q:Unit->Shared->Prop} (hf:env.frame=some L) (I:aK C P) (hx:gp C P ls e c (rawInt L))
  (hQ:∀ h',aK C (P.to h' P.s.toks)->gp C (P.to h' P.s.toks) ls e c (rawInt L)->Q () {P.s with heap:=h'}):wpAny M A (setFlight (.ref e) env.frame) Q E P.s:=by
 refine bJ fun G9 k9=> ?_;obtain ⟨B,k1,k2,k3,k4,k5,a0,oe,vs,T,oT,ts,he,hcls,hd,h1,hnT,hTe,hT,hdT,h3⟩:=hx;refine k9 ?_;have hsz3:3<ts.size:=(Array.getElem?_eq_some_iff.mp h3).1;have cJ:∀ b,b≠T->(P.h.update T (Obj.mapFields (·.setIfInBounds 3 (rawInt L)))).get? b=P.h.get? b:=
  fun b hb=>Heap.get?_update_other _ _ (Ne.symm hb)
 have noRecord:∀ b o,P.h.get? b=some o->(∀ vs,o.data≠ .fields vs)->b≠T:=fun b o hb hnf q=>by
  rw[q,hT] at hb;injection hb with hb;subst hb;exact hnf ts hdT
 unfold setFlight;refine NN (wpAny_field he hd h1 ?_);rw[if_pos (show (Value.ref T !=Value.none)=true from by simp),hf];have st:∀ b o,B.get? b=some o->(P.h.update T (Obj.mapFields (·.setIfInBounds 3 (rawInt L)))).get? b=some o:=fun b o hbo=>(cJ b fun q=>by rw[q,hnT] at hbo;cases hbo).trans (k1 b o hbo);refine wpAny_setField hT hdT hsz3 (hQ _ (I.slots (fun b o q=>st b o (k4 b o q)) (fun b o q z=>st _ _ (k5 b o q z)) fun b o hb hn=>⟨o.slots,(cJ b (noRecord b o hb hn)).trans hb⟩) ?_);refine ⟨B,st,k2,k3.of_keeps fun b o hb hnf=>⟨o,(cJ b (noRecord b o hb hnf)).trans hb,rfl⟩,k4,fun b o q z=>m4 I k1 k5 b o q z st,a0,?_⟩;exact ⟨oe,vs,T,_,_,(cJ e (Ne.symm hTe)).trans he,hcls,hd,h1,hnT,hTe,Heap.get?_update_self _ hT (Obj.isFreed_of_fields (Obj.data_mapFields hdT _)),Obj.data_mapFields hdT _,by simp [hsz3]⟩
theorem gp.trail (hx:gp C P ls e c fl):∃ oe vs T,P.h.get? e=some oe/\oe.data= .fields vs/\vs[1]? =some (.ref T):=by
 refine bJ fun G9 k9=> ?_;obtain ⟨B,k1,k2,k3,k4,k5,a0,oe,vs,T,oT,ts,he,hcls,hd,h1,_⟩:=hx;refine k9 ?_;exact ⟨oe,vs,T,he,hd,h1⟩
theorem Bf {L:Addr} {Q:Unit->Shared->Prop} (hf:env.frame=some L) (I:aK C P) (hx:gp C P ls e c (rawInt L))
  (hQ:∀ h',aK C (P.to h' P.s.toks)->gp C (P.to h' P.s.toks) ls e c (rawInt L)->Q () {P.s with heap:=h'}):
  wpAny M A (do
   if (<-field (.ref e) 1)== .none then unsupported "frame.own-activation:exception-without-traceback"
   setFlight (.ref e) env.frame) Q E P.s:=by
 refine bJ fun G9 k9=> ?_;obtain ⟨oe,vs,T,he,hd,h1⟩:=hx.trail;refine k9 ?_;refine NN (wpAny_field he hd h1 ?_);rw[if_neg (show¬((Value.ref T==Value.none)=true) from by simp)];exact xl hf I hx hQ
theorem Bd {α:Type} {L:Addr} {what:String} {Q:α->Shared->Prop} (hf:env.frame=some L) (I:aK C P) (hx:gp C P ls e c (rawInt L))
  (hE:∀ h',aK C (P.to h' P.s.toks)->gp C (P.to h' P.s.toks) ls e c (rawInt L)->E (.ref e) {P.s with heap:=h'}):wpAny M A (PySem.passOn what (.ref e) env:Sem α) Q E P.s:=by
 refine bJ fun G9 k9=> ?_;obtain ⟨oe,vs,T,he,hd,h1⟩:=hx.trail;refine k9 ?_;unfold PySem.passOn;refine NN (wpAny_field he hd h1 ?_);rw[if_neg (show¬((Value.ref T==Value.none)=true) from by simp)];exact NN (xl hf I hx fun h' I' x'=>wpAny_throw (hE h' I' x'))
theorem Be {tk:Nat} (I:aK C P) (hA:qU A P.fs) (hx:Heap.MadeExcOf P.h h' e (.ref (C.exc c)) vs):aK C (P.to h' tk)/\qk C A (P.to h' tk) c (.ref e):=by
 refine bJ fun G9 k9=> ?_;obtain ⟨k,new,t,he,_,_⟩:=hx;obtain ⟨ls,hls,hl⟩:=hA;refine k9 ?_;refine ⟨I.to k,.mk hls ⟨co P.h (P.fs.map (·.L)),fun b o hb=> ?_,?_,?_,fun b o hb=> ?_,fun b o q hb=> ?_,.inl ⟨_,_,_,he,rfl,rfl,rfl,rfl⟩⟩⟩
 .rw[get?_without] at hb;split at hb
  .cases hb
  .exact k b o hb
 .rw[get?_without];split
  .rfl
  .exact new
 .clear hls
  induction ls with
  |nil=>trivial
  |cons env ls ih=>
   refine bJ fun G9 k9=> ?_;obtain ⟨a,f,hf,b⟩:=hl env (.head _);obtain ⟨o,es,ep,ho,hd,_⟩:=(I.fr.ns f hf).1;refine k9 ?_;refine ⟨a,⟨f.L,o,b,?_,k _ _ ho,fun vs q=>by rw[hd] at q;cases q⟩,ih fun e he=>hl e (.tail _ he)⟩;rw[get?_without,if_pos (List.mem_map_of_mem hf)]
 .rw[get?_without,if_neg]
  .exact (I.base b o hb).1
  .intro q;obtain ⟨f,hf,z⟩:=NQ.mp q;have:=(I.base b o hb).2;rw[<-z,(I.fr.ns f hf).2.1] at this;cases this
 .have hb':P.h.get? b=some o:=by
   obtain ⟨o',ho⟩:=I.live b (fun e=>by have q:kept (P.own b):=q;rw[e] at q;exact q);have:=k b o' ho;rw[show h'.get? b=some o from hb] at this;cases this;exact ho
  rw[get?_without,if_neg]
  .exact hb'
  .intro z;obtain ⟨f,hf,z⟩:=NQ.mp z;have q:kept (P.own b):=q;rw[<-z,(I.fr.ns f hf).2.1] at q;exact q
end
section
variable {X:SX} {K:Out->av->Prop} {Q:Flow->Shared->Prop}
theorem t6 {e:Value} {M:Model} (I:aK X.C P) (hx:qk X.C X.A P c e) (k:∀ P',bX P P'->aK X.C P'->P'.σ=P.σ->qk X.C X.A P' c e->E e P'.s):notedBy M X.A X.env (cameBackBy M X.A X.env E) e P.s:=by
 obtain ⟨h1,h2⟩:=hx;rw[X.fr] at h1;cases h1;unfold notedBy;refine oM X.fr X.frame I h2 fun h1 I1 x1=> ?_;unfold cameBackBy;refine Bf (P:=P.to h1 P.s.toks) X.frame I1 x1 fun h2 I2 x2=> ?_;exact k ((P.to h1 P.s.toks).to h2 P.s.toks) ((bX.to ..).trans (.to ..)) I2 rfl (.mk X.fr (x2.at X.frame))
noncomputable def MR (c:Nat) (m:List Nat) (s:Sx) (st:Stmt):Bool:=rF (fun ex cause _=>cause.isNone&&Gj (eb fun x es=>one (cc fun k _ _=>zj (fun t=>x==ia c&&decide (c<nX)&&et s.sc x&&t.cps.toList==m&&Hn m) k) es) ex) st
theorem Aj (c:Nat) (m:List Nat) (h:MR c m X.sx st=true) (I:aK X.C P) (G:cn X P ρ) (w:ij K (match X.ker.hd with|true=>none|false=>some (Out.ex c ρ,P.σ))) (p:cW X P K Q E):wpAny X.M X.A (PySem.exec st X.env) Q E P.s:=by
 refine rE (fun st=>wpAny X.M X.A (PySem.exec st X.env) Q E P.s) h fun ex cause pos h=> ?_;refine iM (fun cause=>wpAny X.M X.A (PySem.exec (.Raise ex cause pos) X.env) Q E P.s) (ai h) ?_;refine iO (fun ex=>wpAny X.M X.A (PySem.exec (.Raise ex none pos) X.env) Q E P.s) (an h) fun ex h=> ?_;refine d_ (fun ex=>wpAny X.M X.A (PySem.exec (.Raise (some ex) none pos) X.env) Q E P.s) h fun x px es q4 h=> ?_;refine fB (fun es=>wpAny X.M X.A (PySem.exec (.Raise (some (.Call (.Name x px) es [] q4)) none pos) X.env) Q E P.s) h fun a h=> ?_;refine cu (fun a=>wpAny X.M X.A (PySem.exec (.Raise (some (.Call (.Name x px) [a] [] q4)) none pos) X.env) Q E P.s) h fun k q2 q3 h=> ?_;refine lT (fun k=>wpAny X.M X.A (PySem.exec (.Raise (some (.Call (.Name x px) [.Constant k q2 q3] [] q4)) none pos) X.env) Q E P.s) h fun s h=> ?_;have hw:=an (ai (ai h));have h17:=Of (an (ai (ai (ai h))));rw[bO (ai (ai (ai (ai h))))] at hw ⊢;cases hh:X.hd with
 |true=>rw[show X.ker.hd=true from hh] at w;exact w.elim
 |false=>
 rw[show X.ker.hd=false from hh] at w;refine bJ fun G9 k9=> ?_;obtain ⟨tl,Nn,nm,q,bs,hdct,sn,sub,ab,col,dd,k0,k1,k2,k3,k5,mN,hcls,hN,hni,T⟩:=(X.good.exc c h17).obj;refine k9 ?_;have keep:∀ b o,X.C.H.get? b=some o->P.h.get? b=some o:=fun b o e=>(I.base b o e).1;refine wpAny_Raise_call_subT (C:=X.C.exc c) (nm:=nm) (q:=q) (N:=Nn) (bs:=bs) (bm:=tl) (hdct:=hdct) (sn:=sn) (sub:=sub) (ab:=ab) (col:=col) (dd:=dd) (k0:=k0) (k1:=k1) (k2:=k2) (k3:=k3) (k5:=k5)
  PySem.F.excBase_ValueError (mN:=mN) (T.hasType PySem.F.excBase_ValueError.hasBase) (X.hnd hh) rfl hni (dR I hw (X.good.exc c h17).bound ⟨rfl,?_⟩)
 refine dw (fun y hy=>by cases NG.mp hy;rfl) ?_;refine Calls.spliced_cons ?_;refine wpAny_Constant_str (k:=q2) (pos:=q3) ?_;refine Calls.spliced_nil ⟨rfl,by simp [sizeLine],keep _ _ hcls,hN.keeps keep,T.keeps keep,fun h' e hx=> ?_⟩;obtain ⟨I',x⟩:=Be (tk:=P.s.toks+1) I G.frs hx;exact p.ex c ρ _ (P.to h' (P.s.toks+1)) (G.gs (.to ..)) I' x (G.ext (.to ..)) w
end
noncomputable def b9 (c:Nat) (m:List Nat):C1:=⟨fun K ρ σ=>match K.hd with|true=>none|false=>some (.ex c ρ,σ),MR c m,fun _ _ _ _ _ _ _ h I G w p=>Aj c m h I G w p⟩
section
variable {X:SX} {K:Out->av->Prop} {Q:Flow->Shared->Prop}
theorem cn.hide (e:P.own a= .no) (q:cn X P ρ):cn X (P.hide h t a o) ρ:=
 ⟨⟨q.frs,q.ne,fun x i p h1 h2 h3=>by
  obtain ⟨v,r,l⟩:=q.var x i p h1 h2 h3;have pa:=ki.start (h:=h) (t:=t) (o:=o) e (by obtain ⟨f,r,z,_⟩:=q.hd;exact ⟨f,r,z⟩);exact ⟨v,r.mv pa.fz (fun _ _ z=>z) pa.cell,l⟩⟩,q.hd⟩
theorem RV.hide (e:P.own a= .no) (hf:∃ f r,P.fs=f::r) (r:RV C P v p):RV C (P.hide h t a o) v p:=by
 have pa:=ki.start (h:=h) (t:=t) (o:=o) e hf;exact r.mv pa.fz (fun _ _ z=>z) pa.cell
theorem RV.gto:∀ {p:PV},RV C P v p->RV C {P.to h t with G:=G} v p:=fun r=>r.mv (P':={P.to h t with G:=G}) (fun _ _ z=>z) (fun _ _ z=>z) fun _ _ _ _ z=>z
theorem cn.gto (q:cn X P ρ):cn X {P.to h t with G:=G} ρ:=
 ⟨⟨q.frs,q.ne,fun x i p h1 h2 h3=>by
  obtain ⟨v,r,l⟩:=q.var x i p h1 h2 h3;exact ⟨v,r.gto,l⟩⟩,q.hd⟩
theorem GL (i:Nat) (it:CE) (b:CS) (h:w9 (fun t e be el _=>el.isEmpty&&dc (fun x _=>X.sx.Γ.lookup x==some i&&fg X.sx.sc x&&g6 e&&it.is X.sx e&&b.is X.sx be) t) st=true) (I:aK X.C P) (G:cn X P ρ)
  (w:ij K (match X.ker.hd with|true=>none|false=>df ρ (it.ev X.ker ρ) (fun v σ=>jY (uz v σ) fun q=>c6 v q.1 i (fun ρ=>b.ex X.ker ρ) q.2 ρ σ) P.σ)) (p:cW X P K Q E):wpAny X.M X.A (PySem.exec st X.env) Q E P.s:=by
 refine vj (fun st=>wpAny X.M X.A (PySem.exec st X.env) Q E P.s) h fun t e be el pos h=> ?_;refine b_ (fun el=>wpAny X.M X.A (PySem.exec (.For t e be el pos) X.env) Q E P.s) (ai h) ?_;refine cj (fun t=>wpAny X.M X.A (PySem.exec (.For t e be [] pos) X.env) Q E P.s) (an h) fun y py h=> ?_;cases hd:X.hd with
 |true=>rw[show X.ker.hd=true from hd] at w;exact w.elim
 |false=>
 rw[show X.ker.hd=false from hd] at w;have hh:=X.hnd hd;refine wpAny_For (it.ok X.toCx e ρ P _ _ E (an (ai h)) I G.toEnvOK (eB w) (p.bind G fun v va P₀ g₀ I₀ r₀ w G₀ p=> ?_)) (jq (an (ai (ai h))));obtain ⟨⟨x,xs⟩,e0,w⟩:=gR w;obtain ⟨e1,e2,e3⟩:=ot e0;refine w0 X.good I₀ r₀ e0 fun oi St hof W st0=> ?_;have hfs:∃ f r,P₀.fs=f::r:=by obtain ⟨f,r,z,_⟩:=G₀.hd;exact ⟨f,r,z⟩
 have hn:=I₀.push hof;have still0:bN P₀.σ x v=true:=by
  cases v with
  |d y=>rfl
  |p n j=>exact @NP _ (_) e1
  |b _ _=>cases e1
 refine codeAny_forLoop (JJ X K b i v va x xs P₀.σ St P₀) ?_ xs.length ⟨P₀.hide (P₀.h.push oi) P₀.s.toks P₀.h.objs.size oi,ρ,0,oi,rfl,.start hn.own hfs,I₀.hide hn,G₀.hide hn.own,r₀.hide hn.own hfs,still0,st0,N3 _,rfl,w⟩;rintro n s ⟨P₁,ρ₁,j,o₁,rfl,x₁,I₁,G₁,r₁,s₁,st₁,hj,rfl,w⟩;have now₁:=qm I₁ r₁ e1 s₁;rcases Nat.lt_or_ge j xs.length with hlt|hge
 .rw[List.drop_eq_getElem_cons hlt] at w;refine W.item X.A j P₁ xs xs[j] _ _ hh I₁ x₁.fz now₁ e3 (NE hlt) st₁ fun val h' tk rv st₂ kp=> ?_;obtain ⟨o₂,ho₂⟩:=W.fld _ _ st₂;have I₂:=I₁.gturn (t:=tk) x₁.G kp ho₂;have x₂:=x₁.turn (o':=o₂) (h:=h') (t:=tk);have G₂:=G₁.gto (G:=(P₀.h.objs.size,o₂)::P₀.G) (h:=h') (t:=tk);refine wpAny_assign_Name (iE (p:=.d xs[j]) (bO (ai (ai (ai (ai h))))) (an (ai (ai (ai h)))) I₂ G₂ rv fun P₃ g₃ I₃ G₃ e₃=> ?_);have x₃:=x₂.grow g₃;have pp:=p.past x₃ I₃;refine b.ok X be _ P₃ (fK K v x i (fun ρ=>b.ex X.ker ρ) (xs.drop (j+1))) _ _ (an h) I₃ G₃ (by rw[e₃];exact E9 w) ⟨fun ρ₄ P₄ g₄ I₄ G₄ k=> ?_,fun q u P₄ g₄ I₄ r₄ k=>pp.1 q u P₄ g₄ I₄ r₄ k,fun c ρ' e P₄ g₄ I₄ xx G₄ k=> ?_⟩
  .have x₄:=x₃.grow g₄;refine ⟨xs.length - (j+1),K7 hlt,⟨P₄,ρ₄,j+1,o₂,rfl,x₄,I₄,G₄,?_,k.1,W.own _ _ _ st₂ ?_,hlt,rfl,k.2⟩⟩
   .exact (r₁.gto.ext g₃.toExt).ext g₄.toExt
   .rw[(tX I₄ x₄.G).2,ho₂]
  .refine t6 I₄ xx fun P₅ g₅ I₅ e₅ x₅=>pp.2 c ρ' e P₅ (g₄.grow g₅) I₅ x₅ (G₄.ext g₅) (e₅ ▸ k)
 .have hjx:j=xs.length:=Nat.le_antisymm hj hge;rw[hjx,List.drop_length] at w;refine W.done X.A j P₁ xs _ _ hh I₁ x₁.fz now₁ e3 hjx.symm st₁ fun h' tk kp=> ?_;have w₁:=(tX I₁ x₁.G).1;exact wpAny_execs_nil (p.next ρ₁ (P₁.show h' tk P₀.h.objs.size P₀.G) (x₁.show w₁) (I₁.show x₁.G kp) (G₁.show w₁) w)
end
noncomputable def fy (i:Nat) (it:CE) (b:CS):C1:=⟨fun K ρ σ=>match K.hd with|true=>none|false=>df ρ (it.ev K ρ) (fun v σ=>jY (uz v σ) fun q=>c6 v q.1 i (fun ρ=>b.ex K ρ) q.2 ρ σ) σ,fun s=>w9 fun t e be el _=>el.isEmpty&&dc (fun x _=>s.Γ.lookup x==some i&&fg s.sc x&&g6 e&&it.is s e&&b.is s be) t,fun _ _ _ _ _ _ _ h I G w p=>GL i it b h I G w p⟩
section
open Classical in
noncomputable def Pt.enter (P:Pt) (h:Heap) (t:Nat) (g:Fm):Pt:={P.to h t with fs:=g::P.fs,own:=fun a=>if a∈g.adr then .fr else P.own a}
theorem Bo (e:a∈g.adr):(P.enter h t g).own a= .fr:=@if_pos _ (_) e _ _ _
theorem t_ (e:a∉g.adr):(P.enter h t g).own a=P.own a:=@if_neg _ (_) e _ _ _
theorem t9 {x:c4} (e:(P.enter h t g).own a=x) (hx:x≠ .fr):P.own a=x:=by
 by_cases q:a∈g.adr
 .exact absurd ((Bo q).symm.trans e).symm hx
 .exact (t_ q).symm.trans e
theorem aK.enter (I:aK C P) (sz:C.H.objs.size<=P.h.objs.size) (kp:∀ b o,P.h.get? b=some o->h'.get? b=some o) (hL:P.h.objs.size<=g.L) (hn:h'.Ns g.L g.m) (hc:∀ c∈g.cells,h'.IsCell c (g.cv c)/\g.L<c):aK C (P.enter h' t g):=by
 have ge:∀ a∈g.adr,P.h.objs.size<=a:=fun a ha=>by
  rcases NB.mp ha with q|q
  .rw[q];exact hL
  .exact NK hL (Oc (hc a q).2)
 have no:∀ b o,P.h.get? b=some o->b∉g.adr:=fun b o e q=>Oz.mpr (ge b q) (N8 e);have kk:∀ b o x,P.own b=x->P.h.get? b=some o->(P.enter h' t g).own b=x/\h'.get? b=some o:=fun b o x e z=>⟨(t_ (no b o z)).trans e,kp b o z⟩;refine ⟨fun b o e=>(kk b o _ (I.base b o e).2 (I.base b o e).1).symm,fun b o e=>kp b o (I.fz b o (t9 e c4.noConfusion)),fun b e=> ?_,⟨fun f hf=> ?_,fun f hf c hcc=> ?_,?_,fun b e=> ?_⟩,I.gh.mv (fun b o e=>(kk b o _ e (I.fz b o e)).1) fun b o e q=>kk b o _ e q,fun a b n j e f=>I.one a b n j (t9 e c4.noConfusion) (t9 f c4.noConfusion),fun a n j e=>I.bd a n j (t9 e c4.noConfusion),fun n o e=>(I.obj n o e).mv (fun b o e=>(kk b o _ e (I.fz b o e)).1) fun b j o e q=>kk b o _ e q⟩
 .by_cases q:b∈g.adr
  .rcases NB.mp q with z|z
   .obtain ⟨o,_,_,ho,_⟩:=hn;exact ⟨o,z ▸ ho⟩
   .obtain ⟨o,ho,_⟩:=(hc b z).1;exact ⟨o,ho⟩
  .obtain ⟨o,ho⟩:=I.live b (t_ q ▸ e);exact ⟨o,kp b o ho⟩
 .rcases NB.mp hf with q|q
  .rw[q];exact ⟨hn,Bo (.head _),NK sz hL⟩
  .obtain ⟨⟨o,es,ep,ho,z⟩,x,y⟩:=I.fr.ns f q;exact ⟨⟨o,es,ep,kp _ _ ho,z⟩,(kk _ _ _ x ho).1,y⟩
 .rcases NB.mp hf with q|q
  .subst q;exact ⟨(hc c hcc).1,Bo (.tail _ hcc),(hc c hcc).2⟩
  .obtain ⟨⟨o,ho,z⟩,x,y⟩:=I.fr.cl f q c hcc;exact ⟨⟨o,kp _ _ ho,z⟩,(kk _ _ _ x ho).1,y⟩
 .refine List.pairwise_cons.mpr ⟨fun f hf a ha=> ?_,I.fr.ord⟩;refine N0 ?_ hL;rcases NB.mp ha with q|q
  .rw[q];obtain ⟨⟨o,_,_,ho,_⟩,_⟩:=I.fr.ns f hf;exact N8 ho
  .obtain ⟨⟨o,ho,_⟩,_⟩:=I.fr.cl f hf a q;exact N8 ho
 .by_cases q:b∈g.adr
  .exact ⟨g,.head _,q⟩
  .obtain ⟨f,hf,z⟩:=I.fr.all b (t_ q ▸ e);exact ⟨f,.tail _ hf,z⟩
theorem Ext.enter (I:aK C P) (no:∀ b o,P.h.get? b=some o->b∉g.adr):Ext P (P.enter h' t g):=
 ⟨⟨h',t,rfl⟩,rfl,fun b o e=>(t_ (no b o (I.fz b o e))).trans e,fun _ _ v=>v,fun n j b _ e=>t9 e c4.noConfusion⟩
structure Pa (P₀ P:Pt) (g:List (Addr×Obj)):Prop where
 sm:pt P₀.s P.s
 G:P.G=g++P₀.G
 fz:Fz P₀.own P.own
 val:∀ n j,c8 P₀.σ n j->c8 P.σ n j
 cell:∀ n j b,c8 P₀.σ n j->P.own b= .cell n j->P₀.own b= .cell n j
section
variable {g g':List (Addr×Obj)}
theorem Pa.grow (x:Pa P₀ P g) (y:Ext P P'):Pa P₀ P' g:=
 ⟨x.sm.trans y.sm,y.G.trans x.G,fun b o q=>y.fz b o (x.fz b o q),fun n j v=>y.val n j (x.val n j v),fun n j b v q=>x.cell n j b v (y.cell n j b (x.val n j v) q)⟩
theorem Pa.turn (x:Pa P₀ P g):Pa P₀ {P.to h t with G:=g'++P₀.G} g':=⟨x.sm.trans ⟨h,t,rfl⟩,rfl,x.fz,x.val,x.cell⟩
theorem Pa.rv (x:Pa P₀ P g):∀ {p:PV},RV C P₀ v p->RV C P v p:=fun r=>r.mv x.fz x.val x.cell
theorem Pa.hide (x:Pa P₀ P g) (e:P.own a= .no):Pa P₀ (P.hide h t a o) ((a,o)::g):=
 ⟨x.sm.trans ⟨h,t,rfl⟩,congrArg ((a,o)::·) x.G,fun b o q=>eH e b o (x.fz b o q),x.val,fun n j b v q=>x.cell n j b v (by
  rcases cG P.own a .gh b with ⟨_,r⟩|⟨_,r⟩
  .cases r.symm.trans q
  .exact r.symm.trans q)⟩
theorem Pa.show (x:Pa P₀ P ((a,o)::g)) (e:P.own a= .gh):Pa P₀ (P.show h t a (g++P₀.G)) g:=
 ⟨x.sm.trans ⟨h,t,rfl⟩,rfl,fun b o q=>jp e b o (x.fz b o q),x.val,fun n j b v q=>x.cell n j b v (lJ q)⟩
theorem Pa.refl (P:Pt):Pa P P []:=⟨.refl _,rfl,fun _ _ e=>e,fun _ _ v=>v,fun _ _ _ _ e=>e⟩
end
section
variable {p q:Addr×Obj}
theorem aK.swap (I:aK C P) (hG:P.G=p::q::G):aK C {P with G:=q::p::G}:=by
 have mm:∀ r,r∈q::p::G->r∈P.G:=fun r hr=>by
  rw[hG];rcases NB.mp hr with z|z
  .rw[z];exact .tail _ (.head _)
  .rcases NB.mp z with z|z
   .rw[z];exact .head _
   .exact .tail _ (.tail _ z)
 refine ⟨I.base,I.fz,I.live,I.fr,⟨fun r hr=>I.gh.at_ r (mm r hr),?_,fun z e=>(I.gh.tab z e).map (fun _ _ e=>e) fun b o q=>⟨q.1,q.2.1,fun r hr=>q.2.2 r (mm r hr)⟩⟩,I.one,I.bd,I.obj⟩
 .have nd:=I.gh.nd;rw[hG] at nd;exact (List.Perm.swap _ _ _).nodup_iff.mp nd
end
noncomputable def Pt.pop (P:Pt) (L:Addr) (o:Obj) (fs:List Fm):Pt:={P with own:=fY P.own L .gh,G:=(L,o)::P.G,fs:=fs}
theorem aK.pop (I:aK C P) (hf:P.fs=g::fs) (hc:g.cells=[]) (ho:P.h.get? g.L=some o):aK C (P.pop g.L o fs):=by
 have own:P.own g.L= .fr:=(I.fr.ns g (by rw[hf];exact .head _)).2.1;have ord:=I.fr.ord;rw[hf] at ord;obtain ⟨o1,o2⟩:=List.pairwise_cons.mp ord;have cs:=cG P.own g.L .gh;have ne:∀ k∈fs,∀ b∈k.adr,b≠g.L:=fun k hk b hb=>Nat.ne_of_lt (o1 k hk b hb);have kk:∀ b o x,P.own b=x->x≠ .fr->P.h.get? b=some o->fY P.own g.L .gh b=x/\P.h.get? b=some o:=fun b o x e q z=>⟨(bG fun c=>q (by rw[<-e,c,own])).trans e,z⟩;have bk:∀ b x,fY P.own g.L .gh b=x->x≠ .gh->P.own b=x:=fun b x e q=>by
  rcases cs b with ⟨_,r⟩|⟨_,r⟩
  .exact absurd (r.symm.trans e).symm q
  .exact r.symm.trans e
 refine ⟨fun b o e=>(kk b o _ (I.base b o e).2 c4.noConfusion (I.base b o e).1).symm,fun b o e=>I.fz b o (bk b _ e c4.noConfusion),fun b e=> ?_,⟨fun f h=> ?_,fun f h c hcc=> ?_,o2,fun b e=> ?_⟩,⟨fun p hp=> ?_,Oi.mpr ⟨fun q=> ?_,I.gh.nd⟩,fun z e=>(I.gh.tab z e).map (fun b o e=>(kk b o _ e c4.noConfusion (I.fz b o e)).1) fun b o q=>⟨q.1,(kk b o _ q.2.1 c4.noConfusion q.1).1,fun p hp=>(NB.mp hp).elim (fun c d=> ?_) (q.2.2 p)⟩⟩,fun a b n j e f=>I.one a b n j (bk a _ e c4.noConfusion) (bk b _ f c4.noConfusion),fun a n j e=>I.bd a n j (bk a _ e c4.noConfusion),fun n o e=>(I.obj n o e).mv (fun b o e=>(kk b o _ e c4.noConfusion (I.fz b o e)).1) fun b j o e q=>kk b o _ e c4.noConfusion q⟩
 .rcases cs b with ⟨z,r⟩|⟨_,r⟩
  .exact ⟨o,z ▸ ho⟩
  .exact I.live b (r ▸ e)
 .obtain ⟨x,y,z⟩:=I.fr.ns f (by rw[hf];exact .tail _ h);exact ⟨x,(bG (ne f h _ (.head _))).trans y,z⟩
 .obtain ⟨x,y,z⟩:=I.fr.cl f (by rw[hf];exact .tail _ h) c hcc;exact ⟨x,(bG (ne f h _ (.tail _ hcc))).trans y,z⟩
 .rcases cs b with ⟨_,r⟩|⟨nb,r⟩
  .cases r.symm.trans e
  .obtain ⟨f,h,z⟩:=I.fr.all b (r.symm.trans e);rw[hf] at h;rcases NB.mp h with q|q
   .rw[q,Fm.adr,hc] at z;exact absurd (NG.mp z) nb
   .exact ⟨f,q,z⟩
 .rcases NB.mp hp with q|q
  .rw[q];exact ⟨ho,b8 _ _ _⟩
  .exact (kk _ _ _ (I.gh.at_ p q).2 c4.noConfusion (I.gh.at_ p q).1).symm
 .obtain ⟨p,hp,e⟩:=NQ.mp q;have:=(I.gh.at_ p hp).2;rw[e,own] at this;cases this
 .have:=q.2.1;rw[<-d,c,own] at this;cases this
theorem Pa.pop {g:List (Addr×Obj)} (x:Pa P₀ P g) (e:P.own L= .fr):Pa P₀ (P.pop L o fs) ((L,o)::g):=by
 refine ⟨x.sm,congrArg ((L,o)::·) x.G,fun b o q=>(bG fun c=> ?_).trans (x.fz b o q),x.val,fun n j b v q=>x.cell n j b v ?_⟩
 .have:=x.fz b o q;rw[c,e] at this;cases this
 .rcases cG P.own L .gh b with ⟨_,r⟩|⟨_,r⟩
  .cases r.symm.trans q
  .exact r.symm.trans q
theorem Pa.past (x:Pa P₀ P [(a,o)]) (e:qj P₀.fs P.fs):ki P₀ P a o:=⟨x.sm,e,x.G,x.fz,x.val,x.cell⟩
end
theorem oh (x:Str):(relabel scope env).names.lookup x=(scope.names.lookup x).map fun k=>if (k==NameKind.free&&env.scope.kind== .function&&env.kindOf x==some .cell)=true then NameKind.cell else k:=by
 unfold relabel;generalize scope.names=l
 induction l with
 |nil=>rfl
 |cons p l ih=>
  obtain ⟨n,k⟩:=p;rw[List.map_cons];cases hx:x==n with
  |true=>
   obtain rfl:=beq_iff_eq.mp hx;by_cases hc:(k==NameKind.free&&env.scope.kind== .function&&env.kindOf x==some .cell)=true
   .simp only [List.lookup_cons,hc,if_true,hx,Option.map]
   .simp only [List.lookup_cons,hc,if_false,hx,Option.map];simp
  |false=>
   have e:((if (k==NameKind.free&&env.scope.kind== .function&&env.kindOf n==some .cell)=true then (n,NameKind.cell) else (n,k)):Str×NameKind).1=n:=by split<;>rfl
   rw[List.lookup_cons,List.lookup_cons];simp only [e,hx];exact ih
theorem j_ {env:Env}:∀ (l:List (Str×NameKind)) (cl:List (Str×Addr)),(∀ p∈l,p.2=NameKind.free->∃ c,env.cells.lookup p.1=some c)->(∀ y c,cl.lookup y=some c->env.cells.lookup y=some c)->
  ∃ cl',(forIn l cl fun (x:Str×NameKind) (r:List (Str×Addr))=>(if (x.2==NameKind.free)=true then do let a<-cellOf env x.1;pure (ForInStep.yield ((x.1,a)::r)) else pure (ForInStep.yield r):Sem (ForInStep (List (Str×Addr)))))=pure cl'/\
   (∀ y c,cl'.lookup y=some c->env.cells.lookup y=some c)/\(∀ y c,cl.lookup y=some c->cl'.lookup y=some c)/\(∀ p∈l,p.2=NameKind.free->(cl'.lookup p.1).isSome=true)
 |[],cl,_,h2=>⟨cl,rfl,h2,fun _ _ h=>h,fun p hp=>(NV hp).elim⟩
 |(n,k)::l,cl,h1,h2=>by
  by_cases hk:k=NameKind.free
  .subst hk;obtain ⟨c,hc⟩:=h1 (n,.free) (.head _) rfl;have h2':∀ y d,List.lookup y ((n,c)::cl)=some d->env.cells.lookup y=some d:=fun y d hd=>by
    rw[List.lookup_cons] at hd;cases hy:y==n with
    |true=>rw[hy] at hd;cases hd;rw[beq_iff_eq.mp hy];exact hc
    |false=>rw[hy] at hd;exact h2 y d hd
   obtain ⟨cl',e,q1,q2,q3⟩:=j_ l ((n,c)::cl) (fun p hp=>h1 p (.tail _ hp)) h2';refine ⟨cl',?_,q1,fun y d hd=> ?_,fun p hp hf=> ?_⟩
   .rw[List.forIn_cons];rw[if_pos (beq_self_eq_true _)];have hcell:cellOf env n=pure c:=by unfold cellOf;rw[hc]
    simp only [hcell];exact e
   .refine q2 y d ?_;rw[List.lookup_cons];cases hy:y==n with
    |true=>
     have:=h2 y d hd;rw[beq_iff_eq.mp hy,hc] at this;exact this
    |false=>exact hd
   .rcases NB.mp hp with rfl|hp
    .rw[q2 n c (by rw[List.lookup_cons,beq_self_eq_true])];rfl
    .exact q3 p hp hf
  .obtain ⟨cl',e,q1,q2,q3⟩:=j_ l cl (fun p hp=>h1 p (.tail _ hp)) h2;refine ⟨cl',?_,q1,q2,fun p hp hf=> ?_⟩
   .rw[List.forIn_cons];rw[if_neg (by simpa using hk)];exact e
   .rcases NB.mp hp with rfl|hp
    .exact absurd hf hk
    .exact q3 p hp hf
theorem qe (h:∀ p∈scope.names,p.2=NameKind.free->∃ c,env.cells.lookup p.1=some c):
  ∃ cl,closureFor scope env=pure cl/\(∀ p∈scope.names,p.2=NameKind.free->cl.lookup p.1=env.cells.lookup p.1):=by
 obtain ⟨cl,e,q1,_,q3⟩:=j_ scope.names [] h (fun y c hc=>nomatch hc);refine ⟨cl,?_,fun p hp hf=> ?_⟩
 .unfold closureFor;have:(forIn scope.names [] fun (x:Str×NameKind) (r:List (Str×Addr))=>(match x with
   |(name,kind)=>if (kind==NameKind.free)=true then do let a<-cellOf env name;pure (ForInStep.yield ((name,a)::r)) else pure (ForInStep.yield r):Sem (ForInStep (List (Str×Addr)))))=pure cl:=e
  simp only [this];rfl
 .obtain ⟨c,hc⟩:=Option.isSome_iff_exists.mp (q3 p hp hf);rw[hc,q1 _ _ hc]
theorem cY {β:Type} {x:Str} {b:β}:∀ {l:List (Str×β)},l.lookup x=some b->(x,b)∈l
 |[],h=>nomatch h
 |(n,c)::l,h=>by
  rw[List.lookup_cons] at h;cases hx:x==n with
  |true=>rw[hx] at h;cases h;rw[beq_iff_eq.mp hx];exact .head _
  |false=>rw[hx] at h;exact .tail _ (cY h)
structure kj (sc scope:Scope) (x:Str):Prop where
 kind:scope.kind= .function
 cell:∀ p∈scope.names,p.2≠ .cell
 var:scope.names.lookup x=some .local
 loc:∀ p∈scope.names,p.2= .local->scope.names.lookup p.1=some .local/\(p.1=x∨p.1=(".0":Str))
 free:∀ p∈scope.names,p.2= .free->sc.names.lookup p.1=some .cell
theorem lH {x:Str} (h:jt sc scope x=true):kj sc scope x:=by
 simp only [jt,Bool.and_eq_true,beq_iff_eq,List.all_eq_true,bne_iff_ne,ne_eq,Bool.or_eq_true] at h;obtain ⟨⟨⟨⟨h1,h2⟩,h3⟩,h4⟩,h5⟩:=h;exact ⟨h1,h2,h3,fun p hp e=>(h4 p hp).resolve_left fun q=>q e,fun p hp e=>(h5 p hp).resolve_left fun q=>q e⟩
noncomputable abbrev lM (scope:Scope) (cl:List (Str×Addr)) (L:Addr) (env:Env):Env:=compEnvC scope cl L env
section
variable {x:Str}
theorem eI (y:Str):(lM scope cl L env).scope.names.lookup y=(scope.names.lookup y).map fun k=>if (k==NameKind.free&&env.scope.kind== .function&&env.kindOf y==some .cell)=true then NameKind.cell else k:=oh y
theorem qI {y:Str} (h:scope.names.lookup y=some .free):(lM scope cl L env).scope.names.lookup y=some .cell∨(lM scope cl L env).scope.names.lookup y=some .free:=by
 rw[eI,h];show some (if _ then _ else _)=_∨some (if _ then _ else _)=_;split
 .exact .inl rfl
 .exact .inr rfl
theorem wS {s:Scope} {y:Str} (h:s.names.lookup y=some .cell∨s.names.lookup y=some .free):mE s y=true:=by
 unfold mE;rcases h with h|h
 .rw[h];rfl
 .rw[h];rfl
theorem C5 {s:Scope} {y:Str} (h:mE s y=true):s.names.lookup y=some .local∨s.names.lookup y=some .cell∨s.names.lookup y=some .free:=by
 rcases (Bool.or_eq_true _ _).mp h with h|h
 .rcases (Bool.or_eq_true _ _).mp h with h|h
  .exact .inl (bO h)
  .exact .inr (.inl (bO h))
 .exact .inr (.inr (bO h))
theorem vW (K:kj sc scope x):xL scope (lM scope cl L env):=fun y=>by
 refine ⟨fun h=> ?_,fun h=> ?_,fun h=>absurd rfl (K.cell _ (cY h))⟩
 .rcases C5 h with h|h|h
  .unfold mE;rw[eI,h];rfl
  .exact absurd rfl (K.cell _ (cY h))
  .exact wS (qI h)
 .have h:=bO (ai h);show (lM scope cl L env).scope.names.lookup y=_;rw[eI,h];rfl
noncomputable def Cx.comp (X:Cx) (K:kj X.sc scope x) (i:Nat) (cl:List (Str×Addr)) (L:Addr):Cx:=
 ⟨X.C,X.A,lM scope cl L X.env,scope,(x,i)::X.Γ,X.d,X.hd,X.good,X.calls,vW K,K.kind,X.glob,X.blt,X.dep,X.uni,X.hnd,none⟩
end
section
variable {x:Str}
theorem Bx {gl:List (Addr×Obj)} (K:kj X.sc scope x) (hcl:∀ p∈scope.names,p.2=NameKind.free->cl.lookup p.1=X.env.cells.lookup p.1) (hi:∀ q∈X.Γ,q.2≠i) (h0:X.Γ.lookup (".0":Str)=none) (G:EnvOK X P ρ) (pa:Pa P P' gl) (hf:P'.fs=g::P.fs) (hr:RV X.C P' v p) (hm:g.m x=some v):
  EnvOK (X.comp K i cl g.L) P' (ρ.set i (some p)):=by
 obtain ⟨ls,q1,q2⟩:=G.frs;refine ⟨⟨ls,q1,fun en hen=> ?_⟩,by rw[hf];nofun,fun y j q hy hmine hq=> ?_⟩
 .obtain ⟨a,f,hf',b⟩:=q2 en hen;exact ⟨a,f,by rw[hf];exact .tail _ hf',b⟩
 have hy:List.lookup y ((x,i)::X.Γ)=some j:=hy;rw[List.lookup_cons] at hy;cases hx:y==x with
 |true=>
  rw[hx] at hy;cases hy;rcases rf hq with ⟨_,z⟩|⟨z,_⟩
  .rw[z];refine ⟨v,hr,.inl ⟨?_,g,by rw[hf];exact .head _,rfl,by rw[beq_iff_eq.mp hx];exact hm⟩⟩;show (lM scope cl g.L X.env).scope.names.lookup y=_;rw[eI,beq_iff_eq.mp hx,K.var];rfl
  .exact absurd rfl z
 |false=>
  rw[hx] at hy;rcases rf hq with ⟨z,_⟩|⟨_,hq⟩
  .exact absurd z.symm (hi (y,j) (cY hy))
  have hmine:mE (lM scope cl g.L X.env).scope y=true:=hmine;have hfree:scope.names.lookup y=some .free:=by
   cases hs:scope.names.lookup y with
   |none=>unfold mE at hmine;rw[eI,hs] at hmine;cases hmine
   |some k=>
    cases k with
    |free=>rfl
    |«local»=>
     obtain ⟨_,h|h⟩:=K.loc _ (cY hs) rfl
     .rw[show y=x from h,beq_self_eq_true] at hx;cases hx
     .rw[show y=(".0":Str) from h,h0] at hy;cases hy
    |cell=>exact absurd rfl (K.cell _ (cY hs))
    |_=>unfold mE at hmine;rw[eI,hs] at hmine;cases hmine
  have hk:=((X.kinds y).2.2 (K.free _ (cY hfree) rfl)).1;obtain ⟨w,hw,hl⟩:=G.var y j q hy (wS (.inl hk)) hq;refine ⟨w,pa.rv hw,?_⟩;rcases hl with ⟨h1,_⟩|⟨_,c,h2,f,hf',h3,h4⟩
  .rw[hk] at h1;cases h1
  .exact .inr ⟨qI hfree,c,(hcl _ (cY hfree) rfl).trans h2,f,by rw[hf];exact .tail _ hf',h3,h4⟩
end
structure CI where
 ts:cQ->bb->PM Bool
 is:Sx->List Expr->Bool
 ok:∀ (X:Cx) (cs:List Expr) (ρ:bb) (P:Pt) (K:R Bool->av->Prop) (Q:Bool->Shared->Prop) (E:Value->Shared->Prop),is X.sx cs=true->aK X.C P->EnvOK X P ρ->Wp K (ts X.ker ρ P.σ)->bw X lU P K Q E->
  wpAny X.M X.A (forIn cs true fun c r=>if r=true then do let ok<-isTrue c X.env (eval c X.env);pure (ForInStep.yield ok) else pure (ForInStep.yield r)) Q E P.s
noncomputable def cR:CI:=⟨fun _ _=>ret true,fun _ cs=>cs.isEmpty,fun X cs ρ P K Q E h I G w p=>b_ (fun cs=>wpAny X.M X.A (forIn cs true fun c r=>if r=true then do let ok<-isTrue c X.env (eval c X.env);pure (ForInStep.yield ok) else pure (ForInStep.yield r)) Q E P.s) h (wpAny_tests_nil (p.here I rfl w))⟩
noncomputable def HP (t:CT):CI:=⟨t.ts,fun s=>one (t.is s),fun X cs ρ P K Q E h I G w p=>fB (fun cs=>wpAny X.M X.A (forIn cs true fun c r=>if r=true then do let ok<-isTrue c X.env (eval c X.env);pure (ForInStep.yield ok) else pure (ForInStep.yield r)) Q E P.s) h fun c h=>wpAny_tests_one (t.ok X c ρ P K Q E h I G w p)⟩
section
variable (K:R (List D)->av->Prop) (v:PV) (x:D) (i:Nat) (test:bb->PM Bool) (bM:bb->PM PV) (ρ:bb) (y:D) (r acc:List D)
def Mn:R PV->av->Prop
 | .ok (.d z),σ=>(bN σ x v=true/\acc.length<cS)/\Wp K (dF v x i test bM ρ r (acc++[z]) σ)
 | .ok _,_=>False
 | .ex c,σ=>K (.ex c) σ
def MU:R Bool->av->Prop
 | .ok false,σ=>bN σ x v=true/\Wp K (dF v x i test bM ρ r acc σ)
 | .ok true,σ=>Wp (Mn K v x i test bM ρ r acc) (bM (ρ.set i (some (.d y))) σ)
 | .ex _,_=>False
end
section
variable {K:R (List D)->av->Prop} {v:PV} {x:D} {test:bb->PM Bool} {bM:bb->PM PV} {y:D} {r acc:List D}
theorem zx:∀ {z:Option (R PV×av)},Wp K (match z with
   |some (.ok (.d z),σ'')=>if bN σ'' x v/\acc.length<cS then dF v x i test bM ρ r (acc++[z]) σ'' else none
   |some (.ex c,σ'')=>some (.ex c,σ'')
   |_=>none)->Wp (Mn K v x i test bM ρ r acc) z:=by
 intro z h;cases z with
 |none=>exact h
 |some z=>
 obtain ⟨z,σ⟩:=z;cases z with
 |ex _=>exact h
 |ok z=>
 cases z with
 |p _ _=>exact h
 |b _ _=>exact h
 |d z=>
  have h:Wp K (if bN σ x v/\acc.length<cS then dF v x i test bM ρ r (acc++[z]) σ else none):=h;by_cases q:bN σ x v=true/\acc.length<cS
  .rw[if_pos q] at h;exact ⟨q,h⟩
  .rw[if_neg q] at h;exact h.elim
theorem B9 (h:Wp K (dF v x i test bM ρ (y::r) acc σ)):Wp (MU K v x i test bM ρ y r acc) (test (ρ.set i (some (.d y))) σ):=by
 have h:Wp K (match test (ρ.set i (some (.d y))) σ with
  |some (.ok false,σ')=>if bN σ' x v then dF v x i test bM ρ r acc σ' else none
  |some (.ok true,σ')=>(match bM (ρ.set i (some (.d y))) σ' with
   |some (.ok (.d z),σ'')=>if bN σ'' x v/\acc.length<cS then dF v x i test bM ρ r (acc++[z]) σ'' else none
   |some (.ex c,σ'')=>some (.ex c,σ'')
   |_=>none)
  |_=>none):=h
 generalize test (ρ.set i (some (.d y))) σ=z at h;cases z with
 |none=>exact h
 |some z=>
 obtain ⟨z,σ'⟩:=z;cases z with
 |ex _=>exact h
 |ok b=>
 cases b with
 |true=>exact zx h
 |false=>
  have h:Wp K (if bN σ' x v then dF v x i test bM ρ r acc σ' else none):=h;cases q:bN σ' x v with
  |true=>rw[q] at h;exact ⟨q,h⟩
  |false=>rw[q] at h;exact h.elim
end
noncomputable def Sx.comp (s:Sx) (scope:Scope) (x:Str) (i:Nat):Sx:={s with sc:=scope,Γ:=(x,i)::s.Γ,lm:=none}
noncomputable def MO (xc:Bool) {α:Type}:Option (R α×av)->Option (R α×av)
 |some (.ok a,σ)=>some (.ok a,σ)
 |some (.ex c,σ)=>if xc then some (.ex c,σ) else none
 |none=>none
noncomputable def gI (xc:Bool) (i:Nat) (it:CE) (t:CI) (bM:CE) (K:cQ) (ρ:bb):PM (List D):=match K.hd with
 |true=>fun _=>none
 |false=>bP (it.ev K ρ) fun v σ=>(uz v σ).bind fun q=>MO xc (dF v q.1 i (t.ts K) (bM.ev K) ρ q.2 [] σ)
noncomputable abbrev mt (i:Nat) (it:CE) (t:CI) (bM:CE) (K:cQ) (ρ:bb):PM (List D):=gI false i it t bM K ρ
theorem gS {K:R β->av->Prop} {k:α->Option (R β×av)}:∀ {o:Option α},Wp K (o.bind k)->∃ a,o=some a/\Wp K (k a)
 |some a,h=>⟨a,rfl,h⟩
def xK {α:Type} (xc:Bool) (K:R α->av->Prop):R α->av->Prop
 | .ok a,σ=>K (.ok a) σ
 | .ex c,σ=>xc=true/\K (.ex c) σ
theorem E6 {xc:Bool} {K:R α->av->Prop}:∀ {z:Option (R α×av)},Wp K (MO xc z)->Wp (xK xc K) z
 |none,h=>h
 |some (.ok _,_),h=>h
 |some (.ex c,σ),h=>by
  cases xc with
  |true=>exact ⟨rfl,h⟩
  |false=>exact h.elim
inductive FreshL (C:bC) (P:Pt):Value->List D->Prop
 |mk {a:Addr} {vs:List Value} {n:Nat} {l:List D}:zt C P P.h a (aU vs n)->RDs C P.own l vs->FreshL C P (.ref a) l
theorem GK {x:c4} (e:∀ o,w a≠ .fz o):Fz w (fY w a x):=fun b o q=>(bG fun c=>by rw[c] at q;exact e o q).trans q
theorem Pa.frm {g:List (Addr×Obj)} (x:Pa P₀ P g):Pa P₀ {P with fs:=fs} g:=⟨x.sm,x.G,x.fz,x.val,x.cell⟩
inductive JK (X:Cx) (K:R (List D)->av->Prop) (i:Nat) (t:CI) (bM:CE) (ρ:bb) (v:PV) (x:D) (xs:List D) (St:Nat->Heap->Prop) (P₁:Pt) (aI aD L:Addr) (n:Nat) (s:Shared):Prop
 |mk (P:Pt) (g:Fm) (j:Nat) (oi:Obj) (vs:List Value) (m:Nat) (acc:List D):P.s=s->Pa P₁ P [(aI,oi),(aD,aU vs m)]->P.fs=g::P₁.fs->g.L=L->g.cells=[]->aK X.C P->RDs X.C P.own acc vs->bN P.σ x v=true->St j P.h->j<=xs.length->n=xs.length - j->
  Wp K (dF v x i (t.ts X.ker) (bM.ev X.ker) ρ (xs.drop j) acc P.σ)->JK X K i t bM ρ v x xs St P₁ aI aD L n s
theorem Pa.of {P₁ P₂:Pt} {g:List (Addr×Obj)} (a:Ext P P₁) (x:Pa P₁ P₂ g):Pa P P₂ g:=
 ⟨a.sm.trans x.sm,by rw[x.G,a.G],fun b o q=>x.fz b o (a.fz b o q),fun n j q=>x.val n j (a.val n j q),fun n j b v q=>a.cell n j b v (x.cell n j b (a.val n j v) q)⟩
theorem xy {X:Cx} {ρ:bb} {P:Pt} {K:R (List D)->av->Prop} {E:Value->Shared->Prop} {RR:Value->Addr->Result->Shared->Prop} {PP:Value->Env->Result->Shared->Prop} (xc:Bool) (i:Nat) (it:CE) (t:CI) (bM:CE) {el iter:Expr} {cs:List Expr} {x:Str} {px pos:Pos} {scope scope':Scope} {cl:List (Str×Addr)}
  (hcl:∀ p∈scope.names,p.2=NameKind.free->cl.lookup p.1=X.env.cells.lookup p.1) (hsc:scope'=relabel scope X.env) (hPP:∀ v L r s,RR v L r s->PP v (newEnv scope L X.env.globals cl X.env.qual none .none (some X.env) builtinsNs) r s)
  (Kc:kj X.sc scope x) (h2:it.is X.sx iter=true) (h3:bM.is (X.sx.comp scope x i) el=true) (h4:t.is (X.sx.comp scope x i) cs=true) (h5:∀ q∈X.Γ,q.2≠i) (h6:X.Γ.lookup (".0":Str)=none) (hd:X.hd=false)
  (I:aK X.C P) (G:EnvOK X P ρ) (w:Wp K (gI xc i it t bM X.ker ρ P.σ)) (pe:∀ c e P',bX P P'->aK X.C P'->qk X.C X.A P' c e->K (.ex c) P'.σ->E e P'.s)
  (pk:∀ acc v L oL P',Pa P P' [(L,oL)]->P'.fs=P.fs->aK X.C P'->FreshL X.C P' v acc->(∃ m,P'.h.Ns L m)->K (.ok acc) P'.σ->RR v L (.ok .next) P'.s)
  (qx:∀ c e v P' g p q,Pa P P' [p,q]->P'.fs=g::P.fs->g.cells=[]->aK X.C P'->qk X.C X.A P' c e->xc=true->K (.ex c) P'.σ->notedBy X.M X.A (lM scope cl g.L X.env) (fun e s=>RR v g.L (.error e) s) e P'.s):
  wpAny X.M X.A (eval iter X.env) (fun xv s₁=>wpAny X.M X.A (pyIter xv) (fun it s₂=>wpAny X.M X.A (newList []) (fun acc s₃=>
   wpAny X.M X.A (newFunctionEnv scope X.env.globals cl [] X.env.qual none .none (some X.env)) (fun cenv s₄=>
    codeAny X.M X.A (.compStart (.ListComp el [⟨.Name x px,iter,cs,0⟩] scope pos) 0 it acc {cenv with scope:=scope'}) (PP acc cenv) s₄) E s₃) E s₂) E s₁) E P.s:=by
 subst hsc;unfold gI at w;rw[show X.ker.hd=false from hd] at w;have hh:=X.hnd hd;refine it.ok X iter ρ P _ _ E h2 I G (aL w) ⟨fun v va P₁ g₁ I₁ r₁ w=> ?_,pe⟩;refine bJ fun G9 k9=> ?_;obtain ⟨⟨x0,xs⟩,e0,w⟩:=gS w;have w:=E6 w;obtain ⟨e1,e2,e3⟩:=ot e0;refine k9 ?_;refine w0 X.good I₁ r₁ e0 fun oi St hof W st0=> ?_;have G₁:=G.ext g₁;have hn:=I₁.push hof;have I₂:=I₁.hide (t:=P₁.s.toks) hn;have hn₂:=I₂.push (o:=aU [] 0) rfl;have I₃:=(I₂.hide (t:=P₁.s.toks) hn₂).swap rfl;have pa₃:=((((Pa.refl P₁).hide (h:=P₁.h.push oi) (t:=P₁.s.toks) (o:=oi) hn.own).hide (h:=(P₁.h.push oi).push (aU [] 0)) (t:=P₁.s.toks) (o:=aU [] 0) hn₂.own).turn (h:=(P₁.h.push oi).push (aU [] 0)) (t:=P₁.s.toks) (g':=[(P₁.h.objs.size,oi),((P₁.h.push oi).objs.size,aU [] 0)]));refine wpAny_newObj_type (wpAny_newFunctionEnv Kc.cell (fun y hy=>(NV hy).elim) (fun h₁ hns₁ hsb₁=> ?_) Kc.kind);generalize hP₃:(Pt.mk {P₁.s with heap:=(P₁.h.push oi).push (aU [] 0),toks:=P₁.s.toks} P₁.fs (fY (fY P₁.own P₁.h.objs.size .gh) (P₁.h.push oi).objs.size .gh) ((P₁.h.objs.size,oi)::((P₁.h.push oi).objs.size,aU [] 0)::P₁.G) P₁.σ)=P₃;replace I₃:aK X.C P₃:=by rw[<-hP₃];exact I₃
 replace pa₃:Pa P₁ P₃ [(P₁.h.objs.size,oi),((P₁.h.push oi).objs.size,aU [] 0)]:=by rw[<-hP₃];exact pa₃
 have es:P₃.s={P₁.s with heap:=(P₁.h.push oi).push (aU [] 0)}:=by rw[<-hP₃]
 have eh:P₃.h=(P₁.h.push oi).push (aU [] 0):=by rw[<-hP₃]
 have efs:P₃.fs=P₁.fs:=by rw[<-hP₃]
 have eσ:P₃.σ=P₁.σ:=by rw[<-hP₃]
 change h₁.Ns ((P₁.h.push oi).push (aU [] 0)).objs.size _ at hns₁;change Heap.SameBut ((P₁.h.push oi).push (aU [] 0)).objs.size (((P₁.h.push oi).push (aU [] 0)).push _) h₁ at hsb₁;rw[<-eh] at hns₁ hsb₁;have kp:∀ b o,P₃.h.get? b=some o->h₁.get? b=some o:=fun b o e=>hsb₁.extBut b o (Nat.ne_of_lt (N8 e)) (NJ _ e);have sz:X.C.H.objs.size<=P₃.h.objs.size:=I₃.szF (by rw[efs];exact G₁.ne);generalize hg:(⟨P₃.h.objs.size,fun y=>([]:List (Str×Value)).reverse.lookup y,[],fun _=>none⟩:Fm)=g₄;have I₄:=I₃.enter (g:=g₄) (t:=P₁.s.toks) sz kp (by rw[<-hg];exact NM _) (by rw[<-hg];exact hns₁) (fun c hc=>by rw[<-hg] at hc;exact (NV hc).elim);have pa₄:=pa₃.grow (Ext.enter (h':=h₁) (t:=P₁.s.toks) (g:=g₄) I₃ fun b o e q=>by
  rw[<-hg] at q;exact absurd (NG.mp q) (Nat.ne_of_lt (N8 e)))
 have st4:St 0 h₁:=W.own _ _ _ st0 (by
  obtain ⟨oi2,e4⟩:=W.fld _ _ st0;rw[e4];exact kp _ _ (by rw[eh];exact NJ _ e4))
 have still0:bN P₁.σ x0 v=true:=by
  cases v with
  |d y=>rfl
  |p n j=>exact @NP _ (_) e1
  |b _ _=>cases e1
 have loop:∀ s₃:Shared,s₃={P₁.s with heap:=h₁}->
   codeAny X.M X.A (.compLoop (.ListComp el [⟨.Name x px,iter,cs,0⟩] scope pos) 0 (.ref P₁.h.objs.size) (.ref (P₁.h.push oi).objs.size) (lM scope cl P₃.h.objs.size X.env)) (RR (.ref (P₁.h.push oi).objs.size) P₃.h.objs.size) s₃:=by
  rintro s₃ rfl;refine codeAny_compLoop_tests (JK X (xK xc K) i t bM ρ v x0 xs St P₁ P₁.h.objs.size (P₁.h.push oi).objs.size P₃.h.objs.size) ?_ xs.length
   ⟨P₃.enter h₁ P₁.s.toks g₄,g₄,0,oi,[],0,[],by show {P₃.s with heap:=h₁,toks:=P₁.s.toks}=_;rw[es],?_,by show g₄::P₃.fs=_;rw[efs],by rw[<-hg],by rw[<-hg],I₄,.nil,by show bN P₃.σ x0 v=true;rw[eσ];exact still0,st4,N3 _,rfl,by show Wp (xK xc K) (dF _ _ _ _ _ _ _ _ P₃.σ);rw[eσ];exact w⟩
  .rintro n s ⟨P₅,g₅,j,o₅,vs,m,acc,rfl,pa,hf,hgL,hgc,I₅,rs,s₅,st₅,hj,rfl,w⟩;have now₅:=qm I₅ (pa.rv r₁) e1 s₅;have hL:=I₅.fr.ns g₅ (by rw[hf];exact .head _);rcases Nat.lt_or_ge j xs.length with hlt|hge
   .rw[List.drop_eq_getElem_cons hlt] at w;refine W.item X.A j P₅ xs xs[j] _ _ hh I₅ pa.fz now₅ e3 (NE hlt) st₅ fun val h' tk rv st₆ kp=> ?_;obtain ⟨o₆,ho₆⟩:=W.fld _ _ st₆;have I₆:=I₅.gturn (t:=tk) pa.G kp ho₆;have pa₆:=pa.turn (h:=h') (t:=tk) (g':=[(P₁.h.objs.size,o₆),((P₁.h.push oi).objs.size,aU vs m)]);refine wpAny_assign_Name (wpAny_storeName_local (m:=g₅.m) (env:=lM scope cl P₃.h.objs.size X.env) (s:={P₅.s with heap:=h',toks:=tk}) ?_ (hgL ▸ (I₆.fr.ns g₅ (by show g₅∈P₅.fs;rw[hf];exact .head _)).1) (fun h₇ hn₇ hs₇=> ?_) ?_)
    .show (lM scope cl P₃.h.objs.size X.env).scope.names.lookup x=_;rw[eI,Kc.var];rfl
    rotate_left
    .show (scope.kind==_||(scope.kind==_&&_))=false;rw[Kc.kind];rfl
    have I₇:=I₆.frame (t:=tk+1) (g:=⟨P₃.h.objs.size,fun y=>if y=x then some val else g₅.m y,[],fun _=>none⟩) hf ⟨hgL.symm,hgc.symm⟩ (.head _) (fun b o hb e=>hs₇.extBut b o (by rw[<-hgL];exact hb) e) hn₇ (fun c hc=>(NV hc).elim);have pa₇:=(pa₆.turn (h:=h₇) (t:=tk+1) (g':=[(P₁.h.objs.size,o₆),((P₁.h.push oi).objs.size,aU vs m)])).frm (fs:=⟨P₃.h.objs.size,fun y=>if y=x then some val else g₅.m y,[],fun _=>none⟩::P₁.fs);have G₇:=Bx (g:=⟨P₃.h.objs.size,fun y=>if y=x then some val else g₅.m y,[],fun _=>none⟩) (i:=i) (p:=.d xs[j]) (v:=val) Kc hcl h5 h6 G₁ pa₇ rfl rv (if_pos rfl);refine t.ok (X.comp Kc i cl P₃.h.objs.size) cs _ _ (MU (xK xc K) v x0 i (t.ts X.ker) (bM.ev X.ker) ρ xs[j] (xs.drop (j+1)) acc) _ _ h4 I₇ G₇ (B9 w) ⟨fun b c P₈ g₈ I₈ r₈ k=> ?_,fun c e P' _ _ _ k=>k.elim⟩;rw[show c=b from r₈];have pa₈:=pa₇.grow g₈.toExt;cases b with
    |false=>
     exact ⟨xs.length - (j+1),K7 hlt,⟨P₈,_,j+1,o₆,vs,m,acc,rfl,pa₈,g₈.fs,rfl,rfl,I₈,rs.ext g₈.fz,k.1,W.own _ _ _ st₆ (by rw[(tX I₈ pa₈.G).2,ho₆]),hlt,rfl,k.2⟩⟩
    |true=>
     refine bM.ok (X.comp Kc i cl P₃.h.objs.size) el _ P₈ (Mn (xK xc K) v x0 i (t.ts X.ker) (bM.ev X.ker) ρ (xs.drop (j+1)) acc) _ _ h3 I₈ (G₇.ext g₈) k ⟨fun q vy P₉ g₉ I₉ r₉ k=> ?_,fun c e P₉ g₉ I₉ x₉ k=>qx c e _ P₉ _ _ _ (.of g₁.toExt (pa₈.grow g₉.toExt)) (by rw[g₉.fs,g₈.fs,<-g₁.fs]) rfl I₉ x₉ k.1 k.2⟩;cases q with
     |p n' j'=>exact k.elim
     |b _ _=>exact k.elim
     |d z=>
      have pa₉:=pa₈.grow g₉.toExt;have J:=I₉.swap pa₉.G;have hD:=(tX J rfl).2;have rs₉:=(rs.ext g₈.fz).ext g₉.fz;refine la hD (by rw[rs₉.length];exact NK (Oc k.1.2) (by decide)) fun h₁₀ n' e10 s10=> ?_;have J1:=J.gturn (t:=P₉.s.toks) rfl (fun b o hb e=>s10.extBut b o hb e) e10;have J2:=J1.swap rfl;have pa₁₀:=pa₉.turn (h:=h₁₀) (t:=P₉.s.toks) (g':=[(P₁.h.objs.size,o₆),((P₁.h.push oi).objs.size,aU (vs++[vy]) n')]);exact ⟨xs.length - (j+1),K7 hlt,⟨_,_,j+1,o₆,vs++[vy],n',acc++[z],rfl,pa₁₀,g₉.fs.trans g₈.fs,rfl,rfl,J2,rs₉.append (.cons r₉ .nil),k.1.1,W.own _ _ _ st₆ (by rw[ho₆];exact (tX J2 rfl).2),hlt,rfl,k.2⟩⟩
   .have hjx:j=xs.length:=Nat.le_antisymm hj hge;rw[hjx,List.drop_length] at w;refine W.done X.A j P₅ xs _ _ hh I₅ pa.fz now₅ e3 hjx.symm st₅ fun h' tk kp=> ?_;have a1:=(tX I₅ pa.G).1;have J1:=I₅.show (t:=tk) pa.G kp;have p1:=pa.show (h:=h') (t:=tk) a1;have a2:=(tX J1 p1.G).1;have oD:=(tX J1 p1.G).2;have J2:=J1.show (h':=h') (t:=tk) p1.G fun _ _ _ e=>e;have p2:=p1.show (h:=h') (t:=tk) a2;refine bJ fun G9 k9=> ?_;obtain ⟨⟨o,es2,ep2,hoL,hrest⟩,frL,_⟩:=J2.fr.ns g₅ (by show g₅∈P₅.fs;rw[hf];exact .head _);refine k9 ?_;have J3:=J2.pop (o:=o) (fs:=P₁.fs) hf hgc hoL;have p3:=p2.pop (o:=o) (fs:=P₁.fs) frL;rw[hgL] at J3 p3 frL;refine pk acc _ P₃.h.objs.size o _ (.of g₁.toExt p3) g₁.fs J3 (.mk (vs:=vs) (n:=m) ⟨fun _ _ e=>e,?_,J1.offH (by rw[a2];nofun),oD⟩ ?_) ⟨g₅.m,o,es2,ep2,hgL ▸ hoL,hrest⟩ w
    .exact (bG fun q=>by rw[<-q] at frL;cases (b8 _ _ _).symm.trans frL).trans (b8 _ _ _)
    .exact ((rs.ext (jp a1)).ext (jp a2)).ext (GK fun o q=>by cases frL.symm.trans q)
  .exact pa₄
 have eL:P₃.h.objs.size=((P₁.h.push oi).push (aU [] 0)).objs.size:=by rw[eh]
 rw[eL] at loop;exact codeAny_mono (codeAny_compStart_list (loop _ rfl) (W.self X.A 0 _ _ _ st4 (loop _ rfl))) fun r s hr=>hPP _ _ r s hr
theorem qG {X:Cx} {ρ:bb} {P:Pt} {K:R (List D)->av->Prop} {Q E:Value->Shared->Prop} (i:Nat) (it:CE) (t:CI) (bM:CE) {el iter:Expr} {cs:List Expr} {x:Str} {px pos p2:Pos} {scope:Scope} {use:Option (Value->Sem Unit)}
  (Kc:kj X.sc scope x) (h1:g6 iter=true) (h2:it.is X.sx iter=true) (h3:bM.is (X.sx.comp scope x i) el=true) (h4:t.is (X.sx.comp scope x i) cs=true) (h5:∀ q∈X.Γ,q.2≠i) (h6:X.Γ.lookup (".0":Str)=none)
  (I:aK X.C P) (G:EnvOK X P ρ) (w:Wp K (mt i it t bM X.ker ρ P.σ)) (pe:∀ c e P',bX P P'->aK X.C P'->qk X.C X.A P' c e->K (.ex c) P'.σ->E e P'.s)
  (pk:∀ acc v L oL P',Pa P P' [(L,oL)]->P'.fs=P.fs->aK X.C P'->FreshL X.C P' v acc->(∃ m,P'.h.Ns L m)->K (.ok acc) P'.σ->compPost X.M X.A E use Q v L (.ok .next) P'.s):
  wpAny X.M X.A (comprehension (.ListComp el [⟨.Name x px,iter,cs,0⟩] scope pos) scope X.env p2 (newList []) false (eval iter X.env) use) Q E P.s:=by
 cases hd:X.hd with
 |true=>unfold mt gI at w;rw[show X.ker.hd=true from hd] at w;exact w.elim
 |false=>
 obtain ⟨cl,hclos,hcl⟩:=qe (scope:=scope) (env:=X.env) (fun p hp e=>((X.kinds p.1).2.2 (Kc.free p hp e)).2);refine wpAny_comprehension_free rfl (jq h1) hclos Kc.kind (fun y hy e=>(Kc.loc y hy e).1) ?_;exact xy (RR:=compPost X.M X.A E use Q) (PP:=fun v cenv=>compPost X.M X.A E use Q v cenv.locals) false i it t bM hcl rfl (fun _ _ _ _ h=>h) Kc h2 h3 h4 h5 h6 hd I G w pe pk fun _ _ _ _ _ _ _ _ _ _ _ _ h=>nomatch h
abbrev JF (C:bC) (P:Pt) (v:Value) (l:List D):Prop:=FreshL C P v l
structure CF where
 ev:cQ->bb->PM (List D)
 is:Sx->Expr->Bool
 ok:∀ (X:Cx) (e:Expr) (ρ:bb) (P:Pt) (K:R (List D)->av->Prop) (Q E:Value->Shared->Prop),is X.sx e=true->aK X.C P->EnvOK X P ρ->Wp K (ev X.ker ρ P.σ)->bw X (JF X.C) P K Q E->wpAny X.M X.A (eval e X.env) Q E P.s
noncomputable def F5 (mu:Bool) (l:List D):PM PV:=match mu with
 |false=>ret (.d (.lst l))
 |true=>kN (.fld (.list l))
theorem rn {mu:Bool} (I:aK C P) (r:FreshL C P v l) (w:Wp K (F5 mu l P.σ)):∃ p P',bX P P'/\aK C P'/\RV C P' v p/\P'.s=P.s/\K (.ok p) P'.σ:=by
 obtain @⟨a,vs,n,_,hn,rs⟩:=r;cases mu with
 |false=>exact ⟨.d (.lst l),P.note P.h P.s.toks a (aU vs n),.note hn.own,I.note hn,.lst (n:=⟨n,none,#[]⟩) (b8 _ _ _) (rs.ext (eH hn.own)),rfl,w⟩
 |true=>exact ⟨.p P.σ.length 0,P.make P.h P.s.toks a (.fld (.list l)),.make hn.own,I.make rfl hn ⟨.ref a,.mk (b8 _ _ _) hn.at_ ⟨vs,n,rfl,rs.ext (eH hn.own)⟩⟩,I.rvMake rfl,rfl,w⟩
noncomputable def jm (mu:Bool) (f:CF):CE:=⟨fun K ρ=>bP (f.ev K ρ) (F5 mu),f.is,fun X e ρ P K Q E h I G w p=>f.ok X e ρ P _ Q E h I G (aL w) (p.bind fun l v P1 g I1 r w p=>by
 obtain ⟨q,P2,g2,I2,r2,e2,k⟩:=rn I1 r w;rw[<-e2];exact p.ok q v P2 g2 I2 r2 k)⟩
noncomputable def m6 (i:Nat) (it:CE) (t:CI) (bM:CE) (s:Sx):Expr->Bool:=G8 fun el x iter cs ay scope=>ay==0&&jt s.sc scope x&&g6 iter&&it.is s iter&&bM.is (s.comp scope x i) el&&t.is (s.comp scope x i) cs&&s.Γ.all (fun q=>q.2 !=i)&&s.Γ.lookup (".0":Str)==none
theorem FreshL.show (e:P.own L= .gh) (hs:∀ b o,b≠L->P.h.get? b=some o->h'.get? b=some o):FreshL C P v l->FreshL C (P.show h' t L G) v l
 |@FreshL.mk _ _ a _ _ _ n r=>
  have ne:a≠L:=fun q=>by have:=n.own;rw[q,e] at this;cases this
  .mk ⟨fun _ _ e=>e,(bG ne).trans n.own,n.H,hs _ _ ne n.at_⟩ (r.ext (jp e))
section
variable {K:R (List D)->av->Prop}
theorem Pa.done {oL:Obj} (x:Pa P P' [(L,oL)]) (hf:P'.fs=P.fs) (I:aK X.C P') (hs:Heap.SameBut L P'.h h'):bX P (P'.show h' P'.s.toks L P.G)/\aK X.C (P'.show h' P'.s.toks L P.G):=by
 have a:=(tX I x.G).1;have y:=x.show (h:=h') (t:=P'.s.toks) a;exact ⟨⟨⟨y.sm,y.G,y.fz,y.val,y.cell⟩,hf⟩,I.show x.G fun b o hb e=>hs.extBut b o hb e⟩
theorem D5 (i:Nat) (it:CE) (t:CI) (bM:CE) (h:m6 i it t bM X.sx e=true) (I:aK X.C P) (G:EnvOK X P ρ) (w:Wp K (mt i it t bM X.ker ρ P.σ)) (p:bw X (JF X.C) P K Q E):wpAny X.M X.A (eval e X.env) Q E P.s:=
 lP (fun e=>wpAny X.M X.A (eval e X.env) Q E P.s) h fun el x px iter cs ay scope pos h=>by
  have h0:=ai (ai (ai (ai (ai (ai (ai h))))));rw[bO h0,eval_ListComp];refine qG i it t bM (lH (an (ai (ai (ai (ai (ai (ai h)))))))) (an (ai (ai (ai (ai (ai h)))))) (an (ai (ai (ai (ai h))))) (an (ai (ai (ai h)))) (an (ai (ai h))) (fun q hq z=> ?_) (bO (an h)) I G w p.ex fun acc v L oL P' x' hf I' r hn k=> ?_
  .have:=List.all_eq_true.mp (an (ai h)) q hq;rw[z,bne_self_eq_false] at this;cases this
  .obtain ⟨m,hn⟩:=hn;refine ⟨m,hn,fun h' hs=> ?_⟩;obtain ⟨g,J⟩:=x'.done (X:=X) hf I' hs;exact p.ok acc v _ g J (r.show (tX I' x'.G).1 fun b o hb e=>hs.extBut b o hb e) k
end
noncomputable def gk (i:Nat) (it:CE) (t:CI) (bM:CE):CF:=⟨mt i it t bM,m6 i it t bM,fun _ _ _ _ _ _ _ h I G w p=>D5 i it t bM h I G w p⟩
theorem uF {el iter:Expr} {x y:Str} {px py:Pos} {cs:List Expr} {l:Nat}:∃ b,swapsWith (.ListComp el [⟨.Name x px,iter,cs,0⟩] scope pos) (some (.Name y py)) l env=pure b:=⟨_,rfl⟩
noncomputable def ui (xc mu:Bool) (j i:Nat) (it:CE) (t:CI) (bM:CE) (K:cQ) (ρ:bb):av->Option (Out×av):=df ρ (bP (gI xc i it t bM K ρ) (F5 mu)) fun v σ=>some (.next (ρ.set j (some v)),σ)
theorem pi (xc mu:Bool) (j i:Nat) (it:CE) (t:CI) (bM:CE) {X:SX} {el iter:Expr} {cs:List Expr} {x y:Str} {px py pos q2:Pos} {scope:Scope} {ρ:bb} {P:Pt} {K:Out->av->Prop} {Q:Flow->Shared->Prop} {E:Value->Shared->Prop}
  (run:∀ {K:R (List D)->av->Prop} {Q:Value->Shared->Prop} (p2:Pos) (use:Option (Value->Sem Unit)),Wp K (gI xc i it t bM X.ker ρ P.σ)->(∀ c e P',bX P P'->aK X.C P'->qk X.C X.A P' c e->K (.ex c) P'.σ->E e P'.s)->
   (∀ acc v L oL P',Pa P P' [(L,oL)]->P'.fs=P.fs->aK X.C P'->FreshL X.C P' v acc->(∃ m,P'.h.Ns L m)->K (.ok acc) P'.σ->compPost X.M X.A E use Q v L (.ok .next) P'.s)->
   wpAny X.M X.A (comprehension (.ListComp el [⟨.Name x px,iter,cs,0⟩] scope q2) scope X.env p2 (newList []) false (eval iter X.env) use) Q E P.s)
  (hy:X.Γ.lookup y=some j) (hb:fg X.sc y=true) (G:cn X P ρ) (w:ij K (ui xc mu j i it t bM X.ker ρ P.σ)) (p:cW X P K Q E):wpAny X.M X.A (PySem.exec (.Assign [.Name y py] (.ListComp el [⟨.Name x px,iter,cs,0⟩] scope q2) pos) X.env) Q E P.s:=by
 have pe:∀ c e P',bX P P'->aK X.C P'->qk X.C X.A P' c e->K (.ex c ρ) P'.σ->E e P'.s:=fun c e P' g I' x k=>p.ex c ρ e P' (G.gs g) I' x (G.ext g) k;obtain ⟨b,hsw⟩:=uF (el:=el) (iter:=iter) (x:=x) (y:=y) (px:=px) (py:=py) (pos:=q2) (cs:=cs) (scope:=scope) (l:=pos.line) (env:=X.env);cases b with
 |false=>
  refine wpAny_Assign_Name ?_ hsw;rw[eval_ListComp];refine run _ none (aL (eB w)) pe fun acc v L oL P' x' hf I' r hn k=> ?_;obtain ⟨m,hn⟩:=hn;refine ⟨m,hn,fun h' hs=> ?_⟩;obtain ⟨g,J⟩:=x'.done (X:=X.toCx) hf I' hs;obtain ⟨q,P1,g1,I1,r1,e1,k⟩:=rn J (r.show (tX I' x'.G).1 fun b o hb e=>hs.extBut b o hb e) k;show wpAny X.M X.A (storeName X.env y v) (fun _=>Q .next) E (P'.show h' P'.s.toks L P.G).s;rw[<-e1];exact iE hy hb I1 ((G.ext g).ext g1) r1 fun P2 g2 I2 G2 e2=>p.next _ P2 ((G.gs (g.trans g1)).trans g2) I2 G2 (e2 ▸ k)
 |true=>
  rw[exec_Assign_Name_used _ _ _ _ hsw];refine NN (wpAny_standAt (NN ?_));show wpAny _ X.A (do let _<-comprehension (.ListComp el [⟨.Name x px,iter,cs,0⟩] scope q2) scope X.env _ (newList []) false (eval iter X.env) (some (assign (.Name y py) X.env))) _ _ P.s;refine NN (wpAny_mono (run (Q:=fun _ s'=>Q .next s') _ _ (aL (eB w)) pe fun acc v L oL P' x' hf I' r hn k=> ?_) (fun _ s' hq=>NO (NO hq)) fun _ _ e=>e);obtain ⟨m,oo,es,ep,hn1,hn2⟩:=hn;have hoo:oo=oL:=Om (hn1.symm.trans (tX I' x'.G).2);have hlk:qj P.fs P'.fs:=by
   obtain ⟨f,r,z,_⟩:=G.hd;rw[hf,z];exact .mk (.refl f)
  have past:=x'.past hlk;have G':cn X P' ρ:=⟨⟨hf ▸ G.frs,hf ▸ G.ne,fun x i p h1 h2 h3=>by
   obtain ⟨v,r,l⟩:=G.var x i p h1 h2 h3;exact ⟨v,x'.rv r,hf ▸ l⟩⟩,hf ▸ G.hd⟩
  obtain ⟨q,P1,g1,I1,r1,e1,k⟩:=rn I' r k;rw[<-e1];refine wpAny_assign_Name (iE hy hb I1 (G'.ext g1) r1 fun P2 g2 I2 G2 e2=> ?_);have past2:=past.grow ((G'.gs g1).trans g2);have gh2:=tX I2 past2.G;refine ⟨m,⟨oo,es,ep,by rw[hoo];exact gh2.2,hn2⟩,fun h' hs=> ?_⟩;exact p.next _ (P2.show h' P2.s.toks L P.G) (past2.show gh2.1) (I2.show past2.G fun b o hb e=>hs.extBut b o hb e) (G2.show gh2.1) (by show K _ P2.σ;rw[e2];exact k)
theorem uv {Γ:BZ} (h:Γ.all (fun q=>q.2 !=i)=true):∀ q∈Γ,q.2≠i:=fun q hq z=>by
 have:=List.all_eq_true.mp h q hq;rw[z,bne_self_eq_false] at this;cases this
theorem wf (mu:Bool) (j i:Nat) (it:CE) (t:CI) (bM:CE) {X:SX} {st:Stmt} {ρ:bb} {P:Pt} {K:Out->av->Prop} {Q:Flow->Shared->Prop} {E:Value->Shared->Prop} (h:pP (fun t' e=>dc (fun x _=>X.sx.Γ.lookup x==some j&&fg X.sx.sc x&&m6 i it t bM X.sx e) t') st=true) (I:aK X.C P) (G:cn X P ρ)
  (w:ij K (ui false mu j i it t bM X.ker ρ P.σ)) (p:cW X P K Q E):Ws X st Q E P:=
 gE (fun st=>Ws X st Q E P) h fun te e pos h=>cj (fun te=>wpAny X.M X.A (PySem.exec (.Assign [te] e pos) X.env) Q E P.s) h fun y py h=>by
  have hy:=bO (ai (ai h));have hb:=an (ai h);refine lP (fun e=>wpAny X.M X.A (PySem.exec (.Assign [.Name y py] e pos) X.env) Q E P.s) (an h) (fun el x px iter cs ay scope q2 h=> ?_);have h0:=bO (ai (ai (ai (ai (ai (ai (ai h)))))));subst h0;exact pi false mu j i it t bM (fun p2 use w pe pk=>qG (X:=X.toCx) i it t bM (lH (an (ai (ai (ai (ai (ai (ai h)))))))) (an (ai (ai (ai (ai (ai h)))))) (an (ai (ai (ai (ai h))))) (an (ai (ai (ai h)))) (an (ai (ai h))) (uv (an (ai h))) (bO (an h)) I G.toEnvOK w pe pk) hy hb G w p
noncomputable def qo (mu:Bool) (j i:Nat) (it:CE) (t:CI) (bM:CE):C1:=⟨ui false mu j i it t bM,fun s=>pP fun t' e=>dc (fun x _=>s.Γ.lookup x==some j&&fg s.sc x&&m6 i it t bM s e) t',fun _ _ _ _ _ _ _ h I G w p=>wf mu j i it t bM h I G w p⟩
theorem GN {B B':Heap} (wn:∀ b,b≠L->B'.get? b=B.get? b) (hs:∀ b,b≠L->h'.get? b=h.get? b):h.FunFrames B ls->(∀ env∈ls,env.frame≠some L)->h'.FunFrames B' ls:=by
 induction ls with
 |nil=>exact fun _ _=>trivial
 |cons env ls ih=>
  intro z n;obtain ⟨k,⟨F,o,e1,e2,e3,e4⟩,r⟩:=z;have q:F≠L:=fun z=>n env (.head _) (by rw[e1,z]);exact ⟨k,⟨F,o,e1,(wn F q).trans e2,(hs F q).trans e3,e4⟩,ih r fun x hx=>n x (.tail _ hx)⟩
theorem gp.off {e:Addr} (x:gp C P ls e c fl) (I:aK C P) (fr:P.own L= .fr) (hL:∃ o,P.h.get? L=some o/\∀ vs,o.data≠ .fields vs) (hls:∀ env∈ls,env.frame≠some L) (hs:∀ b,b≠L->P'.h.get? b=P.h.get? b) (hk:∀ b,kept (P'.own b)->kept (P.own b)):gp C P' ls e c fl:=by
 obtain ⟨B,k1,k2,k3,k4,k5,a0,oe,vs,T,oT,ts,he,hcls,hd,h1,hnT,hTe,hT,hdT,h3⟩:=x;obtain ⟨oL,hoL,hnL⟩:=hL;have wn:∀ b,b≠L->(co B [L]).get? b=B.get? b:=fun b hb=>by rw[get?_without,if_neg fun z=>hb (NG.mp z)]
 have wb:∀ b o,(co B [L]).get? b=some o->b≠L/\B.get? b=some o:=fun b o hb=>by
  have q:b≠L:=fun q=>by rw[q,get?_without,if_pos (.head _)] at hb;cases hb
  exact ⟨q,(wn b q).symm.trans hb⟩
 have ne:∀ {b o vs},P.h.get? b=some o->o.data= .fields vs->b≠L:=fun hb hd q=>by
  rw[q,hoL] at hb;cases hb;exact hnL _ hd
 have eL:=ne he hd;have tL:=ne hT hdT;have fL:∀ b,kept (P.own b)->b≠L:=fun b q z=>by rw[z,fr] at q;exact q
 refine ⟨co B [L],fun b o hb=>(hs b (wb b o hb).1).trans (k1 b o (wb b o hb).2),(wn e eL).trans k2,GN wn hs k3 hls,fun b o hb=>(wn b fun z=> ?_).trans (k4 b o hb),fun b o q hb=> ?_,a0,oe,vs,T,oT,ts,(hs e eL).trans he,hcls,hd,h1,(wn T tL).trans hnT,hTe,(hs T tL).trans hT,hdT,h3⟩
 .have:=(I.base b o hb).2;rw[z,fr] at this;cases this
 .have q:=hk b q;rw[hs b (fL b q)] at hb;exact (wn b (fL b q)).trans (k5 b o q hb)
def ME (M:Model) (A:Around) (E:Value->Shared->Prop) (env:Env) (use:Option (Value->Sem Unit)) (Q:Value->Shared->Prop) (v:Value) (L:Addr) (r:Result) (s:Shared):Prop:=match r with
 | .ok f=>compPost M A E use Q v L (.ok f) s
 | .error x=>∃ m,s.heap.Ns L m/\∀ h',Heap.SameBut L s.heap h'->wpAny M A (PySem.passOn "comprehension.variables-let-go" x env:Sem Value) (fun _ _=>False) E {s with heap:=h'}
section
variable {X:SX} {K:R (List D)->av->Prop} {e:Value} {p q:Addr×Obj} {use:Option (Value->Sem Unit)}
theorem D3 (pa:Pa P P' [p,q]) (hf:P'.fs=g::P.fs) (hgc:g.cells=[]) (I:aK X.C P') (hx:qk X.C X.A P' c e) (hfr:qU X.A P.fs) (k:K (.ex c) P'.σ) (pe:∀ c e P',bX P P'->aK X.C P'->qk X.C X.A P' c e->K (.ex c) P'.σ->E e P'.s):
  notedBy X.M X.A (lM scope cl g.L X.env) (fun e s=>ME X.M X.A E X.env use Q v g.L (.error e) s) e P'.s:=by
 obtain ⟨h1,h2⟩:=hx;rw[X.fr] at h1;cases h1;show wpAny X.M X.A (noteFrame (.ref _) X.env) _ _ _;refine oM X.fr X.frame I h2 fun h6 I6 x6=> ?_;obtain ⟨⟨o,es,ep,ho,hr⟩,frL,_⟩:=I6.fr.ns g (by show g∈P'.fs;rw[hf];exact .head _);refine ⟨g.m,⟨o,es,ep,ho,hr⟩,fun h7 hs=> ?_⟩;have pa6:Pa P (P'.to h6 P'.s.toks) [p,q]:=⟨pa.sm.trans ⟨h6,P'.s.toks,rfl⟩,pa.G,pa.fz,pa.val,pa.cell⟩;have a1:=(tX I6 pa6.G).1;have J1:=I6.show (h':=h6) (t:=P'.s.toks) pa6.G fun _ _ _ e=>e;have y1:=pa6.show (h:=h6) (t:=P'.s.toks) a1;have a2:=(tX J1 y1.G).1;have J2:=J1.show (h':=h6) (t:=P'.s.toks) y1.G fun _ _ _ e=>e;have y2:=y1.show (h:=h6) (t:=P'.s.toks) a2;have fr2:=(J2.fr.ns g (by show g∈P'.fs;rw[hf];exact .head _)).2.1;have J3:=J2.pop (o:=o) (fs:=P.fs) hf hgc ho;have y3:=y2.pop (o:=o) (fs:=P.fs) fr2;obtain ⟨gr,J4⟩:=y3.done (X:=X.toCx) rfl J3 hs;have x7:=x6.off (P':=(((((P'.to h6 P'.s.toks).show h6 P'.s.toks p.1 (q::P.G)).show h6 P'.s.toks q.1 P.G).pop g.L o P.fs).show h7 P'.s.toks g.L P.G)) I6 frL ⟨o,ho,fun vs z=>by rw[hr.1] at z;cases z⟩ (fun env hen z=> ?_) (fun b hb=>hs.2 b hb) fun b hb=> ?_
 .exact Bd X.frame J4 x7 fun h8 I8 x8=>pe c _ _ (gr.trans (.to ..)) I8 (.mk X.fr (x8.at X.frame)) k
 .obtain ⟨ls,e1,e2⟩:=hfr;rw[X.fr] at e1;cases e1;obtain ⟨_,f,hff,e3⟩:=e2 env hen;have ord:=I6.fr.ord;rw[show (P'.to h6 P'.s.toks).fs=g::P.fs from hf] at ord;have:=(List.pairwise_cons.mp ord).1 f hff f.L (.head _);rw[e3] at z;rw[Om z] at this;exact Og _ this
 .have hb:kept (fY (fY (fY (fY P'.own p.1 .no) q.1 .no) g.L .gh) g.L .no b):=hb;show kept (P'.own b);by_cases z:b=g.L
  .rw[z,b8] at hb;exact hb.elim
  rw[bG z,bG z] at hb;by_cases z2:b=q.1
  .rw[z2,b8] at hb;exact hb.elim
  rw[bG z2] at hb;by_cases z1:b=p.1
  .rw[z1,b8] at hb;exact hb.elim
  rwa [bG z1] at hb
theorem uP (h:∀ x∈scope.names,x.2≠NameKind.free):scope=relabel scope env:=by
 unfold relabel;have:(scope.names.map fun (n,k)=>if (k==NameKind.free&&env.scope.kind== .function&&env.kindOf n==some .cell) then (n,NameKind.cell) else (n,k))=scope.names:=by
  refine (List.map_congr_left fun x hx=> ?_).trans (List.map_id _);obtain ⟨n,k⟩:=x;have:(k==NameKind.free)=false:=by simpa using h _ hx
  simp [this]
 rw[this]
theorem vX (i:Nat) (it bM:CE) {el iter:Expr} {cs:List Expr} {x:Str} {px pos p2:Pos}
  (Kc:kj X.sc scope x) (hfree:∀ x∈scope.names,x.2≠NameKind.free) (h1:g6 iter=true) (h2:it.is X.sx iter=true) (h3:bM.is (X.sx.comp scope x i) el=true) (h4:cR.is (X.sx.comp scope x i) cs=true) (h5:∀ q∈X.Γ,q.2≠i) (h6:X.Γ.lookup (".0":Str)=none)
  (I:aK X.C P) (G:EnvOK X.toCx P ρ) (w:Wp K (gI true i it cR bM X.ker ρ P.σ)) (pe:∀ c e P',bX P P'->aK X.C P'->qk X.C X.A P' c e->K (.ex c) P'.σ->E e P'.s)
  (pk:∀ acc v L oL P',Pa P P' [(L,oL)]->P'.fs=P.fs->aK X.C P'->FreshL X.C P' v acc->(∃ m,P'.h.Ns L m)->K (.ok acc) P'.σ->compPost X.M X.A E use Q v L (.ok .next) P'.s):
  wpAny X.M X.A (comprehension (.ListComp el [⟨.Name x px,iter,cs,0⟩] scope pos) scope X.env p2 (newList []) false (eval iter X.env) use) Q E P.s:=by
 cases hd:X.hd with
 |true=>unfold gI at w;rw[show X.ker.hd=true from hd] at w;exact w.elim
 |false=>
 have hcl:∀ p∈scope.names,p.2=NameKind.free->([]:List (Str×Addr)).lookup p.1=X.env.cells.lookup p.1:=fun p hp e=>absurd e (hfree p hp);have core:=fun PP hPP=>xy (X:=X.toCx) (RR:=ME X.M X.A E X.env use Q) (PP:=PP) (px:=px) (pos:=pos) true i it cR bM hcl (uP hfree) hPP Kc h2 h3 h4 h5 h6 hd I G w pe pk fun c e v P' g p q pa hf hgc I' hx _ k=>D3 pa hf hgc I' hx G.frs k pe;cases use with
 |none=>
  refine wpAny_comprehension rfl (jq h1) hfree Kc.kind (fun y hy e=>(Kc.loc y hy e).1) (core (fun acc cenv r s'=>∃ m,s'.heap.Ns cenv.locals m/\∀ h',Heap.SameBut cenv.locals s'.heap h'->
     match r with| .ok _=>Q acc {s' with heap:=h'}| .error x=>wpAny X.M X.A (PySem.passOn "comprehension.variables-let-go" x {cenv with scope:=scope}) Q E {s' with heap:=h'}) fun v L r s h=> ?_)
  cases r with
  |ok f=>exact h
  |error x=>
   obtain ⟨m,hn,h⟩:=h;exact ⟨m,hn,fun h' hs=>wpAny_mono (h h' hs) (fun _ _ z=>z.elim) fun _ _ z=>z⟩
 |some u=>
  refine wpAny_comprehension_use rfl (jq h1) hfree Kc.kind (fun y hy e=>(Kc.loc y hy e).1) (core (fun acc cenv r s'=>match r with
     | .ok _=>wpAny X.M X.A (u acc) (fun _ s''=>∃ m,s''.heap.Ns cenv.locals m/\∀ h',Heap.SameBut cenv.locals s''.heap h'->Q .none {s'' with heap:=h'}) E s'
     | .error x=>∃ m,s'.heap.Ns cenv.locals m/\∀ h',Heap.SameBut cenv.locals s'.heap h'->wpAny X.M X.A (PySem.passOn "comprehension.variables-let-go" x {cenv with scope:=scope}) Q E {s' with heap:=h'}) fun v L r s h=> ?_)
  cases r with
  |ok f=>exact h
  |error x=>
   obtain ⟨m,hn,h⟩:=h;exact ⟨m,hn,fun h' hs=>wpAny_mono (h h' hs) (fun _ _ z=>z.elim) fun _ _ z=>z⟩
end
noncomputable def w_ (i:Nat) (it bM:CE) (s:Sx):Expr->Bool:=G8 fun el x iter cs ay scope=>ay==0&&jt s.sc scope x&&g6 iter&&it.is s iter&&bM.is (s.comp scope x i) el&&cR.is (s.comp scope x i) cs&&s.Γ.all (fun q=>q.2 !=i)&&s.Γ.lookup (".0":Str)==none&&scope.names.all (fun p=>p.2 !=NameKind.free)
theorem uu (j i:Nat) (it bM:CE) {X:SX} {st:Stmt} {ρ:bb} {P:Pt} {K:Out->av->Prop} {Q:Flow->Shared->Prop} {E:Value->Shared->Prop} (h:pP (fun t' e=>dc (fun x _=>X.sx.Γ.lookup x==some j&&fg X.sx.sc x&&w_ i it bM X.sx e) t') st=true) (I:aK X.C P) (G:cn X P ρ)
  (w:ij K (ui true false j i it cR bM X.ker ρ P.σ)) (p:cW X P K Q E):Ws X st Q E P:=
 gE (fun st=>Ws X st Q E P) h fun te e pos h=>cj (fun te=>wpAny X.M X.A (PySem.exec (.Assign [te] e pos) X.env) Q E P.s) h fun y py h=>by
  have hy:=bO (ai (ai h));have hb:=an (ai h);refine lP (fun e=>wpAny X.M X.A (PySem.exec (.Assign [.Name y py] e pos) X.env) Q E P.s) (an h) (fun el x px iter cs ay scope q2 h=> ?_);have hfree:∀ x∈scope.names,x.2≠NameKind.free:=fun x hx=>bne_iff_ne.mp (List.all_eq_true.mp (an h) x hx);have h:=ai h;have h0:=bO (ai (ai (ai (ai (ai (ai (ai h)))))));subst h0;exact pi true false j i it cR bM (fun p2 use w pe pk=>vX i it bM (lH (an (ai (ai (ai (ai (ai (ai h)))))))) hfree (an (ai (ai (ai (ai (ai h)))))) (an (ai (ai (ai (ai h))))) (an (ai (ai (ai h)))) (an (ai (ai h))) (uv (an (ai h))) (bO (an h)) I G.toEnvOK w pe pk) hy hb G w p
noncomputable def nG (j i:Nat) (it bM:CE):C1:=⟨ui true false j i it cR bM,fun s=>pP fun t' e=>dc (fun x _=>s.Γ.lookup x==some j&&fg s.sc x&&w_ i it bM s e) t',fun _ _ _ _ _ _ _ h I G w p=>uu j i it bM h I G w p⟩
noncomputable def SX.up (X:SX) (v:Option Value):SX:={X with A:=X.A.mark v,hd:=true,dep:=X.dep,uni:=X.uni,hnd:=(fun q=>by cases q),fr:=X.fr,dep2:=X.dep2,uni2:=X.uni2}
section
variable {M:Model} {e:Addr}
theorem oN {Q:Unit->Shared->Prop} (I:aK C P) (hx:gp C P ls e c fl) (hQ:∀ h',aK C (P.to h' P.s.toks)->gp C (P.to h' P.s.toks) ls e c .none->Q () {P.s with heap:=h'}):
  wpAny M A (setFlight (.ref e) none) Q E P.s:=by
 refine bJ fun G9 k9=> ?_;obtain ⟨B,k1,k2,k3,k4,k5,a0,ht⟩:=hx;refine k9 ?_;refine wpAny_setFlight_noneW k1 k3 ht fun h' x1 x2 x3 x4=> ?_;exact hQ h' (I.slots (fun b o q=>x1 b o (k4 b o q)) (fun b o q z=>x1 _ _ (k5 b o q z)) fun b o hb hn=>⟨o.slots,x4 b o hb hn⟩) ⟨B,x1,k2,x2,k4,fun b o q z=>m4 I k1 k5 b o q z x1,a0,x3⟩
theorem yY (I:aK C P) (hx:gp C P ls e c .none):∃ oe,bX P (P.note P.h P.s.toks e oe)/\aK C (P.note P.h P.s.toks e oe)/\RD C (fY P.own e (.fz oe)) (.exc c) (.ref e):=by
 refine bJ fun G9 k9=> ?_;obtain ⟨B,k1,k2,k3,k4,k5,a0,oe,vs,T,oT,ts,he,hc,hd,_⟩:=hx;refine k9 ?_;have n1:P.own e= .no:=by
  have key:¬kept (P.own e):=fun q=>by rw[k5 e oe q he] at k2;cases k2
  cases q:P.own e with
  |no=>rfl
  |fr=>
   obtain ⟨f,hf,hm⟩:=I.fr.all e q;rcases NB.mp hm with r|r
   .obtain ⟨o',es,ep,h1,h2,_⟩:=(I.fr.ns f hf).1;rw[<-r,he] at h1;cases h1;rw[hd] at h2;cases h2
   .obtain ⟨o',h1,h2⟩:=(I.fr.cl f hf e r).1;rw[he] at h1;cases h1;rw[hd] at h2;cases h2
  |fz o=>rw[q] at key;exact absurd trivial key
  |cell n j=>rw[q] at key;exact absurd trivial key
  |gh=>rw[q] at key;exact absurd trivial key
 have n3:C.H.get? e=none:=by
  cases q:C.H.get? e with
  |none=>rfl
  |some o=>rw[k4 e o q] at k2;cases k2
 exact ⟨oe,.note n1,I.note ⟨fun _ _ q=>q,n1,n3,he⟩,.exc vs (b8 _ _ _) hc.1 hd⟩
end
noncomputable def F0:Option (Out×av)->Option (Out×av)
 |some (.ex _ _,_)=>none
 |z=>z
def nK (K:Out->av->Prop):Out->av->Prop
 | .ex _ _,_=>False
 |o,σ=>K o σ
theorem B7 {K:Out->av->Prop}:∀ {z:Option (Out×av)},ij K (F0 z)->ij (nK K) z
 |none,h=>h
 |some (.next _,_),h=>h
 |some (.ret _,_),h=>h
 |some (.ex _ _,_),h=>h
noncomputable def s7:Option (Out×av)->Option (Out×av)
 |some (.ret v,σ)=>some (.ret v,σ)
 |_=>none
def rK (K:Out->av->Prop):Out->av->Prop
 | .ret v,σ=>K (.ret v) σ
 |_,_=>False
theorem zw {K:Out->av->Prop}:∀ {z:Option (Out×av)},ij K (s7 z)->ij (rK K) z
 |none,h=>h
 |some (.next _,_),h=>h
 |some (.ret _,_),h=>h
 |some (.ex _ _,_),h=>h
structure CH where
 ex:cQ->Nat->bb->av->Option (Out×av)
 is:Sx->List ExceptHandler->Bool
 ok:∀ (X:SX) (hs:List ExceptHandler) (e:Addr) (c:Nat) (ρ:bb) (P:Pt) (K:Out->av->Prop) (Q:Flow->Shared->Prop) (E:Value->Shared->Prop),is X.sx hs=true->c<nX->aK X.C P->gp X.C P (X.env::X.outer) e c .none->cn X P ρ->ij K (ex X.ker c ρ P.σ)->cW X P K Q E->wpAny X.M X.A (handleBy (.ref e) X.env hs) Q E P.s
noncomputable def hN:CH:=⟨fun _ _ _ _=>none,fun _ _=>true,fun _ _ _ _ _ _ _ _ _ _ _ _ _ _ w=>w.elim⟩
noncomputable def IR (f:Option Expr->Option Str->List Stmt->Bool):ExceptHandler->Bool
 | .ExceptHandler t y b _=>f t y b
theorem tV (q:ExceptHandler->Prop) {f:Option Expr->Option Str->List Stmt->Bool}:∀ {h:ExceptHandler},IR f h=true->(∀ t y b pos,f t y b=true->q (.ExceptHandler t y b pos))->q h
 | .ExceptHandler t y b pos,h,k=>k t y b pos h
noncomputable def kX (s:Sx) (c':Nat) (t:Option Expr):Bool:=Gj (dc fun n _=>n==ia c'&&decide (c'<nX)&&et s.sc n) t
section
variable {X:SX} {hs:List ExceptHandler} {e:Addr} {K:Out->av->Prop} {Q:Flow->Shared->Prop}
theorem uk {c':Nat} {t:Option Expr} {y:Option Str} {be:List Stmt} {pos:Pos} (h:kX X.sx c' t=true) (h17:c<nX) (I:aK X.C P) (L:gp X.C P (X.env::X.outer) e c .none)
  (k1:(c==c'||c'==0)=true->codeAny X.M (X.A.mark (some (.ref e))) (.handlers (.ref e) [.ExceptHandler none y be pos] X.env) (fun r s₂=>match r with
     | .ok f=>(match y with
      |none=>Q f s₂
      |some n=>wpAny X.M X.A (do bindName X.env n .none;unbindBehindTheSuite X.env n pos) (fun _ s₃=>Q f s₃) E s₂)
     | .error x=>cameBackBy X.M X.A X.env E x s₂) P.s)
  (k2:(c==c'||c'==0)=false->wpAny X.M X.A (handleBy (.ref e) X.env hs) Q E P.s):wpAny X.M X.A (handleBy (.ref e) X.env (.ExceptHandler t y be pos::hs)) Q E P.s:=by
 refine iO (fun t=>wpAny X.M X.A (handleBy (.ref e) X.env (.ExceptHandler t y be pos::hs)) Q E P.s) h fun t h=> ?_;refine cj (fun t=>wpAny X.M X.A (handleBy (.ref e) X.env (.ExceptHandler (some t) y be pos::hs)) Q E P.s) h fun n np h=> ?_;have h0:=bO (ai (ai h));subst h0;have hc':=Of (an (ai h));have XX:=X.good.cls.X.keeps fun b o e=>(I.base b o e).1;refine wpAny_handleBy_cons (codeAny_handlers_test (dR (X:=(X.up (some (.ref e))).toCx) I (an h) (X.good.exc c' hc').bound ?_)) (fun q=>by cases q);have LT:PySem.W.Looks X.M P.h (typeOf (.ref e)) (.ref (X.C.exc c)):=by
  refine bJ fun G9 k9=> ?_;obtain ⟨B,k1,k2,k3,k4,k5,a0,oe,vs,T,oT,ts,he,hc,hd,_⟩:=L;refine k9 ?_;exact hc.1 ▸ (PySem.W.Looks.ld he).andThen .now
 refine (PySem.W.exm_one XX LT (X.good.exm c h17 c' hc')).here ?_;cases hm:(c==c'||c'==0) with
 |true=>exact k1 hm
 |false=>exact k2 hm
theorem cn.up (G:cn X P ρ) (v:Option Value):cn (X.up v) P ρ:=⟨⟨G.frs,G.ne,G.var⟩,G.hd⟩
theorem cn.dn {v:Option Value} (G:cn (X.up v) P ρ):cn X P ρ:=⟨⟨G.frs,G.ne,G.var⟩,G.hd⟩
noncomputable def Hs (b:Bool) (x y:Option (Out×av)):Option (Out×av):=match b with
 |true=>x
 |false=>y
theorem IS (c':Nat) (b:CS) (r:CH) (h:j5 (IR fun t y be=>kX X.sx c' t&&y.isNone&& !be.isEmpty&&b.is X.sx be) (r.is X.sx) hs=true) (h17:c<nX) (I:aK X.C P) (L:gp X.C P (X.env::X.outer) e c .none) (G:cn X P ρ)
  (w:ij K (Hs (c==c'||c'==0) (F0 (b.ex X.ker.up ρ P.σ)) (r.ex X.ker c ρ P.σ))) (p:cW X P K Q E):wpAny X.M X.A (handleBy (.ref e) X.env hs) Q E P.s:=by
 refine dC (fun hs=>wpAny X.M X.A (handleBy (.ref e) X.env hs) Q E P.s) h fun hn hs h1 h2=> ?_;refine tV (fun hn=>wpAny X.M X.A (handleBy (.ref e) X.env (hn::hs)) Q E P.s) h1 fun t y be pos h=> ?_;refine iM (fun y=>wpAny X.M X.A (handleBy (.ref e) X.env (.ExceptHandler t y be pos::hs)) Q E P.s) (an (ai (ai h))) ?_;refine uk (ai (ai (ai h))) h17 I L (fun q=> ?_) fun q=>r.ok X hs e c ρ P K Q E h2 h17 I L G (by rw[q] at w;exact w) p;rw[q] at w;cases be with
 |nil=>cases an (ai h)
 |cons b0 bt=>
 refine codeAny_handlers_suite (oN I L fun h1 I1 L1=> ?_);have g1:=bX.to P h1 P.s.toks;refine b.ok (X.up (some (.ref e))) _ ρ (P.to h1 P.s.toks) (nK K) _ _ (an h) I1 ((G.ext g1).up _) (B7 w) ⟨fun ρ' P' g I' G' k=> ?_,fun q v P' g I' r k=> ?_,fun c ρ' e P' g I' x G' k=>k.elim⟩
 .exact p.next ρ' P' ((G.gs g1).trans g) I' G'.dn k
 .exact p.ret q v P' ((G.gs g1).trans g) I' r k
theorem IU (c' i:Nat) (b:CS) (r:CH) (h:j5 (IR fun t y be=>kX X.sx c' t&&Gj (fun y=>X.sx.Γ.lookup y==some i&&X.sx.sc.names.lookup y==some .local) y&& !be.isEmpty&&b.is X.sx be) (r.is X.sx) hs=true) (h17:c<nX) (I:aK X.C P) (L:gp X.C P (X.env::X.outer) e c .none) (G:cn X P ρ)
  (w:ij K (Hs (c==c'||c'==0) (s7 (b.ex X.ker.up (ρ.set i (some (.d (.exc c)))) P.σ)) (r.ex X.ker c ρ P.σ))) (p:cW X P K Q E):wpAny X.M X.A (handleBy (.ref e) X.env hs) Q E P.s:=by
 refine dC (fun hs=>wpAny X.M X.A (handleBy (.ref e) X.env hs) Q E P.s) h fun hn hs h1 h2=> ?_;refine tV (fun hn=>wpAny X.M X.A (handleBy (.ref e) X.env (hn::hs)) Q E P.s) h1 fun t y be pos h=> ?_;refine iO (fun y=>wpAny X.M X.A (handleBy (.ref e) X.env (.ExceptHandler t y be pos::hs)) Q E P.s) (an (ai (ai h))) fun y hy=> ?_;refine uk (ai (ai (ai h))) h17 I L (fun q=> ?_) fun q=>r.ok X hs e c ρ P K Q E h2 h17 I L G (by rw[q] at w;exact w) p;rw[q] at w;cases be with
 |nil=>cases an (ai h)
 |cons b0 bt=>
 refine codeAny_handlers_suite_as (oN I L fun h1 I1 L1=> ?_);have g1:=bX.to P h1 P.s.toks;obtain ⟨oe,g2,I2,r2⟩:=yY I1 L1;have G2:=(G.ext g1).ext g2;have hl:X.sc.names.lookup y=some .local:=bO (an hy);have hb2:fg X.sc y=true:=by unfold fg;rw[hl];rfl
 refine iE (X:=X.up (some (.ref e))) (p:=.d (.exc c)) (bO (ai hy)) hb2 I2 (G2.up _) r2 fun P3 g3 I3 G3 e3=> ?_;refine b.ok (X.up (some (.ref e))) _ _ P3 (rK K) _ _ (an h) I3 G3 (by rw[e3];exact zw w) ⟨fun ρ' P' g I' G' k=>k.elim,fun q v P' g I' r k=> ?_,fun c ρ' e P' g I' x G' k=>k.elim⟩;have gs:=(((G.gs g1).grow g2).trans g3).trans g;refine bJ fun G9 k9=> ?_;obtain ⟨f,fr,hf,hL,hcs⟩:=G.hd;refine k9 ?_;have hlk:=gs.fs;rw[hf] at hlk;obtain ⟨f2,fr2,hf2,lk⟩:∃ f2 r2,P'.fs=f2::r2/\f.like f2:=by
  generalize P'.fs=z at hlk;obtain ⟨lk⟩:=hlk;exact ⟨_,_,rfl,lk⟩
 have hm:f2∈P'.fs:=by rw[hf2];exact .head _
 have hloc:X.env.locals=f2.L:=X.loc.trans (hL.symm.trans lk.1.symm);have hns:=(I'.fr.ns f2 hm).1;rw[<-hloc] at hns;rw[X.scE] at hl;refine wpAny_nameGoes hl hns (by rw[X.kind];rfl) fun h' m' hn' hs'=> ?_;have J:=I'.frame (t:=P'.s.toks+1) (g:={f2 with m:=m'}) hf2 ⟨rfl,rfl⟩ (a:=f2.L) (.head _) (fun b o e h=>hs'.extBut b o (by rw[hloc];exact e) h) (by rw[hloc] at hn';exact hn') fun c hc=>(I'.fr.cl f2 hm c hc).1.sameBut hs' (by rw[hloc];exact Nat.ne_of_gt (I'.fr.cl f2 hm c hc).2.2);refine p.ret q v {P'.to h' (P'.s.toks+1) with fs:={f2 with m:=m'}::fr2} (gs.trans ⟨⟨⟨h',P'.s.toks+1,rfl⟩,rfl,fun _ _ e=>e,fun _ _ e=>e,fun _ _ _ _ e=>e⟩,by rw[hf2];exact .mk ⟨rfl,rfl⟩⟩) J ?_ k;cases q with
 |d x=>exact r
 |p n j=>exact r
 |b _ _=>exact r
end
noncomputable def hC (c':Nat) (b:CS) (r:CH):CH:=⟨fun K c ρ σ=>Hs (c==c'||c'==0) (F0 (b.ex K.up ρ σ)) (r.ex K c ρ σ),fun s=>j5 (IR fun t y be=>kX s c' t&&y.isNone&& !be.isEmpty&&b.is s be) (r.is s),fun _ _ _ _ _ _ _ _ _ h h17 I L G w p=>IS c' b r h h17 I L G w p⟩
noncomputable def hA (c' i:Nat) (b:CS) (r:CH):CH:=⟨fun K c ρ σ=>Hs (c==c'||c'==0) (s7 (b.ex K.up (ρ.set i (some (.d (.exc c)))) σ)) (r.ex K c ρ σ),fun s=>j5 (IR fun t y be=>kX s c' t&&Gj (fun y=>s.Γ.lookup y==some i&&s.sc.names.lookup y==some .local) y&& !be.isEmpty&&b.is s be) (r.is s),fun _ _ _ _ _ _ _ _ _ h h17 I L G w p=>IU c' i b r h h17 I L G w p⟩
noncomputable def Cc (h:CH) (K:cQ):Option (Out×av)->Option (Out×av)
 |some (.ex c ρ,σ)=>if c<nX then h.ex K c ρ σ else none
 |z=>z
def HC (K:Out->av->Prop) (h:CH) (k:cQ):Out->av->Prop
 | .ex c ρ,σ=>c<nX/\ij K (h.ex k c ρ σ)
 |o,σ=>K o σ
theorem E5 {K:Out->av->Prop} {h:CH} {k:cQ}:∀ {z:Option (Out×av)},ij K (Cc h k z)->ij (HC K h k) z
 |none,w=>w
 |some (.next _,_),w=>w
 |some (.ret _,_),w=>w
 |some (.ex c ρ,σ),w=>by
  have w:ij K (if c<nX then h.ex k c ρ σ else none):=w;by_cases q:c<nX
  .rw[if_pos q] at w;exact ⟨q,w⟩
  .rw[if_neg q] at w;exact w.elim
noncomputable def wE (b:CS) (h:CH) (K:cQ) (ρ:bb) (σ:av):Option (Out×av):=match K.hd with
 |true=>none
 |false=>Cc h K (b.ex K ρ σ)
theorem Fl (b:CS) (h:CH) {X:SX} {st:Stmt} {ρ:bb} {P:Pt} {K:Out->av->Prop} {Q:Flow->Shared->Prop} {E:Value->Shared->Prop} (hE:w6 (fun be he el fin _=>el.isEmpty&&fin.isEmpty&& !he.isEmpty&&b.is X.sx be&&h.is X.sx he) st=true) (I:aK X.C P) (G:cn X P ρ)
  (w:ij K (wE b h X.ker ρ P.σ)) (p:cW X P K Q E):wpAny X.M X.A (PySem.exec st X.env) Q E P.s:=by
 refine vi (fun st=>wpAny X.M X.A (PySem.exec st X.env) Q E P.s) hE fun be he el fin pos h0=> ?_;refine b_ (fun el=>wpAny X.M X.A (PySem.exec (.Try be he el fin pos) X.env) Q E P.s) (ai (ai (ai (ai h0)))) ?_;refine b_ (fun fin=>wpAny X.M X.A (PySem.exec (.Try be he [] fin pos) X.env) Q E P.s) (an (ai (ai (ai h0)))) ?_;cases hd:X.hd with
 |true=>unfold wE at w;rw[show X.ker.hd=true from hd] at w;exact w.elim
 |false=>
 unfold wE at w;rw[show X.ker.hd=false from hd] at w;cases he with
 |nil=>cases an (ai (ai h0))
 |cons h₀ hs=>
 refine wpAny_Try_except (b.ok X be ρ P (HC K h X.ker) _ _ (an (ai h0)) I G (E5 w) ⟨fun ρ' P' g I' G' k=>wpAny_execs_nil (p.next ρ' P' g I' G' k),p.ret,fun c ρ' e P' g I' x G' k=> ?_⟩);obtain ⟨h1,h2⟩:=x;rw[X.fr] at h1;cases h1;refine oM X.fr X.frame I' h2 fun h1 I1 x1=> ?_;refine oN I1 x1 fun h2 I2 L2=> ?_;have g2:=(bX.to P' h1 P'.s.toks).trans (.to _ h2 P'.s.toks);exact h.ok X _ _ c ρ' ((P'.to h1 P'.s.toks).to h2 P'.s.toks) K Q E (an h0) k.1 I2 L2 (G'.ext g2) k.2 (p.mono (g.grow g2))
noncomputable def z0 (b:CS) (h:CH):C1:=⟨wE b h,fun s=>w6 fun be he el fin _=>el.isEmpty&&fin.isEmpty&& !he.isEmpty&&b.is s be&&h.is s he,fun _ _ _ _ _ _ _ hE I G w p=>Fl b h hE I G w p⟩
noncomputable def qw (L:Addr) (n:Nat) (m:Option Nat) (a:Addr):c4->c4
 | .fr=>if L<=a then .no else .fr
 | .cell k j=>if k<n then .cell k j else if m=some k then .cell n j else .no
 |x=>x
section
variable {m:Option Nat}
theorem AF (x:c4):qw L n m a x= .no∨(qw L n m a x=x/\(x= .fr->a<L)/\∀ k j,x= .cell k j->k<n)∨∃ k j,x= .cell k j/\n<=k/\m=some k/\qw L n m a x= .cell n j:=by
 cases x with
 |no=>exact .inl rfl
 |fz o=>exact .inr (.inl ⟨rfl,c4.noConfusion,fun _ _=>c4.noConfusion⟩)
 |gh=>exact .inr (.inl ⟨rfl,c4.noConfusion,fun _ _=>c4.noConfusion⟩)
 |fr=>
  by_cases q:L<=a
  .exact .inl (if_pos q)
  .exact .inr (.inl ⟨if_neg q,fun _=>Nat.lt_of_not_le q,fun _ _=>c4.noConfusion⟩)
 |cell k j=>
  by_cases q:k<n
  .exact .inr (.inl ⟨if_pos q,c4.noConfusion,fun k' j' e=>by cases e;exact q⟩)
  .by_cases z:m=some k
   .exact .inr (.inr ⟨k,j,rfl,Nat.le_of_not_lt q,z,(if_neg q).trans (if_pos z)⟩)
   .exact .inl ((if_neg q).trans (if_neg z))
theorem EQ {x y:c4} (h:qw L n m a x=y) (hy:y≠ .no) (hc:∀ j,y≠ .cell n j):x=y/\(x= .fr->a<L)/\∀ k j,x= .cell k j->k<n:=by
 rcases AF (L:=L) (a:=a) (n:=n) (m:=m) x with q|⟨q,z⟩|⟨k,j,_,_,_,q⟩
 .exact absurd (h.symm.trans q) hy
 .exact ⟨q.symm.trans h,z⟩
 .exact absurd (h.symm.trans q) (hc j)
theorem hJ {x:c4} (h:qw L n m a x= .cell k j):(x= .cell k j/\k<n)∨(k=n/\∃ k',m=some k'/\n<=k'/\x= .cell k' j):=by
 rcases AF (L:=L) (a:=a) (n:=n) (m:=m) x with q|⟨q,_,z⟩|⟨k',j',e,le,em,q⟩
 .cases h.symm.trans q
 .have e:=q.symm.trans h;exact .inl ⟨e,z k j e⟩
 .cases h.symm.trans q;exact .inr ⟨rfl,k',em,le,e⟩
theorem Dc {x:c4} (h:kept (qw L n m a x)):kept x:=by
 rcases AF (L:=L) (a:=a) (n:=n) (m:=m) x with q|⟨q,_⟩|⟨k',j',e,_⟩
 .rw[q] at h;exact h.elim
 .rw[q] at h;exact h
 .rw[e];trivial
end
section
variable {m:Option Nat} {tl:av}
noncomputable def Pt.leave (P:Pt) (L:Addr) (n:Nat) (m:Option Nat) (tl:av) (fs:List Fm):Pt:={P with fs:=fs,own:=fun a=>qw L n m a (P.own a),σ:=P.σ.take n++tl}
theorem kt {l t:List α} (h:k<n) (hn:n<=l.length):(l.take n++t)[k]? =l[k]? :=by
 rw[Oj (by rw[List.length_take,Nat.min_eq_left hn];exact h),List.getElem?_take_of_lt h]
theorem q7 {l:List α} {x:α} (hn:n<=l.length):(l.take n++[x])[n]? =some x:=by
 have e:(l.take n).length=n:=by rw[List.length_take,Nat.min_eq_left hn]
 rw[NX (On e),e,Nat.sub_self];rfl
def JI (σ:av) (n:Nat) (m:Option Nat) (tl:av):Prop:=(m=none/\tl=[])∨∃ k o,m=some k/\n<=k/\σ[k]? =some o/\tl=[o]
theorem AP (hn:n<=σ.length) (h:JI σ n m tl) {o:PO} (e:(σ.take n++tl)[k]? =some o):(k<n/\σ[k]? =some o)∨(k=n/\∃ k',m=some k'/\n<=k'/\σ[k']? =some o):=by
 rcases Nat.lt_or_ge k n with q|q
 .rw[kt q hn] at e;exact .inl ⟨q,e⟩
 .have el:(σ.take n).length=n:=by rw[List.length_take,Nat.min_eq_left hn]
  rw[NX (by rw[el];exact q),el] at e;rcases h with ⟨_,z⟩|⟨k',o',z1,z2,z3,z4⟩
  .rw[z] at e;cases e
  .rw[z4] at e;cases hk:k - n with
   |succ x=>rw[hk] at e;cases e
   |zero=>
    rw[hk] at e;cases e;exact .inr ⟨by exact Nat.le_antisymm (Nat.sub_eq_zero_iff_le.mp hk) q,k',z1,z2,z3⟩
theorem aK.leave (I:aK C P) (hf:P.fs=g::fs) (hn:n<=P.σ.length) (ht:JI P.σ n m tl):aK C (P.leave g.L n m tl fs):=by
 have ord:=I.fr.ord;rw[hf] at ord;obtain ⟨o1,o2⟩:=List.pairwise_cons.mp ord;have lt:∀ k∈fs,∀ b∈k.adr,qw g.L n m b .fr= .fr:=fun k hk b hb=>if_neg (Nat.not_le.mpr (o1 k hk b hb));have fz:Fz P.own (P.leave g.L n m tl fs).own:=fun b o e=>by show qw g.L n m b (P.own b)=_;rw[e];rfl
 refine ⟨fun b o e=>⟨(I.base b o e).1,?_⟩,fun b o e=>I.fz b o (EQ e c4.noConfusion fun _=>c4.noConfusion).1,fun b e=>I.live b fun q=>e ?_,⟨fun f h=> ?_,fun f h c hc=> ?_,o2,fun b e=> ?_⟩,I.gh.mv fz fun b o e q=>⟨?_,q⟩,fun a b k j e f=> ?_,fun a k j e=> ?_,fun k o e=> ?_⟩
 .show qw g.L n m b (P.own b)=_;rw[(I.base b o e).2];rfl
 .show qw g.L n m b (P.own b)=_;rw[q];rfl
 .obtain ⟨x,y,z⟩:=I.fr.ns f (by rw[hf];exact .tail _ h);exact ⟨x,by show qw g.L n m f.L (P.own f.L)=_;rw[y];exact lt f h _ (.head _),z⟩
 .obtain ⟨x,y,z⟩:=I.fr.cl f (by rw[hf];exact .tail _ h) c hc;exact ⟨x,by show qw g.L n m c (P.own c)=_;rw[y];exact lt f h _ (.tail _ hc),z⟩
 .obtain ⟨x,y,_⟩:=EQ e c4.noConfusion fun _=>c4.noConfusion;obtain ⟨f,h,z⟩:=I.fr.all b x;rw[hf] at h;rcases NB.mp h with q|q
  .subst q;have lb:=y x;rcases NB.mp z with z|z
   .rw[z] at lb;exact absurd lb (Og _)
   .exact absurd (Ou lb (I.fr.cl f (by rw[hf];exact .head _) b z).2.2) (Og _)
  .exact ⟨f,q,z⟩
 .show qw g.L n m b (P.own b)=_;rw[e];rfl
 .rcases hJ e with ⟨e1,e2⟩|⟨e1,k1,e2,e3,e4⟩<;>rcases hJ f with ⟨f1,f2⟩|⟨f1,k2,f2,f3,f4⟩
  .exact I.one a b k j e1 f1
  .exact absurd f1 (Nat.ne_of_lt e2)
  .exact absurd e1 (Nat.ne_of_lt f2)
  .rw[e2] at f2;cases f2;exact I.one a b k1 j e4 f4
 .rcases hJ e with ⟨e1,e2⟩|⟨e1,k1,e2,e3,e4⟩
  .obtain ⟨o,h1,h2⟩:=I.bd a k j e1;exact ⟨o,by show (P.σ.take n++tl)[k]? =_;rw[kt e2 hn];exact h1,h2⟩
  .obtain ⟨o,h1,h2⟩:=I.bd a k1 j e4;rcases ht with ⟨z,_⟩|⟨k',o',z1,z2,z3,z4⟩
   .rw[z] at e2;cases e2
   .rw[z1] at e2;cases e2;rw[h1] at z3;cases z3;exact ⟨o,by show (P.σ.take n++tl)[k]? =_;rw[e1,z4];exact q7 hn,h2⟩
 .rcases AP hn ht e with ⟨e1,e2⟩|⟨e1,k',e2,e3,e4⟩
  .exact (I.obj k o e2).mv fz fun b j o e q=>⟨by show qw g.L n m b (P.own b)=_;rw[e];exact if_pos e1,q⟩
  .subst e1;exact (I.obj k' o e4).mv fz fun b j o e q=>⟨by show qw g.L k m b (P.own b)=_;rw[e];exact (if_neg (Oz.mpr e3)).trans (if_pos e2),q⟩
theorem bX.leave (x:Ext P₀ P) (hn:P₀.σ.length<=P.σ.length):bX P₀ (P.leave L P₀.σ.length m tl P₀.fs):=by
 refine ⟨⟨x.sm,x.G,fun b o e=>by show qw L _ m b (P.own b)=_;rw[x.fz b o e];rfl,fun k j v=> ?_,fun k j a v e=> ?_⟩,rfl⟩
 .obtain ⟨o,h1,h2⟩:=x.val k j v;exact ⟨o,by show (P.σ.take _++tl)[k]? =_;rw[kt v.lt hn];exact h1,h2⟩
 .rcases hJ e with ⟨e1,_⟩|⟨e1,_⟩
  .exact x.cell k j a v e1
  .exact absurd v.lt (by rw[e1];exact Og _)
theorem Ext.len (x:Ext P₀ P):P₀.σ.length<=P.σ.length:=by
 cases h:P₀.σ.length with
 |zero=>exact N3 _
 |succ k=>
  have hk:k<P₀.σ.length:=by rw[h];exact Nat.lt_succ_self k
  have v:∃ j,c8 P₀.σ k j:=by
   cases q:P₀.σ[k] with
   |fld f=>exact ⟨0,_,NE hk,by rw[q];rfl⟩
   |rcd b l=>exact ⟨0,_,NE hk,by rw[q];exact Nat.succ_pos _⟩
   |dead=>exact ⟨0,_,NE hk,by rw[q];trivial⟩
   |wrp f=>exact ⟨0,_,NE hk,by rw[q];exact Nat.zero_lt_succ _⟩
  obtain ⟨j,v⟩:=v;exact (x.val k j v).lt
theorem qk.leave {e:Addr} (hA:A.frames=some ls):qX C P ls e c->qk C A (P.leave L n m tl fs) c (.ref e):=fun h=>by
 obtain ⟨B,k1,k2,k3,k4,k5,k6⟩:=h;exact .mk hA ⟨B,k1,k2,k3,k4,fun b o q=>k5 b o (Dc q),k6⟩
def eK (K:R PV->av->Prop) (keep:Bool) (n:Nat):Out->av->Prop
 | .next _,σ=>K (.ok (.d .none)) (σ.take n)
 | .ret v,σ=>Wp K (FG keep n v σ)
 | .ex c _,σ=>K (.ex c) (σ.take n)
theorem Fa:∀ {z:Option (Out×av)},Wp K (Bn keep n z)->ij (eK K keep n) z
 |none,h=>h
 |some (.next _,_),h=>h
 |some (.ret _,_),h=>h
 |some (.ex _ _,_),h=>h
theorem Af {x:D} {o:PO} (w:Wp K (CB n σ x (some o))):∃ l,o= .rcd true l/\Wp K (some (.ok (.b n x),σ.take n++[.rcd true l])):=by
 cases o with
 |rcd c l=>
  cases c with
  |true=>exact ⟨l,rfl,w⟩
  |false=>exact w.elim
 |_=>exact w.elim
theorem Ad {o:PO} (w:Wp K (Ae keep n σ j (some o))):j=0/\(Wp K (some (.ok (.p n 0),σ.take n++[o]))∨∃ f,o= .fld f/\((∃ z,f= .d z)∨∃ z,f.rd=some z/\Wp K (some (.ok (.d z),σ.take n)))):=by
 cases j with
 |succ _=>exact w.elim
 |zero=>
 refine ⟨rfl,?_⟩;cases o with
 |fld f=>
  cases keep with
  |true=>exact .inl w
  |false=>
   refine .inr ⟨f,rfl,?_⟩;cases f with
   |d z=>exact .inl ⟨z,rfl⟩
   |list l=>exact .inr ⟨_,rfl,w⟩
   |dict a b=>exact .inr ⟨_,rfl,w⟩
 |rcd b l=>cases keep<;>exact .inl w
 |dead=>cases keep<;>exact .inl w
 |wrp f=>cases keep<;>exact .inl w
theorem Ac (I:aK C P) (x:Ext P₀ P) (hf:P.fs=g::P₀.fs) (r:RV C P v p) (w:Wp K (FG keep P₀.σ.length p P.σ)) (k:∀ p P',bX P₀ P'->aK C P'->RV C P' v p->K (.ok p) P'.σ->Q v P'.s):Q v P.s:=by
 have hn:=x.len;have nil:∀ σ:av,σ.take P₀.σ.length++[]=σ.take P₀.σ.length:=fun σ=>List.append_nil _;cases p with
 |d z=>exact k (.d z) (P.leave g.L P₀.σ.length none [] P₀.fs) (.leave x hn) (I.leave hf hn (.inl ⟨rfl,rfl⟩)) (RD.ext (fun b o e=>by show qw g.L _ none b (P.own b)=_;rw[e];rfl) r) (by show K _ (P.σ.take _++[]);rw[nil];exact w)
 |b m y=>
  have fz:Fz P.own (P.leave g.L P₀.σ.length (some m) [] P₀.fs).own:=fun b o e=>by show qw g.L _ (some m) b (P.own b)=_;rw[e];rfl
  by_cases q:m<P₀.σ.length
  .have w:Wp K (if m<P₀.σ.length then none else CB P₀.σ.length P.σ y P.σ[m]?):=w;rw[if_pos q] at w;exact w.elim
  .have q:=Nat.le_of_not_lt q;have w:Wp K (if m<P₀.σ.length then none else CB P₀.σ.length P.σ y P.σ[m]?):=w;rw[if_neg (Oz.mpr q)] at w;obtain ⟨⟨o,h1,h2⟩,t,u,z,k',e,f,gg,r⟩:=r;rw[h1] at w;obtain ⟨l,rfl,w2⟩:=Af w;refine k (.b P₀.σ.length y) (P.leave g.L P₀.σ.length (some m) [.rcd true l] P₀.fs) (.leave x hn) (I.leave hf hn (.inr ⟨m,_,rfl,q,h1,rfl⟩)) ⟨⟨_,q7 hn,h2⟩,t,u,z,k',e,fz _ _ f,fun a e'=> ?_,RD.ext fz r⟩ w2;rcases hJ e' with ⟨_,e1⟩|⟨_,k'',e1,_,e2⟩
   .exact absurd e1 (Og _)
   .cases e1;exact gg a e2
 |p m j=>
  by_cases q:m<P₀.σ.length
  .have w:Wp K (if m<P₀.σ.length then some (.ok (.p m j),P.σ.take P₀.σ.length) else _):=w;rw[if_pos q] at w;refine k (.p m j) (P.leave g.L P₀.σ.length none [] P₀.fs) (.leave x hn) (I.leave hf hn (.inl ⟨rfl,rfl⟩)) ⟨?_,fun a e=> ?_⟩ (by show K _ (P.σ.take _++[]);rw[nil];exact w)
   .obtain ⟨o,h1,h2⟩:=r.1;exact ⟨o,by show (P.σ.take _++[])[m]? =_;rw[kt q hn];exact h1,h2⟩
   .rcases hJ e with ⟨e1,_⟩|⟨e1,_⟩
    .exact r.2 a e1
    .omega
  .have q:=Nat.le_of_not_lt q;have w:Wp K (if m<P₀.σ.length then some (.ok (.p m j),P.σ.take P₀.σ.length) else Ae keep P₀.σ.length P.σ j P.σ[m]?):=w;rw[if_neg (Oz.mpr q)] at w;obtain ⟨o,h1,h2⟩:=r.1;rw[h1] at w;obtain ⟨j0,w2|⟨f,e1,⟨z,e2⟩|⟨z,e2,w2⟩⟩⟩:=Ad w
   .subst j0;refine k (.p P₀.σ.length 0) (P.leave g.L P₀.σ.length (some m) [o] P₀.fs) (.leave x hn) (I.leave hf hn (.inr ⟨m,o,rfl,q,h1,rfl⟩)) ⟨⟨o,q7 hn,h2⟩,fun a e=> ?_⟩ w2;rcases hJ e with ⟨_,e1⟩|⟨_,k',e1,_,e2⟩
    .exact absurd e1 (Og _)
    .cases e1;exact r.2 a e2
   .rw[e1,e2] at h1;obtain ⟨_,_,_,h⟩:∃ v,jw C P.own P.h m 0 (.d z) v:=I.obj m _ h1;exact h.elim
   .subst e1;subst j0;have e4:vn (.p m 0) P.σ=some (.d z,P.σ.set m .dead):=by
     show (((P.σ[m]?).bind fun o=>o.at 0).bind fun f=>f.rd.map fun x=>(PV.d x,P.σ.set m PO.dead))=_;rw[h1];show (f.rd.map fun x=>(PV.d x,P.σ.set m PO.dead))=_;rw[e2];rfl
    obtain ⟨P',g',I',e5,e6,kk⟩:=A1 I e4;have x':=x.trans g'.toExt;rw[<-e6];refine k (.d z) (P'.leave g.L P₀.σ.length none [] P₀.fs) (.leave x' x'.len) (I'.leave (g'.fs.trans hf) x'.len (.inl ⟨rfl,rfl⟩)) (RD.ext (fun b o e=>by show qw g.L _ none b (P'.own b)=_;rw[e];rfl) (kk v r)) ?_;show K _ (P'.σ.take _++[]);rw[nil,e5,List.take_set_of_le q];exact w2
end
theorem il {α:Type}:∀ {ns:List Str} {vs:List α} {n:Str},n∈ns->ns.length=vs.length->((ns.zip vs).lookup n).isSome=true
 |[],_,_,h,_=>nomatch h
 |a::r,[],_,_,h=>by simp at h
 |a::r,v::vs,n,h,hl=>by
  rw[List.zip_cons_cons,List.lookup_cons];cases e:n==a with
  |true=>rfl
  |false=>
   refine il ?_ (by simpa using hl);rcases NB.mp h with q|q
   .subst q;simp at e
   .exact q
theorem lG {f g:α->Option β}:∀ {l:List α},(∀ x∈l,f x=g x)->l.filterMap f=l.filterMap g:=by
 intro l
 induction l with
 |nil=>
  intro _;exact rfl
 |cons a r ih=>
  intro h;rw[List.filterMap_cons,List.filterMap_cons,h a (.head _),ih fun x hx=>h x (.tail _ hx)]
theorem jO {α:Type}:∀ {ns:List Str} {vs:List α},ns.Nodup->ns.length=vs.length->ns.filterMap (fun n=>((ns.zip vs).lookup n).map (n,·))=ns.zip vs
 |[],_,_,_=>by simp
 |a::r,[],_,h=>by simp at h
 |a::r,v::vs,hn,hl=>by
  rw[List.filterMap_cons];have h0:(((a::r).zip (v::vs)).lookup a).map (a,·)=some (a,v):=by simp [List.lookup_cons]
  rw[h0];simp only [List.zip_cons_cons];congr 1;rw[lG (g:=fun n=>((r.zip vs).lookup n).map (n,·)) fun n hnr=> ?_]
  .exact jO (Oi.mp hn).2 (by simpa using hl)
  .rw[List.lookup_cons];have:(n==a)=false:=beq_eq_false_iff_ne.mpr fun e=>(Oi.mp hn).1 (e ▸ hnr);rw[this]
theorem Mg {γ:Type} {l:List α} {b:β} {f:α->β->Sem (ForInStep β)} {g:β->Sem γ} (h:l=[]):(forIn l b f>>=g)=g b:=by subst h;rfl
theorem sb {fd:FuncData} {vals:List Value} {names:List Str} (h1:fd.params.posonlyargs=[]) (h2:fd.params.kwonlyargs=[]) (h3:fd.params.vararg=none) (h4:fd.params.kwarg=none) (h5:fd.params.args.map (·.arg)=names)
  (h6:fd.defaults= .none) (hl:names.length=vals.length) (hn:names.Nodup):bindArgs fd ⟨vals,[]⟩=pure (names.zip vals):=by
 obtain ⟨f1,f2,⟨p1,p2,p3,p4,p5,p6,p7⟩,f4,f5,f6,f7,f8,f9,f10,f11,f12,f13,f14,f15⟩:=fd;dsimp only at h1 h2 h3 h4 h5 h6;subst h1 h2 h3 h4 h5 h6;have hm:((p2.map (·.arg)).take ((p2.map (·.arg)).length - ([]:List Value).length)).filter (fun n=>(((p2.map (·.arg)).zip vals).lookup n).isNone)=[]:=by
  rw[Oo,Nat.sub_zero,List.take_length];refine List.filter_eq_nil_iff.mpr fun n hnm=> ?_;have:=il hnm hl;cases e:((p2.map (·.arg)).zip vals).lookup n with
  |none=>rw[e] at this;cases this
  |some=>exact NY
 have hd:([]:List Value).drop (([]:List Value).length - (p2.map (·.arg)).length)=[]:=List.drop_nil;refine (if_neg ?_).trans ?_
 .show¬(decide (vals.length>(p2.map (·.arg)).length)&&true)=true;rw[hl,Op (Og _)];exact NY
 refine (if_neg ?_).trans ?_
 .show¬(!(((p2.map (·.arg)).take ((p2.map (·.arg)).length - (([]:List Value).drop (([]:List Value).length - (p2.map (·.arg)).length)).length)).filter fun n=>(((p2.map (·.arg)).zip vals).lookup n).isNone).isEmpty)=true;rw[hd,hm];exact NY
 refine (Mg ?_).trans ?_
 .show ((p2.map (·.arg)).drop _).zip (([]:List Value).drop (([]:List Value).length - (p2.map (·.arg)).length))=[];rw[hd,List.zip_nil_right]
 show (pure (((p2.map (fun x:Arg=>x.arg))++[]).filterMap fun n=>(((p2.map (fun x:Arg=>x.arg)).zip vals).lookup n).map (n,·)):Sem _)=_;rw[List.append_nil,jO hn hl]
theorem tg [BEq α] [LawfulBEq α]:∀ {l:List α},nP l=true->l.Nodup:=by
 intro l
 induction l with
 |nil=>
  intro _;exact Ol
 |cons a r ih=>
  intro h;have h:(!r.contains a&&nP r)=true:=h;simp only [Bool.and_eq_true,Bool.not_eq_true'] at h;exact Oi.mpr ⟨fun q=>by rw[List.contains_iff_mem.mpr q] at h;exact absurd h.1 (by simp),ih h.2⟩
theorem AZ:∀ {Γ:BZ},(Γ.map (·.2)).Nodup->MV Γ
 |[],_=>fun x y i h=>by cases h
 |(a,j)::r,hn=>fun x y i h1 h2=>by
  have ih:=AZ (Oi.mp hn).2;have hj:∀ z,r.lookup z≠some j:=fun z q=>(Oi.mp hn).1 (NQ.mpr ⟨(z,j),PySem.mem_of_lookup q,rfl⟩);rw[List.lookup_cons] at h1 h2;cases e1:x==a<;>cases e2:y==a<;>rw[e1] at h1<;>rw[e2] at h2
  .exact ih x y i h1 h2
  .cases h2;exact absurd h1 (hj x)
  .cases h1;exact absurd h2 (hj y)
  .rw[beq_iff_eq.mp e1,beq_iff_eq.mp e2]
noncomputable def JN (Γ:BZ) (sc:Scope):Nat->List Arg->Bool
 |_,[]=>true
 |k,a::r=>Γ.lookup a.arg==some k&&fg sc a.arg&&JN Γ sc (k+1) r
structure mM where
 id:Nat
 nm:Str
 mth:Bool
 Γ:BZ
 params:Nat
 slots:Nat
 keep:Bool
 body:CS
noncomputable def mM.pf (r:mM):PF:=⟨r.params,r.slots,r.keep,r.body.ex⟩
noncomputable def JO (s:Sx) (r:mM) (ps:Arguments) (body:List Stmt):Bool:=
 ps.posonlyargs.isEmpty&&ps.kwonlyargs.isEmpty&&ps.vararg.isNone&&ps.kwarg.isNone&&ps.args.length==r.params&&JN r.Γ s.sc 0 ps.args&&nP (ps.args.map (·.arg))&&
 nP (r.Γ.map (·.2))&&s.sc.kind== .function&& !s.sc.isCoroutine&& !s.sc.isGenerator&&r.body.is s body
noncomputable def w7 (a:Addr):Value->Bool
 | .ref b=>b==a
 |_=>false
theorem AU (h:w7 a v=true):v= .ref a:=by
 cases v<;>first|exact congrArg Value.ref (bO h)|cases h
noncomputable def yC (l:Option zv) (cd:Value) (q:Str):Option zv:=l.bind fun z=>if (w7 z.c cd&&(q++".<locals>."++"<lambda>"==z.qual))=true then some z else none
theorem yB {l:Option zv} {cd:Value} {q:Str} {z:zv} (h:yC l cd q=some z):l=some z/\cd= .ref z.c/\q++".<locals>."++"<lambda>"=z.qual:=by
 cases l with
 |none=>cases h
 |some y=>
  have h:(if (w7 y.c cd&&(q++".<locals>."++"<lambda>"==y.qual))=true then some y else none)=some z:=h;by_cases k:(w7 y.c cd&&(q++".<locals>."++"<lambda>"==y.qual))=true
  .rw[if_pos k] at h;cases h;exact ⟨rfl,AU (ai k),bO (an k)⟩
  .rw[if_neg k] at h;cases h
def Mu (C:bC) (r:mM) (a:Addr):Prop:=∃ o fd body,C.H.get? a=some o/\o.data= .func fd/\C.H.CodeRec fd.code fd.qualname/\fd.body= .stmts body/\fd.closure=[]/\fd.globals=mainGlobals/\fd.builtins=builtinsNs/\fd.defaults= .none/\
 JO ⟨C.fnm,C.att,C.key,C.gls,fd.scope,r.Γ,yC C.lam fd.code fd.qualname⟩ r fd.params body=true
def wk (C:bC):Prop:=∀ f pf,C.T f=some pf->∃ r:mM,pf=r.pf/\Mu C r (C.fadr f)
theorem qJ {kindOf:Str->Option NameKind}:∀ {ns:List Str} {vs:List Value} {m:Str->Option Value} {k:Nat} {x:Str} {v:Value},ns.Nodup->ns[k]? =some x->vs[k]? =some v->kindOf x=some .local->bindL kindOf (ns.zip vs) m x=some v
 |[],_,_,_,_,_,_,h,_,_=>by simp at h
 |a::r,[],_,_,_,_,_,_,h,_=>by simp at h
 |a::r,u::vs,m,k,x,v,hn,h1,h2,hk=>by
  rw[List.zip_cons_cons,bindL];cases k with
  |zero=>
   simp at h1 h2;subst h1;subst h2;rw[if_pos hk];have keep:∀ (l:List (Str×Value)) (m:Str->Option Value),a∉l.map (·.1)->bindL kindOf l m a=m a:=by
    intro l
    induction l with
    |nil=>intro m _;rfl
    |cons p l ih=>
     intro m hm;obtain ⟨n,w⟩:=p;rw[bindL,ih _ fun q=>hm (.tail _ q)];split
     .exact if_neg (fun e:a=n=>hm (by rw[e];exact .head _))
     .rfl
   rw[keep _ _ fun q=>(Oi.mp hn).1 (by
    obtain ⟨p,hp,e⟩:=NQ.mp q;exact e ▸ (List.of_mem_zip hp).1)]
   simp
  |succ k=>exact qJ (Oi.mp hn).2 (by simpa using h1) (by simpa using h2) hk
theorem qK {kindOf:Str->Option NameKind}:∀ {ns:List Str} {vs:List Value} {m:Str->Option Value} {k:Nat} {x:Str} {v:Value},ns.Nodup->ns[k]? =some x->vs[k]? =some v->kindOf x=some .cell->bindC kindOf (ns.zip vs) m x=some v
 |[],_,_,_,_,_,_,h,_,_=>by simp at h
 |a::r,[],_,_,_,_,_,_,h,_=>by simp at h
 |a::r,u::vs,m,k,x,v,hn,h1,h2,hk=>by
  rw[List.zip_cons_cons,bindC];cases k with
  |zero=>
   simp at h1 h2;subst h1;subst h2;rw[if_neg (by rw[hk];decide)];have keep:∀ (l:List (Str×Value)) (m:Str->Option Value),a∉l.map (·.1)->bindC kindOf l m a=m a:=by
    intro l
    induction l with
    |nil=>intro m _;rfl
    |cons p l ih=>
     intro m hm;obtain ⟨n,w⟩:=p;rw[bindC,ih _ fun q=>hm (.tail _ q)];split
     .rfl
     .exact if_neg (fun e:a=n=>hm (by rw[e];exact .head _))
   rw[keep _ _ fun q=>(Oi.mp hn).1 (by
    obtain ⟨p,hp,e⟩:=NQ.mp q;exact e ▸ (List.of_mem_zip hp).1)]
   simp
  |succ k=>exact qK (Oi.mp hn).2 (by simpa using h1) (by simpa using h2) hk
theorem w8 {Γ:BZ}:∀ {l:List Arg} {k:Nat},JN Γ sc k l=true->∀ j a,l[j]? =some a->Γ.lookup a.arg=some (k+j)/\fg sc a.arg=true:=by
 intro l
 induction l with
 |nil=>
  intro _ _ j a e;simp at e
 |cons b r ih=>
  intro k h j a e;have h:(Γ.lookup b.arg==some k&&fg sc b.arg&&JN Γ sc (k+1) r)=true:=h;simp only [Bool.and_eq_true,beq_iff_eq] at h;cases j with
  |zero=>simp at e;subst e;exact h.1
  |succ j=>
   have:=ih h.2 j a (by simpa using e);rw[show k+1+j=k+(j+1) by exact Iq] at this;exact this
noncomputable def m9 (cs:List (Str×Addr)):List Addr:=(cs.filter fun p=>cs.lookup p.1==some p.2).map (·.2)
noncomputable def Bs (cs:List (Str×Addr)) (cm:Str->Option Value) (c:Addr):Option Value:=match cs.find? fun p=>p.2==c with
 |some p=>cm p.1
 |none=>none
theorem uf {cs:List (Str×Addr)} {cm:Str->Option Value} {x:Str} {c:Addr} (hp:cs.Pairwise fun x y=>x.2≠y.2) (h:cs.lookup x=some c):Bs cs cm c=cm x:=by
 have hm:=PySem.mem_of_lookup h;unfold Bs;cases e:cs.find? fun p=>p.2==c with
 |none=>exact absurd (List.find?_eq_none.mp e _ hm) (by simp)
 |some p=>
  have h1:=List.mem_of_find?_eq_some e;have h2:p.2=c:=by simpa using List.find?_some e
  rw[PySem.name_of_addr hp hm (n':=p.1) (by rw[<-h2];exact h1)]
theorem jR.length (h:jR C P ps vs):vs.length=ps.length:=by
 induction h with
 |nil=>rfl
 |cons _ _ ih=>exact congrArg Nat.succ ih
theorem jR.get (h:jR C P ps vs):∀ {k:Nat} {p:PV},ps[k]? =some p->∃ v,vs[k]? =some v/\RV C P v p:=by
 induction h with
 |nil=>exact fun e=>nomatch e
 |cons h _ ih=>
  intro k p e;cases k with
  |zero=>cases e;exact ⟨_,rfl,h⟩
  |succ k=>exact ih (k:=k) e
theorem zf {d:Nat} (G:gq C) (hF:wk C) (hS:sB C d):sB C (d+1):=by
 intro hd A P f args vs K Q E hfrs hX hdep huni hhnd I hargs w p;have w:Wp K ((match C.T f with
  |some pf=>FD ⟨jQ C.T d,hd⟩ pf args
  |none=>fun _=>none) P.σ):=w
 cases hT:C.T f with
 |none=>rw[hT] at w;exact w.elim
 |some pf=>
 rw[hT] at w;obtain ⟨rw,hpf,o,fd,body,ho,hdata,hcd,hbody,hclo,hgl,hbl,hdf,hf⟩:=hF f pf hT;subst hpf;simp only [JO,Bool.and_eq_true,beq_iff_eq,List.isEmpty_iff,Option.isNone_iff_eq_none,Bool.not_eq_true'] at hf;obtain ⟨⟨⟨⟨⟨⟨⟨⟨⟨⟨⟨p1,p2⟩,p3⟩,p4⟩,p5⟩,p6⟩,p7⟩,p8⟩,p9⟩,p10⟩,p11⟩,p12⟩:=hf;have w:Wp K (if args.length=rw.params then Bn rw.keep P.σ.length (rw.body.ex ⟨jQ C.T d,hd⟩ (args.map some++List.replicate (rw.slots - rw.params) none) P.σ) else none):=w;by_cases hlen:args.length=rw.params
 case neg=>rw[if_neg hlen] at w;exact w.elim
 rw[if_pos hlen] at w;have base:∀ b o,C.H.get? b=some o->P.h.get? b=some o:=fun b o e=>(I.base b o e).1;have hvl:vs.length=args.length:=hargs.length;have hnm:(fd.params.args.map (·.arg)).length=vs.length:=by simp [p5,hvl,hlen]
 have hnd:=tg p7;have hkinds:∀ x∈(fd.params.args.map (·.arg)).zip vs,fd.scope.names.lookup x.1=some .local∨fd.scope.names.lookup x.1=some .cell:=fun x hx=>by
  obtain ⟨a,ha,e⟩:=NQ.mp (List.of_mem_zip hx).1;obtain ⟨j,hj⟩:=List.mem_iff_getElem?.mp ha;have:=(w8 p6 j a hj).2;rw[<-e]
  simpa [fg] using this
 refine (codeAny_call_cells (Ld hdep) (base _ _ ho) hdata (G.nolimit.keeps base) (hcd.keeps base) hbody (sb p1 p2 p3 p4 rfl hdf hnm hnd) hclo ?_ (fun s₁ x=> ?_) p10 p11 p9)
 .intro x hx;rcases hkinds x hx with h|h
  .exact .inl h
  .exact .inr ⟨h,PySem.W.cellsFrom_some _ _ _ (.inl h)⟩
 .generalize henv:callEnvC fd P.h.objs.size (C.fadr f)=env' at x ⊢;have e1:env'.locals=P.h.objs.size:=by rw[<-henv];rfl
  have e2:env'.frame=some P.h.objs.size:=by rw[<-henv];rfl
  have e3:env'.scope=fd.scope:=by rw[<-henv];rfl
  have e4:env'.globals=mainGlobals:=by rw[<-henv,<-hgl];rfl
  have e5:env'.builtins=builtinsNs:=by rw[<-henv,<-hbl];rfl
  have e6:env'.cells=cellsFrom (P.h.objs.size+1) fd.scope.names []:=by rw[<-henv];rfl
  obtain ⟨h₁,t₁,es⟩:=x.toInCall.same;generalize hg:(⟨P.h.objs.size,bindL env'.kindOf ((fd.params.args.map (·.arg)).zip vs) fun _=>none,m9 env'.cells,Bs env'.cells (bindC env'.kindOf ((fd.params.args.map (·.arg)).zip vs) fun _=>none)⟩:Fm)=g;have gL:g.L=P.h.objs.size:=by rw[<-hg]
  have gc:g.cells=m9 env'.cells:=by rw[<-hg]
  have hcm:∀ c∈m9 env'.cells,∃ y,env'.cells.lookup y=some c:=fun c hc=>by
   obtain ⟨p,hp,rfl⟩:=NQ.mp hc;exact ⟨p.1,by simpa using (List.mem_filter.mp hp).2⟩
  have hmc:∀ y c,env'.cells.lookup y=some c->c∈m9 env'.cells:=fun y c hc=>NQ.mpr ⟨(y,c),List.mem_filter.mpr ⟨PySem.mem_of_lookup hc,by simpa using hc⟩,rfl⟩;have abv:∀ c∈g.cells,g.L<c:=fun c hc=>by
   rw[gc] at hc;obtain ⟨y,hy⟩:=hcm c hc;have:=x.above y c (PySem.mem_of_lookup hy);rw[gL,<-e1];exact this
  have eh:s₁.heap=h₁:=by rw[es]
  have J:aK C (P.enter h₁ t₁ g):=by
   refine I.enter hX (by rw[<-eh];exact x.toInCall.keep) (On gL.symm) (by rw[<-hg,<-eh];rw[e1] at x;exact x.toInCall.ns) fun c hc=>⟨?_,abv c hc⟩;have hc':=hc;rw[gc] at hc';obtain ⟨y,hy⟩:=hcm c hc';rw[<-hg,<-eh];show s₁.heap.IsCell c (Bs _ _ c);rw[uf x.apart hy];exact x.cell y c hy
  have xE:Ext P (P.enter h₁ t₁ g):=.enter I fun b o e q=>by
   have lt:=N8 e;rcases NB.mp q with z|z
   .rw[z,gL] at lt;exact Og _ lt
   .have:=abv b z;rw[gL] at this;exact Og _ (Ou lt this)
  obtain ⟨ls,hls,hfr⟩:=hfrs;have hcell:∀ y,env'.kindOf y=some .cell->∃ c,env'.cells.lookup y=some c/\c∈g.cells:=fun y hy=>by
   have hk:fd.scope.names.lookup y=some .cell:=by rw[<-e3];exact hy
   have:=PySem.W.cellsFrom_some (x:=y) fd.scope.names (P.h.objs.size+1) [] (.inl hk);rw[<-e6] at this;obtain ⟨c,hc⟩:=Option.isSome_iff_exists.mp this;exact ⟨c,hc,gc ▸ hmc y c hc⟩
  have hinj:=AZ (tg p8);have fr:(A.deeper env').frames=some (env'::ls):=by simp [Around.deeper,hls]
  let X:SX:={C:=C,A:=A.deeper env',env:=env',sc:=env'.scope,Γ:=rw.Γ,d:=d,hd:=hd,good:=G,calls:=hS,kinds:=fun y=>⟨id,fun h=>bO (ai h),fun h=>⟨h,(hcell y h).imp fun _ q=>q.1⟩⟩,kind:=(by rw[e3];exact p9),glob:=e4,blt:=e5,dep:=(by show A.depth+1+8*d+150<recursionLimit;exact Lc hdep),uni:=(by show A.units+3+64*d+1000<cLine;exact Lb huni),hnd:=hhnd,lm:=yC C.lam fd.code fd.qualname,outer:=ls,L:=g.L,cs:=g.cells,fr:=fr,loc:=(by rw[gL];exact e1),frame:=(by rw[gL];exact e2),cell:=hcell,apart:=fun y z c h1 h2=>PySem.name_of_addr x.apart (PySem.mem_of_lookup h1) (PySem.mem_of_lookup h2),inj:=hinj,scE:=rfl,dep2:=(by show A.depth+1+8*d+151<recursionLimit;exact La hdep),uni2:=(by show A.units+3+64*d+1005<cLine;exact K_ huni),lmE:=fun l h=>(by obtain ⟨a,b,c⟩:=yB h;exact ⟨a,by rw[<-henv];exact b,by rw[<-henv];exact c⟩)}
  have hE:cn X (P.enter h₁ t₁ g) (args.map some++List.replicate (rw.slots - rw.params) none):=by
   refine ⟨⟨⟨env'::ls,fr,fun z hz=> ?_⟩,fun q=>(by cases q),fun y i p hy hm hp=> ?_⟩,⟨g,P.fs,rfl,rfl,rfl⟩⟩
   .rcases NB.mp hz with q|hz
    .rw[q];exact ⟨by rw[e3,p9];decide,g,.head _,by rw[gL];exact e2⟩
    .obtain ⟨k,q,hq,e⟩:=hfr z hz;exact ⟨k,q,.tail _ hq,e⟩
   have hi:i<args.length:=by
    rcases Nat.lt_or_ge i args.length with h|h
    .exact h
    .rw[NX (by simpa using h)] at hp;obtain ⟨hh,e⟩:=ND.mp hp;rw[List.getElem_replicate] at e;cases e
   rw[Oj (by simpa using hi),NR] at hp;obtain ⟨q,hq,e⟩:=Ok.mp hp;cases e;obtain ⟨v,hv,hr⟩:=hargs.get hq;have hi':i<fd.params.args.length:=by rw[p5];exact L5 hlen hi
   obtain ⟨a,ha⟩:∃ a,fd.params.args[i]? =some a:=⟨_,NE hi'⟩;obtain ⟨h1,h2⟩:=w8 p6 i a ha;rw[Oq] at h1;have hya:=hinj _ _ _ hy h1;subst hya;have hn:(fd.params.args.map (·.arg))[i]? =some a.arg:=by rw[NR,ha];rfl
   refine ⟨v,hr.ext xE,?_⟩;rw[fg,Bool.or_eq_true,beq_iff_eq,beq_iff_eq] at h2;have h2:env'.kindOf a.arg=some NameKind.«local»∨env'.kindOf a.arg=some .cell:=by unfold Env.kindOf;rw[e3];exact h2
   rcases h2 with h2|h2
   .exact .inl ⟨h2,g,.head _,gL.trans e1.symm,by rw[<-hg];exact qJ hnd hn hv h2⟩
   .obtain ⟨c,hc,hcc⟩:=hcell _ h2;refine .inr ⟨.inl h2,c,hc,g,.head _,hcc,?_⟩;rw[<-hg];show Bs _ _ c=_;rw[uf x.apart hc];exact qK hnd hn hv h2
  have eP:s₁=(P.enter h₁ t₁ g).s:=es;rw[eP];refine rw.body.ok X body _ (P.enter h₁ t₁ g) (eK K rw.keep P.σ.length) _ _ (by show rw.body.is ⟨C.fnm,C.att,C.key,C.gls,env'.scope,rw.Γ,yC C.lam fd.code fd.qualname⟩ body=true;rw[e3];exact p12) J hE (Fa w) ⟨fun ρ P' gs I' G' k=> ?_,fun q v P' gs I' r k=> ?_,fun c ρ e P' gs I' xx G' k=> ?_⟩
  .obtain ⟨g',hf'⟩:∃ g',P'.fs=g'::P.fs:=by
    have:=gs.fs;generalize P'.fs=z at this;obtain ⟨_⟩:=this;exact ⟨_,rfl⟩
   exact Ac (keep:=rw.keep) (p:=.d .none) I' (xE.trans gs.toExt) hf' .none k fun p' P'' g2 I2 r2 k2=>p.ok p' _ P'' g2 I2 r2 k2
  .obtain ⟨g',hf'⟩:∃ g',P'.fs=g'::P.fs:=by
    have:=gs.fs;generalize P'.fs=z at this;obtain ⟨_⟩:=this;exact ⟨_,rfl⟩
   exact Ac I' (xE.trans gs.toExt) hf' r k fun p' P'' g2 I2 r2 k2=>p.ok p' v P'' g2 I2 r2 k2
  .obtain ⟨g',hf'⟩:∃ g',P'.fs=g'::P.fs:=by
    have:=gs.fs;generalize P'.fs=z at this;obtain ⟨_⟩:=this;exact ⟨_,rfl⟩
   obtain ⟨a1,a2⟩:=xx;rw[show X.A.frames=some (env'::ls) from fr] at a1;cases a1;refine yX fr e2 I' a2 fun h' I2 x2=> ?_;have y:=(xE.trans gs.toExt).trans (bX.to P' h' P'.s.toks).toExt;exact p.ex c _ ((P'.to h' P'.s.toks).leave g'.L P.σ.length none [] P.fs) (.leave y y.len) (I2.leave hf' y.len (.inl ⟨rfl,rfl⟩)) (qk.leave hls x2) (by show K _ (P'.σ.take _++[]);rw[List.append_nil];exact k)
theorem qO {C:bC} (G:gq C) (hF:wk C):∀ d,sB C d
 |0=>fun _ _ _ _ _ _ _ _ _ _ _ _ _ _ _ _ w=>w.elim
 |d+1=>zf G hF (qO G hF d)
section
open PySem.W PySem.Builtin PySem.Builtin.ObjectAttr PySem.Builtin.Getset_descriptor
variable {prog:Program} {w:World} {K:Frag} {x D:Addr} {ox:Obj}
theorem yZ {Q:Option Value->Shared->Prop} (X:K.In s.heap) (hk:vN K D=true) (ho:s.heap.get? x=some ox) (hc:ox.cls= .ref D) (h:Q (some (.ref D)) {s with toks:=s.toks+1}):wpAny (model prog w) A (getAttr? (.ref x) "__class__") Q E s:=by
 simp only [vN,Bool.and_eq_true,beq_iff_eq] at hk;obtain ⟨⟨⟨⟨⟨⟨⟨h1,h2⟩,h3⟩,h4⟩,h5⟩,h6⟩,h7⟩,h8⟩:=hk;obtain ⟨hh,g,d,t,os⟩:=s;have L0:Looks (model prog w) hh (typeOf (.ref x)) (.ref D):=hc ▸ (Looks.ld ho).andThen .now;have L1:=looks_findIn (M:=model prog w) X h1;have L2:=looks_findIn (M:=model prog w) X h2;have L3:Looks (model prog w) hh (find (.ref x) (.ref D) "__class__") (.bind (.builtin "getset_descriptor.__get__") (.builtin "object.__class__")):=
  (looks_findIn X h3).andThen ((looks_specialIn X h4:Looks _ _ (getOf (some (.builtin "object.__class__"))) _).andThen
   ((show Looks _ _ (dataDescriptor? (some (.builtin "object.__class__")) (some (.builtin "getset_descriptor.__get__"))) (some (.builtin "getset_descriptor.__get__",.builtin "object.__class__")) from (looks_takesIn X h5).andThen .now).andThen (Looks.tag .now)))
 have L6:=looks_mroIn (M:=model prog w) X h6;have L4:Looks (model prog w) hh (isInstance (.ref x) (.type "BaseException")) true:=L0.andThen (looks_mroIn X h7);unfold getAttr? getAttrBy? getAttrBy;refine NN (wpAny_mkText (NN (wpAny_attempt (wpAny_holding (NN (L0.at (NN (L1.at ?_))))))));dsimp only;have hx2:(Value.builtin "BaseException.__getattribute__"==Value.builtin "object.__getattribute__")=false:=by decide+kernel
 rw[if_neg (by rw[hx2,Bool.and_false];exact NY)];have f3:=F.attr_ValueError.ga.bind (.ref x);unfold getAttrByItsOwn hookBefore callGetattribute boundAndCalled;refine NN ?_;rw[if_pos (show onTheHeap (.ref D)=true from rfl)];refine L2.at ?_;refine NN (wpAny_attempt (wpAny_holding ?_));rw[if_neg (by rw[Bool.false_and];exact NY),f3];refine NN (NO ?_);refine wpAny_call (codeAny_call_builtin F.attr_ValueError.ga.plain F.entry_bexc_ga ?_);have hk:builtinKind "BaseException.__getattribute__"=some .slot:=by decide+kernel
 have hsplit:splitId "BaseException.__getattribute__"=some ("BaseException","__getattribute__"):=by decide+kernel
 have ha:=F.args_bexc_ga (.ref x) (.str "__class__" t);simp only [checkBuiltinCall,hk,hsplit];refine NN (L4.at ?_);simp only [Bool.not_true,Bool.false_eq_true,if_false];refine wpAny_of_eq (a:=()) ha ?_;refine NN (NO (NN (NO (NN (L0.at (NN (L3.at ?_)))))));show wpAny _ _ (holding [.builtin "object.__class__"] (call (.builtin "getset_descriptor.__get__") [.builtin "object.__class__",.ref x,.ref D])>>=PySem.ret) _ _ _;refine NN (wpAny_holding (wpAny_call (codeAny_call_builtin KF.slot_gs.plain KF.entry_gs (KF.slot_gs.check _ _ _ _ _ _ _ _ KF.type_class (KF.args_gs _ _ _) ?_))));unfold Builtin.«getset_descriptor.__get__» descrGet;rw[dga_obj];refine NN (NO ?_);unfold descrGetter descrCheckInstance descrNameAndClass isInstance;simp only [KF.owner_class]
 repeat lk
 refine ⟨Code.quiet_builtin _ (by decide+kernel),codeAny_builtin KF.entry_class ?_⟩;unfold Builtin.«object.__class__» shownTypeOf
 repeat lk
 exact h
theorem tN (hk:vN K D=true) (hc:ox.cls= .ref D):KitX K (.ref x) (.ref D) (fun h=>h.get? x=some ox) where
 ty:=fun _ _ _ I=>hc ▸ (Looks.ld I).andThen .now
 it:=fun _ _ X _=>by
  simp only [vN,Bool.and_eq_true] at hk;obtain ⟨cdD,hcD⟩:=Option.isSome_iff_exists.mp hk.2;unfold clsIn at hcD;split at hcD
  .rename_i c' d' cd' sl' ho
   intro A' Q' E' s' k q;unfold isType loadHead;exact NN (wpAny_loadPart (k _ _ (X _ _ ho)) (NO q))
  .cases hcD
 ne:=fun h tp dd its n sl X htp=>by
  simp only [vN,Bool.and_eq_true] at hk;obtain ⟨cdD,hcD⟩:=Option.isSome_iff_exists.mp hk.2;refine Bool.eq_false_iff.mpr fun q=> ?_;have e:D=tp:=Value.ref.inj (beq_iff_eq.mp q);subst e;unfold clsIn at hcD;split at hcD
  .rename_i c' d' cd' sl' ho
   have z:=(X _ _ ho).symm.trans htp;cases z
  .cases hcD
 ca:=fun X I k=>yZ X hk I hc k
end
structure TY where
 nm:Str
 val:bC->Value
 g:D->Option Bool
 mean:∀ {C:bC},gq C->C.mg nm=some (val C)∨(nm,val C)∈fm
 ok:∀ {C:bC} {A:Around} {P:Pt} {v:Value} {x:D} {b:Bool} {Q E:Value->Shared->Prop},gq C->aK C P->fM C P v x->g x=some b->(∀ t,Q (.bool b) {P.s with toks:=t})->wpAny C.M A (call (.builtin "isinstance") [v,val C]) Q E P.s
theorem C3 (t:TY) (I:aK X.C P) (hw:et X.sc t.nm=true) (h:Q (t.val X.C) P.s):wpAny X.M X.A (eval (.Name t.nm pos) X.env) Q E P.s:=by
 rcases t.mean X.good with q|q
 .exact dR I hw q h
 .exact g7 I hw q h
noncomputable def Dp (t:TY) (x:PV):PM PV:=fun σ=>(rd σ x).bind fun u=>(t.g u).map fun b=>(.ok (.d (.bool b)),σ)
theorem E7 {t:TY} (w:Wp K (Dp t x σ)):∃ u b,rd σ x=some u/\t.g u=some b/\K (.ok (.d (.bool b))) σ:=by
 unfold Dp at w;cases e1:rd σ x with
 |none=>rw[e1] at w;exact w.elim
 |some u=>
  rw[e1,NA] at w;cases e2:t.g u with
  |none=>rw[e2] at w;exact w.elim
  |some b=>rw[e2] at w;exact ⟨u,b,rfl,e2,w⟩
theorem Gr (t:TY) (a:CE) {X:Cx} {e:Expr} {ρ:bb} {P:Pt} {K:R PV->av->Prop} {Q E:Value->Shared->Prop} (h:eb (fun x es=>x==("isinstance":Str)&&et X.sx.sc x&&two (fun e y=>jo e&&a.is X.sx e&&dc (fun y _=>y==t.nm&&et X.sx.sc y) y) es) e=true) (I:aK X.C P) (G:EnvOK X P ρ)
  (w:Wp K (bP (a.ev X.ker ρ) (Dp t) P.σ)) (p:bw X (RV X.C) P K Q E):wpAny X.M X.A (eval e X.env) Q E P.s:=
 d_ (fun e=>wpAny X.M X.A (eval e X.env) Q E P.s) h fun x px es pos h=>by
  refine nv (fun es=>wpAny X.M X.A (eval (.Call (.Name x px) es [] pos) X.env) Q E P.s) (an h) fun e y h2=> ?_;refine cj (fun y=>wpAny X.M X.A (eval (.Call (.Name x px) [e,y] [] pos) X.env) Q E P.s) (an h2) fun y py h3=> ?_;have hw:=an (ai h);have hy:=an h3;rw[bO (ai h3)] at hy ⊢;rw[bO (ai (ai h))] at hw ⊢;have hst:starEach [e,.Name t.nm py] X.env=[(false,eval e X.env),(false,eval (.Name t.nm py) X.env)]:=by
   rw[fZ (ai (ai h2))];rfl
  have hpl:∀ x∈backTo pos (starEach [e,.Name t.nm py] X.env),x.1=false:=by
   rw[hst];intro x hx;rcases NB.mp hx with q|q
   .rw[q]
   .rw[NG.mp q]
  refine wpAny_Call_NameR (g7 (v:=.builtin "isinstance") I hw (by decide+kernel) ?_);refine Calls.callWith_builtin (ec hpl) (dw hpl ?_);rw[hst];refine Calls.spliced_cons (a.ok X e ρ P _ _ E (an (ai h2)) I G (aL w) (p.bind fun q v P1 g1 I1 r1 w p=> ?_));obtain ⟨u,b,e1,e2,k⟩:=E7 w;refine Calls.spliced_cons (C3 t I1 hy (Calls.spliced_nil ?_));exact t.ok X.good I1 (bz I1 r1 e1) e2 fun tk=>(p.fin k).tok I1 (.bool b) tk
noncomputable def lf (t:TY) (a:CE):CE:=⟨fun K ρ=>bP (a.ev K ρ) (Dp t),fun s=>eb fun x es=>x==("isinstance":Str)&&et s.sc x&&two (fun e y=>jo e&&a.is s e&&dc (fun y _=>y==t.nm&&et s.sc y) y) es,fun _ _ _ _ _ _ _ h I G w p=>Gr t a h I G w p⟩
noncomputable def IX:D->Option Bool
 | .int _=>some true
 |_=>none
noncomputable def Fi:TY:=⟨"int",fun _=>.type "int",IX,fun _=>.inr (by decide+kernel),fun {C A P v x b Q E} _ I h e k=>by
 cases x with
 |int i=>cases e;obtain ⟨t,q⟩:=RD.view h;rw[q];exact IsiPair.int_int (k P.s.toks)
 |_=>cases e⟩
noncomputable def GJ:D->Option Bool
 | .int _=>some false
 |_=>none
noncomputable def Ca:TY:=⟨"bool",fun _=>.type "bool",GJ,fun _=>.inr (by decide+kernel),fun {C A P v x b Q E} _ I h e k=>by
 cases x with
 |int i=>cases e;obtain ⟨t,q⟩:=RD.view h;rw[q];exact IsiPair.int_bool (k _)
 |_=>cases e⟩
noncomputable def IW:D->Option Bool
 | .none=>some false
 | .bool _=>some false
 | .int _=>some false
 | .str _=>some true
 | .tup _=>some false
 | .lst _=>some false
 |_=>none
noncomputable def Fh:TY:=⟨"str",fun _=>.type "str",IW,fun _=>.inr (by decide+kernel),fun {C A P v x b Q E} _ I h e k=>by
 cases x with
 |none=>cases e;cases (RD.view h);exact IsiPair.NoneType_str (k _)
 |bool b=>cases e;cases (RD.view h);exact IsiPair.bool_str (k _)
 |int i=>cases e;obtain ⟨t,q⟩:=RD.view h;rw[q];exact IsiPair.int_str (k _)
 |str l=>cases e;obtain ⟨_,t,q⟩:=RD.view h;rw[q];exact IsiPair.str_str (k P.s.toks)
 |tup l=>cases e;obtain ⟨z,_⟩:=RD.view h;exact IsiPair.tuple_str (I.fz _ _ z) rfl (k _)
 |lst l=>cases e;obtain ⟨z,_,_⟩:ja C P l v:=h;exact IsiPair.list_str z rfl (k _)
 |_=>cases e⟩
noncomputable def DD:D->Option Bool
 | .tup _=>some true
 |_=>none
noncomputable def nr:TY:=⟨"tuple",fun _=>.type "tuple",DD,fun _=>.inr (by decide+kernel),fun {C A P v x b Q E} _ I h e k=>by
 cases x with
 |tup l=>cases e;obtain ⟨z,_⟩:=RD.view h;exact IsiPair.tuple_tuple (I.fz _ _ z) rfl (k P.s.toks)
 |_=>cases e⟩
noncomputable def gX (k:Nat):D->Option Bool
 | .exc c=>aq (c<nX/\k<nX) (c==k||k==0)
 |_=>none
noncomputable def ql (k:Nat) (hk:k<nX):TY:=⟨ia k,fun C=>.ref (C.exc k),gX k,fun G=>.inl (G.exc k hk).bound,fun {C A P v x b Q E} G I h e kk=>by
 cases x with
 |exc c=>
  obtain ⟨⟨h17,_⟩,q⟩:=dS e;subst q;obtain @⟨a,o,z,hc⟩:Ez C P.own c v:=RD.view h;exact PySem.W.kia_one (tN (G.exk c h17) hc) (G.cls.X.keeps fun b o e=>(I.base b o e).1) (I.fz _ _ z) (G.kit c h17 k hk) (by simp) fun tk=>kk tk
 |_=>cases e⟩
noncomputable def gV:D->Option Bool
 | .exc c=>aq (c<nX) true
 |_=>none
noncomputable def MA:TY:=⟨"ValueError",fun _=>.type "ValueError",gV,fun _=>.inr (by decide+kernel),fun {C A P v x b Q E} G I h e kk=>by
 cases x with
 |exc c=>
  obtain ⟨h17,q⟩:=dS e;subst q;obtain @⟨a,o,z,hc⟩:Ez C P.own c v:=RD.view h;exact PySem.W.kia_one (tN (G.exk c h17) hc) (G.cls.X.keeps fun b o e=>(I.base b o e).1) (I.fz _ _ z) (G.kitV c h17) (by simp) fun tk=>kk tk
 |_=>cases e⟩
section
theorem Gz {v:D} {x:Value} {c:Bool} (G:gq C) (I:aK C P) (hu:fM C P x u) (hv:fM C P y v) (e:MS u v=some c) (k:mO C P (.bool c) Q):wpAny C.M A (compareOp .In x y) Q E P.s:=by
 cases v with
 |dct ks ps=>
  obtain ⟨hf,z⟩:=dS e;subst z;obtain @⟨a,o,vs,h1,h2,h3,h4⟩:wl C P ks ps y:=hv;have hu:RD C P.own u x:=by
   cases u<;>first|exact hu|(cases hf;done)
  obtain ⟨d,l,i,hd,h5,e1,e2,h6,e3,h7,h8⟩:=rC h3 hu hf;subst e1;subst e2;subst e3
  letI:=d.dec
  have hl:=mZ hd i h4;have ez:(valueAt l i).isSome=(fQ (d.toD i) (l.map fun p=>d.toD p.1) ps).isSome:=by
   revert hl
   cases fQ (d.toD i) (l.map fun p=>d.toD p.1) ps<;>cases valueAt l i<;>intro hl<;>first|rfl|exact hl.elim
  exact wpAny_in_of h7 (fP G I h2) (Heap.dictOf_iff.mpr ⟨o,h1,h5⟩).mapOf (k.tok I (by rw[ez];exact .bool _) _)
 |_=>cases e
end
noncomputable def Mp:CO:=⟨.In,MS,fun G _ I a b e k=>Gz G I a b e k⟩
noncomputable def MQ:PV->PM PV:=fun x=>fun σ=>(rd σ x).bind fun u=>match u with
 | .dct ks vs=>(aq (ks.length<=100000/\ks.all Bb=true) ()).bind fun _=>kN (.fld (.dict ks vs)) σ
 |_=>none
theorem IB (G:gq C) (I:aK C P) (r:RV C P v x) (w:Wp K (MQ x P.σ)) (p:dA C A (RV C) P K Q E):wpAny C.M A (call (.type "dict") [v]) Q E P.s:=by
 obtain ⟨u,e1,w⟩:=gS w;cases u with
 |dct ks ps=>
  obtain ⟨_,e2,w⟩:=gS w;have hl:=(dS e2).1.1;have hf:=(dS e2).1.2;obtain @⟨a,o,vs,h1,h2,h3,h4⟩:wl C P ks ps v:=bz I r e1;cases h3 with
  |pr xs es ep _ _ _ _ _ e _ hne=>
   cases xs with
   |nil=>exact absurd rfl hne
   |cons x xs=>rw[e] at hf;cases hf
  |mk d l hd h5 e3 e4 h6=>
  subst e3;subst e4
  letI:=d.dec
  refine kt_call_dict (fP G I h2) (Heap.dictOf_iff.mpr ⟨o,h1,h5⟩) (by rw[Nz] at hl;exact NK hl (by decide)) fun h' hd' hs=> ?_;obtain ⟨o',ho',hd'⟩:=Heap.dictOf_iff.mp hd';have n:zt C P h' P.h.objs.size o':=⟨fun b o e=>hs.extBut b o (Nat.ne_of_lt (N8 e)) (NJ _ e),I.off (NM _),I.out (NM _),ho'⟩;exact p.make (f:=.dict (l.map fun q:d.K×Value=>d.toD q.1) ps) (t:=P.s.toks) I n ⟨_,.mk d l hd hd' rfl rfl h6,h4.ext (eH n.own)⟩ w
 |_=>exact w.elim
noncomputable def DP:BF:=⟨"dict",.type "dict",by decide+kernel,fun _ ps=>match ps with
 |[x]=>MQ x
 |_=>fun _=>none,fun {C A P hd K ps vs Q E} G _ I r w p=>by
 match ps,r,w with
 |[x],r,w=>
  obtain ⟨r1,r2⟩:xI C P x [] vs:=r.view;rw[show _=[] from r2.view];exact IB G I r1 w p
 |[],_,w=>exact w.elim
 |_::_::_,_,w=>exact w.elim⟩
noncomputable def bS (sep:List Nat):List (List Nat)->List Nat
 |[]=>[]
 |[x]=>x
 |x::r=>x++sep++bS sep r
noncomputable def ny:List D->Option (List (List Nat))
 |[]=>some []
 |x::r=>(sD x).bind fun s=>(ny r).map (s::·)
theorem HK {x:D} {s:List Nat} (h:RD C w x v) (e:sD x=some s):kl s/\∃ t,v= .str (cE s) t:=by
 cases x<;>first|(cases e;exact h.view)|(cases e;done)
theorem xV:∀ {l:List D} {vs:List Value} {ts:List (List Nat)},RDs C w l vs->ny l=some ts->StrsAre vs (ts.map fun t=>⟨t.toArray⟩)/\∀ t∈ts,kl t:=by
 intro l
 induction l with
 |nil=>
  intro vs ts h e;cases e;rw[show vs=[] from h.view];exact ⟨.nil,aX⟩
 |cons x l ih=>
  intro vs ts h e;obtain ⟨r1,r2⟩:fX C w x l vs:=h.view;obtain ⟨s,e1,e⟩:=am e;obtain ⟨ts',e2,rfl⟩:=aN e;obtain ⟨ho,t,q⟩:=HK r1 e1;obtain ⟨k1,k2⟩:=ih r2 e2;rw[q];exact ⟨.cons _ t k1,fun y hy=>(NB.mp hy).elim (fun z=>z ▸ ho) (k2 y)⟩
theorem lB (s:List Nat):∀ ts:List (List Nat),(Str.join ⟨s.toArray⟩ (ts.map fun t=>⟨t.toArray⟩)).cps.toList=bS s ts
 |[]=>rfl
 |[x]=>rfl
 |x::y::r=>by
  show (x.toArray++s.toArray++(Str.join ⟨s.toArray⟩ ((y::r).map fun t=>⟨t.toArray⟩)).cps).toList=_;rw[Array.toList_append,lB s (y::r),Array.toList_append];rfl
theorem tR {s:List Nat} (hs:kl s):∀ {ts:List (List Nat)},(∀ t∈ts,kl t)->(∀ c∈bS s ts,c<0x110000)/\(bS s ts).length<=(ts.map List.length).sum+ts.length*s.length
 |[],_=>⟨fun _ h=>(nomatch h),N3 _⟩
 |[x],h=>⟨(h x (.head _)).1,by show x.length<=x.length+0+1*s.length;exact MM⟩
 |x::y::r,h=>by
  obtain ⟨k1,k2⟩:=tR hs (ts:=y::r) fun t ht=>h t (.tail _ ht);show (∀ c∈x++s++bS s (y::r),c<0x110000)/\(x++s++bS s (y::r)).length<=x.length+((y::r).map List.length).sum+((y::r).length+1)*s.length;refine ⟨fun c hc=> ?_,?_⟩
  .rcases NS.mp hc with hc|hc
   .rcases NS.mp hc with hc|hc
    .exact (h x (.head _)).1 c hc
    .exact hs.1 c hc
   .exact k1 c hc
  .rw[NC,NC,Nat.succ_mul];exact ML k2
noncomputable def ET (x:PV):List PV->PM PV
 |[y]=>FU (fun u v=>(sD u).bind fun s=>(lD v).bind fun l=>(ny l).bind fun ts=>aq ((ts.map List.length).sum+ts.length<=1048576/\s.length<=15) (.str (bS s ts))) x y
 |_=>fun _=>none
theorem AQ (I:aK C P) (r:RV C P v x) (rs:jR C P ps vs) (w:Wp K (ET x ps P.σ)) (p:dA C A (RV C) P K Q E):wpAny C.M A (call (.builtin "str.join") (v::vs)) Q E P.s:=by
 match ps,rs,w with
 |[y],rs,w=>
  obtain ⟨r1,r2⟩:xI C P y [] vs:=rs.view;rw[show _=[] from r2.view];obtain ⟨u,v',z,e1,e2,e,w⟩:=uC w;obtain ⟨s,e3,e⟩:=am e;obtain ⟨l,e4,e⟩:=am e;obtain ⟨ts,e5,e⟩:=am e;obtain ⟨⟨hw,hs⟩,rfl⟩:=dS e;obtain ⟨ho,t,q⟩:=eD e3 (bz I r e1);rw[q];obtain @⟨a,ws,n,g,_,rr⟩:=fD e4 (bz I r1 e2);obtain ⟨k1,k2⟩:=xV rr e5;obtain ⟨k3,k4⟩:=tR ho k2;refine join_listW (items:=ws.toArray) ⟨_,g,rfl,_,rfl⟩ k1 (by simp [Str.length];exact N2 hs) (by rw[List.map_map,Nz];exact hw) fun t' k=>(p.fin w).tok I (jW ((congrArg (fun x:Str=>x.cps.toList) (StrLaws.glued_eq_join _ _)).trans (lB s ts)) ⟨k3,?_⟩ t') _;have:ts.length*s.length<=ts.length*15:=OB _ hs;show _<=2^24;exact K8 hw k4 this
 |[],_,w=>exact w.elim
 |_::_::_,_,w=>exact w.elim
noncomputable def lX:MF:=⟨"join","str","str.join",F.plainAttrs_str,F.slot_str_join,F.type_str_join,fun _=>AT,rS,ET,fun _ I r rs w p=>AQ I r rs w p⟩
noncomputable def C8:List Int->Option Int
 |[]=>none
 |a::r=>some (r.foldl max a)
noncomputable def xa:List D->Option (List Int)
 |[]=>some []
 |x::r=>(iD x).bind fun i=>(xa r).map (i::·)
theorem IQ {x:D} {i:Int} (h:RD C w x v) (e:iD x=some i):∃ t,v= .int i t:=by
 cases x<;>first|(cases e;exact h.view)|(cases e;done)
theorem yK:∀ {l:List D} {vs:List Value} {ts:List Int},RDs C w l vs->xa l=some ts->IntsAre vs ts:=by
 intro l
 induction l with
 |nil=>
  intro vs ts h e;cases e;rw[show vs=[] from h.view];exact .nil
 |cons x l ih=>
  intro vs ts h e;obtain ⟨r1,r2⟩:fX C w x l vs:=h.view;obtain ⟨s,e1,e⟩:=am e;obtain ⟨ts',e2,rfl⟩:=aN e;obtain ⟨t,q⟩:=IQ r1 e1;rw[q];exact .cons _ t (ih r2 e2)
theorem DH:∀ (r:List Int) (a:Int),(a<=r.foldl max a)/\(∀ b∈r,b<=r.foldl max a)/\(r.foldl max a=a∨r.foldl max a∈r):=by
 intro r
 induction r with
 |nil=>intro a;exact ⟨Int.le_refl _,aX,.inl rfl⟩
 |cons b r ih=>
  intro a;obtain ⟨k1,k2,k3⟩:=ih (max a b);rw[List.foldl_cons];refine ⟨by omega,fun c hc=> ?_,?_⟩
  .rcases NB.mp hc with rfl|hc
   .omega
   .exact k2 c hc
  .rcases k3 with k3|k3
   .rcases Int.le_total a b with q|q
    .right;rw[k3,show max a b=b by exact Int.max_eq_right q];exact .head _
    .left;exact k3.trans (Int.max_eq_left q)
   .exact .inr (.tail _ k3)
theorem tq {l:List Int} (h:C8 l=some m):m∈l/\∀ a∈l,a<=m:=by
 cases l with
 |nil=>cases h
 |cons a r=>
  cases h;obtain ⟨k1,k2,k3⟩:=DH r a;refine ⟨?_,fun c hc=> ?_⟩
  .rcases k3 with k3|k3
   .rw[k3];exact .head _
   .exact .tail _ k3
  .rcases NB.mp hc with rfl|hc
   .exact k1
   .exact k2 c hc
theorem C7 {l:List Int} {M:Int} (h:C8 l=some m) (h1:M∈l) (h2:∀ a∈l,a<=M):M=m:=
 Int.le_antisymm ((tq h).2 M h1) (h2 m (tq h).1)
theorem F_ {is:List Int} (I:aK C P) (hh:A.handled=none) (h:ja C P l v) (e2:xa l=some is) (e3:C8 is=some m) (k:mO C P (.int m) Q):wpAny C.M A (call (.builtin "max") [v]) Q E P.s:=by
 obtain @⟨a,vs,q,g,_,hs⟩:=h;have hi:=yK hs e2;obtain ⟨xs,e⟩:=hi.allInts.items;have hns:is=xs.toList.map (·.1):=by rw[<-hi.numsOf,<-nums_intItems,<-e]
 have hsz:0<xs.size:=by
  rcases Nat.eq_zero_or_pos xs.size with q|q
  .rw[hns,Array.size_eq_zero_iff.mp q] at e3;cases e3
  .exact q
 have hl:P.h.IsList a (intItems xs):=e ▸ (⟨_,g,rfl,_,rfl⟩:P.h.IsList a vs.toArray);refine max_intList hh hl hsz fun v h' tk hv hk=> ?_;obtain ⟨t,rfl⟩:=intItems_at hv;obtain ⟨h1,h2⟩:=argBest_gt (numAt xs) (xs.size - 1);refine k.grown I hk ?_ _;have:=C7 (M:=numAt xs (argBest (fun i j=>decide (numAt xs i>numAt xs j)) (xs.size - 1))) e3 ?_ fun a ha=> ?_
 .rw[<-this];exact .int _ _
 .rw[hns,numAt_eq];exact getD_mem (by rw[Nz,Array.length_toList];exact Nat.lt_of_le_pred hsz h1)
 .rw[hns] at ha;obtain ⟨j,hj,rfl⟩:=mem_getD ha;rw[Nz,Array.length_toList] at hj;rw[<-numAt_eq];exact h2 j (by exact Nat.le_sub_one_of_lt hj)
noncomputable def I7:BF:=⟨"max",.builtin "max",by decide+kernel,fun hd ps=>off hd (g1 (fun u=>(lD u).bind fun l=>(xa l).bind fun is=>(C8 is).map .int) ps),fun {C A P hd K ps vs Q E} _ hh I r w p=>hV (fun vs=>wpAny C.M A (call (.builtin "max") vs) Q E P.s) I r (qZ w).2 fun v u z h e k=>by
 obtain ⟨l,e1,e⟩:=am e;obtain ⟨is,e2,e⟩:=am e;obtain ⟨m,e3,rfl⟩:=aN e;exact F_ I (hh (qZ w).1) (fD e1 h) e2 e3 (p.fin k)⟩
noncomputable def yu (a b:CE):CF:=⟨fun K ρ=>bP (a.ev K ρ) fun x=>bP (b.ev K ρ) fun y=>fun σ=>(((rd σ x).bind lD).bind fun l=>((rd σ y).bind lD).bind fun m=>aq (l.length+m.length<=cS) (l++m)).map fun z=>(.ok z,σ),fun s=>jv fun l op r _=>op== .Add&&a.is s l&&b.is s r,
 fun X e ρ P K Q E h I G w p=>ii (fun e=>wpAny X.M X.A (eval e X.env) Q E P.s) h fun l op r pos h=>wpAny_BinOp (a.ok X l ρ P _ _ E (an (ai h)) I G (aL w) (p.bind fun x v P1 g1 I1 r1 w p=>
  b.ok X r ρ P1 _ _ E (an h) I1 (G.ext g1) (aL w) (p.bind fun y u P2 g2 I2 r2 w p=>by
   obtain ⟨z,e,k⟩:=fq w;obtain ⟨l1,e1,e⟩:=am e;obtain ⟨l2,e2,e⟩:=am e;obtain ⟨hm,rfl⟩:=dS e;obtain ⟨u1,e3,e4⟩:=am e1;obtain ⟨u2,e5,e6⟩:=am e2;rw[bO (ai (ai h))];obtain @⟨a1,vs1,n1,g1',_,rr1⟩:=fD e4 (bz I2 (r1.ext g2.toExt) e3);obtain @⟨a2,vs2,n2,g2',_,rr2⟩:=fD e6 (bz I2 r2 e5);refine xG g1' g2' ?_ (by simpa [sizeLine,cS,rr1.length,rr2.length] using hm);have n:=I2.push (o:=aU (vs1++vs2) 0) rfl;have eo:aU (vs1++vs2) 0=({cls:=.type "list",data:=.seq (vs1.toArray++vs2.toArray)}:Obj):=by simp
   have:=p.ok (l1++l2) (.ref P2.h.objs.size) (P2.to (P2.h.push (aU (vs1++vs2) 0)) P2.s.toks) (.to ..) (I2.to n.keep) (.mk ⟨fun _ _ e=>e,n.own,n.H,n.at_⟩ (rr1.append rr2)) k;rw[eo] at this;exact this)))⟩
structure FS where
 ev:cQ->bb->List Nat->PM (List Nat)
 is:Sx->List Expr->Bool
 ok:∀ (X:Cx) (es:List Expr) (ρ:bb) (P:Pt) (acc:List Nat) (K:R (List Nat)->av->Prop) (Q E:Value->Shared->Prop),is X.sx es=true->aK X.C P->EnvOK X P ρ->kl acc->Wp K (ev X.ker ρ acc P.σ)->bw X (fun _ v t=>kl t/\∃ k,v=Value.str (cE t) k) P K Q E->wpAny X.M X.A (joinParts (cE acc) (evalEach es X.env)) Q E P.s
noncomputable def IZ:FS:=⟨fun _ _ acc=>ret acc,fun _ es=>es.isEmpty,fun X es ρ P acc K Q E h I G ho w p=>b_ (fun es=>wpAny X.M X.A (joinParts (cE acc) (evalEach es X.env)) Q E P.s) h (joinParts_nil (p.ok acc _ (P.to P.h (P.s.toks+1)) (.to ..) (I.to fun _ _ e=>e) ⟨ho,_,rfl⟩ w) (NK ho.2 (by decide)))⟩
noncomputable def Dy (l:FS) (K:cQ) (ρ:bb) (acc t:List Nat):PM (List Nat):=fun σ=>(aq (acc.length+t.length<=cS) ()).bind fun _=>l.ev K ρ (acc++t) σ
theorem rI (l:FS) {acc t:List Nat} {K:R (List Nat)->av->Prop} {k:Tok} (h:l.is X.sx es=true) (I:aK X.C P) (G:EnvOK X P ρ) (ho:kl acc) (ht:kl t) (w:Wp K (Dy l X.ker ρ acc t P.σ)) (p:bw X (fun _ v t=>kl t/\∃ k,v=Value.str (cE t) k) P K Q E):
  (match Value.str (cE t) k with| .str y _=>(cE acc++y).length<=sizeLine/\wpAny X.M X.A (joinParts (cE acc++y) (evalEach es X.env)) Q E P.s|_=>False):=by
 obtain ⟨_,e1,w⟩:=gS w;have hz:=(dS e1).1;have e:cE acc++cE t=cE (acc++t):=congrArg Str.mk (List.append_toArray acc t);show (cE acc++cE t).length<=sizeLine/\wpAny X.M X.A (joinParts (cE acc++cE t) (evalEach es X.env)) Q E P.s;rw[e];refine ⟨?_,l.ok X es ρ P _ K Q E h I G ⟨fun c hc=>(NS.mp hc).elim (ho.1 c) (ht.1 c),by rw[NC];exact hz⟩ w p⟩;show (acc++t).toArray.size<=sizeLine;rw[NW,NC];exact NK hz (by decide)
noncomputable def uB (x:List Nat) (l:FS):FS:=⟨fun K ρ acc=>Dy l K ρ acc x,fun s=>j5 (fun e=>cc (fun c _ _=>zj (fun y=>y.cps.toList==x&&Hn x) c) e) (l.is s),fun X es ρ P acc K Q E h I G ho w p=>dC (fun es=>wpAny X.M X.A (joinParts (cE acc) (evalEach es X.env)) Q E P.s) h fun e r h1 h2=>by
 refine joinParts_cons ?_;refine cu (fun e=>wpAny X.M X.A (eval e X.env) _ E P.s) h1 fun c k pos h1=>lT (fun c=>wpAny X.M X.A (eval (.Constant c k pos) X.env) _ E P.s) h1 fun y h1=> ?_;have hy:y=cE x:=by
  obtain ⟨⟨l⟩⟩:=y;rw[<-bO (ai h1)]
 rw[hy];have g:=bX.to P P.h (P.s.toks+1);exact wpAny_Constant_str (rI l (k:=P.s.toks) (P:=P.to P.h (P.s.toks+1)) h2 (I.to fun _ _ e=>e) (G.ext g) ho (uV (an h1)) w (p.mono g))⟩
noncomputable def uA (a:CE) (l:FS):FS:=⟨fun K ρ acc=>bP (a.ev K ρ) fun x=>fun σ=>((km x).bind DK).bind fun t=>Dy l K ρ acc t σ,fun s=>j5 (fun e=>eM (fun v c sp _=>c== -1&&sp.isNone&&a.is s v) e) (l.is s),fun X es ρ P acc K Q E h I G ho w p=>dC (fun es=>wpAny X.M X.A (joinParts (cE acc) (evalEach es X.env)) Q E P.s) h fun e r h1 h2=>by
 refine joinParts_cons ?_;refine iy (fun e=>wpAny X.M X.A (eval e X.env) _ E P.s) h1 fun v c sp pos h1=> ?_;rw[bO (ai (ai h1))];refine iM (fun sp=>wpAny X.M X.A (eval (.FormattedValue v (-1) sp pos) X.env) _ E P.s) (an (ai h1)) ?_;refine FormattedValue_plain (a.ok X v ρ P _ _ E (an h1) I G (aL w) (p.bind fun x vx P1 g1 I1 r1 w p=> ?_));obtain ⟨t,e1,w⟩:=gS w;obtain ⟨u,e2,e3⟩:=am e1;have G1:=G.ext g1;obtain ⟨ht,⟨k,q⟩|⟨i,k,q,hi,hl⟩⟩:=A_ (mJ e2 r1) e3
 .rw[q];exact formatField_str (fun t' tk=>rI l (k:=t') (P:=P1.to P1.h tk) h2 (I1.to fun _ _ e=>e) (G1.ext (.to ..)) ho ht w (p.mono (.to ..))) (NK (by show t.toArray.size<=cS;rw[NW];exact ht.2) (by decide))
 .rw[q];subst hl;exact formatField_int_small hi (rI l (P:=P1.to P1.h (P1.s.toks+1+1)) (k:=P1.s.toks+1) h2 (I1.to fun _ _ e=>e) (G1.ext (.to ..)) ho ht w (p.mono (.to ..)))⟩
noncomputable def yQ (l:FS):CE:=⟨fun K ρ=>bP (l.ev K ρ []) fun t=>ret (.d (.str t)),fun s=>i8 fun es _=>l.is s es&&decide (2<=es.length),fun X e ρ P K Q E h I G w p=>lQ (fun e=>wpAny X.M X.A (eval e X.env) Q E P.s) h fun es pos h=>by
 match es,h with
 |e1::e2::es,h=>
  exact JoinedStr_many (l.ok X (e1::e2::es) ρ P [] _ Q E (ai h) I G ⟨aX,N3 _⟩ (aL w) (p.bind fun t v P1 g1 I1 r1 w p=>by
   obtain ⟨ho,k,q⟩:=r1;rw[q];exact (p.fin w).here I1 (.str t k ho)))
 |[],h=>exact absurd (an h) (by decide)
 |[_],h=>exact absurd (an h) (by simp)⟩
end Mine.Internal
namespace Mine.Internal
open PySem PyProof.Rows PySem.W
variable {K:Frag} {b:Addr} {x:Obj}
noncomputable def wy (l:List mM) (n:Nat):Option PF:=(l.find? fun r=>r.id==n).map (·.pf)
noncomputable def fO (r0:mM) (l:List mM) (n:Nat):mM:=(l.find? fun r=>r.id==n).getD r0
noncomputable def F2 (r0:mM) (l:List mM) (n:Nat):Str×Bool:=((fO r0 l n).nm,(fO r0 l n).mth)
noncomputable def ig:Nat->Str
 |0=>"home"|1=>"names"|2=>"told"|3=>"made"|4=>"gone"|5=>"ends"|6=>"deeds"|_=>"?"
theorem Ei:∀ i,i<7->∀ k,k<7->ig i=ig k->i=k:=by decide+kernel
theorem xA:∀ p∈fm,bootBuiltins p.1=some p.2/\p.1≠"__name__":=by
 have h:fm.all (fun p=>bootBuiltins p.1==some p.2&& !(p.1==("__name__":Str)))=true:=by kernel_rfl
 exact fun p hp=>⟨bO (ai (List.all_eq_true.mp h p hp)),fun q=>by have:=an (List.all_eq_true.mp h p hp);rw[q,beq_self_eq_true] at this;cases this⟩
noncomputable def EV (o:Obj):Bool:=match o.data with
 | .cls _=>true
 |_=>false
noncomputable def uZ (o:Obj):Bool:= !(o.cls== .type "list")&& !(o.cls== .none)
noncomputable def BU (t:BT) (n:Nat):Frag:=((List.range n).filterMap fun a=>((t.get a).bind alive).map fun o=>(a,o)).filter fun q=>uZ q.2
noncomputable def vw (t:BT) (n:Nat):Frag:=(BU t n).filter (fun q=>EV q.2)++(BU t n).filter (fun q=> !EV q.2)
theorem tH {α:Type} {K:List (Nat×α)} {a:Nat} {o:α} (h:K.lookup a=some o):(a,o)∈K:=by
 induction K with
 |nil=>cases h
 |cons q r ih=>
  rw[List.lookup_cons] at h;cases e:(a==q.1) with
  |true=>rw[e] at h;cases h;rw[beq_iff_eq.mp e];exact .head _
  |false=>rw[e] at h;exact .tail _ (ih h)
theorem DF (t:BT) (n:Nat) (life:Life):(vw t n).In (absHeap t n life):=fun a o e=>by
 have:=tH e;have hm:(a,o)∈BU t n:=by
  rcases NS.mp this with q|q<;>exact (List.mem_filter.mp q).1
 refine bJ fun G9 k9=> ?_;obtain ⟨b,hb,e1⟩:=List.mem_filterMap.mp (List.mem_filter.mp hm).1;obtain ⟨o',ho,e'⟩:=Ok.mp e1;refine k9 ?_;cases e';obtain ⟨o2,h1,h2⟩:=Option.bind_eq_some_iff.mp ho;rw[abs_get (List.mem_range.mp hb) h1];exact h2
noncomputable def Ep (K:Frag) (x:Str):Addr:=match nsIn K mainGlobals x with
 |some (some (.ref a))=>a
 |_=>0
noncomputable def ir (K:Frag):Addr:=Ep K "Book"
noncomputable def mj (K:Frag) (r:mM):Addr:=if r.mth then (match findIn K (.ref (ir K)) r.nm with
 |some (some (.ref a))=>a
 |_=>0) else Ep K r.nm
noncomputable def hU (sp:Option (Str×Pos)) (K:Frag):Option zv:=sp.bind fun q=>(tabIn K q.1).map fun z=>⟨z.1,z.2,q.2,q.1++".<locals>."++"<lambda>"⟩
noncomputable def EU (o:Obj):Bool:=o.cls== .none&&o.dict.isNone&&(match o.data with
 | .fields vs=>vs.isEmpty
 |_=>false)&&o.slots.isEmpty
theorem AS {o:Obj} (h:EU o=true):o=sJ #[]:=by
 obtain ⟨cl,di,da,sl⟩:=o;have e1:cl= .none:=bO (ai (ai (ai h)));have e2:di=none:=Option.isNone_iff_eq_none.mp (an (ai (ai h)));have e3:sl=#[]:=Array.isEmpty_iff.mp (an h);have h:=an (ai h);subst e1 e2 e3;cases da with
 |fields vs=>rw[Array.isEmpty_iff.mp h]
 |_=>cases h
noncomputable def uE (sp:Option (Str×Pos)) (K:Frag) (t:BT) (n:Nat):Bool:=(hU sp K).all fun l=>decide (l.P<n)&&((t.get l.P).bind alive).any EU
def qQ (sp:Option (Str×Pos)) (K:Frag) (h:Heap):Prop:=∀ l,hU sp K=some l->h.get? l.P=some (sJ #[])
theorem Ch {sp:Option (Str×Pos)} {t:BT} {n:Nat} (life:Life) (h:uE sp K t n=true):qQ sp K (absHeap t n life):=fun l e=>by
 unfold uE at h;rw[e] at h;refine bJ fun G9 k9=> ?_;obtain ⟨o,ho,k⟩:=any_some (an h);obtain ⟨o2,h1,h2⟩:=Option.bind_eq_some_iff.mp ho;refine k9 ?_;rw[abs_get (Of (ai h)) h1,h2,AS k]
noncomputable def GM (K:Frag) (s:Scope->BZ->Value->Str->Sx) (r:mM):Bool:=match K.lookup (mj K r) with
 |some ⟨cls,_,.func fd,_⟩=>cls== .type "function"&&codeIn K fd.code fd.qualname&&(match fd.body with
   | .stmts body=>JO (s fd.scope r.Γ fd.code fd.qualname) r fd.params body
   |_=>false)&&fd.closure.isEmpty&&fd.globals==mainGlobals&&fd.builtins==builtinsNs&&fd.defaults== .none
 |_=>false
noncomputable def EJ (K:Frag) (s:Scope->BZ->Value->Str->Sx) (r:mM):Bool:=GM K s r&&(if r.mth then findIn K (.ref (ir K)) r.nm==some (some (.ref (mj K r)))&&(List.range 7).all (fun k=>ig k !=r.nm) else nsIn K mainGlobals r.nm==some (some (.ref (mj K r))))
noncomputable def Je (K:Frag) (f0:Addr):Bool:=(nsIn K mainGlobals "Book"==some (some (.ref (ir K)))&&(clsIn K (ir K)).any (·.hasDict)&&plainOver K (ir K)&&makesIn K (ir K)&&findIn K (.ref (ir K)) "__getattribute__"==some (some (.builtin "object.__getattribute__"))&&findIn K (.ref (ir K)) "__getattr__"==some none)&&
 (findIn K (.ref (ir K)) "__setattr__"==some (some (.builtin "object.__setattr__"))&&(List.range 7).all (fun k=>findIn K (.ref (ir K)) (ig k)==some none)&&findIn K (.ref (ir K)) "__init__"==some (some (.ref f0))&&typeIn K (.ref f0)==some (.type "function"))
noncomputable def Jq:List Value:=[.type "ValueError",.type "Exception",.type "BaseException",.type "object"]
noncomputable def Ja (K:Frag) (ea:Nat->Addr):Bool:=(List.range nX).all fun c=>(nsIn K mainGlobals (ia c)==some (some (.ref (ea c)))&&excIn K (ea c) Jq "ValueError.__new__"&&vN K (ea c)&&kitOne K (.ref (ea c)) (.type "ValueError")==some true)&&
 (List.range nX).all fun k=>kitOne K (.ref (ea c)) (.ref (ea k))==some (c==k||k==0)&&exmOne K (.ref (ea c)) (.ref (ea k))==some (c==k||k==0)
noncomputable def I0 (K:Frag):Bool:=fm.all fun p=>nsIn K mainGlobals p.1==some none
noncomputable def MT (v:Value):Option Int×List Nat->Bool
 |(some i,_)=>(match v with
  | .int j _=>i==j
  |_=>false)
 |(none,l)=>(match v with
  | .str x _=>x.cps.toList==l&&Hn l
  |_=>false)
noncomputable def Nu (K:Frag) (gls:List (Str×(Option Int×List Nat))):Bool:=gls.all fun q=>match nsIn K mainGlobals q.1 with
 |some (some v)=>MT v q.2
 |_=>false
noncomputable def Hm (sp:Option (Str×Pos)) (r0:mM) (aJ:List mM) (gls:List (Str×(Option Int×List Nat))) (key:Nat->Str) (K:Frag):Bool:=
 (K.lookup sysModules).isSome&&K.all (fun q=>uZ q.2)&&I0 K&&Nu K gls&&Ja K (fun c=>Ep K (ia c))&&Je K (mj K (fO r0 aJ 0))&&(r0::aJ).all (EJ K fun sc Γ cd q=>⟨F2 r0 aJ,ig,key,gls,sc,Γ,yC (hU sp K) cd q⟩)&&(hU sp K).all (fun l=>codeHdIn K l.c l.P)
theorem yg {r0:mM} {aJ:List mM} (n:Nat):fO r0 aJ n∈r0::aJ:=by
 unfold fO;cases e:aJ.find? fun r=>r.id==n with
 |none=>exact .head _
 |some r=>exact .tail _ (List.mem_of_find?_eq_some e)
theorem GE {v:Value}:∀ {q:Option Int×List Nat},MT v q=true->GD v q
 |(some i,_),h=>by
  cases v<;>first|(cases h;done)|exact ⟨_,by rw[bO h]⟩
 |(none,l),h=>by
  cases v<;>first|(cases h;done)|skip
  rename_i x t
  refine ⟨uV (an h),t,?_⟩;obtain ⟨⟨z⟩⟩:=x;rw[<-bO (ai h)]
theorem DJ {sx:Scope->BZ->Value->Str->Sx} {r:mM} {h:Heap} (X:K.In h) (e:GM K sx r=true):typeIn K (.ref (mj K r))=some (.type "function")/\∃ o fd body,h.get? (mj K r)=some o/\o.data= .func fd/\h.CodeRec fd.code fd.qualname/\fd.body= .stmts body/\fd.closure=[]/\fd.globals=mainGlobals/\fd.builtins=builtinsNs/\fd.defaults= .none/\
  JO (sx fd.scope r.Γ fd.code fd.qualname) r fd.params body=true:=by
 unfold GM at e;split at e
 .rename_i cls dd fd sl ho
  simp only [Bool.and_eq_true,beq_iff_eq] at e;refine bJ fun G9 k9=> ?_;obtain ⟨⟨⟨⟨⟨⟨e1,e2⟩,e3⟩,e4⟩,e5⟩,e6⟩,e7⟩:=e;refine k9 ?_;split at e3
  .rename_i body hb
   exact ⟨(by show (K.lookup (mj K r)).map (·.cls)=_;rw[ho,<-e1];rfl),_,fd,body,X _ _ ho,rfl,codeRec_of X e2,hb,List.isEmpty_iff.mp e4,e5,e6,e7,e3⟩
  .cases e3
 .cases e
noncomputable def pg (sp:Option (Str×Pos)) (scr:Addr) (K:Frag):List Addr:=scr::(hU sp K).toList.map (·.P)
noncomputable def BC (prog:Program) (w:World) (s:Shared) (scr:Addr) (K:Frag) (mg mb:Str->Option Value) (sp:Option (Str×Pos)) (r0:mM) (aJ:List mM) (gls:List (Str×(Option Int×List Nat))) (key:Nat->Str):bC:=
 ⟨prog,w,co s.heap (pg sp scr K),ir K,fun c=>Ep K (ia c),K,mg,mb,F2 r0 aJ,fun n=>mj K (fO r0 aJ n),ig,key,gls,wy aJ,hU sp K⟩
section
variable {p:Program} {loose:List Str} {mean:ExcName->Option Value} {mg mb:Str->Option Value} {prog:Program} {w:World} {s:Shared} {sp:Option (Str×Pos)} {r0:mM} {aJ:List mM} {gls:List (Str×(Option Int×List Nat))} {key:Nat->Str} {scr:Addr} {o:Obj} {ws:List Addr}
def JG (s:Shared) (ws:List Addr):Prop:=∀ a∈ws,∃ o,s.heap.get? a=some o/\uZ o=false/\∀ es ep,o.data≠ .dict es ep
theorem Gb {vs:Array Value} {n:Nat} (ho:s.heap.get? scr=some o) (hc:o.cls= .type "list") (hd:o.data= .seq vs n) (TK:qQ sp K s.heap):JG s (pg sp scr K):=fun a ha=>by
 rcases NB.mp ha with q|q
 .exact ⟨o,q ▸ ho,by unfold uZ;rw[hc];rfl,fun es ep e=>by rw[hd] at e;cases e⟩
 .obtain ⟨l,hl,q⟩:=NQ.mp q;exact ⟨_,q ▸ TK l (Option.mem_toList.mp hl),rfl,fun es ep e=>by cases e⟩
theorem vr (h:s.heap.get? b=some x) (ne:b∉ws):(co s.heap ws).get? b=some x:=by
 rw[get?_without,if_neg ne];exact h
theorem HQ (h:(co s.heap ws).get? b=some x):s.heap.get? b=some x/\b∉ws:=by
 rw[get?_without] at h;by_cases q:b∈ws
 .rw[if_pos q] at h;cases h
 .rw[if_neg q] at h;exact ⟨h,q⟩
theorem A6 (lw:JG s ws) (h:s.heap.get? b=some x) (hx:uZ x=true):(co s.heap ws).get? b=some x:=vr h fun q=>by
 obtain ⟨o,h1,h2,_⟩:=lw b q;rw[h] at h1;cases h1;rw[hx] at h2;cases h2
theorem wN {a:Addr} {m:Str->Option Value} (lw:JG s ws) (h:s.heap.Ns a m):(co s.heap ws).Ns a m:=by
 refine bJ fun G9 k9=> ?_;obtain ⟨x,es,ep,h1,h2,r⟩:=h;refine k9 ?_;exact ⟨x,es,ep,vr h1 (fun q=>by
  obtain ⟨o,h3,_,h4⟩:=lw a q;rw[h1] at h3;cases h3;exact h4 _ _ h2),h2,r⟩
theorem DE (X:K.In s.heap) (h:K.all (fun q=>uZ q.2)=true) (lw:JG s ws):K.In (co s.heap ws):=fun a x e=>
 A6 lw (X a x e) (List.all_eq_true.mp h _ (tH e))
theorem Dz (T:Top p loose mean mg mb s.heap) (X:K.In s.heap) (ok:Hm sp r0 aJ gls key K=true) (hkey:∀ i j,i<100->j<100->key i=key j->i=j) (lw:JG s (pg sp scr K)) (TK:qQ sp K s.heap):
  gq (BC prog w s scr K mg mb sp r0 aJ gls key)/\wk (BC prog w s scr K mg mb sp r0 aJ gls key):=by
 simp only [Hm,Bool.and_eq_true] at ok;refine bJ fun G9 k9=> ?_;obtain ⟨⟨⟨⟨⟨⟨⟨o1,o0⟩,o2⟩,o3⟩,o4⟩,o5⟩,o6⟩,o7⟩:=ok;refine k9 ?_;have X':=DE X o0 lw;have g:=wN lw T.g;have nl:(co s.heap (pg sp scr K)).NoLimit:=by
  obtain ⟨mc,h1,h2⟩:=T.nolimit;exact ⟨mc,wN lw h1,h2⟩
 have TR:TopRead p loose mg mb (co s.heap (pg sp scr K)):=⟨g,wN lw T.b,nl,T.builtins,T.free⟩;have row:∀ n,EJ K (fun sc Γ cd q=>⟨F2 r0 aJ,ig,key,gls,sc,Γ,yC (hU sp K) cd q⟩) (fO r0 aJ n)=true:=fun n=>List.all_eq_true.mp o6 _ (yg n);have fn:=fun n=>DJ X' (ai (row n));simp only [Je,Bool.and_eq_true,List.all_eq_true,beq_iff_eq,List.mem_range] at o5;have ex:=fun c (hc:c<nX)=>List.all_eq_true.mp o4 c (List.mem_range.mpr hc);simp only [Bool.and_eq_true,List.all_eq_true,beq_iff_eq,List.mem_range] at ex;refine ⟨⟨g,TR.b,nl,?_,?_,⟨X',mg_of X' g o5.1.1.1.1.1.1,any_some o5.1.1.1.1.1.2,o5.1.1.1.1.2,o5.1.1.1.2,o5.1.1.2,o5.1.2,o5.2.1.1.1,o5.2.1.1.2,Ei,⟨o5.2.1.2,o5.2.2⟩,fun m hm=> ?_⟩,fun c hc=>own_of_in X' TR (ex c hc).1.1.1.1 (ex c hc).1.1.1.2,fun c hc=>(ex c hc).1.1.2,fun c hc k hk=>((ex c hc).2 k hk).1,fun c hc=>(ex c hc).1.2,fun c hc k hk=>((ex c hc).2 k hk).2,
  fun n hn=> ?_,fun q hq=>⟨ns_none_of X' g (bO (List.all_eq_true.mp o2 q hq)),(T.builtins _ (xA q hq).2).trans (xA q hq).1⟩,fun x q e=> ?_,hkey,fun l e=> ?_⟩,fun n pf hT=> ?_⟩
 .obtain ⟨mc,h1,h2⟩:=T.nodigits;exact ⟨mc,wN lw h1,h2⟩
 .obtain ⟨x,hx⟩:=Option.isSome_iff_exists.mp o1;exact ⟨x,X' _ _ hx⟩
 .have hm:(fO r0 aJ m).mth=true:=hm;have:=an (row m);rw[if_pos hm] at this;simp only [Bool.and_eq_true,beq_iff_eq,List.all_eq_true,List.mem_range,bne_iff_ne] at this;refine bJ fun G9 k9=> ?_;obtain ⟨h1,o,fd,body,h2,h3,_⟩:=fn m;refine k9 ?_;exact ⟨this.1,h1,this.2,o,fd,h2,h3⟩
 .have hn:(fO r0 aJ n).mth=false:=hn;have:=an (row n);rw[if_neg (by rw[hn];exact NY)] at this;refine bJ fun G9 k9=> ?_;obtain ⟨_,o,fd,body,h2,h3,_⟩:=fn n;refine k9 ?_;exact ⟨mg_of X' g (beq_iff_eq.mp this),o,fd,h2,h3⟩
 .have h3:=List.all_eq_true.mp o3 _ (cY e);dsimp only at h3;split at h3
  .rename_i v hv
   exact ⟨v,mg_of X' g hv,GE h3⟩
  .cases h3
 .have e:hU sp K=some l:=e;have tb:=TK l e;rw[e] at o7;refine bJ fun G9 k9=> ?_;obtain ⟨bm,ob,b1,b2,b3,b4,b5,b6⟩:=T.bmain;refine k9 ?_;refine ⟨codeHd_of_K X' o7,⟨bm,ob,b1,b2,fun q=> ?_,fun q=> ?_,A6 lw b3 (by unfold uZ;rw[b4];rfl),b4,b5,b6⟩,fun q=> ?_⟩
  .obtain ⟨o,es,ep,e2,hd,_⟩:=T.g;rw[q,e2] at b3;cases b3;rw[hd] at b6;cases b6
  .rw[q,tb] at b3;cases b3;cases b4
  .obtain ⟨o,es,ep,e2,hd,_⟩:=T.g;rw[q,tb] at e2;cases e2;cases hd
 .have hT':(aJ.find? fun r=>r.id==n).map (·.pf)=some pf:=hT;refine bJ fun G9 k9=> ?_;obtain ⟨r,hr,hpf⟩:=Ok.mp hT';have er:fO r0 aJ n=r:=by unfold fO;rw[hr];rfl
  obtain ⟨_,o,fd,body,h2,h3,h4,h5,h6,h7,h8,h9,h10⟩:=fn n;refine k9 ?_;rw[er] at h10;exact ⟨r,hpf.symm,o,fd,body,h2,h3,h4,h5,h6,h7,h8,h9,h10⟩
theorem Cm (h:Heap):∀ ws:List Addr,(co h ws).objs.size=h.objs.size:=by
 intro ws
 induction ws with
 |nil=>
  exact rfl
 |cons a ws ih=>
  show ((co h ws).update a _).objs.size=_;unfold Heap.update;rw[Array.size_modify,ih]
theorem Ds {C:bC} {w:bI} {vs:List Value} {sc:List Int} (h:IntsAre vs sc):RDs C w (sc.map .int) vs:=by
 induction h with
 |nil=>exact .nil
 |cons n t _ ih=>exact .cons (.int n t) ih
theorem Dj {fa:Addr} {vs:List Value} {sc:List Int} {f d:Nat} {σ':av} {Q:Result->Shared->Prop} (hkey:∀ i j,i<100->j<100->key i=key j->i=j) (T:Top p loose mean mg mb s.heap) (X:K.In s.heap) (ok:Hm sp r0 aJ gls key K=true) (TK:qQ sp K s.heap) (hl:s.heap.IsList scr vs.toArray) (hi:IntsAre vs sc)
  (hf:(fO r0 aJ f).mth=false) (hfa:mg (fO r0 aJ f).nm=some (.ref fa)) (hd:d<=50) (hrun:jQ (wy aJ) (d+1) false f [.d (.lst (sc.map .int))] []=some (.ok (.d (.bool true)),σ'))
  (hQ:∀ s',pt s s'->(∀ b o,b∉(hU sp K).toList.map (·.P)->s.heap.get? b=some o->s'.heap.get? b=some o)->(∀ l,hU sp K=some l->∃ ps,s'.heap.get? l.P=some (sJ ps))->Q (.ok (.ret (.bool true))) s'):codeAny (model prog w) callerA (.call (.ref fa) ⟨[.ref scr],[]⟩) Q s:=by
 refine bJ fun G9 k9=> ?_;obtain ⟨⟨cl,dd,da,sl⟩,ho,hc,n,hdat⟩:=id hl;refine k9 ?_;simp only at hc hdat;subst hc;subst hdat;have lw:=Gb (scr:=scr) (K:=K) (sp:=sp) ho rfl rfl TK;obtain ⟨G,F⟩:=Dz (prog:=prog) (w:=w) T X ok hkey lw TK;generalize hC:BC prog w s scr K mg mb sp r0 aJ gls key=C at G F;have cH:C.H=co s.heap (pg sp scr K):=by rw[<-hC];rfl
 have cT:C.T=wy aJ:=by rw[<-hC];rfl
 have cM:C.M=model prog w:=by rw[<-hC];rfl
 have cL:C.lam=hU sp K:=by rw[<-hC];rfl
 have hadr:C.fadr f=fa:=by
  have h1:=(G.fn f (by rw[<-hC];exact hf)).1;have h2:mg (fO r0 aJ f).nm=some (.ref (C.fadr f)):=by rw[<-hC] at h1 ⊢;exact h1
  rw[hfa] at h2;exact (Value.ref.inj (Om h2)).symm
 generalize ht:(hU sp K).toList.map (·.P)=ts at hQ;have aw:pg sp scr K=scr::ts:=by rw[<-ht];rfl
 have hts:∀ a∈ts,s.heap.get? a=some (sJ #[]):=fun a ha=>by
  rw[<-ht] at ha;obtain ⟨l,hl,q⟩:=NQ.mp ha;exact q ▸ TK l (Option.mem_toList.mp hl)
 let P:Pt:=⟨s,[],fun a=>if a=scr then .fz (og vs ⟨n,dd,sl⟩) else if a∈ts then .gh else .no,[],[]⟩
 have own:∀ a x,P.own a=x->x≠ .no->(a=scr/\x= .fz (og vs ⟨n,dd,sl⟩))∨(a∈ts/\x= .gh):=fun a x e q=>by
  by_cases z:a=scr
  .exact .inl ⟨z,e.symm.trans (if_pos z)⟩
  .have e:(if a∈ts then c4.gh else .no)=x:=(if_neg z).symm.trans e;by_cases y:a∈ts
   .exact .inr ⟨y,e.symm.trans (if_pos y)⟩
   .exact absurd (e.symm.trans (if_neg y)) q
 have I:aK C P:=by
  refine ⟨fun b o e=> ?_,fun a o e=> ?_,fun a e=> ?_,⟨fun f h=>(NV h).elim,fun f h=>(NV h).elim,List.Pairwise.nil,(fun a e=>by rcases own a .fr e c4.noConfusion with ⟨_,q⟩|⟨_,q⟩<;>cases q)⟩,⟨fun p h=>(NV h).elim,Ol,fun z e=> ?_⟩,(fun a b n j e=>by rcases own a (.cell n j) e c4.noConfusion with ⟨_,q⟩|⟨_,q⟩<;>cases q),(fun a n j e=>by rcases own a (.cell n j) e c4.noConfusion with ⟨_,q⟩|⟨_,q⟩<;>cases q),fun n o e=>nomatch e⟩
  .rw[cH] at e;obtain ⟨h1,h2⟩:=HQ e;rw[aw] at h2;refine ⟨h1,?_⟩;show (if b=scr then c4.fz (og vs ⟨n,dd,sl⟩) else if b∈ts then c4.gh else .no)= .no;rw[if_neg fun q=>h2 (by rw[q];exact .head _),if_neg (show¬b∈ts from fun q=>h2 (.tail _ q))]
  .rcases own a _ e c4.noConfusion with ⟨h1,h2⟩|⟨_,h2⟩
   .cases h2;rw[h1];exact ho
   .cases h2
  .rcases own a _ rfl e with ⟨h1,_⟩|⟨h1,_⟩
   .exact ⟨_,h1 ▸ ho⟩
   .exact ⟨_,hts a h1⟩
  .rw[cL] at e;have tb:=TK z e;have hm:z.P∈ts:=by rw[<-ht,e];exact .head _
   refine .inl ⟨tb,(if_neg fun q=> ?_).trans (if_pos hm),fun p h=>(NV h).elim⟩;rw[q,ho] at tb;cases tb
 have hsz:C.H.objs.size<=P.h.objs.size:=by
  rw[cH];exact On (Cm _ _)
 rw[<-hadr,<-cM];refine codeAny_mono (qO G F (d+1) false callerA P f [.d (.lst (sc.map .int))] [.ref scr] (fun r _=>r= .ok (.d (.bool true))) (fun v s'=>v= .bool true/\pt s s'/\(∀ b o,b∉ts->s.heap.get? b=some o->s'.heap.get? b=some o)/\∀ l,hU sp K=some l->∃ ps,s'.heap.get? l.P=some (sJ ps)) (fun _ _=>False) ⟨[],rfl,fun e h=>(NV h).elim⟩ hsz ?_ ?_ (fun _=>rfl) I (.cons (.lst (n:=⟨n,dd,sl⟩) (if_pos rfl) (Ds hi)) .nil) ?_ ⟨fun q v P' g I' r k=> ?_,fun c e P' _ _ _ k=>by cases k⟩) fun r s' h=> ?_
 .show 1+claimMargin+8*(d+1)+144<1000;have:claimMargin=300:=rfl;exact K6 hd this
 .show 4+64*(d+1)+945<9900;exact NZ (Nat.add_le_add_right (Oe (OB 64 (Ow hd)) 4) 945) (by decide)
 .show Wp _ (jQ C.T (d+1) false f _ []);rw[cT,hrun];rfl
 .cases k;refine ⟨r.view,g.sm,fun b o hb e=> ?_,fun l e=> ?_⟩
  .by_cases z:b=scr
   .rw[z,ho] at e;cases e;rw[z];exact I'.fz _ _ (g.fz _ _ (if_pos rfl))
   .exact (I'.base b o (by rw[cH,aw];exact vr e fun q=>(NB.mp q).elim z hb)).1
  .rcases I'.gh.tab l (cL.trans e) with h|⟨_,_,_,_,h,_⟩
   .exact ⟨_,h.1⟩
   .exact ⟨_,h.1⟩
 .cases r with
  |ok fl=>
   cases fl with
   |ret v=>obtain ⟨rfl,sm,k1,k2⟩:=h;exact hQ s' sm k1 k2
   |_=>exact h.elim
  |error e=>exact h.elim
end
end Mine.Internal
namespace Mine.Internal
open PySem PyProof.Rows PySem.W
variable {C:bC} {A:Around} {P:Pt} {K:R PV->av->Prop} {E Q:Value->Shared->Prop} {X:Cx} {e:Expr} {ρ:bb}
noncomputable def zD (c:Nat):Nat:=if 97<=c/\c<=122 then c - 32 else c
theorem Fc {c:Nat} (h:c<128):Txt.upper ⟨#[c]⟩=⟨#[zD c]⟩:=
 (by decide+kernel:∀ c,c<128->Txt.upper ⟨#[c]⟩=⟨#[if 97<=c/\c<=122 then c - 32 else c]⟩) c h
theorem Fd (a b:Str):Txt.upper (a++b)=Txt.upper a++Txt.upper b:=PySem.Str.ext' (by
 show placed (a++b) _=placed a _++placed b _;unfold placed;rw[PySem.Str.cps_append,Array.mapIdx_append,Array.flatten_append])
theorem Fe:∀ {l:List Nat},(∀ c∈l,c<128)->Txt.upper (cE l)=cE (l.map zD):=by
 intro l
 induction l with
 |nil=>
  intro _;exact rfl
 |cons c l ih=>
  intro h;rw[show cE (c::l)=(⟨#[c]⟩:Str)++cE l from congrArg Str.mk (by show (c::l).toArray=#[c]++l.toArray;simp),Fd,Fc (h c (.head _)),ih fun x hx=>h x (.tail _ hx)];exact congrArg Str.mk (by show #[zD c]++(l.map zD).toArray=_;simp)
noncomputable def Mz (x:PV):List PV->PM PV
 |[]=>fun σ=>((rd σ x).bind fun u=>(sD u).bind fun s=>aq ((s.all fun c=>decide (c<128))=true/\s.length<=1000) (PV.d (.str (s.map zD)))).map fun z=>(.ok z,σ)
 |_=>fun _=>none
theorem HB {x:PV} {ps:List PV} {v:Value} {vs:List Value} (I:aK C P) (r:RV C P v x) (rs:jR C P ps vs) (w:Wp K (Mz x ps P.σ)) (p:dA C A (RV C) P K Q E):wpAny C.M A (call (.builtin "str.upper") (v::vs)) Q E P.s:=by
 match ps,rs,w with
 |[],rs,w=>
  rw[show vs=[] from rs.view];obtain ⟨z,e,w⟩:=fq w;obtain ⟨u,e1,e⟩:=am e;obtain ⟨s,e2,e⟩:=am e;obtain ⟨⟨ha,hl⟩,rfl⟩:=dS e;obtain ⟨ho,t,q⟩:=eD e2 (bz I r e1);rw[q];have hc:∀ c∈s,c<128:=fun c hc=>Of (List.all_eq_true.mp ha c hc);refine SCL.upper (by show s.toArray.size<=_;rw[NW];exact NK hl (NH rfl)) fun _=>(p.fin w).tok I (jW (congrArg (fun x:Str=>x.cps.toList) (Fe hc)) ⟨fun c k=> ?_,?_⟩ _) _
  .obtain ⟨d,hd,rfl⟩:=NQ.mp k;have:=hc d hd;unfold zD;split<;>omega
  .rw[Nz];exact ho.2
 |_::_,_,w=>exact w.elim
noncomputable def AB:MF:=⟨"upper","str","str.upper",F.plainAttrs_str,F.slot_str_upper,F.type_str_upper,fun _=>AT,rS,Mz,fun _ I r rs w p=>HB I r rs w p⟩
theorem CK {w:bI} {l:List D} {vs:List Value} (h:RDs C w l vs):∀ k:Nat,RDs C w (List.replicate k l).flatten (List.replicate k vs).flatten:=by
 intro k
 induction k with
 |zero=>
  exact .nil
 |succ k ih=>
  rw[List.replicate_succ,List.replicate_succ,List.flatten_cons,List.flatten_cons];exact h.append (ih)
theorem CD {C:bC} {A:Around} {Q E:Value->Shared->Prop} {s:Shared} {l:Addr} {vs:List Value} {n:JC} {x:Int} {u:Tok} (ho:s.heap.get? l=some (og vs n)) (h0:0<=x) (h1:x<=100000) (hsz:vs.length*x.toNat<=2^24)
  (h:Q (.ref s.heap.objs.size) {s with heap:=s.heap.push {cls:=.type "list",data:=.seq (List.replicate x.toNat vs).flatten.toArray}}):wpAny C.M A (binaryOp .Mult (.ref l) (.int x u)) Q E s:=by
 have hsz':vs.toArray.size*x.toNat<=2^24:=by simpa using hsz
 refine wpAny_binaryOp_repeat_ref (T:="list") (U:="int") (by decide) ⟨_,ho,rfl⟩ (fun s'=>typeIs_int s' x u) noFill_list_mul F.fills_int_mul F.slot_int_rmul repeat_list F.slot_int_index.lookup
  (call_meets F.slot_int_rmul (typeIs_int s x u) F.entry_int_rmul (F.args_int_rmul_2 _ _) (lm_int_rmul_list_any x u l vs.toArray n.n n.d n.sl)
   ⟨ho,rfl,⟨_,ho,rfl⟩,call_meets F.slot_list_mul ⟨_,ho,rfl⟩ F.entry_list_mul (F.args_list_mul_2 _ _)
    (lm_list_mul_any l vs.toArray n.n n.d n.sl x u (by simp [Builtin.List.listFitsIndex];exact ⟨N9 (by decide) h0,N_ h1 (by decide)⟩) (K5 hsz') (by simp [Builtin.List.listTooLong,sizeLine];exact hsz))
    ⟨ho,?_⟩⟩)
 rw[listMul_foldl_if];exact h
noncomputable def u5 (a b:CE):CF:=⟨fun K ρ=>bP (a.ev K ρ) fun x=>bP (b.ev K ρ) fun y=>fun σ=>(((rd σ x).bind lD).bind fun l=>((rd σ y).bind iD).bind fun m=>aq (0<=m/\m<=100000/\l.length*m.toNat<=cS) (List.replicate m.toNat l).flatten).map fun z=>(.ok z,σ),fun s=>jv fun l op r _=>op== .Mult&&a.is s l&&b.is s r,
 fun X e ρ P K Q E h I G w p=>ii (fun e=>wpAny X.M X.A (eval e X.env) Q E P.s) h fun l op r pos h=>wpAny_BinOp (a.ok X l ρ P _ _ E (an (ai h)) I G (aL w) (p.bind fun x v P1 g1 I1 r1 w p=>
  b.ok X r ρ P1 _ _ E (an h) I1 (G.ext g1) (aL w) (p.bind fun y u P2 g2 I2 r2 w p=>by
   obtain ⟨z,e,k⟩:=fq w;obtain ⟨l1,e1,e⟩:=am e;obtain ⟨m,e2,e⟩:=am e;obtain ⟨⟨h0,h1,hm⟩,rfl⟩:=dS e;obtain ⟨u1,e3,e4⟩:=am e1;obtain ⟨u2,e5,e6⟩:=am e2;rw[bO (ai (ai h))];obtain @⟨a1,vs1,n1,g1',_,rr1⟩:=fD e4 (bz I2 (r1.ext g2.toExt) e3);obtain ⟨t,q⟩:=d5 e6 (bz I2 r2 e5);rw[q];refine CD g1' h0 h1 (by rw[rr1.length];exact hm) ?_;have n:=I2.push (o:=aU (List.replicate m.toNat vs1).flatten 0) rfl;exact p.ok (List.replicate m.toNat l1).flatten (.ref P2.h.objs.size) (P2.to (P2.h.push (aU (List.replicate m.toNat vs1).flatten 0)) P2.s.toks) (.to ..) (I2.to n.keep) (.mk ⟨fun _ _ e=>e,n.own,n.H,n.at_⟩ (CK rr1 _)) k)))⟩
section
theorem Gf {kvs:List (Str×Value)} (G:gq C) (hk:∀ i p,kvs[i]? =some p->p.1=C.key i) (hl:kvs.length<=100) {k:Nat} {p:Str×Value} (e:kvs[k]? =some p):valueAt kvs (C.key k)=some p.2:=by
 have hlt:=(ND.mp e).1;have h1:∀ j,j<k->∀ q,kvs[j]? =some q->q.1≠C.key k:=fun j hj q hq z=>by
  have:=hk j q hq;have:=G.keys j k (by exact N0 (Ou hj hlt) hl) (by exact N0 hlt hl) (this.symm.trans z);exact Nat.ne_of_lt hj this
 show (kvs.find? fun kv=>decide (kv.1=C.key k)).map (·.2)=_;have:kvs.find? (fun kv=>decide (kv.1=C.key k))=some p:=by
  rw[List.find?_eq_some_iff_getElem];refine ⟨NP (hk k p e),k,hlt,(ND.mp e).2,fun j hj=> ?_⟩;have:=h1 j hj kvs[j] (NE (by exact Ou hj hlt));rw[Op this];rfl
 rw[this];rfl
structure Nx (C:bC) (kvs:List (Str×Value)) (k:Nat) (v:Value) (res:List (Str×Value)) (n:Nat):Prop where
 len:res.length=n
 nm:∀ i p,res[i]? =some p->p.1=C.key i
 nw:∀ p,res[k]? =some p->p.2=v
 old:∀ i p,i≠k->res[i]? =some p->kvs[i]? =some p
end
noncomputable def wA:PV->Option (List Nat)
 | .d x=>sD x
 |_=>none
theorem uG {y:PV} {s:List Nat} (h:wA y=some s):y= .d (.str s):=by
 cases y with
 |d v=>cases v<;>first|(cases h;done)|(cases h;rfl)
 |_=>cases h
noncomputable def Gi (k:Nat) (s:List Nat) (x y:PV):PM PV:=fun σ=>(aq (wA y=some s) ()).bind fun _=>qL false k x σ
theorem B8 {k:Nat} {s:List Nat} {x y:PV} {σ:av} (w:Wp K (Gi k s x y σ)):y= .d (.str s)/\Wp K (qL false k x σ):=by
 have w:Wp K ((aq (wA y=some s) ()).bind fun _=>qL false k x σ):=w;unfold aq at w;by_cases q:wA y=some s
 .rw[if_pos q] at w;exact ⟨uG q,w⟩
 .rw[if_neg q] at w;exact w.elim
section
theorem Gh (o:CE) (k:Nat) (s:List Nat) (h:cb (fun v j _=>dq j&&cE s==X.sx.key k&&o.is X.sx v&&(aC s).is X.sx j) e=true) (I:aK X.C P) (G:EnvOK X P ρ) (w:Wp K (bP (o.ev X.ker ρ) (fun x=>bP ((aC s).ev X.ker ρ) fun y=>Gi k s x y) P.σ)) (p:bw X (RV X.C) P K Q E):wpAny X.M X.A (eval e X.env) Q E P.s:=
 cP (fun e=>wpAny X.M X.A (eval e X.env) Q E P.s) h fun v j pos h=>Subscript_ (o.ok X v ρ P _ _ E (an (ai h)) I G (aL w) (p.bind fun x vx P1 g1 I1 r1 w p=>
  (aC s).ok X j ρ P1 _ _ E (an h) I1 (G.ext g1) (aL w) (p.bind fun y u P2 g2 I2 r2 w p=>by
   obtain ⟨hy,w2⟩:=B8 w;subst hy;obtain ⟨n,l,f,q,e1,e2,kk⟩:=wp w2;subst q;obtain ⟨_,t,hu⟩:kl s/\∃ t,u= .str (cE s) t:=RD.view r2;have hk:cE s=X.C.key k:=bO (an (ai (ai h)));obtain @⟨d,ob,kvs,h1,h2,h3,h4,h5,h6,h7⟩:ux X.C P2.own P2.h n l:=I2.obj n _ e1;have hlt:=(ND.mp e2).1;have ek:kvs[k]? =some kvs[k]:=NE (by exact Nat.lt_of_lt_of_eq hlt (id (Eq.symm h4)));have hM:=(Heap.dictOf_iff.mpr ⟨ob,h2,h3⟩).mapOf;rw[hu,(r1.ext g2.toExt).2 d h1,hk];exact tail_any hM.typeIs slot_dict_getitem.lookup (wpAny_getItem_of (strKind_is _ _ _ _) hM (Gf X.good h6 (by exact le_of_eq_of_le h4 h5) ek) (p.ok _ _ (P2.to P2.h _) (.to ..) (I2.to fun _ _ e=>e) (Aa I2 e1 e2 (h7 k f _ e2 ek)) kk)) (ck (ai (ai (ai h))) _ _))))
end
noncomputable def key (o:CE) (k:Nat) (s:List Nat):CE:=⟨fun K ρ=>bP (o.ev K ρ) fun x=>bP ((aC s).ev K ρ) fun y=>Gi k s x y,fun sx=>cb fun v j _=>dq j&&cE s==sx.key k&&o.is sx v&&(aC s).is sx j,fun _ _ _ _ _ _ _ h I G w p=>Gh o k s h I G w p⟩
section
variable {X:SX} {st:Stmt} {K:Out->av->Prop} {Q:Flow->Shared->Prop}
end
section
end
section
variable {w:bI}
inductive Hh (C:bC) (P:Pt) (a:Addr) (o:Obj) (ks:List D) (vs:List Value):Prop
 |mk (xs:List (List Str×Addr×Value)):P.h.DictOfH (tupleKind (strKind C.prog C.w)) a xs->(∀ x∈xs,uw C P.own x.1 x.2.1)->ks=xs.map (fun x=>MG x.1)->vs=xs.map (·.2.2)->(xs.map (·.1)).Nodup->Hh C P a o ks vs
end
section
end
section
end
section
variable {Q:Unit->Shared->Prop}
end
section
variable {X:SX} {st:Stmt} {K:Out->av->Prop} {Q:Flow->Shared->Prop}
end
theorem F4 (I:aK C P) {h':Heap} {o:Obj} (kp:∀ b o',P.h.get? b=some o'->h'.get? b=some o') (ho:h'.get? P.h.objs.size=some o):zt C P h' P.h.objs.size o:=⟨kp,I.off (NM _),I.out (NM _),ho⟩
theorem wV {l:List D} {v:Value} (I:aK C P) (h:ja C P l v) (hl:l.length<=cS) (k:∀ h' vs n,zt C P h' P.h.objs.size (aU vs n)->RDs C P.own l vs->Q (.ref P.h.objs.size) {P.s with heap:=h'}):wpAny C.M A (call (.type "list") [v]) Q E P.s:=by
 obtain @⟨a,vs,n,g,_,r⟩:=h;exact call_list_seq a (T:="list") (items:=vs.toArray) (.inl rfl) g rfl rfl (fun h' c' kp ho=>k h' vs c' (F4 I kp ho) r) (by rw[NW,r.length];exact NK hl (by decide))
noncomputable def xk:BF:=⟨"list",.type "list",by decide+kernel,fun _=>g1 fun u=>(lD u).bind fun l=>aq (l.length<=cS) (.lst l),fun {C A P hd K ps vs Q E} _ _ I r w p=>hV (fun vs=>wpAny C.M A (call (.type "list") vs) Q E P.s) I r w fun v u z h e k=>by
 obtain ⟨l,e1,e⟩:=am e;obtain ⟨hm,rfl⟩:=dS e;exact wV I (fD e1 h) hm fun h' ws n nw rr=>(p.fin k).note I nw P.s.toks (nI I nw.own rr rfl)⟩
noncomputable def Np (x:PV):PM PV:=fun σ=>((rd σ x).bind lD).bind fun l=>(aq (l.length<=cS) ()).bind fun _=>kN (.fld (.list l)) σ
noncomputable def oJ:BF:=⟨"list",.type "list",by decide+kernel,fun _ ps=>match ps with
 |[x]=>Np x
 |_=>fun _=>none,fun {C A P hd K ps vs Q E} G _ I r w p=>by
 match ps,r,w with
 |[x],r,w=>
  obtain ⟨r1,r2⟩:xI C P x [] vs:=r.view;rw[show _=[] from r2.view];obtain ⟨l,e1,w⟩:=gS w;obtain ⟨_,e2,w⟩:=gS w;obtain ⟨u,e3,e4⟩:=am e1;exact wV I (fD e4 (bz I r1 e3)) (dS e2).1 fun h' ws n nw rr=>p.make (f:=.list l) (t:=P.s.toks) I nw ⟨_,n,rfl,rr.ext (eH nw.own)⟩ w
 |[],_,w=>exact w.elim
 |_::_::_,_,w=>exact w.elim⟩
end Mine.Internal
namespace Mine.Internal
open PySem PyProof.Rows
noncomputable def I9:BF:=⟨"abs",.builtin "abs",by decide+kernel,fun _=>g1 fun u=>(iD u).map fun x=>.int (if x<0 then -x else x),fun {C A P hd K ps vs Q E} _ _ I r w p=>hV (fun vs=>wpAny C.M A (call (.builtin "abs") vs) Q E P.s) I r w fun v u z h e k=>by
 obtain ⟨x,e1,rfl⟩:=aN e;obtain ⟨t,q⟩:=d5 e1 h;rw[q];exact call_abs_int fun u tk=>(p.fin k).tok I (.int _ _) _⟩
noncomputable def iA (t:CT) (b:CS) (k:cQ):Nat->bb->av->Option (Out×av)
 |0,_,_=>none
 |n+1,ρ,σ=>df ρ (t.ts k ρ) (fun c=>if c then fun σ=>lV (b.ex k ρ σ) (iA t b k n) else fun σ=>some (.next ρ,σ)) σ
section
variable {X:SX} {st:Stmt} {ρ:bb} {P:Pt} {K:Out->av->Prop} {Q:Flow->Shared->Prop} {E:Value->Shared->Prop}
theorem zy (t:CT) (b:CS) (N:Nat) (h:m5 (fun te be el _=>el.isEmpty&&t.is X.sx te&&b.is X.sx be) st=true) (I:aK X.C P) (G:cn X P ρ)
  (w:ij K (iA t b X.ker N ρ P.σ)) (p:cW X P K Q E):wpAny X.M X.A (PySem.exec st X.env) Q E P.s:=by
 refine rD (fun st=>wpAny X.M X.A (PySem.exec st X.env) Q E P.s) h fun te be el pos h=> ?_;refine b_ (fun el=>wpAny X.M X.A (PySem.exec (.While te be el pos) X.env) Q E P.s) (ai (ai h)) ?_;refine wpAny_While (codeAny_whileLoop (fun n s=>∃ P' ρ',s=P'.s/\eA P P'/\aK X.C P'/\cn X P' ρ'/\ij K (iA t b X.ker n ρ' P'.σ)) ?_ N ⟨P,ρ,rfl,G.gs (.refl P),I,G,w⟩);rintro n s ⟨P₁,ρ₁,rfl,g₁,I₁,G₁,w₁⟩;cases n with
 |zero=>exact w₁.elim
 |succ n=>
  have p₁:=p.mono g₁;have pE:cW X P₁ K Q (notedBy X.M X.A X.env (cameBackBy X.M X.A X.env E)):=⟨p₁.next,p₁.ret,fun c ρ' e P₄ g₄ I₄ xx G₄ k=>t6 I₄ xx fun P₅ g₅ I₅ e₅ x₅=>p₁.ex c ρ' e P₅ (g₄.grow g₅) I₅ x₅ (G₄.ext g₅) (e₅ ▸ k)⟩;refine t.ok X.toCx te ρ₁ P₁ _ _ _ (an (ai h)) I₁ G₁.toEnvOK (eB w₁) (pE.bind (Rel:=lU) G₁ fun c v P2 g I2 r w G2 p2=> ?_);rw[show v=c from r];cases c with
  |false=>exact wpAny_execs_nil (p2.go I2 G2 w)
  |true=>
   refine b.ok X be ρ₁ P2 (tK K (iA t b X.ker n)) _ _ (an h) I2 G2 (wm w) ⟨fun ρ₄ P₄ g₄ I₄ G₄ k=>⟨n,Nat.lt_succ_self n,P₄,ρ₄,rfl,(g₁.trans (G₁.gs g)).trans g₄,I₄,G₄,k⟩,fun q u P₄ g₄ I₄ r₄ k=>p2.ret q u P₄ g₄ I₄ r₄ k,fun c ρ' e P₄ g₄ I₄ xx G₄ k=>p2.ex c ρ' e P₄ g₄ I₄ xx G₄ k⟩
end
noncomputable def zZ (N:Nat) (t:CT) (b:CS):C1:=⟨fun K=>iA t b K N,fun s=>m5 fun te be el _=>el.isEmpty&&t.is s te&&b.is s be,fun _ _ _ _ _ _ _ h I G w p=>zy t b N h I G w p⟩
end Mine.Internal
namespace Mine.Internal
open PySem PyProof.Rows PySem.W
variable {c:Nat}
section
open Builtin Builtin.Str
theorem xX {C:bC} {A:Around} {s:Shared} {Q E:Value->Shared->Prop} {x y:PySem.Str} {t u:Tok} (hy:(y.length==0)=false) (h1:x.length<=sizeLine) (h2:x.length+2<=sizeLine)
  (h:∀ l k,l.map (·.1)=Txt.split x y->Q (.ref s.heap.objs.size) {s with toks:=k,heap:=s.heap.push {cls:=.type "list",data:=.seq (strValues l).toArray}}):wpAny C.M A (call (.builtin "str.split") [.str x t,.str y u]) Q E s:=by
 cases e1:(decide (x.length<y.length)||decide (strKind x<strKind y))
 .cases hf:(occurrences x y 0 x.length (x.length+1)).isEmpty
  .refine call_meets F.slot_str_split (typeIs_str _ _ _) F.entry_str_split (F.args_str_split_2 _ _) (meets_str_split_sep x y t u e1 hy hf h1 ?_) ?_
   .have:=split_le x y;unfold Txt.split at this;rw[if_neg (ne_true_of_eq_false e1),if_neg (ne_true_of_eq_false hf)] at this;exact NK this h2
   .show wants Q E _ {s with toks:=_,heap:=s.heap.push {cls:=.type "list",data:=.seq (strsFrom s.toks (partsBetween x (occurrences x y 0 x.length (x.length+1)) y.length)).toArray}};rw[strsFrom_eq];exact h (numbered s.toks _) _ ((numbered_texts _ _).trans ((if_neg (ne_true_of_eq_false e1)).trans (if_neg (ne_true_of_eq_false hf))).symm)
  .exact call_meets F.slot_str_split (typeIs_str _ _ _) F.entry_str_split (F.args_str_split_2 _ _) (meets_str_split_not_found x y t u e1 hy hf)
    (h [(x,t)] _ ((if_neg (ne_true_of_eq_false e1)).trans (if_pos hf)).symm)
 .exact call_meets F.slot_str_split (typeIs_str _ _ _) F.entry_str_split (F.args_str_split_2 _ _) (meets_str_split_cannot_occur x y t u e1)
   (h [(x,t)] _ (if_pos e1).symm)
end
noncomputable def Fu (c x:Nat) (q:List (List Nat)):List (List Nat):=if x=c then []::q else (x::q.headD [])::q.tail
noncomputable def ax (c:Nat):List Nat->List (List Nat)
 |[]=>[[]]
 |x::r=>Fu c x (ax c r)
theorem fx {x:Nat} {r:List Nat}:ax c (x::r)=Fu c x (ax c r):=rfl
theorem sR:∀ {p:List Nat},c∉p->ax c p=[p]:=by
 intro p
 induction p with
 |nil=>
  intro _;exact rfl
 |cons x p ih=>
  intro h;rw[fx,ih fun k=>h (.tail _ k)];exact if_neg fun e:x=c=>h (e ▸ .head _)
theorem gZ {l:List Nat}:∀ {p:List Nat},c∉p->ax c (p++c::l)=p::ax c l:=by
 intro p
 induction p with
 |nil=>
  intro _;exact if_pos rfl
 |cons x p ih=>
  intro h;rw[List.cons_append,fx,ih fun k=>h (.tail _ k)];exact if_neg fun e:x=c=>h (e ▸ .head _)
theorem jU {c:Nat}:∀ {ps:List (List Nat)},ps≠[]->(∀ p∈ps,c∉p)->ax c (bS [c] ps)=ps
 |[],h,_=>absurd rfl h
 |[p],_,h=>sR (h p (.head _))
 |p::q::r,_,h=>by
  show ax c (p++[c]++bS [c] (q::r))=_;rw[List.append_assoc];exact (gZ (h p (.head _))).trans (congrArg (p::·) (jU nofun fun x hx=>h x (.tail _ hx)))
theorem xY (l:List Nat) (c:Nat):Txt.split (cE l) (cE [c])=(ax c l).map cE:=by
 have e:((Txt.split (cE l) (cE [c])).map fun p=>p.cps.toList).map cE=Txt.split (cE l) (cE [c]):=by
  rw[List.map_map];exact List.map_id _
 have h:=lB [c] ((Txt.split (cE l) (cE [c])).map fun p=>p.cps.toList);have h2:(PySem.Str.join (cE [c]) (Txt.split (cE l) (cE [c]))).cps.toList=l:=congrArg (fun x:PySem.Str=>x.cps.toList) (StrLaws.join_split (cE l) (cE [c]));have h3:=h.symm.trans ((congrArg (fun q=>(PySem.Str.join (cE [c]) q).cps.toList) e).trans h2);have hs:=jU (c:=c) (ps:=(Txt.split (cE l) (cE [c])).map fun p=>p.cps.toList) (fun q=>by
  have:=split_pos (cE l) (cE [c]);rw[List.map_eq_nil_iff.mp q] at this;exact absurd this (by decide)) fun p hp=>by
   obtain ⟨q,hq,rfl⟩:=NQ.mp hp;exact StrLaws.split_free _ _ q hq
 rw[h3] at hs;rw[hs,e]
theorem je (c:Nat):∀ l:List Nat,ax c l=(ax c l).headD []::(ax c l).tail:=by
 intro l
 induction l with
 |nil=>
  exact rfl
 |cons x r ih=>
  rw[fx,Fu];split<;>rfl
theorem gY:∀ {l p:List Nat},p∈ax c l->(∀ x∈p,x∈l)/\p.length<=l.length:=by
 intro l
 induction l with
 |nil=>
  intro p h;rw[NG.mp h];exact ⟨aX,NM _⟩
 |cons x r ih=>
  intro p h;have ih:=fun q hq=>ih (p:=q) hq;have up:∀ {q},q∈ax c r->(∀ y∈q,y∈x::r)/\q.length<=r.length+1:=fun hq=>⟨fun y hy=>.tail _ ((ih _ hq).1 y hy),N2 (ih _ hq).2⟩;have e:=je c r;rw[fx,Fu] at h;split at h
  .rcases NB.mp h with rfl|h
   .exact ⟨aX,N3 _⟩
   .exact up h
  .rcases NB.mp h with rfl|h
   .have k:=ih ((ax c r).headD []) (by rw[e];exact .head _);exact ⟨fun y hy=>(NB.mp hy).elim (fun q=>q ▸ .head _) fun hy=>.tail _ (k.1 y hy),Ow k.2⟩
   .exact up (by rw[e];exact .tail _ h)
theorem sM {C:bC} {w:bI}:∀ {ts:List (List Nat)} {l:List (PySem.Str×Tok)},(∀ t∈ts,kl t)->l.map (·.1)=ts.map cE->RDs C w (ts.map .str) (strValues l)
 |[],[],_,_=>.nil
 |t::ts,(x,k)::l,h,e=>by
  have e1:x=cE t:=(List.cons.inj e).1;subst e1;exact .cons (.str t k (h t (.head _))) (sM (fun t ht=>h t (.tail _ ht)) (List.cons.inj e).2)
 |[],_::_,_,e=>nomatch e
 |_::_,[],_,e=>nomatch e
noncomputable def MC (u v:D):Option (List D):=(sD u).bind fun s=>(sD v).bind fun t=>match t with
 |[c]=>aq (s.length<=1048576) ((ax c s).map .str)
 |_=>none
theorem zQ {C:bC} {A:Around} {P:Pt} {Q E:Value->Shared->Prop} {u v:D} {z:List D} {x y:Value} (I:aK C P) (hu:fM C P x u) (hv:fM C P y v) (e:MC u v=some z)
  (k:∀ h' vs n t,zt C P h' P.h.objs.size (aU vs n)->RDs C P.own z vs->Q (.ref P.h.objs.size) {P.s with heap:=h',toks:=t}):wpAny C.M A (call (.builtin "str.split") [x,y]) Q E P.s:=by
 obtain ⟨s,e1,e⟩:=am e;obtain ⟨t,e2,e⟩:=am e;obtain ⟨ho,t1,q1⟩:=eD e1 hu;obtain ⟨_,t2,q2⟩:=eD e2 hv
 match t,e with
 |[c],e=>
  obtain ⟨hl,rfl⟩:=dS e;rw[q1,q2];refine xX rfl (by show s.toArray.size<=_;rw[NW];exact NK hl (by decide)) (by show s.toArray.size+2<=_;rw[NW];exact NK (Nat.add_le_add_right hl 2) (by decide)) fun l t' hl=> ?_;have n:=I.push (o:=aU (strValues l) 0) rfl;exact k _ (strValues l) 0 t' n (sM (fun t ht=>⟨fun c hc=>ho.1 c ((gY ht).1 c hc),NK (gY ht).2 ho.2⟩) (hl.trans (xY s c)))
 |[],e=>cases e
 |_::_::_,e=>cases e
noncomputable def g8:MF:=⟨"split","str","str.split",F.plainAttrs_str,F.slot_str_split,F.type_str_split,fun _=>AT,rS,fun x ps=>match ps with
 |[y]=>FU (fun u v=>(MC u v).map .lst) x y
 |_=>fun _=>none,fun {C A P K x ps v vs Q E} _ I r rs w p=>by
 match ps,rs,w with
 |[y],rs,w=>
  obtain ⟨r1,r2⟩:xI C P y [] vs:=rs.view;rw[show _=[] from r2.view];obtain ⟨u,v',z,e1,e2,e,w⟩:=uC w;obtain ⟨l,e3,rfl⟩:=aN e;exact zQ I (bz I r e1) (bz I r1 e2) e3 fun h' ws n t nw rr=>(p.fin w).note I nw t (nI I nw.own rr rfl)
 |[],_,w=>exact w.elim
 |_::_::_,_,w=>exact w.elim⟩
end Mine.Internal
namespace Mine.Internal
open PySem PyProof.Rows PySem.W
noncomputable def isDg (c:Nat):Bool:=decide (48<=c)&&decide (c<=57)
noncomputable def Hu (s:List Nat):Option Nat:=aq (s≠[]/\s.all isDg=true/\s.length<=600) (NumText.digitsVal s)
noncomputable def mF:List Nat->Option Int
 |45::r=>Option.map (fun n:Nat=> -(n:Int)) (Hu r)
 |s=>Option.map (fun n:Nat=>(n:Int)) (Hu s)
theorem BS {s:List Nat} (h:s.all isDg=true):NumText.AllDigits s:=fun c hc=>⟨Of (ai (List.all_eq_true.mp h c hc)),Of (an (List.all_eq_true.mp h c hc))⟩
theorem qB {s:List Nat} {n:Int} (h:mF s=some n):PySem.intText? (cE s)=some n/\s.length<=601:=by
 unfold mF at h;split at h
 .rename_i r
  obtain ⟨m,e,rfl⟩:=aN h;obtain ⟨⟨h1,h2,h3⟩,rfl⟩:=dS e;exact ⟨PySem.intText_neg (cs:=r) rfl (BS h2) h1 (by show (45::r).toArray.size<=_;rw[NW,NI];omega),Ow h3⟩
 .obtain ⟨m,e,rfl⟩:=aN h;obtain ⟨⟨h1,h2,h3⟩,rfl⟩:=dS e;exact ⟨PySem.intText_digits (BS h2) h1 (by show s.toArray.size<=_;rw[NW];omega),N2 h3⟩
noncomputable def EZ:BF:=⟨"int",.type "int",by decide+kernel,fun _=>g1 fun u=>(sD u).bind fun s=>(mF s).map .int,fun {C A P hd K ps vs Q E} _ _ I r w p=>hV (fun vs=>wpAny C.M A (call (.type "int") vs) Q E P.s) I r w fun v u z h e k=>by
 obtain ⟨s,e1,e⟩:=am e;obtain ⟨n,e2,rfl⟩:=aN e;obtain ⟨_,t,q⟩:=eD e1 h;rw[q];exact KIN.call_text (qB e2).1 (by show s.toArray.size<=_;rw[NW];exact NK (qB e2).2 (by decide)) ((p.fin k).tok I (.int _ _) _)⟩
noncomputable def iG (u lo hi:D):Option D:=(sD u).bind fun s=>(kY 0 lo).bind fun l=>(kY s.length hi).bind fun h=>aq (cZ l s.length<=cZ h s.length) (.str (bf s (cZ l s.length) (cZ h s.length)))
theorem ul {C:bC} {w:bI} {v:Value} {n i:Int}:∀ {p:D},RD C w p v->kY n p=some i->∃ o:Option (Int×Tok),v=partValue o/\(o.map (·.1)=some i∨(o.map (·.1)=none/\i=n)):=by
 intro Z0 r e;cases Z0 with
 |none=>
  cases e;exact ⟨none,r.view,.inr ⟨rfl,rfl⟩⟩
 |int j=>
  obtain ⟨t,q⟩:∃ t,v= .int j t:=r.view;rw[<-(dS e).2];exact ⟨some (j,t),q,.inl rfl⟩
 |_=>cases e
theorem Bt (i:Int) (n:Nat):cZ i n<=n:=by
 unfold cZ;split<;>omega
theorem xw (i:Int) (n:Nat):cZ (cZ i n:Int) n=cZ i n:=by
 show (if ((cZ i n:Nat):Int)<0 then _ else min ((cZ i n:Nat):Int).toNat n)=_;rw[if_neg (OA.mpr (Oy _)),Int.toNat_natCast,Nat.min_eq_left (Bt i n)]
theorem Dv {i j:Int} {n:Nat}:Builtin.Str.strSliceIndices (some i) (some j) 1 n=Builtin.Str.strSliceIndices (some (cZ i n:Int)) (some (cZ j n:Int)) 1 n:=by
 have k:∀ a b:Int,Builtin.Str.strSliceIndices (some a) (some b) 1 n=sliceRange (cZ a n) (cZ b n) 1:=fun a b=>by
  rw[<-oS,<-oS,clipAt_cast,clipAt_cast];rfl
 rw[k,k,xw,xw]
theorem yc {x:PySem.Str} {l u:Option Int} {i j:Int} (hl:l=some i∨(l=none/\i=0)) (hu:u=some j∨(u=none/\j=x.length)) (h:cZ i x.length<=cZ j x.length):
  StrLaws.sliceText x l u=⟨(bf x.cps.toList (cZ i x.length) (cZ j x.length)).toArray⟩:=by
 refine Eq.trans ?_ (StrLaws.sliceText_nat x h (Bt _ _));unfold StrLaws.sliceText;have e:Builtin.Str.strSliceIndices l u 1 x.length=Builtin.Str.strSliceIndices (some i) (some j) 1 x.length:=by
  rcases hl with rfl|⟨rfl,rfl⟩
  .rcases hu with rfl|⟨rfl,rfl⟩
   .rfl
   .rw[StrLaws.sliceIdx_none_hi]
  .rcases hu with rfl|⟨rfl,rfl⟩
   .rw[StrLaws.sliceIdx_none_lo]
   .rw[StrLaws.sliceIdx_none_lo,StrLaws.sliceIdx_none_hi]
 rw[e,Dv]
theorem Cl {C:bC} {A:Around} {P:Pt} {Q E:Value->Shared->Prop} {value:Expr} {le ue:Option Expr} {sp:Pos} {u lo hi z:D} {x vl vu:Value} (I:aK C P) (hu:fM C P x u) (r1:RD C P.own lo vl) (r2:RD C P.own hi vu) (e:iG u lo hi=some z) (k:mO C P z Q):
  wpAny C.M A (subscriptTail value (.Slice le ue none sp) x (.ref P.h.objs.size)) Q E {P.s with heap:=P.h.push {cls:=.type "slice",data:=.fields #[vl,vu,.none]}}:=by
 obtain ⟨s,e1,e⟩:=am e;obtain ⟨i,e2,e⟩:=am e;obtain ⟨j,e3,e⟩:=am e;obtain ⟨hc,rfl⟩:=dS e;obtain ⟨ho,t,q⟩:=eD e1 hu;obtain ⟨o1,f1,p1⟩:=ul r1 e2;obtain ⟨o2,f2,p2⟩:=ul r2 e3;have hn:(cE s).length=s.length:=NW;have hs:=yc (x:=cE s) p1 (by rw[hn];exact p2) (by rw[hn];exact hc);rw[hn] at hs;have hl:(bf s (cZ i s.length) (cZ j s.length)).length<=s.length:=by
  rw[bf,List.length_take,List.length_drop];exact NK (Nat.min_le_right _ _) (Nat.sub_le _ _)
 rw[q];refine tail_any (typeIs_str _ _ t) F.slot_str_getitem.lookup (wpAny_getItem_str_slice (l:=o1) (u:=o2) (st:=none) ⟨_,NU _ rfl,rfl,by rw[f1,f2];rfl⟩ rfl (post_val_or_str ⟨?_,fun t' n=> ?_⟩)) (ops:=[.ref P.h.objs.size,.str (cE s) t]) rfl
 .show (StrLaws.sliceText (cE s) (o1.map (·.1)) (o2.map (·.1))).length<=sizeLine;rw[hs];show (List.toArray _).size<=sizeLine;rw[NW];exact NK hl (NK ho.2 (by decide))
 .have q:=k.grown I (h':=P.h.push {cls:=.type "slice",data:=.fields #[vl,vu,.none]}) (v:=.str (StrLaws.sliceText (cE s) (o1.map (·.1)) (o2.map (·.1))) t') (fun b o e=>NJ _ e) (by
   rw[hs];exact .str _ t' ⟨fun c hc=>ho.1 c (List.mem_of_mem_drop (List.mem_of_mem_take hc)),NK hl ho.2⟩) n
  exact q
noncomputable def rc (a:CE) (lo hi:CP):CE:=⟨fun K ρ=>bP (a.ev K ρ) fun x=>bP (lo.ev K ρ) fun l=>bP (hi.ev K ρ) fun h=>fun σ=>((rd σ x).bind fun u=>(km l).bind fun l=>(km h).bind fun h=>(iG u l h).map PV.d).map fun z=>(.ok z,σ),fun s=>so fun v l u=>a.is s v&&lo.is s l&&hi.is s u,fun X e ρ P K Q E h I G w p=>
 mz (fun e=>wpAny X.M X.A (eval e X.env) Q E P.s) h fun v l u sp pos h=>Subscript_ (a.ok X v ρ P _ _ E (ai (ai h)) I G (aL w) (p.bind fun x v P1 g1 I1 r1 w p=>
  wpAny_Slice (lo.ok X l ρ P1 _ _ E (an (ai h)) I1 (G.ext g1) (aL w) (p.bind fun y1 v1 P2 g2 I2 r2 w p=>
   hi.ok X u ρ P2 _ _ E (an h) I2 ((G.ext g1).ext g2) (aL w) (p.bind fun y2 v2 P3 g3 I3 r3 w p=>by
    obtain ⟨z,e,k⟩:=fq w;obtain ⟨u1,e1,e⟩:=am e;obtain ⟨u2,e2,e⟩:=am e;obtain ⟨u3,e3,e⟩:=am e;obtain ⟨z,e4,rfl⟩:=aN e;rw[evalPart_none];exact NO (Cl I3 (bz I3 ((r1.ext g2.toExt).ext g3.toExt) e1) (mJ e2 (r2.ext g3.toExt)) (mJ e3 r3) e4 (p.fin k)))))))⟩
section
open Builtin Builtin.Str
end
end Mine.Internal
namespace Mine.Internal
open PySem PyProof.Rows PySem.W
section
open Builtin Builtin.Str
end
abbrev Mt (m:Nat) (C:bC) (P:Pt) (v:Value) (z:PV):Prop:=m<=P.s.toks/\RV C P v z
abbrev JE (m:Nat) (C:bC) (P:Pt) (vs:List Value) (zs:List PV):Prop:=m<=P.s.toks/\jR C P zs vs
structure CG (n m:Nat) where
 ev:cQ->bb->PM PV
 is:Sx->Expr->Bool
 ok:∀ (X:Cx) (e:Expr) (ρ:bb) (P:Pt) (K:R PV->av->Prop) (Q E:Value->Shared->Prop),is X.sx e=true->n<=P.s.toks->aK X.C P->EnvOK X P ρ->Wp K (ev X.ker ρ P.σ)->bw X (Mt m X.C) P K Q E->wpAny X.M X.A (eval e X.env) Q E P.s
structure Ny (n m:Nat) where
 ev:cQ->bb->PM (List PV)
 is:Sx->List Expr->Bool
 star:∀ sx es env pos,is sx es=true->∀ x∈backTo pos (starEach es env),x.1=false
 ok:∀ (X:Cx) (es:List Expr) (pos:Pos) (ρ:bb) (P:Pt) (K:R (List PV)->av->Prop) (Q:List Value->Shared->Prop) (E:Value->Shared->Prop),is X.sx es=true->n<=P.s.toks->aK X.C P->EnvOK X P ρ->Wp K (ev X.ker ρ P.σ)->bw X (JE m X.C) P K Q E->
  wpAny X.M X.A (spliced (backTo pos (starEach es X.env))) Q E P.s
end Mine.Internal
namespace Mine.Internal
open PySem PyProof.Rows PySem.W
variable {c d i j k m n p:Nat} {P:Pt} {K:cQ} {E Q:Value->Shared->Prop} {v x y:PV} {ps xs:List PV} {vs:List Value} {ds r σ σ' σ'' σ1:av} {ks l:List D} {a bM e it ke o:CE} {B X o':PO} {ρ ρ':bb} {α β:Type} {f f':cB} {hd kp q:Bool} {z:Option (R PV×av)} {t:Int} {b:CS} {u:D} {G N ns:List (List Nat)} {sc:List Int} {a0 a1 x5 x6 x7:Option PV}
noncomputable def iP (w f:List Nat):Bool:= !f.isEmpty&&decide (f.length<=60)&&f.all isDg&& !(f.head? ==some 48&&w !=[48])
noncomputable def dW:List Nat->List Nat
 |45::r=>r
 |w=>w
noncomputable def bn (w:List Nat):Option Int:=if iP w (dW w)=true then mF w else none
noncomputable def dX (m:Nat):List Nat:=(Nat.toDigits 10 m).map Char.toNat
theorem r8 (m:Nat):dX m≠[]/\(dX m).all isDg=true/\NumText.digitsVal (dX m)=m/\(m≠0->(dX m).head? ≠some 48)/\(m=0->dX m=[48]):=by
 have h3:NumText.digitsVal (dX m)=m:=KIN.val_back m;have h2:∀ c∈dX m,48<=c/\c<=57:=fun c hc=>by
  obtain ⟨ch,hch,e⟩:=NQ.mp hc;rw[<-e];exact digit_range (Nat.isDigit_of_mem_toDigits (by decide) (by decide) hch)
 have h1:dX m≠[]:=fun e=>by
  have:=congrArg List.length e;rw[dX,Nz,Oo] at this;exact absurd (List.length_eq_zero_iff.mp this) Nat.toDigits_ne_nil
 refine ⟨h1,List.all_eq_true.mpr fun c hc=>by rw[isDg,NP (h2 c hc).1,NP (h2 c hc).2];rfl,h3,fun hm hh=> ?_,fun hm=>by rw[hm];decide⟩;obtain ⟨c,r,e⟩:=List.exists_cons_of_ne_nil h1;have t:=NumText.toDigits_all (dX m) h2;rw[h3] at t;rw[e] at hh t;obtain rfl:c=48:=Om hh;have l:(Nat.toDigits 10 m).length=r.length+1:=by
  have:=congrArg List.length e
  rwa [dX,Nz,NI] at this
 rw[List.dropWhile_cons_of_pos (by decide)] at t;have dl:(r.dropWhile (· ==48)).length<=r.length:=(List.dropWhile_sublist _).length_le;cases q:r.dropWhile (· ==48) with
 |nil=>
  rw[q] at t;have t:Nat.toDigits 10 m=['0']:=t;rw[t] at l;have r0:r=[]:=List.length_eq_zero_iff.mp (by simpa using l.symm);rw[e,r0] at h3;exact hm h3.symm
 |cons x y=>
  rw[q] at t dl;have t:Nat.toDigits 10 m=(x::y).map Char.ofNat:=t;rw[t,Nz] at l;omega
theorem qE {w:List Nat} (h:m<10^31) (hw:m≠0∨w=[48]):iP w (dX m)=true/\Hu (dX m)=some m:=by
 obtain ⟨h1,h2,h3,h4,h5⟩:=r8 m;have l:(dX m).length<=60:=by
  have e:(Str.ofString (toString ((m:Nat):Int))).cps.toList=dX m:=KIN.signs_num m;have e2:(Str.ofString (toString ((m:Nat):Int))).length=(toString ((m:Nat):Int)).length:=PySem.ofString_length _;have e3:=int_text_length_le10 (a:=(m:Int)) (k:=31) (by decide) h;have e4:(Str.ofString (toString ((m:Nat):Int))).length=(dX m).length:=by rw[<-e];exact (Array.length_toList).symm
  omega
 constructor
 .unfold iP;rw[h2,NP l,show (dX m).isEmpty=false by simpa using h1];rcases hw with q|q
  .rw[beq_eq_false_iff_ne.mpr (h4 q)];rfl
  .rw[q,bne_self_eq_false,Bool.and_false];rfl
 .refine (if_pos ⟨h1,h2,by omega⟩).trans (congrArg some h3)
theorem vU (m:Nat):aH (m:Int)=dX m:=KIN.signs_num m
theorem vT (k:Nat):aH (Int.negSucc k)=45::dX (k+1):=by
 unfold aH;rw[Str.ofString_eq_toList];show ("-"++Nat.repr (k+1)).toList.map Char.toNat=_;rw[String.toList_append,List.map_append,Nat.toList_repr];rfl
theorem bU {n:Int} (h:n.natAbs<10^31):bn (aH n)=some n/\(aH n).all (fun c=>c==45||isDg c)=true:=by
 cases n with
 |ofNat m=>
  have e:aH (Int.ofNat m)=dX m:=vU m;obtain ⟨h1,h2,h3,h4,h5⟩:=r8 m;have h:m<10^31:=h;have hw:m≠0∨dX m=[48]:=(Decidable.em (m=0)).symm.imp id h5;obtain ⟨g1,g2⟩:=qE h hw;have n45:∀ r,dX m≠45::r:=fun r q=>by
   rw[q] at h2;exact absurd h2 (by simp [isDg])
  have f:dW (dX m)=dX m:=by
   unfold dW;split
   .rename_i r q;exact absurd q (n45 r)
   .rfl
  have i:mF (dX m)=some (m:Int):=by
   unfold mF;split
   .rename_i r q;exact absurd q (n45 r)
   .rw[g2];rfl
  rw[e,bn,f,if_pos g1,i];refine ⟨rfl,List.all_eq_true.mpr fun c hc=>by rw[List.all_eq_true.mp h2 c hc,Bool.or_true]⟩
 |negSucc k=>
  obtain ⟨h1,h2,h3,h4,h5⟩:=r8 (k+1);have h:k+1<10^31:=h;obtain ⟨g1,g2⟩:=qE (w:=45::dX (k+1)) h (.inl (Nat.succ_ne_zero k));have i:mF (45::dX (k+1))=some (Int.negSucc k):=by
   show Option.map _ (Hu (dX (k+1)))=_;rw[g2];rfl
  rw[vT,bn,show dW (45::dX (k+1))=dX (k+1) from rfl,if_pos g1,i];refine ⟨rfl,List.all_eq_true.mpr fun c hc=> ?_⟩;rcases NB.mp hc with rfl|hc
  .rfl
  .rw[List.all_eq_true.mp h2 c hc,Bool.or_true]
open PySem PySem.W PySem.Calls PyProof.Rows
theorem yW (l:Addr) (items:Array Value) (n:Nat) (b:Addr) (items2:Array Value) (n2:Nat) (dd:Option Addr) (sl:Array (Option Value)) (hc0:¬(!items.isEmpty&&Builtin.List.listTooLong (items.size+items2.size))=true) (hc1:items.size<=sizeLine) (hs2:items.size+items2.size<=sizeLine+1):
  Meets (Builtin.«list.extend» ⟨[.ref l,.ref b],[]⟩) (fun _ R s=>s.heap.get? l=some {cls:=.type "list",dict:=none,data:=.seq items n,slots:=#[]}/\s.heap.get? b=some {cls:=.type "list",dict:=dd,data:=.seq items2 n2,slots:=sl}/\R (.ok (.ret Value.none)) {s with heap:=s.heap.update l (Obj.mapSeq fun x=>x++items2),toks:=s.toks}):=
 .of_wp fun prog w A R s h=>by
  obtain ⟨hp,g,d,tk,os⟩:=s;obtain ⟨hl,hb,h⟩:=h;have f1:=AutoSeq1.idx_int;have f2:=AutoSeq1.sub_tuple_tuple;have f3:=AutoSeq1.sub_list_list;have f4:=AutoSeq1.sub_tuple_list;have f5:=AutoSeq1.sub_list_tuple;
  have hz':(items++items2).size<=sizeLine+1:=by rw[Array.size_append];exact hs2
  wp_walk using (wpAny_updateSeq hl rfl (hz:=hc1) (_hz':=hz')),wpAny_loadPart' hl,wpAny_loadPart' hb;exact ⟨_,rfl,h⟩
noncomputable def Ml:cB->Option cB
 | .list l=>aq (l.length<=cS) (.list [])
 |_=>none
noncomputable def Jf (x:PV):List PV->PM PV
 |[]=>ww x Ml
 |_=>fun _=>none
noncomputable def Mi (m:List D):cB->Option cB
 | .list l=>aq (l.length+m.length<=cS) (.list (l++m))
 |_=>none
noncomputable def I_ (x:PV):List PV->PM PV
 |[.d (.lst m)]=>ww x (Mi m)
 |_=>fun _=>none
section
variable {C:bC} {A:Around} {K:R PV->av->Prop}
theorem GV {v:Value} (I:aK C P) (r:RV C P v x) (rs:jR C P ps vs) (w:Wp K (Jf x ps P.σ)) (p:dA C A (RV C) P K Q E):wpAny C.M A (call (.builtin "list.clear") (v::vs)) Q E P.s:=by
 cases ps with
 |cons _ _=>exact w.elim
 |nil=>
 rw[show _=[] from rs.view];obtain ⟨n,j,f,f',e1,e2,e3,k⟩:=qY w;subst e1;cases f with
 |list l=>
  obtain ⟨hl,q⟩:=dS e3;obtain @⟨a,o,h1,h2,h3⟩:=my I r e2 (fun _ h=>by cases h);obtain ⟨ws,m,e4,rr⟩:=h3;subst q;subst e4;have e1:∃ n',(aU ws m).mapSeq (fun _=>#[])=aU [] n':=⟨_,rfl⟩;obtain ⟨n',e1⟩:=e1;have g:=Heap.get?_update_self (Obj.mapSeq fun _=>#[]) h2 (by rw[e1];rfl);rw[e1] at g;refine call_meets F.slot_list_clear ⟨_,h2,rfl⟩ F.entry_list_clear (F.args_list_clear_1 _) (AutoSeq1.list_clear_list_0 a ws.toArray m (by rw[NW,rr.length];exact NK hl (by decide))) ⟨h2,?_⟩;obtain ⟨P',q1,q2,q3,q4,q5⟩:=kq (t:=P.s.toks) (f':=.list []) I (fun _ h=>by cases h) (fun _ h=>by cases h) e2 h1 (fun b o hb e=>(Heap.SameBut.update ..).extBut b o hb e) g ⟨_,n',rfl,.nil⟩;have:=p.ok (.d .none) .none P' q1 q2 .none (by rw[q3];exact k);rw[q5] at this;exact this
 |_=>cases e3
theorem GO {v:Value} (I:aK C P) (r:RV C P v x) (rs:jR C P ps vs) (w:Wp K (I_ x ps P.σ)) (p:dA C A (RV C) P K Q E):wpAny C.M A (call (.builtin "list.extend") (v::vs)) Q E P.s:=by
 have s:∃ z,ps=[.d (.lst z)]:=by
  cases ps with
  |nil=>exact w.elim
  |cons y t=>
  cases y with
  |p _ _=>exact w.elim
  |b _ _=>exact w.elim
  |d y=>
  cases y with
  |lst z=>
   cases t with
   |nil=>exact ⟨z,rfl⟩
   |cons _ _=>exact w.elim
  |_=>exact w.elim
 obtain ⟨z,rfl⟩:=s;obtain @⟨u,_,r1,r2⟩:xI C P (.d (.lst z)) [] vs:=rs.view;rw[show _=[] from r2.view];obtain @⟨b,us,n2,g2,r3⟩:lc C P.own og z u:=RD.view r1;obtain ⟨n,j,f,f',e1,e2,e3,k⟩:=qY w;subst e1;cases f with
 |list l=>
  obtain ⟨hl,q⟩:=dS e3;obtain @⟨a,o,h1,h2,h3⟩:=my I r e2 (fun _ h=>by cases h);obtain ⟨ws,m,e4,rr⟩:=h3;subst q;subst e4;have e1:∃ n',(aU ws m).mapSeq (fun x=>x++us.toArray)=aU (ws++us) n':=⟨_,by simp [Obj.mapSeq];rfl⟩;obtain ⟨n',e1⟩:=e1;have g:=Heap.get?_update_self (Obj.mapSeq fun x=>x++us.toArray) h2 (by rw[e1];rfl);rw[e1] at g;have sz:ws.toArray.size+us.toArray.size<=cS:=by rw[NW,NW,rr.length,r3.length];exact hl
  refine call_meets F.slot_list_extend ⟨_,h2,rfl⟩ F.entry_list_extend (F.args_list_extend_2 _ _) (yW a ws.toArray m b us.toArray n2.n n2.d n2.sl ?_ (NK (NK (Os _ _) sz) (by decide)) (NK sz (by decide))) ⟨h2,I.fz _ _ g2,?_⟩
  .intro q;have:=an q;simp [Builtin.List.listTooLong,sizeLine] at this;simp [cS] at sz;omega
  obtain ⟨P',q1,q2,q3,q4,q5⟩:=kq (t:=P.s.toks) (f':=.list (l++z)) I (fun _ h=>by cases h) (fun _ h=>by cases h) e2 h1 (fun b o hb e=>(Heap.SameBut.update ..).extBut b o hb e) g ⟨_,n',rfl,rr.append r3⟩;have:=p.ok (.d .none) .none P' q1 q2 .none (by rw[q3];exact k);rw[q5] at this;exact this
 |_=>cases e3
end
noncomputable def u7:MF:=⟨"clear","list","list.clear",F.plainAttrs_list,F.slot_list_clear,F.type_list_clear,AW,rT,Jf,fun _ I r rs w p=>GV I r rs w p⟩
noncomputable def ru:MF:=⟨"extend","list","list.extend",F.plainAttrs_list,F.slot_list_extend,F.type_list_extend,AW,rT,I_,fun _ I r rs w p=>GO I r rs w p⟩
open PySem PySem.W PySem.Calls PyProof.Rows
noncomputable def Ea:List PV->PM PV
 |[.p n 0,.d x]=>fun σ=>(ci true σ n).map fun _=>(.ok (.b n x),σ)
 |_=>fun _=>none
noncomputable def Fg:PV->PV->PM PV
 | .b n x,.d i=>fun σ=>(ci true σ n).bind fun _=>(iD i).bind fun i=>if i=0 then some (.ok (.p n 0),σ) else if i=1 then some (.ok (.d x),σ) else none
 |_,_=>fun _=>none
noncomputable def Gu:PV->PM Bool
 | .p n 0=>fun σ=>(ci true σ n).map fun _=>(.ok false,σ)
 |_=>fun _=>none
section
variable {C:bC} {A:Around} {K:R PV->av->Prop}
theorem D' (w:Wp K (Ea ps σ)):∃ n x l,ps=[.p n 0,.d x]/\ci true σ n=some l/\K (.ok (.b n x)) σ:=by
 have s:∃ n x,ps=[.p n 0,.d x]:=by
  cases ps with
  |nil=>exact w.elim
  |cons a t=>
  cases t with
  |nil=>
   cases a with
   |p _ j=>cases j<;>exact w.elim
   |_=>exact w.elim
  |cons b t=>
  cases a with
  |d _=>exact w.elim
  |b _ _=>exact w.elim
  |p n j=>
  cases j with
  |succ _=>exact w.elim
  |zero=>
  cases b with
  |p _ _=>exact w.elim
  |b _ _=>exact w.elim
  |d x=>
  cases t with
  |nil=>exact ⟨n,x,rfl⟩
  |cons _ _=>exact w.elim
 obtain ⟨n,x,rfl⟩:=s;have w:Wp K ((ci true σ n).map fun _=>(.ok (.b n x),σ)):=w;cases e:ci true σ n with
 |none=>rw[e] at w;exact w.elim
 |some l=>rw[e] at w;exact ⟨n,x,l,rfl,e,w⟩
theorem yq (I:aK C P) (r:jR C P ps vs) (w:Wp K (Ea ps P.σ)) (p:dA C A (RV C) P K Q E):wpAny C.M A (newList vs) Q E P.s:=by
 obtain ⟨n,x,l,rfl,e1,k⟩:=D' w;obtain @⟨u,_,r1,r2⟩:xI C P (.p n 0) [.d x] vs:=r.view;obtain @⟨z,_,r3,r4⟩:xI C P (.d x) [] _:=r2.view;rw[show _=[] from r4.view];have nw:=I.push (o:=aU [u,z] 0) rfl;have fz:Fz P.own (fY P.own P.h.objs.size (.fz (aU [u,z] 0))):=eH nw.own;refine wpAny_newObj_type (p.ok (.b n x) (.ref P.h.objs.size) (P.note _ P.s.toks P.h.objs.size (aU [u,z] 0)) (.note nw.own) (I.note nw) ⟨r1.1,P.h.objs.size,u,z,0,rfl,b8 _ _ _,fun a e=> ?_,RD.ext fz r3⟩ k) (by show 2<=_;decide);rcases cG P.own P.h.objs.size (.fz (aU [u,z] 0)) a with ⟨_,q⟩|⟨_,q⟩
 .cases q.symm.trans e
 .exact r1.2 a (q.symm.trans e)
theorem Dq {K:R Bool->av->Prop} (w:Wp K (Gu x σ)):∃ n l,x= .p n 0/\ci true σ n=some l/\K (.ok false) σ:=by
 cases x with
 |d _=>exact w.elim
 |b _ _=>exact w.elim
 |p n j=>
 cases j with
 |succ _=>exact w.elim
 |zero=>
 have w:Wp K ((ci true σ n).map fun _=>(.ok false,σ)):=w;cases e:ci true σ n with
 |none=>rw[e] at w;exact w.elim
 |some l=>rw[e] at w;exact ⟨n,l,rfl,e,w⟩
theorem Dt (I:aK C P) {l:List cB} (e:ci true P.σ n=some l):∃ a,P.own a= .cell n 0:=by
 obtain @⟨a,_,_,_,h,_⟩:gP C P.own P.h n l:=I.obj n _ (jh e);exact ⟨a,h⟩
theorem Ff (I:aK C P) {value e:Expr} (he:dq e=true) {vx vy:Value} (rx:RV C P vx x) (ry:RV C P vy y) (w:Wp K (Fg x y P.σ)) (p:dA C A (RV C) P K Q E):wpAny C.M A (subscriptTail value e vx vy) Q E P.s:=by
 cases x with
 |d _=>exact w.elim
 |p _ _=>exact w.elim
 |b n x=>
 cases y with
 |p _ _=>exact w.elim
 |b _ _=>exact w.elim
 |d i=>
 have w:Wp K ((ci true P.σ n).bind fun _=>(iD i).bind fun i=>if i=0 then some (.ok (.p n 0),P.σ) else if i=1 then some (.ok (.d x),P.σ) else none):=w;cases e1:ci true P.σ n with
 |none=>rw[e1] at w;exact w.elim
 |some l=>
 rw[e1,NA] at w;cases e2:iD i with
 |none=>rw[e2] at w;exact w.elim
 |some i'=>
 rw[e2,NA] at w;obtain ⟨t,q⟩:=d5 e2 (iL I ry);obtain ⟨h1,a,u,z,k,rfl,f,g,r⟩:=rx;rw[q];have hl:P.h.IsList a #[u,z]:=⟨_,I.fz _ _ f,rfl,k,rfl⟩;by_cases c:i'=0
 .rw[if_pos c] at w;subst c;exact tail_any hl.typeIs slot_list_getitem.lookup (wpAny_getItem_list hl (by decide) (by decide) rfl (p.ok (.p n 0) u P (.refl P) I ⟨h1,g⟩ w)) (ck he _ _)
 .rw[if_neg c] at w;by_cases c:i'=1
  .rw[if_pos c] at w;subst c;exact tail_any hl.typeIs slot_list_getitem.lookup (wpAny_getItem_list hl (by decide) (by decide) rfl (p.ok (.d x) z P (.refl P) I r w)) (ck he _ _)
  .rw[if_neg c] at w;exact w.elim
end
section
variable {X:Cx} {e:Expr} {K:R PV->av->Prop} {KB:R Bool->av->Prop} {QB:Bool->Shared->Prop}
theorem De (l:CL) (h:i0 (fun es _=>l.is X.sx es) e=true) (I:aK X.C P) (G:EnvOK X P ρ) (w:Wp K (bP (l.ev X.ker ρ) Ea P.σ)) (p:bw X (RV X.C) P K Q E):wpAny X.M X.A (eval e X.env) Q E P.s:=
 iZ (fun e=>wpAny X.M X.A (eval e X.env) Q E P.s) h fun es pos h=>List_ (l.ok X es pos ρ P _ _ E h I G (aL w) (p.bind fun xs vs P1 g1 I1 r1 w p=>yq I1 r1 w p))
theorem Ck (a i:CE) (h:cb (fun v j _=>dq j&&a.is X.sx v&&i.is X.sx j) e=true) (I:aK X.C P) (G:EnvOK X P ρ) (w:Wp K (bP (a.ev X.ker ρ) (fun x=>bP (i.ev X.ker ρ) fun y=>Fg x y) P.σ)) (p:bw X (RV X.C) P K Q E):wpAny X.M X.A (eval e X.env) Q E P.s:=
 cP (fun e=>wpAny X.M X.A (eval e X.env) Q E P.s) h fun v j pos h=>Subscript_ (a.ok X v ρ P _ _ E (an (ai h)) I G (aL w) (p.bind fun x v P1 g1 I1 r1 w p=>
  i.ok X j ρ P1 _ _ E (an h) I1 (G.ext g1) (aL w) (p.bind fun y u P2 g2 I2 r2 w p=>Ff I2 (ai (ai h)) (r1.ext g2.toExt) r2 w p)))
theorem Cf (a:CE) (h:pn (fun l op r=>op== .Is&&behindInMarks op r==false&&a.is X.sx l&&ff.is X.sx r) e=true) (I:aK X.C P) (G:EnvOK X P ρ) (w:Wp KB (bP (a.ev X.ker ρ) Gu P.σ)) (p:bw X lU P KB QB E):
  wpAny X.M X.A (isTrue e X.env (eval e X.env)) QB E P.s:=
 kf (fun e=>wpAny X.M X.A (isTrue e X.env (eval e X.env)) QB E P.s) h fun l op r pos h=>wpAny_isTrue_Compare1 (a.ok X l ρ P _ _ E (an (ai h)) I G (aL w) (p.bind fun x v P1 g1 I1 r1 w p=>
  ff.ok X r ρ P1 (fun q σ=>q= .ok (.d .none)/\σ=P1.σ) _ E (an h) I1 (G.ext g1) ⟨rfl,rfl⟩ ⟨fun y u P2 g2 I2 r2 k=>by
   obtain ⟨k,ks⟩:=k;cases k;rw[show u= .none from RD.view r2];obtain ⟨n,l,rfl,e1,w⟩:=Dq w;obtain ⟨a,ha⟩:=Dt I1 e1;rw[r1.2 a ha];rw[bO (ai (ai (ai h)))];exact is_none_ne (by nofun) (wpAny_truthy_bool (p.ok false false P2 g2 I2 rfl (ks ▸ w))),fun c e P2 g2 I2 r2 k=>by cases k.1⟩)) (bO (an (ai (ai h))))
end
noncomputable def IC (l:CL):CE:=⟨fun K ρ=>bP (l.ev K ρ) Ea,fun s=>i0 fun es _=>l.is s es,fun _ _ _ _ _ _ _ h I G w p=>De l h I G w p⟩
noncomputable def HG (a i:CE):CE:=⟨fun K ρ=>bP (a.ev K ρ) fun x=>bP (i.ev K ρ) fun y=>Fg x y,fun s=>cb fun v j _=>dq j&&a.is s v&&i.is s j,fun _ _ _ _ _ _ _ h I G w p=>Ck a i h I G w p⟩
noncomputable def JW (a:CE):CT:=⟨fun K ρ=>bP (a.ev K ρ) Gu,fun s=>pn fun l op r=>op== .Is&&behindInMarks op r==false&&a.is s l&&ff.is s r,fun _ _ _ _ _ _ _ h I G w p=>Cf a h I G w p⟩
noncomputable section
noncomputable def II:List (List Nat):=[[110,97,109,101,115],[102,105,114,115,116],[99,117,114,114,101,110,99,105,101,115],[101,110,116,114,105,101,115],[116,111,108,100],[101,110,100,115],[98,97,99,107,115],[100,101,101,100,115],[109,111,115,116]]
def BG:CS:=(sC (cf (fN (aW (aF m_ (ag 1) (ah 1)) (aW (aF zg (ag 1) (bi bh (aj (cA (ag 0) 3) ao))) cw))) (sC (b9 12 [110,111,32,115,117,99,104,32,101,110,116,114,121]) sN) sN) (sC (aO (sub (cA (ag 0) 3) (aP d4 (ag 1) (ah 1)))) sN))
def Ed:CS:=(sC (aO (bi bh (aj (cA (ag 0) 3) ao))) sN)
def BH:CS:=(sC (aG 5 (aP a' (bi bh (aj (cA (ag 0) 3) ao)) (ah 1))) (sC (aZ (bm bZ (cA (ag 0) 3) (aj (bE (aj (ag 5) (aj (ag 1) (aj (ag 2) (aj (ag 3) (aj (ag 4) ao)))))) ao))) (sC (aO (ag 5)) sN)))
def t0:CS:=(sC (aG 1 nV) (sC (fy 2 (ag 0) (sC (lu (ag 1) (sub (ag 2) (ah 1)) (aP a' (bm yv (ag 1) (aj (sub (ag 2) (ah 1)) (aj (ah 0) ao))) (sub (ag 2) (ah 2)))) sN)) (FB 1 (sC (aO (bi rU (aj (jm false (gk 3 (ag 1) cR (qd c9 (sub (ag 1) (ag 3)) (ah 0)))) ao))) sN))))
def rO:CS:=(sC (aO (wh (su (qd fo (ag 0) (ah 0)) (wg (vY m_ m_ (neg (vp "BOUND" (some 1000000000000000000000000000000,[]))) (ag 0) (vp "BOUND" (some 1000000000000000000000000000000,[]))))))) sN)
def lF:CS:=(sC (cf (fN (aW (aF fo (bi bh (aj (ag 0) ao)) (ah 3)) (aW (dM (li (bi rU (aj (jm false (gk 1 (ag 0) cR (qd oW (ag 1) (vp "GREAT" (none,OG))))) ao)))) cw))) (sC (b9 2 [110,111,32,99,117,114,114,101,110,99,121]) sN) sN) sN)
def mK:CS:=(sC (cf (aF lK (ag 1) (cA (ag 0) 1)) (sC (b9 11 [110,111,32,115,117,99,104,32,97,99,99,111,117,110,116]) sN) sN) sN)
def sa:CS:=(sC (aZ (meth (ag 0) 15 (aj (sub (ag 1) (ah 0)) ao))) (sC (aZ (au 5 (aj (sub (ag 1) (ah 1)) ao))) (sC (cf (dM (li (au 12 (aj (sub (ag 1) (ah 2)) ao)))) (sC (b9 3 [110,111,32,97,109,111,117,110,116]) sN) sN) sN)))
def rM:CS:=(sC (cf (fN (aW (aF zg (bi bh (aj (ag 0) ao)) (ah 40)) (aW (dM (li (bi rU (aj (jm false (gk 1 (ag 0) cR (vY lL lL (aC [32]) (ag 1) (aC [126])))) ao)))) cw))) (sC (b9 5 [110,111,32,110,111,116,101]) sN) sN) sN)
def zi:CS:=(sC (cf (aF c9 (bi bh (aj (cA (ag 0) 5) ao)) (ah 0)) (sC (aO (neg (ah 1))) sN) sN) (sC (aO (sub (cA (ag 0) 5) (aP d4 (bi bh (aj (cA (ag 0) 5) ao)) (ah 1)))) sN))
def tZ:CS:=(sC (cf (fN (aW (aF m_ (ag 0) (ah 0)) (aW (aF zg (ag 0) (vp "LAST_DAY" (some 99999,[]))) cw))) (sC (b9 4 [110,111,32,100,97,121]) sN) sN) sN)
def r_:CS:=(sC (aZ (au 3 (aj (ag 1) ao))) (sC (cf (aF B4 (ag 1) (meth (ag 0) 2 ao)) (sC (b9 8 [97,32,99,108,111,115,101,100,32,100,97,121]) sN) sN) sN))
def nc:CS:=(sC (aZ (meth (ag 0) 4 (aj (ag 1) ao))) (sC (aZ (au 16 (aj (ag 2) ao))) (sC (cf (fN (aW (aF m_ (bi bh (aj (ag 3) ao)) (ah 2)) (aW (aF zg (bi bh (aj (ag 3) ao)) (ah 60)) cw))) (sC (b9 7 [116,111,111,32,102,101,119,32,111,114,32,116,111,111,32,109,97,110,121,32,108,105,110,101,115]) sN) sN) (sC (fy 4 (ag 3) (sC (aZ (meth (ag 0) 19 (aj (ag 4) ao))) sN)) (sC (cf (dM (li (au 18 (aj (ag 3) ao)))) (sC (b9 7 [108,105,110,101,115,32,116,104,97,116,32,100,111,32,110,111,116,32,99,111,109,101,32,116,111,32,110,111,117,103,104,116]) sN) sN) (sC (aG 5 (bi dN (aj (jm false (gk 6 (ag 3) cR (bE (aj (sub (ag 6) (ah 0)) (aj (sub (ag 6) (ah 1)) (aj (sub (ag 6) (ah 2)) ao)))))) ao))) (sC (aZ (bm bZ (cA (ag 0) 6) (aj (bE (aj (aC OD) (aj (ag 1) (aj (ag 2) (aj (ag 5) ao))))) ao))) (sC (aO (meth (ag 0) 7 (aj (ag 1) (aj (ag 2) (aj (ag 5) (aj (ah 0) ao)))))) sN))))))))
abbrev rz:C1:=(z0 (sC (aZ (meth (ag 0) 20 (aj (ag 1) (aj (ag 2) (aj (ag 3) ao))))) sN) (hC 4 (sC (aO (aC [66,97,100,68,97,121])) sN) (hC 5 (sC (aO (aC [66,97,100,78,111,116,101])) sN) (hC 11 (sC (aO (aC OJ)) sN) (hC 2 (sC (aO (aC OO)) sN) (hC 3 (sC (aO (aC OP)) sN) (hC 7 (sC (aO (aC ON)) sN) hN)))))))
def yw:CS:=(sC rz (sC (aO (aC [])) sN))
abbrev qt:CS:=(sC (cf (kr (cC (fN (aW (aF Hv (ag 1) ff) (aW (aF c9 (sub (ag 4) (ah 0)) (ag 1)) cw))) (cC (aF c9 (sub (ag 4) (ah 1)) (ag 2)) gw))) (sC (aG 3 (aP a' (ag 3) (sub (ag 4) (ah 2)))) sN) sN) sN)
def F':CS:=(sC (aG 3 (ah 0)) (sC (fy 4 (ag 0) qt) (sC (aO (ag 3)) sN)))
abbrev cx:CS:=(sC (cf (aF lK (sub (ag 2) (ah 0)) (ag 0)) (sC (aO (aC OJ)) sN) sN) (sC (cf (fN (aW (aF fo (bi bh (aj (sub (ag 2) (ah 1)) ao)) (ah 3)) (aW (aF fo (bm AB (sub (ag 2) (ah 1)) ao) (sub (ag 2) (ah 1))) cw))) (sC (aO (aC OO)) sN) sN) (sC (cf (fN (aW (aF c9 (sub (ag 2) (ah 2)) (ah 0)) (aW (aF Mq (bi I9 (aj (sub (ag 2) (ah 2)) ao)) (aP mD (ah 10) (ah 30))) cw))) (sC (aO (aC OP)) sN) sN) sN)))
abbrev dJ:CS:=(sC (cf (aF fo (au 111 (aj (ag 1) (aj ff (aj (sub (ag 2) (ah 1)) ao)))) (ah 0)) (sC (aO (aC ON)) sN) sN) sN)
abbrev pJ:C1:=(cf (fN (aW (aF m_ (bi bh (aj (ag 1) ao)) (ah 2)) (aW (aF zg (bi bh (aj (ag 1) ao)) (ah 60)) cw))) (sC (aO (aC ON)) sN) sN)
def j1:CS:=(sC pJ (sC (fy 2 (ag 1) cx) (sC (fy 2 (ag 1) dJ) (sC (aO (aC [])) sN))))
def oF:CS:=(sC (cf (fN (aW (aF m_ (bi bh (aj (ag 0) ao)) (ah 1)) (aW (aF zg (bi bh (aj (ag 0) ao)) (ah 12)) (aW (aF D_ (sub (ag 0) (ah 0)) (vp "SMALL" (none,OK))) cw)))) (sC (aO (c7 false)) sN) sN) (sC (aO (bi rU (aj (jm false (gk 1 (ag 0) cR (qd oW (ag 1) (aP a' (vp "SMALL" (none,OK)) (vp "FIGURES" (none,OL)))))) ao))) sN))
def BJ:CS:=(sC (cf (dM (li (au 36 (aj (ag 1) ao)))) (sC (b9 1 [110,111,32,110,97,109,101,32,111,102,32,97,110,32,97,99,99,111,117,110,116]) sN) sN) (sC (cf (aF Jk (ag 1) (cA (ag 0) 1)) (sC (b9 9 [97,110,32,97,99,99,111,117,110,116,32,116,104,97,116,32,105,115,32,116,104,101,114,101,32,97,108,114,101,97,100,121]) sN) sN) (sC (aZ (bm bZ (cA (ag 0) 1) (aj (ag 1) ao))) (sC (aZ (bm bZ (cA (ag 0) 6) (aj (bE (aj (aC OE) (aj (ag 1) ao))) ao))) sN))))
abbrev pM:C1:=(cf (kr (cC (aF c9 (ag 5) (aC OJ)) (cC (aF Jk (aC OF) (jm false (gk 9 (ag 4) cR (sub (ag 9) (ah 0))))) gw))) (sC (aZ (meth (ag 0) 37 (aj (aC OF) ao))) (sC (aG 6 (au 112 (aj (aP a' (ag 1) (cF (aj (aC OF) ao))) (aj (ag 4) ao)))) (sC (cf (fN (aW (aF fo (au 110 (aj (ag 0) (aj (sub (ag 3) (ah 0)) (aj (sub (ag 3) (ah 1)) (aj (ag 4) ao))))) (ag 6)) (aW (aF fo (meth (ag 0) 1 ao) (bi dL (aj (qd c9 (ag 6) (aC [])) ao))) cw))) (sC (aO (c7 false)) sN) sN) (sC (cf (kr (cC (aF c9 (ag 6) (aC [])) (cC (aF fo (meth (ag 0) 8 (aj (ah 1) ao)) (bE (aj (ah 1) (aj (sub (ag 3) (ah 0)) (aj (sub (ag 3) (ah 1)) (aj (bi dN (aj (ag 4) ao)) (aj (ah 0) ao))))))) gw))) (sC (aO (c7 false)) sN) sN) sN)))) sN)
abbrev gb:C1:=(aG 8 (cF (aj (bE (aj (sub (ag 1) (ah 0)) (aj (sub (ag 2) (ah 0)) (aj (ah 5) ao)))) (aj (bE (aj (sub (ag 1) (ah 1)) (aj (sub (ag 2) (ah 0)) (aj (neg (ah 5)) ao)))) ao))))
abbrev f_:C1:=(cf (fN (aW (aF fo (meth (ag 0) 20 (aj (ah 7) (aj (aC [103,111,111,100]) (aj (ag 8) ao)))) (ag 7)) (aW (aF fo (meth (ag 0) 1 ao) (ag 7)) cw))) (sC (aO (c7 false)) sN) sN)
abbrev jJ:C1:=(aO (qd c9 (meth (ag 0) 8 (aj (ag 7) ao)) (bE (aj (ag 7) (aj (ah 7) (aj (aC [103,111,111,100]) (aj (bi dN (aj (ag 8) ao)) (aj (ah 0) ao))))))))
def n8:CS:=(sC pM (sC (aG 7 (aP a' (meth (ag 0) 1 ao) (ah 1))) (sC gb (sC f_ (sC jJ sN)))))
def un:CS:=(sC (aG 4 (ah 0)) (sC (fy 5 (cA (ag 0) 3) (sC (cf (fN (aW (aF Hv (ag 3) ff) (aW (aF B4 (sub (ag 5) (ah 1)) (ag 3)) cw))) (sC (fy 6 (sub (ag 5) (ah 3)) (sC (cf (kr (cC (aF c9 (sub (ag 6) (ah 0)) (ag 1)) (cC (aF c9 (sub (ag 6) (ah 1)) (ag 2)) gw))) (sC (aG 4 (aP a' (ag 4) (sub (ag 6) (ah 2)))) sN) sN) sN)) sN) sN) sN)) (sC (aO (ag 4)) sN)))
abbrev lO:C1:=(aO (meth (ag 0) 26 (aj (ag 1) (aj (ag 2) (aj (ag 3) ao)))))
def qi:CS:=(sC (aZ (meth (ag 0) 15 (aj (ag 1) ao))) (sC (aZ (au 5 (aj (ag 2) ao))) (sC (aZ (au 3 (aj (ag 3) ao))) (sC lO sN))))
def AC:CS:=(sC (aO (wh (su (lf Fi (ag 0)) (wg (L7 (lf Ca (ag 0))))))) sN)
def v9:CS:=(sC (aZ (meth (ag 0) 15 (aj (ag 1) ao))) (sC (aZ (au 5 (aj (ag 2) ao))) (sC (aO (meth (ag 0) 26 (aj (ag 1) (aj (ag 2) (aj ff ao))))) sN)))
abbrev eZ:CS:=(sC (aG 7 (au 111 (aj (ag 3) (aj (ag 5) (aj (ag 6) ao))))) (sC (aG 8 (meth (ag 0) 27 (aj (ag 5) (aj (ag 6) ao)))) (sC (cf (fN (aW (dM (li (au 34 (aj (ag 8) ao)))) (aW (aF fo (ag 8) (ag 7)) (aW (aF fo (meth (ag 0) 61 (aj (ag 5) (aj (ag 6) (aj (ag 4) ao)))) (ag 7)) cw)))) (sC (aO (c7 false)) sN) sN) (sC (cf (kr (cC (aF zg (ag 4) (ah 0)) (cC (aF fo (meth (ag 0) 61 (aj (ag 5) (aj (ag 6) (aj (aP d4 (ag 4) (ah 1)) ao)))) (ah 0)) gw))) (sC (aO (c7 false)) sN) sN) sN))))
abbrev ik:CS:=(sC (fy 6 (ag 2) eZ) sN)
def rB:CS:=(sC (fy 5 (ag 1) ik) (sC (aO (c7 true)) sN))
def pV:CS:=(sC (aG 1 (sub (ag 0) (ah 1))) (sC (aG 2 (sub (ag 0) (ah 2))) (sC (aG 3 (bi bh (aj (sub (ag 0) (ah 3)) ao))) (sC (aG 4 (jZ (aj (yQ (uB [101,110,116,114,121,32] (uA (ag 1) (uB [32] (uA (ag 3) (uB [32] (uA (ag 2) IZ))))))) ao))) (sC (fy 5 (sub (ag 0) (ah 3)) (sC (aG 6 (sub (ag 5) (ah 0))) (sC (aG 7 (sub (ag 5) (ah 1))) (sC (aG 8 (sub (ag 5) (ah 2))) (sC (aZ (bm bZ (ag 4) (aj (yQ (uB [108,105,110,101,32] (uA (ag 6) (uB [32] (uA (ag 7) (uB [32] (uA (ag 8) IZ))))))) ao))) sN))))) (sC (aO (ag 4)) sN))))))
def rP:CS:=(sC (cf (aF c9 (sub (ag 0) (ah 0)) (aC OD)) (sC (aO (au 23 (aj (ag 0) ao))) sN) sN) (sC (cf (aF c9 (sub (ag 0) (ah 0)) (aC OH)) (sC (aG 1 (cF (aj (aC OH) (aj (bi yV (aj (sub (ag 0) (ah 1)) ao)) (aj (sub (ag 0) (ah 3)) (aj (sub (ag 0) (ah 4)) (aj (bi yV (aj (sub (ag 0) (ah 5)) ao)) (aj (sub (ag 0) (ah 6)) (aj (sub (ag 0) (ah 7)) (aj (sub (ag 0) (ah 2)) ao)))))))))) (sC (aO (cF (aj (bm lX (aC [32]) (aj (ag 1) ao)) ao))) sN)) sN) (sC (aO (cF (aj (bm lX (aC [32]) (aj (jm false (gk 2 (ag 0) cR (bi yV (aj (ag 2) ao)))) ao)) ao))) sN)))
def vA:CS:=(sC (aG 1 (cF (aj (aP a' (aC [104,111,109,101,32]) (cA (ag 0) 0)) ao))) (sC (fy 2 (cA (ag 0) 6) (sC (aG 1 (aP a' (ag 1) (au 24 (aj (ag 2) ao)))) sN)) (sC (aO (bm lX (aC []) (aj (jm false (gk 3 (ag 1) cR (aP a' (ag 3) (aC [10])))) ao))) sN)))
def Da:CS:=(sC (aG 1 (aP a' (aP a' (bi dL (aj (lf (ql 1 (by decide)) (ag 0)) ao)) (bi dL (aj (lf (ql 2 (by decide)) (ag 0)) ao))) (bi dL (aj (lf (ql 3 (by decide)) (ag 0)) ao)))) (sC (aG 1 (aP a' (aP a' (aP a' (ag 1) (bi dL (aj (lf (ql 4 (by decide)) (ag 0)) ao))) (bi dL (aj (lf (ql 5 (by decide)) (ag 0)) ao))) (bi dL (aj (lf (ql 6 (by decide)) (ag 0)) ao)))) (sC (aG 1 (aP a' (aP a' (aP a' (ag 1) (bi dL (aj (lf (ql 7 (by decide)) (ag 0)) ao))) (bi dL (aj (lf (ql 8 (by decide)) (ag 0)) ao))) (bi dL (aj (lf (ql 9 (by decide)) (ag 0)) ao)))) (sC (aG 1 (aP a' (aP a' (aP a' (ag 1) (bi dL (aj (lf (ql 10 (by decide)) (ag 0)) ao))) (bi dL (aj (lf (ql 11 (by decide)) (ag 0)) ao))) (bi dL (aj (lf (ql 12 (by decide)) (ag 0)) ao)))) (sC (aG 1 (aP a' (aP a' (aP a' (ag 1) (bi dL (aj (lf (ql 13 (by decide)) (ag 0)) ao))) (bi dL (aj (lf (ql 15 (by decide)) (ag 0)) ao))) (bi dL (aj (lf (ql 14 (by decide)) (ag 0)) ao)))) (sC (aO (wh (su (lf MA (ag 0)) (wg (qd c9 (aP a' (ag 1) (bi dL (aj (lf (ql 16 (by decide)) (ag 0)) ao))) (ah 1)))))) sN))))))
abbrev rA:C1:=(z0 (sC (aZ (meth (ag 0) 20 (aj (ag 1) (aj (ag 2) (aj (ag 3) ao))))) sN) (hA 0 4 (sC (aO (au 29 (aj (ag 4) ao))) sN) hN))
def yy:CS:=(sC rA (sC (aO (c7 false)) sN))
abbrev lY:CS:=(sC (cf (fN (aW (dM (li (lf nr (ag 4)))) (aW (aF fo (bi bh (aj (ag 4) ao)) (ah 3)) (aW (dM (li (au 34 (aj (sub (ag 4) (ah 2)) ao)))) cw)))) (sC (aO (c7 false)) sN) sN) sN)
abbrev tA:C1:=(cf (fN (aW (dM (li (lf nr (ag 0)))) (aW (aF fo (bi bh (aj (ag 0) ao)) (ah 5)) (aW (dM (li (lf nr (sub (ag 0) (ah 3))))) cw)))) (sC (aO (c7 false)) sN) sN)
abbrev tz:C1:=(cf (fN (aW (dM (li (au 34 (aj (sub (ag 0) (ah 0)) ao)))) (aW (dM (li (au 34 (aj (sub (ag 0) (ah 1)) ao)))) (aW (dM (li (lf Fh (sub (ag 0) (ah 2))))) cw)))) (sC (aO (c7 false)) sN) sN)
abbrev tu:C1:=(aO (wh (su (qd c9 (ag 0) (bE (aj (ah 1) (aj (ag 1) (aj (ag 2) (aj (bi dN (aj (ag 3) ao)) (aj (ah 0) ao))))))) (wg (au 34 (aj (sub (ag 0) (ah 4)) ao))))))
def AD:CS:=(sC tA (sC tz (sC (fy 4 (sub (ag 0) (ah 3)) lY) (sC tu sN))))
def r9:CS:=(sC (aZ (au 5 (aj (ag 1) ao))) (sC (aZ (meth (ag 0) 4 (aj (ag 2) ao))) (sC (cf (fN (aW (aF c9 (ag 1) (cA (ag 0) 0)) (aW (dM (EF B4 B4 (ah 1) (ag 3) (vp "GREATEST" (some 1000000000,[])))) (aW (dM (EF B4 B4 (ah 1) (ag 4) (vp "GREATEST" (some 1000000000,[])))) cw)))) (sC (b9 6 [110,111,32,114,97,116,101]) sN) sN) (sC (aG 5 (bi DP (aj (bm yv (cA (ag 0) 2) (aj (ag 1) (aj E0 ao))) ao))) (sC (lu (ag 5) (ag 2) (bE (aj (ag 3) (aj (ag 4) ao)))) (FB 5 (sC (lu (cA (ag 0) 2) (ag 1) (ag 5)) (sC (aZ (bm bZ (cA (ag 0) 6) (aj (bE (aj (aC OI) (aj (ag 1) (aj (ag 2) (aj (ag 3) (aj (ag 4) ao)))))) ao))) sN))))))))
def vK:CS:=(sC (aO (aP dI (aP pz (aP pz (ag 0) (sub (ag 1) (ah 0))) (sub (ag 2) (ah 1))) (aP pz (sub (ag 1) (ah 1)) (sub (ag 2) (ah 0))))) sN)
def Ec:CS:=(sC (aZ (au 5 (aj (ag 1) ao))) (sC (aZ (au 3 (aj (ag 2) ao))) (sC (cf (aF c9 (ag 1) (cA (ag 0) 0)) (sC (aO (bE (aj (ah 1) (aj (ah 1) ao)))) sN) sN) (sC (aG 3 (bm yv (cA (ag 0) 2) (aj (ag 1) (aj E0 ao)))) (sC (qo false 4 5 (ag 3) (HP (aF B4 (ag 5) (ag 2))) (ag 5)) (sC (cf (aF c9 (bi bh (aj (ag 4) ao)) (ah 0)) (sC (b9 13 [110,111,32,114,97,116,101,32,102,111,114,32,116,104,105,115,32,100,97,121]) sN) sN) (sC (aO (sub (ag 3) (bi I7 (aj (ag 4) ao)))) sN)))))))
abbrev qh:C1:=(cf (aF c9 (ag 4) (ag 7)) (sC (b9 2 [98,111,116,104,32,99,117,114,114,101,110,99,105,101,115,32,97,114,101,32,116,104,101,32,115,97,109,101]) sN) sN)
abbrev qg:C1:=(cf (fN (aW (aF m_ (ag 5) (ah 1)) (aW (dM (li (au 12 (aj (ag 5) ao)))) cw))) (sC (b9 3 [110,111,32,97,109,111,117,110,116,32,116,111,32,99,111,110,118,101,114,116]) sN) sN)
abbrev qf:C1:=(aG 8 (au 13 (aj (ag 5) (aj (meth (ag 0) 14 (aj (ag 4) (aj (ag 1) ao))) (aj (meth (ag 0) 14 (aj (ag 7) (aj (ag 1) ao))) ao)))))
abbrev pd:C1:=(cf (aF c9 (ag 8) (ah 0)) (sC (b9 14 [110,111,116,104,105,110,103,32,105,115,32,103,111,116]) sN) sN)
abbrev pb:C1:=(cf (dM (li (au 12 (aj (ag 8) ao)))) (sC (b9 3 [116,111,111,32,109,117,99,104,32,105,115,32,103,111,116]) sN) sN)
abbrev o_:C1:=(aG 9 (bE (aj (bE (aj (ag 3) (aj (ag 4) (aj (neg (ag 5)) ao)))) (aj (bE (aj (aC OM) (aj (ag 4) (aj (ag 5) ao)))) (aj (bE (aj (aC OM) (aj (ag 7) (aj (neg (ag 8)) ao)))) (aj (bE (aj (ag 6) (aj (ag 7) (aj (ag 8) ao)))) ao))))))
abbrev oZ:C1:=(aZ (bm bZ (cA (ag 0) 6) (aj (bE (aj (aC OH) (aj (ag 1) (aj (ag 2) (aj (ag 3) (aj (ag 4) (aj (ag 5) (aj (ag 6) (aj (ag 7) ao))))))))) ao)))
abbrev oY:C1:=(aO (meth (ag 0) 7 (aj (ag 1) (aj (ag 2) (aj (ag 9) (aj (ah 0) ao))))))
def v8:CS:=(sC (aZ (meth (ag 0) 4 (aj (ag 1) ao))) (sC (aZ (au 16 (aj (ag 2) ao))) (sC (aZ (meth (ag 0) 15 (aj (ag 3) ao))) (sC (aZ (meth (ag 0) 15 (aj (ag 6) ao))) (sC (aZ (au 5 (aj (ag 4) ao))) (sC (aZ (au 5 (aj (ag 7) ao))) (sC qh (sC qg (sC qf (sC pd (sC pb (sC o_ (sC oZ (sC oY sN))))))))))))))
def um:CS:=(sC (aG 3 (meth (ag 0) 8 (aj (ag 1) ao))) (sC (cf (fN (aW (aF fo (sub (ag 3) (ah 4)) (ah 0)) (aW (aF Mp (ag 1) (cA (ag 0) 4)) cw))) (sC (b9 10 [97,110,32,101,110,116,114,121,32,116,104,97,116,32,99,97,110,39,116,32,98,101,32,116,97,107,101,110,32,98,97,99,107]) sN) sN) (sC (aZ (meth (ag 0) 4 (aj (ag 2) ao))) (sC (aG 4 (bi dN (aj (jm false (gk 5 (sub (ag 3) (ah 3)) cR (bE (aj (sub (ag 5) (ah 0)) (aj (sub (ag 5) (ah 1)) (aj (neg (sub (ag 5) (ah 2))) ao)))))) ao))) (sC (lu (cA (ag 0) 4) (ag 1) (c7 true)) (sC (aZ (bm bZ (cA (ag 0) 6) (aj (bE (aj (aC [98,97,99,107]) (aj (ag 1) (aj (ag 2) ao)))) ao))) (sC (aO (meth (ag 0) 7 (aj (ag 2) (aj (sub (ag 3) (ah 2)) (aj (ag 4) (aj (ag 1) ao)))))) sN)))))))
def BI:CS:=(sC (aZ (meth (ag 0) 4 (aj (ag 1) ao))) (sC (aZ (bm bZ (cA (ag 0) 5) (aj (ag 1) ao))) (sC (aZ (bm bZ (cA (ag 0) 6) (aj (bE (aj (aC [99,108,111,115,101]) (aj (ag 1) ao))) ao))) (sC (aO (bi bh (aj (cA (ag 0) 5) ao))) sN))))
abbrev vJ:C1:=(cf (aF c9 (sub (ag 1) (ah 0)) (aC OE)) (sC (aZ (meth (ag 0) 37 (aj (sub (ag 1) (ah 1)) ao))) sN) (sC (cf (aF c9 (sub (ag 1) (ah 0)) (aC OI)) (sC (aZ (meth (ag 0) 6 (aj (sub (ag 1) (ah 1)) (aj (sub (ag 1) (ah 2)) (aj (sub (ag 1) (ah 3)) (aj (sub (ag 1) (ah 4)) ao)))))) sN) (sC (cf (aF c9 (sub (ag 1) (ah 0)) (aC OD)) (sC (aZ (meth (ag 0) 20 (aj (sub (ag 1) (ah 1)) (aj (sub (ag 1) (ah 2)) (aj (sub (ag 1) (ah 3)) ao))))) sN) (sC (cf (aF c9 (sub (ag 1) (ah 0)) (aC OH)) (sC (aZ (meth (ag 0) 17 (aj (sub (ag 1) (ah 1)) (aj (sub (ag 1) (ah 2)) (aj (sub (sub (ag 1) (ah 3)) (ah 0)) (aj (sub (sub (ag 1) (ah 3)) (ah 1)) (aj (sub (sub (ag 1) (ah 3)) (ah 2)) (aj (sub (ag 1) (ah 4)) (aj (sub (ag 1) (ah 5)) ao))))))))) sN) (sC (cf (aF c9 (sub (ag 1) (ah 0)) (aC [98,97,99,107])) (sC (aZ (meth (ag 0) 9 (aj (sub (ag 1) (ah 1)) (aj (sub (ag 1) (ah 2)) ao)))) sN) (sC (aZ (meth (ag 0) 11 (aj (sub (ag 1) (ah 1)) ao))) sN)) sN)) sN)) sN)) sN))
def DI:CS:=(sC vJ sN)
def Ee:CS:=(sC (aZ (au 5 (aj (ag 1) ao))) (sC (jA (ag 0) 0 (ag 1)) (sC (jA (ag 0) 1 (jZ (aj (aC OM) ao))) (sC (jA (ag 0) 2 nV) (sC (jA (ag 0) 3 (jZ ao)) (sC (jA (ag 0) 4 nV) (sC (jA (ag 0) 5 (jZ ao)) (sC (jA (ag 0) 6 (jZ ao)) sN))))))))
abbrev io:C1:=(cf (aF c9 (rc (ag 0) nQ (gQ (ah 1))) (aC [45])) (sC (aG 1 (rc (ag 0) (gQ (ah 1)) nQ)) sN) sN)
abbrev e9:C1:=(cf (fN (aW (aF c9 (ag 1) (aC [])) (aW (aF zg (bi bh (aj (ag 1) ao)) (ah 60)) (aW (dM (li (bi rU (aj (jm false (gk 2 (ag 1) cR (qd oW (ag 2) (vp "FIGURES" (none,OL))))) ao)))) cw)))) (sC (b9 16 [110,111,32,110,117,109,98,101,114]) sN) sN)
abbrev im:C1:=(cf (kr (cC (aF c9 (sub (ag 1) (ah 0)) (aC [48])) (cC (aF fo (ag 0) (aC [48])) gw))) (sC (b9 16 [97,32,110,117,109,98,101,114,32,119,105,116,104,32,97,32,110,111,117,103,104,116,32,97,104,101,97,100]) sN) sN)
def rL:CS:=(sC (aG 1 (ag 0)) (sC io (sC e9 (sC im (sC (aO (bi EZ (aj (ag 0) ao))) sN)))))
abbrev oA:C1:=(cf (fN (aW (aF fo (sub (ag 3) (ah 0)) (ag 1)) (aW (aF fo (bi bh (aj (ag 3) ao)) (ag 2)) cw))) (sC (b9 16 [110,111,32,114,111,119]) sN) sN)
def tY:CS:=(sC (aG 3 (bm g8 (ag 0) (aj (aC [32]) ao))) (sC oA (sC (aO (ag 3)) sN)))
abbrev pT:C1:=(cf (fN (aW (aF c9 (ag 0) (aC [])) (aW (dM (li (bi rU (aj (jm false (gk 1 (ag 0) cR (vY lL lL (aC [33]) (ag 1) (aC [126])))) ao)))) cw))) (sC (b9 16 [110,111,32,110,97,109,101]) sN) sN)
def vD:CS:=(sC pT (sC (aO (ag 0)) sN))
abbrev mH:C1:=(cf (aF m_ (bi bh (aj (ag 1) ao)) (ah 8)) (sC (b9 16 [110,111,32,99,111,110,118,101,114,115,105,111,110]) sN) sN)
abbrev mG:C1:=(aG 2 (bm lX (aC [32]) (aj (mQ (ag 1) (gQ (ah 7)) nQ) ao)))
abbrev ip:C1:=(aG 3 (bE (aj (au 93 (aj (sub (ag 1) (ah 2)) ao)) (aj (au 93 (aj (sub (ag 1) (ah 3)) ao)) (aj (au 91 (aj (sub (ag 1) (ah 4)) ao)) ao)))))
abbrev e_:C1:=(aO (bE (aj (aC OH) (aj (au 91 (aj (sub (ag 1) (ah 1)) ao)) (aj (ag 2) (aj (ag 3) (aj (au 93 (aj (sub (ag 1) (ah 5)) ao)) (aj (au 93 (aj (sub (ag 1) (ah 6)) ao)) ao))))))))
def h_:CS:=(sC (aG 1 (bm g8 (ag 0) (aj (aC [32]) ao))) (sC mH (sC mG (sC ip (sC e_ sN)))))
abbrev jK:C1:=(aG 1 (au 92 (aj (ag 0) (aj (aC [108,105,110,101]) (aj (ah 4) ao)))))
abbrev pU:C1:=(aO (bE (aj (au 93 (aj (sub (ag 1) (ah 1)) ao)) (aj (au 93 (aj (sub (ag 1) (ah 2)) ao)) (aj (au 91 (aj (sub (ag 1) (ah 3)) ao)) ao)))))
def vE:CS:=(sC jK (sC pU sN))
abbrev iS:C1:=(aG 2 (bm g8 (sub (ag 0) (ag 1)) (aj (aC [32]) ao)))
abbrev oG:C1:=(cf (aF m_ (bi bh (aj (ag 2) ao)) (ah 4)) (sC (b9 16 [110,111,32,101,110,116,114,121]) sN) sN)
abbrev d6:C1:=(cf (fN (aW (aF m_ (ag 4) (ah 0)) (aW (aF zg (ag 4) (aP d4 (aP d4 (bi bh (aj (ag 0) ao)) (ag 1)) (ah 1))) cw))) (sC (b9 16 [116,111,111,32,102,101,119,32,108,105,110,101,115]) sN) sN)
abbrev fF:C1:=(aO (bE (aj (aC OD) (aj (ag 3) (aj (bm lX (aC [32]) (aj (mQ (ag 2) (gQ (ah 3)) nQ) ao)) (aj (ag 5) ao))))))
def iT:CS:=(sC iS (sC oG (sC (aG 3 (au 91 (aj (sub (ag 2) (ah 1)) ao))) (sC (aG 4 (au 91 (aj (sub (ag 2) (ah 2)) ao))) (sC d6 (sC (nG 5 6 (mQ (ag 0) (gQ (aP a' (ag 1) (ah 1))) (gQ (aP a' (aP a' (ag 1) (ah 1)) (ag 4)))) (au 95 (aj (ag 6) ao))) (sC fF sN)))))))
abbrev jN:C1:=(aG 2 (sub (bm g8 (sub (ag 0) (ag 1)) (aj (aC [32]) ao)) (ah 0)))
abbrev p_:C1:=(cf (aF c9 (ag 2) (aC OD)) (sC (aO (au 96 (aj (ag 0) (aj (ag 1) ao)))) sN) sN)
abbrev pZ:C1:=(cf (aF c9 (ag 2) (aC OH)) (sC (aO (au 94 (aj (sub (ag 0) (ag 1)) ao))) sN) sN)
abbrev pY:C1:=(cf (aF c9 (ag 2) (aC OE)) (sC (aO (bE (aj (aC OE) (aj (au 93 (aj (sub (au 92 (aj (sub (ag 0) (ag 1)) (aj (aC OE) (aj (ah 2) ao)))) (ah 1)) ao)) ao)))) sN) sN)
abbrev jM:C1:=(cf (aF c9 (ag 2) (aC OI)) (sC (aG 3 (au 92 (aj (sub (ag 0) (ag 1)) (aj (aC OI) (aj (ah 5) ao))))) (sC (aO (bE (aj (aC OI) (aj (au 93 (aj (sub (ag 3) (ah 1)) ao)) (aj (au 91 (aj (sub (ag 3) (ah 2)) ao)) (aj (au 91 (aj (sub (ag 3) (ah 3)) ao)) (aj (au 91 (aj (sub (ag 3) (ah 4)) ao)) ao))))))) sN)) sN)
abbrev jL:C1:=(cf (aF c9 (ag 2) (aC [98,97,99,107])) (sC (aG 3 (au 92 (aj (sub (ag 0) (ag 1)) (aj (aC [98,97,99,107]) (aj (ah 3) ao))))) (sC (aO (bE (aj (aC [98,97,99,107]) (aj (au 91 (aj (sub (ag 3) (ah 1)) ao)) (aj (au 91 (aj (sub (ag 3) (ah 2)) ao)) ao))))) sN)) sN)
abbrev pX:C1:=(aG 3 (au 92 (aj (sub (ag 0) (ag 1)) (aj (aC [99,108,111,115,101]) (aj (ah 2) ao)))))
abbrev pW:C1:=(aO (bE (aj (aC [99,108,111,115,101]) (aj (au 91 (aj (sub (ag 3) (ah 1)) ao)) ao))))
def hZ:CS:=(sC jN (sC p_ (sC pZ (sC pY (sC jM (sC jL (sC pX (sC pW sN))))))))
abbrev dt:CS:=(sC (aG 3 (au 97 (aj (ag 0) (aj (ag 2) ao)))) (sC (aZ (bm bZ (ag 1) (aj (ag 3) ao))) (sC (aG 2 (aP a' (ag 2) (ah 1))) (sC (cf (aF c9 (sub (ag 3) (ah 0)) (aC OD)) (sC (aG 2 (aP a' (ag 2) (bi bh (aj (sub (ag 3) (ah 3)) ao)))) sN) sN) sN))))
def mi:CS:=(sC (aG 1 (jZ ao)) (sC (aG 2 (ah 0)) (sC (zZ 100000 (aF m_ (ag 2) (bi bh (aj (ag 0) ao))) dt) (sC (aO (ag 1)) sN))))
abbrev hW:CS:=(sC (aZ (au 90 (aj (ag 4) (aj (ag 5) ao)))) sN)
abbrev oB:C1:=(cf (fN (aW (aF fo (sub (ag 1) (aP d4 (bi bh (aj (ag 1) ao)) (ah 1))) (aC [])) (aW (aF m_ (bi bh (aj (ag 1) ao)) (ah 2)) cw))) (sC (b9 16 [110,111,32,108,97,115,116,32,108,105,110,101,32,101,110,100]) sN) sN)
abbrev vC:C1:=(aG 2 (au 93 (aj (sub (au 92 (aj (sub (ag 1) (ah 0)) (aj (aC [104,111,109,101]) (aj (ah 2) ao)))) (ah 1)) ao)))
abbrev vB:C1:=(aG 3 (au 98 (aj (mQ (ag 1) (gQ (ah 1)) (gQ (aP d4 (bi bh (aj (ag 1) ao)) (ah 1)))) ao)))
def xj:CS:=(sC (aG 1 (bm g8 (ag 0) (aj (aC [10]) ao))) (sC oB (sC vC (sC vB (sC (aG 4 (C2 (aj (ag 2) ao))) (sC (fy 5 (ag 3) hW) (sC (aO (ag 4)) sN)))))))
abbrev kH:C1:=(aG 7 (meth (ag 0) 20 (aj (ag 3) (aj (ag 4) (aj (ag 6) ao)))))
abbrev kG:C1:=(cf (fN (aW (dM (li (au 34 (aj (ag 7) ao)))) (aW (aF fo (ag 7) (ah 1)) (aW (aF fo (ag 6) (ag 5)) cw)))) (sC (aO (c7 false)) sN) sN)
abbrev kF:C1:=(cf (aF fo (meth (au 99 (aj (au 25 (aj (ag 0) ao)) ao)) 8 (aj (ah 1) ao)) (bE (aj (ah 1) (aj (ag 3) (aj (ag 4) (aj (bi dN (aj (ag 5) ao)) (aj (ah 0) ao))))))) (sC (aO (c7 false)) sN) sN)
abbrev kE:C1:=(cf (fN (aW (dM (li (au 116 (aj (meth (ag 0) 8 (aj (ah 1) ao)) (aj (ag 3) (aj (ag 4) (aj (ag 5) ao))))))) (aW (dM (li (au 114 (aj (ag 0) (aj (ag 1) (aj (ag 2) (aj (ag 5) (aj (ag 3) ao)))))))) cw))) (sC (aO (c7 false)) sN) sN)
abbrev kD:C1:=(qo false 8 13 (ag 5) cR (bE (aj (sub (ag 13) (ah 0)) (aj (sub (ag 13) (ah 1)) (aj (aP d4 (ah 0) (sub (ag 13) (ah 2))) ao)))))
abbrev kC:C1:=(aG 9 (meth (ag 0) 20 (aj (aP d4 (ah 99999) (ag 3)) (aj (aC []) (aj (ag 6) ao)))))
abbrev jG:C1:=(cf (fN (aW (dM (li (au 34 (aj (ag 9) ao)))) (aW (aF fo (ag 9) (ah 2)) (aW (aF fo (meth (ag 0) 1 ao) (ah 2)) (aW (aF fo (meth (ag 0) 20 (aj (ah 5) (aj (ag 4) (aj (bi dN (aj (ag 5) ao)) ao)))) (ah 3)) cw))))) (sC (aO (c7 false)) sN) sN)
abbrev jF:C1:=(cf (fN (aW (aF fo (meth (ag 0) 8 (aj (ah 1) ao)) (bE (aj (ah 1) (aj (ag 3) (aj (ag 4) (aj (bi dN (aj (ag 5) ao)) (aj (ah 0) ao))))))) (aW (aF fo (meth (ag 0) 8 (aj (ah 3) ao)) (bE (aj (ah 3) (aj (ah 5) (aj (ag 4) (aj (bi dN (aj (ag 5) ao)) (aj (ah 0) ao))))))) cw))) (sC (aO (c7 false)) sN) sN)
abbrev jE:C1:=(cf (aF fo (meth (ag 0) 8 (aj (ah 2) ao)) (bE (aj (ah 2) (aj (aP d4 (ah 99999) (ag 3)) (aj (aC []) (aj (bi dN (aj (ag 8) ao)) (aj (ah 0) ao))))))) (sC (aO (c7 false)) sN) sN)
abbrev jD:C1:=(qo false 10 12 (ag 1) cR (au 111 (aj (ag 5) (aj (ag 12) (aj (sub (ag 2) (ah 0)) ao)))))
abbrev pD:C1:=(aO (qd c9 (ag 10) (jm false (gk 11 (ag 1) cR (meth (ag 0) 27 (aj (ag 11) (aj (sub (ag 2) (ah 0)) ao)))))))
def qu:CS:=(sC (aG 6 (bi oJ (aj (ag 5) ao))) (sC kH (sC kG (sC (aZ (bm u7 (ag 6) ao)) (sC kF (sC kE (sC kD (sC (aZ (bm ru (ag 6) (aj (ag 8) ao))) (sC kC (sC jG (sC jF (sC jE (sC jD (sC pD sN))))))))))))))
def Db:CS:=(sC (cf (aF m_ (ag 1) (bi bh (aj (ag 0) ao))) (sC (aO (sub (ag 0) (ag 1))) sN) sN) (sC (aO (ah 0)) sN))
abbrev nW:CS:=(sC (aG 2 (aP a' (ag 2) (sub (ag 1) (aP bY (aP a' (aP dI (ag 0) (ah 41)) (aP pz (aP dI (ag 0) (ah 3854)) (ag 3))) (ah 94))))) sN)
abbrev vc:C1:=(aG 1 (aC OQ))
abbrev vb:C1:=(aG 1 (aP a' (ag 1) (aC OR)))
abbrev u':C1:=(aG 1 (aP a' (ag 1) (aC OS)))
abbrev u_:C1:=(fy 3 (bi oI (aj (aP bY (ag 0) (ah 41)) ao)) nW)
def C_:CS:=(sC vc (sC vb (sC u' (sC (aG 2 (aC [])) (sC u_ (sC (aO (ag 2)) sN))))))
abbrev pC:C1:=(aG 2 (cF (aj (bE (aj (aC OF) (aj (sub (ag 0) (ah 1)) (aj (sub (ag 0) (ah 2)) ao)))) (aj (bE (aj (sub (ag 0) (ah 0)) (aj (aC [69,85,114]) (aj (sub (ag 0) (ah 2)) ao)))) (aj (bE (aj (sub (ag 0) (ah 0)) (aj (aC [69,85]) (aj (sub (ag 0) (ah 2)) ao)))) ao)))))
abbrev pB:C1:=(aG 2 (aP a' (ag 2) (cF (aj (bE (aj (sub (ag 0) (ah 0)) (aj (sub (ag 0) (ah 1)) (aj (ah 0) ao)))) (aj (bE (aj (sub (ag 0) (ah 0)) (aj (sub (ag 0) (ah 1)) (aj (aP mD (ah 10) (ah 30)) ao)))) (aj (bE (aj (sub (ag 0) (ah 0)) (aj (sub (ag 0) (ah 1)) (aj (aP d4 (ah 0) (aP mD (ah 10) (ah 30))) ao)))) ao))))))
abbrev pA:C1:=(aG 2 (aP a' (ag 2) (cF (aj (bE (aj (aC [69,120,99,104,97,110,103,101]) (aj (aC [101,117,114]) (aj (ah 0) ao)))) (aj (bE (aj (sub (ag 0) (ah 0)) (aj (aC [69,85,82,79]) (aj (ah 0) ao)))) (aj (bE (aj (aC []) (aj (sub (ag 0) (ah 1)) (aj (sub (ag 0) (ah 2)) ao)))) ao))))))
def u8:CS:=(sC pC (sC pB (sC pA (sC (aO (sub (ag 2) (aP bY (ag 1) (ah 9)))) sN))))
abbrev kJ:CS:=(sC (aG 6 (aP d4 (ah 0) (au 111 (aj (ag 2) (aj ff (aj (ag 5) ao)))))) (sC (cf (aF fo (ag 6) (ah 0)) (sC (aZ (bm bZ (ag 4) (aj (bE (aj (sub (ag 0) (aP bY (ag 3) (bi bh (aj (ag 0) ao)))) (aj (ag 5) (aj (ag 6) ao)))) ao))) sN) sN) sN))
def yx:CS:=(sC (aG 4 (bi oJ (aj (ag 2) ao))) (sC (fy 5 (ag 1) kJ) (sC (aO (ag 4)) sN)))
abbrev pK:CS:=(sC (aG 6 (aP d4 (ah 0) (au 111 (aj (ag 2) (aj ff (aj (ag 5) ao)))))) (sC (cf (aF fo (ag 6) (ah 0)) (sC (aZ (bm bZ (ag 4) (aj (bE (aj (sub (ag 0) (aP bY (ag 3) (bi bh (aj (ag 0) ao)))) (aj (ag 5) (aj (ag 6) ao)))) ao))) sN) sN) sN))
def ve:CS:=(sC (aG 4 (bi oJ (aj (ag 2) ao))) (sC (fy 5 (ag 1) pK) (sC (aO (ag 4)) sN)))
abbrev n7:C1:=(aG 3 (aP a' (ah 1) (aP bY (aP pz (ag 2) (ah 48271)) (aP mD (ah 10) (ah 28)))))
abbrev nZ:C1:=(cf (aF c9 (aP bY (aP dI (ag 2) (ah 3)) (ah 2)) (ah 1)) (sC (aG 3 (aP a' (ah 1) (aP bY (aP pz (ag 2) (ah 31)) (ah 50)))) sN) sN)
abbrev vd:C1:=(cf (aF c9 (aP bY (aP dI (ag 2) (ah 2)) (ah 2)) (ah 1)) (sC (aG 3 (aP d4 (ah 0) (ag 3))) sN) sN)
abbrev nY:C1:=(aO (bE (aj (sub (ag 0) (aP bY (ag 2) (bi bh (aj (ag 0) ao)))) (aj (sub (ag 1) (aP bY (aP dI (ag 2) (ah 7)) (ah 3))) (aj (ag 3) ao)))))
def wT:CS:=(sC n7 (sC nZ (sC vd (sC nY sN))))
abbrev hH:C1:=(qo true 4 8 (mQ (ag 0) (gQ (ah 7)) (gQ (ah 63))) cR (au 121 (aj (ag 1) (aj (ag 2) (aj (ag 8) ao)))))
abbrev g_:C1:=(cf (aF m_ (aP bY (ag 3) (ah 8)) (ah 5)) (sC (aG 4 (au 120 (aj (ag 1) (aj (ag 2) (aj (ag 4) (aj (aP dI (ag 3) (ah 8)) ao)))))) sN) sN)
abbrev kI:C1:=(cf (kr (cC (aF c9 (aP bY (ag 3) (ah 8)) (ah 4)) (cC (aF fo (ag 4) (cF ao)) gw))) (sC (lu (ag 4) (neg (ah 1)) (bE (aj (sub (sub (ag 4) (neg (ah 1))) (ah 0)) (aj (sub (sub (ag 4) (neg (ah 1))) (ah 1)) (aj (aP a' (sub (sub (ag 4) (neg (ah 1))) (ah 2)) (ah 1)) ao))))) sN) sN)
abbrev g9:C1:=(cf (fN (aW (aF c9 (aP bY (ag 3) (ah 8)) (ah 5)) (aW (aF c9 (aP bY (ag 3) (ah 8)) (ah 6)) cw))) (sC (aG 4 (jm true (yu (au 119 (aj (ag 1) (aj (ag 2) (aj (ag 4) (aj (aP dI (ag 3) (ah 8)) ao))))) (cF (aj (bE (aj (sub (ag 1) (ah 0)) (aj (sub (ag 2) (ah 0)) (aj (ah 1) ao)))) ao))))) (sC (aG 4 (jm true (yu (ag 4) (cF (aj (bE (aj (sub (ag 1) (ah 0)) (aj (sub (ag 2) (ah 0)) (aj (neg (ah 1)) ao)))) ao))))) (sC (aG 5 (aP bY (aP dI (ag 3) (ah 8)) (bi bh (aj (ag 4) ao)))) (sC (lu (ag 4) (ag 5) (au 118 (aj (sub (ag 4) (ag 5)) (aj (au 33 (aj (ag 0) (aj (ah 5) ao))) ao)))) (sC (cf (aF c9 (aP bY (au 33 (aj (ag 0) (aj (ah 1) ao))) (ah 2)) (ah 1)) (sC (aG 5 (aP bY (au 33 (aj (ag 0) (aj (ah 4) ao))) (bi bh (aj (ag 4) ao)))) (sC (lu (ag 4) (ag 5) (au 118 (aj (sub (ag 4) (ag 5)) (aj (au 33 (aj (ag 0) (aj (ah 3) ao))) ao)))) sN)) sN) sN))))) sN)
abbrev fi:C1:=(cf (aF c9 (aP bY (ag 3) (ah 8)) (ah 7)) (sC (aG 6 (cF (aj (bE (aj (sub (ag 1) (ah 0)) (aj (sub (ag 2) (ah 0)) (aj (aP d4 (aP mD (ah 10) (ah 30)) (ah 1)) ao)))) (aj (bE (aj (sub (ag 1) (neg (ah 1))) (aj (sub (ag 2) (ah 0)) (aj (aP d4 (ah 1) (aP mD (ah 10) (ah 30))) ao)))) ao)))) (sC (aG 7 (aP a' (jm false (u5 (ag 6) (ah 30))) (cF (aj (bE (aj (sub (ag 1) (ah 0)) (aj (sub (ag 2) (ah 1)) (aj (ah 0) ao)))) ao)))) (sC (aG 4 (sub (cF (aj (cF ao) (aj (mQ (ag 6) nQ (gQ (ah 1))) (aj (aP a' (mQ (ag 4) nQ (gQ (ah 28))) (mQ (ag 4) nQ (gQ (ah 28)))) (aj (ag 7) (aj (jm false (u5 (ag 6) (ah 30))) ao)))))) (aP bY (aP dI (ag 3) (ah 8)) (ah 5)))) sN))) sN)
def qv:CS:=(sC (aG 3 (au 33 (aj (ag 0) (aj (ah 6) ao)))) (sC hH (sC g_ (sC kI (sC g9 (sC fi (sC (aO (ag 4)) sN)))))))
def uo:CS:=(sC (aO (bi xk (aj (cA (ag 0) 1) ao))) sN)
abbrev iN:C1:=(aG 3 (cF (aj (aC []) (aj (aC [65]) (aj (aC [57,97]) (aj (aC [97,45,98]) (aj (aC [97,98,99,100,101,102,103,104,105,106,107,108,109]) (aj (aC [97,32,98]) (aj (aC [97,66]) (aj (aC [97,10]) (aj (aC [97,95]) (aj (aC [97,32]) (aj (aC [95]) (aj (sub (ag 1) (aP bY (ag 2) (bi bh (aj (ag 1) ao)))) ao))))))))))))))
abbrev n9:C1:=(z0 (sC (aZ (meth (ag 0) 37 (aj (sub (ag 3) (aP bY (ag 2) (ah 12))) ao))) sN) (hA 1 4 (sC (aO (wh (su (qd m_ (aP bY (ag 2) (ah 12)) (ah 11)) (su (lf (ql 0 (by decide)) (ag 4)) (wg (au 29 (aj (ag 4) ao))))))) sN) (hA 9 4 (sC (aO (wh (su (qd c9 (aP bY (ag 2) (ah 12)) (ah 11)) (su (lf (ql 0 (by decide)) (ag 4)) (wg (au 29 (aj (ag 4) ao))))))) sN) hN)))
def tG:CS:=(sC iN (sC n9 (sC (aO (c7 false)) sN)))
def C9:CS:=(sC (aG 3 (aP bY (ag 1) (bi bh (aj (ag 0) ao)))) (sC (aO (aP a' (aP a' (mQ (ag 0) nQ (gQ (ag 3))) (sub (ag 2) (aP bY (aP dI (ag 1) (ah 13)) (ah 26)))) (mQ (ag 0) (gQ (aP a' (ag 3) (ah 1))) nQ))) sN))
def tE:CS:=(sC (aG 1 (aC OG)) (sC (aG 2 (sub (ag 1) (aP bY (ag 0) (ah 26)))) (sC (aG 2 (aP a' (ag 2) (sub (ag 1) (aP bY (aP dI (ag 0) (ah 26)) (ah 26))))) (sC (aO (aP a' (ag 2) (sub (ag 1) (aP bY (aP dI (ag 0) (ah 676)) (ah 26))))) sN))))
abbrev eG:CS:=(sC (cf (kr (cC (aF lK (ag 4) (ag 1)) (cC (aF m_ (bi bh (aj (ag 1) ao)) (ag 3)) gw))) (sC (aZ (bm bZ (ag 1) (aj (ag 4) ao))) sN) sN) sN)
abbrev lA:C1:=(aG 2 (jZ (aj (au 41 (aj (sub (ag 0) (ah 0)) ao)) (aj (au 41 (aj (sub (ag 0) (ah 1)) ao)) (aj (aC [69,85,82]) (aj (aC [74,80,89]) (aj (aC [85,83,68]) ao)))))))
abbrev lz:C1:=(aG 2 (jm true (yu (ag 2) (cF (aj (aC [75,87,68]) (aj (aC [67,72,70]) (aj (aC [71,66,80]) (aj (aC [83,69,75]) (aj (aC [69,85,83]) ao)))))))))
abbrev gC:C1:=(aG 3 (Gl (aF c9 (aP bY (aP dI (sub (ag 0) (ah 0)) (ah 3)) (ah 8)) (ah 3)) (ah 8) (ah 4)))
abbrev gB:C1:=(cf (aF c9 (aP bY (sub (ag 0) (ah 1)) (ah 2)) (ah 1)) (sC (lu (ag 2) (ah 1) (au 40 (aj (sub (ag 2) (ah 0)) (aj (aP dI (sub (ag 0) (ah 1)) (ah 2)) (aj (aC OG) ao))))) sN) sN)
def pL:CS:=(sC (aG 1 (jZ ao)) (sC lA (sC lz (sC gC (sC gB (sC (fy 4 (ag 2) eG) (sC (aO (ag 1)) sN)))))))
def C':CS:=(sC (aG 1 (aC OT)) (sC (aG 2 (sub (ag 1) (aP bY (ag 0) (ah 26)))) (sC (aG 3 (aP dI (ag 0) (ah 26))) (sC (fy 4 (bi oI (aj (aP bY (ag 3) (ah 12)) ao)) (sC (aG 2 (aP a' (ag 2) (sub (ag 1) (aP bY (aP a' (aP dI (ag 3) (ah 12)) (aP pz (aP dI (ag 3) (ah 432)) (ag 4))) (ah 36))))) sN)) (sC (aO (ag 2)) sN)))))
abbrev l6:CS:=(sC (cf (aF lK (ag 3) (ag 2)) (sC (aZ (bm bZ (ag 2) (aj (ag 3) ao))) sN) sN) sN)
abbrev tC:C1:=(aG 1 (jZ (aj (au 43 (aj (sub (ag 0) (ah 0)) ao)) (aj (au 43 (aj (sub (ag 0) (ah 1)) ao)) (aj (aC [97]) (aj (aC [122,57]) ao))))))
abbrev lZ:C1:=(cf (aF c9 (aP bY (sub (ag 0) (ah 1)) (ah 2)) (ah 1)) (sC (lu (ag 1) (ah 1) (au 40 (aj (sub (ag 1) (ah 0)) (aj (aP dI (sub (ag 0) (ah 1)) (ah 2)) (aj (aC OK) ao))))) sN) sN)
abbrev tB:C1:=(aG 2 (jZ (aj (aC OM) ao)))
def AE:CS:=(sC tC (sC lZ (sC tB (sC (fy 3 (ag 1) l6) (sC (aO (ag 2)) sN)))))
abbrev jI:CS:=(sC (aZ (meth (ag 2) 37 (aj (ag 3) ao))) sN)
abbrev pI:C1:=(aG 1 (au 44 (aj (cF (aj (au 33 (aj (ag 0) (aj (ah 0) ao))) (aj (au 33 (aj (ag 0) (aj (ah 1) ao))) ao))) ao)))
abbrev jH:C1:=(cf (aF c9 (aP bY (aP dI (au 33 (aj (ag 0) (aj (ah 0) ao))) (ah 7)) (ah 8)) (ah 3)) (sC (aG 1 (aP a' (ag 1) (jm false (gk 5 (bi oI (aj (aP bY (au 33 (aj (ag 0) (aj (ah 1) ao))) (ah 9)) ao)) cR (aP a' (aC OE) (bi yV (aj (ag 5) ao))))))) sN) sN)
abbrev pH:C1:=(aG 2 (C2 (aj (sub (au 42 (aj (cF (aj (au 33 (aj (ag 0) (aj (ah 2) ao))) (aj (au 33 (aj (ag 0) (aj (ah 3) ao))) ao))) ao)) (ah 0)) ao)))
abbrev pG:C1:=(cf (fN (aW (dM (li (au 123 (aj (ag 2) (aj (ag 1) (aj (au 33 (aj (ag 0) (aj (ah 1) ao))) ao)))))) (aW (aF fo (meth (ag 2) 60 ao) (ag 1)) cw))) (sC (aO (cF (aj ff (aj (ag 1) ao)))) sN) sN)
abbrev pF:C1:=(cf (aF fo (au 25 (aj (ag 2) ao)) (ag 4)) (sC (aO (cF (aj ff (aj (ag 1) ao)))) sN) sN)
def u9:CS:=(sC pI (sC jH (sC pH (sC (fy 3 (mQ (ag 1) (gQ (ah 1)) nQ) jI) (sC (aG 4 (au 25 (aj (ag 2) ao))) (sC pG (sC pF (sC (aO (IC (aj (ag 2) (aj (ag 1) ao)))) sN))))))))
abbrev vI:C1:=(aG 1 (au 42 (aj (cF (aj (au 33 (aj (ag 0) (aj (ah 2) ao))) (aj (au 33 (aj (ag 0) (aj (ah 3) ao))) ao))) ao)))
abbrev vH:C1:=(cf (JW (ag 3)) (sC (aO (c7 false)) sN) sN)
abbrev vG:C1:=(aG 5 (au 122 (aj (ag 0) (aj (ag 4) (aj (ag 1) ao)))))
abbrev vF:C1:=(aG 6 (au 56 (aj (au 33 (aj (ag 0) (aj (ah 5) ao))) ao)))
abbrev oE:C1:=(cf (aF c9 (aP bY (au 33 (aj (ag 0) (aj (ah 2) ao))) (ah 8)) (ah 7)) (sC (aG 6 (sub (cF (aj (aP a' (rc (ag 6) nQ (gQ (ah 39))) (aC [10])) (aj (aP EN (aC [110]) (ah 41)) (aj (aP a' (aC [9]) (rc (ag 6) nQ (gQ (ah 39)))) ao)))) (aP bY (au 33 (aj (ag 0) (aj (ah 3) ao))) (ah 3)))) sN) sN)
abbrev oC:C1:=(aG 7 (aP d4 (aP bY (au 33 (aj (ag 0) (aj (ah 4) ao))) (ah 100002)) (ah 1)))
abbrev fT:C1:=(cf (fN (aW (aF zg (bi bh (aj (ag 6) ao)) (ah 40)) (aW (aF oW (aC [10]) (ag 6)) (aW (aF oW (aC [9]) (ag 6)) cw)))) (sC (aG 8 (aC [66,97,100,78,111,116,101])) sN) sN)
abbrev iR:C1:=(cf (fN (aW (aF m_ (ag 7) (ah 0)) (aW (aF zg (ag 7) (ah 99999)) cw))) (sC (aG 8 (aC [66,97,100,68,97,121])) sN) sN)
abbrev iQ:C1:=(cf (dM (li (au 114 (aj (ag 3) (aj (ag 4) (aj (ag 1) (aj (cF ao) (aj (ah 0) ao)))))))) (sC (aO (c7 false)) sN) sN)
abbrev mh:C1:=(cf (aF c9 (ag 8) (aC [])) (sC (aO (au 117 (aj (ag 3) (aj (ag 4) (aj (ag 1) (aj (ag 7) (aj (ag 6) (aj (ag 5) ao)))))))) sN) sN)
abbrev mf:C1:=(cf (fN (aW (aF fo (au 110 (aj (ag 3) (aj (ag 7) (aj (ag 6) (aj (ag 10) ao))))) (ag 8)) (aW (dM (li (au 115 (aj (ag 3) (aj (ag 7) (aj (ag 6) (aj (bi dN (aj (ag 5) ao)) ao))))))) cw))) (sC (aO (c7 false)) sN) sN)
abbrev me:C1:=(cf (fN (aW (aF fo (ag 10) (ag 5)) (aW (aF fo (meth (ag 3) 1 ao) (ah 0)) (aW (aF fo (au 25 (aj (ag 3) ao)) (ag 9)) cw)))) (sC (aO (c7 false)) sN) sN)
abbrev ma:C1:=(cf (dM (li (au 114 (aj (ag 3) (aj (ag 4) (aj (ag 1) (aj (cF ao) (aj (ah 0) ao)))))))) (sC (aO (c7 false)) sN) sN)
abbrev l_:C1:=(aO (au 113 (aj (ag 3) (aj (ag 4) (aj (ag 1) (aj (cF (aj (ag 7) (aj (ag 6) ao))) (aj (ag 5) (aj (ag 8) ao))))))))
def rN:CS:=(sC vI (sC (aG 2 (au 124 (aj (ag 0) ao))) (sC (aG 3 (HG (ag 2) (ah 0))) (sC (aG 4 (HG (ag 2) (ah 1))) (sC vH (sC vG (sC vF (sC oE (sC oC (sC (aG 8 (au 112 (aj (ag 4) (aj (ag 5) ao)))) (sC fT (sC iR (sC (aG 9 (au 25 (aj (ag 3) ao))) (sC iQ (sC mh (sC (aG 10 (bi xk (aj (ag 5) ao))) (sC mf (sC me (sC ma (sC l_ sN))))))))))))))))))))
def Ct:mM:=⟨0,"__init__",true,[("self",0),("home",1)],2,2,false,Ee⟩
def wF:List mM:=[
 Ct,
 ⟨1,"many",true,[("self",0)],1,1,false,Ed⟩,
 ⟨2,"closed",true,[("self",0)],1,1,false,zi⟩,
 ⟨3,"need_day",false,[("day",0)],1,1,false,tZ⟩,
 ⟨4,"need_open",true,[("self",0),("day",1)],2,2,false,r_⟩,
 ⟨5,"need_currency",false,[("text",0)],1,2,false,lF⟩,
 ⟨6,"tell_rate",true,[("self",0),("currency",1),("day",2),("top",3),("bottom",4),("days",5)],5,6,false,r9⟩,
 ⟨7,"enter",true,[("self",0),("day",1),("note",2),("lines",3),("back",4),("number",5)],5,6,false,BH⟩,
 ⟨8,"entry",true,[("self",0),("number",1)],2,2,false,BG⟩,
 ⟨9,"contrary",true,[("self",0),("number",1),("day",2),("old",3),("lines",4)],3,6,false,um⟩,
 ⟨11,"close",true,[("self",0),("day",1)],2,2,false,BI⟩,
 ⟨12,"is_amount",false,[("amount",0)],1,1,false,rO⟩,
 ⟨13,"changed",false,[("amount",0),("one",1),("other",2)],3,3,false,vK⟩,
 ⟨14,"rate",true,[("self",0),("currency",1),("day",2),("days",3),("known",4)],3,6,false,Ec⟩,
 ⟨15,"need_account",true,[("self",0),("account",1)],2,2,false,mK⟩,
 ⟨16,"need_note",false,[("text",0)],1,2,false,rM⟩,
 ⟨17,"convert",true,[("self",0),("day",1),("note",2),("giver",3),("one",4),("amount",5),("taker",6),("other",7),("got",8),("lines",9)],8,10,false,v8⟩,
 ⟨18,"balanced",false,[("lines",0),("totals",1),("line",2)],1,4,false,t0⟩,
 ⟨19,"need_line",true,[("self",0),("line",1)],2,2,false,sa⟩,
 ⟨20,"post",true,[("self",0),("day",1),("note",2),("lines",3),("line",4),("kept",5)],4,7,false,nc⟩,
 ⟨23,"entry_rows",false,[("deed",0),("day",1),("note",2),("count",3),("found",4),("line",5),("account",6),("currency",7),("amount",8)],1,9,false,pV⟩,
 ⟨24,"deed_rows",false,[("deed",0),("words",1)],1,3,false,rP⟩,
 ⟨25,"written",false,[("book",0),("rows",1),("deed",2)],1,4,false,vA⟩,
 ⟨26,"added_up",true,[("self",0),("account",1),("currency",2),("last",3),("total",4),("old",5),("line",6)],4,7,false,un⟩,
 ⟨27,"balance",true,[("self",0),("account",1),("currency",2)],3,3,false,v9⟩,
 ⟨29,"_law_lone",false,[("_law_e",0),("_law_found",1)],1,2,false,Da⟩,
 ⟨33,"_law_cell",false,[("_law_script",0),("_law_k",1)],2,2,false,Db⟩,
 ⟨34,"_law_whole",false,[("_law_found",0)],1,1,false,AC⟩,
 ⟨36,"is_name",false,[("text",0)],1,2,false,oF⟩,
 ⟨37,"admit",true,[("self",0),("account",1)],2,2,false,BJ⟩,
 ⟨40,"_law_twin",false,[("_law_text",0),("_law_cell_here",1),("_law_signs",2),("_law_at",3)],3,4,false,C9⟩,
 ⟨41,"_law_currency",false,[("_law_cell_here",0),("_law_signs",1),("_law_found",2)],1,3,false,tE⟩,
 ⟨42,"_law_currencies",false,[("_law_cells",0),("_law_found",1),("_law_some",2),("_law_limit",3),("_law_currency_here",4)],1,5,false,pL⟩,
 ⟨43,"_law_name",false,[("_law_cell_here",0),("_law_signs",1),("_law_found",2),("_law_left",3),("_law_k",4)],1,5,false,C'⟩,
 ⟨44,"_law_names",false,[("_law_cells",0),("_law_some",1),("_law_found",2),("_law_name_here",3)],1,4,false,AE⟩,
 ⟨56,"_law_note",false,[("_law_cell_here",0),("_law_some",1),("_law_found",2),("_law_k",3)],1,4,false,C_⟩,
 ⟨60,"accounts",true,[("self",0)],1,1,false,uo⟩,
 ⟨61,"balance_on",true,[("self",0),("account",1),("currency",2),("day",3)],4,4,false,qi⟩,
 ⟨90,"done",false,[("book",0),("deed",1)],2,2,false,DI⟩,
 ⟨91,"number_of",false,[("word",0),("figures",1)],1,3,false,rL⟩,
 ⟨92,"words_of",false,[("row",0),("first",1),("many",2),("words",3)],3,4,false,tY⟩,
 ⟨93,"name_of",false,[("word",0)],1,2,false,vD⟩,
 ⟨94,"change_of",false,[("row",0),("words",1),("note",2),("first",3)],1,4,false,h_⟩,
 ⟨95,"line_of",false,[("row",0),("words",1)],1,2,false,vE⟩,
 ⟨96,"entry_of",false,[("rows",0),("at",1),("words",2),("day",3),("count",4),("lines",5)],2,7,false,iT⟩,
 ⟨97,"deed_of",false,[("rows",0),("at",1),("word",2),("words",3)],2,4,false,hZ⟩,
 ⟨98,"deeds_of",false,[("rows",0),("found",1),("at",2),("deed",3)],1,4,false,mi⟩,
 ⟨99,"read",false,[("text",0),("rows",1),("home",2),("deeds",3),("book",4),("deed",5)],1,6,false,xj⟩,
 ⟨110,"_law_tried",false,[("_law_book",0),("_law_day",1),("_law_note_here",2),("_law_lines_here",3)],4,4,false,yw⟩,
 ⟨111,"_law_sum",false,[("_law_lines_here",0),("_law_account",1),("_law_currency_here",2),("_law_found",3),("_law_line_here",4)],3,5,false,F'⟩,
 ⟨112,"_law_judged",false,[("_law_names_here",0),("_law_lines_here",1),("_law_line_here",2)],2,3,false,j1⟩,
 ⟨113,"_law_behind",false,[("_law_book",0),("_law_names_here",1),("_law_currencies_here",2),("_law_row",3),("_law_lines_here",4),("_law_due",5),("_law_again",6),("_law_many",7),("_law_good",8)],6,10,false,n8⟩,
 ⟨114,"_law_balances",false,[("_law_book",0),("_law_names_here",1),("_law_currencies_here",2),("_law_lines_here",3),("_law_day",4),("_law_name_here",5),("_law_currency_here",6),("_law_due",7),("_law_found",8)],5,9,false,rB⟩,
 ⟨115,"_law_based",false,[("_law_book",0),("_law_day",1),("_law_note_here",2),("_law_lines_here",3),("_law_e",4)],4,5,false,yy⟩,
 ⟨116,"_law_told",false,[("_law_found",0),("_law_day",1),("_law_note_here",2),("_law_lines_here",3),("_law_line_here",4)],4,5,false,AD⟩,
 ⟨117,"_law_posted",false,[("_law_book",0),("_law_names_here",1),("_law_currencies_here",2),("_law_day",3),("_law_note_here",4),("_law_lines_here",5),("_law_handed",6),("_law_found",7),("_law_turned_lines",8),("_law_again",9),("_law_due",10)],6,14,false,qu⟩,
 ⟨118,"_law_strange",false,[("_law_line_here",0),("_law_cell_here",1),("_law_some",2)],2,3,false,u8⟩,
 ⟨119,"_law_evened",false,[("_law_names_here",0),("_law_currencies_here",1),("_law_lines_here",2),("_law_more",3),("_law_found",4),("_law_currency_here",5),("_law_rest",6)],4,7,false,yx⟩,
 ⟨120,"_law_evened",false,[("_law_names_here",0),("_law_currencies_here",1),("_law_lines_here",2),("_law_more",3),("_law_found",4),("_law_currency_here",5),("_law_rest",6)],4,7,true,ve⟩,
 ⟨121,"_law_line",false,[("_law_names_here",0),("_law_currencies_here",1),("_law_cell_here",2),("_law_amount",3)],3,4,false,wT⟩,
 ⟨122,"_law_lines",false,[("_law_script",0),("_law_names_here",1),("_law_currencies_here",2),("_law_way",3),("_law_lines_here",4),("_law_at",5),("_law_two",6),("_law_more",7)],3,9,false,qv⟩,
 ⟨123,"_law_admitted",false,[("_law_book",0),("_law_names_here",1),("_law_cell_here",2),("_law_some",3),("_law_e",4)],3,5,false,tG⟩,
 ⟨124,"_law_opened",false,[("_law_script",0),("_law_names_here",1),("_law_book",2),("_law_name_here",3),("_law_ahead",4)],1,6,false,u9⟩,
 ⟨125,"law",false,[("_law_script",0),("_law_currencies_here",1),("_law_opened_here",2),("_law_book",3),("_law_names_here",4),("_law_lines_here",5),("_law_note_here",6),("_law_day",7),("_law_due",8),("_law_ahead",9),("_law_handed",10)],1,11,false,rN⟩]
noncomputable def Mb:Nat:=125
noncomputable def GB:List (Str×(Option Int×List Nat)):=[("SMALL",(none,OK)),("GREAT",(none,OG)),("FIGURES",(none,OL)),("LAST_DAY",(some 99999,[])),("BOUND",(some 1000000000000000000000000000000,[])),("GREATEST",(some 1000000000,[]))]
abbrev TT:Nat->Option PF:=wy wF
end
open PySem PySem.W PySem.Calls PyProof.Rows
set_option Elab.async false
set_option maxRecDepth 100000
set_option maxHeartbeats 8000000
noncomputable def tO (i:Nat):Str:=(II[i]?).elim ⟨#[0,i]⟩ fun l=>⟨l.toArray⟩
noncomputable def xZ:Option (Str×Pos):=none
def KP (h:Heap):Prop:=∃ K:Frag,K.In h/\Hm xZ Ct wF GB tO K=true/\qQ xZ K h
def yN (s:Shared):Prop:=KP s.heap
theorem KP.keeps {h h':Heap} (x:KP h) (k:∀ b o,h.get? b=some o->h'.get? b=some o):KP h':=x.elim fun K y=>⟨K,y.1.keeps k,y.2.1,fun l e=>k _ _ (y.2.2 l e)⟩
theorem Fo {h:Heap} {K:Frag} (X:K.In h) (ok:Hm xZ Ct wF GB tO K=true) (TK:qQ xZ K h):TabsAt ((hU xZ K).toList.map fun l=>(l.c,l.P)) h:=fun q hq=>by
 obtain ⟨l,hl,rfl⟩:=NQ.mp hq;have e:=Option.mem_toList.mp hl;have o7:=an ok;rw[e] at o7;exact ⟨codeHd_of_K X o7,TK l e⟩
theorem A4 {h:Heap} {K:Frag} (x:∀ l,hU xZ K=some l->∃ ps,h.get? l.P=some (sJ ps)):GrownAll ((hU xZ K).toList.map fun l=>(l.c,l.P)) h:=by
 cases e:hU xZ K with
 |none=>exact trivial
 |some l=>exact ⟨x l e,trivial⟩
theorem vq {h h':Heap} {K:Frag} (x:∀ b o,b∉(hU xZ K).toList.map (·.P)->h.get? b=some o->h'.get? b=some o) (b:Addr) (o:Obj) (e:(ghostOf h ((hU xZ K).toList.map fun l=>(l.c,l.P))).get? b=some o):h'.get? b=some o:=
 x b o (fun hb=>by
  rw[hideAll_none _ (by rw[List.map_map];exact hb)] at e;cases e) (of_hideAll _ e)
theorem M0:∀ (w:World) (os:OsState),(d0 pN w 11 (some (.ref 6)) 40178 ⟨fu (boot_heap w.params).objs.toList,11,{},Array.mk [],boot_drawn,boot_toks,os⟩ (topStub pN)).map (fun s=>Hm xZ Ct wF GB tO (vw s.tree s.n)&&uE xZ (vw s.tree s.n) s.tree s.n)=some true:=fun w os=>by kernel_rfl
noncomputable abbrev iV (x:Int):Option PV:=some (.d (.int x))
noncomputable abbrev sV (x:List Nat):Option PV:=some (.d (.str x))
noncomputable abbrev dV (x:D):Option PV:=some (.d x)
noncomputable abbrev qV (n:Nat):Option PV:=some (.p n 0)
noncomputable abbrev CC (d:Nat) (hd:Bool) (f:Nat) (args:List PV) (σ:av):Option (R PV×av):=jQ TT d hd f args σ
noncomputable abbrev KK (d:Nat) (hd:Bool):cQ:=⟨jQ TT d,hd⟩
abbrev Ev (K:cQ) (e:CE) (ρ:bb) (σ:av) (v:PV):Prop:=e.ev K ρ σ=some (.ok v,σ)
abbrev Ts (K:cQ) (t:CT) (ρ:bb) (σ:av) (b:Bool):Prop:=t.ts K ρ σ=some (.ok b,σ)
section
variable {f:Nat}
theorem aB {m:PM α} {g:α->PM β} {a:α} {z:Option (R β×av)} (h:m σ=some (.ok a,σ')) (k:g a σ'=z):bP m g σ=z:=by
 unfold bP;rw[h];exact k
theorem lN {m:PM α} {g:α->PM β} (h:m σ=some (.ex c,σ')):bP m g σ=some (.ex c,σ'):=by
 unfold bP;rw[h];rfl
theorem db {m:PM α} {k:α->av->Option (Out×av)} {a:α} {z:Option (Out×av)} (h:m σ=some (.ok a,σ')) (h2:k a σ'=z):df ρ m k σ=z:=by
 unfold df;rw[h];exact h2
theorem rk {m:PM α} {k:α->av->Option (Out×av)} (h:m σ=some (.ex c,σ')):df ρ m k σ=some (.ex c ρ,σ'):=by
 unfold df;rw[h]
theorem aa {a:C1} {l:CS} {z:Option (Out×av)} (h:a.ex K ρ σ=some (.next ρ',σ')) (k:l.ex K ρ' σ'=z):(sC a l).ex K ρ σ=z:=by
 show lV (a.ex K ρ σ) (l.ex K)=z;rw[h];exact k
theorem aS {a:C1} {l:CS} (h:a.ex K ρ σ=some (.ret v,σ')):(sC a l).ex K ρ σ=some (.ret v,σ'):=by
 show lV (a.ex K ρ σ) (l.ex K)=_;rw[h];rfl
theorem bv {a:C1} {l:CS} (h:a.ex K ρ σ=some (.ex c ρ',σ')):(sC a l).ex K ρ σ=some (.ex c ρ',σ'):=by
 show lV (a.ex K ρ σ) (l.ex K)=_;rw[h];rfl
theorem aT (h:e.ev K ρ σ=some (.ok v,σ')):(aO e).ex K ρ σ=some (.ret v,σ'):=db h rfl
theorem az (h:e.ev K ρ σ=some (.ok v,σ')) (k:ρ.set i (some v)=ρ'):(aG i e).ex K ρ σ=some (.next ρ',σ'):=by
 subst k;exact db h rfl
theorem eJ (h:e.ev K ρ σ=some (.ex c,σ')):(aG i e).ex K ρ σ=some (.ex c ρ,σ'):=rk h
theorem aV (h:e.ev K ρ σ=some (.ok v,σ')):(aZ e).ex K ρ σ=some (.next ρ,σ'):=db h rfl
theorem eS (h:e.ev K ρ σ=some (.ex c,σ')):(aZ e).ex K ρ σ=some (.ex c ρ,σ'):=rk h
theorem dp (h:e.ev K ρ σ=some (.ex c,σ')):(aO e).ex K ρ σ=some (.ex c ρ,σ'):=rk h
theorem bp {t:CT} {a:CS} {z:Option (Out×av)} (h:Ts K t ρ σ true) (k:a.ex K ρ σ=z):(cf t a b).ex K ρ σ=z:=db h k
theorem aY {t:CT} {a:CS} {z:Option (Out×av)} (h:Ts K t ρ σ false) (k:b.ex K ρ σ=z):(cf t a b).ex K ρ σ=z:=db h k
theorem kx {i:CE} {k v:D} (h1:Ev K a ρ σ (.d v)) (h2:Ev K o ρ σ x) (h3:Ev K i ρ σ (.d k)) (h4:sT x k v σ=some σ'):(lu o i a).ex K ρ σ=some (.next ρ,σ'):=by
 refine db h1 (db h2 (db h3 ?_));show (sT x k v σ).bind _=_;rw[h4];rfl
theorem bF {x:D} {xs:List D} {z:Option (Out×av)} (h:Ev K it ρ σ v) (h1:uz v σ=some (x,xs)) (h2:c6 v x i (fun ρ=>b.ex K ρ) xs ρ σ=z) (hK:K.hd=false:=by rfl):(fy i it b).ex K ρ σ=z:=by
 show (match K.hd with|true=>none|false=>_)=z
 rw[hK];refine db h ?_;show (uz v σ).bind _=z;rw[h1];exact h2
theorem bo {x y:D} {b:bb->av->Option (Out×av)} {z:Option (Out×av)} (h:b (ρ.set i (dV y)) σ=some (.next ρ',σ')) (hs:bN σ' x v=true) (k:c6 v x i b l ρ' σ'=z):c6 v x i b (y::l) ρ σ=z:=by
 show (match b (ρ.set i (dV y)) σ with
  |some (.next ρ',σ')=>if bN σ' x v then c6 v x i b l ρ' σ' else none
  |z=>z)=z
 rw[h];show (if bN σ' x v then _ else none)=z;rw[if_pos hs];exact k
theorem xh {x y:D} {b:bb->av->Option (Out×av)} {w:PV} (h:b (ρ.set i (dV y)) σ=some (.ret w,σ')):c6 v x i b (y::l) ρ σ=some (.ret w,σ'):=by
 show (match b (ρ.set i (dV y)) σ with
  |some (.next ρ',σ')=>if bN σ' x v then c6 v x i b l ρ' σ' else none
  |z=>z)=_
 rw[h]
theorem xi {γ:Type} {x:D} {b:bb->av->Option (Out×av)} (f:α->D) (mk:β->γ->bb) (g:β->α->β) (hs:bN σ x v=true):∀ (ys:List α),(∀ s c y,y∈ys->∃ c',b ((mk s c).set i (dV (f y))) σ=some (.next (mk (g s y) c'),σ))->∀ s c,∃ c',c6 v x i b (ys.map f) (mk s c) σ=some (.next (mk (ys.foldl g s) c'),σ):=by
 intro ys
 induction ys with
 |nil=>
  intro _ s c;exact ⟨c,rfl⟩
 |cons y ys ih=>
  intro h s c;obtain ⟨c1,e1⟩:=h s c y (.head _);obtain ⟨c2,e2⟩:=ih (fun s c z hz=>h s c z (.tail _ hz)) (g s y) c1;exact ⟨c2,bo e1 hs e2⟩
theorem ky {x:D} (h:rd σ (.p n j)=some x):bN σ x (.p n j)=true:=@NP _ (_) h
theorem oU {s:Nat} {args:List PV} {o:Out} (hT:TT f=some ⟨p,s,kp,b.ex⟩) (hl:args.length=p) (hr:args.map some++List.replicate (s - p) none=ρ) (h:b.ex (KK d hd) ρ σ=some (o,σ')) (k:Bn kp σ.length (some (o,σ'))=z):CC (d+1) hd f args σ=z:=by
 show (match TT f with
  |some pf=>FD ⟨jQ TT d,hd⟩ pf args
  |none=>fun _=>none) σ=z
 rw[hT];show (if args.length=p then Bn kp σ.length (b.ex (KK d hd) (args.map some++List.replicate (s - p) none) σ) else none)=z;rw[if_pos hl,hr,h];exact k
theorem bA {s:Nat} {args:List PV} {v:D} (hT:TT f=some ⟨p,s,kp,b.ex⟩) (hl:args.length=p) (hr:args.map some++List.replicate (s - p) none=ρ) (h:b.ex (KK d hd) ρ σ=some (.ret (.d v),σ')) (k:σ'.take σ.length=σ''):CC (d+1) hd f args σ=some (.ok (.d v),σ''):=
 oU hT hl hr h (by show some (R.ok (PV.d v),σ'.take σ.length)=_;rw[k])
theorem d9 {s:Nat} {args:List PV} (hT:TT f=some ⟨p,s,kp,b.ex⟩) (hl:args.length=p) (hr:args.map some++List.replicate (s - p) none=ρ) (h:b.ex (KK d hd) ρ σ=some (.next ρ',σ')) (k:σ'.take σ.length=σ''):CC (d+1) hd f args σ=some (.ok (.d .none),σ''):=
 oU hT hl hr h (by show some (R.ok (PV.d .none),σ'.take σ.length)=_;rw[k])
theorem cO {s:Nat} {args:List PV} (hT:TT f=some ⟨p,s,kp,b.ex⟩) (hl:args.length=p) (hr:args.map some++List.replicate (s - p) none=ρ) (h:b.ex (KK d hd) ρ σ=some (.ex c ρ',σ')) (k:σ'.take σ.length=σ''):CC (d+1) hd f args σ=some (.ex c,σ''):=
 oU hT hl hr h (by show some (R.ex c,σ'.take σ.length)=_;rw[k])
theorem oV {s:Nat} {args:List PV} (hT:TT f=some ⟨p,s,false,b.ex⟩) (hl:args.length=p) (hr:args.map some++List.replicate (s - p) none=ρ) (h:b.ex (KK d hd) ρ σ=some (.ret (.p m 0),σ')) (hm:σ.length<=m) (ho:σ'[m]? =some (.fld f')) (k:σ'.take σ.length=σ''):CC (d+1) hd f args σ=some (.ok (.d f'.toD),σ''):=
 oU hT hl hr h (by
  show (if m<σ.length then _ else Ae false σ.length σ' 0 σ'[m]?)=_;rw[if_neg (Oz.mpr hm),ho,<-k];rfl)
theorem tk (σ:av):σ.take σ.length=σ:=List.take_length
theorem HE (σ l:av):(σ++l).take σ.length=σ:=List.take_left
theorem aR {o:BO} {b:CE} {w z:D} (h1:Ev K a ρ σ x) (h2:Ev K b ρ σ y) (r1:rd σ x=some u) (r2:rd σ y=some w) (h:o.g u w=some z):Ev K (aP o a b) ρ σ (.d z):=by
 refine aB h1 (aB h2 ?_);show (rd σ x).bind _=_;rw[r1,NA,r2,NA,h];rfl
theorem uj {o:CO} {w:D} (h:o.g u w=some q) (r1:rd σ x=some u) (r2:rd σ y=some w):zu o.g x y σ=some (.ok q,σ):=by
 unfold zu;rw[r1,NA,r2,NA,h];rfl
theorem gi {o:CO} {b:CE} {w:D} (h1:Ev K a ρ σ x) (h2:Ev K b ρ σ y) (r1:rd σ x=some u) (r2:rd σ y=some w) (h:o.g u w=some q):Ev K (qd o a b) ρ σ (.d (.bool q)):=
 aB h1 (aB h2 (aB (uj h r1 r2) rfl))
theorem ak {o:CO} {b:CE} {w:D} (h1:Ev K a ρ σ x) (h2:Ev K b ρ σ y) (r1:rd σ x=some u) (r2:rd σ y=some w) (h:o.g u w=some q):Ts K (aF o a b) ρ σ q:=
 aB h1 (aB h2 (uj h r1 r2))
theorem bc {l:sE .Or} (h:l.ts K ρ σ=some (.ok q,σ)):Ts K (fN l) ρ σ q:=h
theorem cI {l:sE .And} (h:l.ts K ρ σ=some (.ok q,σ)):Ts K (kr l) ρ σ q:=h
theorem kS {l:CA} (h:l.ev K ρ σ=z):(wh l).ev K ρ σ=z:=h
theorem kR (h:a.ev K ρ σ=z):(wg a).ev K ρ σ=z:=h
theorem ft {a:CT} (h:Ts K a ρ σ true):Ts K (dM a) ρ σ false:=aB h rfl
theorem zE {a:CT} (h:Ts K a ρ σ false):Ts K (dM a) ρ σ true:=aB h rfl
theorem iB {a:CT} (h:Ts K a ρ σ q):Ts K (dM a) ρ σ (!q):=aB h rfl
theorem cU (h:Ev K a ρ σ (.d (.bool q))):Ts K (li a) ρ σ q:=aB h rfl
theorem a_ {a:CT} {l:sE .Or} (h:Ts K a ρ σ false) (k:l.ts K ρ σ=some (.ok q,σ)):(aW a l).ts K ρ σ=some (.ok q,σ):=aB h k
theorem dB {a:CT} {l:sE .Or} (h:Ts K a ρ σ true):(aW a l).ts K ρ σ=some (.ok true,σ):=aB h rfl
theorem ee {a:CT} {l:sE .And} (h:Ts K a ρ σ true) (k:l.ts K ρ σ=some (.ok q,σ)):(cC a l).ts K ρ σ=some (.ok q,σ):=aB h k
theorem eX {a:CT} {l:sE .And} (h:Ts K a ρ σ false):(cC a l).ts K ρ σ=some (.ok false,σ):=aB h rfl
theorem j8 {l:CA} (h:Ev K a ρ σ (.d (.bool true))) (k:l.ev K ρ σ=z):(su a l).ev K ρ σ=z:=aB h (aB (a:=true) (σ':=σ) rfl k)
theorem Jg {o q:CO} {c:CE} {w:PV} {v t:D} {p r:Bool} (h3:Ev K c ρ σ w) (r1:rd σ x=some u) (r2:rd σ y=some v) (r3:rd σ w=some t) (e1:o.g u v=some p) (e2:q.g v t=some r):Mm (c.ev K ρ) o.g q.g x y σ=some (.ok (.d (.bool (p&&r))),σ):=by
 refine aB (uj e1 r1 r2) ?_;cases p with
 |true=>exact aB h3 (aB (uj e2 r2 r3) rfl)
 |false=>rfl
theorem kP {o q:CO} {b c:CE} {w:PV} {v t:D} {p r:Bool} (h1:Ev K a ρ σ x) (h2:Ev K b ρ σ y) (h3:Ev K c ρ σ w) (r1:rd σ x=some u) (r2:rd σ y=some v) (r3:rd σ w=some t) (e1:o.g u v=some p) (e2:q.g v t=some r):Ev K (vY o q a b c) ρ σ (.d (.bool (p&&r))):=aB h1 (aB h2 (Jg h3 r1 r2 r3 e1 e2))
theorem oP {i:Int} (h:Ev K a ρ σ (.d (.int i))):Ev K (neg a) ρ σ (.d (.int (-i))):=aB h rfl
theorem DT {t:CT} {b:CE} (h:Ts K t ρ σ true) (k:a.ev K ρ σ=z):(Gl t a b).ev K ρ σ=z:=aB h k
theorem DU {t:CT} {b:CE} (h:Ts K t ρ σ false) (k:b.ev K ρ σ=z):(Gl t a b).ev K ρ σ=z:=aB h k
theorem b7 (h:Ev K a ρ σ x):(aj a ao).ev K ρ σ=some (.ok [x],σ):=aB h (aB (a:=[]) (σ':=σ) rfl rfl)
theorem bT {l:CL} (h:Ev K a ρ σ x) (k:l.ev K ρ σ=some (.ok xs,σ)):(aj a l).ev K ρ σ=some (.ok (x::xs),σ):=aB h (aB k rfl)
theorem cr {f:BF} {l:CL} (h:l.ev K ρ σ=some (.ok xs,σ)) (k:f.g K.hd xs σ=z):(bi f l).ev K ρ σ=z:=aB h k
theorem bq {l:CL} (h:l.ev (KK d hd) ρ σ=some (.ok xs,σ)) (k:CC d hd n xs σ=z):(au n l).ev (KK d hd) ρ σ=z:=aB h k
theorem bg {l:CL} (k:CC d hd n xs σ=z) (h:l.ev (KK d hd) ρ σ=some (.ok xs,σ)):(au n l).ev (KK d hd) ρ σ=z:=aB h k
theorem tT {t:CT} {p:Prop} {i:Decidable p} (q:p) (h:Ts K t ρ σ (decide p)):Ts K t ρ σ true:=by rw[NP q] at h;exact h
theorem tF {t:CT} {p:Prop} {i:Decidable p} (q:¬p) (h:Ts K t ρ σ (decide p)):Ts K t ρ σ false:=by rw[Op q] at h;exact h
theorem DS {l:CL} (h0:Ev (KK d hd) o ρ σ x) (hx:Hr x σ=some (.ok (),σ)) (h:l.ev (KK d hd) ρ σ=some (.ok xs,σ)) (k:CC d hd n (x::xs) σ=z):(meth o n l).ev (KK d hd) ρ σ=z:=aB h0 (aB hx (aB h k))
theorem aM {q:Prop} [Decidable q] {a:α} (h:q):aq q a=some a:=if_pos h
theorem cN {l:CL} {ds:List D} (h:l.ev K ρ σ=some (.ok xs,σ)) (k:qc xs=some ds:=by rfl) (hl:ds.length<=1000:=by exact NH rfl):Ev K (cF l) ρ σ (.d (.lst ds)):=by
 refine aB h ?_;show ((qc xs).bind fun ds=>aq (ds.length<=1000) (PV.d (.lst ds))).map _=_;rw[k,NA,aM hl];rfl
theorem bW {l:CL} {ds:List D} (h:l.ev K ρ σ=some (.ok xs,σ)) (k:qc xs=some ds:=by rfl) (hl:ds.length<=1000:=by exact NH rfl):Ev K (bE l) ρ σ (.d (.tup ds)):=by
 refine aB h ?_;show ((qc xs).bind fun ds=>aq (ds.length<=1000) (PV.d (.tup ds))).map _=_;rw[k,NA,aM hl];rfl
theorem ie {l:CL} {ds:List D} (h:l.ev K ρ σ=some (.ok xs,σ)) (k:qc xs=some ds:=by rfl) (hl:ds.length<=1000:=by exact NH rfl):(jZ l).ev K ρ σ=some (.ok (.p σ.length 0),σ++[.fld (.list ds)]):=by
 refine aB h (aB (a:=ds) (σ':=σ) ?_ rfl);show ((qc xs).bind fun ds=>aq (ds.length<=1000) ds).map _=_;rw[k,NA,aM hl];rfl
theorem om (h:rd σ x=some (.lst l)) (hl:l.length<=cS):bh.g hd [x] σ=some (.ok (.d (.int l.length)),σ):=by
 show ((rd σ x).bind fun u=>(yF u).map fun z=>(R.ok (PV.d z),σ))=_;rw[h,NA];show (Option.map _ (aq (l.length<=cS) (D.int l.length)))=_;rw[aM hl];rfl
theorem IE (h:rd σ x=some (.tup l)) (hl:l.length<=cS):bh.g hd [x] σ=some (.ok (.d (.int l.length)),σ):=by
 show ((rd σ x).bind fun u=>(yF u).map fun z=>(R.ok (PV.d z),σ))=_;rw[h,NA];show (Option.map _ (aq (l.length<=cS) (D.int l.length)))=_;rw[aM hl];rfl
theorem kK {l:List Nat} (hl:l.length<=cS):bh.g hd [.d (.str l)] σ=some (.ok (.d (.int l.length)),σ):=by
 show (Option.map _ (aq (l.length<=cS) (D.int l.length)))=_;rw[aM hl];rfl
theorem dj {i:Int} (h0: -1000<=i) (h:i<=100000000):bQ i=true:=by rw[bQ,NP (by exact N9 (by decide) h0),NP (by exact N_ h (by decide))];rfl
theorem bB {i:CE} {w z:D} (h1:Ev K a ρ σ x) (h2:Ev K i ρ σ y) (r1:rd σ x=some u) (r2:km y=some w) (h:fj u w=some z):Ev K (sub a i) ρ σ (.d z):=by
 refine aB h1 (aB h2 ?_);show (rd σ x).bind _=_;rw[r1,NA,r2,NA,h];rfl
theorem nJ (h:k<n):cV k n=some k:=by
 unfold cV;rw[if_pos (o9),if_pos (Ob.mpr h),Int.toNat_natCast]
theorem GI (l:List D) (i:Int):fj (.lst l) (.int i)=(aq (bQ i=true) ()).bind fun _=>(cV i l.length).bind fun k=>l[k]? :=rfl
theorem GG (l:List D) (i:Int):fj (.tup l) (.int i)=fj (.lst l) (.int i):=rfl
theorem GH (l:List Nat) (i:Int):fj (.str l) (.int i)=(aq (bQ i=true) ()).bind fun _=>(cV i l.length).bind fun k=>(l[k]?).map fun c=>D.str [c]:=rfl
theorem c5 {z:D} (h:l[k]? =some z) (hk:k<=100000:=by decide):fj (.lst l) (.int k)=some z:=by
 rw[GI,aM (dj (B0) (Oa.mpr (NK hk (NH rfl)))),NA,nJ (ND.mp h).1];exact h
theorem xf {z:D} (h:l[k]? =some z) (hk:k<=100000:=by decide):fj (.tup l) (.int k)=some z:=by rw[GG];exact c5 h hk
theorem fc {z:D} (k:Nat) (h:Ev K a ρ σ (.d (.tup l))) (hz:l[k]? =some z) (hk:k<=100000:=by decide):Ev K (sub a (ah (k:Nat))) ρ σ (.d z):=bB h rfl rfl rfl (xf hz hk)
theorem A5 {l:List Nat} (h:l[k]? =some c) (hk:k<=100000:=by decide):fj (.str l) (.int k)=some (.str [c]):=by
 rw[GH,aM (dj (B0) (Oa.mpr (NK hk (NH rfl)))),NA,nJ (ND.mp h).1,NA,h];rfl
theorem fW {y:D} (h0:Ev K o ρ σ (.p n j)) (h1:Ev K a ρ σ (.d y)) (h:cq σ n j=some (.list l)) (hl:l.length<cS):(bm bZ o (aj a ao)).ev K ρ σ=some (.ok (.d .none),eT σ n j (.list (l++[y]))):=by
 refine aB h0 ?_;have r:rd σ (.p n j)=some (.lst l):=by show (cq σ n j).bind _=_;rw[h];rfl
 show (match (rd σ (.p n j)).any (AW (.p n j)) with|true=>_|false=>none)=_
 rw[r];refine aB (b7 h1) ?_;show ((cq σ n j).bind fun f=>(Ju y f).map _)=_;rw[h,NA];show Option.map _ (aq (l.length<cS) _)=_;rw[aM hl];rfl
theorem ub {b:Int} (h1:0<b) (h2:b<2^250):mq b=true:=by
 simp only [mq,Bool.and_eq_true,bne_iff_ne,ne_eq,decide_eq_true_eq];refine ⟨by exact Int.ne_of_gt h1,N0 (m:=2^250) ?_ (Nat.pow_le_pow_right (by decide) (by decide))⟩;have:((2^250:Nat):Int)=2^250:=by norm_cast
 exact K0 h1 h2
theorem bL {a b:Int} (hb:0<b):0<=a.fmod b/\a.fmod b<b:=by
 rw[Int.fmod_eq_emod_of_nonneg a (Ov hb)];exact ⟨Int.emod_nonneg a (Ne.symm (Int.ne_of_lt hb)),Int.emod_lt_of_pos a hb⟩
theorem l7 {a b:Int} (h1:0<b) (h2:b<2^250):bY.g (.int a) (.int b)=some (.int (a.fmod b)):=by
 show (aq (mq b=true) (a.fmod b)).map _=_;rw[aM (ub h1 h2)];rfl
theorem IY {a b:Int} (h1:0<b) (h2:b<2^250):dI.g (.int a) (.int b)=some (.int (a.fdiv b)):=by
 show (aq (mq b=true) (a.fdiv b)).map _=_;rw[aM (ub h1 h2)];rfl
theorem mY {a b:Int} (h:b.natAbs<2^64):nU a b=true:=by rw[nU,NP h,Bool.or_true];rfl
theorem xg {a b:Int} (h:nU a b=true):pz.g (.int a) (.int b)=some (.int (a*b)):=by
 show (aq (nU a b=true) (a*b)).map _=_;rw[aM h];rfl
theorem kM {a b:List Nat} (h:a.length+b.length<=cS):a'.g (.str a) (.str b)=some (.str (a++b)):=if_pos h
theorem EX {a b:Nat} (h:a<=1000/\b<=1000):mD.g (.int a) (.int b)=some (.int ((a:Int)^b)):=by
 show (aq _ _).map _=_;rw[aM ⟨o9,by exact Oa.mpr h.2,o9,by exact Oa.mpr h.1⟩];rfl
section
variable {a b:Int} {s t:List Nat}
theorem n_ (h:a<b):m_.g (.int a) (.int b)=some true:=congrArg some (NP h)
theorem hO (h:¬a<b):m_.g (.int a) (.int b)=some false:=congrArg some (Op h)
theorem rH (h:b<a):zg.g (.int a) (.int b)=some true:=congrArg some (NP h)
theorem j6 (h:¬b<a):zg.g (.int a) (.int b)=some false:=congrArg some (Op h)
theorem Ma (h:a<=b):B4.g (.int a) (.int b)=some true:=congrArg some (NP h)
theorem IG (h:¬a<=b):B4.g (.int a) (.int b)=some false:=congrArg some (Op h)
theorem mI (h:a=b):c9.g (.int a) (.int b)=some true:=congrArg some (NP h)
theorem jx (h:a≠b):c9.g (.int a) (.int b)=some false:=congrArg some (Op h)
theorem yr (h:a≠b):fo.g (.int a) (.int b)=some true:=congrArg (fun c=>some !c) (Op h)
theorem iw (h:a=b):fo.g (.int a) (.int b)=some false:=congrArg (fun c=>some !c) (NP h)
theorem iq (h:s=t):c9.g (.str s) (.str t)=some true:=congrArg some (NP h)
theorem fU (h:s≠t):c9.g (.str s) (.str t)=some false:=congrArg some (Op h)
theorem Av (h:s≠t):fo.g (.str s) (.str t)=some true:=congrArg (fun c=>some !c) (Op h)
theorem kA (h:s=t):fo.g (.str s) (.str t)=some false:=congrArg (fun c=>some !c) (NP h)
end
theorem ze {t:CI} {x:D} {xs:List D} (h:Ev K it ρ σ v) (h1:uz v σ=some (x,xs)) (h2:dF v x i (t.ts K) (bM.ev K) ρ xs [] σ=some (.ok l,σ')) (hK:K.hd=false):mt i it t bM K ρ σ=some (.ok l,σ'):=by
 unfold mt gI;rw[hK];refine aB h ?_;show (uz v σ).bind _=_;rw[h1,NA,h2];rfl
theorem dy {t:CI} {x:D} {xs:List D} (h:Ev K it ρ σ v) (h1:uz v σ=some (x,xs)) (h2:dF v x i (t.ts K) (bM.ev K) ρ xs [] σ=some (.ok l,σ')) (hK:K.hd=false:=by rfl):(gk i it t bM).ev K ρ σ=some (.ok l,σ'):=ze h h1 h2 hK
theorem sW {t:CI} (h:mt i it t bM K ρ σ=some (.ok l,σ')) (k:ρ.set j (dV (.lst l))=ρ'):(qo false j i it t bM).ex K ρ σ=some (.next ρ',σ'):=by
 subst k;exact db (aB h rfl) rfl
theorem zY {t:CI} (h:mt i it t bM K ρ σ=some (.ok l,σ')) (k:ρ.set j (qV σ'.length)=ρ'):(qo true j i it t bM).ex K ρ σ=some (.next ρ',σ'++[.fld (.list l)]):=by
 subst k;exact db (aB h rfl) rfl
theorem mo {f:CF} (h:f.ev K ρ σ=some (.ok l,σ')):(jm false f).ev K ρ σ=some (.ok (.d (.lst l)),σ'):=aB h rfl
theorem qF {y:D} {w:PV} (hs:bN σ y w=true) (f g:α->D):∀ (xs:List α) (acc:List D),(∀ x∈xs,Ev K bM (ρ.set i (dV (f x))) σ (.d (g x)))->acc.length+xs.length<=1000000->dF w y i (cR.ts K) (bM.ev K) ρ (xs.map f) acc σ=some (.ok (acc++xs.map g),σ):=by
 intro xs
 induction xs with
 |nil=>
  intro acc _ _;rw[List.map_nil,List.map_nil,List.append_nil];rfl
 |cons x xs ih=>
  intro acc h hl;have e:=h x (.head _);rw[NI] at hl;have ih:=ih (acc++[g x]) (fun z hz=>h z (.tail _ hz)) (by rw[NC,NL];exact MK hl);rw[List.map_cons,List.map_cons,List.append_cons,<-ih];show (match bM.ev K (ρ.set i (dV (f x))) σ with
   |some (.ok (.d z),σ'')=>if bN σ'' y w/\acc.length<cS then dF w y i (cR.ts K) (bM.ev K) ρ (xs.map f) (acc++[z]) σ'' else none
   |some (.ex c,σ'')=>some (.ex c,σ'')
   |_=>none)=_
  rw[e];exact if_pos ⟨hs,NZ (NK (Os _ _) hl) (by decide)⟩
theorem d8 {y:D} (f g:α->D):∀ (xs:List α) (acc:List D),(∀ x∈xs,Ev K bM (ρ.set i (dV (f x))) σ (.d (g x)))->acc.length+xs.length<=1000000->dF (.d y) y i (cR.ts K) (bM.ev K) ρ (xs.map f) acc σ=some (.ok (acc++xs.map g),σ):=qF rfl f g
theorem zh (p:α->Bool):∀ xs:List α,kc (xs.map fun x=>.bool (p x))=some (xs.map p):=by
 intro xs
 induction xs with
 |nil=>
  exact rfl
 |cons x xs ih=>
  show (kc (xs.map fun x=>.bool (p x))).map (p x::·)=_;rw[ih];rfl
theorem E2 (p:α->Bool) (xs:List α):rU.g false [.d (.lst (xs.map fun x=>.bool (p x)))] σ=some (.ok (.d (.bool (xs.all p))),σ):=by
 show (Option.map _ (Option.map _ (kc (xs.map fun x=>.bool (p x)))))=_;rw[zh];show some (R.ok (PV.d (.bool ((xs.map p).all id))),σ)=_;rw[List.all_map];rfl
theorem eq {x:D} {xs:List D} (h:items x=some xs):uz (.d x) σ=some (x,xs):=by
 show (Option.map _ (items x))=_;rw[h];rfl
theorem fp {t:List Nat} {p:Nat->Bool} (h:Ev K it ρ σ (.d (.str t))) (hl:t.length<=1000) (k:∀ c∈t,Ev K bM (ρ.set i (sV [c])) σ (.d (.bool (p c)))) (hK:K.hd=false:=by rfl):Ev K (bi rU (aj (jm false (gk i it cR bM)) ao)) ρ σ (.d (.bool (t.all p))):=by
 have e:items (.str t)=some (t.map fun c=>.str [c]):=if_pos (NK hl (by decide));refine cr (b7 (mo (dy h (eq e) (d8 (fun c=>.str [c]) (fun c=>.bool (p c)) t [] k (by rw[Oo];exact Kw hl)) hK))) ?_;rw[hK];exact E2 p t
end
noncomputable def fE:List Nat:=OG
noncomputable def lq:List Nat:=OK
noncomputable def DO:List Nat:=OL
noncomputable def br (t:List Nat):Bool:=decide (t.length=3)&&t.all fun c=>decide (c∈fE)
def b' (n:Int):Prop:=0<=n/\n<=99999
def dG (t:List Nat):Prop:=t.length<=40/\∀ c∈t,32<=c/\c<=126
noncomputable def eg (a:Int):Bool:=decide (a≠0)&&(decide (-(10^30)<a)&&decide (a<10^30))
section
theorem wX {a b:Nat} (h:a<=b):lL.g (.str [a]) (.str [b])=some true:=by
 show some (if a<b then true else if a=b then true else false)=_;rcases Nat.lt_or_eq_of_le h with q|q
 .rw[if_pos q]
 .rw[if_neg (H8 q),if_pos q]
theorem lW {n:Int} (h:b' n):CC (d+1) hd 3 [.d (.int n)] σ=some (.ok (.d .none),σ):=
 d9 rfl rfl rfl (aa (aY (bc (a_ (ak rfl rfl rfl rfl (hO (OA.mpr h.1))) (a_ (ak rfl rfl rfl rfl (j6 (OA.mpr h.2))) rfl))) rfl) rfl) (tk σ)
theorem ti {n:Int} (h:¬b' n):CC (d+1) false 3 [.d (.int n)] σ=some (.ex 4,σ):=by
 refine cO rfl rfl rfl (bv (bp (bc ?_) rfl)) (tk σ);by_cases q:n<0
 .exact dB (ak rfl rfl rfl rfl (n_ q))
 .exact a_ (ak rfl rfl rfl rfl (hO q)) (dB (ak rfl rfl rfl rfl (rH (by unfold b' at h;exact KZ h q))))
theorem Bu {t:List Nat} (hl:t.length<=1000):Ts (KK d false) (fN (aW (aF fo (bi bh (aj (ag 0) ao)) (ah 3)) (aW (dM (li (bi rU (aj (jm false (gk 1 (ag 0) cR (qd oW (ag 1) (vp "GREAT" (none,OG))))) ao)))) cw))) [sV t,none] σ (!br t):=by
 refine bc ?_;have e:=fp (K:=KK d false) (ρ:=[sV t,none]) (σ:=σ) (i:=1) (it:=ag 0) (p:=fun c=>decide (c∈fE)) (bM:=qd oW (ag 1) (vp "GREAT" (none,OG))) rfl hl fun c _=>rfl;have l:Ev (KK d false) (bi bh (aj (ag 0) ao)) [sV t,none] σ (.d (.int t.length)):=cr (b7 rfl) (kK (NK hl (by decide)));by_cases q:t.length=3
 .unfold br;rw[NP q,Bool.true_and];refine a_ (ak l rfl rfl rfl (iw (by rw[q];rfl))) ?_;cases z:t.all fun c=>decide (c∈fE) with
  |true=>rw[z] at e;exact a_ (iB (cU e)) rfl
  |false=>rw[z] at e;exact dB (iB (cU e))
 .unfold br;rw[Op q];exact dB (ak l rfl rfl rfl (yr (Nat.ToInt.of_diseq rfl rfl q)))
theorem dD {t:List Nat} (h:br t=true):t.length=3:=Of (ai h)
theorem eU {t:List Nat} (h:br t=true):CC (d+1) false 5 [.d (.str t)] σ=some (.ok (.d .none),σ):=by
 have e:=Bu (d:=d) (σ:=σ) (t:=t) (by rw[dD h];decide);rw[h] at e;exact d9 rfl rfl rfl (aa (aY e rfl) rfl) (tk σ)
theorem tj {t:List Nat} (hl:t.length<=1000) (h:br t=false):CC (d+1) false 5 [.d (.str t)] σ=some (.ex 2,σ):=by
 have e:=Bu (d:=d) (σ:=σ) (t:=t) hl;rw[h] at e;exact cO rfl rfl rfl (bv (bp e rfl)) (tk σ)
theorem kB {t:List Nat} (h:dG t):CC (d+1) false 16 [.d (.str t)] σ=some (.ok (.d .none),σ):=by
 have hl:t.length<=1000:=NK h.1 (by decide);have e:=fp (K:=KK d false) (ρ:=[sV t,none]) (σ:=σ) (i:=1) (it:=ag 0) (p:=fun _=>true) (bM:=vY lL lL (aC [32]) (ag 1) (aC [126])) rfl hl fun c hc=> ?_
 .rw[show (t.all fun _=>true)=true from List.all_eq_true.mpr fun _ _=>rfl] at e;exact d9 rfl rfl rfl (aa (aY (bc (a_ (ak (cr (b7 rfl) (kK (NK hl (by decide)))) rfl rfl rfl (j6 (by have:=h.1;exact OA.mpr (Oa.mpr this)))) (a_ (iB (cU e)) rfl))) rfl) rfl) (tk σ)
 .exact kP rfl rfl rfl rfl rfl rfl (wX (h.2 c hc).1) (wX (h.2 c hc).2)
theorem pO {a:Int}:CC (d+1) hd 12 [.d (.int a)] σ=some (.ok (.d (.bool (eg a))),σ):=by
 refine bA rfl rfl rfl (aS (aT (kS ?_))) (tk σ);by_cases q:a=0
 .rw[q];exact rfl
 .refine j8 (gi rfl rfl rfl rfl (yr q)) ?_;unfold eg;rw[NP q,Bool.true_and];exact kR (kP rfl rfl rfl rfl rfl rfl rfl rfl)
end
section
theorem bj (h:n<=1000):n<=cS:=NK h (by decide)
theorem j2 (h:n<=1000):n<cS:=NZ h (by decide)
end
section
theorem wz {a:List Nat}:D.str a∈ns.map D.str<->a∈ns:=by
 constructor
 .intro h;obtain ⟨b,hb,e⟩:=NQ.mp h;cases e;exact hb
 .exact fun h=>List.mem_map_of_mem h
theorem xe {a:List Nat}:IP (.str a) (.lst (ns.map .str))=some (@decide (D.str a∈ns.map D.str) (Classical.propDecidable _)):=by
 have h:(pl 8 (.str a)&&(ns.map D.str).all (pl 8))=true:=Bool.and_eq_true_iff.mpr ⟨rfl,List.all_eq_true.mpr fun x hx=>by
  obtain ⟨b,_,e⟩:=NQ.mp hx;rw[<-e];rfl⟩
 unfold IP;show aq _ _=_;unfold aq;rw[if_pos h];congr
theorem Gx {a:List Nat} (h:a∈ns):Jk.g (.str a) (.lst (ns.map .str))=some true:=xe.trans (congrArg some (@NP _ (_) (wz.mpr h)))
theorem Gy {a:List Nat} (h:a∉ns):Jk.g (.str a) (.lst (ns.map .str))=some false:=xe.trans (congrArg some (@Op _ (_) fun q=>h (wz.mp q)))
theorem wP {a:List Nat} (h:a∈ns):lK.g (.str a) (.lst (ns.map .str))=some false:=congrArg (Option.map fun c=> !c) (Gx h)
theorem th {a:List Nat} (h:a∉ns):lK.g (.str a) (.lst (ns.map .str))=some true:=congrArg (Option.map fun c=> !c) (Gy h)
end
section
theorem fk {l:av}:cq (l++[.fld f]) l.length 0=some f:=by
 unfold cq;rw[eR];rfl
theorem mR {l:av} {o:PO}:(l++[o]).set l.length o'=l++[o']:=by
 rw[List.set_append_right _ _ (NM _),Nat.sub_self];rfl
theorem ji {l:av}:eT (l++[.fld f]) l.length 0 f'=l++[.fld f']:=by
 unfold eT;rw[eR];exact mR
theorem FJ {l:av} {x:D} (h:f.rd=some x):rd (l++[.fld f]) (.p l.length 0)=some x:=by
 show (cq (l++[.fld f]) l.length 0).bind cB.rd=_;rw[fk];exact h
theorem Fy {k v:D} {vs:List D} (h:oH k ks=true) (hl:ks.length<100000):sU k v (.dict ks vs)=some (.dict (jC k ks) (jB k v ks vs)):=aM ⟨h,hl⟩
theorem rg {k v:D} (h:cq σ n j=some f) (h2:sU k v f=some f'):sT (.p n j) k v σ=some (eT σ n j f'):=by
 show (cq σ n j).bind _=_;rw[h,NA,h2];rfl
theorem GP {b:CE} {vs:List D} {k z:D} (h:Ev K o ρ σ x) (r1:rd σ x=some (.dct ks vs)) (h1:Ev K a ρ σ (.d k)) (h2:Ev K b ρ σ (.d z)) (hf:oH k ks=true):Ev K (bm yv o (aj a (aj b ao))) ρ σ (.d ((fQ k ks vs).getD z)):=by
 refine aB h ?_;show (match (rd σ x).any Gw with|true=>_|false=>none)=_
 rw[r1];refine aB (bT h1 (b7 h2)) ?_;show ((rd σ x).bind fun u=>(A8 u k z).map _)=_;rw[r1,NA];show (aq (oH k ks=true) _).map _=_;rw[aM hf];rfl
theorem Dw {l:CS} {x:D} {z:Option (Out×av)} (h:ρ[i]? =some (some v)) (h1:vn v σ=some (.d x,σ')) (k:l.ex K (ρ.set i (dV x)) σ'=z):(FB i l).ex K ρ σ=z:=by
 show ((ρ[i]?).join).bind _=z;rw[h];show (vn v σ).bind _=z;rw[h1];exact k
theorem Dx {l:av} {x:D} (h:f.rd=some x):vn (.p l.length 0) (l++[.fld f])=some (.d x,l++[.dead]):=by
 show ((cq (l++[.fld f]) l.length 0).bind fun g=>g.rd.map fun x=>(PV.d x,(l++[PO.fld f]).set l.length .dead))=_;rw[fk,NA,h];show some (PV.d x,_)=_;rw[mR]
end
section
noncomputable def bu:List Nat:=OM
end
section
noncomputable def dQ:List Nat:=OT
def gf (c:List Nat):Prop:=∃ x r,c=x::r/\r.length<=11/\x∈lq/\∀ y∈r,y∈dQ
theorem ou {t:List Nat} (h:gf t):CC (d+1) false 36 [.d (.str t)] σ=some (.ok (.d (.bool true)),σ):=by
 refine bJ fun G9 k9=> ?_;obtain ⟨x,q,rfl,h1,h2,h3⟩:=h;refine k9 ?_;have hs:∀ y∈lq,y∈dQ:=by decide
 have hl:(x::q).length<=1000:=by rw[NI];exact NZ h1 (NH rfl)
 have e:=fp (K:=KK d false) (ρ:=[sV (x::q),none]) (σ:=σ) (i:=1) (it:=ag 0) (t:=x::q) (p:=fun _=>true) (bM:=qd oW (ag 1) (aP a' (vp "SMALL" (none,OK)) (vp "FIGURES" (none,OL)))) rfl hl fun c hc=> ?_
 .rw[show ((x::q).all fun _=>true)=true from List.all_eq_true.mpr fun _ _=>rfl] at e;have l:Ev (KK d false) (bi bh (aj (ag 0) ao)) [sV (x::q),none] σ (.d (.int (x::q).length)):=cr (b7 rfl) (kK (bj hl));refine bA rfl rfl (ρ:=[sV (x::q),none]) rfl (aa (aY (bc (a_ (ak l rfl rfl rfl (hO ?_)) (a_ (ak l rfl rfl rfl (j6 ?_)) (a_ (ak (bB rfl rfl rfl rfl (A5 (k:=0) rfl)) rfl rfl rfl ?_) rfl)))) rfl) (aS (aT e))) (tk _)
  .rw[NI];exact LZ
  .rw[NI];exact OA.mpr (Oa.mpr (Ow h1))
  .exact congrArg (fun c=>some !c) (NP h2)
 .refine gi rfl rfl rfl rfl ?_;refine congrArg some (NP ?_);rcases NB.mp hc with z|z
  .rw[z];exact hs x h2
  .exact h3 c z
theorem uq (h1:a.ev K ρ σ=some (.ok v,σ')) (h2:Ev K o ρ σ' x) (h3:zX k x v σ'=some σ''):(jA o k a).ex K ρ σ=some (.next ρ,σ''):=by
 refine db h1 (db h2 ?_);show (zX k x v σ').bind _=_;rw[h3];rfl
end
section
variable {n m:Int}
theorem DL {l:av} (h:cq σ i j=some f):cq (σ++l) i j=some f:=by
 obtain ⟨o,e1,e2⟩:=am h;unfold cq;rw[Oj (ND.mp e1).1,e1];exact e2
theorem FK {l:av} {x:D} (h:rd σ (.p i j)=some x):rd (σ++l) (.p i j)=some x:=by
 obtain ⟨f,e1,e2⟩:=am h;show (cq (σ++l) i j).bind cB.rd=_;rw[DL e1];exact e2
noncomputable def cell (sc:List Int) (k:Nat):Int:=sc.getD k 0
theorem BD (hs:sc.length<=63) (hk:k<=1000):CC (d+1) hd 33 [.d (.lst (sc.map .int)),.d (.int k)] σ=some (.ok (.d (.int (cell sc k))),σ):=by
 have hl:(sc.map D.int).length=sc.length:=Nz ..;have l:Ev (KK d hd) (bi bh (aj (ag 0) ao)) [dV (.lst (sc.map .int)),iV k] σ (.d (.int sc.length)):=by
  have e:=om (hd:=hd) (σ:=σ) (x:=.d (.lst (sc.map .int))) rfl (by rw[hl];exact bj (Ho hs));rw[hl] at e;exact cr (b7 rfl) e
 by_cases q:k<sc.length
 .refine bA rfl rfl (ρ:=[dV (.lst (sc.map .int)),iV k]) rfl (aS (bp (ak rfl l rfl rfl (n_ (Ob.mpr q))) (aS (aT (bB rfl rfl rfl rfl (c5 ?_ (NK hk (NH rfl)))))))) (tk _);rw[NR,NE q,cell,NT,NE q];rfl
 .rw[show cell sc k=0 by rw[cell,NT,List.getElem?_eq_none (Nat.le_of_not_lt q)];rfl];exact bA rfl rfl (ρ:=[dV (.lst (sc.map .int)),iV k]) rfl (aa (aY (ak rfl l rfl rfl (hO (LY q))) rfl) rfl) (tk _)
theorem ic {t:CE} {l:List Nat} {a k:Int} (h1:Ev K t ρ σ (.d (.str l))) (h2:Ev K e ρ σ (.d (.int a))) (h3:0<k) (h4:k<=l.length) (h5:l.length<=1000):Ev K (sub t (aP bY e (ah k))) ρ σ (.d (.str [l.getD (a.fmod k).toNat 0])):=by
 have q:=bL (a:=a) (b:=k) h3;have hk:(a.fmod k).toNat<l.length:=o8 h4 q;refine bB h1 (aR h2 rfl rfl rfl (l7 h3 (LV h4 h5))) rfl rfl ?_;have e:a.fmod k=(((a.fmod k).toNat:Nat):Int):=by exact (Od q.1).symm
 rw[e];refine A5 ?_ (LL h5 hk);rw[Int.toNat_natCast,NT,NE hk];rfl
theorem iH {l:List Nat} {a k:Int} (h1:0<k) (h2:k<=l.length):l.getD (a.fmod k).toNat 0∈l.take k.toNat:=by
 have r:=bL (a:=a) (b:=k) h1;rw[NT,NE (o8 h2 r),Option.getD_some];exact List.mem_take_iff_getElem.mpr ⟨(a.fmod k).toNat,LX h2 r,rfl⟩
theorem kO {a k:Int} (h:Ev K e ρ σ (.d (.int a))) (h1:0<k:=by decide) (h2:k<2^250:=by decide):Ev K (aP dI e (ah k)) ρ σ (.d (.int (a.fdiv k))):=aR h rfl rfl rfl (IY h1 h2)
theorem jP {a k:Int} (h:Ev K e ρ σ (.d (.int a))) (h1:0<k:=by decide) (h2:k<2^250:=by decide):Ev K (aP bY e (ah k)) ρ σ (.d (.int (a.fmod k))):=aR h rfl rfl rfl (l7 h1 h2)
theorem kU:∃ t,br t=true/\CC (d+1) hd 41 [.d (.int n)] σ=some (.ok (.d (.str t)),σ):=by
 have g:=fun a:Int=>List.mem_of_mem_take (iH (l:=fE) (a:=a) (k:=26) (by decide) (by decide));refine ⟨[fE.getD (n.fmod 26).toNat 0]++[fE.getD ((n.fdiv 26).fmod 26).toNat 0]++[fE.getD ((n.fdiv 676).fmod 26).toNat 0],?_,?_⟩
 .show (true&&(decide _&&(decide _&&(decide _&&true))))=true;rw[NP (g _),NP (g _),NP (g _)];rfl
 .refine bA rfl rfl (ρ:=[iV n,none,none]) rfl ?_ (tk _);refine aa rfl ?_;refine aa (az (ic (l:=fE) rfl rfl (by decide) (by decide) (by decide)) rfl) ?_;refine aa (az (aR rfl (ic (l:=fE) rfl rfl (by decide) (by decide) (by decide)) rfl rfl rfl) rfl) ?_;exact aS (aT (aR rfl (ic (l:=fE) rfl rfl (by decide) (by decide) (by decide)) rfl rfl rfl))
theorem vh (a b c:Int):items (.rng a b c)=aq ((bQ a&&bQ b&&decide (0<c)&&decide (c<1000)&&decide (eY a b c<=100000))=true) ((List.range (eY a b c)).map fun (i:Nat)=>.int (a+(i:Int)*c)):=rfl
theorem HL (b:Int):oI.g hd [.d (.int b)] σ=(aq (bQ b=true) (D.rng 0 b 1)).map fun z=>(R.ok (PV.d z),σ):=rfl
theorem lC (h:k<=1000):items (.rng 0 k 1)=some ((List.range k).map fun (i:Nat)=>.int i):=by
 have e:eY 0 k 1=k:=by
  unfold eY;split
  .rw[Int.ediv_one];exact LW
  .exact LU (by assumption)
 rw[vh,aM]
 .rw[e];refine congrArg some (List.map_congr_left fun i _=> ?_);rw[Int.mul_one,Int.zero_add]
 .rw[e,dj (by decide) (by decide),dj (B0) (JM h),NP (by decide),NP (by decide),NP (NK h (NH rfl))];rfl
theorem vQ (h:Ev K e ρ σ (.d (.int k))) (hk:k<=1000):Ev K (bi oI (aj e ao)) ρ σ (.d (.rng 0 k 1)):=by
 refine cr (b7 h) ?_;rw[HL,aM (dj (B0) (JM hk))];rfl
end
section
variable {n m:Int}
theorem fh {lo hi:CP} {l h:PV} {u1 u2 z:D} (h1:Ev K a ρ σ x) (h2:lo.ev K ρ σ=some (.ok l,σ)) (h3:hi.ev K ρ σ=some (.ok h,σ)) (r1:rd σ x=some u) (r2:km l=some u1) (r3:km h=some u2) (e:dm u u1 u2=some z):Ev K (mQ a lo hi) ρ σ (.d z):=by
 refine aB h1 (aB h2 (aB h3 ?_));show (rd σ x).bind _=_;rw[r1,NA,r2,NA,r3,NA,e];rfl
theorem k7 (h:a.ev K ρ σ=z):(gQ a).ev K ρ σ=z:=h
theorem HM {s:List Nat} {i:Int} (h0:0<=i) (h1:i<=s.length):dm (.str s) .none (.int i)=some (.str (s.take i.toNat)):=by
 show ((aq (0<=i) i.toNat).bind fun h=>aq (0<=h/\h<=s.length) (D.str (bf s 0 h)))=_;rw[aM h0,NA,aM ⟨N3 _,by exact Int.toNat_le.mpr h1⟩,bf,List.drop_zero,Nat.sub_zero]
theorem FQ {s:List Nat} {i:Int} (h0:0<=i) (h1:i<=s.length):dm (.str s) (.int i) .none=some (.str (s.drop i.toNat)):=by
 show ((aq (0<=i) i.toNat).bind fun l=>aq (l<=s.length/\s.length<=s.length) (D.str (bf s l s.length)))=_;rw[aM h0,NA,aM ⟨by exact Int.toNat_le.mpr h1,NM _⟩,bf,List.take_of_length_le (by rw[List.length_drop];exact NM _)]
theorem sH {t sg:List Nat} (h1:1<=t.length) (h2:t.length<=50) (hs:sg.length=26):∃ k y,k<t.length/\y∈sg/\CC (d+1) hd 40 [.d (.str t),.d (.int n),.d (.str sg)] σ=some (.ok (.d (.str (t.set k y))),σ):=by
 have r:=bL (a:=n) (b:=t.length) (H_ h1);have q:n.fmod t.length=(((n.fmod t.length).toNat:Nat):Int):=by exact (Od r.1).symm
 have hk:(n.fmod t.length).toNat<t.length:=by exact (Int.toNat_lt r.1).mpr r.2
 generalize (n.fmod t.length).toNat=k at q hk;have g:=List.mem_of_mem_take (iH (l:=sg) (a:=n.fdiv 13) (k:=26) (by decide) (by rw[hs];decide));refine ⟨k,_,hk,g,?_⟩;have e1:Ev (KK d hd) (aP bY (ag 1) (bi bh (aj (ag 0) ao))) [sV t,iV n,sV sg,none] σ (.d (.int k)):=by
  rw[<-q];exact aR rfl (cr (b7 rfl) (kK (bj (NK h2 (NH rfl))))) rfl rfl (l7 (H_ h1) (Ob.mpr (NZ h2 (NH rfl))))
 have e2:=ic (K:=KK d hd) (ρ:=[sV t,iV n,sV sg,iV k]) (σ:=σ) (t:=ag 2) (l:=sg) (e:=aP dI (ag 1) (ah 13)) (a:=n.fdiv 13) (k:=26) rfl rfl (by decide) (by rw[hs];decide) (NK (On hs) (NH rfl));rw[List.set_eq_take_append_cons_drop,if_pos hk,List.append_cons];have p1:=HM (s:=t) (i:=k) (o9) (LS r q);have p2:=FQ (s:=t) (i:=(k:Int)+1) (LR) (LQ r q);rw[Int.toNat_natCast] at p1;rw[show ((k:Int)+1).toNat=k+1 by exact LP] at p2;refine bA rfl rfl (ρ:=[sV t,iV n,sV sg,none]) rfl (aa (az e1 rfl) (aS (aT (aR (aR (fh rfl rfl rfl rfl rfl rfl p1) e2 rfl rfl (kM ?_)) (fh rfl rfl rfl rfl rfl rfl p2) rfl rfl (kM ?_))))) (tk _)
 .rw[List.length_take,NL];exact bj (Nat.succ_le_of_lt (NZ (NK (Nat.min_le_right _ _) h2) (by decide)))
 .rw[NC,List.length_take,NL,List.length_drop];exact bj (NK (Nat.add_le_add (Ow (NK (Nat.min_le_right _ _) h2)) (NK (Nat.sub_le _ _) h2)) (by decide))
theorem F1 {t:List Nat} {y:Nat} (h:gf t) (hy:y∈lq):gf (t.set k y):=by
 refine bJ fun G9 k9=> ?_;obtain ⟨x,r,rfl,h1,h2,h3⟩:=h;refine k9 ?_;have hs:∀ y∈lq,y∈dQ:=by decide
 cases k with
 |zero=>exact ⟨y,r,rfl,h1,hy,h3⟩
 |succ k=>
  refine ⟨x,r.set k y,rfl,by rw[N1];exact h1,h2,fun z hz=> ?_⟩;rcases List.mem_or_eq_of_mem_set hz with hz|rfl
  .exact h3 z hz
  .exact hs _ hy
theorem D1 {t:List Nat} {y:Nat} (h:br t=true) (hy:y∈fE):br (t.set k y)=true:=by
 rw[br,Bool.and_eq_true,decide_eq_true_eq,List.all_eq_true] at h ⊢;refine ⟨by rw[N1];exact h.1,fun z hz=> ?_⟩;rcases List.mem_or_eq_of_mem_set hz with hz|rfl
 .exact h.2 z hz
 .exact NP hy
theorem nS {t:List Nat} (h:gf t):1<=t.length/\t.length<=12:=by
 refine bJ fun G9 k9=> ?_;obtain ⟨x,r,rfl,h1,_⟩:=h;refine k9 ?_;rw[NI];exact LO h1
theorem Fx {v:D} (h:k<l.length) (hl:l.length<=1000):sU (.int k) v (.list l)=some (.list (l.set k v)):=by
 have e:∀ i:Int,sU (.int i) v (.list l)=(aq (bQ i=true) ()).bind fun _=>(cV i l.length).map fun j=>cB.list (l.set j v):=fun i=>rfl;rw[e,aM (dj (B0) (Oa.mpr (NK (Oc h) (NK hl (by decide))))),NA,nJ h];rfl
theorem IJ (h:rd σ (.p i j)=some (.lst l)) (hl:l.length<=1000):uz (.p i j) σ=some (.lst l,l):=by
 unfold uz;rw[h];show (Option.map _ (aq (l.length<=cS) l))=_;rw[aM (bj hl)];rfl
end
section
theorem xS {F:List (List Nat)} {a b c:List Nat} (ha:a∈F) (hb:b∈F) (hc:c∈F) (h1:a≠b) (h2:a≠c) (h3:b≠c):3<=F.length:=by
 refine bJ fun G9 k9=> ?_;obtain ⟨i,hi,rfl⟩:=List.mem_iff_getElem.mp ha;obtain ⟨j,hj,rfl⟩:=List.mem_iff_getElem.mp hb;obtain ⟨k,hk,rfl⟩:=List.mem_iff_getElem.mp hc;refine k9 ?_;have q1:i≠j:=fun q=>h1 (by subst q;rfl);have q2:i≠k:=fun q=>h2 (by subst q;rfl);have q3:j≠k:=fun q=>h3 (by subst q;rfl);exact LN hi hj hk q1 q2 q3
noncomputable def ug:List (List Nat):=[[69,85,82],[74,80,89],[85,83,68],[75,87,68],[67,72,70],[71,66,80],[83,69,75],[69,85,83]]
theorem D0:∀ x∈ug,br x=true:=by decide
variable {n m:Int}
theorem v6 {b:CE} {m:List D} (h1:Ev K a ρ σ x) (h2:Ev K b ρ σ y) (r1:rd σ x=some (.lst l)) (r2:rd σ y=some (.lst m)) (hl:l.length+m.length<=1000):(jm true (yu a b)).ev K ρ σ=some (.ok (.p σ.length 0),σ++[.fld (.list (l++m))]):=by
 refine aB (a:=l++m) (σ':=σ) (aB h1 (aB h2 ?_)) rfl;show ((((rd σ x).bind lD).bind fun l=>((rd σ y).bind lD).bind fun m=>aq (l.length+m.length<=cS) (l++m)).map fun z=>(R.ok z,σ))=_;rw[r1,r2];show (aq (l.length+m.length<=cS) (l++m)).map _=_;rw[aM (bj hl)];rfl
end
section
variable {F:List (List Nat)} {w:List Nat} {L:Int}
noncomputable def BX (L:Int) (F:List (List Nat)) (w:List Nat):List (List Nat):=if w∈F∨L<=F.length then F else F++[w]
structure Cu (L:Int) (P:List Nat->Prop) (ws F:List (List Nat)):Prop where
 nd:F.Nodup
 le:(F.length:Int)<=L
 al:∀ x∈F,P x
 mm:∀ x∈ws,x∈F∨L<=F.length
theorem GT {P:List Nat->Prop} {ws:List (List Nat)} (h:Cu L P ws F) (hw:P w):Cu L P (w::ws) (BX L F w):=by
 unfold BX;by_cases q:w∈F∨L<=F.length
 .rw[if_pos q];refine ⟨h.nd,h.le,h.al,fun x hx=> ?_⟩;rcases NB.mp hx with rfl|hx
  .exact q
  .exact h.mm x hx
 .rw[if_neg q];refine ⟨List.nodup_append.mpr ⟨h.nd,Oi.mpr ⟨NV,Ol⟩,fun a ha c hc=>by rw[NG.mp hc];rintro rfl;exact q (.inl ha)⟩,by rw[NC];exact Int.not_le.mp fun z=>q (.inr z),fun x hx=> ?_,fun x hx=>.inl ?_⟩
  .rcases NS.mp hx with z|z
   .exact h.al x z
   .rw[NG.mp z];exact hw
  .rcases NB.mp hx with rfl|hx
   .exact List.mem_append_right _ (.head _)
   .exact List.mem_append_left _ ((h.mm x hx).resolve_right fun z=>q (.inr z))
end
section
variable {n m:Int}
theorem AR {h:k<nX} (h1:Ev K e ρ σ (.d (.exc c))) (hc:c<nX):Ev K (lf (ql k h) e) ρ σ (.d (.bool (c==k||k==0))):=by
 refine aB h1 ?_;show ((aq (c<nX/\k<nX) (c==k||k==0)).map fun b=>(R.ok (PV.d (.bool b)),σ))=_;rw[aM ⟨hc,h⟩];rfl
theorem IK (h1:Ev K e ρ σ (.d (.exc c))) (hc:c<nX):Ev K (lf MA e) ρ σ (.d (.bool true)):=by
 refine aB h1 ?_;show ((aq (c<nX) true).map fun b=>(R.ok (PV.d (.bool b)),σ))=_;rw[aM hc];rfl
noncomputable def ix (b:Bool):Int:=if b then 1 else 0
theorem IN {b:Bool} (h:Ev K e ρ σ (.d (.bool b))):Ev K (bi dL (aj e ao)) ρ σ (.d (.int (ix b))):=cr (b7 h) rfl
theorem fe {h:k<nX} (h1:Ev K (ag 0) ρ σ (.d (.exc c))) (hc:c<nX):Ev K (bi dL (aj (lf (ql k h) (ag 0)) ao)) ρ σ (.d (.int (ix (c==k||k==0)))):=IN (AR h1 hc)
theorem ew {b:CE} {x y:Int} (h1:Ev K a ρ σ (.d (.int x))) (h2:Ev K b ρ σ (.d (.int y))):Ev K (aP a' a b) ρ σ (.d (.int (x+y))):=aR h1 h2 rfl rfl rfl
end
section
variable {n m:Int}
theorem yS {x acc:List Nat} {l:FS} {z:Option (R (List Nat)×av)} (hl:acc.length+x.length<=100000) (h:l.ev K ρ (acc++x) σ=z):(uB x l).ev K ρ acc σ=z:=by
 show (aq (acc.length+x.length<=cS) ()).bind _=z;rw[aM (NK hl (by decide))];exact h
theorem yR {t acc:List Nat} {l:FS} {z:Option (R (List Nat)×av)} (h1:Ev K a ρ σ (.d u)) (h2:DK u=some t) (hl:acc.length+t.length<=100000) (h:l.ev K ρ (acc++t) σ=z):(uA a l).ev K ρ acc σ=z:=by
 refine aB h1 ?_;show (DK u).bind _=z;rw[h2,NA];show (aq (acc.length+t.length<=cS) ()).bind _=z;rw[aM (NK hl (by decide))];exact h
theorem xp {l:FS} {t:List Nat} (h:l.ev K ρ [] σ=some (.ok t,σ)):Ev K (yQ l) ρ σ (.d (.str t)):=aB h rfl
theorem t5 {i:Int} (h:i.natAbs<10^31):DK (.int i)=some (aH i)/\(aH i).length<=32:=by
 have h1:i.natAbs.log2<128:=by
  by_cases q:i.natAbs=0
  .rw[q];decide
  .exact (Nat.log2_lt q).mpr (Ou h (by decide))
 refine ⟨aM (Ou h1 (by decide)),?_⟩;have h2:(aH i).length=(toString i).length:=PySem.ofString_length _;rw[h2];exact int_text_length_le10 (k:=31) (by decide) h
theorem HH {t:List Nat} (h1:Ev K e ρ σ (.d u)) (h:DK u=some t):Ev K (bi yV (aj e ao)) ρ σ (.d (.str t)):=by
 refine cr (b7 h1) ?_;show ((DK u).map D.str).map _=_;rw[h];rfl
theorem tQ {s:List Nat}:∀ ts:List (List Nat),(bS s ts).length<=(ts.map List.length).sum+ts.length*s.length
 |[]=>N3 _
 |[x]=>by show x.length<=x.length+0+1*s.length;exact MM
 |x::y::r=>by
  have k:=tQ (s:=s) (y::r);show (x++s++bS s (y::r)).length<=x.length+((y::r).map List.length).sum+((y::r).length+1)*s.length;rw[NC,NC,Nat.succ_mul];exact ML k
theorem sO:∀ ts:List (List Nat),ny (ts.map .str)=some ts:=by
 intro ts
 induction ts with
 |nil=>
  exact rfl
 |cons t ts ih=>
  show (ny (ts.map .str)).map (t::·)=_;rw[ih];rfl
theorem zL {ts:List (List Nat)} (h:∀ t∈ts,t.length<=k):(ts.map List.length).sum<=ts.length*k:=by
 induction ts with
 |nil=>exact N3 _
 |cons t ts ih=>
  rw[List.map_cons,List.sum_cons,NI,Nat.succ_mul];have:=ih fun x hx=>h x (.tail _ hx);have:=h t (.head _);exact LM (by assumption) this
theorem xn {s:List Nat} {ts:List (List Nat)} (h1:Ev K o ρ σ (.d (.str s))) (h2:Ev K a ρ σ x) (r:rd σ x=some (.lst (ts.map .str))) (hs:s.length<=15) (ht:∀ t∈ts,t.length<=600) (hl:ts.length<=1000):Ev K (bm lX o (aj a ao)) ρ σ (.d (.str (bS s ts))):=by
 refine aB h1 (aB (b7 h2) ?_);show ((rd σ x).bind fun v=>_)=_;rw[r,NA];show (((ny (ts.map .str)).bind fun ts=>aq ((ts.map List.length).sum+ts.length<=1048576/\s.length<=15) (D.str (bS s ts))).map _)=_;have h3:=zL ht;have h4:ts.length*600<=1000*600:=Nat.mul_le_mul_right _ hl;rw[sO,NA,aM ⟨by exact NK (Nat.add_le_add (NK h3 (Nat.mul_le_mul_right 600 hl)) hl) (by decide),hs⟩];rfl
end
section
variable {n m:Int}
noncomputable def wr (p:D):List Nat:=(DK p).getD []
end
section
variable {n m:Int}
theorem j7 {a b:List D} (h:a.length+b.length<=1000):a'.g (.lst a) (.lst b)=some (.lst (a++b)):=if_pos (bj h)
end
section
variable [DecidableEq α]
noncomputable def nq (a:α) (v:D):List (α×D)->List (α×D)
 |[]=>[(a,v)]
 |x::l=>if x.1=a then (x.1,v)::l else x::nq a v l
noncomputable def eW (a:α):List (α×D)->Option D
 |[]=>none
 |x::l=>if x.1=a then some x.2 else eW a l
variable {mk:α->D}
theorem wU (hk:∀ a b,fR (mk a) (mk b)=decide (a=b)) (a:α):∀ l:List (α×D),fQ (mk a) (l.map fun x=>mk x.1) (l.map (·.2))=eW a l:=by
 intro l
 induction l with
 |nil=>
  exact rfl
 |cons x l ih=>
  show (if fR (mk x.1) (mk a)=true then some x.2 else fQ (mk a) (l.map fun x=>mk x.1) (l.map (·.2)))=if x.1=a then some x.2 else eW a l;rw[hk,ih];by_cases h:x.1=a
  .rw[if_pos h,if_pos (NP h)]
  .rw[if_neg h,if_neg (by rw[Op h];exact NY)]
theorem FM (hk:∀ a b,fR (mk a) (mk b)=decide (a=b)) (a:α) (v:D):∀ l:List (α×D),jC (mk a) (l.map fun x=>mk x.1)=(nq a v l).map fun x=>mk x.1:=by
 intro l
 induction l with
 |nil=>
  exact rfl
 |cons x l ih=>
  show (if fR (mk x.1) (mk a)=true then mk x.1::l.map (fun x=>mk x.1) else mk x.1::jC (mk a) (l.map fun x=>mk x.1))=(if x.1=a then (x.1,v)::l else x::nq a v l).map fun x=>mk x.1;rw[hk,ih];by_cases h:x.1=a
  .rw[if_pos h,if_pos (NP h)];rfl
  .rw[if_neg h,if_neg (by rw[Op h];exact NY)];rfl
theorem FL (hk:∀ a b,fR (mk a) (mk b)=decide (a=b)) (a:α) (v:D):∀ l:List (α×D),jB (mk a) v (l.map fun x=>mk x.1) (l.map (·.2))=(nq a v l).map (·.2):=by
 intro l
 induction l with
 |nil=>
  exact rfl
 |cons x l ih=>
  show (if fR (mk x.1) (mk a)=true then v::l.map (·.2) else x.2::jB (mk a) v (l.map fun x=>mk x.1) (l.map (·.2)))=(if x.1=a then (x.1,v)::l else x::nq a v l).map (·.2);rw[hk,ih];by_cases h:x.1=a
  .rw[if_pos h,if_pos (NP h)];rfl
  .rw[if_neg h,if_neg (by rw[Op h];exact NY)];rfl
theorem AH {a b:α} {v:D}:∀ l:List (α×D),eW b (nq a v l)=if b=a then some v else eW b l:=by
 intro l
 induction l with
 |nil=>
  show (if a=b then some v else none)=if b=a then some v else none;by_cases h:b=a
  .rw[if_pos h,if_pos h.symm]
  .rw[if_neg h,if_neg fun e=>h e.symm]
 |cons x l ih=>
  show eW b (if x.1=a then (x.1,v)::l else x::nq a v l)=if b=a then some v else if x.1=b then some x.2 else eW b l;by_cases h:x.1=a
  .rw[if_pos h];show (if x.1=b then some v else eW b l)=_;by_cases k:b=a
   .rw[if_pos k,if_pos (h.trans k.symm)]
   .rw[if_neg k,if_neg fun e=>k (e.symm.trans h),if_neg fun e=>k (e.symm.trans h)]
  .rw[if_neg h];show (if x.1=b then some x.2 else eW b (nq a v l))=_;rw[ih];by_cases k:b=a
   .rw[if_pos k,if_neg fun e=>h (e.trans k),if_pos k]
   .rw[if_neg k,if_neg k]
theorem Dh {a:α} {v:D}:∀ l:List (α×D),(nq a v l).length<=l.length+1:=by
 intro l
 induction l with
 |nil=>
  exact NM _
 |cons x l ih=>
  show (if x.1=a then (x.1,v)::l else x::nq a v l).length<=_;by_cases h:x.1=a
  .rw[if_pos h];exact Oh _
  .rw[if_neg h];exact Ow (ih)
end
noncomputable abbrev Rw:=List Nat×Int×Int×Int
variable {rs:List Rw}
noncomputable def M6 (x:Rw):D:=.tup [.int x.2.2.1,.int x.2.2.2]
open Classical in
noncomputable def Ke (c:List Nat) (n:Int) (o:Option Rw) (x:Rw):Option Rw:=if x.1=c/\x.2.1<=n/\(∀ y,o=some y->y.2.1<=x.2.1) then some x else o
noncomputable def Jp (c:List Nat) (n:Int) (rs:List Rw):Option Rw:=rs.foldl (Ke c n) none
structure Mx (c:List Nat) (l:List (Int×D)) (n:Int) (y:Rw):Prop where
 c:y.1=c
 m:y.2.1∈l.map (·.1)
 le:y.2.1<=n
 mx:∀ k∈l.map (·.1),k<=n->k<=y.2.1
 at_:eW y.2.1 l=some (M6 y)
structure Mw (c:List Nat) (rs:List Rw) (l:List (Int×D)):Prop where
 no:∀ n,Jp c n rs=none->∀ k∈l.map (·.1),n<k
 yes:∀ n y,Jp c n rs=some y->Mx c l n y
section
theorem Me {a b:Int} (h:b<=a):Mq.g (.int a) (.int b)=some true:=congrArg some (NP h)
theorem Mf {a b:Int} (h:¬b<=a):Mq.g (.int a) (.int b)=some false:=congrArg some (Op h)
theorem wZ (a b:List Nat):fR (.str a) (.str b)=decide (a=b):=rfl
theorem rR {c:List Nat} (f:α->List Nat) (g:List α):oH (.str c) (g.map fun x=>.str (f x))=true:=by
 have:(g.map fun x=>D.str (f x)).all AT=true:=List.all_eq_true.mpr fun x hx=>by
  obtain ⟨y,_,e⟩:=NQ.mp hx;rw[<-e];rfl
 show (_||(true&&(g.map fun x=>D.str (f x)).all AT))=true;rw[this];exact Bool.or_true _
noncomputable def Mk (l:List (Int×D)):D:=.dct (l.map fun x=>.int x.1) (l.map (·.2))
variable {n b:Int} {c:List Nat} {m:List (List Nat×D)}
end
section
variable {n b:Int} {c:List Nat} {m:List (List Nat×D)}
theorem dT {l:CL} (h:a.ev K ρ σ=some (.ex k,σ')):(aj a l).ev K ρ σ=some (.ex k,σ'):=lN h
theorem bH {l:CL} (h:Ev K a ρ σ x) (e:l.ev K ρ σ=some (.ex k,σ')):(aj a l).ev K ρ σ=some (.ex k,σ'):=aB h (lN e)
theorem xz {f:Nat} {l:CL} (h:l.ev K ρ σ=some (.ex k,σ')):(au f l).ev K ρ σ=some (.ex k,σ'):=lN h
theorem rq {t:List Nat} (hl:t.length<=1000) (h:40<t.length):CC (d+1) false 16 [.d (.str t)] σ=some (.ex 5,σ):=
 cO rfl rfl rfl (bv (bp (bc (dB (ak (cr (b7 rfl) (kK (bj hl))) rfl rfl rfl (rH (Int.lt_of_toNat_lt h))))) rfl)) (tk σ)
end
section
variable {m:List (List Nat×D)} {h s:List Nat}
theorem Cb {h:CH} {z:Option (Out×av)} (h1:b.ex (KK d false) ρ σ=some (.ex c ρ',σ')) (hc:c<nX) (k:h.ex (KK d false) c ρ' σ'=z):(z0 b h).ex (KK d false) ρ σ=z:=by
 show Cc h (KK d false) (b.ex (KK d false) ρ σ)=z;rw[h1];show (if c<nX then h.ex (KK d false) c ρ' σ' else none)=z;rw[if_pos hc];exact k
theorem JU {h:CH} (h1:b.ex (KK d false) ρ σ=some (.next ρ',σ')):(z0 b h).ex (KK d false) ρ σ=some (.next ρ',σ'):=by
 show Cc h (KK d false) (b.ex (KK d false) ρ σ)=_;rw[h1];rfl
noncomputable def FP:List Nat:=(OQ++OR)++OS
theorem FO:∀ c∈FP,32<=c/\c<=126:=by decide
theorem Au {n:Int}:∃ t:List Nat,dG t/\∀ d σ,CC (d+1) false 56 [.d (.int n)] σ=some (.ok (.d (.str t)),σ):=by
 have q:=bL (a:=n) (b:=41) (by decide);have e:n.fmod 41=(((n.fmod 41).toNat:Nat):Int):=by exact (Od q.1).symm
 generalize hk:(n.fmod 41).toNat=k at e;have key:∀ (is:List Nat) (t:List Nat),(∀ c∈t,32<=c/\c<=126)->t.length+is.length<=40->(∀ i∈is,i<100)->∃ t',dG t'/\∀ d σ x3,∃ y3,c6 (.d (.rng 0 k 1)) (.rng 0 k 1) 3 (fun ρ=>nW.ex (KK d false) ρ) (is.map fun (i:Nat)=>.int i) [iV n,sV FP,sV t,x3] σ=some (.next [iV n,sV FP,sV t',y3],σ):=by
  intro is
  induction is with
  |nil=>exact fun t h hl _=>⟨t,⟨hl,h⟩,fun d σ x3=>⟨x3,rfl⟩⟩
  |cons i is ih=>
   intro t h hl hi;rw[NI] at hl;have g1:=iH (l:=FP) (a:=n.fdiv 41+n.fdiv 3854*i) (k:=94) (by decide) (by decide);obtain ⟨t',h',lp⟩:=ih (t++[FP.getD ((n.fdiv 41+n.fdiv 3854*i).fmod 94).toNat 0]) (fun c hc=>by
    rcases NS.mp hc with hc|hc
    .exact h c hc
    .rw[NG.mp hc];exact FO _ (List.mem_of_mem_take g1)) (by rw[NC,NL];exact LK hl) (fun j hj=>hi j (.tail _ hj))
   have hi':=hi i (.head _);refine ⟨t',h',fun d σ x3=> ?_⟩;obtain ⟨y3,lp⟩:=lp d σ (iV i);exact ⟨y3,bo (aa (az (aR rfl (ic (l:=FP) rfl (aR (kO rfl) (aR rfl rfl rfl rfl (xg (mY (Ou hi' (by decide))))) rfl rfl rfl) (by decide) (by decide) (by decide)) rfl rfl (kM (bj (by rw[NL];exact LJ hl)))) rfl) rfl) rfl lp⟩
 obtain ⟨t,ht,lp⟩:=key (List.range k) [] aX (by rw[List.length_range,Oo];exact LI q e) (fun i hi=>LH q e (List.mem_range.mp hi));refine ⟨t,ht,fun d σ=> ?_⟩;obtain ⟨y3,lp⟩:=lp d σ none;have m0:=jP (K:=KK d false) (ρ:=[iV n,sV FP,sV [],none]) (σ:=σ) (e:=ag 0) (a:=n) (k:=41) rfl (by decide) (by decide);rw[e] at m0;refine bA rfl rfl (ρ:=[iV n,none,none,none]) rfl ?_ (tk _);refine aa rfl ?_;refine aa rfl ?_;refine aa rfl ?_;refine aa rfl ?_;refine aa (bF (vQ m0 (MJ q e)) (eq (lC (MJ q e))) lp) ?_;exact rfl
theorem rW {t:CE} {a k:Int} (h1:Ev K t ρ σ (.d (.lst l))) (h2:Ev K e ρ σ (.d (.int a))) (h3:Ev K ke ρ σ (.d (.int k))) (k1:0<k) (k2:k<=l.length) (k3:l.length<=1000):∃ z∈l,Ev K (sub t (aP bY e ke)) ρ σ (.d z):=by
 have q:=bL (a:=a) (b:=k) k1;have hk:(a.fmod k).toNat<l.length:=o8 k2 q;have e:a.fmod k=(((a.fmod k).toNat:Nat):Int):=by exact (Od q.1).symm
 have g:=l7 (a:=a) k1 (show k<2^250 by exact LV k2 k3);rw[e] at g;exact ⟨l[(a.fmod k).toNat],List.getElem_mem hk,bB h1 (aR h2 h3 rfl rfl g) rfl rfl (c5 (NE hk) (LL k3 hk))⟩
end
section
variable {F:List (List Nat)} {C:PO}
theorem fG (hs:sc.length<=63) (h0:Ev (KK (d+1) hd) e ρ σ (.d (.lst (sc.map .int)))) (h1:Ev (KK (d+1) hd) ke ρ σ (.d (.int k))) (hk:k<=1000):Ev (KK (d+1) hd) (au 33 (aj e (aj ke ao))) ρ σ (.d (.int (cell sc k))):=bq (bT h0 (b7 h1)) (BD hs hk)
variable {p q:Int} {x:Option PV}
theorem wY {T:List (List Nat)} (h:Ev K e ρ σ (.d (.lst (T.map .str)))) (hl:T.length<=1000):Ev K (bi bh (aj e ao)) ρ σ (.d (.int T.length)):=by
 have q:=om (hd:=K.hd) (σ:=σ) (x:=.d (.lst (T.map .str))) rfl (by rw[Nz];exact bj hl);rw[Nz] at q;exact cr (b7 h) q
theorem nL {t:CE} {T:List (List Nat)} {a k:Int} (h1:Ev K t ρ σ (.d (.lst (T.map .str)))) (h2:Ev K e ρ σ (.d (.int a))) (h3:Ev K ke ρ σ (.d (.int k))) (k1:0<k) (k2:k<=T.length) (k3:T.length<=1000):∃ z∈T,Ev K (sub t (aP bY e ke)) ρ σ (.d (.str z)):=by
 refine bJ fun G9 k9=> ?_;obtain ⟨z,hz,e⟩:=rW h1 h2 h3 k1 (by rw[Nz];exact k2) (by rw[Nz];exact k3);obtain ⟨y,hy,rfl⟩:=NQ.mp hz;refine k9 ?_;exact ⟨y,hy,e⟩
end
section
theorem GY {s f:Nat} {args:List PV} (hT:TT f=some ⟨p,s,true,b.ex⟩) (hl:args.length=p) (hr:args.map some++List.replicate (s - p) none=ρ) (h:b.ex (KK d hd) ρ σ=some (.ret (.p m 0),σ')) (hm:σ.length<=m) (ho:σ'[m]? =some (.fld f')) (k:σ'.take σ.length++[.fld f']=σ''):CC (d+1) hd f args σ=some (.ok (.p σ.length 0),σ''):=
 oU hT hl hr h (by
  show (if m<σ.length then _ else Ae true σ.length σ' 0 σ'[m]?)=_;rw[if_neg (Oz.mpr hm),ho,<-k];rfl)
variable {n b:Int} {c:List Nat}
variable {h a c2:List Nat} {fw:Int}
theorem p9:Ev K (aP mD (ah 10) (ah 9)) ρ σ (.d (.int (10^9))):=rfl
end
section
variable {F:List (List Nat)} {u w:Rw} {g:Int}
open Classical in
theorem Bl {u v:D} (p1:pl 8 u=true) (p2:pl 8 v=true) (hf:Ht u v=none):c9.g u v=some (decide (u=v)):=by
 show Jc u v=_;unfold Jc;rw[hf];show Mj u v=_;unfold Mj aq;rw[if_pos (by rw[p1,p2];rfl)]
theorem xq {u v:D} (h:u=v) (p:pl 8 u=true) (hf:Ht u v=none):c9.g u v=some true:=(Bl p (h ▸ p) hf).trans (congrArg some (@NP _ (_) h))
theorem Jb {u v:D} (h:u≠v) (p1:pl 8 u=true) (p2:pl 8 v=true) (hf:Ht u v=none):c9.g u v=some false:=(Bl p1 p2 hf).trans (congrArg some (@Op _ (_) h))
theorem qr {u v:D} (h:u=v) (p:pl 8 u=true) (hf:Ht u v=none):fo.g u v=some false:=congrArg (Option.map fun c=> !c) (xq h p hf)
theorem CQ (l:List α) (f:α->Int):(l.map fun x=>D.int (f x)).all (pl 7)=true:=List.all_eq_true.mpr fun x hx=>by
 obtain ⟨y,_,e⟩:=NQ.mp hx;rw[<-e];rfl
end
section
variable {F T:List (List Nat)} {u w:Rw} {g:Int} {h n1 s:List Nat}
end
noncomputable abbrev aQ:=List Nat×List Nat×Int
variable {L0 ls:List aQ}
structure Hi where
 no:Int
 day:Int
 note:List Nat
 lines:List aQ
 back:Int
structure St where
 home:List Nat
 names:List (List Nat)
 tk:List D
 tv:List D
 made:List Hi
 gone:List Int
 ends:List Int
 deeds:List D
variable {S S':St}
noncomputable def aA (l:aQ):D:=.tup [.str l.1,.str l.2.1,.int l.2.2]
noncomputable def r6 (e:Hi):D:=.tup [.int e.no,.int e.day,.str e.note,.tup (e.lines.map aA),.int e.back]
noncomputable def qb (S:St):List cB:=[.d (.str S.home),.list (S.names.map .str),.dict S.tk S.tv,.list (S.made.map r6),.dict (S.gone.map .int) (S.gone.map fun _=>.bool true),.list (S.ends.map .int),.list S.deeds]
noncomputable def bk (S:St):PO:=.rcd true (qb S)
noncomputable def cl (l:List Int):Int:=if l.length=0 then -1 else l.getD (l.length - 1) 0
structure Sh (S:St):Prop where
 n:S.names.length<=1000
 t:S.tk.length<=1000
 m:S.made.length<=1000
 g:S.gone.length<=1000
 e:S.ends.length<=1000
 d:S.deeds.length<=1000
abbrev Bk (σ:av) (n:Nat) (S:St):Prop:=σ[n]? =some (bk S)
section
variable {o:PO} {l:av}
theorem Bk.lt (h:Bk σ n S):n<σ.length:=(ND.mp h).1
theorem uK (h:n<σ.length):Bk (σ.set n (bk S)) n S:=List.getElem?_set_self h
theorem iC:(σ.set n o).take σ.length=σ.set n o:=by
 have:=List.take_length (l:=σ.set n o);rw[N1] at this;exact this
theorem AV (h:Bk σ n S):Hr (.p n 0) σ=some (.ok (),σ):=by
 show (ci true σ n).map _=_;unfold ci;rw[h];rfl
theorem kQ (h:Bk σ n S) (he:Ev K e ρ σ (.p n 0)) (hf:(qb S)[k]? =some f):Ev K (cA e k) ρ σ (Ba n k f):=by
 refine aB he ?_;show (ci true σ n).bind _=_;unfold ci;rw[h];show ((qb S)[k]?).map _=_;rw[hf];rfl
theorem rQ (h:Bk σ n S) (hf:(qb S)[j]? =some f):cq σ n (j+2)=some f:=by
 unfold cq;rw[h];exact hf
theorem wH {x:D} (h:Bk σ n S) (hf:(qb S)[j]? =some f) (hx:f.rd=some x):rd σ (.p n (j+2))=some x:=by
 show (cq σ n (j+2)).bind _=_;rw[rQ h hf];exact hx
theorem uQ (h:Bk σ n S) (hf:(qb S).set j f=qb S'):eT σ n (j+2) f=σ.set n (bk S'):=by
 unfold eT;rw[h];show σ.set n (.rcd true ((qb S).set (j+2 - 2) f))=_;rw[Nat.add_sub_cancel,hf];rfl
theorem Ej (h:Bk σ n S) (he:Ev K e ρ σ (.p n 0)):Ev K (cA e 0) ρ σ (.d (.str S.home)):=kQ (f:=.d (.str S.home)) h he rfl
theorem gO (h:Bk σ n S) (he:Ev K e ρ σ (.p n 0)):Ev K (cA e 1) ρ σ (.p n 3):=kQ (f:=.list (S.names.map .str)) h he rfl
theorem nf (h:Bk σ n S) (he:Ev K e ρ σ (.p n 0)):Ev K (cA e 3) ρ σ (.p n 5):=kQ (f:=.list (S.made.map r6)) h he rfl
theorem xD (h:Bk σ n S) (he:Ev K e ρ σ (.p n 0)):Ev K (cA e 5) ρ σ (.p n 7):=kQ (f:=.list (S.ends.map .int)) h he rfl
theorem ut (h:Bk σ n S) (he:Ev K e ρ σ (.p n 0)):Ev K (cA e 6) ρ σ (.p n 8):=kQ (f:=.list S.deeds) h he rfl
theorem iJ (h:Bk σ n S):rd σ (.p n 3)=some (.lst (S.names.map .str)):=wH (f:=.list (S.names.map .str)) h rfl rfl
theorem mS (h:Bk σ n S):rd σ (.p n 5)=some (.lst (S.made.map r6)):=wH (f:=.list (S.made.map r6)) h rfl rfl
theorem wG (h:Bk σ n S):rd σ (.p n 7)=some (.lst (S.ends.map .int)):=wH (f:=.list (S.ends.map .int)) h rfl rfl
theorem sY (h:Bk σ n S):rd σ (.p n 8)=some (.lst S.deeds):=wH (f:=.list S.deeds) h rfl rfl
theorem bx {f:Nat} {l:CL} (b:Bk σ n S) (h0:Ev (KK d hd) e ρ σ (.p n 0)) (h:l.ev (KK d hd) ρ σ=some (.ok xs,σ)) (k:CC d hd f (.p n 0::xs) σ=z):(meth e f l).ev (KK d hd) ρ σ=z:=DS h0 (AV b) h k
theorem vg {l:List D} (h:Ev K e ρ σ x) (r:rd σ x=some (.lst l)) (hl:l.length<=1000):Ev K (bi bh (aj e ao)) ρ σ (.d (.int l.length)):=cr (b7 h) (om r (bj hl))
theorem qy (b:Bk σ n S) (sh:S.made.length<=1000) (h:Ev K e ρ σ (.p n 0)):Ev K (bi bh (aj (cA e 3) ao)) ρ σ (.d (.int S.made.length)):=by
 have q:=vg (nf b h) (mS b) (by rw[Nz];exact sh);rw[Nz] at q;exact q
theorem tJ (b:Bk σ n S) (sh:Sh S) (h:Ev K e ρ σ (.p n 0)):Ev K (bi bh (aj (cA e 3) ao)) ρ σ (.d (.int S.made.length)):=qy b sh.m h
theorem AL (b:Bk σ n S) (sh:Sh S) (h:Ev K e ρ σ (.p n 0)):Ev K (bi bh (aj (cA e 5) ao)) ρ σ (.d (.int S.ends.length)):=by
 have q:=vg (xD b h) (wG b) (by rw[Nz];exact sh.e);rw[Nz] at q;exact q
theorem vZ (b:Bk σ n S) (sh:Sh S):CC (d+1) hd 2 [.p n 0] σ=some (.ok (.d (.int (cl S.ends))),σ):=by
 have e:Ev (KK d hd) (bi bh (aj (cA (ag 0) 5) ao)) [qV n] σ (.d (.int S.ends.length)):=AL b sh rfl;unfold cl;by_cases q:S.ends.length=0
 .rw[if_pos q];exact bA rfl rfl rfl (aS (bp (ak e rfl rfl rfl (mI (by rw[q];rfl))) rfl)) (tk _)
 .rw[if_neg q];refine bA rfl rfl rfl (aa (aY (ak e rfl rfl rfl (jx (Int.ofNat_ne_zero.mpr q))) rfl) (aS (aT (bB (xD b rfl) (aR e rfl rfl rfl rfl) (wG b) rfl (w:=.int (S.ends.length - 1)) ?_)))) (tk _);have hk:S.ends.length - 1<S.ends.length:=by exact Nat.sub_one_lt q
  have:=c5 (l:=S.ends.map D.int) (k:=S.ends.length - 1) (z:=.int (S.ends.getD (S.ends.length - 1) 0)) (by rw[NR,NE hk,NT,NE hk];rfl) (LG sh.e);rw[show ((S.ends.length:Int) - 1)=((S.ends.length - 1:Nat):Int) by exact (Int.ofNat_sub (Nat.one_le_of_lt hk)).symm];exact this
theorem rm (b:Bk σ n S) (sh:Sh S) (h:b' t) (hc:cl S.ends<t):CC (d+2) hd 4 [.p n 0,.d (.int t)] σ=some (.ok (.d .none),σ):=
 d9 rfl rfl rfl (aa (aV (bg (lW h) rfl)) (aa (aY (ak rfl (bx b rfl rfl (vZ b sh)) rfl rfl (IG (Int.not_le.mpr hc))) rfl) rfl)) (tk _)
theorem Aq (h:¬b' t):CC (d+2) false 4 [.p n 0,.d (.int t)] σ=some (.ex 4,σ):=
 cO rfl rfl rfl (bv (eS (bg (ti h) rfl))) (tk _)
theorem fI {a:List Nat} (b:Bk σ n S) (h:a∈S.names):CC (d+1) hd 15 [.p n 0,.d (.str a)] σ=some (.ok (.d .none),σ):=
 d9 rfl rfl rfl (aa (aY (ak rfl (gO b rfl) rfl (iJ b) (wP h)) rfl) rfl) (tk _)
theorem wi {a:List Nat} (b:Bk σ n S) (h:a∉S.names):CC (d+1) false 15 [.p n 0,.d (.str a)] σ=some (.ex 11,σ):=
 cO rfl rfl rfl (bv (bp (ak rfl (gO b rfl) rfl (iJ b) (th h)) rfl)) (tk _)
theorem jr {t:Hi} (b:Bk σ n S) (sh:Sh S) (h:S.made[k]? =some t):CC (d+1) hd 8 [.p n 0,.d (.int (k+1))] σ=some (.ok (.d (r6 t)),σ):=by
 have hk:=(ND.mp h).1;have sm:=sh.m;refine bA rfl rfl rfl (aa (aY (bc (a_ rfl (a_ (ak rfl (tJ b sh rfl) rfl rfl (j6 (OA.mpr (Oa.mpr hk)))) rfl))) rfl) (aS (aT (bB (nf b rfl) rfl (mS b) rfl (w:=.int ((k:Int)+1 - 1)) ?_)))) (tk _);rw[Int.add_sub_cancel];exact c5 (by rw[NR,h];rfl) (Ij hk sm)
theorem AA {t:Hi} (b:Bk σ n S) (sh:S.made.length<=1000) (he:Ev K e ρ σ (.p n 0)) (h:Ev K a ρ σ (.d (r6 t))):(bm bZ (cA e 3) (aj a ao)).ev K ρ σ=some (.ok (.d .none),σ.set n (bk {S with made:=S.made++[t]})):=by
 have q:=fW (nf b he) h (rQ (j:=3) b rfl) (by rw[Nz];exact j2 sh);rw[uQ b (S':={S with made:=S.made++[t]}) (by simp only [qb,List.map_append];rfl)] at q;exact q
theorem yt {t:List Nat} (b:Bk σ n S) (sh:S.names.length<=1000) (he:Ev K e ρ σ (.p n 0)) (h:Ev K a ρ σ (.d (.str t))):(bm bZ (cA e 1) (aj a ao)).ev K ρ σ=some (.ok (.d .none),σ.set n (bk {S with names:=S.names++[t]})):=by
 have q:=fW (gO b he) h (rQ (j:=1) b rfl) (by rw[Nz];exact j2 sh);rw[uQ b (S':={S with names:=S.names++[t]}) (by simp only [qb,List.map_append];rfl)] at q;exact q
theorem ud {x:D} (b:Bk σ n S) (sh:S.deeds.length<=1000) (he:Ev K e ρ σ (.p n 0)) (h:Ev K a ρ σ (.d x)):(bm bZ (cA e 6) (aj a ao)).ev K ρ σ=some (.ok (.d .none),σ.set n (bk {S with deeds:=S.deeds++[x]})):=by
 have q:=fW (ut b he) h (rQ (j:=6) b rfl) (j2 sh);rw[uQ b (S':={S with deeds:=S.deeds++[x]}) rfl] at q;exact q
theorem y0 {day back:Int} {note:List Nat} (b:Bk σ n S) (sh:S.made.length<=1000):CC (d+1) hd 7 [.p n 0,.d (.int day),.d (.str note),.d (.tup (ls.map aA)),.d (.int back)] σ=some (.ok (.d (.int (S.made.length+1))),σ.set n (bk {S with made:=S.made++[⟨S.made.length+1,day,note,ls,back⟩]})):=
 bA rfl rfl rfl (aa (az (aR (qy b sh rfl) rfl rfl rfl rfl) rfl) (aa (aV (AA (t:=⟨S.made.length+1,day,note,ls,back⟩) b sh rfl (bW rfl))) rfl)) iC
end
noncomputable def kg (a:List Nat):D:=.tup [.str OE,.str a]
noncomputable def GW (n:Int):D:=.tup [.str [99,108,111,115,101],.int n]
noncomputable def EM (c:List Nat) (n t b:Int):D:=.tup [.str OI,.str c,.int n,.int t,.int b]
noncomputable def dH (n:Int) (note:List Nat) (ls:List aQ):D:=.tup [.str OD,.int n,.str note,.tup (ls.map aA)]
noncomputable def told (S:St) (c:List Nat) (n t b:Int) (ks vs:List D):St:={S with tk:=jC (.str c) S.tk,tv:=jB (.str c) (.dct (jC (.int n) ks) (jB (.int n) (.tup [.int t,.int b]) ks vs)) S.tk S.tv,deeds:=S.deeds++[EM c n t b]}
noncomputable def sw (S:St) (a:List Nat):St:={S with names:=S.names++[a],deeds:=S.deeds++[kg a]}
noncomputable def iK (S:St) (t:Int) (note:List Nat) (ls:List aQ):St:={S with made:=S.made++[⟨S.made.length+1,t,note,ls,0⟩],deeds:=S.deeds++[dH t note ls]}
section
variable {o:PO} {l:av}
theorem EE {o:PO}:((σ.set n o').set n o).take σ.length=σ.set n o:=by rw[List.set_set];exact iC
theorem pq {a:List Nat} (b:Bk σ n S) (sh:Sh S) (h:gf a) (hn:a∉S.names):CC (d+2) false 37 [.p n 0,.d (.str a)] σ=some (.ok (.d .none),σ.set n (bk (sw S a))):=
 d9 rfl rfl (ρ:=[qV n,sV a]) rfl (aa (aY (ft (cU (bg (ou h) rfl))) rfl) (aa (aY (ak rfl (gO b rfl) rfl (iJ b) (Gy hn)) rfl) (aa (aV (yt b sh.n rfl rfl)) (aa (aV (ud (S:={S with names:=S.names++[a]}) (uK b.lt) sh.d rfl (bW rfl))) rfl)))) EE
theorem yU {k:D} (h:oH k ks=true):ks.all Bb=true:=by
 have h:((IM k&&ks.all IM)||(AT k&&ks.all AT))=true:=h;refine List.all_eq_true.mpr fun x hx=> ?_;rcases (Bool.or_eq_true _ _).mp h with z|z
 .have:=List.all_eq_true.mp (an z) x hx;cases x<;>first|rfl|cases this
 .have:=List.all_eq_true.mp (an z) x hx;cases x<;>first|rfl|cases this
theorem A2 {a:Int} {b:Bool} (h:eg a=b):CC (d+1) hd 12 [.d (.int a)] σ=some (.ok (.d (.bool b)),σ):=h ▸ pO
structure wj (S:St) (l:aQ):Prop where
 n:l.1∈S.names
 c:br l.2.1=true
 a:eg l.2.2=true
theorem wW {x:aQ} (b:Bk σ n S) (h:wj S x):CC (d+2) false 19 [.p n 0,.d (aA x)] σ=some (.ok (.d .none),σ):=
 d9 rfl rfl (ρ:=[qV n,dV (aA x)]) rfl (aa (aV (bx b rfl rfl (fI b h.n))) (aa (aV (bq rfl (eU h.c))) (aa (aY (ft (cU (bq rfl (A2 h.a)))) rfl) rfl))) (tk _)
theorem ol {v:D} {w:PV} (b:Bk σ n S) (hs:bN σ v w=true) (h:∀ l∈ls,wj S l):∀ {m note o4:PV} {o:Option PV},∃ o',c6 w v 4 (fun ρ=>(sC (aZ (meth (ag 0) 19 (aj (ag 4) ao))) sN).ex (KK (d+2) false) ρ) (ls.map aA) [qV n,some m,some note,some o4,o,none,none] σ=some (.next [qV n,some m,some note,some o4,o',none,none],σ):=by
 induction ls with
 |nil=>exact ⟨_,rfl⟩
 |cons l ls ih=>
  intro m note o4 o;obtain ⟨o',e⟩:=ih (fun x hx=>h x (.tail _ hx)) (m:=m) (note:=note) (o4:=o4) (o:=dV (aA l));exact ⟨o',bo (aa (aV (bx b rfl (b7 rfl) (wW b (h l (.head _))))) rfl) hs e⟩
theorem CM {a1 a2:PV} (b:Bk σ n S) (h:CC (d+2) false 4 [.p n 0,.d (.int t)] σ=some (.ex k,σ)):CC (d+3) false 20 [.p n 0,.d (.int t),a1,a2] σ=some (.ex k,σ):=
 cO rfl rfl rfl (bv (eS (bx b rfl (b7 rfl) h))) (tk _)
end
structure Nw (S:St) (rs:List Rw) (m:List (List Nat×D)):Prop where
 k:S.tk=m.map fun x=>.str x.1
 v:S.tv=m.map (·.2)
 d:∀ c,∃ l:List (Int×D),(eW c m).getD (.dct [] [])=Mk l/\Mw c rs l/\l.length<=rs.length
 ml:m.length<=rs.length
section
variable {n b:Int} {c:List Nat} {m:List (List Nat×D)}
end
noncomputable def cz (c:List Nat) (ls:List aQ):Int:=((ls.filter fun l=>decide (l.2.1=c)).map fun l=>l.2.2).sum
theorem uh {c:List Nat} {l:aQ}:cz c (ls++[l])=cz c ls+(if l.2.1=c then l.2.2 else 0):=by
 unfold cz;rw[List.filter_append,List.map_append,List.sum_append];by_cases q:l.2.1=c
 .rw[if_pos q,N7 (p:=fun l:aQ=>decide (l.2.1=c)) (NP q)];show _+(l.2.2+0)=_;rw[Int.add_zero]
 .rw[if_neg q,List.filter_cons_of_neg (p:=fun l:aQ=>decide (l.2.1=c)) (by rw[decide_eq_true_eq];exact q)];rfl
structure Eu (ls:List aQ) (m:List (List Nat×D)):Prop where
 v:∀ c,(eW c m).getD (.int 0)= .int (cz c ls)
 l:m.length<=ls.length
section
variable {l:aQ} {m:List (List Nat×D)} {v:D} {o:Option PV}
theorem yz [DecidableEq α] {x:α×D}:∀ {m:List (α×D)},x∈m->∃ w,eW x.1 m=some w:=by
 intro m
 induction m with
 |nil=>
  intro h;exact absurd h NV
 |cons y m ih=>
  intro h;show ∃ w,(if y.1=x.1 then some y.2 else eW x.1 m)=some w;by_cases q:y.1=x.1
  .exact ⟨_,if_pos q⟩
  .rcases NB.mp h with z|z
   .exact absurd (by rw[z]) q
   .obtain ⟨w,e⟩:=ih z;exact ⟨w,(if_neg q).trans e⟩
theorem BL (T:Eu ls m) (hl:ls.length<=1000):∃ m',Eu (ls++[l]) m'/\(sC (lu (ag 1) (sub (ag 2) (ah 1)) (aP a' (bm yv (ag 1) (aj (sub (ag 2) (ah 1)) (aj (ah 0) ao))) (sub (ag 2) (ah 2)))) sN).ex K [a0,qV σ.length,dV (aA l),o] (σ++[.fld (.dict (m.map fun x=>.str x.1) (m.map (·.2)))])=some (.next [a0,qV σ.length,dV (aA l),o],σ++[.fld (.dict (m'.map fun x=>.str x.1) (m'.map (·.2)))]):=by
 have e1:Ev K (sub (ag 2) (ah 1)) [a0,qV σ.length,dV (aA l),o] (σ++[.fld (.dict (m.map fun x=>.str x.1) (m.map (·.2)))]) (.d (.str l.2.1)):=rfl;have g:=GP (K:=K) (ρ:=[a0,qV σ.length,dV (aA l),o]) (σ:=σ++[.fld (.dict (m.map fun x=>.str x.1) (m.map (·.2)))]) (o:=ag 1) (a:=sub (ag 2) (ah 1)) (b:=ah 0) (z:=.int 0) rfl (FJ rfl) e1 rfl (rR (·.1) m);rw[wU wZ,T.v] at g;have s1:=rg (σ:=σ++[.fld (.dict (m.map fun x=>.str x.1) (m.map (·.2)))]) (n:=σ.length) (j:=0) (k:=.str l.2.1) (v:=.int (cz l.2.1 ls+l.2.2)) fk (Fy (vs:=m.map (·.2)) (rR (·.1) m) (by rw[Nz];have:=T.l;exact NZ this (NZ hl (NH rfl))));rw[ji,FM wZ l.2.1 (.int (cz l.2.1 ls+l.2.2)) m,FL wZ l.2.1 (.int (cz l.2.1 ls+l.2.2)) m] at s1;refine ⟨nq l.2.1 (.int (cz l.2.1 ls+l.2.2)) m,⟨fun c=> ?_,?_⟩,aa (kx (aR g rfl rfl rfl rfl) rfl e1 s1) rfl⟩
 .rw[AH,uh];by_cases q:c=l.2.1
  .rw[if_pos q,if_pos q.symm,q];rfl
  .rw[if_neg q,if_neg fun z=>q z.symm,Int.add_zero];exact T.v c
 .rw[NC];exact NK (Dh m) (Nat.add_le_add_right T.l 1)
theorem BM {w:PV} (hs:∀ o,bN (σ++[o]) v w=true):∀ (ms ls:List aQ) (m:List (List Nat×D)) (o2:Option PV),Eu ls m->ls.length+ms.length<=1000->∃ m' o2',Eu (ls++ms) m'/\c6 w v 2 (fun ρ=>(sC (lu (ag 1) (sub (ag 2) (ah 1)) (aP a' (bm yv (ag 1) (aj (sub (ag 2) (ah 1)) (aj (ah 0) ao))) (sub (ag 2) (ah 2)))) sN).ex K ρ) (ms.map aA) [a0,qV σ.length,o2,none] (σ++[.fld (.dict (m.map fun x=>.str x.1) (m.map (·.2)))])=some (.next [a0,qV σ.length,o2',none],σ++[.fld (.dict (m'.map fun x=>.str x.1) (m'.map (·.2)))]):=by
 intro ms
 induction ms with
 |nil=>
  intro ls m o2 T _;exact ⟨m,o2,by rw[List.append_nil];exact T,rfl⟩
 |cons l ms ih=>
  intro ls m o2 T h;rw[NI] at h;obtain ⟨m1,T1,e1⟩:=BL (K:=K) (σ:=σ) (a0:=a0) (o:=none) (l:=l) T (Nat.le_of_add_right_le h);obtain ⟨m2,o2',T2,e2⟩:=ih (ls++[l]) m1 (dV (aA l)) T1 (by rw[NC,NL];exact Ni h);exact ⟨m2,o2',by rw[List.append_cons];exact T2,bo e1 (hs _) e2⟩
noncomputable def Jr (n day:Int):D:=.tup [.str [98,97,99,107],.int n,.int day]
end
section
variable {l:aQ} {m:List (List Nat×D)} {v:D} {o:Option PV}
noncomputable def sy (a c:List Nat) (t:Int) (l:aQ):Int:=if l.1=a/\l.2.1=c then t+l.2.2 else t
noncomputable def qC (q:Option Int) (n:Int):Bool:=q.elim true fun x=>decide (n<=x)
noncomputable def Hf (a c:List Nat) (q:Option Int) (t:Int) (e:Hi):Int:=if qC q e.day=true then e.lines.foldl (sy a c) t else t
noncomputable def total (S:St) (a c:List Nat) (q:Option Int):Int:=S.made.foldl (Hf a c q) 0
noncomputable def tM (q:Option Int):D:=q.elim .none .int
theorem qP {a c:List Nat} {q:Option Int} (B:Bk σ i S) (sh:Sh S):CC (d+1) false 26 [.p i 0,.d (.str a),.d (.str c),.d (tM q)] σ=some (.ok (.d (.int (total S a c q))),σ):=by
 obtain ⟨c',lp⟩:=xi (σ:=σ) (v:=.p i 5) (x:=.lst (S.made.map r6)) (i:=5) (b:=fun ρ=>(sC (cf (fN (aW (aF Hv (ag 3) ff) (aW (aF B4 (sub (ag 5) (ah 1)) (ag 3)) cw))) (sC (fy 6 (sub (ag 5) (ah 3)) (sC (cf (kr (cC (aF c9 (sub (ag 6) (ah 0)) (ag 1)) (cC (aF c9 (sub (ag 6) (ah 1)) (ag 2)) gw))) (sC (aG 4 (aP a' (ag 4) (sub (ag 6) (ah 2)))) sN) sN) sN)) sN) sN) sN).ex (KK d false) ρ)
  r6 (fun (t:Int) (o:Option PV×Option PV)=>[qV i,sV a,sV c,dV (tM q),iV t,o.1,o.2]) (Hf a c q) (ky (mS B)) S.made (fun t o e _=>by
   obtain ⟨c',lp⟩:=xi (σ:=σ) (v:=.d (.tup (e.lines.map aA))) (x:=.tup (e.lines.map aA)) (i:=6) (b:=fun ρ=>(sC (cf (kr (cC (aF c9 (sub (ag 6) (ah 0)) (ag 1)) (cC (aF c9 (sub (ag 6) (ah 1)) (ag 2)) gw))) (sC (aG 4 (aP a' (ag 4) (sub (ag 6) (ah 2)))) sN) sN) sN).ex (KK d false) ρ)
    aA (fun (t:Int) (o:Option PV)=>[qV i,sV a,sV c,dV (tM q),iV t,dV (r6 e),o]) (sy a c) rfl e.lines (fun t o l _=>by
     refine ⟨dV (aA l),?_⟩;unfold sy;by_cases q1:l.1=a
     .by_cases q2:l.2.1=c
      .rw[if_pos ⟨q1,q2⟩];exact aa (bp (cI (ee (ak (fc 0 rfl rfl) rfl rfl rfl (iq q1)) (ee (ak (fc 1 rfl rfl) rfl rfl rfl (iq q2)) rfl))) (aa (az (ew rfl (fc 2 rfl rfl)) rfl) rfl)) rfl
      .rw[if_neg fun h=>q2 h.2];exact aa (aY (cI (ee (ak (fc 0 rfl rfl) rfl rfl rfl (iq q1)) (eX (ak (fc 1 rfl rfl) rfl rfl rfl (fU q2))))) rfl) rfl
     .rw[if_neg fun h=>q1 h.1];exact aa (aY (cI (eX (ak (fc 0 rfl rfl) rfl rfl rfl (fU q1)))) rfl) rfl) t o.2
   have d1:Ev (KK d false) (sub (ag 5) (ah 1)) [qV i,sV a,sV c,dV (tM q),iV t,dV (r6 e),o.2] σ (.d (.int e.day)):=fc 1 rfl rfl;unfold Hf;cases q with
   |none=>
    rw[if_pos (show qC none e.day=true from rfl)];exact ⟨(dV (r6 e),c'),aa (bp (bc (dB (ak rfl rfl rfl rfl rfl))) (aa (bF (fc 3 rfl rfl) (eq rfl) lp) rfl)) rfl⟩
   |some x=>
    by_cases z:e.day<=x
    .rw[if_pos (show qC (some x) e.day=true from NP z)];exact ⟨(dV (r6 e),c'),aa (bp (bc (a_ (ak rfl rfl rfl rfl rfl) (dB (ak d1 rfl rfl rfl (Ma z))))) (aa (bF (fc 3 rfl rfl) (eq rfl) lp) rfl)) rfl⟩
    .rw[if_neg (show¬qC (some x) e.day=true by show¬decide (e.day<=x)=true;rw[decide_eq_true_eq];exact z)];exact ⟨(dV (r6 e),o.2),aa (aY (bc (a_ (ak rfl rfl rfl rfl rfl) (a_ (ak d1 rfl rfl rfl (IG z)) rfl))) rfl) rfl⟩) 0 (none,none)
 exact bA rfl rfl (ρ:=[qV i,sV a,sV c,dV (tM q),none,none,none]) rfl (aa (az rfl rfl) (aa (bF (nf B rfl) (IJ (mS B) (by rw[Nz];exact sh.m)) lp) (aS (aT rfl)))) (tk _)
end
noncomputable def jS:List Nat:=OF
noncomputable def zr:List (List Nat):=(List.range 9).map fun i=>[97,99,99,111,117,110,116,48+i]
def Mh (t:List Nat):Prop:=∀ k y,t.set k y∉jS::zr
theorem vM {t:List Nat} (h:Mh t):t∉jS::zr:=fun e=>h t.length 0 (by rw[List.set_eq_of_length_le (NM _)];exact e)
noncomputable def xF (q s:Int) (i:Nat):Nat:=dQ.getD ((q+s*(i:Int)).fmod 36).toNat 0
theorem fb {q s:Int} {v:Nat} (hv:∀ j,j<36->dQ.getD j 0=c->j=v) (h:xF q s i=c):(q+s*(i:Int)) % 36=v:=by
 have r:=bL (a:=q+s*(i:Int)) (b:=36) (by decide);have e:=hv _ ((Int.toNat_lt r.1).mpr r.2) h;rw[Int.fmod_eq_emod_of_nonneg _ (by decide)] at e r;exact LE e
theorem En {x y:Nat} {q s:Int} (h:(x::(List.range m).map (xF q s)).set k y=jS):False:=by
 have hl:=congrArg List.length h;rw[N1,NI,Nz,List.length_range] at hl;have hm:m=7:=Nat.succ.inj hl;subst hm;have g:∀ i c,i<7->jS[i+1]? =some c->k≠i+1->xF q s i=c:=fun i c hi hc hk=>by
  rw[<-h,N6 hk,List.getElem?_cons_succ,NR,List.getElem?_range hi] at hc;exact Om hc
 by_cases z:k<=3
 .have e1:=fb (v:=13) (by decide) (g 3 110 (by decide) rfl (Ig z));have e2:=fb (v:=6) (by decide) (g 4 103 (by decide) rfl (Ie z));have e3:=fb (v:=4) (by decide) (g 5 101 (by decide) rfl (Ic z));exact LD e1 e3
 .have e1:=fb (v:=19) (by decide) (g 0 116 (by decide) rfl (Ib z));have e2:=fb (v:=17) (by decide) (g 1 114 (by decide) rfl (Ia z));have e3:=fb (v:=0) (by decide) (g 2 97 (by decide) rfl (H' z));exact LC e1 e3
theorem Hb {x y:Nat} {q s:Int} (h:(x::(List.range m).map (xF q s)).set k y=[97,99,99,111,117,110,116,48+i]):False:=by
 have hl:=congrArg List.length h;rw[N1,NI,Nz,List.length_range] at hl;have hm:m=7:=Nat.succ.inj hl;subst hm;have g:∀ j c,j<7->[97,99,99,111,117,110,116,48+i][j+1]? =some c->k≠j+1->xF q s j=c:=fun j c hj hc hk=>by
  rw[<-h,N6 hk,List.getElem?_cons_succ,NR,List.getElem?_range hj] at hc;exact Om hc
 by_cases z:k<=3
 .have e1:=fb (v:=20) (by decide) (g 3 117 (by decide) rfl (Ig z));have e2:=fb (v:=13) (by decide) (g 4 110 (by decide) rfl (Ie z));have e3:=fb (v:=19) (by decide) (g 5 116 (by decide) rfl (Ic z));omega
 .have e1:=fb (v:=2) (by decide) (g 0 99 (by decide) rfl (Ib z));have e2:=fb (v:=2) (by decide) (g 1 99 (by decide) rfl (Ia z));have e3:=fb (v:=14) (by decide) (g 2 111 (by decide) rfl (H' z));omega
theorem Ha {x:Nat} {q s:Int}:Mh (x::(List.range m).map (xF q s)):=fun k y h=>by
 rcases NB.mp h with h|h
 .exact En h
 .obtain ⟨i,_,e⟩:=NQ.mp h;exact Hb e.symm
structure JQ (T:List (List Nat)):Prop where
 nd:T.Nodup
 ne:bu∉T
 nm:∀ x∈T,gf x
 st:jS∉T
noncomputable def st0 (h:List Nat):St:=⟨h,[bu],[],[],[],[],[],[]⟩
theorem DG {x:D} {b:bb->av->Option (Out×av)} (Pr:Nat->bb->av->Prop):∀ (n k:Nat) (ρ:bb) (σ:av),Pr k ρ σ->(∀ j ρ σ,j<k+n->Pr j ρ σ->∃ ρ' σ',b (ρ.set i (iV (j:Nat))) σ=some (.next ρ',σ')/\bN σ' x v=true/\Pr (j+1) ρ' σ')->∃ ρ' σ',c6 v x i b ((List.range' k n).map fun (j:Nat)=>.int j) ρ σ=some (.next ρ',σ')/\Pr (k+n) ρ' σ':=by
 intro n
 induction n with
 |zero=>
  intro k ρ σ h _;exact ⟨ρ,σ,rfl,h⟩
 |succ n ih=>
  intro k ρ σ h st;obtain ⟨ρ1,σ1,e1,s1,p1⟩:=st k ρ σ (by omega) h;obtain ⟨ρ2,σ2,e2,p2⟩:=ih (k+1) ρ1 σ1 p1 fun j ρ σ hj=>st j ρ σ (MI hj);exact ⟨ρ2,σ2,bo e1 s1 e2,by rw[show k+(n+1)=k+1+n by exact Ly];exact p2⟩
section
variable {n:Int}
theorem tm:∃ t,gf t/\Mh t/\CC (d+1) false 43 [.d (.int n)] σ=some (.ok (.d (.str t)),σ):=by
 have g0:=iH (l:=dQ) (a:=n) (k:=26) (by decide) (by decide);have q:=bL (a:=n.fdiv 26) (b:=12) (by decide);have e:(n.fdiv 26).fmod 12=((((n.fdiv 26).fmod 12).toNat:Nat):Int):=by exact (Od q.1).symm
 generalize hk:((n.fdiv 26).fmod 12).toNat=k at e;have m0:=jP (K:=KK d false) (ρ:=[iV n,sV dQ,sV [dQ.getD (n.fmod 26).toNat 0],iV (n.fdiv 26),none]) (σ:=σ) (e:=ag 3) (a:=n.fdiv 26) (k:=12) rfl (by decide) (by decide);rw[e] at m0;generalize hq:(n.fdiv 26).fdiv 12=a;generalize hs:(n.fdiv 26).fdiv 432=b;obtain ⟨ρ2,s2,lp,y4,rfl,rfl⟩:=DG (v:=.d (.rng 0 k 1)) (x:=.rng 0 k 1) (i:=4) (b:=fun ρ=>(sC (aG 2 (aP a' (ag 2) (sub (ag 1) (aP bY (aP a' (aP dI (ag 3) (ah 12)) (aP pz (aP dI (ag 3) (ah 432)) (ag 4))) (ah 36))))) sN).ex (KK d false) ρ)
  (fun j ρ s=>∃ x4,ρ=[iV n,sV dQ,sV (dQ.getD (n.fmod 26).toNat 0::(List.range j).map (xF a b)),iV (n.fdiv 26),x4]/\s=σ) k 0 [iV n,sV dQ,sV [dQ.getD (n.fmod 26).toNat 0],iV (n.fdiv 26),none] σ ⟨none,rfl,rfl⟩ fun j ρ s hj ⟨x4,h1,h2⟩=>by
   subst h1 h2;have ct:=kM (a:=dQ.getD (n.fmod 26).toNat 0::(List.range j).map (xF a b)) (b:=[xF a b j]) (by rw[NI,Nz,List.length_range,NL];exact bj (LB q e hj));rw[List.cons_append,show (List.range j).map (xF a b)++[xF a b j]=(List.range (j+1)).map (xF a b) by rw[List.range_succ,List.map_append];rfl] at ct;have ad:Ev (KK d false) (aP a' (aP dI (ag 3) (ah 12)) (aP pz (aP dI (ag 3) (ah 432)) (ag 4))) [iV n,sV dQ,sV (dQ.getD (n.fmod 26).toNat 0::(List.range j).map (xF a b)),iV (n.fdiv 26),iV (j:Nat)] s (.d (.int (a+b*(j:Int)))):=by
    rw[<-hq,<-hs];exact aR (kO rfl) (aR rfl rfl rfl rfl (xg (mY (LA q e hj)))) rfl rfl rfl
   exact ⟨_,_,aa (az (aR rfl (ic (l:=dQ) rfl ad (by decide) (by decide) (by decide)) rfl rfl ct) rfl) rfl,rfl,⟨_,rfl,rfl⟩⟩
 rw[Oq] at lp;rw[<-List.range_eq_range'] at lp;refine ⟨_,⟨_,(List.range k).map (xF a b),rfl,?_,g0,fun y hy=> ?_⟩,Ha,?_⟩
 .rw[Nz,List.length_range];exact Lz q e
 .obtain ⟨i,_,rfl⟩:=NQ.mp hy;exact List.mem_of_mem_take (iH (l:=dQ) (a:=a+b*(i:Int)) (k:=36) (by decide) (by decide))
 .refine bA rfl rfl (ρ:=[iV n,none,none,none,none]) rfl ?_ (tk _);refine aa rfl ?_;refine aa (az (ic (l:=dQ) rfl rfl (by decide) (by decide) (by decide)) rfl) ?_;refine aa rfl ?_;refine aa (bF (vQ m0 (MH q e)) (eq (lC (MH q e))) lp) ?_;exact rfl
end
section
variable {n m:Int}
theorem tI (h0:1<=c) (hc:c<nX):CC (d+1) hd 29 [.d (.exc c)] σ=some (.ok (.d (.bool true)),σ):=by
 refine bA rfl rfl (ρ:=[dV (.exc c),none]) rfl ?_ (tk _);refine aa (az (ew (ew (fe rfl hc) (fe rfl hc)) (fe rfl hc)) rfl) ?_;refine aa (az (ew (ew (ew rfl (fe rfl hc)) (fe rfl hc)) (fe rfl hc)) rfl) ?_;refine aa (az (ew (ew (ew rfl (fe rfl hc)) (fe rfl hc)) (fe rfl hc)) rfl) ?_;refine aa (az (ew (ew (ew rfl (fe rfl hc)) (fe rfl hc)) (fe rfl hc)) rfl) ?_;refine aa (az (ew (ew (ew rfl (fe rfl hc)) (fe rfl hc)) (fe rfl hc)) rfl) ?_;refine aS (aT (kS (j8 (IK rfl hc) (kR (gi (ew rfl (fe rfl hc)) rfl rfl rfl (mI ?_))))));have:∀ c,c<17->1<=c->ix (c==1||1==0)+ix (c==2||2==0)+ix (c==3||3==0)+ix (c==4||4==0)+ix (c==5||5==0)+ix (c==6||6==0)+ix (c==7||7==0)+ix (c==8||8==0)+ix (c==9||9==0)+ix (c==10||10==0)+ix (c==11||11==0)+ix (c==12||12==0)+ix (c==13||13==0)+ix (c==15||15==0)+ix (c==14||14==0)+ix (c==16||16==0)=1:=by decide
 exact this c hc h0
end
section
variable {F T:List (List Nat)} {w:List Nat} {L:Int}
noncomputable def jy (T:List (List Nat)) (w:List Nat):List (List Nat):=if w∈bu::T then T else T++[w]
theorem nj {x:List Nat} (h:x∈jy T w):x∈T∨x=w:=by
 unfold jy at h;by_cases q:w∈bu::T
 .rw[if_pos q] at h;exact .inl h
 .rw[if_neg q] at h;exact (NS.mp h).imp id NG.mp
theorem mV (h:JQ T) (hw:gf w) (fw:w∉jS::zr):JQ (jy T w):=by
 unfold jy;by_cases q:w∈bu::T
 .rw[if_pos q];exact h
 rw[if_neg q];refine ⟨List.nodup_append.mpr ⟨h.nd,Oi.mpr ⟨NV,Ol⟩,fun a ha c hc=>by rw[NG.mp hc];rintro rfl;exact q (.tail _ ha)⟩,fun z=> ?_,fun y hy=> ?_,fun z=> ?_⟩
 .rcases NS.mp z with z|z
  .exact h.ne z
  .exact q (by rw[<-NG.mp z];exact .head _)
 .rcases NS.mp hy with z|z
  .exact h.nm y z
  .rw[NG.mp z];exact hw
 .rcases NS.mp z with z|z
  .exact h.st z
  .exact fw (by rw[<-NG.mp z];exact .head _)
theorem m3:T.length<=(jy T w).length/\(jy T w).length<=T.length+1/\(w≠bu->1<=(jy T w).length):=by
 unfold jy;by_cases q:w∈bu::T
 .rw[if_pos q];exact ⟨NM _,Oh _,fun z=>(NB.mp q).elim (fun y=>absurd y z) List.length_pos_of_mem⟩
 .rw[if_neg q,NC];exact ⟨Os _ _,NM _,fun _=>Nat.le_add_left _ _⟩
theorem mW {a b:Option PV} (h:T.length<=4):l6.ex (KK (d+1) false) [a,b,qV 1,sV w] [B,.fld (.list ((bu::T).map .str))]=some (.next [a,b,qV 1,sV w],[B,.fld (.list ((bu::jy T w).map .str))]):=by
 unfold jy;by_cases q:w∈bu::T
 .rw[if_pos q];exact aa (aY (ak rfl rfl rfl rfl (wP q)) rfl) rfl
 .rw[if_neg q,<-List.cons_append,List.map_append];exact aa (bp (ak rfl rfl rfl rfl (th q)) (aa (aV (fW (n:=1) (j:=0) (l:=(bu::T).map .str) (y:=.str w) rfl rfl rfl (by rw[Nz];exact j2 (NK (Ow h) (by decide))))) rfl)) rfl
theorem F7 {c0 c1:Int}:∃ T,JQ T/\(∀ x∈T,x∉zr)/\1<=T.length/\T.length<=4/\CC (d+2) false 44 [.d (.lst [.int c0,.int c1])] []=some (.ok (.d (.lst ((bu::T).map .str))),[]):=by
 obtain ⟨n0,h0,f0,e0⟩:=tm (d:=d) (σ:=[]) (n:=c0);obtain ⟨n1,h1,f1,e1⟩:=tm (d:=d) (σ:=[]) (n:=c1);obtain ⟨v,hv,fv,x2⟩:∃ v,gf v/\v∉jS::zr/\lZ.ex (KK (d+1) false) [dV (.lst [.int c0,.int c1]),qV 0,none,none] [.fld (.list [.str n0,.str n1,.str [97],.str [122,57]])]=some (.next [dV (.lst [.int c0,.int c1]),qV 0,none,none],[.fld (.list [.str n0,.str v,.str [97],.str [122,57]])]):=by
  by_cases q:c1.fmod 2=1
  .obtain ⟨k,y,hk,hy,e2⟩:=sH (d:=d) (hd:=false) (n:=c1.fdiv 2) (t:=n0) (sg:=lq) (nS h0).1 (by have:=(nS h0).2;exact NK this (NH rfl)) rfl;exact ⟨n0.set k y,F1 h0 hy,f0 k y,bp (tT q rfl) (aa (kx (bg e2 rfl) rfl rfl rfl) rfl)⟩
  .exact ⟨n1,h1,vM f1,aY (tF q rfl) rfl⟩
 have t1:=m3 (T:=[]) (w:=n0);rw[Oo] at t1;have t2:=m3 (T:=jy [] n0) (w:=v);have t3:=m3 (T:=jy (jy [] n0) v) (w:=[97]);have t4:=m3 (T:=jy (jy (jy [] n0) v) [97]) (w:=[122,57]);have st:∀ o:PO,bN [.fld (.list [.str n0,.str v,.str [97],.str [122,57]]),o] (.lst [.str n0,.str v,.str [97],.str [122,57]]) (.p 0 0)=true:=fun o=>ky rfl;refine ⟨_,mV (mV (mV (mV ⟨Ol,NV,aX,NV⟩ h0 (vM f0)) hv fv) ⟨97,[],rfl,by decide,by decide,aX⟩ (by decide)) ⟨122,[57],rfl,by decide,by decide,by decide⟩ (by decide),fun x hx=> ?_,NK (t3.2.2 (by decide)) t4.1,NK t4.2.1 (Ow (NK t3.2.1 (Ow (NK t2.2.1 (Ow t1.2.1))))),oV (m:=1) (f':=.list ((bu::_).map .str)) rfl rfl rfl (aa (az (ie (bT (bg e0 rfl) (bT (bg e1 rfl) rfl))) rfl) (aa x2 (aa rfl (aa (bF (v:=.p 0 0) (x:=.lst [.str n0,.str v,.str [97],.str [122,57]]) rfl rfl (bo (mW (T:=[]) (by decide)) (st _) (bo (mW (by omega)) (st _) (bo (mW (by omega)) (st _) (bo (mW (by omega)) (st _) rfl))))) rfl)))) (by decide) rfl rfl⟩;rcases nj hx with hx|rfl
 .rcases nj hx with hx|rfl
  .rcases nj hx with hx|rfl
   .rcases nj hx with hx|rfl
    .exact absurd hx NV
    .exact fun z=>vM f0 (.tail _ z)
   .exact fun z=>fv (.tail _ z)
  .decide
 .decide
theorem AM {a b c e:Option PV} {Y:PO} (h:F.length<=8):Ev (KK (d+1) false) (bi bh (aj (ag 1) ao)) [a,qV 0,b,c,e] [.fld (.list (F.map .str)),X,Y] (.d (.int F.length)):=by
 have e:=om (hd:=false) (σ:=[.fld (.list (F.map .str)),X,Y]) (x:=.p 0 0) rfl (by rw[Nz];exact bj (NK h (by decide)));rw[Nz] at e;exact cr rfl e
theorem Bv {a b:Option PV} {Y:PO} (h:F.length<=8):eG.ex (KK (d+1) false) [a,qV 0,b,iV L,sV w] [.fld (.list (F.map .str)),X,Y]=some (.next [a,qV 0,b,iV L,sV w],[.fld (.list ((BX L F w).map .str)),X,Y]):=by
 unfold BX;by_cases q:w∈F
 .rw[if_pos (.inl q)];exact aa (aY (cI (eX (ak rfl rfl rfl rfl (wP q)))) rfl) rfl
 by_cases z:(F.length:Int)<L
 .rw[if_neg (fun y=>y.elim q (Int.not_le.mpr z)),List.map_append];exact aa (bp (cI (ee (ak rfl rfl rfl rfl (th q)) (ee (ak (AM h) rfl rfl rfl (n_ z)) rfl))) (aa (aV (fW (n:=0) (j:=0) (l:=F.map .str) (y:=.str w) rfl rfl rfl (by rw[Nz];exact j2 (NK h (by decide))))) rfl)) rfl
 .rw[if_pos (.inr (OA.mp z))];exact aa (aY (cI (ee (ak rfl rfl rfl rfl (th q)) (eX (ak (AM h) rfl rfl rfl (hO z))))) rfl) rfl
theorem Bw {P:List Nat->Prop} {a:Option PV} {ys:List D} (hL:L<=8):∀ (ws us F:List (List Nat)) (x:Option PV),Cu L P us F->(∀ x∈ws,P x)->∃ G y,Cu L P (ws.reverse++us) G/\c6 (.p 2 0) (.lst ys) 4 (fun ρ=>eG.ex (KK (d+1) false) ρ) (ws.map .str) [a,qV 0,qV 2,iV L,x] [.fld (.list (F.map .str)),X,.fld (.list ys)]=some (.next [a,qV 0,qV 2,iV L,y],[.fld (.list (G.map .str)),X,.fld (.list ys)]):=by
 intro ws
 induction ws with
 |nil=>
  intro us F x h _;exact ⟨F,x,h,rfl⟩
 |cons w ws ih=>
  intro us F x h hw;obtain ⟨G,y,c,e⟩:=ih (w::us) (BX L F w) (sV w) (GT h (hw w (.head _))) fun x hx=>hw x (.tail _ hx);exact ⟨G,y,by rw[List.reverse_cons,List.append_assoc];exact c,bo (Bv (Kl hL h.le)) (ky rfl) e⟩
theorem mr {c0 c1:Int}:∃ F:List (List Nat),F.Nodup/\(∀ x∈F,br x=true)/\3<=F.length/\F.length<=8/\(∃ n0 v,∀ x∈F,x∈n0::v::ug)/\CC (d+2) false 42 [.d (.lst [.int c0,.int c1])] []=some (.ok (.d (.lst (F.map .str))),[]):=by
 obtain ⟨n0,h0,e0⟩:=kU (d:=d) (hd:=false) (σ:=[.fld (.list [])]) (n:=c0);obtain ⟨n1,h1,e1⟩:=kU (d:=d) (hd:=false) (σ:=[.fld (.list [])]) (n:=c1);generalize hB:PO.fld (.list [.str n0,.str n1,.str [69,85,82],.str [74,80,89],.str [85,83,68]])=B;obtain ⟨L,hL,x4⟩:∃ L:Int,(4<=L/\L<=8)/\∀ x y z s,gC.ex (KK (d+1) false) [dV (.lst [.int c0,.int c1]),x,y,z,none] s=some (.next [dV (.lst [.int c0,.int c1]),x,y,iV L,none],s):=by
  by_cases q:(c0.fdiv 3).fmod 8=3
  .exact ⟨8,by decide,fun _ _ _ _=>az (DT (tT q rfl) rfl) rfl⟩
  .exact ⟨4,by decide,fun _ _ _ _=>az (DU (tF q rfl) rfl) rfl⟩
 obtain ⟨v,hv,x5⟩:∃ v,br v=true/\∀ x y z,gB.ex (KK (d+1) false) [dV (.lst [.int c0,.int c1]),x,qV 2,y,z] [.fld (.list []),B,.fld (.list (.str n0:: .str n1::ug.map .str))]=some (.next [dV (.lst [.int c0,.int c1]),x,qV 2,y,z],[.fld (.list []),B,.fld (.list (.str n0:: .str v::ug.map .str))]):=by
  by_cases q:c1.fmod 2=1
  .obtain ⟨k,y,hk,hy,e2⟩:=sH (d:=d) (hd:=false) (n:=c1.fdiv 2) (t:=n0) (sg:=fE) (by rw[dD h0];decide) (by rw[dD h0];decide) rfl;exact ⟨n0.set k y,D1 h0 hy,fun _ _ _=>bp (tT q rfl) (aa (kx (bg e2 rfl) rfl rfl rfl) rfl)⟩
  .exact ⟨n1,h1,fun _ _ _=>aY (tF q rfl) rfl⟩
 obtain ⟨F,y,c,lp⟩:=Bw (d:=d) (P:=fun x=>br x=true/\x∈n0::v::ug) (a:=dV (.lst [.int c0,.int c1])) (X:=B) (ys:=.str n0:: .str v::ug.map .str) hL.2 (n0::v::ug) [] [] none ⟨Ol,by have:=hL.1;show (0:Int)<=L;exact Kk hL,aX,aX⟩ fun x hx=>⟨by
  rcases NB.mp hx with rfl|hx
  .exact h0
  rcases NB.mp hx with rfl|hx
  .exact hv
  .exact D0 x hx,hx⟩
 have m:∀ x∈ug,x∈F∨L<=F.length:=fun x hx=>c.mm x (by rw[List.append_nil];exact List.mem_reverse.mpr (.tail _ (.tail _ hx)));have le:=c.le;refine ⟨F,c.nd,fun x hx=>(c.al x hx).1,?_,Kj hL le,⟨n0,v,fun x hx=>(c.al x hx).2⟩,?_⟩
 .by_cases z:L<=F.length
  .exact Ki hL z
  .exact xS ((m [69,85,82] (.head _)).resolve_right z) ((m [74,80,89] (.tail _ (.head _))).resolve_right z) ((m [85,83,68] (.tail _ (.tail _ (.head _)))).resolve_right z) (by decide) (by decide) (by decide)
 .exact oV (f':=.list (F.map .str)) (m:=0) rfl rfl rfl (aa rfl (aa (az (ie (bT (bg e0 rfl) (bT (bg e1 rfl) rfl))) rfl) (aa (az (v6 rfl (cN rfl) rfl rfl (NH rfl)) rfl) (aa (x4 _ _ _ _) (aa (hB ▸ x5 _ _ _) (aa (bF rfl rfl (hB ▸ lp)) rfl)))))) (NM _) rfl rfl
end
noncomputable abbrev Tx:=List Nat
variable {due h note s tx w:Tx} {F Ns T aJ:List Tx}
noncomputable abbrev ko:Tx:=[108,105,110,101]
noncomputable abbrev cX:Tx:=OD
noncomputable abbrev de:Tx:=OH
noncomputable abbrev gW:Tx:=OE
noncomputable abbrev gu:Tx:=OI
noncomputable abbrev gv:Tx:=[98,97,99,107]
noncomputable abbrev gU:Tx:=[99,108,111,115,101]
noncomputable abbrev jz:Tx:=[104,111,109,101]
noncomputable def iu (w:Tx):Bool:= !w.isEmpty&&w.all fun c=>decide (33<=c)&&decide (c<=126)
set_option genCtorIdx true in
inductive Dd where
 |acc (a:Tx)
 |rate (c:Tx) (n t b:Int)
 |entry (n:Int) (note:Tx) (ls:List aQ)
 |change (n:Int) (note g one:Tx) (a:Int) (tk cJ:Tx)
 |back (k n:Int)
 |close (n:Int)
noncomputable def Dd.toD:Dd->D
 | .acc a=>kg a
 | .rate c n t b=>EM c n t b
 | .entry n note ls=>.tup [.str cX,.int n,.str note,.lst (ls.map aA)]
 | .change n note g one a tk cJ=>.tup [.str de,.int n,.str note,.tup [.str g,.str one,.int a],.str tk,.str cJ]
 | .back k n=>Jr k n
 | .close n=>GW n
noncomputable def Dd.len:Dd->Nat
 | .entry _ _ ls=>ls.length
 |_=>0
noncomputable def ly {α β:Type} (f:α->Option β):List α->Option (List β)
 |[]=>some []
 |x::r=>(f x).bind fun y=>(ly f r).map (y::·)
noncomputable def fS {α:Type} (b:Bool) (o:Option α):Option α:=match b with
 |true=>o
 |false=>none
theorem cK {b:Bool} {o:Option α} {x:α} (h:fS b o=some x):b=true/\o=some x:=by
 cases b with
 |true=>exact ⟨rfl,h⟩
 |false=>cases h
theorem kL {b:Bool} {o:Option α} (h:b=true):fS b o=o:=by rw[h];rfl
theorem oy {b:Bool} {o:Option α} (h:b=false):fS b o=none:=by rw[h];rfl
noncomputable abbrev wd (ws:List Tx) (k:Nat):Tx:=ws.getD k []
noncomputable def fit (ws:List Tx) (w:Tx) (m:Nat):Bool:=decide (wd ws 0=w)&&decide (ws.length=m)
noncomputable def ER (ws:List Tx):Option aQ:=fS (fit ws ko 4) (fS (iu (wd ws 1)) (fS (iu (wd ws 2)) ((bn (wd ws 3)).map fun n=>(wd ws 1,wd ws 2,n))))
noncomputable def cy (r:Tx):Option aQ:=ER (ax 32 r)
noncomputable def rZ (ws t:List Tx):Option Dd:=fS (decide (4<=ws.length)) ((bn (wd ws 1)).bind fun n=>(bn (wd ws 2)).bind fun k=>fS (decide (0<=k)&&decide (k<=t.length)) ((ly cy (t.take k.toNat)).map fun ls=>.entry n (bS [32] (ws.drop 3)) ls))
noncomputable def m7 (ws:List Tx):Option Dd:=fS (decide (8<=ws.length)) (fS (iu (wd ws 2)) (fS (iu (wd ws 3)) ((bn (wd ws 4)).bind fun a=>(bn (wd ws 1)).bind fun n=>fS (iu (wd ws 5)) (fS (iu (wd ws 6)) (some (.change n (bS [32] (ws.drop 7)) (wd ws 2) (wd ws 3) a (wd ws 5) (wd ws 6)))))))
noncomputable def Jw (ws:List Tx):Option Dd:=fS (fit ws gW 2) (fS (iu (wd ws 1)) (some (.acc (wd ws 1))))
noncomputable def EL (ws:List Tx):Option Dd:=fS (fit ws gu 5) (fS (iu (wd ws 1)) ((bn (wd ws 2)).bind fun n=>(bn (wd ws 3)).bind fun t=>(bn (wd ws 4)).map fun b=>.rate (wd ws 1) n t b))
noncomputable def E1 (ws:List Tx):Option Dd:=fS (fit ws gv 3) ((bn (wd ws 1)).bind fun k=>(bn (wd ws 2)).map fun n=>.back k n)
noncomputable def BA (ws:List Tx):Option Dd:=fS (fit ws gU 2) ((bn (wd ws 1)).map .close)
noncomputable def nN (ws:List Tx):Option Dd:=if wd ws 0=de then m7 ws else if wd ws 0=gW then Jw ws else if wd ws 0=gu then EL ws else if wd ws 0=gv then E1 ws else BA ws
noncomputable def kT (ws t:List Tx):Option Dd:=if wd ws 0=cX then rZ ws t else nN ws
noncomputable def d7 (r:Tx) (t:List Tx):Option Dd:=kT (ax 32 r) t
noncomputable def fA:Nat->List Tx->Option (List Dd)
 |_,[]=>some []
 |0,_::_=>none
 |n+1,r::t=>(d7 r t).bind fun x=>(fA n (t.drop x.len)).map (x::·)
theorem mU {r:Tx} {t:List Tx}:fA (n+1) (r::t)=(d7 r t).bind fun x=>(fA n (t.drop x.len)).map (x::·):=rfl
noncomputable def tU (ws:List Tx):Option Tx:=fS (fit ws jz 2) (fS (iu (wd ws 1)) (some (wd ws 1)))
noncomputable def Aw (ws:List Tx):Option Nat:=if wd ws 0=cX then fS (decide (4<=ws.length)) ((bn (wd ws 1)).bind fun _=>(bn (wd ws 2)).bind fun k=>fS (decide (0<=k)) (some k.toNat)) else (nN ws).map fun _=>0
noncomputable def EG:Nat->Tx->Option Nat
 |0,r=>Aw (ax 32 r)
 |k+1,r=>(cy r).map fun _=>k
noncomputable def Cp:Nat->List Tx->Option Nat
 |k,[]=>some k
 |k,r::t=>(EG k r).bind fun j=>Cp j t
theorem Ay {f:α->Option β}:∀ {l:List α} {m:List β},ly f l=some m->m.length=l.length:=by
 intro l
 induction l with
 |nil=>
  intro m h;cases h;rfl
 |cons x l ih=>
  intro m h;obtain ⟨y,_,h⟩:=am h;obtain ⟨r,e,rfl⟩:=aN h;rw[NI,NI,ih e]
theorem uN:∀ {l:List Tx} {m:List aQ},ly cy l=some m->Cp l.length l=some 0:=by
 intro l
 induction l with
 |nil=>
  intro m h;exact rfl
 |cons x l ih=>
  intro m h;obtain ⟨y,e,h⟩:=am h;obtain ⟨r,e2,rfl⟩:=aN h;show ((cy x).map fun _=>l.length).bind _=_;rw[e];exact ih e2
theorem yl {ws:List Tx} {x:Dd} (h:nN ws=some x):x.len=0:=by
 unfold nN at h;split at h
 .have h:=(cK h).2;have h:=(cK h).2;obtain ⟨_,_,h⟩:=am (cK h).2;obtain ⟨_,_,h⟩:=am h;have h:=(cK h).2;have h:=(cK h).2;cases h;rfl
 split at h
 .have h:=(cK h).2;have h:=(cK h).2;cases h;rfl
 split at h
 .have h:=(cK h).2;obtain ⟨_,_,h⟩:=am (cK h).2;obtain ⟨_,_,h⟩:=am h;obtain ⟨_,_,rfl⟩:=aN h;rfl
 split at h
 .obtain ⟨_,_,h⟩:=am (cK h).2;obtain ⟨_,_,rfl⟩:=aN h;rfl
 .obtain ⟨_,_,rfl⟩:=aN (cK h).2;rfl
theorem za {r:Tx} {t:List Tx} {x:Dd} (h:d7 r t=some x):x.len<=t.length/\EG 0 r=some x.len/\Cp x.len (t.take x.len)=some 0:=by
 unfold d7 kT at h;show _/\Aw (ax 32 r)=_/\_;unfold Aw;generalize ax 32 r=ws at h;by_cases q:wd ws 0=cX
 .rw[if_pos q] at h ⊢;obtain ⟨e0,h⟩:=cK h;obtain ⟨n,e1,h⟩:=am h;obtain ⟨k,e2,h⟩:=am h;obtain ⟨y,h⟩:=cK h;obtain ⟨ls,e3,rfl⟩:=aN h;have y1:=Of (ai y);have y2:=Of (an y);have l1:=Ay e3;have l2:(t.take k.toNat).length=k.toNat:=by rw[List.length_take];exact Nat.min_eq_left (Int.toNat_le.mpr y2)
  rw[l2] at l1;show ls.length<=_/\_=some ls.length/\Cp ls.length (t.take ls.length)=some 0;rw[kL e0,e1,e2,l1];refine ⟨by exact Int.toNat_le.mpr y2,kL (NP y1),?_⟩;have:=uN e3
  rwa [l2] at this
 .rw[if_neg q] at h ⊢;rw[h,yl h];exact ⟨N3 _,rfl,rfl⟩
noncomputable def rX (o:Option D):R PV:=o.elim (.ex 16) fun x=>.ok (.d x)
section
theorem nF {lo hi:CP} {l h:PV} {u1 u2 z:D} (h1:Ev K a ρ σ x) (h2:lo.ev K ρ σ=some (.ok l,σ)) (h3:hi.ev K ρ σ=some (.ok h,σ)) (r1:rd σ x=some u) (r2:km l=some u1) (r3:km h=some u2) (e:iG u u1 u2=some z):Ev K (rc a lo hi) ρ σ (.d z):=by
 refine aB h1 (aB h2 (aB h3 ?_));show ((rd σ x).bind fun u=>(km l).bind fun l=>(km h).bind fun h=>(iG u l h).map PV.d).map _=_;rw[r1,r2,r3,NA,NA,NA,e];rfl
theorem nE (hk:k<=1000):iG (.str s) .none (.int k)=some (.str (s.take k)):=by
 have e:∀ i:Int,iG (.str s) .none (.int i)=(aq (bQ i=true) i).bind fun h=>aq (cZ 0 s.length<=cZ h s.length) (D.str (bf s (cZ 0 s.length) (cZ h s.length))):=fun i=>rfl;have c0:cZ 0 s.length=0:=by unfold cZ;rw[if_neg (by decide)];exact Nat.zero_min _
 have c1:cZ (k:Int) s.length=min k s.length:=by unfold cZ;rw[if_neg (B1),Int.toNat_natCast]
 rw[e,aM (dj (B0) (JM hk)),NA,c0,c1,aM (N3 _),bf,List.drop_zero,Nat.sub_zero];congr 2;rcases Nat.le_total k s.length with q|q
 .rw[Nat.min_eq_left q]
 .rw[Nat.min_eq_right q,List.take_length,List.take_of_length_le q]
theorem sS (hk:k<=1000):iG (.str s) (.int k) .none=some (.str (s.drop k)):=by
 have e:∀ i:Int,iG (.str s) (.int i) .none=(aq (bQ i=true) i).bind fun l=>aq (cZ l s.length<=cZ s.length s.length) (D.str (bf s (cZ l s.length) (cZ s.length s.length))):=fun i=>rfl;have c0:cZ s.length s.length=s.length:=by unfold cZ;rw[if_neg (B1),Int.toNat_natCast,Nat.min_self]
 have c1:cZ (k:Int) s.length=min k s.length:=by unfold cZ;rw[if_neg (B1),Int.toNat_natCast]
 rw[e,aM (dj (B0) (JM hk)),NA,c0,c1,aM (Nat.min_le_right _ _),bf];congr 2;rcases Nat.le_total k s.length with q|q
 .rw[Nat.min_eq_left q,List.take_of_length_le (by rw[List.length_drop];exact H7)]
 .rw[Nat.min_eq_right q,Nat.sub_self,List.take_zero,List.drop_of_length_le q]
theorem Gd (h:Ev K e ρ σ (.d (.str s))) (hl:s.length<=100000):Ev K (bi bh (aj e ao)) ρ σ (.d (.int s.length)):=cr (b7 h) (kK (NK hl (by decide)))
theorem yJ (c:Nat):decide (c∈DO)=isDg c:=by
 unfold isDg;by_cases q:48<=c/\c<=57
 .rw[NP q.1,NP q.2];refine NP ?_;have e:=(show ∀ k<10,48+k∈DO by decide) (c - 48) ((Nat.sub_lt_iff_lt_add q.1).mpr (NZ q.2 (by decide)))
  rwa [Nat.add_sub_cancel' q.1] at e
 .have e:decide (c∈DO)=false:=Op fun h=>q ((show ∀ c∈DO,48<=c/\c<=57 by decide) c h);rw[e];by_cases q1:48<=c
  .rw[Op fun z=>q ⟨q1,z⟩,Bool.and_false]
  .rw[Op q1];rfl
theorem ES (a b:Nat):lL.g (.str [a]) (.str [b])=some (decide (a<=b)):=by
 show some (if a<b then true else if a=b then true else false)=_;rcases Nat.lt_trichotomy a b with q|q|q
 .rw[if_pos q,NP (Oc q)]
 .rw[if_neg (H8 q),if_pos q,NP (On q)]
 .rw[if_neg (Nat.lt_asymm q),if_neg (Nat.ne_of_gt q),Op (Nat.not_le_of_lt q)]
theorem AX {v:Nat} (h:Hu (dW w)=some v):∃ n,mF w=some n:=by
 unfold mF;split
 .exact ⟨_,congrArg (Option.map _) h⟩
 .rename_i q
  have:dW w=w:=by
   unfold dW;split
   .exact absurd rfl (q _)
   .rfl
  rw[this] at h;exact ⟨_,congrArg (Option.map _) h⟩
theorem uY (hw:w.length<=1000):CC (d+1) false 91 [.d (.str w)] σ=some (rX ((bn w).map .int),σ):=by
 have s2:io.ex (KK d false) [sV w,sV w,none] σ=some (.next [sV w,sV (dW w),none],σ):=by
  have e1:Ev (KK d false) (rc (ag 0) nQ (gQ (ah 1))) [sV w,sV w,none] σ (.d (.str (w.take 1))):=nF rfl rfl rfl rfl rfl rfl (nE (k:=1) (by decide));by_cases q:w.take 1=[45]
  .have:dW w=w.drop 1:=by
    match w,q with
    |x::r,q=>
     obtain rfl:x=45:=(List.cons.inj q).1;rfl
   rw[this];exact bp (ak e1 rfl rfl rfl (iq q)) (aa (az (nF rfl rfl rfl rfl rfl rfl (sS (k:=1) (by decide))) rfl) rfl)
  .have:dW w=w:=by
    unfold dW;split
    .exact absurd rfl q
    .rfl
   rw[this];exact aY (ak e1 rfl rfl rfl (fU q)) rfl
 have fl:(dW w).length<=1000:=by
  unfold dW;split
  .rw[NI] at hw;exact Oc hw
  .exact hw
 have al:=fp (K:=KK d false) (ρ:=[sV w,sV (dW w),none]) (σ:=σ) (i:=2) (it:=ag 1) (p:=isDg) (bM:=qd oW (ag 2) (vp "FIGURES" (none,OL))) rfl fl fun c _=>by rw[<-yJ];rfl
 have ln:Ev (KK d false) (bi bh (aj (ag 1) ao)) [sV w,sV (dW w),none] σ (.d (.int (dW w).length)):=Gd rfl (NK fl (NH rfl));unfold bn;have bad:iP w (dW w)=false->(sC e9 (sC im (sC (aO (bi EZ (aj (ag 0) ao))) sN))).ex (KK d false) [sV w,sV (dW w),none] σ=some (.ex 16 [sV w,sV (dW w),none],σ)->CC (d+1) false 91 [.d (.str w)] σ=some (rX ((if iP w (dW w)=true then mF w else none).map .int),σ):=fun g h=>by
  rw[g];exact cO rfl rfl rfl (aa rfl (aa s2 h)) (tk _)
 by_cases q1:dW w=[]
 .exact bad (by unfold iP;rw[q1];rfl) (bv (bp (bc (dB (ak rfl rfl rfl rfl (iq q1)))) rfl))
 by_cases q2:60<(dW w).length
 .exact bad (by unfold iP;rw[Op (Nat.not_le.mpr q2),Bool.and_false];rfl) (bv (bp (bc (a_ (ak rfl rfl rfl rfl (fU q1)) (dB (ak ln rfl rfl rfl (rH (Ob.mpr q2)))))) rfl))
 by_cases q3:(dW w).all isDg=true
 case neg=>
  have q3:=eq_false_of_ne_true q3;rw[q3] at al;exact bad (by unfold iP;rw[q3,Bool.and_false];rfl) (bv (bp (bc (a_ (ak rfl rfl rfl rfl (fU q1)) (a_ (ak ln rfl rfl rfl (j6 (H6 q2))) (dB (iB (cU al)))))) rfl))
 rw[q3] at al;have s3:e9.ex (KK d false) [sV w,sV (dW w),none] σ=some (.next [sV w,sV (dW w),none],σ):=aY (bc (a_ (ak rfl rfl rfl rfl (fU q1)) (a_ (ak ln rfl rfl rfl (j6 (H6 q2))) (a_ (iB (cU al)) rfl)))) rfl;obtain ⟨c,r,hf⟩:=List.exists_cons_of_ne_nil q1;have e0:Ev (KK d false) (sub (ag 1) (ah 0)) [sV w,sV (dW w),none] σ (.d (.str [c])):=bB rfl rfl rfl rfl (A5 (k:=0) (by rw[hf];rfl));have g0:iP w (dW w)= !((dW w).head? ==some 48&&w !=[48]):=by
  unfold iP;rw[q3,NP (Oz.mp q2),show (dW w).isEmpty=false by rw[hf];rfl];rfl
 rw[hf] at g0;by_cases q4:c=48
 .by_cases q5:w=[48]
  .subst q5;exact bA rfl rfl rfl rfl (tk _)
  .refine bad ?_ (aa s3 (bv (bp (cI (ee (ak e0 rfl rfl rfl (iq (by rw[q4]))) (ee (ak rfl rfl rfl rfl (Av q5)) rfl))) rfl)));rw[hf,g0,q4];show (!(true&&w !=[48]))=false;rw[bne_iff_ne.mpr q5];rfl
 .have g1:iP w (dW w)=true:=by
   rw[hf,g0];show (!((some c==some 48)&&_))=true;rw[beq_eq_false_iff_ne.mpr fun h=>q4 (Om h)];rfl
  have i1:∃ n,mF w=some n:=by
   have dg:∀ f:Tx,f≠[]->f.all isDg=true->f.length<=60->Hu f=some (NumText.digitsVal f):=fun f h1 h2 h3=>aM ⟨h1,h2,by exact NK (h3) (NH rfl)⟩;have:=dg _ q1 q3 (Oz.mp q2);exact AX this
  obtain ⟨n,i1⟩:=i1;rw[if_pos g1,i1];refine bA rfl rfl rfl (aa rfl (aa s2 (aa s3 (aa (aY (cI (eX (ak e0 rfl rfl rfl (fU fun h=>q4 (List.cons.inj h).1)))) rfl) (aS (aT (cr (b7 rfl) ?_))))))) (tk _);show ((mF w).map D.int).map _=_;rw[i1];rfl
theorem u4 (hw:w.length<=1000):CC (d+1) false 93 [.d (.str w)] σ=some (rX (fS (iu w) (some (.str w))),σ):=by
 have al:=fp (K:=KK d false) (ρ:=[sV w,none]) (σ:=σ) (i:=1) (it:=ag 0) (p:=fun c=>decide (33<=c)&&decide (c<=126)) (bM:=vY lL lL (aC [33]) (ag 1) (aC [126])) rfl hw fun c _=>kP rfl rfl rfl rfl rfl rfl (ES _ _) (ES _ _);by_cases q1:w=[]
 .rw[oy (by rw[q1];rfl)];exact cO rfl rfl rfl (bv (bp (bc (dB (ak rfl rfl rfl rfl (iq q1)))) rfl)) (tk _)
 have e:iu w=w.all fun c=>decide (33<=c)&&decide (c<=126):=by
  obtain ⟨c,r,rfl⟩:=List.exists_cons_of_ne_nil q1;rfl
 rw[<-e] at al;cases q2:iu w with
 |false=>
  rw[q2] at al;exact cO rfl rfl rfl (bv (bp (bc (a_ (ak rfl rfl rfl rfl (fU q1)) (dB (iB (cU al))))) rfl)) (tk _)
 |true=>
  rw[q2] at al;exact bA rfl rfl rfl (aa (aY (bc (a_ (ak rfl rfl rfl rfl (fU q1)) (a_ (iB (cU al)) rfl))) rfl) rfl) (tk _)
theorem iU (h:Ev K o ρ σ (.d (.str s))) (hl:s.length<=1048576):Ev K (bm g8 o (aj (aC [c]) ao)) ρ σ (.d (.lst ((ax c s).map .str))):=by
 refine aB h ?_;show bP ((aj (aC [c]) ao).ev K ρ) _ σ=_;refine aB rfl ?_;show (Option.map D.lst (aq (s.length<=1048576) ((ax c s).map D.str))).map _=_;rw[aM hl];rfl
theorem lj:∀ l:Tx,(ax c l).length<=l.length+1:=by
 intro l
 induction l with
 |nil=>
  exact NM _
 |cons x r ih=>
  have ih:=ih;have e:=je c r;have e2:=congrArg List.length e;rw[NI] at e2;rw[fx,Fu];split
  .rw[NI,NI];exact Ow ih
  .rw[NI,NI];omega
theorem kz (hs:s.length<=1000):(wd (ax c s) k).length<=1000:=by
 unfold wd;rw[NT];cases q:(ax c s)[k]? with
 |none=>exact N3 _
 |some p=>exact NK (gY (N5 q)).2 hs
theorem HA {ws:List Tx} (h:k<ws.length):(ws.map D.str)[k]? =some (.str (wd ws k)):=by
 rw[NR,NE h,wd,NT,NE h];rfl
theorem t7 {ws:List Tx} (k:Nat) (he:Ev K e ρ σ (.d (.lst (ws.map .str)))) (h:k<ws.length) (hk:k<=100000:=by decide):Ev K (sub e (ah (k:Nat))) ρ σ (.d (.str (wd ws k))):=bB he rfl rfl rfl (c5 (HA h) hk)
theorem split_pos {l:Tx}:0<(ax c l).length:=by
 rw[je c l,NI];exact Nat.succ_pos _
theorem lh {f:Tx} (hs:s.length<=1000) (hm:m<=1000):CC (d+1) false 92 [.d (.str s),.d (.str f),.d (.int m)] σ=some (rX (fS (fit (ax 32 s) f m) (some (.lst ((ax 32 s).map .str)))),σ):=by
 have a1:(aG 3 (bm g8 (ag 0) (aj (aC [32]) ao))).ex (KK d false) [sV s,sV f,iV m,none] σ=some (.next [sV s,sV f,iV m,dV (.lst ((ax 32 s).map .str))],σ):=az (iU rfl (NK (hs) (NH rfl))) rfl;have hl:=lj (c:=32) s;have e0:Ev (KK d false) (sub (ag 3) (ah 0)) [sV s,sV f,iV m,dV (.lst ((ax 32 s).map .str))] σ (.d (.str (wd (ax 32 s) 0))):=t7 0 rfl split_pos;have ln:Ev (KK d false) (bi bh (aj (ag 3) ao)) [sV s,sV f,iV m,dV (.lst ((ax 32 s).map .str))] σ (.d (.int (ax 32 s).length)):=by
  have q:=om (hd:=false) (σ:=σ) (x:=.d (.lst ((ax 32 s).map .str))) rfl (by rw[Nz];exact NK hl (NK (by exact Ow hs:_<=1001) (by decide)));rw[Nz] at q;exact cr (b7 rfl) q
 by_cases q1:wd (ax 32 s) 0=f
 .by_cases q2:(ax 32 s).length=m
  .rw[kL (by unfold fit;rw[NP q1,NP q2];rfl)];exact bA rfl rfl rfl (aa a1 (aa (aY (bc (a_ (ak e0 rfl rfl rfl (kA q1)) (a_ (ak ln rfl rfl rfl (iw (by rw[q2]))) rfl))) rfl) rfl)) (tk _)
  .rw[oy (by unfold fit;rw[Op q2,Bool.and_false])];exact cO rfl rfl rfl (aa a1 (bv (bp (bc (a_ (ak e0 rfl rfl rfl (kA q1)) (dB (ak ln rfl rfl rfl (yr (KW q2)))))) rfl))) (tk _)
 .rw[oy (by unfold fit;rw[Op q1];rfl)];exact cO rfl rfl rfl (aa a1 (bv (bp (bc (dB (ak e0 rfl rfl rfl (Av q1)))) rfl))) (tk _)
end
section
variable {r:Tx} {ws t:List Tx}
theorem c_ {l:CL} (h:l.ev K ρ σ=some (.ex k,σ')):(bE l).ev K ρ σ=some (.ex k,σ'):=lN h
theorem qq (k:Nat) (he:Ev (KK (d+1) false) e ρ σ (.d (.lst (ws.map .str)))) (h:k<ws.length) (hw:(wd ws k).length<=1000) (hk:k<=100000:=by decide):(au 93 (aj (sub e (ah (k:Nat))) ao)).ev (KK (d+1) false) ρ σ=some (rX (fS (iu (wd ws k)) (some (.str (wd ws k)))),σ):=bq (b7 (t7 k he h hk)) (u4 hw)
theorem wM (k:Nat) (he:Ev (KK (d+1) false) e ρ σ (.d (.lst (ws.map .str)))) (h:k<ws.length) (hw:(wd ws k).length<=1000) (hk:k<=100000:=by decide):(au 91 (aj (sub e (ah (k:Nat))) ao)).ev (KK (d+1) false) ρ σ=some (rX ((bn (wd ws k)).map .int),σ):=bq (b7 (t7 k he h hk)) (uY hw)
theorem qD {f:Tx} (h:fit ws f m=true):ws.length=m:=Of (an h)
theorem AK (hr:r.length<=500):CC (d+2) false 95 [.d (.str r)] σ=some (rX ((cy r).map aA),σ):=by
 have w1:=lh (d:=d) (σ:=σ) (s:=r) (f:=ko) (m:=4) (s8 hr) (by decide);have hw:∀ k,(wd (ax 32 r) k).length<=1000:=fun k=>kz (s8 hr);unfold cy ER;generalize ax 32 r=ws at w1 hw;cases q0:fit ws ko 4 with
 |false=>
  rw[q0] at w1;exact cO rfl rfl rfl (bv (eJ (bq rfl w1))) (tk _)
 |true=>
 rw[q0] at w1;have l4:=qD q0;have a1:jK.ex (KK (d+1) false) [sV r,none] σ=some (.next [sV r,dV (.lst (ws.map .str))],σ):=az (bq rfl w1) rfl;have n1:=qq (d:=d) (ρ:=[sV r,dV (.lst (ws.map .str))]) (σ:=σ) (e:=ag 1) (ws:=ws) 1 rfl (KV l4) (hw 1);have n2:=qq (d:=d) (ρ:=[sV r,dV (.lst (ws.map .str))]) (σ:=σ) (e:=ag 1) (ws:=ws) 2 rfl (KU l4) (hw 2);have n3:=wM (d:=d) (ρ:=[sV r,dV (.lst (ws.map .str))]) (σ:=σ) (e:=ag 1) (ws:=ws) 3 rfl (KT l4) (hw 3);cases q1:iu (wd ws 1) with
 |false=>rw[q1] at n1;exact cO rfl rfl rfl (aa a1 (bv (dp (c_ (dT n1))))) (tk _)
 |true=>
 rw[q1] at n1;cases q2:iu (wd ws 2) with
 |false=>rw[q2] at n2;exact cO rfl rfl rfl (aa a1 (bv (dp (c_ (bH n1 (dT n2)))))) (tk _)
 |true=>
 rw[q2] at n2;cases q3:bn (wd ws 3) with
 |none=>rw[q3] at n3;exact cO rfl rfl rfl (aa a1 (bv (dp (c_ (bH n1 (bH n2 (dT n3))))))) (tk _)
 |some k=>rw[q3] at n3;exact bA rfl rfl rfl (aa a1 (aS (aT (bW (bT n1 (bT n2 (b7 n3))))))) (tk _)
theorem Bq (hk:k<=l.length) (hl:l.length<=10000):dm (.lst l) (.int k) .none=some (.lst (l.drop k)):=by
 have e:∀ i:Int,dm (.lst l) (.int i) .none=(aq (l.length<=cS) ()).bind fun _=>(aq (bQ i=true) i).bind fun i=>(some (l.length:Int)).map fun h=>D.lst (bf l (cZ i l.length) (cZ h l.length)):=fun i=>rfl;rw[e,aM (NK hl (by decide)),NA,aM (dj (B0) (H5 hk hl)),NA,Option.map_some];have c1:cZ (k:Int) l.length=k:=by unfold cZ;rw[if_neg (B1),Int.toNat_natCast,Nat.min_eq_left hk]
 have c2:cZ (l.length:Int) l.length=l.length:=by unfold cZ;rw[if_neg (B1),Int.toNat_natCast,Nat.min_self]
 rw[c1,c2,bf,List.take_of_length_le (by rw[List.length_drop];exact H7)]
theorem wB (hk:k<=m) (hm:m<=l.length) (hl:l.length<=10000):dm (.lst l) (.int k) (.int m)=some (.lst ((l.drop k).take (m - k))):=by
 have e:∀ i j:Int,dm (.lst l) (.int i) (.int j)=(aq (l.length<=cS) ()).bind fun _=>(aq (bQ i=true) i).bind fun i=>(aq (bQ j=true) j).map fun h=>D.lst (bf l (cZ i l.length) (cZ h l.length)):=fun i j=>rfl;rw[e,aM (NK hl (by decide)),NA,aM (dj (B0) (N9 (Oa.mpr (NK hk (NK hm hl))) (by decide))),NA,aM (dj (B0) (H5 hm hl)),Option.map_some];have c1:cZ (k:Int) l.length=k:=by unfold cZ;rw[if_neg (B1),Int.toNat_natCast,Nat.min_eq_left (NK hk hm)]
 have c2:cZ (m:Int) l.length=m:=by unfold cZ;rw[if_neg (B1),Int.toNat_natCast,Nat.min_eq_left hm]
 rw[c1,c2,bf]
theorem j3 (h:Ev K e ρ σ (.d (.lst (ws.map .str)))) (hl:ws.length<=10000):Ev K (bi bh (aj e ao)) ρ σ (.d (.int ws.length)):=by
 have q:=om (hd:=K.hd) (σ:=σ) (x:=.d (.lst (ws.map .str))) rfl (by rw[Nz];exact NK hl (by decide));rw[Nz] at q;exact cr (b7 h) q
theorem xm (h:Ev K e ρ σ (.d (.lst (ws.map .str)))) (hk:k<=ws.length) (hl:ws.length<=1000) (hw:∀ t∈ws,t.length<=600):Ev K (bm lX (aC [32]) (aj (mQ e (gQ (ah (k:Nat))) nQ) ao)) ρ σ (.d (.str (bS [32] (ws.drop k)))):=by
 refine xn rfl (fh h (k7 rfl) rfl rfl rfl rfl (Bq (by rw[Nz];exact hk) (by rw[Nz];exact NK (hl) (NH rfl)))) ?_ (by decide) (fun t ht=>hw t (List.mem_of_mem_drop ht)) (by rw[List.length_drop];exact NK (Nat.sub_le _ _) hl);show some (D.lst _)=_;rw[List.map_drop]
theorem qn (hr:r.length<=500):∀ t∈ax 32 r,t.length<=600:=fun t ht=>NK (gY ht).2 (NK (hr) (NH rfl))
theorem v5 (hr:r.length<=500):CC (d+2) false 94 [.d (.str r)] σ=some (rX ((m7 (ax 32 r)).map Dd.toD),σ):=by
 have hw:∀ k,(wd (ax 32 r) k).length<=1000:=fun k=>kz (s8 hr);have hl:(ax 32 r).length<=501:=NK (lj r) (Ow hr);have h6:=qn hr;have a1:∀ x2 x3,(aG 1 (bm g8 (ag 0) (aj (aC [32]) ao))).ex (KK (d+1) false) [sV r,none,x2,x3] σ=some (.next [sV r,dV (.lst ((ax 32 r).map .str)),x2,x3],σ):=fun x2 x3=>az (iU rfl (NK (hr) (NH rfl))) rfl;unfold m7;generalize ax 32 r=ws at hw a1 hl h6;have ln:Ev (KK (d+1) false) (bi bh (aj (ag 1) ao)) [sV r,dV (.lst (ws.map .str)),none,none] σ (.d (.int ws.length)):=j3 rfl (NK (hl) (NH rfl));by_cases q0:8<=ws.length
 case neg=>
  rw[oy (Op q0)];exact cO rfl rfl rfl (aa (a1 none none) (bv (bp (ak ln rfl rfl rfl (n_ (Ob.mpr (Nat.not_le.mp q0)))) rfl))) (tk _)
 rw[kL (NP q0)];have pre:∀ z,(sC ip (sC e_ sN)).ex (KK (d+1) false) [sV r,dV (.lst (ws.map .str)),sV (bS [32] (ws.drop 7)),none] σ=z->h_.ex (KK (d+1) false) [sV r,none,none,none] σ=z:=fun z hz=>
  aa (a1 none none) (aa (aY (ak ln rfl rfl rfl (hO (OA.mpr (Oa.mpr q0)))) rfl) (aa (az (xm (k:=7) rfl (Oc q0) (NK (hl) (NH rfl)) h6) rfl) hz))
 have nm:∀ k x3,k<=6->(au 93 (aj (sub (ag 1) (ah (k:Nat))) ao)).ev (KK (d+1) false) [sV r,dV (.lst (ws.map .str)),sV (bS [32] (ws.drop 7)),x3] σ=some (rX (fS (iu (wd ws k)) (some (.str (wd ws k)))),σ):=fun k x3 hk=>qq k rfl (H4 q0 hk) (hw k) (NK (hk) (NH rfl));have nu:∀ k x3,k<=6->(au 91 (aj (sub (ag 1) (ah (k:Nat))) ao)).ev (KK (d+1) false) [sV r,dV (.lst (ws.map .str)),sV (bS [32] (ws.drop 7)),x3] σ=some (rX ((bn (wd ws k)).map .int),σ):=fun k x3 hk=>wM k rfl (H4 q0 hk) (hw k) (NK (hk) (NH rfl));have n2:=nm 2 none (by decide);have n3:=nm 3 none (by decide);have n4:=nu 4 none (by decide);cases q2:iu (wd ws 2) with
 |false=>rw[q2] at n2;exact cO rfl rfl rfl (pre _ (bv (eJ (c_ (dT n2))))) (tk _)
 |true=>
 rw[q2] at n2;cases q3:iu (wd ws 3) with
 |false=>rw[q3] at n3;exact cO rfl rfl rfl (pre _ (bv (eJ (c_ (bH n2 (dT n3)))))) (tk _)
 |true=>
 rw[q3] at n3;cases q4:bn (wd ws 4) with
 |none=>rw[q4] at n4;exact cO rfl rfl rfl (pre _ (bv (eJ (c_ (bH n2 (bH n3 (dT n4))))))) (tk _)
 |some a=>
 rw[q4] at n4;have pre2:∀ z,(sC e_ sN).ex (KK (d+1) false) [sV r,dV (.lst (ws.map .str)),sV (bS [32] (ws.drop 7)),dV (.tup [.str (wd ws 2),.str (wd ws 3),.int a])] σ=z->h_.ex (KK (d+1) false) [sV r,none,none,none] σ=z:=fun z hz=>pre z (aa (az (bW (bT n2 (bT n3 (b7 n4)))) rfl) hz);have n1:=nu 1 (dV (.tup [.str (wd ws 2),.str (wd ws 3),.int a])) (by decide);have n5:=nm 5 (dV (.tup [.str (wd ws 2),.str (wd ws 3),.int a])) (by decide);have n6:=nm 6 (dV (.tup [.str (wd ws 2),.str (wd ws 3),.int a])) (by decide);cases q1:bn (wd ws 1) with
 |none=>rw[q1] at n1;exact cO rfl rfl rfl (pre2 _ (bv (dp (c_ (bH rfl (dT n1)))))) (tk _)
 |some n=>
 rw[q1] at n1;cases q5:iu (wd ws 5) with
 |false=>rw[q5] at n5;exact cO rfl rfl rfl (pre2 _ (bv (dp (c_ (bH rfl (bH n1 (bH rfl (bH rfl (dT n5))))))))) (tk _)
 |true=>
 rw[q5] at n5;cases q6:iu (wd ws 6) with
 |false=>rw[q6] at n6;exact cO rfl rfl rfl (pre2 _ (bv (dp (c_ (bH rfl (bH n1 (bH rfl (bH rfl (bH n5 (dT n6)))))))))) (tk _)
 |true=>
 rw[q6] at n6;exact bA rfl rfl rfl (pre2 _ (aS (aT (bW (bT rfl (bT n1 (bT rfl (bT rfl (bT n5 (b7 n6)))))))))) (tk _)
theorem zd {y:D}:∀ (xs:List Tx) (acc:List D),(∀ x∈xs,bM.ev K (ρ.set i (sV x)) σ=some (rX ((cy x).map aA),σ))->acc.length+xs.length<=1000000->dF (.d y) y i (cR.ts K) (bM.ev K) ρ (xs.map .str) acc σ=some ((ly cy xs).elim (.ex 16) fun ls=>.ok (acc++ls.map aA),σ):=by
 intro xs
 induction xs with
 |nil=>
  intro acc _ _;show some (R.ok acc,σ)=some (R.ok (acc++[]),σ);rw[List.append_nil]
 |cons x xs ih=>
  intro acc h hl;have e:=h x (.head _);rw[NI] at hl;show (match bM.ev K (ρ.set i (sV x)) σ with
   |some (.ok (.d z),σ'')=>if bN σ'' y (.d y)/\acc.length<cS then dF (.d y) y i (cR.ts K) (bM.ev K) ρ (xs.map .str) (acc++[z]) σ'' else none
   |some (.ex c,σ'')=>some (.ex c,σ'')
   |_=>none)=_
  rw[e,show ly cy (x::xs)=(cy x).bind fun y=>(ly cy xs).map (y::·) from rfl];cases q:cy x with
  |none=>rfl
  |some l=>
   have ih:=ih (acc++[aA l]) (fun z hz=>h z (.tail _ hz)) (by rw[NC,NL];exact MK hl);show (if bN σ y (.d y)/\acc.length<cS then dF (.d y) y i (cR.ts K) (bM.ev K) ρ (xs.map .str) (acc++[aA l]) σ else none)=_;rw[if_pos ⟨rfl,NZ (NK (Os _ _) hl) (by decide)⟩,ih];cases ly cy xs with
   |none=>rfl
   |some ls=>
    show some (R.ok (acc++[aA l]++ls.map aA),σ)=some (R.ok (acc++aA l::ls.map aA),σ);rw[List.append_assoc];rfl
theorem zc {x:D} {xs:List D} {z:R (List D)} (h:Ev K it ρ σ (.d x)) (h1:items x=some xs) (h2:dF (.d x) x i (cR.ts K) (bM.ev K) ρ xs [] σ=some (z,σ')) (hK:K.hd=false:=by rfl):gI true i it cR bM K ρ σ=some (z,σ'):=by
 unfold gI;rw[hK];refine aB h ?_;show (uz (.d x) σ).bind _=_;rw[eq h1,NA,h2];cases z with
 |ok a=>rfl
 |ex c=>rfl
theorem ye (h:gI true i it cR bM K ρ σ=some (.ok l,σ')) (k:ρ.set j (dV (.lst l))=ρ'):(nG j i it bM).ex K ρ σ=some (.next ρ',σ'):=by
 subst k;exact db (aB h rfl) rfl
theorem yf (h:gI true i it cR bM K ρ σ=some (.ex c,σ')):(nG j i it bM).ex K ρ σ=some (.ex c ρ,σ'):=rk (lN h)
theorem we {r:Tx} (h:aJ.drop k=r::t):aJ[k]? =some r/\aJ.length=k+1+t.length/\aJ.drop (k+1)=t:=by
 have l:=congrArg List.length h;rw[List.length_drop,NI] at l;refine ⟨?_,KS l,?_⟩
 .have:=congrArg (fun x:List Tx=>x[0]?) h;rw[List.getElem?_drop] at this;exact this
 .rw[<-List.drop_drop,h];rfl
theorem vP {ei:CE} (he:Ev K e ρ σ (.d (.lst (aJ.map .str)))) (hi:Ev K ei ρ σ (.d (.int k))) (h:aJ[k]? =some r) (hk:k<=100000):Ev K (sub e ei) ρ σ (.d (.str r)):=bB he hi rfl rfl (c5 (by rw[NR,h];rfl) hk)
theorem vR (h:aJ.drop k=r::t) (hl:aJ.length<=9000) (hr:∀ x∈aJ,x.length<=500):CC (d+3) false 96 [.d (.lst (aJ.map .str)),.d (.int k)] σ=some (rX ((rZ (ax 32 r) t).map Dd.toD),σ):=by
 obtain ⟨e0,el,e1⟩:=we h;have hr0:r.length<=500:=hr r (N5 e0);have hw:∀ k,(wd (ax 32 r) k).length<=1000:=fun k=>kz (s8 hr0);have hl5:(ax 32 r).length<=501:=NK (lj r) (Ow hr0);have h6:=qn hr0;have a1:iS.ex (KK (d+2) false) [dV (.lst (aJ.map .str)),iV k,none,none,none,none,none] σ=some (.next [dV (.lst (aJ.map .str)),iV k,dV (.lst ((ax 32 r).map .str)),none,none,none,none],σ):=az (iU (vP rfl rfl e0 (H3 hl el)) (NK (hr0) (NH rfl))) rfl;unfold rZ;generalize ax 32 r=ws at hw a1 hl5 h6;have ln:Ev (KK (d+2) false) (bi bh (aj (ag 2) ao)) [dV (.lst (aJ.map .str)),iV k,dV (.lst (ws.map .str)),none,none,none,none] σ (.d (.int ws.length)):=j3 rfl (NK (hl5) (NH rfl));by_cases q0:4<=ws.length
 case neg=>
  rw[oy (Op q0)];exact cO rfl rfl rfl (aa a1 (bv (bp (ak ln rfl rfl rfl (n_ (Ob.mpr (Nat.not_le.mp q0)))) rfl))) (tk _)
 rw[kL (NP q0)];have nu:∀ j x3 x4,j<=3->(au 91 (aj (sub (ag 2) (ah (j:Nat))) ao)).ev (KK (d+2) false) [dV (.lst (aJ.map .str)),iV k,dV (.lst (ws.map .str)),x3,x4,none,none] σ=some (rX ((bn (wd ws j)).map .int),σ):=fun j x3 x4 hj=>wM (d:=d+1) j rfl (NZ hj q0) (hw j) (NK (hj) (NH rfl));have pre:∀ z,(sC (aG 3 (au 91 (aj (sub (ag 2) (ah 1)) ao))) (sC (aG 4 (au 91 (aj (sub (ag 2) (ah 2)) ao))) (sC d6 (sC (nG 5 6 (mQ (ag 0) (gQ (aP a' (ag 1) (ah 1))) (gQ (aP a' (aP a' (ag 1) (ah 1)) (ag 4)))) (au 95 (aj (ag 6) ao))) (sC fF sN))))).ex (KK (d+2) false) [dV (.lst (aJ.map .str)),iV k,dV (.lst (ws.map .str)),none,none,none,none] σ=z->iT.ex (KK (d+2) false) [dV (.lst (aJ.map .str)),iV k,none,none,none,none,none] σ=z:=fun z hz=>aa a1 (aa (aY (ak ln rfl rfl rfl (hO (OA.mpr (Oa.mpr q0)))) rfl) hz);have n1:=nu 1 none none (by decide);cases q1:bn (wd ws 1) with
 |none=>rw[q1] at n1;exact cO rfl rfl rfl (pre _ (bv (eJ n1))) (tk _)
 |some n=>
 rw[q1] at n1;have n2:=nu 2 (iV n) none (by decide);cases q2:bn (wd ws 2) with
 |none=>rw[q2] at n2;exact cO rfl rfl rfl (pre _ (aa (az n1 rfl) (bv (eJ n2)))) (tk _)
 |some c=>
 rw[q2] at n2;have lr:Ev (KK (d+2) false) (aP d4 (aP d4 (bi bh (aj (ag 0) ao)) (ag 1)) (ah 1)) [dV (.lst (aJ.map .str)),iV k,dV (.lst (ws.map .str)),iV n,iV c,none,none] σ (.d (.int t.length)):=by
  have q:Ev (KK (d+2) false) (aP d4 (aP d4 (bi bh (aj (ag 0) ao)) (ag 1)) (ah 1)) [dV (.lst (aJ.map .str)),iV k,dV (.lst (ws.map .str)),iV n,iV c,none,none] σ (.d (.int ((aJ.length:Int) - k - 1))):=aR (aR (j3 (ws:=aJ) rfl (NK (hl) (NH rfl))) rfl rfl rfl rfl) rfl rfl rfl rfl;rw[show (aJ.length:Int) - k - 1=t.length by omega] at q;exact q
 have pre2:∀ z,(sC d6 (sC (nG 5 6 (mQ (ag 0) (gQ (aP a' (ag 1) (ah 1))) (gQ (aP a' (aP a' (ag 1) (ah 1)) (ag 4)))) (au 95 (aj (ag 6) ao))) (sC fF sN))).ex (KK (d+2) false) [dV (.lst (aJ.map .str)),iV k,dV (.lst (ws.map .str)),iV n,iV c,none,none] σ=z->iT.ex (KK (d+2) false) [dV (.lst (aJ.map .str)),iV k,none,none,none,none,none] σ=z:=fun z hz=>pre z (aa (az n1 rfl) (aa (az n2 rfl) hz));show CC (d+3) false 96 _ σ=some (rX ((fS (decide (0<=c)&&decide (c<=(t.length:Int))) ((ly cy (t.take c.toNat)).map fun ls=>Dd.entry n (bS [32] (ws.drop 3)) ls)).map Dd.toD),σ);by_cases q3:c<0
 .rw[oy (by rw[Op (Int.not_le.mpr q3)];rfl)];exact cO rfl rfl rfl (pre2 _ (bv (bp (bc (dB (tT q3 rfl))) rfl))) (tk _)
 by_cases q4:(t.length:Int)<c
 .rw[oy (by rw[Op (Int.not_le.mpr q4),Bool.and_false])];exact cO rfl rfl rfl (pre2 _ (bv (bp (bc (a_ (ak rfl rfl rfl rfl (hO q3)) (dB (ak rfl lr rfl rfl (rH q4))))) rfl))) (tk _)
 rw[kL (by rw[NP (OA.mp q3),NP (OA.mp q4)];rfl)];obtain ⟨m,rfl⟩:=Int.eq_ofNat_of_zero_le (OA.mp q3);rw[Int.toNat_natCast];have sl:Ev (KK (d+2) false) (mQ (ag 0) (gQ (aP a' (ag 1) (ah 1))) (gQ (aP a' (aP a' (ag 1) (ah 1)) (ag 4)))) [dV (.lst (aJ.map .str)),iV k,dV (.lst (ws.map .str)),iV n,iV (m:Nat),none,none] σ (.d (.lst ((t.take m).map .str))):=by
  refine fh rfl (k7 (ew rfl rfl)) rfl rfl rfl rfl ?_;have e:=wB (k:=k+1) (m:=k+1+m) (l:=aJ.map D.str) (KR) (by rw[Nz];omega) (by rw[Nz];exact NK (hl) (NH rfl));rw[<-List.map_drop,e1,Nat.add_sub_cancel_left,<-List.map_take,Int.natCast_add (k+1) m,Int.natCast_add k 1] at e;exact e
 have cm:=zc (K:=KK (d+2) false) (i:=6) (it:=mQ (ag 0) (gQ (aP a' (ag 1) (ah 1))) (gQ (aP a' (aP a' (ag 1) (ah 1)) (ag 4)))) (bM:=au 95 (aj (ag 6) ao)) sl (if_pos (by rw[Nz,List.length_take];exact NK (Nat.min_le_right _ _) (NK (by exact KQ hl el:_<=9000) (by decide)))) (zd (t.take m) [] (fun x hx=>bq (b7 rfl) (AK (hr x (by rw[<-List.take_append_drop k aJ,h];exact List.mem_append_right _ (.tail _ (List.mem_of_mem_take hx)))))) (by rw[Oo,List.length_take];exact KO hl el));have s5:d6.ex (KK (d+2) false) [dV (.lst (aJ.map .str)),iV k,dV (.lst (ws.map .str)),iV n,iV (m:Nat),none,none] σ=some (.next [dV (.lst (aJ.map .str)),iV k,dV (.lst (ws.map .str)),iV n,iV (m:Nat),none,none],σ):=aY (bc (a_ rfl (a_ (ak rfl lr rfl rfl (j6 q4)) rfl))) rfl;cases q5:ly cy (t.take m) with
 |none=>
  rw[q5] at cm;exact cO rfl rfl rfl (pre2 _ (aa s5 (bv (yf cm)))) (tk _)
 |some ls=>
  rw[q5] at cm;refine bA rfl rfl rfl (pre2 _ (aa s5 (aa (ye cm rfl) (aS (aT (bW (bT rfl (bT rfl (bT (xm (ws:=ws) (k:=3) rfl (Nat.le_of_add_left_le q0) (NK (hl5) (NH rfl)) h6) (b7 rfl)))))))))) (tk _)
end
section
variable {r:Tx} {ws t:List Tx}
theorem zM {i:CE} (h:a.ev K ρ σ=some (.ex k,σ')):(sub a i).ev K ρ σ=some (.ex k,σ'):=lN h
noncomputable abbrev qR (aJ:List Tx) (k:Nat) (x2 x3:Option PV):bb:=[dV (.lst (aJ.map .str)),iV k,x2,x3]
theorem Br (h:aJ.drop k=r::t) (hl:aJ.length<=9000) (hr:∀ x∈aJ,x.length<=500):CC (d+4) false 97 [.d (.lst (aJ.map .str)),.d (.int k)] σ=some (rX ((d7 r t).map Dd.toD),σ):=by
 obtain ⟨e0,el,e1⟩:=we h;have hr0:r.length<=500:=hr r (N5 e0);have hw:∀ k,(wd (ax 32 r) k).length<=1000:=fun k=>kz (s8 hr0);have er:∀ x2 x3,Ev (KK (d+3) false) (sub (ag 0) (ag 1)) (qR aJ k x2 x3) σ (.d (.str r)):=fun x2 x3=>vP rfl rfl e0 (H3 hl el);have a1:jN.ex (KK (d+3) false) (qR aJ k none none) σ=some (.next (qR aJ k (sV (wd (ax 32 r) 0)) none),σ):=az (t7 0 (iU (er _ _) (NK (hr0) (NH rfl))) split_pos) rfl;have en:=vR (d:=d) (σ:=σ) h hl hr;have ch:=v5 (d:=d+1) (σ:=σ) hr0;have wo:∀ (f:Tx) (m:Nat) x2 x3,m<=1000->(au 92 (aj (sub (ag 0) (ag 1)) (aj (aC f) (aj (ah m) ao)))).ev (KK (d+3) false) (qR aJ k x2 x3) σ=some (rX (fS (fit (ax 32 r) f m) (some (.lst ((ax 32 r).map .str)))),σ):=fun f m x2 x3 hm=>bq (bT (er _ _) rfl) (lh (s8 hr0) hm);unfold d7 kT;generalize ax 32 r=ws at a1 en ch wo hw;generalize hx:(sV (wd ws 0):Option PV)=x2 at a1;have xE:∀ {ρ'},hZ.ex (KK (d+3) false) (qR aJ k none none) σ=some (.ex 16 ρ',σ)->CC (d+4) false 97 [.d (.lst (aJ.map .str)),.d (.int k)] σ=some (.ex 16,σ):=fun e=>cO rfl rfl rfl e (tk _);have xR:∀ {v:D},hZ.ex (KK (d+3) false) (qR aJ k none none) σ=some (.ret (.d v),σ)->CC (d+4) false 97 [.d (.lst (aJ.map .str)),.d (.int k)] σ=some (.ok (.d v),σ):=fun e=>bA rfl rfl rfl e (tk _);have p1:∀ z,_=z->hZ.ex (KK (d+3) false) (qR aJ k none none) σ=z:=fun z h=>aa a1 h;have tc:∀ (f:Tx) (b:Bool),decide (wd ws 0=f)=b->Ts (KK (d+3) false) (aF c9 (ag 2) (aC f)) (qR aJ k x2 none) σ b:=fun f b hb=>by
  rw[<-hx];exact ak rfl rfl rfl rfl (congrArg some hb)
 by_cases q0:wd ws 0=cX
 .rw[if_pos q0];have c:=bp (b:=sN) (z:=_) (tc cX true (NP q0)) (a:=sC (aO (au 96 (aj (ag 0) (aj (ag 1) ao)))) sN) rfl;cases z:rZ ws t with
  |none=>rw[z] at en;exact xE (p1 _ (bv (bp (tc cX true (NP q0)) (bv (dp (bq rfl en))))))
  |some x=>rw[z] at en;exact xR (p1 _ (aS (bp (tc cX true (NP q0)) (aS (aT (bq rfl en))))))
 rw[if_neg q0];unfold nN;have s2:=aY (K:=KK (d+3) false) (a:=sC (aO (au 96 (aj (ag 0) (aj (ag 1) ao)))) sN) (b:=sN) (tc cX false (Op q0)) rfl;have p2:∀ z,_=z->_=z:=fun z h=>p1 z (aa s2 h);by_cases q1:wd ws 0=de
 .rw[if_pos q1];cases z:m7 ws with
  |none=>rw[z] at ch;exact xE (p2 _ (bv (bp (tc de true (NP q1)) (bv (dp (bq (b7 (er _ _)) ch))))))
  |some x=>rw[z] at ch;exact xR (p2 _ (aS (bp (tc de true (NP q1)) (aS (aT (bq (b7 (er _ _)) ch))))))
 rw[if_neg q1];have s3:=aY (K:=KK (d+3) false) (a:=sC (aO (au 94 (aj (sub (ag 0) (ag 1)) ao))) sN) (b:=sN) (tc de false (Op q1)) rfl;have p3:∀ z,_=z->_=z:=fun z h=>p2 z (aa s3 h);by_cases q2:wd ws 0=gW
 .rw[if_pos q2];unfold Jw;have c2:=wo gW 2 x2 none (by decide);cases z:fit ws gW 2 with
  |false=>rw[z] at c2;exact xE (p3 _ (bv (bp (tc gW true (NP q2)) (bv (dp (c_ (bH rfl (dT (xz (dT (zM c2)))))))))))
  |true=>
  rw[z] at c2;have n1:=qq (d:=d+2) (σ:=σ) 1 c2 (by rw[qD z];decide) (hw 1);cases z1:iu (wd ws 1) with
  |false=>rw[z1] at n1;exact xE (p3 _ (bv (bp (tc gW true (NP q2)) (bv (dp (c_ (bH rfl (dT n1))))))))
  |true=>rw[z1] at n1;exact xR (p3 _ (aS (bp (tc gW true (NP q2)) (aS (aT (bW (bT rfl (b7 n1))))))))
 rw[if_neg q2];have s4:=aY (K:=KK (d+3) false) (a:=sC (aO (bE (aj (aC gW) (aj (au 93 (aj (sub (au 92 (aj (sub (ag 0) (ag 1)) (aj (aC gW) (aj (ah 2) ao)))) (ah 1)) ao)) ao)))) sN) (b:=sN) (tc gW false (Op q2)) rfl;have p4:∀ z,_=z->_=z:=fun z h=>p3 z (aa s4 h);have nu:∀ j,j<ws.length->j<=100->(au 91 (aj (sub (ag 3) (ah (j:Nat))) ao)).ev (KK (d+3) false) (qR aJ k x2 (dV (.lst (ws.map .str)))) σ=some (rX ((bn (wd ws j)).map .int),σ):=fun j hj h1=>wM (d:=d+2) j rfl hj (hw j) (NK h1 (NH rfl));by_cases q3:wd ws 0=gu
 .rw[if_pos q3];unfold EL;have c2:=wo gu 5 x2 none (by decide);have tt:=tc gu true (NP q3);cases z:fit ws gu 5 with
  |false=>rw[z] at c2;exact xE (p4 _ (bv (bp tt (bv (eJ c2)))))
  |true=>
  rw[z] at c2;have l5:=qD z;have n1:=qq (d:=d+2) (ρ:=qR aJ k x2 (dV (.lst (ws.map .str)))) (σ:=σ) (e:=ag 3) (ws:=ws) 1 rfl (KN l5) (hw 1);cases z1:iu (wd ws 1) with
  |false=>rw[z1] at n1;exact xE (p4 _ (bv (bp tt (aa (az c2 rfl) (bv (dp (c_ (bH rfl (dT n1)))))))))
  |true=>
  rw[z1] at n1;have n2:=nu 2 (KM l5) (by decide);cases z2:bn (wd ws 2) with
  |none=>rw[z2] at n2;exact xE (p4 _ (bv (bp tt (aa (az c2 rfl) (bv (dp (c_ (bH rfl (bH n1 (dT n2))))))))))
  |some v2=>
  rw[z2] at n2;have n3:=nu 3 (KL l5) (by decide);cases z3:bn (wd ws 3) with
  |none=>rw[z3] at n3;exact xE (p4 _ (bv (bp tt (aa (az c2 rfl) (bv (dp (c_ (bH rfl (bH n1 (bH n2 (dT n3)))))))))))
  |some v3=>
  rw[z3] at n3;have n4:=nu 4 (KJ l5) (by decide);cases z4:bn (wd ws 4) with
  |none=>rw[z4] at n4;exact xE (p4 _ (bv (bp tt (aa (az c2 rfl) (bv (dp (c_ (bH rfl (bH n1 (bH n2 (bH n3 (dT n4))))))))))))
  |some v4=>rw[z4] at n4;exact xR (p4 _ (aS (bp tt (aa (az c2 rfl) (aS (aT (bW (bT rfl (bT n1 (bT n2 (bT n3 (b7 n4))))))))))))
 rw[if_neg q3];have s5:jM.ex (KK (d+3) false) (qR aJ k x2 none) σ=some (.next (qR aJ k x2 none),σ):=aY (tc gu false (Op q3)) rfl;have p5:∀ z,_=z->_=z:=fun z h=>p4 z (aa s5 h);by_cases q4:wd ws 0=gv
 .rw[if_pos q4];unfold E1;have c2:=wo gv 3 x2 none (by decide);have tt:=tc gv true (NP q4);cases z:fit ws gv 3 with
  |false=>rw[z] at c2;exact xE (p5 _ (bv (bp tt (bv (eJ c2)))))
  |true=>
  rw[z] at c2;have l5:=qD z;have n1:=nu 1 (KI l5) (by decide);cases z1:bn (wd ws 1) with
  |none=>rw[z1] at n1;exact xE (p5 _ (bv (bp tt (aa (az c2 rfl) (bv (dp (c_ (bH rfl (dT n1)))))))))
  |some v1=>
  rw[z1] at n1;have n2:=nu 2 (KH l5) (by decide);cases z2:bn (wd ws 2) with
  |none=>rw[z2] at n2;exact xE (p5 _ (bv (bp tt (aa (az c2 rfl) (bv (dp (c_ (bH rfl (bH n1 (dT n2))))))))))
  |some v2=>rw[z2] at n2;exact xR (p5 _ (aS (bp tt (aa (az c2 rfl) (aS (aT (bW (bT rfl (bT n1 (b7 n2))))))))))
 rw[if_neg q4];have s6:jL.ex (KK (d+3) false) (qR aJ k x2 none) σ=some (.next (qR aJ k x2 none),σ):=aY (tc gv false (Op q4)) rfl;have p6:∀ z,_=z->_=z:=fun z h=>p5 z (aa s6 h);unfold BA;have c2:=wo gU 2 x2 none (by decide);cases z:fit ws gU 2 with
 |false=>rw[z] at c2;exact xE (p6 _ (bv (eJ c2)))
 |true=>
 rw[z] at c2;have l5:=qD z;have n1:=nu 1 (KG l5) (by decide);cases z1:bn (wd ws 1) with
 |none=>rw[z1] at n1;exact xE (p6 _ (aa (az c2 rfl) (bv (dp (c_ (bH rfl (dT n1)))))))
 |some v1=>rw[z1] at n1;exact xR (p6 _ (aa (az c2 rfl) (aS (aT (bW (bT rfl (b7 n1)))))))
theorem JT {t:CT} (h:Ts K t ρ σ false):iA t b K (n+1) ρ σ=some (.next ρ,σ):=db h rfl
theorem Hz {t:CT} {z:Option (Out×av)} (h:Ts K t ρ σ true) (h1:b.ex K ρ σ=some (.next ρ',σ')) (k:iA t b K n ρ' σ'=z):iA t b K (n+1) ρ σ=z:=by
 refine db h ?_;show lV (b.ex K ρ σ) _=z;rw[h1];exact k
theorem JS {t:CT} (h:Ts K t ρ σ true) (h1:b.ex K ρ σ=some (.ex c ρ',σ')):iA t b K (n+1) ρ σ=some (.ex c ρ',σ'):=by
 refine db h ?_;show lV (b.ex K ρ σ) _=_;rw[h1];rfl
noncomputable abbrev qW (aJ:List Tx) (n k:Nat) (x3:Option PV):bb:=[dV (.lst (aJ.map .str)),qV n,iV k,x3]
theorem oR (hl:aJ.length<=9000) (hr:∀ x∈aJ,x.length<=500):∀ (n k N:Nat) (acc:List Dd) (x3:Option PV),aJ.length<=k+n->n<N->acc.length+n<=100000->
  (∀ ds,fA n (aJ.drop k)=some ds->∃ k' y3,iA (aF m_ (ag 2) (bi bh (aj (ag 0) ao))) dt (KK (d+4) false) N (qW aJ σ.length k x3) (σ++[.fld (.list (acc.map Dd.toD))])=some (.next (qW aJ σ.length k' y3),σ++[.fld (.list ((acc++ds).map Dd.toD))]))/\
  (fA n (aJ.drop k)=none->∃ ρ' o,iA (aF m_ (ag 2) (bi bh (aj (ag 0) ao))) dt (KK (d+4) false) N (qW aJ σ.length k x3) (σ++[.fld (.list (acc.map Dd.toD))])=some (.ex 16 ρ',σ++[o]))
 |n,k,0,_,_,_,h,_=>absurd h (Nat.not_lt_zero _)
 |n,k,N+1,acc,x3,h1,h2,h3=>by
  have ln:∀ s,Ev (KK (d+4) false) (bi bh (aj (ag 0) ao)) (qW aJ σ.length k x3) s (.d (.int aJ.length)):=fun s=>j3 rfl (NK (hl) (NH rfl));cases q:aJ.drop k with
  |nil=>
   have hk:aJ.length<=k:=List.drop_eq_nil_iff.mp q;have e:fA n []=some []:=by cases n<;>rfl
   rw[e];refine ⟨fun ds hd=> ?_,fun h=>nomatch h⟩;cases hd;rw[List.append_nil];exact ⟨k,x3,JT (ak rfl (ln _) rfl rfl (hO (OA.mpr (Oa.mpr hk))))⟩
  |cons r t=>
   obtain ⟨e0,el,e1⟩:=we q;have dr:=Br (d:=d) (σ:=σ++[.fld (.list (acc.map Dd.toD))]) q hl hr;have tt:Ts (KK (d+4) false) (aF m_ (ag 2) (bi bh (aj (ag 0) ao))) (qW aJ σ.length k x3) (σ++[.fld (.list (acc.map Dd.toD))]) true:=ak rfl (ln _) rfl rfl (n_ (KE el));cases n with
   |zero=>omega
   |succ n=>
   rw[mU];cases z:d7 r t with
   |none=>
    rw[z] at dr;exact And.intro (fun ds h=>nomatch h) (fun _=>⟨_,_,JS tt (bv (eJ (bq rfl dr)))⟩)
   |some x=>
   rw[z] at dr;have hx:=(za z).1;have ap:=fW (K:=KK (d+4) false) (ρ:=qW aJ σ.length k (dV x.toD)) (o:=ag 1) (a:=ag 3) (y:=x.toD) (σ:=σ++[.fld (.list (acc.map Dd.toD))]) (n:=σ.length) (j:=0) (l:=acc.map Dd.toD) rfl rfl fk (by rw[Nz];exact N0 (by exact NZ (NK (Os _ _) h3) (N0 (Nat.lt_succ_self _) (NH rfl)):_<100001) (by decide));rw[ji] at ap;have el:[D.str OD]=[D.str cX]:=rfl;have s4:(cf (aF c9 (sub (ag 3) (ah 0)) (aC OD)) (sC (aG 2 (aP a' (ag 2) (bi bh (aj (sub (ag 3) (ah 3)) ao)))) sN) sN).ex (KK (d+4) false) (qW aJ σ.length (k+1) (dV x.toD)) (σ++[.fld (.list (acc.map Dd.toD++[x.toD]))])=some (.next (qW aJ σ.length (k+1+x.len) (dV x.toD)),σ++[.fld (.list (acc.map Dd.toD++[x.toD]))]):=by
    cases x with
    |entry n' note ls=>
     refine bp rfl (aa (az (ew rfl (cr rfl (om (l:=ls.map aA) rfl ?_))) ?_) rfl)
     .have:ls.length<=t.length:=hx;rw[Nz];exact NK (by omega:_<=9000) (by decide)
     .show [some (PV.d (.lst (aJ.map .str))),some (PV.p σ.length 0),some (PV.d (.int ((k+1:Nat)+((ls.map aA).length:Int)))),_]=_;rw[Nz];rfl
    |acc a=>exact rfl
    |rate c n' t' b=>exact rfl
    |change n' note g one a tk cJ=>exact rfl
    |back k' n'=>exact rfl
    |close n'=>exact rfl
   have bd:dt.ex (KK (d+4) false) (qW aJ σ.length k x3) (σ++[.fld (.list (acc.map Dd.toD))])=some (.next (qW aJ σ.length (k+1+x.len) (dV x.toD)),σ++[.fld (.list ((acc++[x]).map Dd.toD))]):=by
    rw[List.map_append];exact aa (az (bq rfl dr) rfl) (aa (aV ap) (aa rfl (aa s4 rfl)))
   obtain ⟨i1,i2⟩:=oR hl hr n (k+1+x.len) N (acc++[x]) (dV x.toD) (KC h1) (Nat.lt_of_succ_lt_succ h2) (by rw[NC,NL];exact KY h3);rw[<-List.drop_drop,e1] at i1 i2;refine And.intro (fun ds h=> ?_) (fun h=> ?_)
   .obtain ⟨ds',e2,rfl⟩:=aN (show Option.map (x::·) (fA n (t.drop x.len))=some ds from h);obtain ⟨k',y',e3⟩:=i1 ds' e2;rw[List.append_assoc] at e3;exact ⟨k',y',Hz tt bd e3⟩
   .have:fA n (t.drop x.len)=none:=by
     cases z2:fA n (t.drop x.len) with
     |none=>rfl
     |some l=>
      have h:Option.map (x::·) (fA n (t.drop x.len))=none:=h;rw[z2] at h;cases h
    obtain ⟨ρ',o,e3⟩:=i2 this;exact ⟨ρ',o,Hz tt bd e3⟩
noncomputable def eE (l:List Tx):Option (List Dd):=fA l.length l
theorem vV (hl:aJ.length<=9000) (hr:∀ x∈aJ,x.length<=500):CC (d+5) false 98 [.d (.lst (aJ.map .str))] σ=some (rX ((eE aJ).map fun ds=>.lst (ds.map Dd.toD)),σ):=by
 obtain ⟨i1,i2⟩:=oR (d:=d) (σ:=σ) hl hr aJ.length 0 100000 [] none (KA) (NZ (hl) (N0 (Nat.lt_succ_self _) (NH rfl))) (by rw[Oo];exact NK (Oe (hl) _) (NH rfl));unfold eE;have pre:∀ z,(sC (zZ 100000 (aF m_ (ag 2) (bi bh (aj (ag 0) ao))) dt) (sC (aO (ag 1)) sN)).ex (KK (d+4) false) (qW aJ σ.length 0 none) (σ++[.fld (.list [])])=z->mi.ex (KK (d+4) false) [dV (.lst (aJ.map .str)),none,none,none] σ=z:=fun z hz=>aa rfl (aa rfl hz);cases q:fA aJ.length aJ with
 |none=>
  obtain ⟨ρ',o,e⟩:=i2 q;exact cO rfl rfl rfl (pre _ (bv e)) (HE σ [o])
 |some ds=>
  obtain ⟨k',y3,e⟩:=i1 ds q;exact oV (f':=.list (ds.map Dd.toD)) rfl rfl rfl (pre _ (aa e rfl)) (NM _) eR (HE σ _)
end
section
variable {r:Tx} {ws:List Tx} {s:Nat}
inductive Kd (ws:List Tx):Nat->Prop
 |home:fit ws jz 2=true->iu (wd ws 1)=true->Kd ws 0
 |line (k:Nat) (n:Int):fit ws ko 4=true->iu (wd ws 1)=true->bn (wd ws 3)=some n->Kd ws (k+2)
 |entry (n:Int):wd ws 0=cX->4<=ws.length->bn (wd ws 1)=some n->Kd ws 1
 |change (n:Int):wd ws 0=de->8<=ws.length->bn (wd ws 1)=some n->Kd ws 1
 |acc:fit ws gW 2=true->iu (wd ws 1)=true->Kd ws 1
 |rate (n t b:Int):fit ws gu 5=true->iu (wd ws 1)=true->bn (wd ws 2)=some n->bn (wd ws 3)=some t->bn (wd ws 4)=some b->Kd ws 1
 |back (k n:Int):fit ws gv 3=true->bn (wd ws 1)=some k->bn (wd ws 2)=some n->Kd ws 1
 |close (n:Int):fit ws gU 2=true->bn (wd ws 1)=some n->Kd ws 1
theorem zP {r:Tx}:ax c (c::r)=[]::ax c r:=by rw[fx,Fu,if_pos rfl]
theorem zR {x:Nat} {r:Tx} (h:x≠c):ax c (x::r)=(x::(ax c r).headD [])::(ax c r).tail:=by rw[fx,Fu,if_neg h]
end
noncomputable def Dd.mth:Dd->Nat
 | .acc _=>37
 | .rate _ _ _ _=>6
 | .entry _ _ _=>20
 | .change _ _ _ _ _ _ _=>17
 | .back _ _=>9
 | .close _=>11
noncomputable def Dd.args:Dd->List PV
 | .acc a=>[.d (.str a)]
 | .rate c n t b=>[.d (.str c),.d (.int n),.d (.int t),.d (.int b)]
 | .entry n note ls=>[.d (.int n),.d (.str note),.d (.lst (ls.map aA))]
 | .change n note g one a tk cJ=>[.d (.int n),.d (.str note),.d (.str g),.d (.str one),.d (.int a),.d (.str tk),.d (.str cJ)]
 | .back k n=>[.d (.int k),.d (.int n)]
 | .close n=>[.d (.int n)]
section
variable {S'':St} {x:Dd}
theorem xt (B:Bk σ n S) (h:CC (d+3) false x.mth (.p n 0::x.args) σ=some (.ok v,σ.set n (bk S'))):CC (d+4) false 90 [.p n 0,.d x.toD] σ=some (.ok (.d .none),σ.set n (bk S')):=by
 cases x with
 |acc a=>exact d9 rfl rfl rfl (aa (bp rfl (aa (aV (bx B rfl rfl h)) rfl)) rfl) iC
 |rate c m t b=>exact d9 rfl rfl rfl (aa (aY rfl (aa (bp rfl (aa (aV (bx B rfl rfl h)) rfl)) rfl)) rfl) iC
 |entry m note ls=>exact d9 rfl rfl rfl (aa (aY rfl (aa (aY rfl (aa (bp rfl (aa (aV (bx B rfl rfl h)) rfl)) rfl)) rfl)) rfl) iC
 |change m note g one a tk' cJ=>exact d9 rfl rfl rfl (aa (aY rfl (aa (aY rfl (aa (aY rfl (aa (bp rfl (aa (aV (bx B rfl rfl h)) rfl)) rfl)) rfl)) rfl)) rfl) iC
 |back k m=>exact d9 rfl rfl rfl (aa (aY rfl (aa (aY rfl (aa (aY rfl (aa (aY rfl (aa (bp rfl (aa (aV (bx B rfl rfl h)) rfl)) rfl)) rfl)) rfl)) rfl)) rfl) iC
 |close m=>exact d9 rfl rfl rfl (aa (aY rfl (aa (aY rfl (aa (aY rfl (aa (aY rfl (aa (aY rfl (aa (aV (bx B rfl rfl h)) rfl)) rfl)) rfl)) rfl)) rfl)) rfl) iC
def Dn (x:Dd) (S S':St):Prop:=∀ d σ n,Bk σ n S->CC (d+4) false 90 [.p n 0,.d x.toD] σ=some (.ok (.d .none),σ.set n (bk S'))
def Rp:St->List Dd->St->Prop
 |S,[],S'=>S'=S
 |S,x::l,S'=>∃ S1,Dn x S S1/\Rp S1 l S'
theorem Rp.app {m:List Dd}:∀ {l:List Dd} {S:St},Rp S l S'->Rp S' m S''->Rp S (l++m) S'':=by
 intro l
 induction l with
 |nil=>
  intro S h k;cases h;exact k
 |cons x l ih=>
  intro S h k;obtain ⟨S1,h1,h2⟩:=h;exact ⟨S1,h1,ih h2 k⟩
theorem Rp.snoc {l:List Dd} (h:Rp S l S') (k:Dn x S' S''):Rp S (l++[x]) S'':=h.app ⟨S'',k,rfl⟩
end
def Hp (w:Tx):Prop:=w=bu∨gf w
def EB:Dd->Prop
 | .acc a=>gf a
 | .rate c n t b=>br c=true/\b' n/\(1<=t/\t<=10^9)/\(1<=b/\b<=10^9)
 | .entry n note ls=>b' n/\dG note/\ls.length<=60/\∀ l∈ls,Hp l.1/\br l.2.1=true/\eg l.2.2=true
 | .change n note g one a tk cJ=>(b' n/\dG note)/\Hp g/\br one=true/\eg a=true/\Hp tk/\br cJ=true
 | .back k n=>(1<=k/\k<=1000)/\b' n
 | .close n=>b' n
section
theorem DA {o:PO}:(σ++(o::ds))[σ.length]? =some o:=by rw[NX (NM _),Nat.sub_self];rfl
theorem wC {o:PO}:(σ++(o::ds)).set σ.length o'=σ++(o'::ds):=by rw[List.set_append_right _ _ (NM _),Nat.sub_self];rfl
theorem wI {b:Bool} {l:List cB}:ci b (σ++(.rcd b l::ds)) σ.length=some l:=by
 unfold ci;rw[DA];exact if_pos rfl
theorem Ai {ds':av} {b:Bool} {l:List cB}:ci b ((σ++(.rcd b l::ds))++ds') σ.length=some l:=by
 rw[List.append_assoc,List.cons_append];exact wI
theorem zp {o:PO}:(((σ++(o::ds))++[PO.fld f]).set (σ++(o::ds)).length PO.dead).set σ.length o'=σ++(o'::(ds++[.dead])):=by
 rw[mR,List.append_assoc,List.cons_append,wC]
theorem gN {l:List cB} {x:D} (ha:a.ev K ρ (σ++(.rcd true l::ds))=some (.ok (.p (σ++(.rcd true l::ds)).length 0),(σ++(.rcd true l::ds))++[.fld f])) (he:Ev K o ρ ((σ++(.rcd true l::ds))++[.fld f]) (.p σ.length 0)) (hk:k=l.length) (hr:f.rd=some x):(jA o k a).ex K ρ (σ++(.rcd true l::ds))=some (.next ρ,σ++(.rcd true (l++[f])::(ds++[.dead]))):=by
 refine uq ha he ?_;show (ci true ((σ++(.rcd true l::ds))++[.fld f]) σ.length).bind _=_;rw[Ai,NA,aM hk,NA];show (aq ((σ++(.rcd true l::ds)).length≠σ.length) ()).bind _=_;rw[aM (by rw[NC,NI];omega),NA,fk,NA,hr];exact congrArg some zp
theorem A0 {h:List Nat} (hc:br h=true):CC (d+2) false 0 [.p σ.length 0,.d (.str h)] (σ++[.rcd true []])=some (.ok (.d .none),σ++[bk (st0 h)]):=by
 have l0:∀ s,Ev (KK (d+1) false) (ag 0) [qV σ.length,sV h] s (.p σ.length 0):=fun s=>rfl;have a1:(jA (ag 0) 0 (ag 1)).ex (KK (d+1) false) [qV σ.length,sV h] (σ++[.rcd true []])=some (.next [qV σ.length,sV h],σ++[.rcd true [.d (.str h)]]):=by
  refine uq (v:=.d (.str h)) rfl (l0 _) ?_;show (ci true (σ++[.rcd true []]) σ.length).bind _=_;rw[wI,NA,aM (show 0=([]:List cB).length from rfl),NA];exact congrArg some wC
 have a2:=gN (K:=KK (d+1) false) (ρ:=[qV σ.length,sV h]) (σ:=σ) (o:=ag 0) (a:=jZ (aj (aC OM) ao)) (k:=1) (l:=[.d (.str h)]) (ds:=[]) (f:=.list [.str bu]) (ie rfl) (l0 _) rfl rfl;have a3:=gN (K:=KK (d+1) false) (ρ:=[qV σ.length,sV h]) (σ:=σ) (o:=ag 0) (a:=nV) (k:=2) (l:=[.d (.str h),.list [.str bu]]) (ds:=[.dead]) (f:=.dict [] []) rfl (l0 _) rfl rfl;have a4:=gN (K:=KK (d+1) false) (ρ:=[qV σ.length,sV h]) (σ:=σ) (o:=ag 0) (a:=jZ ao) (k:=3) (l:=[.d (.str h),.list [.str bu],.dict [] []]) (ds:=[.dead,.dead]) (f:=.list []) (ie rfl) (l0 _) rfl rfl;have a5:=gN (K:=KK (d+1) false) (ρ:=[qV σ.length,sV h]) (σ:=σ) (o:=ag 0) (a:=nV) (k:=4) (l:=[.d (.str h),.list [.str bu],.dict [] [],.list []]) (ds:=[.dead,.dead,.dead]) (f:=.dict [] []) rfl (l0 _) rfl rfl;have a6:=gN (K:=KK (d+1) false) (ρ:=[qV σ.length,sV h]) (σ:=σ) (o:=ag 0) (a:=jZ ao) (k:=5) (l:=[.d (.str h),.list [.str bu],.dict [] [],.list [],.dict [] []]) (ds:=[.dead,.dead,.dead,.dead]) (f:=.list []) (ie rfl) (l0 _) rfl rfl;have a7:=gN (K:=KK (d+1) false) (ρ:=[qV σ.length,sV h]) (σ:=σ) (o:=ag 0) (a:=jZ ao) (k:=6) (l:=[.d (.str h),.list [.str bu],.dict [] [],.list [],.dict [] [],.list []]) (ds:=[.dead,.dead,.dead,.dead,.dead]) (f:=.list []) (ie rfl) (l0 _) rfl rfl;refine d9 rfl rfl (ρ:=[qV σ.length,sV h]) rfl (aa (aV (bg (eU hc) rfl)) (aa a1 (aa a2 (aa a3 (aa a4 (aa a5 (aa a6 (aa a7 rfl)))))))) ?_;have e:σ++(bk (st0 h)::[.dead,.dead,.dead,.dead,.dead,.dead])=(σ++[bk (st0 h)])++[.dead,.dead,.dead,.dead,.dead,.dead]:=by rw[List.append_assoc];rfl
 show (σ++(bk (st0 h)::[.dead,.dead,.dead,.dead,.dead,.dead])).take (σ++[PO.rcd true []]).length=_;rw[e,show (σ++[PO.rcd true []]).length=(σ++[bk (st0 h)]).length by rw[NC,NC];rfl];exact List.take_left
theorem wQ {h:List Nat} {l:CL} (hl:l.ev (KK (d+2) false) ρ σ=some (.ok [.d (.str h)],σ)) (hh:br h=true):(C2 l).ev (KK (d+2) false) ρ σ=some (.ok (.p σ.length 0),σ++[bk (st0 h)]):=by
 refine aB hl ?_;refine aB (m:=Iz) (a:=PV.p σ.length 0) (σ':=σ++[PO.rcd true []]) rfl ?_;refine aB (A0 (d:=d) hh) ?_;rfl
end
section
variable {r last:Tx} {ws t l:List Tx}
theorem I5 {x y:D} {b:bb->av->Option (Out×av)} {l:List D} (h:b (ρ.set i (dV y)) σ=some (.ex c ρ',σ')):c6 v x i b (y::l) ρ σ=some (.ex c ρ',σ'):=by
 show (match b (ρ.set i (dV y)) σ with
  |some (.next ρ',σ')=>if bN σ' x v then c6 v x i b l ρ' σ' else none
  |z=>z)=_
 rw[h]
noncomputable abbrev qT (tx:Tx) (x1 x2 x3 x4 x5:Option PV):bb:=[sV tx,x1,x2,x3,x4,x5]
noncomputable abbrev rV (aJ:List Tx):Option PV:=dV (.lst (aJ.map .str))
theorem FH (ht:tx.length<=1040000) (hr:ax 10 tx=aJ):(aG 1 (bm g8 (ag 0) (aj (aC [10]) ao))).ex (KK (d+5) false) (qT tx none none none none none) σ=some (.next (qT tx (rV aJ) none none none none),σ):=by
 rw[<-hr];exact az (iU rfl (NK (ht) (NH rfl))) rfl
theorem Dk (hl:l.length<=9000):Ev (KK (d+5) false) (sub (ag 1) (aP d4 (bi bh (aj (ag 1) ao)) (ah 1))) (qT tx (rV (l++[last])) none none none none) σ (.d (.str last)):=by
 have q:Ev (KK (d+5) false) (aP d4 (bi bh (aj (ag 1) ao)) (ah 1)) (qT tx (rV (l++[last])) none none none none) σ (.d (.int (((l++[last]).length:Int) - 1))):=aR (j3 (ws:=l++[last]) rfl (by rw[NC,NL];exact NK (Nat.add_le_add_right (hl) _) (NH rfl))) rfl rfl rfl rfl;rw[show ((l++[last]).length:Int) - 1=(l.length:Int) by rw[NC,NL];omega] at q;exact vP rfl q (by rw[NX (NM _),Nat.sub_self];rfl) (NK (hl) (NH rfl))
theorem Ah {body:List Tx} (ht:tx.length<=1040000) (hr:ax 10 tx=(h::body)++[[]]) (hl:body.length<=8000) (h5:∀ x∈h::body,x.length<=500):
  (tU (ax 32 h)=none->CC (d+6) false 99 [.d (.str tx)] σ=some (.ex 16,σ))/\
  (∀ hm,tU (ax 32 h)=some hm->(eE body=none->CC (d+6) false 99 [.d (.str tx)] σ=some (.ex 16,σ))/\
   ∀ ds,eE body=some ds->∀ z,(sC (aG 4 (C2 (aj (ag 2) ao))) (sC (fy 5 (ag 3) hW) (sC (aO (ag 4)) sN))).ex (KK (d+5) false) (qT tx (rV ((h::body)++[[]])) (sV hm) (dV (.lst (ds.map Dd.toD))) none none) σ=z->xj.ex (KK (d+5) false) (qT tx none none none none none) σ=z):=by
 have a:=FH (d:=d) (σ:=σ) ht hr;have hh:=h5 h (.head _);have s2:oB.ex (KK (d+5) false) (qT tx (rV ((h::body)++[[]])) none none none none) σ=some (.next (qT tx (rV ((h::body)++[[]])) none none none none),σ):=
  aY (bc (a_ (ak (Dk (l:=h::body) (by rw[NI];exact NK (Nat.add_le_add_right (hl) _) (NH rfl))) rfl rfl rfl (kA rfl)) (a_ (ak (j3 (ws:=(h::body)++[[]]) rfl (by rw[NC,NI,NL];exact FY hl)) rfl rfl rfl (hO (by rw[NC,NI,NL];omega))) rfl))) rfl
 have w:=lh (d:=d+4) (σ:=σ) (s:=h) (f:=jz) (m:=2) (s8 hh) (by decide);have hw:∀ k,(wd (ax 32 h) k).length<=1000:=fun k=>kz (s8 hh);have w':(au 92 (aj (sub (ag 1) (ah 0)) (aj (aC [104,111,109,101]) (aj (ah 2) ao)))).ev (KK (d+5) false) (qT tx (rV ((h::body)++[[]])) none none none none) σ=some (rX (fS (fit (ax 32 h) jz 2) (some (.lst ((ax 32 h).map .str)))),σ):=bq (bT (t7 (ws:=(h::body)++[[]]) 0 rfl (by rw[NC,NI];omega)) rfl) w;unfold tU;generalize ax 32 h=ws at w' hw;cases q:fit ws jz 2 with
 |false=>
  rw[q] at w';exact ⟨fun _=>cO rfl rfl rfl (aa a (aa s2 (bv (eJ (xz (dT (zM w'))))))) (tk _),fun _ h=>nomatch h⟩
 |true=>
 rw[q] at w';have n1:=qq (d:=d+4) (σ:=σ) 1 w' (by rw[qD q];decide) (hw 1);cases q1:iu (wd ws 1) with
 |false=>
  rw[q1] at n1;exact ⟨fun _=>cO rfl rfl rfl (aa a (aa s2 (bv (eJ n1)))) (tk _),fun _ h=>nomatch h⟩
 |true=>
 rw[q1] at n1;refine And.intro (fun h=>nomatch h) (fun hm e=> ?_);obtain rfl:wd ws 1=hm:=Om e;have sl:Ev (KK (d+5) false) (mQ (ag 1) (gQ (ah 1)) (gQ (aP d4 (bi bh (aj (ag 1) ao)) (ah 1)))) (qT tx (rV ((h::body)++[[]])) (sV (wd ws 1)) none none none) σ (.d (.lst (body.map .str))):=by
  have q:Ev (KK (d+5) false) (aP d4 (bi bh (aj (ag 1) ao)) (ah 1)) (qT tx (rV ((h::body)++[[]])) (sV (wd ws 1)) none none none) σ (.d (.int ((((h::body)++[[]]).length:Int) - 1))):=aR (j3 (ws:=(h::body)++[[]]) rfl (by rw[NC,NI,NL];exact FY hl)) rfl rfl rfl rfl;have e0:((((h::body)++([[]]:List Tx)).length:Nat):Int) - 1=((1+body.length:Nat):Int):=by rw[NC,NI,NL];omega
  rw[e0] at q;refine fh rfl rfl (k7 q) rfl rfl rfl ?_;show dm _ (.int ((1:Nat):Int)) _=_;refine (wB (k:=1) (m:=1+body.length) (l:=((h::body)++[[]]).map D.str) (Kz) (by rw[Nz,NC,NI];omega) (by rw[Nz,NC,NI,NL];exact FY hl)).trans ?_;rw[Nat.add_sub_cancel_left,List.cons_append,List.map_cons,List.drop_succ_cons,List.drop_zero,List.map_append];have:=List.take_left (l₁:=body.map D.str) (l₂:=[[]].map D.str);rw[Nz] at this;rw[this]
 have dr:=vV (d:=d) (σ:=σ) (aJ:=body) (NK (hl) (NH rfl)) fun x hx=>h5 x (.tail _ hx);refine ⟨fun hp=> ?_,fun ds hp z hz=> ?_⟩
 .rw[hp] at dr;exact cO rfl rfl rfl (aa a (aa s2 (aa (az n1 rfl) (bv (eJ (bq (b7 sl) dr)))))) (tk _)
 .rw[hp] at dr;exact aa a (aa s2 (aa (az n1 rfl) (aa (az (bq (b7 sl) dr) rfl) hz)))
theorem yh {v:D} {x0 x1 x2 x3:Option PV} {rest:List D}:∀ {ds:List Dd} {S:St} {x5:Option PV},Rp S ds S'->∃ y5,∀ z,c6 (.d v) v 5 (fun ρ=>hW.ex (KK (d+5) false) ρ) rest [x0,x1,x2,x3,qV σ.length,y5] (σ++[bk S'])=z->c6 (.d v) v 5 (fun ρ=>hW.ex (KK (d+5) false) ρ) (ds.map Dd.toD++rest) [x0,x1,x2,x3,qV σ.length,x5] (σ++[bk S])=z:=by
 intro ds
 induction ds with
 |nil=>
  intro S x5 h;exact ⟨x5,fun z hz=>by cases h;exact hz⟩
 |cons x ds ih=>
  intro S x5 h;obtain ⟨S1,h1,h2⟩:=h;have e:=h1 (d+1) (σ++[bk S]) σ.length eR;rw[mR] at e;obtain ⟨y5,k⟩:=ih (x5:=dV x.toD) h2;exact ⟨y5,fun z hz=>bo (aa (aV (bg e rfl)) rfl) rfl (k z hz)⟩
theorem GA {r:CH} (h:b.ex (KK d true) (ρ.set i (dV (.exc c))) σ=some (.ret v,σ')):(hA 0 i b r).ex (KK d false) c ρ σ=some (.ret v,σ'):=by
 show Hs (c==0||true) (s7 (b.ex (KK d true) (ρ.set i (dV (.exc c))) σ)) _=_;rw[h,Bool.or_true];rfl
end
noncomputable def Nh:Dd->List (D×Tx)
 | .acc a=>[(.str gW,gW),(.str a,a)]
 | .rate c n t b=>[(.str gu,gu),(.str c,c),(.int n,aH n),(.int t,aH t),(.int b,aH b)]
 | .entry n note ls=>[(.str cX,cX),(.int n,aH n),(.int ls.length,aH ls.length),(.str note,note)]
 | .change n note g one a tk cJ=>[(.str de,de),(.int n,aH n),(.str g,g),(.str one,one),(.int a,aH a),(.str tk,tk),(.str cJ,cJ),(.str note,note)]
 | .back k n=>[(.str gv,gv),(.int k,aH k),(.int n,aH n)]
 | .close n=>[(.str gU,gU),(.int n,aH n)]
noncomputable def pw (x:Dd):Tx:=bS [32] ((Nh x).map (·.2))
noncomputable def jX (l:aQ):Tx:=bS [32] [ko,l.1,l.2.1,aH l.2.2]
noncomputable def gz:Dd->List Tx
 | .entry n note ls=>pw (.entry n note ls)::ls.map jX
 |x=>[pw x]
def Wd (w:Tx):Prop:=(∀ c∈w,33<=c/\c<=126)/\w≠[]/\w.length<=32
theorem Wd.nm (h:Wd w):iu w=true:=by
 obtain ⟨h1,h2,_⟩:=h;obtain ⟨c,r,rfl⟩:=List.exists_cons_of_ne_nil h2;show List.all _ _=true;exact List.all_eq_true.mpr fun x hx=>by rw[NP (h1 x hx).1,NP (h1 x hx).2];rfl
theorem Wd.sp (h:Wd w):32∉w:=fun q=>absurd (h.1 32 q).1 (by decide)
theorem zz (h:gf w):Wd w:=by
 obtain ⟨x,r,rfl,h1,h2,h3⟩:=h;have a:∀ c∈lq,33<=c/\c<=126:=by decide
 have b:∀ c∈dQ,33<=c/\c<=126:=by decide
 refine ⟨fun c hc=> ?_,List.cons_ne_nil _ _,by rw[NI];exact NK (Nat.add_le_add_right (h1) _) (NH rfl)⟩;rcases NB.mp hc with rfl|hc
 .exact a _ h2
 .exact b c (h3 c hc)
theorem gT (h:Hp w):Wd w:=h.elim (fun e=>by rw[e];exact ⟨by decide,by decide,by decide⟩) zz
theorem dZ (h:br w=true):Wd w:=by
 have a:∀ c∈fE,33<=c/\c<=126:=by decide
 have l:=dD h;exact ⟨fun c hc=>a c (Of (List.all_eq_true.mp (an h) c hc)),fun e=>(by rw[e] at l;cases l),Ky l⟩
theorem dE {n:Int} (h:n.natAbs<10^31):Wd (aH n):=by
 obtain ⟨h1,h2⟩:=bU h;refine ⟨fun c hc=> ?_,fun e=>(by rw[e] at h1;cases h1),(t5 h).2⟩;have:=List.all_eq_true.mp h2 c hc;rcases (Bool.or_eq_true _ _).mp this with q|q
 .rw[eq_of_beq q];decide
 .have q1:=Of (ai q);have q2:=Of (an q);exact ⟨NK (NH rfl) q1,NK q2 (NH rfl)⟩
theorem iX {n:Int} (h:b' n):n.natAbs<10^31:=by have:=h.1;have:=h.2;exact Kx (by assumption) this
theorem qM {a:Int} (h:eg a=true):a.natAbs<10^31:=by
 have h2:=Of (ai (an h));have h3:=Of (an (an h));omega
theorem oq:∀ l:Tx,bS [c] (ax c l)=l:=by
 intro l
 induction l with
 |nil=>
  exact rfl
 |cons x l ih=>
  have ih:=ih;have e:=je c l;by_cases q:x=c
  .rw[q,zP,e];show []++[c]++bS [c] ((ax c l).headD []::(ax c l).tail)=_;rw[<-e,ih];rfl
  .rw[zR q];generalize (ax c l).headD []=h at e;rw[e] at ih;cases z:(ax c l).tail with
   |nil=>
    rw[z] at ih;have ih:h=l:=ih;show x::h=_;rw[ih]
   |cons y t=>
    rw[z] at ih;have ih:h++[c]++bS [c] (y::t)=l:=ih;show (x::h)++[c]++bS [c] (y::t)=_;rw[<-ih];rfl
theorem jT {c:Nat} {w:Tx}:∀ {ws:List Tx},(∀ p∈ws,c∉p)->ax c (bS [c] (ws++[w]))=ws++ax c w
 |[],_=>rfl
 |[p],h=>by
  show ax c (p++[c]++w)=_;rw[List.append_assoc];exact gZ (h p (.head _))
 |p::q::r,h=>by
  show ax c (p++[c]++bS [c] (q::r++[w]))=_;rw[List.append_assoc];exact (gZ (h p (.head _))).trans (congrArg (p::·) (jT fun x hx=>h x (.tail _ hx)))
theorem uH {ws:List Tx} (h:∀ p∈ws,Wd p):∀ p∈ws,32∉p:=fun p hp=>(h p hp).sp
theorem gx {ws:List Tx} (hn:ws≠[]) (h:∀ p∈ws,Wd p):ax 32 (bS [32] ws)=ws:=jU hn (uH h)
theorem zB:Wd ko:=⟨by decide,by decide,by decide⟩
theorem wq:Wd cX:=⟨by decide,by decide,by decide⟩
theorem sF:Wd de:=⟨by decide,by decide,by decide⟩
theorem EC:Wd gW:=⟨by decide,by decide,by decide⟩
theorem zA:Wd gu:=⟨by decide,by decide,by decide⟩
theorem zC:Wd gv:=⟨by decide,by decide,by decide⟩
theorem wt:Wd gU:=⟨by decide,by decide,by decide⟩
theorem Fb:Wd jz:=⟨by decide,by decide,by decide⟩
theorem aE {q:α->Prop} {a:α} {l:List α} (h:q a) (k:∀ x∈l,q x):∀ x∈a::l,q x:=fun x hx=>(NB.mp hx).elim (fun e=>e ▸ h) (k x)
def JH (l:aQ):Prop:=Hp l.1/\br l.2.1=true/\eg l.2.2=true
theorem JH.ws {l:aQ} (h:JH l):∀ p∈[ko,l.1,l.2.1,aH l.2.2],Wd p:=aE zB (aE (gT h.1) (aE (dZ h.2.1) (aE (dE (qM h.2.2)) aX)))
theorem yE {l:aQ} (h:JH l):cy (jX l)=some l:=by
 unfold cy jX;rw[gx (List.cons_ne_nil _ _) h.ws];show fS (iu l.1) (fS (iu l.2.1) ((bn (aH l.2.2)).map fun n=>(l.1,l.2.1,n)))=_;rw[(gT h.1).nm,(dZ h.2.1).nm,(bU (qM h.2.2)).1];rfl
theorem vf:∀ {ls:List aQ},(∀ l∈ls,JH l)->ly cy (ls.map jX)=some ls:=by
 intro ls
 induction ls with
 |nil=>
  intro _;exact rfl
 |cons l ls ih=>
  intro h;show (cy (jX l)).bind _=_;rw[yE (h l (.head _)),NA,ih fun x hx=>h x (.tail _ hx)];rfl
theorem zb {x:Dd} {t:List Tx} (h:EB x):∃ r l,gz x=r::l/\l.length=x.len/\d7 r (l++t)=some x:=by
 cases x with
 |acc a=>
  refine ⟨_,[],rfl,rfl,?_⟩;have w:=zz h;have e:ax 32 (pw (.acc a))=[gW,a]:=gx (List.cons_ne_nil _ _) (aE EC (aE w aX));unfold d7 kT;rw[e];show fS (iu a) (some (Dd.acc a))=_;rw[w.nm];rfl
 |rate c n u b=>
  refine ⟨_,[],rfl,rfl,?_⟩;obtain ⟨h1,h2,h3,h4⟩:=h;have i1:=iX h2;have i2:u.natAbs<10^31:=CV h3;have i3:b.natAbs<10^31:=CV h4;have e:ax 32 (pw (.rate c n u b))=[gu,c,aH n,aH u,aH b]:=gx (List.cons_ne_nil _ _) (aE zA (aE (dZ h1) (aE (dE i1) (aE (dE i2) (aE (dE i3) aX)))));unfold d7 kT;rw[e];show fS (iu c) ((bn (aH n)).bind fun n=>(bn (aH u)).bind fun t=>(bn (aH b)).map fun b=>Dd.rate c n t b)=_;rw[(dZ h1).nm,(bU i1).1,(bU i2).1,(bU i3).1];rfl
 |entry n note ls=>
  refine ⟨_,ls.map jX,rfl,Nz _,?_⟩;obtain ⟨h1,h2,h3,h4⟩:=h;have i1:=iX h1;have i2:((ls.length:Nat):Int).natAbs<10^31:=H1 h3;have e:ax 32 (pw (.entry n note ls))=[cX,aH n,aH ls.length]++ax 32 note:=jT (ws:=[cX,aH n,aH ls.length]) (uH (aE wq (aE (dE i1) (aE (dE i2) aX))));unfold d7 kT;rw[e];show fS (decide (4<=(cX::aH n::aH ls.length::ax 32 note).length)) ((bn (aH n)).bind fun n=>(bn (aH ls.length)).bind fun k=>fS (decide (0<=k)&&decide (k<=((ls.map jX++t).length:Int))) ((ly cy ((ls.map jX++t).take k.toNat)).map fun ls=>Dd.entry n (bS [32] (ax 32 note)) ls))=_;rw[kL (NP (by have:=split_pos (c:=32) (l:=note);rw[NI,NI,NI];exact Nat.add_le_add_right this 3)),(bU i1).1,(bU i2).1,oq];show fS (decide ((0:Int)<=ls.length)&&decide ((ls.length:Int)<=((ls.map jX++t).length:Int))) ((ly cy ((ls.map jX++t).take (ls.length:Int).toNat)).map fun ls=>Dd.entry n note ls)=_;have tl:=List.take_left (l₁:=ls.map jX) (l₂:=t);rw[Nz] at tl;rw[kL (by rw[NP (o9),NP (by rw[NC,Nz];exact Kv)];rfl),Int.toNat_natCast,tl,vf h4];rfl
 |change n note g one a tk' cJ=>
  refine ⟨_,[],rfl,rfl,?_⟩;obtain ⟨⟨h1,h2⟩,h3,h4,h5,h6,h7⟩:=h;have i1:=iX h1;have i2:=qM h5;have e:ax 32 (pw (.change n note g one a tk' cJ))=[de,aH n,g,one,aH a,tk',cJ]++ax 32 note:=jT (ws:=[de,aH n,g,one,aH a,tk',cJ]) (uH (aE sF (aE (dE i1) (aE (gT h3) (aE (dZ h4) (aE (dE i2) (aE (gT h6) (aE (dZ h7) aX))))))));unfold d7 kT;rw[e];show fS (decide (8<=(de::aH n::g::one::aH a::tk'::cJ::ax 32 note).length)) (fS (iu g) (fS (iu one) ((bn (aH a)).bind fun a=>(bn (aH n)).bind fun n=>fS (iu tk') (fS (iu cJ) (some (Dd.change n (bS [32] (ax 32 note)) g one a tk' cJ))))))=_;rw[kL (NP (by have:=split_pos (c:=32) (l:=note);rw[NI,NI,NI,NI,NI,NI,NI];exact Nat.add_le_add_right this 7)),(gT h3).nm,(dZ h4).nm,(bU i1).1,(bU i2).1,oq,(gT h6).nm,(dZ h7).nm];rfl
 |back k n=>
  refine ⟨_,[],rfl,rfl,?_⟩;obtain ⟨h1,h2⟩:=h;have i1:k.natAbs<10^31:=H0 h1;have i2:=iX h2;have e:ax 32 (pw (.back k n))=[gv,aH k,aH n]:=gx (List.cons_ne_nil _ _) (aE zC (aE (dE i1) (aE (dE i2) aX)));unfold d7 kT;rw[e];show (bn (aH k)).bind (fun k=>(bn (aH n)).map fun n=>Dd.back k n)=_;rw[(bU i1).1,(bU i2).1];rfl
 |close n=>
  refine ⟨_,[],rfl,rfl,?_⟩;have i1:=iX h;have e:ax 32 (pw (.close n))=[gU,aH n]:=gx (List.cons_ne_nil _ _) (aE wt (aE (dE i1) aX));unfold d7 kT;rw[e];show (bn (aH n)).map Dd.close=_;rw[(bU i1).1];rfl
theorem nM:∀ {n m:Nat} {l:List Tx},l.length<=n->l.length<=m->fA n l=fA m l
 |0,0,_,_,_=>rfl
 |0,m+1,[],_,_=>rfl
 |0,_+1,_::_,h,_=>absurd h (Nat.not_succ_le_zero _)
 |n+1,0,[],_,_=>rfl
 |_+1,0,_::_,_,h=>absurd h (Nat.not_succ_le_zero _)
 |n+1,m+1,[],_,_=>rfl
 |n+1,m+1,r::t,h1,h2=>by
  rw[mU,mU];rw[NI] at h1 h2;congr 1;funext x;rw[nM (n:=n) (m:=m) (by rw[List.length_drop];exact NK (Nat.sub_le _ _) (Nat.le_of_succ_le_succ h1)) (by rw[List.length_drop];exact NK (Nat.sub_le _ _) (Nat.le_of_succ_le_succ h2))]
theorem s0 {x:Dd} {t:List Tx} (h:EB x):eE (gz x++t)=(eE t).map (x::·):=by
 obtain ⟨r,l,e1,e2,e3⟩:=zb (t:=t) h;unfold eE;rw[e1,List.cons_append,NI,mU,e3];show (fA (l++t).length ((l++t).drop x.len)).map _=_;rw[<-e2,List.drop_left,nM (m:=t.length) (by rw[NC];exact Ku) (NM _)]
noncomputable def cp (ds:List Dd):List Tx:=(ds.map gz).flatten
theorem uT {t:List Tx}:∀ {ds:List Dd},(∀ x∈ds,EB x)->eE (cp ds++t)=(eE t).map (ds++·):=by
 intro ds
 induction ds with
 |nil=>
  intro _;show eE t=_;cases eE t<;>rfl
 |cons x ds ih=>
  intro h;show eE ((gz x++cp ds)++t)=_;rw[List.append_assoc,s0 (h x (.head _)),ih fun y hy=>h y (.tail _ hy),Option.map_map];rfl
structure JB (r:Tx):Prop where
 n:10∉r
 l:r.length<=190
 e:r≠[]
theorem jV {ws:List Tx} (h:∀ p∈ws,Wd p) (hn:∀ c∈note,32<=c/\c<=126) (hl:note.length<=40) (h0:ws≠[]) (h7:(ws.map List.length).sum+ws.length<=149):JB (bS [32] (ws++[note])):=by
 have hj:∀ (ws:List Tx),(∀ p∈ws,∀ c∈p,32<=c)->∀ c∈bS [32] ws,32<=c:=by
  intro ws
  induction ws with
  |nil=>exact fun _ c hc=>absurd hc NV
  |cons p ws ih=>
   intro h c hc;cases ws with
   |nil=>exact h p (.head _) c hc
   |cons q ws=>
    have hc:c∈p++[32]++bS [32] (q::ws):=hc;rcases NS.mp hc with hc|hc
    .rcases NS.mp hc with hc|hc
     .exact h p (.head _) c hc
     .rw[NG.mp hc];decide
    .exact ih (fun x hx=>h x (.tail _ hx)) c hc
 have a:∀ p∈ws++[note],∀ c∈p,32<=c:=fun p hp c hc=>by
  rcases NS.mp hp with hp|hp
  .have:=((h p hp).1 c hc).1;exact Oc this
  .rw[NG.mp hp] at hc;exact (hn c hc).1
 refine ⟨fun z=>absurd (hj _ a 10 z) (by decide),?_,?_⟩
 .have:=tQ (s:=[32]) (ws++[note]);rw[List.map_append,List.sum_append,NC,NL] at this;have e:([note].map List.length).sum=note.length:=by simp
  have e1:[32].length=1:=rfl;rw[e,e1,Nat.mul_one] at this;omega
 .obtain ⟨p,r,rfl⟩:=List.exists_cons_of_ne_nil h0;obtain ⟨c,q,e⟩:=List.exists_cons_of_ne_nil (h p (.head _)).2.1;intro z;rw[e] at z;cases r with
  |nil=>cases z
  |cons y r=>cases z
theorem mX (h:Hp w):w.length<=12:=h.elim (fun e=>by rw[e];decide) fun h=>(nS h).2
theorem Wd.pr (h:Wd w):∀ c∈w,32<=c/\c<=126:=fun c hc=>⟨Nat.le_of_succ_le (h.1 c hc).1,(h.1 c hc).2⟩
theorem d3 {ws:List Tx}:((w::ws).map List.length).sum=w.length+(ws.map List.length).sum:=by rw[List.map_cons,List.sum_cons]
theorem sL:(([]:List Tx).map List.length).sum=0:=rfl
theorem Cv {l:aQ} (h:JH l):JB (jX l):=by
 have w:=dE (qM h.2.2);have:=w.2.2;have:=mX h.1;have:=dD h.2.1;refine jV (ws:=[ko,l.1,l.2.1]) (aE zB (aE (gT h.1) (aE (dZ h.2.1) aX))) w.pr (HZ (by assumption)) (List.cons_ne_nil _ _) ?_;rw[d3,d3,d3,sL];show 4+_+3<=_;exact Kt (by assumption) this
theorem Cz {x:Dd} (h:EB x):JB (pw x):=by
 cases x with
 |acc a=>
  have:=(nS h).2;exact jV (note:=a) (ws:=[gW]) (aE EC aX) (zz h).pr (NK (this) (NH rfl)) (List.cons_ne_nil _ _) (by decide)
 |rate c n u b=>
  obtain ⟨h1,h2,h3,h4⟩:=h;have i1:=dE (iX h2);have i2:=dE (n:=u) (CV h3);have i3:=dE (n:=b) (CV h4);have:=i1.2.2;have:=i2.2.2;have:=i3.2.2;have:=dD h1;refine jV (note:=aH b) (ws:=[gu,c,aH n,aH u]) (aE zA (aE (dZ h1) (aE i1 (aE i2 aX)))) i3.pr (HZ (by assumption)) (List.cons_ne_nil _ _) ?_;rw[d3,d3,d3,d3,sL];show 4+_+4<=_;exact Ks (by assumption) (by assumption) this
 |entry n note ls=>
  obtain ⟨h1,h2,h3,h4⟩:=h;have i1:=dE (iX h1);have i2:=dE (n:=(ls.length:Int)) (H1 h3);have:=i1.2.2;have:=i2.2.2;refine jV (ws:=[cX,aH n,aH ls.length]) (aE wq (aE i1 (aE i2 aX))) h2.2 h2.1 (List.cons_ne_nil _ _) ?_;rw[d3,d3,d3,sL];show 5+_+3<=_;exact Kr (by assumption) this
 |change n note g one a tk' cJ=>
  obtain ⟨⟨h1,h2⟩,h3,h4,h5,h6,h7⟩:=h;have i1:=dE (iX h1);have i2:=dE (qM h5);have:=i1.2.2;have:=i2.2.2;have:=mX h3;have:=mX h6;have:=dD h4;have:=dD h7;refine jV (ws:=[de,aH n,g,one,aH a,tk',cJ]) (aE sF (aE i1 (aE (gT h3) (aE (dZ h4) (aE i2 (aE (gT h6) (aE (dZ h7) aX))))))) h2.2 h2.1 (List.cons_ne_nil _ _) ?_;rw[d3,d3,d3,d3,d3,d3,d3,sL];show 6+_+7<=_;exact Kq (by assumption) (by assumption) (by assumption) (by assumption) (by assumption) this
 |back k n=>
  obtain ⟨h1,h2⟩:=h;have i1:=dE (n:=k) (H0 h1);have i2:=dE (iX h2);have:=i1.2.2;have:=i2.2.2;refine jV (note:=aH n) (ws:=[gv,aH k]) (aE zC (aE i1 aX)) i2.pr (NK this (NH rfl)) (List.cons_ne_nil _ _) ?_;rw[d3,d3,sL];show 4+_+2<=_;exact Kp (by assumption)
 |close n=>
  have i1:=dE (iX h);have:=i1.2.2;exact jV (note:=aH n) (ws:=[gU]) (aE wt aX) i1.pr (NK this (NH rfl)) (List.cons_ne_nil _ _) (by decide)
theorem sX {x:Dd} (h:EB x):(∀ r∈gz x,JB r)/\(gz x).length<=61:=by
 have r:=Cz h;cases x with
 |entry n note ls=>
  obtain ⟨h1,h2,h3,h4⟩:=h;refine ⟨aE r fun y hy=> ?_,by show (ls.map jX).length+1<=_;rw[Nz];exact Ow h3⟩;obtain ⟨l,hl,rfl⟩:=NQ.mp hy;exact Cv (h4 l hl)
 |acc a=>exact ⟨aE r aX,NH rfl⟩
 |rate c n u b=>exact ⟨aE r aX,NH rfl⟩
 |change n note g one a tk' cJ=>exact ⟨aE r aX,NH rfl⟩
 |back k n=>exact ⟨aE r aX,NH rfl⟩
 |close n=>exact ⟨aE r aX,NH rfl⟩
theorem nH:∀ {ds:List Dd},(∀ x∈ds,EB x)->(∀ r∈cp ds,JB r)/\(cp ds).length<=61*ds.length:=by
 intro ds
 induction ds with
 |nil=>
  intro _;exact ⟨aX,NM _⟩
 |cons x ds ih=>
  intro h;obtain ⟨a1,a2⟩:=sX (h x (.head _));obtain ⟨b1,b2⟩:=ih fun y hy=>h y (.tail _ hy);refine ⟨fun r hr=> ?_,?_⟩
  .have hr:r∈gz x++cp ds:=hr;exact (NS.mp hr).elim (a1 r) (b1 r)
  .show (gz x++cp ds).length<=_;rw[NC,NI];exact Ko a2 b2
noncomputable def sG (aJ:List Tx):Tx:=(aJ.map (· ++[10])).flatten
theorem wv {r:Tx}:sG (r::aJ)=r++10::sG aJ:=by
 show (r++[10])++sG aJ=_;rw[List.append_assoc];rfl
theorem zO {X:Tx}:∀ {aJ:List Tx},(∀ r∈aJ,10∉r)->ax 10 (sG aJ++X)=aJ++ax 10 X:=by
 intro aJ
 induction aJ with
 |nil=>
  intro _;exact rfl
 |cons r aJ ih=>
  intro h;rw[wv,List.append_assoc,List.cons_append,gZ (h r (.head _)),ih fun x hx=>h x (.tail _ hx)];rfl
theorem Fj:∀ {aJ:List Tx},(∀ r∈aJ,r.length<=k)->(sG aJ).length<=(k+1)*aJ.length:=by
 intro aJ
 induction aJ with
 |nil=>
  intro _;exact N3 _
 |cons r aJ ih=>
  intro h;have ih:=ih fun x hx=>h x (.tail _ hx);have:=h r (.head _);rw[wv,NC,NI,NI,Nat.mul_succ];exact Kn ih this
theorem tP:∀ ts:List Tx,bS [] ts=ts.flatten
 |[]=>rfl
 |[t]=>by show t=t++[];rw[List.append_nil]
 |t::u::r=>by
  show t++[]++bS [] (u::r)=t++(u::r).flatten;rw[List.append_nil,tP (u::r)]
section
variable {r:Tx} {ws t rs:List Tx}
theorem Bi {ts:List Tx} (h1:Ev K o ρ σ (.d (.str s))) (h2:Ev K a ρ σ x) (r:rd σ x=some (.lst (ts.map .str))) (hs:s.length<=15) (hl:(ts.map List.length).sum+ts.length<=1048576):Ev K (bm lX o (aj a ao)) ρ σ (.d (.str (bS s ts))):=by
 refine aB h1 (aB (b7 h2) ?_);show ((rd σ x).bind fun v=>_)=_;rw[r,NA];show (((ny (ts.map .str)).bind fun ts=>aq ((ts.map List.length).sum+ts.length<=1048576/\s.length<=15) (D.str (bS s ts))).map _)=_;rw[sO,NA,aM ⟨hl,hs⟩];rfl
end
section
noncomputable def rh (n:Int) (k:Nat) (note:List Nat):List Nat:=[101,110,116,114,121,32]++aH n++[32]++aH k++[32]++note
noncomputable def iI (l:aQ):List Nat:=[108,105,110,101,32]++l.1++[32]++l.2.1++[32]++aH l.2.2
theorem Cy {n:Int}:pw (.entry n note ls)=rh n ls.length note:=by
 show cX++[32]++(aH n++[32]++(aH ls.length++[32]++note))=_;unfold rh;simp only [List.append_assoc];rfl
theorem Cw {l:aQ}:jX l=iI l:=by
 show ko++[32]++(l.1++[32]++(l.2.1++[32]++aH l.2.2))=_;unfold iI;simp only [List.append_assoc];rfl
theorem oQ {n:Int} {note:List Nat} (h1:n.natAbs<10^31) (h2:note.length<=40) (h3:ls.length<=60) (h4:∀ l∈ls,l.1.length<=40/\l.2.1.length<=40/\l.2.2.natAbs<10^31):CC (d+1) false 23 [.d (dH n note ls)] σ=some (.ok (.d (.lst ((rh n ls.length note::ls.map iI).map .str))),σ):=by
 have hlen:(ls.map aA).length=ls.length:=Nz ..;have q1:=t5 h1;have q2:=t5 (i:=ls.length) (by rw[Int.natAbs_natCast];exact NZ h3 (by decide));obtain ⟨ρ2,s2,lp,x5,x6,x7,x8,rfl,rfl⟩:∃ ρ2 s2,c6 (.d (.tup (ls.map aA))) (.tup (ls.map aA)) 5 (fun ρ=>(sC (aG 6 (sub (ag 5) (ah 0))) (sC (aG 7 (sub (ag 5) (ah 1))) (sC (aG 8 (sub (ag 5) (ah 2))) (sC (aZ (bm bZ (ag 4) (aj (yQ (uB [108,105,110,101,32] (uA (ag 6) (uB [32] (uA (ag 7) (uB [32] (uA (ag 8) IZ))))))) ao))) sN)))).ex (KK d false) ρ) (ls.map aA) [dV (dH n note ls),iV n,sV note,iV ls.length,qV σ.length,none,none,none,none] (σ++[.fld (.list [.str (rh n ls.length note)])])=some (.next ρ2,s2)/\∃ x5 x6 x7 x8,ρ2=[dV (dH n note ls),iV n,sV note,iV ls.length,qV σ.length,x5,x6,x7,x8]/\s2=σ++[.fld (.list ((rh n ls.length note::ls.map iI).map .str))]:=by
  have key:∀ (ms:List aQ) (acc:List (List Nat)) (x5 x6 x7 x8:Option PV),(∀ l∈ms,l∈ls)->acc.length+ms.length<=100->∃ ρ2 s2,c6 (.d (.tup (ls.map aA))) (.tup (ls.map aA)) 5 (fun ρ=>(sC (aG 6 (sub (ag 5) (ah 0))) (sC (aG 7 (sub (ag 5) (ah 1))) (sC (aG 8 (sub (ag 5) (ah 2))) (sC (aZ (bm bZ (ag 4) (aj (yQ (uB [108,105,110,101,32] (uA (ag 6) (uB [32] (uA (ag 7) (uB [32] (uA (ag 8) IZ))))))) ao))) sN)))).ex (KK d false) ρ) (ms.map aA) [dV (dH n note ls),iV n,sV note,iV ls.length,qV σ.length,x5,x6,x7,x8] (σ++[.fld (.list (acc.map .str))])=some (.next ρ2,s2)/\∃ x5 x6 x7 x8,ρ2=[dV (dH n note ls),iV n,sV note,iV ls.length,qV σ.length,x5,x6,x7,x8]/\s2=σ++[.fld (.list ((acc++ms.map iI).map .str))]:=by
   intro ms
   induction ms with
   |nil=>exact fun acc x5 x6 x7 x8 _ _=>⟨_,_,rfl,_,_,_,_,rfl,by rw[List.map_nil,List.append_nil]⟩
   |cons l ms ih=>
    intro acc x5 x6 x7 x8 hm hl;rw[NI] at hl;obtain ⟨g1,g2,g3⟩:=h4 l (hm l (.head _));have q3:=t5 g3;obtain ⟨ρ2,s2,e,y5,y6,y7,y8,er,es⟩:=ih (acc++[iI l]) (dV (aA l)) (sV l.1) (sV l.2.1) (iV l.2.2) (fun x hx=>hm x (.tail _ hx)) (by rw[NC,NL];exact Km hl);have a:=fW (K:=KK d false) (ρ:=[dV (dH n note ls),iV n,sV note,iV ls.length,qV σ.length,dV (aA l),sV l.1,sV l.2.1,iV l.2.2]) (o:=ag 4) (a:=yQ (uB [108,105,110,101,32] (uA (ag 6) (uB [32] (uA (ag 7) (uB [32] (uA (ag 8) IZ))))))) (y:=.str (iI l)) (l:=acc.map .str) (σ:=σ++[.fld (.list (acc.map .str))]) rfl
     (xp (yS (NH rfl) (yR rfl rfl (by rw[NC];show 0+5+_<=_;exact NK (Oe (g1) _) (NH rfl)) (yS (by rw[NC,NC];show 0+5+_+1<=_;exact NK (Nat.add_le_add_right (Oe (g1) _) _) (NH rfl)) (yR rfl rfl (by simp only [NC,NI,Oo];exact NK (Nat.add_le_add (Nat.add_le_add_right (Oe (g1) _) _) (g2)) (NH rfl)) (yS (by simp only [NC,NI,Oo];exact NK (Nat.add_le_add_right (Nat.add_le_add (Nat.add_le_add_right (Oe (g1) _) _) (g2)) _) (NH rfl)) (yR rfl q3.1 (by simp only [NC,NI,Oo];omega) rfl)))))))
     fk (by rw[Nz];exact j2 (NK (NK (Os _ _) hl) (NH rfl)))
    rw[ji,show acc.map D.str++[D.str (iI l)]=(acc++[iI l]).map .str by rw[List.map_append];rfl] at a;refine ⟨ρ2,s2,bo (aa (az (fc 0 rfl rfl) rfl) (aa (az (fc 1 rfl rfl) rfl) (aa (az (fc 2 rfl rfl) rfl) (aa (aV a) rfl)))) rfl e,y5,y6,y7,y8,er,?_⟩;rw[es,List.map_cons,List.append_assoc];rfl
  exact key ls [rh n ls.length note] none none none none (fun _ h=>h) (by rw[NL];exact NK (Oe (h3) _) (NH rfl))
 refine oV (f':=.list ((rh n ls.length note::ls.map iI).map .str)) rfl rfl (ρ:=[dV (dH n note ls),none,none,none,none,none,none,none,none]) rfl ?_ (NM _) eR (HE σ [.fld (.list ((rh n ls.length note::ls.map iI).map .str))]);have ll:Ev (KK d false) (bi bh (aj (sub (ag 0) (ah 3)) ao)) [dV (dH n note ls),iV n,sV note,none,none,none,none,none,none] σ (.d (.int ls.length)):=by
  have e:=IE (hd:=false) (σ:=σ) (x:=.d (.tup (ls.map aA))) rfl (by rw[hlen];exact bj (NK (h3) (NH rfl)));rw[hlen] at e;exact cr (b7 (fc 3 rfl rfl)) e
 refine aa (az (fc 1 rfl rfl) rfl) ?_;refine aa (az (fc 2 rfl rfl) rfl) ?_;refine aa (az ll rfl) ?_;refine aa (az (ie (ds:=[.str (rh n ls.length note)]) (b7 (xp (yS (NH rfl) (yR rfl q1.1 (by simp only [NC,NI,Oo];omega) (yS (by simp only [NC,NI,Oo];omega) (yR rfl q2.1 (by simp only [NC,NI,Oo];omega) (yS (by simp only [NC,NI,Oo];omega) (yR rfl rfl (by simp only [NC,NI,Oo];omega) rfl)))))))) rfl) rfl) ?_;refine aa (bF (fc 3 rfl rfl) (eq rfl) lp) ?_;exact aS (aT rfl)
theorem BY {a:Tx} (h:gf a):CC (d+2) false 24 [.d (kg a)] σ=some (.ok (.d (.lst ((gz (.acc a)).map .str))),σ):=by
 have l:=nS h;exact bA rfl rfl rfl (aa rfl (aa rfl (aS (aT (cN (b7 (xn (ts:=[gW,a]) rfl (mo (dy rfl (eq rfl) (l:=[.str gW,.str a]) rfl)) rfl (by decide) (aE (by decide) (aE (by omega) aX)) (NH rfl)))))))) (tk _)
theorem entry_rows {n:Int} (h:EB (.entry n note ls)):CC (d+2) false 24 [.d (dH n note ls)] σ=some (.ok (.d (.lst ((gz (.entry n note ls)).map .str))),σ):=by
 obtain ⟨h1,h2,h3,h4⟩:=h;have e:=oQ (d:=d) (σ:=σ) (n:=n) (note:=note) (ls:=ls) (iX h1) h2.1 h3 fun l hl=>by
  obtain ⟨a,b,c⟩:=h4 l hl;have q:=mX a;have r:=dD b;exact ⟨by exact NK (q) (NH rfl),Kh r,qM c⟩
 rw[<-Cy (ls:=ls),List.map_congr_left (g:=jX) fun l _=>Cw.symm] at e;exact bA rfl rfl rfl (aS (bp rfl (aS (aT (bg e rfl))))) (tk _)
noncomputable def JP:Dd->D
 | .entry n note ls=>dH n note ls
 |x=>x.toD
def D4 (x:Dd):Prop:=EB x/\((∃ a,x= .acc a)∨∃ n note ls,x= .entry n note ls)
theorem Jd {x:Dd} (h:D4 x):CC (d+2) false 24 [.d (JP x)] σ=some (.ok (.d (.lst ((gz x).map .str))),σ):=by
 obtain ⟨h,⟨a,rfl⟩|⟨n,note,ls,rfl⟩⟩:=h
 .show CC (d+2) false 24 [.d (kg a)] σ=_;exact BY h
 .show CC (d+2) false 24 [.d (dH n note ls)] σ=_;exact entry_rows h
noncomputable def B2 (h:Tx):Tx:=[104,111,109,101,32]++h
noncomputable def JL (S:St) (ds:List Dd):Tx:=sG (B2 S.home::cp ds)
theorem B5 {v:D} {f:PV} (b:Bk σ n S) (hs:bN σ v f=true):∀ (ds:List Dd) (aJ:List Tx) (x2:Option PV),(∀ x∈ds,D4 x)->aJ.length+61*ds.length<=990->∃ y2,c6 f v 2 (fun ρ=>(sC (aG 1 (aP a' (ag 1) (au 24 (aj (ag 2) ao)))) sN).ex (KK (d+2) false) ρ) (ds.map JP) [qV n,dV (.lst (aJ.map .str)),x2,none] σ=some (.next [qV n,dV (.lst ((aJ++cp ds).map .str)),y2,none],σ):=by
 intro ds
 induction ds with
 |nil=>exact fun aJ x2 _ _=>⟨x2,by rw[show cp []=[] from rfl,List.append_nil];rfl⟩
 |cons x ds ih=>
  intro aJ x2 h hl;rw[NI] at hl;have l:=(sX (h x (.head _)).1).2;obtain ⟨y2,e⟩:=ih (aJ++gz x) (dV (JP x)) (fun y hy=>h y (.tail _ hy)) (by rw[NC];omega);rw[List.append_assoc,show gz x++cp ds=cp (x::ds) from rfl] at e;refine ⟨y2,bo (aa (az (aR rfl (bg (Jd (h x (.head _))) rfl) rfl rfl (j7 (by rw[Nz,Nz];omega))) rfl) rfl) hs ?_⟩;rw[<-List.map_append];exact e
theorem iz {ds:List Dd} (b:Bk σ n S) (hh:br S.home=true) (e:S.deeds=ds.map JP) (h:∀ x∈ds,D4 x) (hl:ds.length<=16):CC (d+3) false 25 [.p n 0] σ=some (.ok (.d (.str (JL S ds))),σ):=by
 have c3:=dD hh;obtain ⟨y2,lp⟩:=B5 (d:=d) (v:=.lst S.deeds) (f:=.p n 8) b (ky (sY b)) ds [B2 S.home] none h (by rw[NL];exact NK (Oe (OB _ (hl)) _) (NH rfl));rw[List.singleton_append] at lp;have q:=nH fun x hx=>(h x hx).1;have rl:∀ r∈B2 S.home::cp ds,r.length<=200:=aE (by show (_++S.home).length<=_;rw[NC,c3];decide) fun r hr=>NK (q.1 r hr).l (by decide);generalize hR:B2 S.home::cp ds=R at lp rl;have Rl:R.length<=990:=by rw[<-hR,NI];omega
 have cm:=d8 (K:=KK (d+2) false) (ρ:=[qV n,dV (.lst (R.map .str)),y2,none]) (σ:=σ) (i:=3) (bM:=aP a' (ag 3) (aC [10])) (y:=.lst (R.map .str)) D.str (fun r=>.str (r++[10])) R [] (fun r hr'=>aR rfl rfl rfl rfl (kM (NK (by have:=rl r hr';show _+1<=201;exact Ow this) (by decide)))) (by rw[Oo];exact NK (Oe (Rl) _) (NH rfl));have e2:Ev (KK (d+2) false) (jm false (gk 3 (ag 1) cR (aP a' (ag 3) (aC [10])))) [qV n,dV (.lst (R.map .str)),y2,none] σ (.d (.lst ((R.map (· ++[10])).map .str))):=by
  rw[List.map_map];exact mo (dy rfl (eq (if_pos (by rw[Nz];exact NK Rl (by decide)))) cm)
 have hs:((R.map (· ++[10])).map List.length).sum<=(R.map (· ++[10])).length*201:=zL fun t ht=>by
  obtain ⟨r,hr',rfl⟩:=NQ.mp ht;have:=rl r hr';rw[NC,NL];exact Ow this
 rw[Nz] at hs;have q:=Bi (K:=KK (d+2) false) (ρ:=[qV n,dV (.lst (R.map .str)),y2,none]) (σ:=σ) (o:=aC []) (s:=[]) rfl e2 rfl (by decide) (by rw[Nz];exact NK (Nat.add_le_add (NK hs (Nat.mul_le_mul_right _ (Rl))) (Rl)) (NH rfl));rw[tP] at q;rw[show JL S ds=sG R by rw[<-hR];rfl];refine bA rfl rfl rfl (aa (az (cN (b7 (aR rfl (Ej b rfl) rfl rfl (kM (by show 5+_<=cS;rw[c3];decide))))) rfl) (aa (bF (ut b rfl) (IJ (sY b) (by rw[e,Nz];exact NK (hl) (NH rfl))) ?_) (aS (aT q)))) (tk _);rw[e] at lp ⊢;exact lp
end
section
variable {t:CE}
theorem Bj {a k:Int} (h1:Ev K t ρ σ (.d (.lst l))) (h2:Ev K e ρ σ (.d (.int a))) (h3:Ev K ke ρ σ (.d (.int k))) (k1:0<k) (k2:k<=l.length) (k3:l.length<=1000):∃ z,l[(a.fmod k).toNat]? =some z/\Ev K (sub t (aP bY e ke)) ρ σ (.d z):=by
 have r:=bL (a:=a) k1;have lt:(a.fmod k).toNat<l.length:=o8 k2 r;have g:=c5 (l:=l) (k:=(a.fmod k).toNat) (NE lt) (LL k3 lt);rw[Od r.1] at g;exact ⟨_,NE lt,bB h1 (aR h2 h3 rfl rfl (l7 k1 (LV k2 k3))) rfl rfl g⟩
theorem IT {r:CH} (h:b.ex (KK d true) (ρ.set i (dV (.exc c))) σ=some (.ret v,σ')):(hA c i b r).ex (KK d false) c ρ σ=some (.ret v,σ'):=by
 show Hs (c==c||c==0) (s7 (b.ex (KK d true) (ρ.set i (dV (.exc c))) σ)) _=_;rw[h,beq_self_eq_true,Bool.true_or];rfl
noncomputable def wa:List Tx:=[[],[65],[57,97],[97,45,98],[97,98,99,100,101,102,103,104,105,106,107,108,109],[97,32,98],[97,66],[97,10],[97,95],[97,32],[95]]
theorem G6:∀ s∈wa,oF.ex (KK d false) [sV s,none] σ=some (.ret (.d (.bool false)),σ):=
 aE (by kernel_rfl) (aE (by kernel_rfl) (aE (by kernel_rfl) (aE (by kernel_rfl) (aE (by kernel_rfl) (aE (by kernel_rfl) (aE (by kernel_rfl) (aE (by kernel_rfl) (aE (by kernel_rfl) (aE (by kernel_rfl) (aE (by kernel_rfl) aX))))))))))
theorem Gs (h:s∈wa):CC (d+1) false 36 [.d (.str s)] σ=some (.ok (.d (.bool false)),σ):=bA rfl rfl rfl (G6 s h) (tk _)
theorem zq (h:s∈wa):CC (d+2) false 37 [.p n 0,.d (.str s)] σ=some (.ex 1,σ):=
 cO rfl rfl (ρ:=[qV n,sV s]) rfl (bv (bp (zE (cU (bg (Gs h) rfl))) rfl)) (tk _)
theorem BW {a:Tx} (b:Bk σ n S) (h:gf a) (hn:a∈S.names):CC (d+2) false 37 [.p n 0,.d (.str a)] σ=some (.ex 9,σ):=
 cO rfl rfl rfl (aa (aY (ft (cU (bg (ou h) rfl))) rfl) (bv (bp (ak rfl (gO b rfl) rfl (iJ b) (Gx hn)) rfl))) (tk _)
theorem CZ:gf bu:=⟨101,[120,99,104,97,110,103,101],rfl,by decide,by decide,by decide⟩
theorem AI (h:rd σ x=some (.lst l)) (hl:l.length<=1000):xk.g hd [x] σ=some (.ok (.d (.lst l)),σ):=by
 show ((rd σ x).bind fun u=>_)=_;rw[h,NA];show ((aq (l.length<=cS) (D.lst l)).map _)=_;rw[aM (bj hl)];rfl
theorem sA (b:Bk σ n S) (hl:S.names.length<=1000):CC (d+1) false 60 [.p n 0] σ=some (.ok (.d (.lst (S.names.map .str))),σ):=
 bA rfl rfl (ρ:=[qV n]) rfl (aS (aT (cr (b7 (gO b rfl)) (AI (iJ b) (by rw[Nz];exact hl))))) (tk _)
theorem sv {c:Int} (b:Bk σ n S) (hn:∀ x∈S.names,gf x) (h0:S.names≠[]) (hl:S.names.length<=100):CC (d+3) false 123 [.p n 0,.d (.lst (S.names.map .str)),.d (.int c)] σ=some (.ok (.d (.bool true)),σ):=by
 have l0:=List.length_pos_iff.mpr h0;have r:=bL (a:=c) (b:=12) (by decide);obtain ⟨z,hz,ez⟩:=nL (K:=KK (d+2) false) (ρ:=[qV n,dV (.lst (S.names.map .str)),iV c,none,none]) (σ:=σ) (t:=ag 1) (e:=ag 2) (ke:=bi bh (aj (ag 1) ao)) (T:=S.names) rfl rfl (by have e:=vg (K:=KK (d+2) false) (ρ:=[qV n,dV (.lst (S.names.map .str)),iV c,none,none]) (σ:=σ) (e:=ag 1) rfl rfl (by rw[Nz];exact H9 hl);rw[Nz] at e;exact e) (Int.natCast_pos.mpr l0) (Int.le_refl _) (H9 hl);obtain ⟨y,hy,ey⟩:=Bj (K:=KK (d+2) false) (ρ:=[qV n,dV (.lst (S.names.map .str)),iV c,dV (.lst ((wa++[z]).map .str)),none]) (σ:=σ) (t:=ag 3) (e:=ag 2) (ke:=ah 12) (l:=(wa++[z]).map .str) (a:=c) (k:=12) rfl rfl rfl (by decide) (NH rfl|>fun h=>Oa.mpr h) (NH rfl);have s1:iN.ex (KK (d+2) false) [qV n,dV (.lst (S.names.map .str)),iV c,none,none] σ=some (.next [qV n,dV (.lst (S.names.map .str)),iV c,dV (.lst ((wa++[z]).map .str)),none],σ):=
  az (cN (bT rfl (bT rfl (bT rfl (bT rfl (bT rfl (bT rfl (bT rfl (bT rfl (bT rfl (bT rfl (bT rfl (b7 ez))))))))))))) rfl
 have lo:∀ c ρ,1<=c->c<nX->Ev (KK (d+2) true) (ag 4) ρ σ (.d (.exc c))->(au 29 (aj (ag 4) ao)).ev (KK (d+2) true) ρ σ=some (.ok (.d (.bool true)),σ):=fun c ρ h1 h2 h3=>bq (b7 h3) (tI h1 h2);refine bA rfl rfl rfl (aa s1 (aS ?_)) (tk _);by_cases q:c.fmod 12<11
 .have hb:∃ s∈wa,y= .str s:=by
   rw[List.map_append,Oj (by show _<11;omega),NR] at hy;obtain ⟨s,h1,rfl⟩:=aN hy;exact ⟨s,N5 h1,rfl⟩
  obtain ⟨s,hs,rfl⟩:=hb;exact Cb (bv (eS (bx b rfl (b7 ey) (zq hs)))) (by decide) (IT (aS (aT (kS (j8 (gi rfl rfl rfl rfl (n_ q)) (j8 (AR (c:=1) rfl (by decide)) (kR (lo 1 _ (by decide) (by decide) rfl))))))))
 .have q1:c.fmod 12=11:=by omega
  have hb:y= .str z:=by
   rw[q1] at hy;exact (Om hy).symm
  subst hb;refine Cb (bv (eS (bx b rfl (b7 ey) (BW b (hn z hz) hz)))) (by decide) ?_;show (hA 9 4 _ hN).ex (KK (d+2) false) 9 _ σ=_;exact IT (aS (aT (kS (j8 (gi rfl rfl rfl rfl (mI q1)) (j8 (AR (c:=9) rfl (by decide)) (kR (lo 9 _ (by decide) (by decide) rfl)))))))
end
section
noncomputable def cD (h:Tx) (T:List Tx):St:=⟨h,bu::T,[],[],[],[],[],T.map kg⟩
structure N4 (T:List Tx):Prop where
 nd:T.Nodup
 ne:bu∉T
 nm:∀ x∈T,gf x
 st:jS∉T
 l1:1<=T.length
 l2:T.length<=12
theorem zV (l:T.length<=900):Sh (cD h T):=⟨by show (bu::T).length<=_;rw[NI];exact Ii l,N3 _,N3 _,N3 _,N3 _,by show (T.map kg).length<=_;rw[Nz];exact H2 l⟩
theorem Et {v:D}:∀ (R T:List Tx) (x3:Option PV),(∀ x∈R,gf x/\x∉bu::T)->R.Nodup->T.length+R.length<=100->∃ y3,c6 (.d v) v 3 (fun ρ=>jI.ex (KK (d+3) false) ρ) (R.map .str) [a0,a1,qV 0,x3,none,none] [bk (cD h T)]=some (.next [a0,a1,qV 0,y3,none,none],[bk (cD h (T++R))]):=by
 intro R
 induction R with
 |nil=>exact fun T x3 _ _ _=>⟨x3,by rw[List.append_nil];rfl⟩
 |cons r R ih=>
  intro T x3 hR nd l;rw[NI] at l;have ar:=pq (d:=d+1) (σ:=[bk (cD h T)]) (n:=0) (S:=cD h T) rfl (zV (NK (NK (Os _ _) l) (NH rfl))) (hR r (.head _)).1 (hR r (.head _)).2;obtain ⟨y3,e⟩:=ih (T++[r]) (sV r) (fun x hx=>⟨(hR x (.tail _ hx)).1,fun z=>by
   rw[<-List.cons_append] at z;rcases NS.mp z with z|z
   .exact (hR x (.tail _ hx)).2 z
   .rw[NG.mp z] at hx;exact (Oi.mp nd).1 hx⟩) (Oi.mp nd).2 (by rw[NC,NL];exact Km l)
  refine ⟨y3,bo (aa (aV (bx rfl rfl (b7 rfl) ar)) rfl) rfl ?_⟩;rw[List.append_assoc,List.singleton_append] at e;refine Eq.trans ?_ e;rw[show cD h (T++[r])=sw (cD h T) r by show St.mk ..=St.mk ..;rw[List.map_append];rfl];rfl
noncomputable def Jx (i:Nat):Tx:=[97,99,99,111,117,110,116,48+i]
theorem Nv:∀ i,i<9->aH ((i:Nat):Int)=[48+i]:=by decide
theorem M7:∀ i,i<9->48+i∈dQ:=by decide
theorem C0 (hi:i<9):gf (Jx i):=⟨97,[99,99,111,117,110,116,48+i],rfl,by show 7<=_;decide,by decide,aE (by decide) (aE (by decide) (aE (by decide) (aE (by decide) (aE (by decide) (aE (by decide) (aE (M7 i hi) aX))))))⟩
theorem F8 (h:JQ T) (hA:∀ x∈T,x∉zr) (l1:1<=T.length) (l4:T.length<=4) (hk:k<=8):N4 (T++(List.range k).map Jx):=by
 have mem:∀ x∈(List.range k).map Jx,∃ i,i<9/\x=Jx i:=fun x hx=>by
  obtain ⟨i,hi,rfl⟩:=NQ.mp hx;have:=List.mem_range.mp hi;exact ⟨i,by exact NZ (NK (Oc this) (hk)) (N0 (Nat.lt_succ_self _) (NH rfl)),rfl⟩
 refine ⟨List.nodup_append.mpr ⟨h.nd,?_,fun a ha b hb=> ?_⟩,fun z=> ?_,fun x hx=> ?_,fun z=> ?_,by rw[NC];exact Nat.le_add_right_of_le l1,by rw[NC,Nz,List.length_range];exact Nat.add_le_add (l4) (hk)⟩
 .exact List.pairwise_map.mpr (List.nodup_range.imp fun {a b} ne e=>ne (by
   have e:48+a=48+b:=Om (congrArg (fun l:Tx=>l[7]?) e);omega))
 .obtain ⟨i,hi,rfl⟩:=mem b hb;rintro rfl;exact hA _ ha (NQ.mpr ⟨i,List.mem_range.mpr hi,rfl⟩)
 .rcases NS.mp z with z|z
  .exact h.ne z
  .obtain ⟨i,_,e⟩:=mem _ z;cases e
 .rcases NS.mp hx with z|z
  .exact h.nm x z
  .obtain ⟨i,hi,rfl⟩:=mem _ z;exact C0 hi
 .rcases NS.mp z with z|z
  .exact h.st z
  .obtain ⟨i,_,e⟩:=mem _ z;cases e
theorem vO {x:Option PV} (hs:sc.length<=63) (hi:i<=100) (hj:j<=100):(aj (cF (aj (au 33 (aj (ag 0) (aj (ah (i:Nat)) ao))) (aj (au 33 (aj (ag 0) (aj (ah (j:Nat)) ao))) ao))) ao).ev (KK (d+1) false) (dV (.lst (sc.map .int))::ρ) σ=some (.ok [.d (.lst [.int (cell sc i),.int (cell sc j)])],σ):=b7 (cN (bT (fG hs rfl rfl (H9 hi)) (b7 (fG hs rfl rfl (H9 hj)))))
theorem GQ {l:CL} {x:D} {L:List cB} (h:l.ev K ρ σ=some (.ok [.p n 0,.d x],σ)) (k:ci true σ n=some L):(IC l).ev K ρ σ=some (.ok (.b n x),σ):=aB h (by show (ci true σ n).map _=_;rw[k];rfl)
theorem CN (l:List Tx):pl 8 (.lst (l.map .str))=true:=List.all_eq_true.mpr fun x hx=>by
 obtain ⟨y,_,rfl⟩:=NQ.mp hx;rfl
theorem uU (hs:sc.length<=63):∃ T h,N4 T/\br h=true/\CC (d+4) false 124 [.d (.lst (sc.map .int))] []=some (.ok (.b 0 (.lst ((bu::T).map .str))),[bk (cD h T)]):=by
 obtain ⟨T0,hT,hA,hT1,hT4,eN⟩:=F7 (d:=d+1) (c0:=cell sc 0) (c1:=cell sc 1);obtain ⟨F,hF,hC,hF3,hF8,_,eF⟩:=mr (d:=d+1) (c0:=cell sc 2) (c1:=cell sc 3);cases F with
 |nil=>exact absurd hF3 (by decide)
 |cons h G=>
 have hh:=hC h (.head _);obtain ⟨T,hN,x2⟩:∃ T,N4 T/\jH.ex (KK (d+3) false) [dV (.lst (sc.map .int)),dV (.lst ((bu::T0).map .str)),none,none,none,none] []=some (.next [dV (.lst (sc.map .int)),dV (.lst ((bu::T).map .str)),none,none,none,none],[]):=by
  by_cases q:((cell sc 0).fdiv 7).fmod 8=3
  .have r:=bL (a:=cell sc 1) (b:=9) (by decide);have e:(cell sc 1).fmod 9=((((cell sc 1).fmod 9).toNat:Nat):Int):=by omega
   have hk:((cell sc 1).fmod 9).toNat<=8:=by omega
   generalize ((cell sc 1).fmod 9).toNat=k at e hk;refine ⟨_,F8 hT hA hT1 hT4 hk,?_⟩;have m0:=jP (K:=KK (d+3) false) (ρ:=[dV (.lst (sc.map .int)),dV (.lst ((bu::T0).map .str)),none,none,none,none]) (σ:=[]) (e:=au 33 (aj (ag 0) (aj (ah 1) ao))) (a:=cell sc 1) (k:=9) (fG (k:=1) hs rfl rfl (by decide)) (by decide) (by decide);rw[e] at m0;have cm:=d8 (K:=KK (d+3) false) (ρ:=[dV (.lst (sc.map .int)),dV (.lst ((bu::T0).map .str)),none,none,none,none]) (σ:=[]) (i:=5) (bM:=aP a' (aC OE) (bi yV (aj (ag 5) ao))) (y:=.rng 0 k 1) (fun i:Nat=>.int i) (fun i=>.str (Jx i)) (List.range k) [] (fun i hi=>by
    have:=List.mem_range.mp hi;have f:=(t5 (i:=(i:Int)) (by omega)).1;rw[Nv i (by omega)] at f;exact aR rfl (HH rfl f) rfl rfl (kM (a:=OE) (b:=[48+i]) (by show 8<=cS;decide))) (by rw[Oo,List.length_range];omega)
   rw[List.nil_append] at cm;refine bp (ak (jP (kO (fG (k:=0) hs rfl rfl (by decide)))) rfl rfl rfl (mI q)) (aa (az (aR rfl (mo (dy (vQ m0 (HY r e)) (eq (lC (HY r e))) cm)) rfl rfl (j7 (by rw[Nz,Nz,List.length_range,NI];omega))) rfl) ?_);rw[<-List.cons_append,List.map_append,List.map_map (l:=List.range k)];rfl
  .refine ⟨T0,⟨hT.nd,hT.ne,hT.nm,hT.st,hT1,by exact NK (hT4) (NH rfl)⟩,aY (ak (jP (kO (fG (k:=0) hs rfl rfl (by decide)))) rfl rfl rfl (jx q)) rfl⟩
 have l2:=hN.l2;obtain ⟨y3,lp⟩:=Et (d:=d) (h:=h) (v:=.lst (T.map .str)) (a0:=dV (.lst (sc.map .int))) (a1:=dV (.lst ((bu::T).map .str))) T [] none (fun x hx=>⟨hN.nm x hx,fun z=>by rw[NG.mp z] at hx;exact hN.ne hx⟩) hN.nd (by rw[Oo];exact NK (Oe (l2) _) (NH rfl));rw[List.nil_append] at lp;have wr:=iz (d:=d) (σ:=[bk (cD h T)]) (n:=0) (S:=cD h T) (ds:=T.map .acc) rfl hh (by rw[List.map_map];rfl) (fun x hx=>by
  obtain ⟨a,ha,rfl⟩:=NQ.mp hx;exact ⟨hN.nm a ha,.inl ⟨a,rfl⟩⟩) (by rw[Nz];exact NK (l2) (NH rfl))
 have ad:=sv (d:=d) (σ:=[bk (cD h T)]) (n:=0) (S:=cD h T) (c:=cell sc 1) rfl (aE CZ hN.nm) (List.cons_ne_nil _ _) (by show (bu::T).length<=_;rw[NI];exact NK (Nat.add_le_add_right (l2) _) (NH rfl));have ac:=sA (d:=d+2) (σ:=[bk (cD h T)]) (n:=0) (S:=cD h T) rfl (by show (bu::T).length<=_;rw[NI];exact uX l2);refine ⟨T,h,hN,hh,oU (o:=.ret (.b 0 (.lst ((bu::T).map .str)))) (σ':=[bk (cD h T)]) rfl rfl rfl (aa (az (bg eN (vO (x:=none) hs (by decide) (by decide))) rfl) (aa x2 (aa (az (wQ (d:=d+1) (b7 (bB (bg eF (vO (x:=none) hs (by decide) (by decide))) rfl rfl rfl (c5 (k:=0) rfl))) hh) rfl) (aa (bF (fh (z:=.lst (T.map .str)) rfl (k7 rfl) rfl rfl rfl rfl ?_) (eq (if_pos (by rw[Nz];exact bj (NK (l2) (NH rfl))))) lp) (aa (az (bg wr rfl) rfl) (aa (aY (bc (a_ (ft (cU (bg ad (bT rfl (bT rfl (b7 (fG (k:=1) hs rfl rfl (by decide)))))))) (a_ (ak (bx rfl rfl rfl ac) rfl rfl rfl (qr rfl (CN (bu::T)) rfl)) rfl))) rfl) (aa (aY (ak (bg wr rfl) rfl rfl rfl (kA rfl)) rfl) (aS (aT (GQ rfl rfl)))))))))) rfl⟩;exact Bq (k:=1) (l:=(bu::T).map .str) (by rw[Nz,NI];exact MN) (by rw[Nz,NI];exact NK (Nat.add_le_add_right (l2) _) (NH rfl))
end
section
variable {x:D}
structure qS (σ:av) (v:PV) (x:D) (l:List D):Prop where
 r:rd σ v=some x
 ok:FV x v=true
 it:items x=some l
 ln:yF x=some (.int l.length)
theorem nD (h:l.length<=1000):qS σ (.d (.lst l)) (.lst l) l:=⟨rfl,rfl,if_pos (bj h),by show aq (l.length<=cS) _=_;exact aM (bj h)⟩
theorem EH (h:l.length<=1000):qS σ (.d (.tup l)) (.tup l) l:=⟨rfl,rfl,rfl,by show aq (l.length<=cS) _=_;exact aM (bj h)⟩
theorem sQ (e:σ[m]? =some (.fld (.list l))) (h:l.length<=1000):qS σ (.p m 0) (.lst l) l:=⟨by show (cq σ m 0).bind _=_;unfold cq;rw[e];rfl,rfl,if_pos (bj h),by show aq (l.length<=cS) _=_;exact aM (bj h)⟩
theorem qS.iv (h:qS σ v x l):uz v σ=some (x,l):=by
 unfold uz;rw[h.r,NA,aM h.ok,NA,h.it];rfl
theorem qS.st (h:qS σ v x l):bN σ x v=true:=by
 cases v with
 |d _=>rfl
 |p _ _=>exact ky h.r
 |b _ _=>cases h.r
theorem qS.app {o:PO} (h:qS σ v x l):qS (σ++[o]) v x l:=by
 refine ⟨?_,h.ok,h.it,h.ln⟩;cases v with
 |d _=>exact h.r
 |p _ _=>exact FK h.r
 |b _ _=>cases h.r
theorem qS.len (h:qS σ v x l) (k:Ev K e ρ σ v):Ev K (bi bh (aj e ao)) ρ σ (.d (.int l.length)):=by
 refine cr (b7 k) ?_;show (rd σ v).bind _=_;rw[h.r,NA];show (yF x).map _=_;rw[h.ln];rfl
theorem Ci {c:Tx}:∀ ls:List aQ,(∀ l∈ls,l.2.1≠c)->cz c ls=0:=fun ls h=>by
 unfold cz;rw[List.filter_eq_nil_iff.mpr fun l hl=>by rw[decide_eq_true_eq];exact h l hl];rfl
def kh (ls:List aQ):Prop:=∀ l∈ls,cz l.2.1 ls=0
theorem kh.all (h:kh ls) (c:Tx):cz c ls=0:=by
 by_cases q:∃ l∈ls,l.2.1=c
 .obtain ⟨l,h1,rfl⟩:=q;exact h l h1
 .exact Ci ls fun l hl e=>q ⟨l,hl,e⟩
theorem yA [DecidableEq α] {a:α} {w:D}:∀ {m:List (α×D)},eW a m=some w->∃ y∈m,y.1=a/\y.2=w:=by
 intro m
 induction m with
 |nil=>exact fun h=>nomatch h
 |cons y m ih=>
  intro h;have h:(if y.1=a then some y.2 else eW a m)=some w:=h;by_cases q:y.1=a
  .rw[if_pos q] at h;exact ⟨y,.head _,q,Om h⟩
  .rw[if_neg q] at h;obtain ⟨z,h1,h2⟩:=ih h;exact ⟨z,.tail _ h1,h2⟩
open Classical in
theorem xB (s:qS σ v x (ls.map aA)) (hl:ls.length<=900):CC (d+1) false 18 [v] σ=some (.ok (.d (.bool (decide (kh ls)))),σ):=by
 obtain ⟨m,o2,T,lp⟩:=BM (K:=KK d false) (σ:=σ) (v:=x) (w:=v) (a0:=some v) (fun o=>(s.app (o:=o)).st) ls [] [] none ⟨fun c=>rfl,NM _⟩ (by rw[Oo];exact LF hl);rw[List.nil_append] at T;have al:m.all (fun x=>decide (cz x.1 ls=0))=decide (kh ls):=by
  by_cases z:kh ls
  .rw[NP z];exact List.all_eq_true.mpr fun y _=>NP (z.all y.1)
  .rw[Op z,List.all_eq_false]
   apply Classical.byContradiction
   intro q
   apply z
   intro l hl;have tv:=T.v l.2.1;cases e:eW l.2.1 m with
   |none=>rw[e] at tv;injection tv with tv;exact tv.symm
   |some w=>
    obtain ⟨y,hy,e1,e2⟩:=yA e
    apply Classical.byContradiction
    intro c;exact q ⟨y,hy,by rw[e1,Op c];decide⟩
 rw[<-al];refine bA rfl rfl (ρ:=[some v,none,none,none]) rfl ?_ (HE σ [.dead]);refine aa rfl ?_;refine aa (bF rfl (s.app).iv lp) ?_;refine Dw rfl (Dx rfl) (aS (aT ?_));have ab:=E2 (σ:=σ++[.dead]) (fun x:List Nat×D=>decide (cz x.1 ls=0)) m;refine cr (b7 (mo (dy rfl (eq (if_pos ⟨by rw[Nz];have:=T.l;exact NK this (NK hl (NH rfl)),yU (rR (c:=[]) (·.1) m)⟩)) (d8 (fun x:List Nat×D=>.str x.1) (fun x=>.bool (decide (cz x.1 ls=0))) m [] (fun x hx=> ?_) (by rw[Oo];have:=T.l;exact Nj hl this))))) ab;obtain ⟨w,hw⟩:=yz hx;have tv:=T.v x.1;rw[hw] at tv;refine gi (bB rfl rfl rfl rfl (z:=.int (cz x.1 ls)) ?_) rfl rfl rfl rfl;show (aq (oH (.str x.1) (m.map fun x=>.str x.1)=true) ()).bind (fun _=>fQ (.str x.1) (m.map fun x=>.str x.1) (m.map (·.2)))=_;rw[aM (rR (·.1) m),NA,wU wZ,hw];exact congrArg some tv
end
section
variable {x:D} {l:aQ}
theorem ID {a b:Nat} (h:b<a):lL.g (.str [a]) (.str [b])=some false:=by
 show some (if a<b then true else if a=b then IH [] [] else false)=_;rw[if_neg (Nat.lt_asymm h),if_neg (Nat.ne_of_gt h)]
def EP (t:Tx):Prop:=40<t.length∨∃ c∈t,c<32
theorem CX {t:Tx} (hl:t.length<=1000) (hc:∀ c∈t,c<=126) (h:EP t):CC (d+1) false 16 [.d (.str t)] σ=some (.ex 5,σ):=by
 by_cases q:40<t.length
 .exact rq hl q
 obtain ⟨c,h1,h2⟩:=h.resolve_left q;have e:=fp (K:=KK d false) (ρ:=[sV t,none]) (σ:=σ) (i:=1) (it:=ag 0) (p:=fun c=>decide (32<=c)) (bM:=vY lL lL (aC [32]) (ag 1) (aC [126])) rfl hl fun c hc'=> ?_
 .rw[show (t.all fun c=>decide (32<=c))=false from List.all_eq_false.mpr ⟨c,h1,by rw[Op (Nat.not_le_of_lt h2)];decide⟩] at e;exact cO rfl rfl rfl (bv (bp (bc (a_ (ak (cr (b7 rfl) (kK (NK hl (by decide)))) rfl rfl rfl (j6 (FX q))) (dB (iB (cU e))))) rfl)) (tk σ)
 .have z:=wX (hc c hc');by_cases y:32<=c
  .rw[NP y];exact kP rfl rfl rfl rfl rfl rfl (wX y) z
  .rw[Op y];exact kP rfl rfl rfl rfl rfl rfl (ID (Nat.not_le.mp y)) z
noncomputable def gM (Ns:List Tx) (l:aQ):Option Nat:=if l.1∈Ns then (if br l.2.1=true then (if eg l.2.2=true then none else some 3) else some 2) else some 11
theorem gK (h:gM S.names l=none):wj S l:=by
 unfold gM at h;by_cases q1:l.1∈S.names
 .rw[if_pos q1] at h;by_cases q2:br l.2.1=true
  .rw[if_pos q2] at h;by_cases q3:eg l.2.2=true
   .exact ⟨q1,q2,q3⟩
   .rw[if_neg q3] at h;cases h
  .rw[if_neg q2] at h;cases h
 .rw[if_neg q1] at h;cases h
theorem Dg (b:Bk σ n S) (hl:l.2.1.length<=1000) (h:gM S.names l=some c):CC (d+2) false 19 [.p n 0,.d (aA l)] σ=some (.ex c,σ):=by
 unfold gM at h;by_cases q1:l.1∈S.names
 .rw[if_pos q1] at h;by_cases q2:br l.2.1=true
  .rw[if_pos q2] at h;by_cases q3:eg l.2.2=true
   .rw[if_pos q3] at h;cases h
   .rw[if_neg q3] at h;cases h;exact cO rfl rfl (ρ:=[qV n,dV (aA l)]) rfl (aa (aV (bx b rfl rfl (fI b q1))) (aa (aV (bq rfl (eU q2))) (bv (bp (zE (cU (bq rfl (A2 (Bool.not_eq_true _ ▸ q3))))) rfl)))) (tk _)
  .rw[if_neg q2] at h;cases h;exact cO rfl rfl (ρ:=[qV n,dV (aA l)]) rfl (aa (aV (bx b rfl rfl (fI b q1))) (bv (eS (bq rfl (tj hl (Bool.not_eq_true _ ▸ q2)))))) (tk _)
 .rw[if_neg q1] at h;cases h;exact cO rfl rfl (ρ:=[qV n,dV (aA l)]) rfl (bv (eS (bx b rfl rfl (wi b q1)))) (tk _)
theorem AJ {w:PV} (b:Bk σ n S) (hs:bN σ x w=true):∀ {ls:List aQ} {m nt o4:PV} {o:Option PV},(∀ l∈ls,l.2.1.length<=1000)->ls.findSome? (gM S.names)=some c->∃ ρ',c6 w x 4 (fun ρ=>(sC (aZ (meth (ag 0) 19 (aj (ag 4) ao))) sN).ex (KK (d+2) false) ρ) (ls.map aA) [qV n,some m,some nt,some o4,o,none,none] σ=some (.ex c ρ',σ):=by
 intro ls
 induction ls with
 |nil=>exact fun _ h=>nomatch h
 |cons l ls ih=>
  intro m nt o4 o hl h;rw[List.findSome?_cons] at h;cases q:gM S.names l with
  |some k=>
   rw[q] at h;cases h;exact ⟨_,I5 (bv (eS (bx b rfl (b7 rfl) (Dg b (hl l (.head _)) q))))⟩
  |none=>
   rw[q] at h;obtain ⟨ρ',e⟩:=ih (m:=m) (nt:=nt) (o4:=o4) (o:=dV (aA l)) (fun x hx=>hl x (.tail _ hx)) h;exact ⟨ρ',bo (aa (aV (bx b rfl (b7 rfl) (wW b (gK q)))) rfl) hs e⟩
open Classical in
noncomputable def gj (Ns:List Tx) (ls:List aQ):Option Nat:=if ls.length<2∨60<ls.length then some 7 else (ls.findSome? (gM Ns)).or (if kh ls then none else some 7)
open Classical in
theorem iW (h:gj Ns ls=none):(2<=ls.length/\ls.length<=60)/\(∀ l∈ls,gM Ns l=none)/\kh ls:=by
 unfold gj at h;by_cases q:ls.length<2∨60<ls.length
 .rw[if_pos q] at h;cases h
 rw[if_neg q] at h;have h1:=(Option.or_eq_none_iff.mp h).1;have h2:=(Option.or_eq_none_iff.mp h).2;refine ⟨by omega,fun l hl=>List.findSome?_eq_none_iff.mp h1 l hl,?_⟩;by_cases z:kh ls
 .exact z
 .rw[if_neg z] at h2;cases h2
theorem v0 (h:S.ends=[]) (hn:b' t):cl S.ends<t:=by
 rw[h];have:=hn.1;show (-1:Int)<t;exact Int.lt_of_add_one_le this
open Classical in
theorem lx (b:Bk σ n S) (sh:Sh S) (s:qS σ v x (ls.map aA)) (hn:b' t) (he:S.ends=[]) (ht:dG note) (h:gj S.names ls=none):
  CC (d+3) false 20 [.p n 0,.d (.int t),.d (.str note),v] σ=some (.ok (.d (.int (S.made.length+1))),σ.set n (bk (iK S t note ls))):=by
 obtain ⟨hl,h1,hz⟩:=iW h;obtain ⟨o',lp⟩:=ol (d:=d) (v:=x) (w:=v) b s.st (fun l hl=>gK (h1 l hl)) (m:=.d (.int t)) (note:=.d (.str note)) (o4:=v) (o:=none);have hlen:(ls.map aA).length=ls.length:=Nz ..;have ll:=s.len (K:=KK (d+2) false) (ρ:=[qV n,iV t,sV note,some v,none,none,none]) (e:=ag 3) rfl;rw[hlen] at ll;have hb:=xB (d:=d+1) s (by omega);rw[NP hz] at hb;refine bA rfl rfl (ρ:=[qV n,iV t,sV note,some v,none,none,none]) rfl ?_ (EE (o':=bk {S with deeds:=S.deeds++[dH t note ls]}));refine aa (aV (bx b rfl rfl (rm b sh hn (v0 he hn)))) ?_;refine aa (aV (bq rfl (kB ht))) ?_;refine aa (aY (bc (a_ (ak ll rfl rfl rfl (hO (OA.mpr (Oa.mpr hl.1)))) (a_ (ak ll rfl rfl rfl (j6 (OA.mpr (Oa.mpr hl.2)))) rfl))) rfl) ?_;refine aa (bF rfl s.iv lp) ?_;refine aa (aY (ft (cU (bq (b7 rfl) hb))) rfl) ?_;have kept:Ev (KK (d+2) false) (bi dN (aj (jm false (gk 6 (ag 3) cR (bE (aj (sub (ag 6) (ah 0)) (aj (sub (ag 6) (ah 1)) (aj (sub (ag 6) (ah 2)) ao)))))) ao)) [qV n,iV t,sV note,some v,o',none,none] σ (.d (.tup (ls.map aA))):=by
  refine cr (b7 (mo (dy rfl s.iv (qF s.st aA aA ls [] (fun l hl=>bW rfl) (by rw[Oo];exact Ih hl))))) ?_;show (aq ((ls.map aA).length<=cS) (D.tup (ls.map aA))).map _=_;rw[aM (by rw[hlen];exact bj (As hl))];rfl
 refine aa (az kept rfl) ?_;refine aa (aV (ud b sh.d rfl (bW rfl))) ?_;exact aS (aT (bx (S:={S with deeds:=S.deeds++[dH t note ls]}) (uK b.lt) rfl rfl (y0 (S:={S with deeds:=S.deeds++[dH t note ls]}) (uK b.lt) sh.m)))
theorem An (b:Bk σ n S) (hn:¬b' t) {a1 a2:PV}:CC (d+3) false 20 [.p n 0,.d (.int t),a1,a2] σ=some (.ex 4,σ):=CM b (Aq hn)
theorem yj (b:Bk σ n S) (sh:Sh S) (hn:b' t) (he:S.ends=[]) (h:CC (d+2) false 16 [.d (.str note)] σ=some (.ex 5,σ)):CC (d+3) false 20 [.p n 0,.d (.int t),.d (.str note),v] σ=some (.ex 5,σ):=
 cO rfl rfl (ρ:=[qV n,iV t,sV note,some v,none,none,none]) rfl (aa (aV (bx b rfl rfl (rm b sh hn (v0 he hn)))) (bv (eS (bq (b7 rfl) h)))) (tk _)
open Classical in
theorem Am (b:Bk σ n S) (sh:Sh S) (s:qS σ v x (ls.map aA)) (hl:ls.length<=900) (h2:∀ l∈ls,l.2.1.length<=1000) (hn:b' t) (he:S.ends=[]) (ht:dG note) (h:gj S.names ls=some c):
  CC (d+3) false 20 [.p n 0,.d (.int t),.d (.str note),v] σ=some (.ex c,σ):=by
 have hlen:(ls.map aA).length=ls.length:=Nz ..;have ll:=s.len (K:=KK (d+2) false) (ρ:=[qV n,iV t,sV note,some v,none,none,none]) (e:=ag 3) rfl;rw[hlen] at ll;have pre:∀ z,_=z->nc.ex (KK (d+2) false) [qV n,iV t,sV note,some v,none,none,none] σ=z:=fun z hz=>aa (aV (bx b rfl rfl (rm b sh hn (v0 he hn)))) (aa (aV (bq rfl (kB ht))) hz);have fin:∀ {ρ'},nc.ex (KK (d+2) false) [qV n,iV t,sV note,some v,none,none,none] σ=some (.ex c ρ',σ)->CC (d+3) false 20 [.p n 0,.d (.int t),.d (.str note),v] σ=some (.ex c,σ):=fun e=>cO rfl rfl rfl e (tk _);unfold gj at h;by_cases q:ls.length<2∨60<ls.length
 .rw[if_pos q] at h;cases h;refine fin (pre _ (bv (bp (bc ?_) rfl)));by_cases z:ls.length<2
  .exact dB (ak ll rfl rfl rfl (n_ (Ob.mpr z)))
  .exact a_ (ak ll rfl rfl rfl (hO (HX z))) (dB (ak ll rfl rfl rfl (rH (HW q z))))
 rw[if_neg q] at h;have pre2:∀ z,_=z->nc.ex (KK (d+2) false) [qV n,iV t,sV note,some v,none,none,none] σ=z:=fun z hz=>pre z (aa (aY (bc (a_ (ak ll rfl rfl rfl (hO (HV q))) (a_ (ak ll rfl rfl rfl (j6 (HU q))) rfl))) rfl) hz);cases f:ls.findSome? (gM S.names) with
 |some k=>
  rw[f] at h;cases h;obtain ⟨ρ',e⟩:=AJ (d:=d) (w:=v) b s.st h2 f (m:=.d (.int t)) (nt:=.d (.str note)) (o4:=v) (o:=none);exact fin (pre2 _ (bv (bF rfl s.iv e)))
 |none=>
  rw[f] at h;have h:(if kh ls then none else some 7)=some c:=h;by_cases z:kh ls
  .rw[if_pos z] at h;cases h
  rw[if_neg z] at h;cases h;obtain ⟨o',lp⟩:=ol (d:=d) (v:=x) (w:=v) b s.st (fun l hl=>gK (List.findSome?_eq_none_iff.mp f l hl)) (m:=.d (.int t)) (note:=.d (.str note)) (o4:=v) (o:=none);have hb:=xB (d:=d+1) s hl;rw[Op z] at hb;exact fin (pre2 _ (aa (bF rfl s.iv lp) (bv (bp (zE (cU (bq (b7 rfl) hb))) rfl))))
end
section
variable {v x:D} {l:aQ} {a c:Tx}
noncomputable def hit (a:Option Tx) (c:Tx) (l:aQ):Bool:=(a.elim true fun a=>decide (l.1=a))&&decide (l.2.1=c)
noncomputable def iF (a:Option Tx) (c:Tx) (ls:List aQ):Int:=((ls.filter (hit a c)).map fun l=>l.2.2).sum
noncomputable def aD (a:Option Tx):D:=a.elim .none .str
theorem mP:iF none c ls=cz c ls:=rfl
theorem jf {a:Option Tx}:iF a c (l::ls)=(if hit a c l=true then l.2.2 else 0)+iF a c ls:=by
 unfold iF;by_cases q:hit a c l=true
 .rw[N7 q,if_pos q];rfl
 .rw[List.filter_cons_of_neg q,if_neg q,Int.zero_add]
theorem zK {a:Option Tx} {w:PV} (hs:bN σ v w=true):∀ (ls:List aQ) (s:Int) (x4:Option PV),∃ y4,c6 w v 4 (fun ρ=>qt.ex (KK d false) ρ) (ls.map aA) [a0,dV (aD a),sV c,iV s,x4] σ=some (.next [a0,dV (aD a),sV c,iV (s+iF a c ls),y4],σ):=by
 intro ls
 induction ls with
 |nil=>exact fun s x4=>⟨x4,by rw[show iF a c []=0 from rfl,Int.add_zero];rfl⟩
 |cons l ls ih=>
  intro s x4;have tt:Ts (KK d false) (kr (cC (fN (aW (aF Hv (ag 1) ff) (aW (aF c9 (sub (ag 4) (ah 0)) (ag 1)) cw))) (cC (aF c9 (sub (ag 4) (ah 1)) (ag 2)) gw))) [a0,dV (aD a),sV c,iV s,dV (aA l)] σ (hit a c l):=by
   have fin:Ts (KK d false) (aF c9 (sub (ag 4) (ah 1)) (ag 2)) [a0,dV (aD a),sV c,iV s,dV (aA l)] σ (decide (l.2.1=c)):=rfl;have two:∀ b,Ts (KK d false) (fN (aW (aF Hv (ag 1) ff) (aW (aF c9 (sub (ag 4) (ah 0)) (ag 1)) cw))) [a0,dV (aD a),sV c,iV s,dV (aA l)] σ b->Ts (KK d false) (kr (cC (fN (aW (aF Hv (ag 1) ff) (aW (aF c9 (sub (ag 4) (ah 0)) (ag 1)) cw))) (cC (aF c9 (sub (ag 4) (ah 1)) (ag 2)) gw))) [a0,dV (aD a),sV c,iV s,dV (aA l)] σ (b&&decide (l.2.1=c)):=fun b hb=>by
    cases b with
    |false=>exact cI (eX hb)
    |true=>
     by_cases q:l.2.1=c
     .rw[NP q];exact cI (ee hb (ee (tT q fin) rfl))
     .rw[Op q];exact cI (ee hb (eX (tF q fin)))
   cases a with
   |none=>exact two true (bc (dB rfl))
   |some a=>
    refine two (decide (l.1=a)) ?_;by_cases q:l.1=a
    .rw[NP q];exact bc (a_ rfl (dB (ak rfl rfl rfl rfl (iq q))))
    .rw[Op q];exact bc (a_ rfl (a_ (ak rfl rfl rfl rfl (fU q)) rfl))
  rw[jf];by_cases q:hit a c l=true
  .rw[q] at tt;obtain ⟨y4,e⟩:=ih (s+l.2.2) (dV (aA l));rw[if_pos q,<-Int.add_assoc];exact ⟨y4,bo (aa (bp tt rfl) rfl) hs e⟩
  .rw[Bool.eq_false_iff.mpr q] at tt;obtain ⟨y4,e⟩:=ih s (dV (aA l));rw[if_neg q,Int.zero_add];exact ⟨y4,bo (aa (aY tt rfl) rfl) hs e⟩
theorem sK {a:Option Tx} {w:PV} (s:qS σ w v (ls.map aA)):CC (d+1) false 111 [w,.d (aD a),.d (.str c)] σ=some (.ok (.d (.int (iF a c ls))),σ):=by
 obtain ⟨y4,lp⟩:=zK (d:=d) (σ:=σ) (v:=v) (w:=w) (a:=a) (c:=c) (a0:=some w) s.st ls 0 none;rw[Int.zero_add] at lp;exact bA rfl rfl rfl (aa rfl (aa (bF rfl s.iv lp) (aS rfl))) (tk _)
theorem q8 {a:Option Tx} (hl:ls.length<=1000):CC (d+1) false 111 [.d (.lst (ls.map aA)),.d (aD a),.d (.str c)] σ=some (.ok (.d (.int (iF a c ls))),σ):=sK (nD (by rw[Nz];exact hl))
noncomputable def HR:List Tx:=[[69,85,114],[69,85],[101,117,114],[69,85,82,79]]
def dY (c:Tx):Prop:=br c=true∨c∈HR
theorem Bg {s:List Nat} (h1:Ev K o ρ σ (.d (.str s))) (h:(s.all fun c=>decide (c<128))=true) (hl:s.length<=1000):Ev K (bm AB o ao) ρ σ (.d (.str (s.map zD))):=by
 refine aB h1 (aB (a:=[]) (σ':=σ) rfl ?_);show Option.map _ (aq ((s.all fun c=>decide (c<128))=true/\s.length<=1000) (PV.d (.str (s.map zD))))=_;rw[aM ⟨h,hl⟩];rfl
structure My (c:Tx):Prop where
 l:c.length<=4
 p:(c.all fun x=>decide (x<128))=true
 g:(decide (c.length=3)&&decide (c.map zD=c))=br c
theorem tW:∀ x∈fE,x<128/\zD x=x:=by decide
theorem dY.ct (h:dY c):My c:=by
 rcases h with h|h
 .have l:=dD h;have g:∀ x∈c,x∈fE:=fun x hx=>Of (List.all_eq_true.mp (an h) x hx);refine ⟨Kg l,List.all_eq_true.mpr fun x hx=>NP (tW x (g x hx)).1,?_⟩;rw[h,NP l,NP];rfl;exact (List.map_congr_left fun x hx=>(tW x (g x hx)).2).trans (List.map_id _)
 .have:∀ c∈HR,(c.length<=4/\(c.all fun x=>decide (x<128))=true)/\(decide (c.length=3)&&decide (c.map zD=c))=br c:=by decide
  exact ⟨(this c h).1.1,(this c h).1.2,(this c h).2⟩
noncomputable def Hq:Tx:=OJ
noncomputable def Nm:Tx:=OO
noncomputable def No:Tx:=OP
noncomputable def L8:Tx:=ON
noncomputable def L9:Tx:=[66,97,100,78,111,116,101]
noncomputable def MP:Tx:=[66,97,100,68,97,121]
noncomputable def u0 (o:Option Nat):Tx:=o.elim [] fun c=>if c=11 then Hq else if c=2 then Nm else if c=3 then No else if c=7 then L8 else if c=5 then L9 else MP
theorem Hl:Ev K (aP mD (ah 10) (ah 30)) ρ σ (.d (.int (10^30))):=aR rfl rfl rfl rfl (EX (a:=10) (b:=30) ⟨by decide,by decide⟩)
theorem ni {a:Int}:eg a=true<->¬(a=0)/\(if a<0 then -a else a)<10^30:=by
 unfold eg;rw[Bool.and_eq_true,Bool.and_eq_true,decide_eq_true_eq,decide_eq_true_eq,decide_eq_true_eq];split<;>omega
theorem Dm (h:dY l.2.1) (hn:Ns.length<=1000):(gM Ns l=none->cx.ex (KK d false) [dV (.lst (Ns.map .str)),a1,dV (aA l)] σ=some (.next [dV (.lst (Ns.map .str)),a1,dV (aA l)],σ))/\∀ k,gM Ns l=some k->cx.ex (KK d false) [dV (.lst (Ns.map .str)),a1,dV (aA l)] σ=some (.ret (.d (.str (u0 (some k)))),σ):=by
 have ct:=h.ct;have ll:Ev (KK d false) (bi bh (aj (sub (ag 2) (ah 1)) ao)) [dV (.lst (Ns.map .str)),a1,dV (aA l)] σ (.d (.int l.2.1.length)):=cr (b7 rfl) (kK (bj (NK ct.l (by decide))));have up:=Bg (K:=KK d false) (ρ:=[dV (.lst (Ns.map .str)),a1,dV (aA l)]) (σ:=σ) (o:=sub (ag 2) (ah 1)) (s:=l.2.1) rfl ct.p (NK ct.l (by decide));unfold gM;by_cases q1:l.1∈Ns
 case neg=>
  rw[if_neg q1];exact ⟨nofun,fun k e=>by cases e;exact aS (bp (ak rfl rfl rfl rfl (th q1)) rfl)⟩
 rw[if_pos q1];have p1:∀ z,_=z->cx.ex (KK d false) [dV (.lst (Ns.map .str)),a1,dV (aA l)] σ=z:=fun z hz=>aa (aY (ak rfl rfl rfl rfl (wP q1)) rfl) hz;by_cases q2:br l.2.1=true
 case neg=>
  rw[if_neg q2];refine ⟨nofun,fun k e=> ?_⟩;cases e;refine p1 _ (aS (bp (bc ?_) rfl));have g:=ct.g;rw[Bool.eq_false_iff.mpr q2] at g;by_cases z:l.2.1.length=3
  .rw[NP z,Bool.true_and] at g;exact a_ (ak ll rfl rfl rfl (iw (by rw[z];rfl))) (dB (ak up rfl rfl rfl (Av (of_decide_eq_false g))))
  .exact dB (ak ll rfl rfl rfl (yr (Nat.ToInt.of_diseq rfl rfl z)))
 rw[if_pos q2];have g:=ct.g;rw[q2] at g;have p2:∀ z,_=z->cx.ex (KK d false) [dV (.lst (Ns.map .str)),a1,dV (aA l)] σ=z:=fun z hz=>p1 z (aa (aY (bc (a_ (ak ll rfl rfl rfl (iw (by rw[dD q2];rfl))) (a_ (ak up rfl rfl rfl (kA (Of (an g)))) rfl))) rfl) hz);have ab:Ev (KK d false) (bi I9 (aj (sub (ag 2) (ah 2)) ao)) [dV (.lst (Ns.map .str)),a1,dV (aA l)] σ (.d (.int (if l.2.2<0 then -l.2.2 else l.2.2))):=rfl;by_cases q3:eg l.2.2=true
 .rw[if_pos q3];obtain ⟨h1,h2⟩:=ni.mp q3;exact ⟨fun _=>p2 _ (aa (aY (bc (a_ (ak rfl rfl rfl rfl (jx h1)) (a_ (ak ab Hl rfl rfl (Mf (Int.not_le.mpr h2))) rfl))) rfl) rfl),nofun⟩
 .rw[if_neg q3];refine ⟨nofun,fun k e=> ?_⟩;cases e;refine p2 _ (aS (bp (bc ?_) rfl));by_cases z:l.2.2=0
  .exact dB (ak rfl rfl rfl rfl (mI z))
  .exact a_ (ak rfl rfl rfl rfl (jx z)) (dB (ak ab Hl rfl rfl (Me (OA.mp fun y=>q3 (ni.mpr ⟨z,y⟩)))))
theorem Do (hn:Ns.length<=1000):∀ (ls:List aQ) (x2:Option PV),(∀ l∈ls,dY l.2.1)->(ls.findSome? (gM Ns)=none->∃ y2,c6 (.d v) v 2 (fun ρ=>cx.ex (KK d false) ρ) (ls.map aA) [dV (.lst (Ns.map .str)),a1,x2] σ=some (.next [dV (.lst (Ns.map .str)),a1,y2],σ))/\∀ k,ls.findSome? (gM Ns)=some k->c6 (.d v) v 2 (fun ρ=>cx.ex (KK d false) ρ) (ls.map aA) [dV (.lst (Ns.map .str)),a1,x2] σ=some (.ret (.d (.str (u0 (some k)))),σ):=by
 intro ls
 induction ls with
 |nil=>exact fun x2 _=>⟨fun _=>⟨x2,rfl⟩,nofun⟩
 |cons l ls ih=>
  intro x2 h;have st:=Dm (d:=d) (σ:=σ) (a1:=a1) (h l (.head _)) hn;rw[List.findSome?_cons];cases q:gM Ns l with
  |some k=>exact ⟨nofun,fun k' e=>by cases e;exact xh (st.2 k q)⟩
  |none=>
   obtain ⟨i1,i2⟩:=ih (dV (aA l)) fun x hx=>h x (.tail _ hx);exact ⟨fun e=>by
    obtain ⟨y2,e2⟩:=i1 e;exact ⟨y2,bo (st.1 q) rfl e2⟩,fun k e=>bo (st.1 q) rfl (i2 k e)⟩
theorem Dl (hl:ls.length<=900):∀ (ms:List aQ) (x2:Option PV),((∀ l∈ms,cz l.2.1 ls=0)->∃ y2,c6 (.d v) v 2 (fun ρ=>dJ.ex (KK (d+1) false) ρ) (ms.map aA) [a0,dV (.lst (ls.map aA)),x2] σ=some (.next [a0,dV (.lst (ls.map aA)),y2],σ))/\((¬∀ l∈ms,cz l.2.1 ls=0)->c6 (.d v) v 2 (fun ρ=>dJ.ex (KK (d+1) false) ρ) (ms.map aA) [a0,dV (.lst (ls.map aA)),x2] σ=some (.ret (.d (.str L8)),σ)):=by
 intro ms
 induction ms with
 |nil=>exact fun x2=>⟨fun _=>⟨x2,rfl⟩,fun h=>absurd aX h⟩
 |cons l ms ih=>
  intro x2;have sr:=q8 (d:=d) (σ:=σ) (a:=none) (c:=l.2.1) (ls:=ls) (H2 hl);rw[mP] at sr;obtain ⟨i1,i2⟩:=ih (dV (aA l));by_cases q:cz l.2.1 ls=0
  .have s1:dJ.ex (KK (d+1) false) [a0,dV (.lst (ls.map aA)),dV (aA l)] σ=some (.next [a0,dV (.lst (ls.map aA)),dV (aA l)],σ):=aa (aY (ak (bg sr rfl) rfl rfl rfl (iw q)) rfl) rfl;refine ⟨fun h=> ?_,fun h=> ?_⟩
   .obtain ⟨y2,e⟩:=i1 fun x hx=>h x (.tail _ hx);exact ⟨y2,bo s1 rfl e⟩
   .exact bo s1 rfl (i2 fun z=>h (aE q z))
  .have s1:dJ.ex (KK (d+1) false) [a0,dV (.lst (ls.map aA)),dV (aA l)] σ=some (.ret (.d (.str L8)),σ):=aS (bp (ak (bg sr rfl) rfl rfl rfl (yr q)) rfl);exact ⟨fun h=>absurd (h l (.head _)) q,fun _=>xh s1⟩
open Classical in
theorem on (h:∀ l∈ls,dY l.2.1) (hl:ls.length<=900) (hn:Ns.length<=1000):CC (d+2) false 112 [.d (.lst (Ns.map .str)),.d (.lst (ls.map aA))] σ=some (.ok (.d (.str (u0 (gj Ns ls)))),σ):=by
 have hlen:(ls.map aA).length=ls.length:=Nz ..;have ll:=(nD (σ:=σ) (l:=ls.map aA) (by rw[hlen];exact H2 hl)).len (K:=KK (d+1) false) (ρ:=[dV (.lst (Ns.map .str)),dV (.lst (ls.map aA)),none]) (e:=ag 1) rfl;rw[hlen] at ll;have it:items (.lst (ls.map aA))=some (ls.map aA):=if_pos (by rw[hlen];exact bj (H2 hl));have fin:∀ {z:Tx},j1.ex (KK (d+1) false) [dV (.lst (Ns.map .str)),dV (.lst (ls.map aA)),none] σ=some (.ret (.d (.str z)),σ)->CC (d+2) false 112 [.d (.lst (Ns.map .str)),.d (.lst (ls.map aA))] σ=some (.ok (.d (.str z)),σ):=fun e=>bA rfl rfl rfl e (tk _);obtain ⟨i1,i2⟩:=Do (d:=d+1) (σ:=σ) (v:=.lst (ls.map aA)) (a1:=dV (.lst (ls.map aA))) hn ls none h;unfold gj;by_cases q:ls.length<2∨60<ls.length
 .rw[if_pos q];refine fin (aS (bp (bc ?_) rfl));by_cases z:ls.length<2
  .exact dB (ak ll rfl rfl rfl (n_ (Ob.mpr z)))
  .exact a_ (ak ll rfl rfl rfl (hO (HX z))) (dB (ak ll rfl rfl rfl (rH (HW q z))))
 rw[if_neg q];have pre:∀ z,_=z->j1.ex (KK (d+1) false) [dV (.lst (Ns.map .str)),dV (.lst (ls.map aA)),none] σ=z:=fun z hz=>aa (aY (bc (a_ (ak ll rfl rfl rfl (hO (HV q))) (a_ (ak ll rfl rfl rfl (j6 (HU q))) rfl))) rfl) hz;cases f:ls.findSome? (gM Ns) with
 |some k=>exact fin (pre _ (aS (bF rfl (eq it) (i2 k f))))
 |none=>
  obtain ⟨y2,e⟩:=i1 f;obtain ⟨k1,k2⟩:=Dl (d:=d) (σ:=σ) (v:=.lst (ls.map aA)) (a0:=dV (.lst (Ns.map .str))) hl ls y2;show CC (d+2) false 112 _ σ=some (.ok (.d (.str (u0 (if kh ls then none else some 7)))),σ);by_cases z:kh ls
  .rw[if_pos z];obtain ⟨y3,e3⟩:=k1 z;exact fin (pre _ (aa (bF rfl (eq it) e) (aa (bF rfl (eq it) e3) (aS rfl))))
  .rw[if_neg z];exact fin (pre _ (aa (bF rfl (eq it) e) (aS (bF rfl (eq it) (k2 z)))))
end
section
variable {x:D} {l:aQ} {a c:Tx}
theorem zF {k:D} (b:Bk σ n S) (h:CC (d+3) false 20 [.p n 0,.d (.int t),.d (.str note),v] σ=some (.ok (.d k),σ')) (hl:σ'.take σ.length=σ'):CC (d+4) false 110 [.p n 0,.d (.int t),.d (.str note),v] σ=some (.ok (.d (.str [])),σ'):=
 bA rfl rfl rfl (aa (JU (aa (aV (bx b rfl rfl h)) rfl)) (aS rfl)) hl
noncomputable def EI:List Nat:=[4,5,11,2,3,7]
theorem sI (hk:k∈EI) (b:Bk σ n S) (h:CC (d+3) false 20 [.p n 0,.d (.int t),.d (.str note),v] σ=some (.ex k,σ)):CC (d+4) false 110 [.p n 0,.d (.int t),.d (.str note),v] σ=some (.ok (.d (.str (u0 (some k)))),σ):=by
 have key:∀ k∈EI,k<nX/\∀ ρ σ,(hC 4 (sC (aO (aC [66,97,100,68,97,121])) sN) (hC 5 (sC (aO (aC [66,97,100,78,111,116,101])) sN) (hC 11 (sC (aO (aC OJ)) sN) (hC 2 (sC (aO (aC OO)) sN) (hC 3 (sC (aO (aC OP)) sN) (hC 7 (sC (aO (aC ON)) sN) hN)))))).ex (KK (d+3) false) k ρ σ=some (.ret (.d (.str (u0 (some k)))),σ):=
  aE ⟨by decide,fun _ _=>rfl⟩ (aE ⟨by decide,fun _ _=>rfl⟩ (aE ⟨by decide,fun _ _=>rfl⟩ (aE ⟨by decide,fun _ _=>rfl⟩ (aE ⟨by decide,fun _ _=>rfl⟩ (aE ⟨by decide,fun _ _=>rfl⟩ aX)))))
 exact bA rfl rfl rfl (aS (Cb (bv (eS (bx b rfl rfl h))) (key k hk).1 ((key k hk).2 _ _))) (tk _)
theorem BK (hk:k∈EI) (b:Bk σ n S) (h:CC (d+3) false 20 [.p n 0,.d (.int t),.d (.str note),v] σ=some (.ex k,σ)):CC (d+4) false 115 [.p n 0,.d (.int t),.d (.str note),v] σ=some (.ok (.d (.bool true)),σ):=by
 have key:∀ k∈EI,1<=k/\k<nX:=by decide
 exact bA rfl rfl rfl (aS (Cb (bv (eS (bx b rfl rfl h))) (key k hk).2 (GA (aS (aT (bq (b7 rfl) (tI (key k hk).1 (key k hk).2))))))) (tk _)
theorem eC {x:Int}:CC (d+1) hd 34 [.d (.int x)] σ=some (.ok (.d (.bool true)),σ):=bA rfl rfl rfl (aS (aT rfl)) (tk _)
theorem rj {e:Hi}:pl 8 (r6 e)=true:=by
 have:(e.lines.map aA).all (pl 6)=true:=List.all_eq_true.mpr fun x hx=>by
  obtain ⟨l,_,q⟩:=NQ.mp hx;rw[<-q];rfl
 show (true&&(true&&(true&&((e.lines.map aA).all (pl 6)&&(true&&true)))))=true;rw[this];rfl
theorem xQ {v:D} {a2 a3:Option PV}:∀ (ls:List aQ) (x4:Option PV),∃ y4,c6 (.d v) v 4 (fun ρ=>lY.ex (KK (d+1) false) ρ) (ls.map aA) [a0,a1,a2,a3,x4] σ=some (.next [a0,a1,a2,a3,y4],σ):=by
 intro ls
 induction ls with
 |nil=>exact fun x4=>⟨x4,rfl⟩
 |cons l ls ih=>
  intro x4;obtain ⟨y4,e⟩:=ih (dV (aA l));exact ⟨y4,bo (aa (aY (bc (a_ rfl (a_ rfl (a_ (ft (cU (bg (eC (x:=l.2.2)) rfl))) rfl)))) rfl) rfl) rfl e⟩
theorem wx (hl:ls.length<=1000) (h:Ev K e ρ σ (.d (.lst (ls.map aA)))):Ev K (bi dN (aj e ao)) ρ σ (.d (.tup (ls.map aA))):=by
 refine cr (b7 h) ?_;show (aq ((ls.map aA).length<=cS) (D.tup (ls.map aA))).map _=_;rw[aM (by rw[Nz];exact bj hl)];rfl
theorem zH (hl:ls.length<=1000):CC (d+2) false 116 [.d (r6 ⟨1,t,note,ls,0⟩),.d (.int t),.d (.str note),.d (.lst (ls.map aA))] σ=some (.ok (.d (.bool true)),σ):=by
 obtain ⟨y4,lp⟩:=xQ (d:=d) (σ:=σ) (v:=.tup (ls.map aA)) (a0:=dV (r6 ⟨1,t,note,ls,0⟩)) (a1:=iV t) (a2:=sV note) (a3:=dV (.lst (ls.map aA))) ls none;have ce:Ev (KK (d+1) false) (qd c9 (ag 0) (bE (aj (ah 1) (aj (ag 1) (aj (ag 2) (aj (bi dN (aj (ag 3) ao)) (aj (ah 0) ao))))))) [dV (r6 ⟨1,t,note,ls,0⟩),iV t,sV note,dV (.lst (ls.map aA)),y4] σ (.d (.bool true)):=
  gi rfl (bW (ds:=[.int 1,.int t,.str note,.tup (ls.map aA),.int 0]) (bT rfl (bT rfl (bT rfl (bT (wx hl rfl) (b7 rfl)))))) rfl rfl (xq rfl (rj (e:=⟨1,t,note,ls,0⟩)) rfl)
 exact bA rfl rfl rfl (aa (aY (bc (a_ rfl (a_ rfl (a_ rfl rfl)))) rfl) (aa (aY (bc (a_ (ft (cU (bg (eC (x:=1)) rfl))) (a_ (ft (cU (bg (eC (x:=t)) rfl))) (a_ rfl rfl)))) rfl) (aa (bF rfl (eq rfl) lp) (aS (aT (kS (j8 ce (kR (bg (eC (x:=0)) rfl))))))))) (tk _)
end
section
variable {v x:D} {l:aQ} {a c:Tx}
theorem mw (b:Bk σ n S) (sh:Sh S) (ha:a∈S.names) (hc:br c=true):CC (d+2) false 27 [.p n 0,.d (.str a),.d (.str c)] σ=some (.ok (.d (.int (total S a c none))),σ):=
 bA rfl rfl (ρ:=[qV n,sV a,sV c]) rfl (aa (aV (bx b rfl rfl (fI b ha))) (aa (aV (bq rfl (eU hc))) (aS (aT (bx b rfl rfl (qP (q:=none) b sh)))))) (tk _)
theorem iY (b:Bk σ n S) (sh:Sh S) (ha:a∈S.names) (hc:br c=true) (ht:b' t):CC (d+2) false 61 [.p n 0,.d (.str a),.d (.str c),.d (.int t)] σ=some (.ok (.d (.int (total S a c (some t)))),σ):=
 bA rfl rfl (ρ:=[qV n,sV a,sV c,iV t]) rfl (aa (aV (bx b rfl rfl (fI b ha))) (aa (aV (bq rfl (eU hc))) (aa (aV (bq rfl (lW ht))) (aS (aT (bx b rfl rfl (qP (q:=some t) b sh))))))) (tk _)
structure Hy (S:St) (ls:List aQ) (t:Int):Prop where
 n:∀ a c,total S a c none=iF (some a) c ls
 o:∀ a c,total S a c (some t)=iF (some a) c ls
 z:∀ a c,0<t->total S a c (some (t - 1))=0
noncomputable abbrev lR (n:Nat) (Ns F:List Tx) (ls:List aQ) (t:Int) (x5 x6 x7 x8:Option PV):bb:=[qV n,dV (.lst (Ns.map .str)),dV (.lst (F.map .str)),dV (.lst (ls.map aA)),iV t,x5,x6,x7,x8]
theorem Eb (b:Bk σ n S) (sh:Sh S) (B:Hy S ls t) (hl:ls.length<=1000) (ht:b' t) (ha:a∈S.names) (hc:br c=true) {x8:Option PV}:eZ.ex (KK (d+2) false) (lR n Ns F ls t (sV a) (sV c) x7 x8) σ=some (.next (lR n Ns F ls t (sV a) (sV c) (iV (iF (some a) c ls)) (iV (iF (some a) c ls))),σ):=by
 have b1:=mw (d:=d) b sh ha hc;have b2:=iY (d:=d) b sh ha hc ht;rw[B.n] at b1;rw[B.o] at b2;refine aa (az (bg (q8 (a:=some a) hl) rfl) rfl) (aa (az (bx b rfl rfl b1) rfl) (aa (aY (bc (a_ (ft (cU (bg eC rfl))) (a_ (ak rfl rfl rfl rfl (iw rfl)) (a_ (ak (bx b rfl rfl b2) rfl rfl rfl (iw rfl)) rfl)))) rfl) (aa (aY (cI ?_) rfl) rfl)));by_cases q:0<t
 .have b3:=iY (d:=d) (t:=t - 1) b sh ha hc ⟨by omega,by have:=ht.2;omega⟩;rw[B.z a c q] at b3;exact ee (ak rfl rfl rfl rfl (rH q)) (eX (ak (bx b rfl rfl b3) rfl rfl rfl (iw rfl)))
 .exact eX (ak rfl rfl rfl rfl (j6 q))
theorem Jm (b:Bk σ n S) (sh:Sh S) (B:Hy S ls t) (hl:ls.length<=1000) (ht:b' t) (ha:a∈S.names) {w:D}:∀ (G:List Tx) (x6 x7 x8:Option PV),(∀ c∈G,br c=true)->∃ y6 y7 y8,c6 (.d w) w 6 (fun ρ=>eZ.ex (KK (d+2) false) ρ) (G.map .str) (lR n Ns F ls t (sV a) x6 x7 x8) σ=some (.next (lR n Ns F ls t (sV a) y6 y7 y8),σ):=by
 intro G
 induction G with
 |nil=>exact fun x6 x7 x8 _=>⟨x6,x7,x8,rfl⟩
 |cons c G ih=>
  intro x6 x7 x8 h;obtain ⟨y6,y7,y8,e⟩:=ih (sV c) (iV (iF (some a) c ls)) (iV (iF (some a) c ls)) fun x hx=>h x (.tail _ hx);exact ⟨y6,y7,y8,bo (Eb b sh B hl ht ha (h c (.head _))) rfl e⟩
theorem G0 (b:Bk σ n S) (sh:Sh S) (B:Hy S ls t) (hl:ls.length<=1000) (ht:b' t) (hF:∀ c∈F,br c=true) (l8:F.length<=1000) {w:D}:∀ (G:List Tx) (x5 x6 x7 x8:Option PV),(∀ a∈G,a∈S.names)->∃ y5 y6 y7 y8,c6 (.d w) w 5 (fun ρ=>ik.ex (KK (d+2) false) ρ) (G.map .str) (lR n Ns F ls t x5 x6 x7 x8) σ=some (.next (lR n Ns F ls t y5 y6 y7 y8),σ):=by
 intro G
 induction G with
 |nil=>exact fun x5 x6 x7 x8 _=>⟨x5,x6,x7,x8,rfl⟩
 |cons a G ih=>
  intro x5 x6 x7 x8 h;obtain ⟨z6,z7,z8,e1⟩:=Jm (d:=d) (Ns:=Ns) (F:=F) (w:=.lst (F.map .str)) b sh B hl ht (h a (.head _)) F x6 x7 x8 hF;obtain ⟨y5,y6,y7,y8,e⟩:=ih (sV a) z6 z7 z8 fun x hx=>h x (.tail _ hx);exact ⟨y5,y6,y7,y8,bo (aa (bF rfl (eq (if_pos (by rw[Nz];exact bj l8))) e1) rfl) rfl e⟩
theorem kZ (b:Bk σ n S) (sh:Sh S) (B:Hy S ls t) (hl:ls.length<=1000) (ht:b' t) (hF:∀ c∈F,br c=true) (l8:F.length<=1000) (hN:∀ a∈Ns,a∈S.names) (l9:Ns.length<=1000):CC (d+3) false 114 [.p n 0,.d (.lst (Ns.map .str)),.d (.lst (F.map .str)),.d (.lst (ls.map aA)),.d (.int t)] σ=some (.ok (.d (.bool true)),σ):=by
 obtain ⟨y5,y6,y7,y8,lp⟩:=G0 (d:=d) (Ns:=Ns) (F:=F) (w:=.lst (Ns.map .str)) b sh B hl ht hF l8 Ns none none none none hN;exact bA rfl rfl rfl (aa (bF rfl (eq (if_pos (by rw[Nz];exact bj l9))) lp) (aS rfl)) (tk _)
theorem nk:∀ (ls:List aQ) (t:Int),ls.foldl (sy a c) t=t+iF (some a) c ls:=by
 intro ls
 induction ls with
 |nil=>exact fun t=>(Int.add_zero t).symm
 |cons l ls ih=>
  intro t;rw[List.foldl_cons,ih,jf];unfold sy;by_cases q:l.1=a/\l.2.1=c
  .rw[if_pos q,if_pos (show hit (some a) c l=true by show (decide (l.1=a)&&decide (l.2.1=c))=true;rw[NP q.1,NP q.2];rfl),Int.add_assoc]
  .rw[if_neg q,if_neg (show¬hit (some a) c l=true from fun z=>q ⟨Of (ai z),Of (an z)⟩),Int.zero_add]
theorem Eg (h:S.made=[]):Hy S [] t:=by
 have z:∀ a c q,total S a c q=0:=fun a c q=>by unfold total;rw[h];rfl
 exact ⟨fun a c=>z a c _,fun a c=>z a c _,fun a c _=>z a c _⟩
theorem Ef (h:S.made=[⟨1,t,note,ls,0⟩]):Hy S ls t:=by
 have z:∀ a c q,total S a c q=if qC q t=true then iF (some a) c ls else 0:=fun a c q=>by
  unfold total;rw[h];show (if qC q t=true then ls.foldl (sy a c) 0 else 0)=_;rw[nk,Int.zero_add]
 refine ⟨fun a c=>(z a c _).trans (if_pos rfl),fun a c=>(z a c _).trans (if_pos (NP (Int.le_refl t))),fun a c _=>(z a c _).trans (if_neg fun q=> ?_)⟩;have:=Of q;omega
end
section
variable {x:D} {l:aQ}
theorem xo {t:CE} {l:List D} {a k:Int} {z:D} (hz:l[(a.fmod k).toNat]? =some z) (h1:Ev K t ρ σ (.d (.lst l))) (h2:Ev K e ρ σ (.d (.int a))) (h3:Ev K ke ρ σ (.d (.int k))) (k1:0<k) (k2:k<=l.length) (k3:l.length<=1000):Ev K (sub t (aP bY e ke)) ρ σ (.d z):=by
 obtain ⟨z',h,e⟩:=Bj h1 h2 h3 k1 k2 k3;rw[hz] at h;cases h;exact e
theorem Df (c:Int) (h1:1<=Ns.length) (h2:Ns.length<=1000) (h3:3<=F.length) (h4:F.length<=1000) (hF:∀ c∈F,br c=true):∃ l:aQ,dY l.2.1/\∀ σ,CC (d+1) false 121 [.d (.lst (Ns.map .str)),.d (.lst (F.map .str)),.d (.int c)] σ=some (.ok (.d (aA l)),σ):=by
 obtain ⟨a,ea⟩:∃ a:Int,∀ σ z,(sC nY sN).ex (KK d false) [dV (.lst (Ns.map .str)),dV (.lst (F.map .str)),iV c,iV a] σ=z->wT.ex (KK d false) [dV (.lst (Ns.map .str)),dV (.lst (F.map .str)),iV c,none] σ=z:=by
  have p28:∀ ρ σ,Ev (KK d false) (aP mD (ah 10) (ah 28)) ρ σ (.d (.int (10^28))):=fun ρ σ=>aR rfl rfl rfl rfl (EX (a:=10) (b:=28) ⟨by decide,by decide⟩);have s1:∀ σ,n7.ex (KK d false) [dV (.lst (Ns.map .str)),dV (.lst (F.map .str)),iV c,none] σ=some (.next [dV (.lst (Ns.map .str)),dV (.lst (F.map .str)),iV c,iV (1+(c*48271).fmod (10^28))],σ):=fun σ=>
   az (aR rfl (aR (aR rfl rfl rfl rfl (xg (mY (by decide)))) (p28 _ _) rfl rfl (l7 (by decide) (by decide))) rfl rfl rfl) rfl
  obtain ⟨a2,s2⟩:∃ a2:Int,∀ σ,nZ.ex (KK d false) [dV (.lst (Ns.map .str)),dV (.lst (F.map .str)),iV c,iV (1+(c*48271).fmod (10^28))] σ=some (.next [dV (.lst (Ns.map .str)),dV (.lst (F.map .str)),iV c,iV a2],σ):=by
   by_cases q:(c.fdiv 3).fmod 2=1
   .exact ⟨1+(c*31).fmod 50,fun σ=>bp (tT q rfl) (aa (az (aR rfl (aR (aR rfl rfl rfl rfl (xg (mY (by decide)))) rfl rfl rfl (l7 (by decide) (by decide))) rfl rfl rfl) rfl) rfl)⟩
   .exact ⟨_,fun σ=>aY (tF q rfl) rfl⟩
  by_cases q:(c.fdiv 2).fmod 2=1
  .exact ⟨0 - a2,fun σ z h=>aa (s1 σ) (aa (s2 σ) (aa (bp (tT q rfl) rfl) h))⟩
  .exact ⟨a2,fun σ z h=>aa (s1 σ) (aa (s2 σ) (aa (aY (tF q rfl) rfl) h))⟩
 have r1:=bL (a:=c) (b:=Ns.length) (H_ h1);have r2:=bL (a:=c.fdiv 7) (b:=3) (by decide);have i1:(c.fmod Ns.length).toNat<Ns.length:=by exact (Int.toNat_lt r1.1).mpr r1.2
 have i2:((c.fdiv 7).fmod 3).toNat<F.length:=by omega
 refine ⟨(Ns[(c.fmod Ns.length).toNat],F[((c.fdiv 7).fmod 3).toNat],a),.inl (hF _ (List.getElem_mem i2)),fun σ=> ?_⟩;have g1:=xo (K:=KK d false) (ρ:=[dV (.lst (Ns.map .str)),dV (.lst (F.map .str)),iV c,iV a]) (σ:=σ) (t:=ag 0) (e:=ag 2) (ke:=bi bh (aj (ag 0) ao)) (l:=Ns.map .str) (a:=c) (k:=Ns.length) (z:=.str Ns[(c.fmod Ns.length).toNat]) (by rw[NR,NE i1];rfl) rfl rfl (wY rfl h2) (H_ h1) (by rw[Nz];exact Nk) (by rw[Nz];exact h2);have g2:=xo (K:=KK d false) (ρ:=[dV (.lst (Ns.map .str)),dV (.lst (F.map .str)),iV c,iV a]) (σ:=σ) (t:=ag 1) (e:=aP dI (ag 2) (ah 7)) (ke:=ah 3) (l:=F.map .str) (a:=c.fdiv 7) (k:=3) (z:=.str F[((c.fdiv 7).fmod 3).toNat]) (by rw[NR,NE i2];rfl) rfl (kO rfl) rfl (by decide) (by rw[Nz];exact Ob.mpr h3) (by rw[Nz];exact h4);exact bA rfl rfl rfl (ea σ _ (aS (aT (bW (bT g1 (bT g2 (b7 rfl))))))) (tk _)
theorem rt (s:qS σ v (.lst (ls.map aA)) (ls.map aA)) (h:Ev K e ρ σ v) (hl:ls.length<=1000):(bi oJ (aj e ao)).ev K ρ σ=some (.ok (.p σ.length 0),σ++[.fld (.list (ls.map aA))]):=by
 refine cr (b7 h) ?_;show (((rd σ v).bind lD).bind fun l=>(aq (l.length<=cS) ()).bind fun _=>kN (.fld (.list l)) σ)=_;rw[s.r];show ((aq ((ls.map aA).length<=cS) ()).bind fun _=>kN (.fld (.list (ls.map aA))) σ)=_;rw[aM (by rw[Nz];exact bj hl)];rfl
noncomputable abbrev eV (Ns F:List Tx) (v:PV) (c:Int) (k:Nat) (x5 x6:Option PV):bb:=[dV (.lst (Ns.map .str)),dV (.lst (F.map .str)),some v,iV c,qV k,x5,x6]
theorem DV {w:D} {c:Int} {X:List cB} (s:qS σ v x (ls.map aA)) (h1:1<=Ns.length) (h2:Ns.length<=1000):∀ (G:List Tx) (Ms:List aQ) (x5 x6:Option PV),(∀ c∈G,br c=true)->Ms.length+G.length<=900->∃ (Ms':List aQ) (y5 y6:Option PV),(∀ l∈Ms',l∈Ms∨br l.2.1=true)/\Ms'.length<=Ms.length+G.length/\c6 (.d w) w 5 (fun ρ=>kJ.ex (KK (d+1) false) ρ) (G.map .str) (eV Ns F v c σ.length x5 x6) (σ++[.fld (.list (Ms.map aA))])=some (.next (eV Ns F v c σ.length y5 y6),σ++[.fld (.list (Ms'.map aA))]):=by
 intro G
 induction G with
 |nil=>exact fun Ms x5 x6 _ _=>⟨Ms,x5,x6,fun l hl=>.inl hl,NM _,rfl⟩
 |cons g G ih=>
  intro Ms x5 x6 hG hl;rw[NI] at hl;have sr:=sK (d:=d) (a:=none) (c:=g) (s.app (o:=.fld (.list (Ms.map aA))));have s1:(aG 6 (aP d4 (ah 0) (au 111 (aj (ag 2) (aj ff (aj (ag 5) ao)))))).ex (KK (d+1) false) (eV Ns F v c σ.length (sV g) x6) (σ++[.fld (.list (Ms.map aA))])=some (.next (eV Ns F v c σ.length (sV g) (iV (0 - iF none g ls))),σ++[.fld (.list (Ms.map aA))]):=az (aR rfl (bg sr rfl) rfl rfl rfl) rfl;by_cases q:0 - iF none g ls=0
  .obtain ⟨Ms',y5,y6,i1,i2,e⟩:=ih Ms (sV g) (iV (0 - iF none g ls)) (fun x hx=>hG x (.tail _ hx)) (Oc hl);exact ⟨Ms',y5,y6,i1,by rw[NI];omega,bo (aa s1 (aa (aY (ak rfl rfl rfl rfl (iw q)) rfl) rfl)) rfl e⟩
  .obtain ⟨z,hz,ez⟩:=nL (K:=KK (d+1) false) (ρ:=eV Ns F v c σ.length (sV g) (iV (0 - iF none g ls))) (σ:=σ++[.fld (.list (Ms.map aA))]) (t:=ag 0) (e:=ag 3) (ke:=bi bh (aj (ag 0) ao)) (T:=Ns) rfl rfl (wY rfl h2) (H_ h1) (Int.le_refl _) h2;have ap:=fW (K:=KK (d+1) false) (ρ:=eV Ns F v c σ.length (sV g) (iV (0 - iF none g ls))) (σ:=σ++[.fld (.list (Ms.map aA))]) (o:=ag 4) (a:=bE (aj (sub (ag 0) (aP bY (ag 3) (bi bh (aj (ag 0) ao)))) (aj (ag 5) (aj (ag 6) ao)))) (y:=aA (z,g,0 - iF none g ls)) (l:=Ms.map aA) rfl (bW (bT ez (bT rfl (b7 rfl)))) fk (by rw[Nz];exact j2 (NK (NK (Os _ _) hl) (NH rfl)));rw[ji,show Ms.map aA++[aA (z,g,0 - iF none g ls)]=(Ms++[(z,g,0 - iF none g ls)]).map aA by rw[List.map_append];rfl] at ap;obtain ⟨Ms',y5,y6,i1,i2,e⟩:=ih (Ms++[(z,g,0 - iF none g ls)]) (sV g) (iV (0 - iF none g ls)) (fun x hx=>hG x (.tail _ hx)) (by rw[NC,NL];exact KX hl);refine ⟨Ms',y5,y6,fun l hl=> ?_,by rw[NC,NL] at i2;rw[NI];omega,bo (aa s1 (aa (bp (ak rfl rfl rfl rfl (yr q)) (aa (aV ap) rfl)) rfl)) rfl e⟩;rcases i1 l hl with i1|i1
   .rcases NS.mp i1 with i1|i1
    .exact .inl i1
    .rw[NG.mp i1];exact .inr (hG g (.head _))
   .exact .inr i1
theorem oO {c:Int} (s:qS σ v (.lst (ls.map aA)) (ls.map aA)) (hl:ls.length<=800) (hp:∀ l∈ls,dY l.2.1) (h1:1<=Ns.length) (h2:Ns.length<=1000) (h4:F.length<=8) (hF:∀ c∈F,br c=true):∃ Ms:List aQ,(∀ l∈Ms,dY l.2.1)/\Ms.length<=ls.length+8/\CC (d+2) false 119 [.d (.lst (Ns.map .str)),.d (.lst (F.map .str)),v,.d (.int c)] σ=some (.ok (.d (.lst (Ms.map aA))),σ)/\CC (d+2) false 120 [.d (.lst (Ns.map .str)),.d (.lst (F.map .str)),v,.d (.int c)] σ=some (.ok (.p σ.length 0),σ++[.fld (.list (Ms.map aA))]):=by
 obtain ⟨Ms,y5,y6,i1,i2,lp⟩:=DV (d:=d) (w:=.lst (F.map .str)) (c:=c) (F:=F) (X:=[]) s h1 h2 F ls none none hF (NK (Nat.add_le_add (hl) (h4)) (NH rfl));have it:items (.lst (F.map .str))=some (F.map .str):=if_pos (by rw[Nz];exact bj (NK h4 (NH rfl)));refine ⟨Ms,fun l hl=>(i1 l hl).elim (hp l) .inl,by omega,oV (m:=σ.length) (f':=.list (Ms.map aA)) rfl rfl rfl (aa (az (rt s rfl (NK (hl) (NH rfl))) rfl) (aa (bF rfl (eq it) lp) (aS rfl))) (NM _) eR (HE σ _),GY (m:=σ.length) (f':=.list (Ms.map aA)) rfl rfl rfl (aa (az (rt s rfl (NK (hl) (NH rfl))) rfl) (aa (bF rfl (eq it) lp) (aS rfl))) (NM _) eR (by rw[List.take_left])⟩
theorem sP {c:Int} (h:dY l.2.1):∃ l':aQ,dY l'.2.1/\CC (d+1) false 118 [.d (aA l),.d (.int c)] σ=some (.ok (.d (aA l')),σ):=by
 let L:List aQ:=[(jS,l.2.1,l.2.2),(l.1,[69,85,114],l.2.2),(l.1,[69,85],l.2.2),(l.1,l.2.1,0),(l.1,l.2.1,10^30),(l.1,l.2.1,0 - 10^30),([69,120,99,104,97,110,103,101],[101,117,114],0),(l.1,[69,85,82,79],0),([],l.2.1,l.2.2)]
 obtain ⟨z,hz,ez⟩:=rW (K:=KK d false) (ρ:=[dV (aA l),iV c,dV (.lst (L.map aA))]) (σ:=σ) (t:=ag 2) (e:=ag 1) (ke:=ah 9) (l:=L.map aA) (a:=c) (k:=9) rfl rfl rfl (by decide) (by show (9:Int)<=9;decide) (by show 9<=1000;decide);obtain ⟨l',hl',rfl⟩:=NQ.mp hz;have all:∀ l'∈L,dY l'.2.1:=aE h (aE (.inr (.head _)) (aE (.inr (.tail _ (.head _))) (aE h (aE h (aE h (aE (.inr (.tail _ (.tail _ (.head _)))) (aE (.inr (.tail _ (.tail _ (.tail _ (.head _))))) (aE h aX))))))));refine ⟨l',all l' hl',bA rfl rfl rfl (aa rfl (aa (az (aR rfl (cN (ds:=[aA (l.1,l.2.1,0),aA (l.1,l.2.1,10^30),aA (l.1,l.2.1,0 - 10^30)]) (bT (bW rfl) (bT (bW (bT rfl (bT rfl (b7 Hl)))) (b7 (bW (bT rfl (bT rfl (b7 (aR rfl Hl rfl rfl rfl))))))))) rfl rfl (j7 (NH rfl))) rfl) (aa (az (aR rfl (cN (ds:=[aA ([69,120,99,104,97,110,103,101],[101,117,114],0),aA (l.1,[69,85,82,79],0),aA ([],l.2.1,l.2.2)]) rfl) rfl rfl (j7 (NH rfl))) rfl) (aS (aT ez))))) (tk _)⟩
end
section
variable {A:av} {x:D} {l:aQ}
theorem JX {l:List D} {i j:Int} (hl:l.length<=1000) (hi:bQ i=true) (hj:bQ j=true):dm (.lst l) (.int i) (.int j)=some (.lst (bf l (cZ i l.length) (cZ j l.length))):=by
 show ((aq (l.length<=cS) ()).bind fun _=>(aq (bQ i=true) i).bind fun a=>(aq (bQ j=true) j).map fun h=>D.lst (bf l (cZ a l.length) (cZ h l.length)))=_;rw[aM (bj hl),NA,aM hi,NA,aM hj];rfl
theorem HI {l:List D} {j:Int} (hl:l.length<=1000) (hj:bQ j=true):dm (.lst l) .none (.int j)=some (.lst (bf l (cZ 0 l.length) (cZ j l.length))):=by
 show ((aq (l.length<=cS) ()).bind fun _=>(aq (bQ j=true) j).map fun h=>D.lst (bf l (cZ 0 l.length) (cZ h l.length)))=_;rw[aM (bj hl),NA,aM hj];rfl
theorem uI {f:α->β} {l:List α} {a b:Nat}:bf (l.map f) a b=(bf l a b).map f:=by
 unfold bf;rw[<-List.map_drop,<-List.map_take]
theorem zU {l:List α} {a b:Nat} {y:α} (h:y∈bf l a b):y∈l:=List.mem_of_mem_drop (List.mem_of_mem_take h)
theorem uJ {l:List α} {a b:Nat}:(bf l a b).length<=l.length:=by
 unfold bf;rw[List.length_take,List.length_drop];omega
theorem DR {b:CE} {l:List D} (h1:Ev K a ρ σ (.d (.lst l))) (h2:Ev K b ρ σ (.d (.int m))) (hm:m<=100000) (hl:l.length*m<=cS):Ev K (jm false (u5 a b)) ρ σ (.d (.lst (List.replicate m l).flatten)):=by
 refine aB (aB h1 (aB h2 ?_)) rfl;show ((aq (0<=(m:Int)/\(m:Int)<=100000/\l.length*(m:Int).toNat<=cS) (List.replicate (m:Int).toNat l).flatten).map _)=_;rw[aM ⟨o9,by omega,by rw[Int.toNat_natCast];exact hl⟩,Int.toNat_natCast];rfl
theorem Fw (hk:k<ls.length) (hl:ls.length<=1000):sT (.p A.length 0) (.int k) (aA l) (A++[.fld (.list (ls.map aA))])=some (A++[.fld (.list ((ls.set k l).map aA))]):=by
 have e:=rg (σ:=A++[.fld (.list (ls.map aA))]) (n:=A.length) (j:=0) (k:=.int k) (v:=aA l) fk (Fx (by rw[Nz];exact hk) (by rw[Nz];exact hl));rw[ji,<-List.map_set] at e;exact e
theorem zW (h:ls≠[]) (hl:ls.length<=1000):sT (.p A.length 0) (.int (-1)) (aA l) (A++[.fld (.list (ls.map aA))])=some (A++[.fld (.list ((ls.set (ls.length - 1) l).map aA))]):=by
 have l0:=List.length_pos_iff.mpr h;have p:cV (-1) (ls.map aA).length=some (ls.length - 1):=by
  unfold cV;rw[if_neg (by decide),Nz,if_pos (by omega)];exact congrArg some (FW)
 have sf:sU (.int (-1)) (aA l) (.list (ls.map aA))=some (.list ((ls.map aA).set (ls.length - 1) (aA l))):=by
  show ((aq (bQ (-1)=true) ()).bind fun _=>(cV (-1) (ls.map aA).length).map fun j=>cB.list ((ls.map aA).set j (aA l)))=_;rw[aM (by decide),NA,p];rfl
 have e:=rg (σ:=A++[.fld (.list (ls.map aA))]) (n:=A.length) (j:=0) (k:=.int (-1)) (v:=aA l) fk sf;rw[ji,<-List.map_set] at e;exact e
theorem A7 (h:ls[ls.length - 1]? =some l):fj (.lst (ls.map aA)) (.int (-1))=some (aA l):=by
 have l0:=(ND.mp h).1;have p:cV (-1) (ls.map aA).length=some (ls.length - 1):=by
  unfold cV;rw[if_neg (by decide),Nz,if_pos (HT l0)];exact congrArg some (FW)
 show ((aq (bQ (-1)=true) ()).bind fun _=>(cV (-1) (ls.map aA).length).bind fun k=>(ls.map aA)[k]?)=_;rw[aM (by decide),NA,p,NA,NR,h];rfl
theorem wD (h:∀ l∈ls,dY l.2.1) (hl:dY l.2.1):∀ y∈ls.set k l,dY y.2.1:=fun y hy=>(List.mem_or_eq_of_mem_set hy).elim (h y) fun e=>e ▸ hl
end
section
variable {A:av} {x:D} {l:aQ} {w:Int} {o0:PO}
noncomputable abbrev nR (sc:List Int) (Ns F:List Tx) (w:Int) (x4 x5 x6 x7:Option PV):bb:=[dV (.lst (sc.map .int)),dV (.lst (Ns.map .str)),dV (.lst (F.map .str)),iV w,x4,x5,x6,x7,none]
structure NF (Ns F:List Tx):Prop where
 h1:1<=Ns.length
 h2:Ns.length<=1000
 h3:3<=F.length
 h4:F.length<=8
 c:∀ c∈F,br c=true
theorem FC (q:NF Ns F) (hs:sc.length<=63):∃ L0:List aQ,(∀ l∈L0,dY l.2.1)/\L0.length<=63/\hH.ex (KK (d+2) false) (nR sc Ns F w none none none none) [o0]=some (.next (nR sc Ns F w (qV 1) none none none),[o0,.fld (.list (L0.map aA))]):=by
 have lr:=fun c:Int=>Df (d:=d+1) c q.h1 q.h2 q.h3 (NK q.h4 (by decide)) q.c
 let f:Int->aQ:=fun c=>(lr c).choose
 have sl:=JX (l:=sc.map D.int) (i:=7) (j:=63) (by rw[Nz];exact Ho hs) (by decide) (by decide);rw[uI] at sl;generalize hm:bf sc (cZ 7 (sc.map D.int).length) (cZ 63 (sc.map D.int).length)=ms at sl;have ml:ms.length<=63:=by rw[<-hm];exact NK uJ hs
 refine ⟨ms.map f,fun l hl=> ?_,by rw[Nz];exact ml,?_⟩
 .obtain ⟨c,_,rfl⟩:=NQ.mp hl;exact (lr c).choose_spec.1
 have cm:=d8 (K:=KK (d+2) false) (ρ:=nR sc Ns F w none none none none) (σ:=[o0]) (i:=8) (bM:=au 121 (aj (ag 1) (aj (ag 2) (aj (ag 8) ao)))) (y:=.lst (ms.map .int)) D.int (fun c=>aA (f c)) ms [] (fun c _=>bg ((lr c).choose_spec.2 [o0]) rfl) (by rw[Oo];exact NK (Oe (ml) _) (NH rfl));rw[List.nil_append] at cm;have e:hH.ex (KK (d+2) false) (nR sc Ns F w none none none none) [o0]=some (.next (nR sc Ns F w (qV 1) none none none),[o0]++[.fld (.list (ms.map fun c=>aA (f c)))]):=zY (dy (fh (l:=.d (.int 7)) (h:=.d (.int 63)) (z:=.lst (ms.map .int)) rfl (k7 rfl) (k7 rfl) rfl rfl rfl sl) (eq (if_pos (by rw[Nz];exact bj (Ho ml)))) cm) rfl;rw[List.map_map];exact e
theorem m8 {x4:Option PV}:Ev K (aP bY (ag 3) (ah 8)) (nR sc Ns F w x4 x5 x6 x7) σ (.d (.int (w.fmod 8))):=jP rfl
theorem IA {v:D} (h:u≠v) (p1:pl 8 u=true) (p2:pl 8 v=true) (hf:Ht u v=none):fo.g u v=some true:=congrArg (Option.map fun c=> !c) (Jb h p1 p2 hf)
theorem uS (ls:List aQ):pl 8 (.lst (ls.map aA))=true:=List.all_eq_true.mpr fun x hx=>by
 obtain ⟨l,_,rfl⟩:=NQ.mp hx;rfl
noncomputable abbrev oj:CS:=sC g_ (sC kI (sC g9 (sC fi (sC (aO (ag 4)) sN))))
theorem MD (h5:w.fmod 8≠5) (h6:w.fmod 8≠6) (h7:w.fmod 8≠7):(sC g9 (sC fi (sC (aO (ag 4)) sN))).ex (KK (d+2) false) (nR sc Ns F w (qV k) x5 x6 x7) σ=some (.ret (.p k 0),σ):=
 aa (aY (bc (a_ (ak m8 rfl rfl rfl (jx h5)) (a_ (ak m8 rfl rfl rfl (jx h6)) rfl))) rfl) (aa (aY (ak m8 rfl rfl rfl (jx h7)) rfl) (aS rfl))
theorem Jj (q:NF Ns F) (p:∀ l∈L0,dY l.2.1) (hl:L0.length<=63) (h:w.fmod 8<5):∃ Ls:List aQ,(∀ l∈Ls,dY l.2.1)/\Ls.length<=200/\oj.ex (KK (d+2) false) (nR sc Ns F w (qV 1) none none none) [o0,.fld (.list (L0.map aA))]=some (.ret (.p 2 0),[o0,.fld (.list (L0.map aA)),.fld (.list (Ls.map aA))]):=by
 obtain ⟨Ms,pm,lm,_,ek⟩:=oO (d:=d) (σ:=[o0,.fld (.list (L0.map aA))]) (v:=.p 1 0) (ls:=L0) (c:=w.fdiv 8) (sQ rfl (by rw[Nz];exact Ho hl)) (NK (hl) (NH rfl)) p q.h1 q.h2 q.h4 q.c;have s3:g_.ex (KK (d+2) false) (nR sc Ns F w (qV 1) none none none) [o0,.fld (.list (L0.map aA))]=some (.next (nR sc Ns F w (qV 2) none none none),[o0,.fld (.list (L0.map aA)),.fld (.list (Ms.map aA))]):=
  bp (ak m8 rfl rfl rfl (n_ h)) (aa (az (bg ek (bT rfl (bT rfl (bT rfl (b7 (kO rfl)))))) rfl) rfl)
 by_cases z:w.fmod 8=4/\Ms≠[]
 .have l0:=List.length_pos_iff.mpr z.2;have gl:Ms[Ms.length - 1]? =some Ms[Ms.length - 1]:=NE (Nat.sub_one_lt (Nat.ne_of_gt l0));generalize Ms[Ms.length - 1]=g at gl;have cg:=pm g (N5 gl);have gt:Ev (KK (d+2) false) (sub (ag 4) (neg (ah 1))) (nR sc Ns F w (qV 2) none none none) [o0,.fld (.list (L0.map aA)),.fld (.list (Ms.map aA))] (.d (aA g)):=bB rfl (oP rfl) rfl rfl (A7 gl);have st:=zW (A:=[o0,.fld (.list (L0.map aA))]) (l:=(g.1,g.2.1,g.2.2+1)) z.2 (NK (NK lm (Nat.add_le_add_right (hl) _)) (NH rfl));refine ⟨_,wD pm (l:=(g.1,g.2.1,g.2.2+1)) (k:=Ms.length - 1) cg,by rw[N1];exact NK (NK lm (Nat.add_le_add_right (hl) _)) (NH rfl),aa s3 (aa (bp (cI (ee (ak m8 rfl rfl rfl (mI z.1)) (ee (ak rfl (cN rfl) rfl rfl (IA (fun y=>z.2 (List.map_eq_nil_iff.mp (by injection y))) (uS Ms) rfl rfl)) rfl))) (aa (kx (bW (ds:=[.str g.1,.str g.2.1,.int (g.2.2+1)]) (bT (bB gt rfl rfl rfl (xf (k:=0) rfl)) (bT (bB gt rfl rfl rfl (xf (k:=1) rfl)) (b7 (aR (bB gt rfl rfl rfl (xf (k:=2) rfl)) rfl rfl rfl rfl))))) rfl (oP rfl) st) rfl)) (MD (by omega) (by omega) (by omega)))⟩
 .refine ⟨Ms,pm,by exact NK (NK lm (Nat.add_le_add_right (hl) _)) (NH rfl),aa s3 (aa (aY (cI ?_) rfl) (MD (by omega) (by omega) (by omega)))⟩;by_cases y:w.fmod 8=4
  .have e:Ms=[]:=Decidable.byContradiction fun u=>z ⟨y,u⟩;subst e;exact ee (ak m8 rfl rfl rfl (mI y)) (eX (ak rfl (cN rfl) rfl rfl (qr rfl rfl rfl)))
  .exact eX (ak m8 rfl rfl rfl (jx y))
theorem zN {a b c:PO} (hs:sc.length<=63) (hj:j<=100) (p:∀ l∈ls,dY l.2.1) (hk:k<ls.length) (hl:ls.length<=1000):∃ ms:List aQ,(∀ l∈ms,dY l.2.1)/\ms.length=ls.length/\(lu (ag 4) (ag 5) (au 118 (aj (sub (ag 4) (ag 5)) (aj (au 33 (aj (ag 0) (aj (ah (j:Nat)) ao))) ao)))).ex (KK (d+2) false) (nR sc Ns F w (qV 3) (iV k) x6 x7) [a,b,c,.fld (.list (ls.map aA))]=some (.next (nR sc Ns F w (qV 3) (iV k) x6 x7),[a,b,c,.fld (.list (ms.map aA))]):=by
 have g:ls[k]? =some ls[k]:=NE hk;obtain ⟨l',c',e⟩:=sP (d:=d+1) (σ:=[a,b,c,.fld (.list (ls.map aA))]) (c:=cell sc j) (p ls[k] (List.getElem_mem hk));exact ⟨ls.set k l',wD p c',N1,kx (bg e (bT (bB rfl rfl rfl rfl (c5 (k:=k) (by rw[NR,g];rfl) (Ij hk hl))) (b7 (fG (k:=j) hs rfl rfl (H9 hj))))) rfl rfl (Fw (A:=[a,b,c]) hk hl)⟩
theorem Ji (q:NF Ns F) (hs:sc.length<=63) (p:∀ l∈L0,dY l.2.1) (hl:L0.length<=63) (h:w.fmod 8=5∨w.fmod 8=6):∃ (Ls:List aQ) (X:PO),(∀ l∈Ls,dY l.2.1)/\Ls.length<=200/\oj.ex (KK (d+2) false) (nR sc Ns F w (qV 1) none none none) [o0,.fld (.list (L0.map aA))]=some (.ret (.p 3 0),[o0,.fld (.list (L0.map aA)),X,.fld (.list (Ls.map aA))]):=by
 obtain ⟨Ms,pm,lm,ef,_⟩:=oO (d:=d) (σ:=[o0,.fld (.list (L0.map aA))]) (v:=.p 1 0) (ls:=L0) (c:=w.fdiv 8) (sQ rfl (by rw[Nz];exact Ho hl)) (NK (hl) (NH rfl)) p q.h1 q.h2 q.h4 q.c;obtain ⟨n0,Nt,rfl⟩:∃ a t,Ns=a::t:=by
  cases Ns with
  |nil=>exact absurd q.h1 (by decide)
  |cons a t=>exact ⟨a,t,rfl⟩
 obtain ⟨c0,Ft,rfl⟩:∃ a t,F=a::t:=by
  cases F with
  |nil=>exact absurd q.h3 (by decide)
  |cons a t=>exact ⟨a,t,rfl⟩
 have hc:=q.c c0 (.head _)
 let M1:List aQ:=Ms++[(n0,c0,1)]
 let M2:List aQ:=M1++[(n0,c0,-1)]
 have p2:∀ l∈M2,dY l.2.1:=fun l hl=>by
  rcases NS.mp hl with hl|hl
  .rcases NS.mp hl with hl|hl
   .exact pm l hl
   .rw[NG.mp hl];exact .inl hc
  .rw[NG.mp hl];exact .inl hc
 have l2:M2.length=Ms.length+2:=by show ((Ms++[_])++[_]).length=_;rw[NC,NC];rfl
 have a1:(aG 4 (jm true (yu (au 119 (aj (ag 1) (aj (ag 2) (aj (ag 4) (aj (aP dI (ag 3) (ah 8)) ao))))) (cF (aj (bE (aj (sub (ag 1) (ah 0)) (aj (sub (ag 2) (ah 0)) (aj (ah 1) ao)))) ao))))).ex (KK (d+2) false) (nR sc (n0::Nt) (c0::Ft) w (qV 1) none none none) [o0,.fld (.list (L0.map aA))]=some (.next (nR sc (n0::Nt) (c0::Ft) w (qV 2) none none none),[o0,.fld (.list (L0.map aA)),.fld (.list (M1.map aA))]):=by
  have e:=v6 (K:=KK (d+2) false) (ρ:=nR sc (n0::Nt) (c0::Ft) w (qV 1) none none none) (σ:=[o0,.fld (.list (L0.map aA))]) (a:=au 119 (aj (ag 1) (aj (ag 2) (aj (ag 4) (aj (aP dI (ag 3) (ah 8)) ao))))) (b:=cF (aj (bE (aj (sub (ag 1) (ah 0)) (aj (sub (ag 2) (ah 0)) (aj (ah 1) ao)))) ao)) (l:=Ms.map aA) (m:=[aA (n0,c0,1)]) (bg ef (bT rfl (bT rfl (bT rfl (b7 (kO rfl)))))) (cN (b7 (bW (bT (bB rfl rfl rfl rfl (c5 (k:=0) rfl)) (bT (bB rfl rfl rfl rfl (c5 (k:=0) rfl)) (b7 rfl)))))) rfl rfl (by rw[Nz];show _+1<=_;exact NK (Nat.add_le_add_right (NK lm (Nat.add_le_add_right (hl) _)) _) (NH rfl));rw[show Ms.map aA++[aA (n0,c0,1)]=M1.map aA by rw[List.map_append];rfl] at e;exact az e rfl
 have a2:(aG 4 (jm true (yu (ag 4) (cF (aj (bE (aj (sub (ag 1) (ah 0)) (aj (sub (ag 2) (ah 0)) (aj (neg (ah 1)) ao)))) ao))))).ex (KK (d+2) false) (nR sc (n0::Nt) (c0::Ft) w (qV 2) none none none) [o0,.fld (.list (L0.map aA)),.fld (.list (M1.map aA))]=some (.next (nR sc (n0::Nt) (c0::Ft) w (qV 3) none none none),[o0,.fld (.list (L0.map aA)),.fld (.list (M1.map aA)),.fld (.list (M2.map aA))]):=by
  have e:=v6 (K:=KK (d+2) false) (ρ:=nR sc (n0::Nt) (c0::Ft) w (qV 2) none none none) (σ:=[o0,.fld (.list (L0.map aA)),.fld (.list (M1.map aA))]) (a:=ag 4) (b:=cF (aj (bE (aj (sub (ag 1) (ah 0)) (aj (sub (ag 2) (ah 0)) (aj (neg (ah 1)) ao)))) ao)) (l:=M1.map aA) (m:=[aA (n0,c0,-1)]) rfl (cN (b7 (bW (bT (bB rfl rfl rfl rfl (c5 (k:=0) rfl)) (bT (bB rfl rfl rfl rfl (c5 (k:=0) rfl)) (b7 (oP rfl))))))) rfl rfl (by rw[Nz];show (Ms++[_]).length+1<=_;rw[NC];show _+1+1<=_;exact NK (Nat.add_le_add_right (Nat.add_le_add_right (NK lm (Nat.add_le_add_right (hl) _)) _) _) (NH rfl));rw[show M1.map aA++[aA (n0,c0,-1)]=M2.map aA from (List.map_append (f:=aA) (l₁:=M1) (l₂:=[(n0,c0,-1)])).symm] at e;exact az e rfl
 have len:∀ (ms:List aQ) x5 x6 x7,ms.length<=900->Ev (KK (d+2) false) (bi bh (aj (ag 4) ao)) (nR sc (n0::Nt) (c0::Ft) w (qV 3) x5 x6 x7) [o0,.fld (.list (L0.map aA)),.fld (.list (M1.map aA)),.fld (.list (ms.map aA))] (.d (.int ms.length)):=fun ms x5 x6 x7 hm=>by
  have e:=(sQ (σ:=[o0,.fld (.list (L0.map aA)),.fld (.list (M1.map aA)),.fld (.list (ms.map aA))]) (m:=3) (l:=ms.map aA) rfl (by rw[Nz];exact H2 hm)).len (K:=KK (d+2) false) (ρ:=nR sc (n0::Nt) (c0::Ft) w (qV 3) x5 x6 x7) (e:=ag 4) rfl;rw[Nz] at e;exact e
 have at_:∀ (ms:List aQ) (e:CE) (c:Int) x5,ms.length=Ms.length+2->Ev (KK (d+2) false) e (nR sc (n0::Nt) (c0::Ft) w (qV 3) x5 none none) [o0,.fld (.list (L0.map aA)),.fld (.list (M1.map aA)),.fld (.list (ms.map aA))] (.d (.int c))->∃ k:Nat,k<ms.length/\(aG 5 (aP bY e (bi bh (aj (ag 4) ao)))).ex (KK (d+2) false) (nR sc (n0::Nt) (c0::Ft) w (qV 3) x5 none none) [o0,.fld (.list (L0.map aA)),.fld (.list (M1.map aA)),.fld (.list (ms.map aA))]=some (.next (nR sc (n0::Nt) (c0::Ft) w (qV 3) (iV k) none none),[o0,.fld (.list (L0.map aA)),.fld (.list (M1.map aA)),.fld (.list (ms.map aA))]):=fun ms e c x5 hm he=>by
  have r:=bL (a:=c) (b:=ms.length) (HS hm);refine ⟨(c.fmod ms.length).toNat,by exact (Int.toNat_lt r.1).mpr r.2,?_⟩;rw[Od r.1];exact az (aR he (len ms _ _ _ (NK (NK (On hm) (Nat.add_le_add_right (NK lm (Nat.add_le_add_right (hl) _)) _)) (NH rfl))) rfl rfl (l7 (HS hm) (by omega))) rfl
 obtain ⟨k1,hk1,a3⟩:=at_ M2 (aP dI (ag 3) (ah 8)) (w.fdiv 8) none l2 (kO rfl);obtain ⟨M3,p3,l3,a4⟩:=zN (d:=d) (a:=o0) (b:=.fld (.list (L0.map aA))) (c:=.fld (.list (M1.map aA))) (Ns:=n0::Nt) (F:=c0::Ft) (w:=w) (x6:=none) (x7:=none) (j:=5) hs (by decide) p2 hk1 (NK (NK (On l2) (Nat.add_le_add_right (NK lm (Nat.add_le_add_right (hl) _)) _)) (NH rfl));have pre:∀ z,_=z->oj.ex (KK (d+2) false) (nR sc (n0::Nt) (c0::Ft) w (qV 1) none none none) [o0,.fld (.list (L0.map aA))]=z:=fun z hz=>aa (aY (ak m8 rfl rfl rfl (hO (by omega))) rfl) (aa (aY (cI (eX (ak m8 rfl rfl rfl (jx (by omega))))) rfl) hz);have tt:Ts (KK (d+2) false) (fN (aW (aF c9 (aP bY (ag 3) (ah 8)) (ah 5)) (aW (aF c9 (aP bY (ag 3) (ah 8)) (ah 6)) cw))) (nR sc (n0::Nt) (c0::Ft) w (qV 1) none none none) [o0,.fld (.list (L0.map aA))] true:=by
  rcases h with h|h
  .exact bc (dB (ak m8 rfl rfl rfl (mI h)))
  .exact bc (a_ (ak m8 rfl rfl rfl (jx (Kf h))) (dB (ak m8 rfl rfl rfl (mI h))))
 have fin:∀ {x5:Option PV} {σ:av},(sC fi (sC (aO (ag 4)) sN)).ex (KK (d+2) false) (nR sc (n0::Nt) (c0::Ft) w (qV 3) x5 none none) σ=some (.ret (.p 3 0),σ):=aa (aY (ak m8 rfl rfl rfl (jx (by omega))) rfl) (aS rfl);by_cases z:(cell sc 1).fmod 2=1
 .obtain ⟨k2,hk2,a5⟩:=at_ M3 (au 33 (aj (ag 0) (aj (ah 4) ao))) (cell sc 4) (iV k1) (by omega) (fG (k:=4) hs rfl rfl (by decide));obtain ⟨M4,p4,l4,a6⟩:=zN (d:=d) (a:=o0) (b:=.fld (.list (L0.map aA))) (c:=.fld (.list (M1.map aA))) (Ns:=n0::Nt) (F:=c0::Ft) (w:=w) (x6:=none) (x7:=none) (j:=3) hs (by decide) p3 hk2 (NK (NK (On l3) (NK (On l2) (Nat.add_le_add_right (NK lm (Nat.add_le_add_right (hl) _)) _))) (NH rfl));exact ⟨M4,_,p4,by exact NK (NK (On l4) (NK (On l3) (NK (On l2) (Nat.add_le_add_right (NK lm (Nat.add_le_add_right (hl) _)) _)))) (NH rfl),pre _ (aa (bp tt (aa a1 (aa a2 (aa a3 (aa a4 (aa (bp (ak (jP (fG (k:=1) hs rfl rfl (by decide))) rfl rfl rfl (mI z)) (aa a5 (aa a6 rfl))) rfl)))))) fin)⟩
 .exact ⟨M3,_,p3,by exact NK (NK (On l3) (NK (On l2) (Nat.add_le_add_right (NK lm (Nat.add_le_add_right (hl) _)) _))) (NH rfl),pre _ (aa (bp tt (aa a1 (aa a2 (aa a3 (aa a4 (aa (aY (ak (jP (fG (k:=1) hs rfl rfl (by decide))) rfl rfl rfl (jx z)) rfl) rfl)))))) fin)⟩
theorem yP {a:Tx} (h:Ns[Ns.length - 1]? =some a):fj (.lst (Ns.map .str)) (.int (-1))=some (.str a):=by
 have l0:=(ND.mp h).1;have p:cV (-1) (Ns.map D.str).length=some (Ns.length - 1):=by
  unfold cV;rw[if_neg (by decide),Nz,if_pos (HT l0)];exact congrArg some (FW)
 show ((aq (bQ (-1)=true) ()).bind fun _=>(cV (-1) (Ns.map D.str).length).bind fun k=>(Ns.map D.str)[k]?)=_;rw[aM (by decide),NA,p,NA,NR,h];rfl
theorem CJ {f:α->β} {l:List α}:(List.replicate k (l.map f)).flatten=((List.replicate k l).flatten).map f:=by rw[List.map_flatten,List.map_replicate]
theorem Jh (q:NF Ns F) (p:∀ l∈L0,dY l.2.1) (hl:L0.length<=63) (h:w.fmod 8=7):∃ Ls:List aQ,(∀ l∈Ls,dY l.2.1)/\Ls.length<=200/\oj.ex (KK (d+2) false) (nR sc Ns F w (qV 1) none none none) [o0,.fld (.list (L0.map aA))]=some (.ret (.d (.lst (Ls.map aA))),[o0,.fld (.list (L0.map aA))]):=by
 obtain ⟨n0,Nt,rfl⟩:∃ a t,Ns=a::t:=by
  cases Ns with
  |nil=>exact absurd q.h1 (by decide)
  |cons a t=>exact ⟨a,t,rfl⟩
 obtain ⟨c0,c1,Ft,rfl⟩:∃ a b t,F=a::b::t:=by
  cases F with
  |nil=>exact absurd q.h3 (by decide)
  |cons a t=>
   cases t with
   |nil=>exact absurd q.h3 (by show¬3<=1;decide)
   |cons b t=>exact ⟨a,b,t,rfl⟩
 have hc:=q.c c0 (.head _);have hc1:=q.c c1 (.tail _ (.head _));obtain ⟨nz,hz⟩:∃ z,(n0::Nt)[(n0::Nt).length - 1]? =some z:=⟨_,NE (by rw[NI];omega)⟩
 let tw:List aQ:=[(n0,c0,10^30 - 1),(nz,c0,1 - 10^30)]
 let T30:List aQ:=(List.replicate 30 tw).flatten
 let Mo:List aQ:=T30++[(n0,c1,0)]
 let S1:List aQ:=bf tw (cZ 0 (tw.map aA).length) (cZ 1 (tw.map aA).length)
 let S2:List aQ:=bf L0 (cZ 0 (L0.map aA).length) (cZ 28 (L0.map aA).length)
 have ls2:S2.length<=L0.length:=uJ;have ptw:∀ l∈tw,dY l.2.1:=aE (.inl hc) (aE (.inl hc) aX);have p30':∀ l∈T30,dY l.2.1:=fun l hl=>by
  obtain ⟨m,hm,hl⟩:=List.mem_flatten.mp hl;rw[(List.mem_replicate.mp hm).2] at hl;exact ptw l hl
 have lt:T30.length=60:=by show (List.flatten _).length=_;rw[List.length_flatten,List.map_replicate,List.sum_replicate_nat];rfl
 let Cs:List (List aQ):=[[],S1,S2++S2,Mo,T30]
 have pc:∀ m∈Cs,(∀ l∈m,dY l.2.1)/\m.length<=200:=aE ⟨aX,by decide⟩ (aE ⟨fun l hl=>ptw l (zU hl),NK uJ (by show 2<=200;decide)⟩ (aE ⟨fun l hl=>p l (zU ((NS.mp hl).elim id id)),by show (S2++S2).length<=_;rw[NC];exact NK (Nat.add_le_add (NK ls2 (hl)) (NK ls2 (hl))) (NH rfl)⟩ (aE ⟨fun l hl=>(NS.mp hl).elim (p30' l) fun e=>by rw[NG.mp e];exact .inl hc1,by show (T30++[_]).length<=_;rw[NC,lt];show 60+1<=200;decide⟩ (aE ⟨p30',Iw lt⟩ aX))));have a6:(aG 6 (cF (aj (bE (aj (sub (ag 1) (ah 0)) (aj (sub (ag 2) (ah 0)) (aj (aP d4 (aP mD (ah 10) (ah 30)) (ah 1)) ao)))) (aj (bE (aj (sub (ag 1) (neg (ah 1))) (aj (sub (ag 2) (ah 0)) (aj (aP d4 (ah 1) (aP mD (ah 10) (ah 30))) ao)))) ao)))).ex (KK (d+2) false) (nR sc (n0::Nt) (c0::c1::Ft) w (qV 1) none none none) [o0,.fld (.list (L0.map aA))]=some (.next (nR sc (n0::Nt) (c0::c1::Ft) w (qV 1) none (dV (.lst (tw.map aA))) none),[o0,.fld (.list (L0.map aA))]):=
  az (cN (ds:=tw.map aA) (bT (bW (ds:=[.str n0,.str c0,.int (10^30 - 1)]) (bT (bB rfl rfl rfl rfl (c5 (k:=0) rfl)) (bT (bB rfl rfl rfl rfl (c5 (k:=0) rfl)) (b7 (aR Hl rfl rfl rfl rfl))))) (b7 (bW (ds:=[.str nz,.str c0,.int (1 - 10^30)]) (bT (bB rfl (oP rfl) rfl rfl (yP hz)) (bT (bB rfl rfl rfl rfl (c5 (k:=0) rfl)) (b7 (aR rfl Hl rfl rfl rfl))))))) rfl (by show 2<=1000;decide)) rfl
 have rp:∀ x5 x7,Ev (KK (d+2) false) (jm false (u5 (ag 6) (ah 30))) (nR sc (n0::Nt) (c0::c1::Ft) w (qV 1) x5 (dV (.lst (tw.map aA))) x7) [o0,.fld (.list (L0.map aA))] (.d (.lst (T30.map aA))):=fun x5 x7=>by
  have e:=DR (K:=KK (d+2) false) (ρ:=nR sc (n0::Nt) (c0::c1::Ft) w (qV 1) x5 (dV (.lst (tw.map aA))) x7) (σ:=[o0,.fld (.list (L0.map aA))]) (a:=ag 6) (b:=ah 30) (l:=tw.map aA) (m:=30) rfl rfl (by decide) (by show 2*30<=cS;decide);rw[CJ] at e;exact e
 have a7:(aG 7 (aP a' (jm false (u5 (ag 6) (ah 30))) (cF (aj (bE (aj (sub (ag 1) (ah 0)) (aj (sub (ag 2) (ah 1)) (aj (ah 0) ao)))) ao)))).ex (KK (d+2) false) (nR sc (n0::Nt) (c0::c1::Ft) w (qV 1) none (dV (.lst (tw.map aA))) none) [o0,.fld (.list (L0.map aA))]=some (.next (nR sc (n0::Nt) (c0::c1::Ft) w (qV 1) none (dV (.lst (tw.map aA))) (dV (.lst (Mo.map aA)))),[o0,.fld (.list (L0.map aA))]):=by
  have e:Ev (KK (d+2) false) (aP a' (jm false (u5 (ag 6) (ah 30))) (cF (aj (bE (aj (sub (ag 1) (ah 0)) (aj (sub (ag 2) (ah 1)) (aj (ah 0) ao)))) ao))) (nR sc (n0::Nt) (c0::c1::Ft) w (qV 1) none (dV (.lst (tw.map aA))) none) [o0,.fld (.list (L0.map aA))] (.d (.lst (T30.map aA++[aA (n0,c1,0)]))):=aR (rp _ _) (cN (b7 (bW (bT (bB rfl rfl rfl rfl (c5 (k:=0) rfl)) (bT (bB rfl rfl rfl rfl (c5 (k:=1) rfl)) (b7 rfl)))))) rfl rfl (j7 (by rw[Nz,lt];show 60+1<=1000;decide));rw[show T30.map aA++[aA (n0,c1,0)]=Mo.map aA from (List.map_append (f:=aA) (l₁:=T30) (l₂:=[(n0,c1,0)])).symm] at e;exact az e rfl
 have sl2:=HI (l:=L0.map aA) (j:=28) (by rw[Nz];exact Ho hl) (by decide);rw[uI] at sl2;have sl1:=HI (l:=tw.map aA) (j:=1) (by show 2<=1000;decide) (by decide);rw[uI] at sl1;have e2:Ev (KK (d+2) false) (mQ (ag 4) nQ (gQ (ah 28))) (nR sc (n0::Nt) (c0::c1::Ft) w (qV 1) none (dV (.lst (tw.map aA))) (dV (.lst (Mo.map aA)))) [o0,.fld (.list (L0.map aA))] (.d (.lst (S2.map aA))):=fh (l:=.d .none) (h:=.d (.int 28)) rfl rfl (k7 rfl) rfl rfl rfl sl2;have e22:Ev (KK (d+2) false) (aP a' (mQ (ag 4) nQ (gQ (ah 28))) (mQ (ag 4) nQ (gQ (ah 28)))) (nR sc (n0::Nt) (c0::c1::Ft) w (qV 1) none (dV (.lst (tw.map aA))) (dV (.lst (Mo.map aA)))) [o0,.fld (.list (L0.map aA))] (.d (.lst ((S2++S2).map aA))):=by
  rw[List.map_append (l₁:=S2)];exact aR e2 e2 rfl rfl (j7 (a:=S2.map aA) (b:=S2.map aA) (by rw[Nz];exact NK (Nat.add_le_add (NK ls2 (hl)) (NK ls2 (hl))) (NH rfl)))
 have big:Ev (KK (d+2) false) (cF (aj (cF ao) (aj (mQ (ag 6) nQ (gQ (ah 1))) (aj (aP a' (mQ (ag 4) nQ (gQ (ah 28))) (mQ (ag 4) nQ (gQ (ah 28)))) (aj (ag 7) (aj (jm false (u5 (ag 6) (ah 30))) ao)))))) (nR sc (n0::Nt) (c0::c1::Ft) w (qV 1) none (dV (.lst (tw.map aA))) (dV (.lst (Mo.map aA)))) [o0,.fld (.list (L0.map aA))] (.d (.lst (Cs.map fun m=>.lst (m.map aA)))):=
  cN (bT (cN rfl) (bT (fh (l:=.d .none) (h:=.d (.int 1)) rfl rfl (k7 rfl) rfl rfl rfl sl1) (bT e22 (bT rfl (b7 (rp _ _)))))) rfl (by show 5<=1000;decide)
 obtain ⟨z,hz',ez⟩:=rW (e:=aP dI (ag 3) (ah 8)) (ke:=ah 5) (a:=w.fdiv 8) (k:=5) big (kO rfl) rfl (by decide) (by show (5:Int)<=5;decide) (by show 5<=1000;decide);obtain ⟨Ls,hL,rfl⟩:=NQ.mp hz';exact ⟨Ls,(pc Ls hL).1,(pc Ls hL).2,aa (aY (ak m8 rfl rfl rfl (hO (Iv h))) rfl) (aa (aY (cI (eX (ak m8 rfl rfl rfl (jx (Iu h))))) rfl) (aa (aY (bc (a_ (ak m8 rfl rfl rfl (jx (It h))) (a_ (ak m8 rfl rfl rfl (jx (Ir h))) rfl))) rfl) (aa (bp (ak m8 rfl rfl rfl (mI h)) (aa a6 (aa a7 (aa (az ez rfl) rfl)))) (aS rfl))))⟩
theorem yD (q:NF Ns F) (hs:sc.length<=63):∃ Ls:List aQ,(∀ l∈Ls,dY l.2.1)/\Ls.length<=200/\CC (d+3) false 122 [.d (.lst (sc.map .int)),.d (.lst (Ns.map .str)),.d (.lst (F.map .str))] [o0]=some (.ok (.d (.lst (Ls.map aA))),[o0]):=by
 obtain ⟨L0,p0,l0,e2⟩:=FC (d:=d) (w:=cell sc 6) (o0:=o0) q hs;have pre:∀ z,oj.ex (KK (d+2) false) (nR sc Ns F (cell sc 6) (qV 1) none none none) [o0,.fld (.list (L0.map aA))]=z->qv.ex (KK (d+2) false) [dV (.lst (sc.map .int)),dV (.lst (Ns.map .str)),dV (.lst (F.map .str)),none,none,none,none,none,none] [o0]=z:=fun z hz=>aa (az (fG (k:=6) hs rfl rfl (by decide)) rfl) (aa e2 hz);have r:=bL (a:=cell sc 6) (b:=8) (by decide);by_cases a:(cell sc 6).fmod 8<5
 .obtain ⟨Ls,p,hl,e⟩:=Jj (d:=d) (sc:=sc) (o0:=o0) q p0 l0 a;exact ⟨Ls,p,hl,oV (m:=2) (f':=.list (Ls.map aA)) rfl rfl rfl (pre _ e) (by show 1<=2;decide) rfl rfl⟩
 by_cases b:(cell sc 6).fmod 8=7
 .obtain ⟨Ls,p,hl,e⟩:=Jh (d:=d) (sc:=sc) (o0:=o0) q p0 l0 b;exact ⟨Ls,p,hl,bA rfl rfl rfl (pre _ e) rfl⟩
 .obtain ⟨Ls,X,p,hl,e⟩:=Ji (d:=d) (o0:=o0) (w:=cell sc 6) q hs p0 l0 (by omega);exact ⟨Ls,p,hl,oV (m:=3) (f':=.list (Ls.map aA)) rfl rfl rfl (pre _ e) (by show 1<=3;decide) rfl rfl⟩
end
section
variable {l:aQ} {ds:List Dd} {a b:PO}
theorem Ag {hr hm:Tx} {body:List Tx} (ht:tx.length<=1040000) (h1:ax 10 tx=(hr::body)++[[]]) (hl:body.length<=8000) (h5:∀ x∈hr::body,x.length<=500) (e1:tU (ax 32 hr)=some hm) (e2:eE body=some ds) (hc:br hm=true) (hlen:ds.length<=1000) (rp:Rp (st0 hm) ds S'):CC (d+6) false 99 [.d (.str tx)] [a,b]=some (.ok (.p 2 0),[a,b,bk S']):=by
 obtain ⟨y5,k⟩:=yh (d:=d) (σ:=[a,b]) (v:=.lst (ds.map Dd.toD)) (x0:=sV tx) (x1:=rV ((hr::body)++[[]])) (x2:=sV hm) (x3:=dV (.lst (ds.map Dd.toD))) (rest:=[]) (x5:=none) rp;have k:=k _ rfl;rw[List.append_nil] at k;exact oU (o:=.ret (.p 2 0)) (σ':=[a,b,bk S']) rfl rfl rfl (((Ah (d:=d) (σ:=[a,b]) ht h1 hl h5).2 hm e1).2 _ e2 _ (aa (az (wQ (d:=d+3) (b7 rfl) hc) rfl) (aa (bF rfl (eq (if_pos (by rw[Nz];exact bj hlen))) k) (aS rfl)))) rfl
theorem yL (hh:br h=true):tU (ax 32 (B2 h))=some h:=by
 have w:=dZ hh;have e:ax 32 (B2 h)=[jz,h]:=gx (ws:=[jz,h]) (List.cons_ne_nil _ _) (aE Fb (aE w aX));rw[e];show fS (fit [jz,h] jz 2) (fS (iu h) (some h))=_;rw[w.nm];rfl
theorem FE:∀ (T R:List Tx),(∀ x∈T,gf x/\x∉bu::R)->T.Nodup->R.length+T.length<=100->Rp (cD h R) (T.map .acc) (cD h (R++T)):=by
 intro T
 induction T with
 |nil=>exact fun R _ _ _=>by rw[List.append_nil];rfl
 |cons x T ih=>
  intro R hT nd hl;rw[NI] at hl;refine ⟨cD h (R++[x]),fun d σ n B=> ?_,?_⟩
  .have e:=pq (d:=d+1) B (zV (NK (NK (Os _ _) hl) (NH rfl))) (hT x (.head _)).1 (hT x (.head _)).2;rw[show sw (cD h R) x=cD h (R++[x]) by show St.mk ..=St.mk ..;rw[List.map_append];rfl] at e;exact xt B e
  .have i:=ih (R++[x]) (fun y hy=>⟨(hT y (.tail _ hy)).1,fun z=>by
    rw[<-List.cons_append] at z;rcases NS.mp z with z|z
    .exact (hT y (.tail _ hy)).2 z
    .rw[NG.mp z] at hy;exact (Oi.mp nd).1 hy⟩) (Oi.mp nd).2 (by rw[NC,NL];exact Km hl)
   rw[List.append_assoc,List.singleton_append] at i;exact i
theorem Fs:cD h []=st0 h:=rfl
theorem BN (hN:N4 T) (hh:br h=true) (ht:b' t) (hn:dG note) (hd:gj (bu::T) ls=none):
  CC (d+6) false 99 [.d (.str (JL (iK (cD h T) t note ls) (T.map .acc++[.entry t note ls])))] [a,b]=some (.ok (.p 2 0),[a,b,bk (iK (cD h T) t note ls)]):=by
 obtain ⟨hl,hb,_⟩:=iW hd;have l2:=hN.l2;have ok:∀ x∈T.map Dd.acc++[.entry t note ls],EB x:=fun x hx=>by
  rcases NS.mp hx with hx|hx
  .obtain ⟨a,ha,rfl⟩:=NQ.mp hx;exact hN.nm a ha
  .rw[NG.mp hx];refine ⟨ht,hn,hl.2,fun l hl=> ?_⟩;have q:=gK (S:=cD h T) (hb l hl);exact ⟨(NB.mp q.n).imp id (hN.nm _),q.c,q.a⟩
 have ra:=nH ok;have dl:(T.map Dd.acc++[Dd.entry t note ls]).length=T.length+1:=by rw[NC,Nz];rfl
 have rl:∀ r∈B2 h::cp (T.map .acc++[.entry t note ls]),r.length<=200/\10∉r:=aE ⟨by show ([104,111,109,101,32]++h).length<=_;rw[NC,dD hh];decide,fun z=>by
  rcases NS.mp z with z|z
  .exact absurd z (by decide)
  .exact absurd ((dZ hh).1 10 z).1 (by decide)⟩ fun r hr=>⟨NK (ra.1 r hr).l (by decide),(ra.1 r hr).n⟩
 have rb:(cp (T.map .acc++[.entry t note ls])).length<=800:=by rw[dl] at ra;omega
 have tl:=Fj (k:=200) (aJ:=B2 h::cp (T.map .acc++[.entry t note ls])) fun r hr=>(rl r hr).1;rw[NI] at tl;refine Ag (hr:=B2 h) (body:=cp (T.map .acc++[.entry t note ls])) (by show (sG _).length<=_;exact NK tl (NK (OB _ (Nat.add_le_add_right (rb) _)) (NH rfl))) ?_ (NK (rb) (NH rfl)) (fun r hr=>NK (rl r hr).1 (by decide)) (yL hh) ?_ hh (by rw[dl];exact uX l2) ?_
 .have e:=zO (X:=[]) (aJ:=B2 h::cp (T.map .acc++[.entry t note ls])) fun r hr=>(rl r hr).2;rw[List.append_nil] at e;exact e
 .have e:=uT (t:=[]) ok;rw[List.append_nil] at e;exact e.trans (by show some (_++[])=_;rw[List.append_nil])
 .have r1:=FE (h:=h) T [] (fun x hx=>⟨hN.nm x hx,fun z=>by rw[NG.mp z] at hx;exact hN.ne hx⟩) hN.nd (by rw[Oo];exact NK (Oe (l2) _) (NH rfl));rw[List.nil_append,Fs] at r1;exact r1.snoc fun d σ n B=>xt B (lx (v:=.d (.lst (ls.map aA))) B (zV (qp l2)) (nD (by rw[Nz];exact As hl)) ht rfl hn hd)
end
section
variable {l:aQ} {a c:Tx}
theorem Bh {l:CL} (h0:o.ev (KK d hd) ρ σ=some (.ok x,σ1)) (hx:Hr x σ1=some (.ok (),σ1)) (h:l.ev (KK d hd) ρ σ1=some (.ok xs,σ1)) (k:CC d hd m (x::xs) σ1=z):(meth o m l).ev (KK d hd) ρ σ=z:=aB h0 (aB hx (aB h k))
theorem jc {o:CO} {a b:CE} {w:D} (h1:a.ev K ρ σ=some (.ok x,σ1)) (h2:Ev K b ρ σ1 y) (r1:rd σ1 x=some u) (r2:rd σ1 y=some w) (h:o.g u w=some q):(aF o a b).ts K ρ σ=some (.ok q,σ1):=aB h1 (aB h2 (uj h r1 r2))
theorem FR {a:CT} {l:sE .Or} {z:Option (R Bool×av)} (h:Ts K a ρ σ false) (k:l.ts K ρ σ=z):(aW a l).ts K ρ σ=z:=aB h k
theorem FT {a:CT} (h:a.ts K ρ σ=some (.ok false,σ1)):(aW a cw).ts K ρ σ=some (.ok false,σ1):=aB h rfl
theorem Du {t:CT} {a:CS} {z:Option (Out×av)} (h:t.ts K ρ σ=some (.ok false,σ1)) (k:b.ex K ρ σ1=z):(cf t a b).ex K ρ σ=z:=db h k
theorem zG {l:sE .Or} {z:Option (R Bool×av)} (h:l.ts K ρ σ=z):(fN l).ts K ρ σ=z:=h
theorem gA (b:Bk σ n S) (sh:Sh S):CC (d+1) false 1 [.p n 0] σ=some (.ok (.d (.int S.made.length)),σ):=bA rfl rfl rfl (aS (aT (tJ b sh rfl))) (tk _)
theorem D7 {A:PO} {l:List D} (h:Ev K e ρ [A,.fld (.list l)] (.p 1 0)) (hl:l.length<=1000):(bm u7 e ao).ev K ρ [A,.fld (.list l)]=some (.ok (.d .none),[A,.fld (.list [])]):=by
 refine aB h (aB (a:=[]) (σ':=[A,.fld (.list l)]) rfl ?_);show ((aq (l.length<=cS) (cB.list [])).map fun f'=>(R.ok (PV.d .none),eT [A,.fld (.list l)] 1 0 f'))=_;rw[aM (bj hl)];rfl
theorem DQ {A:PO} {m:List D} {b:CE} (h:Ev K e ρ [A,.fld (.list []),B] (.p 1 0)) (h2:Ev K b ρ [A,.fld (.list []),B] (.d (.lst m))) (hl:m.length<=1000):(bm ru e (aj b ao)).ev K ρ [A,.fld (.list []),B]=some (.ok (.d .none),[A,.fld (.list m),B]):=by
 refine aB h (aB (b7 h2) ?_);show ((aq (0+m.length<=cS) (cB.list ([]++m))).map fun f'=>(R.ok (PV.d .none),eT [A,.fld (.list []),B] 1 0 f'))=_;rw[aM (by rw[Oq];exact bj hl)];rfl
noncomputable def nT (l:aQ):aQ:=(l.1,l.2.1,0 - l.2.2)
theorem zS {a:Option Tx}:∀ ls:List aQ,iF a c (ls.map nT)= - iF a c ls:=by
 intro ls
 induction ls with
 |nil=>rfl
 |cons l ls ih=>
  rw[List.map_cons,jf,jf,ih,show hit a c (nT l)=hit a c l from rfl];by_cases q:hit a c l=true
  .rw[if_pos q,if_pos q];show (0 - l.2.2)+_=_;omega
  .rw[if_neg q,if_neg q];omega
open Classical in
theorem ua (hl:2<=ls.length/\ls.length<=60) (h:∀ l∈ls,gM Ns l=none) (z:kh ls):gj Ns ls=none:=by
 unfold gj;rw[if_neg (by omega),List.findSome?_eq_none_iff.mpr h,if_pos z];rfl
theorem DW (h:gj Ns ls=none):gj Ns (ls.map nT)=none:=by
 obtain ⟨h1,h2,h3⟩:=iW h;refine ua (by rw[Nz];exact h1) (fun l hl=> ?_) fun l hl=> ?_
 .obtain ⟨k,hk,rfl⟩:=NQ.mp hl;have q:=gK (S:={st0 [] with names:=Ns}) (h2 k hk);have qa:eg (0 - k.2.2)=true:=by
   obtain ⟨a1,a2⟩:=ni.mp q.a;refine ni.mpr ⟨by omega,?_⟩;split at a2<;>split<;>omega
  unfold gM;rw[if_pos (show (nT k).1∈Ns from q.n),if_pos (show br (nT k).2.1=true from q.c),if_pos (show eg (nT k).2.2=true from qa)]
 .rw[<-mP,zS,mP,h3.all];rfl
theorem JV {t1 t2 t3:Int} {n1 n2 n3:Tx} (h:S.made=[⟨1,t1,n1,ls,0⟩,⟨2,t2,n2,ls.map nT,0⟩,⟨3,t3,n3,ls,0⟩]):total S a c none=iF (some a) c ls:=by
 unfold total;rw[h];show List.foldl (sy a c) (List.foldl (sy a c) (List.foldl (sy a c) 0 ls) (ls.map nT)) ls=_;rw[nk,nk,nk,zS];omega
theorem r5 {E:Hi} {i:CE} {tp:CE} (b:Bk σ n S) (sh:Sh S) (h0:Ev (KK (d+1) false) e ρ σ (.p n 0)) (hi:Ev (KK (d+1) false) i ρ σ (.d (.int ((k:Int)+1)))) (h:S.made[k]? =some E) (ht:Ev (KK (d+1) false) tp ρ σ (.d (r6 E))):Ts (KK (d+1) false) (aF fo (meth e 8 (aj i ao)) tp) ρ σ false:=
 ak (bx b h0 (b7 hi) (jr b sh h)) ht rfl rfl (qr rfl rj rfl)
theorem js {k:Int} {x1 x2 x3 x4 x5:CE} (hl:ls.length<=1000) (h1:Ev K x1 ρ σ (.d (.int k))) (h2:Ev K x2 ρ σ (.d (.int t))) (h3:Ev K x3 ρ σ (.d (.str note))) (h4:Ev K x4 ρ σ (.d (.lst (ls.map aA)))) (h5:Ev K x5 ρ σ (.d (.int 0))):Ev K (bE (aj x1 (aj x2 (aj x3 (aj (bi dN (aj x4 ao)) (aj x5 ao)))))) ρ σ (.d (r6 ⟨k,t,note,ls,0⟩)):=bW (ds:=[.int k,.int t,.str note,.tup (ls.map aA),.int 0]) (bT h1 (bT h2 (bT h3 (bT (wx hl h4) (b7 h5)))))
end
section
noncomputable abbrev pR (T F:List Tx) (t:Int) (note:Tx) (ls:List aQ) (x6 x7 x8 x9 x10:Option PV):bb:=[qV 0,dV (.lst ((bu::T).map .str)),dV (.lst (F.map .str)),iV t,sV note,dV (.lst (ls.map aA)),x6,x7,x8,x9,x10,none,none,none]
theorem uR (hN:N4 T) (hh:br h=true) (hF:∀ c∈F,br c=true) (f1:1<=F.length) (f8:F.length<=8) (ht:b' t) (hn:dG note) (hd:gj (bu::T) ls=none):∃ σ',CC (d+7) false 117 [.p 0 0,.d (.lst ((bu::T).map .str)),.d (.lst (F.map .str)),.d (.int t),.d (.str note),.d (.lst (ls.map aA))] [bk (cD h T)]=some (.ok (.d (.bool true)),σ'):=by
 obtain ⟨hl,hb,hz⟩:=iW hd;have l2:=hN.l2;have hlm:(ls.map aA).length=ls.length:=Nz ..;have Nl:(bu::T).length<=1000:=by rw[NI];exact uX l2
 obtain ⟨c0,Ft,rfl⟩:∃ a t,F=a::t:=by
  cases F with
  |nil=>exact absurd f1 (by decide)
  |cons a t=>exact ⟨a,t,rfl⟩
 have hc0:=hF c0 (.head _)
 let S1:=iK (cD h T) t note ls
 let tn:=ls.map nT
 let S2:=iK S1 (99999 - t) [] tn
 let S3:=iK S2 5 note ls
 have tl:tn.length=ls.length:=Nz ..;have sh1':Sh S1:=⟨Nl,N3 _,by show ([]++[_]).length<=_;exact (by decide:1<=1000),N3 _,N3 _,by show (T.map kg++[_]).length<=_;rw[NC,Nz];show _+1<=_;exact uX l2⟩;have sh2:Sh S2:=⟨Nl,N3 _,(by decide:2<=1000),N3 _,N3 _,by show ((T.map kg++[_])++[_]).length<=_;rw[NC,NC,Nz];show _+1+1<=_;exact EO l2⟩;have sh3:Sh S3:=⟨Nl,N3 _,(by decide:3<=1000),N3 _,N3 _,by show (((T.map kg++[_])++[_])++[_]).length<=_;rw[NC,NC,NC,Nz];show _+1+1+1<=_;exact NK (Nat.add_le_add_right (Nat.add_le_add_right (Nat.add_le_add_right (l2) _) _) _) (NH rfl)⟩
 /- the first post -/
 have a1:(aG 6 (bi oJ (aj (ag 5) ao))).ex (KK (d+6) false) (pR T (c0::Ft) t note ls none none none none none) [bk (cD h T)]=some (.next (pR T (c0::Ft) t note ls (qV 1) none none none none),[bk (cD h T),.fld (.list (ls.map aA))]):=az (rt (v:=.d (.lst (ls.map aA))) (nD (nO hl hlm)) rfl (As hl)) rfl;have p1:=lx (d:=d+3) (σ:=[bk (cD h T),.fld (.list (ls.map aA))]) (n:=0) (S:=cD h T) (v:=.p 1 0) rfl (zV (qp l2)) (sQ rfl (nO hl hlm)) ht rfl hn hd;have a2:kH.ex (KK (d+6) false) (pR T (c0::Ft) t note ls (qV 1) none none none none) [bk (cD h T),.fld (.list (ls.map aA))]=some (.next (pR T (c0::Ft) t note ls (qV 1) (iV 1) none none none),[bk S1,.fld (.list (ls.map aA))]):=az (bx (S:=cD h T) (n:=0) rfl rfl rfl p1) rfl;have a3:kG.ex (KK (d+6) false) (pR T (c0::Ft) t note ls (qV 1) (iV 1) none none none) [bk S1,.fld (.list (ls.map aA))]=some (.next (pR T (c0::Ft) t note ls (qV 1) (iV 1) none none none),[bk S1,.fld (.list (ls.map aA))]):=
  aY (bc (a_ (ft (cU (bg (eC (x:=1)) rfl))) (a_ (ak rfl rfl rfl rfl (iw rfl)) (a_ (ak rfl rfl rfl rfl (qr rfl (uS ls) rfl)) rfl)))) rfl
 have a4:(aZ (bm u7 (ag 6) ao)).ex (KK (d+6) false) (pR T (c0::Ft) t note ls (qV 1) (iV 1) none none none) [bk S1,.fld (.list (ls.map aA))]=some (.next (pR T (c0::Ft) t note ls (qV 1) (iV 1) none none none),[bk S1,.fld (.list [])]):=aV (D7 rfl (nO hl hlm))
 /- read back -/
 have wr:=iz (d:=d+3) (σ:=[bk S1,.fld (.list [])]) (n:=0) (S:=S1) (ds:=T.map .acc++[.entry t note ls]) rfl hh (by show T.map kg++[dH t note ls]=_;rw[List.map_append,List.map_map];rfl) (fun x hx=>by
  rcases NS.mp hx with hx|hx
  .obtain ⟨a,ha,rfl⟩:=NQ.mp hx;exact ⟨hN.nm a ha,.inl ⟨a,rfl⟩⟩
  .rw[NG.mp hx];refine ⟨⟨ht,hn,hl.2,fun l hl=> ?_⟩,.inr ⟨t,note,ls,rfl⟩⟩;have q:=gK (S:=cD h T) (hb l hl);exact ⟨(NB.mp q.n).imp id (hN.nm _),q.c,q.a⟩) (by rw[NC,Nz];show _+1<=_;exact NK (Nat.add_le_add_right (l2) _) (NH rfl))
 have rd':=BN (d:=d) (a:=bk S1) (b:=.fld (.list [])) hN hh ht hn hd;have en:=jr (d:=d+5) (hd:=false) (σ:=[bk S1,.fld (.list []),bk S1]) (n:=2) (S:=S1) (k:=0) (t:=⟨1,t,note,ls,0⟩) rfl sh1' rfl;have a5:kF.ex (KK (d+6) false) (pR T (c0::Ft) t note ls (qV 1) (iV 1) none none none) [bk S1,.fld (.list [])]=some (.next (pR T (c0::Ft) t note ls (qV 1) (iV 1) none none none),[bk S1,.fld (.list []),bk S1]):=
  Du (jc (Bh (xs:=[.d (.int 1)]) (bg rd' (b7 (bg wr rfl))) (AV (S:=S1) rfl) rfl en) (js (As hl) rfl rfl rfl rfl rfl) rfl rfl (qr rfl rj rfl)) rfl
 /- told,balances -/
 have en0:=jr (d:=d+5) (hd:=false) (σ:=[bk S1,.fld (.list []),bk S1]) (n:=0) (S:=S1) (k:=0) (t:=⟨1,t,note,ls,0⟩) rfl sh1' rfl;have td:=zH (d:=d+4) (σ:=[bk S1,.fld (.list []),bk S1]) (t:=t) (note:=note) (ls:=ls) (As hl);have bl:=kZ (d:=d+3) (σ:=[bk S1,.fld (.list []),bk S1]) (n:=0) (S:=S1) (ls:=ls) (t:=t) (F:=c0::Ft) (Ns:=bu::T) rfl sh1' (Ef (note:=note) rfl) (As hl) ht hF (NK f8 (NH rfl)) (fun a ha=>ha) Nl;have a6:kE.ex (KK (d+6) false) (pR T (c0::Ft) t note ls (qV 1) (iV 1) none none none) [bk S1,.fld (.list []),bk S1]=some (.next (pR T (c0::Ft) t note ls (qV 1) (iV 1) none none none),[bk S1,.fld (.list []),bk S1]):=
  aY (bc (a_ (ft (cU (bg td (bT (bx (S:=S1) (n:=0) rfl rfl (b7 rfl) en0) (bT rfl (bT rfl (b7 rfl))))))) (a_ (ft (cU (bg bl rfl))) rfl))) rfl
 have it:items (.lst (ls.map aA))=some (ls.map aA):=if_pos (by rw[hlm];exact bj (As hl));have cm:=d8 (K:=KK (d+6) false) (ρ:=pR T (c0::Ft) t note ls (qV 1) (iV 1) none none none) (σ:=[bk S1,.fld (.list []),bk S1]) (i:=13) (bM:=bE (aj (sub (ag 13) (ah 0)) (aj (sub (ag 13) (ah 1)) (aj (aP d4 (ah 0) (sub (ag 13) (ah 2))) ao)))) (y:=.lst (ls.map aA)) aA (fun l=>aA (nT l)) ls [] (fun l _=>bW rfl) (by rw[Oo];exact Ih hl);rw[List.nil_append,show ls.map (fun l=>aA (nT l))=tn.map aA by rw[List.map_map];rfl] at cm;have a7:kD.ex (KK (d+6) false) (pR T (c0::Ft) t note ls (qV 1) (iV 1) none none none) [bk S1,.fld (.list []),bk S1]=some (.next (pR T (c0::Ft) t note ls (qV 1) (iV 1) (dV (.lst (tn.map aA))) none none),[bk S1,.fld (.list []),bk S1]):=sW (dy (it:=ag 5) rfl (eq it) cm) rfl;have tlm:(tn.map aA).length=ls.length:=by rw[Nz];exact tl
 have a8:(aZ (bm ru (ag 6) (aj (ag 8) ao))).ex (KK (d+6) false) (pR T (c0::Ft) t note ls (qV 1) (iV 1) (dV (.lst (tn.map aA))) none none) [bk S1,.fld (.list []),bk S1]=some (.next (pR T (c0::Ft) t note ls (qV 1) (iV 1) (dV (.lst (tn.map aA))) none none),[bk S1,.fld (.list (tn.map aA)),bk S1]):=aV (DQ rfl rfl (nO hl tlm))
 /- the cJ posts -/
 have p2:=lx (d:=d+3) (σ:=[bk S1,.fld (.list (tn.map aA)),bk S1]) (n:=0) (S:=S1) (v:=.p 1 0) (t:=99999 - t) (note:=[]) (ls:=tn) rfl sh1' (sQ rfl (nO hl tlm)) ⟨by have:=ht.2;omega,by have:=ht.1;omega⟩ rfl ⟨by decide,aX⟩ (DW hd);have a9:kC.ex (KK (d+6) false) (pR T (c0::Ft) t note ls (qV 1) (iV 1) (dV (.lst (tn.map aA))) none none) [bk S1,.fld (.list (tn.map aA)),bk S1]=some (.next (pR T (c0::Ft) t note ls (qV 1) (iV 1) (dV (.lst (tn.map aA))) (iV 2) none),[bk S2,.fld (.list (tn.map aA)),bk S1]):=az (bx (S:=S1) (n:=0) rfl rfl rfl p2) rfl;have p3:=lx (d:=d+3) (σ:=[bk S2,.fld (.list (tn.map aA)),bk S1]) (n:=0) (S:=S2) (v:=.d (.tup (ls.map aA))) (t:=5) (note:=note) (ls:=ls) rfl sh2 (EH (nO hl hlm)) ⟨by decide,by decide⟩ rfl hn hd;have mn:=gA (d:=d+5) (σ:=[bk S2,.fld (.list (tn.map aA)),bk S1]) (n:=0) (S:=S2) rfl sh2;have a10:jG.ex (KK (d+6) false) (pR T (c0::Ft) t note ls (qV 1) (iV 1) (dV (.lst (tn.map aA))) (iV 2) none) [bk S2,.fld (.list (tn.map aA)),bk S1]=some (.next (pR T (c0::Ft) t note ls (qV 1) (iV 1) (dV (.lst (tn.map aA))) (iV 2) none),[bk S3,.fld (.list (tn.map aA)),bk S1]):=
  Du (zG (FR (ft (cU (bg (eC (x:=2)) rfl))) (FR (ak rfl rfl rfl rfl (iw rfl)) (FR (ak (bx (S:=S2) (n:=0) rfl rfl rfl mn) rfl rfl rfl (iw rfl)) (FT (jc (bx (S:=S2) (n:=0) rfl rfl (bT rfl (bT rfl (b7 (wx (As hl) rfl)))) p3) rfl rfl rfl (iw rfl))))))) rfl
 have B3:Bk [bk S3,.fld (.list (tn.map aA)),bk S1] 0 S3:=rfl;have a11:jF.ex (KK (d+6) false) (pR T (c0::Ft) t note ls (qV 1) (iV 1) (dV (.lst (tn.map aA))) (iV 2) none) [bk S3,.fld (.list (tn.map aA)),bk S1]=some (.next (pR T (c0::Ft) t note ls (qV 1) (iV 1) (dV (.lst (tn.map aA))) (iV 2) none),[bk S3,.fld (.list (tn.map aA)),bk S1]):=
  aY (bc (a_ (r5 (d:=d+5) (k:=0) (E:=⟨1,t,note,ls,0⟩) B3 sh3 rfl rfl rfl (js (As hl) rfl rfl rfl rfl rfl)) (a_ (r5 (d:=d+5) (k:=2) (E:=⟨3,5,note,ls,0⟩) B3 sh3 rfl rfl rfl (js (As hl) rfl rfl rfl rfl rfl)) rfl))) rfl
 have a12:jE.ex (KK (d+6) false) (pR T (c0::Ft) t note ls (qV 1) (iV 1) (dV (.lst (tn.map aA))) (iV 2) none) [bk S3,.fld (.list (tn.map aA)),bk S1]=some (.next (pR T (c0::Ft) t note ls (qV 1) (iV 1) (dV (.lst (tn.map aA))) (iV 2) none),[bk S3,.fld (.list (tn.map aA)),bk S1]):=
  aY (r5 (d:=d+5) (k:=1) (E:=⟨2,99999 - t,[],tn,0⟩) B3 sh3 rfl rfl rfl (js (nO hl tl) rfl rfl rfl rfl rfl)) rfl
 /- the balances at the end -/
 let c0s:Tx:=c0
 have itN:items (.lst ((bu::T).map .str))=some ((bu::T).map .str):=if_pos (by rw[Nz];exact bj Nl);have c13:=d8 (K:=KK (d+6) false) (ρ:=pR T (c0::Ft) t note ls (qV 1) (iV 1) (dV (.lst (tn.map aA))) (iV 2) none) (σ:=[bk S3,.fld (.list (tn.map aA)),bk S1]) (i:=12) (bM:=au 111 (aj (ag 5) (aj (ag 12) (aj (sub (ag 2) (ah 0)) ao)))) (y:=.lst ((bu::T).map .str)) D.str (fun a=>.int (iF (some a) c0 ls)) (bu::T) [] (fun a _=>bg (q8 (a:=some a) (c:=c0) (As hl)) (bT rfl (bT rfl (b7 (bB rfl rfl rfl rfl (c5 (k:=0) rfl)))))) (by rw[Oo];exact Kw Nl);rw[List.nil_append] at c13;have a13:jD.ex (KK (d+6) false) (pR T (c0::Ft) t note ls (qV 1) (iV 1) (dV (.lst (tn.map aA))) (iV 2) none) [bk S3,.fld (.list (tn.map aA)),bk S1]=some (.next (pR T (c0::Ft) t note ls (qV 1) (iV 1) (dV (.lst (tn.map aA))) (iV 2) (dV (.lst ((bu::T).map fun a=>.int (iF (some a) c0 ls))))),[bk S3,.fld (.list (tn.map aA)),bk S1]):=sW (dy (it:=ag 1) rfl (eq itN) c13) rfl;have c14:=d8 (K:=KK (d+6) false) (ρ:=pR T (c0::Ft) t note ls (qV 1) (iV 1) (dV (.lst (tn.map aA))) (iV 2) (dV (.lst ((bu::T).map fun a=>.int (iF (some a) c0 ls))))) (σ:=[bk S3,.fld (.list (tn.map aA)),bk S1]) (i:=11) (bM:=meth (ag 0) 27 (aj (ag 11) (aj (sub (ag 2) (ah 0)) ao))) (y:=.lst ((bu::T).map .str)) D.str (fun a=>.int (iF (some a) c0 ls)) (bu::T) [] (fun a ha=>by
  have e:=mw (d:=d+4) (a:=a) (c:=c0) B3 sh3 ha hc0;rw[JV (S:=S3) (ls:=ls) (t1:=t) (t2:=99999 - t) (t3:=5) (n1:=note) (n2:=[]) (n3:=note) rfl] at e;exact bx B3 rfl (bT rfl (b7 (bB rfl rfl rfl rfl (c5 (k:=0) rfl)))) e) (by rw[Oo];exact Kw Nl)
 rw[List.nil_append] at c14;have last:Ev (KK (d+6) false) (qd c9 (ag 10) (jm false (gk 11 (ag 1) cR (meth (ag 0) 27 (aj (ag 11) (aj (sub (ag 2) (ah 0)) ao)))))) (pR T (c0::Ft) t note ls (qV 1) (iV 1) (dV (.lst (tn.map aA))) (iV 2) (dV (.lst ((bu::T).map fun a=>.int (iF (some a) c0 ls))))) [bk S3,.fld (.list (tn.map aA)),bk S1] (.d (.bool true)):=gi rfl (mo (dy rfl (eq itN) c14)) rfl rfl (xq rfl (CQ (bu::T) fun a=>iF (some a) c0 ls) rfl);have all:qu.ex (KK (d+6) false) (pR T (c0::Ft) t note ls none none none none none) [bk (cD h T)]=some (.ret (.d (.bool true)),[bk S3,.fld (.list (tn.map aA)),bk S1]):=aa a1 (aa a2 (aa a3 (aa a4 (aa a5 (aa a6 (aa a7 (aa a8 (aa a9 (aa a10 (aa a11 (aa a12 (aa a13 (aS (aT last))))))))))))));exact ⟨_,bA rfl rfl rfl all rfl⟩
end
section
noncomputable abbrev bR (T F:List Tx) (t:Int) (note:Tx) (ls:List aQ) (due:Tx) (x6 x7 x8:Option PV):bb:=[qV 0,dV (.lst ((bu::T).map .str)),dV (.lst (F.map .str)),dV (.lst [.int t,.str note]),dV (.lst (ls.map aA)),sV due,x6,x7,x8,none]
noncomputable abbrev G5:CS:=sC (aG 7 (aP a' (meth (ag 0) 1 ao) (ah 1))) (sC gb (sC f_ (sC jJ sN)))
theorem oz {a0 c0:Tx} {Tt Ft:List Tx} (sh:Sh S) (he:S.ends=[]) (ml:S.made.length<=100) (dl:S.deeds.length<=900) (h0:bu∈S.names) (h1:a0∈S.names) (hc:br c0=true):∃ σ',G5.ex (KK (d+4) false) (bR (a0::Tt) (c0::Ft) t note ls due x6 none none) [bk S]=some (.ret (.d (.bool true)),σ'):=by
 let gd:List aQ:=[(bu,c0,5),(a0,c0,-5)]
 have du:gj S.names gd=none:=ua ⟨by show 2<=2;decide,by show 2<=60;decide⟩ (aE ((if_pos h0).trans ((if_pos hc).trans (if_pos (by decide:eg 5=true)))) (aE ((if_pos h1).trans ((if_pos hc).trans (if_pos (by decide:eg (-5)=true)))) aX)) (by
  have z:cz c0 gd=0:=by
   have q:∀ (a:Tx) (i:Int),hit none c0 (a,c0,i)=true:=fun a i=>NP rfl;rw[<-mP,jf,jf,if_pos (q _ _),if_pos (q _ _)];rfl
  exact aE z (aE z aX))
 let S':=iK S 7 [103,111,111,100] gd
 have sh':Sh S':=⟨sh.n,sh.t,by show (S.made++[_]).length<=_;rw[NC];show _+1<=_;exact NK (Nat.add_le_add_right (ml) _) (NH rfl),sh.g,sh.e,by show (S.deeds++[_]).length<=_;rw[NC];show _+1<=_;exact Ii dl⟩;have p:=lx (d:=d+1) (σ:=[bk S]) (n:=0) (S:=S) (v:=.d (.lst (gd.map aA))) (t:=7) (note:=[103,111,111,100]) (ls:=gd) rfl sh (nD (by show 2<=1000;decide)) ⟨by decide,by decide⟩ he ⟨by decide,by decide⟩ du;have m1:=gA (d:=d+3) (σ:=[bk S]) (n:=0) (S:=S) rfl sh;have m2:=gA (d:=d+3) (σ:=[bk S']) (n:=0) (S:=S') rfl sh';have ml':S'.made.length=S.made.length+1:=by show (S.made++[_]).length=_;rw[NC];rfl
 rw[ml'] at m2;have en:=jr (d:=d+3) (hd:=false) (σ:=[bk S']) (n:=0) (S:=S') (k:=S.made.length) (t:=⟨S.made.length+1,7,[103,111,111,100],gd,0⟩) rfl sh' (by show (S.made++[_])[S.made.length]? =_;rw[NX (NM _),Nat.sub_self];rfl);have s2:(aG 7 (aP a' (meth (ag 0) 1 ao) (ah 1))).ex (KK (d+4) false) (bR (a0::Tt) (c0::Ft) t note ls due x6 none none) [bk S]=some (.next (bR (a0::Tt) (c0::Ft) t note ls due x6 (iV (S.made.length+1)) none),[bk S]):=az (aR (bx (S:=S) (n:=0) rfl rfl rfl m1) rfl rfl rfl rfl) rfl;have s3:gb.ex (KK (d+4) false) (bR (a0::Tt) (c0::Ft) t note ls due x6 (iV (S.made.length+1)) none) [bk S]=some (.next (bR (a0::Tt) (c0::Ft) t note ls due x6 (iV (S.made.length+1)) (dV (.lst (gd.map aA)))),[bk S]):=az (cN (ds:=gd.map aA) (bT (bW (ds:=[.str bu,.str c0,.int 5]) (bT (bB rfl rfl rfl rfl (c5 (k:=0) rfl)) (bT (bB rfl rfl rfl rfl (c5 (k:=0) rfl)) (b7 rfl)))) (b7 (bW (ds:=[.str a0,.str c0,.int (-5)]) (bT (bB rfl rfl rfl rfl (c5 (k:=1) rfl)) (bT (bB rfl rfl rfl rfl (c5 (k:=0) rfl)) (b7 (oP rfl))))))) rfl (by show 2<=1000;decide)) rfl;have s4:f_.ex (KK (d+4) false) (bR (a0::Tt) (c0::Ft) t note ls due x6 (iV (S.made.length+1)) (dV (.lst (gd.map aA)))) [bk S]=some (.next (bR (a0::Tt) (c0::Ft) t note ls due x6 (iV (S.made.length+1)) (dV (.lst (gd.map aA)))),[bk S']):=
  Du (zG (aB (jc (bx (S:=S) (n:=0) rfl rfl rfl p) rfl rfl rfl (iw rfl)) (FT (jc (bx (S:=S') (n:=0) rfl rfl rfl m2) rfl rfl rfl (iw rfl))))) rfl
 exact ⟨_,aa s2 (aa s3 (aa s4 (aS (aT (gi (bx (S:=S') (n:=0) rfl rfl rfl en) (js (ls:=gd) (by show 2<=1000;decide) rfl rfl rfl rfl rfl) rfl rfl (xq rfl rj rfl))))))⟩
open Classical in
theorem xr (h:gj Ns ls=some k):k∈EI:=by
 unfold gj at h;by_cases q:ls.length<2∨60<ls.length
 .rw[if_pos q] at h;cases h;decide
 rw[if_neg q] at h;cases f:ls.findSome? (gM Ns) with
 |some j=>
  rw[f] at h;cases h;obtain ⟨l,_,e⟩:=List.exists_of_findSome?_eq_some f;unfold gM at e;by_cases q1:l.1∈Ns
  .rw[if_pos q1] at e;by_cases q2:br l.2.1=true
   .rw[if_pos q2] at e;by_cases q3:eg l.2.2=true
    .rw[if_pos q3] at e;cases e
    .rw[if_neg q3] at e;cases e;decide
   .rw[if_neg q2] at e;cases e;decide
  .rw[if_neg q1] at e;cases e;decide
 |none=>
  rw[f] at h;have h:(if kh ls then none else some 7)=some k:=h;by_cases z:kh ls
  .rw[if_pos z] at h;cases h
  .rw[if_neg z] at h;cases h;decide
theorem CY:gf jS:=⟨115,[116,114,97,110,103,101,114],rfl,by decide,by decide,by decide⟩
theorem wO {o:Option Nat} (h:u0 o=[]) (q:∀ k,o=some k->k∈EI):o=none:=by
 cases o with
 |none=>rfl
 |some k=>
  have:∀ k∈EI,u0 (some k)≠[]:=by decide
  exact absurd h (this k (q k rfl))
theorem v_ (hN:N4 T) (hF:∀ c∈F,br c=true) (f1:1<=F.length) (hp:∀ l∈ls,dY l.2.1) (hl:ls.length<=200) (hd:due=Hq->b' t/\dG note):∃ σ',CC (d+5) false 113 [.p 0 0,.d (.lst ((bu::T).map .str)),.d (.lst (F.map .str)),.d (.lst [.int t,.str note]),.d (.lst (ls.map aA)),.d (.str due)] [bk (cD h T)]=some (.ok (.d (.bool true)),σ'):=by
 have l2:=hN.l2;obtain ⟨c0,Ft,rfl⟩:∃ a t,F=a::t:=by
  cases F with
  |nil=>exact absurd f1 (by decide)
  |cons a t=>exact ⟨a,t,rfl⟩
 have hc0:=hF c0 (.head _);obtain ⟨a0,Tt,rfl⟩:∃ a t,T=a::t:=by
  cases T with
  |nil=>exact absurd hN.l1 (by decide)
  |cons a t=>exact ⟨a,t,rfl⟩
 have hlm:(ls.map aA).length=ls.length:=Nz ..;have it:items (.lst (ls.map aA))=some (ls.map aA):=if_pos (by rw[hlm];exact bj (NK (hl) (NH rfl)));have fin:∀ {σ'},n8.ex (KK (d+4) false) (bR (a0::Tt) (c0::Ft) t note ls due none none none) [bk (cD h (a0::Tt))]=some (.ret (.d (.bool true)),σ')->∃ σ',CC (d+5) false 113 [.p 0 0,.d (.lst ((bu::a0::Tt).map .str)),.d (.lst ((c0::Ft).map .str)),.d (.lst [.int t,.str note]),.d (.lst (ls.map aA)),.d (.str due)] [bk (cD h (a0::Tt))]=some (.ok (.d (.bool true)),σ'):=fun e=>⟨_,bA rfl rfl rfl e rfl⟩;have cm:=d8 (K:=KK (d+4) false) (ρ:=bR (a0::Tt) (c0::Ft) t note ls due none none none) (σ:=[bk (cD h (a0::Tt))]) (i:=9) (bM:=sub (ag 9) (ah 0)) (y:=.lst (ls.map aA)) aA (fun l=>.str l.1) ls [] (fun l _=>rfl) (by rw[Oo];exact NK (Oe (hl) _) (NH rfl));rw[List.nil_append,show ls.map (fun l:aQ=>D.str l.1)=(ls.map fun l=>l.1).map .str by rw[List.map_map];rfl] at cm;have ln:Ev (KK (d+4) false) (jm false (gk 9 (ag 4) cR (sub (ag 9) (ah 0)))) (bR (a0::Tt) (c0::Ft) t note ls due none none none) [bk (cD h (a0::Tt))] (.d (.lst ((ls.map fun l=>l.1).map .str))):=mo (dy rfl (eq it) cm);by_cases q:due=Hq/\jS∈ls.map fun l=>l.1
 case neg=>
  obtain ⟨σ',e⟩:=oz (d:=d) (S:=cD h (a0::Tt)) (a0:=a0) (Tt:=Tt) (Ft:=Ft) (t:=t) (note:=note) (ls:=ls) (due:=due) (x6:=none) (zV (qp l2)) rfl (N3 _) (by show ((a0::Tt).map kg).length<=_;rw[Nz];exact qp l2) (.head _) (.tail _ (.head _)) hc0;refine fin (aa (aY (cI ?_) rfl) e);by_cases z:due=Hq
  .exact ee (ak rfl rfl rfl rfl (iq z)) (eX (ak rfl ln rfl rfl (Gy fun y=>q ⟨z,y⟩)))
  .exact eX (ak rfl rfl rfl rfl (fU z))
 obtain ⟨q1,q2⟩:=q;obtain ⟨ht,hn⟩:=hd q1;have hs:jS∉bu::a0::Tt:=fun z=>(NB.mp z).elim (by decide) hN.st;have e1:sw (cD h (a0::Tt)) jS=cD h (a0::Tt++[jS]):=by show St.mk ..=St.mk ..;rw[List.map_append];rfl
 have ad:=pq (d:=d+2) (σ:=[bk (cD h (a0::Tt))]) (n:=0) (S:=cD h (a0::Tt)) rfl (zV (qp l2)) CY hs;rw[e1] at ad;generalize hT:a0::Tt++[jS]=T1 at ad;have T1l:T1.length<=13:=by rw[<-hT,NC];show (a0::Tt).length+1<=_;exact Ow l2
 have jd:=on (d:=d+2) (σ:=[bk (cD h T1)]) (Ns:=bu::T1) (ls:=ls) hp (ta hl) (by rw[NI];exact At T1l);have c1:(aZ (meth (ag 0) 37 (aj (aC OF) ao))).ex (KK (d+4) false) (bR (a0::Tt) (c0::Ft) t note ls due none none none) [bk (cD h (a0::Tt))]=some (.next (bR (a0::Tt) (c0::Ft) t note ls due none none none),[bk (cD h T1)]):=aV (bx (S:=cD h (a0::Tt)) (n:=0) rfl rfl rfl ad);have nm:Ev (KK (d+4) false) (aP a' (ag 1) (cF (aj (aC OF) ao))) (bR (a0::Tt) (c0::Ft) t note ls due none none none) [bk (cD h T1)] (.d (.lst ((bu::T1).map .str))):=by
  rw[<-hT,<-List.cons_append,List.map_append];exact aR rfl (cN rfl) rfl rfl (j7 (by rw[Nz];show (bu::a0::Tt).length+1<=_;rw[NI];exact EO l2))
 have c2:(aG 6 (au 112 (aj (aP a' (ag 1) (cF (aj (aC OF) ao))) (aj (ag 4) ao)))).ex (KK (d+4) false) (bR (a0::Tt) (c0::Ft) t note ls due none none none) [bk (cD h T1)]=some (.next (bR (a0::Tt) (c0::Ft) t note ls due (sV (u0 (gj (bu::T1) ls))) none none),[bk (cD h T1)]):=az (bg jd (bT nm (b7 rfl))) rfl;have src:=nD (σ:=[bk (cD h T1)]) (l:=ls.map aA) (wL hl hlm);have mem1:bu∈bu::T1:=.head _;have mem2:a0∈bu::T1:=by rw[<-hT];exact .tail _ (.head _)
 have tt:Ts (KK (d+4) false) (kr (cC (aF c9 (ag 5) (aC OJ)) (cC (aF Jk (aC OF) (jm false (gk 9 (ag 4) cR (sub (ag 9) (ah 0))))) gw))) (bR (a0::Tt) (c0::Ft) t note ls due none none none) [bk (cD h (a0::Tt))] true:=cI (ee (ak rfl rfl rfl rfl (iq q1)) (ee (ak rfl ln rfl rfl (Gx q2)) rfl));have dlT:(T1.map kg).length<=13:=by rw[Nz];exact T1l
 cases hq:gj (bu::T1) ls with
 |none=>
  rw[hq] at c2;obtain ⟨hl2,_,_⟩:=iW hq
  let P1:=iK (cD h T1) t note ls
  have shP:Sh P1:=⟨by show (bu::T1).length<=_;rw[NI];exact At T1l,N3 _,by show ([]++[_]).length<=_;exact (by decide:1<=1000),N3 _,N3 _,by show (T1.map kg++[_]).length<=_;rw[NC];show _+1<=_;exact At dlT⟩;have tr:=zF (d:=d) (σ:=[bk (cD h T1)]) (n:=0) (S:=cD h T1) rfl (lx (d:=d) (σ:=[bk (cD h T1)]) (n:=0) (S:=cD h T1) (v:=.d (.lst (ls.map aA))) rfl (zV (s_ T1l)) src ht rfl hn hq) rfl;have mn:=gA (d:=d+3) (σ:=[bk P1]) (n:=0) (S:=P1) rfl shP;obtain ⟨σ',e⟩:=oz (d:=d) (S:=P1) (a0:=a0) (Tt:=Tt) (c0:=c0) (Ft:=Ft) (t:=t) (note:=note) (ls:=ls) (due:=due) (x6:=sV []) shP rfl (by show 1<=100;decide) (by show (T1.map kg++[_]).length<=_;rw[NC];show _+1<=_;exact NK (Nat.add_le_add_right (dlT) _) (NH rfl)) mem1 mem2 hc0;have c3:(cf (fN (aW (aF fo (au 110 (aj (ag 0) (aj (sub (ag 3) (ah 0)) (aj (sub (ag 3) (ah 1)) (aj (ag 4) ao))))) (ag 6)) (aW (aF fo (meth (ag 0) 1 ao) (bi dL (aj (qd c9 (ag 6) (aC [])) ao))) cw))) (sC (aO (c7 false)) sN) sN).ex (KK (d+4) false) (bR (a0::Tt) (c0::Ft) t note ls due (sV []) none none) [bk (cD h T1)]=some (.next (bR (a0::Tt) (c0::Ft) t note ls due (sV []) none none),[bk P1]):=
   Du (zG (aB (jc (bg tr (bT rfl (bT rfl (bT rfl (b7 rfl))))) rfl rfl rfl (kA rfl)) (FT (jc (bx (S:=P1) (n:=0) rfl rfl rfl mn) rfl rfl rfl (iw rfl))))) rfl
  exact fin (aa (bp tt (aa c1 (aa c2 (aa c3 (aa (aY (cI (ee (ak rfl rfl rfl rfl (iq rfl)) (eX (r5 (d:=d+3) (S:=P1) (n:=0) (k:=0) (E:=⟨1,t,note,ls,0⟩) rfl shP rfl rfl rfl (js (NK (hl) (NH rfl)) rfl rfl rfl rfl rfl))))) rfl) rfl))))) e)
 |some k=>
  rw[hq] at c2;have hk:=xr hq;have ne:u0 (some k)≠[]:=fun z=>by cases wO z fun j e=>by cases e;exact hk
  have tr:=sI (d:=d) (σ:=[bk (cD h T1)]) (n:=0) (S:=cD h T1) hk rfl (Am (d:=d) (σ:=[bk (cD h T1)]) (n:=0) (S:=cD h T1) (v:=.d (.lst (ls.map aA))) rfl (zV (s_ T1l)) src (ta hl) (fun l hl=>NK (hp l hl).ct.l (by decide)) ht rfl hn hq);have mn:=gA (d:=d+3) (σ:=[bk (cD h T1)]) (n:=0) (S:=cD h T1) rfl (zV (s_ T1l));obtain ⟨σ',e⟩:=oz (d:=d) (S:=cD h T1) (a0:=a0) (Tt:=Tt) (c0:=c0) (Ft:=Ft) (t:=t) (note:=note) (ls:=ls) (due:=due) (x6:=sV (u0 (some k))) (zV (s_ T1l)) rfl (N3 _) (by show (T1.map kg).length<=_;exact s_ dlT) mem1 mem2 hc0;have ib:Ev (KK (d+4) false) (bi dL (aj (qd c9 (ag 6) (aC [])) ao)) (bR (a0::Tt) (c0::Ft) t note ls due (sV (u0 (some k))) none none) [bk (cD h T1)] (.d (.int 0)):=cr (b7 (gi rfl rfl rfl rfl (fU ne))) rfl;exact fin (aa (bp tt (aa c1 (aa c2 (aa (aY (bc (a_ (ak (bg tr (bT rfl (bT rfl (bT rfl (b7 rfl))))) rfl rfl rfl (kA rfl)) (a_ (ak (bx (S:=cD h T1) (n:=0) rfl rfl rfl mn) ib rfl rfl (iw rfl)) rfl))) rfl) (aa (aY (cI (eX (ak rfl rfl rfl rfl (fU ne)))) rfl) rfl))))) e)
end
section
noncomputable abbrev wR (sc:List Int) (F T:List Tx) (x5 x6 x7 x8 x9 x10:Option PV):bb:=[dV (.lst (sc.map .int)),dV (.lst (F.map .str)),some (.b 0 (.lst ((bu::T).map .str))),qV 0,dV (.lst ((bu::T).map .str)),x5,x6,x7,x8,x9,x10]
def nB (s:Tx):Prop:=40<s.length∨10∈s∨9∈s
structure Nt (s:Tx):Prop where
 c:∀ c∈s,c<=126
 l:s.length<=100
 g:¬nB s->dG s
theorem Nt.bad (h:nB s):EP s:=by
 rcases h with h|h|h
 .exact .inl h
 .exact .inr ⟨10,h,by decide⟩
 .exact .inr ⟨9,h,by decide⟩
theorem Ix (h:dG note):Nt note:=⟨fun c hc=>(h.2 c hc).2,NK h.1 (by decide),fun _=>h⟩
theorem ym (hs:sc.length<=63) (hn:dG note):∃ s,Nt s/\oE.ex (KK 8 false) (wR sc F T x5 (sV note) none none none none) σ=some (.next (wR sc F T x5 (sV s) none none none none),σ):=by
 have md:=jP (K:=KK 8 false) (ρ:=wR sc F T x5 (sV note) none none none none) (σ:=σ) (e:=au 33 (aj (ag 0) (aj (ah 2) ao))) (k:=8) (fG (d:=7) (k:=2) hs rfl rfl (by decide)) (by decide) (by decide);by_cases q:(cell sc 2).fmod 8=7
 case neg=>exact ⟨note,Ix hn,aY (ak md rfl rfl rfl (jx q)) rfl⟩
 have tk9:∀ c∈note.take 39,c<=126:=fun c hc=>(hn.2 c (List.mem_of_mem_take hc)).2;have tl:(note.take 39).length<=39:=by rw[List.length_take];omega
 have sl:Ev (KK 8 false) (rc (ag 6) nQ (gQ (ah 39))) (wR sc F T x5 (sV note) none none none none) σ (.d (.str (note.take 39))):=nF rfl rfl (k7 rfl) rfl rfl rfl (nE (k:=39) (by decide))
 let Cs:List Tx:=[note.take 39++[10],Hk [110] 41,[9]++note.take 39]
 have big:Ev (KK 8 false) (cF (aj (aP a' (rc (ag 6) nQ (gQ (ah 39))) (aC [10])) (aj (aP EN (aC [110]) (ah 41)) (aj (aP a' (aC [9]) (rc (ag 6) nQ (gQ (ah 39)))) ao)))) (wR sc F T x5 (sV note) none none none none) σ (.d (.lst (Cs.map .str))):=
  cN (bT (aR sl rfl rfl rfl (kM (by show _+1<=cS;exact NK (Ow tl) (by decide)))) (bT (aR rfl rfl rfl rfl rfl) (b7 (aR rfl sl rfl rfl (kM (a:=[9]) (by show 1+_<=cS;exact NK (Oe tl 1) (by decide))))))) rfl (by show 3<=1000;decide)
 obtain ⟨s,h1,ez⟩:=nL (e:=au 33 (aj (ag 0) (aj (ah 3) ao))) (ke:=ah 3) (a:=cell sc 3) (k:=3) big (fG (d:=7) (k:=3) hs rfl rfl (by decide)) rfl (by decide) (by show (3:Int)<=3;decide) (by show 3<=1000;decide);have all:∀ s∈Cs,Nt s:=aE ⟨fun c hc=>(NS.mp hc).elim (tk9 c) fun e=>by rw[NG.mp e];decide,by rw[NC];show _+1<=_;exact NK (Nat.add_le_add_right (tl) _) (NH rfl),fun z=>absurd (.inr (.inl (List.mem_append_right _ (.head _)))) z⟩ (aE ⟨by decide,by decide,fun z=>absurd (.inl (by decide)) z⟩ (aE ⟨aE (by decide) tk9,by rw[NC];show 1+_<=_;exact NK (Oe (tl) _) (NH rfl),fun z=>absurd (.inr (.inr (.head _))) z⟩ aX));exact ⟨s,all s h1,bp (ak md rfl rfl rfl (mI q)) (aa (az ez rfl) rfl)⟩
theorem EW (h:c∈s):oW.g (.str [c]) (.str s)=some true:=congrArg some (NP h)
theorem AY (h:c∉s):oW.g (.str [c]) (.str s)=some false:=congrArg some (Op h)
open Classical in
noncomputable def r7 (Ns:List Tx) (t:Int) (s:Tx) (ls:List aQ):Option Nat:=if b' t then (if nB s then some 5 else gj Ns ls) else some 4
open Classical in
theorem y9 {x9:Option PV} (hs:Nt note) (r: -1<=t/\t<=100000):∀ z,(∃ k,k=u0 (r7 (bu::T) t note ls)/\∀ due,due=u0 (gj (bu::T) ls)->(sC fT (sC iR z)).ex (KK 8 false) (wR sc F T (dV (.lst (ls.map aA))) (sV note) (iV t) (sV due) none none) σ=z.ex (KK 8 false) (wR sc F T (dV (.lst (ls.map aA))) (sV note) (iV t) (sV k) none none) σ):=by
 intro z;refine ⟨_,rfl,fun due hdue=> ?_⟩;have ll:Ev (KK 8 false) (bi bh (aj (ag 6) ao)) (wR sc F T (dV (.lst (ls.map aA))) (sV note) (iV t) (sV due) none none) σ (.d (.int note.length)):=cr (b7 rfl) (kK (bj (NK hs.l (by decide))));have d2:∀ due',(sC iR z).ex (KK 8 false) (wR sc F T (dV (.lst (ls.map aA))) (sV note) (iV t) (sV due') none none) σ=z.ex (KK 8 false) (wR sc F T (dV (.lst (ls.map aA))) (sV note) (iV t) (sV (if b' t then due' else MP)) none none) σ:=fun due'=>by
  by_cases q:b' t
  .rw[if_pos q];exact aa (aY (bc (a_ (ak rfl rfl rfl rfl (hO (by have:=q.1;omega))) (a_ (ak rfl rfl rfl rfl (j6 (by have:=q.2;omega))) rfl))) rfl) rfl
  .rw[if_neg q];refine aa (bp (bc ?_) rfl) rfl;by_cases y:t<0
   .exact dB (ak rfl rfl rfl rfl (n_ y))
   .exact a_ (ak rfl rfl rfl rfl (hO y)) (dB (ak rfl rfl rfl rfl (rH (by
     have:=r.2
     apply Int.not_le.mp
     intro w;exact q ⟨by omega,by exact w⟩))))
 unfold r7;by_cases q:nB note
 .have e:=d2 L9;have s1:fT.ex (KK 8 false) (wR sc F T (dV (.lst (ls.map aA))) (sV note) (iV t) (sV due) none none) σ=some (.next (wR sc F T (dV (.lst (ls.map aA))) (sV note) (iV t) (sV L9) none none),σ):=by
   refine bp (bc ?_) rfl;by_cases y:40<note.length
   .exact dB (ak ll rfl rfl rfl (rH (Int.lt_of_toNat_lt y)))
   .refine a_ (ak ll rfl rfl rfl (j6 (FX y))) ?_;by_cases u:10∈note
    .exact dB (ak rfl rfl rfl rfl (EW u))
    .exact a_ (ak rfl rfl rfl rfl (AY u)) (dB (ak rfl rfl rfl rfl (EW ((q.resolve_left y).resolve_left u))))
  refine (aa s1 e).trans ?_;by_cases y:b' t
  .rw[if_pos y,if_pos y,if_pos q];rfl
  .rw[if_neg y,if_neg y];rfl
 .have e:=d2 due;have s1:fT.ex (KK 8 false) (wR sc F T (dV (.lst (ls.map aA))) (sV note) (iV t) (sV due) none none) σ=some (.next (wR sc F T (dV (.lst (ls.map aA))) (sV note) (iV t) (sV due) none none),σ):=
   aY (bc (a_ (ak ll rfl rfl rfl (j6 (by have:¬40<note.length:=fun z=>q (.inl z);exact FX this))) (a_ (ak rfl rfl rfl rfl (AY fun z=>q (.inr (.inl z)))) (a_ (ak rfl rfl rfl rfl (AY fun z=>q (.inr (.inr z)))) rfl)))) rfl
  refine (aa s1 e).trans ?_;by_cases y:b' t
  .rw[if_pos y,if_pos y,if_neg q,hdue]
  .rw[if_neg y,if_neg y];rfl
end
section
variable {x:D}
open Classical in
theorem Al (b:Bk σ n S) (sh:Sh S) (s:qS σ v x (ls.map aA)) (hl:ls.length<=900) (hp:∀ l∈ls,dY l.2.1) (he:S.ends=[]) (hs:Nt note) (h:r7 S.names t note ls=some k):CC (d+3) false 20 [.p n 0,.d (.int t),.d (.str note),v] σ=some (.ex k,σ)/\k∈EI:=by
 unfold r7 at h;by_cases q:b' t
 .rw[if_pos q] at h;by_cases y:nB note
  .rw[if_pos y] at h;cases h;exact ⟨yj b sh q he (CX (NK hs.l (by decide)) hs.c (Nt.bad y)),by decide⟩
  .rw[if_neg y] at h;exact ⟨Am b sh s hl (fun l hl=>NK (hp l hl).ct.l (by decide)) q he (hs.g y) h,xr h⟩
 .rw[if_neg q] at h;cases h;exact ⟨An b q,by decide⟩
open Classical in
theorem y_ (hs:Nt note) (h:r7 Ns t note ls=none):b' t/\dG note/\gj Ns ls=none:=by
 unfold r7 at h;by_cases q:b' t
 .rw[if_pos q] at h;by_cases y:nB note
  .rw[if_pos y] at h;cases h
  .rw[if_neg y] at h;exact ⟨q,hs.g y,h⟩
 .rw[if_neg q] at h;cases h
open Classical in
theorem DX (hs:Nt note) (h:u0 (r7 Ns t note ls)=Hq):b' t/\dG note:=by
 unfold r7 at h;by_cases q:b' t
 .rw[if_pos q] at h;by_cases y:nB note
  .rw[if_pos y] at h;exact absurd h (by decide)
  .exact ⟨q,hs.g y⟩
 .rw[if_neg q] at h;exact absurd h (by decide)
theorem FN (sc:List Int) (hs:sc.length<=63):∃ σ',CC 9 false 125 [.d (.lst (sc.map .int))] []=some (.ok (.d (.bool true)),σ'):=by
 obtain ⟨F,_,hC,hF3,hF8,_,eF⟩:=mr (d:=6) (c0:=cell sc 2) (c1:=cell sc 3);obtain ⟨T,h,hN,hh,eO⟩:=uU (d:=4) hs;have l2:=hN.l2;have q:NF (bu::T) F:=⟨by rw[NI];exact MN,by rw[NI];exact uX l2,hF3,hF8,hC⟩;obtain ⟨ls,hp,hl,eL⟩:=yD (d:=5) (o0:=bk (cD h T)) q hs;obtain ⟨note0,hn0,eN⟩:=Au (n:=cell sc 5);obtain ⟨s,hs8,e8⟩:=ym (F:=F) (T:=T) (σ:=[bk (cD h T)]) (x5:=dV (.lst (ls.map aA))) hs hn0;have r:=bL (a:=cell sc 4) (b:=100002) (by decide);generalize ht:(cell sc 4).fmod 100002 - 1=t;have r4: -1<=t/\t<=100000:=by omega
 have jd:=on (d:=6) (σ:=[bk (cD h T)]) (Ns:=bu::T) (ls:=ls) hp (ta hl) (by rw[NI];exact uX l2);have B:Bk [bk (cD h T)] 0 (cD h T):=rfl;have sh:=zV (h:=h) (T:=T) (qp l2);have wr:=iz (d:=5) (σ:=[bk (cD h T)]) (n:=0) (S:=cD h T) (ds:=T.map .acc) B hh (by rw[List.map_map];rfl) (fun x hx=>by
  obtain ⟨a,ha,rfl⟩:=NQ.mp hx;exact ⟨hN.nm a ha,.inl ⟨a,rfl⟩⟩) (by rw[Nz];exact NK (l2) (NH rfl))
 have bl:=kZ (d:=5) (σ:=[bk (cD h T)]) (n:=0) (S:=cD h T) (ls:=[]) (t:=0) (F:=F) (Ns:=bu::T) B sh (Eg rfl) (by decide) ⟨by decide,by decide⟩ hC (NK hF8 (NH rfl)) (fun a ha=>ha) (by rw[NI];exact uX l2);have s9:∀ x5 x6,oC.ex (KK 8 false) (wR sc F T x5 x6 none none none none) [bk (cD h T)]=some (.next (wR sc F T x5 x6 (iV t) none none none),[bk (cD h T)]):=fun x5 x6=>by
  rw[<-ht];exact az (aR (jP (fG (d:=7) (k:=4) hs rfl rfl (by decide))) rfl rfl rfl rfl) rfl
 let rest:CS:=sC (aG 9 (au 25 (aj (ag 3) ao))) (sC iQ (sC mh (sC (aG 10 (bi xk (aj (ag 5) ao))) (sC mf (sC me (sC ma (sC l_ sN)))))))
 obtain ⟨due,hdue,ed⟩:=y9 (x9:=none) (sc:=sc) (F:=F) (T:=T) (ls:=ls) (σ:=[bk (cD h T)]) hs8 r4 rest;have pre:∀ z,rest.ex (KK 8 false) (wR sc F T (dV (.lst (ls.map aA))) (sV s) (iV t) (sV due) none none) [bk (cD h T)]=z->rN.ex (KK 8 false) [dV (.lst (sc.map .int)),none,none,none,none,none,none,none,none,none,none] []=z:=fun z hz=>
  aa (az (bg eF (vO (d:=7) (x:=none) hs (by decide) (by decide))) rfl) (aa (az (bg eO rfl) rfl) (aa (az (v:=.p 0 0) rfl rfl) (aa (az (v:=.d (.lst ((bu::T).map .str))) rfl rfl) (aa (aY rfl rfl) (aa (az (bg eL rfl) rfl) (aa (az (bg (eN 7 _) (b7 (fG (d:=7) (k:=5) hs rfl rfl (by decide)))) rfl) (aa e8 (aa (s9 _ _) (aa (az (bg jd rfl) rfl) ((ed _ rfl).trans hz))))))))))
 have ahead:∀ {x10:Option PV},(aG 9 (au 25 (aj (ag 3) ao))).ex (KK 8 false) (wR sc F T (dV (.lst (ls.map aA))) (sV s) (iV t) (sV due) none x10) [bk (cD h T)]=some (.next (wR sc F T (dV (.lst (ls.map aA))) (sV s) (iV t) (sV due) (sV (JL (cD h T) (T.map .acc))) x10),[bk (cD h T)]):=az (bg wr rfl) rfl;have b14:∀ {x9 x10:Option PV},iQ.ex (KK 8 false) (wR sc F T (dV (.lst (ls.map aA))) (sV s) (iV t) (sV due) x9 x10) [bk (cD h T)]=some (.next (wR sc F T (dV (.lst (ls.map aA))) (sV s) (iV t) (sV due) x9 x10),[bk (cD h T)]):=aY (ft (cU (bg bl (bT rfl (bT rfl (bT rfl (bT (cN rfl) (b7 rfl)))))))) rfl;have fin:∀ {σ'},rN.ex (KK 8 false) [dV (.lst (sc.map .int)),none,none,none,none,none,none,none,none,none,none] []=some (.ret (.d (.bool true)),σ')->∃ σ',CC 9 false 125 [.d (.lst (sc.map .int))] []=some (.ok (.d (.bool true)),σ'):=fun e=>⟨_,bA rfl rfl rfl e rfl⟩;cases hq:r7 (bu::T) t s ls with
 |none=>
  obtain ⟨q1,q2,q3⟩:=y_ hs8 hq;obtain ⟨σ',e⟩:=uR (d:=1) (h:=h) (F:=F) hN hh hC (Nat.one_le_of_lt hF3) hF8 q1 q2 q3;rw[hq] at hdue;subst hdue;exact fin (pre _ (aa ahead (aa b14 (aS (bp (ak rfl rfl rfl rfl (iq rfl)) (aS (aT (bg e rfl))))))))
 |some k=>
  have hlm:(ls.map aA).length=ls.length:=Nz ..;obtain ⟨p1,hk⟩:=Al (d:=4) (v:=.d (.lst (ls.map aA))) B sh (nD (wL hl hlm)) (ta hl) hp rfl hs8 hq;obtain ⟨p2,_⟩:=Al (d:=4) (v:=.d (.tup (ls.map aA))) B sh (EH (wL hl hlm)) (ta hl) hp rfl hs8 hq;have tr:=sI hk B p1;have bs:=BK hk B p2;have na:due=Hq->b' t/\dG s:=fun z=>DX hs8 (hdue.symm.trans z);rw[hq] at hdue;have ne:due≠[]:=fun z=>by cases wO (hdue.symm.trans z) fun j e=>by cases e;exact hk
  rw[<-hdue] at tr;have mn:=gA (d:=7) B sh;obtain ⟨σ',e⟩:=v_ (d:=3) (h:=h) (F:=F) hN hC (Nat.one_le_of_lt hF3) hp hl na;refine fin (pre _ (aa ahead (aa b14 (aa (aY (ak rfl rfl rfl rfl (fU ne)) rfl) (aa (az (cr (b7 rfl) (AI (l:=ls.map aA) rfl (wL hl hlm))) rfl) (aa (aY (bc (a_ (ak (bg tr rfl) rfl rfl rfl (kA rfl)) (a_ (ft (cU (bg bs (bT rfl (bT rfl (bT rfl (b7 (wx (NK (hl) (NH rfl)) rfl)))))))) rfl))) rfl) (aa (aY (bc (a_ (ak rfl rfl rfl rfl (qr rfl (uS ls) rfl)) (a_ (ak (bx B rfl rfl mn) rfl rfl rfl (iw rfl)) (a_ (ak (bg wr rfl) rfl rfl rfl (kA rfl)) rfl)))) rfl) (aa b14 (aS (aT (bg e (bT rfl (bT rfl (bT rfl (bT (cN rfl) (bT rfl (b7 rfl)))))))))))))))))
end
open PySem PySem.W PySem.Calls PyProof.Rows
set_option Elab.async false
set_option maxRecDepth 100000
set_option maxHeartbeats 8000000
theorem IF:LeftO pN qN ["BOUND","GREATEST"] (fun _=>true) yN (fun _=>True) 40178:=Di z1 (by decide) z2 z3 z4 (fun s e=>⟨_,DF s.tree s.n s.life,ai e,Ch s.life (an e)⟩) (fun w os=>Cr (M5 w os) (M0 w os)) (fun w os=>Cq (MZ w os) (MY w os) (MX w os) (MW w os))
theorem yG:∀ i,i<100->∀ j,j<100->tO i=tO j->i=j:=by decide+kernel
theorem AO:∀ i j,i<100->j<100->tO i=tO j->i=j:=fun i j hi hj h=>yG i hi j hj h
end Mine.Internal
open PySem PySem.W PyProof.Rows
set_option Elab.async false
set_option maxRecDepth 100000 in
set_option maxHeartbeats 8000000 in
theorem PySem.Challenge.cw_uf010015_04_holds : PySem.Challenge.rw_uf010015_04.Holds := by
 w_on
 refine holds_law Mine.Internal.HJ fun said=> ?_;refine holds_open (q:=Mine.Internal.qN) (loose:=["BOUND","GREATEST"]) (Xt:=fun _=>true) (XP:=fun _ _=>True) (Yf:=Mine.Internal.yN) (Ya:=fun _=>True) (YP:=fun _ h=>Mine.Internal.KP h) (N:=40178) Mine.Internal.IF
  (fun w s e=>of_eq_true e) (fun w h h' a k=>Mine.Internal.KP.keeps a k) (fun _ _=>trivial) (fun _ _ _ _ _=>trivial) (by rfl) (by rfl) (by rfl) (fun s _=>recFacts_of (by rfl)) (by rfl) (by first|assumption|decide+kernel) (by decide+kernel) ⟨rfl,rfl,rfl,rfl,rfl,by decide+kernel⟩ ?hw ?hc
 (case hw=>w_witness2)
 intro w s₀ s₁ mg mb G Y fa o pm cd doc dV kV ho hd hcd hD hmg hg args vals as hpre hlay hrd hwl hlo;obtain ⟨K,X,ok,TK⟩:=Y;refine Ground.open G ?_;intro T B D TE TW
 wrow_args hpre hlay hrd hwl hlo
 refine enter_call ?_;refine kn_post (Mine.Internal.Fo X ok TK) (fun _ _=>rfl) ?_
 rename IntsAre _ _=>hI
 rename Heap.IsList _ _ _=>hL
 rename¬(_<_)=>hle
 obtain ⟨σ',hrun⟩:=Mine.Internal.FN _ (Int.ofNat_le.mp (Int.not_lt.mp hle));refine Mine.Internal.Dj (sp:=Mine.Internal.xZ) (key:=Mine.Internal.tO) Mine.Internal.AO T X ok TK hL hI (f:=Mine.Internal.Mb) (by kernel_rfl) (by exact hmg) (d:=8) (by decide) hrun ?_;intro s' sm keep gro;obtain ⟨h',tk,rfl⟩:=sm;refine ⟨⟨.inl ⟨_,.bool true,[],rfl,raisesW_false (by wrow_none_raised),ReadsW.bool true,?_,unshared_nil⟩,Mine.Internal.vq keep,rfl,hg⟩,Mine.Internal.A4 gro⟩
 wrow_post