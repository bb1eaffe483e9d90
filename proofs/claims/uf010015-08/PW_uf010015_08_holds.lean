import PyProof.Rows.All
import Wide.All
import OpenK.AllK
import Wide.FinOn
import PySem.Challenge.RW_uf010015_08
set_option autoImplicit false
set_option linter.all false
set_option bootstrap.genMatcherCode false
set_option compiler.extract_closed false
set_option genSizeOf false
set_option genInjectivity false
set_option maxRecDepth 40000
namespace Mine.Internal
noncomputable abbrev Pg:List Nat:=[110,97,109,101,115]
noncomputable abbrev Ph:List Nat:=[99,117,114,114,101,110,99,105,101,115]
noncomputable abbrev Pi:List Nat:=[101,110,116,114,105,101,115]
noncomputable abbrev Pj:List Nat:=[100,101,101,100,115]
noncomputable abbrev Pk:List Nat:=[101,117,114]
noncomputable abbrev Pn:List Nat:=[101,110,100,115]
noncomputable abbrev Po:List Nat:=[101,120,99,104,97,110,103,101]
noncomputable abbrev Pp:List Nat:=[109,111,115,116]
noncomputable abbrev Pq:List Nat:=[65,66,67,68,69,70,71,72,73,74,75,76,77,78,79,80,81,82,83,84,85,86,87,88,89,90]
noncomputable abbrev Ps:List Nat:=[99,104,97,110,103,101]
noncomputable abbrev Pu:List Nat:=[97,98,99,100,101,102,103,104,105,106,107,108,109,110,111,112,113,114,115,116,117,118,119,120,121,122]
noncomputable abbrev Pv:List Nat:=[97,103,97,105,110]
noncomputable abbrev Pw:List Nat:=[115,116,114,97,110,103,101,114]
noncomputable abbrev Px:List Nat:=[66,97,100,67,117,114,114,101,110,99,121]
noncomputable abbrev Py:List Nat:=[32,33,34,35,36,38,39,40,41,42,43,44,45,46,47,48,49,50,51,52,53,54,55,56,57,58,59,60,61,62,63,64]
noncomputable abbrev Pz:List Nat:=[65,66,67,68,69,70,71,72,73,74,75,76,77,78,79,80,81,82,83,84,85,86,87,88,89,90,91,92,93,94,95,96]
noncomputable abbrev PA:List Nat:=[97,98,99,100,101,102,103,104,105,106,107,108,109,110,111,112,113,114,115,116,117,118,119,120,121,122,123,124,125,126]
noncomputable abbrev PB:List Nat:=[97,98,99,100,101,102,103,104,105,106,107,108,109,110,111,112,113,114,115,116,117,118,119,120,121,122,48,49,50,51,52,53,54,55,56,57]
def Oc:=@List.length_map
def Od:=@Option.bind_some
def Oe:=@List.mem_cons
def Of:=@List.length_append
def Og:=@List.getElem?_eq_some_iff
def Oh:=@List.getElem?_eq_getElem
def Oi:=@List.mem_singleton
def Oj:=@Nat.le_of_ble_eq_true
def Ok:=@List.length_cons
def Ol:=@PySem.Heap.get?_push_of_some
def Om:=@Nat.le_trans
def On:=@List.length_singleton
def Oo:=@Nat.le_refl
def Op:=@PySem.wpAny_bind
def Oq:=@PySem.wpAny_pure
def Os:=@decide_eq_true
def Ot:=@List.mem_map
def Ou:=@List.getElem?_map
def Ov:=@List.mem_append
def Ow:=@List.getD_eq_getElem?_getD
def Ox:=@PySem.Heap.get?_push_size
def Oy:=@List.not_mem_nil
def Oz:=@List.size_toArray
def OA:=@List.getElem?_append_right
def OB:=@Bool.false_ne_true
def OC:=@Nat.lt_of_le_of_lt
def OD:=@Nat.lt_of_lt_of_le
def OE:=@List.length_set
def OF:=@Nat.le_succ_of_le
def OG:=@Nat.zero_le
def OH:=@List.mem_of_getElem?
def OI:=@List.getElem?_set_ne
def OJ:=@List.filter_cons_of_pos
def OK:=@PySem.Heap.lt_size
def OL:=@Int.le_trans
def OM:=@Int.lt_of_le_of_lt
def ON:=@Int.lt_of_lt_of_le
def OO:=@Int.ofNat_le
def OP:=@Int.ofNat_lt
def OQ:=@Nat.le_of_lt
def OR:=@Int.toNat_of_nonneg
def OS:=@Nat.add_le_add_left
def OT:=@of_decide_eq_true
def OU:=@Nat.lt_irrefl
def OV:=@Nat.le_succ
def OW:=@List.nodup_cons
def OX:=@List.getElem?_append_left
def OY:=@Option.map_eq_some_iff
def OZ:=@List.nodup_nil
def O0:=@Option.some.inj
def O1:=@Nat.le_of_eq
def O2:=@List.length_nil
def O3:=@decide_eq_false
def O4:=@Nat.zero_add
def O5:=@Nat.le_add_right
def O6:=@Int.le_add_of_nonneg_right
def O7:=@Nat.lt_trans
def O8:=@Int.le_of_lt
def O9:=@Nat.succ_le_succ
def O_:=@Int.min_le_left
def O':=@Int.natCast_nonneg
def Pb:=@Nat.not_lt
def Pc:=@Int.not_lt
def Pd:=@Nat.mul_le_mul_left
def Pe:=@Nat.le_of_lt_succ
open PySem PySem.W PySem.Calls PyProof.Rows
set_option Elab.async false
set_option maxRecDepth 100000
set_option maxHeartbeats 8000000
theorem d_ {a b:Bool} (h1:a=true) (h2:b=true):(a&&b)=true:=by rw[h1,h2];rfl
noncomputable def gj:{p:(OpenLaw->Bool)×(OpenLaw->Bool)×(OpenLaw->Bool)×(OpenLaw->Bool)×(OpenLaw->Bool)×(OpenLaw->Bool)×(OpenLaw->Bool)×(OpenLaw->Bool)×(OpenLaw->Bool)×(OpenLaw->Bool)×(OpenLaw->Bool)×(OpenLaw->Bool)×(OpenLaw->Bool)×(OpenLaw->Bool)×(OpenLaw->Bool)×(OpenLaw->Bool)×(OpenLaw->Bool)×(OpenLaw->Bool)×(OpenLaw->Bool) // ∀ l:OpenLaw,l.wellSaid=(p.1 l&&p.2.1 l&&p.2.2.1 l&&p.2.2.2.1 l&&p.2.2.2.2.1 l&&p.2.2.2.2.2.1 l&&p.2.2.2.2.2.2.1 l&&p.2.2.2.2.2.2.2.1 l&&p.2.2.2.2.2.2.2.2.1 l&&p.2.2.2.2.2.2.2.2.2.1 l&&p.2.2.2.2.2.2.2.2.2.2.1 l&&p.2.2.2.2.2.2.2.2.2.2.2.1 l&&p.2.2.2.2.2.2.2.2.2.2.2.2.1 l&&p.2.2.2.2.2.2.2.2.2.2.2.2.2.1 l&&p.2.2.2.2.2.2.2.2.2.2.2.2.2.2.1 l&&p.2.2.2.2.2.2.2.2.2.2.2.2.2.2.2.1 l&&p.2.2.2.2.2.2.2.2.2.2.2.2.2.2.2.2.1 l&&p.2.2.2.2.2.2.2.2.2.2.2.2.2.2.2.2.2.1 l&&p.2.2.2.2.2.2.2.2.2.2.2.2.2.2.2.2.2.2 l)}:=⟨(_,_,_,_,_,_,_,_,_,_,_,_,_,_,_,_,_,_,_),fun l=>rfl⟩
theorem N8:gj.1.1 PySem.Challenge.rw_uf010015_08=true:=by kernel_rfl
theorem N7:gj.1.2.1 PySem.Challenge.rw_uf010015_08=true:=by kernel_rfl
theorem N6:gj.1.2.2.1 PySem.Challenge.rw_uf010015_08=true:=by kernel_rfl
theorem N5:gj.1.2.2.2.1 PySem.Challenge.rw_uf010015_08=true:=by kernel_rfl
theorem N4:gj.1.2.2.2.2.1 PySem.Challenge.rw_uf010015_08=true:=by kernel_rfl
theorem N3:gj.1.2.2.2.2.2.1 PySem.Challenge.rw_uf010015_08=true:=by kernel_rfl
theorem N2:gj.1.2.2.2.2.2.2.1 PySem.Challenge.rw_uf010015_08=true:=by kernel_rfl
theorem N1:gj.1.2.2.2.2.2.2.2.1 PySem.Challenge.rw_uf010015_08=true:=by kernel_rfl
theorem N0:gj.1.2.2.2.2.2.2.2.2.1 PySem.Challenge.rw_uf010015_08=true:=by kernel_rfl
theorem NZ:gj.1.2.2.2.2.2.2.2.2.2.1 PySem.Challenge.rw_uf010015_08=true:=by kernel_rfl
theorem KI:gj.1.2.2.2.2.2.2.2.2.2.2.1 PySem.Challenge.rw_uf010015_08=true:=by kernel_rfl
theorem KH:gj.1.2.2.2.2.2.2.2.2.2.2.2.1 PySem.Challenge.rw_uf010015_08=true:=by kernel_rfl
theorem KG:gj.1.2.2.2.2.2.2.2.2.2.2.2.2.1 PySem.Challenge.rw_uf010015_08=true:=by kernel_rfl
theorem KE:gj.1.2.2.2.2.2.2.2.2.2.2.2.2.2.1 PySem.Challenge.rw_uf010015_08=true:=by kernel_rfl
theorem KC:gj.1.2.2.2.2.2.2.2.2.2.2.2.2.2.2.1 PySem.Challenge.rw_uf010015_08=true:=by kernel_rfl
theorem KA:gj.1.2.2.2.2.2.2.2.2.2.2.2.2.2.2.2.1 PySem.Challenge.rw_uf010015_08=true:=by kernel_rfl
theorem Kz:gj.1.2.2.2.2.2.2.2.2.2.2.2.2.2.2.2.2.1 PySem.Challenge.rw_uf010015_08=true:=by kernel_rfl
theorem Ky:gj.1.2.2.2.2.2.2.2.2.2.2.2.2.2.2.2.2.2.1 PySem.Challenge.rw_uf010015_08=true:=by kernel_rfl
theorem Kx:gj.1.2.2.2.2.2.2.2.2.2.2.2.2.2.2.2.2.2.2 PySem.Challenge.rw_uf010015_08=true:=by kernel_rfl
theorem HP:PySem.Challenge.rw_uf010015_08.wellSaid=true:=(gj.2 PySem.Challenge.rw_uf010015_08).trans (d_ (d_ (d_ (d_ (d_ (d_ (d_ (d_ (d_ (d_ (d_ (d_ (d_ (d_ (d_ (d_ (d_ (d_ (N8) N7) N6) N5) N4) N3) N2) N1) N0) NZ) KI) KH) KG) KE) KC) KA) Kz) Ky) Kx)
open PySem PySem.W PySem.Calls PyProof.Rows
noncomputable def dC (p:Program) (w:World) (n₀:Nat) (ann:Option Value):Nat->SharedT->Thread->Option SharedT
 |0,_,_=>none
 |n+1,s,t=>match through t with
  |true=>some s
  |false=>match PySem.W.Fast.tw6613529449190102663 n₀ ann t with
   |false=>none
   |true=>match PySem.W.Fast.tw10156331382660048174 (PySem.W.Fast.tw11892475500146522536 PySem.W.Fast.tw14364793385576792824) p w s t with
    |some (s',t')=>dC p w n₀ ann n s' t'
    |none=>none
theorem mW {p:Program} {w:World} {n₀:Nat} {ann:Option Value}:∀ {n:Nat} {s s':SharedT} {t:Thread},dC p w n₀ ann n s t=some s'->topRun treeTable p w n₀ ann n s.abs t=some s'.abs
 |0,_,_,_,h=>by cases h
 |n+1,s,s',t,h=>by
  unfold dC at h;rw[<-PySem.W.Fast.te6613529449190102663,<-PySem.W.Fast.te10156331382660048174,<-PySem.W.Fast.te11892475500146522536,<-PySem.W.Fast.te14364793385576792824] at h;unfold topRun;cases ht:through t with
  |true=>rw[ht] at h;cases h;rfl
  |false=>
   rw[ht] at h;cases hk:stepOk n₀ ann t with
   |false=>rw[hk] at h;cases h
   |true=>
    rw[hk] at h;cases hs:stepT (denote treeTable) p w s t with
    |none=>rw[hs] at h;cases h
    |some x=>
     obtain ⟨s₂,t₂⟩:=x;rw[hs] at h;dsimp only;rw[stepT_spec hs];exact mW h
noncomputable def eZ (l:List Obj):BT:=(l.foldl (fun (x:BT×Nat) o=>(x.1.ins x.2 o,x.2+1)) (.nil,0)).1
theorem DV {p q:Program} {loose:List Str} {Xt:Shared->Bool} {Yf:Shared->Prop} {Yt:SharedT->Bool} {N n0:Nat} {life0:Life} {ann:Option Value}
  (e:opening p=plainProg p.main.scope.names) (hN:Nat.ble 600 N=true) (f:∀ s,fenceModules? p s=some s)
  (hT:∀ P:Params,absHeap (eZ (boot_heap P).objs.toList) n0 life0=boot_heap P)
  (size:∀ w:World,((boot_heap w.params).isNs mainGlobals,(boot_heap w.params).objs.size,(boot_heap w.params).nsMap mainGlobals "__annotations__")=(true,n0,ann))
  (hY:∀ s,Yt s=true->Yf s.abs)
  (run1:∀ (w:World) (os:OsState),(dC p w n0 ann N ⟨eZ (boot_heap w.params).objs.toList,n0,life0,Array.mk [],boot_drawn,boot_toks,os⟩ (topStub p)).map (fun s=>
   (staticsOk (PySem.W.Fast.tw5923862056798008813 p.main.body) (boot_heap w.params) s.abs.heap&&namesBound p s.abs.heap&&gensDone s.abs&&laidKept (boot_heap w.params) s.abs.heap,Yt s))=some (true,true))
  (run2:∀ (w:World) (os:OsState),(dC p w n0 ann N ⟨eZ (boot_heap w.params).objs.toList,n0,life0,Array.mk [],boot_drawn,boot_toks,os⟩ (topStub p)).map (fun s=>
   PySem.W.Fast.tw4187177175401517315 q loose (PySem.W.Fast.tw5923862056798008813 p.main.body) Xt true s.abs)=some (openGood q loose)):
  LeftO p q loose Xt Yf (fun _=>True) N:=fun w=>by
 obtain ⟨⟨h,gs,d,k,os⟩,e1,e2⟩:=OY.mp (boot_open e hN f w);obtain ⟨rfl,rfl,rfl,rfl⟩:h=boot_heap w.params/\gs=Array.mk []/\d=boot_drawn/\k=boot_toks:=by simpa using e2
 obtain ⟨z1,z2,z3⟩:_/\_/\_:=by simpa only [Prod.mk.injEq] using size w
 obtain ⟨s',r1,r2⟩:=OY.mp (run1 w os);have l2:=run2 w os;rw[r1] at l2;have l2:=O0 l2;rw[<-PySem.W.Fast.te5923862056798008813] at r2;rw[<-PySem.W.Fast.te5923862056798008813,<-PySem.W.Fast.te4187177175401517315] at l2;obtain ⟨l1,l3⟩:_/\_:=by simpa only [Prod.mk.injEq] using r2
 have r:=mW r1;have ha:(SharedT.abs ⟨eZ (boot_heap w.params).objs.toList,n0,life0,Array.mk [],boot_drawn,boot_toks,os⟩)=⟨boot_heap w.params,Array.mk [],boot_drawn,boot_toks,os⟩:=by
  show Shared.mk (absHeap _ _ _) _ _ _ _=_;rw[hT]
 rw[ha] at r;unfold openEnds;rw[e1];show (topFrom treeTable p w N _).map _=_;have t:topFrom treeTable p w N ⟨boot_heap w.params,Array.mk [],boot_drawn,boot_toks,os⟩=some s'.abs:=by
  unfold topFrom;dsimp only;rw[z1,z2,z3,r];show (match staticsOk (importedModules p.main.body) (boot_heap w.params) s'.abs.heap&&namesBound p s'.abs.heap&&gensDone s'.abs&&laidKept (boot_heap w.params) s'.abs.heap with|true=>some s'.abs|false=>none)=_
  rw[l1]
 rw[t];exact congrArg some (Prod.ext l2 (eq_true (hY s' l3)))
open PySem PySem.W PySem.Calls PyProof.Rows
theorem Dn {α:Type} {o:Option α} {f g:α->Bool} (h1:o.map f=some true) (h2:o.map g=some true):o.map (fun s=>(f s,g s))=some (true,true):=by
 cases o with
 |none=>cases h1
 |some a=>exact congrArg some (Prod.ext (O0 h1) (O0 h2))
theorem Dm {α:Type} {o:Option α} {F:α->Shared} {q:Program} {loose mods:List Str} {Xt:Shared->Bool}
  (hA:o.map (fun s=>((PySem.W.Fast.tw4187177175401517315 q loose mods Xt true (F s)).1,(PySem.W.Fast.tw4187177175401517315 q loose mods Xt true (F s)).2.1))=some (expectedOf q,bltViewBooted))
  (hB:o.map (fun s=>((PySem.W.Fast.tw4187177175401517315 q loose mods Xt true (F s)).2.2.1,(PySem.W.Fast.tw4187177175401517315 q loose mods Xt true (F s)).2.2.2.1))=some (true,true))
  (hC:o.map (fun s=>(PySem.W.Fast.tw4187177175401517315 q loose mods Xt true (F s)).2.2.2.2.2.1)=some (plainGoodE q (looseW q loose)))
  (hD:o.map (fun s=>((PySem.W.Fast.tw4187177175401517315 q loose mods Xt true (F s)).2.2.2.2.1,(PySem.W.Fast.tw4187177175401517315 q loose mods Xt true (F s)).2.2.2.2.2.2))=some (pinGoodD (drecsOf q),plainGoodD q loose,wideGood q,clsGoodW q loose)):
  o.map (fun s=>PySem.W.Fast.tw4187177175401517315 q loose mods Xt true (F s))=some (openGood q loose):=by
 cases o with
 |none=>cases hA
 |some a=>
  obtain ⟨a1,a2⟩:=Prod.mk.inj (O0 hA);obtain ⟨b1,b2⟩:=Prod.mk.inj (O0 hB);have c1:=O0 hC;obtain ⟨d1,d2⟩:=Prod.mk.inj (O0 hD);exact congrArg some (Prod.ext a1 (Prod.ext a2 (Prod.ext b1 (Prod.ext b2 (Prod.ext d1 (Prod.ext c1 d2))))))
open PySem PySem.W PySem.Calls PyProof.Rows
set_option Elab.async false
set_option maxRecDepth 100000
set_option maxHeartbeats 8000000
noncomputable def pN:Program:=PySem.Challenge.pw_uf010015_08
noncomputable def qN:Program:=view pN ((List.range 1).map (· +0)++(List.range 15).map (· +2)++(List.range 2).map (· +18)++(List.range 11).map (· +21)++(List.range 3).map (· +33)++(List.range 2).map (· +37)++(List.range 34).map (· +40))
theorem z1:opening pN=plainProg pN.main.scope.names:=by kernel_rfl
theorem z2:∀ s,fenceModules? pN s=some s:=fun s=>by kernel_rfl
theorem z3:∀ P:Params,absHeap (eZ (boot_heap P).objs.toList) 11 {}=boot_heap P:=fun P=>by kernel_rfl
theorem z4:∀ w:World,((boot_heap w.params).isNs mainGlobals,(boot_heap w.params).objs.size,(boot_heap w.params).nsMap mainGlobals "__annotations__")=(true,11,some (.ref 6)):=fun w=>by kernel_rfl
theorem NV:∀ (w:World) (os:OsState),(dC pN w 11 (some (.ref 6)) 40178 ⟨eZ (boot_heap w.params).objs.toList,11,{},Array.mk [],boot_drawn,boot_toks,os⟩ (topStub pN)).map (fun s=>staticsOk (PySem.W.Fast.tw5923862056798008813 pN.main.body) (boot_heap w.params) s.abs.heap&&namesBound pN s.abs.heap&&gensDone s.abs&&laidKept (boot_heap w.params) s.abs.heap)=some true:=fun w os=>by kernel_rfl
theorem NT:∀ (w:World) (os:OsState),(dC pN w 11 (some (.ref 6)) 40178 ⟨eZ (boot_heap w.params).objs.toList,11,{},Array.mk [],boot_drawn,boot_toks,os⟩ (topStub pN)).map (fun s=>((PySem.W.Fast.tw4187177175401517315 qN ["BOUND","GREATEST"] (PySem.W.Fast.tw5923862056798008813 pN.main.body) (fun _=>true) true s.abs).1,(PySem.W.Fast.tw4187177175401517315 qN ["BOUND","GREATEST"] (PySem.W.Fast.tw5923862056798008813 pN.main.body) (fun _=>true) true s.abs).2.1))=some (expectedOf qN,bltViewBooted):=fun w os=>by kernel_rfl
theorem NS:∀ (w:World) (os:OsState),(dC pN w 11 (some (.ref 6)) 40178 ⟨eZ (boot_heap w.params).objs.toList,11,{},Array.mk [],boot_drawn,boot_toks,os⟩ (topStub pN)).map (fun s=>((PySem.W.Fast.tw4187177175401517315 qN ["BOUND","GREATEST"] (PySem.W.Fast.tw5923862056798008813 pN.main.body) (fun _=>true) true s.abs).2.2.1,(PySem.W.Fast.tw4187177175401517315 qN ["BOUND","GREATEST"] (PySem.W.Fast.tw5923862056798008813 pN.main.body) (fun _=>true) true s.abs).2.2.2.1))=some (true,true):=fun w os=>by kernel_rfl
theorem NR:∀ (w:World) (os:OsState),(dC pN w 11 (some (.ref 6)) 40178 ⟨eZ (boot_heap w.params).objs.toList,11,{},Array.mk [],boot_drawn,boot_toks,os⟩ (topStub pN)).map (fun s=>(PySem.W.Fast.tw4187177175401517315 qN ["BOUND","GREATEST"] (PySem.W.Fast.tw5923862056798008813 pN.main.body) (fun _=>true) true s.abs).2.2.2.2.2.1)=some (plainGoodE qN (looseW qN ["BOUND","GREATEST"])):=fun w os=>by kernel_rfl
theorem NQ:∀ (w:World) (os:OsState),(dC pN w 11 (some (.ref 6)) 40178 ⟨eZ (boot_heap w.params).objs.toList,11,{},Array.mk [],boot_drawn,boot_toks,os⟩ (topStub pN)).map (fun s=>((PySem.W.Fast.tw4187177175401517315 qN ["BOUND","GREATEST"] (PySem.W.Fast.tw5923862056798008813 pN.main.body) (fun _=>true) true s.abs).2.2.2.2.1,(PySem.W.Fast.tw4187177175401517315 qN ["BOUND","GREATEST"] (PySem.W.Fast.tw5923862056798008813 pN.main.body) (fun _=>true) true s.abs).2.2.2.2.2.2))=some (pinGoodD (drecsOf qN),plainGoodD qN ["BOUND","GREATEST"],wideGood qN,clsGoodW qN ["BOUND","GREATEST"]):=fun w os=>by kernel_rfl
noncomputable abbrev nX:Nat:=15
noncomputable abbrev wI:Nat:=1
end Mine.Internal
namespace Mine.Internal
theorem aW {T:Prop} (h:∀ G:Prop,(T->G)->G):T:=h T id
section
variable {a b c d e f g h:Nat} {i j k l m n p:Int}
theorem c3 (u:a<b) (v:b<c) (w:c<d):3<=d:=Om (Nat.succ_le_of_lt (OC (Nat.succ_le_of_lt (OC (Nat.succ_le_of_lt (OC (OG a) u)) v)) w)) (Oo d)
theorem nA (u:0<=i) (v:i<(b:Int)):i.natAbs<b:=OP.mp (by rw[Int.natAbs_of_nonneg u];exact v)
theorem o0:a<=800->b<=a->b<=1000:=fun u v=>Om v (Om u (Oj rfl))
theorem o1:a<=800->b<=a->b<=900:=fun u v=>Om v (Om u (Oj rfl))
theorem o2:1<=i->0<i:=fun u=>Int.lt_of_add_one_le u
theorem o3:a<=7->a<=1000:=fun u=>Om u (Oj rfl)
theorem o6:a<=800->a<=900:=fun u=>Om u (Oj rfl)
theorem o8:i<=(a:Int)->0<=j/\j<i->j.toNat<a:=fun u v=>(Int.toNat_lt v.1).mpr (ON v.2 u)
theorem o9:0<=(a:Int):=O' a
theorem Km:¬(a:Int)<0:=Int.not_ofNat_neg a
theorem HE:a<=8->a<=1000:=fun u=>Om u (Oj rfl)
theorem H_:a<=60->a<=1000:=fun u=>Om (u) (Oj rfl)
theorem HD:3<=a->0<(a:Int):=fun u=>OP.mpr (OD (Oj rfl) u)
theorem Kl:i<=(a:Int)->a<=1000->i<2^250:=fun u v=>OM (OL u (OO.mpr v)) (by decide)
theorem Kk:0<=i/\i<j->i=(i.toNat:Int):=fun u=>(OR u.1).symm
theorem Kj:a<=1000->i.toNat<a->i.toNat<=100000:=fun u v=>Om (OQ v) (Om u (by decide))
theorem Ki: -1000<=(a:Int):=Int.neg_ofNat_le_natCast 1000 a
theorem H5:0<=i/\i<(a:Int)->i.toNat<a:=fun u=>(Int.toNat_lt u.1).mpr u.2
theorem NH:1<=a+1:=Nat.le_add_left 1 a
theorem Mn:1<=i/\i<=10^9->i.natAbs<2^64:=fun u=>nA (OL (by decide) u.1) (OM u.2 (by decide))
theorem Kh:1<=a->0<(a:Int):=fun u=>Int.natCast_pos.mpr u
theorem Kg:a<=900->b<=a->b<=1000:=fun u v=>Om v (Om u (Oj rfl))
theorem Kd:3<=a->0<(a:Int) - 1:=fun u=>Int.sub_pos_of_lt (OP.mpr (OD (by decide) u))
theorem Kb:0<a->0<(a:Int):=fun u=>Int.natCast_pos.mpr u
theorem NG:1<=i/\i<=10^9->0<i:=fun u=>ON (by decide) u.1
theorem LL:2<=a/\a<=60->a<=1000:=fun u=>Om u.2 (by decide)
theorem LK:a+(b+1)=a+1+b:=Eq.symm (Nat.succ_add_eq_add_succ a b)
theorem LJ:(a:Int)<=(a:Int):=Int.le_refl ↑a
theorem LI:1<=i->i<=10^9->i.natAbs<2^64:=fun u v=>nA (OL (by decide) u) (OM v (by decide))
theorem LG:2<=a+1+1:=Nat.le_add_left 2 a
theorem NF:a+(b+1)≠a:=by lia
theorem Lf:a<=2^24->(a:Int)<9223372036854775808:=fun u=>OP.mpr (OC u (Oj rfl))
theorem Le:a<b->b - (a+1)<b - a:=fun u=>Nat.sub_succ_lt_self b a u
theorem NE:i<=10^9*10^9->i<2^250:=fun u=>OM u (by decide)
theorem ND:a<=1000->(a:Int)<=100000000:=fun u=>OO.mpr (Om u (by decide))
theorem NC:a+(b+1)<=1000000->a+1+b<=1000000:=fun u=>Om (O1 (Nat.succ_add a b)) u
theorem NB:0<=i/\i<41->i=(a:Int)->a<=1000:=fun u v=>Om (OQ (OP.mp (v ▸ u.2:(a:Int)<((41:Nat):Int)))) (by decide)
theorem NA:a<=900->b<=a->0+b<=1000000:=fun u v=>Om (O1 (O4 b)) (Om v (Om u (by decide)))
theorem Nz:a<=900->b<=a->c<=b->c<=1000:=fun u v w=>Om w (Om v (Om u (by decide)))
theorem N9:a+(b+1)<=1000->a+1+b<=1000:=fun u=>Om (O1 (Nat.succ_add a b)) u
theorem Ny:a<=900->a<=1000:=fun u=>Om u (by decide)
theorem KQ:a<=1000->0+a<=1000000:=fun u=>Om (O1 (O4 a)) (Om u (by decide))
theorem Nx:a<b+1+c->a<b+(c+1):=fun u=>OD u (O1 (Nat.succ_add b c))
theorem Nw:0<=i/\i<12->i=(a:Int)->a<=1000:=fun u v=>Om (OQ (OP.mp (v ▸ u.2:(a:Int)<((12:Nat):Int)))) (by decide)
theorem KO:¬a+1=0:=Nat.add_one_ne_zero a
theorem Nv:a<=8->(a:Int) - 1<2^250:=fun u=>OM (Int.sub_le_sub_right (OO.mpr u) 1) (by decide)
theorem Nu:0<=i/\i<40->1<=1+i/\1+i<=10^9:=fun u=>⟨O6 u.1,OL (Int.add_le_add_left (O8 u.2) 1) (by decide)⟩
theorem Nt:0<=i/\i<10^9->1<=1+i/\1+i<=10^9:=fun u=>⟨O6 u.1,by rw[Int.add_comm];exact Int.add_one_le_of_lt u.2⟩
theorem Nr:0<max 1 (a:Int):=ON (by decide) (Int.le_max_left _ _)
theorem Nq:a<=800->b<=a->max 1 (b:Int)<2^250:=fun u v=>Int.max_lt.mpr ⟨by decide,OM (OO.mpr (Om v u)) (by decide)⟩
theorem Np:1<=i/\i<=4*10^29->i<10^30:=fun u=>OM u.2 (by decide)
theorem No:0<=i/\i<=500-> -1000<=min ((a:Int) - 2) i:=fun u=>Int.le_min.mpr ⟨OL (by decide:(-1000:Int)<=0 - 2) (Int.sub_le_sub_right (O' a) 2),OL (by decide) u.1⟩
theorem Nm:a+(b+1)<=100->a+1+b<=100:=fun u=>Om (O1 (Nat.succ_add a b)) u
theorem Nl:a=3+b->0<(a:Int):=fun u=>OP.mpr (u ▸ OD (by decide) (O5 3 b))
theorem IR:i=(a:Int) / 3->0<1+i:=fun u=>u ▸ ON (by decide) (O6 (Int.ediv_nonneg (O' a) (by decide)))
theorem Iv:a+1+b=a+(b+1):=Nat.succ_add_eq_add_succ a b
theorem Ip: -2^62<i/\i<2^62-> -2^63<=i:=fun u=>OL (by decide) u.1
theorem Ik: -2^62<i/\i<2^62->i<2^63:=fun u=>OL u.2 (by decide)
theorem Ie:a=b->c<a->c<b:=fun u v=>u ▸ v
theorem F8:1<=a->a - 1<a:=fun u=>Nat.sub_one_lt_of_lt u
theorem H8:i.natAbs<2^64-> -2^64<i:=fun u=>Int.neg_lt_of_neg_lt (OM (Int.natAbs_neg i ▸ Int.le_natAbs) (ON (OP.mpr u) (by decide)))
theorem H7:i.natAbs<2^64->i<2^64:=fun u=>OM Int.le_natAbs (ON (OP.mpr u) (by decide))
theorem H6:a+64<b->c<=9->a+1+min c d<b:=fun u v=>OC (Om (OS (Om (Nat.min_le_left _ _) v) _) (OS (by decide:10<=64) a)) u
theorem M1:¬((a+1:Nat):Int)<1:=of_decide_eq_false rfl
theorem M0:¬b<a->¬(b:Int)<(a:Int):=fun u v=>u (OP.mp v)
theorem MZ:i<=(a:Int)->0<=j/\j<i->j.toNat<min i.toNat a:=fun u v=>Nat.lt_min.mpr ⟨(Int.toNat_lt v.1).mpr (ON v.2 (Int.self_le_toNat i)),(Int.toNat_lt v.1).mpr (ON v.2 u)⟩
theorem MY:((a:Int) - 0 - 1+1).toNat=a:=by rw[Int.sub_zero,Int.sub_add_cancel];rfl
theorem MX:¬0<(a:Int)->0=a:=fun u=>(Nat.eq_zero_of_not_pos fun q=>u (OP.mpr q)).symm
theorem MW:0<=i/\i<(a:Int)->i=(b:Int)->(b:Int)<=(a:Int):=fun u v=>v ▸ O8 u.2
theorem MV:0<=(a:Int)+1:=Int.zero_le_ofNat (a+1)
theorem MU:0<=i/\i<(a:Int)->i=(b:Int)->(b:Int)+1<=(a:Int):=fun u v=>Int.add_one_le_of_lt (v ▸ u.2)
theorem MT:((a:Int)+1).toNat=a+1:=Int.toNat_natCast_add_one
theorem MS:a<=11->1<=a+1/\a+1<=12:=fun u=>⟨O9 (OG a),O9 u⟩
theorem MR:a<b->c<b->d<b->a≠c->a≠d->c≠d->3<=b:=fun u v w x y z=>(Nat.lt_or_gt_of_ne x).elim (fun p=>(Nat.lt_or_gt_of_ne z).elim (fun q=>c3 p q w) fun q=>(Nat.lt_or_gt_of_ne y).elim (fun r=>c3 r q v) fun r=>c3 r p v) fun p=>(Nat.lt_or_gt_of_ne y).elim (fun q=>c3 p q w) fun q=>(Nat.lt_or_gt_of_ne z).elim (fun r=>c3 r q u) fun r=>c3 r p u
theorem MQ:i=j->¬j<i:=fun u=>by subst u;exact Int.lt_irrefl _
theorem MP:a+(b+1)<=40->a+1+b<=40:=fun u=>Om (O1 (Nat.succ_add a b)) u
theorem MO:a+(b+1)<=40->a+1<=1000:=fun u=>Om (OS (O9 (OG b)) a) (Om u (by decide))
theorem MN:0<=i/\i<41->i=(a:Int)->0+a<=40:=fun u v=>Om (O1 (O4 a)) (Pe (OP.mp (v ▸ u.2:(a:Int)<((41:Nat):Int))))
theorem MM:0<=i/\i<41->i=(a:Int)->b<a->b<100:=fun u v w=>O7 w (OD (OP.mp (v ▸ u.2:(a:Int)<((41:Nat):Int))) (by decide))
theorem ML:a<=1000->a - 1<=100000:=fun u=>Om (Nat.sub_le a 1) (Om u (by decide))
theorem MJ:2<=a/\a<=60->0+a<=1000000:=fun u=>Om (O1 (O4 a)) (Om u.2 (by decide))
theorem MI:i<j->j<=i->False:=fun u v=>Int.not_le.mpr u v
theorem MH:a<=900->0+a<=1000:=fun u=>by rw[O4];exact Om u (Oj rfl)
theorem MG:((i+j) % 36).toNat=a->(i+j) % 36=(a:Int):=fun u=>u ▸ (OR (Int.emod_nonneg _ (by decide))).symm
theorem ME:(i+j*(3:Int)) % 36=(13:Int)->(i+j*(5:Int)) % 36=(4:Int)->False:=fun u v=>by have h1:=Int.emod_emod_of_dvd (i+j*3) (show (2:Int) ∣ 36 by decide);have h2:=Int.emod_emod_of_dvd (i+j*5) (show (2:Int) ∣ 36 by decide);rw[u] at h1;rw[v,show i+j*5=i+j*3+2*j by rw[Int.add_assoc,Int.mul_comm 2,<-Int.mul_add];rfl,Int.add_mul_emod_self_left,<-h1] at h2;exact absurd h2 (by decide)
theorem MD:¬a<=3->a≠0+1:=fun u v=>u (Om (O1 v) (Oj rfl))
theorem MC:¬a<=3->a≠1+1:=fun u v=>u (v ▸ by decide)
theorem MB:¬a<=3->a≠2+1:=fun u v=>u (O1 v)
theorem MA:(i+j*(0:Int)) % 36=(19:Int)->(i+j*(2:Int)) % 36=(0:Int)->False:=fun u v=>by have h1:=Int.emod_emod_of_dvd (i+j*0) (show (2:Int) ∣ 36 by decide);have h2:=Int.emod_emod_of_dvd (i+j*2) (show (2:Int) ∣ 36 by decide);rw[u] at h1;rw[v,show i+j*2=i+j*0+2*j by rw[Int.add_assoc,Int.mul_comm 2,<-Int.mul_add];rfl,Int.add_mul_emod_self_left,<-h1] at h2;exact absurd h2 (by decide)
theorem Mz:0<=i/\i<12->i=(a:Int)->b<0+a->b+1+1<=1000:=fun u v w=>Om (O9 (Nat.succ_le_of_lt (OD w (Om (O1 (O4 a)) (OQ (OP.mp (v ▸ u.2:(a:Int)<((12:Nat):Int)))))))) (by decide)
theorem My:0<=i/\i<12->i=(a:Int)->b<0+a->((b:Int)).natAbs<2^64:=fun u v w=>OD w (Om (O1 (O4 a)) (Om (OQ (OP.mp (v ▸ u.2:(a:Int)<((12:Nat):Int)))) (by decide)))
theorem Mx:0<=i/\i<12->i=(a:Int)->a<=11:=fun u v=>Pe (OP.mp (v ▸ u.2:(a:Int)<((12:Nat):Int)))
theorem Mw:0<= -1+((a+1:Nat):Int):=by rw[Int.natCast_add,Int.add_comm,Int.add_assoc];exact OL (O' a) (Int.le_of_eq (Int.add_zero _).symm)
theorem Mu:(-1+((a+1:Nat):Int)).toNat=a:=by rw[Int.natCast_add,Int.add_comm,Int.add_assoc];exact congrArg Int.toNat (Int.add_zero _)
theorem Mt:a<a+1:=Nat.lt_succ_self a
theorem Ms:1+a=a+1:=Nat.add_comm 1 a
theorem Mr:0<=i/\i<99999 - j->j+1+i<=99999:=fun u=>by rw[Int.add_assoc,Int.add_comm 1 i,Int.add_comm j];exact Int.add_le_of_le_sub_right (Int.add_one_le_of_lt u.2)
theorem Mq:0<=i/\i<99999 - j->j<j+1+i:=fun u=>ON (Int.lt_succ j) (O6 u.1)
theorem Mp:min 99999 (i+1+j)<=99999:=O_ 99999 (i+1+j)
theorem Mo:i<99999->0<=j/\j<7->i<min 99999 (i+1+j):=fun u v=>Int.lt_min.mpr ⟨u,ON (Int.lt_succ i) (O6 v.1)⟩
theorem Mm:0<=i/\i<4*10^29->1+i<=4*10^29:=fun u=>by rw[Int.add_comm];exact Int.add_one_le_of_lt u.2
theorem Ml:0<=i/\i<(a:Int) - 1->1+i.toNat<a:=fun u=>by rw[Nat.add_comm];exact OP.mp (by rw[Int.natCast_add,OR u.1];exact Int.add_lt_of_lt_sub_right u.2)
theorem Mk:0<=i/\i<(a:Int) - 1->1+i=((1+i.toNat:Nat):Int):=fun u=>by rw[Int.natCast_add,OR u.1];rfl
theorem Mj:0<=i/\i<(a:Int)->i.toNat=b->1+i=(b:Int)+1:=fun u v=>by rw[<-v,OR u.1,Int.add_comm]
theorem Mi:a<=60->0+a<=1000000:=fun u=>Om (O1 (O4 a)) (Om u (by decide))
theorem Mh:i+j=k->i+l=k+m->l - j=m:=fun u v=>by subst u;rw[Int.add_assoc] at v;rw[Int.add_left_cancel v,Int.add_comm,Int.add_sub_cancel]
theorem Mf:0<i->j=i->j<=0->False:=fun u v w=>absurd (v ▸ w) (Int.not_le.mpr u)
theorem Me:i<j->k=i->j<=k->False:=fun u v w=>absurd (v ▸ w) (Int.not_le.mpr u)
theorem Md:0<=i/\i<(a:Int) - 1->1+i<(a:Int):=fun u=>by rw[Int.add_comm];exact Int.add_lt_of_lt_sub_right u.2
theorem Mc:0<=i/\i<(a:Int)->0<=j/\j<(a:Int)->i.toNat=j.toNat->i≠j->False:=fun u v w x=>x (by rw[<-OR u.1,w,OR v.1])
theorem Mb:0<=i->¬i=0->1<=i:=fun u v=>Int.lt_iff_le_and_ne.mpr ⟨u,fun h=>v h.symm⟩
theorem Ma:0<=i/\i<3->(i - 1).natAbs<2^64:=fun u=>(Int.le_total 0 (i - 1)).elim (fun h=>nA h (Int.lt_trans (Int.sub_lt_sub_right u.2 1) (by decide))) fun h=>Int.natAbs_neg (i - 1) ▸ nA (Int.neg_nonneg_of_nonpos h) (by rw[Int.neg_sub];exact OM (Int.sub_le_self 1 u.1) (by decide))
theorem L_:3*a+3=3*(a+1):=Eq.symm (Nat.mul_succ 3 a)
theorem L9:1<=i/\i<=4*10^29->j=0->0 - i - j≠0:=fun u v w=>by subst v;exact absurd (OL u.1 (Int.le_of_eq (Int.neg_eq_zero.mp (by rwa [Int.sub_zero,Int.zero_sub] at w)))) (by decide)
theorem L8:2<=a->2*b<=c->2*(b+1)<=c+a:=fun u v=>Nat.add_le_add v u
theorem L7:0<=i/\i<20->(1+i).toNat<=20:=fun u=>Int.toNat_le.mpr (by rw[Int.add_comm];exact Int.add_one_le_of_lt u.2)
theorem L5:a<0->i+(a:Int)*3<j:=fun u=>absurd u (Nat.not_lt_zero a)
theorem LZ:0<=i/\i<=500->i+(a:Int)*3=((i.toNat+a*3:Nat):Int):=fun u=>by obtain ⟨n,rfl⟩:=Int.eq_ofNat_of_zero_le u.1;rfl
theorem F7:0<=i/\i<=500->i+(a:Int)*3<min ((b:Int) - 2) j->i.toNat+a*3+2<b:=fun u v=>by obtain ⟨n,rfl⟩:=Int.eq_ofNat_of_zero_le u.1;exact OP.mp (Int.add_lt_of_lt_sub_right (ON v (O_ _ _)))
theorem LY:0<=i/\i<=500->i+(a:Int)*3<min ((b:Int) - 2) j->i.toNat+a*3+1<b:=fun u v=>Nat.lt_of_succ_lt (F7 u v)
theorem LX:a+(b+1)<=100->a+1<=1000:=fun u=>Om (OS (O9 (OG b)) a) (Om u (by decide))
theorem LW:b+(a+1)<=100->b+1<=1000:=fun u=>Om (OS (O9 (OG a)) b) (Om u (by decide))
theorem LV:a<=800->b<=a->0+b<=1000000:=fun u v=>Om (O1 (O4 b)) (Om v (Om u (by decide)))
theorem LU:0<=max 0 i:=Int.le_max_left _ _
theorem LS:a<=800->b<=a->c=3+b->(c:Int)<2^250:=fun u v w=>OM (OO.mpr (w ▸ OS (Om v u) 3)) (by decide)
theorem LQ:a<=800->b<=a->c=3+b->c<=1000:=fun u v w=>w ▸ Om (OS (Om v u) 3) (by decide)
theorem LP:a<=800->b<=a->c=3+b->i.toNat<c->i.toNat<=100000:=fun u v w x=>Om (OQ x) (w ▸ Om (OS (Om v u) 3) (by decide))
theorem LO:a<=b->0<= -(a:Int)+(b:Int):=fun u=>by rw[Int.add_comm,<-Int.sub_eq_add_neg];exact Int.sub_nonneg_of_le (OO.mpr u)
theorem LN:(-(a:Int)+(b:Int)).toNat=b - a:=by rw[Int.add_comm,<-Int.sub_eq_add_neg];exact Int.toNat_sub b a
theorem LM: -(a:Int)<=100000000:=Int.neg_natCast_le_ofNat a 100000000
theorem LH:a<=63->i=(a:Int) / 3->1+i<2^250:=fun u v=>by subst v;exact OM (Int.add_le_add_left (OL (Int.ediv_le_self _ (O' a)) (OO.mpr u)) 1) (by decide)
theorem LF:¬0<=i->0<=i+(a:Int)->(i+(a:Int)).toNat<a:=fun u v=>(Int.toNat_lt v).mpr (by have:=Int.add_lt_add_right (Int.not_le.mp u) (a:Int);rwa [Int.zero_add] at this)
theorem LE:i<0->i+(a:Int)<=(a:Int):=fun u=>OL (Int.add_le_add_right (O8 u) a) (Int.le_of_eq (Int.zero_add _))
theorem LD:((a:Int)+(b:Int)*1).toNat=a+b:=by rw[Int.mul_one];exact Int.toNat_natCast (a+b)
theorem LC:1≠a+1+1:=Nat.ne_of_beq_eq_false rfl
theorem LB:a+(b+1)<=7->c<b->a+(c+1)<7:=fun u v=>OD (Nat.add_lt_add_left (Nat.succ_lt_succ v) a) u
theorem LA:a+(b+1)<=7->a+1+b<=7:=fun u=>Om (O1 (Nat.succ_add a b)) u
theorem Lz:a+0<a+(b+1):=Nat.add_lt_add_left (Nat.succ_pos b) a
theorem Ly:a=b->b<=7->0+a<=7:=fun u v=>Om (O1 ((O4 a).trans u)) v
theorem Lx:a=b->b<=7->c<0+a->c<7:=fun u v w=>OD w (Om (O1 ((O4 a).trans u)) v)
theorem Lw:a+8*b+150<c->a+1+8*b+144<c:=fun u=>by rw[Nat.add_right_comm a 1];exact OC (OS (by decide:145<=150) _) u
theorem Lv:a+64*b+1000<c->d<=a+10->d+64*b+945<c:=fun u v=>OC (Om (Nat.add_le_add_right (Nat.add_le_add_right v _) _) (by rw[Nat.add_right_comm a 10];exact OS (by decide:955<=1000) _)) u
theorem Lu:a<7->a=b->c=b->d<0+c->d<7:=fun u v w x=>by subst v;subst w;rw[O4] at x;exact O7 x u
theorem Lr:a=b->c=b->d<0+c->d=a->False:=fun u v w x=>by rw[x,v,u,O4] at w;exact OU _ w
theorem Lq:a<7->a=b->c=b->c<=999:=fun u v w=>by subst v;subst w;exact Om (OQ u) (by decide)
theorem Lp:a<7->a=b->b<=6:=fun u v=>v ▸ Pe u
theorem Ln: -2^63<=(a:Int):=Int.neg_ofNat_le_natCast (2^63) a
theorem Lm:(a:Int) - ((b:Int)+1)=(a:Int) - (b:Int) - 1:=Eq.symm (Int.sub_sub (↑a) (↑b) 1)
theorem Ll:a=b->(a:Int) - (b:Int)<=0:=fun u=>by rw[u,Int.sub_self];exact Int.le_refl 0
theorem Lk:a+8*(b+1)+144<c->a<c:=fun u=>OC (Om (O5 a _) (O5 _ 144)) u
theorem Lj:a+8*(b+1)+144<c->a+1+8*b+150<c:=fun u=>OC (by rw[Nat.mul_succ,<-Nat.add_assoc,Nat.add_right_comm a 1];exact OS (by decide:151<=152) _) u
theorem Li:a+64*(b+1)+945<c->a+3+64*b+1000<c:=fun u=>OC (by rw[Nat.mul_succ,<-Nat.add_assoc,Nat.add_right_comm a 3];exact OS (by decide:1003<=1009) _) u
theorem Lh:a+8*(b+1)+144<c->a+1+8*b+151<c:=fun u=>OC (by rw[Nat.mul_succ,<-Nat.add_assoc,Nat.add_right_comm a 1];exact Oo _) u
theorem Lg:a+64*(b+1)+945<c->a+3+64*b+1005<c:=fun u=>OC (by rw[Nat.mul_succ,<-Nat.add_assoc,Nat.add_right_comm a 3];exact OS (by decide:1008<=1009) _) u
theorem Ld:a<=50->b=300->1+b+8*(a+1)+144<1000:=fun u v=>by subst v;exact OC (Nat.add_le_add_right (OS (Pd 8 (O9 u)) _) _) (by decide)
theorem Lc:b<a+2->b<a+c+2:=fun u=>OD u (Nat.add_le_add_right (O5 a c) 2)
theorem Lb:a<=b->¬c≥a->(c+a) / 2<b:=fun u v=>OD ((Nat.div_lt_iff_lt_mul (by decide)).mpr (by rw[Nat.mul_two];exact Nat.add_lt_add_right (Nat.not_le.mp v) a)) u
theorem La:2<=a->b=a->0<b:=fun u v=>v ▸ OD (by decide) u
theorem K_:1<((a+1+1:Nat):Int):=Int.compare_eq_gt.mp rfl
theorem K9:0<((a+1:Nat):Int):=Int.ofNat_succ_pos a
theorem K8:a=b->c<a->min c b=c:=fun u v=>Nat.min_eq_left (u ▸ OQ v)
theorem K7:a+8*b+151<c->a+151<c:=fun u=>OC (Nat.add_le_add_right (O5 a _) _) u
theorem K6:a+64*b+1005<c->a+1005<c:=fun u=>OC (Nat.add_le_add_right (O5 a _) _) u
theorem K5:a+b+2<=2^27->(c:Int)+(d:Int)>((2^27:Nat):Int)->c<=a+1->d<=b+1->False:=fun u v w x=>absurd (OP.mp v) (Pb.mpr (Om (Nat.add_le_add w x) (Om (O1 (Nat.add_add_add_comm a 1 b 1)) u)))
theorem K4:¬(a:Int)+1=0:=Int.ne_of_gt (Int.lt_add_one_of_le (O' a))
theorem K3:a+64*b+1000<c->a+64<c:=fun u=>OC (Nat.add_le_add (O5 a _) (by decide)) u
theorem K2:a+(b+1)<=c->a+1+b<=c:=fun u=>Om (O1 (Nat.succ_add a b)) u
theorem K1:0<i->i<2^250->i.natAbs<2^250:=fun u v=>Int.natAbs_lt_natAbs_of_nonneg_of_lt (b:=2^250) (O8 u) v
theorem K0:a=b->¬a<b:=fun u=>u ▸ OU a
theorem KZ:¬(0<=i/\i<=99999)->¬i<0->99999<i:=fun u v=>Int.not_le.mp fun q=>u ⟨Pc.mp v,q⟩
theorem KY:a<=b+c->b<=d+1->a<=d+(c+1):=fun u v=>Om u (by rw[Nat.add_comm c 1,<-Nat.add_assoc];exact Nat.add_le_add_right v c)
theorem KX:a+(b+1)<=100000->a<=100000:=fun u=>Om (O5 a _) u
theorem KW:a+(b+1)<=100000->a+1+b<=100000:=fun u=>by rw[Nat.add_right_comm];exact u
theorem KV:a+60*(b+1)<=100000->c<=60->a+c<=100000:=fun u v=>Om (OS (Om v (Nat.le_mul_of_pos_right 60 (Nat.succ_pos b))) a) u
theorem KU:a+60*(b+1)<=100000->c<=60->d<=a+c->d+60*b<=100000:=fun u v w=>by rw[Nat.mul_succ] at u;exact Om (Nat.add_le_add_right (Om w (OS v a)) _) (by rw[Nat.add_right_comm,Nat.add_assoc];exact u)
theorem KT:a<=b+60*c->b<=d+e->e<=60->a<=d+60*(c+1):=fun u v w=>by rw[Nat.mul_succ,<-Nat.add_assoc,Nat.add_right_comm];exact Om u (Nat.add_le_add_right (Om v (OS w d)) _)
theorem KS:a<0+b->a<b:=fun u=>O4 b ▸ u
theorem KR:a<=63->i=(a:Int) / 3->0<=j/\j<1+i->8+3*j=k->0<=k/\k<=500:=fun u v w x=>by subst v;subst x;have h:j<=63:=OL (Int.le_of_lt_add_one (Int.add_comm 1 _ ▸ w.2)) (OL (Int.ediv_le_self _ (O' a)) (OO.mpr u));exact ⟨Int.add_nonneg (by decide) (Int.mul_nonneg (by decide) w.1),OL (Int.add_le_add_left (Int.mul_le_mul_of_nonneg_left h (by decide)) 8) (by decide)⟩
theorem Ji:a+(b - a)=max a b:=(Nat.add_comm _ _).trans ((Nat.sub_add_eq_max b a).trans (Nat.max_comm b a))
theorem Jh:a<=b->b+(c+1)=max a d->b<d:=fun u v=>Nat.lt_of_not_le fun w=>Pb.mpr (v ▸ Nat.max_le.mpr ⟨u,w⟩:b+(c+1)<=b) (Nat.lt_add_of_pos_right (Nat.succ_pos c))
theorem Jg:a+(b+1)=max c d->a+1+b=max c d:=fun u=>(Nat.succ_add_eq_add_succ a b).trans u
theorem Jf:¬c≥b - a->a+c<b:=fun u=>(Nat.add_comm a c) ▸ Nat.add_lt_of_lt_sub (Nat.lt_of_not_le u)
theorem Je:a<b->a+min c (b - a)<=b:=fun u=>Om (OS (Nat.min_le_right _ _) a) (O1 (Nat.add_sub_cancel' (OQ u)))
theorem Ff:a<=b->¬c≥a->c+(a - c) / 2<b:=fun u v=>have w:=Nat.lt_of_not_le v;OD (OD (Nat.add_lt_add_left (Nat.div_lt_self (Nat.sub_pos_of_lt w) (by decide)) c) (O1 (Nat.add_sub_cancel' (OQ w)))) u
theorem Jd:a<b->a - c<b:=fun u=>OC (Nat.sub_le a c) u
theorem Jc:a<b->a - c<=b:=fun u=>OQ (OC (Nat.sub_le a c) u)
theorem Jb:a<=b+c->a+1<=b+1+c:=fun u=>Om (O9 u) (O1 (Nat.succ_add b c).symm)
theorem Ja:a<=b+c->a<=b+d+c:=fun u=>Om u (Nat.add_le_add_right (O5 b d) c)
theorem I_:a<=b+c->a<=b+(c+d):=fun u=>Om u (OS (O5 c d) b)
theorem I9:a+1<b->c<d->¬b+d+1<=a+c:=fun u v w=>absurd (OD (Nat.lt_succ_self _) w) (Pb.mpr (Nat.add_le_add (OQ (Nat.lt_of_succ_lt u)) (OQ v)))
theorem Fd:1<=a->c+1+1<=c+1+(b+a):=fun u=>OS (Om u (Nat.le_add_left a b)) _
theorem xd:a+1+1<=a+1+b+1:=O9 (O5 _ _)
theorem I8:a<=b->b+c+d<=e+f->a+c+d<=e+f:=fun u v=>Om (Nat.add_le_add_right (Nat.add_le_add_right u c) d) v
theorem I7:1<=a->a<=b->a - 1<b:=fun u v=>OD (Nat.sub_one_lt (Nat.ne_of_gt u)) v
theorem I6:2<=a->a<=b->a - 1<b:=fun u v=>OD (Nat.sub_one_lt (Nat.ne_of_gt (Nat.lt_of_succ_lt u))) v
theorem I5:a - 1≠0->b+a+c<=d+e->b+1+(a - 1)+c<=d+e:=fun u v=>by rw[Nat.add_assoc b,Nat.add_sub_cancel' (Nat.le_of_not_lt fun w=>u (Nat.sub_eq_zero_of_le (OQ w)))];exact v
theorem I0:a+b+c<=d+e->2<=c->a+1+b+(c - 1)<=d+e:=fun u v=>by rw[Nat.add_right_comm a 1 b,Nat.add_assoc (a+b),Nat.add_sub_cancel' (Nat.le_of_succ_le v)];exact u
theorem IZ:a<=b->c+b+d<=e+f->c+a+d<=e+f:=fun u v=>Om (Nat.add_le_add_right (OS u c) d) v
theorem IY:a<=b->c+d+b<=e+f->c+d+a<=e+f:=fun u v=>Om (OS u (c+d)) v
theorem IX:a<=b->0+a<=b:=fun u=>(O4 a).symm ▸ u
theorem IW:a - 1<=a:=Nat.sub_le a 1
theorem IV:1<=a->0+1+(a - 1)+b<=a+b:=fun u=>O1 (congrArg (· +b) ((congrArg (· +(a - 1)) (O4 1)).trans (Nat.add_sub_cancel' u)))
theorem IU:¬c+d+1+a+b<=c+d:=fun u=>Nat.not_succ_le_self _ (Om (Om (O5 _ a) (O5 _ b)) u)
theorem IT:a<b->c+b<=d->e<=a->c+e<d:=fun u v w=>OD (Nat.add_lt_add_left (OC w u) c) v
theorem IS:a<b->c+b<=d->e<=a->c+e - 1<d:=fun u v w=>OC (Nat.sub_le _ 1) (OD (Nat.add_lt_add_left (OC w u) c) v)
theorem Fc:a+b<=c->d<b->e<=d->f=c->a+e<f:=fun u v w x=>x.symm ▸ OD (Nat.add_lt_add_left (OC w v) a) u
theorem Fb:a+b<=c->d<b->e<=d->f=c->a+e - 1<f:=fun u v w x=>x.symm ▸ OC (Nat.sub_le _ 1) (OD (Nat.add_lt_add_left (OC w v) a) u)
theorem IQ:a+b<=c->d<=b->d>1->a+d - 1<c:=fun u v w=>OD (Nat.sub_one_lt (Nat.ne_of_gt (OD (Nat.lt_of_succ_lt w) (Nat.le_add_left d a)))) (Om (OS v a) u)
theorem IP:a+b<=c->d<b->e=c->a+d<e:=fun u v w=>w.symm ▸ OD (Nat.add_lt_add_left v a) u
theorem IN:a+b<=c->d<b->e=c->(f+g) / 2<d->a+(f+g) / 2<e:=fun u v w x=>w.symm ▸ OD (Nat.add_lt_add_left (O7 x v) a) u
theorem IM:a+b+(c+1)<=d->a+b<d:=fun u=>OD (Nat.lt_add_of_pos_right (Nat.succ_pos c)) u
theorem IL:a+b+(c+1)<=d->a+(b+1)+c<=d:=fun u=>Om (O1 (Nat.succ_add_eq_add_succ (a+b) c)) u
theorem IK:a+(b+1) - (a+b)=1:=(Nat.add_sub_cancel_left (a+b) 1:a+b+1 - (a+b)=1)
theorem IJ:a=b+c->a<=b+(c+1)+d:=fun u=>Om (O1 u) (Om (OV _) (O5 _ d))
theorem II:a+(b+1)+c - (a+b)=c+1:=(congrArg (· - (a+b)) (Nat.succ_add_eq_add_succ (a+b) c)).trans (Nat.add_sub_cancel_left ..)
theorem IH:a+b+1+c=a+b+(c+1):=Nat.succ_add_eq_add_succ (a+b) c
theorem IG:a<=b->1<=c->d+c<=a->d<b:=fun u v w=>OD (Nat.lt_add_of_pos_right v) (Om w u)
theorem IF:a<=b->c+d=e->e+f<=a->c+d<=b:=fun u v w=>Om (O1 v) (Om (Om (O5 e f) w) u)
theorem IE:1<=a->0<a:=fun u=>u
theorem ID:a<=b->c+d=e->1<=d->e+f<=a->g<=d->c+g+(d - g) - 1<b:=fun u v w x y=>by rw[Nat.add_assoc,Nat.add_sub_cancel' y,v];exact OD (Nat.sub_one_lt (Nat.ne_of_gt (v ▸ OD w (Nat.le_add_left d c)))) (Om (Om (O5 e f) x) u)
theorem IC:¬b≥a->c<=a - b->b+c<=a:=fun u v=>Om (OS v b) (O1 (Nat.add_sub_cancel' (OQ (Nat.lt_of_not_le u))))
theorem IB:a>1->a - 2+1<a:=fun u=>OC (O1 (Nat.sub_add_cancel (Nat.le_sub_one_of_lt u):a - 2+1=a - 1)) (Nat.sub_one_lt (Nat.ne_of_gt (Nat.lt_of_succ_lt u)))
theorem IA:a=b->¬c≥b->d=a->c+min (b - c) e<=d:=fun u v w=>Om (Om (OS (Nat.min_le_left _ _) c) (O1 (Nat.add_sub_cancel' (OQ (Nat.lt_of_not_le v))))) (O1 (u.symm.trans w.symm))
theorem Iz:min (a - b) c<=a - b:=Nat.min_le_left _ _
theorem Iy:¬a<=1->a - 2+1<a:=fun u=>OC (O1 (Nat.sub_add_cancel (Nat.le_sub_one_of_lt (Nat.lt_of_not_le u)):a - 2+1=a - 1)) (Nat.sub_one_lt (Nat.ne_of_gt (Nat.lt_of_succ_lt (Nat.lt_of_not_le u))))
theorem Ix:¬a<=1->a - 2 - 1+1<a:=fun u=>OC (O9 (Nat.sub_le _ 1)) (OC (O1 (Nat.sub_add_cancel (Nat.le_sub_one_of_lt (Nat.lt_of_not_le u)):a - 2+1=a - 1)) (Nat.sub_one_lt (Nat.ne_of_gt (Nat.lt_of_succ_lt (Nat.lt_of_not_le u)))))
theorem Iw:¬a+1+1<2:=fun u=>absurd (Nat.lt_of_succ_lt_succ (Nat.lt_of_succ_lt_succ u)) (Nat.not_lt_zero a)
theorem Iu:a=b->a<2->b<2:=fun u v=>u ▸ v
theorem It:a=b->c=b->¬a<2->2<=c:=fun u v w=>Nat.le_of_not_lt fun x=>w (OC (O1 (u.trans v.symm)) x)
theorem pQ:a<=1000->b=a->b<=16777216:=fun u v=>Om (Om (O1 v) (u)) (Oj rfl)
theorem Ir:¬i<=j - 1->i<=k->j<=i/\i<=k:=fun u v=>⟨Pc.mp fun w=>u (Int.le_sub_one_of_lt w),v⟩
theorem Iq:¬i<j->¬i<=j - 1:=fun u v=>u (Int.lt_of_le_sub_one v)
theorem Io:i.toNat=a->0<=i/\i<j->i=(a:Int):=fun u v=>(OR v.1).symm.trans (congrArg (fun n:Nat=>(n:Int)) u)
theorem Im:i<=100->0<=j/\j<i->j=(a:Int)->a<=100000:=fun u v w=>OO.mp (w ▸ OL (O8 v.2) (OL u (by decide)))
theorem Il:a<b->i=7*((b:Int) - (a:Int)) / 2->0<=i:=fun u v=>v ▸ Int.ediv_nonneg (Int.mul_nonneg (by decide) (Int.sub_nonneg_of_le (OO.mpr (OQ u)))) (by decide)
theorem Ij:a<=120->b+a<=b+120:=fun u=>OS u b
theorem Ii:0<=i->0<=j->0<=min i j:=fun u v=>Int.le_min.mpr ⟨u,v⟩
theorem Ih:i<=99999->j<=99999->max i j<=99999:=fun u v=>Int.max_le.mpr ⟨u,v⟩
theorem Ig:min i j<=max i j:=OL (O_ _ _) (Int.le_max_left _ _)
theorem Ic:a=4->0+a<=1000000:=fun u=>by subst u;decide
theorem Ib:a=4->a<=1000:=fun u=>by subst u;decide
theorem Ia:0<=i/\i<120->i=(a:Int)->a<=120:=fun u v=>OO.mp (v ▸ O8 u.2)
end
inductive D where
 |none
 |bool (b:Bool)
 |int (i:Int)
 |str (s:List Nat)
 |tup (l:List D)
 |lst (l:List D)
 |dct (ks vs:List D)
 |rng (a b c:Int)
 |exc (c:Nat)
inductive PV where
 |d (x:D)
 |p (n j:Nat)
 /-- a list of the class's object at n and of data -/
 |b (n:Nat) (x:D)
inductive cb where
 |d (x:D)
 |list (l:List D)
 |dict (ks vs:List D)
inductive PO where
 |fld (f:cb)
 |rcd (i:Bool) (l:List cb)
 |dead
 |wrp (f:cb)
noncomputable abbrev av:=List PO
noncomputable abbrev a9:=List (Option PV)
inductive R (α:Type) where
 |ok (a:α)
 |ex (c:Nat)
noncomputable abbrev PM (α:Type):=av->Option (R α×av)
inductive Out where
 |next (ρ:a9)
 |ret (v:PV)
 |ex (c:Nat) (ρ:a9)
section
variable {α β:Type}
noncomputable def ret (a:α):PM α:=fun σ=>some (.ok a,σ)
noncomputable def uw (f:α->PM β):Option (R α×av)->Option (R β×av)
 |some (.ok a,σ)=>f a σ
 |some (.ex c,σ)=>some (.ex c,σ)
 |none=>none
noncomputable def bz (m:PM α) (f:α->PM β):PM β:=fun σ=>uw f (m σ)
noncomputable def DA (o:Option α):PM α:=fun σ=>o.map fun a=>(.ok a,σ)
def Wp (K:R α->av->Prop):Option (R α×av)->Prop
 |some (r,σ)=>K r σ
 |none=>False
def bK (K:R β->av->Prop) (f:α->PM β):R α->av->Prop
 | .ok a,σ=>Wp K (f a σ)
 | .ex c,σ=>K (.ex c) σ
theorem aH {K:R β->av->Prop} {f:α->PM β}:∀ {o:Option (R α×av)},Wp K (uw f o)->Wp (bK K f) o
 |none,h=>h
 |some (.ok _,_),h=>h
 |some (.ex _,_),h=>h
theorem gw {K:R α->av->Prop} {σ:av}:∀ {o:Option α},Wp K (o.map fun a=>(.ok a,σ))->∃ a,o=some a/\K (.ok a) σ
 |none,h=>h.elim
 |some a,h=>⟨a,rfl,h⟩
end
noncomputable def dX:Nat:=2^24
noncomputable def cb.toD:cb->D
 | .d x=>x
 | .list l=>.lst l
 | .dict ks vs=>.dct ks vs
noncomputable def PO.at:PO->Nat->Option cb
 | .fld f,0=>some f
 | .rcd _ l,j+2=>l[j]?
 | .wrp f,2=>some f
 |_,_=>none
noncomputable def PO.put:PO->Nat->cb->PO
 | .fld _,_,f=>.fld f
 | .rcd i l,j,f=>.rcd i (l.set (j - 2) f)
 | .dead,_,_=>.dead
 | .wrp _,_,f=>.wrp f
noncomputable def bU (σ:av) (n j:Nat):Option cb:=(σ[n]?).bind fun o=>o.at j
noncomputable def d8 (σ:av) (n j:Nat) (f:cb):av:=match σ[n]? with
 |some o=>σ.set n (o.put j f)
 |none=>σ
noncomputable def cb.rd:cb->Option D
 | .d _=>none
 | .list l=>some (.lst l)
 | .dict ks vs=>some (.dct ks vs)
noncomputable def rd (σ:av):PV->Option D
 | .d x=>some x
 | .p n j=>(bU σ n j).bind cb.rd
 | .b _ _=>none
noncomputable def n8:PV->Option D
 | .d x=>some x
 |_=>none
noncomputable def pC:List PV->Option (List D)
 |[]=>some []
 |v::r=>(n8 v).bind fun x=>(pC r).map (x::·)
noncomputable def g8 (o:PO):PM PV:=fun σ=>some (.ok (.p σ.length 0),σ++[o])
set_option genCtorIdx false
structure cP where
 Φ:Bool->Nat->List PV->PM PV
 hd:Bool
noncomputable def cP.up (K:cP):cP:=⟨K.Φ,true⟩
noncomputable def jU (a b:Int):Bool:=decide (a.natAbs<2^64)||decide (b.natAbs<2^64)||decide (a.natAbs.log2+b.natAbs.log2+2<=2^27)
noncomputable def lP (b:Int):Bool:=b !=0&&decide (b.natAbs<2^9000)
noncomputable def bI (i:Int):Bool:=decide (-(2^62)<i)&&decide (i<2^62)
noncomputable def cB (i:Int) (n:Nat):Option Nat:=
 if 0<=i then (if i<n then some i.toNat else none) else if 0<=i+n then some (i+n).toNat else none
noncomputable def oU (i:Int) (n:Nat):Nat:=if i<0 then (i+n).toNat else min i.toNat n
noncomputable def cR {α:Type} (l:List α) (lo hi:Nat):List α:=(l.drop lo).take (hi - lo)
noncomputable def iD:D->Option Int
 | .int i=>some i
 |_=>none
noncomputable def bD:D->Option Bool
 | .bool b=>some b
 |_=>none
noncomputable def sD:D->Option (List Nat)
 | .str s=>some s
 |_=>none
noncomputable def tD:D->Option (List D)
 | .tup l=>some l
 |_=>none
noncomputable def lD:D->Option (List D)
 | .lst l=>some l
 |_=>none
noncomputable def aq {α:Type} (c:Prop) [Decidable c] (a:α):Option α:=if c then some a else none
noncomputable def ub:D->Bool
 | .int _=>true
 | .str _=>true
 |_=>false
noncomputable def ch (a b c:Int):Nat:=if a<b then ((b - a - 1) / c+1).toNat else 0
noncomputable def items:D->Option (List D)
 | .tup l=>some l
 | .lst l=>aq (l.length<=dX) l
 | .str s=>aq (s.length<=dX) (s.map fun c=>.str [c])
 | .rng a b c=>aq ((bI a&&bI b&&decide (0<c)&&decide (c<1000)&&decide (ch a b c<=100000))=true) ((List.range (ch a b c)).map fun (i:Nat)=>.int (a+(i:Int)*c))
 | .dct ks _=>aq (ks.length<=100000/\ks.all ub=true) ks
 |_=>none
open Classical in
noncomputable def bn (σ:av) (x:D):PV->Bool
 | .d _=>true
 |v=>decide (rd σ v=some x)
noncomputable def eU (v:PV) (x:D) (i:Nat) (body:a9->av->Option (Out×av)):List D->a9->av->Option (Out×av)
 |[],ρ,σ=>some (.next ρ,σ)
 |y::r,ρ,σ=>match body (ρ.set i (some (.d y))) σ with
  |some (.next ρ',σ')=>if bn σ' x v then eU v x i body r ρ' σ' else none
  |z=>z
noncomputable def cX (v:PV) (x:D) (i:Nat) (test:a9->PM Bool) (bS:a9->PM PV) (ρ:a9):List D->List D->PM (List D)
 |[],acc=>ret acc
 |y::r,acc=>fun σ=>match test (ρ.set i (some (.d y))) σ with
  |some (.ok false,σ')=>if bn σ' x v then cX v x i test bS ρ r acc σ' else none
  |some (.ok true,σ')=>(match bS (ρ.set i (some (.d y))) σ' with
   |some (.ok (.d z),σ'')=>if bn σ'' x v/\acc.length<dX then cX v x i test bS ρ r (acc++[z]) σ'' else none
   |some (.ex c,σ'')=>some (.ex c,σ'')
   |_=>none)
  |_=>none
noncomputable def ce {α:Type} (ρ:a9) (m:PM α) (k:α->av->Option (Out×av)):av->Option (Out×av):=fun σ=>match m σ with
 |some (.ok v,σ')=>k v σ'
 |some (.ex n,σ')=>some (.ex n ρ,σ')
 |none=>none
noncomputable def sI (z:Option (Out×av)) (k:a9->av->Option (Out×av)):Option (Out×av):=match z with
 |some (.next ρ,σ)=>k ρ σ
 |z=>z
noncomputable def u8 (keep:Bool) (n:Nat) (σ:av):Nat->Option PO->Option (R PV×av)
 |0,some (.fld f)=>(match keep with
  |false=>some (.ok (.d f.toD),σ.take n)
  |true=>some (.ok (.p n 0),σ.take n++[.fld f]))
 |0,some o=>some (.ok (.p n 0),σ.take n++[o])
 |_,_=>none
noncomputable def Dp (n:Nat) (σ:av) (x:D):Option PO->Option (R PV×av)
 |some (.rcd true l)=>some (.ok (.b n x),σ.take n++[.rcd true l])
 |_=>none
noncomputable def FW (keep:Bool) (n:Nat):PV->av->Option (R PV×av)
 | .d x,σ=>some (.ok (.d x),σ.take n)
 | .p m j,σ=>if m<n then some (.ok (.p m j),σ.take n) else u8 keep n σ j σ[m]?
 | .b m x,σ=>if m<n then none else Dp n σ x σ[m]?
noncomputable def BQ (keep:Bool) (n:Nat):Option (Out×av)->Option (R PV×av)
 |some (.next _,σ')=>some (.ok (.d .none),σ'.take n)
 |some (.ret v,σ')=>FW keep n v σ'
 |some (.ex c _,σ')=>some (.ex c,σ'.take n)
 |none=>none
end Mine.Internal
namespace Mine.Internal
open PySem PyProof.Rows
structure Fm where
 L:Addr
 m:Str->Option Value
 cells:List Addr
 cv:Addr->Option Value
noncomputable def Fm.adr (f:Fm):List Addr:=f.L::f.cells
def Fm.like (f g:Fm):Prop:=g.L=f.L/\g.cells=f.cells
theorem Fm.like.refl (f:Fm):f.like f:=⟨rfl,rfl⟩
theorem Fm.like.trans {f g k:Fm} (a:f.like g) (b:g.like k):f.like k:=⟨b.1.trans a.1,b.2.trans a.2⟩
structure PF where
 params:Nat
 slots:Nat
 keep:Bool
 body:cP->a9->av->Option (Out×av)
noncomputable def FT (K:cP) (f:PF) (args:List PV):PM PV:=fun σ=>
 if args.length=f.params then BQ f.keep σ.length (f.body K (args.map some++List.replicate (f.slots - f.params) none) σ) else none
noncomputable def jk (T:Nat->Option PF):Nat->Bool->Nat->List PV->PM PV
 |0,_,_,_=>fun _=>none
 |d+1,hd,f,args=>match T f with
  |some pf=>FT ⟨jk T d,hd⟩ pf args
  |none=>fun _=>none
structure uH where
 c:Addr
 P:Addr
 pos:Pos
 qual:Str
structure bq where
 prog:Program
 w:World
 H:Heap
 book:Addr
 exc:Nat->Addr
 K:List (Addr×Obj)
 mg:Str->Option Value
 mb:Str->Option Value
 fnm:Nat->Str×Bool
 fadr:Nat->Addr
 att:Nat->Str
 key:Nat->Str
 gls:List (Str×(Option Int×List Nat))
 T:Nat->Option PF
 lam:Option uH
noncomputable abbrev bq.M (C:bq):Model:=model C.prog C.w
noncomputable abbrev cj (vs:List Value) (n:Nat):Obj:={cls:=.type "tuple",data:=.seq vs.toArray n}
noncomputable abbrev aJ (vs:List Value) (n:Nat):Obj:={cls:=.type "list",data:=.seq vs.toArray n}
structure Ks where
 n:Nat
 d:Option Addr
 sl:Array (Option Value)
noncomputable abbrev rn (vs:List Value) (r:Ks):Obj:={cls:=.type "list",dict:=r.d,data:=.seq vs.toArray r.n,slots:=r.sl}
noncomputable abbrev Aw (a b c:Int) (t u v:Tok):Obj:={cls:=.type "range",data:=.fields #[.int a t,.int b u,.int c v]}
noncomputable abbrev kN (c d:Addr):Obj:={cls:=.ref c,dict:=some d,data:=.plain}
noncomputable abbrev dp (es:List DictEntry) (n:Nat):Obj:={cls:=.type "dict",data:=.dict es.toArray n}
set_option genCtorIdx true in
inductive cx where
 |no
 |fz (o:Obj)
 |cell (n j:Nat)
 |gh
 |fr
noncomputable abbrev bp:=Addr->cx
def oX (s:List Nat):Prop:=(∀ c∈s,c<0x110000)/\s.length<=dX
noncomputable abbrev fU (s:List Nat):Str:=⟨s.toArray⟩
structure KD (C:bq) where
 K:Type
 dec:DecidableEq K
 knd:KeyKind C.prog C.w K
 toD:K->D
 ok:K->Prop
inductive uI (C:bq):KD C->Prop
 |str:uI C ⟨Str,inferInstance,strKind C.prog C.w,fun s=>.str s.cps.toList,fun s=>oX s.cps.toList⟩
 |int:uI C ⟨Int,inferInstance,intKind C.prog C.w,fun i=>.int i,fun _=>True⟩
def uG (C:bq) (w:bp) (ks:List Str) (a:Addr):Prop:=∃ vs n,w a= .fz (cj vs n)/\ItemsAre (strKind C.prog C.w) ks vs/\ks.length=2/\∀ s∈ks,oX s.cps.toList
noncomputable def Nk (ks:List Str):D:=.tup (ks.map fun s=>.str s.cps.toList)
inductive fq (C:bq) (w:bp) (o:Obj) (ks:List D) (vs:List Value):Prop
 |mk (k:KD C) (l:List (k.K×Value)):uI C k->(letI:=k.dec;o.IsDictOf k.knd l)->ks=l.map (fun p=>k.toD p.1)->vs=l.map (·.2)->(∀ p∈l,k.ok p.1)->fq C w o ks vs
 |pr (xs:List (List Str×Addr×Value)) (es:Array DictEntry) (ep:Nat):o.ExactDict->o.data= .dict es ep->es.toList=xs.map (entryOfKey (tupleKind (strKind C.prog C.w)))->(∀ x∈xs,uG C w x.1 x.2.1)->(xs.map (·.1)).Nodup->ks=xs.map (fun x=>Nk x.1)->vs=xs.map (·.2.2)->xs≠[]->fq C w o ks vs
mutual
inductive RD (C:bq) (w:bp):D->Value->Prop
 |none:RD C w .none .none
 |bool (b:Bool):RD C w (.bool b) (.bool b)
 |int (i:Int) (t:Tok):RD C w (.int i) (.int i t)
 |str (s:List Nat) (t:Tok):oX s->RD C w (.str s) (.str (fU s) t)
 |tup {a:Addr} {vs:List Value} {n:Nat} {ps:List D}:w a= .fz (cj vs n)->RDs C w ps vs->RD C w (.tup ps) (.ref a)
 |lst {a:Addr} {vs:List Value} {n:Ks} {ps:List D}:w a= .fz (rn vs n)->RDs C w ps vs->RD C w (.lst ps) (.ref a)
 |dct {a:Addr} {o:Obj} {vs:List Value} {ks ps:List D}:w a= .fz o->fq C w o ks vs->RDs C w ps vs->RD C w (.dct ks ps) (.ref a)
 |rng {r:Addr} (a b c:Int) (t u v:Tok):w r= .fz (Aw a b c t u v)->RD C w (.rng a b c) (.ref r)
 |exc {a:Addr} {o:Obj} {c:Nat} (vs:Array Value):w a= .fz o->o.cls= .ref (C.exc c)->o.data= .fields vs->RD C w (.exc c) (.ref a)
inductive RDs (C:bq) (w:bp):List D->List Value->Prop
 |nil:RDs C w [] []
 |cons {p:D} {v:Value} {ps:List D} {vs:List Value}:RD C w p v->RDs C w ps vs->RDs C w (p::ps) (v::vs)
end
section
variable {C:bq} {w w':bp}
abbrev Fz (w w':bp):Prop:=∀ a o,w a= .fz o->w' a= .fz o
theorem uG.ext (x:Fz w w') {ks:List Str} {a:Addr}:uG C w ks a->uG C w' ks a
 |⟨vs,n,h,r⟩=>⟨vs,n,x _ _ h,r⟩
theorem fq.ext (x:Fz w w') {o:Obj} {ks:List D} {vs:List Value}:fq C w o ks vs->fq C w' o ks vs
 | .mk k l a b c d e=>.mk k l a b c d e
 | .pr xs es ep a b c d e f g h=>.pr xs es ep a b c (fun y hy=>(d y hy).ext x) e f g h
theorem RD.ext (x:Fz w w') {p:D} {v:Value} (h:RD C w p v):RD C w' p v:=
 RD.rec (motive_1:=fun p v _=>RD C w' p v) (motive_2:=fun p v _=>RDs C w' p v) .none .bool .int .str (fun h _ r=>.tup (x _ _ h) r) (fun h _ r=>.lst (x _ _ h) r) (fun h d _ r=>.dct (x _ _ h) (d.ext x) r) (fun a b c t u v h=>.rng a b c t u v (x _ _ h)) (fun vs h a b=>.exc vs (x _ _ h) a b) .nil (fun _ _ h r=>.cons h r) h
theorem RDs.ext (x:Fz w w') {p:List D} {v:List Value} (h:RDs C w p v):RDs C w' p v:=
 RDs.rec (motive_1:=fun p v _=>RD C w' p v) (motive_2:=fun p v _=>RDs C w' p v) .none .bool .int .str (fun h _ r=>.tup (x _ _ h) r) (fun h _ r=>.lst (x _ _ h) r) (fun h d _ r=>.dct (x _ _ h) (d.ext x) r) (fun a b c t u v h=>.rng a b c t u v (x _ _ h)) (fun vs h a b=>.exc vs (x _ _ h) a b) .nil (fun _ _ h r=>.cons h r) h
inductive kC {ι:Type} (C:bq) (w:bp) (mk:List Value->ι->Obj) (ps:List D):Value->Prop
 |mk {a:Addr} {vs:List Value} {n:ι}:w a= .fz (mk vs n)->RDs C w ps vs->kC C w mk ps (.ref a)
inductive E3 (C:bq) (w:bp) (ks ps:List D):Value->Prop
 |mk {a:Addr} {o:Obj} {vs:List Value}:w a= .fz o->fq C w o ks vs->RDs C w ps vs->E3 C w ks ps (.ref a)
inductive Hu (w:bp) (a b c:Int):Value->Prop
 |mk {r:Addr} (t u v:Tok):w r= .fz (Aw a b c t u v)->Hu w a b c (.ref r)
inductive E2 (C:bq) (w:bp) (c:Nat):Value->Prop
 |mk {a:Addr} {o:Obj}:w a= .fz o->o.cls= .ref (C.exc c)->E2 C w c (.ref a)
def J4 (C:bq) (w:bp) (v:Value):D->Prop
 | .none=>v= .none
 | .bool b=>v= .bool b
 | .int i=>∃ t,v= .int i t
 | .str s=>oX s/\∃ t,v= .str (fU s) t
 | .tup ps=>kC C w cj ps v
 | .lst ps=>kC C w rn ps v
 | .dct ks ps=>E3 C w ks ps v
 | .rng a b c=>Hu w a b c v
 | .exc c=>E2 C w c v
theorem RD.view {p:D} {v:Value} (h:RD C w p v):J4 C w v p:=by
 cases h with
 |none=>rfl
 |bool b=>rfl
 |int i t=>exact ⟨t,rfl⟩
 |str s t h=>exact ⟨h,t,rfl⟩
 |tup h r=>exact .mk h r
 |lst h r=>exact .mk h r
 |dct h d r=>exact .mk h d r
 |rng a b c t u v h=>exact .mk t u v h
 |exc vs h a b=>exact .mk h a
inductive eQ (C:bq) (w:bp) (p:D) (ps:List D):List Value->Prop
 |mk {v:Value} {vs:List Value}:RD C w p v->RDs C w ps vs->eQ C w p ps (v::vs)
def J0 (C:bq) (w:bp) (vs:List Value):List D->Prop
 |[]=>vs=[]
 |p::ps=>eQ C w p ps vs
theorem RDs.view {ps:List D} {vs:List Value} (h:RDs C w ps vs):J0 C w vs ps:=by
 cases h with
 |nil=>rfl
 |cons h r=>exact .mk h r
theorem RDs.length:∀ {ps:List D} {vs:List Value},RDs C w ps vs->vs.length=ps.length:=by
 intro ps
 induction ps with
 |nil=>
  intro vs h;rw[show vs=[] from h.view];rfl
 |cons p ps ih=>
  intro vs h;obtain ⟨_,r⟩:eQ C w p ps vs:=h.view;exact congrArg Nat.succ (ih r)
theorem RDs.append:∀ {ps qs:List D} {vs ws:List Value},RDs C w ps vs->RDs C w qs ws->RDs C w (ps++qs) (vs++ws):=by
 intro ps
 induction ps with
 |nil=>
  intro _ vs _ h k;rw[show vs=[] from h.view];exact k
 |cons p ps ih=>
  intro _ vs _ h k;obtain ⟨h1,r⟩:eQ C w p ps vs:=h.view;exact .cons h1 (ih r k)
theorem RDs.get:∀ {ps:List D} {vs:List Value},RDs C w ps vs->∀ {k:Nat} {p:D},ps[k]? =some p->∃ v,vs[k]? =some v/\RD C w p v:=by
 intro ps
 induction ps with
 |nil=>
  intro _ _ _ _ e;exact nomatch e
 |cons p ps ih=>
  intro vs h k q e;obtain ⟨h1,r⟩:eQ C w p ps vs:=h.view;cases k with
  |zero=>cases e;exact ⟨_,rfl,h1⟩
  |succ k=>exact ih r (k:=k) e
theorem RDs.set:∀ {ps:List D} {vs:List Value},RDs C w ps vs->∀ {k:Nat} {p:D} {v:Value},RD C w p v->RDs C w (ps.set k p) (vs.set k v):=by
 intro ps
 induction ps with
 |nil=>
  intro vs h _ _ _ _;rw[show vs=[] from h.view];exact .nil
 |cons p ps ih=>
  intro vs h k q v e;obtain ⟨h1,r⟩:eQ C w p ps vs:=h.view;cases k with
  |zero=>exact .cons e r
  |succ k=>exact .cons h1 (ih r e)
theorem RDs.drop:∀ {ps:List D} {vs:List Value},RDs C w ps vs->∀ k:Nat,RDs C w (ps.drop k) (vs.drop k)
 |ps,vs,h,0=>h
 |[],vs,h,k+1=>by rw[show vs=[] from h.view];exact .nil
 |p::ps,vs,h,k+1=>by
  obtain ⟨h,r⟩:eQ C w p ps vs:=h.view;exact r.drop k
theorem RDs.take:∀ {ps:List D} {vs:List Value},RDs C w ps vs->∀ k:Nat,RDs C w (ps.take k) (vs.take k)
 |ps,vs,h,0=>.nil
 |[],vs,h,k+1=>by rw[show vs=[] from h.view];exact .nil
 |p::ps,vs,h,k+1=>by
  obtain ⟨h1,r⟩:eQ C w p ps vs:=h.view;exact .cons h1 (r.take k)
end
def RF (C:bq) (w:bp) (o:Obj):cb->Prop
 | .d _=>False
 | .list ps=>∃ vs n,o=aJ vs n/\RDs C w ps vs
 | .dict ks ps=>∃ vs,fq C w o ks vs/\RDs C w ps vs
inductive iK (C:bq) (w:bp) (h:Heap) (n j:Nat) (f:cb):Value->Prop
 |mk {a:Addr} {o:Obj}:w a= .cell n j->h.get? a=some o->RF C w o f->iK C w h n j f (.ref a)
def FA (C:bq) (w:bp) (h:Heap) (n i:Nat) (v:Value):cb->Prop
 | .d x=>RD C w x v
 | .list l=>iK C w h n (i+2) (.list l) v
 | .dict ks ps=>iK C w h n (i+2) (.dict ks ps) v
def oC (C:bq) (es:List DictEntry):Prop:=∀ i e,es[i]? =some e->(∃ t,e.key= .str (C.att i) t)/\e.hash=PyData.keyHash C.w.params (C.att i)
inductive hR (C:bq) (w:bp) (h:Heap) (n:Nat) (l:List cb):Prop
 |mk {x d:Addr} {es:List DictEntry} {k:Nat}:w x= .cell n 0->h.get? x=some (kN C.book d)->w d= .cell n 1->h.get? d=some (dp es k)->oC C es->es.length=l.length->l.length<=7->
  (∀ i f e,l[i]? =some f->es[i]? =some e->FA C w h n i e.val f)->hR C w h n l
inductive oQ (C:bq) (w:bp) (h:Heap) (n:Nat) (l:List cb):Prop
 |mk {d:Addr} {o:Obj} {kvs:List (Str×Value)}:w d= .cell n 0->h.get? d=some o->o.IsDictOf (strKind C.prog C.w) kvs->kvs.length=l.length->l.length<=100->(∀ i p,kvs[i]? =some p->p.1=C.key i)->
  (∀ i f p,l[i]? =some f->kvs[i]? =some p->FA C w h n i p.2 f)->oQ C w h n l
def RO (C:bq) (w:bp) (h:Heap) (n:Nat):PO->Prop
 | .fld f=>∃ v,iK C w h n 0 f v
 | .rcd true l=>hR C w h n l
 | .rcd false l=>oQ C w h n l
 | .dead=>True
 | .wrp f=>∃ t vs k v,w t= .cell n 0/\h.get? t=some (cj vs k)/\vs[wI]? =some v/\iK C w h n 2 f v
structure Pt where
 s:Shared
 fs:List Fm
 own:bp
 G:List (Addr×Obj)
 σ:av
noncomputable abbrev Pt.h (P:Pt):Heap:=P.s.heap
def PO.has (j:Nat):PO->Prop
 | .fld _=>j=0
 | .rcd _ l=>j<l.length+2
 | .dead=>True
 | .wrp _=>j<3
def cO (σ:av) (n j:Nat):Prop:=∃ o,σ[n]? =some o/\o.has j
def RV (C:bq) (P:Pt) (v:Value):PV->Prop
 | .d x=>RD C P.own x v
 | .p n j=>cO P.σ n j/\∀ a,P.own a= .cell n j->v= .ref a
 | .b n x=>cO P.σ n 0/\∃ t u z k,v= .ref t/\P.own t= .fz (aJ [u,z] k)/\(∀ a,P.own a= .cell n 0->u= .ref a)/\RD C P.own x z
inductive jI (C:bq) (P:Pt):List PV->List Value->Prop
 |nil:jI C P [] []
 |cons {p:PV} {v:Value} {ps:List PV} {vs:List Value}:RV C P v p->jI C P ps vs->jI C P (p::ps) (v::vs)
structure E1 (C:bq) (h:Heap) (w:bp) (fs:List Fm):Prop where
 ns:∀ f∈fs,h.Ns f.L f.m/\w f.L= .fr/\C.H.objs.size<=f.L
 cl:∀ f∈fs,∀ c∈f.cells,h.IsCell c (f.cv c)/\w c= .fr/\f.L<c
 ord:fs.Pairwise fun f g=>∀ a∈g.adr,a<f.L
 all:∀ a,w a= .fr->∃ f∈fs,a∈f.adr
noncomputable abbrev qz (ps:Array Value):Obj:={cls:=.none,data:=.fields ps}
def J9 (h:Heap) (w:bp) (G:List (Addr×Obj)) (a:Addr) (o:Obj):Prop:=h.get? a=some o/\w a= .gh/\∀ p∈G,p.1≠a
def ye (h:Heap) (w:bp) (G:List (Addr×Obj)) (l:uH):Prop:=J9 h w G l.P (qz #[])∨∃ c oc vs t,J9 h w G l.P (qz #[rawInt l.pos.line,rawInt l.pos.col,.ref c])/\w c= .fz oc/\oc.data= .fields vs/\vs[1]? =some (.str l.qual t)
structure E0 (l:Option uH) (h:Heap) (w:bp) (G:List (Addr×Obj)):Prop where
 at_:∀ p∈G,h.get? p.1=some p.2/\w p.1= .gh
 nd:(G.map (·.1)).Nodup
 tab:∀ z,l=some z->ye h w G z
structure aE (C:bq) (P:Pt):Prop where
 base:∀ b o,C.H.get? b=some o->P.h.get? b=some o/\P.own b= .no
 fz:∀ a o,P.own a= .fz o->P.h.get? a=some o
 live:∀ a,P.own a≠ .no->∃ o,P.h.get? a=some o
 fr:E1 C P.h P.own P.fs
 gh:E0 C.lam P.h P.own P.G
 one:∀ a b n j,P.own a= .cell n j->P.own b= .cell n j->a=b
 bd:∀ a n j,P.own a= .cell n j->cO P.σ n j
 obj:∀ n o,P.σ[n]? =some o->RO C P.own P.h n o
def oO (s s':Shared):Prop:=∃ h tk,s'={s with heap:=h,toks:=tk}
theorem oO.refl (s:Shared):oO s s:=⟨s.heap,s.toks,rfl⟩
theorem oO.trans {s s' s'':Shared} (a:oO s s') (b:oO s' s''):oO s s'':=by
 obtain ⟨_,_,rfl⟩:=a;obtain ⟨h',tk',rfl⟩:=b;exact ⟨h',tk',rfl⟩
structure Ext (P P':Pt):Prop where
 sm:oO P.s P'.s
 G:P'.G=P.G
 fz:Fz P.own P'.own
 val:∀ n j,cO P.σ n j->cO P'.σ n j
 cell:∀ n j a,cO P.σ n j->P'.own a= .cell n j->P.own a= .cell n j
structure bv (P P':Pt):Prop extends Ext P P' where
 fs:P'.fs=P.fs
inductive pJ:List Fm->List Fm->Prop
 |mk {f f':Fm} {r:List Fm}:f.like f'->pJ (f::r) (f'::r)
structure eH (P P':Pt):Prop extends Ext P P' where
 fs:pJ P.fs P'.fs
section
variable {P P' P'':Pt}
theorem Ext.refl (P:Pt):Ext P P:=⟨.refl _,rfl,fun _ _ h=>h,fun _ _ h=>h,fun _ _ _ _ h=>h⟩
theorem Ext.trans (a:Ext P P') (b:Ext P' P''):Ext P P'':=
 ⟨a.sm.trans b.sm,b.G.trans a.G,fun x o h=>b.fz x o (a.fz x o h),fun n j h=>b.val n j (a.val n j h),fun n j x h k=>a.cell n j x h (b.cell n j x (a.val n j h) k)⟩
theorem bv.refl (P:Pt):bv P P:=⟨.refl P,rfl⟩
theorem bv.trans (a:bv P P') (b:bv P' P''):bv P P'':=⟨a.toExt.trans b.toExt,b.fs.trans a.fs⟩
theorem pJ.trans {a b c:List Fm}:pJ a b->pJ b c->pJ a c:=fun h g=>by
 obtain ⟨x⟩:=h;obtain ⟨y⟩:=g;exact ⟨x.trans y⟩
theorem eH.trans (a:eH P P') (b:eH P' P''):eH P P'':=⟨a.toExt.trans b.toExt,a.fs.trans b.fs⟩
theorem eH.grow (a:eH P P') (b:bv P' P''):eH P P'':=⟨a.toExt.trans b.toExt,b.fs ▸ a.fs⟩
theorem RV.mv {C:bq} (fz:Fz P.own P'.own) (val:∀ n j,cO P.σ n j->cO P'.σ n j) (cell:∀ n j a,cO P.σ n j->P'.own a= .cell n j->P.own a= .cell n j) {v:Value} {p:PV} (h:RV C P v p):RV C P' v p:=by
 cases p with
 |d _=>exact RD.ext fz h
 |p n j=>exact ⟨val n j h.1,fun a e=>h.2 a (cell n j a h.1 e)⟩
 |b n y=>
  obtain ⟨h1,t,u,z,k,e,f,g,r⟩:=h;exact ⟨val n 0 h1,t,u,z,k,e,fz _ _ f,fun a q=>g a (cell n 0 a h1 q),RD.ext fz r⟩
theorem RV.ext {C:bq} (x:Ext P P') {v:Value} {p:PV} (h:RV C P v p):RV C P' v p:=h.mv x.fz x.val x.cell
theorem jI.ext {C:bq} (x:Ext P P') {p:List PV} {v:List Value} (h:jI C P p v):jI C P' p v:=by
 induction h with
 |nil=>exact .nil
 |cons h _ ih=>exact .cons (h.ext x) ih
end
section
variable {C:bq} {P P':Pt} {w w':bp} {h h':Heap}
theorem RF.ext (x:Fz w w') {o:Obj}:∀ {f:cb},RF C w o f->RF C w' o f:=by
 intro Z0 Z2;cases Z0 with
 |d _=>exact Z2
 |list _=>
  obtain ⟨vs,n,e,r⟩:=Z2;exact ⟨vs,n,e,r.ext x⟩
 |dict _ _=>
  obtain ⟨vs,e,r⟩:=Z2;exact ⟨vs,e.ext x,r.ext x⟩
theorem iK.mv {n n' j:Nat} {f:cb} {v:Value} (x:Fz w w') (k:∀ b j o,w b= .cell n j->h.get? b=some o->w' b= .cell n' j/\h'.get? b=some o):iK C w h n j f v->iK C w' h' n' j f v:=fun h=>by
 obtain ⟨a,b,c⟩:=h;exact ⟨(k _ _ _ a b).1,(k _ _ _ a b).2,c.ext x⟩
theorem FA.mv {n n' i:Nat} {v:Value} (x:Fz w w') (k:∀ b j o,w b= .cell n j->h.get? b=some o->w' b= .cell n' j/\h'.get? b=some o):∀ {f:cb},FA C w h n i v f->FA C w' h' n' i v f
 | .d _,r=>RD.ext x r
 | .list _,r=>iK.mv x k r
 | .dict _ _,r=>iK.mv x k r
theorem RO.mv {n n':Nat} (x:Fz w w') (k:∀ b j o,w b= .cell n j->h.get? b=some o->w' b= .cell n' j/\h'.get? b=some o):∀ {o:PO},RO C w h n o->RO C w' h' n' o:=by
 intro o r;cases o with
 |fld _=>
  obtain ⟨v,r⟩:=r;exact ⟨v,r.mv x k⟩
 |rcd b l=>
  cases b with
  |true=>
   obtain ⟨a,b,c,d,e,f,g,z⟩:hR C w h n l:=r;exact hR.mk (k _ _ _ a b).1 (k _ _ _ a b).2 (k _ _ _ c d).1 (k _ _ _ c d).2 e f g fun i y u p q=>FA.mv x k (z i y u p q)
  |false=>
   obtain ⟨a,b,c,d,e,f,z⟩:oQ C w h n l:=r;exact oQ.mk (k _ _ _ a b).1 (k _ _ _ a b).2 c d e f fun i y u p q=>FA.mv x k (z i y u p q)
 |dead=>trivial
 |wrp _=>
  obtain ⟨t,vs,q,v,a,b,c,r⟩:=r;exact ⟨t,vs,q,v,(k _ _ _ a b).1,(k _ _ _ a b).2,c,r.mv x k⟩
theorem E1.mv {fs:List Fm} (F:E1 C h w fs) (k:∀ b o,w b= .fr->h.get? b=some o->w' b= .fr/\h'.get? b=some o) (k':∀ b,w' b= .fr->w b= .fr):E1 C h' w' fs:=by
 refine ⟨fun f hf=> ?_,fun f hf c hc=> ?_,F.ord,fun a e=>F.all a (k' a e)⟩
 .obtain ⟨⟨o,es,ep,ho,r⟩,e,z⟩:=F.ns f hf;exact ⟨⟨o,es,ep,(k _ _ e ho).2,r⟩,(k _ _ e ho).1,z⟩
 .obtain ⟨⟨o,ho,r⟩,e,z⟩:=F.cl f hf c hc;exact ⟨⟨o,(k _ _ e ho).2,r⟩,(k _ _ e ho).1,z⟩
theorem ye.map {G G':List (Addr×Obj)} {z:uH} (x:Fz w w') (k:∀ a o,J9 h w G a o->J9 h' w' G' a o):ye h w G z->ye h' w' G' z:=fun h=>by
 rcases h with a|⟨c,oc,vs,t,a,b,r⟩
 .exact .inl (k _ _ a)
 .exact .inr ⟨c,oc,vs,t,k _ _ a,x _ _ b,r⟩
theorem E0.mv {l:Option uH} {G:List (Addr×Obj)} (F:E0 l h w G) (x:Fz w w') (k:∀ b o,w b= .gh->h.get? b=some o->w' b= .gh/\h'.get? b=some o):E0 l h' w' G:=
 ⟨fun p hp=>⟨(k _ _ (F.at_ p hp).2 (F.at_ p hp).1).2,(k _ _ (F.at_ p hp).2 (F.at_ p hp).1).1⟩,F.nd,fun z e=>(F.tab z e).map x fun a o q=>⟨(k a o q.2.1 q.1).2,(k a o q.2.1 q.1).1,q.2.2⟩⟩
noncomputable def fQ (w:bp) (a:Addr) (x:cx):bp:=fun b=>if b=a then x else w b
theorem bl (w:bp) (a:Addr) (x:cx):fQ w a x a=x:=if_pos rfl
theorem a_ {w:bp} {a b:Addr} {x:cx} (e:b≠a):fQ w a x b=w b:=if_neg e
theorem cg (w:bp) (a:Addr) (x:cx) (b:Addr):(b=a/\fQ w a x b=x)∨(b≠a/\fQ w a x b=w b):=by
 by_cases e:b=a
 .exact .inl ⟨e,if_pos e⟩
 .exact .inr ⟨e,if_neg e⟩
theorem fR {σ l:av} {n j:Nat}:cO σ n j->cO (σ++l) n j
 |⟨o,e,r⟩=>⟨o,by rw[OX (Og.mp e).1];exact e,r⟩
theorem cO.lt {σ:av} {n j:Nat}:cO σ n j->n<σ.length
 |⟨_,e,_⟩=>(Og.mp e).1
theorem kG {w:bp} {a b:Addr} {x:cx} (hx:x≠ .fr) (h:fQ w a x b= .fr):w b= .fr:=by
 rcases cg w a x b with ⟨_,r⟩|⟨_,r⟩
 .exact absurd (r.symm.trans h) hx
 .exact r.symm.trans h
structure Mv (C:bq) (P P':Pt) (a:Addr):Prop where
 k:∀ b o,b≠a->P.h.get? b=some o->P'.h.get? b=some o/\P'.own b=P.own b
 n:∀ b,b≠a->P'.own b=P.own b
 H:C.H.get? a=none
theorem aE.step (I:aE C P) {a:Addr} {z:Nat} (m:Mv C P P' a) (hfs:P'.fs=P.fs) (hG:P'.G=P.G) (h0:P.own a= .no∨∃ j,P.own a= .cell z j) (h1:(∃ o,P'.own a= .fz o/\P'.h.get? a=some o)∨(∃ o j,P'.own a= .cell z j/\P'.h.get? a=some o/\∀ b,b≠a->P.own b≠ .cell z j))
  (hz:∀ j,P'.own a= .cell z j->cO P'.σ z j) (hs:∀ n o,n≠z->P'.σ[n]? =some o->P.σ[n]? =some o) (hl:∀ n j,cO P.σ n j->cO P'.σ n j) (ho:∀ o,P'.σ[z]? =some o->RO C P'.own P'.h z o):aE C P':=by
 have na:∀ {b x},P.own b=x->x≠ .no->(∀ j,x≠ .cell z j)->b≠a:=fun e h3 h4 q=>by
  subst q;rcases h0 with q|⟨j,q⟩
  .exact h3 (e.symm.trans q)
  .exact h4 j (e.symm.trans q)
 have fz:Fz P.own P'.own:=fun b o e=>(m.n b (na e (nofun) (nofun))).trans e;have frb:∀ b,P'.own b= .fr->P.own b= .fr:=fun b e=>by
  by_cases q:b=a
  .rw[q] at e;rcases h1 with ⟨_,e1,_⟩|⟨_,_,e1,_⟩
   .cases e1.symm.trans e
   .cases e1.symm.trans e
  .rw[<-m.n b q];exact e
 have kk:∀ b o x,P.own b=x->x≠ .no->(∀ j,x≠ .cell z j)->P.h.get? b=some o->P'.own b=x/\P'.h.get? b=some o:=fun b o x e h3 h4 q=>
  have ne:=na e h3 h4
  ⟨(m.k b o ne q).2.trans e,(m.k b o ne q).1⟩
 refine ⟨fun b o e=> ?_,fun b o e=> ?_,fun b e=> ?_,hfs ▸ I.fr.mv (fun b o e q=>kk b o _ e nofun nofun q) frb,hG ▸ I.gh.mv fz fun b o e q=>kk b o _ e nofun nofun q,fun b c n j e f=> ?_,fun b n j e=> ?_,fun n o e=> ?_⟩
 .have ne:b≠a:=fun q=>by rw[q,m.H] at e;cases e
  obtain ⟨e1,e2⟩:=I.base b o e;exact ⟨(m.k b o ne e1).1,(m.k b o ne e1).2.trans e2⟩
 .by_cases q:b=a
  .subst q;rcases h1 with ⟨o',e1,e2⟩|⟨o',j,e1,_⟩
   .rw[e1] at e;cases e;exact e2
   .rw[e1] at e;cases e
  .rw[m.n b q] at e;exact (m.k b o q (I.fz b o e)).1
 .by_cases q:b=a
  .subst q;rcases h1 with ⟨o',e1,e2⟩|⟨o',j,e1,e2,_⟩
   .exact ⟨_,e2⟩
   .exact ⟨_,e2⟩
  .rw[m.n b q] at e;obtain ⟨o,ho⟩:=I.live b e;exact ⟨o,(m.k b o q ho).1⟩
 .have key:∀ {b c},b=a->c≠a->P'.own b= .cell n j->P'.own c= .cell n j->False:=fun {b c} q r e f=>by
   subst q;rw[m.n c r] at f;rcases h1 with ⟨o',e1,e2⟩|⟨o',j',e1,e2,e3⟩
   .rw[e1] at e;cases e
   .rw[e1] at e;cases e;exact e3 c r f
  by_cases q:b=a
  .by_cases r:c=a
   .rw[q,r]
   .exact (key q r e f).elim
  .by_cases r:c=a
   .exact (key r q f e).elim
   .rw[m.n b q] at e;rw[m.n c r] at f;exact I.one b c n j e f
 .by_cases q:b=a
  .subst q;rcases h1 with ⟨o',e1,e2⟩|⟨o',j',e1,_⟩
   .rw[e1] at e;cases e
   .rw[e1] at e;cases e;exact hz _ e1
  .rw[m.n b q] at e;exact hl n j (I.bd b n j e)
 .by_cases q:n=z
  .subst q;exact ho o e
  .exact (I.obj n o (hs n o q e)).mv fz fun b j o e' q'=>kk b o _ e' nofun (fun j q2=>by cases q2;exact q rfl) q'
theorem aE.off (I:aE C P) {a:Addr} (e:P.h.objs.size<=a):P.own a= .no:=by
 by_cases q:P.own a= .no
 .exact q
 .obtain ⟨o,ho⟩:=I.live a q;exact absurd (OK ho) (Pb.mpr e)
theorem aE.offH (I:aE C P) {a:Addr} (e:P.own a≠ .no):C.H.get? a=none:=by
 cases q:C.H.get? a with
 |none=>rfl
 |some o=>exact absurd (I.base a o q).2 e
theorem aE.out (I:aE C P) {a:Addr} (e:P.h.objs.size<=a):C.H.get? a=none:=by
 cases q:C.H.get? a with
 |none=>rfl
 |some o=>exact absurd (OK (I.base a o q).1) (Pb.mpr e)
noncomputable def Pt.to (P:Pt) (h:Heap) (t:Nat):Pt:={P with s:={P.s with heap:=h,toks:=t}}
theorem bv.to (P:Pt) (h:Heap) (t:Nat):bv P (P.to h t):=⟨⟨⟨h,t,rfl⟩,rfl,fun _ _ e=>e,fun _ _ e=>e,fun _ _ _ _ e=>e⟩,rfl⟩
theorem aE.to (I:aE C P) {t:Nat} (k:∀ b o,P.h.get? b=some o->h'.get? b=some o):aE C (P.to h' t):=
 ⟨fun b o e=>⟨k b o (I.base b o e).1,(I.base b o e).2⟩,fun a o e=>k a o (I.fz a o e),fun a e=>(I.live a e).imp fun o q=>k a o q,I.fr.mv (fun b o e q=>⟨e,k b o q⟩) (fun _ e=>e),I.gh.mv (fun _ _ e=>e) fun b o e q=>⟨e,k b o q⟩,I.one,I.bd,fun n o e=>(I.obj n o e).mv (fun _ _ e=>e) fun b j o e q=>⟨e,k b o q⟩⟩
structure sv (C:bq) (P:Pt) (h':Heap) (a:Addr) (o:Obj):Prop where
 keep:∀ b o,P.h.get? b=some o->h'.get? b=some o
 own:P.own a= .no
 H:C.H.get? a=none
 at_:h'.get? a=some o
theorem aE.push (I:aE C P) {o:Obj} (ho:o.isFreed=false):sv C P (P.h.push o) P.h.objs.size o:=
 ⟨fun b o e=>Ol _ e,I.off (Oo _),I.out (Oo _),Ox _ ho⟩
noncomputable def Pt.note (P:Pt) (h:Heap) (t:Nat) (a:Addr) (o:Obj):Pt:={P.to h t with own:=fQ P.own a (.fz o)}
theorem dg {P:Pt} {a:Addr} {x:cx} (e:P.own a= .no):Fz P.own (fQ P.own a x):=fun b o q=>(a_ fun r=>by rw[r,e] at q;cases q).trans q
theorem bv.note {a:Addr} {o:Obj} {t:Nat} (e:P.own a= .no):bv P (P.note h' t a o):=
 ⟨⟨⟨h',t,rfl⟩,rfl,dg e,fun _ _ e=>e,fun n j b _ q=>by
  rcases cg P.own a (.fz o) b with ⟨_,r⟩|⟨_,r⟩
  .cases r.symm.trans q
  .exact r.symm.trans q⟩,rfl⟩
theorem Mv.new {a:Addr} {o:Obj} (n:sv C P h' a o) (hh:P'.h=h') {x:cx} (hw:P'.own=fQ P.own a x):Mv C P P' a:=
 ⟨fun b o ne e=>⟨hh ▸ n.keep b o e,hw ▸ a_ ne⟩,fun b ne=>hw ▸ a_ ne,n.H⟩
theorem aE.note (I:aE C P) {a:Addr} {o:Obj} {t:Nat} (n:sv C P h' a o):aE C (P.note h' t a o):=
 I.step (z:=P.σ.length) (Mv.new n rfl rfl) rfl rfl (.inl n.own) (.inl ⟨o,bl _ _ _,n.at_⟩) (fun j e=>by cases (bl P.own a (.fz o)).symm.trans e) (fun n o _ e=>e) (fun _ _ v=>v) fun o e=>absurd (Og.mp e).1 (OU _)
noncomputable def Pt.make (P:Pt) (h:Heap) (t:Nat) (a:Addr) (o:PO):Pt:={P.to h t with own:=fQ P.own a (.cell P.σ.length 0),σ:=P.σ++[o]}
theorem bv.make {a:Addr} {o:PO} {t:Nat} (e:P.own a= .no):bv P (P.make h' t a o):=
 ⟨⟨⟨h',t,rfl⟩,rfl,dg e,fun _ _ e=>fR e,fun n j b v q=>by
  rcases cg P.own a (.cell P.σ.length 0) b with ⟨_,r⟩|⟨_,r⟩
  .cases r.symm.trans q;exact absurd v.lt (OU _)
  .exact r.symm.trans q⟩,rfl⟩
theorem dl {α:Type} {l:List α} {x:α} {n:Nat} {y:α} (e:(l++[x])[n]? =some y):(n≠l.length->l[n]? =some y)/\(n=l.length->y=x):=by
 rcases Nat.lt_trichotomy n l.length with q|q|q
 .rw[OX q] at e;exact ⟨fun _=>e,fun r=>absurd r (Nat.ne_of_lt q)⟩
 .subst q;rw[OA (Oo _),Nat.sub_self] at e;exact ⟨fun r=>absurd rfl r,fun _=>(O0 e).symm⟩
 .rw[List.getElem?_eq_none (by rw[Of];exact q)] at e;cases e
theorem eR {α:Type} {l:List α} {x:α}:(l++[x])[l.length]? =some x:=by rw[OA (Oo _),Nat.sub_self];rfl
theorem aE.make (I:aE C P) {a:Addr} {o:Obj} {po:PO} {t:Nat} (h0:po.has 0) (n:sv C P h' a o) (r:RO C (fQ P.own a (.cell P.σ.length 0)) h' P.σ.length po):aE C (P.make h' t a po):=
 I.step (z:=P.σ.length) (Mv.new n rfl rfl) rfl rfl (.inl n.own) (.inr ⟨o,0,bl _ _ _,n.at_,fun b _ q=>absurd (I.bd b _ _ q).lt (OU _)⟩) (fun j e=>by cases (bl P.own a (.cell P.σ.length 0)).symm.trans e;exact ⟨po,eR,h0⟩)
  (fun n o ne e=>(dl e).1 ne) (fun _ _ v=>fR v) fun o e=>(dl e).2 rfl ▸ r
theorem At {P:Pt} {w:bp} {G:List (Addr×Obj)} {s:Shared} {fs:List Fm} {a:Addr} {po:PO} (h0:po.has 0) (h:∀ b,w b= .cell P.σ.length 0->b=a):RV C ⟨s,fs,w,G,P.σ++[po]⟩ (.ref a) (.p P.σ.length 0):=
 ⟨⟨po,by rw[OA (Oo _),Nat.sub_self];rfl,h0⟩,fun b e=>by rw[h b e]⟩
theorem aE.rvMake (I:aE C P) {a:Addr} {po:PO} {t:Nat} (h0:po.has 0):RV C (P.make h' t a po) (.ref a) (.p P.σ.length 0):=
 At h0 fun b e=>by
  rcases cg P.own a (.cell P.σ.length 0) b with ⟨q,_⟩|⟨_,r⟩
  .exact q
  .exact absurd (I.bd b _ _ (r.symm.trans e)).lt (OU _)
noncomputable def Pt.turn (P:Pt) (h:Heap) (t n:Nat) (o:PO):Pt:={P.to h t with σ:=P.σ.set n o}
theorem c6 {σ:av} {n m j:Nat} {o o':PO} (e:σ[n]? =some o) (k:∀ j,o.has j->o'.has j):cO σ m j->cO (σ.set n o') m j
 |⟨x,q,r⟩=>by
  by_cases c:n=m
  .subst c;rw[e] at q;cases q;exact ⟨o',by rw[List.getElem?_set_self (Og.mp e).1],k j r⟩
  .exact ⟨x,by rw[OI c];exact q,r⟩
theorem bv.turn {t n:Nat} {o o':PO} (e:P.σ[n]? =some o) (k:∀ j,o.has j->o'.has j):bv P (P.turn h' t n o'):=
 ⟨⟨⟨h',t,rfl⟩,rfl,fun _ _ e=>e,fun m j v=>c6 e k v,fun _ _ _ _ q=>q⟩,rfl⟩
theorem aE.turn (I:aE C P) {a:Addr} {n j t:Nat} {o:Obj} {po po':PO} (kp:∀ j,po.has j->po'.has j) (e:P.σ[n]? =some po) (ha:P.own a= .cell n j) (hs:∀ b o,b≠a->P.h.get? b=some o->h'.get? b=some o) (ho:h'.get? a=some o) (r:RO C P.own h' n po'):aE C (P.turn h' t n po'):=
 have hn:=(Og.mp e).1
 I.step (z:=n) ⟨fun b o ne e=>⟨hs b o ne e,rfl⟩,fun _ _=>rfl,I.offH (by rw[ha];nofun)⟩ rfl rfl (.inr ⟨j,ha⟩) (.inr ⟨o,j,ha,ho,fun b ne q=>ne (I.one b a n j q ha)⟩) (fun j q=>c6 e kp (I.bd a n j q))
  (fun m o ne e=>by rwa [show (P.turn h' t n po').σ[m]? =P.σ[m]? from OI (Ne.symm ne)] at e) (fun _ _ v=>c6 e kp v)
  fun o e=>by
   rw[show (P.turn h' t n po').σ[n]? =some po' from List.getElem?_set_self hn] at e;cases e;exact r
noncomputable def Pt.ice (P:Pt) (n:Nat) (a:Addr) (o:Obj):Pt:={P with own:=fQ P.own a (.fz o),σ:=P.σ.set n .dead}
theorem aE.ice (I:aE C P) {a:Addr} {n j:Nat} {o:Obj} {po:PO} (e:P.σ[n]? =some po) (ha:P.own a= .cell n j) (ho:P.h.get? a=some o):aE C (P.ice n a o):=
 I.step (z:=n) ⟨fun b o ne e=>⟨e,a_ ne⟩,fun _ ne=>a_ ne,I.offH (by rw[ha];nofun)⟩ rfl rfl (.inr ⟨j,ha⟩) (.inl ⟨o,bl _ _ _,ho⟩) (fun j e=>by cases (bl P.own a (.fz o)).symm.trans e)
  (fun m o ne e=>by rwa [show (P.ice n a _).σ[m]? =P.σ[m]? from OI (Ne.symm ne)] at e) (fun _ _ v=>c6 e (fun _ _=>trivial) v)
  fun o e=>by
   by_cases q:n<P.σ.length
   .rw[show (P.ice n a _).σ[n]? =some .dead from List.getElem?_set_self q] at e;cases e;exact True.intro
   .rw[show (P.ice n a _).σ[n]? =none from List.getElem?_eq_none (by show (P.σ.set n .dead).length<=n;rw[OE];exact Pb.mp q)] at e;cases e
theorem bv.ice {a:Addr} {n j:Nat} {o:Obj} {po:PO} (e:P.σ[n]? =some po) (ha:P.own a= .cell n j):bv P (P.ice n a o):=
 ⟨⟨.refl _,rfl,fun b o q=>(a_ fun r=>by rw[r,ha] at q;cases q).trans q,fun m j v=>c6 e (fun _ _=>trivial) v,fun n j b _ q=>by
  rcases cg P.own a (.fz o) b with ⟨_,r⟩|⟨_,r⟩
  .cases r.symm.trans q
  .exact r.symm.trans q⟩,rfl⟩
end
theorem a8 {p:Prop} [Decidable p] {a:p->Bool} (h:(if h:p then a h else false)=true):p:=by
 by_cases k:p
 .exact k
 .rw[dif_neg k] at h;cases h
theorem ah {a b:Bool} (h:(a&&b)=true):a=true:=(Bool.and_eq_true_iff.mp h).1
theorem ak {a b:Bool} (h:(a&&b)=true):b=true:=(Bool.and_eq_true_iff.mp h).2
theorem bu {α:Type} [BEq α] [LawfulBEq α] {a b:α} (h:(a==b)=true):a=b:=beq_iff_eq.mp h
noncomputable def iJ (f:BoolOp->List Expr->Pos->Bool) (z:Expr):Bool:=if h:z.ctorIdx=0 then Expr.BoolOp.elim z h f else false
theorem fP (q:Expr->Prop) {f:BoolOp->List Expr->Pos->Bool} {z:Expr} (h:iJ f z=true) (k:∀ op es pos,f op es pos=true->q (.BoolOp op es pos)):q z:=Expr.BoolOp.elim (motive_1:=fun z=>iJ f z=true->q z) z (a8 h) k h
noncomputable def kx (f:Expr->Operator->Expr->Pos->Bool) (z:Expr):Bool:=if h:z.ctorIdx=2 then Expr.BinOp.elim z h f else false
theorem ku (q:Expr->Prop) {f:Expr->Operator->Expr->Pos->Bool} {z:Expr} (h:kx f z=true) (k:∀ l op r pos,f l op r pos=true->q (.BinOp l op r pos)):q z:=Expr.BinOp.elim (motive_1:=fun z=>kx f z=true->q z) z (a8 h) k h
noncomputable def dA (f:UnaryOp->Expr->Pos->Bool) (z:Expr):Bool:=if h:z.ctorIdx=3 then Expr.UnaryOp.elim z h f else false
theorem fo (q:Expr->Prop) {f:UnaryOp->Expr->Pos->Bool} {z:Expr} (h:dA f z=true) (k:∀ op x pos,f op x pos=true->q (.UnaryOp op x pos)):q z:=Expr.UnaryOp.elim (motive_1:=fun z=>dA f z=true->q z) z (a8 h) k h
noncomputable def oF (f:Arguments->Expr->Scope->Pos->Bool) (z:Expr):Bool:=if h:z.ctorIdx=4 then Expr.Lambda.elim z h f else false
theorem pH (q:Expr->Prop) {f:Arguments->Expr->Scope->Pos->Bool} {z:Expr} (h:oF f z=true) (k:∀ ps b sc pos,f ps b sc pos=true->q (.Lambda ps b sc pos)):q z:=Expr.Lambda.elim (motive_1:=fun z=>oF f z=true->q z) z (a8 h) k h
noncomputable def mR (f:Expr->Expr->Expr->Pos->Bool) (z:Expr):Bool:=if h:z.ctorIdx=5 then Expr.IfExp.elim z h f else false
theorem sj (q:Expr->Prop) {f:Expr->Expr->Expr->Pos->Bool} {z:Expr} (h:mR f z=true) (k:∀ t a b pos,f t a b pos=true->q (.IfExp t a b pos)):q z:=Expr.IfExp.elim (motive_1:=fun z=>mR f z=true->q z) z (a8 h) k h
noncomputable def iG (f:List (Option Expr)->List Expr->Pos->Bool) (z:Expr):Bool:=if h:z.ctorIdx=6 then Expr.Dict.elim z h f else false
theorem iF (q:Expr->Prop) {f:List (Option Expr)->List Expr->Pos->Bool} {z:Expr} (h:iG f z=true) (k:∀ ks vs pos,f ks vs pos=true->q (.Dict ks vs pos)):q z:=Expr.Dict.elim (motive_1:=fun z=>iG f z=true->q z) z (a8 h) k h
noncomputable def jC (f:Expr->List Comprehension->Scope->Pos->Bool) (z:Expr):Bool:=if h:z.ctorIdx=8 then Expr.ListComp.elim z h f else false
theorem mq (q:Expr->Prop) {f:Expr->List Comprehension->Scope->Pos->Bool} {z:Expr} (h:jC f z=true) (k:∀ el gs scope pos,f el gs scope pos=true->q (.ListComp el gs scope pos)):q z:=Expr.ListComp.elim (motive_1:=fun z=>jC f z=true->q z) z (a8 h) k h
noncomputable def iY (f:Expr->List CmpOp->List Expr->Pos->Bool) (z:Expr):Bool:=if h:z.ctorIdx=15 then Expr.Compare.elim z h f else false
theorem iH (q:Expr->Prop) {f:Expr->List CmpOp->List Expr->Pos->Bool} {z:Expr} (h:iY f z=true) (k:∀ l ops rs pos,f l ops rs pos=true->q (.Compare l ops rs pos)):q z:=Expr.Compare.elim (motive_1:=fun z=>iY f z=true->q z) z (a8 h) k h
noncomputable def oI (f:Expr->List Expr->List Keyword->Pos->Bool) (z:Expr):Bool:=if h:z.ctorIdx=16 then Expr.Call.elim z h f else false
theorem iI (q:Expr->Prop) {f:Expr->List Expr->List Keyword->Pos->Bool} {z:Expr} (h:oI f z=true) (k:∀ g es kw pos,f g es kw pos=true->q (.Call g es kw pos)):q z:=Expr.Call.elim (motive_1:=fun z=>oI f z=true->q z) z (a8 h) k h
noncomputable def b9 (f:Const->Nat->Pos->Bool) (z:Expr):Bool:=if h:z.ctorIdx=19 then Expr.Constant.elim z h f else false
theorem cN (q:Expr->Prop) {f:Const->Nat->Pos->Bool} {z:Expr} (h:b9 f z=true) (k:∀ c k pos,f c k pos=true->q (.Constant c k pos)):q z:=Expr.Constant.elim (motive_1:=fun z=>b9 f z=true->q z) z (a8 h) k h
noncomputable def cZ (f:Expr->Str->Pos->Bool) (z:Expr):Bool:=if h:z.ctorIdx=20 then Expr.Attribute.elim z h f else false
theorem ew (q:Expr->Prop) {f:Expr->Str->Pos->Bool} {z:Expr} (h:cZ f z=true) (k:∀ v x pos,f v x pos=true->q (.Attribute v x pos)):q z:=Expr.Attribute.elim (motive_1:=fun z=>cZ f z=true->q z) z (a8 h) k h
noncomputable def bx (f:Expr->Expr->Pos->Bool) (z:Expr):Bool:=if h:z.ctorIdx=21 then Expr.Subscript.elim z h f else false
theorem bZ (q:Expr->Prop) {f:Expr->Expr->Pos->Bool} {z:Expr} (h:bx f z=true) (k:∀ v i pos,f v i pos=true->q (.Subscript v i pos)):q z:=Expr.Subscript.elim (motive_1:=fun z=>bx f z=true->q z) z (a8 h) k h
noncomputable def cY (f:Str->Pos->Bool) (z:Expr):Bool:=if h:z.ctorIdx=23 then Expr.Name.elim z h f else false
theorem bY (q:Expr->Prop) {f:Str->Pos->Bool} {z:Expr} (h:cY f z=true) (k:∀ x pos,f x pos=true->q (.Name x pos)):q z:=Expr.Name.elim (motive_1:=fun z=>cY f z=true->q z) z (a8 h) k h
noncomputable def lh (f:List Expr->Pos->Bool) (z:Expr):Bool:=if h:z.ctorIdx=24 then Expr.List.elim z h f else false
theorem lS (q:Expr->Prop) {f:List Expr->Pos->Bool} {z:Expr} (h:lh f z=true) (k:∀ es pos,f es pos=true->q (.List es pos)):q z:=Expr.List.elim (motive_1:=fun z=>lh f z=true->q z) z (a8 h) k h
noncomputable def iX (f:List Expr->Nat->Pos->Bool) (z:Expr):Bool:=if h:z.ctorIdx=25 then Expr.Tuple.elim z h f else false
theorem km (q:Expr->Prop) {f:List Expr->Nat->Pos->Bool} {z:Expr} (h:iX f z=true) (k:∀ es k pos,f es k pos=true->q (.Tuple es k pos)):q z:=Expr.Tuple.elim (motive_1:=fun z=>iX f z=true->q z) z (a8 h) k h
noncomputable def si (f:Option Expr->Option Expr->Option Expr->Pos->Bool) (z:Expr):Bool:=if h:z.ctorIdx=26 then Expr.Slice.elim z h f else false
theorem sf (q:Expr->Prop) {f:Option Expr->Option Expr->Option Expr->Pos->Bool} {z:Expr} (h:si f z=true) (k:∀ l u st pos,f l u st pos=true->q (.Slice l u st pos)):q z:=Expr.Slice.elim (motive_1:=fun z=>si f z=true->q z) z (a8 h) k h
noncomputable def j2 (f:Option Expr->Pos->Bool) (z:Stmt):Bool:=if h:z.ctorIdx=3 then Stmt.Return.elim z h f else false
theorem jg (q:Stmt->Prop) {f:Option Expr->Pos->Bool} {z:Stmt} (h:j2 f z=true) (k:∀ v pos,f v pos=true->q (.Return v pos)):q z:=Stmt.Return.elim (motive_2:=fun z=>j2 f z=true->q z) z (a8 h) k h
noncomputable def nV (f:List Expr->Expr->Pos->Bool) (z:Stmt):Bool:=if h:z.ctorIdx=5 then Stmt.Assign.elim z h f else false
theorem pz (q:Stmt->Prop) {f:List Expr->Expr->Pos->Bool} {z:Stmt} (h:nV f z=true) (k:∀ ts e pos,f ts e pos=true->q (.Assign ts e pos)):q z:=Stmt.Assign.elim (motive_2:=fun z=>nV f z=true->q z) z (a8 h) k h
noncomputable def xy (f:Expr->Expr->List Stmt->List Stmt->Pos->Bool) (z:Stmt):Bool:=if h:z.ctorIdx=9 then Stmt.For.elim z h f else false
theorem vV (q:Stmt->Prop) {f:Expr->Expr->List Stmt->List Stmt->Pos->Bool} {z:Stmt} (h:xy f z=true) (k:∀ t e b el pos,f t e b el pos=true->q (.For t e b el pos)):q z:=Stmt.For.elim (motive_2:=fun z=>xy f z=true->q z) z (a8 h) k h
noncomputable def GL (f:Expr->List Stmt->List Stmt->Pos->Bool) (z:Stmt):Bool:=if h:z.ctorIdx=12 then Stmt.If.elim z h f else false
theorem zn (q:Stmt->Prop) {f:Expr->List Stmt->List Stmt->Pos->Bool} {z:Stmt} (h:GL f z=true) (k:∀ t a b pos,f t a b pos=true->q (.If t a b pos)):q z:=Stmt.If.elim (motive_2:=fun z=>GL f z=true->q z) z (a8 h) k h
noncomputable def rD (f:Option Expr->Option Expr->Pos->Bool) (z:Stmt):Bool:=if h:z.ctorIdx=16 then Stmt.Raise.elim z h f else false
theorem rC (q:Stmt->Prop) {f:Option Expr->Option Expr->Pos->Bool} {z:Stmt} (h:rD f z=true) (k:∀ x cause pos,f x cause pos=true->q (.Raise x cause pos)):q z:=Stmt.Raise.elim (motive_2:=fun z=>rD f z=true->q z) z (a8 h) k h
noncomputable def xt (f:List Stmt->List ExceptHandler->List Stmt->List Stmt->Pos->Bool) (z:Stmt):Bool:=if h:z.ctorIdx=17 then Stmt.Try.elim z h f else false
theorem vS (q:Stmt->Prop) {f:List Stmt->List ExceptHandler->List Stmt->List Stmt->Pos->Bool} {z:Stmt} (h:xt f z=true) (k:∀ b hs el fin pos,f b hs el fin pos=true->q (.Try b hs el fin pos)):q z:=Stmt.Try.elim (motive_2:=fun z=>xt f z=true->q z) z (a8 h) k h
noncomputable def vW (f:Expr->Pos->Bool) (z:Stmt):Bool:=if h:z.ctorIdx=24 then Stmt.Expr.elim z h f else false
theorem t7 (q:Stmt->Prop) {f:Expr->Pos->Bool} {z:Stmt} (h:vW f z=true) (k:∀ e pos,f e pos=true->q (.Expr e pos)):q z:=Stmt.Expr.elim (motive_2:=fun z=>vW f z=true->q z) z (a8 h) k h
noncomputable def ER (f:Bool->Bool) (c:Const):Bool:=if h:c.ctorIdx=1 then Const.bool.elim c h f else false
theorem zM (q:Const->Prop) {f:Bool->Bool} {c:Const} (h:ER f c=true) (k:∀ b,f b=true->q (.bool b)):q c:=Const.bool.elim (motive:=fun c=>ER f c=true->q c) c (a8 h) k h
noncomputable def EQ (f:Int->Bool) (c:Const):Bool:=if h:c.ctorIdx=2 then Const.int.elim c h f else false
theorem zL (q:Const->Prop) {f:Int->Bool} {c:Const} (h:EQ f c=true) (k:∀ b,f b=true->q (.int b)):q c:=Const.int.elim (motive:=fun c=>EQ f c=true->q c) c (a8 h) k h
noncomputable def Co (f:Str->Bool) (c:Const):Bool:=if h:c.ctorIdx=5 then Const.str.elim c h f else false
theorem qk (q:Const->Prop) {f:Str->Bool} {c:Const} (h:Co f c=true) (k:∀ b,f b=true->q (.str b)):q c:=Const.str.elim (motive:=fun c=>Co f c=true->q c) c (a8 h) k h
noncomputable def EP (c:Const):Bool:=if h:c.ctorIdx=0 then Const.none.elim c h true else false
theorem zK (q:Const->Prop) {c:Const} (h:EP c=true) (k:q .none):q c:=Const.none.elim (motive:=fun c=>EP c=true->q c) c (a8 h) (fun _=>k) h
noncomputable def E5 (b:Bool) (o:UnaryOp):Bool:=match b with
 |true=>o.ctorIdx==UnaryOp.Not.ctorIdx
 |false=>o.ctorIdx==UnaryOp.USub.ctorIdx
theorem wJ (q:UnaryOp->Prop) {o:UnaryOp} (h:E5 true o=true) (k:q .Not):q o:=by cases o<;>first|exact k|cases h
theorem C0 (q:UnaryOp->Prop) {o:UnaryOp} (h:E5 false o=true) (k:q .USub):q o:=by cases o<;>first|exact k|cases h
noncomputable def JV:Bool->BoolOp->Bool
 |true,.And=>true
 |false,.Or=>true
 |_,_=>false
theorem ya (q:BoolOp->Prop) {o:BoolOp} (h:JV true o=true) (k:q .And):q o:=by cases o<;>first|exact k|cases h
theorem Hm (q:BoolOp->Prop) {o:BoolOp} (h:JV false o=true) (k:q .Or):q o:=by cases o<;>first|exact k|cases h
section
variable {α:Type}
noncomputable def one (f:α->Bool):List α->Bool
 |[a]=>f a
 |_=>false
theorem dj (q:List α->Prop) {f:α->Bool}:∀ {l:List α},one f l=true->(∀ a,f a=true->q [a])->q l
 |[a],h,k=>k a h
 |[],h,_=>nomatch h
 |_::_::_,h,_=>nomatch h
noncomputable def HI (f:α->α->Bool):List α->Bool
 |[a,b]=>f a b
 |_=>false
theorem mU (q:List α->Prop) {f:α->α->Bool}:∀ {l:List α},HI f l=true->(∀ a b,f a b=true->q [a,b])->q l
 |[a,b],h,k=>k a b h
 |[],h,_=>nomatch h
 |[_],h,_=>nomatch h
 |_::_::_::_,h,_=>nomatch h
theorem bJ (q:List α->Prop):∀ {l:List α},l.isEmpty=true->q []->q l:=by
 intro l
 induction l with
 |nil=>
  intro _ k;exact k
 |cons _ _ ih=>
  intro h _;exact nomatch h
noncomputable def CG (f:α->Bool):Option α->Bool
 |some a=>f a
 |none=>false
theorem fj (q:Option α->Prop) {f:α->Bool}:∀ {o:Option α},CG f o=true->(∀ a,f a=true->q (some a))->q o
 |some a,h,k=>k a h
 |none,h,_=>nomatch h
theorem jQ (q:Option α->Prop):∀ {o:Option α},o.isNone=true->q none->q o
 |none,_,k=>k
 |some _,h,_=>nomatch h
end
noncomputable def dU (f:Str->List Expr->Bool) (e:Expr):Bool:=oI (fun g es kw _=>kw.isEmpty&&cY (fun x _=>f x es) g) e
theorem dT (q:Expr->Prop) {f:Str->List Expr->Bool} {e:Expr} (h:dU f e=true) (k:∀ x px es pos,f x es=true->q (.Call (.Name x px) es [] pos)):q e:=
 iI q h fun g es kw pos h=>bJ (fun kw=>q (.Call g es kw pos)) (ah h) (bY (fun g=>q (.Call g es [] pos)) (ak h) fun x px h=>k x px es pos h)
noncomputable def kt (f:Expr->Str->Pos->List Expr->Pos->Bool) (e:Expr):Bool:=oI (fun g es kw pos=>kw.isEmpty&&cZ (fun v x ap=>f v x ap es pos) g) e
theorem kq (q:Expr->Prop) {f:Expr->Str->Pos->List Expr->Pos->Bool} {e:Expr} (h:kt f e=true) (k:∀ v x ap es pos,f v x ap es pos=true->q (.Call (.Attribute v x ap) es [] pos)):q e:=
 iI q h fun g es kw pos h=>bJ (fun kw=>q (.Call g es kw pos)) (ah h) (ew (fun g=>q (.Call g es [] pos)) (ak h) fun v x ap h=>k v x ap es pos h)
noncomputable def uD (f:Expr->CmpOp->Expr->Bool) (e:Expr):Bool:=iY (fun l ops rs _=>one (fun o=>one (fun r=>f l o r) rs) ops) e
theorem oG (q:Expr->Prop) {f:Expr->CmpOp->Expr->Bool} {e:Expr} (h:uD f e=true) (k:∀ l o r pos,f l o r=true->q (.Compare l [o] [r] pos)):q e:=
 iH q h fun l ops rs pos h=>dj (fun ops=>q (.Compare l ops rs pos)) h fun o h=>dj (fun rs=>q (.Compare l [o] rs pos)) h fun r h=>k l o r pos h
noncomputable def oH (f:Expr->CmpOp->CmpOp->Expr->Expr->Bool) (e:Expr):Bool:=iY (fun l ops rs _=>HI (fun o p=>HI (fun r q=>f l o p r q) rs) ops) e
theorem lT (q:Expr->Prop) {f:Expr->CmpOp->CmpOp->Expr->Expr->Bool} {e:Expr} (h:oH f e=true) (k:∀ l o p r s pos,f l o p r s=true->q (.Compare l [o,p] [r,s] pos)):q e:=
 iH q h fun l ops rs pos h=>mU (fun ops=>q (.Compare l ops rs pos)) h fun o p h=>mU (fun rs=>q (.Compare l [o,p] rs pos)) h fun r s h=>k l o p r s pos h
noncomputable def wz (f:Expr->Option Expr->Option Expr->Bool) (e:Expr):Bool:=bx (fun v i _=>si (fun l u st _=>st.isNone&&f v l u) i) e
theorem uC (q:Expr->Prop) {f:Expr->Option Expr->Option Expr->Bool} {e:Expr} (h:wz f e=true) (k:∀ v l u p pos,f v l u=true->q (.Subscript v (.Slice l u none p) pos)):q e:=
 bZ q h fun v i pos h=>sf (fun i=>q (.Subscript v i pos)) h fun l u st p h=>jQ (fun st=>q (.Subscript v (.Slice l u st p) pos)) (ah h) (k v l u p pos (ak h))
noncomputable def JW (f:Expr->Str->Expr->List Expr->Int->Scope->Bool) (e:Expr):Bool:=jC (fun el gs scope _=>one (fun g=>cY (fun x _=>f el x g.iter g.ifs g.is_async scope) g.target) gs) e
theorem qj (q:Expr->Prop) {f:Expr->Str->Expr->List Expr->Int->Scope->Bool} {e:Expr} (h:JW f e=true) (k:∀ el x px iter cs ay scope pos,f el x iter cs ay scope=true->q (.ListComp el [⟨.Name x px,iter,cs,ay⟩] scope pos)):q e:=
 mq q h fun el gs scope pos h=>dj (fun gs=>q (.ListComp el gs scope pos)) h fun g h=>match g,h with
  |⟨t,iter,cs,ay⟩,h=>bY (fun t=>q (.ListComp el [⟨t,iter,cs,ay⟩] scope pos)) h fun x px h=>k el x px iter cs ay scope pos h
noncomputable def pu (f:Expr->Expr->Bool) (s:Stmt):Bool:=nV (fun ts e _=>one (fun t=>f t e) ts) s
theorem f_ (q:Stmt->Prop) {f:Expr->Expr->Bool} {s:Stmt} (h:pu f s=true) (k:∀ t e pos,f t e=true->q (.Assign [t] e pos)):q s:=
 pz q h fun ts e pos h=>dj (fun ts=>q (.Assign ts e pos)) h fun t h=>k t e pos h
noncomputable abbrev CD:=List (Str×Nat)
noncomputable def lX (sc:Scope) (x:Str):Bool:=sc.names.lookup x==some .local||sc.names.lookup x==some .cell||sc.names.lookup x==some .free
noncomputable def dB (sc:Scope) (x:Str):Bool:=sc.names.lookup x==some .globalImplicit&& !(x==("__debug__":Str))
noncomputable def fb (e:Expr):Bool:=e.ctorIdx !=16|| !dU (fun _ es=>es.isEmpty) e
noncomputable def cC (e:Expr):Bool:=e.ctorIdx !=26
noncomputable def k8 (sc scope:Scope) (x:Str):Bool:=
 scope.kind== .function&&scope.names.all (fun p=>p.2 != .cell)&&scope.names.lookup x==some .local&&
 scope.names.all (fun p=>p.2 != .local||(scope.names.lookup p.1==some .local&&(p.1==x||p.1==(".0":Str))))&&scope.names.all (fun p=>p.2 != .free||sc.names.lookup p.1==some .cell)
noncomputable def gA (e:Expr):Bool:=e.ctorIdx !=22
noncomputable def gE (e:Expr):Bool:=e.ctorIdx==8||e.ctorIdx==9||e.ctorIdx==10
noncomputable def fG (sc:Scope) (x:Str):Bool:=sc.names.lookup x==some .local||sc.names.lookup x==some .cell
noncomputable def nj {α:Type} [BEq α]:List α->Bool
 |[]=>true
 |a::r=> !r.contains a&&nj r
structure Sx where
 fnm:Nat->Str×Bool
 att:Nat->Str
 key:Nat->Str
 gls:List (Str×(Option Int×List Nat))
 sc:Scope
 Γ:CD
 lm:Option uH
end Mine.Internal
namespace Mine.Internal
open PySem PyProof.Rows PySem.W
noncomputable def wi (K:Frag) (D:Addr):Bool:=
 findIn K (.ref D) "__getattribute__"==some (some (.builtin "BaseException.__getattribute__"))&&findIn K (.ref D) "__getattr__"==some none&&
 findIn K (.ref D) "__class__"==some (some (.builtin "object.__class__"))&&specialIn K (.builtin "object.__class__") "__get__"==some (some (.builtin "getset_descriptor.__get__"))&&
 takesIn K (.builtin "object.__class__")==some true&&mroIn K D (.type "object")==some true&&mroIn K D (.type "BaseException")==some true&&(clsIn K D).isSome
noncomputable def gQ:Nat->Str
 |0=>"LedgerError"|1=>"BadName"|2=>"BadCurrency"|3=>"BadAmount"|4=>"BadDay"|5=>"BadNote"|6=>"BadRate"|7=>"Unbalanced"|8=>"Closed"|9=>"Taken"
 |10=>"TakenBack"|11=>"NoAccount"|12=>"NoEntry"|13=>"NoRate"|14=>"TooSmall"|15=>"NoPeriod"|16=>"BadText"|_=>"?"
noncomputable def eX:List (Str×Value):=[("len",.builtin "len"),("range",.type "range"),("min",.builtin "min"),("max",.builtin "max"),("abs",.builtin "abs"),("int",.type "int"),("str",.type "str"),("list",.type "list"),("tuple",.type "tuple"),
 ("dict",.type "dict"),("all",.builtin "all"),("sum",.builtin "sum"),("sorted",.builtin "sorted"),("isinstance",.builtin "isinstance"),("bool",.type "bool"),("ValueError",.type "ValueError")]
structure Ft (C:bq):Prop where
 X:Frag.In C.K C.H
 name:C.mg "Book"=some (.ref C.book)
 cd:∃ cd,clsIn C.K C.book=some cd/\cd.hasDict=true
 plain:plainOver C.K C.book=true
 makes:makesIn C.K C.book=true
 ga:findIn C.K (.ref C.book) "__getattribute__"=some (some (.builtin "object.__getattribute__"))
 gattr:findIn C.K (.ref C.book) "__getattr__"=some none
 sattr:findIn C.K (.ref C.book) "__setattr__"=some (some (.builtin "object.__setattr__"))
 no:∀ k,k<7->findIn C.K (.ref C.book) (C.att k)=some none
 inj:∀ i,i<7->∀ k,k<7->C.att i=C.att k->i=k
 init:findIn C.K (.ref C.book) "__init__"=some (some (.ref (C.fadr 0)))/\typeIn C.K (.ref (C.fadr 0))=some (.type "function")
 meth:∀ m,(C.fnm m).2=true->findIn C.K (.ref C.book) (C.fnm m).1=some (some (.ref (C.fadr m)))/\typeIn C.K (.ref (C.fadr m))=some (.type "function")/\(∀ k,k<7->C.att k≠(C.fnm m).1)/\∃ o fd,C.H.get? (C.fadr m)=some o/\o.data= .func fd
def GT (v:Value):Option Int×List Nat->Prop
 |(some i,_)=>∃ t,v= .int i t
 |(none,s)=>oX s/\∃ t,v= .str (fU s) t
structure eA (C:bq):Prop where
 g:C.H.Ns mainGlobals C.mg
 b:C.H.Ns builtinsNs C.mb
 nolimit:C.H.NoLimit
 nodigits:∃ mc,C.H.Ns cStatics mc/\mc "sys.int_max_str_digits"=none
 big:∃ o,C.H.get? sysModules=some o
 cls:Ft C
 exc:∀ c,c<nX->OwnCls (gQ c) (C.exc c) [.type "ValueError",.type "Exception",.type "BaseException",.type "object"] "ValueError.__new__" C.mg C.H
 exk:∀ c,c<nX->wi C.K (C.exc c)=true
 kit:∀ c,c<nX->∀ k,k<nX->kitOne C.K (.ref (C.exc c)) (.ref (C.exc k))=some (c==k||k==0)
 kitV:∀ c,c<nX->kitOne C.K (.ref (C.exc c)) (.type "ValueError")=some true
 exm:∀ c,c<nX->∀ k,k<nX->exmOne C.K (.ref (C.exc c)) (.ref (C.exc k))=some (c==k||k==0)
 fn:∀ f,(C.fnm f).2=false->C.mg (C.fnm f).1=some (.ref (C.fadr f))/\∃ o fd,C.H.get? (C.fadr f)=some o/\o.data= .func fd
 bi:∀ p∈eX,C.mg p.1=none/\C.mb p.1=some p.2
 gl:∀ x q,C.gls.lookup x=some q->∃ v,C.mg x=some v/\GT v q
 keys:∀ i j,i<100->j<100->C.key i=C.key j->i=j
 lam:∀ l,C.lam=some l->CodeHd C.H l.c l.P/\C.H.BuiltinsAt C.mg l.P/\mainGlobals≠l.P
def lV (A:Around) (fs:List Fm):Prop:=∃ ls,A.frames=some ls/\∀ e∈ls,e.scope.kind≠ .module/\∃ f∈fs,e.frame=some f.L
def kept:cx->Prop
 | .no| .fr=>False
 |_=>True
def qq (C:bq) (P:Pt) (ls:List Env) (e:Addr) (c:Nat):Prop:=
 ∃ B:Heap,B.StaysIn P.h/\B.get? e=none/\P.h.FunFrames B ls/\(∀ b o,C.H.get? b=some o->B.get? b=some o)/\(∀ b o,kept (P.own b)->P.h.get? b=some o->B.get? b=some o)/\
  ((∃ oe vs a0,P.h.get? e=some oe/\oe.cls= .ref (C.exc c)/\oe.data= .fields vs/\vs[1]? =some Value.none/\vs[0]? =some a0)∨
  (∃ a0,P.h.TracedW B e (.ref (C.exc c)) a0)∨
  (∃ a0 env L,ls.head? =some env/\env.frame=some L/\P.h.TracedAtW B e (.ref (C.exc c)) a0 (rawInt L)))
inductive sA (C:bq) (A:Around) (P:Pt) (c:Nat):Value->Prop
 |mk {a:Addr} {ls:List Env}:A.frames=some ls->qq C P ls a c->sA C A P c (.ref a)
structure dt {α β:Type} (C:bq) (A:Around) (Rel:Pt->β->α->Prop) (P:Pt) (K:R α->av->Prop) (Q:β->Shared->Prop) (E:Value->Shared->Prop):Prop where
 ok:∀ p v P',bv P P'->aE C P'->Rel P' v p->K (.ok p) P'.σ->Q v P'.s
 ex:∀ c e P',bv P P'->aE C P'->sA C A P' c e->K (.ex c) P'.σ->E e P'.s
abbrev J5 (C:bq) (P:Pt) (vs:List Value) (ps:List PV):Prop:=jI C P ps vs
abbrev oP (_:Pt) (c b:Bool):Prop:=c=b
section
variable {α β γ δ:Type} {C:bq} {A:Around} {Rel:Pt->β->α->Prop} {Rel':Pt->δ->γ->Prop} {P P':Pt} {K:R α->av->Prop} {Q:β->Shared->Prop} {E:Value->Shared->Prop}
theorem dt.mono (h:dt C A Rel P K Q E) (g:bv P P'):dt C A Rel P' K Q E:=
 ⟨fun p v P'' g'=>h.ok p v P'' (g.trans g'),fun c e P'' g'=>h.ex c e P'' (g.trans g')⟩
theorem dt.bind {f:γ->PM α} {Q':δ->Shared->Prop} (h:dt C A Rel P K Q E) (k:∀ p v P',bv P P'->aE C P'->Rel' P' v p->Wp K (f p P'.σ)->dt C A Rel P' K Q E->Q' v P'.s):dt C A Rel' P (bK K f) Q' E:=
 ⟨fun p v P' g i r w=>k p v P' g i r w (h.mono g),h.ex⟩
end
def sq (C:bq) (d:Nat):Prop:=∀ (hd:Bool) (A:Around) (P:Pt) (f:Nat) (args:List PV) (vs:List Value) (K:R PV->av->Prop) (Q E:Value->Shared->Prop),
 lV A P.fs->C.H.objs.size<=P.h.objs.size->A.depth+8*d+144<recursionLimit->A.units+64*d+945<cLine->(hd=false->A.handled=none)->aE C P->jI C P args vs->Wp K (jk C.T d hd f args P.σ)->dt C A (RV C) P K Q E->
 codeAny C.M A (.call (.ref (C.fadr f)) ⟨vs,[]⟩) (fun r s'=>match r with| .ok (.ret v)=>Q v s'| .ok _=>False| .error e=>E e s') P.s
def yg (sc:Scope) (env:Env):Prop:=∀ x,(lX sc x=true->lX env.scope x=true)/\(dB sc x=true->env.kindOf x=some .globalImplicit)/\(sc.names.lookup x=some .cell->env.kindOf x=some .cell/\∃ c,env.cells.lookup x=some c)
structure Cx where
 C:bq
 A:Around
 env:Env
 sc:Scope
 Γ:CD
 d:Nat
 hd:Bool
 good:eA C
 calls:sq C d
 kinds:yg sc env
 kind:env.scope.kind= .function
 glob:env.globals=mainGlobals
 blt:env.builtins=builtinsNs
 dep:A.depth+8*d+150<recursionLimit
 uni:A.units+64*d+1000<cLine
 hnd:hd=false->A.handled=none
 lm:Option uH
noncomputable abbrev Cx.M (X:Cx):Model:=X.C.M
noncomputable def Cx.ker (X:Cx):cP:=⟨jk X.C.T X.d,X.hd⟩
noncomputable def Cx.sx (X:Cx):Sx:=⟨X.C.fnm,X.C.att,X.C.key,X.C.gls,X.sc,X.Γ,X.lm⟩
def yf (env:Env) (fs:List Fm) (x:Str) (v:Value):Prop:=
 (env.kindOf x=some .local/\∃ f∈fs,f.L=env.locals/\f.m x=some v)∨
 ((env.kindOf x=some .cell∨env.kindOf x=some .free)/\∃ c,env.cells.lookup x=some c/\∃ f∈fs,c∈f.cells/\f.cv c=some v)
structure EnvOK (X:Cx) (P:Pt) (ρ:a9):Prop where
 frs:lV X.A P.fs
 ne:P.fs≠[]
 var:∀ x i p,X.Γ.lookup x=some i->lX X.env.scope x=true->ρ[i]? =some (some p)->∃ v,RV X.C P v p/\yf X.env P.fs x v
theorem EnvOK.ext {X:Cx} {P P':Pt} {ρ:a9} (h:EnvOK X P ρ) (g:bv P P'):EnvOK X P' ρ:=
 ⟨g.fs ▸ h.frs,g.fs ▸ h.ne,fun x i p a b c=>by
  obtain ⟨v,r,l⟩:=h.var x i p a b c;exact ⟨v,r.ext g.toExt,g.fs ▸ l⟩⟩
abbrev bg {α β:Type} (X:Cx) (Rel:Pt->β->α->Prop) (P:Pt) (K:R α->av->Prop) (Q:β->Shared->Prop) (E:Value->Shared->Prop):Prop:=dt X.C X.A Rel P K Q E
abbrev We (X:Cx) (e:Expr) (Q E:Value->Shared->Prop) (P:Pt):Prop:=wpAny X.M X.A (eval e X.env) Q E P.s
structure CE where
 ev:cP->a9->PM PV
 is:Sx->Expr->Bool
 ok:∀ (X:Cx) (e:Expr) (ρ:a9) (P:Pt) (K:R PV->av->Prop) (Q E:Value->Shared->Prop),is X.sx e=true->aE X.C P->EnvOK X P ρ->Wp K (ev X.ker ρ P.σ)->bg X (RV X.C) P K Q E->We X e Q E P
structure CT where
 ts:cP->a9->PM Bool
 is:Sx->Expr->Bool
 ok:∀ (X:Cx) (e:Expr) (ρ:a9) (P:Pt) (K:R Bool->av->Prop) (Q:Bool->Shared->Prop) (E:Value->Shared->Prop),is X.sx e=true->aE X.C P->EnvOK X P ρ->Wp K (ts X.ker ρ P.σ)->bg X oP P K Q E->wpAny X.M X.A (isTrue e X.env (eval e X.env)) Q E P.s
structure CL where
 ev:cP->a9->PM (List PV)
 is:Sx->List Expr->Bool
 star:∀ sx es env pos,is sx es=true->∀ x∈backTo pos (starEach es env),x.1=false
 ok:∀ (X:Cx) (es:List Expr) (pos:Pos) (ρ:a9) (P:Pt) (K:R (List PV)->av->Prop) (Q:List Value->Shared->Prop) (E:Value->Shared->Prop),is X.sx es=true->aE X.C P->EnvOK X P ρ->Wp K (ev X.ker ρ P.σ)->bg X (J5 X.C) P K Q E->
  wpAny X.M X.A (spliced (backTo pos (starEach es X.env))) Q E P.s
section
variable {α β:Type} {C:bq} {A:Around} {P P':Pt} {Q E:Value->Shared->Prop}
theorem dt.here {Rel:Pt->β->α->Prop} {K:R α->av->Prop} {Q:β->Shared->Prop} {v:β} {p:α} (h:dt C A Rel P K Q E) (I:aE C P) (r:Rel P v p) (k:K (.ok p) P.σ):Q v P.s:=h.ok p v P (.refl P) I r k
def mS (C:bq) (P:Pt) (z:D) (Q:Value->Shared->Prop):Prop:=∀ w P',bv P P'->aE C P'->RD C P'.own z w->P'.σ=P.σ->Q w P'.s
theorem mS.grown {z:D} {v:Value} {h':Heap} (k:mS C P z Q) (I:aE C P) (kp:∀ b o,P.h.get? b=some o->h'.get? b=some o) (r:RD C P.own z v) (t:Nat):Q v {P.s with heap:=h',toks:=t}:=k v (P.to h' t) (.to P h' t) (I.to kp) r rfl
theorem mS.tok {z:D} {v:Value} (k:mS C P z Q) (I:aE C P) (r:RD C P.own z v) (t:Nat):Q v {P.s with toks:=t}:=k.grown I (fun _ _ e=>e) r t
theorem mS.here {z:D} {v:Value} (k:mS C P z Q) (I:aE C P) (r:RD C P.own z v):Q v P.s:=k v P (.refl P) I r rfl
theorem mS.note {z:D} {h':Heap} {a:Addr} {o:Obj} (k:mS C P z Q) (I:aE C P) (n:sv C P h' a o) (t:Nat) (r:RD C (fQ P.own a (.fz o)) z (.ref a)):Q (.ref a) {P.s with heap:=h',toks:=t}:=k _ (P.note h' t a o) (.note n.own) (I.note n) r rfl
theorem dt.fin {K:R PV->av->Prop} {z:D} (h:dt C A (RV C) P K Q E) (k:K (.ok (.d z)) P.σ):mS C P z Q:=fun w P' g I r e=>h.ok (.d z) w P' g I r (e ▸ k)
inductive gU (C:bq) (P:Pt) (l:List D):Value->Prop
 |mk {a:Addr} {vs:List Value} {n:Ks}:P.h.get? a=some (rn vs n)->P.own a≠ .no->RDs C P.own l vs->gU C P l (.ref a)
inductive wG (C:bq) (P:Pt) (ks ps:List D):Value->Prop
 |mk {a:Addr} {o:Obj} {vs:List Value}:P.h.get? a=some o->P.own a≠ .no->fq C P.own o ks vs->RDs C P.own ps vs->wG C P ks ps (.ref a)
def fx (C:bq) (P:Pt) (v:Value):D->Prop
 | .lst l=>gU C P l v
 | .dct ks ps=>wG C P ks ps v
 |x=>RD C P.own x v
theorem jq (I:aE C P) {v:Value}:∀ {x:D},RD C P.own x v->fx C P v x
 | .lst l,r=>by
  obtain ⟨e,r'⟩:kC C P.own rn l v:=r.view;exact .mk (I.fz _ _ e) (by rw[e];nofun) r'
 | .dct ks ps,r=>by
  obtain ⟨e,d,r'⟩:E3 C P.own ks ps v:=r.view;exact .mk (I.fz _ _ e) (by rw[e];nofun) d r'
 | .none,r=>r
 | .bool _,r=>r
 | .int _,r=>r
 | .str _,r=>r
 | .tup _,r=>r
 | .rng _ _ _,r=>r
 | .exc _,r=>r
theorem FA.at {w:bp} {h:Heap} {n i:Nat} {v:Value}:∀ {f:cb},FA C w h n i v f->(∀ x,f≠ .d x)->iK C w h n (i+2) f v
 | .d _,_,hf=>absurd rfl (hf _)
 | .list _,r,_=>r
 | .dict _ _,r,_=>r
theorem iK.to {w:bp} {h:Heap} {n j:Nat} {f:cb} {v v':Value} (k:∀ a,w a= .cell n j->v'= .ref a):iK C w h n j f v->iK C w h n j f v':=fun h=>by
 obtain ⟨a,b,c⟩:=h;exact k _ a ▸ ⟨a,b,c⟩
theorem E_ {w:bp} {h:Heap} {n:Nat} {f:cb}:∀ {o:PO} {j:Nat},RO C w h n o->o.at j=some f->(∀ x,f≠ .d x)->∃ v,iK C w h n j f v:=by
 intro o j r e hf;cases o with
 |dead=>cases e
 |fld _=>
  cases j with
  |zero=>cases e;exact r
  |succ _=>cases e
 |wrp _=>
  obtain ⟨_,_,_,v,_,_,_,r⟩:=r
  match j,e with
  |0,e=>cases e
  |1,e=>cases e
  |2,e=>cases e;exact ⟨v,r⟩
  |_+3,e=>cases e
 |rcd b l=>
  match j,e with
  |0,e=>cases e
  |1,e=>cases e
  |j+2,e=>
  have e:l[j]? =some f:=e;have q:=(Og.mp e).1;cases b with
  |true=>
   obtain ⟨_,_,_,_,_,h6,_,h8⟩:hR C w h n l:=r;rw[<-h6] at q;exact ⟨_,(h8 j f _ e (Oh q)).at hf⟩
  |false=>
   obtain ⟨_,_,_,h4,_,_,h8⟩:oQ C w h n l:=r;rw[<-h4] at q;exact ⟨_,(h8 j f _ e (Oh q)).at hf⟩
theorem lR (I:aE C P) {v:Value} {n j:Nat} {f:cb} (r:RV C P v (.p n j)) (e:bU P.σ n j=some f) (hf:∀ x,f≠ .d x):iK C P.own P.h n j f v:=by
 obtain ⟨o,e1,e2⟩:=Option.bind_eq_some_iff.mp e;obtain ⟨_,q⟩:=E_ (I.obj n o e1) e2 hf;exact q.to r.2
theorem gz:∀ {f:cb} {x:D},f.rd=some x->f.toD=x/\∀ x,f≠ .d x
 | .list _,_,e=>by cases e;exact ⟨rfl,nofun⟩
 | .dict _ _,_,e=>by cases e;exact ⟨rfl,nofun⟩
theorem DB {n j:Nat} {v:Value}:∀ {f:cb},iK C P.own P.h n j f v->fx C P v f.toD:=by
 intro Z0 Z2;cases Z0 with
 |d _=>
  obtain ⟨_,_,h⟩:=Z2;exact h.elim
 |list _=>
  obtain ⟨h1,h2,h3⟩:=Z2;obtain ⟨vs,k,rfl,h3⟩:=h3;exact .mk (n:=⟨k,none,#[]⟩) h2 (by rw[h1];nofun) h3
 |dict _ _=>
  obtain ⟨h1,h2,h3⟩:=Z2;obtain ⟨vs,h3,h4⟩:=h3;exact .mk h2 (by rw[h1];nofun) h3 h4
theorem bG (I:aE C P) {v:Value} {x:D}:∀ {p:PV},RV C P v p->rd P.σ p=some x->fx C P v x:=by
 intro Z0 r e;cases Z0 with
 |d y=>
  cases e;exact jq I r
 |p n j=>
  obtain ⟨f,e1,e2⟩:=Option.bind_eq_some_iff.mp e;exact (gz e2).1 ▸ DB (lR I r e1 (gz e2).2)
 |b _ _=>cases e
theorem pV {α:Type}:∀ {o:Option (Option α)} {a:α},o.join=some a->o=some (some a)
 |some (some _),_,e=>by cases e;rfl
end
section
variable {X:Cx} {e:Expr} {ρ:a9} {P:Pt} {K:R PV->av->Prop} {Q E:Value->Shared->Prop}
theorem Gs (i:Nat) (h:cY (fun x _=>X.sx.Γ.lookup x==some i&&lX X.sx.sc x&& !(x==("__debug__":Str))&& !(x==("__classdict__":Str))) e=true) (I:aE X.C P) (G:EnvOK X P ρ) (w:Wp K (DA ((ρ[i]?).join) P.σ)) (p:bg X (RV X.C) P K Q E):
  wpAny X.M X.A (eval e X.env) Q E P.s:=by
 refine bY (fun e=>wpAny X.M X.A (eval e X.env) Q E P.s) h fun x pos h=> ?_;obtain ⟨q,e1,k⟩:=gw w;obtain ⟨v,r,l⟩:=G.var x i q (bu (ah (ah (ah h)))) ((X.kinds x).1 (ak (ah (ah h)))) (pV e1);have done:Q v P.s:=p.here I r k;have n1:=(Bool.not_eq_true' _).mp (ak (ah h));rcases l with ⟨hk,f,hf,hL,hm⟩|⟨hk,c,hc,f,hf,hcf,hcv⟩
 .exact wpAny_Name (wpAny_loadName_local X.kind hk (hL ▸ (I.fr.ns f hf).1) hm done) n1
 .have hcell:=(I.fr.cl f hf c hcf).1;rw[hcv] at hcell;rcases hk with hk|hk
  .exact wpAny_Name (wpAny_loadName_cell X.kind hk hc hcell done) n1
  .exact wpAny_Name (wpAny_loadName_free X.kind hk hc hcell done ((Bool.not_eq_true' _).mp (ak h))) n1
theorem B3 (h:b9 (fun c _ _=>EP c) e=true) (I:aE X.C P) (w:Wp K (ret (.d .none) P.σ)) (p:bg X (RV X.C) P K Q E):We X e Q E P:=
 cN (fun e=>We X e Q E P) h fun c k pos h=>zK (fun c=>wpAny X.M X.A (eval (.Constant c k pos) X.env) Q E P.s) h (wpAny_Constant_none ((p.fin w).here I .none))
theorem B_ (b:Bool) (h:b9 (fun c _ _=>ER (fun c=>b==c) c) e=true) (I:aE X.C P) (w:Wp K (ret (.d (.bool b)) P.σ)) (p:bg X (RV X.C) P K Q E):We X e Q E P:=
 cN (fun e=>We X e Q E P) h fun c k pos h=>zM (fun c=>wpAny X.M X.A (eval (.Constant c k pos) X.env) Q E P.s) h fun c h=>wpAny_Constant_bool ((p.fin w).here I (bu h ▸ .bool b))
theorem EE (i:Int) (h:b9 (fun c _ _=>EQ (fun j=>i==j) c) e=true) (I:aE X.C P) (w:Wp K (ret (.d (.int i)) P.σ)) (p:bg X (RV X.C) P K Q E):We X e Q E P:=
 cN (fun e=>We X e Q E P) h fun c k pos h=>zL (fun c=>wpAny X.M X.A (eval (.Constant c k pos) X.env) Q E P.s) h fun j h=>wpAny_Constant_int ((p.fin w).tok I (bu h ▸ .int i _) _)
theorem u6 {C:bq} {w:bp} {x:Str} {s:List Nat} (h:x.cps.toList=s) (k:oX s) (t:Tok):RD C w (.str s) (.str x t):=by
 obtain ⟨⟨l⟩⟩:=x;subst h;exact .str _ t k
noncomputable def H3 (s:List Nat):Bool:=s.all (· <0x110000)&&decide (s.length<=1000)
theorem AL {s:List Nat} (h:H3 s=true):oX s:=⟨fun c hc=>OT (List.all_eq_true.mp (ah h) c hc),Om (OT (ak h)) (by decide)⟩
theorem Ey (s:List Nat) (h:b9 (fun c _ _=>Co (fun x=>x.cps.toList==s&&H3 s) c) e=true) (I:aE X.C P) (w:Wp K (ret (.d (.str s)) P.σ)) (p:bg X (RV X.C) P K Q E):We X e Q E P:=
 cN (fun e=>We X e Q E P) h fun c k pos h=>qk (fun c=>wpAny X.M X.A (eval (.Constant c k pos) X.env) Q E P.s) h fun x h=>wpAny_Constant_str ((p.fin w).tok I (u6 (bu (ah h)) (AL (ak h)) _) _)
theorem du {x:Str} {v:Value} {pos:Pos} (I:aE X.C P) (hw:dB X.sc x=true) (hv:X.C.mg x=some v) (h:Q v P.s):wpAny X.M X.A (eval (.Name x pos) X.env) Q E P.s:=
 Calls.Name_function_global X.kind ((X.kinds x).2.1 hw) (Calls.loadGlobal_global (mg:=X.C.mg) (X.glob ▸ X.good.g.keeps fun b o e=>(I.base b o e).1) hv h) ((Bool.not_eq_true' _).mp (ak hw))
theorem eS {x:Str} {v:Value} {pos:Pos} (I:aE X.C P) (hw:dB X.sc x=true) (hb:(x,v)∈eX) (h:Q v P.s):wpAny X.M X.A (eval (.Name x pos) X.env) Q E P.s:=
 Calls.Name_function_global X.kind ((X.kinds x).2.1 hw) (Calls.loadGlobal_builtin (mg:=X.C.mg) (mb:=X.C.mb) (X.glob ▸ X.good.g.keeps fun b o e=>(I.base b o e).1) (X.good.bi _ hb).1 (X.blt ▸ X.good.b.keeps fun b o e=>(I.base b o e).1) (X.good.bi _ hb).2 h) ((Bool.not_eq_true' _).mp (ak hw))
noncomputable def M8:Option Int×List Nat->D
 |(some i,_)=>.int i
 |(none,s)=>.str s
theorem JE {C:bq} {w:bp} {v:Value}:∀ {q:Option Int×List Nat},GT v q->RD C w (M8 q) v
 |(some i,_),⟨t,e⟩=>e ▸ .int i t
 |(none,s),⟨h,t,e⟩=>e ▸ .str s t h
theorem GS (x:Str) (q:Option Int×List Nat) (h:cY (fun y _=>y==x&&dB X.sx.sc x&&X.sx.gls.lookup x==some q) e=true) (I:aE X.C P) (w:Wp K (ret (.d (M8 q)) P.σ)) (p:bg X (RV X.C) P K Q E):wpAny X.M X.A (eval e X.env) Q E P.s:=by
 refine bY (fun e=>wpAny X.M X.A (eval e X.env) Q E P.s) h fun y pos h=> ?_;obtain ⟨v,hv,hg⟩:=X.good.gl x q (bu (ak h));rw[bu (ah (ah h))];exact du I (ak (ah h)) hv ((p.fin w).here I (JE hg))
end
noncomputable def ag (i:Nat):CE:=⟨fun _ ρ=>DA ((ρ[i]?).join),fun x=>cY fun y _=>x.Γ.lookup y==some i&&lX x.sc y&& !(y==("__debug__":Str))&& !(y==("__classdict__":Str)),fun _ _ _ _ _ _ _ h I G w p=>Gs i h I G w p⟩
noncomputable def hJ:CE:=⟨fun _ _=>ret (.d .none),fun _=>b9 fun c _ _=>EP c,fun _ _ _ _ _ _ _ h I _ w p=>B3 h I w p⟩
noncomputable def cD (b:Bool):CE:=⟨fun _ _=>ret (.d (.bool b)),fun _=>b9 fun c _ _=>ER (fun c=>b==c) c,fun _ _ _ _ _ _ _ h I _ w p=>B_ b h I w p⟩
noncomputable def ai (i:Int):CE:=⟨fun _ _=>ret (.d (.int i)),fun _=>b9 fun c _ _=>EQ (fun j=>i==j) c,fun _ _ _ _ _ _ _ h I _ w p=>EE i h I w p⟩
noncomputable def aU (s:List Nat):CE:=⟨fun _ _=>ret (.d (.str s)),fun _=>b9 fun c _ _=>Co (fun x=>x.cps.toList==s&&H3 s) c,fun _ _ _ _ _ _ _ h I _ w p=>Ey s h I w p⟩
noncomputable def zr (x:Str) (q:Option Int×List Nat):CE:=⟨fun _ _=>ret (.d (M8 q)),fun c=>cY fun y _=>y==x&&dB c.sc x&&c.gls.lookup x==some q,fun _ _ _ _ _ _ _ h I _ w p=>GS x q h I w p⟩
section
variable {C:bq} {A:Around} {P:Pt} {Q E:Value->Shared->Prop}
theorem dM {v:D} {j:Int} {y:Value} (e:iD v=some j) (h:fx C P y v):∃ t,y= .int j t:=by
 cases v<;>first|(cases e;exact RD.view h)|cases e
theorem kH {v:D} {s:List Nat} {y:Value} (e:sD v=some s) (h:fx C P y v):oX s/\∃ t,y= .str (fU s) t:=by
 cases v<;>first|(cases e;exact RD.view h)|cases e
theorem Hn {v:D} {b:Bool} {y:Value} (e:bD v=some b) (h:fx C P y v):y= .bool b:=by
 cases v<;>first|(cases e;exact RD.view h)|cases e
theorem FL {v:D} {l:List D} {y:Value} (e:tD v=some l) (h:fx C P y v):kC C P.own cj l y:=by
 cases v<;>first|(cases e;exact RD.view h)|cases e
theorem fN {v:D} {l:List D} {y:Value} (e:lD v=some l) (h:fx C P y v):gU C P l y:=by
 cases v<;>first|(cases e;exact h)|cases e
theorem d9 {α:Type} {c:Prop} [Decidable c] {a x:α} (h:aq c a=some x):c/\a=x:=by
 unfold aq at h;by_cases k:c
 .rw[if_pos k] at h;exact ⟨k,O0 h⟩
 .rw[if_neg k] at h;cases h
theorem ao {α β:Type} {f:α->Option β} {b:β}:∀ {o:Option α},o.bind f=some b->∃ a,o=some a/\f a=some b
 |some a,h=>⟨a,rfl,h⟩
theorem aZ {α β:Type} {f:α->β} {b:β}:∀ {o:Option α},o.map f=some b->∃ a,o=some a/\f a=b
 |some a,h=>⟨a,rfl,O0 h⟩
theorem Gi {a b:Int} (h:jU a b=true):IntMulOk a b:=by
 simp only [jU,Bool.or_eq_true,decide_eq_true_eq] at h;rcases h with (h|h)|h
 .exact .of_left (intBits_le_64 (H8 h) (H7 h))
 .exact .of_right (intBits_le_64 (H8 h) (H7 h))
 .unfold IntMulOk Builtin.Int.intTooBig;simp only [Bool.and_eq_true,decide_eq_true_eq,not_and,and_imp];intro _ _ q;have h1:Builtin.Int.intBits a<=a.natAbs.log2+1:=by unfold Builtin.Int.intBits;split<;>omega
  have h2:Builtin.Int.intBits b<=b.natAbs.log2+1:=by unfold Builtin.Int.intBits;split<;>omega
  simp only [bitsLine] at q;exact K5 h q h1 h2
theorem wk {a b:Int} (h:lP b=true):b≠0/\Builtin.divisionGoesByPylong a b=false:=by
 simp only [lP,Bool.and_eq_true,bne_iff_ne,ne_eq,decide_eq_true_eq] at h;refine ⟨h.1,?_⟩;unfold Builtin.divisionGoesByPylong;have hb:b.natAbs.log2<9000:=by
  have:b.natAbs≠0:=by have:=h.1;exact Int.natAbs_ne_zero.mpr this
  exact (Nat.log2_lt this).mpr h.2
 have h0:(b==0)=false:=by simpa using h.1
 simp only [h0,Bool.and_eq_false_iff,decide_eq_false_iff_not]
 left
 simp only [Bool.false_eq_true,if_false];exact Pb.mpr (Nat.succ_le_of_lt ((Nat.div_lt_iff_lt_mul (by decide)).mpr hb))
structure BO where
 op:Operator
 g:D->D->Option D
 ok:∀ {C:bq} {A:Around} {P:Pt} {u v z:D} {x y:Value} {Q E:Value->Shared->Prop},aE C P->fx C P x u->fx C P y v->g u v=some z->mS C P z Q->wpAny C.M A (binaryOp op x y) Q E P.s
noncomputable def pW (f:Int->Int->Option Int) (u v:D):Option D:=(iD u).bind fun a=>(iD v).bind fun b=>(f a b).map .int
theorem gd {f:Int->Int->Option Int} {u v z:D} {x y:Value} (h:pW f u v=some z) (hu:fx C P x u) (hv:fx C P y v):∃ a b c t s,x= .int a t/\y= .int b s/\f a b=some c/\z= .int c:=by
 obtain ⟨a,e1,h⟩:=ao h;obtain ⟨b,e2,h⟩:=ao h;obtain ⟨c,e3,h⟩:=aZ h;obtain ⟨t,e4⟩:=dM e1 hu;obtain ⟨s,e5⟩:=dM e2 hv;exact ⟨a,b,c,t,s,e4,e5,e3,h.symm⟩
noncomputable def dm:BO:=⟨.Sub,pW fun a b=>some (a - b),fun I hu hv e k=>by
 obtain ⟨a,b,c,t,s,rfl,rfl,e',rfl⟩:=gd e hu hv;cases e';exact sub_int (k.tok I (.int _ _) _)⟩
noncomputable def aY:BO:=⟨.Mod,pW fun a b=>aq (lP b=true) (a.fmod b),fun I hu hv e k=>by
 obtain ⟨a,b,c,t,s,rfl,rfl,e',rfl⟩:=gd e hu hv;obtain ⟨hm,rfl⟩:=d9 e';exact mod_int' (wk (a:=0) hm).1 (k.tok I (.int _ _) _)⟩
noncomputable def bh:BO:=⟨.FloorDiv,pW fun a b=>aq (lP b=true) (a.fdiv b),fun I hu hv e k=>by
 obtain ⟨a,b,c,t,s,rfl,rfl,e',rfl⟩:=gd e hu hv;obtain ⟨hm,rfl⟩:=d9 e';exact floordiv_int (wk (a:=0) hm).1 (k.tok I (.int _ _) _) (.inl (wk hm).2)⟩
noncomputable def AN:BO:=⟨.Pow,pW fun a b=>aq (0<=b/\b<=1000/\0<=a/\a<=1000) (a^b.toNat),fun I hu hv e k=>by
 obtain ⟨a,b,c,t,s,rfl,rfl,e',rfl⟩:=gd e hu hv;obtain ⟨hm,rfl⟩:=d9 e';exact pow_int_small hm.1 (by exact OL hm.2.1 (by decide)) (by exact nA hm.2.2.1 (OM hm.2.2.2 (by decide))) (k.tok I (.int _ _) _)⟩
noncomputable def ft:BO:=⟨.Mult,pW fun a b=>aq (jU a b=true) (a*b),fun I hu hv e k=>by
 obtain ⟨a,b,c,t,s,rfl,rfl,e',rfl⟩:=gd e hu hv;obtain ⟨hm,rfl⟩:=d9 e';exact mul_int (k.tok I (.int _ _) _) (Gi hm)⟩
noncomputable def JY (u v:D):Option D:=match u with
 | .int a=>(iD v).map fun b=>.int (a+b)
 | .str a=>(sD v).bind fun b=>aq (a.length+b.length<=dX) (.str (a++b))
 | .tup a=>(tD v).bind fun b=>aq (a.length+b.length<=dX) (.tup (a++b))
 | .lst a=>(lD v).bind fun b=>aq (a.length+b.length<=dX) (.lst (a++b))
 |_=>none
theorem aE.newTup (I:aE C P) (vs:List Value) (n:Nat):sv C P (P.h.push (cj vs n)) P.h.objs.size (cj vs n):=I.push rfl
theorem qL (I:aE C P) {vs:List Value} {n:Nat} {l:List D} {o:Obj} {a:Addr} (e:P.own a= .no) (r:RDs C P.own l vs) (ho:o=cj vs n):RD C (fQ P.own a (.fz o)) (.tup l) (.ref a):=.tup (by rw[bl,ho]) (r.ext (dg e))
theorem kI (I:aE C P) {vs:List Value} {n:Nat} {l:List D} {o:Obj} {a:Addr} (e:P.own a= .no) (r:RDs C P.own l vs) (ho:o=aJ vs n):RD C (fQ P.own a (.fz o)) (.lst l) (.ref a):=.lst (n:=⟨n,none,#[]⟩) (by rw[bl,ho]) (r.ext (dg e))
theorem EV {x y:List D} {u v:Value} (I:aE C P) (hu:kC C P.own cj x u) (hv:kC C P.own cj y v) (hm:x.length+y.length<=dX) (k:mS C P (.tup (x++y)) Q):wpAny C.M A (binaryOp .Add u v) Q E P.s:=by
 obtain @⟨a1,vs1,n1,o1,r1⟩:=hu;obtain @⟨a2,vs2,n2,o2,r2⟩:=hv;have l1:=r1.length;have l2:=r2.length;have g1:=I.fz _ _ o1;have g2:=I.fz _ _ o2;by_cases hv:vs1=[]
 .subst hv;obtain rfl:x=[]:=List.eq_nil_of_length_eq_zero l1.symm;exact concat_meets ⟨_,g1,rfl⟩ ⟨_,g2,rfl⟩ noFill_tuple_add seq_tuple_add PySem.F.slot_tuple_add PySem.F.entry_tuple_add (PySem.F.args_tuple_add_2 _ _)
   (tuple_addW0 a1 a2 _ _ n1 n2 none none #[] #[] (by simp)) ⟨g1,g2,k.here I (.tup o2 r2)⟩
 .by_cases hw:vs2=[]
  .subst hw;obtain rfl:y=[]:=List.eq_nil_of_length_eq_zero l2.symm;exact concat_meets ⟨_,g1,rfl⟩ ⟨_,g2,rfl⟩ noFill_tuple_add seq_tuple_add PySem.F.slot_tuple_add PySem.F.entry_tuple_add (PySem.F.args_tuple_add_2 _ _)
    (tuple_addW1 a1 a2 _ _ n1 n2 none none #[] #[] (by simpa using hv) (by simp)) ⟨g1,g2,k.here I (by rw[List.append_nil];exact .tup o1 r1)⟩
  .refine concat_meets ⟨_,g1,rfl⟩ ⟨_,g2,rfl⟩ noFill_tuple_add seq_tuple_add PySem.F.slot_tuple_add PySem.F.entry_tuple_add (PySem.F.args_tuple_add_2 _ _)
    (tuple_addW2 a1 a2 _ _ n1 n2 none none #[] #[] (by simpa using hv) (by simpa using hw) (by simpa [sizeLine,dX,l1,l2] using hm)) ⟨g1,g2,?_⟩
   have:=k.note I (I.newTup (vs1++vs2) 0) P.s.toks (qL I (I.off (Oo _)) (r1.append r2) rfl)
   simpa using this
theorem yd {s:Shared} {l b:Addr} {vs ws:List Value} {n m:Ks} (hl:s.heap.get? l=some (rn vs n)) (hb:s.heap.get? b=some (rn ws m)) (h:Q (.ref s.heap.objs.size) {s with heap:=s.heap.push {cls:=.type "list",data:=.seq (vs.toArray++ws.toArray)}}) (hsz:vs.toArray.size+ws.toArray.size<=sizeLine):wpAny C.M A (binaryOp .Add (.ref l) (.ref b)) Q E s:=
 concat_meets ⟨_,hl,rfl⟩ ⟨_,hb,rfl⟩ noFill_list_add seq_list_add PySem.F.slot_list_add PySem.F.entry_list_add (PySem.F.args_list_add_2 _ _) (list_addW l b vs.toArray ws.toArray n.n m.n n.d m.d n.sl m.sl hsz) ⟨hl,hb,h⟩
theorem EW {x y:List D} {u v:Value} (I:aE C P) (hu:gU C P x u) (hv:gU C P y v) (hm:x.length+y.length<=dX) (k:mS C P (.lst (x++y)) Q):wpAny C.M A (binaryOp .Add u v) Q E P.s:=by
 obtain @⟨a1,vs1,n1,g1,_,r1⟩:=hu;obtain @⟨a2,vs2,n2,g2,_,r2⟩:=hv;refine yd g1 g2 ?_ (by simpa [sizeLine,dX,r1.length,r2.length] using hm);have:=k.note I (I.push (o:=aJ (vs1++vs2) 0) rfl) P.s.toks (kI I (I.off (Oo _)) (r1.append r2) rfl)
 simpa using this
theorem Hs (I:aE C P):∀ {u v z:D} {x y:Value},fx C P x u->fx C P y v->JY u v=some z->mS C P z Q->wpAny C.M A (binaryOp .Add x y) Q E P.s:=by
 intro Z0 v z x y hu hv e k;cases Z0 with
 |int a=>
  obtain ⟨b,e1,rfl⟩:=aZ e;obtain ⟨t,rfl⟩:=RD.view hu;obtain ⟨s,rfl⟩:=dM e1 hv;exact add_int (k.tok I (.int _ _) _)
 |str a=>
  obtain ⟨b,e1,e⟩:=ao e;obtain ⟨hm,rfl⟩:=d9 e;obtain ⟨ha,t,rfl⟩:=RD.view hu;obtain ⟨hb,s,rfl⟩:=kH e1 hv;refine add_str (fun t' tk=>k.tok I ?_ _) (by simpa [Str.length,sizeLine,dX] using hm);exact u6 (by rw[Str.cps_append];simp) ⟨fun c hc=>(Ov.mp hc).elim (ha.1 c) (hb.1 c),by simpa using hm⟩ _
 |tup a=>
  obtain ⟨b,e1,e⟩:=ao e;obtain ⟨hm,rfl⟩:=d9 e;exact EV I (RD.view hu) (FL e1 hv) hm k
 |lst a=>
  obtain ⟨b,e1,e⟩:=ao e;obtain ⟨hm,rfl⟩:=d9 e;exact EW I hu (fN e1 hv) hm k
 |_=>cases e
noncomputable def bf:BO:=⟨.Add,JY,fun I hu hv e k=>Hs I hu hv e k⟩
noncomputable def HY (g:D->D->Option D) (x y:PV):PM PV:=fun σ=>(rd σ x).bind fun u=>(rd σ y).bind fun v=>(g u v).map fun z=>(.ok (.d z),σ)
theorem zW {K:R PV->av->Prop} {g:D->D->Option D} {x y:PV} {σ:av} (h:Wp K (HY g x y σ)):∃ u v z,rd σ x=some u/\rd σ y=some v/\g u v=some z/\K (.ok (.d z)) σ:=by
 unfold HY at h;cases e1:rd σ x with
 |none=>rw[e1] at h;exact h.elim
 |some u=>
 cases e2:rd σ y with
 |none=>rw[e1,e2] at h;exact h.elim
 |some v=>
 cases e3:g u v with
 |none=>rw[e1,e2,Od,Od,e3] at h;exact h.elim
 |some z=>rw[e1,e2,Od,Od,e3] at h;exact ⟨u,v,z,rfl,rfl,e3,h⟩
end
section
variable {X:Cx} {e:Expr} {ρ:a9} {P:Pt} {K:R PV->av->Prop} {Q E:Value->Shared->Prop}
theorem Hj (o:BO) (a b:CE) (h:kx (fun l op r _=>op==o.op&&a.is X.sx l&&b.is X.sx r) e=true) (I:aE X.C P) (G:EnvOK X P ρ) (w:Wp K (bz (a.ev X.ker ρ) (fun x=>bz (b.ev X.ker ρ) fun y=>HY o.g x y) P.σ)) (p:bg X (RV X.C) P K Q E):
  wpAny X.M X.A (eval e X.env) Q E P.s:=
 ku (fun e=>wpAny X.M X.A (eval e X.env) Q E P.s) h fun l op r pos h=>wpAny_BinOp (a.ok X l ρ P _ _ E (ak (ah h)) I G (aH w) (p.bind fun x v P1 g1 I1 r1 w p=>
  b.ok X r ρ P1 _ _ E (ak h) I1 (G.ext g1) (aH w) (p.bind fun y u P2 g2 I2 r2 w p=>by
   obtain ⟨i,j,z,e1,e2,e3,k⟩:=zW w;rw[bu (ah (ah h))];exact o.ok I2 (bG I2 (r1.ext g2.toExt) e1) (bG I2 r2 e2) e3 (p.fin k))))
end
noncomputable def aG (o:BO) (a b:CE):CE:=⟨fun K ρ=>bz (a.ev K ρ) fun x=>bz (b.ev K ρ) fun y=>HY o.g x y,fun s=>kx fun l op r _=>op==o.op&&a.is s l&&b.is s r,fun _ _ _ _ _ _ _ h I G w p=>Hj o a b h I G w p⟩
noncomputable def KN (p:D->Bool):D->Bool
 | .none=>true
 | .int _=>true
 | .str _=>true
 | .tup l=>l.all p
 | .lst l=>l.all p
 |_=>false
noncomputable def pl:Nat->D->Bool
 |0=>KN fun _=>false
 |n+1=>KN (pl n)
noncomputable def w0 (f:D->PyData):D->PyData
 | .none=>.none
 | .int i=>.int i
 | .str s=>.str (fU s)
 | .tup l=>.tuple (l.map f)
 | .lst l=>.list (l.map f)
 |_=>.dict []
noncomputable def py:Nat->D->PyData
 |0=>w0 fun _=>.none
 |n+1=>w0 (py n)
theorem jx {f:D->PyData} {p:D->Bool} (ih:∀ x y,p x=true->p y=true->(PyData.eqv (f x) (f y)=true<->x=y)):∀ l m:List D,l.all p=true->m.all p=true->(PyData.eqvAll (l.map f) (m.map f)=true<->l=m)
 |[],[],_,_=>⟨fun _=>rfl,fun _=>by simp [PyData.eqvAll]⟩
 |[],_::_,_,_=>⟨fun h=>by simp [PyData.eqvAll] at h,nofun⟩
 |_::_,[],_,_=>⟨fun h=>by simp [PyData.eqvAll] at h,nofun⟩
 |x::l,y::m,h1,h2=>by
  have q:=ih x y (ah h1) (ah h2);have r:=jx ih l m (ak h1) (ak h2);rw[List.map_cons,List.map_cons,PyData.eqvAll,Bool.and_eq_true,q,r,List.cons.injEq]
theorem AM (a b:List Nat):(fU a==fU b)=true<->a=b:=by
 rw[beq_iff_eq];exact ⟨fun h=>congrArg Array.toList (congrArg Str.cps h),fun h=>by rw[h]⟩
inductive EZ (p:D->Bool):D->Prop
 |none:EZ p .none
 |int (i:Int):EZ p (.int i)
 |str (s:List Nat):EZ p (.str s)
 |tup (l:List D):l.all p=true->EZ p (.tup l)
 |lst (l:List D):l.all p=true->EZ p (.lst l)
theorem iQ {p:D->Bool}:∀ {x:D},KN p x=true->EZ p x
 | .none,_=>.none
 | .int i,_=>.int i
 | .str s,_=>.str s
 | .tup l,h=>.tup l h
 | .lst l,h=>.lst l h
 | .bool _,h=>absurd h OB
 | .dct _ _,h=>absurd h OB
 | .rng _ _ _,h=>absurd h OB
 | .exc _,h=>absurd h OB
theorem ug {f:D->PyData} {p:D->Bool} (ih:∀ x y,p x=true->p y=true->(PyData.eqv (f x) (f y)=true<->x=y)) {x y:D} (hx:EZ p x) (hy:EZ p y):PyData.eqv (w0 f x) (w0 f y)=true<->x=y:=by
 cases hx with
 |none=>cases hy<;>(delta w0;simp [PyData.eqv])
 |int i=>
  cases hy with
  |int j=>(delta w0;simp only [PyData.eqv,beq_iff_eq]);exact ⟨fun h=>h ▸ rfl,fun h=>by injection h⟩
  |_=>(delta w0;simp [PyData.eqv])
 |str s=>
  cases hy with
  |str t=>(delta w0;simp only [PyData.eqv]);exact (AM s t).trans ⟨fun h=>h ▸ rfl,fun h=>by injection h⟩
  |_=>(delta w0;simp [PyData.eqv])
 |tup l h=>
  cases hy with
  |tup m h'=>(delta w0;simp only [PyData.eqv]);exact (jx ih l m h h').trans ⟨fun h=>h ▸ rfl,fun h=>by injection h⟩
  |_=>(delta w0;simp [PyData.eqv])
 |lst l h=>
  cases hy with
  |lst m h'=>(delta w0;simp only [PyData.eqv]);exact (jx ih l m h h').trans ⟨fun h=>h ▸ rfl,fun h=>by injection h⟩
  |_=>(delta w0;simp [PyData.eqv])
theorem rU:∀ (n:Nat) (x y:D),pl n x=true->pl n y=true->(PyData.eqv (py n x) (py n y)=true<->x=y):=by
 intro n
 induction n with
 |zero=>
  intro _ _ hx hy;exact ug (fun _ _ h=>absurd h OB) (iQ hx) (iQ hy)
 |succ n ih=>
  intro _ _ hx hy;exact ug (ih) (iQ hx) (iQ hy)
section
variable {C:bq} {A:Around} {P:Pt} {Q E:Value->Shared->Prop}
theorem mX {l:List Nat} (h:∀ c∈l,c<0x110000):PyData.strOk (fU l)=true:=by
 simp only [PyData.strOk,List.all_toArray,List.all_eq_true,decide_eq_true_eq];exact h
inductive oS (h:Heap) (n:Nat) (v:Value) (d:PyData):Prop
 |mk (as:List Addr):Reads h v d as->d.canLay0=true->d.depth<=n->oS h n v d
inductive yh (h:Heap) (n:Nat) (vs:List Value) (ds:List PyData):Prop
 |mk (as:List Addr):ReadsAll h vs ds as->PyData.canLayAll0 ds=true->PyData.depthAll ds<=n->yh h n vs ds
theorem fF {h:Heap} {n:Nat} {f:D->PyData} {p:D->Bool} (ih:∀ x v,RD C P.own x v->p x=true->oS h n v (f x)):∀ {l:List D} {vs:List Value},RDs C P.own l vs->l.all p=true->yh h n vs (l.map f)
 |[],vs,r,_=>by rw[show vs=[] from r.view];exact .mk _ .nil rfl (OG _)
 |x::l,vs,r,e=>by
  obtain ⟨r1,r2⟩:eQ C P.own x l vs:=r.view;obtain ⟨as,a1,a2,a3⟩:=ih x _ r1 (ah e);obtain ⟨bs,b1,b2,b3⟩:=fF ih r2 (ak e);refine .mk _ (.cons a1 b1) ?_ ?_
  .rw[List.map_cons,PyData.canLayAll0,a2,b2];rfl
  .rw[List.map_cons,PyData.depthAll];exact Nat.max_le.mpr ⟨a3,b3⟩
theorem s0 (I:aE C P) {n:Nat} {f:D->PyData} {p:D->Bool} (ih:∀ x v,RD C P.own x v->p x=true->oS P.h n v (f x)) {x:D} {v:Value} (r:fx C P v x) (e:EZ p x):oS P.h (n+1) v (w0 f x):=by
 cases e with
 |none=>cases RD.view r;exact .mk _ .none rfl (OG _)
 |int i=>obtain ⟨t,rfl⟩:=RD.view r;exact .mk _ (.int _ _) rfl (OG _)
 |str s=>obtain ⟨hs,t,rfl⟩:=RD.view r;exact .mk _ (.str _ _) (mX hs.1) (OG _)
 |tup l h=>
  obtain ⟨o,s⟩:kC C P.own cj l v:=RD.view r;obtain ⟨as,a1,a2,a3⟩:=fF ih s h;exact .mk _ (reads_tuple_at (I.fz _ _ o) rfl rfl (by simpa using a1)) a2 (O9 a3)
 |lst l h=>
  obtain ⟨o,_,s⟩:gU C P l v:=r;obtain ⟨as,a1,a2,a3⟩:=fF ih s h;exact .mk _ (reads_list_at o rfl rfl (by simpa using a1)) a2 (O9 a3)
theorem iS (I:aE C P):∀ (n:Nat) (x:D) (v:Value),fx C P v x->pl n x=true->oS P.h (n+1) v (py n x):=by
 intro n
 induction n with
 |zero=>
  intro _ _ r e;exact s0 I (n:=0) (p:=fun _=>false) (fun _ _ _ h=>absurd h OB) r (iQ e)
 |succ n ih=>
  intro _ _ r e;exact s0 I (fun x v r e=>ih x v (jq I r) e) r (iQ e)
theorem iM {d:PyData} {n:Nat} (h:d.canLay0=true) (k:d.depth<=n) (hn:n<=64):SeqAt.shaped d=true:=by
 unfold SeqAt.shaped;rw[h,Bool.true_and];exact Os (Om k hn)
noncomputable def JJ (a b:D):Option Bool:=match a with
 | .int i=>(iD b).map fun j=>decide (i=j)
 | .str s=>(sD b).map fun t=>decide (s=t)
 | .bool p=>(bD b).map fun q=>p==q
 |_=>none
open Classical in
noncomputable def M' (a b:D):Option Bool:=aq ((pl 8 a&&pl 8 b)=true) (decide (a=b))
noncomputable def JK (a b:D):Option Bool:=(JJ a b).or (M' a b)
theorem Dz {α:Type} {p q:Option α} {a:α} (h:p.or q=some a):p=some a∨q=some a:=by
 cases p with
 |none=>exact .inr h
 |some x=>exact .inl h
open Classical in
theorem BM (I:aE C P) {u v:D} {x y:Value} {c:Bool} (hu:fx C P x u) (hv:fx C P y v) (e:JK u v=some c):∃ d d' as bs,Reads P.h x d as/\Reads P.h y d' bs/\SeqAt.shaped d=true/\SeqAt.shaped d'=true/\PyData.eqv d d'=c:=by
 rcases Dz e with e|e
 .cases u<;>try (cases e;done)
  .obtain ⟨q,e1,rfl⟩:=aZ e;cases RD.view hu;cases Hn e1 hv;exact ⟨_,_,_,_,.bool _,.bool _,rfl,rfl,by simp [PyData.eqv]⟩
  .obtain ⟨j,e1,rfl⟩:=aZ e;obtain ⟨t,rfl⟩:=RD.view hu;obtain ⟨s,rfl⟩:=dM e1 hv;exact ⟨_,_,_,_,.int _ _,.int _ _,rfl,rfl,by simp only [PyData.eqv];rfl⟩
  .obtain ⟨s,e1,rfl⟩:=aZ e;obtain ⟨h1,t,rfl⟩:=RD.view hu;obtain ⟨h2,t',rfl⟩:=kH e1 hv;refine ⟨_,_,_,_,.str _ _,.str _ _,iM (mX h1.1) (Oo 0) (by decide),iM (mX h2.1) (Oo 0) (by decide),?_⟩;rw[Bool.eq_iff_iff,decide_eq_true_eq,<-AM];simp only [PyData.eqv]
 .obtain ⟨h,rfl⟩:=d9 e;obtain ⟨as,a1,a2,a3⟩:=iS I 8 _ _ hu (ah h);obtain ⟨bs,b1,b2,b3⟩:=iS I 8 _ _ hv (ak h);refine ⟨_,_,as,bs,a1,b1,iM a2 a3 (by decide),iM b2 b3 (by decide),?_⟩;rw[Bool.eq_iff_iff,decide_eq_true_eq];exact rU 8 u v (ah h) (ak h)
structure CO where
 op:CmpOp
 g:D->D->Option Bool
 ok:∀ {C:bq} {A:Around} {P:Pt} {u v:D} {c:Bool} {x y:Value} {Q E:Value->Shared->Prop},eA C->A.units+64<cLine->aE C P->fx C P x u->fx C P y v->g u v=some c->mS C P (.bool c) Q->wpAny C.M A (compareOp op x y) Q E P.s
noncomputable def dY:CO:=⟨.Eq,JK,fun _ hu I a b e k=>by
 obtain ⟨d,d',as,bs,r1,r2,s1,s2,rfl⟩:=BM I a b e;exact eq_dataH r1 r2 s1 s2 hu (k.here I (.bool _))⟩
noncomputable def mh:CO:=⟨.NotEq,fun u v=>(JK u v).map fun c=> !c,fun _ hu I a b e k=>by
 obtain ⟨c,e',rfl⟩:=aZ e;obtain ⟨d,d',as,bs,r1,r2,s1,s2,rfl⟩:=BM I a b e';exact ne_dataH r1 r2 s1 s2 hu (k.here I (.bool _))⟩
noncomputable def B4 (f:Int->Int->Bool) (u v:D):Option Bool:=(iD u).bind fun a=>(iD v).map fun b=>f a b
theorem j9 {f:Int->Int->Bool} {u v:D} {x y:Value} {c:Bool} (h:B4 f u v=some c) (hu:fx C P x u) (hv:fx C P y v):∃ a b t s,x= .int a t/\y= .int b s/\c=f a b:=by
 obtain ⟨a,e1,h⟩:=ao h;obtain ⟨b,e2,h⟩:=aZ h;obtain ⟨t,e4⟩:=dM e1 hu;obtain ⟨s,e5⟩:=dM e2 hv;exact ⟨a,b,t,s,e4,e5,h.symm⟩
noncomputable def uM:CO:=⟨.Lt,B4 fun a b=>decide (a<b),fun _ _ I a b e k=>by
 obtain ⟨i,j,t,s,rfl,rfl,rfl⟩:=j9 e a b;exact lt_int (k.here I (.bool _))⟩
noncomputable def CK:CO:=⟨.Gt,B4 fun a b=>decide (a>b),fun _ _ I a b e k=>by
 obtain ⟨i,j,t,s,rfl,rfl,rfl⟩:=j9 e a b;exact gt_int (k.here I (.bool _))⟩
noncomputable def JQ:CO:=⟨.GtE,B4 fun a b=>decide (a≥b),fun _ _ I a b e k=>by
 obtain ⟨i,j,t,s,rfl,rfl,rfl⟩:=j9 e a b;exact ge_int (k.here I (.bool _))⟩
noncomputable def oV:CO:=⟨.LtE,B4 fun a b=>decide (a<=b),fun _ _ I a b e k=>by
 obtain ⟨i,j,t,s,rfl,rfl,rfl⟩:=j9 e a b;exact le_int (k.here I (.bool _))⟩
noncomputable def Kn:List Nat->List Nat->Bool
 |[],_=>true
 |_::_,[]=>false
 |a::r,b::q=>if a<b then true else if a=b then Kn r q else false
theorem Bb:∀ a b:List Nat,Kn a b= !decide (b<a)
 |[],b=>by show true=_;simp
 |x::r,[]=>by show false=_;simp
 |x::r,y::q=>by
  have ih:=Bb r q;show (if x<y then true else if x=y then Kn r q else false)=_;simp only [List.cons_lt_cons_iff];by_cases h1:x<y
  .simp [h1];omega
  .by_cases h2:x=y
   .subst h2;simp [ih]
   .have h3:y<x:=by exact Nat.lt_of_le_of_ne (Pb.mp h1) (Ne.symm h2)
    simp [h1,h2,h3]
noncomputable def B':CO:=⟨.LtE,fun u v=>(sD u).bind fun a=>(sD v).map fun b=>Kn a b,fun _ _ I a b e k=>by
 obtain ⟨s,e1,e⟩:=ao e;obtain ⟨t,e2,rfl⟩:=aZ e;obtain ⟨_,t1,rfl⟩:=kH e1 a;obtain ⟨_,t2,rfl⟩:=kH e2 b;refine PySem.P.le_str ?_;have:=k.here I (.bool _);rw[Bb] at this
 simpa using this⟩
noncomputable def N_:D->Option Bool
 | .none=>some true
 | .int _| .str _| .tup _| .lst _| .bool _=>some false
 |_=>none
noncomputable def Jx (u v:D):Option Bool:=match v with
 | .none=>N_ u
 |_=>none
theorem D2 {u v:D} {x y:Value} {c:Bool} (h:Jx u v=some c) (hu:fx C P x u) (hv:fx C P y v):y= .none/\((x= .none/\c=true)∨(x≠ .none/\c=false)):=by
 cases v<;>try (cases h;done)
 refine ⟨RD.view hv,?_⟩;cases u<;>try (cases h;done)
 .cases h;exact .inl ⟨RD.view hu,rfl⟩
 .cases h;cases RD.view hu;exact .inr ⟨nofun,rfl⟩
 .cases h;obtain ⟨t,rfl⟩:=RD.view hu;exact .inr ⟨nofun,rfl⟩
 .cases h;obtain ⟨_,t,rfl⟩:=RD.view hu;exact .inr ⟨nofun,rfl⟩
 .cases h;obtain ⟨_,_⟩:=RD.view hu;exact .inr ⟨nofun,rfl⟩
 .cases h;obtain ⟨_,_,_⟩:=hu;exact .inr ⟨nofun,rfl⟩
noncomputable def EI:CO:=⟨.Is,Jx,fun _ _ I a b e k=>by
 obtain ⟨rfl,⟨rfl,rfl⟩|⟨hn,rfl⟩⟩:=D2 e a b
 .exact wpAny_is_self (by decide) (k.here I (.bool _))
 .exact is_none_ne hn (k.here I (.bool _))⟩
noncomputable def HZ:List Nat->Option Nat
 |[c]=>some c
 |_=>none
noncomputable def M7 (u v:D):Option Bool:=(sD u).bind fun s=>(HZ s).bind fun c=>(sD v).map fun t=>decide (c∈t)
theorem xA {u v:D} {x y:Value} {c:Bool} (h:M7 u v=some c) (hu:fx C P x u) (hv:fx C P y v):∃ a l t s,x= .str (fU [a]) t/\y= .str (fU l) s/\c=decide (a∈l):=by
 obtain ⟨s,e1,h⟩:=ao h;obtain ⟨a,e2,h⟩:=ao h;obtain ⟨l,e3,rfl⟩:=aZ h;obtain ⟨_,t1,e4⟩:=kH e1 hu;obtain ⟨_,t2,e5⟩:=kH e3 hv;obtain rfl:s=[a]:=by
  rcases s with _|⟨z,_|⟨w,y⟩⟩<;>first|(cases e2;done)|(cases e2;rfl)
 exact ⟨a,l,t1,t2,e4,e5,rfl⟩
noncomputable def Ca:CO:=⟨.In,M7,fun _ _ I a b e k=>by
 obtain ⟨i,l,t,s,rfl,rfl,rfl⟩:=xA e a b;exact in_str (by rw[StrLaws.found_one];exact k.here I (.bool _))⟩
noncomputable def EH:CO:=⟨.NotIn,fun u v=>(M7 u v).map fun c=> !c,fun _ _ I a b e k=>by
 obtain ⟨c,e',rfl⟩:=aZ e;obtain ⟨i,l,t,s,rfl,rfl,rfl⟩:=xA e' a b;exact notIn_str (by rw[StrLaws.found_one];exact k.here I (.bool _))⟩
open Classical in
noncomputable def GP (u v:D):Option Bool:=(lD v).bind fun l=>aq ((pl 8 u&&l.all (pl 8))=true) (decide (u∈l))
open Classical in
theorem xB (I:aE C P) {u v:D} {x y:Value} {c:Bool} (hu:fx C P x u) (hv:fx C P y v) (e:GP u v=some c):∃ d ds as bs,Reads P.h x d as/\Reads P.h y (.list ds) bs/\PyData.canLayAll0 ds=true/\d.canLay0=true/\PyData.depthAll ds<=9/\d.depth<=9/\(ds.any fun z=>PyData.eqv z d)=c:=by
 obtain ⟨l,e1,e⟩:=ao e;obtain ⟨h,rfl⟩:=d9 e;obtain @⟨a,vs,n,g,_,r⟩:=fN e1 hv;obtain ⟨as,a1,a2,a3⟩:=iS I 8 _ _ hu (ah h);obtain ⟨bs,b1,b2,b3⟩:=fF (fun x v r e=>iS I 8 x v (jq I r) e) r (ak h);refine ⟨_,_,as,_,a1,reads_list_at g rfl rfl (by simpa using b1),b2,a2,b3,a3,?_⟩;rw[Bool.eq_iff_iff,decide_eq_true_eq,List.any_map,List.any_eq_true];constructor
 .rintro ⟨z,hz,q⟩;exact (rU 8 z u (List.all_eq_true.mp (ak h) z hz) (ah h)).mp q ▸ hz
 .exact fun hz=>⟨u,hz,(rU 8 u u (ah h) (ah h)).mpr rfl⟩
noncomputable def Hg:CO:=⟨.In,GP,fun _ hu I a b e k=>by
 obtain ⟨d,ds,as,bs,r1,r2,h1,h2,h3,h4,rfl⟩:=xB I a b e;exact SeqAt.in_list_reads r2 r1 h1 h2 (H6 hu h3) (k.here I (.bool _))⟩
noncomputable def ol:CO:=⟨.NotIn,fun u v=>(GP u v).map fun c=> !c,fun _ hu I a b e k=>by
 obtain ⟨c,e',rfl⟩:=aZ e;obtain ⟨d,ds,as,bs,r1,r2,h1,h2,h3,h4,rfl⟩:=xB I a b e';exact SeqAt.notIn_list_reads r2 r1 h1 h2 (H6 hu h3) (k.here I (.bool _))⟩
end
noncomputable def zS (g:D->D->Option Bool) (x y:PV):PM Bool:=fun σ=>(rd σ x).bind fun u=>(rd σ y).bind fun v=>(g u v).map fun c=>(.ok c,σ)
theorem kF {K:R Bool->av->Prop} {g:D->D->Option Bool} {x y:PV} {σ:av} (h:Wp K (zS g x y σ)):∃ u v c,rd σ x=some u/\rd σ y=some v/\g u v=some c/\K (.ok c) σ:=by
 unfold zS at h;cases e1:rd σ x with
 |none=>rw[e1] at h;exact h.elim
 |some u=>
 cases e2:rd σ y with
 |none=>rw[e1,e2] at h;exact h.elim
 |some v=>
 cases e3:g u v with
 |none=>rw[e1,e2,Od,Od,e3] at h;exact h.elim
 |some z=>rw[e1,e2,Od,Od,e3] at h;exact ⟨u,v,z,rfl,rfl,e3,h⟩
noncomputable def Ni:D->Option Bool
 | .bool b=>some b
 | .none=>some false
 | .int i=>some (i !=0)
 | .str s=>some (!s.isEmpty)
 |_=>none
noncomputable def HA (v:PV):PM Bool:=DA ((n8 v).bind Ni)
noncomputable def bV (b:Bool):PV:=.d (.bool b)
section
variable {C:bq} {A:Around} {P:Pt} {E:Value->Shared->Prop} {Q:Bool->Shared->Prop}
theorem HK (I:aE C P):∀ {x:D} {v:Value} {b:Bool},RD C P.own x v->Ni x=some b->(∀ P',bv P P'->aE C P'->P'.σ=P.σ->Q b P'.s)->wpAny C.M A (truthy v) Q E P.s:=by
 intro Z0 v b r e k;cases Z0 with
 |bool c=>
  cases e;rw[show v= .bool b from r.view];exact wpAny_truthy_bool (k P (.refl P) I rfl)
 |none=>
  cases e;rw[show v= .none from r.view];exact truthy_none (k P (.refl P) I rfl)
 |int i=>
  cases e;obtain ⟨t,q⟩:∃ t,v= .int i t:=r.view;rw[q];exact truthy_int (k P (.refl P) I rfl)
 |str l=>
  cases e;obtain ⟨hx,t,q⟩:oX l/\∃ t,v= .str (fU l) t:=r.view;rw[q];have hl:=hx.2;refine PySem.P.truthy_str (by simp [Str.length,dX] at hl ⊢;exact OP.mpr (OC hl (Oj rfl))) ?_;have h:=k (P.to P.h (P.s.toks+1+1)) (.to ..) (I.to fun _ _ e=>e) rfl;rw[show ((Str.length (fU l):Int) !=0)= !l.isEmpty by cases l<;>simp [Str.length];exact K4];exact h
 |_=>cases e
theorem rW {x:D} {v:Value}:∀ {p:PV},n8 p=some x->RV C P v p->RD C P.own x v
 | .d _,e,r=>by cases e;exact r
theorem uP {K:R Bool->av->Prop} {v:Value} {p:PV} (I:aE C P) (r:RV C P v p) (w:Wp K (HA p P.σ)) (h:dt C A oP P K Q E):wpAny C.M A (truthy v) Q E P.s:=by
 refine aW fun G9 k9=> ?_;obtain ⟨b,e,k⟩:=gw w;obtain ⟨x,e1,e2⟩:=ao e;refine k9 ?_;exact HK I (rW e1 r) e2 fun P' g I' e=>h.ok b b P' g I' rfl (e ▸ k)
theorem k_ {u v:D} {x y:Value} {c:Bool} (o:CO) (G:eA C) (hu:A.units+64<cLine) (I:aE C P) (a:fx C P x u) (b:fx C P y v) (e:o.g u v=some c) (k:∀ P',bv P P'->aE C P'->P'.σ=P.σ->Q c P'.s):
  wpAny C.M A (compareOp o.op x y) (fun z s=>wpAny C.M A (truthy z) Q E s) E P.s:=
 o.ok G hu I a b e fun z P' g I' r e'=>by
  rw[show z= .bool c from r.view];exact wpAny_truthy_bool (k P' g I' e')
end
theorem dt.bindB {α β:Type} {C:bq} {A:Around} {Rel:Pt->β->α->Prop} {P:Pt} {K:R α->av->Prop} {Q:β->Shared->Prop} {E:Value->Shared->Prop} {f:Bool->PM α} {Q':Bool->Shared->Prop} (h:dt C A Rel P K Q E) (k:∀ b P',bv P P'->aE C P'->Wp K (f b P'.σ)->dt C A Rel P' K Q E->Q' b P'.s):dt C A oP P (bK K f) Q' E:=
 ⟨fun p v P' g i r w=>(show v=p from r) ▸ k p P' g i w (h.mono g),h.ex⟩
section
variable {X:Cx} {e:Expr} {ρ:a9} {P:Pt} {K:R PV->av->Prop} {KB:R Bool->av->Prop} {QB:Bool->Shared->Prop} {Q E:Value->Shared->Prop}
theorem Cx.lt (X:Cx):X.A.units+64<cLine:=K3 X.uni
theorem Hb (o:CO) (a b:CE) (h:uD (fun l op r=>op==o.op&&behindInMarks op r==false&&a.is X.sx l&&b.is X.sx r) e=true) (I:aE X.C P) (G:EnvOK X P ρ) (w:Wp K (bz (a.ev X.ker ρ) (fun x=>bz (b.ev X.ker ρ) fun y=>bz (zS o.g x y) fun c=>ret (bV c)) P.σ)) (p:bg X (RV X.C) P K Q E):
  wpAny X.M X.A (eval e X.env) Q E P.s:=
 oG (fun e=>wpAny X.M X.A (eval e X.env) Q E P.s) h fun l op r pos h=>wpAny_Compare1 (a.ok X l ρ P _ _ E (ak (ah h)) I G (aH w) (p.bind fun x v P1 g1 I1 r1 w p=>
  b.ok X r ρ P1 _ _ E (ak h) I1 (G.ext g1) (aH w) (p.bind fun y u P2 g2 I2 r2 w p=>by
   refine aW fun G9 k9=> ?_;obtain ⟨i,j,z,e1,e2,e3,k⟩:=kF (aH w);refine k9 ?_;rw[bu (ah (ah (ah h)))];exact o.ok X.good X.lt I2 (bG I2 (r1.ext g2.toExt) e1) (bG I2 r2 e2) e3 (p.fin k)))) (bu (ak (ah (ah h))))
theorem C8 (o:CO) (a b:CE) (h:uD (fun l op r=>op==o.op&&behindInMarks op r==false&&a.is X.sx l&&b.is X.sx r) e=true) (I:aE X.C P) (G:EnvOK X P ρ) (w:Wp KB (bz (a.ev X.ker ρ) (fun x=>bz (b.ev X.ker ρ) fun y=>zS o.g x y) P.σ)) (p:bg X oP P KB QB E):
  wpAny X.M X.A (isTrue e X.env (eval e X.env)) QB E P.s:=
 oG (fun e=>wpAny X.M X.A (isTrue e X.env (eval e X.env)) QB E P.s) h fun l op r pos h=>wpAny_isTrue_Compare1 (a.ok X l ρ P _ _ E (ak (ah h)) I G (aH w) (p.bind fun x v P1 g1 I1 r1 w p=>
  b.ok X r ρ P1 _ _ E (ak h) I1 (G.ext g1) (aH w) (p.bind fun y u P2 g2 I2 r2 w p=>by
   refine aW fun G9 k9=> ?_;obtain ⟨i,j,z,e1,e2,e3,k⟩:=kF w;refine k9 ?_;rw[bu (ah (ah (ah h)))];exact k_ o X.good X.lt I2 (bG I2 (r1.ext g2.toExt) e1) (bG I2 r2 e2) e3 fun P' g I' e=>p.ok z z P' g I' rfl (e ▸ k)))) (bu (ak (ah (ah h))))
noncomputable def Na (m:PM PV) (g1 g2:D->D->Option Bool) (x y:PV):PM PV:=bz (zS g1 x y) fun c=>if c then bz m fun z=>bz (zS g2 y z) fun c=>ret (bV c) else ret (bV false)
theorem EB (o q:CO) (a b c:CE) (h:oH (fun l o1 o2 r s=>o1==o.op&&o2==q.op&&lastMarks [o1,o2] [r,s]==false&&a.is X.sx l&&b.is X.sx r&&c.is X.sx s) e=true) (I:aE X.C P) (G:EnvOK X P ρ) (w:Wp K (bz (a.ev X.ker ρ) (fun x=>bz (b.ev X.ker ρ) fun y=>Na (c.ev X.ker ρ) o.g q.g x y) P.σ)) (p:bg X (RV X.C) P K Q E):
  wpAny X.M X.A (eval e X.env) Q E P.s:=
 lT (fun e=>wpAny X.M X.A (eval e X.env) Q E P.s) h fun l o1 o2 r s pos h=>Compare_chain (a.ok X l ρ P _ _ E (ak (ah (ah h))) I G (aH w) (p.bind fun x v P1 g1 I1 r1 w p=>
  chain_link (b.ok X r ρ P1 _ _ E (ak (ah h)) I1 (G.ext g1) (aH w) (p.bind fun y u P2 g2 I2 r2 w p=>by
   refine aW fun G9 k9=> ?_;obtain ⟨i,j,z,e1,e2,e3,k⟩:=kF (aH w);refine k9 ?_;rw[bu (ah (ah (ah (ah (ah h)))))];refine o.ok X.good X.lt I2 (bG I2 (r1.ext g2.toExt) e1) (bG I2 r2 e2) e3 fun t P3 g3 I3 r3 e'=> ?_;rw[show t= .bool z from r3.view];refine wpAny_truthy_bool ?_;have k:=e' ▸ k;cases z with
   |false=>exact ((p.mono g3).fin k).here I3 (.bool _)
   |true=>
    refine chain_last (c.ok X s ρ P3 _ _ E (ak h) I3 ((G.ext g1).ext (g2.trans g3)) (aH k) ((p.mono g3).bind fun t' v' P4 g4 I4 r4 w p=> ?_));refine aW fun G9 k9=> ?_;obtain ⟨i',j',z',f1,f2,f3,k⟩:=kF (aH w);refine k9 ?_;rw[bu (ak (ah (ah (ah (ah h)))))];exact q.ok X.good X.lt I4 (bG I4 (r2.ext (g3.trans g4).toExt) f1) (bG I4 r4 f2) f3 (p.fin k))))) (bu (ak (ah (ah (ah h)))))
theorem yn {M:Model} {A:Around} {E:Value->Shared->Prop} {s:Shared} {pos:Pos} {a:Value} {op op':CmpOp} {ops:List CmpOp} {r r':Sem Value} {rs:List (Sem Value)} {Q:Bool->Shared->Prop}
  (h:wpAny M A r (fun b s₁=>wpAny M A (compareOp op a b) (fun c s₂=>wpAny M A (PySem.truthy c)
   (fun t s₃=>if t then wpAny M A (testChain pos b (op'::ops) (r'::rs)) Q E s₃ else Q false s₃) E s₂) E s₁) E s):
  wpAny M A (testChain pos a (op::op'::ops) (r::r'::rs)) Q E s:=by
 show wpAny M A (do
  let rv<-holding [a] r
  standAt pos
  let c<-holding [a,rv] (compareOp op a rv)
  release [a,rv] [c]
  if<-holding [c,rv] (PySem.truthy c) then testChain pos rv (op'::ops) (r'::rs) else pure false) Q E s
 refine Op (wpAny_holding (wpAny_mono h (fun b s₁ h₁=>Op (wpAny_standAt (Op (wpAny_holding (wpAny_mono h₁ (fun c s₂ h₂=>
  Op (wpAny_release' (Op (wpAny_holding (wpAny_mono h₂ (fun t s₃ h₃=> ?_) fun _ _ x=>x))))) fun _ _ x=>x))))) fun _ _ x=>x))
 cases t with
 |false=>exact Oq h₃
 |true=>exact h₃
theorem yo {M:Model} {A:Around} {E:Value->Shared->Prop} {s:Shared} {pos:Pos} {a:Value} {op:CmpOp} {r:Sem Value} {Q:Bool->Shared->Prop}
  (h:wpAny M A r (fun b s₁=>wpAny M A (compareOp op a b) (fun c s₂=>wpAny M A (PySem.truthy c) Q E s₂) E s₁) E s):wpAny M A (testChain pos a [op] [r]) Q E s:=by
 show wpAny M A (do
  let rv<-holding [a] r
  standAt pos
  let c<-operate [a,rv] (compareOp op a rv)
  holding [c] (PySem.truthy c)) Q E s
 exact Op (wpAny_holding (wpAny_mono h (fun b s₁ h₁=>Op (wpAny_standAt (Op (wpAny_operate' (wpAny_mono h₁ (fun c s₂ h₂=>wpAny_holding h₂) fun _ _ x=>x))))) fun _ _ x=>x))
noncomputable def HM (m:PM PV) (g1 g2:D->D->Option Bool) (x y:PV):PM Bool:=bz (zS g1 x y) fun c=>if c then bz m fun z=>zS g2 y z else ret false
theorem Ab (o q:CO) (a b c:CE) (h:oH (fun l o1 o2 r s=>o1==o.op&&o2==q.op&&lastMarks [o1,o2] [r,s]==false&&a.is X.sx l&&b.is X.sx r&&c.is X.sx s) e=true) (I:aE X.C P) (G:EnvOK X P ρ) (w:Wp KB (bz (a.ev X.ker ρ) (fun x=>bz (b.ev X.ker ρ) fun y=>HM (c.ev X.ker ρ) o.g q.g x y) P.σ)) (p:bg X oP P KB QB E):
  wpAny X.M X.A (isTrue e X.env (eval e X.env)) QB E P.s:=
 lT (fun e=>wpAny X.M X.A (isTrue e X.env (eval e X.env)) QB E P.s) h fun l o1 o2 r s pos h=>isTrue_chain (a.ok X l ρ P _ _ E (ak (ah (ah h))) I G (aH w) (p.bind fun x v P1 g1 I1 r1 w p=>
  yn (b.ok X r ρ P1 _ _ E (ak (ah h)) I1 (G.ext g1) (aH w) (p.bind fun y u P2 g2 I2 r2 w p=>by
   refine aW fun G9 k9=> ?_;obtain ⟨i,j,z,e1,e2,e3,k⟩:=kF (aH w);refine k9 ?_;rw[bu (ah (ah (ah (ah (ah h)))))];refine k_ o X.good X.lt I2 (bG I2 (r1.ext g2.toExt) e1) (bG I2 r2 e2) e3 fun P3 g3 I3 e'=> ?_;have k:=e' ▸ k;cases z with
   |false=>exact (p.mono g3).here I3 rfl k
   |true=>
    refine yo (c.ok X s ρ P3 _ _ E (ak h) I3 ((G.ext g1).ext (g2.trans g3)) (aH k) ((p.mono g3).bind fun t' v' P4 g4 I4 r4 w p=> ?_));refine aW fun G9 k9=> ?_;obtain ⟨i',j',z',f1,f2,f3,k⟩:=kF w;refine k9 ?_;rw[bu (ak (ah (ah (ah (ah h)))))];exact k_ q X.good X.lt I4 (bG I4 (r2.ext (g3.trans g4).toExt) f1) (bG I4 r4 f2) f3 fun P' g I' e=>p.ok z' z' P' g I' rfl (e ▸ k))))) (bu (ak (ah (ah (ah h)))))
theorem Gh (a:CE) (h:dA (fun o x _=>E5 false o&&a.is X.sx x) e=true) (I:aE X.C P) (G:EnvOK X P ρ) (w:Wp K (bz (a.ev X.ker ρ) (fun x=>bz (DA ((n8 x).bind iD)) fun i=>ret (.d (.int (-i)))) P.σ)) (p:bg X (RV X.C) P K Q E):wpAny X.M X.A (eval e X.env) Q E P.s:=
 fo (fun e=>wpAny X.M X.A (eval e X.env) Q E P.s) h fun o x pos h=>C0 (fun o=>wpAny X.M X.A (eval (.UnaryOp o x pos) X.env) Q E P.s) (ah h) (wpAny_UnaryOp (a.ok X x ρ P _ _ E (ak h) I G (aH w) (p.bind fun y v P1 g1 I1 r1 w p=>by
  refine aW fun G9 k9=> ?_;obtain ⟨i,e1,k⟩:=gw (aH w);obtain ⟨z,e2,e3⟩:=ao e1;obtain ⟨t,q⟩:=dM e3 (jq I1 (rW e2 r1));refine k9 ?_;rw[q];exact neg_int ((p.fin k).tok I1 (.int _ _) _))))
theorem F9 (a:CE) (h:dA (fun o x _=>E5 true o&&a.is X.sx x) e=true) (I:aE X.C P) (G:EnvOK X P ρ) (w:Wp K (bz (a.ev X.ker ρ) (fun x=>bz (HA x) fun b=>ret (bV !b)) P.σ)) (p:bg X (RV X.C) P K Q E):wpAny X.M X.A (eval e X.env) Q E P.s:=
 fo (fun e=>wpAny X.M X.A (eval e X.env) Q E P.s) h fun o x pos h=>wJ (fun o=>wpAny X.M X.A (eval (.UnaryOp o x pos) X.env) Q E P.s) (ah h) (wpAny_UnaryOp (a.ok X x ρ P _ _ E (ak h) I G (aH w) (p.bind fun y v P1 g1 I1 r1 w p=>
  not_of (uP I1 r1 (aH w) ⟨fun b c P2 g2 I2 e k=>p.ok (bV !b) _ P2 g2 I2 (by rw[show c=b from e];exact .bool _) k,p.ex⟩))))
theorem C6 (a:CT) (h:dA (fun o x _=>E5 true o&&a.is X.sx x) e=true) (I:aE X.C P) (G:EnvOK X P ρ) (w:Wp KB (bz (a.ts X.ker ρ) (fun b=>ret !b) P.σ)) (p:bg X oP P KB QB E):wpAny X.M X.A (isTrue e X.env (eval e X.env)) QB E P.s:=
 fo (fun e=>wpAny X.M X.A (isTrue e X.env (eval e X.env)) QB E P.s) h fun o x pos h=>wJ (fun o=>wpAny X.M X.A (isTrue (.UnaryOp o x pos) X.env (eval (.UnaryOp o x pos) X.env)) QB E P.s) (ah h)
  (isTrue_not (a.ok X x ρ P _ _ E (ak h) I G (aH w) ⟨fun b c P2 g2 I2 e k=>p.ok (!b) (!c) P2 g2 I2 (congrArg _ e) k,p.ex⟩))
theorem GC (t:CT) (a b:CE) (h:mR (fun te ae be _=>t.is X.sx te&&a.is X.sx ae&&b.is X.sx be) e=true) (I:aE X.C P) (G:EnvOK X P ρ) (w:Wp K (bz (t.ts X.ker ρ) (fun c=>if c then a.ev X.ker ρ else b.ev X.ker ρ) P.σ)) (p:bg X (RV X.C) P K Q E):We X e Q E P:=
 sj (fun e=>We X e Q E P) h fun te ae be pos h=>IfExp_ (t.ok X te ρ P _ _ E (ah (ah h)) I G (aH w) (p.bindB fun c P1 g1 I1 w p=>by
  cases c with
  |true=>exact a.ok X ae ρ P1 _ _ E (ak (ah h)) I1 (G.ext g1) w p
  |false=>exact b.ok X be ρ P1 _ _ E (ak h) I1 (G.ext g1) w p))
end
noncomputable def AF (e:Expr):Bool:=e.ctorIdx==16||e.ctorIdx==19||e.ctorIdx==20||e.ctorIdx==21||e.ctorIdx==23
theorem yG {e:Expr} (h:AF e=true) (env:Env) (whole:Sem Value):isTrue e env whole=(do let v<-whole;standAt e.pos;holding [v] (PySem.truthy v)):=by
 cases e<;>first|rfl|(cases h;done)
noncomputable def ss (o:CO) (a b:CE):CE:=⟨fun K ρ=>bz (a.ev K ρ) fun x=>bz (b.ev K ρ) fun y=>bz (zS o.g x y) fun c=>ret (bV c),fun s=>uD fun l op r=>op==o.op&&behindInMarks op r==false&&a.is s l&&b.is s r,fun _ _ _ _ _ _ _ h I G w p=>Hb o a b h I G w p⟩
noncomputable def aO (o:CO) (a b:CE):CT:=⟨fun K ρ=>bz (a.ev K ρ) fun x=>bz (b.ev K ρ) fun y=>zS o.g x y,fun s=>uD fun l op r=>op==o.op&&behindInMarks op r==false&&a.is s l&&b.is s r,fun _ _ _ _ _ _ _ h I G w p=>C8 o a b h I G w p⟩
noncomputable def EC (o q:CO) (a b c:CE):CE:=⟨fun K ρ=>bz (a.ev K ρ) fun x=>bz (b.ev K ρ) fun y=>Na (c.ev K ρ) o.g q.g x y,fun s=>oH fun l o1 o2 r t=>o1==o.op&&o2==q.op&&lastMarks [o1,o2] [r,t]==false&&a.is s l&&b.is s r&&c.is s t,fun _ _ _ _ _ _ _ h I G w p=>EB o q a b c h I G w p⟩
noncomputable def lx (o q:CO) (a b c:CE):CT:=⟨fun K ρ=>bz (a.ev K ρ) fun x=>bz (b.ev K ρ) fun y=>HM (c.ev K ρ) o.g q.g x y,fun s=>oH fun l o1 o2 r t=>o1==o.op&&o2==q.op&&lastMarks [o1,o2] [r,t]==false&&a.is s l&&b.is s r&&c.is s t,fun _ _ _ _ _ _ _ h I G w p=>Ab o q a b c h I G w p⟩
noncomputable def neg (a:CE):CE:=⟨fun K ρ=>bz (a.ev K ρ) fun x=>bz (DA ((n8 x).bind iD)) fun i=>ret (.d (.int (-i))),fun s=>dA fun o x _=>E5 false o&&a.is s x,fun _ _ _ _ _ _ _ h I G w p=>Gh a h I G w p⟩
noncomputable def M2 (a:CE):CE:=⟨fun K ρ=>bz (a.ev K ρ) fun x=>bz (HA x) fun b=>ret (bV !b),fun s=>dA fun o x _=>E5 true o&&a.is s x,fun _ _ _ _ _ _ _ h I G w p=>F9 a h I G w p⟩
noncomputable def dD (a:CT):CT:=⟨fun K ρ=>bz (a.ts K ρ) fun b=>ret !b,fun s=>dA fun o x _=>E5 true o&&a.is s x,fun _ _ _ _ _ _ _ h I G w p=>C6 a h I G w p⟩
noncomputable def zm (t:CT) (a b:CE):CE:=⟨fun K ρ=>bz (t.ts K ρ) fun c=>if c then a.ev K ρ else b.ev K ρ,fun s=>mR fun te ae be _=>t.is s te&&a.is s ae&&b.is s be,fun _ _ _ _ _ _ _ h I G w p=>GC t a b h I G w p⟩
noncomputable def lu (a:CE):CT:=⟨fun K ρ=>bz (a.ev K ρ) HA,fun s e=>AF e&&a.is s e,fun X e ρ P K Q E h I G w p=>isTrue_plain (a.ok X e ρ P _ _ E (ak h) I G (aH w) (p.bind fun y v P1 g1 I1 r1 w p=>uP I1 r1 w p)) (yG (ah h) _ _)⟩
structure CA where
 ev:cP->a9->PM PV
 is:Sx->List Expr->Bool
 ok:∀ (X:Cx) (es:List Expr) (pos:Pos) (ρ:a9) (P:Pt) (K:R PV->av->Prop) (Q E:Value->Shared->Prop),is X.sx es=true->aE X.C P->EnvOK X P ρ->Wp K (ev X.ker ρ P.σ)->bg X (RV X.C) P K Q E->wpAny X.M X.A (eval (.BoolOp .And es pos) X.env) Q E P.s
structure uN (op:BoolOp) where
 ts:cP->a9->PM Bool
 is:Sx->List Expr->Bool
 ok:∀ (X:Cx) (es:List Expr) (pos:Pos) (whole:Sem Value) (ρ:a9) (P:Pt) (K:R Bool->av->Prop) (Q:Bool->Shared->Prop) (E:Value->Shared->Prop),is X.sx es=true->aE X.C P->EnvOK X P ρ->Wp K (ts X.ker ρ P.σ)->bg X oP P K Q E->wpAny X.M X.A (isTrue (.BoolOp op es pos) X.env whole) Q E P.s
noncomputable def iw {α:Type} (f:α->Bool) (g:List α->Bool):List α->Bool
 |a::r=>f a&&g r
 |[]=>false
theorem c9 {α:Type} (q:List α->Prop) {f:α->Bool} {g:List α->Bool}:∀ {l:List α},iw f g l=true->(∀ a r,f a=true->g r=true->q (a::r))->q l
 |a::r,h,k=>k a r (ah h) (ak h)
 |[],h,_=>nomatch h
noncomputable def Bt {α:Type} (f:α->Bool) (g:List α->Bool):List α->Bool
 |a::b::r=>f a&&g (b::r)
 |_=>false
theorem v0 {α:Type} (q:List α->Prop) {f:α->Bool} {g:List α->Bool}:∀ {l:List α},Bt f g l=true->(∀ a b r,f a=true->g (b::r)=true->q (a::b::r))->q l
 |a::b::r,h,k=>k a b r (ah h) (ak h)
 |[],h,_=>nomatch h
 |[_],h,_=>nomatch h
section
variable {X:Cx} {es:List Expr} {pos:Pos} {whole:Sem Value} {ρ:a9} {P:Pt} {K:R PV->av->Prop} {KB:R Bool->av->Prop} {QB:Bool->Shared->Prop} {Q E:Value->Shared->Prop}
theorem ET (a:CE) (l:CA) (h:Bt (a.is X.sx) (l.is X.sx) es=true) (I:aE X.C P) (G:EnvOK X P ρ) (w:Wp K (bz (a.ev X.ker ρ) (fun x=>bz (HA x) fun b=>if b then l.ev X.ker ρ else ret x) P.σ)) (p:bg X (RV X.C) P K Q E):wpAny X.M X.A (eval (.BoolOp .And es pos) X.env) Q E P.s:=
 v0 (fun es=>wpAny X.M X.A (eval (.BoolOp .And es pos) X.env) Q E P.s) h fun e e2 r h1 h2=>BoolOp_and (a.ok X e ρ P _ _ E h1 I G (aH w) (p.bind fun x v P1 g1 I1 r1 w p=>
  uP I1 r1 (aH w) (p.bindB fun c P2 g2 I2 w p=>by
   cases c with
   |true=>exact l.ok X _ pos ρ P2 _ _ E h2 I2 (G.ext (g1.trans g2)) w p
   |false=>exact p.here I2 (r1.ext g2.toExt) w)))
theorem Ac (a:CT) (l:uN .And) (h:iw (a.is X.sx) (l.is X.sx) es=true) (I:aE X.C P) (G:EnvOK X P ρ) (w:Wp KB (bz (a.ts X.ker ρ) (fun b=>if b then l.ts X.ker ρ else ret false) P.σ)) (p:bg X oP P KB QB E):wpAny X.M X.A (isTrue (.BoolOp .And es pos) X.env whole) QB E P.s:=
 c9 (fun es=>wpAny X.M X.A (isTrue (.BoolOp .And es pos) X.env whole) QB E P.s) h fun e r h1 h2=>isTrue_and (a.ok X e ρ P _ _ E h1 I G (aH w) (p.bindB fun c P1 g1 I1 w p=>by
  cases c with
  |true=>exact l.ok X _ pos whole ρ P1 _ _ E h2 I1 (G.ext g1) w p
  |false=>exact p.here I1 rfl w))
theorem C5 (a:CT) (l:uN .Or) (h:iw (a.is X.sx) (l.is X.sx) es=true) (I:aE X.C P) (G:EnvOK X P ρ) (w:Wp KB (bz (a.ts X.ker ρ) (fun b=>if b then ret true else l.ts X.ker ρ) P.σ)) (p:bg X oP P KB QB E):wpAny X.M X.A (isTrue (.BoolOp .Or es pos) X.env whole) QB E P.s:=
 c9 (fun es=>wpAny X.M X.A (isTrue (.BoolOp .Or es pos) X.env whole) QB E P.s) h fun e r h1 h2=>isTrue_or (a.ok X e ρ P _ _ E h1 I G (aH w) (p.bindB fun c P1 g1 I1 w p=>by
  cases c with
  |false=>exact l.ok X _ pos whole ρ P1 _ _ E h2 I1 (G.ext g1) w p
  |true=>exact p.here I1 rfl w))
end
noncomputable def Cs (a:CE):CA:=⟨a.ev,fun s=>one (a.is s),fun X es pos ρ P K Q E h I G w p=>dj (fun es=>wpAny X.M X.A (eval (.BoolOp .And es pos) X.env) Q E P.s) h fun e h=>BoolOp_one (a.ok X e ρ P K Q E h I G w p)⟩
noncomputable def Ct (a:CE) (l:CA):CA:=⟨fun K ρ=>bz (a.ev K ρ) fun x=>bz (HA x) fun b=>if b then l.ev K ρ else ret x,fun s=>Bt (a.is s) (l.is s),fun _ _ _ _ _ _ _ _ h I G w p=>ET a l h I G w p⟩
noncomputable def Cv (l:CA):CE:=⟨l.ev,fun s=>iJ fun o es _=>JV true o&&l.is s es,fun X e ρ P K Q E h I G w p=>fP (fun e=>We X e Q E P) h fun o es pos h=>ya (fun o=>wpAny X.M X.A (eval (.BoolOp o es pos) X.env) Q E P.s) (ah h) (l.ok X es pos ρ P K Q E (ak h) I G w p)⟩
noncomputable def h_:uN .And:=⟨fun _ _=>ret true,fun _ es=>es.isEmpty,fun X es pos whole ρ P K Q E h I G w p=>bJ (fun es=>wpAny X.M X.A (isTrue (.BoolOp .And es pos) X.env whole) Q E P.s) h (isTrue_and_nil (p.here I rfl w))⟩
noncomputable def cE (a:CT) (l:uN .And):uN .And:=⟨fun K ρ=>bz (a.ts K ρ) fun b=>if b then l.ts K ρ else ret false,fun s=>iw (a.is s) (l.is s),fun _ _ _ _ _ _ _ _ _ h I G w p=>Ac a l h I G w p⟩
noncomputable def e_:uN .Or:=⟨fun _ _=>ret false,fun _ es=>es.isEmpty,fun X es pos whole ρ P K Q E h I G w p=>bJ (fun es=>wpAny X.M X.A (isTrue (.BoolOp .Or es pos) X.env whole) Q E P.s) h (isTrue_or_nil (p.here I rfl w))⟩
noncomputable def bH (a:CT) (l:uN .Or):uN .Or:=⟨fun K ρ=>bz (a.ts K ρ) fun b=>if b then ret true else l.ts K ρ,fun s=>iw (a.is s) (l.is s),fun _ _ _ _ _ _ _ _ _ h I G w p=>C5 a l h I G w p⟩
noncomputable def lW (l:uN .And):CT:=⟨l.ts,fun s=>iJ fun o es _=>JV true o&&l.is s es,fun X e ρ P K Q E h I G w p=>fP (fun e=>wpAny X.M X.A (isTrue e X.env (eval e X.env)) Q E P.s) h fun o es pos h=>ya (fun o=>wpAny X.M X.A (isTrue (.BoolOp o es pos) X.env (eval (.BoolOp o es pos) X.env)) Q E P.s) (ah h) (l.ok X es pos _ ρ P K Q E (ak h) I G w p)⟩
noncomputable def mw (l:uN .Or):CT:=⟨l.ts,fun s=>iJ fun o es _=>JV false o&&l.is s es,fun X e ρ P K Q E h I G w p=>fP (fun e=>wpAny X.M X.A (isTrue e X.env (eval e X.env)) Q E P.s) h fun o es pos h=>Hm (fun o=>wpAny X.M X.A (isTrue (.BoolOp o es pos) X.env (eval (.BoolOp o es pos) X.env)) Q E P.s) (ah h) (l.ok X es pos _ ρ P K Q E (ak h) I G w p)⟩
theorem de {α:Type} {q:α->Prop}:∀ p∈([]:List α),q p:=fun _ h=>absurd h Oy
theorem cQ {env:Env} {e:Expr} {es:List Expr} (h:gA e=true):starEach (e::es) env=(false,eval e env)::starEach es env:=by
 cases e<;>first|rfl|(cases h;done)
section
variable {X:Cx} {es:List Expr} {pos:Pos} {ρ:a9} {P:Pt} {K:R (List PV)->av->Prop} {Q:List Value->Shared->Prop} {E:Value->Shared->Prop}
theorem Hc (a:CE) (l:CL) (h:iw (fun e=>gA e&&a.is X.sx e) (l.is X.sx) es=true) (I:aE X.C P) (G:EnvOK X P ρ) (w:Wp K (bz (a.ev X.ker ρ) (fun x=>bz (l.ev X.ker ρ) fun xs=>ret (x::xs)) P.σ)) (p:bg X (J5 X.C) P K Q E):
  wpAny X.M X.A (spliced (backTo pos (starEach es X.env))) Q E P.s:=
 c9 (fun es=>wpAny X.M X.A (spliced (backTo pos (starEach es X.env))) Q E P.s) h fun e r h1 h2=>by
  rw[cQ (ah h1)];exact Calls.spliced_cons (a.ok X e ρ P _ _ E (ak h1) I G (aH w) (p.bind fun x v P1 g1 I1 r1 w p=>
   l.ok X r pos ρ P1 _ _ E h2 I1 (G.ext g1) (aH w) ⟨fun xs vs P2 g2 I2 r2 k=>p.ok (x::xs) (v::vs) P2 g2 I2 (.cons (r1.ext g2.toExt) r2) k,p.ex⟩))
theorem B6 (a:CE) (l:CL) (sx:Sx) (es:List Expr) (env:Env) (pos:Pos) (h:iw (fun e=>gA e&&a.is sx e) (l.is sx) es=true):∀ x∈backTo pos (starEach es env),x.1=false:=
 c9 (fun es=>∀ x∈backTo pos (starEach es env),x.1=false) h fun e r h1 h2 x hx=>by
  rw[cQ (ah h1)] at hx;rcases Oe.mp hx with q|q
  .rw[q]
  .exact l.star sx r env pos h2 x q
end
noncomputable def au:CL:=⟨fun _ _=>ret [],fun _ es=>es.isEmpty,fun sx es env pos h=>bJ (fun es=>∀ x∈backTo pos (starEach es env),x.1=false) h de,fun X es pos ρ P K Q E h I G w p=>bJ (fun es=>wpAny X.M X.A (spliced (backTo pos (starEach es X.env))) Q E P.s) h (Calls.spliced_nil (p.here I .nil w))⟩
noncomputable def aj (a:CE) (l:CL):CL:=⟨fun K ρ=>bz (a.ev K ρ) fun x=>bz (l.ev K ρ) fun xs=>ret (x::xs),fun s=>iw (fun e=>gA e&&a.is s e) (l.is s),B6 a l,fun _ _ _ _ _ _ _ _ h I G w p=>Hc a l h I G w p⟩
section
variable {C:bq} {A:Around} {P:Pt} {Q E:Value->Shared->Prop}
theorem BS:∀ {ps:List PV} {vs:List Value} {ds:List D},jI C P ps vs->pC ps=some ds->RDs C P.own ds vs:=by
 intro ps
 induction ps with
 |nil=>
  intro vs _ h e;cases e;cases h;exact .nil
 |cons p ps ih=>
  intro vs _ h e;cases h with
  |cons h r=>
  obtain ⟨x,e1,e⟩:=ao e;obtain ⟨xs,e2,rfl⟩:=aZ e;exact .cons (rW e1 h) (ih r e2)
noncomputable def sF (mk:List D->PV) (ps:List PV):PM PV:=DA ((pC ps).bind fun ds=>aq (ds.length<=1000) (mk ds))
theorem qG {vs:List Value} {ds:List D} {w:bp} (r:RDs C w ds vs) (h:ds.length<=1000):vs.toArray.size<=sizeLine:=by
 rw[Oz,r.length];exact Om h (by decide)
theorem yK {K:R PV->av->Prop} {ps:List PV} {vs:List Value} (I:aE C P) (r:jI C P ps vs) (w:Wp K (sF (fun ds=>.d (.tup ds)) ps P.σ)) (p:dt C A (RV C) P K Q E):wpAny C.M A (newTuple vs) Q E P.s:=by
 obtain ⟨v,e,k⟩:=gw w;obtain ⟨ds,e1,e⟩:=ao e;obtain ⟨hl,e⟩:=d9 e;have r:=BS r e1;subst e;exact wpAny_newObj_type ((p.fin k).note I (I.newTup vs 0) P.s.toks (qL I (I.off (Oo _)) r rfl)) (qG r hl)
theorem yO {K:R PV->av->Prop} {ps:List PV} {vs:List Value} (I:aE C P) (r:jI C P ps vs) (w:Wp K (sF (fun ds=>.d (.lst ds)) ps P.σ)) (p:dt C A (RV C) P K Q E):wpAny C.M A (newList vs) Q E P.s:=by
 obtain ⟨v,e,k⟩:=gw w;obtain ⟨ds,e1,e⟩:=ao e;obtain ⟨hl,e⟩:=d9 e;have r:=BS r e1;subst e;exact wpAny_newObj_type ((p.fin k).note I (I.push (o:=aJ vs 0) rfl) P.s.toks (kI I (I.off (Oo _)) r rfl)) (qG r hl)
theorem dt.make {K:R PV->av->Prop} {f:cb} {h':Heap} {a:Addr} {o:Obj} {t:Nat} (p:dt C A (RV C) P K Q E) (I:aE C P) (n:sv C P h' a o) (r:RF C (fQ P.own a (.cell P.σ.length 0)) o f) (k:K (.ok (.p P.σ.length 0)) (P.σ++[.fld f])):Q (.ref a) {P.s with heap:=h',toks:=t}:=
 p.ok (.p P.σ.length 0) _ (P.make h' t a (.fld f)) (.make n.own) (I.make rfl n ⟨_,.mk (bl _ _ _) n.at_ r⟩) (I.rvMake rfl) k
noncomputable def M4 (ps:List PV):PM PV:=bz (DA ((pC ps).bind fun ds=>aq (ds.length<=1000) ds)) fun ds=>g8 (.fld (.list ds))
theorem yM {K:R PV->av->Prop} {ps:List PV} {vs:List Value} (I:aE C P) (r:jI C P ps vs) (w:Wp K (M4 ps P.σ)) (p:dt C A (RV C) P K Q E):wpAny C.M A (newList vs) Q E P.s:=by
 obtain ⟨ds,e,k⟩:=gw (aH w);obtain ⟨ds',e1,e⟩:=ao e;obtain ⟨hl,e⟩:=d9 e;cases e;have r:=BS r e1;have hn:=I.push (o:=aJ vs 0) rfl;exact wpAny_newObj_type (p.make (f:=.list ds) (t:=P.s.toks) I hn ⟨vs,0,rfl,r.ext (dg hn.own)⟩ k) (qG r hl)
end
section
variable {X:Cx} {e:Expr} {ρ:a9} {P:Pt} {K:R PV->av->Prop} {Q E:Value->Shared->Prop}
theorem FF (l:CL) (h:iX (fun es _ _=>l.is X.sx es) e=true) (I:aE X.C P) (G:EnvOK X P ρ) (w:Wp K (bz (l.ev X.ker ρ) (sF fun ds=>.d (.tup ds)) P.σ)) (p:bg X (RV X.C) P K Q E):We X e Q E P:=
 km (fun e=>We X e Q E P) h fun es k pos h=>Tuple_ (l.ok X es pos ρ P _ _ E h I G (aH w) (p.bind fun xs vs P1 g1 I1 r1 w p=>yK I1 r1 w p))
theorem Gp (l:CL) (h:lh (fun es _=>l.is X.sx es) e=true) (I:aE X.C P) (G:EnvOK X P ρ) (w:Wp K (bz (l.ev X.ker ρ) (sF fun ds=>.d (.lst ds)) P.σ)) (p:bg X (RV X.C) P K Q E):We X e Q E P:=
 lS (fun e=>We X e Q E P) h fun es pos h=>List_ (l.ok X es pos ρ P _ _ E h I G (aH w) (p.bind fun xs vs P1 g1 I1 r1 w p=>yO I1 r1 w p))
theorem DF (l:CL) (h:lh (fun es _=>l.is X.sx es) e=true) (I:aE X.C P) (G:EnvOK X P ρ) (w:Wp K (bz (l.ev X.ker ρ) M4 P.σ)) (p:bg X (RV X.C) P K Q E):We X e Q E P:=
 lS (fun e=>We X e Q E P) h fun es pos h=>List_ (l.ok X es pos ρ P _ _ E h I G (aH w) (p.bind fun xs vs P1 g1 I1 r1 w p=>yM I1 r1 w p))
noncomputable abbrev rV:Obj:={cls:=.type "dict",data:=.dict #[]}
theorem xX {C:bq} {w:bp}:fq C w rV [] []:=.mk _ [] .str ⟨#[],0,⟨rfl,rfl,rfl⟩,rfl,fun _ he=>by simp at he,Pairs.nil,OZ⟩ rfl rfl de
theorem Er (h:iG (fun ks vs _=>ks.isEmpty&&vs.isEmpty) e=true) (I:aE X.C P) (w:Wp K (ret (.d (.dct [] [])) P.σ)) (p:bg X (RV X.C) P K Q E):We X e Q E P:=
 iF (fun e=>We X e Q E P) h fun ks vs pos h=>bJ (fun ks=>wpAny X.M X.A (eval (.Dict ks vs pos) X.env) Q E P.s) (ah h) (bJ (fun vs=>wpAny X.M X.A (eval (.Dict [] vs pos) X.env) Q E P.s) (ak h)
  (wpAny_Dict_empty ((p.fin w).note I (I.push (o:=rV) rfl) P.s.toks (.dct (bl _ _ _) xX .nil))))
theorem AS (h:iG (fun ks vs _=>ks.isEmpty&&vs.isEmpty) e=true) (I:aE X.C P) (w:Wp K (g8 (.fld (.dict [] [])) P.σ)) (p:bg X (RV X.C) P K Q E):We X e Q E P:=
 iF (fun e=>We X e Q E P) h fun ks vs pos h=>bJ (fun ks=>wpAny X.M X.A (eval (.Dict ks vs pos) X.env) Q E P.s) (ah h) (bJ (fun vs=>wpAny X.M X.A (eval (.Dict [] vs pos) X.env) Q E P.s) (ak h)
  (wpAny_Dict_empty (p.make (f:=.dict [] []) (t:=P.s.toks) I (I.push (o:=rV) rfl) ⟨[],xX,.nil⟩ w)))
end
noncomputable def bw (l:CL):CE:=⟨fun K ρ=>bz (l.ev K ρ) (sF fun ds=>.d (.tup ds)),fun s=>iX fun es _ _=>l.is s es,fun _ _ _ _ _ _ _ h I G w p=>FF l h I G w p⟩
noncomputable def cU (l:CL):CE:=⟨fun K ρ=>bz (l.ev K ρ) (sF fun ds=>.d (.lst ds)),fun s=>lh fun es _=>l.is s es,fun _ _ _ _ _ _ _ h I G w p=>Gp l h I G w p⟩
noncomputable def fu (l:CL):CE:=⟨fun K ρ=>bz (l.ev K ρ) M4,fun s=>lh fun es _=>l.is s es,fun _ _ _ _ _ _ _ h I G w p=>DF l h I G w p⟩
noncomputable def xW:CE:=⟨fun _ _=>ret (.d (.dct [] [])),fun _=>iG fun ks vs _=>ks.isEmpty&&vs.isEmpty,fun _ _ _ _ _ _ _ h I _ w p=>Er h I w p⟩
noncomputable def nn:CE:=⟨fun _ _=>g8 (.fld (.dict [] [])),fun _=>iG fun ks vs _=>ks.isEmpty&&vs.isEmpty,fun _ _ _ _ _ _ _ h I _ w p=>AS h I w p⟩
noncomputable def dK:D->D->Bool
 | .int a,.int b=>decide (a=b)
 | .str a,.str b=>decide (a=b)
 |_,_=>false
noncomputable def GM:D->Bool
 | .int _=>true
 |_=>false
noncomputable def GJ:D->Bool
 | .str _=>true
 |_=>false
noncomputable def i8 (k:D) (ks:List D):Bool:=(GM k&&ks.all GM)||(GJ k&&ks.all GJ)
noncomputable def dJ (k:D):List D->List D->Option D
 |x::ks,v::vs=>if dK x k then some v else dJ k ks vs
 |_,_=>none
noncomputable def dG (k:D):List D->List D
 |[]=>[k]
 |x::ks=>if dK x k then x::ks else x::dG k ks
noncomputable def dF (k v:D):List D->List D->List D
 |x::ks,u::vs=>if dK x k then v::vs else u::dF k v ks vs
 |_,_=>[v]
inductive Fs (C:bq) (o:Obj) (k:D) (vk:Value) (ks:List D) (vs:List Value):Prop
 |mk (d:KD C) (l:List (d.K×Value)) (c:d.K):uI C d->(letI:=d.dec;o.IsDictOf d.knd l)->ks=l.map (fun p=>d.toD p.1)->vs=l.map (·.2)->(∀ p∈l,d.ok p.1)->k=d.toD c->(letI:=d.dec;d.knd.is c vk=true)->d.ok c->Fs C o k vk ks vs
section
variable {C:bq} {w:bp}
theorem ul {K K':Type} [DecidableEq K] [DecidableEq K'] {knd:KeyKind C.prog C.w K} {knd':KeyKind C.prog C.w K'} {o:Obj} (h:o.IsDictOf knd []):o.IsDictOf knd' []:=by
 obtain ⟨es,ep,h1,h2,_,h4,_⟩:=h;have he:es=#[]:=by
  cases q:es.toList with
  |nil=>exact Array.toList_eq_nil_iff.mp q
  |cons e r=>rw[q] at h4;cases h4
 subst he;exact ⟨#[],ep,h1,h2,fun e he=>by simp at he,by simpa using Pairs.nil,OZ⟩
theorem rz {o:Obj} {k:D} {vk:Value} {ks:List D} {vs:List Value} (h:fq C w o ks vs) (hk:RD C w k vk) (hf:i8 k ks=true):Fs C o k vk ks vs:=by
 cases h with
 |pr xs es ep _ _ _ _ _ e _ hne=>
  cases xs with
  |nil=>exact absurd rfl hne
  |cons x xs=>
   rw[e] at hf;have hf:((GM k&&false)||(GJ k&&false))=true:=hf;rw[Bool.and_false,Bool.and_false] at hf;cases hf
 |mk d l hd h1 h2 h3 h4=>
  subst h2;subst h3;rcases (Bool.or_eq_true _ _).mp hf with hf|hf
  .cases k with
   |int i=>
    obtain ⟨t,e⟩:∃ t,vk= .int i t:=hk.view;rw[e];cases hd with
    |int=>exact .mk _ l i .int h1 rfl rfl h4 rfl (intKind_is _ _ _ _) trivial
    |str=>
     cases l with
     |nil=>exact .mk _ [] i .int (ul h1) rfl rfl de rfl (intKind_is _ _ _ _) trivial
     |cons p l=>cases ah (ak hf)
   |_=>cases ah hf
  .cases k with
   |str s=>
    obtain ⟨hs,t,e⟩:oX s/\∃ t,vk= .str (fU s) t:=hk.view;rw[e];cases hd with
    |str=>exact .mk _ l (fU s) .str h1 rfl rfl h4 rfl (strKind_is _ _ _ _) hs
    |int=>
     cases l with
     |nil=>exact .mk _ [] (fU s) .str (ul h1) rfl rfl de rfl (strKind_is _ _ _ _) hs
     |cons p l=>cases ah (ak hf)
   |_=>cases ah hf
theorem fY {d:KD C} (hd:uI C d) (a b:d.K):dK (d.toD a) (d.toD b)=true<->a=b:=by
 cases hd with
 |int=>exact decide_eq_true_iff
 |str=>
  show decide _=true<->_;rw[decide_eq_true_eq];exact ⟨fun h=>by
   obtain ⟨⟨a⟩⟩:=a;obtain ⟨⟨b⟩⟩:=b
   simpa using h,fun h=>by rw[h]⟩
theorem mF {d:KD C} (hd:uI C d) (c:d.K):∀ {l:List (d.K×Value)} {ps:List D},RDs C w ps (l.map (·.2))->match dJ (d.toD c) (l.map fun p=>d.toD p.1) ps,(letI:=d.dec;valueAt l c) with
  |some p,some v=>RD C w p v
  |none,none=>True
  |_,_=>False
 |[],ps,r=>by
  cases ps with
  |nil=>trivial
  |cons=>cases r.length
 |(a,v)::l,[],r=>by cases r.length
 |(a,v)::l,p::ps,r=>by
  obtain ⟨r1,r2⟩:eQ C w p ps (v::l.map Prod.snd):=r.view
  letI:=d.dec
  show match (if dK (d.toD a) (d.toD c) then some p else dJ (d.toD c) (l.map fun p=>d.toD p.1) ps),(List.find? (fun kv=>decide (kv.1=c)) ((a,v)::l)).map (·.2) with
   |some p,some v=>RD C w p v
   |none,none=>True
   |_,_=>False
  by_cases h:a=c
  .rw[if_pos ((fY hd a c).mpr h),List.find?_cons_of_pos (by simpa using h)];exact r1
  .rw[if_neg (fun q=>h ((fY hd a c).mp q)),List.find?_cons_of_neg (by simpa using h)];exact mF hd c r2
theorem AE {d:KD C} (hd:uI C d) (c:d.K) {q:D} {u:Value} (hq:RD C w q u):∀ {l:List (d.K×Value)} {ps:List D},RDs C w ps (l.map (·.2))->(l.map (·.1)).Nodup->
  (letI:=d.dec;dG (d.toD c) (l.map fun p=>d.toD p.1)=(stored l c u).map (fun p=>d.toD p.1)/\RDs C w (dF (d.toD c) q (l.map fun p=>d.toD p.1) ps) ((stored l c u).map (·.2)))
 |[],ps,r,_=>by
  cases ps with
  |nil=>exact ⟨rfl,.cons hq .nil⟩
  |cons=>cases r.length
 |(a,v)::l,[],r,_=>by cases r.length
 |(a,v)::l,p::ps,r,hn=>by
  obtain ⟨r1,r2⟩:eQ C w p ps (v::l.map Prod.snd):=r.view
  letI:=d.dec
  rw[List.map_cons,OW] at hn;show (if dK (d.toD a) (d.toD c) then d.toD a::l.map fun p=>d.toD p.1 else d.toD a::dG (d.toD c) (l.map fun p=>d.toD p.1))=_/\RDs C w (if dK (d.toD a) (d.toD c) then q::ps else p::dF (d.toD c) q (l.map fun p=>d.toD p.1) ps) _;by_cases h:a=c
  .have e2:stored ((a,v)::l) c u=(a,u)::l:=by
    subst h;rw[stored,List.any_cons,Os rfl,Bool.true_or,if_pos rfl,List.map_cons,if_pos rfl];congr 1;refine (List.map_congr_left fun kv hkv=> ?_).trans (List.map_id _);have hne:¬kv.1=a:=fun e=>hn.1 (Ot.mpr ⟨kv,hkv,e⟩);rw[if_neg hne];rfl
   rw[if_pos ((fY hd a c).mpr h),if_pos ((fY hd a c).mpr h),e2];exact ⟨rfl,.cons hq r2⟩
  .have e2:stored ((a,v)::l) c u=(a,v)::stored l c u:=by
    rw[stored,stored,List.any_cons,O3 h,Bool.false_or,List.map_cons,if_neg h];by_cases hr:(l.any fun kv=>decide (kv.1=c))=true
    .rw[if_pos hr,if_pos hr]
    .rw[if_neg hr,if_neg hr];rfl
   have ih:=AE hd c hq r2 hn.2;rw[if_neg (fun q=>h ((fY hd a c).mp q)),if_neg (fun q=>h ((fY hd a c).mp q)),e2];exact ⟨congrArg _ ih.1,.cons r1 ih.2⟩
end
section
variable {C:bq} {A:Around} {P:Pt} {Q E:Value->Shared->Prop}
theorem fB (G:eA C) (I:aE C P) {a:Addr} (h:P.own a≠ .no):(a==sysModules)=false:=by
 refine beq_eq_false_iff_ne.mpr fun q=> ?_;obtain ⟨o,ho⟩:=G.big;exact h (q ▸ (I.base _ _ ho).2)
end
noncomputable def cp (u v:D):Option D:=match u with
 | .tup l=>(iD v).bind fun i=>(aq (bI i=true) ()).bind fun _=>(cB i l.length).bind fun k=>l[k]?
 | .lst l=>(iD v).bind fun i=>(aq (bI i=true) ()).bind fun _=>(cB i l.length).bind fun k=>l[k]?
 | .str l=>(iD v).bind fun i=>(aq (bI i=true) ()).bind fun _=>(cB i l.length).bind fun k=>(l[k]?).map fun c=>.str [c]
 | .dct ks vs=>(aq (i8 v ks=true) ()).bind fun _=>dJ v ks vs
 |_=>none
section
variable {C:bq} {A:Around} {P:Pt} {Q E:Value->Shared->Prop}
theorem cy {e:Expr} (h:cC e=true) (o i:Value):subscripted e false o i=operate [o,i] (PySem.getItem o i):=by
 cases e<;>first|rfl|(cases h;done)
theorem fT {i:Int} {n k:Nat} (h:cB i n=some k):seqIndex? i n=some k/\k<n:=by
 unfold cB at h;split at h
 .split at h
  .rename_i h1 h2
   cases h;exact ⟨seqIndex_of h1 h2,by exact (Int.toNat_lt h1).mpr h2⟩
  .cases h
 .split at h
  .rename_i h1 h2
   cases h;exact ⟨seqIndex_neg (by exact Int.lt_of_not_ge h1) (by exact Int.add_nonneg_iff_neg_le.mp h2),LF h1 h2⟩
  .cases h
theorem fS {i:Int} (h:bI i=true): -(2^63)<=i/\i<2^63:=by
 simp only [bI,Bool.and_eq_true,decide_eq_true_eq] at h;exact ⟨OL (by decide) (O8 h.1),Int.lt_trans h.2 (by decide)⟩
theorem rE {α:Type} {v:D} {n:Nat} {f:Nat->Option α} {z:α} {y:Value} (h:((iD v).bind fun i=>(aq (bI i=true) ()).bind fun _=>(cB i n).bind f)=some z) (hv:fx C P y v):∃ i t k,y= .int i t/\bI i=true/\cB i n=some k/\f k=some z:=by
 refine aW fun G9 k9=> ?_;obtain ⟨i,e1,h⟩:=ao h;obtain ⟨_,e2,h⟩:=ao h;obtain ⟨k,e3,h⟩:=ao h;obtain ⟨t,q⟩:=dM e1 hv;refine k9 ?_;exact ⟨i,t,k,q,(d9 e2).1,e3,h⟩
theorem A7 {l:List D} {vs:List Value} {a:Addr} {i:Int} {t:Tok} {k:Nat} {p:D} {s:Shared} (hl:s.heap.IsList a vs.toArray) (hr:RDs C P.own l vs) (hs:bI i=true) (hk:cB i l.length=some k) (hp:l[k]? =some p)
  (hQ:∀ v,RD C P.own p v->Q v s):wpAny C.M A (PySem.getItem (.ref a) (.int i t)) Q E s:=by
 obtain ⟨v,hv,hrv⟩:=hr.get hp;have hlen:=hr.length;unfold cB at hk;split at hk
 .split at hk
  .rename_i h1 h2
   cases hk;exact wpAny_getItem_list hl h1 (fS hs).2 (by simpa using hv) (hQ v hrv)
  .cases hk
 .split at hk
  .rename_i h1 h2
   cases hk;refine wpAny_getItem_list_neg hl (by exact Int.lt_of_not_ge h1) (by simp [hlen];exact Int.add_nonneg_iff_neg_le.mp h2) (fS hs).1 (by simpa [hlen] using hv) (hQ v hrv)
  .cases hk
theorem Ea (G:eA C) (I:aE C P) {value e:Expr} (he:cC e=true):∀ {u v z:D} {x y:Value},fx C P x u->fx C P y v->RD C P.own v y->cp u v=some z->mS C P z Q->wpAny C.M A (subscriptTail value e x y) Q E P.s:=by
 intro Z0 v z x y hu hv hr e k;cases Z0 with
 |tup l=>
  refine aW fun G9 k9=> ?_;obtain ⟨i,t,n,q,h1,h2,h3⟩:=rE e hv;refine k9 ?_;rw[q];refine aW fun G9 k9=> ?_;obtain @⟨a,vs,m,h4,h5⟩:kC C P.own cj l x:=RD.view hu;obtain ⟨w,h6,h7⟩:=h5.get h3;refine k9 ?_;have ht:IsTup P.h a vs.toArray:=⟨_,I.fz _ _ h4,rfl,m,rfl⟩;exact tail_any ht.typeIs slot_tuple_getitem.lookup (PyProof.Rows.getItem_tuple ht (fS h1).1 (fS h1).2 (by simpa [h5.length] using (fT h2).1) (by simpa using h6) (k.here I h7)) (cy he _ _)
 |lst l=>
  refine aW fun G9 k9=> ?_;obtain ⟨i,t,n,q,h1,h2,h3⟩:=rE e hv;refine k9 ?_;rw[q];refine aW fun G9 k9=> ?_;obtain @⟨a,vs,m,h4,_,h5⟩:gU C P l x:=hu;refine k9 ?_;have hl:P.h.IsList a vs.toArray:=⟨_,h4,rfl,_,rfl⟩;exact tail_any hl.typeIs slot_list_getitem.lookup (A7 hl h5 h1 h2 h3 fun w hw=>k.here I hw) (cy he _ _)
 |str l=>
  refine aW fun G9 k9=> ?_;obtain ⟨i,t,n,q,h1,h2,h3⟩:=rE e hv;refine k9 ?_;rw[q];refine aW fun G9 k9=> ?_;obtain ⟨hx,t',r⟩:oX l/\∃ t,x= .str (fU l) t:=RD.view hu;obtain ⟨c,h4,rfl⟩:=aZ h3;refine k9 ?_;rw[r];have h63:=fS h1;refine tail_any (typeIs_str P.s _ t') F.slot_str_getitem.lookup (PySem.P.getItem_str (c:=c) (by simp;exact And.comm.mp (id (And.symm h63))) ?_ (k.tok I (.str [c] _ ⟨fun d hd=> ?_,by simp [dX]⟩) _)) (cy he _ _)
  .have:seqIndex? i (Str.length (fU l))=some n:=by simpa [Str.length] using (fT h2).1
   rw[this]
   simpa using h4
  .rw[Oi.mp hd];exact hx.1 c (OH h4)
 |dct ks ps=>
  refine aW fun G9 k9=> ?_;obtain ⟨_,e1,e⟩:=ao e;obtain @⟨a,o,vs,h1,h2,h3,h4⟩:wG C P ks ps x:=hu;obtain ⟨d,l,c,hd,h5,rfl,rfl,h6,rfl,h7,h8⟩:=rz h3 hr (d9 e1).1;refine k9 ?_
  letI:=d.dec
  have hl:=mF hd c h4;rw[e] at hl;cases q:valueAt l c with
  |none=>rw[q] at hl;exact hl.elim
  |some w=>
   rw[q] at hl;have hM:=(Heap.dictOf_iff.mpr ⟨o,h1,h5⟩).mapOf;exact tail_any hM.typeIs slot_dict_getitem.lookup (wpAny_getItem_of h7 hM q (k.tok I hl _)) (cy he _ _)
 |_=>cases e
end
noncomputable def sJ (x y:PV):PM PV:=fun σ=>(rd σ x).bind fun u=>(n8 y).bind fun v=>(cp u v).map fun z=>(.ok (.d z),σ)
theorem CV {K:R PV->av->Prop} {x y:PV} {σ:av} (h:Wp K (sJ x y σ)):∃ u v z,rd σ x=some u/\n8 y=some v/\cp u v=some z/\K (.ok (.d z)) σ:=by
 unfold sJ at h;cases e1:rd σ x with
 |none=>rw[e1] at h;exact h.elim
 |some u=>
 cases e2:n8 y with
 |none=>rw[e1,e2] at h;exact h.elim
 |some v=>
 cases e3:cp u v with
 |none=>rw[e1,e2,Od,Od,e3] at h;exact h.elim
 |some z=>rw[e1,e2,Od,Od,e3] at h;exact ⟨u,v,z,rfl,rfl,e3,h⟩
section
variable {X:Cx} {e:Expr} {ρ:a9} {P:Pt} {K:R PV->av->Prop} {Q E:Value->Shared->Prop}
theorem FM (a i:CE) (h:bx (fun v j _=>cC j&&a.is X.sx v&&i.is X.sx j) e=true) (I:aE X.C P) (G:EnvOK X P ρ) (w:Wp K (bz (a.ev X.ker ρ) (fun x=>bz (i.ev X.ker ρ) fun y=>sJ x y) P.σ)) (p:bg X (RV X.C) P K Q E):We X e Q E P:=
 bZ (fun e=>We X e Q E P) h fun v j pos h=>Subscript_ (a.ok X v ρ P _ _ E (ak (ah h)) I G (aH w) (p.bind fun x v P1 g1 I1 r1 w p=>
  i.ok X j ρ P1 _ _ E (ak h) I1 (G.ext g1) (aH w) (p.bind fun y u P2 g2 I2 r2 w p=>by
   refine aW fun G9 k9=> ?_;obtain ⟨i,j,z,e1,e2,e3,k⟩:=CV w;refine k9 ?_;have r2:=rW e2 r2;exact Ea X.good I2 (ah (ah h)) (bG I2 (r1.ext g2.toExt) e1) (jq I2 r2) r2 e3 (p.fin k))))
end
noncomputable def sub (a i:CE):CE:=⟨fun K ρ=>bz (a.ev K ρ) fun x=>bz (i.ev K ρ) fun y=>sJ x y,fun s=>bx fun v j _=>cC j&&a.is s v&&i.is s j,fun _ _ _ _ _ _ _ h I G w p=>FM a i h I G w p⟩
structure CP where
 ev:cP->a9->PM PV
 is:Sx->Option Expr->Bool
 ok:∀ (X:Cx) (e:Option Expr) (ρ:a9) (P:Pt) (K:R PV->av->Prop) (Q E:Value->Shared->Prop),is X.sx e=true->aE X.C P->EnvOK X P ρ->Wp K (ev X.ker ρ P.σ)->bg X (RV X.C) P K Q E->wpAny X.M X.A (evalPart e X.env) Q E P.s
noncomputable def M3:CP:=⟨fun _ _=>ret (.d .none),fun _ e=>e.isNone,fun X e ρ P K Q E h I G w p=>jQ (fun e=>wpAny X.M X.A (evalPart e X.env) Q E P.s) h (Oq ((p.fin w).here I .none))⟩
noncomputable def Nc (a:CE):CP:=⟨a.ev,fun s=>CG (a.is s),fun X e ρ P K Q E h I G w p=>fj (fun e=>wpAny X.M X.A (evalPart e X.env) Q E P.s) h fun e h=>a.ok X e ρ P K Q E h I G w p⟩
noncomputable def qf (d:Int):D->Option Int
 | .none=>some d
 | .int i=>aq (bI i=true) i
 |_=>none
noncomputable def AH (d:Nat):D->Option Nat
 | .none=>some d
 | .int i=>aq (0<=i) i.toNat
 |_=>none
noncomputable def eJ (u lo hi:D):Option D:=match u with
 | .lst s=>(aq (s.length<=dX) ()).bind fun _=>(qf 0 lo).bind fun l=>(qf s.length hi).map fun h=>.lst (cR s (oU l s.length) (oU h s.length))
 | .str s=>(AH 0 lo).bind fun l=>(AH s.length hi).bind fun h=>aq (l<=h/\h<=s.length) (.str (cR s l h))
 | .tup s=>(AH 0 lo).bind fun l=>(AH s.length hi).bind fun h=>aq (l<=h/\h<=s.length/\h - l<s.length/\s.length<=dX) (.tup (cR s l h))
 |_=>none
section
variable {C:bq} {A:Around} {P:Pt} {Q E:Value->Shared->Prop}
theorem BW (j:Int) (m:Nat):clipAt m j=oU j m:=by
 unfold clipAt oU;by_cases h:j<0
 .rw[if_pos h,if_pos h,Int.min_eq_left (LE h)];rcases Int.le_total 0 (j+m) with q|q
  .rw[Int.max_eq_right q]
  .rw[Int.max_eq_left q,Int.toNat_of_nonpos q];rfl
 .rw[if_neg h,if_neg h];obtain ⟨n,rfl⟩:=Int.eq_ofNat_of_zero_le (Pc.mp h);rcases Nat.le_total n m with q|q
  .rw[Int.min_eq_left (OO.mpr q),Int.max_eq_right (O' n)];exact (Nat.min_eq_left q).symm
  .rw[Int.min_eq_right (OO.mpr q),Int.max_eq_right (O' m)];exact (Nat.min_eq_right q).symm
theorem on {w:bp} {v:Value} {n i:Int}:∀ {p:D},RD C w p v->qf n p=some i->∃ o:Option Int,IsPart v o/\∀ m:Nat,(o.elim (oU n m) (clipAt m))=oU i m:=by
 intro Z0 r e;cases Z0 with
 |none=>
  cases e;rw[show v= .none from r.view];exact ⟨none,.none,fun m=>rfl⟩
 |int j=>
  obtain ⟨t,q⟩:∃ t,v= .int j t:=r.view;rw[q];rw[<-(d9 e).2];exact ⟨some j,.int j t,fun m=>BW j m⟩
 |_=>cases e
theorem Es (n:Nat):oU (n:Int) n=n:=by
 unfold oU;rw[if_neg (Km)];simp
theorem yy {l:List D} {x vl vu:Value} {lo hi z:D} (I:aE C P) (hu:gU C P l x) (r1:RD C P.own lo vl) (r2:RD C P.own hi vu) (e:eJ (.lst l) lo hi=some z) (k:mS C P z Q):
  wpAny C.M A (PySem.getItem x (.ref P.h.objs.size)) Q E {P.s with heap:=P.h.push {cls:=.type "slice",data:=.fields #[vl,vu,.none]}}:=by
 refine aW fun G9 k9=> ?_;obtain @⟨a,vs,n,g,_,r⟩:=hu;obtain ⟨_,e1,e⟩:=ao e;obtain ⟨i,e2,e⟩:=ao e;obtain ⟨j,e3,rfl⟩:=aZ e;obtain ⟨o1,p1,q1⟩:=on r1 e2;obtain ⟨o2,p2,q2⟩:=on r2 e3;refine k9 ?_;have hlen:=r.length;have hl:(P.h.push {cls:=.type "slice",data:=.fields #[vl,vu,.none]}).IsList a vs.toArray:=⟨_,Ol _ g,rfl,_,rfl⟩;have z1:o1.elim 0 (clipAt vs.length)=oU i l.length:=by
  have h:=q1 l.length;rw[show oU 0 l.length=0 by unfold oU;rw[if_neg (by decide)];simp] at h;rw[hlen,h]
 have z2:o2.elim vs.length (clipAt vs.length)=oU j l.length:=by
  have h:=q2 l.length;rw[Es] at h;rw[hlen,h]
 have e8:slicePick vs.toArray o1 o2 none=(cR vs (oU i l.length) (oU j l.length)).toArray:=by
  rw[slicePick_plain];simp only [Oz,z1,z2];rfl
 refine wpAny_getItem_list_slice hl (Heap.IsSliceOf.new ..) p1 p2 .none (by simp) ?_ (by rw[Oz,hlen];exact Om (d9 e1).1 (by decide));rw[e8];have hn:=Ox (P.h.push {cls:=.type "slice",data:=.fields #[vl,vu,.none]}) (o:=aJ (cR vs (oU i l.length) (oU j l.length)) 0) rfl;have q:=k.note I ⟨fun b o e=>Ol _ (Ol _ e),I.off (by rw[Heap.size_push];exact OV _),I.out (by rw[Heap.size_push];exact OV _),hn⟩ P.s.toks (kI I (I.off (by rw[Heap.size_push];exact OV _)) ((r.drop _).take _) rfl);exact q
theorem mC {w:bp} {v:Value} {n i:Nat}:∀ {p:D},RD C w p v->AH n p=some i->∃ o:Option (Int×Tok),v=partValue o/\o.map (·.1)=(if o.isSome then some (i:Int) else none)/\(o=none->i=n):=by
 intro Z0 r e;cases Z0 with
 |none=>
  cases e;exact ⟨none,r.view,rfl,fun _=>rfl⟩
 |int j=>
  obtain ⟨t,q⟩:∃ t,v= .int j t:=r.view;obtain ⟨h,rfl⟩:=d9 e;exact ⟨some (j,t),q,by show some j=some (j.toNat:Int);rw[OR h],fun h=>(nomatch h)⟩
 |_=>cases e
theorem qE {x:Str} {l u:Option Int} {a b:Nat} (hab:a<=b) (hb:b<=x.length) (hl:l=some (a:Int)∨(l=none/\a=0)) (hu:u=some (b:Int)∨(u=none/\b=x.length)):StrLaws.sliceText x l u=⟨((x.cps.toList.drop a).take (b - a)).toArray⟩:=by
 rw[<-StrLaws.sliceText_nat x hab hb];unfold StrLaws.sliceText;have e:Builtin.Str.strSliceIndices l u 1 x.length=Builtin.Str.strSliceIndices (some (a:Int)) (some (b:Int)) 1 x.length:=by
  rcases hl with rfl|⟨rfl,rfl⟩
  .rcases hu with rfl|⟨rfl,rfl⟩
   .rfl
   .rw[StrLaws.sliceIdx_none_hi]
  .rcases hu with rfl|⟨rfl,rfl⟩
   .rw[StrLaws.sliceIdx_none_lo];rfl
   .rw[StrLaws.sliceIdx_none_lo,StrLaws.sliceIdx_none_hi];rfl
 rw[e]
theorem yx {l:List Nat} {x vl vu:Value} {lo hi z:D} (I:aE C P) (hu:oX l/\∃ t,x= .str (fU l) t) (r1:RD C P.own lo vl) (r2:RD C P.own hi vu) (e:eJ (.str l) lo hi=some z) (k:mS C P z Q):
  wpAny C.M A (PySem.getItem x (.ref P.h.objs.size)) Q E {P.s with heap:=P.h.push {cls:=.type "slice",data:=.fields #[vl,vu,.none]}}:=by
 refine aW fun G9 k9=> ?_;obtain ⟨ho,t,hx⟩:=hu;obtain ⟨i,e2,e⟩:=ao e;obtain ⟨j,e3,e⟩:=ao e;obtain ⟨⟨q1,q2⟩,rfl⟩:=d9 e;obtain ⟨o1,f1,p1,z1⟩:=mC r1 e2;obtain ⟨o2,f2,p2,z2⟩:=mC r2 e3;refine k9 ?_;have hs:=qE (x:=fU l) (l:=o1.map (·.1)) (u:=o2.map (·.1)) q1 q2 (by
  cases o1 with
  |none=>exact .inr ⟨rfl,z1 rfl⟩
  |some o=>exact .inl p1) (by
  cases o2 with
  |none=>exact .inr ⟨rfl,z2 rfl⟩
  |some o=>exact .inl p2)
 rw[hx];refine wpAny_getItem_str_slice (l:=o1) (u:=o2) (st:=none) ⟨_,Ox _ rfl,rfl,by rw[f1,f2];rfl⟩ rfl (post_val_or_str ⟨?_,fun t' n=> ?_⟩)
 .show (StrLaws.sliceText (fU l) (o1.map (·.1)) (o2.map (·.1))).length<=sizeLine;rw[hs];show ((l.drop i).take (j - i)).toArray.size<=sizeLine;rw[Oz,List.length_take,List.length_drop];exact Om (Om (Nat.min_le_right _ _) (Nat.sub_le _ _)) (Om ho.2 (by decide))
 .have q:=k.grown I (h':=P.h.push {cls:=.type "slice",data:=.fields #[vl,vu,.none]}) (v:=.str (StrLaws.sliceText (fU l) (o1.map (·.1)) (o2.map (·.1))) t') (fun b o e=>Ol _ e) (by
   rw[hs];refine .str _ t' ⟨fun c hc=>ho.1 c (List.mem_of_mem_drop (List.mem_of_mem_take hc)),?_⟩;rw[cR,List.length_take,List.length_drop];exact Om (Om (Nat.min_le_right _ _) (Nat.sub_le _ _)) ho.2) n
  exact q
theorem Nd {o1 o2:Option Int} {i j n:Nat} (h1:o1=some (i:Int)∨(o1=none/\i=0)) (h2:o2=some (j:Int)∨(o2=none/\j=n)) (hij:i<=j) (hj:j<=n):Builtin.Slice.sliceAdjust o1 o2 1 (n:Int)=((i:Int),(j:Int)):=by
 have a1:¬((1:Int)<0):=by decide
 have a2:¬((i:Int)<0):=Km;have a3:¬((j:Int)<0):=Km;have a4:min (i:Int) (n:Int)=i:=by exact Int.min_eq_left (OO.mpr (Om hij hj))
 have a5:min (j:Int) (n:Int)=j:=by exact Int.min_eq_left (OO.mpr hj)
 rcases h1 with rfl|⟨rfl,rfl⟩<;>rcases h2 with rfl|⟨rfl,rfl⟩<;>simp only [Builtin.Slice.sliceAdjust,a1,a2,a3,a4,a5,if_false]<;>rfl
theorem KM {i j:Nat} (h:i<=j):Builtin.Slice.slicePlaces (i:Int) (j:Int) 1=j - i:=by
 unfold Builtin.Slice.slicePlaces;rw[if_pos (by decide),Int.ediv_one,Int.sub_add_cancel];split
 .exact Int.toNat_sub j i
 .rename_i q
  exact (Nat.sub_eq_zero_of_le (OO.mp (Pc.mp q))).symm
theorem sZ {o:Option (Int×Tok)} {s:Shared} {Q:Option Int->Shared->Prop} (h:Q (o.map (·.1)) s):wpAny C.M A (Builtin.Slice.slicePartIndex (partValue o)) Q E s:=by
 cases o with
 |none=>exact slicePart_none h
 |some p=>exact slicePart_int h
theorem Cp {sl:Addr} {o1 o2:Option (Int×Tok)} {i j n:Nat} {s:Shared} {Q:Int×Int×Nat->Shared->Prop} (hs:s.heap.IsSliceOf sl (partValue o1) (partValue o2) .none) (h1:o1.map (·.1)=some (i:Int)∨(o1.map (·.1)=none/\i=0)) (h2:o2.map (·.1)=some (j:Int)∨(o2.map (·.1)=none/\j=n)) (hij:i<=j) (hj:j<=n) (h:Q ((i:Int),1,j - i) s):
  wpAny C.M A (Builtin.Slice.sliceApplied (.ref sl) (pure (n:Int))) Q E s:=by
 obtain ⟨os,hos,hcs,hds⟩:=id hs;unfold Builtin.Slice.sliceApplied Builtin.Slice.sliceFields;refine Op (Op (wpAny_field hos hds (x:=partValue o1) rfl (Op (wpAny_field hos hds (x:=partValue o2) rfl (Op (wpAny_field hos hds (x:=.none) rfl (Oq ?_)))))));refine Op (slicePart_none ?_);show wpAny _ _ (if ((1:Int)==0)=true then _ else _) _ _ s;rw[if_neg (by decide)];refine Op (sZ (Op (sZ (Op (Oq ?_)))));show wpAny _ _ (match Builtin.Slice.sliceAdjust (o1.map (·.1)) (o2.map (·.1)) 1 (n:Int) with|(lo,hi)=>pure (lo,(1:Int),Builtin.Slice.slicePlaces lo hi 1)) _ _ s
 rw[Nd h1 h2 hij hj];show wpAny _ _ (pure ((i:Int),(1:Int),Builtin.Slice.slicePlaces (i:Int) (j:Int) 1)) _ _ s;rw[KM hij];exact Oq h
theorem HX (xs:List Value) (i j:Nat):((List.range (j - i)).filterMap fun (k:Nat)=>xs.toArray[((i:Int)+(k:Int)*1).toNat]?).toArray=(cR xs i j).toArray:=by
 have e:(fun (k:Nat)=>xs.toArray[((i:Int)+(k:Int)*1).toNat]?)=(fun x=>xs.toArray[x]?) ∘ fun k=>i+k:=by
  funext k;have:((i:Int)+(k:Int)*1).toNat=i+k:=LD;rw[this];rfl
 rw[e,<-List.filterMap_map,pick_run];rfl
theorem yk {t sl:Addr} {vs:List Value} {o1 o2:Option (Int×Tok)} {i j:Nat} {s:Shared} {Q:Value->Shared->Prop} (ht:IsTup s.heap t vs.toArray) (hs:s.heap.IsSliceOf sl (partValue o1) (partValue o2) .none) (h1:o1.map (·.1)=some (i:Int)∨(o1.map (·.1)=none/\i=0)) (h2:o2.map (·.1)=some (j:Int)∨(o2.map (·.1)=none/\j=vs.length)) (hij:i<=j) (hj:j<=vs.length) (hp:j - i<vs.length) (hsz:vs.length<=sizeLine)
  (h:Q (.ref s.heap.objs.size) {s with heap:=s.heap.push {cls:=.type "tuple",data:=.seq (cR vs i j).toArray}}):wpAny C.M A (PySem.getItem (.ref t) (.ref sl)) Q E s:=by
 have hok:sizeOk (.seq (cR vs i j).toArray):=by
  show (cR vs i j).toArray.size<=sizeLine;rw[Oz,cR,List.length_take,List.length_drop];exact Om (Nat.min_le_right _ _) (Om (Nat.sub_le _ _) hsz)
 obtain ⟨os,hos,hcs,hds⟩:=id hs;have hT:s.TypeIs (.ref sl) "slice":=⟨os,hos,hcs⟩;unfold PySem.getItem
 try with_reducible refine wpAny_holding ?_
 first|refine Op (Oq ?_)|skip
 refine Op (wpAny_sequenceKey ht.typeIs (by decide) ?_);refine Op (wpAny_callSpecial?_slot (name:=Str.ofString "__getitem__") ht.typeIs slot_tuple_getitem
  (wpAny_call_entry slot_tuple_getitem ht.typeIs entry_tuple_getitem ?_ (args_tuple_getitem _ _)))
 show wpAny _ _ (Builtin.Tuple.tupleItemsOf (.ref t)>>=_) _ _ s;refine Op (tupleItemsOf_ ht ?_);refine Op (wpAny_typeOf hT ?_);rw[if_pos (by decide)];rw[Oz];refine Op (Cp hs h1 h2 hij hj ?_);have hno:¬(((i:Int)==0&&(1:Int)==1&&(j - i)==vs.toArray.size)=true):=by
  have:((j - i)==vs.toArray.size)=false:=by rw[beq_eq_false_iff_ne,Oz];exact Nat.ne_of_lt hp
  rw[this,Bool.and_false];exact OB
 show wpAny _ _ (if ((i:Int)==0&&(1:Int)==1&&(j - i)==vs.toArray.size)=true then _ else _) _ _ s;rw[if_neg hno,HX]
 first
  |exact Op (m:=Builtin.Tuple.tupleExact _) (wpAny_newObj_type (Oq ⟨_,rfl,Oq h⟩) hok)
  |exact Op (m:=Builtin.Tuple.tupleExact _) (wpAny_newObj_type (Op (Oq (Oq ⟨_,rfl,Oq h⟩))) hok)
  |exact Op (Op (m:=Builtin.Tuple.tupleExact _) (wpAny_newObj_type (Oq (Oq ⟨_,rfl,Oq h⟩)) hok))
  |exact Op (Op (m:=Builtin.Tuple.tupleExact _) (wpAny_newObj_type (Oq ⟨_,rfl,Oq h⟩) hok))
theorem yw {l:List D} {x vl vu:Value} {lo hi z:D} (I:aE C P) (hu:kC C P.own cj l x) (r1:RD C P.own lo vl) (r2:RD C P.own hi vu) (e:eJ (.tup l) lo hi=some z) (k:mS C P z Q):
  wpAny C.M A (PySem.getItem x (.ref P.h.objs.size)) Q E {P.s with heap:=P.h.push {cls:=.type "slice",data:=.fields #[vl,vu,.none]}}:=by
 refine aW fun G9 k9=> ?_;obtain @⟨a,vs,n,g,r⟩:=hu;obtain ⟨i,e2,e⟩:=ao e;obtain ⟨j,e3,e⟩:=ao e;obtain ⟨⟨q1,q2,q3,q4⟩,rfl⟩:=d9 e;obtain ⟨o1,f1,p1,z1⟩:=mC r1 e2;obtain ⟨o2,f2,p2,z2⟩:=mC r2 e3;refine k9 ?_;have hlen:=r.length;have ht:IsTup (P.h.push {cls:=.type "slice",data:=.fields #[vl,vu,.none]}) a vs.toArray:=⟨_,Ol _ (I.fz _ _ g),rfl,n,rfl⟩;refine yk (o1:=o1) (o2:=o2) (i:=i) (j:=j) ht (by rw[<-f1,<-f2];exact Heap.IsSliceOf.new ..) (by
  cases o1 with
  |none=>exact .inr ⟨rfl,z1 rfl⟩
  |some o=>exact .inl p1) (by
  cases o2 with
  |none=>exact .inr ⟨rfl,by rw[hlen];exact z2 rfl⟩
  |some o=>exact .inl p2) q1 (by rw[hlen];exact q2) (by rw[hlen];exact q3) (by rw[hlen];exact Om q4 (by decide)) ?_
 have hn:=Ox (P.h.push {cls:=.type "slice",data:=.fields #[vl,vu,.none]}) (o:=cj (cR vs i j) 0) rfl;exact k.note I ⟨fun b o e=>Ol _ (Ol _ e),I.off (by rw[Heap.size_push];exact OV _),I.out (by rw[Heap.size_push];exact OV _),hn⟩ P.s.toks (qL I (I.off (by rw[Heap.size_push];exact OV _)) ((r.drop _).take _) rfl)
theorem Ak {value:Expr} {le ue:Option Expr} {sp:Pos} (I:aE C P) {vl vu:Value}:∀ {u lo hi z:D} {x:Value},fx C P x u->RD C P.own lo vl->RD C P.own hi vu->eJ u lo hi=some z->mS C P z Q->
  wpAny C.M A (subscriptTail value (.Slice le ue none sp) x (.ref P.h.objs.size)) Q E {P.s with heap:=P.h.push {cls:=.type "slice",data:=.fields #[vl,vu,.none]}}:=by
 intro Z0 lo hi z x hu r1 r2 e k;cases Z0 with
 |lst l=>
  have q:=yy (A:=A) (E:=E) I hu r1 r2 e k;refine aW fun G9 k9=> ?_;obtain @⟨a,vs,n,g,_,r⟩:gU C P l x:=hu;refine k9 ?_;have hl:(P.h.push {cls:=.type "slice",data:=.fields #[vl,vu,.none]}).IsList a vs.toArray:=⟨_,Ol _ g,rfl,_,rfl⟩;exact tail_any hl.typeIs list_getitem_lookup q (ops:=[.ref P.h.objs.size,.ref a]) rfl
 |str l=>
  have q:=yx (A:=A) (E:=E) I (RD.view hu) r1 r2 e k;obtain ⟨_,t,hx⟩:oX l/\∃ t,x= .str (fU l) t:=RD.view hu;rw[hx] at q ⊢;exact tail_any (typeIs_str _ _ t) F.slot_str_getitem.lookup q (ops:=[.ref P.h.objs.size,.str (fU l) t]) rfl
 |tup l=>
  have q:=yw (A:=A) (E:=E) I (RD.view hu) r1 r2 e k;refine aW fun G9 k9=> ?_;obtain @⟨a,vs,n,g,r⟩:kC C P.own cj l x:=RD.view hu;refine k9 ?_;have ht:IsTup (P.h.push {cls:=.type "slice",data:=.fields #[vl,vu,.none]}) a vs.toArray:=⟨_,Ol _ (I.fz _ _ g),rfl,n,rfl⟩;exact tail_any ht.typeIs slot_tuple_getitem.lookup q (ops:=[.ref P.h.objs.size,.ref a]) rfl
 |_=>cases e
end
noncomputable def qC (x lo hi:PV):PM PV:=fun σ=>(rd σ x).bind fun u=>(n8 lo).bind fun l=>(n8 hi).bind fun h=>(eJ u l h).map fun z=>(.ok (.d z),σ)
theorem yi {K:R PV->av->Prop} {x lo hi:PV} {σ:av} (h:Wp K (qC x lo hi σ)):∃ u l v z,rd σ x=some u/\n8 lo=some l/\n8 hi=some v/\eJ u l v=some z/\K (.ok (.d z)) σ:=by
 unfold qC at h;cases e1:rd σ x with
 |none=>rw[e1] at h;exact h.elim
 |some u=>
 cases e2:n8 lo with
 |none=>rw[e1,e2] at h;exact h.elim
 |some l=>
 cases e4:n8 hi with
 |none=>rw[e1,e2,e4] at h;exact h.elim
 |some v=>
 cases e3:eJ u l v with
 |none=>rw[e1,e2,e4,Od,Od,Od,e3] at h;exact h.elim
 |some z=>rw[e1,e2,e4,Od,Od,Od,e3] at h;exact ⟨u,l,v,z,rfl,rfl,rfl,e3,h⟩
section
variable {X:Cx} {e:Expr} {ρ:a9} {P:Pt} {K:R PV->av->Prop} {Q E:Value->Shared->Prop}
theorem FO (a:CE) (lo hi:CP) (h:wz (fun v l u=>a.is X.sx v&&lo.is X.sx l&&hi.is X.sx u) e=true) (I:aE X.C P) (G:EnvOK X P ρ) (w:Wp K (bz (a.ev X.ker ρ) (fun x=>bz (lo.ev X.ker ρ) fun l=>bz (hi.ev X.ker ρ) fun h=>qC x l h) P.σ)) (p:bg X (RV X.C) P K Q E):wpAny X.M X.A (eval e X.env) Q E P.s:=
 uC (fun e=>wpAny X.M X.A (eval e X.env) Q E P.s) h fun v l u sp pos h=>Subscript_ (a.ok X v ρ P _ _ E (ah (ah h)) I G (aH w) (p.bind fun x v P1 g1 I1 r1 w p=>
  wpAny_Slice (lo.ok X l ρ P1 _ _ E (ak (ah h)) I1 (G.ext g1) (aH w) (p.bind fun y1 v1 P2 g2 I2 r2 w p=>
   hi.ok X u ρ P2 _ _ E (ak h) I2 ((G.ext g1).ext g2) (aH w) (p.bind fun y2 v2 P3 g3 I3 r3 w p=>by
    refine aW fun G9 k9=> ?_;obtain ⟨u1,u2,u3,z,e1,e2,e3,e4,k⟩:=yi w;refine k9 ?_;rw[evalPart_none];exact Oq (Ak I3 (bG I3 ((r1.ext g2.toExt).ext g3.toExt) e1) (rW e2 (r2.ext g3.toExt)) (rW e3 r3) e4 (p.fin k)))))))
end
noncomputable def Ka (a:CE) (lo hi:CP):CE:=⟨fun K ρ=>bz (a.ev K ρ) fun x=>bz (lo.ev K ρ) fun l=>bz (hi.ev K ρ) fun h=>qC x l h,fun s=>wz fun v l u=>a.is s v&&lo.is s l&&hi.is s u,fun _ _ _ _ _ _ _ h I G w p=>FO a lo hi h I G w p⟩
structure BF where
 nm:Str
 val:Value
 mem:(nm,val)∈eX
 g:Bool->List PV->PM PV
 ok:∀ {C:bq} {A:Around} {P:Pt} {hd:Bool} {K:R PV->av->Prop} {ps:List PV} {vs:List Value} {Q E:Value->Shared->Prop},eA C->(hd=false->A.handled=none)->aE C P->jI C P ps vs->Wp K (g hd ps P.σ)->dt C A (RV C) P K Q E->wpAny C.M A (call val vs) Q E P.s
theorem JS:∀ p∈eX,(∃ id,p.2= .builtin id)∨(∃ T,p.2= .type T):=by
 have h:eX.all (fun p=>match p.2 with| .builtin _=>true| .type _=>true|_=>false)=true:=by decide+kernel
 intro p hp;have q:=List.all_eq_true.mp h p hp;cases e:p.2<;>rw[e] at q<;>first|exact .inl ⟨_,rfl⟩|exact .inr ⟨_,rfl⟩|cases q
theorem dW {l:List (Bool×Sem Value)} (h:∀ x∈l,x.1=false):l.any (·.1)=false:=by
 rw[Bool.eq_false_iff];intro q;obtain ⟨x,hx,e⟩:=List.any_eq_true.mp q;rw[h x hx] at e;cases e
theorem cW {M:Model} {A:Around} {E:Value->Shared->Prop} {s:Shared} {f:Value} {l:List (Bool×Sem Value)} {Q:Args->Shared->Prop} (hl:∀ x∈l,x.1=false) (h:wpAny M A (spliced l) (fun vs s'=>Q ⟨vs,[]⟩ s') E s):
  wpAny M A (evalArgs f true l []) Q E s:=by
 cases l with
 |nil=>
  unfold evalArgs;show wpAny M A (spliced []>>=_) Q E s;refine Op (wpAny_mono h (fun vs s' h'=> ?_) fun _ _ x=>x);refine Op (Oq ?_);refine wpAny_holding ?_;exact Op (Oq (Op (Oq (Oq h'))))
 |cons x r=>
  obtain ⟨b,t⟩:=x;obtain rfl:b=false:=hl _ (.head _);exact Calls.evalArgs_plain h
section
variable {X:Cx} {e:Expr} {ρ:a9} {P:Pt} {K:R PV->av->Prop} {Q E:Value->Shared->Prop}
theorem JT (f:BF) (l:CL) (h:dU (fun x es=>x==f.nm&&dB X.sx.sc x&&l.is X.sx es) e=true) (I:aE X.C P) (G:EnvOK X P ρ) (w:Wp K (bz (l.ev X.ker ρ) (f.g X.ker.hd) P.σ)) (p:bg X (RV X.C) P K Q E):wpAny X.M X.A (eval e X.env) Q E P.s:=
 dT (fun e=>wpAny X.M X.A (eval e X.env) Q E P.s) h fun x px es pos h=>by
  have hw:=ak (ah h);rw[bu (ah (ah h))] at hw ⊢;have hp:=l.star X.sx es X.env pos (ak h);refine wpAny_Call_NameR (eS I hw f.mem ?_);have args:wpAny X.M X.A (evalArgs f.val true (backTo pos (starEach es X.env)) []) (fun a s₁=>wpAny X.M X.A (PySem.call f.val ([]++a.pos) a.kw) Q E s₁) E P.s:=
   cW hp (l.ok X es pos ρ P _ _ E (ak h) I G (aH w) (p.bind fun ps vs P1 g1 I1 r1 w p=>f.ok X.good X.hnd I1 r1 w p))
  rcases JS _ f.mem with ⟨id,q⟩|⟨T,q⟩
  .have q:f.val=_:=q;rw[q] at args ⊢;exact Calls.callWith_builtin (dW hp) args
  .have q:f.val=_:=q;rw[q] at args ⊢;exact PyProof.Rows.callWith_type (dW hp) args
end
noncomputable def bi (f:BF) (l:CL):CE:=⟨fun K ρ=>bz (l.ev K ρ) (f.g K.hd),fun s=>dU fun x es=>x==f.nm&&dB s.sc x&&l.is s es,fun _ _ _ _ _ _ _ h I G w p=>JT f l h I G w p⟩
noncomputable def g1 (g:D->Option D):List PV->PM PV
 |[x]=>fun σ=>(rd σ x).bind fun u=>(g u).map fun z=>(.ok (.d z),σ)
 |_=>fun _=>none
noncomputable def g2 (g:D->D->Option D):List PV->PM PV
 |[x,y]=>HY g x y
 |_=>fun _=>none
section
variable {C:bq} {A:Around} {P:Pt} {K:R PV->av->Prop} {ps:List PV} {vs:List Value} {Q E:Value->Shared->Prop}
inductive zT (C:bq) (P:Pt) (p:PV) (ps:List PV):List Value->Prop
 |mk {v:Value} {vs:List Value}:RV C P v p->jI C P ps vs->zT C P p ps (v::vs)
def JZ (C:bq) (P:Pt) (vs:List Value):List PV->Prop
 |[]=>vs=[]
 |p::ps=>zT C P p ps vs
theorem jI.view (h:jI C P ps vs):JZ C P vs ps:=by
 cases h with
 |nil=>rfl
 |cons h r=>exact .mk h r
theorem iz {g:D->Option D} (q:List Value->Prop) (I:aE C P) (r:jI C P ps vs) (w:Wp K (g1 g ps P.σ)) (k:∀ v u z,fx C P v u->g u=some z->K (.ok (.d z)) P.σ->q [v]):q vs:=by
 match ps,r,w with
 |[x],r,w=>
  obtain ⟨r1,r2⟩:zT C P x [] vs:=r.view;rw[show _=[] from r2.view];have w:Wp K ((rd P.σ x).bind fun u=>(g u).map fun z=>(.ok (.d z),P.σ)):=w;cases e1:rd P.σ x with
  |none=>rw[e1] at w;exact w.elim
  |some u=>
   cases e2:g u with
   |none=>rw[e1,Od,e2] at w;exact w.elim
   |some z=>rw[e1,Od,e2] at w;exact k _ u z (bG I r1 e1) e2 w
 |[],_,w=>exact w.elim
 |_::_::_,_,w=>exact w.elim
theorem By {g:D->D->Option D} (q:List Value->Prop) (I:aE C P) (r:jI C P ps vs) (w:Wp K (g2 g ps P.σ)) (k:∀ x y u v z,fx C P x u->fx C P y v->g u v=some z->K (.ok (.d z)) P.σ->q [x,y]):q vs:=by
 match ps,r,w with
 |[x,y],r,w=>
  obtain ⟨r1,r2⟩:zT C P x [y] vs:=r.view;obtain ⟨r4,r3⟩:zT C P y [] _:=r2.view;rw[show _=[] from r3.view];obtain ⟨u,v,z,e1,e2,e3,w⟩:=zW w;exact k _ _ u v z (bG I r1 e1) (bG I r4 e2) e3 w
 |[],_,w=>exact w.elim
 |[_],_,w=>exact w.elim
 |_::_::_::_,_,w=>exact w.elim
noncomputable def DU (u:D):Option D:=(match u with
 | .str s=>some s.length
 | .tup l=>some l.length
 | .lst l=>some l.length
 |_=>none).bind fun n=>aq (n<=dX) (.int (n:Nat))
theorem Gv (I:aE C P):∀ {u z:D} {v:Value},fx C P v u->DU u=some z->mS C P z Q->wpAny C.M A (call (.builtin "len") [v]) Q E P.s:=by
 intro Z0 z v h e k;cases Z0 with
 |str l=>
  obtain ⟨hm,rfl⟩:=d9 e;obtain ⟨_,t,q⟩:oX l/\∃ t,v= .str (fU l) t:=RD.view h;rw[q];have k:=k.tok I (.int _ _) (P.s.toks+1+1) (v:=.int l.length (P.s.toks+1));simp only [dX] at hm;exact PyProof.Rows.len_str (by simp [Str.length];exact Lf hm) (by simpa [Str.length] using k)
 |tup l=>
  obtain ⟨hm,rfl⟩:=d9 e;obtain @⟨a,vs,n,o,r⟩:kC C P.own cj l v:=RD.view h;have k:=k.tok I (.int _ _) (P.s.toks+1+1) (v:=.int l.length (P.s.toks+1));simp only [dX] at hm;exact PyProof.Rows.len_tuple (items:=vs.toArray) ⟨_,I.fz _ _ o,rfl,n,rfl⟩ (by simp [r.length];exact Lf hm) (by simpa [r.length] using k)
 |lst l=>
  obtain ⟨hm,rfl⟩:=d9 e;obtain @⟨a,vs,n,o,_,r⟩:gU C P l v:=h;have k:=k.tok I (.int _ _) (P.s.toks+1+1) (v:=.int l.length (P.s.toks+1));simp only [dX] at hm;exact PyProof.Rows.len_list (items:=vs.toArray) ⟨_,o,rfl,_,rfl⟩ (by simp [r.length];exact Lf hm) (by simpa [r.length] using k)
 |_=>cases e
end
noncomputable def ba:BF:=⟨"len",.builtin "len",by decide+kernel,fun _=>g1 DU,fun {C A P hd K ps vs Q E} _ _ I r w p=>iz (fun vs=>wpAny C.M A (call (.builtin "len") vs) Q E P.s) I r w fun v u z h e k=>Gv I h e (p.fin k)⟩
noncomputable def KJ (u:D):Option D:=(iD u).bind fun b=>aq (bI b=true) (.rng 0 b 1)
noncomputable def kY:BF:=⟨"range",.type "range",by decide+kernel,fun _=>g1 KJ,fun {C A P hd K ps vs Q E} _ _ I r w p=>iz (fun vs=>wpAny C.M A (call (.type "range") vs) Q E P.s) I r w fun v u z h e k=>by
 obtain ⟨b,e1,e⟩:=ao e;obtain ⟨hs,rfl⟩:=d9 e;obtain ⟨t,q⟩:=dM e1 h;rw[q];exact call_range_1 ((p.fin k).note I (I.push rfl) _ (.rng 0 b 1 _ _ _ (bl _ _ _)))⟩
noncomputable def gP:BF:=⟨"tuple",.type "tuple",by decide+kernel,fun _=>g1 fun u=>(lD u).bind fun l=>aq (l.length<=dX) (.tup l),fun {C A P hd K ps vs Q E} _ _ I r w p=>iz (fun vs=>wpAny C.M A (call (.type "tuple") vs) Q E P.s) I r w fun v u z h e k=>by
 obtain ⟨l,e1,e⟩:=ao e;obtain ⟨hm,rfl⟩:=d9 e;obtain @⟨a,vs,n,o,_,rr⟩:=fN e1 h;refine call_tuple_list (items:=vs.toArray) ⟨_,o,rfl,_,rfl⟩ (fun h' kp=> ?_) (by rw[Oz,rr.length];exact Om hm (by decide));have hn:h'.objs.size≥P.h.objs.size∨True:=.inr trivial;have own:P.own h'.objs.size= .no:=by
  by_cases q:P.own h'.objs.size= .no
  .exact q
  .obtain ⟨o,ho⟩:=I.live _ q;exact absurd (OK (kp _ _ ho)) (OU _)
 have H:C.H.get? h'.objs.size=none:=by
  cases q:C.H.get? h'.objs.size with
  |none=>rfl
  |some o=>exact absurd (OK (kp _ _ (I.base _ _ q).1)) (OU _)
 exact (p.fin k).note I ⟨fun b o e=>Ol _ (kp b o e),own,H,Ox _ rfl⟩ P.s.toks (qL I own rr rfl)⟩
noncomputable def jA:List D->Option (List Bool)
 |[]=>some []
 | .bool b::r=>(jA r).map (b::·)
 |_=>none
noncomputable def off {α:Type} (hd:Bool) (m:PM α):PM α:=fun σ=>match hd with
 |true=>none
 |false=>m σ
theorem gx {α:Type} {hd:Bool} {K:R α->av->Prop} {m:PM α} {σ:av} (w:Wp K (off hd m σ)):hd=false/\Wp K (m σ):=by
 cases hd with
 |true=>exact w.elim
 |false=>exact ⟨rfl,w⟩
theorem wu {C:bq} {w:bp} {l:List D}:∀ {vs:List Value} {bs:List Bool},RDs C w l vs->jA l=some bs->vs=bs.map Value.bool:=by
 induction l with
 |nil=>exact fun r e=>by cases e;exact r.view
 |cons x l ih=>
  intro vs bs r e;cases x with
  |bool b=>
   obtain ⟨r1,r2⟩:eQ C w (.bool b) l vs:=r.view;obtain ⟨bs',e1,rfl⟩:=aZ e;rw[show _=Value.bool b from r1.view,ih r2 e1];rfl
  |_=>cases e
theorem zN {bs:List Bool}:(List.range bs.length).all (fun i=>(bs[i]?).getD true)=bs.all id:=by
 rw[Bool.eq_iff_iff,List.all_eq_true,List.all_eq_true];constructor
 .intro h b hb;obtain ⟨i,hi⟩:=List.mem_iff_getElem?.mp hb;have:=h i (List.mem_range.mpr (Og.mp hi).1);rw[hi] at this
  simpa using this
 .intro h i hi;have hi':=List.mem_range.mp hi;rw[Oh hi']
  simpa using h _ (List.getElem_mem hi')
theorem Hr {C:bq} {A:Around} {P:Pt} {Q E:Value->Shared->Prop} {l:List D} {v:Value} {bs:List Bool} (I:aE C P) (hh:A.handled=none) (h:gU C P l v) (e2:jA l=some bs) (k:mS C P (.bool (bs.all id)) Q):wpAny C.M A (call (.builtin "all") [v]) Q E P.s:=by
 obtain @⟨a,vs,q,g,_,hs⟩:=h;have hvs:=wu hs e2;have hl:P.h.IsList a vs.toArray:=⟨_,g,rfl,_,rfl⟩;have hane:a≠P.h.objs.size:=Nat.ne_of_lt (OK g);refine call_all_walk (wpAny_pyIter_list hl ?_);refine ⟨_,_,_,_,_,_,fun i=>(bs[i]?).getD true,rfl,Walks.list (A:=A.in1) hh P.h.objs.size _ hane vs.toArray,⟨⟨_,Ox _ rfl,rfl,rfl⟩,hl.at fun o e=>Ol _ e⟩,?_,fun h' tk kp=> ?_⟩
 .intro i v s' Q' E' hP hQ;rw[hvs] at hP;simp only [List.getElem?_toArray,Ou] at hP;obtain ⟨b,hb,rfl⟩:=OY.mp hP;dsimp only at hQ;rw[hb] at hQ;exact wpAny_truthy_bool hQ
 .have hn:vs.toArray.size=bs.length:=by simp [hvs]
  rw[hn,zN];refine k.grown I (fun b o e=>kp b o (fun hm=> ?_) (Ol _ e)) (.bool _) _;rw[Oi.mp hm] at e;exact absurd (OK e) (OU _)
noncomputable def wg:BF:=⟨"all",.builtin "all",by decide+kernel,fun hd ps=>off hd (g1 (fun u=>(lD u).bind fun l=>(jA l).map fun bs=>.bool (bs.all id)) ps),fun {C A P hd K ps vs Q E} _ hh I r w p=>iz (fun vs=>wpAny C.M A (call (.builtin "all") vs) Q E P.s) I r (gx w).2 fun v u z h e k=>by
 obtain ⟨l,e1,e⟩:=ao e;obtain ⟨bs,e2,rfl⟩:=aZ e;exact Hr I (hh (gx w).1) (fN e1 h) e2 (p.fin k)⟩
structure MF where
 nm:Str
 T:String
 id:String
 pa:PlainAttrs T
 sl:Slot T nm id
 ty:typeOf (.builtin id)=pure (.type "method_descriptor")
 fit:PV->D->Bool
 fitok:∀ {C:bq} {P:Pt} {v:Value} {p:PV} {x:D},aE C P->RV C P v p->rd P.σ p=some x->fit p x=true->P.s.TypeIs v T/\∀ a,v= .ref a->∃ ob,P.h.get? a=some ob/\ob.dict=none
 g:PV->List PV->PM PV
 ok:∀ {C:bq} {A:Around} {P:Pt} {K:R PV->av->Prop} {x:PV} {ps:List PV} {v:Value} {vs:List Value} {Q E:Value->Shared->Prop},eA C->aE C P->RV C P v x->jI C P ps vs->Wp K (g x ps P.σ)->dt C A (RV C) P K Q E->wpAny C.M A (call (.builtin id) (v::vs)) Q E P.s
theorem r8 {v:Expr} {x:Str} {env:Env} (h:fb v=true):attributeBase v x env (eval v env)=eval v env:=by
 cases v with
 |Call f es kw pos=>
  cases f<;>first|rfl|skip
  cases es<;>first|rfl|skip
  cases kw<;>first|rfl|(cases h;done)
 |_=>rfl
theorem BC {l:CL} {sx:Sx} {env:Env} {pos:Pos} {es:List Expr} (h:l.is sx es=true) (hl:es.length<29):
  ((backTo pos (starEach es env)).all (fun x=> !x.1)&&(backToKw pos (keywordEach [] env)).all (fun x=>x.1.isSome)&&decide (es.length+([]:List Keyword).length+(if ([]:List Keyword).isEmpty then 0 else 1)<30))=true:=by
 have hp:=l.star sx es env pos h;have h1:(backTo pos (starEach es env)).all (fun x=> !x.1)=true:=List.all_eq_true.mpr fun x hx=>by rw[hp x hx];rfl
 have h2:decide (es.length+([]:List Keyword).length+(if ([]:List Keyword).isEmpty then 0 else 1)<30)=true:=Os (by simp;exact Nat.lt_succ_of_lt hl);rw[h1,h2];rfl
noncomputable def Ej (f:PV->D->Bool) (x:PV) (m:PM PV):PM PV:=fun σ=>match (rd σ x).any (f x) with
 |true=>m σ
 |false=>none
theorem FC {f:PV->D->Bool} {x:PV} {m:PM PV} {K:R PV->av->Prop} {σ:av} (w:Wp K (Ej f x m σ)):(∃ u,rd σ x=some u/\f x u=true)/\Wp K (m σ):=by
 unfold Ej at w;cases e:rd σ x with
 |none=>rw[e] at w;exact w.elim
 |some u=>
  rw[e] at w;have w:Wp K (match f x u with|true=>m σ|false=>none):=w
  cases q:f x u with
  |true=>rw[q] at w;exact ⟨⟨u,rfl,q⟩,w⟩
  |false=>rw[q] at w;exact w.elim
section
variable {X:Cx} {e:Expr} {ρ:a9} {P:Pt} {K:R PV->av->Prop} {Q E:Value->Shared->Prop}
theorem JR (f:MF) (o:CE) (l:CL) (h:kt (fun v x ap es pos=>x==f.nm&&fb v&&ap.endLine==pos.line&&o.is X.sx v&&l.is X.sx es&&decide (es.length<29)) e=true) (I:aE X.C P) (G:EnvOK X P ρ) (w:Wp K (bz (o.ev X.ker ρ) (fun x=>Ej f.fit x (bz (l.ev X.ker ρ) fun ps=>f.g x ps)) P.σ)) (p:bg X (RV X.C) P K Q E):wpAny X.M X.A (eval e X.env) Q E P.s:=
 kq (fun e=>wpAny X.M X.A (eval e X.env) Q E P.s) h fun v x ap es pos h=>by
  rw[bu (ah (ah (ah (ah (ah h)))))];have hl:=ak (ah h);have hp:=l.star X.sx es X.env pos hl;refine wpAny_Call_method_late (r8 (ak (ah (ah (ah (ah h)))))) (BC hl (OT (ak h))) (ak (ah (ah (ah h)))) rfl ?_;refine o.ok X v ρ P _ _ E (ak (ah (ah h))) I G (aH w) (p.bind fun x v P1 g1 I1 r1 w p=> ?_);obtain ⟨⟨u,e1,e2⟩,w⟩:=FC w;obtain ⟨k4,k5⟩:=f.fitok I1 r1 e1 e2;refine ⟨f.T,f.id,f.pa,f.sl,f.ty,k4,k5,?_⟩;refine Calls.callWith_builtin (dW hp) (cW hp ?_);exact l.ok X es pos ρ P1 _ _ E hl I1 (G.ext g1) (aH w) (p.bind fun ps vs P2 g2 I2 r2 w p=>f.ok X.good I2 (r1.ext g2.toExt) r2 w p)
end
noncomputable def bm (f:MF) (o:CE) (l:CL):CE:=⟨fun K ρ=>bz (o.ev K ρ) fun x=>Ej f.fit x (bz (l.ev K ρ) fun ps=>f.g x ps),fun s=>kt fun v x ap es pos=>x==f.nm&&fb v&&ap.endLine==pos.line&&o.is s v&&l.is s es&&decide (es.length<29),fun _ _ _ _ _ _ _ h I G w p=>JR f o l h I G w p⟩
noncomputable def N':D->Bool
 | .lst _=>true
 |_=>false
noncomputable def GO:D->Bool
 | .dct _ _=>true
 |_=>false
section
variable {C:bq} {A:Around} {P:Pt} {K:R PV->av->Prop} {Q E:Value->Shared->Prop}
noncomputable def D3:PV->D->Bool
 | .p _ _,.lst _=>true
 |_,_=>false
theorem Eh {v:Value} {p:PV} {x:D} (I:aE C P) (r:RV C P v p) (h:rd P.σ p=some x) (e:D3 p x=true):P.s.TypeIs v "list"/\∀ a,v= .ref a->∃ ob,P.h.get? a=some ob/\ob.dict=none:=by
 cases p with
 |d y=>cases e
 |b _ _=>cases e
 |p n j=>
  obtain ⟨f,e1,e2⟩:=Option.bind_eq_some_iff.mp h;have q:=lR I r e1 (gz e2).2;cases f with
  |list l=>
   obtain ⟨_,g,ws,m,e3,_⟩:=q;subst e3;exact ⟨⟨_,g,rfl⟩,fun b q=>by cases q;exact ⟨_,g,rfl⟩⟩
  |dict a b=>cases e2;cases e
  |d y=>cases e2
theorem Ei {v:Value} {p:PV} {x:D} (I:aE C P) (r:RV C P v p) (hh:rd P.σ p=some x) (e:GO x=true):P.s.TypeIs v "dict"/\∀ a,v= .ref a->∃ ob,P.h.get? a=some ob/\ob.dict=none:=by
 cases x with
 |dct ks ps=>
  obtain ⟨g,_,h,_⟩:wG C P ks ps v:=bG I r hh;cases h with
  |mk d l _ h1 _=>
   letI:=d.dec
   have hD:=Heap.dictOf_iff.mpr ⟨_,g,h1⟩;exact ⟨hD.typeIs,hD.mapOf.noDict⟩
  |pr xs es ep h1=>
   exact ⟨⟨_,g,h1.1⟩,fun a e=>by cases e;exact ⟨_,g,h1.2.1⟩⟩
 |_=>cases e
noncomputable def E7 (x:PV) (g:cb->Option cb):PM PV:=match x with
 | .p n j=>fun σ=>(bU σ n j).bind fun f=>(g f).map fun f'=>(.ok (.d .none),d8 σ n j f')
 |_=>fun _=>none
theorem CR {x:PV} {g:cb->Option cb} {σ:av} (w:Wp K (E7 x g σ)):∃ n j f f',x= .p n j/\bU σ n j=some f/\g f=some f'/\K (.ok (.d .none)) (d8 σ n j f'):=by
 cases x with
 |d=>exact w.elim
 |b=>exact w.elim
 |p n j=>
  have w:Wp K ((bU σ n j).bind fun f=>(g f).map fun f'=>(.ok (.d .none),d8 σ n j f')):=w;cases e1:bU σ n j with
  |none=>rw[e1] at w;exact w.elim
  |some f=>
   cases e2:g f with
   |none=>rw[e1,Od,e2] at w;exact w.elim
   |some f'=>rw[e1,Od,e2] at w;exact ⟨n,j,f,f',rfl,e1,e2,w⟩
theorem w6 {o:PO} {j:Nat} {f f':cb} (h:o.at j=some f):∀ i,o.has i->(o.put j f').has i:=fun i=>by
 cases o with
 |fld=>exact id
 |rcd b l=>intro q;show i<(l.set (j - 2) f').length+2;rw[OE];exact q
 |dead=>exact id
 |wrp _=>exact id
theorem BD {w:bp} {h:Heap} {n i:Nat} {v:Value}:∀ {f:cb},(∀ x,f≠ .d x)->iK C w h n (i+2) f v->FA C w h n i v f
 | .d x,hf,_=>absurd rfl (hf x)
 | .list _,_,r=>r
 | .dict _ _,_,r=>r
theorem iK.is (I:aE C P) {n j:Nat} {f:cb} {v:Value} {a:Addr} (q:iK C P.own P.h n j f v) (ha:P.own a= .cell n j):v= .ref a:=by
 obtain ⟨z1,_,_⟩:=q;rw[I.one _ _ _ _ z1 ha]
theorem FV {h':Heap} {n j:Nat} {a:Addr} {f f':cb} {o':Obj} (I:aE C P) (hf':∀ x,f'≠ .d x) (hf:∀ x,f≠ .d x) (ha:P.own a= .cell n j) (hs:∀ b o,b≠a->P.h.get? b=some o->h'.get? b=some o) (ho:h'.get? a=some o') (r:RF C P.own o' f'):
  ∀ {o:PO},RO C P.own P.h n o->o.at j=some f->RO C P.own h' n (o.put j f'):=by
 have k:∀ b i o,P.own b= .cell n i->i≠j->P.h.get? b=some o->h'.get? b=some o:=fun b i o e ne q=>hs b o (fun c=>by rw[c,ha] at e;cases e;exact ne rfl) q;have fa:∀ (l:List cb) (i:Nat) (x:cb) (v:Value),j=i+2->l[i]? =some f->∀ i' y,(l.set i f')[i']? =some y->(∀ y,l[i']? =some y->FA C P.own P.h n i' v y)->(i'=i->v= .ref a)->FA C P.own h' n i' v y:=fun l i x v ej e i' y e' q1 q2=>by
  by_cases c:i=i'
  .subst c;rw[List.getElem?_set_self (Og.mp e).1] at e';cases e';rw[q2 rfl];exact BD hf' (.mk (ej ▸ ha) ho r)
  .rw[OI c] at e';have q:=q1 y e';cases y with
   |d x=>exact q
   |list l=>
    obtain ⟨z1,z2,z3⟩:iK C P.own P.h n (i'+2) (.list l) v:=q;exact iK.mk z1 (k _ _ _ z1 (by omega) z2) z3
   |dict ks ps=>
    obtain ⟨z1,z2,z3⟩:iK C P.own P.h n (i'+2) (.dict ks ps) v:=q;exact iK.mk z1 (k _ _ _ z1 (by omega) z2) z3
 intro o ro e;rcases o with f0|⟨b,l⟩|_|f0
 .cases j with
  |zero=>exact ⟨_,.mk ha ho r⟩
  |succ j=>cases e
 .rcases j with _|_|i
  .cases e
  .cases e
  have e:l[i]? =some f:=e;cases b with
  |true=>
  obtain @⟨x,d,es,m,h1,h2,h3,h4,h5,h6,h7,h8⟩:hR C P.own P.h n l:=ro;refine hR.mk h1 (k _ _ _ h1 nofun h2) h3 (k _ _ _ h3 (LC) h4) h5 (by rw[OE];exact h6) (by rw[OE];exact h7) fun i' y en e1 e2=> ?_;refine fa l i y en.val rfl e i' y e1 (fun y q=>h8 i' y en q e2) fun c=> ?_;subst c;exact ((h8 _ f en e e2).at hf).is I ha
  |false=>
  obtain @⟨d,o,kvs,h1,h2,h3,h4,h5,h6,h8⟩:oQ C P.own P.h n l:=ro;refine oQ.mk h1 (k _ _ _ h1 nofun h2) h3 (by rw[OE];exact h4) (by rw[OE];exact h5) h6 fun i' y en e1 e2=> ?_;refine fa l i y en.2 rfl e i' y e1 (fun y q=>h8 i' y en q e2) fun c=> ?_;subst c;exact ((h8 _ f en e e2).at hf).is I ha
 .cases j<;>cases e
 .rcases j with _|_|_|j
  .cases e
  .cases e
  .obtain ⟨t,vs,q,v,z1,z2,z3,z4⟩:=ro;refine ⟨t,vs,q,v,z1,k t 0 _ z1 nofun z2,z3,?_⟩;rw[z4.is I ha];exact .mk ha ho r
  .cases e
theorem yE {n j:Nat} {f:cb} {o:PO} {σ:av} (e:σ[n]? =some o):d8 σ n j f=σ.set n (o.put j f):=by
 unfold d8;rw[e]
theorem qu {h':Heap} {t n j:Nat} {a:Addr} {f f':cb} {o':Obj} (I:aE C P) (hf':∀ x,f'≠ .d x) (hf:∀ x,f≠ .d x) (e:bU P.σ n j=some f) (ha:P.own a= .cell n j) (hs:∀ b o,b≠a->P.h.get? b=some o->h'.get? b=some o) (ho:h'.get? a=some o') (r:RF C P.own o' f'):
  ∃ P',bv P P'/\aE C P'/\P'.σ=d8 P.σ n j f'/\P'.own=P.own/\P'.s={P.s with heap:=h',toks:=t}:=by
 obtain ⟨o,e1,e2⟩:=ao e;exact ⟨P.turn h' t n (o.put j f'),.turn e1 (w6 e2),I.turn (w6 e2) e1 ha hs ho (FV I hf' hf ha hs ho r (I.obj n o e1) e2),(yE e1).symm,rfl,rfl⟩
theorem kA {s:Shared} {l:Addr} {vs:List Value} {n:Nat} {x:Value} (ho:s.heap.get? l=some (aJ vs n)) (hsz:vs.length<=sizeLine)
  (hQ:∀ h' n',h'.get? l=some (aJ (vs++[x]) n')->Heap.SameBut l s.heap h'->Q .none {s with heap:=h'}):wpAny C.M A (call (.builtin "list.append") [.ref l,x]) Q E s:=by
 have hl:s.heap.IsList l vs.toArray:=⟨_,ho,rfl,n,rfl⟩;refine wpAny_call_entry slot_list_append hl.typeIs entry_list_append ?_ (args_list_append _ _);show wpAny _ _ (updateSeq l (·.push x)>>=fun _=>PySem.ret .none) _ _ s;have e1:∃ n',(aJ vs n).mapSeq (·.push x)=aJ (vs++[x]) n':=⟨_,by simp [Obj.mapSeq];rfl⟩;obtain ⟨n',e1⟩:=e1;have g:=Heap.get?_update_self (Obj.mapSeq (·.push x)) ho (by rw[e1];rfl);rw[e1] at g;exact Op (wpAny_updateSeq (hz:=by simpa using hsz) ho rfl (Oq ⟨.none,rfl,hQ _ n' (by simpa using g) (Heap.SameBut.update ..)⟩))
noncomputable def Hp (y:D):cb->Option cb
 | .list l=>aq (l.length<dX) (.list (l++[y]))
 |_=>none
noncomputable def JX (x:PV):List PV->PM PV
 |[.d y]=>E7 x (Hp y)
 |_=>fun _=>none
theorem Ho {x:PV} {ps:List PV} {v:Value} {vs:List Value} (I:aE C P) (r:RV C P v x) (rs:jI C P ps vs) (w:Wp K (JX x ps P.σ)) (p:dt C A (RV C) P K Q E):wpAny C.M A (call (.builtin "list.append") (v::vs)) Q E P.s:=by
 have s:∃ y,ps=[.d y]:=by
  cases ps with
  |nil=>exact w.elim
  |cons y t=>
  cases y with
  |d y=>
   cases t with
   |nil=>exact ⟨y,rfl⟩
   |cons _ _=>exact w.elim
  |_=>cases t<;>exact w.elim
 obtain ⟨y,rfl⟩:=s;obtain @⟨u,_,r1,r2⟩:zT C P (.d y) [] vs:=rs.view;rw[show _=[] from r2.view];obtain ⟨n,j,f,f',e1,e2,e3,k⟩:=CR w;subst e1;cases f with
 |list l=>
  obtain ⟨hl,q⟩:=d9 e3;obtain @⟨a,o,h1,h2,h3⟩:=lR I r e2 (fun _ h=>by cases h);obtain ⟨ws,m,e4,rr⟩:=h3;subst q;subst e4;refine kA h2 (by rw[rr.length];exact Om (OQ hl) (by decide)) fun h' n' z1 z2=> ?_;obtain ⟨P',q1,q2,q3,q4,q5⟩:=qu (t:=P.s.toks) (f':=.list (l++[y])) I (fun _ h=>by cases h) (fun _ h=>by cases h) e2 h1 (fun b o hb e=>z2.extBut b o hb e) z1 ⟨_,n',rfl,rr.append (.cons r1 .nil)⟩;have:=p.ok (.d .none) .none P' q1 q2 .none (by rw[q3];exact k);rw[q5] at this;exact this
 |_=>cases e3
end
noncomputable def aN:MF:=⟨"append","list","list.append",F.plainAttrs_list,F.slot_list_append,F.type_list_append,D3,Eh,JX,fun _ I r rs w p=>Ho I r rs w p⟩
noncomputable def Bw (u k z:D):Option D:=match u with
 | .dct ks vs=>aq (i8 k ks=true) ((dJ k ks vs).getD z)
 |_=>none
noncomputable def gG (x:PV):List PV->PM PV
 |[.d k,.d z]=>fun σ=>(rd σ x).bind fun u=>(Bw u k z).map fun r=>(.ok (.d r),σ)
 |_=>fun _=>none
section
variable {C:bq} {A:Around} {P:Pt} {K:R PV->av->Prop} {Q E:Value->Shared->Prop}
theorem D_ {u k z y:D} {x vk vz:Value} (G:eA C) (I:aE C P) (hu:fx C P x u) (hk:RD C P.own k vk) (hz:RD C P.own z vz) (e:Bw u k z=some y) (f:mS C P y Q):wpAny C.M A (call (.builtin "dict.get") [x,vk,vz]) Q E P.s:=by
 cases u with
 |dct ks ps=>
  obtain ⟨hf,q⟩:=d9 e;subst q;obtain @⟨a,o,vs,h1,h2,h3,h4⟩:wG C P ks ps x:=hu;obtain ⟨d,l,c,hd,h5,e1,e2,h6,e3,h7,h8⟩:=rz h3 hk hf;subst e1;subst e2;subst e3
  letI:=d.dec
  have hl:=mF hd c h4;have hD:=Heap.dictOf_iff.mpr ⟨o,h1,h5⟩;have rr:RD C P.own ((dJ (d.toD c) (l.map fun p=>d.toD p.1) ps).getD z) ((valueAt l c).getD vz):=by
   revert hl
   cases dJ (d.toD c) (l.map fun p=>d.toD p.1) ps<;>cases valueAt l c<;>intro hl<;>first|exact hz|exact hl.elim|exact hl
  exact call_meetsIn PySem.F.slot_dict_get hD.typeIs PySem.F.entry_dict_get (PySem.F.args_dict_get_3 _ _ _) (meets_dict_get_default _ a h7 (fB G I h2) vz) ⟨_,hD.mapOf,f.tok I rr _⟩
 |_=>cases e
theorem GV {x:PV} {ps:List PV} {v:Value} {vs:List Value} (G:eA C) (I:aE C P) (r:RV C P v x) (rs:jI C P ps vs) (w:Wp K (gG x ps P.σ)) (p:dt C A (RV C) P K Q E):wpAny C.M A (call (.builtin "dict.get") (v::vs)) Q E P.s:=by
 have s:∃ k z,ps=[.d k,.d z]:=by
  cases ps with
  |nil=>exact w.elim
  |cons y t=>
  cases t with
  |nil=>cases y<;>exact w.elim
  |cons z t=>
  cases y with
  |d y=>
   cases z with
   |d z=>
    cases t with
    |nil=>exact ⟨y,z,rfl⟩
    |cons _ _=>exact w.elim
   |_=>cases t<;>exact w.elim
  |_=>cases z<;>cases t<;>exact w.elim
 obtain ⟨k,z,rfl⟩:=s;obtain @⟨vk,_,r1,r2⟩:zT C P (.d k) [.d z] vs:=rs.view;obtain @⟨vz,_,r3,r4⟩:zT C P (.d z) [] _:=r2.view;rw[show _=[] from r4.view];have w:Wp K ((rd P.σ x).bind fun u=>(Bw u k z).map fun r=>(.ok (.d r),P.σ)):=w;cases e1:rd P.σ x with
 |none=>rw[e1] at w;exact w.elim
 |some u=>
  cases e2:Bw u k z with
  |none=>rw[e1,Od,e2] at w;exact w.elim
  |some y=>rw[e1,Od,e2] at w;exact D_ G I (bG I r e1) r1 r3 e2 (p.fin w)
end
noncomputable def yT:MF:=⟨"get","dict","dict.get",F.plainAttrs_dict,F.slot_dict_get,F.type_dict_get,fun _=>GO,Ei,gG,fun G I r rs w p=>GV G I r rs w p⟩
noncomputable def NL (u v:D):Option Bool:=match v with
 | .dct ks vs=>aq (i8 u ks=true) (dJ u ks vs).isSome
 |_=>none
section
variable {X:Cx} {e:Expr} {ρ:a9} {P:Pt} {K:R PV->av->Prop} {Q E:Value->Shared->Prop}
theorem aE.szF {C:bq} (I:aE C P) (h:P.fs≠[]):C.H.objs.size<=P.h.objs.size:=by
 cases q:P.fs with
 |nil=>exact absurd q h
 |cons f r=>
  have z:=I.fr.ns f (by rw[q];exact .head _);exact OQ (OC z.2.2 z.1.lt)
theorem qd {f:Nat} {ps:List PV} {vs:List Value} (I:aE X.C P) (G:EnvOK X P ρ) (r:jI X.C P ps vs) (w:Wp K (X.ker.Φ X.ker.hd f ps P.σ)) (p:bg X (RV X.C) P K Q E):wpAny X.M X.A (call (.ref (X.C.fadr f)) vs) Q E P.s:=
 wpAny_call (X.calls X.hd X.A P f ps vs K Q E G.frs (I.szF G.ne) (by have:=X.dep;exact OC (OS (by decide) _) this) (by have:=X.uni;exact OC (OS (by decide) _) this) X.hnd I r w p)
theorem EF (f:Nat) (l:CL) (h:dU (fun x es=>x==(X.sx.fnm f).1&& !(X.sx.fnm f).2&&dB X.sx.sc x&&l.is X.sx es) e=true) (I:aE X.C P) (G:EnvOK X P ρ) (w:Wp K (bz (l.ev X.ker ρ) (X.ker.Φ X.ker.hd f) P.σ)) (p:bg X (RV X.C) P K Q E):wpAny X.M X.A (eval e X.env) Q E P.s:=
 dT (fun e=>wpAny X.M X.A (eval e X.env) Q E P.s) h fun x px es pos h=>by
  have hw:=ak (ah h);rw[bu (ah (ah (ah h)))] at hw ⊢;obtain ⟨hn,o,fd,ho,hdata⟩:=X.good.fn f ((Bool.not_eq_true' _).mp (ak (ah (ah h))));refine wpAny_Call_NameR (du I hw hn ?_);refine Calls.callWith_function (o:=o) (fd:=fd) (cW (l.star X.sx es X.env pos (ak h)) ?_);exact l.ok X es pos ρ P _ _ E (ak h) I G (aH w) (p.bind fun ps vs P1 g1 I1 r1 w p=>⟨⟨(I1.base _ _ ho).1,hdata⟩,qd I1 (G.ext g1) r1 w p⟩)
end
noncomputable def ax (f:Nat) (l:CL):CE:=⟨fun K ρ=>bz (l.ev K ρ) (K.Φ K.hd f),fun s=>dU fun x es=>x==(s.fnm f).1&& !(s.fnm f).2&&dB s.sc x&&l.is s es,fun _ _ _ _ _ _ _ h I G w p=>EF f l h I G w p⟩
noncomputable def cA (b:Bool) (σ:av) (n:Nat):Option (List cb):=match σ[n]? with
 |some (.rcd c l)=>if c=b then some l else none
 |_=>none
theorem iN {b:Bool} {σ:av} {n:Nat} {l:List cb} (h:cA b σ n=some l):σ[n]? =some (.rcd b l):=by
 unfold cA at h;split at h
 .rename_i c l' e
  split at h
  .rename_i q;cases h;cases q;exact e
  .cases h
 .cases h
noncomputable def zv (n k:Nat):cb->PV
 | .d x=>.d x
 |_=>.p n (k+2)
noncomputable def oE (b:Bool) (k:Nat):PV->PM PV
 | .p n 0=>fun σ=>(cA b σ n).bind fun l=>(l[k]?).map fun f=>(.ok (zv n k f),σ)
 |_=>fun _=>none
theorem wH {b:Bool} {k:Nat} {x:PV} {σ:av} {K:R PV->av->Prop} (w:Wp K (oE b k x σ)):∃ n l f,x= .p n 0/\σ[n]? =some (.rcd b l)/\l[k]? =some f/\K (.ok (zv n k f)) σ:=by
 match x,w with
 | .p n 0,w=>
  have w:Wp K ((cA b σ n).bind fun l=>(l[k]?).map fun f=>(.ok (zv n k f),σ)):=w;cases e1:cA b σ n with
  |none=>rw[e1] at w;exact w.elim
  |some l=>
   cases e2:l[k]? with
   |none=>rw[e1,Od,e2] at w;exact w.elim
   |some f=>rw[e1,Od,e2] at w;exact ⟨n,l,f,rfl,iN e1,e2,w⟩
 | .p _ (_+1),w=>exact w.elim
 | .d _,w=>exact w.elim
section
variable {C:bq} {A:Around} {P:Pt} {Q E:Value->Shared->Prop}
theorem Au (I:aE C P) {b:Bool} {n k:Nat} {l:List cb} {v:Value} (e:P.σ[n]? =some (.rcd b l)):∀ {f:cb},l[k]? =some f->FA C P.own P.h n k v f->RV C P v (zv n k f)
 | .d _,_,r=>r
 | .list m,h,r=>⟨⟨_,e,Nat.add_lt_add_right (Og.mp h).1 2⟩,fun _ q=>iK.is I (f:=.list m) r q⟩
 | .dict x y,h,r=>⟨⟨_,e,Nat.add_lt_add_right (Og.mp h).1 2⟩,fun _ q=>iK.is I (f:=.dict x y) r q⟩
theorem r9 (x y:Str) (t:Tok):(Value.str x t).isStr y=decide (x=y):=by
 show (x==y)=_;rw[Bool.eq_iff_iff,beq_iff_eq,decide_eq_true_eq]
theorem Cm {C:bq} (inj:∀ i,i<7->∀ k,k<7->C.att i=C.att k->i=k):∀ {es:List DictEntry} {off k:Nat} {e:DictEntry},(∀ (i:Nat) (e:DictEntry),es[i]? =some e->∃ t,e.key=Value.str (C.att (off+i)) t)->off+es.length<=7->es[k]? =some e->es.find? (·.key.isStr (C.att (off+k)))=some e:=by
 intro es
 induction es with
 |nil=>
  intro _ _ _ _ _ h;cases h
 |cons a es ih=>
  intro off k e h hl hk;obtain ⟨t,ht⟩:=h 0 a rfl;simp only [Ok] at hl;cases k with
  |zero=>
   cases hk;rw[List.find?_cons,ht,r9,Os (by rfl)]
  |succ k=>
   have hk':es[k]? =some e:=hk;have hlt:=(Og.mp hk').1;rw[List.find?_cons,ht,r9,O3 (fun q=>by have:=inj _ (by exact Nat.lt_of_add_right_lt hl) _ (LB hl hlt) q;omega)];have:=ih (off:=off+1) (k:=k) (e:=e) (fun i e he=>by have:=h (i+1) e he;rw[show off+(i+1)=off+1+i by exact LK] at this;exact this) (by exact LA hl) hk';rw[show off+1+k=off+(k+1) by exact Iv] at this;exact this
theorem uA {C:bq}:∀ {es:List DictEntry} {off:Nat} {x:Str},(∀ (i:Nat) (e:DictEntry),es[i]? =some e->∃ t,e.key=Value.str (C.att (off+i)) t)->(∀ i,off<=i->i<off+es.length->C.att i≠x)->es.find? (·.key.isStr x)=none/\es.any (·.refKey)=false:=by
 intro es
 induction es with
 |nil=>
  intro _ _ _ _;exact ⟨rfl,rfl⟩
 |cons a es ih=>
  intro off x h hn;obtain ⟨t,ht⟩:=h 0 a rfl;have ih:=ih (off:=off+1) (x:=x) (fun i e he=>by have:=h (i+1) e he;rw[show off+(i+1)=off+1+i by exact LK] at this;exact this) (fun i h1 h2=>hn i (by exact Nat.le_of_succ_le h1) (by simp only [Ok];exact Nx h2));refine ⟨?_,?_⟩
  .rw[List.find?_cons,ht,r9,O3 (hn (off+0) (Oo _) (by simp only [Ok];exact Lz))];exact ih.1
  .rw[List.any_cons,ih.2,Bool.or_false];unfold DictEntry.refKey;rw[ht]
theorem ww {es:List DictEntry} (h:oC C es) (i:Nat) (e:DictEntry) (he:es[i]? =some e):∃ t,e.key=Value.str (C.att (0+i)) t:=by rw[O4];exact (h i e he).1
theorem zp:∀ {x:D} {v:Value} {w:bp},RD C w x v->PySem.W.handedIn v=true
 |_,_,_,r=>by cases r<;>rfl
theorem zq {w:bp} {h:Heap} {n i:Nat} {v:Value}:∀ {f:cb},FA C w h n i v f->PySem.W.handedIn v=true
 | .d _,r=>zp r
 | .list l,r=>by
  obtain ⟨_,_,_⟩:iK C w h n (i+2) (.list l) v:=r;rfl
 | .dict ks ps,r=>by
  obtain ⟨_,_,_⟩:iK C w h n (i+2) (.dict ks ps) v:=r;rfl
theorem v8 {n k:Nat} {l:List cb} {f:cb} {vx:Value} {expr:Bool} (G:eA C) (hk:k<7) (I:aE C P) (hx:RV C P vx (.p n 0)) (e1:P.σ[n]? =some (.rcd true l)) (e2:l[k]? =some f) (kk:∀ v t,FA C P.own P.h n k v f->Q v {P.s with toks:=t}):
  wpAny C.M A (PySem.getAttr vx (C.att k) expr) Q E P.s:=by
 obtain @⟨x,d,es,m,h1,h2,h3,h4,h5,h6,h7,h8⟩:hR C P.own P.h n l:=I.obj n _ e1;rw[hx.2 x h1];have W:=G.cls;obtain ⟨cd,c1,c2⟩:=W.cd;have hlt:k<es.length:=by rw[h6];exact (Og.mp e2).1
 have hen:es[k]? =some es[k]:=Oh hlt;have fa:=h8 k f _ e2 hen;have X:PySem.W.Frag.In C.K P.h:=W.X.keeps fun b o e=>(I.base b o e).1;have hfind:es.find? (·.key.isStr (C.att k))=some es[k]:=by
  have:=Cm W.inj (off:=0) (k:=k) (ww h5) (Ly h6 h7) hen
  rwa [O4] at this
 have hlook:PySem.W.lookIn (C.att k) (dp es m)=some (some es[k].val):=by
  unfold PySem.W.lookIn;show (match es.find? (·.key.isStr (C.att k)) with|some e=>some (some e.val)|none=>_)=_
  rw[hfind]
 refine PySem.W.get_value X (show PySem.W.InstAt P.h x (kN C.book d) C.book (some (dp es m)) from ⟨h2,rfl,rfl,h4⟩) W.ga ?_ (zq fa) (kk _ _ fa);unfold PySem.W.findObj;rw[c1,W.no k hk];show (PySem.W.ownOf cd (some (dp es m)) (C.att k)).bind _=_;unfold PySem.W.ownOf;rw[c2,if_pos rfl];show (PySem.W.lookIn (C.att k) (dp es m)).bind _=_;rw[hlook];rfl
end
section
variable {X:Cx} {e:Expr} {ρ:a9} {P:Pt} {K:R PV->av->Prop} {Q E:Value->Shared->Prop}
theorem EN (a:CE) (k:Nat) (h:cZ (fun v x _=>x==X.sx.att k&&decide (k<7)&&fb v&&a.is X.sx v) e=true) (I:aE X.C P) (G:EnvOK X P ρ) (w:Wp K (bz (a.ev X.ker ρ) (oE true k) P.σ)) (p:bg X (RV X.C) P K Q E):wpAny X.M X.A (eval e X.env) Q E P.s:=
 ew (fun e=>wpAny X.M X.A (eval e X.env) Q E P.s) h fun v x pos h=>by
  rw[bu (ah (ah (ah h))),arm_eval_Attribute,r8 (ak (ah h))];refine Op (a.ok X v ρ P _ _ E (ak h) I G (aH w) (p.bind fun x vx P1 g1 I1 r1 w p=> ?_));obtain ⟨n,l,f,q,e1,e2,kk⟩:=wH w;subst q;refine Op (wpAny_standAt (Op (wpAny_holding (v8 X.good (OT (ak (ah (ah h)))) I1 r1 e1 e2 fun v t fa=> ?_))));refine Op (wpAny_letTemporaryGo (Oq ?_));exact p.ok _ v (P1.to P1.h t) (.to ..) (I1.to fun _ _ e=>e) (Au I1 e1 e2 fa) kk
noncomputable def Jw:PV->PM Unit
 | .p n 0=>fun σ=>(cA true σ n).map fun _=>(.ok (),σ)
 |_=>fun _=>none
theorem Fy {x:PV} {σ:av} {K:R Unit->av->Prop} (w:Wp K (Jw x σ)):∃ n l,x= .p n 0/\σ[n]? =some (.rcd true l)/\K (.ok ()) σ:=by
 match x,w with
 | .p n 0,w=>
  have w:Wp K ((cA true σ n).map fun _=>(.ok (),σ)):=w;cases e1:cA true σ n with
  |none=>rw[e1] at w;exact w.elim
  |some l=>rw[e1] at w;exact ⟨n,l,rfl,iN e1,w⟩
 | .p _ (_+1),w=>exact w.elim
 | .d _,w=>exact w.elim
theorem DH (o:CE) (m:Nat) (l:CL) (h:kt (fun v x ap es pos=>x==(X.sx.fnm m).1&&(X.sx.fnm m).2&&fb v&&ap.endLine==pos.line&&o.is X.sx v&&l.is X.sx es&&decide (es.length<29)) e=true) (I:aE X.C P) (G:EnvOK X P ρ)
  (w:Wp K (bz (o.ev X.ker ρ) (fun x=>bz (Jw x) fun _=>bz (l.ev X.ker ρ) fun ps=>X.ker.Φ X.ker.hd m (x::ps)) P.σ)) (p:bg X (RV X.C) P K Q E):wpAny X.M X.A (eval e X.env) Q E P.s:=
 kq (fun e=>wpAny X.M X.A (eval e X.env) Q E P.s) h fun v x ap es pos h=>by
  have W:=X.good.cls;obtain ⟨w1,w2,w3,of,fd,w4,w5⟩:=W.meth m (ak (ah (ah (ah (ah (ah h))))));have hl:=ak (ah h);rw[bu (ah (ah (ah (ah (ah (ah h)))))),arm_eval_Call,r8 (ak (ah (ah (ah (ah h)))))];refine Op (o.ok X v ρ P _ _ E (ak (ah (ah h))) I G (aH w) (p.bind fun x vx P1 g1 I1 r1 w p=> ?_));refine Op (wpAny_standAt ?_);have hform:methodCallForm (es.length+([]:List Keyword).length) (backTo pos (starEach es X.env)) (backToKw pos (keywordEach [] X.env))=true:=BC hl (OT (ak h));have hpos:methodCallPos true v X.env ap pos=pure pos:=by
   unfold methodCallPos;have:(ap.endLine==pos.line)=true:=ak (ah (ah (ah h)));simp [this]
  obtain ⟨n,fl,q,e1,w⟩:=Fy (aH w);subst q;obtain @⟨a,d,en,k,i1,i2,i3,i4,i5,i6,i7,_⟩:hR X.C P1.own P1.h n fl:=I1.obj n _ e1;rw[r1.2 a i1];unfold methodCall;rw[hform];have XX:PySem.W.Frag.In X.C.K P1.h:=W.X.keeps fun b o e=>(I1.base b o e).1;have hnone:=uA (C:=X.C) (es:=en) (off:=0) (x:=(X.C.fnm m).1) (ww i5) (fun i _ h=>w3 i (Lx i6 i7 h));refine Op (wpAny_holding (PySem.W.method_fn XX (show PySem.W.InstAt P1.h a (kN X.C.book d) X.C.book (some (dp en k)) from ⟨i2,rfl,rfl,i4⟩) W.ga W.gattr w1 w2 ?_ ?_))
  .unfold PySem.W.shadowIn PySem.W.lookIn;show Option.map _ (match en.find? (·.key.isStr (X.C.fnm m).1) with|some e=>some (some e.val)|none=>if en.any (·.refKey) then none else some none)=_
   rw[hnone.1,hnone.2];rfl
  .refine Op (wpAny_of_eq hpos ?_);refine Calls.callWith_function (o:=of) (fd:=fd) (cW (l.star X.sx es X.env pos hl) ?_);have rr:RV X.C P1 (.ref a) (.p n 0):=⟨r1.1,fun b q=>by rw[I1.one b a n 0 q i1]⟩;exact l.ok X es pos ρ P1 _ _ E hl I1 (G.ext g1) (aH w) (p.bind fun ps vs P2 g2 I2 r2 w p=>⟨⟨(I2.base _ _ w4).1,w5⟩,qd I2 ((G.ext g1).ext g2) (.cons (rr.ext g2.toExt) r2) w p⟩)
end
noncomputable def b8 (a:CE) (k:Nat):CE:=⟨fun K ρ=>bz (a.ev K ρ) (oE true k),fun s=>cZ fun v x _=>x==s.att k&&decide (k<7)&&fb v&&a.is s v,fun _ _ _ _ _ _ _ h I G w p=>EN a k h I G w p⟩
noncomputable def meth (o:CE) (m:Nat) (l:CL):CE:=⟨fun K ρ=>bz (o.ev K ρ) fun x=>bz (Jw x) fun _=>bz (l.ev K ρ) fun ps=>K.Φ K.hd m (x::ps),fun s=>kt fun v x ap es pos=>x==(s.fnm m).1&&(s.fnm m).2&&fb v&&ap.endLine==pos.line&&o.is s v&&l.is s es&&decide (es.length<29),fun _ _ _ _ _ _ _ h I G w p=>DH o m l h I G w p⟩
section
variable {C:bq} {A:Around} {P:Pt} {Q E:Value->Shared->Prop}
noncomputable def Pt.make2 (P:Pt) (h:Heap) (a b:Addr):Pt:={P with s:={P.s with heap:=h},own:=fQ (fQ P.own b (.cell P.σ.length 1)) a (.cell P.σ.length 0),σ:=P.σ++[.rcd true []]}
theorem AT (I:aE C P) {h':Heap} {x d:Addr} (k:∀ b o,P.h.get? b=some o->h'.get? b=some o) (hx:P.own x= .no) (hd:P.own d= .no) (Hx:C.H.get? x=none) (Hd:C.H.get? d=none) (ne:x≠d) (ox:h'.get? x=some (kN C.book d)) (od:h'.get? d=some (dp [] 0)):
  aE C (P.make2 h' x d)/\bv P (P.make2 h' x d)/\RV C (P.make2 h' x d) (.ref x) (.p P.σ.length 0):=by
 have na:∀ b,P.own b≠ .no->b≠x/\b≠d:=fun b q=>⟨fun e=>q (e ▸ hx),fun e=>q (e ▸ hd)⟩;have w1:(P.make2 h' x d).own x= .cell P.σ.length 0:=bl _ _ _;have w2:(P.make2 h' x d).own d= .cell P.σ.length 1:=(a_ (Ne.symm ne)).trans (bl _ _ _);have w3:∀ b,b≠x->b≠d->(P.make2 h' x d).own b=P.own b:=fun b p q=>(a_ p).trans (a_ q);have cs:∀ b,(b=x/\(P.make2 h' x d).own b= .cell P.σ.length 0)∨(b=d/\(P.make2 h' x d).own b= .cell P.σ.length 1)∨(b≠x/\b≠d/\(P.make2 h' x d).own b=P.own b):=fun b=>by
  by_cases p:b=x
  .exact .inl ⟨p,p ▸ w1⟩
  .by_cases q:b=d
   .exact .inr (.inl ⟨q,q ▸ w2⟩)
   .exact .inr (.inr ⟨p,q,w3 b p q⟩)
 have kk:∀ b o y,P.own b=y->y≠ .no->P.h.get? b=some o->(P.make2 h' x d).own b=y/\h'.get? b=some o:=fun b o y e q r=>⟨(w3 b (na b (e ▸ q)).1 (na b (e ▸ q)).2).trans e,k b o r⟩;have fz:Fz P.own (P.make2 h' x d).own:=fun b o e=>(w3 b (na b (by rw[e];nofun)).1 (na b (by rw[e];nofun)).2).trans e;have lt:∀ b n j,P.own b= .cell n j->n≠P.σ.length:=fun b n j e=>Nat.ne_of_lt (I.bd b n j e).lt;refine ⟨⟨fun b o e=> ?_,fun b o e=> ?_,fun b e=> ?_,I.fr.mv (fun b o e q=>kk b o _ e nofun q) (fun b e=>kG (x:=.cell P.σ.length 1) (a:=d) cx.noConfusion (kG (x:=.cell P.σ.length 0) (a:=x) cx.noConfusion e)),I.gh.mv fz fun b o e q=>kk b o _ e nofun q,fun b c n j e f=> ?_,fun b n j e=> ?_,fun n o e=> ?_⟩,⟨⟨⟨h',_,rfl⟩,rfl,fz,fun _ _ v=>fR v,fun n j b v q=> ?_⟩,rfl⟩,At (by show 0<0+2;decide) fun b e=> ?_⟩
 .obtain ⟨e1,e2⟩:=I.base b o e;have p:b≠x:=fun q=>by rw[q,Hx] at e;cases e
  have q:b≠d:=fun q=>by rw[q,Hd] at e;cases e
  exact ⟨k b o e1,(w3 b p q).trans e2⟩
 .rcases cs b with ⟨_,q⟩|⟨_,q⟩|⟨_,_,q⟩
  .cases q.symm.trans e
  .cases q.symm.trans e
  .exact k b o (I.fz b o (q.symm.trans e))
 .rcases cs b with ⟨p,q⟩|⟨p,q⟩|⟨_,_,q⟩
  .exact ⟨_,p ▸ ox⟩
  .exact ⟨_,p ▸ od⟩
  .obtain ⟨o,ho⟩:=I.live b (q ▸ e);exact ⟨o,k b o ho⟩
 .rcases cs b with ⟨p,q⟩|⟨p,q⟩|⟨_,_,q⟩<;>rcases cs c with ⟨p',q'⟩|⟨p',q'⟩|⟨_,_,q'⟩
  .rw[p,p']
  .have z:=(q.symm.trans e).trans (q'.symm.trans f).symm;cases z
  .cases q.symm.trans e;exact absurd rfl (lt c _ _ (q'.symm.trans f))
  .have z:=(q.symm.trans e).trans (q'.symm.trans f).symm;cases z
  .rw[p,p']
  .cases q.symm.trans e;exact absurd rfl (lt c _ _ (q'.symm.trans f))
  .cases q'.symm.trans f;exact absurd rfl (lt b _ _ (q.symm.trans e))
  .cases q'.symm.trans f;exact absurd rfl (lt b _ _ (q.symm.trans e))
  .exact I.one b c n j (q.symm.trans e) (q'.symm.trans f)
 .rcases cs b with ⟨p,q⟩|⟨p,q⟩|⟨_,_,q⟩
  .cases q.symm.trans e;exact ⟨_,eR,by show 0<0+2;decide⟩
  .cases q.symm.trans e;exact ⟨_,eR,by show 1<0+2;decide⟩
  .exact fR (I.bd b n j (q.symm.trans e))
 .by_cases z:n=P.σ.length
  .rw[(dl e).2 z,z];exact hR.mk w1 ox w2 od (fun i e h=>by cases h) rfl (OG _) (fun i f e h=>by cases h)
  .exact (I.obj n o ((dl e).1 z)).mv fz fun b j o e q=>kk b o _ e nofun q
 .rcases cs b with ⟨p,z⟩|⟨p,z⟩|⟨_,_,z⟩
  .cases z.symm.trans q;exact absurd v.lt (OU _)
  .cases z.symm.trans q;exact absurd v.lt (OU _)
  .exact z.symm.trans q
 .rcases cs b with ⟨p,z⟩|⟨p,z⟩|⟨_,_,z⟩
  .exact p
  .cases z.symm.trans e
  .exact absurd rfl (lt b _ _ (z.symm.trans e))
end
noncomputable def Jk:PM PV:=g8 (.rcd true [])
noncomputable def Jj (Φ:List PV->PM PV) (ps:List PV):PM PV:=bz Jk fun o=>bz (Φ (o::ps)) fun v=>bz (DA ((n8 v).bind fun x=>match x with| .none=>some ()|_=>none)) fun _=>ret o
section
variable {X:Cx} {e:Expr} {ρ:a9} {P:Pt} {K:R PV->av->Prop} {Q E:Value->Shared->Prop}
theorem Ge (l:CL) (h:dU (fun x es=>x==("Book":Str)&&dB X.sx.sc x&&l.is X.sx es) e=true) (I:aE X.C P) (G:EnvOK X P ρ) (w:Wp K (bz (l.ev X.ker ρ) (Jj (X.ker.Φ X.ker.hd 0)) P.σ)) (p:bg X (RV X.C) P K Q E):wpAny X.M X.A (eval e X.env) Q E P.s:=
 dT (fun e=>wpAny X.M X.A (eval e X.env) Q E P.s) h fun x px es pos h=>by
  have hw:=ak (ah h);rw[bu (ah (ah h))] at hw ⊢;have W:=X.good.cls;refine wpAny_Call_NameR (du I hw W.name ?_);have hp:=l.star X.sx es X.env pos (ak h);have hst:((backTo pos (starEach es X.env)).any (·.1)||([]:List (Option Str×Sem Value)).any fun x=>x.1.isNone)=false:=by rw[dW hp];rfl
  unfold callWith;refine Op (wpAny_holding (cW hp ?_));refine l.ok X es pos ρ P _ _ E (ak h) I G (aH w) (p.bind fun ps vs P1 g1 I1 r1 w p=> ?_);refine Op (wpAny_standAt ?_);have XX:PySem.W.Frag.In X.C.K P1.h:=W.X.keeps fun b o e=>(I1.base b o e).1;have Y:=PySem.W.makes_of (M:=X.M) XX W.makes;obtain ⟨oc,od,cd,sl,hC0,_⟩:=Y.obj;refine Op (m:=keeperOf (.ref X.C.book)) ?_;unfold keeperOf;refine Op (wpAny_load hC0 ?_);refine Op (Y.call X.A _ E P1.s (fun _ _ e=>e) ?_);rw[if_pos (by rfl)];refine Oq ?_;rw[hst];show wpAny _ _ (call (.ref X.C.book) vs []>>=fun r=>do holding [r] point;pure r) _ _ _;refine Op (wpAny_mono (Q:=fun r s'=>Q r s') ?_ (fun r s' hr=>Op (wpAny_holding (wpAny_point (Oq hr)))) fun _ _ x=>x);obtain ⟨⟨hh,g,dr,t,os⟩,fs,own,gh,σ⟩:=P1;refine wpAny_call (PySem.W.make_core Y (PySem.W.looks_findIn XX W.init.1) (fun self=>PySem.W.bind_fn XX self W.init.2) (.inl rfl) ?_);have hs1:=Ox (hh.push PySem.W.emptyDict) (o:=PySem.W.instObj X.C.book hh.objs.size) rfl;rw[Heap.size_push] at hs1;obtain ⟨J,gJ,rJ⟩:=AT I1 (h':=(hh.push PySem.W.emptyDict).push (PySem.W.instObj X.C.book hh.objs.size)) (x:=hh.objs.size+1) (d:=hh.objs.size) (fun b o e=>Ol _ (Ol _ e)) (I1.off (OV _)) (I1.off (Oo _)) (I1.out (OV _)) (I1.out (Oo _)) (Nat.succ_ne_self _)
   hs1 (Ol _ (Ox _ rfl))
  have hdep:=X.dep;have huni:=X.uni;have d1:(X.A.under (.builtin "type.__call__" ⟨.ref X.C.book::vs,[]⟩)).depth=X.A.depth+1:=rfl;have u1:(X.A.under (.builtin "type.__call__" ⟨.ref X.C.book::vs,[]⟩)).units<=X.A.units+10:=OS (Oj rfl) _;have f1:(X.A.under (.builtin "type.__call__" ⟨.ref X.C.book::vs,[]⟩)).frames=X.A.frames:=by
   generalize X.A=A;obtain ⟨_,_,fr,_,_⟩:=A;cases fr<;>rfl
  have G1:=G.ext g1;have w:Wp K (uw (fun v=>bz (DA ((n8 v).bind fun x=>match x with| .none=>some ()|_=>none)) fun _=>ret (.p σ.length 0)) (X.ker.Φ X.ker.hd 0 (.p σ.length 0::ps) (σ++[.rcd true []]))):=w
  refine codeAny_mono (X.calls X.hd (X.A.under (.builtin "type.__call__" ⟨.ref X.C.book::vs,[]⟩)) (Pt.make2 ⟨⟨hh,g,dr,t,os⟩,fs,own,gh,σ⟩ _ (hh.objs.size+1) hh.objs.size) 0 (.p σ.length 0::ps) (.ref (hh.objs.size+1)::vs) _ (fun v s'=>v= .none/\Q (.ref (hh.objs.size+1)) s') E (by
   obtain ⟨ls,q1,q2⟩:=G1.frs;exact ⟨ls,f1.trans q1,q2⟩) (J.szF G1.ne) (by rw[d1];exact Lw hdep) (Lv huni u1) X.hnd J (.cons rJ (r1.ext gJ.toExt)) (aH w) ⟨fun v u P3 g3 I3 r3 k=> ?_,fun c e P3 g3 I3 x3 k=> ?_⟩) fun r s' h=> ?_
  .obtain ⟨_,e1,k⟩:=gw (aH k);obtain ⟨z,e2,e3⟩:=ao e1;have e4:z= .none:=by cases z<;>first|rfl|cases e3
   have r3:=rW e2 r3;rw[e4] at r3;exact ⟨r3.view,p.ok (.p σ.length 0) _ P3 (gJ.trans g3) I3 (rJ.ext g3.toExt) k⟩
  .refine p.ex c e P3 (gJ.trans g3) I3 ?_ k;obtain ⟨q1,q2⟩:=x3;exact .mk (f1 ▸ q1) q2
  .cases r with
   |ok fl=>cases fl<;>exact h
   |error e=>exact h
end
noncomputable def Jl (l:CL):CE:=⟨fun K ρ=>bz (l.ev K ρ) (Jj (K.Φ K.hd 0)),fun s=>dU fun x es=>x==("Book":Str)&&dB s.sc x&&l.is s es,fun _ _ _ _ _ _ _ h I G w p=>Ge l h I G w p⟩
def NO (Γ:CD):Prop:=∀ x y i,Γ.lookup x=some i->Γ.lookup y=some i->x=y
structure SX extends Cx where
 outer:List Env
 L:Addr
 cs:List Addr
 fr:A.frames=some (env::outer)
 loc:env.locals=L
 frame:env.frame=some L
 cell:∀ x,env.kindOf x=some .cell->∃ c,env.cells.lookup x=some c/\c∈cs
 apart:∀ x y c,env.cells.lookup x=some c->env.cells.lookup y=some c->x=y
 inj:NO Γ
 scE:sc=env.scope
 dep2:A.depth+8*d+151<recursionLimit
 uni2:A.units+64*d+1005<cLine
 lmE:∀ l,lm=some l->C.lam=some l/\env.code= .ref l.c/\env.qual++"<lambda>"=l.qual
structure cc (X:SX) (P:Pt) (ρ:a9):Prop extends EnvOK X.toCx P ρ where
 hd:∃ f r,P.fs=f::r/\f.L=X.L/\f.cells=X.cs
section
variable {X:SX} {P P':Pt} {ρ:a9}
theorem cc.ext (G:cc X P ρ) (g:bv P P'):cc X P' ρ:=⟨G.toEnvOK.ext g,g.fs ▸ G.hd⟩
theorem cc.gs (G:cc X P ρ) (g:bv P P'):eH P P':=⟨g.toExt,by
 obtain ⟨f,r,e,_⟩:=G.hd;rw[g.fs,e];exact .mk (.refl f)⟩
end
def hW (K:Out->av->Prop):Option (Out×av)->Prop
 |some (o,σ)=>K o σ
 |none=>False
def oK {α:Type} (K:Out->av->Prop) (ρ:a9) (k:α->av->Option (Out×av)):R α->av->Prop
 | .ok v,σ=>hW K (k v σ)
 | .ex c,σ=>K (.ex c ρ) σ
theorem dc {α:Type} {K:Out->av->Prop} {ρ:a9} {m:PM α} {k:α->av->Option (Out×av)} {σ:av} (h:hW K (ce ρ m k σ)):Wp (oK K ρ k) (m σ):=by
 unfold ce at h;generalize m σ=o at h
 match o,h with
 |none,h=>exact h
 |some (.ok _,_),h=>exact h
 |some (.ex _,_),h=>exact h
structure cS (X:SX) (P:Pt) (K:Out->av->Prop) (Q:Flow->Shared->Prop) (E:Value->Shared->Prop):Prop where
 next:∀ ρ P',eH P P'->aE X.C P'->cc X P' ρ->K (.next ρ) P'.σ->Q .next P'.s
 ret:∀ p v P',eH P P'->aE X.C P'->RV X.C P' v p->K (.ret p) P'.σ->Q (.ret v) P'.s
 ex:∀ c ρ e P',eH P P'->aE X.C P'->sA X.C X.A P' c e->cc X P' ρ->K (.ex c ρ) P'.σ->E e P'.s
section
variable {X:SX} {P P':Pt} {ρ:a9} {K:Out->av->Prop} {Q:Flow->Shared->Prop} {E:Value->Shared->Prop}
theorem cS.mono (h:cS X P K Q E) (g:eH P P'):cS X P' K Q E:=
 ⟨fun ρ P'' g'=>h.next ρ P'' (g.trans g'),fun p v P'' g'=>h.ret p v P'' (g.trans g'),fun c ρ e P'' g'=>h.ex c ρ e P'' (g.trans g')⟩
theorem cS.bind {α β:Type} {Rel:Pt->β->α->Prop} {k:α->av->Option (Out×av)} {Q':β->Shared->Prop} (h:cS X P K Q E) (G:cc X P ρ) (kk:∀ p v P',bv P P'->aE X.C P'->Rel P' v p->hW K (k p P'.σ)->cc X P' ρ->cS X P' K Q E->Q' v P'.s):dt X.C X.A Rel P (oK K ρ k) Q' E:=
 ⟨fun p v P' g i r w=>kk p v P' g i r w (G.ext g) (h.mono (G.gs g)),fun c e P' g i x w=>h.ex c ρ e P' (G.gs g) i x (G.ext g) w⟩
theorem cS.go (h:cS X P K Q E) (I:aE X.C P) (G:cc X P ρ) (k:K (.next ρ) P.σ):Q .next P.s:=h.next ρ P (G.gs (.refl P)) I G k
end
abbrev Ws (X:SX) (e:Stmt) (Q:Flow->Shared->Prop) (E:Value->Shared->Prop) (P:Pt):Prop:=wpAny X.M X.A (PySem.exec e X.env) Q E P.s
structure C1 where
 ex:cP->a9->av->Option (Out×av)
 is:Sx->Stmt->Bool
 ok:∀ (X:SX) (st:Stmt) (ρ:a9) (P:Pt) (K:Out->av->Prop) (Q:Flow->Shared->Prop) (E:Value->Shared->Prop),is X.sx st=true->aE X.C P->cc X P ρ->hW K (ex X.ker ρ P.σ)->cS X P K Q E->Ws X st Q E P
structure CS where
 ex:cP->a9->av->Option (Out×av)
 is:Sx->List Stmt->Bool
 ok:∀ (X:SX) (st:List Stmt) (ρ:a9) (P:Pt) (K:Out->av->Prop) (Q:Flow->Shared->Prop) (E:Value->Shared->Prop),is X.sx st=true->aE X.C P->cc X P ρ->hW K (ex X.ker ρ P.σ)->cS X P K Q E->wpAny X.M X.A (PySem.execs st X.env) Q E P.s
def tK (K:Out->av->Prop) (k:a9->av->Option (Out×av)):Out->av->Prop
 | .next ρ,σ=>hW K (k ρ σ)
 |o,σ=>K o σ
theorem CU {K:Out->av->Prop} {k:a9->av->Option (Out×av)}:∀ {z:Option (Out×av)},hW K (sI z k)->hW (tK K k) z
 |none,h=>h
 |some (.next _,_),h=>h
 |some (.ret _,_),h=>h
 |some (.ex _ _,_),h=>h
noncomputable def sN:CS:=⟨fun _ ρ σ=>some (.next ρ,σ),fun _ st=>st.isEmpty,fun X st ρ P K Q E h I G w p=>bJ (fun st=>wpAny X.M X.A (PySem.execs st X.env) Q E P.s) h (wpAny_execs_nil (p.go I G w))⟩
noncomputable def sC (a:C1) (l:CS):CS:=⟨fun K ρ σ=>sI (a.ex K ρ σ) (l.ex K),fun s=>iw (a.is s) (l.is s),fun X st ρ P K Q E h I G w p=>c9 (fun st=>wpAny X.M X.A (PySem.execs st X.env) Q E P.s) h fun e r h1 h2=>
 wpAny_execs_cons (a.ok X e ρ P _ _ E h1 I G (CU w) ⟨fun ρ' P' g I' G' k=>l.ok X r ρ' P' K Q E h2 I' G' k (p.mono g),p.ret,p.ex⟩)⟩
noncomputable def aT (a:CE):C1:=⟨fun K ρ=>ce ρ (a.ev K ρ) fun v σ=>some (.ret v,σ),fun s=>j2 fun v _=>CG (a.is s) v,fun X st ρ P K Q E h I G w p=>jg (fun st=>Ws X st Q E P) h fun v pos h=>fj (fun v=>wpAny X.M X.A (PySem.exec (.Return v pos) X.env) Q E P.s) h fun e h=>
 wpAny_Return_some (a.ok X.toCx e ρ P _ _ E h I G.toEnvOK (dc w) (p.bind G fun x v P1 g I1 r w G1 p=>p.ret x v P1 (G1.gs (.refl P1)) I1 r w))⟩
theorem ia {env:Env} {e:Expr} {t:Option Expr} {l:Nat} (h:gE e=false):swapsWith e t l env=pure false:=by
 cases e<;>first|rfl|cases h
noncomputable def aL (a:CE):C1:=⟨fun K ρ=>ce ρ (a.ev K ρ) fun _ σ=>some (.next ρ,σ),fun s=>vW fun e _=> !gE e&&a.is s e,fun X st ρ P K Q E h I G w p=>t7 (fun st=>wpAny X.M X.A (PySem.exec st X.env) Q E P.s) h fun e pos h=>by
 rw[PySem.exec_Expr _ e pos (by unfold interactive;rw[X.kind];rfl) (ia ((Bool.not_eq_true' _).mp (ah h)))];exact Op (wpAny_standAt (Op (a.ok X.toCx e ρ P _ _ E (ak h) I G.toEnvOK (dc w) (p.bind G fun x v P1 g I1 r w G1 p=>wpAny_dropValue (p.go I1 G1 w)))))⟩
noncomputable def cI (t:CT) (a b:CS):C1:=⟨fun K ρ=>ce ρ (t.ts K ρ) fun c=>if c then a.ex K ρ else b.ex K ρ,fun s=>GL fun te ae be _=>t.is s te&&a.is s ae&&b.is s be,fun X st ρ P K Q E h I G w p=>zn (fun st=>wpAny X.M X.A (PySem.exec st X.env) Q E P.s) h fun te ae be pos h=>
 wpAny_If (t.ok X.toCx te ρ P _ _ E (ah (ah h)) I G.toEnvOK (dc w) (p.bind (Rel:=oP) G fun c v P1 g I1 r w G1 p=>by
  rw[show v=c from r];cases c with
  |true=>exact a.ok X ae ρ P1 K Q E (ak (ah h)) I1 G1 w p
  |false=>exact b.ok X be ρ P1 K Q E (ak h) I1 G1 w p))⟩
section
variable {C:bq} {P:Pt}
theorem aE.frame {h':Heap} {f g:Fm} {r:List Fm} {a:Addr} {t:Nat} (I:aE C P) (hf:P.fs=f::r) (lk:f.like g) (ha:a∈f.adr) (hs:∀ b o,b≠a->P.h.get? b=some o->h'.get? b=some o) (hn:h'.Ns g.L g.m) (hc:∀ c∈g.cells,h'.IsCell c (g.cv c)):
  aE C {P.to h' t with fs:=g::r}:=by
 have hm:f∈P.fs:=by rw[hf];exact .head _
 have own:P.own a= .fr:=by
  rcases Oe.mp ha with q|q
  .rw[q];exact (I.fr.ns f hm).2.1
  .exact (I.fr.cl f hm a q).2.1
 have le:f.L<=a:=by
  rcases Oe.mp ha with q|q
  .exact O1 q.symm
  .exact OQ (I.fr.cl f hm a q).2.2
 have ord:=I.fr.ord;rw[hf] at ord;obtain ⟨o1,o2⟩:=List.pairwise_cons.mp ord;have kk:∀ b o x,P.own b=x->x≠ .fr->P.h.get? b=some o->P.own b=x/\h'.get? b=some o:=fun b o x e q z=>⟨e,hs b o (fun c=>q (by rw[<-e,c,own])) z⟩;have ne:∀ k∈r,∀ b∈k.adr,b≠a:=fun k hk b hb=>Nat.ne_of_lt (OD (o1 k hk b hb) le);refine ⟨fun b o e=>⟨hs b o (fun c=> ?_) (I.base b o e).1,(I.base b o e).2⟩,fun b o e=>(kk b o _ e cx.noConfusion (I.fz b o e)).2,fun b e=> ?_,⟨fun k hk=> ?_,fun k hk c hcc=> ?_,?_,fun b e=> ?_⟩,I.gh.mv (fun _ _ e=>e) fun b o e q=>kk b o _ e cx.noConfusion q,I.one,I.bd,fun n o e=>(I.obj n o e).mv (fun _ _ e=>e) fun b j o e q=>kk b o _ e cx.noConfusion q⟩
 .have q:=(I.base b o e).2;rw[c,own] at q;cases q
 .by_cases c:b=a
  .rw[c];rcases Oe.mp ha with q|q
   .rw[q,<-lk.1];obtain ⟨o,_,_,ho,_⟩:=hn;exact ⟨o,ho⟩
   .obtain ⟨o,ho,_⟩:=hc a (by rw[lk.2];exact q);exact ⟨o,ho⟩
  .obtain ⟨o,ho⟩:=I.live b e;exact ⟨o,hs b o c ho⟩
 .rcases Oe.mp hk with q|q
  .subst q;exact ⟨hn,by rw[lk.1];exact (I.fr.ns f hm).2⟩
  .obtain ⟨⟨o,es,ep,ho,z⟩,x⟩:=I.fr.ns k (by rw[hf];exact .tail _ q);exact ⟨⟨o,es,ep,hs _ _ (ne k q _ (.head _)) ho,z⟩,x⟩
 .rcases Oe.mp hk with q|q
  .subst q;exact ⟨hc c hcc,by rw[lk.1];exact (I.fr.cl f hm c (by rw[<-lk.2];exact hcc)).2⟩
  .obtain ⟨⟨o,ho,z⟩,x⟩:=I.fr.cl k (by rw[hf];exact .tail _ q) c hcc;exact ⟨⟨o,hs _ _ (ne k q _ (.tail _ hcc)) ho,z⟩,x⟩
 .exact List.pairwise_cons.mpr ⟨fun k hk b hb=>by rw[lk.1];exact o1 k hk b hb,o2⟩
 .obtain ⟨k,hk,z⟩:=I.fr.all b e;rw[hf] at hk;rcases Oe.mp hk with q|q
  .exact ⟨g,.head _,by rw[Fm.adr,lk.1,lk.2];exact q ▸ z⟩
  .exact ⟨k,.tail _ q,z⟩
end
section
variable {X:SX} {P:Pt} {ρ:a9} {E:Value->Shared->Prop}
theorem qH {ρ:a9} {i j:Nat} {p q:PV} (h:(ρ.set i (some p))[j]? =some (some q)):(i=j/\q=p)∨(i≠j/\ρ[j]? =some (some q)):=by
 by_cases e:i=j
 .subst e;by_cases hl:i<ρ.length
  .rw[List.getElem?_set_self hl] at h;cases h;exact .inl ⟨rfl,rfl⟩
  .rw[List.getElem?_eq_none (by simpa using hl)] at h;cases h
 .rw[OI e] at h;exact .inr ⟨e,h⟩
theorem Bz {A:Around} {f g:Fm} {r:List Fm} (lk:f.like g) (h:lV A (f::r)):lV A (g::r):=by
 obtain ⟨ls,e,hl⟩:=h;refine ⟨ls,e,fun x hx=> ?_⟩;obtain ⟨a,b,hb,c⟩:=hl x hx;refine ⟨a,?_⟩;rcases Oe.mp hb with q|q
 .exact ⟨g,.head _,by rw[c,q,lk.1]⟩
 .exact ⟨b,.tail _ q,c⟩
theorem ib {x:Str} {i:Nat} {p:PV} {v:Value} {Q:Unit->Shared->Prop} {A:Around} {M:Model} (hx:X.Γ.lookup x=some i) (hb:fG X.sc x=true) (I:aE X.C P) (G:cc X P ρ) (hr:RV X.C P v p)
  (k:∀ P',eH P P'->aE X.C P'->cc X P' (ρ.set i (some p))->P'.σ=P.σ->Q () P'.s):wpAny M A (storeName X.env x v) Q E P.s:=by
 rw[X.scE] at hb;obtain ⟨f,r,hf,hL,hcs⟩:=G.hd;have hm:f∈P.fs:=by rw[hf];exact .head _
 have hns:=(I.fr.ns f hm).1;have hloc:X.env.locals=f.L:=X.loc.trans hL.symm;have fin:∀ (h':Heap) (t:Nat) (g:Fm),f.like g->aE X.C {P.to h' t with fs:=g::r}->yf X.env (g::r) x v->(∀ y w,y≠x->yf X.env (f::r) y w->yf X.env (g::r) y w)->Q () {P.s with heap:=h',toks:=t}:=fun h' t g lk J l1 l2=>by
  refine k {P.to h' t with fs:=g::r} ⟨⟨⟨h',t,rfl⟩,rfl,fun _ _ e=>e,fun _ _ e=>e,fun _ _ _ _ e=>e⟩,by rw[hf];exact .mk lk⟩ J ⟨⟨Bz lk (hf ▸ G.frs),nofun,fun y j q h1 h2 h3=> ?_⟩,⟨g,r,rfl,by rw[lk.1];exact hL,by rw[lk.2];exact hcs⟩⟩ rfl;rcases qH h3 with ⟨e1,e2⟩|⟨e1,e2⟩
  .subst e1;have e3:=X.inj _ _ _ h1 hx;subst e3;subst e2;exact ⟨v,hr,l1⟩
  .obtain ⟨w,z1,z2⟩:=G.var y j q h1 h2 e2;exact ⟨w,z1,l2 y w (fun c=>e1 (by rw[c,hx] at h1;exact O0 h1)) (hf ▸ z2)⟩
 rcases (Bool.or_eq_true _ _).mp hb with hb|hb
 .have hb:=bu hb;rw[<-hloc] at hns;refine wpAny_storeName_local (m:=f.m) hb hns (fun h' hn' hs'=> ?_) (by rw[X.kind];rfl);rw[hloc] at hn' hs';refine fin h' _ {f with m:=fun y=>if y=x then some v else f.m y} ⟨rfl,rfl⟩ (I.frame hf ⟨rfl,rfl⟩ (.head _) (fun b o e h=>hs'.extBut b o e h) hn' fun c hc=>(I.fr.cl f hm c hc).1.sameBut hs' (Nat.ne_of_gt (I.fr.cl f hm c hc).2.2)) (.inl ⟨hb,_,.head _,hloc.symm,if_pos rfl⟩) fun y w e l=> ?_;rcases l with ⟨h1,f1,hf1,h2,h3⟩|⟨h1,c,h2,f1,hf1,h3,h4⟩
  .rcases Oe.mp hf1 with q|q
   .exact .inl ⟨h1,_,.head _,by rw[<-h2,q],by show (if y=x then _ else _)=_;rw[if_neg e,<-q];exact h3⟩
   .exact .inl ⟨h1,f1,.tail _ q,h2,h3⟩
  .rcases Oe.mp hf1 with q|q
   .exact .inr ⟨h1,c,h2,_,.head _,q ▸ h3,q ▸ h4⟩
   .exact .inr ⟨h1,c,h2,f1,.tail _ q,h3,h4⟩
 .have hb:=bu hb;obtain ⟨c,hc,hcf⟩:=X.cell x hb;rw[<-hcs] at hcf;refine wpAny_storeName_cell X.kind hb hc (I.fr.cl f hm c hcf).1 fun h' hc' hs'=> ?_;have hcL:f.L≠c:=Nat.ne_of_lt (I.fr.cl f hm c hcf).2.2;refine fin h' _ {f with cv:=fun a=>if a=c then some v else f.cv a} ⟨rfl,rfl⟩ (I.frame hf ⟨rfl,rfl⟩ (.tail _ hcf) (fun b o e h=>hs'.extBut b o e h) (hns.sameBut hs' hcL) fun c' hc1=> ?_) (.inr ⟨.inl hb,c,hc,_,.head _,hcf,if_pos rfl⟩) fun y w e l=> ?_
  .show h'.IsCell c' (if c'=c then _ else _);by_cases q:c'=c
   .rw[if_pos q,q];exact hc'
   .rw[if_neg q];exact (I.fr.cl f hm c' hc1).1.sameBut hs' q
  .rcases l with ⟨h1,f1,hf1,h2,h3⟩|⟨h1,c1,h2,f1,hf1,h3,h4⟩
   .rcases Oe.mp hf1 with q|q
    .exact .inl ⟨h1,_,.head _,by rw[<-h2,q],q ▸ h3⟩
    .exact .inl ⟨h1,f1,.tail _ q,h2,h3⟩
   .rcases Oe.mp hf1 with q|q
    .refine .inr ⟨h1,c1,h2,_,.head _,q ▸ h3,?_⟩;show (if c1=c then _ else _)=_;rw[if_neg (fun z:c1=c=>e (X.apart _ _ _ h2 (by rw[hc,z]))),<-q];exact h4
    .exact .inr ⟨h1,c1,h2,f1,.tail _ q,h3,h4⟩
end
noncomputable def FI (i:Nat) (f:Sx->Expr->Bool) (s:Sx) (st:Stmt):Bool:=pu (fun t e=>cY (fun x _=> !gE e&&s.Γ.lookup x==some i&&fG s.sc x&&f s e) t) st
noncomputable def aK (i:Nat) (a:CE):C1:=⟨fun K ρ=>ce ρ (a.ev K ρ) fun v σ=>some (.next (ρ.set i (some v)),σ),FI i a.is,fun X st ρ P K Q E h I G w p=>f_ (fun st=>Ws X st Q E P) h fun t e pos h=>bY (fun t=>wpAny X.M X.A (PySem.exec (.Assign [t] e pos) X.env) Q E P.s) h fun x px h=>
 wpAny_Assign_Name (a.ok X.toCx e ρ P _ _ E (ak h) I G.toEnvOK (dc w) (p.bind G fun y v P1 g I1 r w G1 p=>
  ib (bu (ak (ah (ah h)))) (ak (ah h)) I1 G1 r fun P2 g2 I2 G2 e2=>p.next _ P2 g2 I2 G2 (e2 ▸ w))) (ia ((Bool.not_eq_true' _).mp (ah (ah (ah h)))))⟩
theorem wc {k:Int} (h:bI k=true):Builtin.List.listFitsIndex k=true:=by
 have h2:=fS h;by_cases q:0<=k
 .exact fitsIndex_of q (by omega)
 .exact fitsIndex_neg (by omega) (by omega)
set_option maxRecDepth 100000 in
theorem oW {prog:Program} {w:World} {A:Around} {E:Value->Shared->Prop} {s:Shared} {l:Addr} {vs:List Value} {n j:Nat} {k:Int} {t:Tok} {v:Value} {Q:Unit->Shared->Prop} (ho:s.heap.get? l=some (aJ vs n)) (hs:bI k=true) (hp:cB k vs.length=some j)
  (hQ:∀ h',h'.get? l=some (aJ (vs.set j v) n)->Heap.SameBut l s.heap h'->Q () {s with heap:=h'}):wpAny (model prog w) A (PySem.setItem (.ref l) (.int k t) v) Q E s:=by
 have hl:s.heap.IsList l vs.toArray:=⟨_,ho,rfl,n,rfl⟩;have hj:=(fT hp).2;have hx':vs.toArray[j]? =some vs[j]:=by simp [hj]
 have e1:(aJ vs n).mapSeq (·.setIfInBounds j v)=aJ (vs.set j v) n:=by simp [Obj.mapSeq]
 have g:=Heap.get?_update_self (Obj.mapSeq (·.setIfInBounds j v)) ho (by rw[e1];rfl);rw[e1] at g;unfold PySem.setItem
 try with_reducible refine wpAny_holding ?_
 first|refine Op (Oq ?_)|skip
 refine Op (wpAny_sequenceKey hl.typeIs (by decide) ?_);refine Op (wpAny_callSpecial?_slot (name:=Str.ofString "__setitem__") hl.typeIs slot_list_setitem
  (wpAny_call_entry slot_list_setitem hl.typeIs entry_list_setitem ?_ (args_list_setitem _ _ _)))
 show wpAny _ _ (Builtin.List.listSubscript? (.int k t)>>=_) _ _ s;refine Op (wpAny_listSubscript_int (wc hs) ?_);clear hs;cases k with
 |ofNat m=>
  have h0:(0:Int)<=Int.ofNat m:=Int.ofNat_nonneg m;have hm:m=j:=by
   unfold cB at hp;rw[if_pos h0] at hp;split at hp
   .exact O0 hp
   .cases hp
  subst hm;show wpAny _ _ ((seqItemAt l m>>=fun r=>pure (r.map (m,·)))>>=_) _ _ s;refine Op (Op (wpAny_seqItemAt ho rfl (Oq ?_)));rw[hx'];show wpAny _ _ (setSeqItemAt l m v>>=_) _ _ s;refine Op (wpAny_setSeqItemAt ho rfl ?_)
  first
   |exact Op (Oq (Oq ⟨.none,rfl,Oq (hQ _ (by simpa using g) (Heap.SameBut.update ..))⟩))
   |exact Oq ⟨.none,rfl,Oq (hQ _ (by simpa using g) (Heap.SameBut.update ..))⟩
 |negSucc m=>
  have hidx:=(fT hp).1;show wpAny _ _ ((Builtin.List.listItems (.ref l)>>=fun xs=>pure ((seqIndex? (Int.negSucc m) xs.size).bind fun i=>xs[i]?.map (i,·)))>>=_) _ _ s;refine Op (Op ?_);show wpAny _ _ (seqItems? (.ref l)>>=_) _ _ s;refine Op (wpAny_seqItems ho rfl (Oq (Oq ?_)));rw[Oz,hidx];simp only [Od,hx',Option.map_some];show wpAny _ _ (setSeqItemAt l j v>>=_) _ _ s;refine Op (wpAny_setSeqItemAt ho rfl ?_)
  first
   |exact Op (Oq (Oq ⟨.none,rfl,Oq (hQ _ (by simpa using g) (Heap.SameBut.update ..))⟩))
   |exact Oq ⟨.none,rfl,Oq (hQ _ (by simpa using g) (Heap.SameBut.update ..))⟩
noncomputable def An (k v:D):cb->Option cb
 | .list l=>(iD k).bind fun i=>(aq (bI i=true) ()).bind fun _=>(cB i l.length).map fun j=>.list (l.set j v)
 | .dict ks vs=>aq (i8 k ks=true/\ks.length<100000) (.dict (dG k ks) (dF k v ks vs))
 | .d _=>none
theorem vd {K:Type} [DecidableEq K] {ks:List (K×Value)} {k:K} {v:Value} {P:K->Prop} (h:∀ e∈ks,P e.1) (hk:P k):∀ e∈stored ks k v,P e.1:=by
 intro e he;unfold stored at he;split at he
 .obtain ⟨x,hx,rfl⟩:=Ot.mp he;split
  .exact h x hx
  .exact h x hx
 .rcases Ov.mp he with he|he
  .exact h e he
  .rw[Oi.mp he];exact hk
section
variable {C:bq} {A:Around} {P:Pt} {E:Value->Shared->Prop} {Q:Unit->Shared->Prop}
theorem u0 {n j:Nat} {f f':cb} {k v:D} {vx vk vv:Value} (I:aE C P) (hx:RV C P vx (.p n j)) (hk:RD C P.own k vk) (hv:RD C P.own v vv) (e:bU P.σ n j=some f) (e':An k v f=some f')
  (kk:∀ P',bv P P'->aE C P'->P'.σ=d8 P.σ n j f'->Q () P'.s):wpAny C.M A (PySem.setItem vx vk vv) Q E P.s:=by
 cases f with
 |d x=>cases e'
 |list l=>
  refine aW fun G9 k9=> ?_;obtain ⟨i,e1,e2⟩:=ao e';obtain ⟨_,e3,e2⟩:=ao e2;obtain ⟨jj,e4,q⟩:=aZ e2;refine k9 ?_;have h1:=(d9 e3).1;subst q;refine aW fun G9 k9=> ?_;obtain ⟨t,q⟩:=dM e1 (jq I hk);obtain @⟨a,o,h2,h3,ws,m,e3,rr⟩:=lR I hx e (fun _ h=>by cases h);refine k9 ?_;rw[q];subst e3;refine oW h3 h1 (by rw[rr.length];exact e4) fun h' z1 z2=> ?_;refine aW fun G9 k9=> ?_;obtain ⟨P',q1,q2,q3,q4,q5⟩:=qu (t:=P.s.toks) (f':=.list (l.set jj v)) I (fun _ h=>by cases h) (fun _ h=>by cases h) e h2 (fun b o hb e=>z2.extBut b o hb e) z1 ⟨_,m,rfl,rr.set hv⟩;refine k9 ?_;have:=kk P' q1 q2 q3;rw[q5] at this;exact this
 |dict ks ps=>
  obtain ⟨⟨h1,h4⟩,q⟩:=d9 e';subst q;refine aW fun G9 k9=> ?_;obtain @⟨a,o,h2,h3,vs,hd,rr⟩:=lR I hx e (fun _ h=>by cases h);obtain ⟨d,l,c,hk1,h5,e1,e2,h6,e3,h7,h8⟩:=rz hd hk h1;refine k9 ?_;subst e1;subst e2;subst e3
  letI:=d.dec
  have hlen:l.length<100000:=by rw[Oc] at h4;exact h4
  refine wpAny_setItem_pairs h7 (Heap.dictOf_iff.mpr ⟨o,h3,h5⟩) (fun h' z1 z2=> ?_) (Om (OQ hlen) (by decide));refine aW fun G9 k9=> ?_;obtain ⟨o',z3,z4⟩:=Heap.dictOf_iff.mp z1;have hnd:(l.map (·.1)).Nodup:=by obtain ⟨_,_,_,_,_,_,h⟩:=h5;exact h
  have pa:=AE hk1 c hv rr hnd;obtain ⟨P',q1,q2,q3,q4,q5⟩:=qu (t:=P.s.toks+1) (f':=.dict (dG (d.toD c) (l.map fun p=>d.toD p.1)) (dF (d.toD c) v (l.map fun p=>d.toD p.1) ps)) I (fun _ h=>by cases h) (fun _ h=>by cases h) e h2 (fun b o hb e=>z2.extBut b o hb e) z3 ⟨_,.mk d _ hk1 z4 pa.1 rfl (vd (P:=d.ok) h6 h8),pa.2⟩;refine k9 ?_;have:=kk P' q1 q2 q3;rw[q5] at this;exact this
end
noncomputable def yA (x:PV) (k v:D) (σ:av):Option av:=match x with
 | .p n j=>(bU σ n j).bind fun f=>(An k v f).map fun f'=>d8 σ n j f'
 |_=>none
theorem yz {x:PV} {k v:D} {σ σ':av} (h:yA x k v σ=some σ'):∃ n j f f',x= .p n j/\bU σ n j=some f/\An k v f=some f'/\σ'=d8 σ n j f':=by
 cases x with
 |d=>cases h
 |b=>cases h
 |p n j=>
  refine aW fun G9 k9=> ?_;obtain ⟨f,e1,h⟩:=ao h;obtain ⟨f',e2,h⟩:=aZ h;refine k9 ?_;exact ⟨n,j,f,f',rfl,e1,e2,h.symm⟩
noncomputable def ik {α:Type} (o:Option α) (k:α->Option (Out×av)):Option (Out×av):=o.bind k
theorem fy {α:Type} {K:Out->av->Prop} {k:α->Option (Out×av)}:∀ {o:Option α},hW K (ik o k)->∃ a,o=some a/\hW K (k a)
 |some a,h=>⟨a,rfl,h⟩
section
variable {X:SX} {st:Stmt} {ρ:a9} {P:Pt} {K:Out->av->Prop} {Q:Flow->Shared->Prop} {E:Value->Shared->Prop}
theorem Di (o i a:CE) (h:pu (fun t e=>bx (fun oe ke _=> !gE e&&cC ke&&o.is X.sx oe&&i.is X.sx ke&&a.is X.sx e) t) st=true) (I:aE X.C P) (G:cc X P ρ)
  (w:hW K (ce ρ (a.ev X.ker ρ) (fun v=>ce ρ (o.ev X.ker ρ) fun x=>ce ρ (i.ev X.ker ρ) fun k σ=>ik (n8 k) fun k=>ik (n8 v) fun v=>ik (yA x k v σ) fun σ'=>some (.next ρ,σ')) P.σ)) (p:cS X P K Q E):Ws X st Q E P:=
 f_ (fun st=>Ws X st Q E P) h fun t e pos h=>bZ (fun t=>wpAny X.M X.A (PySem.exec (.Assign [t] e pos) X.env) Q E P.s) h fun oe ke px h=>
  wpAny_Assign_Subscript (a.ok X.toCx e ρ P _ _ E (ak h) I G.toEnvOK (dc w) (p.bind G fun v vv P1 g1 I1 r1 w G1 p=>
   o.ok X.toCx oe ρ P1 _ _ E (ak (ah (ah h))) I1 G1.toEnvOK (dc w) (p.bind G1 fun x vx P2 g2 I2 r2 w G2 p=>
    i.ok X.toCx ke ρ P2 _ _ E (ak (ah h)) I2 G2.toEnvOK (dc w) (p.bind G2 fun k vk P3 g3 I3 r3 w G3 p=>by
     refine aW fun G9 k9=> ?_;obtain ⟨dk,e1,w⟩:=fy w;obtain ⟨dv,e2,w⟩:=fy w;obtain ⟨σ',e3,w⟩:=fy w;obtain ⟨n,j,f,f',q,e4,e5,e6⟩:=yz e3;refine k9 ?_;subst q;subst e6;exact u0 I3 (r2.ext g3.toExt) (rW e1 r3) (rW e2 (r1.ext (g2.trans g3).toExt)) e4 e5 fun P4 g4 I4 e=>p.next ρ P4 (G3.gs g4) I4 (G3.ext g4) (e ▸ w))))) (ia ((Bool.not_eq_true' _).mp (ah (ah (ah (ah h))))))
end
noncomputable def qJ (o i a:CE):C1:=⟨fun K ρ=>ce ρ (a.ev K ρ) fun v=>ce ρ (o.ev K ρ) fun x=>ce ρ (i.ev K ρ) fun k σ=>ik (n8 k) fun k=>ik (n8 v) fun v=>ik (yA x k v σ) fun σ'=>some (.next ρ,σ'),fun s=>pu fun t e=>bx (fun oe ke _=> !gE e&&cC ke&&o.is s oe&&i.is s ke&&a.is s e) t,fun X st ρ P K Q E h I G w p=>Di o i a h I G w p⟩
noncomputable def vX (v:PV) (σ:av):Option (PV×av):=match v with
 | .p n 0=>(bU σ n 0).bind fun f=>f.rd.map fun x=>(.d x,σ.set n .dead)
 |_=>none
theorem FX {C:bq} {w:bp} {a:Addr} {o:Obj} (h:w a= .fz o):∀ {f:cb} {x:D},f.rd=some x->RF C w o f->RD C w x (.ref a):=by
 intro f x e r;cases f with
 |d _=>cases e
 |list _=>
  obtain ⟨vs,n,e',r⟩:=r;cases e;exact .lst (n:=⟨n,none,#[]⟩) (h.trans (congrArg cx.fz e')) r
 |dict _ _=>
  obtain ⟨vs,d,r⟩:=r;cases e;exact .dct h d r
theorem Bs {C:bq} {P:Pt} {x y:PV} {σ':av} (I:aE C P) (e:vX x P.σ=some (y,σ')):∃ P',bv P P'/\aE C P'/\P'.σ=σ'/\P'.s=P.s/\∀ v,RV C P v x->RV C P' v y:=by
 match x,e with
 | .p n 0,e=>
  refine aW fun G9 k9=> ?_;obtain ⟨f,e1,e⟩:=ao e;obtain ⟨z,e2,e⟩:=aZ e;refine k9 ?_;cases e;refine aW fun G9 k9=> ?_;obtain ⟨o',e3,e4⟩:=ao e1;obtain ⟨_,q⟩:=E_ (I.obj n o' e3) e4 (gz e2).2;obtain @⟨a,o,h1,h2,h3⟩:=q;refine k9 ?_;have g:=bv.ice (o:=o) e3 h1;exact ⟨P.ice n a o,g,I.ice e3 h1 h2,rfl,rfl,fun v r=>by rw[r.2 a h1];exact FX (bl _ _ _) e2 (h3.ext g.fz)⟩
 | .p _ (_+1),e=>cases e
 | .d _,e=>cases e
theorem Dj (i:Nat) (l:CS) {X:SX} {st:List Stmt} {ρ:a9} {P:Pt} {K:Out->av->Prop} {Q:Flow->Shared->Prop} {E:Value->Shared->Prop} (h:l.is X.sx st=true) (I:aE X.C P) (G:cc X P ρ) (w:hW K (ik ((ρ[i]?).join) fun v=>ik (vX v P.σ) fun q=>l.ex X.ker (ρ.set i (some q.1)) q.2)) (p:cS X P K Q E):wpAny X.M X.A (PySem.execs st X.env) Q E P.s:=by
 refine aW fun G9 k9=> ?_;obtain ⟨v,e1,w⟩:=fy w;obtain ⟨⟨y,σ'⟩,e2,w⟩:=fy w;obtain ⟨P',g,I',e3,e4,k⟩:=Bs I e2;refine k9 ?_;have G':=G.ext g;rw[<-e4];refine l.ok X st (ρ.set i (some y)) P' K Q E h I' ⟨⟨G'.frs,G'.ne,fun x j q h1 h2 h3=> ?_⟩,G'.hd⟩ (by rw[e3];exact w) (p.mono (G.gs g));rcases qH h3 with ⟨c1,c2⟩|⟨c1,c2⟩
 .subst c1;subst c2;obtain ⟨u,r,ld⟩:=G.var x i v h1 h2 (pV e1);exact ⟨u,k u r,g.fs ▸ ld⟩
 .exact G'.var x j q h1 h2 c2
noncomputable def Dk (i:Nat) (l:CS):CS:=⟨fun K ρ σ=>ik ((ρ[i]?).join) fun v=>ik (vX v σ) fun q=>l.ex K (ρ.set i (some q.1)) q.2,l.is,fun _ _ _ _ _ _ _ h I G w p=>Dj i l h I G w p⟩
section
variable {C:bq} {P:Pt}
noncomputable def Pt.adopt (P:Pt) (h:Heap) (t:Nat) (a:Addr) (m n j:Nat) (o:PO):Pt:={P.to h t with own:=fQ P.own a (.cell n j),σ:=(P.σ.set m .dead).set n o}
theorem qm (I:aE C P) {h':Heap} {t m n i j:Nat} {a d:Addr} {oa od:Obj} {po p0 p1:PO} (em:P.σ[m]? =some po) (en:P.σ[n]? =some p0) (ne:m≠n) (ha:P.own a= .cell m 0) (hd:P.own d= .cell n i) (hs:∀ b o,b≠d->P.h.get? b=some o->h'.get? b=some o)
  (oa:P.h.get? a=some oa) (od:h'.get? d=some od) (hno:∀ b,P.own b≠ .cell n j) (h1:∀ b k,P.own b= .cell n k->p1.has k) (h2:p1.has j) (r:RO C (fQ P.own a (.cell n j)) h' n p1):aE C (P.adopt h' t a m n j p1)/\Fz P.own (fQ P.own a (.cell n j)):=by
 have nad:a≠d:=fun q=>by rw[q,hd] at ha;cases ha;exact ne rfl
 have kk:∀ b o x,P.own b=x->x≠ .cell m 0->x≠ .cell n i->P.h.get? b=some o->fQ P.own a (.cell n j) b=x/\h'.get? b=some o:=fun b o x e q1 q2 z=>
  have na:b≠a:=fun c=>q1 (by rw[<-e,c,ha]);have nd:b≠d:=fun c=>q2 (by rw[<-e,c,hd])
  ⟨(a_ na).trans e,hs b o nd z⟩
 have fz:Fz P.own (fQ P.own a (.cell n j)):=fun b o e=>(a_ fun c=>by rw[c,ha] at e;cases e).trans e;have len:(P.σ.set m .dead).length=P.σ.length:=OE;have ln:=(Og.mp en).1;have gn:((P.σ.set m .dead).set n p1)[n]? =some p1:=by rw[List.getElem?_set_self (by rw[len];exact ln)]
 refine ⟨⟨fun b o e=> ?_,fun c o e=> ?_,fun c e=> ?_,I.fr.mv (fun b o e q=>kk b o _ e cx.noConfusion cx.noConfusion q) (fun b e=>kG cx.noConfusion e),I.gh.mv fz fun b o e q=>kk b o _ e cx.noConfusion cx.noConfusion q,fun b c k j' e f=> ?_,fun c k j' e=> ?_,fun k o e=> ?_⟩,fz⟩
 .obtain ⟨e1,e2⟩:=I.base b o e;exact (kk b o _ e2 cx.noConfusion cx.noConfusion e1).symm
 .rcases cg P.own a (.cell n j) c with ⟨_,q⟩|⟨_,q⟩
  .cases q.symm.trans e
  .have z:=q.symm.trans e;exact (kk c o _ z cx.noConfusion cx.noConfusion (I.fz c o z)).2
 .by_cases c1:c=d
  .exact ⟨_,c1 ▸ od⟩
  .rcases cg P.own a (.cell n j) c with ⟨p,q⟩|⟨_,q⟩
   .exact ⟨_,hs c _ c1 (p ▸ oa)⟩
   .obtain ⟨o,ho⟩:=I.live c (q ▸ e);exact ⟨o,hs c o c1 ho⟩
 .rcases cg P.own a (.cell n j) b with ⟨p,q⟩|⟨_,q⟩<;>rcases cg P.own a (.cell n j) c with ⟨p',q'⟩|⟨_,q'⟩
  .rw[p,p']
  .cases q.symm.trans e;exact absurd (q'.symm.trans f) (hno c)
  .cases q'.symm.trans f;exact absurd (q.symm.trans e) (hno b)
  .exact I.one b c k j' (q.symm.trans e) (q'.symm.trans f)
 .rcases cg P.own a (.cell n j) c with ⟨p,q⟩|⟨_,q⟩
  .cases q.symm.trans e;exact ⟨_,gn,h2⟩
  .have e:=q.symm.trans e;by_cases c1:k=n
   .rw[c1] at e ⊢;exact ⟨_,gn,h1 c j' e⟩
   .obtain ⟨o,e1,e2⟩:=c6 em (o':=.dead) (fun _ _=>trivial) (I.bd c k j' e);exact ⟨o,by show ((P.σ.set m .dead).set n p1)[k]? =_;rw[OI (Ne.symm c1)];exact e1,e2⟩
 .by_cases c1:k=n
  .rw[c1] at e ⊢;cases (gn.symm.trans e);exact r
  .have e:((P.σ.set m .dead).set n p1)[k]? =some o:=e;rw[OI (Ne.symm c1)] at e;by_cases c2:k=m
   .rw[c2,List.getElem?_set_self (Og.mp em).1] at e;cases e;exact True.intro
   .rw[OI (Ne.symm c2)] at e;exact (I.obj k o e).mv fz fun b j o e q=>kk b o _ e (fun z=>by cases z;exact c2 rfl) (fun z=>by cases z;exact c1 rfl) q
theorem uE (I:aE C P) {h':Heap} {t m n i:Nat} {a d:Addr} {oa od:Obj} {po:PO} {b:Bool} {l l':List cb} (em:P.σ[m]? =some po) (en:P.σ[n]? =some (.rcd b l)) (ne:m≠n) (ha:P.own a= .cell m 0) (hd:P.own d= .cell n i) (hs:∀ b o,b≠d->P.h.get? b=some o->h'.get? b=some o)
  (oa:P.h.get? a=some oa) (od:h'.get? d=some od) (hl:l'.length=l.length+1) (r:RO C (fQ P.own a (.cell n (l.length+2))) h' n (.rcd b l')):aE C (P.adopt h' t a m n (l.length+2) (.rcd b l'))/\bv P (P.adopt h' t a m n (l.length+2) (.rcd b l')):=by
 have lt:∀ b k,P.own b= .cell n k->k<l.length+2:=fun b k q=>by
  obtain ⟨o',e1,e2⟩:=I.bd b n _ q;rw[en] at e1;cases e1;exact e2
 have up:∀ k,k<l.length+2->k<l'.length+2:=fun k q=>by rw[hl];exact Nat.lt_succ_of_lt q
 obtain ⟨J,fz⟩:=qm (t:=t) (j:=l.length+2) (p1:=.rcd b l') I em en ne ha hd hs oa od (fun b q=>OU _ (lt b _ q)) (fun b k q=>up k (lt b k q)) (by show l.length+2<l'.length+2;rw[hl];exact Nat.lt_succ_self _) r;refine ⟨J,⟨⟨⟨h',t,rfl⟩,rfl,fz,fun k j v=> ?_,fun k j c v q=> ?_⟩,rfl⟩⟩
 .have e2:(P.σ.set m .dead)[n]? =some (.rcd b l):=by rw[OI ne];exact en
  exact c6 e2 up (c6 em (fun _ _=>trivial) v)
 .rcases cg P.own a (.cell n (l.length+2)) c with ⟨p,z⟩|⟨_,z⟩
  .cases z.symm.trans q;obtain ⟨o',e1,e2⟩:=v;rw[en] at e1;cases e1;exact absurd e2 (OU _)
  .exact z.symm.trans q
theorem yp {A:Around} {s:Shared} {x dx:Addr} {es es':List DictEntry} {n n':Nat} {name:Str} {tk:Tok} {v:Value} {R:Result->Shared->Prop} (W:Ft C) (X:PySem.W.Frag.In C.K s.heap) (hx:s.heap.get? x=some (kN C.book dx)) (hd:s.heap.get? dx=some (dp es n))
  (hno:PySem.W.findIn C.K (.ref C.book) name=some none) (href:es.any (·.refKey)=false) (hp:Obj.putName name (PyData.keyHash C.w.params name) (.str name s.toks) v (dp es n)=dp es' n') (hz:es'.length<=1000)
  (h:∀ h',h'.get? dx=some (dp es' n')->Heap.SameBut dx s.heap h'->R (.ok (.ret .none)) {s with heap:=h',toks:=s.toks+1}):
  codeAny C.M A (.call (.builtin "object.__setattr__") ⟨[.ref x,.str name tk,v],[]⟩) R s:=by
 refine PySem.W.osa_open X (od:=some (dp es n)) ⟨hx,rfl,rfl,hd⟩ W.plain (r:=none) (by unfold PySem.W.takerIn;rw[hno];rfl) fun b=> ?_;obtain ⟨cd,hc,hd'⟩:=W.cd;have g:=Heap.get?_update_self (Obj.putName name (PyData.keyHash C.w.params name) (.str name s.toks) v) hd (by rw[hp];rfl);rw[hp] at g;refine Op (Oq (Op (Op (wpAny_loadPart hx (Op ((PySem.W.looks_clsIn X hc).here ?_))))));rw[hd'];refine Oq (a:=some dx) (Op (Oq (Op ?_)));unfold nsSet;refine Op (Op (wpAny_askSetting (Oq (Op (wpAny_mkText (Op (wpAny_loadPart hd ?_)))))));dsimp only;have c:(!es.toArray.any (·.key.isStr name)&&es.toArray.any (·.refKey))=false:=by
  rw[<-Array.any_toList,<-Array.any_toList,href,Bool.and_false]
 rw[aRefKeyMayBeTheName_at,c];refine wpAny_updatePart hd ?_;refine Op (wpAny_lookBehind g (pastItsLine_dict (by rw[Oz];exact Om hz (by decide))) ?_);exact Oq (h _ g (Heap.SameBut.update ..))
noncomputable def Ao (k:Nat) (x v:PV) (σ:av):Option av:=match x with
 | .p n 0=>(cA true σ n).bind fun l=>(aq (k=l.length) ()).bind fun _=>match v with
  | .d y=>some (σ.set n (.rcd true (l++[.d y])))
  | .p m 0=>(aq (m≠n) ()).bind fun _=>(bU σ m 0).bind fun f=>f.rd.map fun _=>(σ.set m .dead).set n (.rcd true (l++[f]))
  |_=>none
 |_=>none
theorem FA.mono {w w':bp} {h h':Heap} {n i:Nat} {v:Value} {f:cb} (x:Fz w w') (k:∀ b o,w b= .cell n (i+2)->h.get? b=some o->w' b= .cell n (i+2)/\h'.get? b=some o) (q:FA C w h n i v f):FA C w' h' n i v f:=by
 cases f with
 |d y=>exact RD.ext x q
 |list l=>
  obtain ⟨a,b,c⟩:iK C w h n (i+2) (.list l) v:=q;exact iK.mk (k _ _ a b).1 (k _ _ a b).2 (RF.ext x c)
 |dict ks ps=>
  obtain ⟨a,b,c⟩:iK C w h n (i+2) (.dict ks ps) v:=q;exact iK.mk (k _ _ a b).1 (k _ _ a b).2 (RF.ext x c)
theorem u5 {A:Around} {E:Value->Shared->Prop} {Q:Unit->Shared->Prop} {k:Nat} {x v:PV} {vx vv:Value} {σ':av} (G:eA C) (hk:k<7) (I:aE C P) (hx:RV C P vx x) (hv:RV C P vv v) (e:Ao k x v P.σ=some σ')
  (kk:∀ P',bv P P'->aE C P'->P'.σ=σ'->Q () P'.s):wpAny C.M A (PySem.setAttr vx (C.att k) vv) Q E P.s:=by
 cases x with
 |d _=>cases e
 |b _ _=>cases e
 |p n j=>
 cases j with
 |succ _=>cases e
 |zero=>
 obtain ⟨l,e1,e⟩:=ao e;obtain ⟨_,e2,e⟩:=ao e;have e2:=(d9 e2).1;have en:=iN e1;obtain @⟨a,d,es,m,h1,h2,h3,h4,h5,h6,h7,h8⟩:hR C P.own P.h n l:=I.obj n _ en;have W:=G.cls;have XX:PySem.W.Frag.In C.K P.h:=W.X.keeps fun b o e=>(I.base b o e).1;have hnone:=uA (C:=C) (es:=es) (off:=0) (x:=C.att k) (ww h5) (fun i _ h q=>by have:=W.inj i (Lu hk e2 h6 h) k hk q;exact Lr e2 h6 h this);have nad:d≠a:=fun q=>by rw[q,h1] at h3;cases h3
 rw[hx.2 a h1];have hp:Obj.putName (C.att k) (PyData.keyHash C.w.params (C.att k)) (.str (C.att k) (P.s.toks+1)) vv (dp es m)=dp (es++[⟨PyData.keyHash C.w.params (C.att k),.str (C.att k) (P.s.toks+1),vv⟩]) (m+1):=by
  rw[Obj.putName_eq];show (match es.toArray.findIdx? (·.key.isStr (C.att k)) with|some i=>_|none=>_)=_
  have:es.toArray.findIdx? (·.key.isStr (C.att k))=none:=by
   rw[List.findIdx?_toArray,List.findIdx?_eq_none_iff];intro e he;have:=hnone.1;rw[List.find?_eq_none] at this
   simpa using this e he
  rw[this];show ({cls:=.type "dict",data:=.dict (es.toArray.push _) (m+1)}:Obj)=_;rw[List.push_toArray]
 refine PySem.W.set_plain XX (show PySem.W.InstAt P.h a (kN C.book d) C.book (some (dp es m)) from ⟨h2,rfl,rfl,h4⟩) W.sattr ?_;refine yp (s:={P.s with toks:=P.s.toks+1}) W XX h2 h4 (W.no k hk) hnone.2 hp (by simp;exact Lq hk e2 h6) fun h' g1 g2=> ?_;have at':oC C (es++[⟨PyData.keyHash C.w.params (C.att k),.str (C.att k) (P.s.toks+1),vv⟩]):=fun i e he=>by
  by_cases c:i=es.length
  .rw[(dl he).2 c,c,h6,<-e2];exact ⟨⟨_,rfl⟩,rfl⟩
  .exact h5 i e ((dl he).1 c)
 have ro:∀ (w':bp) (f:cb),Fz P.own w'->(∀ b j,P.own b= .cell n j->w' b= .cell n j)->FA C w' h' n k vv f->RO C w' h' n (.rcd true (l++[f])):=fun w' f fz kw fa=>by
  refine hR.mk (kw _ _ h1) (g2.extBut _ _ (Ne.symm nad) h2) (kw _ _ h3) g1 at' (by simp [h6]) (by simp;exact Lp hk e2) fun i f' en' q1 q2=> ?_;by_cases c:i=l.length
  .rw[(dl q1).2 c,(dl q2).2 (c.trans h6.symm),c,<-e2];exact fa
  .refine (h8 i f' en' ((dl q1).1 c) ((dl q2).1 (fun z=>c (z.trans h6)))).mono fz fun b o z1 z2=>⟨kw b _ z1,g2.extBut b o (fun z=> ?_) z2⟩;rw[z,h3] at z1;cases z1
 cases v with
 |b _ _=>cases e
 |d y=>
  cases e;have J:=I.turn (h':=h') (t:=P.s.toks+1+1) (po':=.rcd true (l++[.d y])) (fun j q=>by show j<(l++[cb.d y]).length+2;simp;have:j<l.length+2:=q;exact Nat.lt_succ_of_lt this) en h3 (fun b o hb e=>g2.extBut b o hb e) g1 (ro P.own (.d y) (fun _ _ e=>e) (fun _ _ e=>e) hv);exact kk _ (.turn en fun j q=>by show j<(l++[cb.d y]).length+2;simp;have:j<l.length+2:=q;exact Nat.lt_succ_of_lt this) J rfl
 |p m' j=>
 cases j with
 |succ _=>cases e
 |zero=>
  obtain ⟨_,z1,e⟩:=ao e;obtain ⟨f,z2,e⟩:=ao e;obtain ⟨u,z3,e⟩:=aZ e;have z1:=(d9 z1).1;obtain ⟨o',z4,z5⟩:=ao z2;obtain @⟨af,of,y1,y2,y3⟩:=lR I hv z2 (gz z3).2;have fz:Fz P.own (fQ P.own af (.cell n (l.length+2))):=fun b o e=>(a_ fun c=>by rw[c,y1] at e;cases e).trans e;have ndf:af≠d:=fun q=>by rw[q,h3] at y1;cases y1
  obtain ⟨J,g⟩:=uE (t:=P.s.toks+1+1) (l':=l++[f]) I z4 en z1 y1 h3 (fun b o hb e=>g2.extBut b o hb e) y2 g1 (by simp)
   (ro _ f fz (fun b j e=>(a_ fun c=>by rw[c,y1] at e;cases e;exact z1 rfl).trans e) (BD (gz z3).2 (by rw[e2];exact iK.mk (bl _ _ _) (g2.extBut _ _ ndf y2) (y3.ext fz))))
  exact kk _ g J e
end
section
variable {X:SX} {st:Stmt} {ρ:a9} {P:Pt} {K:Out->av->Prop} {Q:Flow->Shared->Prop} {E:Value->Shared->Prop}
theorem As (o:CE) (k:Nat) (a:CE) (h:pu (fun t e=>cZ (fun oe x _=> !gE e&&x==X.sx.att k&&decide (k<7)&&o.is X.sx oe&&a.is X.sx e) t) st=true) (I:aE X.C P) (G:cc X P ρ)
  (w:hW K (ce ρ (a.ev X.ker ρ) (fun v=>ce ρ (o.ev X.ker ρ) fun x σ=>ik (Ao k x v σ) fun σ'=>some (.next ρ,σ')) P.σ)) (p:cS X P K Q E):wpAny X.M X.A (PySem.exec st X.env) Q E P.s:=
 f_ (fun st=>wpAny X.M X.A (PySem.exec st X.env) Q E P.s) h fun t e pos h=>ew (fun t=>wpAny X.M X.A (PySem.exec (.Assign [t] e pos) X.env) Q E P.s) h fun oe x px h=>by
  rw[bu (ak (ah (ah (ah h))))];exact plainObj_wpAny_Assign_Attribute (a.ok X.toCx e ρ P _ _ E (ak h) I G.toEnvOK (dc w) (p.bind G fun v vv P1 g1 I1 r1 w G1 p=>
   o.ok X.toCx oe ρ P1 _ _ E (ak (ah h)) I1 G1.toEnvOK (dc w) (p.bind G1 fun x vx P2 g2 I2 r2 w G2 p=>by
    obtain ⟨σ',e3,w⟩:=fy w;exact u5 X.good (OT (ak (ah (ah h)))) I2 r2 (r1.ext g2.toExt) e3 fun P4 g4 I4 e=>p.next ρ P4 (G2.gs g4) I4 (G2.ext g4) (e ▸ w)))) (ia ((Bool.not_eq_true' _).mp (ah (ah (ah (ah h))))))
end
noncomputable def jd (o:CE) (k:Nat) (a:CE):C1:=⟨fun K ρ=>ce ρ (a.ev K ρ) fun v=>ce ρ (o.ev K ρ) fun x σ=>ik (Ao k x v σ) fun σ'=>some (.next ρ,σ'),fun s=>pu fun t e=>cZ (fun oe x _=> !gE e&&x==s.att k&&decide (k<7)&&o.is s oe&&a.is s e) t,fun X st ρ P K Q E h I G w p=>As o k a h I G w p⟩
section
variable {C:bq} {P:Pt}
noncomputable def Pt.hide (P:Pt) (h:Heap) (t:Nat) (a:Addr) (o:Obj):Pt:={P.to h t with own:=fQ P.own a .gh,G:=(a,o)::P.G}
noncomputable def Pt.show (P:Pt) (h:Heap) (t:Nat) (a:Addr) (G:List (Addr×Obj)):Pt:={P.to h t with own:=fQ P.own a .no,G:=G}
theorem aE.hide (I:aE C P) {h':Heap} {a:Addr} {o:Obj} {t:Nat} (n:sv C P h' a o):aE C (P.hide h' t a o):=by
 have kk:∀ b o x,P.own b=x->x≠ .no->P.h.get? b=some o->fQ P.own a .gh b=x/\h'.get? b=some o:=fun b o x e q z=>⟨(a_ fun c=>q (by rw[<-e,c,n.own])).trans e,n.keep b o z⟩;have cs:=cg P.own a .gh;refine ⟨fun b o e=> ?_,fun b o e=> ?_,fun b e=> ?_,I.fr.mv (fun b o e q=>kk b o _ e cx.noConfusion q) (fun b e=>kG cx.noConfusion e),⟨fun p hp=> ?_,?_,fun z e=>(I.gh.tab z e).map (dg n.own) fun b o q=>⟨n.keep b o q.1,(kk b o _ q.2.1 cx.noConfusion q.1).1,fun p hp=> ?_⟩⟩,fun b c k j e f=> ?_,fun b k j e=> ?_,fun k o e=>(I.obj k o e).mv (fun b o e=>(a_ fun c=>by rw[c,n.own] at e;cases e).trans e) fun b j o e q=>kk b o _ e cx.noConfusion q⟩
 .obtain ⟨e1,e2⟩:=I.base b o e;exact ⟨n.keep b o e1,(a_ fun c=>by rw[c,n.H] at e;cases e).trans e2⟩
 .rcases cs b with ⟨_,q⟩|⟨_,q⟩
  .cases q.symm.trans e
  .exact n.keep b o (I.fz b o (q.symm.trans e))
 .rcases cs b with ⟨p,q⟩|⟨_,q⟩
  .exact ⟨o,p ▸ n.at_⟩
  .obtain ⟨o,ho⟩:=I.live b (q ▸ e);exact ⟨o,n.keep b o ho⟩
 .rcases Oe.mp hp with q|q
  .rw[q];exact ⟨n.at_,bl _ _ _⟩
  .exact (kk _ _ _ (I.gh.at_ p q).2 cx.noConfusion (I.gh.at_ p q).1).symm
 .refine OW.mpr ⟨fun q=> ?_,I.gh.nd⟩;obtain ⟨p,hp,e⟩:=Ot.mp q;have:=(I.gh.at_ p hp).2;rw[e,n.own] at this;cases this
 .rcases Oe.mp hp with z|z
  .rw[z];intro c;have:=q.2.1;rw[<-c,n.own] at this;cases this
  .exact q.2.2 p z
 .rcases cs b with ⟨_,q⟩|⟨_,q⟩
  .cases q.symm.trans e
  .rcases cs c with ⟨_,q'⟩|⟨_,q'⟩
   .cases q'.symm.trans f
   .exact I.one b c k j (q.symm.trans e) (q'.symm.trans f)
 .rcases cs b with ⟨_,q⟩|⟨_,q⟩
  .cases q.symm.trans e
  .exact I.bd b k j (q.symm.trans e)
section
variable {a:Addr} {o:Obj} {G:List (Addr×Obj)}
theorem aE.gturn (I:aE C P) (hG:P.G=(a,o)::G) {h':Heap} {o':Obj} {t:Nat} (hs:∀ b o,b≠a->P.h.get? b=some o->h'.get? b=some o) (ho:h'.get? a=some o'):aE C {P.to h' t with G:=(a,o')::G}:=by
 have own:P.own a= .gh:=(I.gh.at_ (a,o) (by rw[hG];exact .head _)).2;have nd:=I.gh.nd;rw[hG] at nd;have kk:∀ b o x,P.own b=x->x≠ .gh->P.h.get? b=some o->P.own b=x/\h'.get? b=some o:=fun b o x e q z=>⟨e,hs b o (fun c=>q (by rw[<-e,c,own])) z⟩;refine ⟨fun b o e=>⟨hs b o (fun c=> ?_) (I.base b o e).1,(I.base b o e).2⟩,fun b o e=>(kk b o _ e cx.noConfusion (I.fz b o e)).2,fun b e=> ?_,I.fr.mv (fun b o e q=>kk b o _ e cx.noConfusion q) (fun _ e=>e),⟨fun p hp=> ?_,nd,fun z e=>(I.gh.tab z e).map (fun _ _ e=>e) fun b o q=>⟨hs b o (Ne.symm (q.2.2 (a,_) (by rw[hG];exact .head _))) q.1,q.2.1,fun p hp=>(Oe.mp hp).elim (fun c=>by rw[c];show a≠b;exact q.2.2 (a,_) (by rw[hG];exact .head _)) fun c=>q.2.2 p (by rw[hG];exact .tail _ c)⟩⟩,I.one,I.bd,fun k o e=>(I.obj k o e).mv (fun _ _ e=>e) fun b j o e q=>kk b o _ e cx.noConfusion q⟩
 .have:=(I.base b o e).2;rw[c,own] at this;cases this
 .by_cases c:b=a
  .exact ⟨o',c ▸ ho⟩
  .obtain ⟨o,z⟩:=I.live b e;exact ⟨o,hs b o c z⟩
 .rcases Oe.mp hp with q|q
  .rw[q];exact ⟨ho,own⟩
  .have z:=I.gh.at_ p (by rw[hG];exact .tail _ q);exact ⟨hs _ _ (fun c=>(OW.mp nd).1 (Ot.mpr ⟨p,q,c⟩)) z.1,z.2⟩
theorem aE.show (I:aE C P) (hG:P.G=(a,o)::G) {h':Heap} {t:Nat} (hs:∀ b o,b≠a->P.h.get? b=some o->h'.get? b=some o):aE C (P.show h' t a G):=by
 have own:P.own a= .gh:=(I.gh.at_ (a,o) (by rw[hG];exact .head _)).2;have nd:=I.gh.nd;rw[hG] at nd;have cs:=cg P.own a .no;have kk:∀ b o x,b≠a->P.own b=x->P.h.get? b=some o->fQ P.own a .no b=x/\h'.get? b=some o:=fun b o x c e z=>⟨(a_ c).trans e,hs b o c z⟩;have ka:∀ b x,P.own b=x->x≠ .gh->b≠a:=fun b x e q c=>q (by rw[<-e,c,own]);refine ⟨fun b o e=> ?_,fun b o e=> ?_,fun b e=> ?_,I.fr.mv (fun b o e q=>kk b o _ (ka b _ e cx.noConfusion) e q) (fun b e=>kG cx.noConfusion e),⟨fun p hp=> ?_,(OW.mp nd).2,fun z e=>(I.gh.tab z e).map (fun b o e=>(a_ (ka b _ e cx.noConfusion)).trans e) fun b o q=>have ne:=Ne.symm (q.2.2 (a,_) (by rw[hG];exact .head _));⟨hs b o ne q.1,(a_ ne).trans q.2.1,fun p hp=>q.2.2 p (by rw[hG];exact .tail _ hp)⟩⟩,fun b c k j e f=> ?_,fun b k j e=> ?_,fun k o e=>(I.obj k o e).mv (fun b o e=>(a_ (ka b _ e cx.noConfusion)).trans e) fun b j o e q=>kk b o _ (ka b _ e cx.noConfusion) e q⟩
 .obtain ⟨e1,e2⟩:=I.base b o e;exact (kk b o _ (ka b _ e2 cx.noConfusion) e2 e1).symm
 .rcases cs b with ⟨_,q⟩|⟨c,q⟩
  .cases q.symm.trans e
  .exact hs b o c (I.fz b o (q.symm.trans e))
 .rcases cs b with ⟨_,q⟩|⟨c,q⟩
  .exact absurd q e
  .obtain ⟨o,z⟩:=I.live b (q ▸ e);exact ⟨o,hs b o c z⟩
 .have z:=I.gh.at_ p (by rw[hG];exact .tail _ hp);exact (kk _ _ _ (fun c=>(OW.mp nd).1 (Ot.mpr ⟨p,hp,c⟩)) z.2 z.1).symm
 .rcases cs b with ⟨_,q⟩|⟨_,q⟩
  .cases q.symm.trans e
  .rcases cs c with ⟨_,q'⟩|⟨_,q'⟩
   .cases q'.symm.trans f
   .exact I.one b c k j (q.symm.trans e) (q'.symm.trans f)
 .rcases cs b with ⟨_,q⟩|⟨_,q⟩
  .cases q.symm.trans e
  .exact I.bd b k j (q.symm.trans e)
theorem rH (I:aE C P) (hG:P.G=(a,o)::G):P.own a= .gh/\P.h.get? a=some o:=by
 have z:=I.gh.at_ (a,o) (by rw[hG];exact .head _);exact ⟨z.2,z.1⟩
theorem fE {w:bp} (e:w a= .gh):Fz w (fQ w a .no):=fun b o q=>(a_ fun c=>by rw[c,e] at q;cases q).trans q
theorem lc {w:bp} {b:Addr} {n j:Nat} (q:fQ w a .no b= .cell n j):w b= .cell n j:=by
 rcases cg w a .no b with ⟨_,r⟩|⟨_,r⟩
 .cases r.symm.trans q
 .exact r.symm.trans q
theorem RV.show {v:Value} {h:Heap} {t:Nat} (e:P.own a= .gh):∀ {p:PV},RV C P v p->RV C (P.show h t a G) v p:=fun r=>r.mv (P':=P.show h t a G) (fE e) (fun _ _ h=>h) fun _ _ _ _ q=>lc q
end
structure jH (P₀ P:Pt) (a:Addr) (o:Obj):Prop where
 sm:oO P₀.s P.s
 fs:pJ P₀.fs P.fs
 G:P.G=(a,o)::P₀.G
 fz:Fz P₀.own P.own
 val:∀ n j,cO P₀.σ n j->cO P.σ n j
 cell:∀ n j b,cO P₀.σ n j->P.own b= .cell n j->P₀.own b= .cell n j
theorem jH.show {P₀:Pt} {a:Addr} {o:Obj} {h:Heap} {t:Nat} (x:jH P₀ P a o) (e:P.own a= .gh):eH P₀ (P.show h t a P₀.G):=
 ⟨⟨x.sm.trans ⟨h,t,rfl⟩,rfl,fun b o q=>fE e b o (x.fz b o q),x.val,fun n j b v q=>x.cell n j b v (lc q)⟩,x.fs⟩
theorem jH.grow {P₀ P':Pt} {a:Addr} {o:Obj} (x:jH P₀ P a o) (g:eH P P'):jH P₀ P' a o:=
 ⟨x.sm.trans g.sm,x.fs.trans g.fs,g.G.trans x.G,fun b o q=>g.fz b o (x.fz b o q),fun n j v=>g.val n j (x.val n j v),fun n j b v q=>x.cell n j b v (g.cell n j b (x.val n j v) q)⟩
theorem jH.turn {P₀:Pt} {a:Addr} {o o':Obj} {h:Heap} {t:Nat} (x:jH P₀ P a o):jH P₀ {P.to h t with G:=(a,o')::P₀.G} a o':=
 ⟨x.sm.trans ⟨h,t,rfl⟩,x.fs,rfl,x.fz,x.val,x.cell⟩
theorem jH.start {P:Pt} {a:Addr} {o:Obj} {h:Heap} {t:Nat} (e:P.own a= .no) (hf:∃ f r,P.fs=f::r):jH P (P.hide h t a o) a o:=by
 obtain ⟨f,r,hf⟩:=hf;refine ⟨⟨h,t,rfl⟩,by show pJ P.fs P.fs;rw[hf];exact .mk (.refl f),rfl,dg e,fun _ _ v=>v,fun n j b v q=> ?_⟩;rcases cg P.own a .gh b with ⟨_,r⟩|⟨_,r⟩
 .cases r.symm.trans q
 .exact r.symm.trans q
end
structure HH (C:bq) (va:Value) (x:D) (w:bp) (I:Addr) (St:Nat->Heap->Prop):Prop where
 own:∀ i h h',St i h->h'.get? I=h.get? I->St i h'
 fld:∀ i h,St i h->∃ o,h.get? I=some o
 self:∀ (A:Around) (i:Nat) (s:Shared) (Q:Value->Shared->Prop) (E:Value->Shared->Prop),St i s.heap->Q (.ref I) s->wpAny C.M A (pyIter (.ref I)) Q E s
 item:∀ (A:Around) (i:Nat) (P:Pt) (xs:List D) (y:D) (Q:Option Value->Shared->Prop) (E:Value->Shared->Prop),A.handled=none->aE C P->Fz w P.own->fx C P va x->items x=some xs->xs[i]? =some y->St i P.h->
  (∀ val h' tk,RD C P.own y val->St (i+1) h'->(∀ b o,b≠I->P.h.get? b=some o->h'.get? b=some o)->Q (some val) {P.s with heap:=h',toks:=tk})->wpAny C.M A (pyNext (.ref I)) Q E P.s
 done:∀ (A:Around) (i:Nat) (P:Pt) (xs:List D) (Q:Option Value->Shared->Prop) (E:Value->Shared->Prop),A.handled=none->aE C P->Fz w P.own->fx C P va x->items x=some xs->xs.length=i->St i P.h->
  (∀ h' tk,(∀ b o,b≠I->P.h.get? b=some o->h'.get? b=some o)->Q none {P.s with heap:=h',toks:=tk})->wpAny C.M A (pyNext (.ref I)) Q E P.s
section
variable {C:bq} {A:Around} {P:Pt} {Q E:Value->Shared->Prop}
theorem GD (I:aE C P) {va:Value} {l:List D} (hn:kC C P.own cj l va)
  (k:∀ o St,o.isFreed=false->HH C va (.tup l) P.own P.h.objs.size St->St 0 (P.h.push o)->Q (.ref P.h.objs.size) {P.s with heap:=P.h.push o}):wpAny C.M A (pyIter va) Q E P.s:=by
 obtain @⟨a,vs,n,o,r⟩:=hn;refine wpAny_pyIter_tuple (items:=vs.toArray) ⟨_,I.fz _ _ o,rfl,n,rfl⟩ (k _ (fun i h=>h.IsTupleIter P.h.objs.size a i) rfl ⟨?_,?_,fun A i s Q E st h=>wpAny_pyIter_tupleiter st h,?_,?_⟩ ⟨_,Ox _ rfl,rfl,rfl⟩)
 .exact fun i h h' x e=>x.at fun o q=>e.trans q
 .rintro i h ⟨o,ho,_⟩;exact ⟨o,ho⟩
 .intro A i P' xs y Q E hh I' fz hr hx hi hst k;cases hx;obtain ⟨w,hw,hrw⟩:=(r.ext fz).get hi;exact wpAny_pyNext_tuple_item hst ⟨_,I'.fz _ _ (fz _ _ o),rfl,_,rfl⟩ (x:=w) (by simpa using hw) fun h' h1 h2=>k w h' P'.s.toks hrw h1 fun b o hb e=>h2.extBut b o hb e
 .intro A i P' xs Q E hh I' fz hr hx hi hst k;cases hx;exact wpAny_pyNext_tuple_end hh hst ⟨_,I'.fz _ _ (fz _ _ o),rfl,_,rfl⟩ (by simp [r.length,hi]) fun h' h2=>k h' P'.s.toks fun b o hb e=>h2 b o hb e
theorem GG (I:aE C P) {va:Value} {l:List D} (hn:gU C P l va)
  (k:∀ o St,o.isFreed=false->HH C va (.lst l) P.own P.h.objs.size St->St 0 (P.h.push o)->Q (.ref P.h.objs.size) {P.s with heap:=P.h.push o}):wpAny C.M A (pyIter va) Q E P.s:=by
 obtain @⟨a,vs,n,o,_,r⟩:=hn;refine wpAny_pyIter_list (items:=vs.toArray) ⟨_,o,rfl,_,rfl⟩ (k _ (fun i h=>h.IsListIter P.h.objs.size a i) rfl ⟨?_,?_,fun A i s Q E st h=>wpAny_pyIter_listiter st h,?_,?_⟩ ⟨_,Ox _ rfl,rfl,rfl⟩)
 .exact fun i h h' x e=>x.at fun o q=>e.trans q
 .rintro i h ⟨o,ho,_⟩;exact ⟨o,ho⟩
 .intro A i P' xs y Q E hh I' fz hr hx hi hst k;cases (d9 hx).2;generalize he:Value.ref a=v at hr;obtain @⟨b,vs',n',o',_,r'⟩:gU C P' l v:=hr;cases he;obtain ⟨w,hw,hrw⟩:=r'.get hi;exact wpAny_pyNext_list_item hst ⟨_,o',rfl,_,rfl⟩ (x:=w) (by simpa using hw) fun h' h1 h2=>k w h' P'.s.toks hrw h1 fun b o hb e=>h2.extBut b o hb e
 .intro A i P' xs Q E hh I' fz hr hx hi hst k;cases (d9 hx).2;generalize he:Value.ref a=v at hr;obtain @⟨b,vs',n',o',_,r'⟩:gU C P' l v:=hr;cases he;exact wpAny_pyNext_list_end hh hst ⟨_,o',rfl,_,rfl⟩ (by simp [r'.length,hi]) fun h' h2=>k h' P'.s.toks fun b o hb e=>h2 b o hb e
theorem GE (I:aE C P) {va:Value} {l:List Nat} (hn:oX l/\∃ t,va= .str (fU l) t)
  (k:∀ o St,o.isFreed=false->HH C va (.str l) P.own P.h.objs.size St->St 0 (P.h.push o)->Q (.ref P.h.objs.size) {P.s with heap:=P.h.push o}):wpAny C.M A (pyIter va) Q E P.s:=by
 obtain ⟨hs,t,q⟩:=hn;subst q;have hchar:∀ i (x:D) (xs:List D),items (.str l)=some xs->xs[i]? =some x->∃ c,x= .str [c]/\l[i]? =some c/\oX [c]:=fun i x xs hx hi=>by
  cases (d9 hx).2;rw[Ou] at hi;obtain ⟨c,hc,rfl⟩:=OY.mp hi;exact ⟨c,rfl,hc,fun d hd=>by rw[Oi.mp hd];exact hs.1 c (OH hc),by simp [dX]⟩
 have hlen:∀ (xs:List D),items (.str l)=some xs->xs.length=l.length:=fun xs hx=>by
  cases (d9 hx).2;simp
 cases ha:(fU l).cps.all (· <128)
 .refine wpAny_pyIter_wide ha (k _ (fun i h=>h.IsStrIter P.h.objs.size "str_iterator" (fU l) t i) rfl ⟨?_, ?_,fun A i s Q E st h=>wpAny_pyIter_striter_wide st h, ?_, ?_⟩ ⟨_,Ox _ rfl,rfl,rfl⟩)
  .rintro i h h' ⟨o,ho,r⟩ e;exact ⟨o,e.trans ho,r⟩
  .rintro i h ⟨o,ho,_⟩;exact ⟨o,ho⟩
  .intro A i P' xs y Q E hh I' fz hr hx hi hst k;obtain ⟨c,rfl,hc,hk⟩:=hchar i y xs hx hi;exact wpAny_pyNext_wide_item hst (c:=c) (by simpa using hc) fun h' h1 h2=>k _ h' _ (.str [c] _ hk) h1 fun b o hb e=>h2.extBut b o hb e
  .intro A i P' xs Q E hh I' fz hr hx hi hst k;exact wpAny_pyNext_wide_end hh hst (by simp [<-hi,hlen xs hx]) fun h' h2=>k h' P'.s.toks fun b o hb e=>h2 b o hb e
 .refine wpAny_pyIter_ascii ha (k _ (fun i h=>h.IsStrIter P.h.objs.size "str_ascii_iterator" (fU l) t i) rfl ⟨?_, ?_,fun A i s Q E st h=>wpAny_pyIter_striter_ascii st h, ?_, ?_⟩ ⟨_,Ox _ rfl,rfl,rfl⟩)
  .rintro i h h' ⟨o,ho,r⟩ e;exact ⟨o,e.trans ho,r⟩
  .rintro i h ⟨o,ho,_⟩;exact ⟨o,ho⟩
  .intro A i P' xs y Q E hh I' fz hr hx hi hst k;obtain ⟨c,rfl,hc,hk⟩:=hchar i y xs hx hi;exact wpAny_pyNext_ascii_item hst (c:=c) (by simpa using hc) fun h' h1 h2=>k _ h' _ (.str [c] _ hk) h1 fun b o hb e=>h2.extBut b o hb e
  .intro A i P' xs Q E hh I' fz hr hx hi hst k;exact wpAny_pyNext_ascii_end hh hst (by simp [<-hi,hlen xs hx]) fun h' h2=>k h' P'.s.toks fun b o hb e=>h2 b o hb e
theorem GF (I:aE C P) {va:Value} {a b c:Int} {xs:List D} (hn:Hu P.own a b c va) (hx0:items (.rng a b c)=some xs)
  (k:∀ o St,o.isFreed=false->HH C va (.rng a b c) P.own P.h.objs.size St->St 0 (P.h.push o)->Q (.ref P.h.objs.size) {P.s with heap:=P.h.push o}):wpAny C.M A (pyIter va) Q E P.s:=by
 obtain @⟨r,t,u,v,hm⟩:=hn;obtain ⟨hg,_⟩:=d9 hx0;simp only [Bool.and_eq_true,decide_eq_true_eq] at hg;obtain ⟨⟨⟨⟨g1,g2⟩,g3⟩,g4⟩,g5⟩:=hg;have s1: -(2^62)<a/\a<2^62:=by simpa [bI] using g1
 have s2: -(2^62)<b/\b<2^62:=by simpa [bI] using g2
 have hsize:Builtin.Range.rangeSize a b c=(ch a b c:Int):=by
  unfold Builtin.Range.rangeSize ch;rw[if_pos g3];split
  .have:0<=(b - a - 1) / c:=Int.ediv_nonneg (by omega) (by exact O8 g3);exact (OR (OL this (O6 (by decide)))).symm
  .rfl
 have hfit:∀ i:Int,-(2^63)<=i->i<2^63->Builtin.Range.rangeFitsLong i=true:=fun i h1 h2=>by
  unfold Builtin.Range.rangeFitsLong;simp;exact ⟨h1,h2⟩
 have hsm:Builtin.Range.small a b c=true:=by
  unfold Builtin.Range.small;rw[hsize,hfit a (Ip s1) (Ik s1),hfit b (Ip s2) (Ik s2),hfit c (by exact OL (by decide) g3) (by exact OL g4 (by decide)),hfit _ (Ln) (by exact OP.mpr (OC g5 (Oj rfl))),if_pos g3,hfit (b+(c - 1)) (by exact OL (by decide:(-2^63:Int)<= -2^62+(0+1 - 1)) (Int.add_le_add (O8 s2.1) (Int.sub_le_sub_right (Int.add_one_le_of_lt g3) 1))) (by exact Int.lt_trans (Int.add_lt_add s2.2 (Int.sub_lt_sub_right g4 1)) (by decide))];simp
 refine wpAny_pyIter_range (I.fz _ _ hm) hsm (k _ (fun i h=>IsRangeIter h P.h.objs.size (a+(i:Nat)*c) ((ch a b c:Int) - (i:Nat)) c) rfl ⟨?_,?_,fun A i s Q E st h=>wpAny_pyIter_rangeiter st h,?_,?_⟩ ?_)
 .intro i h h' x e;exact e.trans x
 .intro i h x;exact ⟨_,x⟩
 .intro A i P' xs2 y Q E hh I' fz hr hx2 hi hst k;cases (d9 hx2).2;rw[Ou] at hi;obtain ⟨j,hj,rfl⟩:=OY.mp hi;obtain ⟨hlt,hj⟩:=Og.mp hj;simp at hlt hj;subst hj;refine wpAny_pyNext_range_item hst (by exact Int.sub_pos_of_lt (OP.mpr hlt)) fun h' h1 h2=>k _ h' _ (.int _ _) ?_ fun b o hb e=>h2.extBut b o hb e;have e1:a+((i+1:Nat):Int)*c=a+(i:Int)*c+c:=by push_cast;rw[Int.add_mul,Int.one_mul,Int.add_assoc]
  have e2:(ch a b c:Int) - ((i+1:Nat):Int)=(ch a b c:Int) - (i:Int) - 1:=by push_cast;exact Lm
  show IsRangeIter _ _ _ _ _;rw[e1,e2];exact h1
 .intro A i P' xs2 Q E hh I' fz hr hx2 hi hst k;cases (d9 hx2).2;simp at hi;exact wpAny_pyNext_range_end hh hst (Ll hi) fun h' h2=>k h' P'.s.toks fun b o hb e=>h2 b o hb e
 .rw[hsize];have:=Ox P.h (o:={cls:=.type "range_iterator",data:=.fields #[rawInt a,rawInt (ch a b c:Int),rawInt c]}) rfl
  simpa using this
end
section
variable {C:bq} {A:Around} {P:Pt} {Q E:Value->Shared->Prop}
theorem Gx {d:KD C} (hd:uI C d) {c:d.K} {kv:Value} {w:bp} (h:letI:=d.dec;d.knd.is c kv=true) (ok:d.ok c):RD C w (d.toD c) kv:=by
 cases hd with
 |str=>
  cases kv with
  |str x t=>
   have e:x=c:=by simpa [PySem.strKind,Value.isStrOf] using h
   rw[e];exact u6 rfl ok t
  |_=>simp [PySem.strKind,Value.isStrOf] at h
 |int=>
  cases kv with
  |int x t=>
   have e:x=c:=by simpa [intKind,Value.isInt] using h
   rw[e];exact .int c t
  |_=>simp [intKind,Value.isInt] at h
theorem GH (G:eA C) (I:aE C P) {va:Value} {ks ps ys:List D} (hn:E3 C P.own ks ps va) (hit:items (.dct ks ps)=some ys)
  (k:∀ o St,o.isFreed=false->HH C va (.dct ks ps) P.own P.h.objs.size St->St 0 (P.h.push o)->Q (.ref P.h.objs.size) {P.s with heap:=P.h.push o}):wpAny C.M A (pyIter va) Q E P.s:=by
 obtain @⟨a,o,vs,ho,hda,_⟩:=hn;cases hda with
 |pr xs es ep _ _ _ _ _ e _ hne=>
  have hf:=(d9 hit).1.2;cases xs with
  |nil=>exact absurd rfl hne
  |cons x xs=>rw[e] at hf;cases hf
 |mk d l hd h1 h2 h3 h4=>
 letI:=d.dec
 obtain ⟨es,ep,z1,z2,z3,z4,z5⟩:=h1;have hD:∀ P':Pt,aE C P'->Fz P.own P'.own->P'.h.DictAt d.knd a l ep:=fun P' I' fz=>⟨o,es,I'.fz _ _ (fz _ _ ho),z1,z2,z3,z4,z5⟩;refine wpAny_pyIter_dict (ep:=ep) (fB G I (by rw[ho];nofun)) (hD P I fun _ _ e=>e) (k _ (fun i h=>h.IsKeyIter P.h.objs.size a i l.length ep) rfl ⟨?_,?_,fun A i s Q E st h=>wpAny_pyIter_keyiter st h,?_,?_⟩ ⟨_,Ox _ rfl,rfl,rfl⟩)
 .exact fun i h h' x e=>x.at fun o q=>e.trans q
 .rintro i h ⟨o,ho,_⟩;exact ⟨o,ho⟩
 .intro A i P' xs y Q E hh I' fz hr hx hi hst k;have e:=(d9 hx).2;rw[<-e,h2,Ou] at hi;obtain ⟨⟨c,v⟩,hc,rfl⟩:=OY.mp hi;refine wpAny_pyNext_dict_item hst (hD P' I' fz) hc fun kv h' hkv g1 g2=> ?_;exact k _ h' P'.s.toks (Gx hd hkv (h4 _ (OH hc))) g1 fun b o hb e=>g2.extBut b o hb e
 .intro A i P' xs Q E hh I' fz hr hx hi hst k;have e:=(d9 hx).2;rw[<-e,h2,Oc] at hi;exact wpAny_pyNext_dict_end hh hst (hD P' I' fz) (by rw[<-hi];exact List.getElem?_eq_none (Oo _)) fun h' h2=>k h' P'.s.toks fun b o hb e=>h2 b o hb e
noncomputable def H0 (x:D):PV->Bool
 | .d _=>true
 |_=>N' x
noncomputable def uL (v:PV) (σ:av):Option (D×List D):=(rd σ v).bind fun x=>(aq (H0 x v=true) ()).bind fun _=>(items x).map fun xs=>(x,xs)
theorem nU {v:PV} {σ:av} {x:D} {xs:List D} (h:uL v σ=some (x,xs)):rd σ v=some x/\H0 x v=true/\items x=some xs:=by
 obtain ⟨y,e1,h⟩:=ao h;obtain ⟨_,e2,h⟩:=ao h;obtain ⟨ys,e3,h⟩:=aZ h;cases h;exact ⟨e1,(d9 e2).1,e3⟩
theorem xo (G:eA C) (I:aE C P) {v:PV} {va:Value} {x:D} {xs:List D} (r:RV C P va v) (e:uL v P.σ=some (x,xs))
  (k:∀ o St,o.isFreed=false->HH C va x P.own P.h.objs.size St->St 0 (P.h.push o)->Q (.ref P.h.objs.size) {P.s with heap:=P.h.push o}):wpAny C.M A (pyIter va) Q E P.s:=by
 obtain ⟨e1,e2,e3⟩:=nU e;have hn:=bG I r e1;cases x with
 |tup l=>exact GD I (RD.view hn) k
 |lst l=>exact GG I hn k
 |str l=>exact GE I (RD.view hn) k
 |rng a b c=>exact GF I (RD.view hn) e3 k
 |dct ks ps=>
  cases v with
  |p n j=>cases e2
  |b _ _=>cases e2
  |d y=>
   cases e1;exact GH G I (RD.view r) e3 k
 |_=>cases e3
theorem pM {P':Pt} {v:PV} {va:Value} {x:D} (I':aE C P') (r:RV C P' va v):∀ {σ:av},rd σ v=some x->bn P'.σ x v=true->fx C P' va x:=fun {σ} e h=>by
 cases v with
 |d y=>cases e;exact jq I' r
 |p n j=>exact bG I' r (@OT _ (_) h)
 |b _ _=>cases e
end
noncomputable def jP (e:Expr):Bool:=e.ctorIdx !=7
theorem pX {e:Expr} {env:Env} (h:jP e=true) (x:Value):foldedSetIterable e env x=pure x:=by
 cases e<;>first|rfl|(cases h;done)
def fK (K:Out->av->Prop) (v:PV) (x:D) (i:Nat) (body:a9->av->Option (Out×av)) (r:List D):Out->av->Prop
 | .next ρ,σ=>bn σ x v=true/\hW K (eU v x i body r ρ σ)
 |o,σ=>K o σ
theorem FB {K:Out->av->Prop} {v:PV} {x y:D} {i:Nat} {body:a9->av->Option (Out×av)} {r:List D} {ρ:a9} {σ:av} (h:hW K (eU v x i body (y::r) ρ σ)):hW (fK K v x i body r) (body (ρ.set i (some (.d y))) σ):=by
 have h:hW K (match body (ρ.set i (some (.d y))) σ with
  |some (.next ρ',σ')=>if bn σ' x v then eU v x i body r ρ' σ' else none
  |z=>z):=h
 generalize body (ρ.set i (some (.d y))) σ=z at h
 match z,h with
 |none,h=>exact h
 |some (.ret _,_),h=>exact h
 |some (.ex _ _,_),h=>exact h
 |some (.next ρ',σ'),h=>
  have h:hW K (if bn σ' x v then eU v x i body r ρ' σ' else none):=h;cases q:bn σ' x v with
  |true=>rw[q] at h;exact ⟨q,h⟩
  |false=>rw[q] at h;exact h.elim
inductive J_ (X:SX) (K:Out->av->Prop) (b:CS) (i:Nat) (v:PV) (va:Value) (x:D) (xs:List D) (σ₀:av) (St:Nat->Heap->Prop) (P₀:Pt) (n:Nat) (s:Shared):Prop
 |mk (P:Pt) (ρ:a9) (j:Nat) (o:Obj):P.s=s->jH P₀ P P₀.h.objs.size o->aE X.C P->cc X P ρ->RV X.C P va v->bn P.σ x v=true->St j P.h->j<=xs.length->n=xs.length - j->
  hW K (eU v x i (fun ρ=>b.ex X.ker ρ) (xs.drop j) ρ P.σ)->J_ X K b i v va x xs σ₀ St P₀ n s
section
variable {X:SX} {P P₀:Pt} {ρ:a9} {K:Out->av->Prop} {Q:Flow->Shared->Prop} {E:Value->Shared->Prop}
theorem cc.show {a:Addr} {h:Heap} {t:Nat} {G:List (Addr×Obj)} (e:P.own a= .gh) (q:cc X P ρ):cc X (P.show h t a G) ρ:=
 ⟨⟨q.frs,q.ne,fun x i p h1 h2 h3=>by
  obtain ⟨v,r,l⟩:=q.var x i p h1 h2 h3;exact ⟨v,r.show e,l⟩⟩,q.hd⟩
theorem zl {w:bp} {a b:Addr} (h:kept (fQ w a .no b)):kept (w b):=by
 rcases cg w a .no b with ⟨_,r⟩|⟨_,r⟩
 .rw[r] at h;exact h.elim
 .rw[r] at h;exact h
theorem sA.show {C:bq} {A:Around} {a:Addr} {G:List (Addr×Obj)} {c:Nat} {e:Value}:sA C A P c e->sA C A (P.show P.h P.s.toks a G) c e:=fun h=>by
 obtain ⟨h1,B,k1,k2,k3,k4,k5,k6⟩:=h;exact ⟨h1,B,k1,k2,k3,k4,fun b o q=>k5 b o (zl q),k6⟩
theorem cS.past {a:Addr} {o:Obj} (p:cS X P₀ K Q E) (x:jH P₀ P a o) (I:aE X.C P):(∀ q v P',eH P P'->aE X.C P'->RV X.C P' v q->K (.ret q) P'.σ->Q (.ret v) P'.s)/\(∀ c ρ e P',eH P P'->aE X.C P'->sA X.C X.A P' c e->cc X P' ρ->K (.ex c ρ) P'.σ->E e P'.s):=by
 refine ⟨fun q v P' g I' r k=> ?_,fun c ρ e P' g I' xx G k=> ?_⟩
 .have x':=x.grow g;have w:=(rH I' x'.G).1;exact p.ret q v (P'.show P'.h P'.s.toks a P₀.G) (x'.show w) (I'.show x'.G fun _ _ _ e=>e) (r.show w) k
 .have x':=x.grow g;have w:=(rH I' x'.G).1;exact p.ex c ρ e (P'.show P'.h P'.s.toks a P₀.G) (x'.show w) (I'.show x'.G fun _ _ _ e=>e) xx.show (G.show w) k
end
noncomputable def cG (h:Heap):List Addr->Heap
 |[]=>h
 |a::r=>(cG h r).update a fun o=>{o with data:=.freed}
theorem get?_freed (h:Heap) (a b:Addr):(h.update a fun o=>{o with data:=.freed}).get? b=if b=a then none else h.get? b:=by
 by_cases e:b=a
 .subst e;rw[if_pos rfl];unfold Heap.get? Heap.update;rw[Array.getElem?_modify,if_pos rfl];cases h.objs[b]? <;>rfl
 .rw[if_neg e];exact Heap.get?_update_other _ _ (Ne.symm e)
theorem get?_without (h:Heap):∀ (l:List Addr) (b:Addr),(cG h l).get? b=if b∈l then none else h.get? b:=by
 intro l
 induction l with
 |nil=>
  intro b;show h.get? b=_;simp
 |cons a r ih=>
  intro b;show ((cG h r).update a fun o=>{o with data:=.freed}).get? b=_;rw[get?_freed,ih b];by_cases e:b=a
  .simp [e]
  .simp [e]
section
variable {C:bq} {M:Model} {A:Around} {E:Value->Shared->Prop} {P:Pt} {env:Env} {outer ls:List Env} {e:Addr} {c:Nat}
theorem aE.slots (I:aE C P) {h':Heap} (kb:∀ b o,C.H.get? b=some o->h'.get? b=some o) (kn:∀ b o,kept (P.own b)->P.h.get? b=some o->h'.get? b=some o) (u:P.h.UpToSlots h'):aE C (P.to h' P.s.toks):=by
 have kk:∀ b o x,P.own b=x->kept x->P.h.get? b=some o->P.own b=x/\h'.get? b=some o:=fun b o x e q z=>⟨e,kn b o (e ▸ q) z⟩;refine ⟨fun b o e=>⟨kb b o e,(I.base b o e).2⟩,fun b o e=>(kk b o _ e trivial (I.fz b o e)).2,fun b e=> ?_,⟨fun f hf=>⟨u.ns (I.fr.ns f hf).1,(I.fr.ns f hf).2⟩,fun f hf c hc=>⟨?_,(I.fr.cl f hf c hc).2⟩,I.fr.ord,I.fr.all⟩,I.gh.mv (fun _ _ e=>e) fun b o e q=>kk b o _ e trivial q,I.one,I.bd,fun n o e=>(I.obj n o e).mv (fun _ _ e=>e) fun b j o e q=>kk b o _ e trivial q⟩
 .obtain ⟨o,ho⟩:=I.live b e;cases q:P.own b with
  |no=>exact absurd q e
  |fr=>
   have z:∀ vs,o.data≠ .fields vs:=by
    obtain ⟨f,hf,hm⟩:=I.fr.all b q;rcases Oe.mp hm with r|r
    .obtain ⟨o',es,ep,h1,h2,_⟩:=(I.fr.ns f hf).1;rw[<-r,ho] at h1;cases h1;intro vs;rw[h2];nofun
    .obtain ⟨o',h1,h2⟩:=(I.fr.cl f hf b r).1;rw[ho] at h1;cases h1;intro vs;rw[h2];nofun
   obtain ⟨sl,e⟩:=u b o ho z;exact ⟨_,e⟩
  |fz o'=>exact ⟨o,kn b o (by rw[q];trivial) ho⟩
  |cell n j=>exact ⟨o,kn b o (by rw[q];trivial) ho⟩
  |gh=>exact ⟨o,kn b o (by rw[q];trivial) ho⟩
 .obtain ⟨o,ho,hd⟩:=(I.fr.cl f hf c hc).1;obtain ⟨sl,e⟩:=u c o ho fun vs q=>by rw[hd] at q;cases q
  exact ⟨_,e,hd⟩
def i_ (C:bq) (P:Pt) (ls:List Env) (e:Addr) (c:Nat) (fl:Value):Prop:=
 ∃ B:Heap,B.StaysIn P.h/\B.get? e=none/\P.h.FunFrames B ls/\(∀ b o,C.H.get? b=some o->B.get? b=some o)/\(∀ b o,kept (P.own b)->P.h.get? b=some o->B.get? b=some o)/\∃ a0,P.h.TracedAtW B e (.ref (C.exc c)) a0 fl
theorem i_.at {L:Addr} (hf:env.frame=some L) (x:i_ C P (env::outer) e c (rawInt L)):qq C P (env::outer) e c:=by
 refine aW fun G9 k9=> ?_;obtain ⟨B,k1,k2,k3,k4,k5,a0,ht⟩:=x;refine k9 ?_;exact ⟨B,k1,k2,k3,k4,k5,.inr (.inr ⟨a0,env,L,rfl,hf,ht⟩)⟩
theorem mJ {B h':Heap} (I:aE C P) (k1:B.StaysIn P.h) (k5:∀ b o,kept (P.own b)->P.h.get? b=some o->B.get? b=some o):∀ b o,kept (P.own b)->h'.get? b=some o->B.StaysIn h'->B.get? b=some o:=fun b o q z s=>by
 obtain ⟨o',ho⟩:=I.live b (fun e=>by rw[e] at q;exact q);have:=k5 b o' q ho;rw[s b o' this] at z;cases z;exact this
theorem zx {L:Addr} {Q:Unit->Shared->Prop} (hfr:A.frames=some (env::outer)) (hf:env.frame=some L) (I:aE C P) (hx:qq C P (env::outer) e c)
  (hQ:∀ h',aE C (P.to h' P.s.toks)->qq C (P.to h' P.s.toks) outer e c->Q () {P.s with heap:=h'}):wpAny M A (leaving env (.ref e)) Q E P.s:=by
 refine aW fun G9 k9=> ?_;obtain ⟨B,k1,k2,k3,k4,k5,hx⟩:=hx;refine k9 ?_;have fin:∀ h',B.StaysIn h'->h'.FunFrames B outer->P.h.UpToSlots h'->(∃ a0,h'.TracedW B e (.ref (C.exc c)) a0)->Q () {P.s with heap:=h'}:=fun h' x1 x2 x4 x3=>
  hQ h' (I.slots (fun b o q=>x1 b o (k4 b o q)) (fun b o q z=>x1 _ _ (k5 b o q z)) x4) ⟨B,x1,k2,x2,k4,fun b o q z=>mJ I k1 k5 b o q z x1,.inr (.inl x3)⟩
 rcases hx with ⟨oe,vs,a0,he,hc,hd,h1,h0⟩|⟨a0,ht⟩|⟨a0,env',L',hh,hf',ht⟩
 .exact wpAny_leaving_firstW hfr k3 hf he k1 k2 hd h1 h0 fun h' ⟨x1,⟨_,_,x2⟩,x3,x4⟩=>fin h' x1 x2 x4 ⟨a0,hc ▸ x3⟩
 .exact wpAny_leaving_nextW hfr k3 hf ht k1 k2 fun h' ⟨x1,⟨_,_,x2⟩,x3,x4⟩=>fin h' x1 x2 x4 ⟨a0,x3⟩
 .cases hh;unfold leaving;refine Op (wpAny_noteFrame_againW hf' ht ?_);refine wpAny_setFlight_noneW k1 k3 ht fun h' x1 x2 x3 x4=> ?_;obtain ⟨_,_,x2⟩:=x2;exact fin h' x1 x2 (fun b o hb hn=>⟨o.slots,x4 b o hb hn⟩) ⟨a0,x3⟩
theorem uf {L:Addr} {Q:Unit->Shared->Prop} (hfr:A.frames=some (env::outer)) (hf:env.frame=some L) (I:aE C P) (hx:qq C P (env::outer) e c)
  (hQ:∀ h',aE C (P.to h' P.s.toks)->i_ C (P.to h' P.s.toks) (env::outer) e c (rawInt L)->Q () {P.s with heap:=h'}):wpAny M A (noteFrame (.ref e) env) Q E P.s:=by
 refine aW fun G9 k9=> ?_;obtain ⟨B,k1,k2,k3,k4,k5,hx⟩:=hx;refine k9 ?_;have fin:∀ h',B.StaysIn h'->h'.FunFrames B (env::outer)->P.h.UpToSlots h'->(∃ a0,h'.TracedAtW B e (.ref (C.exc c)) a0 (rawInt L))->Q () {P.s with heap:=h'}:=fun h' x1 x2 x4 x3=>
  hQ h' (I.slots (fun b o q=>x1 b o (k4 b o q)) (fun b o q z=>x1 _ _ (k5 b o q z)) x4) ⟨B,x1,k2,x2,k4,fun b o q z=>mJ I k1 k5 b o q z x1,x3⟩
 rcases hx with ⟨oe,vs,a0,he,hc,hd,h1,h0⟩|⟨a0,ht⟩|⟨a0,env',L',hh,hf',ht⟩
 .unfold noteFrame;simp only [hf];refine Op (wpAny_field he hd h1 ?_);rw[if_neg (by decide)];exact wpAny_entryW hfr k3 hf he k1 k2 hd (Array.getElem?_eq_some_iff.mp h1).1 h0 fun h' ⟨x1,x2,x3,x4⟩=>fin h' x1 x2 x4 ⟨a0,hc ▸ x3⟩
 .exact wpAny_noteFrame_onW hfr k3 hf ht k1 k2 fun h' ⟨x1,x2,x3,x4⟩=>fin h' x1 x2 x4 ⟨a0,x3⟩
 .cases hh;rw[hf] at hf';cases hf';exact wpAny_noteFrame_againW hf ht (hQ P.h I ⟨B,k1,k2,k3,k4,k5,a0,ht⟩)
theorem Ek {L:Addr} {Q:Unit->Shared->Prop} (hf:env.frame=some L) (I:aE C P) (hx:i_ C P ls e c (rawInt L))
  (hQ:∀ h',aE C (P.to h' P.s.toks)->i_ C (P.to h' P.s.toks) ls e c (rawInt L)->Q () {P.s with heap:=h'}):wpAny M A (setFlight (.ref e) env.frame) Q E P.s:=by
 refine aW fun G9 k9=> ?_;obtain ⟨B,k1,k2,k3,k4,k5,a0,oe,vs,T,oT,ts,he,hcls,hd,h1,hnT,hTe,hT,hdT,h3⟩:=hx;refine k9 ?_;have hsz3:3<ts.size:=(Array.getElem?_eq_some_iff.mp h3).1;have aV:∀ b,b≠T->(P.h.update T (Obj.mapFields (·.setIfInBounds 3 (rawInt L)))).get? b=P.h.get? b:=
  fun b hb=>Heap.get?_update_other _ _ (Ne.symm hb)
 have noRecord:∀ b o,P.h.get? b=some o->(∀ vs,o.data≠ .fields vs)->b≠T:=fun b o hb hnf q=>by
  rw[q,hT] at hb;injection hb with hb;subst hb;exact hnf ts hdT
 unfold setFlight;refine Op (wpAny_field he hd h1 ?_);rw[if_pos (show (Value.ref T !=Value.none)=true from by simp),hf];have st:∀ b o,B.get? b=some o->(P.h.update T (Obj.mapFields (·.setIfInBounds 3 (rawInt L)))).get? b=some o:=fun b o hbo=>(aV b fun q=>by rw[q,hnT] at hbo;cases hbo).trans (k1 b o hbo);refine wpAny_setField hT hdT hsz3 (hQ _ (I.slots (fun b o q=>st b o (k4 b o q)) (fun b o q z=>st _ _ (k5 b o q z)) fun b o hb hn=>⟨o.slots,(aV b (noRecord b o hb hn)).trans hb⟩) ?_);refine ⟨B,st,k2,k3.of_keeps fun b o hb hnf=>⟨o,(aV b (noRecord b o hb hnf)).trans hb,rfl⟩,k4,fun b o q z=>mJ I k1 k5 b o q z st,a0,?_⟩;exact ⟨oe,vs,T,_,_,(aV e (Ne.symm hTe)).trans he,hcls,hd,h1,hnT,hTe,Heap.get?_update_self _ hT (Obj.isFreed_of_fields (Obj.data_mapFields hdT _)),Obj.data_mapFields hdT _,by simp [hsz3]⟩
theorem i_.trail {fl:Value} (hx:i_ C P ls e c fl):∃ oe vs T,P.h.get? e=some oe/\oe.data= .fields vs/\vs[1]? =some (.ref T):=by
 refine aW fun G9 k9=> ?_;obtain ⟨B,k1,k2,k3,k4,k5,a0,oe,vs,T,oT,ts,he,hcls,hd,h1,_⟩:=hx;refine k9 ?_;exact ⟨oe,vs,T,he,hd,h1⟩
theorem BJ {L:Addr} {Q:Unit->Shared->Prop} (hf:env.frame=some L) (I:aE C P) (hx:i_ C P ls e c (rawInt L))
  (hQ:∀ h',aE C (P.to h' P.s.toks)->i_ C (P.to h' P.s.toks) ls e c (rawInt L)->Q () {P.s with heap:=h'}):
  wpAny M A (do
   if (<-field (.ref e) 1)== .none then unsupported "frame.own-activation:exception-without-traceback"
   setFlight (.ref e) env.frame) Q E P.s:=by
 refine aW fun G9 k9=> ?_;obtain ⟨oe,vs,T,he,hd,h1⟩:=hx.trail;refine k9 ?_;refine Op (wpAny_field he hd h1 ?_);rw[if_neg (show¬((Value.ref T==Value.none)=true) from by simp)];exact Ek hf I hx hQ
theorem BH {h':Heap} {vs:List Value} {tk:Nat} (I:aE C P) (hA:lV A P.fs) (hx:Heap.MadeExcOf P.h h' e (.ref (C.exc c)) vs):aE C (P.to h' tk)/\sA C A (P.to h' tk) c (.ref e):=by
 refine aW fun G9 k9=> ?_;obtain ⟨k,new,t,he,_,_⟩:=hx;obtain ⟨ls,hls,hl⟩:=hA;refine k9 ?_;refine ⟨I.to k,.mk hls ⟨cG P.h (P.fs.map (·.L)),fun b o hb=> ?_,?_,?_,fun b o hb=> ?_,fun b o q hb=> ?_,.inl ⟨_,_,_,he,rfl,rfl,rfl,rfl⟩⟩⟩
 .rw[get?_without] at hb;split at hb
  .cases hb
  .exact k b o hb
 .rw[get?_without];split
  .rfl
  .exact new
 .clear hls
  induction ls with
  |nil=>trivial
  |cons env ls ih=>
   refine aW fun G9 k9=> ?_;obtain ⟨a,f,hf,b⟩:=hl env (.head _);obtain ⟨o,es,ep,ho,hd,_⟩:=(I.fr.ns f hf).1;refine k9 ?_;refine ⟨a,⟨f.L,o,b,?_,k _ _ ho,fun vs q=>by rw[hd] at q;cases q⟩,ih fun e he=>hl e (.tail _ he)⟩;rw[get?_without,if_pos (List.mem_map_of_mem hf)]
 .rw[get?_without,if_neg]
  .exact (I.base b o hb).1
  .intro q;obtain ⟨f,hf,z⟩:=Ot.mp q;have:=(I.base b o hb).2;rw[<-z,(I.fr.ns f hf).2.1] at this;cases this
 .have hb':P.h.get? b=some o:=by
   obtain ⟨o',ho⟩:=I.live b (fun e=>by have q:kept (P.own b):=q;rw[e] at q;exact q);have:=k b o' ho;rw[show h'.get? b=some o from hb] at this;cases this;exact ho
  rw[get?_without,if_neg]
  .exact hb'
  .intro z;obtain ⟨f,hf,z⟩:=Ot.mp z;have q:kept (P.own b):=q;rw[<-z,(I.fr.ns f hf).2.1] at q;exact q
end
section
variable {X:SX} {st:Stmt} {ρ:a9} {P:Pt} {K:Out->av->Prop} {Q:Flow->Shared->Prop} {E:Value->Shared->Prop}
theorem BI {c:Nat} {e:Value} {E:Value->Shared->Prop} {M:Model} (I:aE X.C P) (hx:sA X.C X.A P c e) (k:∀ P',bv P P'->aE X.C P'->P'.σ=P.σ->sA X.C X.A P' c e->E e P'.s):notedBy M X.A X.env (cameBackBy M X.A X.env E) e P.s:=by
 obtain ⟨h1,h2⟩:=hx;rw[X.fr] at h1;cases h1;unfold notedBy;refine uf X.fr X.frame I h2 fun h1 I1 x1=> ?_;unfold cameBackBy;refine BJ (P:=P.to h1 P.s.toks) X.frame I1 x1 fun h2 I2 x2=> ?_;exact k ((P.to h1 P.s.toks).to h2 P.s.toks) ((bv.to ..).trans (.to ..)) I2 rfl (.mk X.fr (x2.at X.frame))
noncomputable def NK (c:Nat) (m:List Nat) (s:Sx) (st:Stmt):Bool:=rD (fun ex cause _=>cause.isNone&&CG (dU fun x es=>one (b9 fun k _ _=>Co (fun t=>x==gQ c&&decide (c<nX)&&dB s.sc x&&t.cps.toList==m&&H3 m) k) es) ex) st
theorem AB (c:Nat) (m:List Nat) (h:NK c m X.sx st=true) (I:aE X.C P) (G:cc X P ρ) (w:hW K (match X.ker.hd with|true=>none|false=>some (Out.ex c ρ,P.σ))) (p:cS X P K Q E):wpAny X.M X.A (PySem.exec st X.env) Q E P.s:=by
 refine rC (fun st=>wpAny X.M X.A (PySem.exec st X.env) Q E P.s) h fun ex cause pos h=> ?_;refine jQ (fun cause=>wpAny X.M X.A (PySem.exec (.Raise ex cause pos) X.env) Q E P.s) (ah h) ?_;refine fj (fun ex=>wpAny X.M X.A (PySem.exec (.Raise ex none pos) X.env) Q E P.s) (ak h) fun ex h=> ?_;refine dT (fun ex=>wpAny X.M X.A (PySem.exec (.Raise (some ex) none pos) X.env) Q E P.s) h fun x px es q4 h=> ?_;refine dj (fun es=>wpAny X.M X.A (PySem.exec (.Raise (some (.Call (.Name x px) es [] q4)) none pos) X.env) Q E P.s) h fun a h=> ?_;refine cN (fun a=>wpAny X.M X.A (PySem.exec (.Raise (some (.Call (.Name x px) [a] [] q4)) none pos) X.env) Q E P.s) h fun k q2 q3 h=> ?_;refine qk (fun k=>wpAny X.M X.A (PySem.exec (.Raise (some (.Call (.Name x px) [.Constant k q2 q3] [] q4)) none pos) X.env) Q E P.s) h fun s h=> ?_;have hw:=ak (ah (ah h));have h17:=OT (ak (ah (ah (ah h))));rw[bu (ah (ah (ah (ah h))))] at hw ⊢;cases hh:X.hd with
 |true=>rw[show X.ker.hd=true from hh] at w;exact w.elim
 |false=>
 rw[show X.ker.hd=false from hh] at w;refine aW fun G9 k9=> ?_;obtain ⟨tl,Nn,nm,q,bs,hdct,sn,sub,ab,col,dd,k0,k1,k2,k3,k5,mN,hcls,hN,hni,T⟩:=(X.good.exc c h17).obj;refine k9 ?_;have keep:∀ b o,X.C.H.get? b=some o->P.h.get? b=some o:=fun b o e=>(I.base b o e).1;refine wpAny_Raise_call_subT (C:=X.C.exc c) (nm:=nm) (q:=q) (N:=Nn) (bs:=bs) (bm:=tl) (hdct:=hdct) (sn:=sn) (sub:=sub) (ab:=ab) (col:=col) (dd:=dd) (k0:=k0) (k1:=k1) (k2:=k2) (k3:=k3) (k5:=k5)
  PySem.F.excBase_ValueError (mN:=mN) (T.hasType PySem.F.excBase_ValueError.hasBase) (X.hnd hh) rfl hni (du I hw (X.good.exc c h17).bound ⟨rfl,?_⟩)
 refine cW (fun y hy=>by cases Oi.mp hy;rfl) ?_;refine Calls.spliced_cons ?_;refine wpAny_Constant_str (k:=q2) (pos:=q3) ?_;refine Calls.spliced_nil ⟨rfl,by simp [sizeLine],keep _ _ hcls,hN.keeps keep,T.keeps keep,fun h' e hx=> ?_⟩;obtain ⟨I',x⟩:=BH (tk:=P.s.toks+1) I G.frs hx;exact p.ex c ρ _ (P.to h' (P.s.toks+1)) (G.gs (.to ..)) I' x (G.ext (.to ..)) w
end
noncomputable def cz (c:Nat) (m:List Nat):C1:=⟨fun K ρ σ=>match K.hd with|true=>none|false=>some (.ex c ρ,σ),NK c m,fun _ _ _ _ _ _ _ h I G w p=>AB c m h I G w p⟩
section
variable {X:SX} {st:Stmt} {ρ:a9} {P P₀:Pt} {K:Out->av->Prop} {Q:Flow->Shared->Prop} {E:Value->Shared->Prop}
theorem cc.hide {a:Addr} {o:Obj} {h:Heap} {t:Nat} (e:P.own a= .no) (q:cc X P ρ):cc X (P.hide h t a o) ρ:=
 ⟨⟨q.frs,q.ne,fun x i p h1 h2 h3=>by
  obtain ⟨v,r,l⟩:=q.var x i p h1 h2 h3;have pa:=jH.start (h:=h) (t:=t) (o:=o) e (by obtain ⟨f,r,z,_⟩:=q.hd;exact ⟨f,r,z⟩);exact ⟨v,r.mv pa.fz (fun _ _ z=>z) pa.cell,l⟩⟩,q.hd⟩
theorem RV.hide {C:bq} {v:Value} {a:Addr} {o:Obj} {h:Heap} {t:Nat} (e:P.own a= .no) (hf:∃ f r,P.fs=f::r) {p:PV} (r:RV C P v p):RV C (P.hide h t a o) v p:=by
 have pa:=jH.start (h:=h) (t:=t) (o:=o) e hf;exact r.mv pa.fz (fun _ _ z=>z) pa.cell
theorem RV.gto {C:bq} {v:Value} {G:List (Addr×Obj)} {h:Heap} {t:Nat}:∀ {p:PV},RV C P v p->RV C {P.to h t with G:=G} v p:=fun r=>r.mv (P':={P.to h t with G:=G}) (fun _ _ z=>z) (fun _ _ z=>z) fun _ _ _ _ z=>z
theorem cc.gto {G:List (Addr×Obj)} {h:Heap} {t:Nat} (q:cc X P ρ):cc X {P.to h t with G:=G} ρ:=
 ⟨⟨q.frs,q.ne,fun x i p h1 h2 h3=>by
  obtain ⟨v,r,l⟩:=q.var x i p h1 h2 h3;exact ⟨v,r.gto,l⟩⟩,q.hd⟩
theorem G5 (i:Nat) (it:CE) (b:CS) (h:xy (fun t e be el _=>el.isEmpty&&cY (fun x _=>X.sx.Γ.lookup x==some i&&fG X.sx.sc x&&jP e&&it.is X.sx e&&b.is X.sx be) t) st=true) (I:aE X.C P) (G:cc X P ρ)
  (w:hW K (match X.ker.hd with|true=>none|false=>ce ρ (it.ev X.ker ρ) (fun v σ=>ik (uL v σ) fun q=>eU v q.1 i (fun ρ=>b.ex X.ker ρ) q.2 ρ σ) P.σ)) (p:cS X P K Q E):wpAny X.M X.A (PySem.exec st X.env) Q E P.s:=by
 refine vV (fun st=>wpAny X.M X.A (PySem.exec st X.env) Q E P.s) h fun t e be el pos h=> ?_;refine bJ (fun el=>wpAny X.M X.A (PySem.exec (.For t e be el pos) X.env) Q E P.s) (ah h) ?_;refine bY (fun t=>wpAny X.M X.A (PySem.exec (.For t e be [] pos) X.env) Q E P.s) (ak h) fun y py h=> ?_;cases hd:X.hd with
 |true=>rw[show X.ker.hd=true from hd] at w;exact w.elim
 |false=>
 rw[show X.ker.hd=false from hd] at w;have hh:=X.hnd hd;refine wpAny_For (it.ok X.toCx e ρ P _ _ E (ak (ah h)) I G.toEnvOK (dc w) (p.bind G fun v va P₀ g₀ I₀ r₀ w G₀ p=> ?_)) (pX (ak (ah (ah h))));obtain ⟨⟨x,xs⟩,e0,w⟩:=fy w;obtain ⟨e1,e2,e3⟩:=nU e0;refine xo X.good I₀ r₀ e0 fun oi St hof W st0=> ?_;have hfs:∃ f r,P₀.fs=f::r:=by obtain ⟨f,r,z,_⟩:=G₀.hd;exact ⟨f,r,z⟩
 have hn:=I₀.push hof;have still0:bn P₀.σ x v=true:=by
  cases v with
  |d y=>rfl
  |p n j=>exact @Os _ (_) e1
  |b _ _=>cases e1
 refine codeAny_forLoop (J_ X K b i v va x xs P₀.σ St P₀) ?_ xs.length ⟨P₀.hide (P₀.h.push oi) P₀.s.toks P₀.h.objs.size oi,ρ,0,oi,rfl,.start hn.own hfs,I₀.hide hn,G₀.hide hn.own,r₀.hide hn.own hfs,still0,st0,OG _,rfl,w⟩;rintro n s ⟨P₁,ρ₁,j,o₁,rfl,x₁,I₁,G₁,r₁,s₁,st₁,hj,rfl,w⟩;have now₁:=pM I₁ r₁ e1 s₁;rcases Nat.lt_or_ge j xs.length with hlt|hge
 .rw[List.drop_eq_getElem_cons hlt] at w;refine W.item X.A j P₁ xs xs[j] _ _ hh I₁ x₁.fz now₁ e3 (Oh hlt) st₁ fun val h' tk rv st₂ kp=> ?_;obtain ⟨o₂,ho₂⟩:=W.fld _ _ st₂;have I₂:=I₁.gturn (t:=tk) x₁.G kp ho₂;have x₂:=x₁.turn (o':=o₂) (h:=h') (t:=tk);have G₂:=G₁.gto (G:=(P₀.h.objs.size,o₂)::P₀.G) (h:=h') (t:=tk);refine wpAny_assign_Name (ib (p:=.d xs[j]) (bu (ah (ah (ah (ah h))))) (ak (ah (ah (ah h)))) I₂ G₂ rv fun P₃ g₃ I₃ G₃ e₃=> ?_);have x₃:=x₂.grow g₃;have pp:=p.past x₃ I₃;refine b.ok X be _ P₃ (fK K v x i (fun ρ=>b.ex X.ker ρ) (xs.drop (j+1))) _ _ (ak h) I₃ G₃ (by rw[e₃];exact FB w) ⟨fun ρ₄ P₄ g₄ I₄ G₄ k=> ?_,fun q u P₄ g₄ I₄ r₄ k=>pp.1 q u P₄ g₄ I₄ r₄ k,fun c ρ' e P₄ g₄ I₄ xx G₄ k=> ?_⟩
  .have x₄:=x₃.grow g₄;refine ⟨xs.length - (j+1),Le hlt,⟨P₄,ρ₄,j+1,o₂,rfl,x₄,I₄,G₄,?_,k.1,W.own _ _ _ st₂ ?_,hlt,rfl,k.2⟩⟩
   .exact (r₁.gto.ext g₃.toExt).ext g₄.toExt
   .rw[(rH I₄ x₄.G).2,ho₂]
  .refine BI I₄ xx fun P₅ g₅ I₅ e₅ x₅=>pp.2 c ρ' e P₅ (g₄.grow g₅) I₅ x₅ (G₄.ext g₅) (e₅ ▸ k)
 .have hjx:j=xs.length:=Nat.le_antisymm hj hge;rw[hjx,List.drop_length] at w;refine W.done X.A j P₁ xs _ _ hh I₁ x₁.fz now₁ e3 hjx.symm st₁ fun h' tk kp=> ?_;have w₁:=(rH I₁ x₁.G).1;exact wpAny_execs_nil (p.next ρ₁ (P₁.show h' tk P₀.h.objs.size P₀.G) (x₁.show w₁) (I₁.show x₁.G kp) (G₁.show w₁) w)
end
noncomputable def eD (i:Nat) (it:CE) (b:CS):C1:=⟨fun K ρ σ=>match K.hd with|true=>none|false=>ce ρ (it.ev K ρ) (fun v σ=>ik (uL v σ) fun q=>eU v q.1 i (fun ρ=>b.ex K ρ) q.2 ρ σ) σ,fun s=>xy fun t e be el _=>el.isEmpty&&cY (fun x _=>s.Γ.lookup x==some i&&fG s.sc x&&jP e&&it.is s e&&b.is s be) t,fun _ _ _ _ _ _ _ h I G w p=>G5 i it b h I G w p⟩
section
variable {C:bq} {P:Pt}
open Classical in
noncomputable def Pt.enter (P:Pt) (h:Heap) (t:Nat) (g:Fm):Pt:={P.to h t with fs:=g::P.fs,own:=fun a=>if a∈g.adr then .fr else P.own a}
theorem BR {g:Fm} {h:Heap} {t:Nat} {a:Addr} (e:a∈g.adr):(P.enter h t g).own a= .fr:=@if_pos _ (_) e _ _ _
theorem uj {g:Fm} {h:Heap} {t:Nat} {a:Addr} (e:a∉g.adr):(P.enter h t g).own a=P.own a:=@if_neg _ (_) e _ _ _
theorem ui {g:Fm} {h:Heap} {t:Nat} {a:Addr} {x:cx} (e:(P.enter h t g).own a=x) (hx:x≠ .fr):P.own a=x:=by
 by_cases q:a∈g.adr
 .exact absurd ((BR q).symm.trans e).symm hx
 .exact (uj q).symm.trans e
theorem aE.enter (I:aE C P) {h':Heap} {t:Nat} {g:Fm} (sz:C.H.objs.size<=P.h.objs.size) (kp:∀ b o,P.h.get? b=some o->h'.get? b=some o) (hL:P.h.objs.size<=g.L) (hn:h'.Ns g.L g.m) (hc:∀ c∈g.cells,h'.IsCell c (g.cv c)/\g.L<c):aE C (P.enter h' t g):=by
 have ge:∀ a∈g.adr,P.h.objs.size<=a:=fun a ha=>by
  rcases Oe.mp ha with q|q
  .rw[q];exact hL
  .exact Om hL (OQ (hc a q).2)
 have no:∀ b o,P.h.get? b=some o->b∉g.adr:=fun b o e q=>Pb.mpr (ge b q) (OK e);have kk:∀ b o x,P.own b=x->P.h.get? b=some o->(P.enter h' t g).own b=x/\h'.get? b=some o:=fun b o x e z=>⟨(uj (no b o z)).trans e,kp b o z⟩;refine ⟨fun b o e=>(kk b o _ (I.base b o e).2 (I.base b o e).1).symm,fun b o e=>kp b o (I.fz b o (ui e cx.noConfusion)),fun b e=> ?_,⟨fun f hf=> ?_,fun f hf c hcc=> ?_,?_,fun b e=> ?_⟩,I.gh.mv (fun b o e=>(kk b o _ e (I.fz b o e)).1) fun b o e q=>kk b o _ e q,fun a b n j e f=>I.one a b n j (ui e cx.noConfusion) (ui f cx.noConfusion),fun a n j e=>I.bd a n j (ui e cx.noConfusion),fun n o e=>(I.obj n o e).mv (fun b o e=>(kk b o _ e (I.fz b o e)).1) fun b j o e q=>kk b o _ e q⟩
 .by_cases q:b∈g.adr
  .rcases Oe.mp q with z|z
   .obtain ⟨o,_,_,ho,_⟩:=hn;exact ⟨o,z ▸ ho⟩
   .obtain ⟨o,ho,_⟩:=(hc b z).1;exact ⟨o,ho⟩
  .obtain ⟨o,ho⟩:=I.live b (uj q ▸ e);exact ⟨o,kp b o ho⟩
 .rcases Oe.mp hf with q|q
  .rw[q];exact ⟨hn,BR (.head _),Om sz hL⟩
  .obtain ⟨⟨o,es,ep,ho,z⟩,x,y⟩:=I.fr.ns f q;exact ⟨⟨o,es,ep,kp _ _ ho,z⟩,(kk _ _ _ x ho).1,y⟩
 .rcases Oe.mp hf with q|q
  .subst q;exact ⟨(hc c hcc).1,BR (.tail _ hcc),(hc c hcc).2⟩
  .obtain ⟨⟨o,ho,z⟩,x,y⟩:=I.fr.cl f q c hcc;exact ⟨⟨o,kp _ _ ho,z⟩,(kk _ _ _ x ho).1,y⟩
 .refine List.pairwise_cons.mpr ⟨fun f hf a ha=> ?_,I.fr.ord⟩;refine OD ?_ hL;rcases Oe.mp ha with q|q
  .rw[q];obtain ⟨⟨o,_,_,ho,_⟩,_⟩:=I.fr.ns f hf;exact OK ho
  .obtain ⟨⟨o,ho,_⟩,_⟩:=I.fr.cl f hf a q;exact OK ho
 .by_cases q:b∈g.adr
  .exact ⟨g,.head _,q⟩
  .obtain ⟨f,hf,z⟩:=I.fr.all b (uj q ▸ e);exact ⟨f,.tail _ hf,z⟩
theorem Ext.enter (I:aE C P) {h':Heap} {t:Nat} {g:Fm} (no:∀ b o,P.h.get? b=some o->b∉g.adr):Ext P (P.enter h' t g):=
 ⟨⟨h',t,rfl⟩,rfl,fun b o e=>(uj (no b o (I.fz b o e))).trans e,fun _ _ v=>v,fun n j b _ e=>ui e cx.noConfusion⟩
structure Pa (P₀ P:Pt) (g:List (Addr×Obj)):Prop where
 sm:oO P₀.s P.s
 G:P.G=g++P₀.G
 fz:Fz P₀.own P.own
 val:∀ n j,cO P₀.σ n j->cO P.σ n j
 cell:∀ n j b,cO P₀.σ n j->P.own b= .cell n j->P₀.own b= .cell n j
section
variable {P₀ P':Pt} {g g':List (Addr×Obj)}
theorem Pa.grow (x:Pa P₀ P g) (y:Ext P P'):Pa P₀ P' g:=
 ⟨x.sm.trans y.sm,y.G.trans x.G,fun b o q=>y.fz b o (x.fz b o q),fun n j v=>y.val n j (x.val n j v),fun n j b v q=>x.cell n j b v (y.cell n j b (x.val n j v) q)⟩
theorem Pa.turn {h:Heap} {t:Nat} (x:Pa P₀ P g):Pa P₀ {P.to h t with G:=g'++P₀.G} g':=⟨x.sm.trans ⟨h,t,rfl⟩,rfl,x.fz,x.val,x.cell⟩
theorem Pa.rv {v:Value} (x:Pa P₀ P g):∀ {p:PV},RV C P₀ v p->RV C P v p:=fun r=>r.mv x.fz x.val x.cell
theorem Pa.hide {a:Addr} {o:Obj} {h:Heap} {t:Nat} (x:Pa P₀ P g) (e:P.own a= .no):Pa P₀ (P.hide h t a o) ((a,o)::g):=
 ⟨x.sm.trans ⟨h,t,rfl⟩,congrArg ((a,o)::·) x.G,fun b o q=>dg e b o (x.fz b o q),x.val,fun n j b v q=>x.cell n j b v (by
  rcases cg P.own a .gh b with ⟨_,r⟩|⟨_,r⟩
  .cases r.symm.trans q
  .exact r.symm.trans q)⟩
theorem Pa.show {a:Addr} {o:Obj} {h:Heap} {t:Nat} (x:Pa P₀ P ((a,o)::g)) (e:P.own a= .gh):Pa P₀ (P.show h t a (g++P₀.G)) g:=
 ⟨x.sm.trans ⟨h,t,rfl⟩,rfl,fun b o q=>fE e b o (x.fz b o q),x.val,fun n j b v q=>x.cell n j b v (lc q)⟩
theorem Pa.refl (P:Pt):Pa P P []:=⟨.refl _,rfl,fun _ _ e=>e,fun _ _ v=>v,fun _ _ _ _ e=>e⟩
end
section
variable {p q:Addr×Obj} {G:List (Addr×Obj)}
theorem aE.swap (I:aE C P) (hG:P.G=p::q::G):aE C {P with G:=q::p::G}:=by
 have mm:∀ r,r∈q::p::G->r∈P.G:=fun r hr=>by
  rw[hG];rcases Oe.mp hr with z|z
  .rw[z];exact .tail _ (.head _)
  .rcases Oe.mp z with z|z
   .rw[z];exact .head _
   .exact .tail _ (.tail _ z)
 refine ⟨I.base,I.fz,I.live,I.fr,⟨fun r hr=>I.gh.at_ r (mm r hr),?_,fun z e=>(I.gh.tab z e).map (fun _ _ e=>e) fun b o q=>⟨q.1,q.2.1,fun r hr=>q.2.2 r (mm r hr)⟩⟩,I.one,I.bd,I.obj⟩
 .have nd:=I.gh.nd;rw[hG] at nd;exact (List.Perm.swap _ _ _).nodup_iff.mp nd
end
noncomputable def Pt.pop (P:Pt) (L:Addr) (o:Obj) (fs:List Fm):Pt:={P with own:=fQ P.own L .gh,G:=(L,o)::P.G,fs:=fs}
theorem aE.pop (I:aE C P) {g:Fm} {fs:List Fm} {o:Obj} (hf:P.fs=g::fs) (hc:g.cells=[]) (ho:P.h.get? g.L=some o):aE C (P.pop g.L o fs):=by
 have own:P.own g.L= .fr:=(I.fr.ns g (by rw[hf];exact .head _)).2.1;have ord:=I.fr.ord;rw[hf] at ord;obtain ⟨o1,o2⟩:=List.pairwise_cons.mp ord;have cs:=cg P.own g.L .gh;have ne:∀ k∈fs,∀ b∈k.adr,b≠g.L:=fun k hk b hb=>Nat.ne_of_lt (o1 k hk b hb);have kk:∀ b o x,P.own b=x->x≠ .fr->P.h.get? b=some o->fQ P.own g.L .gh b=x/\P.h.get? b=some o:=fun b o x e q z=>⟨(a_ fun c=>q (by rw[<-e,c,own])).trans e,z⟩;have bk:∀ b x,fQ P.own g.L .gh b=x->x≠ .gh->P.own b=x:=fun b x e q=>by
  rcases cs b with ⟨_,r⟩|⟨_,r⟩
  .exact absurd (r.symm.trans e).symm q
  .exact r.symm.trans e
 refine ⟨fun b o e=>(kk b o _ (I.base b o e).2 cx.noConfusion (I.base b o e).1).symm,fun b o e=>I.fz b o (bk b _ e cx.noConfusion),fun b e=> ?_,⟨fun f h=> ?_,fun f h c hcc=> ?_,o2,fun b e=> ?_⟩,⟨fun p hp=> ?_,OW.mpr ⟨fun q=> ?_,I.gh.nd⟩,fun z e=>(I.gh.tab z e).map (fun b o e=>(kk b o _ e cx.noConfusion (I.fz b o e)).1) fun b o q=>⟨q.1,(kk b o _ q.2.1 cx.noConfusion q.1).1,fun p hp=>(Oe.mp hp).elim (fun c d=> ?_) (q.2.2 p)⟩⟩,fun a b n j e f=>I.one a b n j (bk a _ e cx.noConfusion) (bk b _ f cx.noConfusion),fun a n j e=>I.bd a n j (bk a _ e cx.noConfusion),fun n o e=>(I.obj n o e).mv (fun b o e=>(kk b o _ e cx.noConfusion (I.fz b o e)).1) fun b j o e q=>kk b o _ e cx.noConfusion q⟩
 .rcases cs b with ⟨z,r⟩|⟨_,r⟩
  .exact ⟨o,z ▸ ho⟩
  .exact I.live b (r ▸ e)
 .obtain ⟨x,y,z⟩:=I.fr.ns f (by rw[hf];exact .tail _ h);exact ⟨x,(a_ (ne f h _ (.head _))).trans y,z⟩
 .obtain ⟨x,y,z⟩:=I.fr.cl f (by rw[hf];exact .tail _ h) c hcc;exact ⟨x,(a_ (ne f h _ (.tail _ hcc))).trans y,z⟩
 .rcases cs b with ⟨_,r⟩|⟨nb,r⟩
  .cases r.symm.trans e
  .obtain ⟨f,h,z⟩:=I.fr.all b (r.symm.trans e);rw[hf] at h;rcases Oe.mp h with q|q
   .rw[q,Fm.adr,hc] at z;exact absurd (Oi.mp z) nb
   .exact ⟨f,q,z⟩
 .rcases Oe.mp hp with q|q
  .rw[q];exact ⟨ho,bl _ _ _⟩
  .exact (kk _ _ _ (I.gh.at_ p q).2 cx.noConfusion (I.gh.at_ p q).1).symm
 .obtain ⟨p,hp,e⟩:=Ot.mp q;have:=(I.gh.at_ p hp).2;rw[e,own] at this;cases this
 .have:=q.2.1;rw[<-d,c,own] at this;cases this
theorem Pa.pop {P₀:Pt} {g:List (Addr×Obj)} {L:Addr} {o:Obj} {fs:List Fm} (x:Pa P₀ P g) (e:P.own L= .fr):Pa P₀ (P.pop L o fs) ((L,o)::g):=by
 refine ⟨x.sm,congrArg ((L,o)::·) x.G,fun b o q=>(a_ fun c=> ?_).trans (x.fz b o q),x.val,fun n j b v q=>x.cell n j b v ?_⟩
 .have:=x.fz b o q;rw[c,e] at this;cases this
 .rcases cg P.own L .gh b with ⟨_,r⟩|⟨_,r⟩
  .cases r.symm.trans q
  .exact r.symm.trans q
theorem Pa.past {P₀:Pt} {a:Addr} {o:Obj} (x:Pa P₀ P [(a,o)]) (e:pJ P₀.fs P.fs):jH P₀ P a o:=⟨x.sm,e,x.G,x.fz,x.val,x.cell⟩
end
theorem nL {scope:Scope} {env:Env} (x:Str):(relabel scope env).names.lookup x=(scope.names.lookup x).map fun k=>if (k==NameKind.free&&env.scope.kind== .function&&env.kindOf x==some .cell)=true then NameKind.cell else k:=by
 unfold relabel;generalize scope.names=l
 induction l with
 |nil=>rfl
 |cons p l ih=>
  obtain ⟨n,k⟩:=p;rw[List.map_cons];cases hx:x==n with
  |true=>
   obtain rfl:=beq_iff_eq.mp hx;by_cases hc:(k==NameKind.free&&env.scope.kind== .function&&env.kindOf x==some .cell)=true
   .simp only [List.lookup_cons,hc,if_true,hx,Option.map]
   .simp only [List.lookup_cons,hc,if_false,hx,Option.map];simp
  |false=>
   have e:((if (k==NameKind.free&&env.scope.kind== .function&&env.kindOf n==some .cell)=true then (n,NameKind.cell) else (n,k)):Str×NameKind).1=n:=by split<;>rfl
   rw[List.lookup_cons,List.lookup_cons];simp only [e,hx];exact ih
theorem jz {env:Env}:∀ (l:List (Str×NameKind)) (cl:List (Str×Addr)),(∀ p∈l,p.2=NameKind.free->∃ c,env.cells.lookup p.1=some c)->(∀ y c,cl.lookup y=some c->env.cells.lookup y=some c)->
  ∃ cl',(forIn l cl fun (x:Str×NameKind) (r:List (Str×Addr))=>(if (x.2==NameKind.free)=true then do let a<-cellOf env x.1;pure (ForInStep.yield ((x.1,a)::r)) else pure (ForInStep.yield r):Sem (ForInStep (List (Str×Addr)))))=pure cl'/\
   (∀ y c,cl'.lookup y=some c->env.cells.lookup y=some c)/\(∀ y c,cl.lookup y=some c->cl'.lookup y=some c)/\(∀ p∈l,p.2=NameKind.free->(cl'.lookup p.1).isSome=true)
 |[],cl,_,h2=>⟨cl,rfl,h2,fun _ _ h=>h,fun p hp=>(Oy hp).elim⟩
 |(n,k)::l,cl,h1,h2=>by
  by_cases hk:k=NameKind.free
  .subst hk;obtain ⟨c,hc⟩:=h1 (n,.free) (.head _) rfl;have h2':∀ y d,List.lookup y ((n,c)::cl)=some d->env.cells.lookup y=some d:=fun y d hd=>by
    rw[List.lookup_cons] at hd;cases hy:y==n with
    |true=>rw[hy] at hd;cases hd;rw[beq_iff_eq.mp hy];exact hc
    |false=>rw[hy] at hd;exact h2 y d hd
   obtain ⟨cl',e,q1,q2,q3⟩:=jz l ((n,c)::cl) (fun p hp=>h1 p (.tail _ hp)) h2';refine ⟨cl',?_,q1,fun y d hd=> ?_,fun p hp hf=> ?_⟩
   .rw[List.forIn_cons];rw[if_pos (beq_self_eq_true _)];have hcell:cellOf env n=pure c:=by unfold cellOf;rw[hc]
    simp only [hcell];exact e
   .refine q2 y d ?_;rw[List.lookup_cons];cases hy:y==n with
    |true=>
     have:=h2 y d hd;rw[beq_iff_eq.mp hy,hc] at this;exact this
    |false=>exact hd
   .rcases Oe.mp hp with rfl|hp
    .rw[q2 n c (by rw[List.lookup_cons,beq_self_eq_true])];rfl
    .exact q3 p hp hf
  .obtain ⟨cl',e,q1,q2,q3⟩:=jz l cl (fun p hp=>h1 p (.tail _ hp)) h2;refine ⟨cl',?_,q1,q2,fun p hp hf=> ?_⟩
   .rw[List.forIn_cons];rw[if_neg (by simpa using hk)];exact e
   .rcases Oe.mp hp with rfl|hp
    .exact absurd hf hk
    .exact q3 p hp hf
theorem ji {scope:Scope} {env:Env} (h:∀ p∈scope.names,p.2=NameKind.free->∃ c,env.cells.lookup p.1=some c):
  ∃ cl,closureFor scope env=pure cl/\(∀ p∈scope.names,p.2=NameKind.free->cl.lookup p.1=env.cells.lookup p.1):=by
 obtain ⟨cl,e,q1,_,q3⟩:=jz scope.names [] h (fun y c hc=>nomatch hc);refine ⟨cl,?_,fun p hp hf=> ?_⟩
 .unfold closureFor;have:(forIn scope.names [] fun (x:Str×NameKind) (r:List (Str×Addr))=>(match x with
   |(name,kind)=>if (kind==NameKind.free)=true then do let a<-cellOf env name;pure (ForInStep.yield ((name,a)::r)) else pure (ForInStep.yield r):Sem (ForInStep (List (Str×Addr)))))=pure cl:=e
  simp only [this];rfl
 .obtain ⟨c,hc⟩:=Option.isSome_iff_exists.mp (q3 p hp hf);rw[hc,q1 _ _ hc]
theorem co {β:Type} {x:Str} {b:β}:∀ {l:List (Str×β)},l.lookup x=some b->(x,b)∈l
 |[],h=>nomatch h
 |(n,c)::l,h=>by
  rw[List.lookup_cons] at h;cases hx:x==n with
  |true=>rw[hx] at h;cases h;rw[beq_iff_eq.mp hx];exact .head _
  |false=>rw[hx] at h;exact .tail _ (co h)
structure lq (sc scope:Scope) (x:Str):Prop where
 kind:scope.kind= .function
 cell:∀ p∈scope.names,p.2≠ .cell
 var:scope.names.lookup x=some .local
 loc:∀ p∈scope.names,p.2= .local->scope.names.lookup p.1=some .local/\(p.1=x∨p.1=(".0":Str))
 free:∀ p∈scope.names,p.2= .free->sc.names.lookup p.1=some .cell
theorem qb {sc scope:Scope} {x:Str} (h:k8 sc scope x=true):lq sc scope x:=by
 simp only [k8,Bool.and_eq_true,beq_iff_eq,List.all_eq_true,bne_iff_ne,ne_eq,Bool.or_eq_true] at h;obtain ⟨⟨⟨⟨h1,h2⟩,h3⟩,h4⟩,h5⟩:=h;exact ⟨h1,h2,h3,fun p hp e=>(h4 p hp).resolve_left fun q=>q e,fun p hp e=>(h5 p hp).resolve_left fun q=>q e⟩
noncomputable abbrev mi (scope:Scope) (cl:List (Str×Addr)) (L:Addr) (env:Env):Env:=compEnvC scope cl L env
section
variable {sc scope:Scope} {x:Str} {env:Env} {cl:List (Str×Addr)} {L:Addr}
theorem eu (y:Str):(mi scope cl L env).scope.names.lookup y=(scope.names.lookup y).map fun k=>if (k==NameKind.free&&env.scope.kind== .function&&env.kindOf y==some .cell)=true then NameKind.cell else k:=nL y
theorem qe {y:Str} (h:scope.names.lookup y=some .free):(mi scope cl L env).scope.names.lookup y=some .cell∨(mi scope cl L env).scope.names.lookup y=some .free:=by
 rw[eu,h];show some (if _ then _ else _)=_∨some (if _ then _ else _)=_;split
 .exact .inl rfl
 .exact .inr rfl
theorem xj {s:Scope} {y:Str} (h:s.names.lookup y=some .cell∨s.names.lookup y=some .free):lX s y=true:=by
 unfold lX;rcases h with h|h
 .rw[h];rfl
 .rw[h];rfl
theorem DG {s:Scope} {y:Str} (h:lX s y=true):s.names.lookup y=some .local∨s.names.lookup y=some .cell∨s.names.lookup y=some .free:=by
 rcases (Bool.or_eq_true _ _).mp h with h|h
 .rcases (Bool.or_eq_true _ _).mp h with h|h
  .exact .inl (bu h)
  .exact .inr (.inl (bu h))
 .exact .inr (.inr (bu h))
theorem wq (K:lq sc scope x):yg scope (mi scope cl L env):=fun y=>by
 refine ⟨fun h=> ?_,fun h=> ?_,fun h=>absurd rfl (K.cell _ (co h))⟩
 .rcases DG h with h|h|h
  .unfold lX;rw[eu,h];rfl
  .exact absurd rfl (K.cell _ (co h))
  .exact xj (qe h)
 .have h:=bu (ah h);show (mi scope cl L env).scope.names.lookup y=_;rw[eu,h];rfl
noncomputable def Cx.comp (X:Cx) (K:lq X.sc scope x) (i:Nat) (cl:List (Str×Addr)) (L:Addr):Cx:=
 ⟨X.C,X.A,mi scope cl L X.env,scope,(x,i)::X.Γ,X.d,X.hd,X.good,X.calls,wq K,K.kind,X.glob,X.blt,X.dep,X.uni,X.hnd,none⟩
end
section
variable {X:Cx} {scope:Scope} {x:Str} {cl:List (Str×Addr)} {P P':Pt} {ρ:a9} {i:Nat} {g:Fm} {fs:List Fm}
theorem BZ {p:PV} {v:Value} {gl:List (Addr×Obj)} (K:lq X.sc scope x) (hcl:∀ p∈scope.names,p.2=NameKind.free->cl.lookup p.1=X.env.cells.lookup p.1) (hi:∀ q∈X.Γ,q.2≠i) (h0:X.Γ.lookup (".0":Str)=none) (G:EnvOK X P ρ) (pa:Pa P P' gl) (hf:P'.fs=g::P.fs) (hr:RV X.C P' v p) (hm:g.m x=some v):
  EnvOK (X.comp K i cl g.L) P' (ρ.set i (some p)):=by
 obtain ⟨ls,q1,q2⟩:=G.frs;refine ⟨⟨ls,q1,fun en hen=> ?_⟩,by rw[hf];nofun,fun y j q hy hmine hq=> ?_⟩
 .obtain ⟨a,f,hf',b⟩:=q2 en hen;exact ⟨a,f,by rw[hf];exact .tail _ hf',b⟩
 have hy:List.lookup y ((x,i)::X.Γ)=some j:=hy;rw[List.lookup_cons] at hy;cases hx:y==x with
 |true=>
  rw[hx] at hy;cases hy;rcases qH hq with ⟨_,z⟩|⟨z,_⟩
  .rw[z];refine ⟨v,hr,.inl ⟨?_,g,by rw[hf];exact .head _,rfl,by rw[beq_iff_eq.mp hx];exact hm⟩⟩;show (mi scope cl g.L X.env).scope.names.lookup y=_;rw[eu,beq_iff_eq.mp hx,K.var];rfl
  .exact absurd rfl z
 |false=>
  rw[hx] at hy;rcases qH hq with ⟨z,_⟩|⟨_,hq⟩
  .exact absurd z.symm (hi (y,j) (co hy))
  have hmine:lX (mi scope cl g.L X.env).scope y=true:=hmine;have hfree:scope.names.lookup y=some .free:=by
   cases hs:scope.names.lookup y with
   |none=>unfold lX at hmine;rw[eu,hs] at hmine;cases hmine
   |some k=>
    cases k with
    |free=>rfl
    |«local»=>
     obtain ⟨_,h|h⟩:=K.loc _ (co hs) rfl
     .rw[show y=x from h,beq_self_eq_true] at hx;cases hx
     .rw[show y=(".0":Str) from h,h0] at hy;cases hy
    |cell=>exact absurd rfl (K.cell _ (co hs))
    |_=>unfold lX at hmine;rw[eu,hs] at hmine;cases hmine
  have hk:=((X.kinds y).2.2 (K.free _ (co hfree) rfl)).1;obtain ⟨w,hw,hl⟩:=G.var y j q hy (xj (.inl hk)) hq;refine ⟨w,pa.rv hw,?_⟩;rcases hl with ⟨h1,_⟩|⟨_,c,h2,f,hf',h3,h4⟩
  .rw[hk] at h1;cases h1
  .exact .inr ⟨qe hfree,c,(hcl _ (co hfree) rfl).trans h2,f,by rw[hf];exact .tail _ hf',h3,h4⟩
end
structure CI where
 ts:cP->a9->PM Bool
 is:Sx->List Expr->Bool
 ok:∀ (X:Cx) (cs:List Expr) (ρ:a9) (P:Pt) (K:R Bool->av->Prop) (Q:Bool->Shared->Prop) (E:Value->Shared->Prop),is X.sx cs=true->aE X.C P->EnvOK X P ρ->Wp K (ts X.ker ρ P.σ)->bg X oP P K Q E->
  wpAny X.M X.A (forIn cs true fun c r=>if r=true then do let ok<-isTrue c X.env (eval c X.env);pure (ForInStep.yield ok) else pure (ForInStep.yield r)) Q E P.s
noncomputable def il:CI:=⟨fun _ _=>ret true,fun _ cs=>cs.isEmpty,fun X cs ρ P K Q E h I G w p=>bJ (fun cs=>wpAny X.M X.A (forIn cs true fun c r=>if r=true then do let ok<-isTrue c X.env (eval c X.env);pure (ForInStep.yield ok) else pure (ForInStep.yield r)) Q E P.s) h (wpAny_tests_nil (p.here I rfl w))⟩
noncomputable def gY (t:CT):CI:=⟨t.ts,fun s=>one (t.is s),fun X cs ρ P K Q E h I G w p=>dj (fun cs=>wpAny X.M X.A (forIn cs true fun c r=>if r=true then do let ok<-isTrue c X.env (eval c X.env);pure (ForInStep.yield ok) else pure (ForInStep.yield r)) Q E P.s) h fun c h=>wpAny_tests_one (t.ok X c ρ P K Q E h I G w p)⟩
section
variable (K:R (List D)->av->Prop) (v:PV) (x:D) (i:Nat) (test:a9->PM Bool) (bS:a9->PM PV) (ρ:a9) (y:D) (r acc:List D)
def Nb:R PV->av->Prop
 | .ok (.d z),σ=>(bn σ x v=true/\acc.length<dX)/\Wp K (cX v x i test bS ρ r (acc++[z]) σ)
 | .ok _,_=>False
 | .ex c,σ=>K (.ex c) σ
def NN:R Bool->av->Prop
 | .ok false,σ=>bn σ x v=true/\Wp K (cX v x i test bS ρ r acc σ)
 | .ok true,σ=>Wp (Nb K v x i test bS ρ r acc) (bS (ρ.set i (some (.d y))) σ)
 | .ex _,_=>False
end
section
variable {K:R (List D)->av->Prop} {v:PV} {x:D} {i:Nat} {test:a9->PM Bool} {bS:a9->PM PV} {ρ:a9} {y:D} {r acc:List D} {σ:av}
theorem zZ:∀ {z:Option (R PV×av)},Wp K (match z with
   |some (.ok (.d z),σ'')=>if bn σ'' x v/\acc.length<dX then cX v x i test bS ρ r (acc++[z]) σ'' else none
   |some (.ex c,σ'')=>some (.ex c,σ'')
   |_=>none)->Wp (Nb K v x i test bS ρ r acc) z:=by
 intro z h;cases z with
 |none=>exact h
 |some z=>
 obtain ⟨z,σ⟩:=z;cases z with
 |ex _=>exact h
 |ok z=>
 cases z with
 |p _ _=>exact h
 |b _ _=>exact h
 |d z=>
  have h:Wp K (if bn σ x v/\acc.length<dX then cX v x i test bS ρ r (acc++[z]) σ else none):=h;by_cases q:bn σ x v=true/\acc.length<dX
  .rw[if_pos q] at h;exact ⟨q,h⟩
  .rw[if_neg q] at h;exact h.elim
theorem CZ (h:Wp K (cX v x i test bS ρ (y::r) acc σ)):Wp (NN K v x i test bS ρ y r acc) (test (ρ.set i (some (.d y))) σ):=by
 have h:Wp K (match test (ρ.set i (some (.d y))) σ with
  |some (.ok false,σ')=>if bn σ' x v then cX v x i test bS ρ r acc σ' else none
  |some (.ok true,σ')=>(match bS (ρ.set i (some (.d y))) σ' with
   |some (.ok (.d z),σ'')=>if bn σ'' x v/\acc.length<dX then cX v x i test bS ρ r (acc++[z]) σ'' else none
   |some (.ex c,σ'')=>some (.ex c,σ'')
   |_=>none)
  |_=>none):=h
 generalize test (ρ.set i (some (.d y))) σ=z at h;cases z with
 |none=>exact h
 |some z=>
 obtain ⟨z,σ'⟩:=z;cases z with
 |ex _=>exact h
 |ok b=>
 cases b with
 |true=>exact zZ h
 |false=>
  have h:Wp K (if bn σ' x v then cX v x i test bS ρ r acc σ' else none):=h;cases q:bn σ' x v with
  |true=>rw[q] at h;exact ⟨q,h⟩
  |false=>rw[q] at h;exact h.elim
end
noncomputable def Sx.comp (s:Sx) (scope:Scope) (x:Str) (i:Nat):Sx:={s with sc:=scope,Γ:=(x,i)::s.Γ,lm:=none}
noncomputable def NI (xc:Bool) {α:Type}:Option (R α×av)->Option (R α×av)
 |some (.ok a,σ)=>some (.ok a,σ)
 |some (.ex c,σ)=>if xc then some (.ex c,σ) else none
 |none=>none
noncomputable def n_ (xc:Bool) (i:Nat) (it:CE) (t:CI) (bS:CE) (K:cP) (ρ:a9):PM (List D):=match K.hd with
 |true=>fun _=>none
 |false=>bz (it.ev K ρ) fun v σ=>(uL v σ).bind fun q=>NI xc (cX v q.1 i (t.ts K) (bS.ev K) ρ q.2 [] σ)
noncomputable abbrev og (i:Nat) (it:CE) (t:CI) (bS:CE) (K:cP) (ρ:a9):PM (List D):=n_ false i it t bS K ρ
theorem qr {α β:Type} {K:R β->av->Prop} {k:α->Option (R β×av)}:∀ {o:Option α},Wp K (o.bind k)->∃ a,o=some a/\Wp K (k a)
 |some a,h=>⟨a,rfl,h⟩
def xK {α:Type} (xc:Bool) (K:R α->av->Prop):R α->av->Prop
 | .ok a,σ=>K (.ok a) σ
 | .ex c,σ=>xc=true/\K (.ex c) σ
theorem Fv {α:Type} {xc:Bool} {K:R α->av->Prop}:∀ {z:Option (R α×av)},Wp K (NI xc z)->Wp (xK xc K) z
 |none,h=>h
 |some (.ok _,_),h=>h
 |some (.ex c,σ),h=>by
  cases xc with
  |true=>exact ⟨rfl,h⟩
  |false=>exact h.elim
inductive FreshL (C:bq) (P:Pt):Value->List D->Prop
 |mk {a:Addr} {vs:List Value} {n:Nat} {l:List D}:sv C P P.h a (aJ vs n)->RDs C P.own l vs->FreshL C P (.ref a) l
theorem G4 {w:bp} {a:Addr} {x:cx} (e:∀ o,w a≠ .fz o):Fz w (fQ w a x):=fun b o q=>(a_ fun c=>by rw[c] at q;exact e o q).trans q
theorem Pa.frm {P₀ P:Pt} {g:List (Addr×Obj)} {fs:List Fm} (x:Pa P₀ P g):Pa P₀ {P with fs:=fs} g:=⟨x.sm,x.G,x.fz,x.val,x.cell⟩
inductive J' (X:Cx) (K:R (List D)->av->Prop) (i:Nat) (t:CI) (bS:CE) (ρ:a9) (v:PV) (x:D) (xs:List D) (St:Nat->Heap->Prop) (P₁:Pt) (aI aD L:Addr) (n:Nat) (s:Shared):Prop
 |mk (P:Pt) (g:Fm) (j:Nat) (oi:Obj) (vs:List Value) (m:Nat) (acc:List D):P.s=s->Pa P₁ P [(aI,oi),(aD,aJ vs m)]->P.fs=g::P₁.fs->g.L=L->g.cells=[]->aE X.C P->RDs X.C P.own acc vs->bn P.σ x v=true->St j P.h->j<=xs.length->n=xs.length - j->
  Wp K (cX v x i (t.ts X.ker) (bS.ev X.ker) ρ (xs.drop j) acc P.σ)->J' X K i t bS ρ v x xs St P₁ aI aD L n s
theorem Pa.of {P P₁ P₂:Pt} {g:List (Addr×Obj)} (a:Ext P P₁) (x:Pa P₁ P₂ g):Pa P P₂ g:=
 ⟨a.sm.trans x.sm,by rw[x.G,a.G],fun b o q=>x.fz b o (a.fz b o q),fun n j q=>x.val n j (a.val n j q),fun n j b v q=>a.cell n j b v (x.cell n j b (a.val n j v) q)⟩
theorem EA {X:Cx} {ρ:a9} {P:Pt} {K:R (List D)->av->Prop} {E:Value->Shared->Prop} {RR:Value->Addr->Result->Shared->Prop} {PP:Value->Env->Result->Shared->Prop} (xc:Bool) (i:Nat) (it:CE) (t:CI) (bS:CE) {el iter:Expr} {cs:List Expr} {x:Str} {px pos:Pos} {scope scope':Scope} {cl:List (Str×Addr)}
  (hcl:∀ p∈scope.names,p.2=NameKind.free->cl.lookup p.1=X.env.cells.lookup p.1) (hsc:scope'=relabel scope X.env) (hPP:∀ v L r s,RR v L r s->PP v (newEnv scope L X.env.globals cl X.env.qual none .none (some X.env) builtinsNs) r s)
  (Kc:lq X.sc scope x) (h2:it.is X.sx iter=true) (h3:bS.is (X.sx.comp scope x i) el=true) (h4:t.is (X.sx.comp scope x i) cs=true) (h5:∀ q∈X.Γ,q.2≠i) (h6:X.Γ.lookup (".0":Str)=none) (hd:X.hd=false)
  (I:aE X.C P) (G:EnvOK X P ρ) (w:Wp K (n_ xc i it t bS X.ker ρ P.σ)) (pe:∀ c e P',bv P P'->aE X.C P'->sA X.C X.A P' c e->K (.ex c) P'.σ->E e P'.s)
  (pk:∀ acc v L oL P',Pa P P' [(L,oL)]->P'.fs=P.fs->aE X.C P'->FreshL X.C P' v acc->(∃ m,P'.h.Ns L m)->K (.ok acc) P'.σ->RR v L (.ok .next) P'.s)
  (qx:∀ c e v P' g p q,Pa P P' [p,q]->P'.fs=g::P.fs->g.cells=[]->aE X.C P'->sA X.C X.A P' c e->xc=true->K (.ex c) P'.σ->notedBy X.M X.A (mi scope cl g.L X.env) (fun e s=>RR v g.L (.error e) s) e P'.s):
  wpAny X.M X.A (eval iter X.env) (fun xv s₁=>wpAny X.M X.A (pyIter xv) (fun it s₂=>wpAny X.M X.A (newList []) (fun acc s₃=>
   wpAny X.M X.A (newFunctionEnv scope X.env.globals cl [] X.env.qual none .none (some X.env)) (fun cenv s₄=>
    codeAny X.M X.A (.compStart (.ListComp el [⟨.Name x px,iter,cs,0⟩] scope pos) 0 it acc {cenv with scope:=scope'}) (PP acc cenv) s₄) E s₃) E s₂) E s₁) E P.s:=by
 subst hsc;unfold n_ at w;rw[show X.ker.hd=false from hd] at w;have hh:=X.hnd hd;refine it.ok X iter ρ P _ _ E h2 I G (aH w) ⟨fun v va P₁ g₁ I₁ r₁ w=> ?_,pe⟩;refine aW fun G9 k9=> ?_;obtain ⟨⟨x0,xs⟩,e0,w⟩:=qr w;have w:=Fv w;obtain ⟨e1,e2,e3⟩:=nU e0;refine k9 ?_;refine xo X.good I₁ r₁ e0 fun oi St hof W st0=> ?_;have G₁:=G.ext g₁;have hn:=I₁.push hof;have I₂:=I₁.hide (t:=P₁.s.toks) hn;have hn₂:=I₂.push (o:=aJ [] 0) rfl;have I₃:=(I₂.hide (t:=P₁.s.toks) hn₂).swap rfl;have pa₃:=((((Pa.refl P₁).hide (h:=P₁.h.push oi) (t:=P₁.s.toks) (o:=oi) hn.own).hide (h:=(P₁.h.push oi).push (aJ [] 0)) (t:=P₁.s.toks) (o:=aJ [] 0) hn₂.own).turn (h:=(P₁.h.push oi).push (aJ [] 0)) (t:=P₁.s.toks) (g':=[(P₁.h.objs.size,oi),((P₁.h.push oi).objs.size,aJ [] 0)]));refine wpAny_newObj_type (wpAny_newFunctionEnv Kc.cell (fun y hy=>(Oy hy).elim) (fun h₁ hns₁ hsb₁=> ?_) Kc.kind);generalize hP₃:(Pt.mk {P₁.s with heap:=(P₁.h.push oi).push (aJ [] 0),toks:=P₁.s.toks} P₁.fs (fQ (fQ P₁.own P₁.h.objs.size .gh) (P₁.h.push oi).objs.size .gh) ((P₁.h.objs.size,oi)::((P₁.h.push oi).objs.size,aJ [] 0)::P₁.G) P₁.σ)=P₃;replace I₃:aE X.C P₃:=by rw[<-hP₃];exact I₃
 replace pa₃:Pa P₁ P₃ [(P₁.h.objs.size,oi),((P₁.h.push oi).objs.size,aJ [] 0)]:=by rw[<-hP₃];exact pa₃
 have es:P₃.s={P₁.s with heap:=(P₁.h.push oi).push (aJ [] 0)}:=by rw[<-hP₃]
 have eh:P₃.h=(P₁.h.push oi).push (aJ [] 0):=by rw[<-hP₃]
 have efs:P₃.fs=P₁.fs:=by rw[<-hP₃]
 have eσ:P₃.σ=P₁.σ:=by rw[<-hP₃]
 change h₁.Ns ((P₁.h.push oi).push (aJ [] 0)).objs.size _ at hns₁;change Heap.SameBut ((P₁.h.push oi).push (aJ [] 0)).objs.size (((P₁.h.push oi).push (aJ [] 0)).push _) h₁ at hsb₁;rw[<-eh] at hns₁ hsb₁;have kp:∀ b o,P₃.h.get? b=some o->h₁.get? b=some o:=fun b o e=>hsb₁.extBut b o (Nat.ne_of_lt (OK e)) (Ol _ e);have sz:X.C.H.objs.size<=P₃.h.objs.size:=I₃.szF (by rw[efs];exact G₁.ne);generalize hg:(⟨P₃.h.objs.size,fun y=>([]:List (Str×Value)).reverse.lookup y,[],fun _=>none⟩:Fm)=g₄;have I₄:=I₃.enter (g:=g₄) (t:=P₁.s.toks) sz kp (by rw[<-hg];exact Oo _) (by rw[<-hg];exact hns₁) (fun c hc=>by rw[<-hg] at hc;exact (Oy hc).elim);have pa₄:=pa₃.grow (Ext.enter (h':=h₁) (t:=P₁.s.toks) (g:=g₄) I₃ fun b o e q=>by
  rw[<-hg] at q;exact absurd (Oi.mp q) (Nat.ne_of_lt (OK e)))
 have st4:St 0 h₁:=W.own _ _ _ st0 (by
  obtain ⟨oi2,e4⟩:=W.fld _ _ st0;rw[e4];exact kp _ _ (by rw[eh];exact Ol _ e4))
 have still0:bn P₁.σ x0 v=true:=by
  cases v with
  |d y=>rfl
  |p n j=>exact @Os _ (_) e1
  |b _ _=>cases e1
 have loop:∀ s₃:Shared,s₃={P₁.s with heap:=h₁}->
   codeAny X.M X.A (.compLoop (.ListComp el [⟨.Name x px,iter,cs,0⟩] scope pos) 0 (.ref P₁.h.objs.size) (.ref (P₁.h.push oi).objs.size) (mi scope cl P₃.h.objs.size X.env)) (RR (.ref (P₁.h.push oi).objs.size) P₃.h.objs.size) s₃:=by
  rintro s₃ rfl;refine codeAny_compLoop_tests (J' X (xK xc K) i t bS ρ v x0 xs St P₁ P₁.h.objs.size (P₁.h.push oi).objs.size P₃.h.objs.size) ?_ xs.length
   ⟨P₃.enter h₁ P₁.s.toks g₄,g₄,0,oi,[],0,[],by show {P₃.s with heap:=h₁,toks:=P₁.s.toks}=_;rw[es],?_,by show g₄::P₃.fs=_;rw[efs],by rw[<-hg],by rw[<-hg],I₄,.nil,by show bn P₃.σ x0 v=true;rw[eσ];exact still0,st4,OG _,rfl,by show Wp (xK xc K) (cX _ _ _ _ _ _ _ _ P₃.σ);rw[eσ];exact w⟩
  .rintro n s ⟨P₅,g₅,j,o₅,vs,m,acc,rfl,pa,hf,hgL,hgc,I₅,rs,s₅,st₅,hj,rfl,w⟩;have now₅:=pM I₅ (pa.rv r₁) e1 s₅;have hL:=I₅.fr.ns g₅ (by rw[hf];exact .head _);rcases Nat.lt_or_ge j xs.length with hlt|hge
   .rw[List.drop_eq_getElem_cons hlt] at w;refine W.item X.A j P₅ xs xs[j] _ _ hh I₅ pa.fz now₅ e3 (Oh hlt) st₅ fun val h' tk rv st₆ kp=> ?_;obtain ⟨o₆,ho₆⟩:=W.fld _ _ st₆;have I₆:=I₅.gturn (t:=tk) pa.G kp ho₆;have pa₆:=pa.turn (h:=h') (t:=tk) (g':=[(P₁.h.objs.size,o₆),((P₁.h.push oi).objs.size,aJ vs m)]);refine wpAny_assign_Name (wpAny_storeName_local (m:=g₅.m) (env:=mi scope cl P₃.h.objs.size X.env) (s:={P₅.s with heap:=h',toks:=tk}) ?_ (hgL ▸ (I₆.fr.ns g₅ (by show g₅∈P₅.fs;rw[hf];exact .head _)).1) (fun h₇ hn₇ hs₇=> ?_) ?_)
    .show (mi scope cl P₃.h.objs.size X.env).scope.names.lookup x=_;rw[eu,Kc.var];rfl
    rotate_left
    .show (scope.kind==_||(scope.kind==_&&_))=false;rw[Kc.kind];rfl
    have I₇:=I₆.frame (t:=tk+1) (g:=⟨P₃.h.objs.size,fun y=>if y=x then some val else g₅.m y,[],fun _=>none⟩) hf ⟨hgL.symm,hgc.symm⟩ (.head _) (fun b o hb e=>hs₇.extBut b o (by rw[<-hgL];exact hb) e) hn₇ (fun c hc=>(Oy hc).elim);have pa₇:=(pa₆.turn (h:=h₇) (t:=tk+1) (g':=[(P₁.h.objs.size,o₆),((P₁.h.push oi).objs.size,aJ vs m)])).frm (fs:=⟨P₃.h.objs.size,fun y=>if y=x then some val else g₅.m y,[],fun _=>none⟩::P₁.fs);have G₇:=BZ (g:=⟨P₃.h.objs.size,fun y=>if y=x then some val else g₅.m y,[],fun _=>none⟩) (i:=i) (p:=.d xs[j]) (v:=val) Kc hcl h5 h6 G₁ pa₇ rfl rv (if_pos rfl);refine t.ok (X.comp Kc i cl P₃.h.objs.size) cs _ _ (NN (xK xc K) v x0 i (t.ts X.ker) (bS.ev X.ker) ρ xs[j] (xs.drop (j+1)) acc) _ _ h4 I₇ G₇ (CZ w) ⟨fun b c P₈ g₈ I₈ r₈ k=> ?_,fun c e P' _ _ _ k=>k.elim⟩;rw[show c=b from r₈];have pa₈:=pa₇.grow g₈.toExt;cases b with
    |false=>
     exact ⟨xs.length - (j+1),Le hlt,⟨P₈,_,j+1,o₆,vs,m,acc,rfl,pa₈,g₈.fs,rfl,rfl,I₈,rs.ext g₈.fz,k.1,W.own _ _ _ st₆ (by rw[(rH I₈ pa₈.G).2,ho₆]),hlt,rfl,k.2⟩⟩
    |true=>
     refine bS.ok (X.comp Kc i cl P₃.h.objs.size) el _ P₈ (Nb (xK xc K) v x0 i (t.ts X.ker) (bS.ev X.ker) ρ (xs.drop (j+1)) acc) _ _ h3 I₈ (G₇.ext g₈) k ⟨fun q vy P₉ g₉ I₉ r₉ k=> ?_,fun c e P₉ g₉ I₉ x₉ k=>qx c e _ P₉ _ _ _ (.of g₁.toExt (pa₈.grow g₉.toExt)) (by rw[g₉.fs,g₈.fs,<-g₁.fs]) rfl I₉ x₉ k.1 k.2⟩;cases q with
     |p n' j'=>exact k.elim
     |b _ _=>exact k.elim
     |d z=>
      have pa₉:=pa₈.grow g₉.toExt;have J:=I₉.swap pa₉.G;have hD:=(rH J rfl).2;have rs₉:=(rs.ext g₈.fz).ext g₉.fz;refine kA hD (by rw[rs₉.length];exact Om (OQ k.1.2) (by decide)) fun h₁₀ n' e10 s10=> ?_;have J1:=J.gturn (t:=P₉.s.toks) rfl (fun b o hb e=>s10.extBut b o hb e) e10;have J2:=J1.swap rfl;have pa₁₀:=pa₉.turn (h:=h₁₀) (t:=P₉.s.toks) (g':=[(P₁.h.objs.size,o₆),((P₁.h.push oi).objs.size,aJ (vs++[vy]) n')]);exact ⟨xs.length - (j+1),Le hlt,⟨_,_,j+1,o₆,vs++[vy],n',acc++[z],rfl,pa₁₀,g₉.fs.trans g₈.fs,rfl,rfl,J2,rs₉.append (.cons r₉ .nil),k.1.1,W.own _ _ _ st₆ (by rw[ho₆];exact (rH J2 rfl).2),hlt,rfl,k.2⟩⟩
   .have hjx:j=xs.length:=Nat.le_antisymm hj hge;rw[hjx,List.drop_length] at w;refine W.done X.A j P₅ xs _ _ hh I₅ pa.fz now₅ e3 hjx.symm st₅ fun h' tk kp=> ?_;have a1:=(rH I₅ pa.G).1;have J1:=I₅.show (t:=tk) pa.G kp;have p1:=pa.show (h:=h') (t:=tk) a1;have a2:=(rH J1 p1.G).1;have oD:=(rH J1 p1.G).2;have J2:=J1.show (h':=h') (t:=tk) p1.G fun _ _ _ e=>e;have p2:=p1.show (h:=h') (t:=tk) a2;refine aW fun G9 k9=> ?_;obtain ⟨⟨o,es2,ep2,hoL,hrest⟩,frL,_⟩:=J2.fr.ns g₅ (by show g₅∈P₅.fs;rw[hf];exact .head _);refine k9 ?_;have J3:=J2.pop (o:=o) (fs:=P₁.fs) hf hgc hoL;have p3:=p2.pop (o:=o) (fs:=P₁.fs) frL;rw[hgL] at J3 p3 frL;refine pk acc _ P₃.h.objs.size o _ (.of g₁.toExt p3) g₁.fs J3 (.mk (vs:=vs) (n:=m) ⟨fun _ _ e=>e,?_,J1.offH (by rw[a2];nofun),oD⟩ ?_) ⟨g₅.m,o,es2,ep2,hgL ▸ hoL,hrest⟩ w
    .exact (a_ fun q=>by rw[<-q] at frL;cases (bl _ _ _).symm.trans frL).trans (bl _ _ _)
    .exact ((rs.ext (fE a1)).ext (fE a2)).ext (G4 fun o q=>by cases frL.symm.trans q)
  .exact pa₄
 have eL:P₃.h.objs.size=((P₁.h.push oi).push (aJ [] 0)).objs.size:=by rw[eh]
 rw[eL] at loop;exact codeAny_mono (codeAny_compStart_list (loop _ rfl) (W.self X.A 0 _ _ _ st4 (loop _ rfl))) fun r s hr=>hPP _ _ r s hr
theorem qa {X:Cx} {ρ:a9} {P:Pt} {K:R (List D)->av->Prop} {Q E:Value->Shared->Prop} (i:Nat) (it:CE) (t:CI) (bS:CE) {el iter:Expr} {cs:List Expr} {x:Str} {px pos p2:Pos} {scope:Scope} {use:Option (Value->Sem Unit)}
  (Kc:lq X.sc scope x) (h1:jP iter=true) (h2:it.is X.sx iter=true) (h3:bS.is (X.sx.comp scope x i) el=true) (h4:t.is (X.sx.comp scope x i) cs=true) (h5:∀ q∈X.Γ,q.2≠i) (h6:X.Γ.lookup (".0":Str)=none)
  (I:aE X.C P) (G:EnvOK X P ρ) (w:Wp K (og i it t bS X.ker ρ P.σ)) (pe:∀ c e P',bv P P'->aE X.C P'->sA X.C X.A P' c e->K (.ex c) P'.σ->E e P'.s)
  (pk:∀ acc v L oL P',Pa P P' [(L,oL)]->P'.fs=P.fs->aE X.C P'->FreshL X.C P' v acc->(∃ m,P'.h.Ns L m)->K (.ok acc) P'.σ->compPost X.M X.A E use Q v L (.ok .next) P'.s):
  wpAny X.M X.A (comprehension (.ListComp el [⟨.Name x px,iter,cs,0⟩] scope pos) scope X.env p2 (newList []) false (eval iter X.env) use) Q E P.s:=by
 cases hd:X.hd with
 |true=>unfold og n_ at w;rw[show X.ker.hd=true from hd] at w;exact w.elim
 |false=>
 obtain ⟨cl,hclos,hcl⟩:=ji (scope:=scope) (env:=X.env) (fun p hp e=>((X.kinds p.1).2.2 (Kc.free p hp e)).2);refine wpAny_comprehension_free rfl (pX h1) hclos Kc.kind (fun y hy e=>(Kc.loc y hy e).1) ?_;exact EA (RR:=compPost X.M X.A E use Q) (PP:=fun v cenv=>compPost X.M X.A E use Q v cenv.locals) false i it t bS hcl rfl (fun _ _ _ _ h=>h) Kc h2 h3 h4 h5 h6 hd I G w pe pk fun _ _ _ _ _ _ _ _ _ _ _ _ h=>nomatch h
abbrev J6 (C:bq) (P:Pt) (v:Value) (l:List D):Prop:=FreshL C P v l
structure CF where
 ev:cP->a9->PM (List D)
 is:Sx->Expr->Bool
 ok:∀ (X:Cx) (e:Expr) (ρ:a9) (P:Pt) (K:R (List D)->av->Prop) (Q E:Value->Shared->Prop),is X.sx e=true->aE X.C P->EnvOK X P ρ->Wp K (ev X.ker ρ P.σ)->bg X (J6 X.C) P K Q E->wpAny X.M X.A (eval e X.env) Q E P.s
noncomputable def Gg (mu:Bool) (l:List D):PM PV:=match mu with
 |false=>ret (.d (.lst l))
 |true=>g8 (.fld (.list l))
theorem qQ {C:bq} {P:Pt} {mu:Bool} {l:List D} {v:Value} {K:R PV->av->Prop} (I:aE C P) (r:FreshL C P v l) (w:Wp K (Gg mu l P.σ)):∃ p P',bv P P'/\aE C P'/\RV C P' v p/\P'.s=P.s/\K (.ok p) P'.σ:=by
 obtain @⟨a,vs,n,_,hn,rs⟩:=r;cases mu with
 |false=>exact ⟨.d (.lst l),P.note P.h P.s.toks a (aJ vs n),.note hn.own,I.note hn,.lst (n:=⟨n,none,#[]⟩) (bl _ _ _) (rs.ext (dg hn.own)),rfl,w⟩
 |true=>exact ⟨.p P.σ.length 0,P.make P.h P.s.toks a (.fld (.list l)),.make hn.own,I.make rfl hn ⟨.ref a,.mk (bl _ _ _) hn.at_ ⟨vs,n,rfl,rs.ext (dg hn.own)⟩⟩,I.rvMake rfl,rfl,w⟩
noncomputable def qP (mu:Bool) (f:CF):CE:=⟨fun K ρ=>bz (f.ev K ρ) (Gg mu),f.is,fun X e ρ P K Q E h I G w p=>f.ok X e ρ P _ Q E h I G (aH w) (p.bind fun l v P1 g I1 r w p=>by
 obtain ⟨q,P2,g2,I2,r2,e2,k⟩:=qQ I1 r w;rw[<-e2];exact p.ok q v P2 g2 I2 r2 k)⟩
noncomputable def mM (i:Nat) (it:CE) (t:CI) (bS:CE) (s:Sx):Expr->Bool:=JW fun el x iter cs ay scope=>ay==0&&k8 s.sc scope x&&jP iter&&it.is s iter&&bS.is (s.comp scope x i) el&&t.is (s.comp scope x i) cs&&s.Γ.all (fun q=>q.2 !=i)&&s.Γ.lookup (".0":Str)==none
theorem FreshL.show {C:bq} {P:Pt} {L:Addr} {h':Heap} {t:Nat} {G:List (Addr×Obj)} {v:Value} {l:List D} (e:P.own L= .gh) (hs:∀ b o,b≠L->P.h.get? b=some o->h'.get? b=some o):FreshL C P v l->FreshL C (P.show h' t L G) v l
 |@FreshL.mk _ _ a _ _ _ n r=>
  have ne:a≠L:=fun q=>by have:=n.own;rw[q,e] at this;cases this
  .mk ⟨fun _ _ e=>e,(a_ ne).trans n.own,n.H,hs _ _ ne n.at_⟩ (r.ext (fE e))
section
variable {X:Cx} {e:Expr} {ρ:a9} {P:Pt} {K:R (List D)->av->Prop} {Q E:Value->Shared->Prop}
theorem Pa.done {P P':Pt} {L:Addr} {oL:Obj} (x:Pa P P' [(L,oL)]) (hf:P'.fs=P.fs) (I:aE X.C P') {h':Heap} (hs:Heap.SameBut L P'.h h'):bv P (P'.show h' P'.s.toks L P.G)/\aE X.C (P'.show h' P'.s.toks L P.G):=by
 have a:=(rH I x.G).1;have y:=x.show (h:=h') (t:=P'.s.toks) a;exact ⟨⟨⟨y.sm,y.G,y.fz,y.val,y.cell⟩,hf⟩,I.show x.G fun b o hb e=>hs.extBut b o hb e⟩
theorem Ez (i:Nat) (it:CE) (t:CI) (bS:CE) (h:mM i it t bS X.sx e=true) (I:aE X.C P) (G:EnvOK X P ρ) (w:Wp K (og i it t bS X.ker ρ P.σ)) (p:bg X (J6 X.C) P K Q E):wpAny X.M X.A (eval e X.env) Q E P.s:=
 qj (fun e=>wpAny X.M X.A (eval e X.env) Q E P.s) h fun el x px iter cs ay scope pos h=>by
  have h0:=ah (ah (ah (ah (ah (ah (ah h))))));rw[bu h0,eval_ListComp];refine qa i it t bS (qb (ak (ah (ah (ah (ah (ah (ah h)))))))) (ak (ah (ah (ah (ah (ah h)))))) (ak (ah (ah (ah (ah h))))) (ak (ah (ah (ah h)))) (ak (ah (ah h))) (fun q hq z=> ?_) (bu (ak h)) I G w p.ex fun acc v L oL P' x' hf I' r hn k=> ?_
  .have:=List.all_eq_true.mp (ak (ah h)) q hq;rw[z,bne_self_eq_false] at this;cases this
  .obtain ⟨m,hn⟩:=hn;refine ⟨m,hn,fun h' hs=> ?_⟩;obtain ⟨g,J⟩:=x'.done (X:=X) hf I' hs;exact p.ok acc v _ g J (r.show (rH I' x'.G).1 fun b o hb e=>hs.extBut b o hb e) k
end
noncomputable def iE (i:Nat) (it:CE) (t:CI) (bS:CE):CF:=⟨og i it t bS,mM i it t bS,fun _ _ _ _ _ _ _ h I G w p=>Ez i it t bS h I G w p⟩
theorem uT {el iter:Expr} {x y:Str} {px py pos:Pos} {cs:List Expr} {scope:Scope} {l:Nat} {env:Env}:∃ b,swapsWith (.ListComp el [⟨.Name x px,iter,cs,0⟩] scope pos) (some (.Name y py)) l env=pure b:=⟨_,rfl⟩
noncomputable def B0 (xc mu:Bool) (j i:Nat) (it:CE) (t:CI) (bS:CE) (K:cP) (ρ:a9):av->Option (Out×av):=ce ρ (bz (n_ xc i it t bS K ρ) (Gg mu)) fun v σ=>some (.next (ρ.set j (some v)),σ)
theorem wy (xc mu:Bool) (j i:Nat) (it:CE) (t:CI) (bS:CE) {X:SX} {el iter:Expr} {cs:List Expr} {x y:Str} {px py pos q2:Pos} {scope:Scope} {ρ:a9} {P:Pt} {K:Out->av->Prop} {Q:Flow->Shared->Prop} {E:Value->Shared->Prop}
  (run:∀ {K:R (List D)->av->Prop} {Q:Value->Shared->Prop} (p2:Pos) (use:Option (Value->Sem Unit)),Wp K (n_ xc i it t bS X.ker ρ P.σ)->(∀ c e P',bv P P'->aE X.C P'->sA X.C X.A P' c e->K (.ex c) P'.σ->E e P'.s)->
   (∀ acc v L oL P',Pa P P' [(L,oL)]->P'.fs=P.fs->aE X.C P'->FreshL X.C P' v acc->(∃ m,P'.h.Ns L m)->K (.ok acc) P'.σ->compPost X.M X.A E use Q v L (.ok .next) P'.s)->
   wpAny X.M X.A (comprehension (.ListComp el [⟨.Name x px,iter,cs,0⟩] scope q2) scope X.env p2 (newList []) false (eval iter X.env) use) Q E P.s)
  (hy:X.Γ.lookup y=some j) (hb:fG X.sc y=true) (G:cc X P ρ) (w:hW K (B0 xc mu j i it t bS X.ker ρ P.σ)) (p:cS X P K Q E):wpAny X.M X.A (PySem.exec (.Assign [.Name y py] (.ListComp el [⟨.Name x px,iter,cs,0⟩] scope q2) pos) X.env) Q E P.s:=by
 have pe:∀ c e P',bv P P'->aE X.C P'->sA X.C X.A P' c e->K (.ex c ρ) P'.σ->E e P'.s:=fun c e P' g I' x k=>p.ex c ρ e P' (G.gs g) I' x (G.ext g) k;obtain ⟨b,hsw⟩:=uT (el:=el) (iter:=iter) (x:=x) (y:=y) (px:=px) (py:=py) (pos:=q2) (cs:=cs) (scope:=scope) (l:=pos.line) (env:=X.env);cases b with
 |false=>
  refine wpAny_Assign_Name ?_ hsw;rw[eval_ListComp];refine run _ none (aH (dc w)) pe fun acc v L oL P' x' hf I' r hn k=> ?_;obtain ⟨m,hn⟩:=hn;refine ⟨m,hn,fun h' hs=> ?_⟩;obtain ⟨g,J⟩:=x'.done (X:=X.toCx) hf I' hs;obtain ⟨q,P1,g1,I1,r1,e1,k⟩:=qQ J (r.show (rH I' x'.G).1 fun b o hb e=>hs.extBut b o hb e) k;show wpAny X.M X.A (storeName X.env y v) (fun _=>Q .next) E (P'.show h' P'.s.toks L P.G).s;rw[<-e1];exact ib hy hb I1 ((G.ext g).ext g1) r1 fun P2 g2 I2 G2 e2=>p.next _ P2 ((G.gs (g.trans g1)).trans g2) I2 G2 (e2 ▸ k)
 |true=>
  rw[exec_Assign_Name_used _ _ _ _ hsw];refine Op (wpAny_standAt (Op ?_));show wpAny _ X.A (do let _<-comprehension (.ListComp el [⟨.Name x px,iter,cs,0⟩] scope q2) scope X.env _ (newList []) false (eval iter X.env) (some (assign (.Name y py) X.env))) _ _ P.s;refine Op (wpAny_mono (run (Q:=fun _ s'=>Q .next s') _ _ (aH (dc w)) pe fun acc v L oL P' x' hf I' r hn k=> ?_) (fun _ s' hq=>Oq (Oq hq)) fun _ _ e=>e);obtain ⟨m,oo,es,ep,hn1,hn2⟩:=hn;have hoo:oo=oL:=O0 (hn1.symm.trans (rH I' x'.G).2);have hlk:pJ P.fs P'.fs:=by
   obtain ⟨f,r,z,_⟩:=G.hd;rw[hf,z];exact .mk (.refl f)
  have past:=x'.past hlk;have G':cc X P' ρ:=⟨⟨hf ▸ G.frs,hf ▸ G.ne,fun x i p h1 h2 h3=>by
   obtain ⟨v,r,l⟩:=G.var x i p h1 h2 h3;exact ⟨v,x'.rv r,hf ▸ l⟩⟩,hf ▸ G.hd⟩
  obtain ⟨q,P1,g1,I1,r1,e1,k⟩:=qQ I' r k;rw[<-e1];refine wpAny_assign_Name (ib hy hb I1 (G'.ext g1) r1 fun P2 g2 I2 G2 e2=> ?_);have past2:=past.grow ((G'.gs g1).trans g2);have gh2:=rH I2 past2.G;refine ⟨m,⟨oo,es,ep,by rw[hoo];exact gh2.2,hn2⟩,fun h' hs=> ?_⟩;exact p.next _ (P2.show h' P2.s.toks L P.G) (past2.show gh2.1) (I2.show past2.G fun b o hb e=>hs.extBut b o hb e) (G2.show gh2.1) (by show K _ P2.σ;rw[e2];exact k)
theorem Cq {Γ:CD} {i:Nat} (h:Γ.all (fun q=>q.2 !=i)=true):∀ q∈Γ,q.2≠i:=fun q hq z=>by
 have:=List.all_eq_true.mp h q hq;rw[z,bne_self_eq_false] at this;cases this
theorem wx (mu:Bool) (j i:Nat) (it:CE) (t:CI) (bS:CE) {X:SX} {st:Stmt} {ρ:a9} {P:Pt} {K:Out->av->Prop} {Q:Flow->Shared->Prop} {E:Value->Shared->Prop} (h:pu (fun t' e=>cY (fun x _=>X.sx.Γ.lookup x==some j&&fG X.sx.sc x&&mM i it t bS X.sx e) t') st=true) (I:aE X.C P) (G:cc X P ρ)
  (w:hW K (B0 false mu j i it t bS X.ker ρ P.σ)) (p:cS X P K Q E):Ws X st Q E P:=
 f_ (fun st=>Ws X st Q E P) h fun te e pos h=>bY (fun te=>wpAny X.M X.A (PySem.exec (.Assign [te] e pos) X.env) Q E P.s) h fun y py h=>by
  have hy:=bu (ah (ah h));have hb:=ak (ah h);refine qj (fun e=>wpAny X.M X.A (PySem.exec (.Assign [.Name y py] e pos) X.env) Q E P.s) (ak h) (fun el x px iter cs ay scope q2 h=> ?_);have h0:=bu (ah (ah (ah (ah (ah (ah (ah h)))))));subst h0;exact wy false mu j i it t bS (fun p2 use w pe pk=>qa (X:=X.toCx) i it t bS (qb (ak (ah (ah (ah (ah (ah (ah h)))))))) (ak (ah (ah (ah (ah (ah h)))))) (ak (ah (ah (ah (ah h))))) (ak (ah (ah (ah h)))) (ak (ah (ah h))) (Cq (ak (ah h))) (bu (ak h)) I G.toEnvOK w pe pk) hy hb G w p
noncomputable def sP (mu:Bool) (j i:Nat) (it:CE) (t:CI) (bS:CE):C1:=⟨B0 false mu j i it t bS,fun s=>pu fun t' e=>cY (fun x _=>s.Γ.lookup x==some j&&fG s.sc x&&mM i it t bS s e) t',fun _ _ _ _ _ _ _ h I G w p=>wx mu j i it t bS h I G w p⟩
noncomputable def SX.up (X:SX) (v:Option Value):SX:={X with A:=X.A.mark v,hd:=true,dep:=X.dep,uni:=X.uni,hnd:=(fun q=>by cases q),fr:=X.fr,dep2:=X.dep2,uni2:=X.uni2}
section
variable {C:bq} {M:Model} {A:Around} {E:Value->Shared->Prop} {P:Pt} {ls:List Env} {e:Addr} {c:Nat}
theorem n5 {fl:Value} {Q:Unit->Shared->Prop} (I:aE C P) (hx:i_ C P ls e c fl) (hQ:∀ h',aE C (P.to h' P.s.toks)->i_ C (P.to h' P.s.toks) ls e c .none->Q () {P.s with heap:=h'}):
  wpAny M A (setFlight (.ref e) none) Q E P.s:=by
 refine aW fun G9 k9=> ?_;obtain ⟨B,k1,k2,k3,k4,k5,a0,ht⟩:=hx;refine k9 ?_;refine wpAny_setFlight_noneW k1 k3 ht fun h' x1 x2 x3 x4=> ?_;exact hQ h' (I.slots (fun b o q=>x1 b o (k4 b o q)) (fun b o q z=>x1 _ _ (k5 b o q z)) fun b o hb hn=>⟨o.slots,x4 b o hb hn⟩) ⟨B,x1,k2,x2,k4,fun b o q z=>mJ I k1 k5 b o q z x1,a0,x3⟩
theorem zy (I:aE C P) (hx:i_ C P ls e c .none):∃ oe,bv P (P.note P.h P.s.toks e oe)/\aE C (P.note P.h P.s.toks e oe)/\RD C (fQ P.own e (.fz oe)) (.exc c) (.ref e):=by
 refine aW fun G9 k9=> ?_;obtain ⟨B,k1,k2,k3,k4,k5,a0,oe,vs,T,oT,ts,he,hc,hd,_⟩:=hx;refine k9 ?_;have n1:P.own e= .no:=by
  have key:¬kept (P.own e):=fun q=>by rw[k5 e oe q he] at k2;cases k2
  cases q:P.own e with
  |no=>rfl
  |fr=>
   obtain ⟨f,hf,hm⟩:=I.fr.all e q;rcases Oe.mp hm with r|r
   .obtain ⟨o',es,ep,h1,h2,_⟩:=(I.fr.ns f hf).1;rw[<-r,he] at h1;cases h1;rw[hd] at h2;cases h2
   .obtain ⟨o',h1,h2⟩:=(I.fr.cl f hf e r).1;rw[he] at h1;cases h1;rw[hd] at h2;cases h2
  |fz o=>rw[q] at key;exact absurd trivial key
  |cell n j=>rw[q] at key;exact absurd trivial key
  |gh=>rw[q] at key;exact absurd trivial key
 have n3:C.H.get? e=none:=by
  cases q:C.H.get? e with
  |none=>rfl
  |some o=>rw[k4 e o q] at k2;cases k2
 exact ⟨oe,.note n1,I.note ⟨fun _ _ q=>q,n1,n3,he⟩,.exc vs (bl _ _ _) hc.1 hd⟩
end
noncomputable def Ga:Option (Out×av)->Option (Out×av)
 |some (.ex _ _,_)=>none
 |z=>z
def nK (K:Out->av->Prop):Out->av->Prop
 | .ex _ _,_=>False
 |o,σ=>K o σ
theorem CX {K:Out->av->Prop}:∀ {z:Option (Out×av)},hW K (Ga z)->hW (nK K) z
 |none,h=>h
 |some (.next _,_),h=>h
 |some (.ret _,_),h=>h
 |some (.ex _ _,_),h=>h
noncomputable def AJ:Option (Out×av)->Option (Out×av)
 |some (.ret v,σ)=>some (.ret v,σ)
 |_=>none
def rK (K:Out->av->Prop):Out->av->Prop
 | .ret v,σ=>K (.ret v) σ
 |_,_=>False
theorem zX {K:Out->av->Prop}:∀ {z:Option (Out×av)},hW K (AJ z)->hW (rK K) z
 |none,h=>h
 |some (.next _,_),h=>h
 |some (.ret _,_),h=>h
 |some (.ex _ _,_),h=>h
structure CH where
 ex:cP->Nat->a9->av->Option (Out×av)
 is:Sx->List ExceptHandler->Bool
 ok:∀ (X:SX) (hs:List ExceptHandler) (e:Addr) (c:Nat) (ρ:a9) (P:Pt) (K:Out->av->Prop) (Q:Flow->Shared->Prop) (E:Value->Shared->Prop),is X.sx hs=true->c<nX->aE X.C P->i_ X.C P (X.env::X.outer) e c .none->cc X P ρ->hW K (ex X.ker c ρ P.σ)->cS X P K Q E->wpAny X.M X.A (handleBy (.ref e) X.env hs) Q E P.s
noncomputable def hN:CH:=⟨fun _ _ _ _=>none,fun _ _=>true,fun _ _ _ _ _ _ _ _ _ _ _ _ _ _ w=>w.elim⟩
noncomputable def JB (f:Option Expr->Option Str->List Stmt->Bool):ExceptHandler->Bool
 | .ExceptHandler t y b _=>f t y b
theorem t8 (q:ExceptHandler->Prop) {f:Option Expr->Option Str->List Stmt->Bool}:∀ {h:ExceptHandler},JB f h=true->(∀ t y b pos,f t y b=true->q (.ExceptHandler t y b pos))->q h
 | .ExceptHandler t y b pos,h,k=>k t y b pos h
noncomputable def j_ (s:Sx) (c':Nat) (t:Option Expr):Bool:=CG (cY fun n _=>n==gQ c'&&decide (c'<nX)&&dB s.sc n) t
section
variable {X:SX} {hs:List ExceptHandler} {e:Addr} {c:Nat} {ρ:a9} {P:Pt} {K:Out->av->Prop} {Q:Flow->Shared->Prop} {E:Value->Shared->Prop}
theorem uv {c':Nat} {t:Option Expr} {y:Option Str} {be:List Stmt} {pos:Pos} (h:j_ X.sx c' t=true) (h17:c<nX) (I:aE X.C P) (L:i_ X.C P (X.env::X.outer) e c .none)
  (k1:(c==c'||c'==0)=true->codeAny X.M (X.A.mark (some (.ref e))) (.handlers (.ref e) [.ExceptHandler none y be pos] X.env) (fun r s₂=>match r with
     | .ok f=>(match y with
      |none=>Q f s₂
      |some n=>wpAny X.M X.A (do bindName X.env n .none;unbindBehindTheSuite X.env n pos) (fun _ s₃=>Q f s₃) E s₂)
     | .error x=>cameBackBy X.M X.A X.env E x s₂) P.s)
  (k2:(c==c'||c'==0)=false->wpAny X.M X.A (handleBy (.ref e) X.env hs) Q E P.s):wpAny X.M X.A (handleBy (.ref e) X.env (.ExceptHandler t y be pos::hs)) Q E P.s:=by
 refine fj (fun t=>wpAny X.M X.A (handleBy (.ref e) X.env (.ExceptHandler t y be pos::hs)) Q E P.s) h fun t h=> ?_;refine bY (fun t=>wpAny X.M X.A (handleBy (.ref e) X.env (.ExceptHandler (some t) y be pos::hs)) Q E P.s) h fun n np h=> ?_;have h0:=bu (ah (ah h));subst h0;have hc':=OT (ak (ah h));have XX:=X.good.cls.X.keeps fun b o e=>(I.base b o e).1;refine wpAny_handleBy_cons (codeAny_handlers_test (du (X:=(X.up (some (.ref e))).toCx) I (ak h) (X.good.exc c' hc').bound ?_)) (fun q=>by cases q);have LT:PySem.W.Looks X.M P.h (typeOf (.ref e)) (.ref (X.C.exc c)):=by
  refine aW fun G9 k9=> ?_;obtain ⟨B,k1,k2,k3,k4,k5,a0,oe,vs,T,oT,ts,he,hc,hd,_⟩:=L;refine k9 ?_;exact hc.1 ▸ (PySem.W.Looks.ld he).andThen .now
 refine (PySem.W.exm_one XX LT (X.good.exm c h17 c' hc')).here ?_;cases hm:(c==c'||c'==0) with
 |true=>exact k1 hm
 |false=>exact k2 hm
theorem cc.up (G:cc X P ρ) (v:Option Value):cc (X.up v) P ρ:=⟨⟨G.frs,G.ne,G.var⟩,G.hd⟩
theorem cc.dn {v:Option Value} (G:cc (X.up v) P ρ):cc X P ρ:=⟨⟨G.frs,G.ne,G.var⟩,G.hd⟩
noncomputable def Kq (b:Bool) (x y:Option (Out×av)):Option (Out×av):=match b with
 |true=>x
 |false=>y
theorem JC (c':Nat) (b:CS) (r:CH) (h:iw (JB fun t y be=>j_ X.sx c' t&&y.isNone&& !be.isEmpty&&b.is X.sx be) (r.is X.sx) hs=true) (h17:c<nX) (I:aE X.C P) (L:i_ X.C P (X.env::X.outer) e c .none) (G:cc X P ρ)
  (w:hW K (Kq (c==c'||c'==0) (Ga (b.ex X.ker.up ρ P.σ)) (r.ex X.ker c ρ P.σ))) (p:cS X P K Q E):wpAny X.M X.A (handleBy (.ref e) X.env hs) Q E P.s:=by
 refine c9 (fun hs=>wpAny X.M X.A (handleBy (.ref e) X.env hs) Q E P.s) h fun hn hs h1 h2=> ?_;refine t8 (fun hn=>wpAny X.M X.A (handleBy (.ref e) X.env (hn::hs)) Q E P.s) h1 fun t y be pos h=> ?_;refine jQ (fun y=>wpAny X.M X.A (handleBy (.ref e) X.env (.ExceptHandler t y be pos::hs)) Q E P.s) (ak (ah (ah h))) ?_;refine uv (ah (ah (ah h))) h17 I L (fun q=> ?_) fun q=>r.ok X hs e c ρ P K Q E h2 h17 I L G (by rw[q] at w;exact w) p;rw[q] at w;cases be with
 |nil=>cases ak (ah h)
 |cons b0 bt=>
 refine codeAny_handlers_suite (n5 I L fun h1 I1 L1=> ?_);have g1:=bv.to P h1 P.s.toks;refine b.ok (X.up (some (.ref e))) _ ρ (P.to h1 P.s.toks) (nK K) _ _ (ak h) I1 ((G.ext g1).up _) (CX w) ⟨fun ρ' P' g I' G' k=> ?_,fun q v P' g I' r k=> ?_,fun c ρ' e P' g I' x G' k=>k.elim⟩
 .exact p.next ρ' P' ((G.gs g1).trans g) I' G'.dn k
 .exact p.ret q v P' ((G.gs g1).trans g) I' r k
theorem JD (c' i:Nat) (b:CS) (r:CH) (h:iw (JB fun t y be=>j_ X.sx c' t&&CG (fun y=>X.sx.Γ.lookup y==some i&&X.sx.sc.names.lookup y==some .local) y&& !be.isEmpty&&b.is X.sx be) (r.is X.sx) hs=true) (h17:c<nX) (I:aE X.C P) (L:i_ X.C P (X.env::X.outer) e c .none) (G:cc X P ρ)
  (w:hW K (Kq (c==c'||c'==0) (AJ (b.ex X.ker.up (ρ.set i (some (.d (.exc c)))) P.σ)) (r.ex X.ker c ρ P.σ))) (p:cS X P K Q E):wpAny X.M X.A (handleBy (.ref e) X.env hs) Q E P.s:=by
 refine c9 (fun hs=>wpAny X.M X.A (handleBy (.ref e) X.env hs) Q E P.s) h fun hn hs h1 h2=> ?_;refine t8 (fun hn=>wpAny X.M X.A (handleBy (.ref e) X.env (hn::hs)) Q E P.s) h1 fun t y be pos h=> ?_;refine fj (fun y=>wpAny X.M X.A (handleBy (.ref e) X.env (.ExceptHandler t y be pos::hs)) Q E P.s) (ak (ah (ah h))) fun y hy=> ?_;refine uv (ah (ah (ah h))) h17 I L (fun q=> ?_) fun q=>r.ok X hs e c ρ P K Q E h2 h17 I L G (by rw[q] at w;exact w) p;rw[q] at w;cases be with
 |nil=>cases ak (ah h)
 |cons b0 bt=>
 refine codeAny_handlers_suite_as (n5 I L fun h1 I1 L1=> ?_);have g1:=bv.to P h1 P.s.toks;obtain ⟨oe,g2,I2,r2⟩:=zy I1 L1;have G2:=(G.ext g1).ext g2;have hl:X.sc.names.lookup y=some .local:=bu (ak hy);have hb2:fG X.sc y=true:=by unfold fG;rw[hl];rfl
 refine ib (X:=X.up (some (.ref e))) (p:=.d (.exc c)) (bu (ah hy)) hb2 I2 (G2.up _) r2 fun P3 g3 I3 G3 e3=> ?_;refine b.ok (X.up (some (.ref e))) _ _ P3 (rK K) _ _ (ak h) I3 G3 (by rw[e3];exact zX w) ⟨fun ρ' P' g I' G' k=>k.elim,fun q v P' g I' r k=> ?_,fun c ρ' e P' g I' x G' k=>k.elim⟩;have gs:=(((G.gs g1).grow g2).trans g3).trans g;refine aW fun G9 k9=> ?_;obtain ⟨f,fr,hf,hL,hcs⟩:=G.hd;refine k9 ?_;have hlk:=gs.fs;rw[hf] at hlk;obtain ⟨f2,fr2,hf2,lk⟩:∃ f2 r2,P'.fs=f2::r2/\f.like f2:=by
  generalize P'.fs=z at hlk;obtain ⟨lk⟩:=hlk;exact ⟨_,_,rfl,lk⟩
 have hm:f2∈P'.fs:=by rw[hf2];exact .head _
 have hloc:X.env.locals=f2.L:=X.loc.trans (hL.symm.trans lk.1.symm);have hns:=(I'.fr.ns f2 hm).1;rw[<-hloc] at hns;rw[X.scE] at hl;refine wpAny_nameGoes hl hns (by rw[X.kind];rfl) fun h' m' hn' hs'=> ?_;have J:=I'.frame (t:=P'.s.toks+1) (g:={f2 with m:=m'}) hf2 ⟨rfl,rfl⟩ (a:=f2.L) (.head _) (fun b o e h=>hs'.extBut b o (by rw[hloc];exact e) h) (by rw[hloc] at hn';exact hn') fun c hc=>(I'.fr.cl f2 hm c hc).1.sameBut hs' (by rw[hloc];exact Nat.ne_of_gt (I'.fr.cl f2 hm c hc).2.2);refine p.ret q v {P'.to h' (P'.s.toks+1) with fs:={f2 with m:=m'}::fr2} (gs.trans ⟨⟨⟨h',P'.s.toks+1,rfl⟩,rfl,fun _ _ e=>e,fun _ _ e=>e,fun _ _ _ _ e=>e⟩,by rw[hf2];exact .mk ⟨rfl,rfl⟩⟩) J ?_ k;cases q with
 |d x=>exact r
 |p n j=>exact r
 |b _ _=>exact r
end
noncomputable def hC (c':Nat) (b:CS) (r:CH):CH:=⟨fun K c ρ σ=>Kq (c==c'||c'==0) (Ga (b.ex K.up ρ σ)) (r.ex K c ρ σ),fun s=>iw (JB fun t y be=>j_ s c' t&&y.isNone&& !be.isEmpty&&b.is s be) (r.is s),fun _ _ _ _ _ _ _ _ _ h h17 I L G w p=>JC c' b r h h17 I L G w p⟩
noncomputable def hA (c' i:Nat) (b:CS) (r:CH):CH:=⟨fun K c ρ σ=>Kq (c==c'||c'==0) (AJ (b.ex K.up (ρ.set i (some (.d (.exc c)))) σ)) (r.ex K c ρ σ),fun s=>iw (JB fun t y be=>j_ s c' t&&CG (fun y=>s.Γ.lookup y==some i&&s.sc.names.lookup y==some .local) y&& !be.isEmpty&&b.is s be) (r.is s),fun _ _ _ _ _ _ _ _ _ h h17 I L G w p=>JD c' i b r h h17 I L G w p⟩
noncomputable def FH (h:CH) (K:cP):Option (Out×av)->Option (Out×av)
 |some (.ex c ρ,σ)=>if c<nX then h.ex K c ρ σ else none
 |z=>z
def HJ (K:Out->av->Prop) (h:CH) (k:cP):Out->av->Prop
 | .ex c ρ,σ=>c<nX/\hW K (h.ex k c ρ σ)
 |o,σ=>K o σ
theorem Fu {K:Out->av->Prop} {h:CH} {k:cP}:∀ {z:Option (Out×av)},hW K (FH h k z)->hW (HJ K h k) z
 |none,w=>w
 |some (.next _,_),w=>w
 |some (.ret _,_),w=>w
 |some (.ex c ρ,σ),w=>by
  have w:hW K (if c<nX then h.ex k c ρ σ else none):=w;by_cases q:c<nX
  .rw[if_pos q] at w;exact ⟨q,w⟩
  .rw[if_neg q] at w;exact w.elim
noncomputable def wU (b:CS) (h:CH) (K:cP) (ρ:a9) (σ:av):Option (Out×av):=match K.hd with
 |true=>none
 |false=>FH h K (b.ex K ρ σ)
theorem FG (b:CS) (h:CH) {X:SX} {st:Stmt} {ρ:a9} {P:Pt} {K:Out->av->Prop} {Q:Flow->Shared->Prop} {E:Value->Shared->Prop} (hE:xt (fun be he el fin _=>el.isEmpty&&fin.isEmpty&& !he.isEmpty&&b.is X.sx be&&h.is X.sx he) st=true) (I:aE X.C P) (G:cc X P ρ)
  (w:hW K (wU b h X.ker ρ P.σ)) (p:cS X P K Q E):wpAny X.M X.A (PySem.exec st X.env) Q E P.s:=by
 refine vS (fun st=>wpAny X.M X.A (PySem.exec st X.env) Q E P.s) hE fun be he el fin pos h0=> ?_;refine bJ (fun el=>wpAny X.M X.A (PySem.exec (.Try be he el fin pos) X.env) Q E P.s) (ah (ah (ah (ah h0)))) ?_;refine bJ (fun fin=>wpAny X.M X.A (PySem.exec (.Try be he [] fin pos) X.env) Q E P.s) (ak (ah (ah (ah h0)))) ?_;cases hd:X.hd with
 |true=>unfold wU at w;rw[show X.ker.hd=true from hd] at w;exact w.elim
 |false=>
 unfold wU at w;rw[show X.ker.hd=false from hd] at w;cases he with
 |nil=>cases ak (ah (ah h0))
 |cons h₀ hs=>
 refine wpAny_Try_except (b.ok X be ρ P (HJ K h X.ker) _ _ (ak (ah h0)) I G (Fu w) ⟨fun ρ' P' g I' G' k=>wpAny_execs_nil (p.next ρ' P' g I' G' k),p.ret,fun c ρ' e P' g I' x G' k=> ?_⟩);obtain ⟨h1,h2⟩:=x;rw[X.fr] at h1;cases h1;refine uf X.fr X.frame I' h2 fun h1 I1 x1=> ?_;refine n5 I1 x1 fun h2 I2 L2=> ?_;have g2:=(bv.to P' h1 P'.s.toks).trans (.to _ h2 P'.s.toks);exact h.ok X _ _ c ρ' ((P'.to h1 P'.s.toks).to h2 P'.s.toks) K Q E (ak h0) k.1 I2 L2 (G'.ext g2) k.2 (p.mono (g.grow g2))
noncomputable def FP (b:CS) (h:CH):C1:=⟨wU b h,fun s=>xt fun be he el fin _=>el.isEmpty&&fin.isEmpty&& !he.isEmpty&&b.is s be&&h.is s he,fun _ _ _ _ _ _ _ hE I G w p=>FG b h hE I G w p⟩
noncomputable def pR (L:Addr) (n:Nat) (m:Option Nat) (a:Addr):cx->cx
 | .fr=>if L<=a then .no else .fr
 | .cell k j=>if k<n then .cell k j else if m=some k then .cell n j else .no
 |x=>x
section
variable {L a:Addr} {n:Nat} {m:Option Nat}
theorem A5 (x:cx):pR L n m a x= .no∨(pR L n m a x=x/\(x= .fr->a<L)/\∀ k j,x= .cell k j->k<n)∨∃ k j,x= .cell k j/\n<=k/\m=some k/\pR L n m a x= .cell n j:=by
 cases x with
 |no=>exact .inl rfl
 |fz o=>exact .inr (.inl ⟨rfl,cx.noConfusion,fun _ _=>cx.noConfusion⟩)
 |gh=>exact .inr (.inl ⟨rfl,cx.noConfusion,fun _ _=>cx.noConfusion⟩)
 |fr=>
  by_cases q:L<=a
  .exact .inl (if_pos q)
  .exact .inr (.inl ⟨if_neg q,fun _=>Nat.lt_of_not_le q,fun _ _=>cx.noConfusion⟩)
 |cell k j=>
  by_cases q:k<n
  .exact .inr (.inl ⟨if_pos q,cx.noConfusion,fun k' j' e=>by cases e;exact q⟩)
  .by_cases z:m=some k
   .exact .inr (.inr ⟨k,j,rfl,Nat.le_of_not_lt q,z,(if_neg q).trans (if_pos z)⟩)
   .exact .inl ((if_neg q).trans (if_neg z))
theorem Fg {x y:cx} (h:pR L n m a x=y) (hy:y≠ .no) (hc:∀ j,y≠ .cell n j):x=y/\(x= .fr->a<L)/\∀ k j,x= .cell k j->k<n:=by
 rcases A5 (L:=L) (a:=a) (n:=n) (m:=m) x with q|⟨q,z⟩|⟨k,j,_,_,_,q⟩
 .exact absurd (h.symm.trans q) hy
 .exact ⟨q.symm.trans h,z⟩
 .exact absurd (h.symm.trans q) (hc j)
theorem gC {x:cx} {k j:Nat} (h:pR L n m a x= .cell k j):(x= .cell k j/\k<n)∨(k=n/\∃ k',m=some k'/\n<=k'/\x= .cell k' j):=by
 rcases A5 (L:=L) (a:=a) (n:=n) (m:=m) x with q|⟨q,_,z⟩|⟨k',j',e,le,em,q⟩
 .cases h.symm.trans q
 .have e:=q.symm.trans h;exact .inl ⟨e,z k j e⟩
 .cases h.symm.trans q;exact .inr ⟨rfl,k',em,le,e⟩
theorem DP {x:cx} (h:kept (pR L n m a x)):kept x:=by
 rcases A5 (L:=L) (a:=a) (n:=n) (m:=m) x with q|⟨q,_⟩|⟨k',j',e,_⟩
 .rw[q] at h;exact h.elim
 .rw[q] at h;exact h
 .rw[e];trivial
end
section
variable {C:bq} {P P₀:Pt} {g:Fm} {fs:List Fm} {L:Addr} {n:Nat} {m:Option Nat} {tl:av}
noncomputable def Pt.leave (P:Pt) (L:Addr) (n:Nat) (m:Option Nat) (tl:av) (fs:List Fm):Pt:={P with fs:=fs,own:=fun a=>pR L n m a (P.own a),σ:=P.σ.take n++tl}
theorem jK {α:Type} {l t:List α} {k n:Nat} (h:k<n) (hn:n<=l.length):(l.take n++t)[k]? =l[k]? :=by
 rw[OX (by rw[List.length_take,Nat.min_eq_left hn];exact h),List.getElem?_take_of_lt h]
theorem qy {α:Type} {l:List α} {x:α} {n:Nat} (hn:n<=l.length):(l.take n++[x])[n]? =some x:=by
 have e:(l.take n).length=n:=by rw[List.length_take,Nat.min_eq_left hn]
 rw[OA (O1 e),e,Nat.sub_self];rfl
def J8 (σ:av) (n:Nat) (m:Option Nat) (tl:av):Prop:=(m=none/\tl=[])∨∃ k o,m=some k/\n<=k/\σ[k]? =some o/\tl=[o]
theorem Bl {σ:av} (hn:n<=σ.length) (h:J8 σ n m tl) {k:Nat} {o:PO} (e:(σ.take n++tl)[k]? =some o):(k<n/\σ[k]? =some o)∨(k=n/\∃ k',m=some k'/\n<=k'/\σ[k']? =some o):=by
 rcases Nat.lt_or_ge k n with q|q
 .rw[jK q hn] at e;exact .inl ⟨q,e⟩
 .have el:(σ.take n).length=n:=by rw[List.length_take,Nat.min_eq_left hn]
  rw[OA (by rw[el];exact q),el] at e;rcases h with ⟨_,z⟩|⟨k',o',z1,z2,z3,z4⟩
  .rw[z] at e;cases e
  .rw[z4] at e;cases hk:k - n with
   |succ x=>rw[hk] at e;cases e
   |zero=>
    rw[hk] at e;cases e;exact .inr ⟨by exact Nat.le_antisymm (Nat.sub_eq_zero_iff_le.mp hk) q,k',z1,z2,z3⟩
theorem aE.leave (I:aE C P) (hf:P.fs=g::fs) (hn:n<=P.σ.length) (ht:J8 P.σ n m tl):aE C (P.leave g.L n m tl fs):=by
 have ord:=I.fr.ord;rw[hf] at ord;obtain ⟨o1,o2⟩:=List.pairwise_cons.mp ord;have lt:∀ k∈fs,∀ b∈k.adr,pR g.L n m b .fr= .fr:=fun k hk b hb=>if_neg (Nat.not_le.mpr (o1 k hk b hb));have fz:Fz P.own (P.leave g.L n m tl fs).own:=fun b o e=>by show pR g.L n m b (P.own b)=_;rw[e];rfl
 refine ⟨fun b o e=>⟨(I.base b o e).1,?_⟩,fun b o e=>I.fz b o (Fg e cx.noConfusion fun _=>cx.noConfusion).1,fun b e=>I.live b fun q=>e ?_,⟨fun f h=> ?_,fun f h c hc=> ?_,o2,fun b e=> ?_⟩,I.gh.mv fz fun b o e q=>⟨?_,q⟩,fun a b k j e f=> ?_,fun a k j e=> ?_,fun k o e=> ?_⟩
 .show pR g.L n m b (P.own b)=_;rw[(I.base b o e).2];rfl
 .show pR g.L n m b (P.own b)=_;rw[q];rfl
 .obtain ⟨x,y,z⟩:=I.fr.ns f (by rw[hf];exact .tail _ h);exact ⟨x,by show pR g.L n m f.L (P.own f.L)=_;rw[y];exact lt f h _ (.head _),z⟩
 .obtain ⟨x,y,z⟩:=I.fr.cl f (by rw[hf];exact .tail _ h) c hc;exact ⟨x,by show pR g.L n m c (P.own c)=_;rw[y];exact lt f h _ (.tail _ hc),z⟩
 .obtain ⟨x,y,_⟩:=Fg e cx.noConfusion fun _=>cx.noConfusion;obtain ⟨f,h,z⟩:=I.fr.all b x;rw[hf] at h;rcases Oe.mp h with q|q
  .subst q;have lb:=y x;rcases Oe.mp z with z|z
   .rw[z] at lb;exact absurd lb (OU _)
   .exact absurd (O7 lb (I.fr.cl f (by rw[hf];exact .head _) b z).2.2) (OU _)
  .exact ⟨f,q,z⟩
 .show pR g.L n m b (P.own b)=_;rw[e];rfl
 .rcases gC e with ⟨e1,e2⟩|⟨e1,k1,e2,e3,e4⟩<;>rcases gC f with ⟨f1,f2⟩|⟨f1,k2,f2,f3,f4⟩
  .exact I.one a b k j e1 f1
  .exact absurd f1 (Nat.ne_of_lt e2)
  .exact absurd e1 (Nat.ne_of_lt f2)
  .rw[e2] at f2;cases f2;exact I.one a b k1 j e4 f4
 .rcases gC e with ⟨e1,e2⟩|⟨e1,k1,e2,e3,e4⟩
  .obtain ⟨o,h1,h2⟩:=I.bd a k j e1;exact ⟨o,by show (P.σ.take n++tl)[k]? =_;rw[jK e2 hn];exact h1,h2⟩
  .obtain ⟨o,h1,h2⟩:=I.bd a k1 j e4;rcases ht with ⟨z,_⟩|⟨k',o',z1,z2,z3,z4⟩
   .rw[z] at e2;cases e2
   .rw[z1] at e2;cases e2;rw[h1] at z3;cases z3;exact ⟨o,by show (P.σ.take n++tl)[k]? =_;rw[e1,z4];exact qy hn,h2⟩
 .rcases Bl hn ht e with ⟨e1,e2⟩|⟨e1,k',e2,e3,e4⟩
  .exact (I.obj k o e2).mv fz fun b j o e q=>⟨by show pR g.L n m b (P.own b)=_;rw[e];exact if_pos e1,q⟩
  .subst e1;exact (I.obj k' o e4).mv fz fun b j o e q=>⟨by show pR g.L k m b (P.own b)=_;rw[e];exact (if_neg (Pb.mpr e3)).trans (if_pos e2),q⟩
theorem bv.leave (x:Ext P₀ P) (hn:P₀.σ.length<=P.σ.length):bv P₀ (P.leave L P₀.σ.length m tl P₀.fs):=by
 refine ⟨⟨x.sm,x.G,fun b o e=>by show pR L _ m b (P.own b)=_;rw[x.fz b o e];rfl,fun k j v=> ?_,fun k j a v e=> ?_⟩,rfl⟩
 .obtain ⟨o,h1,h2⟩:=x.val k j v;exact ⟨o,by show (P.σ.take _++tl)[k]? =_;rw[jK v.lt hn];exact h1,h2⟩
 .rcases gC e with ⟨e1,_⟩|⟨e1,_⟩
  .exact x.cell k j a v e1
  .exact absurd v.lt (by rw[e1];exact OU _)
theorem Ext.len (x:Ext P₀ P):P₀.σ.length<=P.σ.length:=by
 cases h:P₀.σ.length with
 |zero=>exact OG _
 |succ k=>
  have hk:k<P₀.σ.length:=by rw[h];exact Nat.lt_succ_self k
  have v:∃ j,cO P₀.σ k j:=by
   cases q:P₀.σ[k] with
   |fld f=>exact ⟨0,_,Oh hk,by rw[q];rfl⟩
   |rcd b l=>exact ⟨0,_,Oh hk,by rw[q];exact Nat.succ_pos _⟩
   |dead=>exact ⟨0,_,Oh hk,by rw[q];trivial⟩
   |wrp f=>exact ⟨0,_,Oh hk,by rw[q];exact Nat.zero_lt_succ _⟩
  obtain ⟨j,v⟩:=v;exact (x.val k j v).lt
theorem sA.leave {A:Around} {ls:List Env} {e:Addr} {c:Nat} (hA:A.frames=some ls):qq C P ls e c->sA C A (P.leave L n m tl fs) c (.ref e):=fun h=>by
 obtain ⟨B,k1,k2,k3,k4,k5,k6⟩:=h;exact .mk hA ⟨B,k1,k2,k3,k4,fun b o q=>k5 b o (DP q),k6⟩
def eK (K:R PV->av->Prop) (keep:Bool) (n:Nat):Out->av->Prop
 | .next _,σ=>K (.ok (.d .none)) (σ.take n)
 | .ret v,σ=>Wp K (FW keep n v σ)
 | .ex c _,σ=>K (.ex c) (σ.take n)
theorem FD {K:R PV->av->Prop} {keep:Bool}:∀ {z:Option (Out×av)},Wp K (BQ keep n z)->hW (eK K keep n) z
 |none,h=>h
 |some (.next _,_),h=>h
 |some (.ret _,_),h=>h
 |some (.ex _ _,_),h=>h
theorem Az {K:R PV->av->Prop} {n:Nat} {σ:av} {x:D} {o:PO} (w:Wp K (Dp n σ x (some o))):∃ l,o= .rcd true l/\Wp K (some (.ok (.b n x),σ.take n++[.rcd true l])):=by
 cases o with
 |rcd c l=>
  cases c with
  |true=>exact ⟨l,rfl,w⟩
  |false=>exact w.elim
 |_=>exact w.elim
theorem Ay {K:R PV->av->Prop} {keep:Bool} {n j:Nat} {σ:av} {o:PO} (w:Wp K (u8 keep n σ j (some o))):j=0/\(Wp K (some (.ok (.p n 0),σ.take n++[o]))∨∃ f,o= .fld f/\((∃ z,f= .d z)∨∃ z,f.rd=some z/\Wp K (some (.ok (.d z),σ.take n)))):=by
 cases j with
 |succ _=>exact w.elim
 |zero=>
 refine ⟨rfl,?_⟩;cases o with
 |fld f=>
  cases keep with
  |true=>exact .inl w
  |false=>
   refine .inr ⟨f,rfl,?_⟩;cases f with
   |d z=>exact .inl ⟨z,rfl⟩
   |list l=>exact .inr ⟨_,rfl,w⟩
   |dict a b=>exact .inr ⟨_,rfl,w⟩
 |rcd b l=>cases keep<;>exact .inl w
 |dead=>cases keep<;>exact .inl w
 |wrp f=>cases keep<;>exact .inl w
theorem u7 {K:R PV->av->Prop} {keep:Bool} {p:PV} {v:Value} {Q:Value->Shared->Prop} (I:aE C P) (x:Ext P₀ P) (hf:P.fs=g::P₀.fs) (r:RV C P v p) (w:Wp K (FW keep P₀.σ.length p P.σ)) (k:∀ p P',bv P₀ P'->aE C P'->RV C P' v p->K (.ok p) P'.σ->Q v P'.s):Q v P.s:=by
 have hn:=x.len;have nil:∀ σ:av,σ.take P₀.σ.length++[]=σ.take P₀.σ.length:=fun σ=>List.append_nil _;cases p with
 |d z=>exact k (.d z) (P.leave g.L P₀.σ.length none [] P₀.fs) (.leave x hn) (I.leave hf hn (.inl ⟨rfl,rfl⟩)) (RD.ext (fun b o e=>by show pR g.L _ none b (P.own b)=_;rw[e];rfl) r) (by show K _ (P.σ.take _++[]);rw[nil];exact w)
 |b m y=>
  have fz:Fz P.own (P.leave g.L P₀.σ.length (some m) [] P₀.fs).own:=fun b o e=>by show pR g.L _ (some m) b (P.own b)=_;rw[e];rfl
  by_cases q:m<P₀.σ.length
  .have w:Wp K (if m<P₀.σ.length then none else Dp P₀.σ.length P.σ y P.σ[m]?):=w;rw[if_pos q] at w;exact w.elim
  .have q:=Nat.le_of_not_lt q;have w:Wp K (if m<P₀.σ.length then none else Dp P₀.σ.length P.σ y P.σ[m]?):=w;rw[if_neg (Pb.mpr q)] at w;obtain ⟨⟨o,h1,h2⟩,t,u,z,k',e,f,gg,r⟩:=r;rw[h1] at w;obtain ⟨l,rfl,w2⟩:=Az w;refine k (.b P₀.σ.length y) (P.leave g.L P₀.σ.length (some m) [.rcd true l] P₀.fs) (.leave x hn) (I.leave hf hn (.inr ⟨m,_,rfl,q,h1,rfl⟩)) ⟨⟨_,qy hn,h2⟩,t,u,z,k',e,fz _ _ f,fun a e'=> ?_,RD.ext fz r⟩ w2;rcases gC e' with ⟨_,e1⟩|⟨_,k'',e1,_,e2⟩
   .exact absurd e1 (OU _)
   .cases e1;exact gg a e2
 |p m j=>
  by_cases q:m<P₀.σ.length
  .have w:Wp K (if m<P₀.σ.length then some (.ok (.p m j),P.σ.take P₀.σ.length) else _):=w;rw[if_pos q] at w;refine k (.p m j) (P.leave g.L P₀.σ.length none [] P₀.fs) (.leave x hn) (I.leave hf hn (.inl ⟨rfl,rfl⟩)) ⟨?_,fun a e=> ?_⟩ (by show K _ (P.σ.take _++[]);rw[nil];exact w)
   .obtain ⟨o,h1,h2⟩:=r.1;exact ⟨o,by show (P.σ.take _++[])[m]? =_;rw[jK q hn];exact h1,h2⟩
   .rcases gC e with ⟨e1,_⟩|⟨e1,_⟩
    .exact r.2 a e1
    .omega
  .have q:=Nat.le_of_not_lt q;have w:Wp K (if m<P₀.σ.length then some (.ok (.p m j),P.σ.take P₀.σ.length) else u8 keep P₀.σ.length P.σ j P.σ[m]?):=w;rw[if_neg (Pb.mpr q)] at w;obtain ⟨o,h1,h2⟩:=r.1;rw[h1] at w;obtain ⟨j0,w2|⟨f,e1,⟨z,e2⟩|⟨z,e2,w2⟩⟩⟩:=Ay w
   .subst j0;refine k (.p P₀.σ.length 0) (P.leave g.L P₀.σ.length (some m) [o] P₀.fs) (.leave x hn) (I.leave hf hn (.inr ⟨m,o,rfl,q,h1,rfl⟩)) ⟨⟨o,qy hn,h2⟩,fun a e=> ?_⟩ w2;rcases gC e with ⟨_,e1⟩|⟨_,k',e1,_,e2⟩
    .exact absurd e1 (OU _)
    .cases e1;exact r.2 a e2
   .rw[e1,e2] at h1;obtain ⟨_,_,_,h⟩:∃ v,iK C P.own P.h m 0 (.d z) v:=I.obj m _ h1;exact h.elim
   .subst e1;subst j0;have e4:vX (.p m 0) P.σ=some (.d z,P.σ.set m .dead):=by
     show (((P.σ[m]?).bind fun o=>o.at 0).bind fun f=>f.rd.map fun x=>(PV.d x,P.σ.set m PO.dead))=_;rw[h1];show (f.rd.map fun x=>(PV.d x,P.σ.set m PO.dead))=_;rw[e2];rfl
    obtain ⟨P',g',I',e5,e6,kk⟩:=Bs I e4;have x':=x.trans g'.toExt;rw[<-e6];refine k (.d z) (P'.leave g.L P₀.σ.length none [] P₀.fs) (.leave x' x'.len) (I'.leave (g'.fs.trans hf) x'.len (.inl ⟨rfl,rfl⟩)) (RD.ext (fun b o e=>by show pR g.L _ none b (P'.own b)=_;rw[e];rfl) (kk v r)) ?_;show K _ (P'.σ.take _++[]);rw[nil,e5,List.take_set_of_le q];exact w2
end
theorem g6 {α:Type}:∀ {ns:List Str} {vs:List α} {n:Str},n∈ns->ns.length=vs.length->((ns.zip vs).lookup n).isSome=true
 |[],_,_,h,_=>nomatch h
 |a::r,[],_,_,h=>by simp at h
 |a::r,v::vs,n,h,hl=>by
  rw[List.zip_cons_cons,List.lookup_cons];cases e:n==a with
  |true=>rfl
  |false=>
   refine g6 ?_ (by simpa using hl);rcases Oe.mp h with q|q
   .subst q;simp at e
   .exact q
theorem kX {α β:Type} {f g:α->Option β}:∀ {l:List α},(∀ x∈l,f x=g x)->l.filterMap f=l.filterMap g:=by
 intro l
 induction l with
 |nil=>
  intro _;exact rfl
 |cons a r ih=>
  intro h;rw[List.filterMap_cons,List.filterMap_cons,h a (.head _),ih fun x hx=>h x (.tail _ hx)]
theorem jh {α:Type}:∀ {ns:List Str} {vs:List α},ns.Nodup->ns.length=vs.length->ns.filterMap (fun n=>((ns.zip vs).lookup n).map (n,·))=ns.zip vs
 |[],_,_,_=>by simp
 |a::r,[],_,h=>by simp at h
 |a::r,v::vs,hn,hl=>by
  rw[List.filterMap_cons];have h0:(((a::r).zip (v::vs)).lookup a).map (a,·)=some (a,v):=by simp [List.lookup_cons]
  rw[h0];simp only [List.zip_cons_cons];congr 1;rw[kX (g:=fun n=>((r.zip vs).lookup n).map (n,·)) fun n hnr=> ?_]
  .exact jh (OW.mp hn).2 (by simpa using hl)
  .rw[List.lookup_cons];have:(n==a)=false:=beq_eq_false_iff_ne.mpr fun e=>(OW.mp hn).1 (e ▸ hnr);rw[this]
theorem M9 {α β γ:Type} {l:List α} {b:β} {f:α->β->Sem (ForInStep β)} {g:β->Sem γ} (h:l=[]):(forIn l b f>>=g)=g b:=by subst h;rfl
theorem kg {fd:FuncData} {vals:List Value} {names:List Str} (h1:fd.params.posonlyargs=[]) (h2:fd.params.kwonlyargs=[]) (h3:fd.params.vararg=none) (h4:fd.params.kwarg=none) (h5:fd.params.args.map (·.arg)=names)
  (h6:fd.defaults= .none) (hl:names.length=vals.length) (hn:names.Nodup):bindArgs fd ⟨vals,[]⟩=pure (names.zip vals):=by
 obtain ⟨f1,f2,⟨p1,p2,p3,p4,p5,p6,p7⟩,f4,f5,f6,f7,f8,f9,f10,f11,f12,f13,f14,f15⟩:=fd;dsimp only at h1 h2 h3 h4 h5 h6;subst h1 h2 h3 h4 h5 h6;have hm:((p2.map (·.arg)).take ((p2.map (·.arg)).length - ([]:List Value).length)).filter (fun n=>(((p2.map (·.arg)).zip vals).lookup n).isNone)=[]:=by
  rw[O2,Nat.sub_zero,List.take_length];refine List.filter_eq_nil_iff.mpr fun n hnm=> ?_;have:=g6 hnm hl;cases e:((p2.map (·.arg)).zip vals).lookup n with
  |none=>rw[e] at this;cases this
  |some=>exact OB
 have hd:([]:List Value).drop (([]:List Value).length - (p2.map (·.arg)).length)=[]:=List.drop_nil;refine (if_neg ?_).trans ?_
 .show¬(decide (vals.length>(p2.map (·.arg)).length)&&true)=true;rw[hl,O3 (OU _)];exact OB
 refine (if_neg ?_).trans ?_
 .show¬(!(((p2.map (·.arg)).take ((p2.map (·.arg)).length - (([]:List Value).drop (([]:List Value).length - (p2.map (·.arg)).length)).length)).filter fun n=>(((p2.map (·.arg)).zip vals).lookup n).isNone).isEmpty)=true;rw[hd,hm];exact OB
 refine (M9 ?_).trans ?_
 .show ((p2.map (·.arg)).drop _).zip (([]:List Value).drop (([]:List Value).length - (p2.map (·.arg)).length))=[];rw[hd,List.zip_nil_right]
 show (pure (((p2.map (fun x:Arg=>x.arg))++[]).filterMap fun n=>(((p2.map (fun x:Arg=>x.arg)).zip vals).lookup n).map (n,·)):Sem _)=_;rw[List.append_nil,jh hn hl]
theorem s7 {α:Type} [BEq α] [LawfulBEq α]:∀ {l:List α},nj l=true->l.Nodup:=by
 intro l
 induction l with
 |nil=>
  intro _;exact OZ
 |cons a r ih=>
  intro h;have h:(!r.contains a&&nj r)=true:=h;simp only [Bool.and_eq_true,Bool.not_eq_true'] at h;exact OW.mpr ⟨fun q=>by rw[List.contains_iff_mem.mpr q] at h;exact absurd h.1 (by simp),ih h.2⟩
theorem Bq:∀ {Γ:CD},(Γ.map (·.2)).Nodup->NO Γ
 |[],_=>fun x y i h=>by cases h
 |(a,j)::r,hn=>fun x y i h1 h2=>by
  have ih:=Bq (OW.mp hn).2;have hj:∀ z,r.lookup z≠some j:=fun z q=>(OW.mp hn).1 (Ot.mpr ⟨(z,j),PySem.mem_of_lookup q,rfl⟩);rw[List.lookup_cons] at h1 h2;cases e1:x==a<;>cases e2:y==a<;>rw[e1] at h1<;>rw[e2] at h2
  .exact ih x y i h1 h2
  .cases h2;exact absurd h1 (hj x)
  .cases h1;exact absurd h2 (hj y)
  .rw[beq_iff_eq.mp e1,beq_iff_eq.mp e2]
noncomputable def Ko (Γ:CD) (sc:Scope):Nat->List Arg->Bool
 |_,[]=>true
 |k,a::r=>Γ.lookup a.arg==some k&&fG sc a.arg&&Ko Γ sc (k+1) r
structure mt where
 id:Nat
 nm:Str
 mth:Bool
 Γ:CD
 params:Nat
 slots:Nat
 keep:Bool
 body:CS
noncomputable def mt.pf (r:mt):PF:=⟨r.params,r.slots,r.keep,r.body.ex⟩
noncomputable def Kp (s:Sx) (r:mt) (ps:Arguments) (body:List Stmt):Bool:=
 ps.posonlyargs.isEmpty&&ps.kwonlyargs.isEmpty&&ps.vararg.isNone&&ps.kwarg.isNone&&ps.args.length==r.params&&Ko r.Γ s.sc 0 ps.args&&nj (ps.args.map (·.arg))&&
 nj (r.Γ.map (·.2))&&s.sc.kind== .function&& !s.sc.isCoroutine&& !s.sc.isGenerator&&r.body.is s body
noncomputable def xu (a:Addr):Value->Bool
 | .ref b=>b==a
 |_=>false
theorem Bo {a:Addr} {v:Value} (h:xu a v=true):v= .ref a:=by
 cases v<;>first|exact congrArg Value.ref (bu h)|cases h
noncomputable def zj (l:Option uH) (cd:Value) (q:Str):Option uH:=l.bind fun z=>if (xu z.c cd&&(q++".<locals>."++"<lambda>"==z.qual))=true then some z else none
theorem zi {l:Option uH} {cd:Value} {q:Str} {z:uH} (h:zj l cd q=some z):l=some z/\cd= .ref z.c/\q++".<locals>."++"<lambda>"=z.qual:=by
 cases l with
 |none=>cases h
 |some y=>
  have h:(if (xu y.c cd&&(q++".<locals>."++"<lambda>"==y.qual))=true then some y else none)=some z:=h;by_cases k:(xu y.c cd&&(q++".<locals>."++"<lambda>"==y.qual))=true
  .rw[if_pos k] at h;cases h;exact ⟨rfl,Bo (ah k),bu (ak k)⟩
  .rw[if_neg k] at h;cases h
def Ng (C:bq) (r:mt) (a:Addr):Prop:=∃ o fd body,C.H.get? a=some o/\o.data= .func fd/\C.H.CodeRec fd.code fd.qualname/\fd.body= .stmts body/\fd.closure=[]/\fd.globals=mainGlobals/\fd.builtins=builtinsNs/\fd.defaults= .none/\
 Kp ⟨C.fnm,C.att,C.key,C.gls,fd.scope,r.Γ,zj C.lam fd.code fd.qualname⟩ r fd.params body=true
def wF (C:bq):Prop:=∀ f pf,C.T f=some pf->∃ r:mt,pf=r.pf/\Ng C r (C.fadr f)
theorem qg {kindOf:Str->Option NameKind}:∀ {ns:List Str} {vs:List Value} {m:Str->Option Value} {k:Nat} {x:Str} {v:Value},ns.Nodup->ns[k]? =some x->vs[k]? =some v->kindOf x=some .local->bindL kindOf (ns.zip vs) m x=some v
 |[],_,_,_,_,_,_,h,_,_=>by simp at h
 |a::r,[],_,_,_,_,_,_,h,_=>by simp at h
 |a::r,u::vs,m,k,x,v,hn,h1,h2,hk=>by
  rw[List.zip_cons_cons,bindL];cases k with
  |zero=>
   simp at h1 h2;subst h1;subst h2;rw[if_pos hk];have keep:∀ (l:List (Str×Value)) (m:Str->Option Value),a∉l.map (·.1)->bindL kindOf l m a=m a:=by
    intro l
    induction l with
    |nil=>intro m _;rfl
    |cons p l ih=>
     intro m hm;obtain ⟨n,w⟩:=p;rw[bindL,ih _ fun q=>hm (.tail _ q)];split
     .exact if_neg (fun e:a=n=>hm (by rw[e];exact .head _))
     .rfl
   rw[keep _ _ fun q=>(OW.mp hn).1 (by
    obtain ⟨p,hp,e⟩:=Ot.mp q;exact e ▸ (List.of_mem_zip hp).1)]
   simp
  |succ k=>exact qg (OW.mp hn).2 (by simpa using h1) (by simpa using h2) hk
theorem qi {kindOf:Str->Option NameKind}:∀ {ns:List Str} {vs:List Value} {m:Str->Option Value} {k:Nat} {x:Str} {v:Value},ns.Nodup->ns[k]? =some x->vs[k]? =some v->kindOf x=some .cell->bindC kindOf (ns.zip vs) m x=some v
 |[],_,_,_,_,_,_,h,_,_=>by simp at h
 |a::r,[],_,_,_,_,_,_,h,_=>by simp at h
 |a::r,u::vs,m,k,x,v,hn,h1,h2,hk=>by
  rw[List.zip_cons_cons,bindC];cases k with
  |zero=>
   simp at h1 h2;subst h1;subst h2;rw[if_neg (by rw[hk];decide)];have keep:∀ (l:List (Str×Value)) (m:Str->Option Value),a∉l.map (·.1)->bindC kindOf l m a=m a:=by
    intro l
    induction l with
    |nil=>intro m _;rfl
    |cons p l ih=>
     intro m hm;obtain ⟨n,w⟩:=p;rw[bindC,ih _ fun q=>hm (.tail _ q)];split
     .rfl
     .exact if_neg (fun e:a=n=>hm (by rw[e];exact .head _))
   rw[keep _ _ fun q=>(OW.mp hn).1 (by
    obtain ⟨p,hp,e⟩:=Ot.mp q;exact e ▸ (List.of_mem_zip hp).1)]
   simp
  |succ k=>exact qi (OW.mp hn).2 (by simpa using h1) (by simpa using h2) hk
theorem xw {Γ:CD} {sc:Scope}:∀ {l:List Arg} {k:Nat},Ko Γ sc k l=true->∀ j a,l[j]? =some a->Γ.lookup a.arg=some (k+j)/\fG sc a.arg=true:=by
 intro l
 induction l with
 |nil=>
  intro _ _ j a e;simp at e
 |cons b r ih=>
  intro k h j a e;have h:(Γ.lookup b.arg==some k&&fG sc b.arg&&Ko Γ sc (k+1) r)=true:=h;simp only [Bool.and_eq_true,beq_iff_eq] at h;cases j with
  |zero=>simp at e;subst e;exact h.1
  |succ j=>
   have:=ih h.2 j a (by simpa using e);rw[show k+1+j=k+(j+1) by exact Iv] at this;exact this
noncomputable def mP (cs:List (Str×Addr)):List Addr:=(cs.filter fun p=>cs.lookup p.1==some p.2).map (·.2)
noncomputable def BV (cs:List (Str×Addr)) (cm:Str->Option Value) (c:Addr):Option Value:=match cs.find? fun p=>p.2==c with
 |some p=>cm p.1
 |none=>none
theorem uq {cs:List (Str×Addr)} {cm:Str->Option Value} {x:Str} {c:Addr} (hp:cs.Pairwise fun x y=>x.2≠y.2) (h:cs.lookup x=some c):BV cs cm c=cm x:=by
 have hm:=PySem.mem_of_lookup h;unfold BV;cases e:cs.find? fun p=>p.2==c with
 |none=>exact absurd (List.find?_eq_none.mp e _ hm) (by simp)
 |some p=>
  have h1:=List.mem_of_find?_eq_some e;have h2:p.2=c:=by simpa using List.find?_some e
  rw[PySem.name_of_addr hp hm (n':=p.1) (by rw[<-h2];exact h1)]
theorem jI.length {C:bq} {P:Pt} {ps:List PV} {vs:List Value} (h:jI C P ps vs):vs.length=ps.length:=by
 induction h with
 |nil=>rfl
 |cons _ _ ih=>exact congrArg Nat.succ ih
theorem jI.get {C:bq} {P:Pt} {ps:List PV} {vs:List Value} (h:jI C P ps vs):∀ {k:Nat} {p:PV},ps[k]? =some p->∃ v,vs[k]? =some v/\RV C P v p:=by
 induction h with
 |nil=>exact fun e=>nomatch e
 |cons h _ ih=>
  intro k p e;cases k with
  |zero=>cases e;exact ⟨_,rfl,h⟩
  |succ k=>exact ih (k:=k) e
theorem zG {C:bq} {d:Nat} (G:eA C) (hF:wF C) (hS:sq C d):sq C (d+1):=by
 intro hd A P f args vs K Q E hfrs hX hdep huni hhnd I hargs w p;have w:Wp K ((match C.T f with
  |some pf=>FT ⟨jk C.T d,hd⟩ pf args
  |none=>fun _=>none) P.σ):=w
 cases hT:C.T f with
 |none=>rw[hT] at w;exact w.elim
 |some pf=>
 rw[hT] at w;obtain ⟨rw,hpf,o,fd,body,ho,hdata,hcd,hbody,hclo,hgl,hbl,hdf,hf⟩:=hF f pf hT;subst hpf;simp only [Kp,Bool.and_eq_true,beq_iff_eq,List.isEmpty_iff,Option.isNone_iff_eq_none,Bool.not_eq_true'] at hf;obtain ⟨⟨⟨⟨⟨⟨⟨⟨⟨⟨⟨p1,p2⟩,p3⟩,p4⟩,p5⟩,p6⟩,p7⟩,p8⟩,p9⟩,p10⟩,p11⟩,p12⟩:=hf;have w:Wp K (if args.length=rw.params then BQ rw.keep P.σ.length (rw.body.ex ⟨jk C.T d,hd⟩ (args.map some++List.replicate (rw.slots - rw.params) none) P.σ) else none):=w;by_cases hlen:args.length=rw.params
 case neg=>rw[if_neg hlen] at w;exact w.elim
 rw[if_pos hlen] at w;have base:∀ b o,C.H.get? b=some o->P.h.get? b=some o:=fun b o e=>(I.base b o e).1;have hvl:vs.length=args.length:=hargs.length;have hnm:(fd.params.args.map (·.arg)).length=vs.length:=by simp [p5,hvl,hlen]
 have hnd:=s7 p7;have hkinds:∀ x∈(fd.params.args.map (·.arg)).zip vs,fd.scope.names.lookup x.1=some .local∨fd.scope.names.lookup x.1=some .cell:=fun x hx=>by
  obtain ⟨a,ha,e⟩:=Ot.mp (List.of_mem_zip hx).1;obtain ⟨j,hj⟩:=List.mem_iff_getElem?.mp ha;have:=(xw p6 j a hj).2;rw[<-e]
  simpa [fG] using this
 refine (codeAny_call_cells (Lk hdep) (base _ _ ho) hdata (G.nolimit.keeps base) (hcd.keeps base) hbody (kg p1 p2 p3 p4 rfl hdf hnm hnd) hclo ?_ (fun s₁ x=> ?_) p10 p11 p9)
 .intro x hx;rcases hkinds x hx with h|h
  .exact .inl h
  .exact .inr ⟨h,PySem.W.cellsFrom_some _ _ _ (.inl h)⟩
 .generalize henv:callEnvC fd P.h.objs.size (C.fadr f)=env' at x ⊢;have e1:env'.locals=P.h.objs.size:=by rw[<-henv];rfl
  have e2:env'.frame=some P.h.objs.size:=by rw[<-henv];rfl
  have e3:env'.scope=fd.scope:=by rw[<-henv];rfl
  have e4:env'.globals=mainGlobals:=by rw[<-henv,<-hgl];rfl
  have e5:env'.builtins=builtinsNs:=by rw[<-henv,<-hbl];rfl
  have e6:env'.cells=cellsFrom (P.h.objs.size+1) fd.scope.names []:=by rw[<-henv];rfl
  obtain ⟨h₁,t₁,es⟩:=x.toInCall.same;generalize hg:(⟨P.h.objs.size,bindL env'.kindOf ((fd.params.args.map (·.arg)).zip vs) fun _=>none,mP env'.cells,BV env'.cells (bindC env'.kindOf ((fd.params.args.map (·.arg)).zip vs) fun _=>none)⟩:Fm)=g;have gL:g.L=P.h.objs.size:=by rw[<-hg]
  have gc:g.cells=mP env'.cells:=by rw[<-hg]
  have hcm:∀ c∈mP env'.cells,∃ y,env'.cells.lookup y=some c:=fun c hc=>by
   obtain ⟨p,hp,rfl⟩:=Ot.mp hc;exact ⟨p.1,by simpa using (List.mem_filter.mp hp).2⟩
  have hmc:∀ y c,env'.cells.lookup y=some c->c∈mP env'.cells:=fun y c hc=>Ot.mpr ⟨(y,c),List.mem_filter.mpr ⟨PySem.mem_of_lookup hc,by simpa using hc⟩,rfl⟩;have abv:∀ c∈g.cells,g.L<c:=fun c hc=>by
   rw[gc] at hc;obtain ⟨y,hy⟩:=hcm c hc;have:=x.above y c (PySem.mem_of_lookup hy);rw[gL,<-e1];exact this
  have eh:s₁.heap=h₁:=by rw[es]
  have J:aE C (P.enter h₁ t₁ g):=by
   refine I.enter hX (by rw[<-eh];exact x.toInCall.keep) (O1 gL.symm) (by rw[<-hg,<-eh];rw[e1] at x;exact x.toInCall.ns) fun c hc=>⟨?_,abv c hc⟩;have hc':=hc;rw[gc] at hc';obtain ⟨y,hy⟩:=hcm c hc';rw[<-hg,<-eh];show s₁.heap.IsCell c (BV _ _ c);rw[uq x.apart hy];exact x.cell y c hy
  have xE:Ext P (P.enter h₁ t₁ g):=.enter I fun b o e q=>by
   have lt:=OK e;rcases Oe.mp q with z|z
   .rw[z,gL] at lt;exact OU _ lt
   .have:=abv b z;rw[gL] at this;exact OU _ (O7 lt this)
  obtain ⟨ls,hls,hfr⟩:=hfrs;have hcell:∀ y,env'.kindOf y=some .cell->∃ c,env'.cells.lookup y=some c/\c∈g.cells:=fun y hy=>by
   have hk:fd.scope.names.lookup y=some .cell:=by rw[<-e3];exact hy
   have:=PySem.W.cellsFrom_some (x:=y) fd.scope.names (P.h.objs.size+1) [] (.inl hk);rw[<-e6] at this;obtain ⟨c,hc⟩:=Option.isSome_iff_exists.mp this;exact ⟨c,hc,gc ▸ hmc y c hc⟩
  have hinj:=Bq (s7 p8);have fr:(A.deeper env').frames=some (env'::ls):=by simp [Around.deeper,hls]
  let X:SX:={C:=C,A:=A.deeper env',env:=env',sc:=env'.scope,Γ:=rw.Γ,d:=d,hd:=hd,good:=G,calls:=hS,kinds:=fun y=>⟨id,fun h=>bu (ah h),fun h=>⟨h,(hcell y h).imp fun _ q=>q.1⟩⟩,kind:=(by rw[e3];exact p9),glob:=e4,blt:=e5,dep:=(by show A.depth+1+8*d+150<recursionLimit;exact Lj hdep),uni:=(by show A.units+3+64*d+1000<cLine;exact Li huni),hnd:=hhnd,lm:=zj C.lam fd.code fd.qualname,outer:=ls,L:=g.L,cs:=g.cells,fr:=fr,loc:=(by rw[gL];exact e1),frame:=(by rw[gL];exact e2),cell:=hcell,apart:=fun y z c h1 h2=>PySem.name_of_addr x.apart (PySem.mem_of_lookup h1) (PySem.mem_of_lookup h2),inj:=hinj,scE:=rfl,dep2:=(by show A.depth+1+8*d+151<recursionLimit;exact Lh hdep),uni2:=(by show A.units+3+64*d+1005<cLine;exact Lg huni),lmE:=fun l h=>(by obtain ⟨a,b,c⟩:=zi h;exact ⟨a,by rw[<-henv];exact b,by rw[<-henv];exact c⟩)}
  have hE:cc X (P.enter h₁ t₁ g) (args.map some++List.replicate (rw.slots - rw.params) none):=by
   refine ⟨⟨⟨env'::ls,fr,fun z hz=> ?_⟩,fun q=>(by cases q),fun y i p hy hm hp=> ?_⟩,⟨g,P.fs,rfl,rfl,rfl⟩⟩
   .rcases Oe.mp hz with q|hz
    .rw[q];exact ⟨by rw[e3,p9];decide,g,.head _,by rw[gL];exact e2⟩
    .obtain ⟨k,q,hq,e⟩:=hfr z hz;exact ⟨k,q,.tail _ hq,e⟩
   have hi:i<args.length:=by
    rcases Nat.lt_or_ge i args.length with h|h
    .exact h
    .rw[OA (by simpa using h)] at hp;obtain ⟨hh,e⟩:=Og.mp hp;rw[List.getElem_replicate] at e;cases e
   rw[OX (by simpa using hi),Ou] at hp;obtain ⟨q,hq,e⟩:=OY.mp hp;cases e;obtain ⟨v,hv,hr⟩:=hargs.get hq;have hi':i<fd.params.args.length:=by rw[p5];exact Ie hlen hi
   obtain ⟨a,ha⟩:∃ a,fd.params.args[i]? =some a:=⟨_,Oh hi'⟩;obtain ⟨h1,h2⟩:=xw p6 i a ha;rw[O4] at h1;have hya:=hinj _ _ _ hy h1;subst hya;have hn:(fd.params.args.map (·.arg))[i]? =some a.arg:=by rw[Ou,ha];rfl
   refine ⟨v,hr.ext xE,?_⟩;rw[fG,Bool.or_eq_true,beq_iff_eq,beq_iff_eq] at h2;have h2:env'.kindOf a.arg=some NameKind.«local»∨env'.kindOf a.arg=some .cell:=by unfold Env.kindOf;rw[e3];exact h2
   rcases h2 with h2|h2
   .exact .inl ⟨h2,g,.head _,gL.trans e1.symm,by rw[<-hg];exact qg hnd hn hv h2⟩
   .obtain ⟨c,hc,hcc⟩:=hcell _ h2;refine .inr ⟨.inl h2,c,hc,g,.head _,hcc,?_⟩;rw[<-hg];show BV _ _ c=_;rw[uq x.apart hc];exact qi hnd hn hv h2
  have eP:s₁=(P.enter h₁ t₁ g).s:=es;rw[eP];refine rw.body.ok X body _ (P.enter h₁ t₁ g) (eK K rw.keep P.σ.length) _ _ (by show rw.body.is ⟨C.fnm,C.att,C.key,C.gls,env'.scope,rw.Γ,zj C.lam fd.code fd.qualname⟩ body=true;rw[e3];exact p12) J hE (FD w) ⟨fun ρ P' gs I' G' k=> ?_,fun q v P' gs I' r k=> ?_,fun c ρ e P' gs I' xx G' k=> ?_⟩
  .obtain ⟨g',hf'⟩:∃ g',P'.fs=g'::P.fs:=by
    have:=gs.fs;generalize P'.fs=z at this;obtain ⟨_⟩:=this;exact ⟨_,rfl⟩
   exact u7 (keep:=rw.keep) (p:=.d .none) I' (xE.trans gs.toExt) hf' .none k fun p' P'' g2 I2 r2 k2=>p.ok p' _ P'' g2 I2 r2 k2
  .obtain ⟨g',hf'⟩:∃ g',P'.fs=g'::P.fs:=by
    have:=gs.fs;generalize P'.fs=z at this;obtain ⟨_⟩:=this;exact ⟨_,rfl⟩
   exact u7 I' (xE.trans gs.toExt) hf' r k fun p' P'' g2 I2 r2 k2=>p.ok p' v P'' g2 I2 r2 k2
  .obtain ⟨g',hf'⟩:∃ g',P'.fs=g'::P.fs:=by
    have:=gs.fs;generalize P'.fs=z at this;obtain ⟨_⟩:=this;exact ⟨_,rfl⟩
   obtain ⟨a1,a2⟩:=xx;rw[show X.A.frames=some (env'::ls) from fr] at a1;cases a1;refine zx fr e2 I' a2 fun h' I2 x2=> ?_;have y:=(xE.trans gs.toExt).trans (bv.to P' h' P'.s.toks).toExt;exact p.ex c _ ((P'.to h' P'.s.toks).leave g'.L P.σ.length none [] P.fs) (.leave y y.len) (I2.leave hf' y.len (.inl ⟨rfl,rfl⟩)) (sA.leave hls x2) (by show K _ (P'.σ.take _++[]);rw[List.append_nil];exact k)
theorem ql {C:bq} (G:eA C) (hF:wF C):∀ d,sq C d
 |0=>fun _ _ _ _ _ _ _ _ _ _ _ _ _ _ _ _ w=>w.elim
 |d+1=>zG G hF (ql G hF d)
section
open PySem.W PySem.Builtin PySem.Builtin.ObjectAttr PySem.Builtin.Getset_descriptor
variable {prog:Program} {w:World} {A:Around} {E:Value->Shared->Prop} {s:Shared} {K:Frag} {x D:Addr} {ox:Obj}
theorem zz {Q:Option Value->Shared->Prop} (X:K.In s.heap) (hk:wi K D=true) (ho:s.heap.get? x=some ox) (hc:ox.cls= .ref D) (h:Q (some (.ref D)) {s with toks:=s.toks+1}):wpAny (model prog w) A (getAttr? (.ref x) "__class__") Q E s:=by
 simp only [wi,Bool.and_eq_true,beq_iff_eq] at hk;obtain ⟨⟨⟨⟨⟨⟨⟨h1,h2⟩,h3⟩,h4⟩,h5⟩,h6⟩,h7⟩,h8⟩:=hk;obtain ⟨hh,g,d,t,os⟩:=s;have L0:Looks (model prog w) hh (typeOf (.ref x)) (.ref D):=hc ▸ (Looks.ld ho).andThen .now;have L1:=looks_findIn (M:=model prog w) X h1;have L2:=looks_findIn (M:=model prog w) X h2;have L3:Looks (model prog w) hh (find (.ref x) (.ref D) "__class__") (.bind (.builtin "getset_descriptor.__get__") (.builtin "object.__class__")):=
  (looks_findIn X h3).andThen ((looks_specialIn X h4:Looks _ _ (getOf (some (.builtin "object.__class__"))) _).andThen
   ((show Looks _ _ (dataDescriptor? (some (.builtin "object.__class__")) (some (.builtin "getset_descriptor.__get__"))) (some (.builtin "getset_descriptor.__get__",.builtin "object.__class__")) from (looks_takesIn X h5).andThen .now).andThen (Looks.tag .now)))
 have L6:=looks_mroIn (M:=model prog w) X h6;have L4:Looks (model prog w) hh (isInstance (.ref x) (.type "BaseException")) true:=L0.andThen (looks_mroIn X h7);unfold getAttr? getAttrBy? getAttrBy;refine Op (wpAny_mkText (Op (wpAny_attempt (wpAny_holding (Op (L0.at (Op (L1.at ?_))))))));dsimp only;have hx2:(Value.builtin "BaseException.__getattribute__"==Value.builtin "object.__getattribute__")=false:=by decide+kernel
 rw[if_neg (by rw[hx2,Bool.and_false];exact OB)];have f3:=F.attr_ValueError.ga.bind (.ref x);unfold getAttrByItsOwn hookBefore callGetattribute boundAndCalled;refine Op ?_;rw[if_pos (show onTheHeap (.ref D)=true from rfl)];refine L2.at ?_;refine Op (wpAny_attempt (wpAny_holding ?_));rw[if_neg (by rw[Bool.false_and];exact OB),f3];refine Op (Oq ?_);refine wpAny_call (codeAny_call_builtin F.attr_ValueError.ga.plain F.entry_bexc_ga ?_);have hk:builtinKind "BaseException.__getattribute__"=some .slot:=by decide+kernel
 have hsplit:splitId "BaseException.__getattribute__"=some ("BaseException","__getattribute__"):=by decide+kernel
 have ha:=F.args_bexc_ga (.ref x) (.str "__class__" t);simp only [checkBuiltinCall,hk,hsplit];refine Op (L4.at ?_);simp only [Bool.not_true,Bool.false_eq_true,if_false];refine wpAny_of_eq (a:=()) ha ?_;refine Op (Oq (Op (Oq (Op (L0.at (Op (L3.at ?_)))))));show wpAny _ _ (holding [.builtin "object.__class__"] (call (.builtin "getset_descriptor.__get__") [.builtin "object.__class__",.ref x,.ref D])>>=PySem.ret) _ _ _;refine Op (wpAny_holding (wpAny_call (codeAny_call_builtin KF.slot_gs.plain KF.entry_gs (KF.slot_gs.check _ _ _ _ _ _ _ _ KF.type_class (KF.args_gs _ _ _) ?_))));unfold Builtin.«getset_descriptor.__get__» descrGet;rw[dga_obj];refine Op (Oq ?_);unfold descrGetter descrCheckInstance descrNameAndClass isInstance;simp only [KF.owner_class]
 repeat lk
 refine ⟨Code.quiet_builtin _ (by decide+kernel),codeAny_builtin KF.entry_class ?_⟩;unfold Builtin.«object.__class__» shownTypeOf
 repeat lk
 exact h
theorem tY (hk:wi K D=true) (hc:ox.cls= .ref D):KitX K (.ref x) (.ref D) (fun h=>h.get? x=some ox) where
 ty:=fun _ _ _ I=>hc ▸ (Looks.ld I).andThen .now
 it:=fun _ _ X _=>by
  simp only [wi,Bool.and_eq_true] at hk;obtain ⟨cdD,hcD⟩:=Option.isSome_iff_exists.mp hk.2;unfold clsIn at hcD;split at hcD
  .rename_i c' d' cd' sl' ho
   intro A' Q' E' s' k q;unfold isType loadHead;exact Op (wpAny_loadPart (k _ _ (X _ _ ho)) (Oq q))
  .cases hcD
 ne:=fun h tp dd its n sl X htp=>by
  simp only [wi,Bool.and_eq_true] at hk;obtain ⟨cdD,hcD⟩:=Option.isSome_iff_exists.mp hk.2;refine Bool.eq_false_iff.mpr fun q=> ?_;have e:D=tp:=Value.ref.inj (beq_iff_eq.mp q);subst e;unfold clsIn at hcD;split at hcD
  .rename_i c' d' cd' sl' ho
   have z:=(X _ _ ho).symm.trans htp;cases z
  .cases hcD
 ca:=fun X I k=>zz X hk I hc k
end
structure TY where
 nm:Str
 val:bq->Value
 g:D->Option Bool
 mean:∀ {C:bq},eA C->C.mg nm=some (val C)∨(nm,val C)∈eX
 ok:∀ {C:bq} {A:Around} {P:Pt} {v:Value} {x:D} {b:Bool} {Q E:Value->Shared->Prop},eA C->aE C P->fx C P v x->g x=some b->(∀ t,Q (.bool b) {P.s with toks:=t})->wpAny C.M A (call (.builtin "isinstance") [v,val C]) Q E P.s
theorem DE {X:Cx} {P:Pt} {Q E:Value->Shared->Prop} (t:TY) {pos:Pos} (I:aE X.C P) (hw:dB X.sc t.nm=true) (h:Q (t.val X.C) P.s):wpAny X.M X.A (eval (.Name t.nm pos) X.env) Q E P.s:=by
 rcases t.mean X.good with q|q
 .exact du I hw q h
 .exact eS I hw q h
noncomputable def D0 (t:TY) (x:PV):PM PV:=fun σ=>(rd σ x).bind fun u=>(t.g u).map fun b=>(.ok (.d (.bool b)),σ)
theorem Fx {t:TY} {x:PV} {σ:av} {K:R PV->av->Prop} (w:Wp K (D0 t x σ)):∃ u b,rd σ x=some u/\t.g u=some b/\K (.ok (.d (.bool b))) σ:=by
 unfold D0 at w;cases e1:rd σ x with
 |none=>rw[e1] at w;exact w.elim
 |some u=>
  rw[e1,Od] at w;cases e2:t.g u with
  |none=>rw[e2] at w;exact w.elim
  |some b=>rw[e2] at w;exact ⟨u,b,rfl,e2,w⟩
theorem GI (t:TY) (a:CE) {X:Cx} {e:Expr} {ρ:a9} {P:Pt} {K:R PV->av->Prop} {Q E:Value->Shared->Prop} (h:dU (fun x es=>x==("isinstance":Str)&&dB X.sx.sc x&&HI (fun e y=>gA e&&a.is X.sx e&&cY (fun y _=>y==t.nm&&dB X.sx.sc y) y) es) e=true) (I:aE X.C P) (G:EnvOK X P ρ)
  (w:Wp K (bz (a.ev X.ker ρ) (D0 t) P.σ)) (p:bg X (RV X.C) P K Q E):wpAny X.M X.A (eval e X.env) Q E P.s:=
 dT (fun e=>wpAny X.M X.A (eval e X.env) Q E P.s) h fun x px es pos h=>by
  refine mU (fun es=>wpAny X.M X.A (eval (.Call (.Name x px) es [] pos) X.env) Q E P.s) (ak h) fun e y h2=> ?_;refine bY (fun y=>wpAny X.M X.A (eval (.Call (.Name x px) [e,y] [] pos) X.env) Q E P.s) (ak h2) fun y py h3=> ?_;have hw:=ak (ah h);have hy:=ak h3;rw[bu (ah h3)] at hy ⊢;rw[bu (ah (ah h))] at hw ⊢;have hst:starEach [e,.Name t.nm py] X.env=[(false,eval e X.env),(false,eval (.Name t.nm py) X.env)]:=by
   rw[cQ (ah (ah h2))];rfl
  have hpl:∀ x∈backTo pos (starEach [e,.Name t.nm py] X.env),x.1=false:=by
   rw[hst];intro x hx;rcases Oe.mp hx with q|q
   .rw[q]
   .rw[Oi.mp q]
  refine wpAny_Call_NameR (eS (v:=.builtin "isinstance") I hw (by decide+kernel) ?_);refine Calls.callWith_builtin (dW hpl) (cW hpl ?_);rw[hst];refine Calls.spliced_cons (a.ok X e ρ P _ _ E (ak (ah h2)) I G (aH w) (p.bind fun q v P1 g1 I1 r1 w p=> ?_));obtain ⟨u,b,e1,e2,k⟩:=Fx w;refine Calls.spliced_cons (DE t I1 hy (Calls.spliced_nil ?_));exact t.ok X.good I1 (bG I1 r1 e1) e2 fun tk=>(p.fin k).tok I1 (.bool b) tk
noncomputable def CJ (t:TY) (a:CE):CE:=⟨fun K ρ=>bz (a.ev K ρ) (D0 t),fun s=>dU fun x es=>x==("isinstance":Str)&&dB s.sc x&&HI (fun e y=>gA e&&a.is s e&&cY (fun y _=>y==t.nm&&dB s.sc y) y) es,fun _ _ _ _ _ _ _ h I G w p=>GI t a h I G w p⟩
noncomputable def JF:D->Option Bool
 | .int _=>some true
 |_=>none
noncomputable def FE:TY:=⟨"int",fun _=>.type "int",JF,fun _=>.inr (by decide+kernel),fun {C A P v x b Q E} _ I h e k=>by
 cases x with
 |int i=>cases e;obtain ⟨t,q⟩:=RD.view h;rw[q];exact IsiPair.int_int (k P.s.toks)
 |_=>cases e⟩
noncomputable def G0:D->Option Bool
 | .int _=>some false
 |_=>none
noncomputable def C2:TY:=⟨"bool",fun _=>.type "bool",G0,fun _=>.inr (by decide+kernel),fun {C A P v x b Q E} _ I h e k=>by
 cases x with
 |int i=>cases e;obtain ⟨t,q⟩:=RD.view h;rw[q];exact IsiPair.int_bool (k _)
 |_=>cases e⟩
noncomputable def Ec:D->Option Bool
 | .tup _=>some true
 |_=>none
noncomputable def mT:TY:=⟨"tuple",fun _=>.type "tuple",Ec,fun _=>.inr (by decide+kernel),fun {C A P v x b Q E} _ I h e k=>by
 cases x with
 |tup l=>cases e;obtain ⟨z,_⟩:=RD.view h;exact IsiPair.tuple_tuple (I.fz _ _ z) rfl (k P.s.toks)
 |_=>cases e⟩
noncomputable def GZ:D->Option Bool
 | .int _=>some false
 | .lst _=>some true
 |_=>none
noncomputable def qt:TY:=⟨"list",fun _=>.type "list",GZ,fun _=>.inr (by decide+kernel),fun {C A P v x b Q E} _ I h e k=>by
 cases x with
 |int i=>cases e;obtain ⟨t,q⟩:=RD.view h;rw[q];exact IsiPair.int_list (k _)
 |lst l=>cases e;obtain ⟨z,_,_⟩:gU C P l v:=h;exact IsiPair.list_list z rfl (k P.s.toks)
 |_=>cases e⟩
noncomputable def gX (k:Nat):D->Option Bool
 | .exc c=>aq (c<nX/\k<nX) (c==k||k==0)
 |_=>none
noncomputable def NW (k:Nat) (hk:k<nX):TY:=⟨gQ k,fun C=>.ref (C.exc k),gX k,fun G=>.inl (G.exc k hk).bound,fun {C A P v x b Q E} G I h e kk=>by
 cases x with
 |exc c=>
  obtain ⟨⟨h17,_⟩,q⟩:=d9 e;subst q;obtain @⟨a,o,z,hc⟩:E2 C P.own c v:=RD.view h;exact PySem.W.kia_one (tY (G.exk c h17) hc) (G.cls.X.keeps fun b o e=>(I.base b o e).1) (I.fz _ _ z) (G.kit c h17 k hk) (by simp) fun tk=>kk tk
 |_=>cases e⟩
noncomputable def gV:D->Option Bool
 | .exc c=>aq (c<nX) true
 |_=>none
noncomputable def NX:TY:=⟨"ValueError",fun _=>.type "ValueError",gV,fun _=>.inr (by decide+kernel),fun {C A P v x b Q E} G I h e kk=>by
 cases x with
 |exc c=>
  obtain ⟨h17,q⟩:=d9 e;subst q;obtain @⟨a,o,z,hc⟩:E2 C P.own c v:=RD.view h;exact PySem.W.kia_one (tY (G.exk c h17) hc) (G.cls.X.keeps fun b o e=>(I.base b o e).1) (I.fz _ _ z) (G.kitV c h17) (by simp) fun tk=>kk tk
 |_=>cases e⟩
section
variable {C:bq} {A:Around} {P:Pt} {K:R PV->av->Prop} {Q E:Value->Shared->Prop}
theorem GQ {u v:D} {x y:Value} {c:Bool} (G:eA C) (I:aE C P) (hu:fx C P x u) (hv:fx C P y v) (e:NL u v=some c) (k:mS C P (.bool c) Q):wpAny C.M A (compareOp .In x y) Q E P.s:=by
 cases v with
 |dct ks ps=>
  obtain ⟨hf,z⟩:=d9 e;subst z;obtain @⟨a,o,vs,h1,h2,h3,h4⟩:wG C P ks ps y:=hv;have hu:RD C P.own u x:=by
   cases u<;>first|exact hu|(cases hf;done)
  obtain ⟨d,l,i,hd,h5,e1,e2,h6,e3,h7,h8⟩:=rz h3 hu hf;subst e1;subst e2;subst e3
  letI:=d.dec
  have hl:=mF hd i h4;have ez:(valueAt l i).isSome=(dJ (d.toD i) (l.map fun p=>d.toD p.1) ps).isSome:=by
   revert hl
   cases dJ (d.toD i) (l.map fun p=>d.toD p.1) ps<;>cases valueAt l i<;>intro hl<;>first|rfl|exact hl.elim
  exact wpAny_in_of h7 (fB G I h2) (Heap.dictOf_iff.mpr ⟨o,h1,h5⟩).mapOf (k.tok I (by rw[ez];exact .bool _) _)
 |_=>cases e
end
noncomputable def JP:CO:=⟨.In,NL,fun G _ I a b e k=>GQ G I a b e k⟩
noncomputable def NJ:PV->PM PV:=fun x=>fun σ=>(rd σ x).bind fun u=>match u with
 | .dct ks vs=>(aq (ks.length<=100000/\ks.all ub=true) ()).bind fun _=>g8 (.fld (.dict ks vs)) σ
 |_=>none
theorem Jp {C:bq} {A:Around} {P:Pt} {K:R PV->av->Prop} {Q E:Value->Shared->Prop} {x:PV} {v:Value} (G:eA C) (I:aE C P) (r:RV C P v x) (w:Wp K (NJ x P.σ)) (p:dt C A (RV C) P K Q E):wpAny C.M A (call (.type "dict") [v]) Q E P.s:=by
 obtain ⟨u,e1,w⟩:=qr w;cases u with
 |dct ks ps=>
  obtain ⟨_,e2,w⟩:=qr w;have hl:=(d9 e2).1.1;have hf:=(d9 e2).1.2;obtain @⟨a,o,vs,h1,h2,h3,h4⟩:wG C P ks ps v:=bG I r e1;cases h3 with
  |pr xs es ep _ _ _ _ _ e _ hne=>
   cases xs with
   |nil=>exact absurd rfl hne
   |cons x xs=>rw[e] at hf;cases hf
  |mk d l hd h5 e3 e4 h6=>
  subst e3;subst e4
  letI:=d.dec
  refine kt_call_dict (fB G I h2) (Heap.dictOf_iff.mpr ⟨o,h1,h5⟩) (by rw[Oc] at hl;exact Om hl (by decide)) fun h' hd' hs=> ?_;obtain ⟨o',ho',hd'⟩:=Heap.dictOf_iff.mp hd';have n:sv C P h' P.h.objs.size o':=⟨fun b o e=>hs.extBut b o (Nat.ne_of_lt (OK e)) (Ol _ e),I.off (Oo _),I.out (Oo _),ho'⟩;exact p.make (f:=.dict (l.map fun q:d.K×Value=>d.toD q.1) ps) (t:=P.s.toks) I n ⟨_,.mk d l hd hd' rfl rfl h6,h4.ext (dg n.own)⟩ w
 |_=>exact w.elim
noncomputable def xQ:BF:=⟨"dict",.type "dict",by decide+kernel,fun _ ps=>match ps with
 |[x]=>NJ x
 |_=>fun _=>none,fun {C A P hd K ps vs Q E} G _ I r w p=>by
 match ps,r,w with
 |[x],r,w=>
  obtain ⟨r1,r2⟩:zT C P x [] vs:=r.view;rw[show _=[] from r2.view];exact Jp G I r1 w p
 |[],_,w=>exact w.elim
 |_::_::_,_,w=>exact w.elim⟩
noncomputable def yS:List Int->Option Int
 |[]=>none
 |a::r=>some (r.foldl max a)
noncomputable def nW:List D->Option (List Int)
 |[]=>some []
 |x::r=>(iD x).bind fun i=>(nW r).map (i::·)
theorem JA {C:bq} {w:bp} {x:D} {v:Value} {i:Int} (h:RD C w x v) (e:iD x=some i):∃ t,v= .int i t:=by
 cases x<;>first|(cases e;exact h.view)|(cases e;done)
theorem zo {C:bq} {w:bp}:∀ {l:List D} {vs:List Value} {ts:List Int},RDs C w l vs->nW l=some ts->IntsAre vs ts:=by
 intro l
 induction l with
 |nil=>
  intro vs ts h e;cases e;rw[show vs=[] from h.view];exact .nil
 |cons x l ih=>
  intro vs ts h e;obtain ⟨r1,r2⟩:eQ C w x l vs:=h.view;obtain ⟨s,e1,e⟩:=ao e;obtain ⟨ts',e2,rfl⟩:=aZ e;obtain ⟨t,q⟩:=JA r1 e1;rw[q];exact .cons _ t (ih r2 e2)
theorem Ef:∀ (r:List Int) (a:Int),(a<=r.foldl max a)/\(∀ b∈r,b<=r.foldl max a)/\(r.foldl max a=a∨r.foldl max a∈r):=by
 intro r
 induction r with
 |nil=>intro a;exact ⟨Int.le_refl _,de,.inl rfl⟩
 |cons b r ih=>
  intro a;obtain ⟨k1,k2,k3⟩:=ih (max a b);rw[List.foldl_cons];refine ⟨by omega,fun c hc=> ?_,?_⟩
  .rcases Oe.mp hc with rfl|hc
   .omega
   .exact k2 c hc
  .rcases k3 with k3|k3
   .rcases Int.le_total a b with q|q
    .right;rw[k3,show max a b=b by exact Int.max_eq_right q];exact .head _
    .left;exact k3.trans (Int.max_eq_left q)
   .exact .inr (.tail _ k3)
theorem s_ {l:List Int} {m:Int} (h:yS l=some m):m∈l/\∀ a∈l,a<=m:=by
 cases l with
 |nil=>cases h
 |cons a r=>
  cases h;obtain ⟨k1,k2,k3⟩:=Ef r a;refine ⟨?_,fun c hc=> ?_⟩
  .rcases k3 with k3|k3
   .rw[k3];exact .head _
   .exact .tail _ k3
  .rcases Oe.mp hc with rfl|hc
   .exact k1
   .exact k2 c hc
theorem xk {l:List Int} {m M:Int} (h:yS l=some m) (h1:M∈l) (h2:∀ a∈l,a<=M):M=m:=
 Int.le_antisymm ((s_ h).2 M h1) (h2 m (s_ h).1)
theorem Gk {C:bq} {A:Around} {P:Pt} {Q E:Value->Shared->Prop} {l:List D} {v:Value} {is:List Int} {m:Int} (I:aE C P) (hh:A.handled=none) (h:gU C P l v) (e2:nW l=some is) (e3:yS is=some m) (k:mS C P (.int m) Q):wpAny C.M A (call (.builtin "max") [v]) Q E P.s:=by
 obtain @⟨a,vs,q,g,_,hs⟩:=h;have hi:=zo hs e2;obtain ⟨xs,e⟩:=hi.allInts.items;have hns:is=xs.toList.map (·.1):=by rw[<-hi.numsOf,<-nums_intItems,<-e]
 have hsz:0<xs.size:=by
  rcases Nat.eq_zero_or_pos xs.size with q|q
  .rw[hns,Array.size_eq_zero_iff.mp q] at e3;cases e3
  .exact q
 have hl:P.h.IsList a (intItems xs):=e ▸ (⟨_,g,rfl,_,rfl⟩:P.h.IsList a vs.toArray);refine max_intList hh hl hsz fun v h' tk hv hk=> ?_;obtain ⟨t,rfl⟩:=intItems_at hv;obtain ⟨h1,h2⟩:=argBest_gt (numAt xs) (xs.size - 1);refine k.grown I hk ?_ _;have:=xk (M:=numAt xs (argBest (fun i j=>decide (numAt xs i>numAt xs j)) (xs.size - 1))) e3 ?_ fun a ha=> ?_
 .rw[<-this];exact .int _ _
 .rw[hns,numAt_eq];exact getD_mem (by rw[Oc,Array.length_toList];exact Nat.lt_of_le_pred hsz h1)
 .rw[hns] at ha;obtain ⟨j,hj,rfl⟩:=mem_getD ha;rw[Oc,Array.length_toList] at hj;rw[<-numAt_eq];exact h2 j (by exact Nat.le_sub_one_of_lt hj)
noncomputable def BE:BF:=⟨"max",.builtin "max",by decide+kernel,fun hd ps=>off hd (g1 (fun u=>(lD u).bind fun l=>(nW l).bind fun is=>(yS is).map .int) ps),fun {C A P hd K ps vs Q E} _ hh I r w p=>iz (fun vs=>wpAny C.M A (call (.builtin "max") vs) Q E P.s) I r (gx w).2 fun v u z h e k=>by
 obtain ⟨l,e1,e⟩:=ao e;obtain ⟨is,e2,e⟩:=ao e;obtain ⟨m,e3,rfl⟩:=aZ e;exact Gk I (hh (gx w).1) (fN e1 h) e2 e3 (p.fin k)⟩
noncomputable def n4:BF:=⟨"max",.builtin "max",by decide+kernel,fun hd ps=>off hd (g2 (fun u v=>(iD u).bind fun x=>(iD v).map fun y=>.int (max x y)) ps),fun {C A P hd K ps vs Q E} _ hh I r w p=>By (fun vs=>wpAny C.M A (call (.builtin "max") vs) Q E P.s) I r (gx w).2 fun vx vy u v z h1 h2 e k=>by
 obtain ⟨x,e1,e⟩:=ao e;obtain ⟨y,e2,rfl⟩:=aZ e;obtain ⟨t,q⟩:=dM e1 h1;obtain ⟨t',q'⟩:=dM e2 h2;rw[q,q'];refine max_two_ints (hh (gx w).1) fun h' tk kp=>(p.fin k).grown I kp ?_ _;by_cases hc:y>x
 .rw[if_pos hc,show max x y=y by exact Int.max_eq_right (O8 hc)];exact .int _ _
 .rw[if_neg hc,show max x y=x by exact Int.max_eq_left (Pc.mp hc)];exact .int _ _⟩
noncomputable def pY:BF:=⟨"min",.builtin "min",by decide+kernel,fun hd ps=>off hd (g2 (fun u v=>(iD u).bind fun x=>(iD v).map fun y=>.int (min x y)) ps),fun {C A P hd K ps vs Q E} _ hh I r w p=>By (fun vs=>wpAny C.M A (call (.builtin "min") vs) Q E P.s) I r (gx w).2 fun vx vy u v z h1 h2 e k=>by
 obtain ⟨x,e1,e⟩:=ao e;obtain ⟨y,e2,rfl⟩:=aZ e;obtain ⟨t,q⟩:=dM e1 h1;obtain ⟨t',q'⟩:=dM e2 h2;rw[q,q'];refine min_two_ints (hh (gx w).1) fun h' tk kp=>(p.fin k).grown I kp ?_ _;by_cases hc:y<x
 .rw[if_pos hc,show min x y=y by exact Int.min_eq_right (O8 hc)];exact .int _ _
 .rw[if_neg hc,show min x y=x by exact Int.min_eq_left (Pc.mp hc)];exact .int _ _⟩
noncomputable def Jq (a b:CE):CF:=⟨fun K ρ=>bz (a.ev K ρ) fun x=>bz (b.ev K ρ) fun y=>fun σ=>(((rd σ x).bind lD).bind fun l=>((rd σ y).bind lD).bind fun m=>aq (l.length+m.length<=dX) (l++m)).map fun z=>(.ok z,σ),fun s=>kx fun l op r _=>op== .Add&&a.is s l&&b.is s r,
 fun X e ρ P K Q E h I G w p=>ku (fun e=>wpAny X.M X.A (eval e X.env) Q E P.s) h fun l op r pos h=>wpAny_BinOp (a.ok X l ρ P _ _ E (ak (ah h)) I G (aH w) (p.bind fun x v P1 g1 I1 r1 w p=>
  b.ok X r ρ P1 _ _ E (ak h) I1 (G.ext g1) (aH w) (p.bind fun y u P2 g2 I2 r2 w p=>by
   obtain ⟨z,e,k⟩:=gw w;obtain ⟨l1,e1,e⟩:=ao e;obtain ⟨l2,e2,e⟩:=ao e;obtain ⟨hm,rfl⟩:=d9 e;obtain ⟨u1,e3,e4⟩:=ao e1;obtain ⟨u2,e5,e6⟩:=ao e2;rw[bu (ah (ah h))];obtain @⟨a1,vs1,n1,g1',_,rr1⟩:=fN e4 (bG I2 (r1.ext g2.toExt) e3);obtain @⟨a2,vs2,n2,g2',_,rr2⟩:=fN e6 (bG I2 r2 e5);refine yd g1' g2' ?_ (by simpa [sizeLine,dX,rr1.length,rr2.length] using hm);have n:=I2.push (o:=aJ (vs1++vs2) 0) rfl;have eo:aJ (vs1++vs2) 0=({cls:=.type "list",data:=.seq (vs1.toArray++vs2.toArray)}:Obj):=by simp
   have:=p.ok (l1++l2) (.ref P2.h.objs.size) (P2.to (P2.h.push (aJ (vs1++vs2) 0)) P2.s.toks) (.to ..) (I2.to n.keep) (.mk ⟨fun _ _ e=>e,n.own,n.H,n.at_⟩ (rr1.append rr2)) k;rw[eo] at this;exact this)))⟩
structure FS where
 ev:cP->a9->List Nat->PM (List Nat)
 is:Sx->List Expr->Bool
 ok:∀ (X:Cx) (es:List Expr) (ρ:a9) (P:Pt) (acc:List Nat) (K:R (List Nat)->av->Prop) (Q E:Value->Shared->Prop),is X.sx es=true->aE X.C P->EnvOK X P ρ->oX acc->Wp K (ev X.ker ρ acc P.σ)->bg X (fun _ v t=>oX t/\∃ k,v=Value.str (fU t) k) P K Q E->wpAny X.M X.A (joinParts (fU acc) (evalEach es X.env)) Q E P.s
end Mine.Internal
namespace Mine.Internal
open PySem PyProof.Rows PySem.W
noncomputable def wO (l:List mt) (n:Nat):Option PF:=(l.find? fun r=>r.id==n).map (·.pf)
noncomputable def fA (r0:mt) (l:List mt) (n:Nat):mt:=(l.find? fun r=>r.id==n).getD r0
noncomputable def Gc (r0:mt) (l:List mt) (n:Nat):Str×Bool:=((fA r0 l n).nm,(fA r0 l n).mth)
noncomputable def gT:Nat->Str
 |0=>"home"|1=>"names"|2=>"told"|3=>"made"|4=>"gone"|5=>"ends"|6=>"deeds"|_=>"?"
theorem EO:∀ i,i<7->∀ k,k<7->gT i=gT k->i=k:=by decide+kernel
theorem xZ:∀ p∈eX,bootBuiltins p.1=some p.2/\p.1≠"__name__":=by
 have h:eX.all (fun p=>bootBuiltins p.1==some p.2&& !(p.1==("__name__":Str)))=true:=by kernel_rfl
 exact fun p hp=>⟨bu (ah (List.all_eq_true.mp h p hp)),fun q=>by have:=ak (List.all_eq_true.mp h p hp);rw[q,beq_self_eq_true] at this;cases this⟩
noncomputable def Fk (o:Obj):Bool:=match o.data with
 | .cls _=>true
 |_=>false
noncomputable def vc (o:Obj):Bool:= !(o.cls== .type "list")&& !(o.cls== .none)
noncomputable def Cw (t:BT) (n:Nat):Frag:=((List.range n).filterMap fun a=>((t.get a).bind alive).map fun o=>(a,o)).filter fun q=>vc q.2
noncomputable def v9 (t:BT) (n:Nat):Frag:=(Cw t n).filter (fun q=>Fk q.2)++(Cw t n).filter (fun q=> !Fk q.2)
theorem tW {α:Type} {K:List (Nat×α)} {a:Nat} {o:α} (h:K.lookup a=some o):(a,o)∈K:=by
 induction K with
 |nil=>cases h
 |cons q r ih=>
  rw[List.lookup_cons] at h;cases e:(a==q.1) with
  |true=>rw[e] at h;cases h;rw[beq_iff_eq.mp e];exact .head _
  |false=>rw[e] at h;exact .tail _ (ih h)
theorem Ee (t:BT) (n:Nat) (life:Life):(v9 t n).In (absHeap t n life):=fun a o e=>by
 have:=tW e;have hm:(a,o)∈Cw t n:=by
  rcases Ov.mp this with q|q<;>exact (List.mem_filter.mp q).1
 refine aW fun G9 k9=> ?_;obtain ⟨b,hb,e1⟩:=List.mem_filterMap.mp (List.mem_filter.mp hm).1;obtain ⟨o',ho,e'⟩:=OY.mp e1;refine k9 ?_;cases e';obtain ⟨o2,h1,h2⟩:=Option.bind_eq_some_iff.mp ho;rw[abs_get (List.mem_range.mp hb) h1];exact h2
noncomputable def EU (K:Frag) (x:Str):Addr:=match nsIn K mainGlobals x with
 |some (some (.ref a))=>a
 |_=>0
noncomputable def hO (K:Frag):Addr:=EU K "Book"
noncomputable def lO (K:Frag) (r:mt):Addr:=if r.mth then (match findIn K (.ref (hO K)) r.nm with
 |some (some (.ref a))=>a
 |_=>0) else EU K r.nm
noncomputable def gD (sp:Option (Str×Pos)) (K:Frag):Option uH:=sp.bind fun q=>(tabIn K q.1).map fun z=>⟨z.1,z.2,q.2,q.1++".<locals>."++"<lambda>"⟩
noncomputable def Fj (o:Obj):Bool:=o.cls== .none&&o.dict.isNone&&(match o.data with
 | .fields vs=>vs.isEmpty
 |_=>false)&&o.slots.isEmpty
theorem Bn {o:Obj} (h:Fj o=true):o=qz #[]:=by
 obtain ⟨cl,di,da,sl⟩:=o;have e1:cl= .none:=bu (ah (ah (ah h)));have e2:di=none:=Option.isNone_iff_eq_none.mp (ak (ah (ah h)));have e3:sl=#[]:=Array.isEmpty_iff.mp (ak h);have h:=ak (ah h);subst e1 e2 e3;cases da with
 |fields vs=>rw[Array.isEmpty_iff.mp h]
 |_=>cases h
noncomputable def uS (sp:Option (Str×Pos)) (K:Frag) (t:BT) (n:Nat):Bool:=(gD sp K).all fun l=>decide (l.P<n)&&((t.get l.P).bind alive).any Fj
def qp (sp:Option (Str×Pos)) (K:Frag) (h:Heap):Prop:=∀ l,gD sp K=some l->h.get? l.P=some (qz #[])
theorem C_ {sp:Option (Str×Pos)} {K:Frag} {t:BT} {n:Nat} (life:Life) (h:uS sp K t n=true):qp sp K (absHeap t n life):=fun l e=>by
 unfold uS at h;rw[e] at h;refine aW fun G9 k9=> ?_;obtain ⟨o,ho,k⟩:=any_some (ak h);obtain ⟨o2,h1,h2⟩:=Option.bind_eq_some_iff.mp ho;refine k9 ?_;rw[abs_get (OT (ah h)) h1,h2,Bn k]
noncomputable def G6 (K:Frag) (s:Scope->CD->Value->Str->Sx) (r:mt):Bool:=match K.lookup (lO K r) with
 |some ⟨cls,_,.func fd,_⟩=>cls== .type "function"&&codeIn K fd.code fd.qualname&&(match fd.body with
   | .stmts body=>Kp (s fd.scope r.Γ fd.code fd.qualname) r fd.params body
   |_=>false)&&fd.closure.isEmpty&&fd.globals==mainGlobals&&fd.builtins==builtinsNs&&fd.defaults== .none
 |_=>false
noncomputable def E9 (K:Frag) (s:Scope->CD->Value->Str->Sx) (r:mt):Bool:=G6 K s r&&(if r.mth then findIn K (.ref (hO K)) r.nm==some (some (.ref (lO K r)))&&(List.range 7).all (fun k=>gT k !=r.nm) else nsIn K mainGlobals r.nm==some (some (.ref (lO K r))))
noncomputable def JL (K:Frag) (f0:Addr):Bool:=(nsIn K mainGlobals "Book"==some (some (.ref (hO K)))&&(clsIn K (hO K)).any (·.hasDict)&&plainOver K (hO K)&&makesIn K (hO K)&&findIn K (.ref (hO K)) "__getattribute__"==some (some (.builtin "object.__getattribute__"))&&findIn K (.ref (hO K)) "__getattr__"==some none)&&
 (findIn K (.ref (hO K)) "__setattr__"==some (some (.builtin "object.__setattr__"))&&(List.range 7).all (fun k=>findIn K (.ref (hO K)) (gT k)==some none)&&findIn K (.ref (hO K)) "__init__"==some (some (.ref f0))&&typeIn K (.ref f0)==some (.type "function"))
noncomputable def JU:List Value:=[.type "ValueError",.type "Exception",.type "BaseException",.type "object"]
noncomputable def JH (K:Frag) (ea:Nat->Addr):Bool:=(List.range nX).all fun c=>(nsIn K mainGlobals (gQ c)==some (some (.ref (ea c)))&&excIn K (ea c) JU "ValueError.__new__"&&wi K (ea c)&&kitOne K (.ref (ea c)) (.type "ValueError")==some true)&&
 (List.range nX).all fun k=>kitOne K (.ref (ea c)) (.ref (ea k))==some (c==k||k==0)&&exmOne K (.ref (ea c)) (.ref (ea k))==some (c==k||k==0)
noncomputable def JG (K:Frag):Bool:=eX.all fun p=>nsIn K mainGlobals p.1==some none
noncomputable def NM (v:Value):Option Int×List Nat->Bool
 |(some i,_)=>(match v with
  | .int j _=>i==j
  |_=>false)
 |(none,l)=>(match v with
  | .str x _=>x.cps.toList==l&&H3 l
  |_=>false)
noncomputable def Oa (K:Frag) (gls:List (Str×(Option Int×List Nat))):Bool:=gls.all fun q=>match nsIn K mainGlobals q.1 with
 |some (some v)=>NM v q.2
 |_=>false
noncomputable def HC (sp:Option (Str×Pos)) (r0:mt) (dZ:List mt) (gls:List (Str×(Option Int×List Nat))) (key:Nat->Str) (K:Frag):Bool:=
 (K.lookup sysModules).isSome&&K.all (fun q=>vc q.2)&&JG K&&Oa K gls&&JH K (fun c=>EU K (gQ c))&&JL K (lO K (fA r0 dZ 0))&&(r0::dZ).all (E9 K fun sc Γ cd q=>⟨Gc r0 dZ,gT,key,gls,sc,Γ,zj (gD sp K) cd q⟩)&&(gD sp K).all (fun l=>codeHdIn K l.c l.P)
theorem yC {r0:mt} {dZ:List mt} (n:Nat):fA r0 dZ n∈r0::dZ:=by
 unfold fA;cases e:dZ.find? fun r=>r.id==n with
 |none=>exact .head _
 |some r=>exact .tail _ (List.mem_of_find?_eq_some e)
theorem GU {v:Value}:∀ {q:Option Int×List Nat},NM v q=true->GT v q
 |(some i,_),h=>by
  cases v<;>first|(cases h;done)|exact ⟨_,by rw[bu h]⟩
 |(none,l),h=>by
  cases v<;>first|(cases h;done)|skip
  rename_i x t
  refine ⟨AL (ak h),t,?_⟩;obtain ⟨⟨z⟩⟩:=x;rw[<-bu (ah h)]
theorem Eg {K:Frag} {sx:Scope->CD->Value->Str->Sx} {r:mt} {h:Heap} (X:K.In h) (e:G6 K sx r=true):typeIn K (.ref (lO K r))=some (.type "function")/\∃ o fd body,h.get? (lO K r)=some o/\o.data= .func fd/\h.CodeRec fd.code fd.qualname/\fd.body= .stmts body/\fd.closure=[]/\fd.globals=mainGlobals/\fd.builtins=builtinsNs/\fd.defaults= .none/\
  Kp (sx fd.scope r.Γ fd.code fd.qualname) r fd.params body=true:=by
 unfold G6 at e;split at e
 .rename_i cls dd fd sl ho
  simp only [Bool.and_eq_true,beq_iff_eq] at e;refine aW fun G9 k9=> ?_;obtain ⟨⟨⟨⟨⟨⟨e1,e2⟩,e3⟩,e4⟩,e5⟩,e6⟩,e7⟩:=e;refine k9 ?_;split at e3
  .rename_i body hb
   exact ⟨(by show (K.lookup (lO K r)).map (·.cls)=_;rw[ho,<-e1];rfl),_,fd,body,X _ _ ho,rfl,codeRec_of X e2,hb,List.isEmpty_iff.mp e4,e5,e6,e7,e3⟩
  .cases e3
 .cases e
noncomputable def oB (sp:Option (Str×Pos)) (scr:Addr) (K:Frag):List Addr:=scr::(gD sp K).toList.map (·.P)
noncomputable def B7 (prog:Program) (w:World) (s:Shared) (scr:Addr) (K:Frag) (mg mb:Str->Option Value) (sp:Option (Str×Pos)) (r0:mt) (dZ:List mt) (gls:List (Str×(Option Int×List Nat))) (key:Nat->Str):bq:=
 ⟨prog,w,cG s.heap (oB sp scr K),hO K,fun c=>EU K (gQ c),K,mg,mb,Gc r0 dZ,fun n=>lO K (fA r0 dZ n),gT,key,gls,wO dZ,gD sp K⟩
section
variable {p:Program} {loose:List Str} {mean:ExcName->Option Value} {mg mb:Str->Option Value} {prog:Program} {w:World} {s:Shared} {K:Frag} {sp:Option (Str×Pos)} {r0:mt} {dZ:List mt} {gls:List (Str×(Option Int×List Nat))} {key:Nat->Str} {scr:Addr} {o:Obj} {ws:List Addr}
def J7 (s:Shared) (ws:List Addr):Prop:=∀ a∈ws,∃ o,s.heap.get? a=some o/\vc o=false/\∀ es ep,o.data≠ .dict es ep
theorem Gq {vs:Array Value} {n:Nat} (ho:s.heap.get? scr=some o) (hc:o.cls= .type "list") (hd:o.data= .seq vs n) (TK:qp sp K s.heap):J7 s (oB sp scr K):=fun a ha=>by
 rcases Oe.mp ha with q|q
 .exact ⟨o,q ▸ ho,by unfold vc;rw[hc];rfl,fun es ep e=>by rw[hd] at e;cases e⟩
 .obtain ⟨l,hl,q⟩:=Ot.mp q;exact ⟨_,q ▸ TK l (Option.mem_toList.mp hl),rfl,fun es ep e=>by cases e⟩
theorem v5 {b:Addr} {x:Obj} (h:s.heap.get? b=some x) (ne:b∉ws):(cG s.heap ws).get? b=some x:=by
 rw[get?_without,if_neg ne];exact h
theorem H4 {b:Addr} {x:Obj} (h:(cG s.heap ws).get? b=some x):s.heap.get? b=some x/\b∉ws:=by
 rw[get?_without] at h;by_cases q:b∈ws
 .rw[if_pos q] at h;cases h
 .rw[if_neg q] at h;exact ⟨h,q⟩
theorem Bv {b:Addr} {x:Obj} (lw:J7 s ws) (h:s.heap.get? b=some x) (hx:vc x=true):(cG s.heap ws).get? b=some x:=v5 h fun q=>by
 obtain ⟨o,h1,h2,_⟩:=lw b q;rw[h] at h1;cases h1;rw[hx] at h2;cases h2
theorem xe {a:Addr} {m:Str->Option Value} (lw:J7 s ws) (h:s.heap.Ns a m):(cG s.heap ws).Ns a m:=by
 refine aW fun G9 k9=> ?_;obtain ⟨x,es,ep,h1,h2,r⟩:=h;refine k9 ?_;exact ⟨x,es,ep,v5 h1 (fun q=>by
  obtain ⟨o,h3,_,h4⟩:=lw a q;rw[h1] at h3;cases h3;exact h4 _ _ h2),h2,r⟩
theorem Ed (X:K.In s.heap) (h:K.all (fun q=>vc q.2)=true) (lw:J7 s ws):K.In (cG s.heap ws):=fun a x e=>
 Bv lw (X a x e) (List.all_eq_true.mp h _ (tW e))
theorem D7 (T:Top p loose mean mg mb s.heap) (X:K.In s.heap) (ok:HC sp r0 dZ gls key K=true) (hkey:∀ i j,i<100->j<100->key i=key j->i=j) (lw:J7 s (oB sp scr K)) (TK:qp sp K s.heap):
  eA (B7 prog w s scr K mg mb sp r0 dZ gls key)/\wF (B7 prog w s scr K mg mb sp r0 dZ gls key):=by
 simp only [HC,Bool.and_eq_true] at ok;refine aW fun G9 k9=> ?_;obtain ⟨⟨⟨⟨⟨⟨⟨o1,o0⟩,o2⟩,o3⟩,o4⟩,o5⟩,o6⟩,o7⟩:=ok;refine k9 ?_;have X':=Ed X o0 lw;have g:=xe lw T.g;have nl:(cG s.heap (oB sp scr K)).NoLimit:=by
  obtain ⟨mc,h1,h2⟩:=T.nolimit;exact ⟨mc,xe lw h1,h2⟩
 have TR:TopRead p loose mg mb (cG s.heap (oB sp scr K)):=⟨g,xe lw T.b,nl,T.builtins,T.free⟩;have row:∀ n,E9 K (fun sc Γ cd q=>⟨Gc r0 dZ,gT,key,gls,sc,Γ,zj (gD sp K) cd q⟩) (fA r0 dZ n)=true:=fun n=>List.all_eq_true.mp o6 _ (yC n);have fn:=fun n=>Eg X' (ah (row n));simp only [JL,Bool.and_eq_true,List.all_eq_true,beq_iff_eq,List.mem_range] at o5;have ex:=fun c (hc:c<nX)=>List.all_eq_true.mp o4 c (List.mem_range.mpr hc);simp only [Bool.and_eq_true,List.all_eq_true,beq_iff_eq,List.mem_range] at ex;refine ⟨⟨g,TR.b,nl,?_,?_,⟨X',mg_of X' g o5.1.1.1.1.1.1,any_some o5.1.1.1.1.1.2,o5.1.1.1.1.2,o5.1.1.1.2,o5.1.1.2,o5.1.2,o5.2.1.1.1,o5.2.1.1.2,EO,⟨o5.2.1.2,o5.2.2⟩,fun m hm=> ?_⟩,fun c hc=>own_of_in X' TR (ex c hc).1.1.1.1 (ex c hc).1.1.1.2,fun c hc=>(ex c hc).1.1.2,fun c hc k hk=>((ex c hc).2 k hk).1,fun c hc=>(ex c hc).1.2,fun c hc k hk=>((ex c hc).2 k hk).2,
  fun n hn=> ?_,fun q hq=>⟨ns_none_of X' g (bu (List.all_eq_true.mp o2 q hq)),(T.builtins _ (xZ q hq).2).trans (xZ q hq).1⟩,fun x q e=> ?_,hkey,fun l e=> ?_⟩,fun n pf hT=> ?_⟩
 .obtain ⟨mc,h1,h2⟩:=T.nodigits;exact ⟨mc,xe lw h1,h2⟩
 .obtain ⟨x,hx⟩:=Option.isSome_iff_exists.mp o1;exact ⟨x,X' _ _ hx⟩
 .have hm:(fA r0 dZ m).mth=true:=hm;have:=ak (row m);rw[if_pos hm] at this;simp only [Bool.and_eq_true,beq_iff_eq,List.all_eq_true,List.mem_range,bne_iff_ne] at this;refine aW fun G9 k9=> ?_;obtain ⟨h1,o,fd,body,h2,h3,_⟩:=fn m;refine k9 ?_;exact ⟨this.1,h1,this.2,o,fd,h2,h3⟩
 .have hn:(fA r0 dZ n).mth=false:=hn;have:=ak (row n);rw[if_neg (by rw[hn];exact OB)] at this;refine aW fun G9 k9=> ?_;obtain ⟨_,o,fd,body,h2,h3,_⟩:=fn n;refine k9 ?_;exact ⟨mg_of X' g (beq_iff_eq.mp this),o,fd,h2,h3⟩
 .have h3:=List.all_eq_true.mp o3 _ (co e);dsimp only at h3;split at h3
  .rename_i v hv
   exact ⟨v,mg_of X' g hv,GU h3⟩
  .cases h3
 .have e:gD sp K=some l:=e;have tb:=TK l e;rw[e] at o7;refine aW fun G9 k9=> ?_;obtain ⟨bm,ob,b1,b2,b3,b4,b5,b6⟩:=T.bmain;refine k9 ?_;refine ⟨codeHd_of_K X' o7,⟨bm,ob,b1,b2,fun q=> ?_,fun q=> ?_,Bv lw b3 (by unfold vc;rw[b4];rfl),b4,b5,b6⟩,fun q=> ?_⟩
  .obtain ⟨o,es,ep,e2,hd,_⟩:=T.g;rw[q,e2] at b3;cases b3;rw[hd] at b6;cases b6
  .rw[q,tb] at b3;cases b3;cases b4
  .obtain ⟨o,es,ep,e2,hd,_⟩:=T.g;rw[q,tb] at e2;cases e2;cases hd
 .have hT':(dZ.find? fun r=>r.id==n).map (·.pf)=some pf:=hT;refine aW fun G9 k9=> ?_;obtain ⟨r,hr,hpf⟩:=OY.mp hT';have er:fA r0 dZ n=r:=by unfold fA;rw[hr];rfl
  obtain ⟨_,o,fd,body,h2,h3,h4,h5,h6,h7,h8,h9,h10⟩:=fn n;refine k9 ?_;rw[er] at h10;exact ⟨r,hpf.symm,o,fd,body,h2,h3,h4,h5,h6,h7,h8,h9,h10⟩
theorem Df (h:Heap):∀ ws:List Addr,(cG h ws).objs.size=h.objs.size:=by
 intro ws
 induction ws with
 |nil=>
  exact rfl
 |cons a ws ih=>
  show ((cG h ws).update a _).objs.size=_;unfold Heap.update;rw[Array.size_modify,ih]
theorem D4 {C:bq} {w:bp} {vs:List Value} {sc:List Int} (h:IntsAre vs sc):RDs C w (sc.map .int) vs:=by
 induction h with
 |nil=>exact .nil
 |cons n t _ ih=>exact .cons (.int n t) ih
theorem DW {fa:Addr} {vs:List Value} {sc:List Int} {f d:Nat} {σ':av} {Q:Result->Shared->Prop} (hkey:∀ i j,i<100->j<100->key i=key j->i=j) (T:Top p loose mean mg mb s.heap) (X:K.In s.heap) (ok:HC sp r0 dZ gls key K=true) (TK:qp sp K s.heap) (hl:s.heap.IsList scr vs.toArray) (hi:IntsAre vs sc)
  (hf:(fA r0 dZ f).mth=false) (hfa:mg (fA r0 dZ f).nm=some (.ref fa)) (hd:d<=50) (hrun:jk (wO dZ) (d+1) false f [.d (.lst (sc.map .int))] []=some (.ok (.d (.bool true)),σ'))
  (hQ:∀ s',oO s s'->(∀ b o,b∉(gD sp K).toList.map (·.P)->s.heap.get? b=some o->s'.heap.get? b=some o)->(∀ l,gD sp K=some l->∃ ps,s'.heap.get? l.P=some (qz ps))->Q (.ok (.ret (.bool true))) s'):codeAny (model prog w) callerA (.call (.ref fa) ⟨[.ref scr],[]⟩) Q s:=by
 refine aW fun G9 k9=> ?_;obtain ⟨⟨cl,dd,da,sl⟩,ho,hc,n,hdat⟩:=id hl;refine k9 ?_;simp only at hc hdat;subst hc;subst hdat;have lw:=Gq (scr:=scr) (K:=K) (sp:=sp) ho rfl rfl TK;obtain ⟨G,F⟩:=D7 (prog:=prog) (w:=w) T X ok hkey lw TK;generalize hC:B7 prog w s scr K mg mb sp r0 dZ gls key=C at G F;have cH:C.H=cG s.heap (oB sp scr K):=by rw[<-hC];rfl
 have cT:C.T=wO dZ:=by rw[<-hC];rfl
 have cM:C.M=model prog w:=by rw[<-hC];rfl
 have cL:C.lam=gD sp K:=by rw[<-hC];rfl
 have hadr:C.fadr f=fa:=by
  have h1:=(G.fn f (by rw[<-hC];exact hf)).1;have h2:mg (fA r0 dZ f).nm=some (.ref (C.fadr f)):=by rw[<-hC] at h1 ⊢;exact h1
  rw[hfa] at h2;exact (Value.ref.inj (O0 h2)).symm
 generalize ht:(gD sp K).toList.map (·.P)=ts at hQ;have aw:oB sp scr K=scr::ts:=by rw[<-ht];rfl
 have hts:∀ a∈ts,s.heap.get? a=some (qz #[]):=fun a ha=>by
  rw[<-ht] at ha;obtain ⟨l,hl,q⟩:=Ot.mp ha;exact q ▸ TK l (Option.mem_toList.mp hl)
 let P:Pt:=⟨s,[],fun a=>if a=scr then .fz (rn vs ⟨n,dd,sl⟩) else if a∈ts then .gh else .no,[],[]⟩
 have own:∀ a x,P.own a=x->x≠ .no->(a=scr/\x= .fz (rn vs ⟨n,dd,sl⟩))∨(a∈ts/\x= .gh):=fun a x e q=>by
  by_cases z:a=scr
  .exact .inl ⟨z,e.symm.trans (if_pos z)⟩
  .have e:(if a∈ts then cx.gh else .no)=x:=(if_neg z).symm.trans e;by_cases y:a∈ts
   .exact .inr ⟨y,e.symm.trans (if_pos y)⟩
   .exact absurd (e.symm.trans (if_neg y)) q
 have I:aE C P:=by
  refine ⟨fun b o e=> ?_,fun a o e=> ?_,fun a e=> ?_,⟨fun f h=>(Oy h).elim,fun f h=>(Oy h).elim,List.Pairwise.nil,(fun a e=>by rcases own a .fr e cx.noConfusion with ⟨_,q⟩|⟨_,q⟩<;>cases q)⟩,⟨fun p h=>(Oy h).elim,OZ,fun z e=> ?_⟩,(fun a b n j e=>by rcases own a (.cell n j) e cx.noConfusion with ⟨_,q⟩|⟨_,q⟩<;>cases q),(fun a n j e=>by rcases own a (.cell n j) e cx.noConfusion with ⟨_,q⟩|⟨_,q⟩<;>cases q),fun n o e=>nomatch e⟩
  .rw[cH] at e;obtain ⟨h1,h2⟩:=H4 e;rw[aw] at h2;refine ⟨h1,?_⟩;show (if b=scr then cx.fz (rn vs ⟨n,dd,sl⟩) else if b∈ts then cx.gh else .no)= .no;rw[if_neg fun q=>h2 (by rw[q];exact .head _),if_neg (show¬b∈ts from fun q=>h2 (.tail _ q))]
  .rcases own a _ e cx.noConfusion with ⟨h1,h2⟩|⟨_,h2⟩
   .cases h2;rw[h1];exact ho
   .cases h2
  .rcases own a _ rfl e with ⟨h1,_⟩|⟨h1,_⟩
   .exact ⟨_,h1 ▸ ho⟩
   .exact ⟨_,hts a h1⟩
  .rw[cL] at e;have tb:=TK z e;have hm:z.P∈ts:=by rw[<-ht,e];exact .head _
   refine .inl ⟨tb,(if_neg fun q=> ?_).trans (if_pos hm),fun p h=>(Oy h).elim⟩;rw[q,ho] at tb;cases tb
 have hsz:C.H.objs.size<=P.h.objs.size:=by
  rw[cH];exact O1 (Df _ _)
 rw[<-hadr,<-cM];refine codeAny_mono (ql G F (d+1) false callerA P f [.d (.lst (sc.map .int))] [.ref scr] (fun r _=>r= .ok (.d (.bool true))) (fun v s'=>v= .bool true/\oO s s'/\(∀ b o,b∉ts->s.heap.get? b=some o->s'.heap.get? b=some o)/\∀ l,gD sp K=some l->∃ ps,s'.heap.get? l.P=some (qz ps)) (fun _ _=>False) ⟨[],rfl,fun e h=>(Oy h).elim⟩ hsz ?_ ?_ (fun _=>rfl) I (.cons (.lst (n:=⟨n,dd,sl⟩) (if_pos rfl) (D4 hi)) .nil) ?_ ⟨fun q v P' g I' r k=> ?_,fun c e P' _ _ _ k=>by cases k⟩) fun r s' h=> ?_
 .show 1+claimMargin+8*(d+1)+144<1000;have:claimMargin=300:=rfl;exact Ld hd this
 .show 4+64*(d+1)+945<9900;exact OC (Nat.add_le_add_right (OS (Pd 64 (O9 hd)) 4) 945) (by decide)
 .show Wp _ (jk C.T (d+1) false f _ []);rw[cT,hrun];rfl
 .cases k;refine ⟨r.view,g.sm,fun b o hb e=> ?_,fun l e=> ?_⟩
  .by_cases z:b=scr
   .rw[z,ho] at e;cases e;rw[z];exact I'.fz _ _ (g.fz _ _ (if_pos rfl))
   .exact (I'.base b o (by rw[cH,aw];exact v5 e fun q=>(Oe.mp q).elim z hb)).1
  .rcases I'.gh.tab l (cL.trans e) with h|⟨_,_,_,_,h,_⟩
   .exact ⟨_,h.1⟩
   .exact ⟨_,h.1⟩
 .cases r with
  |ok fl=>
   cases fl with
   |ret v=>obtain ⟨rfl,sm,k1,k2⟩:=h;exact hQ s' sm k1 k2
   |_=>exact h.elim
  |error e=>exact h.elim
end
end Mine.Internal
namespace Mine.Internal
open PySem PyProof.Rows PySem.W
section
variable {C:bq} {A:Around} {P:Pt} {Q E:Value->Shared->Prop}
theorem Gw {kvs:List (Str×Value)} (G:eA C) (hk:∀ i p,kvs[i]? =some p->p.1=C.key i) (hl:kvs.length<=100) {k:Nat} {p:Str×Value} (e:kvs[k]? =some p):valueAt kvs (C.key k)=some p.2:=by
 have hlt:=(Og.mp e).1;have h1:∀ j,j<k->∀ q,kvs[j]? =some q->q.1≠C.key k:=fun j hj q hq z=>by
  have:=hk j q hq;have:=G.keys j k (by exact OD (O7 hj hlt) hl) (by exact OD hlt hl) (this.symm.trans z);exact Nat.ne_of_lt hj this
 show (kvs.find? fun kv=>decide (kv.1=C.key k)).map (·.2)=_;have:kvs.find? (fun kv=>decide (kv.1=C.key k))=some p:=by
  rw[List.find?_eq_some_iff_getElem];refine ⟨Os (hk k p e),k,hlt,(Og.mp e).2,fun j hj=> ?_⟩;have:=h1 j hj kvs[j] (Oh (by exact O7 hj hlt));rw[O3 this];rfl
 rw[this];rfl
theorem uV {kvs:List (Str×Value)} {k:Str} {v:Value} (h:∀ p∈kvs,p.1≠k):stored kvs k v=kvs++[(k,v)]:=by
 unfold stored;rw[if_neg];intro q;simp only [List.any_eq_true,decide_eq_true_eq] at q;obtain ⟨p,hp,e⟩:=q;exact h p hp e
theorem dw {α:Type} {l:List α} {x y:α} {i:Nat} (h:(l++[x])[i]? =some y):(i≠l.length->l[i]? =some y)/\(i=l.length->y=x):=by
 constructor
 .intro q;have lt:=(Og.mp h).1;rw[Of,On] at lt
  rwa [OX (by exact Nat.lt_of_le_of_ne (Pe lt) q)] at h
 .intro q;rw[q,eR] at h;exact (O0 h).symm
structure Nf (C:bq) (kvs:List (Str×Value)) (k:Nat) (v:Value) (res:List (Str×Value)) (n:Nat):Prop where
 len:res.length=n
 nm:∀ i p,res[i]? =some p->p.1=C.key i
 nw:∀ p,res[k]? =some p->p.2=v
 old:∀ i p,i≠k->res[i]? =some p->kvs[i]? =some p
theorem Af {kvs:List (Str×Value)} {v:Value} (G:eA C) (hk:∀ i p,kvs[i]? =some p->p.1=C.key i) (hl:kvs.length<100):Nf C kvs kvs.length v (stored kvs (C.key kvs.length) v) (kvs.length+1):=by
 rw[uV fun p hp q=>by
  obtain ⟨i,hi,e⟩:=List.getElem_of_mem hp;have h1:=hk i p (by rw[Oh hi,e]);have:=G.keys i kvs.length (by exact O7 hi hl) hl (h1.symm.trans q);exact Nat.ne_of_lt hi this]
 refine ⟨by rw[Of];rfl,fun i p h=> ?_,fun p h=> ?_,fun i p q h=>(dw h).1 q⟩
 .by_cases q:i=kvs.length
  .rw[(dw h).2 q,q]
  .exact hk i p ((dw h).1 q)
 .rw[(dw h).2 rfl]
theorem FN {kvs:List (Str×Value)} {v:Value} {k:Nat} (G:eA C) (hk:∀ i p,kvs[i]? =some p->p.1=C.key i) (hl:kvs.length<=100) (hk':k<kvs.length):Nf C kvs k v (stored kvs (C.key k) v) kvs.length:=by
 have hm:kvs.any (fun kv=>decide (kv.1=C.key k))=true:=List.any_eq_true.mpr ⟨kvs[k],List.getElem_mem hk',Os (hk k _ (Oh hk'))⟩;have e:stored kvs (C.key k) v=kvs.map (fun kv=>if kv.1=C.key k then (kv.1,v) else kv):=if_pos hm;rw[e];have key:∀ i p,(kvs.map (fun kv=>if kv.1=C.key k then (kv.1,v) else kv))[i]? =some p->∃ q,kvs[i]? =some q/\(if q.1=C.key k then (q.1,v) else q)=p:=fun i p h=>by
  rw[Ou] at h;exact OY.mp h
 refine ⟨Oc ..,fun i p h=> ?_,fun p h=> ?_,fun i p q h=> ?_⟩
 .obtain ⟨z,e1,e2⟩:=key i p h;rw[<-e2,<-hk i z e1];split<;>rfl
 .obtain ⟨z,e1,e2⟩:=key k p h;rw[<-e2,if_pos (hk k z e1)]
 .obtain ⟨z,e1,e2⟩:=key i p h;rw[<-e2,if_neg,e1];intro c;have hi:=(Og.mp e1).1;exact q (G.keys i k (by exact OD hi hl) (by exact OD hk' hl) ((hk i z e1).symm.trans c))
noncomputable def GN:cb->Bool
 | .d _=>true
 |_=>false
noncomputable def Dh (k:Nat) (x v:PV) (σ:av):Option av:=match x with
 | .p n 0=>(cA false σ n).bind fun l=>match v with
  | .d y=>if k=l.length then aq (k<100) (σ.set n (.rcd false (l++[.d y]))) else (l[k]?).bind fun f=>aq (GN f=true) (σ.set n (.rcd false (l.set k (.d y))))
  | .p m 0=>(aq (k=l.length/\k<100/\m≠n) ()).bind fun _=>(bU σ m 0).bind fun f=>f.rd.map fun _=>(σ.set m .dead).set n (.rcd false (l++[f]))
  |_=>none
 |_=>none
noncomputable def ij (x:PV) (σ:av):Nat:=match x with
 | .p n _=>((cA false σ n).getD []).length
 |_=>0
theorem w7 {k:Nat} {x v:PV} {vx vv:Value} {σ':av} (G:eA C) (I:aE C P) (hx:RV C P vx x) (hv:RV C P vv v) (e:Dh k x v P.σ=some σ'):
  ∃ d kvs,vx= .ref d/\P.h.DictOf (strKind C.prog C.w) d kvs/\kvs.length<=100/\kvs.length=ij x P.σ/\∀ h' t,h'.DictOf (strKind C.prog C.w) d (stored kvs (C.key k) vv)->Heap.SameBut d P.h h'->∃ P',bv P P'/\aE C P'/\P'.σ=σ'/\P'.s={P.s with heap:=h',toks:=t}:=by
 cases x with
 |d _=>cases e
 |b _ _=>cases e
 |p n j=>
 cases j with
 |succ _=>cases e
 |zero=>
 obtain ⟨l,e1,e⟩:=ao e;have en:=iN e1;obtain @⟨d,o,kvs,h1,h2,h3,h4,h5,h6,h7⟩:oQ C P.own P.h n l:=I.obj n _ en;refine ⟨d,kvs,hx.2 d h1,Heap.dictOf_iff.mpr ⟨o,h2,h3⟩,by exact le_of_eq_of_le h4 h5,by show kvs.length=((cA false P.σ n).getD []).length;rw[e1];exact h4,fun h' t hd hs=> ?_⟩;obtain ⟨o',g1,g2⟩:=Heap.dictOf_iff.mp hd;have ro:∀ (w':bp) (f:cb) (l':List cb) (q:Nf C kvs k vv (stored kvs (C.key k) vv) l'.length),l'.length<=100->(∀ i f',i≠k->l'[i]? =some f'->l[i]? =some f')->(∀ f',l'[k]? =some f'->f'=f)->Fz P.own w'->(∀ b j,P.own b= .cell n j->w' b= .cell n j)->FA C w' h' n k vv f->RO C w' h' n (.rcd false l'):=fun w' f l' q hl i1 i2 fz kw fa=>by
  refine oQ.mk (kw _ _ h1) g1 g2 q.len hl q.nm fun i f' p z1 z2=> ?_;by_cases c:i=k
  .subst c;rw[i2 f' z1,q.nw p z2];exact fa
  .refine (h7 i f' p (i1 i f' c z1) (q.old i p c z2)).mono fz fun b o y1 y2=>⟨kw b _ y1,hs.extBut b o (fun z=> ?_) y2⟩;rw[z,h1] at y1;cases y1
 cases v with
 |b _ _=>cases e
 |d y=>
  have e:(if k=l.length then aq (k<100) (P.σ.set n (.rcd false (l++[.d y]))) else (l[k]?).bind fun f=>aq (GN f=true) (P.σ.set n (.rcd false (l.set k (.d y)))))=some σ':=e;by_cases c:k=l.length
  .rw[if_pos c] at e;obtain ⟨hk,e⟩:=d9 e;have q:=Af (v:=vv) G h6 (by rw[h4,<-c];exact hk);rw[h4,<-c] at q;have r:=ro P.own (.d y) (l++[.d y]) (by rw[Of,<-c];exact q) (by rw[Of,<-c];exact hk) (fun i f' hi z=>(dw z).1 (by rw[<-c];exact hi)) (fun f' z=>(dw z).2 c) (fun _ _ e=>e) (fun _ _ e=>e) hv;have kp:∀ j,(PO.rcd false l).has j->(PO.rcd false (l++[.d y])).has j:=fun j q=>by show j<(l++[cb.d y]).length+2;rw[Of];have:j<l.length+2:=q;exact Lc this
   exact ⟨_,.turn en kp,I.turn (h':=h') (t:=t) kp en h1 (fun b o hb e=>hs.extBut b o hb e) g1 r,e.symm ▸ rfl,rfl⟩
  .rw[if_neg c] at e;obtain ⟨f0,e2,e⟩:=ao e;obtain ⟨_,e⟩:=d9 e;have hk:=(Og.mp e2).1;have q:=FN (v:=vv) (k:=k) G h6 (by exact le_of_eq_of_le h4 h5) (by exact Nat.lt_of_lt_of_eq hk (id (Eq.symm h4)));have r:=ro P.own (.d y) (l.set k (.d y)) (by rw[OE,<-h4];exact q) (by rw[OE];exact String.Pos.Raw.mk_le_mk.mp h5) (fun i f' hi z=>by rwa [OI (Ne.symm hi)] at z) (fun f' z=>by rw[List.getElem?_set_self hk] at z;exact (O0 z).symm) (fun _ _ e=>e) (fun _ _ e=>e) hv;have kp:∀ j,(PO.rcd false l).has j->(PO.rcd false (l.set k (.d y))).has j:=fun j q=>by show j<(l.set k (.d y)).length+2;rw[OE];exact q
   exact ⟨_,.turn en kp,I.turn (h':=h') (t:=t) kp en h1 (fun b o hb e=>hs.extBut b o hb e) g1 r,e.symm ▸ rfl,rfl⟩
 |p m' j=>
 cases j with
 |succ _=>cases e
 |zero=>
  obtain ⟨_,z1,e⟩:=ao e;obtain ⟨f,z2,e⟩:=ao e;obtain ⟨u,z3,e⟩:=aZ e;obtain ⟨c,hk,z1⟩:=(d9 z1).1;obtain ⟨o',z4,z5⟩:=ao z2;obtain @⟨af,of,y1,y2,y3⟩:=lR I hv z2 (gz z3).2;have fz:Fz P.own (fQ P.own af (.cell n (l.length+2))):=fun b o e=>(a_ fun c=>by rw[c,y1] at e;cases e).trans e;have ndf:af≠d:=fun q=>by rw[q,h1] at y1;cases y1;exact z1 rfl
  have q:=Af (v:=.ref af) G h6 (by rw[h4,<-c];exact hk);rw[h4,<-c] at q;obtain ⟨J,g⟩:=uE (t:=t) (l':=l++[f]) I z4 en z1 y1 h1 (fun b o hb e=>hs.extBut b o hb e) y2 g1 (by rw[Of];rfl)
   (ro _ f (l++[f]) (by rw[Of,<-c];exact q) (by rw[Of,<-c];exact hk) (fun i f' hi z=>(dw z).1 (by rw[<-c];exact hi)) (fun f' z=>(dw z).2 c) fz (fun b j e=>(a_ fun c=>by rw[c,y1] at e;cases e;exact z1 rfl).trans e) (BD (gz z3).2 (by rw[c];exact iK.mk (bl _ _ _) (hs.extBut _ _ ndf y2) (y3.ext fz))))
  exact ⟨_,g,J,e,rfl⟩
end
noncomputable def jc:PV->Option (List Nat)
 | .d x=>sD x
 |_=>none
theorem mY {y:PV} {s:List Nat} (h:jc y=some s):y= .d (.str s):=by
 cases y with
 |d v=>cases v<;>first|(cases h;done)|(cases h;rfl)
 |_=>cases h
noncomputable def GA (k:Nat) (s:List Nat) (x y:PV):PM PV:=fun σ=>(aq (jc y=some s) ()).bind fun _=>oE false k x σ
theorem CY {K:R PV->av->Prop} {k:Nat} {s:List Nat} {x y:PV} {σ:av} (w:Wp K (GA k s x y σ)):y= .d (.str s)/\Wp K (oE false k x σ):=by
 have w:Wp K ((aq (jc y=some s) ()).bind fun _=>oE false k x σ):=w;unfold aq at w;by_cases q:jc y=some s
 .rw[if_pos q] at w;exact ⟨mY q,w⟩
 .rw[if_neg q] at w;exact w.elim
section
variable {X:Cx} {e:Expr} {ρ:a9} {P:Pt} {K:R PV->av->Prop} {Q E:Value->Shared->Prop}
theorem Gy (o:CE) (k:Nat) (s:List Nat) (h:bx (fun v j _=>cC j&&fU s==X.sx.key k&&o.is X.sx v&&(aU s).is X.sx j) e=true) (I:aE X.C P) (G:EnvOK X P ρ) (w:Wp K (bz (o.ev X.ker ρ) (fun x=>bz ((aU s).ev X.ker ρ) fun y=>GA k s x y) P.σ)) (p:bg X (RV X.C) P K Q E):wpAny X.M X.A (eval e X.env) Q E P.s:=
 bZ (fun e=>wpAny X.M X.A (eval e X.env) Q E P.s) h fun v j pos h=>Subscript_ (o.ok X v ρ P _ _ E (ak (ah h)) I G (aH w) (p.bind fun x vx P1 g1 I1 r1 w p=>
  (aU s).ok X j ρ P1 _ _ E (ak h) I1 (G.ext g1) (aH w) (p.bind fun y u P2 g2 I2 r2 w p=>by
   obtain ⟨hy,w2⟩:=CY w;subst hy;obtain ⟨n,l,f,q,e1,e2,kk⟩:=wH w2;subst q;obtain ⟨_,t,hu⟩:oX s/\∃ t,u= .str (fU s) t:=RD.view r2;have hk:fU s=X.C.key k:=bu (ak (ah (ah h)));obtain @⟨d,ob,kvs,h1,h2,h3,h4,h5,h6,h7⟩:oQ X.C P2.own P2.h n l:=I2.obj n _ e1;have hlt:=(Og.mp e2).1;have ek:kvs[k]? =some kvs[k]:=Oh (by exact Nat.lt_of_lt_of_eq hlt (id (Eq.symm h4)));have hM:=(Heap.dictOf_iff.mpr ⟨ob,h2,h3⟩).mapOf;rw[hu,(r1.ext g2.toExt).2 d h1,hk];exact tail_any hM.typeIs slot_dict_getitem.lookup (wpAny_getItem_of (strKind_is _ _ _ _) hM (Gw X.good h6 (by exact le_of_eq_of_le h4 h5) ek) (p.ok _ _ (P2.to P2.h _) (.to ..) (I2.to fun _ _ e=>e) (Au I2 e1 e2 (h7 k f _ e2 ek)) kk)) (cy (ah (ah (ah h))) _ _))))
end
noncomputable def key (o:CE) (k:Nat) (s:List Nat):CE:=⟨fun K ρ=>bz (o.ev K ρ) fun x=>bz ((aU s).ev K ρ) fun y=>GA k s x y,fun sx=>bx fun v j _=>cC j&&fU s==sx.key k&&o.is sx v&&(aU s).is sx j,fun _ _ _ _ _ _ _ h I G w p=>Gy o k s h I G w p⟩
noncomputable def mI (key:Nat->Str):Nat->List (List Nat)->Bool
 |_,[]=>true
 |i,s::r=>fU s==key i&&mI key (i+1) r
theorem vK {key:Nat->Str}:∀ {tb:List (List Nat)} {i k:Nat} {s:List Nat},mI key i tb=true->tb[k]? =some s->fU s=key (i+k):=by
 intro tb
 induction tb with
 |nil=>
  intro _ _ _ _ e;exact nomatch e
 |cons a tb ih=>
  intro i k s h e;cases k with
  |zero=>cases e;exact bu (ah h)
  |succ k=>
   have:=ih (k:=k) (ak h) e;rw[this,Nat.add_assoc,Nat.add_comm 1 k]
noncomputable def ng (tb:List (List Nat)) (k:Nat) (v x y:PV) (σ:av):Option av:=(tb[k]?).bind fun s=>(aq (jc y=some s) ()).bind fun _=>Dh k x v σ
theorem pP {tb:List (List Nat)} {k:Nat} {v x y:PV} {σ σ':av} (h:ng tb k v x y σ=some σ'):∃ s,tb[k]? =some s/\y= .d (.str s)/\Dh k x v σ=some σ':=by
 obtain ⟨s,e1,h⟩:=ao h;obtain ⟨_,e2,h⟩:=ao h;exact ⟨s,e1,mY (d9 e2).1,h⟩
section
variable {X:SX} {st:Stmt} {ρ:a9} {P:Pt} {K:Out->av->Prop} {Q:Flow->Shared->Prop} {E:Value->Shared->Prop}
theorem Aq (tb:List (List Nat)) (kf:PV->av->Nat) (o i a:CE) (h:pu (fun t e=>bx (fun oe ke _=> !gE e&&cC ke&&mI X.sx.key 0 tb&&o.is X.sx oe&&i.is X.sx ke&&a.is X.sx e) t) st=true) (I:aE X.C P) (G:cc X P ρ)
  (w:hW K (ce ρ (a.ev X.ker ρ) (fun v=>ce ρ (o.ev X.ker ρ) fun x=>ce ρ (i.ev X.ker ρ) fun y σ=>ik (ng tb (kf x σ) v x y σ) fun σ'=>some (.next ρ,σ')) P.σ)) (p:cS X P K Q E):wpAny X.M X.A (PySem.exec st X.env) Q E P.s:=
 f_ (fun st=>wpAny X.M X.A (PySem.exec st X.env) Q E P.s) h fun t e pos h=>bZ (fun t=>wpAny X.M X.A (PySem.exec (.Assign [t] e pos) X.env) Q E P.s) h fun oe ke px h=>
  wpAny_Assign_Subscript (a.ok X.toCx e ρ P _ _ E (ak h) I G.toEnvOK (dc w) (p.bind G fun v vv P1 g1 I1 r1 w G1 p=>
   o.ok X.toCx oe ρ P1 _ _ E (ak (ah (ah h))) I1 G1.toEnvOK (dc w) (p.bind G1 fun x vx P2 g2 I2 r2 w G2 p=>
    i.ok X.toCx ke ρ P2 _ _ E (ak (ah h)) I2 G2.toEnvOK (dc w) (p.bind G2 fun y vy P3 g3 I3 r3 w G3 p=>by
     obtain ⟨σ',e3,w2⟩:=fy w;obtain ⟨s,e4,q,e5⟩:=pP e3;subst q;obtain ⟨_,t,hu⟩:oX s/\∃ t,vy= .str (fU s) t:=RD.view r3;have hk:=vK (ak (ah (ah (ah h)))) e4;rw[O4] at hk;obtain ⟨d,kvs,q1,q2,q3,_,q4⟩:=w7 X.good I3 (r2.ext g3.toExt) (r1.ext (g2.trans g3).toExt) e5;rw[q1,hu,hk];refine wpAny_setItem_pairs (strKind_is _ _ _ _) q2 (fun h' z1 z2=> ?_) (Om q3 (by decide));obtain ⟨P4,g4,I4,y1,y2⟩:=q4 h' (P3.s.toks+1) z1 z2;have:=p.next ρ P4 (G3.gs g4) I4 (G3.ext g4) (y1 ▸ w2);rw[y2] at this;exact this)))) (ia ((Bool.not_eq_true' _).mp (ah (ah (ah (ah (ah h)))))))
end
noncomputable def E8 (tb:List (List Nat)) (kf:PV->av->Nat) (o i a:CE):C1:=⟨fun K ρ=>ce ρ (a.ev K ρ) fun v=>ce ρ (o.ev K ρ) fun x=>ce ρ (i.ev K ρ) fun y σ=>ik (ng tb (kf x σ) v x y σ) fun σ'=>some (.next ρ,σ'),fun s=>pu fun t e=>bx (fun oe ke _=> !gE e&&cC ke&&mI s.key 0 tb&&o.is s oe&&i.is s ke&&a.is s e) t,fun X st ρ P K Q E h I G w p=>Aq tb kf o i a h I G w p⟩
noncomputable def Ar (tb:List (List Nat)) (k:Nat) (o i a:CE):C1:=E8 tb (fun _ _=>k) o i a
noncomputable def HR (tb:List (List Nat)) (o i a:CE):C1:=E8 tb ij o i a
noncomputable def Am (s:List Nat) (x y v:PV):PM PV:=fun σ=>(aq (ij x σ=0) ()).bind fun _=>(ng [s] 0 v x y σ).map fun σ'=>(.ok x,σ')
theorem CW {K:R PV->av->Prop} {s:List Nat} {x y v:PV} {σ:av} (w:Wp K (Am s x y v σ)):∃ σ',ij x σ=0/\ng [s] 0 v x y σ=some σ'/\K (.ok x) σ':=by
 have w:Wp K ((aq (ij x σ=0) ()).bind fun _=>(ng [s] 0 v x y σ).map fun σ'=>(.ok x,σ')):=w;unfold aq at w;by_cases q:ij x σ=0
 .rw[if_pos q,Od] at w;cases e:ng [s] 0 v x y σ with
  |none=>rw[e] at w;exact w.elim
  |some σ'=>rw[e] at w;exact ⟨σ',q,rfl,w⟩
 .rw[if_neg q] at w;exact w.elim
section
variable {X:Cx} {e:Expr} {ρ:a9} {P:Pt} {K:R PV->av->Prop} {Q E:Value->Shared->Prop}
theorem yR (s:List Nat) (a:CE) (h:iG (fun ks vs _=>iw (CG fun ke=>(aU s).is X.sx ke) List.isEmpty ks&&iw (fun ve=>fU s==X.sx.key 0&&a.is X.sx ve) List.isEmpty vs) e=true) (I:aE X.C P) (G:EnvOK X P ρ)
  (w:Wp K (bz (g8 (.rcd false [])) (fun x=>bz ((aU s).ev X.ker ρ) fun y=>bz (a.ev X.ker ρ) fun v=>Am s x y v) P.σ)) (p:bg X (RV X.C) P K Q E):wpAny X.M X.A (eval e X.env) Q E P.s:=
 iF (fun e=>wpAny X.M X.A (eval e X.env) Q E P.s) h fun ks vs pos h=>c9 (fun ks=>wpAny X.M X.A (eval (.Dict ks vs pos) X.env) Q E P.s) (ah h) fun ke kr h1 h2=>bJ (fun kr=>wpAny X.M X.A (eval (.Dict (ke::kr) vs pos) X.env) Q E P.s) h2
  (c9 (fun vs=>wpAny X.M X.A (eval (.Dict [ke] vs pos) X.env) Q E P.s) (ak h) fun ve vr h3 h4=>bJ (fun vr=>wpAny X.M X.A (eval (.Dict [ke] (ve::vr) pos) X.env) Q E P.s) h4
   (fj (fun ke=>wpAny X.M X.A (eval (.Dict [ke] [ve] pos) X.env) Q E P.s) h1 fun ke h5=>by
    refine wpAny_Dict_walk (knd:=strKind X.C.prog X.C.w) rfl rfl (fun q=>nomatch q) (Oj rfl) (pairTrees_cons_walk ?_);have hn:=I.push (o:=rV) rfl;have d0:rV.IsDictOf (strKind X.C.prog X.C.w) []:=⟨#[],0,⟨rfl,rfl,rfl⟩,rfl,fun _ he=>by simp at he,Pairs.nil,OZ⟩;have J:aE X.C (P.make (P.h.push rV) P.s.toks P.h.objs.size (.rcd false [])):=I.make Nat.two_pos hn (oQ.mk (bl _ _ _) hn.at_ d0 rfl (OG _) (fun i p e=>nomatch e) fun i f p e=>nomatch e);have g0:bv P (P.make (P.h.push rV) P.s.toks P.h.objs.size (.rcd false [])):=.make hn.own;have rx:RV X.C (P.make (P.h.push rV) P.s.toks P.h.objs.size (.rcd false [])) (.ref P.h.objs.size) (.p P.σ.length 0):=I.rvMake Nat.two_pos;have w:Wp K (bz ((aU s).ev X.ker ρ) (fun y=>bz (a.ev X.ker ρ) fun v=>Am s (.p P.σ.length 0) y v) (P.σ++[.rcd false []])):=w;refine (aU s).ok X ke ρ (P.make (P.h.push rV) P.s.toks P.h.objs.size (.rcd false [])) _ _ E h5 J (G.ext g0) (aH w) ((p.mono g0).bind fun y vy P1 g1 I1 r1 w p=> ?_);refine a.ok X ve ρ P1 _ _ E (ak h3) I1 ((G.ext g0).ext g1) (aH w) (p.bind fun v vv P2 g2 I2 r2 w p=> ?_);refine pairTrees_nil_walk ?_;refine aW fun G9 k9=> ?_;obtain ⟨σ',e0,e1,k⟩:=CW w;obtain ⟨s',e2,q,e3⟩:=pP e1;refine k9 ?_;cases e2;subst q;refine aW fun G9 k9=> ?_;obtain ⟨_,t,hu⟩:oX s/\∃ t,vy= .str (fU s) t:=RD.view r1;have hk:fU s=X.C.key 0:=bu (ah h3);have rx2:=(rx.ext g1.toExt).ext g2.toExt;obtain ⟨d,kvs,q1,q2,q3,q5,q4⟩:=w7 X.good I2 rx2 r2 e3;refine k9 ?_;cases q1;rw[e0] at q5;have q6:=List.eq_nil_of_length_eq_zero q5;subst q6;refine ⟨[(X.C.key 0,vv)],⟨by rw[hu,hk];exact strKind_is _ _ _ _,rfl,trivial⟩,q2,fun h' z1 z2=> ?_⟩;refine aW fun G9 k9=> ?_;obtain ⟨P4,g4,I4,y1,y2⟩:=q4 h' (P2.s.toks+1) z1 z2;refine k9 ?_;have:=p.ok (.p P.σ.length 0) _ P4 g4 I4 (rx2.ext g4.toExt) (y1 ▸ k);rw[y2] at this;exact this))
end
noncomputable def AR (s:List Nat) (a:CE):CE:=⟨fun K ρ=>bz (g8 (.rcd false [])) fun x=>bz ((aU s).ev K ρ) fun y=>bz (a.ev K ρ) fun v=>Am s x y v,fun sx=>iG fun ks vs _=>iw (CG fun ke=>(aU s).is sx ke) List.isEmpty ks&&iw (fun ve=>fU s==sx.key 0&&a.is sx ve) List.isEmpty vs,fun _ _ _ _ _ _ _ h I G w p=>yR s a h I G w p⟩
section
variable {C:bq} {w:bp}
inductive Hv (C:bq) (P:Pt) (a:Addr) (o:Obj) (ks:List D) (vs:List Value):Prop
 |mk (xs:List (List Str×Addr×Value)):P.h.DictOfH (tupleKind (strKind C.prog C.w)) a xs->(∀ x∈xs,uG C P.own x.1 x.2.1)->ks=xs.map (fun x=>Nk x.1)->vs=xs.map (·.2.2)->(xs.map (·.1)).Nodup->Hv C P a o ks vs
end
section
variable {C:bq} {A:Around} {P:Pt} {K:R PV->av->Prop} {Q E:Value->Shared->Prop}
end
section
variable {X:Cx} {e:Expr} {ρ:a9} {P:Pt} {K:R PV->av->Prop} {Q E:Value->Shared->Prop}
end
section
variable {C:bq} {A:Around} {P:Pt} {E:Value->Shared->Prop} {Q:Unit->Shared->Prop}
end
section
variable {X:SX} {st:Stmt} {ρ:a9} {P:Pt} {K:Out->av->Prop} {Q:Flow->Shared->Prop} {E:Value->Shared->Prop}
end
theorem Gf {C:bq} {P:Pt} (I:aE C P) {h':Heap} {o:Obj} (kp:∀ b o',P.h.get? b=some o'->h'.get? b=some o') (ho:h'.get? P.h.objs.size=some o):sv C P h' P.h.objs.size o:=⟨kp,I.off (Oo _),I.out (Oo _),ho⟩
theorem DQ {C:bq} {A:Around} {P:Pt} {Q E:Value->Shared->Prop} {l:List D} {v:Value} (I:aE C P) (h:gU C P l v) (hl:l.length<=dX) (k:∀ h' vs n,sv C P h' P.h.objs.size (aJ vs n)->RDs C P.own l vs->Q (.ref P.h.objs.size) {P.s with heap:=h'}):wpAny C.M A (call (.type "list") [v]) Q E P.s:=by
 obtain @⟨a,vs,n,g,_,r⟩:=h;exact call_list_seq a (T:="list") (items:=vs.toArray) (.inl rfl) g rfl rfl (fun h' c' kp ho=>k h' vs c' (Gf I kp ho) r) (by rw[Oz,r.length];exact Om hl (by decide))
noncomputable def BG:BF:=⟨"list",.type "list",by decide+kernel,fun _=>g1 fun u=>(lD u).bind fun l=>aq (l.length<=dX) (.lst l),fun {C A P hd K ps vs Q E} _ _ I r w p=>iz (fun vs=>wpAny C.M A (call (.type "list") vs) Q E P.s) I r w fun v u z h e k=>by
 obtain ⟨l,e1,e⟩:=ao e;obtain ⟨hm,rfl⟩:=d9 e;exact DQ I (fN e1 h) hm fun h' ws n nw rr=>(p.fin k).note I nw P.s.toks (kI I nw.own rr rfl)⟩
noncomputable def iP:PV->Option Int
 | .d v=>iD v
 |_=>none
theorem nY {a:D} {x:Int} (h:iD a=some x):a= .int x:=by
 cases a<;>first|(cases h;done)|exact congrArg D.int (O0 h)
theorem vZ {v:PV} {x:Int} (h:iP v=some x):v= .d (.int x):=by
 cases v with
 |d a=>rw[nY h]
 |_=>cases h
noncomputable def HT:List PV->PM PV
 |[x,y,z]=>fun σ=>(iP x).bind fun a=>(iP y).bind fun b=>(iP z).bind fun c=>(aq ((bI a&&bI b&&decide (0<c)&&decide (c<1000))=true) (PV.d (.rng a b c))).map fun z=>(.ok z,σ)
 |_=>fun _=>none
theorem Ax {K:R PV->av->Prop} {σ:av}:∀ {ps:List PV},Wp K (HT ps σ)->∃ a b c,ps=[.d (.int a),.d (.int b),.d (.int c)]/\(bI a&&bI b&&decide (0<c)&&decide (c<1000))=true/\K (.ok (.d (.rng a b c))) σ
 |[x,y,z],w=>by
  have w:Wp K ((iP x).bind fun a=>(iP y).bind fun b=>(iP z).bind fun c=>(aq ((bI a&&bI b&&decide (0<c)&&decide (c<1000))=true) (PV.d (.rng a b c))).map fun z=>(.ok z,σ)):=w;cases e1:iP x with
  |none=>rw[e1] at w;exact w.elim
  |some a=>
   cases e2:iP y with
   |none=>rw[e1,e2] at w;exact w.elim
   |some b=>
    cases e3:iP z with
    |none=>rw[e1,e2,e3] at w;exact w.elim
    |some c=>
     rw[e1,e2,e3] at w;obtain ⟨z,e,k⟩:=gw w;obtain ⟨h,rfl⟩:=d9 e;rw[vZ e1,vZ e2,vZ e3];exact ⟨a,b,c,rfl,h,k⟩
 |[],w|[_],w|[_,_],w|_::_::_::_::_,w=>w.elim
noncomputable def xP:BF:=⟨"range",.type "range",by decide+kernel,fun _=>HT,fun {C A P hd K ps vs Q E} _ _ I r w p=>by
 obtain ⟨a,b,c,rfl,h,k⟩:=Ax w;obtain ⟨r1,r2⟩:zT C P (.d (.int a)) [.d (.int b),.d (.int c)] vs:=r.view;obtain ⟨r3,r4⟩:zT C P (.d (.int b)) [.d (.int c)] _:=r2.view;obtain ⟨r5,r6⟩:zT C P (.d (.int c)) [] _:=r4.view;obtain ⟨t1,q1⟩:∃ t,_=Value.int a t:=RD.view r1;obtain ⟨t2,q2⟩:∃ t,_=Value.int b t:=RD.view r3;obtain ⟨t3,q3⟩:∃ t,_=Value.int c t:=RD.view r5;rw[show _=[] from r6.view,q1,q2,q3];have h0:=OT (ak (ah h));have h1:=OT (ak h);exact call_range_3 (by exact Ne.symm (Int.ne_of_lt h0)) ((p.fin k).note I (I.push rfl) _ (.rng a b c _ _ _ (bl _ _ _))) (.inl (PyProof.noPylong_small (by exact nA (O8 h0) (Int.lt_trans h1 (by decide)))))⟩
section
variable {X:SX} {st:Stmt} {ρ:a9} {P:Pt} {K:Out->av->Prop} {Q:Flow->Shared->Prop} {E:Value->Shared->Prop}
end
end Mine.Internal
namespace Mine.Internal
open PySem PySem.W PyProof.Rows
noncomputable def M6:List D->Option (Int×Int)
 |a::b::_=>(iD a).bind fun x=>(iD b).map fun z=>(z,x)
 |_=>none
noncomputable def t0:D->Option (Int×Int)
 | .tup l=>M6 l
 |_=>none
noncomputable def fX (k:Int×Int):D:=.tup [.int k.1,.int k.2]
noncomputable def xn:CE:=bw (aj (sub (ag 0) (ai 1)) (aj (sub (ag 0) (ai 0)) au))
theorem Bj {y:D} {k:Int×Int} (h:t0 y=some k):∃ r,y= .tup (.int k.2:: .int k.1::r):=by
 cases y with
 |tup l=>
  cases l with
  |nil=>cases h
  |cons a l=>
   cases l with
   |nil=>cases h
   |cons b r=>
    refine aW fun G9 k9=> ?_;obtain ⟨x,hx,h2⟩:=Option.bind_eq_some_iff.mp h;obtain ⟨z,hz,rfl⟩:=OY.mp h2;refine k9 ?_;rw[nY hx,nY hz];exact ⟨r,rfl⟩
 |_=>cases h
theorem Gz {y:D} {k:Int×Int} {K:cP} {σ:av} (h:t0 y=some k):xn.ev K [some (.d y)] σ=some (.ok (.d (fX k)),σ):=by
 obtain ⟨r,rfl⟩:=Bj h;have l1:(1:Int)<((D.int k.2::D.int k.1::r).length:Nat):=by rw[Ok,Ok];exact K_
 have l0:(0:Int)<((D.int k.2::D.int k.1::r).length:Nat):=by rw[Ok];exact K9
 have p1:cB 1 (D.int k.2::D.int k.1::r).length=some 1:=by unfold cB;rw[if_pos (by decide),if_pos l1];rfl
 have p0:cB 0 (D.int k.2::D.int k.1::r).length=some 0:=by unfold cB;rw[if_pos (by decide),if_pos l0];rfl
 have g1:cp (.tup (.int k.2:: .int k.1::r)) (.int 1)=some (.int k.1):=by
  show ((aq (bI 1=true) ()).bind fun _=>(cB 1 (D.int k.2::D.int k.1::r).length).bind fun i=>(D.int k.2::D.int k.1::r)[i]?)=_;rw[p1];rfl
 have g0:cp (.tup (.int k.2:: .int k.1::r)) (.int 0)=some (.int k.2):=by
  show ((aq (bI 0=true) ()).bind fun _=>(cB 0 (D.int k.2::D.int k.1::r).length).bind fun i=>(D.int k.2::D.int k.1::r)[i]?)=_;rw[p0];rfl
 have e1:sJ (.d (.tup (.int k.2:: .int k.1::r))) (.d (.int 1)) σ=some (.ok (.d (.int k.1)),σ):=by
  show (Option.map (fun z=>(R.ok (PV.d z),σ)) (cp (.tup (.int k.2:: .int k.1::r)) (.int 1)))=_;rw[g1];rfl
 have e0:sJ (.d (.tup (.int k.2:: .int k.1::r))) (.d (.int 0)) σ=some (.ok (.d (.int k.2)),σ):=by
  show (Option.map (fun z=>(R.ok (PV.d z),σ)) (cp (.tup (.int k.2:: .int k.1::r)) (.int 0)))=_;rw[g0];rfl
 show uw (sF fun ds=>.d (.tup ds)) (uw _ (sJ (.d (.tup (.int k.2:: .int k.1::r))) (.d (.int 1)) σ))=_;rw[e1];show uw (sF fun ds=>.d (.tup ds)) (uw _ (uw _ (sJ (.d (.tup (.int k.2:: .int k.1::r))) (.d (.int 0)) σ)))=_;rw[e0];rfl
noncomputable def t6 (k:CE) (s:Sx) (ps:Arguments) (body:Expr) (scope:Scope):Bool:=
 ps.posonlyargs.isEmpty&&ps.kwonlyargs.isEmpty&&ps.vararg.isNone&&ps.kwarg.isNone&&ps.defaults.isEmpty&&ps.kw_defaults.isEmpty&&one (fun a=>scope.names.lookup a.arg==some .local&&k.is ⟨s.fnm,s.att,s.key,s.gls,scope,[(a.arg,0)],none⟩ body) ps.args&&
 scope.names.all (fun p=>p.2 != .cell&&p.2 != .free)&&scope.kind== .function&& !scope.isCoroutine&& !scope.isGenerator
inductive lU (k:CE) (C:bq) (w:bp) (l:uH) (fa:Addr):Prop
 |mk {nm:Str} {ps:Arguments} {body:Expr} {scope:Scope} {clos:List (Str×Addr)} {pm ctv:Value} {c:Addr} {oc:Obj} {vs:Array Value} {t:Tok} {s:Sx}:s.fnm=C.fnm->s.att=C.att->s.key=C.key->s.gls=C.gls->t6 k s ps body scope=true->w fa= .fz (kla_obj nm l.qual ps body scope clos pm c ctv)->w c= .fz oc->oc.data= .fields vs->vs[1]? =some (.str l.qual t)->lU k C w l fa
theorem lU.ext {k:CE} {C:bq} {w w':bp} {l:uH} {fa:Addr} (x:Fz w w'):lU k C w l fa->lU k C w' l fa
 |⟨a,b,c,d,e,f,g,h,i⟩=>⟨a,b,c,d,e,x _ _ f,x _ _ g,h,i⟩
section
variable {C:bq} {P:Pt} {l:uH}
theorem aE.code (I:aE C P) (hl:C.lam=some l) {h':Heap} {t:Nat} {c:Addr} {oc ot:Obj} {vs:Array Value} {tq:Tok} (hid:J9 P.h P.own P.G l.P ot) (hx:∀ b o,b≠l.P->P.h.get? b=some o->h'.get? b=some o) (hP:h'.get? l.P=some (qz #[rawInt l.pos.line,rawInt l.pos.col,.ref c])) (hc:h'.get? c=some oc) (hge:P.h.objs.size<=c) (hd:oc.data= .fields vs) (hv:vs[1]? =some (.str l.qual tq)):
  aE C (P.note h' t c oc):=by
 have own:=hid.2.1;have no:P.own c= .no:=I.off hge;have cs:=cg P.own c (.fz oc);have kk:∀ b o x,P.own b=x->x≠ .gh->x≠ .no->P.h.get? b=some o->fQ P.own c (.fz oc) b=x/\h'.get? b=some o:=fun b o x e q1 q2 z=>⟨(a_ fun y=>q2 (by rw[<-e,y,no])).trans e,hx b o (fun y=>q1 (by rw[<-e,y,own])) z⟩;refine ⟨fun b o e=> ?_,fun b o e=> ?_,fun b e=> ?_,I.fr.mv (fun b o e q=>kk b o _ e cx.noConfusion cx.noConfusion q) (fun b e=>kG cx.noConfusion e),⟨fun p hp=> ?_,I.gh.nd,fun z e=> ?_⟩,fun b d k j e f=> ?_,fun b k j e=> ?_,fun k o e=>(I.obj k o e).mv (dg no) fun b j o e q=>kk b o _ e cx.noConfusion cx.noConfusion q⟩
 .obtain ⟨e1,e2⟩:=I.base b o e;exact ⟨hx b o (fun y=>by rw[y,own] at e2;cases e2) e1,(a_ fun y=>by rw[y] at e1;exact OU _ (OD (OK e1) hge)).trans e2⟩
 .rcases cs b with ⟨q,z⟩|⟨_,z⟩
  .cases z.symm.trans e;rw[q];exact hc
  .have e1:=z.symm.trans e;exact (kk b o _ e1 cx.noConfusion cx.noConfusion (I.fz b o e1)).2
 .rcases cs b with ⟨q,z⟩|⟨_,z⟩
  .exact ⟨_,q ▸ hc⟩
  .by_cases y:b=l.P
   .exact ⟨_,y ▸ hP⟩
   .obtain ⟨o,ho⟩:=I.live b (z ▸ e);exact ⟨o,hx b o y ho⟩
 .obtain ⟨e1,e2⟩:=I.gh.at_ p hp;exact ⟨hx _ _ (hid.2.2 p hp) e1,(a_ fun y=>by rw[y,no] at e2;cases e2).trans e2⟩
 .rw[hl] at e;cases e;exact .inr ⟨c,oc,vs,tq,⟨hP,(a_ fun y=>by rw[y,no] at own;cases own).trans own,hid.2.2⟩,bl _ _ _,hd,hv⟩
 .rcases cs b with ⟨_,q⟩|⟨_,q⟩
  .cases q.symm.trans e
  .rcases cs d with ⟨_,q'⟩|⟨_,q'⟩
   .cases q'.symm.trans f
   .exact I.one b d k j (q.symm.trans e) (q'.symm.trans f)
 .rcases cs b with ⟨_,q⟩|⟨_,q⟩
  .cases q.symm.trans e
  .exact I.bd b k j (q.symm.trans e)
theorem vU {k:CE} {s:Sx} {ps:Arguments} {body:Expr} {scope:Scope} {env:Env} (h:t6 k s ps body scope=true):∃ cl,closureFor scope env=pure cl:=by
 obtain ⟨cl,e,_⟩:=ji (env:=env) (scope:=scope) fun p hp q=>by
  have:=ak (List.all_eq_true.mp (ak (ah (ah (ah h)))) p hp);rw[q] at this;cases this
 exact ⟨cl,e⟩
theorem vT {k:CE} {s:Sx} {ps:Arguments} {body:Expr} {scope:Scope} {env:Env} (h:t6 k s ps body scope=true):defaultsOf ps env=([],[]):=by
 have h:=ah (ah (ah (ah (ah h))));refine aW fun G9 k9=> ?_;obtain ⟨p1,p2,p3,p4,p5,p6,p7⟩:=ps;refine k9 ?_;have e1:p7=[]:=List.isEmpty_iff.mp (ak (ah h));have e2:p5=[]:=List.isEmpty_iff.mp (ak h);subst e1;subst e2;rfl
theorem Be {ke:CE} {X:SX} {ps:Arguments} {body:Expr} {scope:Scope} {pos:Pos} {P:Pt} {Q E:Value->Shared->Prop} (hl:X.lm=some l) (I:aE X.C P) (his:t6 ke X.sx ps body scope=true) (h1:pos.line=l.pos.line) (h2:pos.col=l.pos.col)
  (k:∀ fa P',bv P P'->aE X.C P'->P'.σ=P.σ->lU ke X.C P'.own l fa->Q (.ref fa) P'.s):wpAny X.M X.A (eval (.Lambda ps body scope pos) X.env) Q E P.s:=by
 refine aW fun G9 k9=> ?_;obtain ⟨hC,hcode,hq⟩:=X.lmE l hl;obtain ⟨cl,hcl⟩:=vU (env:=X.env) his;obtain ⟨g1,⟨bm,ob,b1,b2,b3,b4,b5,b6⟩,g3⟩:=X.good.lam l hC;refine k9 ?_;have base:∀ b o,X.C.H.get? b=some o->P.h.get? b=some o:=fun b o e=>(I.base b o e).1;have bat:P.h.BuiltinsAt X.C.mg l.P:=⟨bm,ob,b1,b2,b3,b4,base _ _ b5,b6⟩;refine kla_eval (vT his) ?_;rw[hq];rcases I.gh.tab l hC with h|⟨c,oc,vs,t,h,e1,e2,e3⟩
 .refine kla_makeFunction hcl X.glob (X.good.g.keeps base) hcode (g1.keeps base) h.1 trivial rfl g3 bat fun c' ctv h' tk hx hge hlt hrec htb=> ?_;refine aW fun G9 k9=> ?_;obtain ⟨c2,oc,vs,t,e,hoc,hd,hv⟩:=hrec;refine k9 ?_;cases e;rw[h1,h2] at htb;have J:=I.code (t:=tk) hC h hx htb hoc hge hd hv;have g:bv P (P.note h' tk c' oc):=.note (I.off hge);have n:=J.push (o:=kla_obj "<lambda>" l.qual ps body scope cl ((X.C.mg "__name__").getD .none) c' ctv) rfl;exact k _ _ (g.trans (.note n.own)) (J.note (t:=tk) n) rfl ⟨rfl,rfl,rfl,rfl,his,bl _ _ _,dg n.own _ _ (bl _ _ _),hd,hv⟩
 .have hf:codeAmong pos [rawInt l.pos.line,rawInt l.pos.col,.ref c]=some (.ref c):=by
   show (if ((l.pos.line:Int)==(pos.line:Int)&&(l.pos.col:Int)==(pos.col:Int))=true then some (Value.ref c) else _)=_;rw[h1,h2,beq_self_eq_true,beq_self_eq_true];rfl
  refine kla_makeFunctionHit hcl X.glob (X.good.g.keeps base) hcode (g1.keeps base) h.1 (show TriplesOk [rawInt l.pos.line,rawInt l.pos.col,Value.ref c] from trivial) hf bat fun ctv h' tk hk hsz=> ?_;have n:sv X.C P (h'.push (kla_obj "<lambda>" l.qual ps body scope cl ((X.C.mg "__name__").getD .none) c ctv)) h'.objs.size (kla_obj "<lambda>" l.qual ps body scope cl ((X.C.mg "__name__").getD .none) c ctv):=⟨fun b o e=>Ol _ (hk b o e),I.off hsz,I.out hsz,Ox _ rfl⟩;exact k _ _ (.note n.own) (I.note (t:=tk) n) rfl ⟨rfl,rfl,rfl,rfl,his,bl _ _ _,dg n.own _ _ e1,e2,e3⟩
set_option maxHeartbeats 400000 in
theorem Bf {ke:CE} {A:Around} {fa:Addr} {y:D} {v:Value} {ky:Int×Int} {Q E:Value->Shared->Prop} (Gd:eA C) (hfrs:lV A P.fs) (hX:C.H.objs.size<=P.h.objs.size) (hdep:A.depth+151<recursionLimit) (huni:A.units+1003<cLine) (I:aE C P) (L:lU ke C P.own l fa) (r:RD C P.own y v) (hk:∀ K,ke.ev K [some (.d y)] P.σ=some (.ok (.d (fX ky)),P.σ))
  (k:∀ kv P',bv P P'->aE C P'->P'.σ=P.σ->RD C P'.own (fX ky) kv->Q kv P'.s):wpAny C.M A (call (.ref fa) [v]) Q E P.s:=by
 refine aW fun G9 k9=> ?_;obtain @⟨nm,ps,body,scope,clos,pm,ctv,c,oc,vs,t,s,f1,f2,f3,f4,his,w1,w2,w3,w4⟩:=L;have p11:=(Bool.not_eq_true' _).mp (ak his);have p10:=(Bool.not_eq_true' _).mp (ak (ah his));have p9:=bu (ak (ah (ah his)));have p8:=ak (ah (ah (ah his)));have his:=ah (ah (ah (ah his)));have p7:=ak his;have his:=ah (ah (ah his));have p4:=Option.isNone_iff_eq_none.mp (ak his);have p3:=Option.isNone_iff_eq_none.mp (ak (ah his));have p2:=List.isEmpty_iff.mp (ak (ah (ah his)));have p1:=List.isEmpty_iff.mp (ah (ah (ah his)));have base:∀ b o,C.H.get? b=some o->P.h.get? b=some o:=fun b o e=>(I.base b o e).1;obtain ⟨a,ea,pn,pk⟩:∃ a,ps.args=[a]/\scope.names.lookup a.arg=some .local/\ke.is ⟨s.fnm,s.att,s.key,s.gls,scope,[(a.arg,0)],none⟩ body=true:=
  dj (fun as=>∃ a,as=[a]/\scope.names.lookup a.arg=some .local/\ke.is ⟨s.fnm,s.att,s.key,s.gls,scope,[(a.arg,0)],none⟩ body=true) p7 fun a h=>⟨a,rfl,bu (ah h),ak h⟩
 refine k9 ?_;have hcell:∀ x∈scope.names,x.2≠ .cell:=fun x hx q=>by
  have:=ah (List.all_eq_true.mp p8 x hx);rw[q] at this;cases this
 have hnc:∀ y,scope.names.lookup y≠some .cell:=fun y q=>hcell _ (co q) rfl;refine wpAny_call (kla_callFunE (by exact Nat.lt_of_add_right_lt hdep) (I.fz _ _ w1) rfl p10 p11 rfl ⟨c,oc,vs,t,rfl,I.fz _ _ w2,w3,w4⟩ ?_);rw[kg (names:=[a.arg]) p1 p2 p3 p4 (by show ps.args.map _=_;rw[ea];rfl) rfl rfl (OW.mpr ⟨Oy,OZ⟩)];refine Oq (wpAny_newFunctionEnv hcell (fun x hx=>by rw[Oi.mp hx];exact pn) (fun h₁ hns hsb=>⟨((Gd.nolimit).keeps base).fresh _ hsb,?_⟩) p9);refine kla_codeExpr ?_;generalize henv:newEnv scope P.s.heap.objs.size mainGlobals clos (l.qual++".<locals>.") (some fa) (.ref c) none builtinsNs=env';have e1:env'.locals=P.h.objs.size:=by rw[<-henv];rfl
 have e2:env'.frame=some P.h.objs.size:=by rw[<-henv];rfl
 have e3:env'.scope=scope:=by rw[<-henv];rfl
 have e4:env'.globals=mainGlobals:=by rw[<-henv];rfl
 have e5:env'.builtins=builtinsNs:=by rw[<-henv];rfl
 have kp:∀ b o,P.h.get? b=some o->h₁.get? b=some o:=fun b o e=>hsb.extBut b o (Nat.ne_of_lt (OK e)) (Ol _ e);generalize hg:(⟨P.h.objs.size,fun x=>List.lookup x [(a.arg,v)].reverse,[],fun _=>none⟩:Fm)=g;have gL:g.L=P.h.objs.size:=by rw[<-hg]
 have gm:g.m a.arg=some v:=by rw[<-hg];show List.lookup a.arg [(a.arg,v)]=_;rw[List.lookup_cons,beq_self_eq_true]
 have gc:g.cells=[]:=by rw[<-hg]
 have J:aE C (P.enter h₁ (P.s.toks+1) g):=I.enter hX kp (O1 gL.symm) (by rw[<-hg];exact hns) (by rw[gc];exact fun c hc=>absurd hc Oy);have xE:Ext P (P.enter h₁ (P.s.toks+1) g):=.enter I fun b o e q=>by
  rw[Fm.adr,gc,Oi] at q;have lt:=OK e;rw[q,gL] at lt;exact OU _ lt
 obtain ⟨ls,hls,hfr⟩:=hfrs;have fr:(A.deeper env').frames=some (env'::ls):=by simp [Around.deeper,hls]
 let X:Cx:={C:=C,A:=A.deeper env',env:=env',sc:=scope,Γ:=[(a.arg,0)],d:=0,hd:=true,good:=Gd,calls:=fun _ _ _ _ _ _ _ _ _ _ _ _ _ _ _ _ w=>w.elim,kinds:=fun y=>⟨by rw[e3];exact id,fun h=>by unfold Env.kindOf;rw[e3];exact bu (ah h),fun h=>absurd h (hnc y)⟩,kind:=(by rw[e3];exact p9),glob:=e4,blt:=e5,dep:=(by show A.depth+1+8*0+150<recursionLimit;exact Nat.lt_of_succ_le hdep),uni:=(by show A.units+3+64*0+1000<cLine;exact Nat.lt_of_succ_le huni),hnd:=(fun q=>by cases q),lm:=none}
 have hE:EnvOK X (P.enter h₁ (P.s.toks+1) g) [some (.d y)]:=by
  refine ⟨⟨env'::ls,fr,fun z hz=> ?_⟩,fun q=>(by cases q),fun y' i p hy hm hp=> ?_⟩
  .rcases Oe.mp hz with q|hz
   .rw[q];exact ⟨by rw[e3,p9];decide,g,.head _,by rw[gL];exact e2⟩
   .obtain ⟨k,q,hq,e⟩:=hfr z hz;exact ⟨k,q,.tail _ hq,e⟩
  .have hy:List.lookup y' [(a.arg,0)]=some i:=hy;rw[List.lookup_cons] at hy;cases q:y'==a.arg with
   |false=>rw[q] at hy;cases hy
   |true=>
    rw[q] at hy;cases hy;cases hp;obtain rfl:=bu q;exact ⟨v,RV.ext xE (p:=.d y) r,.inl ⟨by unfold Env.kindOf;rw[show X.env=env' from rfl,e3];exact pn,g,.head _,gL.trans e1.symm,gm⟩⟩
 refine ke.ok X body [some (.d y)] (P.enter h₁ (P.s.toks+1) g) (fun z σ=>z= .ok (.d (fX ky))/\σ=P.σ) _ _ (by show ke.is ⟨C.fnm,C.att,C.key,C.gls,scope,[(a.arg,0)],none⟩ body=true;rw[<-f1,<-f2,<-f3,<-f4];exact pk) J hE (by show Wp _ (ke.ev X.ker [some (.d y)] P.σ);rw[hk];exact ⟨rfl,rfl⟩) ⟨fun p w P' g' I' r' kk=> ?_,fun c e P' _ _ _ kk=>by cases kk.1⟩;obtain ⟨q1,q2⟩:=kk;cases q1;have x:=xE.trans g'.toExt;refine u7 (K:=fun z σ=>z= .ok (.d (fX ky))/\σ=P.σ) (keep:=false) I' x g'.fs r' ?_ fun p' P'' g2 I2 r2 k2=> ?_
 .show _/\P'.σ.take P.σ.length=P.σ;rw[q2,List.take_length];exact ⟨rfl,rfl⟩
 .cases k2.1;exact k w P'' g2 I2 k2.2 r2
end
structure Wo {ι:Type} (c:ι->ι->Bool) where
 M:Model
 A:Around
 E:Value->Shared->Prop
 s:Shared
 it:ι->Keyed
 kd:SortKind
 lt:∀ i j (Q:Bool->Shared->Prop),Q (c i j) s->wpAny M A (keyLt' kd (it i).1 (it j).1) Q (fun _ _=>False) s
structure Ls (ι:Type) where
 a:Array ι
 p:Array (Nat×Nat×Nat)
 g:Nat
section
variable {ι α β γ δ:Type} {c:ι->ι->Bool}
noncomputable abbrev Av (w:Wo c) (l:Ls ι):SortSt:=SortSt.mk' w.kd (l.a.map w.it) l.p l.g none
def Dt (p:Wo c->StateT SortSt Sem α) (l:Ls ι) (r:Wo c->β->α) (Q:β->Ls ι->Prop):Prop:=
 ∃ b l',Q b l'/\∀ (w:Wo c) (K:α->SortSt->Prop),K (r w b) (Av w l')->wpS w.M w.A w.E w.s (p w) K (Av w l)
variable {l l':Ls ι} {r:Wo c->β->α} {Q:β->Ls ι->Prop} {r':Wo c->δ->γ} {Q':δ->Ls ι->Prop}
theorem Dt.pure {x:Wo c->α} (b:β) (h:∀ w,x w=r w b) (q:Q b l):Dt (fun w=>Pure.pure (x w)) l r Q:=⟨b,l,q,fun w K k=>wpS_pure (by rw[h];exact k)⟩
theorem Dt.bind {p:Wo c->StateT SortSt Sem γ} {f:Wo c->γ->StateT SortSt Sem α} (h:Dt p l r' Q') (k:∀ b l',Q' b l'->Dt (fun w=>f w (r' w b)) l' r Q):Dt (fun w=>p w>>=f w) l r Q:=by
 obtain ⟨b,l1,q,h⟩:=h;obtain ⟨b2,l2,q2,k⟩:=k b l1 q;exact ⟨b2,l2,q2,fun w K hK=>wpS_bind (h w _ (k w K hK))⟩
theorem Dt.mono {p:Wo c->StateT SortSt Sem α} {Q₂:β->Ls ι->Prop} (h:Dt p l r Q) (k:∀ b l',Q b l'->Q₂ b l'):Dt p l r Q₂:=by
 obtain ⟨b,l1,q,h⟩:=h;exact ⟨b,l1,k _ _ q,h⟩
theorem Dt.get {f:Wo c->SortSt->StateT SortSt Sem α} (h:Dt (fun w=>f w (Av w l)) l r Q):Dt (fun w=>MonadState.get>>=f w) l r Q:=by
 obtain ⟨b,l1,q,h⟩:=h;exact ⟨b,l1,q,fun w K hK=>wpS_bind (wpS_get (h w K hK))⟩
theorem Dt.modify {g:Wo c->SortSt->SortSt} {f:Wo c->PUnit->StateT SortSt Sem α} (l':Ls ι) (e:∀ w,g w (Av w l)=Av w l') (h:Dt (fun w=>f w ⟨⟩) l' r Q):Dt (fun w=>modify (g w)>>=f w) l r Q:=by
 obtain ⟨b,l1,q,h⟩:=h;exact ⟨b,l1,q,fun w K hK=>wpS_bind (wpS_modify (by rw[e];exact h w K hK))⟩
theorem Dt.rule {t:String} {f:Wo c->Unit->StateT SortSt Sem α} (h:Dt (fun w=>f w ()) l r Q):Dt (fun w=>(liftM (PySem.rule t):StateT SortSt Sem Unit)>>=f w) l r Q:=by
 obtain ⟨b,l1,q,h⟩:=h;exact ⟨b,l1,q,fun w K hK=>wpS_bind (wpS_lift (wpAny_rule ⟨rfl,h w K hK⟩))⟩
theorem Dt.lt {i j:ι} {f:Wo c->Option Bool->StateT SortSt Sem α} (h:Dt (fun w=>f w (some (c i j))) l r Q):Dt (fun w=>lt' (w.it i) (w.it j)>>=f w) l r Q:=by
 obtain ⟨b,l1,q,h⟩:=h;refine ⟨b,l1,q,fun w K hK=>wpS_bind ?_⟩;rw[lt'_eq];refine wpS_bind (wpS_get ?_);refine wpS_bind (wpS_lift (wpAny_attempt (wpAny_mono (w.lt i j (fun b s'=>b=c i j/\s'=w.s) ⟨rfl,rfl⟩) (fun b s' q=> ?_) fun _ _ x=>x.elim)));obtain ⟨rfl,rfl⟩:=q;exact ⟨rfl,wpS_pure (h w K hK)⟩
theorem Dt.elem {a:Array ι} {i:Nat} {x:ι} {f:Wo c->Keyed->StateT SortSt Sem α} (e:a[i]? =some x) (h:Dt (fun w=>f w (w.it x)) l r Q):Dt (fun w=>elem' (a.map w.it) i>>=f w) l r Q:=by
 obtain ⟨b,l1,q,h⟩:=h;refine ⟨b,l1,q,fun w K hK=>wpS_bind ?_⟩;rw[elem'_eq,Array.getElem?_map,e];exact wpS_pure (h w K hK)
noncomputable def we (g:β->α):ForInStep β->ForInStep α
 | .done b=>.done (g b)
 | .yield b=>.yield (g b)
def wd (Q I:β->Ls ι->Prop):ForInStep β->Ls ι->Prop
 | .done b=>Q b
 | .yield b=>I b
theorem Dt.list {f:Wo c->Nat->α->StateT SortSt Sem (ForInStep α)} (I:List Nat->β->Ls ι->Prop)
  (hs:∀ x xs b l,I (x::xs) b l->Dt (fun w=>f w x (r w b)) l (fun w=>we (r w)) (wd Q (I xs)))
  (he:∀ b l,I [] b l->Q b l) (xs:List Nat):∀ (b:β) (l:Ls ι),I xs b l->Dt (fun w=>forIn xs (r w b) (f w)) l r Q:=by
 induction xs with
 |nil=>
  refine fun b l h=>⟨b,l,he _ _ h,fun w K hK=> ?_⟩;show wpS _ _ _ _ (forIn [] (r w b) (f w)) K _;rw[List.forIn_nil];exact wpS_pure hK
 |cons x xs ih=>
  intro b l h;obtain ⟨z,l1,q,k⟩:=hs x xs b l h;cases z with
  |done b'=>
   refine ⟨b',l1,q,fun w K hK=> ?_⟩;show wpS _ _ _ _ (forIn (x::xs) (r w b) (f w)) K _;rw[List.forIn_cons];exact wpS_bind (k w _ (wpS_pure hK))
  |yield b'=>
   obtain ⟨b2,l2,q2,k2⟩:=ih b' l1 q;refine ⟨b2,l2,q2,fun w K hK=> ?_⟩;show wpS _ _ _ _ (forIn (x::xs) (r w b) (f w)) K _;rw[List.forIn_cons];exact wpS_bind (k w _ (k2 w K hK))
theorem Dt.for {m k:Nat} {f:Wo c->Nat->α->StateT SortSt Sem (ForInStep α)} (I:Nat->β->Ls ι->Prop)
  (hs:∀ x b l,m<=x->x<k->I x b l->Dt (fun w=>f w x (r w b)) l (fun w=>we (r w)) (wd Q (I (x+1))))
  (he:∀ b l,I (max m k) b l->Q b l) {b:β} {l:Ls ι} (h:I m b l):Dt (fun w=>forIn [m:k] (r w b) (f w)) l r Q:=by
 have e:(fun w:Wo c=>(forIn [m:k] (r w b) (f w):StateT SortSt Sem α))=fun w=>forIn (List.range' m (k - m) 1) (r w b) (f w):=funext fun w=>by
  rw[Std.Legacy.Range.forIn_eq_forIn_range'];have hsz:([m:k]:Std.Legacy.Range).size=k - m:=by simp [Std.Legacy.Range.size]
  show (forIn (List.range' m ([m:k]:Std.Legacy.Range).size 1) (r w b) (f w):StateT SortSt Sem α)=_;rw[hsz]
 rw[e];refine Dt.list (fun xs b l=>∃ i,m<=i/\i+xs.length=max m k/\xs=List.range' i xs.length 1/\I i b l) (fun x xs b l q=> ?_) (fun b l q=> ?_) _ b l ⟨m,Oo _,by rw[List.length_range'];exact Ji,by rw[List.length_range'],h⟩
 .obtain ⟨i,h1,h2,h3,h4⟩:=q;rw[Ok] at h2;rw[Ok,List.range'_succ] at h3;obtain ⟨rfl,h3⟩:=List.cons.inj h3;refine (hs x b l h1 (Jh h1 h2) h4).mono fun z l' q=> ?_;cases z with
  |done b'=>exact q
  |yield b'=>exact ⟨x+1,by exact OF h1,Jg h2,h3,q⟩
 .obtain ⟨i,h1,h2,_,h4⟩:=q;rw[O2,Nat.add_zero] at h2;subst h2;exact he _ _ h4
end
noncomputable def HF:Bool->Keyed->Array Keyed->Nat->Nat->Nat->StateT SortSt Sem (Option Nat):=sortPriv% PySem.Builtin.gallop
section
variable {ι α β:Type} {c:ι->ι->Bool} {l l':Ls ι} {r:Wo c->β->α} {Q:β->Ls ι->Prop}
theorem Dt.ite {P:Prop} [Decidable P] {p q:Wo c->StateT SortSt Sem α} (h1:P->Dt p l r Q) (h2:¬P->Dt q l r Q):Dt (fun w=>if P then p w else q w) l r Q:=by
 by_cases h:P
 .rw[show (fun w=>if P then p w else q w)=p from funext fun w=>if_pos h];exact h1 h
 .rw[show (fun w=>if P then p w else q w)=q from funext fun w=>if_neg h];exact h2 h
theorem Dt.get' {a:Array ι} {i:Nat} {f:Wo c->Keyed->StateT SortSt Sem α} (e:i<a.size) (h:∀ x∈a,a[i]? =some x->Dt (fun w=>f w (w.it x)) l r Q):Dt (fun w=>elem' (a.map w.it) i>>=f w) l r Q:=
 Dt.elem (Array.getElem?_eq_getElem e) (h _ (Array.getElem_mem e) (Array.getElem?_eq_getElem e))
theorem Dt.lt1 {i j:ι}:Dt (fun w:Wo c=>lt' (w.it i) (w.it j)) l (fun _ z=>some z) (fun _ l'=>l'=l):=by
 obtain ⟨b,l1,q,k⟩:=Dt.lt (i:=i) (j:=j) (l:=l) (r:=fun (w:Wo c) (z:Bool)=>some z) (Q:=fun _ l'=>l'=l) (f:=fun _ z=>Pure.pure z) (Dt.pure _ (fun w=>rfl) rfl);refine ⟨b,l1,q,fun w K hK=> ?_⟩;have e:wpS w.M w.A w.E w.s (lt' (w.it i) (w.it j)>>=Pure.pure) K (Av w l):=k w K hK;rw[bind_pure] at e;exact e
theorem Dt.bey {L:Bool} {x:ι} {a:Array ι} {i:Nat} {f:Wo c->Option Bool->StateT SortSt Sem α} (e:i<a.size) (h:∀ z,Dt (fun w=>f w (some z)) l r Q):Dt (fun w=>(elem' (a.map w.it) i>>=fun y=>if L=true then lt' y (w.it x) else lt' (w.it x) y>>=fun o=>Pure.pure (o.map (!·)))>>=f w) l r Q:=
 Dt.bind (r':=fun _ z=>some z) (Q':=fun _ l'=>l'=l) (Dt.get' e fun y _ _=>Dt.ite (fun _=>Dt.lt1) fun _=>Dt.lt (Dt.pure _ (fun w=>rfl) rfl)) fun z l' q=>q ▸ h z
theorem Dt.dn {I:β->Ls ι->Prop} {x:Wo c->α} (b:β) (h:∀ w,x w=r w b) (q:Q b l):Dt (fun w=>Pure.pure (ForInStep.done (x w))) l (fun w=>we (r w)) (wd Q I):=Dt.pure (.done b) (fun w=>congrArg ForInStep.done (h w)) q
theorem Dt.yl {I:β->Ls ι->Prop} {x:Wo c->α} (b:β) (h:∀ w,x w=r w b) (q:I b l):Dt (fun w=>Pure.pure (ForInStep.yield (x w))) l (fun w=>we (r w)) (wd Q I):=Dt.pure (.yield b) (fun w=>congrArg ForInStep.yield (h w)) q
noncomputable def Kr {δ γ:Type} (w:Wo c):ForInStep (Option δ×γ)->ForInStep (Option δ×γ):=we fun k=>k
noncomputable def QI {δ γ:Type} (Z I:γ->Ls ι->Prop):ForInStep (Option δ×γ)->Ls ι->Prop:=wd (fun k l=>k.1=none/\Z k.2 l) fun k l=>k.1=none/\I k.2 l
theorem yI {δ γ:Type} {Z I:γ->Ls ι->Prop} {g:γ} (h:I g l):Dt (fun w:Wo c=>Pure.pure (ForInStep.yield ((none:Option δ),g))) l Kr (QI Z I):=Dt.pure (.yield (none,g)) (fun w=>rfl) ⟨rfl,h⟩
theorem dI {δ γ:Type} {Z I:γ->Ls ι->Prop} {g:γ} (h:Z g l):Dt (fun w:Wo c=>Pure.pure (ForInStep.done ((none:Option δ),g))) l Kr (QI Z I):=Dt.pure (.done (none,g)) (fun w=>rfl) ⟨rfl,h⟩
theorem Dt.l1 {δ γ:Type} {m n:Nat} {F:Wo c->Nat->Option δ×γ->StateT SortSt Sem (ForInStep (Option δ×γ))} {f:Wo c->Option δ×γ->StateT SortSt Sem α} {b:γ} (I:Nat->γ->Ls ι->Prop) (Z:γ->Ls ι->Prop) (h0:I m b l) (he:∀ g l',I (max m n) g l'->Z g l')
  (hs:∀ x g l',m<=x->x<n->I x g l'->Dt (fun w=>F w x (none,g)) l' Kr (QI Z (I (x+1)))) (h2:∀ g l',Z g l'->Dt (fun w=>f w (none,g)) l' r Q):Dt (fun w=>forIn [m:n] ((none:Option δ),b) (F w)>>=f w) l r Q:=by
 have e:∀ k:Option δ×γ,k.1=none->k=(none,k.2):=fun k h=>h ▸ rfl;refine Dt.bind (r':=fun _ k=>k) (Q':=fun (k:Option δ×γ) l'=>k.1=none/\Z k.2 l') (Dt.for (r:=fun _ (k:Option δ×γ)=>k) (fun x k l'=>k.1=none/\I x k.2 l') (fun x k l' h1 h2 h=> ?_) (fun k l' h=>⟨h.1,he _ _ h.2⟩) ⟨rfl,h0⟩) fun k l' h=> ?_
 .rw[e k h.1];exact hs x k.2 l' h1 h2 h.2
 .rw[e k h.1];exact h2 k.2 l' h.2
theorem Dt.gal {L:Bool} {x:ι} {a:Array ι} {b n h:Nat} (hn:b+n<=a.size) (hh:h<n):Dt (fun w:Wo c=>HF L (w.it x) (a.map w.it) b n h) l (fun _ k=>some k) (fun k l'=>l'=l/\k<=n):=by
 have hb:∀ i,i<n->b+i<a.size:=fun i hi=>OD (Nat.add_lt_add_left hi b) hn;refine Dt.bey (hb h hh) fun z=>Dt.ite (fun _=> ?_) fun _=> ?_
 .refine Dt.l1 (fun _ _ l'=>l'=l) (fun _ l'=>l'=l) rfl (fun _ _ q=>q) (fun i k l' _ hi q=> ?_) fun k l' q=> ?_
  .subst q;refine Dt.ite (fun _=>dI (g:=k) rfl) fun h2=> ?_;have h2:¬k.2≥n - h:=h2;exact Dt.bey (i:=b+(h+k.2)) (hb _ (Jf h2)) fun z=>Dt.ite (fun _=>dI (g:=k) rfl) fun _=>yI (g:=(k.2,2*k.2+1)) rfl
  .subst q;refine Dt.l1 (b:=(h+k.1+1,h+min k.2 (n - h))) (fun _ k l2=>l2=l'/\k.2<=n) (fun k l2=>l2=l'/\k.2<=n) ⟨rfl,by show h+min k.2 (n - h)<=n;exact Je hh⟩ (fun _ _ q=>q) (fun i k l2 _ hi q=> ?_) fun k l2 q=>Dt.pure k.2 (fun w=>rfl) q;obtain ⟨rfl,q⟩:=q;refine Dt.ite (fun _=>dI (g:=k) ⟨rfl,q⟩) fun h2=> ?_;have h2:¬k.1≥k.2:=h2;have h3:k.1+(k.2 - k.1) / 2<n:=Ff q h2;exact Dt.bey (i:=b+(k.1+(k.2 - k.1) / 2)) (hb _ h3) fun z=>Dt.ite (fun _=>yI (g:=(k.1+(k.2 - k.1) / 2+1,k.2)) ⟨rfl,q⟩) fun _=>yI (g:=(k.1,k.1+(k.2 - k.1) / 2)) ⟨rfl,OQ h3⟩
 .refine Dt.l1 (fun _ _ l'=>l'=l) (fun _ l'=>l'=l) rfl (fun _ _ q=>q) (fun i k l' _ hi q=> ?_) fun k l' q=> ?_
  .subst q;refine Dt.ite (fun _=>dI (g:=k) rfl) fun h2=> ?_;have h2:¬k.2≥h+1:=h2;exact Dt.bey (i:=b+(h - k.2)) (hb _ (Jd hh)) fun z=>Dt.ite (fun _=>dI (g:=k) rfl) fun _=>yI (g:=(k.2,2*k.2+1)) rfl
  .subst q;refine Dt.l1 (b:=(h+1 - min k.2 (h+1),h - k.1)) (fun _ k l2=>l2=l'/\k.2<=n) (fun k l2=>l2=l'/\k.2<=n) ⟨rfl,by show h - k.1<=n;exact Jc hh⟩ (fun _ _ q=>q) (fun i k l2 _ hi q=> ?_) fun k l2 q=>Dt.pure k.2 (fun w=>rfl) q;obtain ⟨rfl,q⟩:=q;refine Dt.ite (fun _=>dI (g:=k) ⟨rfl,q⟩) fun h2=> ?_;have h2:¬k.1≥k.2:=h2;have h3:k.1+(k.2 - k.1) / 2<n:=Ff q h2;exact Dt.bey (i:=b+(k.1+(k.2 - k.1) / 2)) (hb _ h3) fun z=>Dt.ite (fun _=>yI (g:=(k.1+(k.2 - k.1) / 2+1,k.2)) ⟨rfl,q⟩) fun _=>yI (g:=(k.1,k.1+(k.2 - k.1) / 2)) ⟨rfl,OQ h3⟩
end
noncomputable section
noncomputable def Jn:Array Keyed->Array Keyed->StateT SortSt Sem (Array Keyed):=sortPriv% PySem.Builtin.mergeLo
noncomputable def Jo:Array Keyed->Array Keyed->StateT SortSt Sem (Array Keyed):=sortPriv% PySem.Builtin.mergeHi
section
variable {ι α β:Type} {c:ι->ι->Bool} {l l':Ls ι} {r:Wo c->β->α} {Q:β->Ls ι->Prop}
theorem Dt.itw {P:Wo c->Prop} [∀ w,Decidable (P w)] {p q:Wo c->StateT SortSt Sem α} (P':Prop) (e:∀ w,P w<->P') (h2:¬P'->Dt q l r Q) (h1:P'->Dt p l r Q):Dt (fun w=>if P w then p w else q w) l r Q:=by
 by_cases h:P'
 .rw[show (fun w=>if P w then p w else q w)=p from funext fun w=>if_pos ((e w).mpr h)];exact h1 h
 .rw[show (fun w=>if P w then p w else q w)=q from funext fun w=>if_neg fun z=>h ((e w).mp z)];exact h2 h
theorem Dt.eq {p p':Wo c->StateT SortSt Sem α} (e:∀ w,p w=p' w) (h:Dt p' l r Q):Dt p l r Q:=by rw[funext e];exact h
theorem Dt.itd {P:Prop} {d:Wo c->Decidable P} {p q:Wo c->StateT SortSt Sem α} (h2:¬P->Dt q l r Q) (h1:P->Dt p l r Q):Dt (fun w=>@_root_.ite _ P (d w) (p w) (q w)) l r Q:=by
 by_cases h:P
 .rw[show (fun w=>@_root_.ite _ P (d w) (p w) (q w))=p from funext fun w=>if_pos h];exact h1 h
 .rw[show (fun w=>@_root_.ite _ P (d w) (p w) (q w))=q from funext fun w=>if_neg h];exact h2 h
theorem Dt.ky {P:Prop} {d:Wo c->Decidable P} {p q:Wo c->StateT SortSt Sem α} {F:Nat->Wo c->StateT SortSt Sem α} (g g':Nat) (k:∀ g,Dt (F g) l r Q) (e:q=F g:=by rfl) (e':p=F g':=by rfl):Dt (fun w=>@_root_.ite _ P (d w) (p w) (q w)) l r Q:=Dt.itd (fun _=>e ▸ k g) fun _=>e' ▸ k g'
theorem Dt.kz {P:Prop} {d:Wo c->Decidable P} {τ:Type} {R:τ->Nat->Prop} {p q:Wo c->StateT SortSt Sem α} {F:τ->Nat->Wo c->StateT SortSt Sem α} (o:τ) (i:Nat) (z:¬P->R o i) (k:∀ o i,R o i->Dt (F o i) l r Q) (m:(∀ o i,R o i->Dt (F o i) l r Q)->P->Dt p l r Q) (e:q=F o i:=by rfl):Dt (fun w=>@_root_.ite _ P (d w) (p w) (q w)) l r Q:=Dt.itd (fun n=>e ▸ k o i (z n)) (m k)
theorem Dt.eqs {i':Wo c->Nat} {a:Array ι} {p q:Wo c->StateT SortSt Sem α} (i:Nat) (e:∀ w,i' w=i) (h2:i≠a.size->Dt q l r Q) (h1:i=a.size->Dt p l r Q):Dt (fun w=>if (i' w==(a.map w.it).size)=true then p w else q w) l r Q:=
 Dt.itw (i=a.size) (fun w=>by rw[e,Array.size_map,beq_iff_eq]) h2 h1
theorem Dt.el {a:Array ι} {i':Wo c->Nat} {f:Wo c->Keyed->StateT SortSt Sem α} (i:Nat) (ei:∀ w,i' w=i) (e:i<a.size) (h:∀ x,a[i]? =some x->Dt (fun w=>f w (w.it x)) l r Q):Dt (fun w=>elem' (a.map w.it) (i' w)>>=f w) l r Q:=by
 rw[show i'=fun _=>i from funext ei];exact Dt.elem (Array.getElem?_eq_getElem e) (h _ (Array.getElem?_eq_getElem e))
theorem Dt.fors {m k:Nat} {k':Wo c->Nat} {f:Wo c->Nat->α->StateT SortSt Sem (ForInStep α)} {b':Wo c->α} (b:β) (ek:∀ w,k' w=k) (eb:∀ w,b' w=r w b) (I:Nat->β->Ls ι->Prop)
  (hs:∀ x b l,m<=x->x<k->I x b l->Dt (fun w=>f w x (r w b)) l (fun w=>we (r w)) (wd Q (I (x+1))))
  (he:∀ b l,I (max m k) b l->Q b l) {l:Ls ι} (h:I m b l):Dt (fun w=>forIn [m:k' w] (b' w) (f w)) l r Q:=by
 rw[show k'=fun _=>k from funext ek,show b'=fun w=>r w b from funext eb];exact Dt.for I hs he h
theorem Dt.gb {L:Bool} {x:ι} {a:Array ι} {b':Wo c->Nat} {f:Wo c->Option Nat->StateT SortSt Sem α} (b:Nat) (e:∀ w,b' w=b) (hb:b<a.size) (h:∀ k,b+k<=a.size->Dt (fun w=>f w (some k)) l r Q):Dt (fun w=>HF L (w.it x) (a.map w.it) (b' w) ((a.map w.it).size - b' w) 0>>=f w) l r Q:=by
 rw[show (fun w:Wo c=>HF L (w.it x) (a.map w.it) (b' w) ((a.map w.it).size - b' w) 0>>=f w)=fun w=>HF L (w.it x) (a.map w.it) b (a.size - b) 0>>=f w from funext fun w=>by rw[Array.size_map,e]];exact Dt.bind (Dt.gal (by exact O1 (Nat.add_sub_cancel' (OQ hb))) (by exact Nat.sub_pos_of_lt hb)) fun k l' q=>q.1 ▸ h k (by omega)
def Mg (c:ι->ι->Bool) (T:List ι) (o:Wo c->Array Keyed) (x y:List ι):Prop:=∃ L:Array ι,(∀ w:Wo c,o w=L.map w.it)/\(L.toList++(x++y)).Perm T
variable {T x y z:List ι} {o o':Wo c->Array Keyed}
theorem Mg.a (h:Mg c T o (z++x) y) {B:Array ι} (e:B.toList=z) (eo:∀ w,o' w=o w++B.map w.it):Mg c T o' x y:=by
 obtain ⟨L,h1,h2⟩:=h;refine ⟨L++B,fun w=>by rw[eo,h1,Array.map_append],?_⟩;rw[Array.toList_append,e,List.append_assoc,<-List.append_assoc z];exact h2
theorem Mg.sw (h:Mg c T o x y):Mg c T o y x:=by
 obtain ⟨L,h1,h2⟩:=h;exact ⟨L,h1,(List.Perm.append_left _ List.perm_append_comm).trans h2⟩
theorem Mg.end (h:Mg c T o x y) {A B:Array ι} (ea:A.toList=x) (eb:B.toList=y) (eo:∀ w,o' w=o w++A.map w.it++B.map w.it):∃ L:Array ι,(∀ w:Wo c,o' w=L.map w.it)/\L.toList.Perm T:=by
 obtain ⟨L,h1,h2⟩:=h;refine ⟨L++A++B,fun w=>by rw[eo,h1,Array.map_append,Array.map_append],?_⟩;rw[Array.toList_append,Array.toList_append,ea,eb,List.append_assoc];exact h2
variable {X Y:Array ι} {i j k:Nat} {a:ι}
theorem Mg.blk (h:Mg c T o (X.toList.drop i) y) (eo:∀ w,o' w=o w++(X.map w.it).extract i (i+k)):Mg c T o' (X.toList.drop (i+k)) y:=by
 rw[show X.toList.drop i=(X.toList.drop i).take k++X.toList.drop (i+k) by rw[<-List.drop_drop,List.take_append_drop]] at h;refine h.a (B:=X.extract i (i+k)) ?_ fun w=>by rw[eo,Array.map_extract]
 rw[Array.toList_extract,List.extract_eq_take_drop,Nat.add_sub_cancel_left]
theorem Mg.psh (h:Mg c T o (X.toList.drop i) y) (e:X[i]? =some a) (eo:∀ w,o' w=(o w).push (w.it a)):Mg c T o' (X.toList.drop (i+1)) y:=by
 have e':X.toList[i]? =some a:=by rw[Array.getElem?_toList];exact e
 rw[List.drop_eq_getElem?_toList_append,e'] at h;exact h.a (B:=#[a]) rfl fun w=>by rw[eo,Array.push_eq_append,Array.map_singleton]
theorem Mg.don (h:Mg c T o (X.toList.drop i) (Y.toList.drop j)):∃ L:Array ι,(∀ w:Wo c,o w++(X.map w.it).extract i++(Y.map w.it).extract j=L.map w.it)/\L.toList.Perm T:=
 h.end (A:=X.extract i) (B:=Y.extract j) (by rw[Array.toList_extract,List.extract_eq_take_drop,List.take_of_length_le];rw[List.length_drop];exact Oo _) (by rw[Array.toList_extract,List.extract_eq_take_drop,List.take_of_length_le];rw[List.length_drop];exact Oo _) fun w=>by rw[Array.map_extract,Array.map_extract,Array.size_map,Array.size_map]
structure Lo (c:ι->ι->Bool) (X Y:Array ι) (t:Nat) (o:Wo c->Array Keyed) (i j:Nat):Prop where
 a:i+1<X.size
 b:j<Y.size
 n:t<=i+j
 p:Mg c (X.toList++Y.toList) o (X.toList.drop i) (Y.toList.drop j)
def Rt (c:ι->ι->Bool) (X Y:Array ι) (z:Option (Wo c->Array Keyed)):Prop:=∃ o,z=some o/\∃ L:Array ι,(∀ w:Wo c,o w=L.map w.it)/\L.toList.Perm (X.toList++Y.toList)
def sy (l l':Ls ι):Prop:=l'.a=l.a/\l'.p=l.p
theorem Lo.pa {t:Nat} {z:ι} (h:Lo c X Y t o i j) (e:X[i]? =some z) (n:i+1+1≠X.size) (eo:∀ w,o' w=(o w).push (w.it z)):Lo c X Y (t+1) o' (i+1) j:=⟨by have:=h.a;exact Nat.lt_of_le_of_ne this n,h.b,Jb h.n,h.p.psh e eo⟩
theorem Lo.pb {t:Nat} {z:ι} (h:Lo c X Y t o i j) (e:Y[j]? =some z) (n:j+1≠Y.size) (eo:∀ w,o' w=(o w).push (w.it z)):Lo c X Y (t+1) o' i (j+1):=⟨h.a,by have:=h.b;exact Nat.lt_of_le_of_ne this n,by have:=h.n;exact O9 this,(h.p.sw.psh e eo).sw⟩
theorem Lo.ka {t:Nat} (h:Lo c X Y t o i j) (hk:i+k<=X.size) (n:i+k+1≠X.size) (n':i+k≠X.size) (eo:∀ w,o' w=o w++(X.map w.it).extract i (i+k)):Lo c X Y t o' (i+k) j:=⟨by exact Nat.lt_of_le_of_ne (Nat.lt_of_le_of_ne hk n') n,h.b,Ja h.n,h.p.blk eo⟩
theorem Lo.kb {t:Nat} (h:Lo c X Y t o i j) (hk:j+k<=Y.size) (n:j+k≠Y.size) (eo:∀ w,o' w=o w++(Y.map w.it).extract j (j+k)):Lo c X Y t o' i (j+k):=⟨h.a,by exact Nat.lt_of_le_of_ne hk n,I_ h.n,(h.p.sw.blk eo).sw⟩
theorem Lo.le {t s:Nat} (h:Lo c X Y t o i j) (q:s<=t):Lo c X Y s o i j:=⟨h.a,h.b,Om q h.n,h.p⟩
theorem Lo.ha {t:Nat} (h:Lo c X Y t o i j):i<X.size:=Nat.lt_of_succ_lt h.a
section
variable {t:Nat} {z:ι}
theorem Lo.xa (h:Lo c X Y t o i j) (e:X[i]? =some z):Rt c X Y (some fun w=>(o w).push (w.it z)++(Y.map w.it).extract j++(X.map w.it).extract (i+1)):=⟨_,rfl,(h.p.psh e fun w=>rfl).sw.don⟩
theorem Lo.xb (h:Lo c X Y t o i j) (e:Y[j]? =some z):Rt c X Y (some fun w=>(o w).push (w.it z)++(X.map w.it).extract i++(Y.map w.it).extract (j+1)):=⟨_,rfl,(h.p.sw.psh e fun w=>rfl).sw.don⟩
theorem Lo.za (h:Lo c X Y t o i j):Rt c X Y (some fun w=>o w++(X.map w.it).extract i (i+k)++(X.map w.it).extract (i+k)++(Y.map w.it).extract j):=⟨_,rfl,(h.p.blk fun w=>rfl).don⟩
theorem Lo.zc (h:Lo c X Y t o i j):Rt c X Y (some fun w=>o w++(X.map w.it).extract i (i+k)++(Y.map w.it).extract j++(X.map w.it).extract (i+k)):=⟨_,rfl,(h.p.blk fun w=>rfl).sw.don⟩
theorem Lo.zb (h:Lo c X Y t o i j):Rt c X Y (some fun w=>o w++(Y.map w.it).extract j (j+k)++(X.map w.it).extract i++(Y.map w.it).extract (j+k)):=⟨_,rfl,(h.p.sw.blk fun w=>rfl).sw.don⟩
end
noncomputable abbrev SL (c:ι->ι->Bool) (β:Type):Type:=Option (Wo c->Array Keyed)×(Wo c->Array Keyed)×Nat×Nat×β
noncomputable abbrev MK (β T:Type):Type:=Option (Array Keyed)->Array Keyed->Nat->Nat->β->T
abbrev RL (c:ι->ι->Bool):Type:=Nat->(Wo c->Array Keyed)->Nat->Nat->Prop
noncomputable abbrev mL (β:Type):MK β (Option (Array Keyed)×Array Keyed×Nat×Nat×β):=fun s o i j b=>(s,o,i,j,b)
section
variable {T:Type}
noncomputable def rL (m:MK β T) (w:Wo c) (k:SL c β):T:=m (k.1.map (· w)) (k.2.1 w) k.2.2.1 k.2.2.2.1 k.2.2.2.2
noncomputable def fL (m:MK β T) (w:Wo c):ForInStep (SL c β)->ForInStep T:=we (rL m w)
def En (R:RL c) (X Y:Array ι) (l:Ls ι) (t:Nat) (k:SL c β) (l':Ls ι):Prop:=sy l l'/\(Rt c X Y k.1∨k.1=none/\R t k.2.1 k.2.2.1 k.2.2.2.1)
def In (R:RL c) (l:Ls ι) (t:Nat) (k:SL c β) (l':Ls ι):Prop:=sy l l'/\k.1=none/\R t k.2.1 k.2.2.1 k.2.2.2.1
noncomputable def Gn (R:RL c) (X Y:Array ι) (l:Ls ι) (t u:Nat):ForInStep (SL c β)->Ls ι->Prop:=wd (En R X Y l t) (In R l u)
theorem Dt.lL {β γ T:Type} {R:RL c} {l l':Ls ι} {r:Wo c->β->α} {Q:β->Ls ι->Prop} {b:γ} {n:Nat} {n':Wo c->Nat} {s':Wo c->T} (m:MK γ T) {F:Wo c->Nat->T->StateT SortSt Sem (ForInStep T)} {f:Wo c->T->StateT SortSt Sem α} {u:Nat->Nat} (t:Nat) (en:∀ w,n' w=n) (es:∀ w,s' w=m none (o w) i j b) (q:sy l l') (h:R (u 0) o i j) (hu:∀ o i j,R (u n) o i j->R t o i j)
  (hs:∀ (x:Nat) (l':Ls ι) (o:Wo c->Array Keyed) (i j:Nat) (b:γ),sy l l'->R (u x) o i j->Dt (fun w=>F w x (m none (o w) i j b)) l' (fL m) (Gn R X Y l t (u (x+1))))
  (h1:∀ (l':Ls ι) (o:Wo c->Array Keyed) (i j:Nat) (b:γ) (v:Wo c->Array Keyed),sy l l'->Rt c X Y (some v)->Dt (fun w=>f w (m (some (v w)) (o w) i j b)) l' r Q)
  (h2:∀ (l':Ls ι) (o:Wo c->Array Keyed) (i j:Nat) (b:γ),sy l l'->R t o i j->Dt (fun w=>f w (m none (o w) i j b)) l' r Q):Dt (fun w=>forIn [0:n' w] (s' w) (F w)>>=f w) l' r Q:=by
 have e:∀ (k:SL c γ) s w,k.1=s->rL m w k=m (s.map (· w)) (k.2.1 w) k.2.2.1 k.2.2.2.1 k.2.2.2.2:=fun k s w z=>z ▸ rfl;refine Dt.bind (r':=rL m) (Q':=En R X Y l t) (Dt.fors (m:=0) (r:=rL m) (none,o,i,j,b) en (fun w=>(es w).trans rfl) (fun x k l'=>In R l (u x) k l') (fun x k l' _ _ z=>Dt.eq (fun w=>congrArg (F w x) (e k none w z.2.1)) (hs x l' k.2.1 k.2.2.1 k.2.2.2.1 k.2.2.2.2 z.1 z.2.2)) (fun k l' z=>⟨z.1,.inr ⟨z.2.1,hu _ _ _ (by rw[Nat.zero_max] at z;exact z.2.2)⟩⟩) ⟨q,rfl,h⟩) fun k l' z=> ?_;rcases z.2 with ⟨v,e',z2⟩|⟨e',z3⟩
 .exact Dt.eq (fun w=>congrArg (f w) (e k (some v) w e')) (h1 l' k.2.1 k.2.2.1 k.2.2.2.1 k.2.2.2.2 v z.1 ⟨_,rfl,z2⟩)
 .exact Dt.eq (fun w=>congrArg (f w) (e k none w e')) (h2 l' k.2.1 k.2.2.1 k.2.2.2.1 k.2.2.2.2 z.1 z3)
theorem Dt.lG {β γ T:Type} {R:RL c} {l l':Ls ι} {r:Wo c->β->α} {Q:β->Ls ι->Prop} {g:Nat} {b:γ} {n:Nat} {n':Wo c->Nat} (m:MK (Nat×γ) T) {F:Wo c->Nat->T->StateT SortSt Sem (ForInStep T)} {f:Wo c->T->StateT SortSt Sem α} {u:Nat->Nat} (t:Nat) (en:∀ w,n' w=n) (q:sy l l') (h:R (u 0) o i j) (hu:∀ o i j,R (u n) o i j->R t o i j)
  (hs:∀ (x:Nat) (l':Ls ι) (o:Wo c->Array Keyed) (i j g:Nat) (b:γ),sy l l'->R (u x) o i j->Dt (fun w=>F w x (m none (o w) i j (g,b))) l' (fL m) (Gn R X Y l t (u (x+1))))
  (h1:∀ (l':Ls ι) (o:Wo c->Array Keyed) (i j g:Nat) (b:γ) (v:Wo c->Array Keyed),sy l l'->Rt c X Y (some v)->Dt (fun w=>f w (m (some (v w)) (o w) i j (g,b))) l' r Q)
  (h2:∀ (l':Ls ι) (o:Wo c->Array Keyed) (i j g:Nat) (b:γ),sy l l'->R t o i j->Dt (fun w=>f w (m none (o w) i j (g,b))) l' r Q):Dt (fun w=>forIn [0:n' w] (m none (o w) i j (g,b)) (F w)>>=f w) l' r Q:=
 Dt.lL m t en (fun _=>rfl) q h hu (fun x l' o i j b=>hs x l' o i j b.1 b.2) (fun l' o i j b=>h1 l' o i j b.1 b.2) fun l' o i j b=>h2 l' o i j b.1 b.2
end
section
variable {t u:Nat} {v:Wo c->Array Keyed} {b:β} {R:RL c}
theorem yL (q:sy l l') (h:R u o i j):Dt (fun w:Wo c=>Pure.pure (ForInStep.yield (none,o w,i,j,b))) l' (fL (mL β)) (Gn R X Y l t u):=Dt.pure (.yield (none,o,i,j,b)) (fun w=>rfl) ⟨q,rfl,h⟩
theorem dL (q:sy l l') (h:R t o i j):Dt (fun w:Wo c=>Pure.pure (ForInStep.done (none,o w,i,j,b))) l' (fL (mL β)) (Gn R X Y l t u):=Dt.pure (.done (none,o,i,j,b)) (fun w=>rfl) ⟨q,.inr ⟨rfl,h⟩⟩
theorem xL (q:sy l l') (h:Rt c X Y (some v)):Dt (fun w:Wo c=>Pure.pure (ForInStep.done (some (v w),o w,i,j,b))) l' (fL (mL β)) (Gn R X Y l t u):=Dt.pure (.done (some v,o,i,j,b)) (fun w=>rfl) ⟨q,.inl h⟩
end
theorem Dt.e1 {a:Array ι} {i:Nat} {f:Wo c->Keyed->StateT SortSt Sem α} (e:i<a.size) (h:∀ x,a[i]? =some x->Dt (fun w=>f w (w.it x)) l r Q):Dt (fun w=>elem' (a.map w.it) i>>=f w) l r Q:=Dt.elem (Array.getElem?_eq_getElem e) (h _ (Array.getElem?_eq_getElem e))
theorem Dt.ez {i:Nat} {p q:Wo c->StateT SortSt Sem α} (h2:i≠X.size->Dt q l r Q) (h1:i=X.size->Dt p l r Q):Dt (fun w=>if (i==(X.map w.it).size)=true then p w else q w) l r Q:=Dt.itw (i=X.size) (fun w=>by rw[Array.size_map,beq_iff_eq]) h2 h1
theorem Dt.ga {L:Bool} {x:ι} {a:Array ι} {b:Nat} {f:Wo c->Option Nat->StateT SortSt Sem α} (hb:b<a.size) (h:∀ k,b+k<=a.size->Dt (fun w=>f w (some k)) l r Q):Dt (fun w=>HF L (w.it x) (a.map w.it) b ((a.map w.it).size - b) 0>>=f w) l r Q:=Dt.gb b (fun w=>rfl) hb h
theorem Dt.mlo (hx:1<=X.size) (hy:1<=Y.size):Dt (fun w:Wo c=>Jn (X.map w.it) (Y.map w.it)) l (fun w (z:Wo c->Array Keyed)=>z w) (fun z l'=>sy l l'/\Rt c X Y (some z)):=by
 have sz:∀ w:Wo c,(X.map w.it).size+(Y.map w.it).size=X.size+Y.size:=fun w=>by rw[Array.size_map,Array.size_map]
 refine Dt.rule ?_;refine Dt.e1 (a:=Y) hy fun z e0=> ?_;have m0:Mg c (X.toList++Y.toList) (fun w=>#[w.it z]) (X.toList.drop 0) (Y.toList.drop 1):=by
  have h:Mg c (X.toList++Y.toList) (fun w=>#[]) (X.toList.drop 0) (Y.toList.drop 0):=⟨#[],fun w=>by rw[Array.map_empty],List.Perm.refl _⟩;exact (h.sw.psh e0 fun w=>rfl).sw
 refine Dt.ez (fun h1=> ?_) fun _=> ?_;rotate_left
 .exact Dt.pure _ (fun w=>rfl) ⟨⟨rfl,rfl⟩,_,rfl,m0.don⟩
 refine Dt.ez (fun h2=> ?_) fun _=> ?_;rotate_left
 .exact Dt.pure _ (fun w=>rfl) ⟨⟨rfl,rfl⟩,_,rfl,m0.sw.don⟩
 refine Dt.get ?_;refine Dt.lL (mL Nat) (R:=Lo c X Y) (l:=l) (o:=fun w=>#[w.it z]) (u:=fun x=>x+1) (i:=0) (j:=1) (b:=l.g) (X.size+Y.size+1) sz (fun _=>rfl) ⟨rfl,rfl⟩ ⟨by exact Nat.lt_of_le_of_ne hx h2,by exact Nat.lt_of_le_of_ne hy h1,Oo _,m0⟩ (fun _ _ _ h=>h) (fun t l' o i j g q1 q3=> ?_) (fun l' o i j g v q h=>Dt.pure v (fun w=>rfl) ⟨q,h⟩) fun l' o i j g q h=>absurd h.n (by have:=h.a;have:=h.b;exact I9 (by assumption) this);dsimp only;refine Dt.lL (mL (Nat×Nat)) (R:=Lo c X Y) (l:=l) (u:=fun _=>t+1) (o:=o) (i:=i) (j:=j) (b:=(0,0)) (t+1) sz (fun _=>rfl) q1 q3 (fun _ _ _ h=>h) (fun x l' o i j ab q1 q3=> ?_) (fun l' o i j ab v q h=>xL (v:=v) (o:=o) (i:=i) (j:=j) (b:=g) q h) fun l' o i j ab q1 q3=> ?_
 .dsimp only;refine Dt.e1 q3.b fun y ey=> ?_;refine Dt.e1 q3.ha fun x ex=> ?_;refine Dt.lt ?_;refine Dt.itd (fun _=> ?_) fun _=> ?_
  .refine Dt.e1 q3.ha fun x' ex=> ?_;refine Dt.ez (fun n=> ?_) fun _=>xL q1 (q3.xa ex);have P:=(q3.pa ex n (o':=fun w=>(o w).push (w.it x')) fun w=>rfl).le (OV _);exact Dt.itd (fun _=>yL q1 P) fun _=>dL q1 P
  .refine Dt.e1 q3.b fun y' ey=> ?_;refine Dt.ez (fun n=> ?_) fun _=>xL q1 (q3.xb ey);have P:=(q3.pb ey n (o':=fun w=>(o w).push (w.it y')) fun w=>rfl).le (OV _);exact Dt.itd (fun _=>yL q1 P) fun _=>dL q1 P
 .dsimp only;refine Dt.rule ?_;refine Dt.lG (mL (Nat×Nat×Nat)) (R:=Lo c X Y) (l:=l) (u:=fun x=>t+1+x) (t+1+1) sz q1 q3 (fun _ _ _ h=>h.le (by have:=q3.ha;exact Fd hy)) (fun x l' o i j g ab q1 q3=> ?_) (fun l' o i j g ab v q h=>xL (v:=v) (o:=o) (i:=i) (j:=j) (b:=g) q h) fun l' o i j g ab q1 q3=> ?_;rotate_left
  .refine Dt.modify ⟨l'.a,l'.p,g+1⟩ (fun w=>rfl) ?_;exact yL (l':=⟨l'.a,l'.p,g+1⟩) (o:=o) (b:=g+1) q1 q3
  dsimp only;refine Dt.ky g (g - 1) ?_;intro g;refine Dt.modify ⟨l'.a,l'.p,g⟩ (fun w=>rfl) ?_;refine Dt.e1 q3.b fun y ey=> ?_;refine Dt.ga q3.ha fun k hk=> ?_;refine Dt.kz (R:=fun o i=>Lo c X Y (t+1+x) o i j) o i (fun _=>q3) ?_ fun key k0=> ?_
  .intro o i q3;refine Dt.e1 q3.b fun y ey=> ?_;refine Dt.ez (fun n=> ?_) fun _=>xL q1 (q3.xb ey);have q4:=q3.pb ey n (o':=fun w=>(o w).push (w.it y)) fun w=>rfl;refine Dt.e1 q4.ha fun x' ex=> ?_;refine Dt.ga q4.b fun m hm=> ?_;refine Dt.itd (fun _=> ?_) fun _=> ?_
   .refine Dt.e1 q4.ha fun x' ex=> ?_;refine Dt.ez (fun n=> ?_) fun _=>xL q1 (q4.xa ex);have q5:=(q4.pa ex n (o':=fun w=>((o w).push (w.it y)).push (w.it x')) fun w=>rfl).le (OV _);exact Dt.itd (fun _=>yL q1 q5) fun _=>dL q1 (q5.le (xd))
   .refine Dt.ez (fun n=> ?_) fun _=>xL q1 q4.zb;have q6:=q4.kb hm n (o':=fun w=>(o w).push (w.it y)++(Y.map w.it).extract (j+1) (j+1+m)) fun w=>rfl;refine Dt.e1 q4.ha fun x' ex=> ?_;refine Dt.ez (fun n=> ?_) fun _=>xL q1 (q6.xa ex);have q5:=(q6.pa ex n (o':=fun w=>((o w).push (w.it y)++(Y.map w.it).extract (j+1) (j+1+m)).push (w.it x')) fun w=>rfl).le (OV _);exact Dt.itd (fun _=>yL q1 q5) fun _=>dL q1 (q5.le (xd))
  .refine Dt.ez (fun n=> ?_) fun _=>xL q1 q3.zc;refine Dt.ez (fun n'=> ?_) fun _=>xL q1 q3.za;exact key _ _ (q3.ka hk n n' fun w=>rfl)
end
end
section
variable {ι α β:Type} {c:ι->ι->Bool} {l l':Ls ι} {r:Wo c->β->α} {Q:β->Ls ι->Prop} {T x y z:List ι} {o o':Wo c->Array Keyed} {X Y:Array ι} {i j k:Nat} {a:ι}
theorem Mg.pm {x':List ι} (h:Mg c T o x y) (p:x'.Perm x):Mg c T o x' y:=by
 obtain ⟨L,h1,h2⟩:=h;exact ⟨L,h1,(List.Perm.append_left _ (p.append_right _)).trans h2⟩
theorem wN (X:Array ι) (i:Nat):(X.extract 0 i).toList=X.toList.take i:=by rw[Array.toList_extract,List.extract_eq_take_drop,List.drop_zero,Nat.sub_zero]
theorem Mg.bk (h:Mg c T o (X.toList.take i) y) (hk:k<=i) (eo:∀ w,o' w=o w++((X.map w.it).extract k i).reverse):Mg c T o' (X.toList.take k) y:=by
 have e:X.toList.take i=X.toList.take k++(X.extract k i).toList:=by
  rw[Array.toList_extract,List.extract_eq_take_drop,<-List.take_add,Nat.add_sub_cancel' hk]
 rw[e] at h;refine (h.pm ((List.Perm.append_right _ (List.reverse_perm _)).trans List.perm_append_comm)).a (B:=(X.extract k i).reverse) (by rw[Array.toList_reverse]) fun w=>by rw[eo,Array.map_reverse,Array.map_extract]
theorem Mg.pk (h:Mg c T o (X.toList.take (i+1)) y) (e:X[i]? =some a) (eo:∀ w,o' w=(o w).push (w.it a)):Mg c T o' (X.toList.take i) y:=by
 have e':X.toList[i]? =some a:=by rw[Array.getElem?_toList];exact e
 rw[List.take_succ,e'] at h;exact (h.pm List.perm_append_comm).a (B:=#[a]) rfl fun w=>by rw[eo,Array.push_eq_append,Array.map_singleton]
theorem Mg.pk' (h:Mg c T o (X.toList.take i) y) (hi:1<=i) (e:X[i - 1]? =some a) (eo:∀ w,o' w=(o w).push (w.it a)):Mg c T o' (X.toList.take (i - 1)) y:=by
 rw[<-Nat.sub_add_cancel hi] at h;exact h.pk e eo
theorem Mg.dnh (h:Mg c T o (X.toList.take i) (Y.toList.take j)):∃ L:Array ι,(∀ w:Wo c,(X.map w.it).extract 0 i++(Y.map w.it).extract 0 j++(o w).reverse=L.map w.it)/\L.toList.Perm T:=by
 obtain ⟨L,h1,h2⟩:=h;refine ⟨X.extract 0 i++Y.extract 0 j++L.reverse,fun w=>by rw[h1,Array.map_append,Array.map_append,Array.map_extract,Array.map_extract,Array.map_reverse],?_⟩;rw[Array.toList_append,Array.toList_append,wN,wN,Array.toList_reverse];exact ((List.Perm.append_left _ (List.reverse_perm _)).trans List.perm_append_comm).trans h2
structure Hi (c:ι->ι->Bool) (X Y:Array ι) (t:Nat) (o:Wo c->Array Keyed) (i j:Nat):Prop where
 a:1<=i
 b:2<=j
 x:i<=X.size
 y:j<=Y.size
 n:t+i+j<=X.size+Y.size
 p:Mg c (X.toList++Y.toList) o (X.toList.take i) (Y.toList.take j)
theorem Hi.le {t s:Nat} (h:Hi c X Y t o i j) (q:s<=t):Hi c X Y s o i j:=⟨h.a,h.b,h.x,h.y,I8 q h.n,h.p⟩
theorem Hi.ja {t:Nat} (h:Hi c X Y t o i j):i - 1<X.size:=by have:=h.a;have:=h.x;exact I7 (by assumption) this
theorem Hi.jb {t:Nat} (h:Hi c X Y t o i j):j - 1<Y.size:=by have:=h.b;have:=h.y;exact I6 (by assumption) this
theorem Hi.pa {t:Nat} (h:Hi c X Y t o i j) (e:X[i - 1]? =some a) (n:i - 1≠0) (eo:∀ w,o' w=(o w).push (w.it a)):Hi c X Y (t+1) o' (i - 1) j:=⟨by exact Nat.pos_of_ne_zero n,h.b,by have:=h.x;exact Om (Nat.sub_le _ _) this,h.y,I5 n h.n,h.p.pk' h.a e eo⟩
theorem Hi.pb {t:Nat} (h:Hi c X Y t o i j) (e:Y[j - 1]? =some a) (n:j - 1≠1) (eo:∀ w,o' w=(o w).push (w.it a)):Hi c X Y (t+1) o' i (j - 1):=⟨h.a,by have:=h.b;exact Nat.lt_of_le_of_ne (Nat.le_sub_one_of_lt this) (Ne.symm n),h.x,by have:=h.y;exact Om (Nat.sub_le _ _) this,by have:=h.n;have:=h.b;exact I0 (by assumption) this,(h.p.sw.pk' (Nat.le_of_succ_le h.b) e eo).sw⟩
theorem Hi.da {t:Nat} (h:Hi c X Y t o i j) (e:X[i - 1]? =some a):Rt c X Y (some fun w=>(X.map w.it).extract 0 (i - 1)++(Y.map w.it).extract 0 j++((o w).push (w.it a)).reverse):=⟨_,rfl,(h.p.pk' h.a e fun w=>rfl).dnh⟩
theorem Hi.db {t:Nat} (h:Hi c X Y t o i j) (e:Y[j - 1]? =some a):Rt c X Y (some fun w=>(Y.map w.it).extract 0 (j - 1)++(X.map w.it).extract 0 i++((o w).push (w.it a)).reverse):=⟨_,rfl,(h.p.sw.pk' (Nat.le_of_succ_le h.b) e fun w=>rfl).dnh⟩
noncomputable abbrev mH (β:Type):MK β (Option (Array Keyed)×Nat×Nat×Array Keyed×β):=fun s o i j b=>(s,i,j,o,b)
theorem Hi.ka {t:Nat} (h:Hi c X Y t o i j) (hk:k<=i) (n:k≠0) (eo:∀ w,o' w=o w++((X.map w.it).extract k i).reverse):Hi c X Y t o' k j:=⟨by exact Nat.pos_of_ne_zero n,h.b,by have:=h.x;exact Om hk this,h.y,IZ hk h.n,h.p.bk hk eo⟩
theorem Hi.kb {t:Nat} (h:Hi c X Y t o i j) (hk:k<=j) (n:k≠1) (n':k≠0) (eo:∀ w,o' w=o w++((Y.map w.it).extract k j).reverse):Hi c X Y t o' i k:=⟨h.a,by exact Nat.lt_of_le_of_ne (Nat.pos_of_ne_zero n') (Ne.symm n),h.x,by have:=h.y;exact Om hk this,IY hk h.n,(h.p.sw.bk hk eo).sw⟩
theorem Hi.za {t:Nat} (h:Hi c X Y t o i j) (hk:k<=i):Rt c X Y (some fun w=>(X.map w.it).extract 0 k++(Y.map w.it).extract 0 j++(o w++((X.map w.it).extract k i).reverse).reverse):=⟨_,rfl,(h.p.bk hk fun w=>rfl).dnh⟩
theorem Hi.zb {t:Nat} (h:Hi c X Y t o i j) (hk:k<=j):Rt c X Y (some fun w=>(Y.map w.it).extract 0 k++(X.map w.it).extract 0 i++(o w++((Y.map w.it).extract k j).reverse).reverse):=⟨_,rfl,(h.p.sw.bk hk fun w=>rfl).dnh⟩
theorem Hi.zc {t:Nat} (h:Hi c X Y t o i j) (hk:k<=j):Rt c X Y (some fun w=>(X.map w.it).extract 0 i++(Y.map w.it).extract 0 k++(o w++((Y.map w.it).extract k j).reverse).reverse):=⟨_,rfl,(h.p.sw.bk hk fun w=>rfl).sw.dnh⟩
section
variable {t u:Nat} {v:Wo c->Array Keyed} {b:β} {R:RL c}
theorem yH (q:sy l l') (h:R u o i j):Dt (fun w:Wo c=>Pure.pure (ForInStep.yield (none,i,j,o w,b))) l' (fL (mH β)) (Gn R X Y l t u):=Dt.pure (.yield (none,o,i,j,b)) (fun w=>rfl) ⟨q,rfl,h⟩
theorem dH (q:sy l l') (h:R t o i j):Dt (fun w:Wo c=>Pure.pure (ForInStep.done (none,i,j,o w,b))) l' (fL (mH β)) (Gn R X Y l t u):=Dt.pure (.done (none,o,i,j,b)) (fun w=>rfl) ⟨q,.inr ⟨rfl,h⟩⟩
theorem xH (q:sy l l') (h:Rt c X Y (some v)):Dt (fun w:Wo c=>Pure.pure (ForInStep.done (some (v w),i,j,o w,b))) l' (fL (mH β)) (Gn R X Y l t u):=Dt.pure (.done (some v,o,i,j,b)) (fun w=>rfl) ⟨q,.inl h⟩
end
theorem Dt.gh {L:Bool} {x:ι} {a:Array ι} {b:Nat} {f:Wo c->Option Nat->StateT SortSt Sem α} (hb:1<=b) (hn:b<=a.size) (h:∀ k,k<=b->Dt (fun w=>f w (some k)) l r Q):Dt (fun w=>HF L (w.it x) (a.map w.it) 0 b (b - 1)>>=f w) l r Q:=Dt.bind (Dt.gal (IX hn) (F8 hb)) fun k l' q=>q.1 ▸ h k q.2
theorem Dt.eb {m:Nat} {p q:Wo c->StateT SortSt Sem α} (h2:i≠m->Dt q l r Q) (h1:i=m->Dt p l r Q):Dt (fun w=>if (i==m)=true then p w else q w) l r Q:=Dt.itd (fun h=>h2 fun e=>h (beq_iff_eq.mpr e)) fun h=>h1 (beq_iff_eq.mp h)
theorem Dt.mhi (hx:1<=X.size) (hy:1<=Y.size):Dt (fun w:Wo c=>Jo (X.map w.it) (Y.map w.it)) l (fun w (z:Wo c->Array Keyed)=>z w) (fun z l'=>sy l l'/\Rt c X Y (some z)):=by
 have sz:∀ w:Wo c,(X.map w.it).size+(Y.map w.it).size=X.size+Y.size:=fun w=>by rw[Array.size_map,Array.size_map]
 refine Dt.rule ?_;refine Dt.el (a:=X) (X.size - 1) (fun w=>by rw[Array.size_map]) (F8 hx) fun z e0=> ?_;have m0:Mg c (X.toList++Y.toList) (fun w=>#[w.it z]) (X.toList.take (X.size - 1)) (Y.toList.take Y.size):=by
  have h:Mg c (X.toList++Y.toList) (fun w=>#[]) (X.toList.take (X.size - 1+1)) (Y.toList.take Y.size):=⟨#[],fun w=>by rw[Array.map_empty],by rw[Nat.sub_add_cancel hx,<-Array.length_toList,<-Array.length_toList,List.take_length,List.take_length];exact List.Perm.refl _⟩;exact h.pk e0 fun w=>rfl
 refine Dt.itw (X.size - 1=0) (fun w=>by rw[Array.size_map,beq_iff_eq]) (fun h1=> ?_) fun _=> ?_;rotate_left
 .exact Dt.pure (fun w=>(X.map w.it).extract 0 (X.size - 1)++(Y.map w.it).extract 0 Y.size++#[w.it z].reverse) (fun w=>by rw[<-Array.size_map (f:=w.it) (xs:=X),<-Array.size_map (f:=w.it) (xs:=Y)]) ⟨⟨rfl,rfl⟩,_,rfl,m0.dnh⟩
 refine Dt.itw (Y.size=1) (fun w=>by rw[Array.size_map,beq_iff_eq]) (fun h2=> ?_) fun _=> ?_;rotate_left
 .exact Dt.pure (fun w=>(Y.map w.it).extract 0 Y.size++(X.map w.it).extract 0 (X.size - 1)++#[w.it z].reverse) (fun w=>by rw[<-Array.size_map (f:=w.it) (xs:=X),<-Array.size_map (f:=w.it) (xs:=Y)]) ⟨⟨rfl,rfl⟩,_,rfl,m0.sw.dnh⟩
 refine Dt.get ?_;refine Dt.lL (mH Nat) (R:=Hi c X Y) (l:=l) (o:=fun w=>#[w.it z]) (u:=fun x=>x+1) (i:=X.size - 1) (j:=Y.size) (b:=l.g) (X.size+Y.size+1) sz (fun w=>by rw[Array.size_map,Array.size_map]) ⟨rfl,rfl⟩ ⟨by exact Nat.pos_of_ne_zero h1,by exact Nat.lt_of_le_of_ne hy (Ne.symm h2),IW,Oo _,IV hx,m0⟩ (fun _ _ _ h=>h) (fun t l' o i j g q1 q3=> ?_) (fun l' o i j g v q h=>Dt.pure v (fun w=>rfl) ⟨q,h⟩) fun l' o i j g q h=>absurd h.n (by have:=h.a;have:=h.b;exact IU);dsimp only;refine Dt.lL (mH (Nat×Nat)) (R:=Hi c X Y) (l:=l) (u:=fun _=>t+1) (o:=o) (i:=i) (j:=j) (b:=(0,0)) (t+1) sz (fun _=>rfl) q1 q3 (fun _ _ _ h=>h) (fun x l' o i j ab q1 q3=> ?_) (fun l' o i j ab v q h=>xH (v:=v) (o:=o) (i:=i) (j:=j) (b:=g) q h) fun l' o i j ab q1 q3=> ?_
 .dsimp only;refine Dt.e1 q3.jb fun y ey=> ?_;refine Dt.e1 q3.ja fun x ex=> ?_;refine Dt.lt ?_;refine Dt.itd (fun _=> ?_) fun _=> ?_
  .refine Dt.e1 q3.jb fun y' ey=> ?_;refine Dt.eb (fun n=> ?_) fun _=>xH q1 (q3.db ey);have P:=(q3.pb ey n (o':=fun w=>(o w).push (w.it y')) fun w=>rfl).le (OV _);exact Dt.itd (fun _=>yH q1 P) fun _=>dH q1 P
  .refine Dt.e1 q3.ja fun x' ex=> ?_;refine Dt.eb (fun n=> ?_) fun _=>xH q1 (q3.da ex);have P:=(q3.pa ex n (o':=fun w=>(o w).push (w.it x')) fun w=>rfl).le (OV _);exact Dt.itd (fun _=>yH q1 P) fun _=>dH q1 P
 .dsimp only;refine Dt.rule ?_;refine Dt.lG (mH (Nat×Nat×Nat)) (R:=Hi c X Y) (l:=l) (u:=fun x=>t+1+x) (t+1+1) sz q1 q3 (fun _ _ _ h=>h.le (by have:=q3.a;have:=q3.x;exact Fd hy)) (fun x l' o i j g ab q1 q3=> ?_) (fun l' o i j g ab v q h=>xH (v:=v) (o:=o) (i:=i) (j:=j) (b:=g) q h) fun l' o i j g ab q1 q3=> ?_;rotate_left
  .refine Dt.modify ⟨l'.a,l'.p,g+1⟩ (fun w=>rfl) ?_;exact yH (l':=⟨l'.a,l'.p,g+1⟩) (o:=o) (b:=g+1) q1 q3
  dsimp only;refine Dt.ky g (g - 1) ?_;intro g;refine Dt.modify ⟨l'.a,l'.p,g⟩ (fun w=>rfl) ?_;refine Dt.e1 q3.jb fun y ey=> ?_;refine Dt.gh q3.a q3.x fun k hk=> ?_;dsimp+instances only;generalize i - k=a';refine Dt.kz (R:=fun o i=>Hi c X Y (t+1+x) o i j) o i (fun _=>q3) ?_ fun key k0=> ?_
  .intro o i q3;refine Dt.e1 q3.jb fun y ey=> ?_;refine Dt.eb (fun n=> ?_) fun _=>xH q1 (q3.db ey);have q4:=q3.pb ey n (o':=fun w=>(o w).push (w.it y)) fun w=>rfl;refine Dt.e1 q4.ja fun x' ex=> ?_;refine Dt.gh (Nat.le_of_succ_le q4.b) q4.y fun m hm=> ?_;refine Dt.itd (fun _=> ?_) fun _=> ?_
   .refine Dt.e1 q4.ja fun x' ex=> ?_;refine Dt.eb (fun n=> ?_) fun _=>xH q1 (q4.da ex);have q5:=(q4.pa ex n (o':=fun w=>((o w).push (w.it y)).push (w.it x')) fun w=>rfl).le (OV _);exact Dt.itd (fun _=>yH q1 q5) fun _=>dH q1 (q5.le (xd))
   .refine Dt.eb (fun n=> ?_) fun _=>xH q1 (q4.zb hm);refine Dt.eb (fun n'=> ?_) fun _=>xH q1 (q4.zc hm);have q6:=q4.kb hm n n' (o':=fun w=>(o w).push (w.it y)++((Y.map w.it).extract m (j - 1)).reverse) fun w=>rfl;refine Dt.e1 q4.ja fun x' ex=> ?_;refine Dt.eb (fun n=> ?_) fun _=>xH q1 (q6.da ex);have q5:=(q6.pa ex n (o':=fun w=>((o w).push (w.it y)++((Y.map w.it).extract m (j - 1)).reverse).push (w.it x')) fun w=>rfl).le (OV _);exact Dt.itd (fun _=>yH q1 q5) fun _=>dH q1 (q5.le (xd))
  .refine Dt.eb (fun n=> ?_) fun _=>xH q1 (q3.za hk);exact key _ _ (q3.ka hk n fun w=>rfl)
end
section
variable {ι α β:Type} {c:ι->ι->Bool} {l l' l'':Ls ι} {r:Wo c->β->α} {Q:β->Ls ι->Prop} {i j lo n m k:Nat}
theorem pL {γ δ:Type} {f:γ->δ} {p q:Nat->Nat} (xs:List Nat) (a:Array γ):xs.foldl (fun a k=>a.swapIfInBounds (p k) (q k)) (a.map f)=(xs.foldl (fun a k=>a.swapIfInBounds (p k) (q k)) a).map f:=PySem.W.kas_swaps_map f p q xs a
structure Pm (l l':Ls ι):Prop where
 a:l'.a.Perm l.a
 p:l'.p=l.p
theorem Pm.refl:Pm l l:=⟨.refl _,rfl⟩
theorem Pm.trans (h:Pm l l') (k:Pm l' l''):Pm l l'':=⟨k.a.trans h.a,k.p.trans h.p⟩
theorem Pm.sz (h:Pm l l'):l'.a.size=l.a.size:=h.a.size_eq
theorem Dt.rev {f:Wo c->PUnit->StateT SortSt Sem α} (h:∀ l',Pm l l'->Dt (fun w=>f w ⟨⟩) l' r Q):Dt (fun w=>reverseSlice' i j>>=f w) l r Q:=
 Dt.modify ⟨mirror l.a i j ((j - i) / 2),l.p,l.g⟩ (fun w=>congrArg (fun a=>SortSt.mk' w.kd a l.p l.g none) (pL _ _)) (h _ ⟨mirror_perm _ _ _ _,rfl⟩)
theorem Dt.mov {f:Wo c->PUnit->StateT SortSt Sem α} (h:∀ l',Pm l l'->Dt (fun w=>f w ⟨⟩) l' r Q):Dt (fun w=>moveDown' i j>>=f w) l r Q:=
 Dt.modify ⟨bubble l.a i (i - j),l.p,l.g⟩ (fun w=>congrArg (fun a=>SortSt.mk' w.kd a l.p l.g none) (pL _ _)) (h _ ⟨bubble_perm _ _ _,rfl⟩)
theorem Dt.at {f:Wo c->Option Bool->StateT SortSt Sem α} (hi:i<l.a.size) (hj:j<l.a.size) (h:∀ z,Dt (fun w=>f w (some z)) l r Q):Dt (fun w=>ltAt' i j>>=f w) l r Q:=
 Dt.bind (r':=fun _ z=>some z) (Q':=fun _ l'=>l'=l) (Dt.get (Dt.get' hi fun x _ _=>Dt.get' hj fun y _ _=>Dt.lt1)) fun z l' q=>q ▸ h z
theorem Dt.jn {P:Prop} {p q p0:Wo c->StateT SortSt Sem α} (h:(¬P->Dt q l r Q)->(P->Dt p l r Q)->Dt p0 l r Q) (k:∀ l',Pm l l'->Dt q l' r Q) (m:(∀ l',Pm l l'->Dt q l' r Q)->P->Dt p l r Q):Dt p0 l r Q:=h (fun _=>k l .refl) (m k)
theorem Dt.itp {P:Prop} [Decidable P] {p q:Wo c->StateT SortSt Sem α} (h2:¬P->Dt q l r Q) (h1:P->Dt p l r Q):Dt (fun w=>if P then p w else q w) l r Q:=Dt.ite h1 h2
theorem Dt.asc {f:Wo c->Option (Option Nat)×Nat->StateT SortSt Sem α} (h1:1<=n) (hn:n<=m) (hl:lo+m<=l.a.size) (h:∀ k,1<=k->k<=m->Dt (fun w=>f w (none,k)) l r Q):Dt (fun w=>(forIn [n:m] ((none,n):Option (Option Nat)×Nat) (fun _ s=>ltAt' (lo+s.2) (lo+s.2 - 1)>>=fun o=>match o with
  |some b=>if b=true then Pure.pure (ForInStep.done (none,s.2)) else Pure.pure (ForInStep.yield (none,s.2+1))
  |_=>Pure.pure (ForInStep.done (some none,s.2))))>>=f w) l r Q:=by
 refine Dt.l1 (fun x k l'=>l'=l/\1<=k/\k<=x) (fun k l'=>l'=l/\1<=k/\k<=m) ⟨rfl,h1,Oo _⟩ (fun k l' q=>⟨q.1,q.2.1,Nat.max_eq_right hn ▸ q.2.2⟩) (fun x k l' _ hx q=> ?_) fun k l' q=> ?_
 .obtain ⟨rfl,q2,q3⟩:=q;exact Dt.at (IT hx hl q3) (IS hx hl q3) fun z=>Dt.ite (fun _=>dI (g:=k) ⟨rfl,q2,by exact Om q3 (OQ hx)⟩) fun _=>yI (g:=k+1) ⟨rfl,Nat.le_add_left _ _,O9 q3⟩
 .obtain ⟨rfl,q⟩:=q;exact h k q.1 q.2
theorem Dt.cnt (hn:1<=n) (hl:lo+n<=l.a.size):Dt (fun w:Wo c=>countRun' lo n) l (fun _ k=>some k) (fun k l'=>1<=k/\k<=n/\Pm l l'):=by
 refine Dt.asc (Oo _) hn hl fun k k1 kn=> ?_;refine Dt.itw (k=n) (fun w=>beq_iff_eq) (fun ne=> ?_) fun e=>Dt.pure k (fun w=>rfl) ⟨k1,kn,.refl⟩;refine Dt.jn (Dt.itp (P:=k>1)) (fun l1 p1=> ?_) fun key _=> ?_
 .refine Dt.rule ?_;refine Dt.l1 (b:=(k+1,0)) (fun x q l'=>Pm l l'/\1<=q.1/\q.1<=x) (fun q l'=>Pm l l'/\1<=q.1/\q.1<=n) ⟨p1,Nat.le_add_left _ _,Oo _⟩ (fun q l' g=>⟨g.1,g.2.1,Nat.max_eq_right (Nat.lt_of_le_of_ne kn ne) ▸ g.2.2⟩) (fun x q l' _ hx g=> ?_) fun q l' g=> ?_
  .obtain ⟨g1,g3,g4⟩:=g;have sz:=g1.sz;refine Dt.at (i:=lo+q.1) (j:=lo+q.1 - 1) (Fc hl hx g4 sz) (Fb hl hx g4 sz) fun z=>Dt.ite (fun _=> ?_) fun _=> ?_
   .exact Dt.jn (Dt.itp (P:=q.2>0)) (fun l2 p2=>yI (g:=(q.1+1,0)) ⟨g1.trans p2,Nat.le_add_left _ _,O9 g4⟩) fun key _=>Dt.rev fun l2 p2=>key l2 p2
   .exact Dt.at (i:=lo+q.1 - 1) (j:=lo+q.1) (Fb hl hx g4 sz) (Fc hl hx g4 sz) fun z=>Dt.ite (fun _=>dI (g:=q) ⟨g1,g3,by exact Om g4 (OQ hx)⟩) fun _=>yI (g:=(q.1+1,q.2+1)) ⟨g1,Nat.le_add_left _ _,O9 g4⟩
  .obtain ⟨g1,g3,g4⟩:=g;have sz:=g1.sz;refine Dt.jn (Dt.itp (P:=q.2>0)) (fun l2 p2=> ?_) fun key _=>Dt.rev fun l2 p2=>key l2 p2;refine Dt.rev fun l3 p3=> ?_;exact Dt.asc g3 g4 (by rw[(p2.trans p3).sz,sz];exact hl) fun k k1 kn=>Dt.pure k (fun w=>rfl) ⟨k1,kn,g1.trans (p2.trans p3)⟩
 .refine Dt.at (by exact OD (Nat.lt_add_of_pos_right hn) hl) (IQ hl kn (by assumption)) fun z=>Dt.ite (fun _=> ?_) fun _=> ?_
  .exact Dt.pure k (fun w=>rfl) ⟨k1,kn,.refl⟩
  .exact Dt.rev fun l2 p2=>key l2 p2
theorem Dt.bin (hl:lo+n<=l.a.size):Dt (fun w:Wo c=>binarySort' lo n m) l (fun _ b=>b) (fun b l'=>b=true/\Pm l l'):=by
 refine Dt.l1 (fun _ _ l'=>Pm l l') (fun _ l'=>Pm l l') .refl (fun _ _ q=>q) (fun x _ l' _ hx g0=> ?_) fun _ l' g=>Dt.pure true (fun w=>rfl) ⟨rfl,g⟩;have sz:=g0.sz;refine Dt.l1 (b:=(0,x)) (fun _ q l''=>l''=l'/\q.2<=x) (fun _ l''=>l''=l') ⟨rfl,Oo _⟩ (fun _ _ q=>q.1) (fun y q l'' _ _ g=> ?_) fun q l'' e=> ?_
 .obtain ⟨rfl,g⟩:=g;refine Dt.ite (fun _=>dI (g:=q) rfl) fun h=> ?_;have h:¬q.1≥q.2:=h;have hm:(q.1+q.2) / 2<x:=Lb g h;exact Dt.at (i:=lo+x) (j:=lo+(q.1+q.2) / 2) (IP hl hx sz) (IN hl hx sz hm) fun z=>Dt.ite (fun _=>yI (g:=(q.1,(q.1+q.2) / 2)) ⟨rfl,OQ hm⟩) fun _=>yI (g:=((q.1+q.2) / 2+1,q.2)) ⟨rfl,g⟩
 .subst e;exact Dt.mov fun l2 p2=>yI (g:=PUnit.unit) (g0.trans p2)
end
def pK:List (Nat×Nat×Nat)->Nat->Nat->Prop
 |[],s,e=>s=e
 |x::r,s,e=>x.1=s/\1<=x.2.1/\pK r (s+x.2.1) e
section
variable {x y:Nat×Nat×Nat} {s e m:Nat}
theorem pK.le {p:List (Nat×Nat×Nat)}:∀ {s},pK p s e->s<=e:=by
 induction p with
 |nil=>exact fun h=>O1 h
 |cons x p ih=>exact fun h=>Om (O5 _ _) (ih h.2.2)
theorem pK.snoc {p:List (Nat×Nat×Nat)} {n k:Nat} (hn:1<=n):∀ {s},pK p s e->pK (p++[(e,n,k)]) s (e+n):=by
 induction p with
 |nil=>exact fun h=>⟨Eq.symm h,hn,congrArg (· +n) h⟩
 |cons x p ih=>exact fun h=>⟨h.1,h.2.1,ih h.2.2⟩
theorem pK.map {p:List (Nat×Nat×Nat)} {f:Nat×Nat×Nat->Nat×Nat×Nat} (hf:∀ x,(f x).1=x.1/\(f x).2.1=x.2.1):∀ {s i},pK p s e->pK (p.modify i f) s e:=by
 induction p with
 |nil=>intro s i h;rw[List.modify_nil];exact h
 |cons x p ih=>
  intro s i h;cases i with
  |zero=>exact ⟨(hf x).1.trans h.1,(hf x).2 ▸ h.2.1,(hf x).2 ▸ h.2.2⟩
  |succ i=>exact ⟨h.1,h.2.1,ih h.2.2⟩
theorem pK.join {p:List (Nat×Nat×Nat)}:∀ {s i},pK p s e->p[i]? =some x->p[i+1]? =some y->x.1+x.2.1=y.1/\1<=x.2.1/\1<=y.2.1/\y.1+y.2.1<=e/\pK ((p.set i (x.1,x.2.1+y.2.1,m)).eraseIdx (i+1)) s e:=by
 induction p with
 |nil=>exact fun _ h=>nomatch h
 |cons z p ih=>
  intro s i h h1 h2;cases i with
  |zero=>
   cases h1;cases p with
   |nil=>cases h2
   |cons w p=>
    cases h2;obtain ⟨a,b,c,d,f⟩:=h;refine ⟨by rw[a,c],b,d,by rw[c];exact pK.le f,a,Om b (O5 _ _),?_⟩;rw[Nat.add_assoc] at f;exact f
  |succ i=>
   obtain ⟨a,b,c⟩:=h;obtain ⟨q1,q2,q3,q4,q5⟩:=ih c h1 h2;exact ⟨q1,q2,q3,q4,a,b,q5⟩
end
theorem sW {γ:Type} {s:Nat} (L:List γ):∀ (k:Nat) (a:Array γ),s+k+L.length<=a.size->((L.zipIdx k).foldl (fun a x=>a.setIfInBounds (s+x.2) x.1) a).toList=a.toList.take (s+k)++(L++a.toList.drop (s+k+L.length)):=by
 induction L with
 |nil=>intro k a _;exact (List.take_append_drop _ _).symm
 |cons x L ih=>
  intro k a h;rw[Ok] at h ⊢;have hl:s+k<a.toList.length:=by rw[Array.length_toList];exact IM h
  rw[List.zipIdx_cons,List.foldl_cons,ih (k+1) _ (by rw[Array.size_setIfInBounds];exact IL h),Array.toList_setIfInBounds,List.set_eq_take_append_cons_drop,if_pos hl];have lt:(a.toList.take (s+k)).length=s+k:=by rw[List.length_take];exact Nat.min_eq_left (OQ hl)
  have e1:(a.toList.take (s+k)++x::a.toList.drop (s+k+1)).take (s+(k+1))=a.toList.take (s+k)++[x]:=by
   rw[List.take_append,lt,List.take_of_length_le (by exact Om (O1 lt) (OV _)),show s+(k+1) - (s+k)=1 by exact IK];rfl
  have e2:(a.toList.take (s+k)++x::a.toList.drop (s+k+1)).drop (s+(k+1)+L.length)=a.toList.drop (s+k+(L.length+1)):=by
   rw[List.drop_append,lt,List.drop_of_length_le (by exact IJ lt),show s+(k+1)+L.length - (s+k)=L.length+1 by exact II,List.drop_succ_cons,List.drop_drop,List.nil_append];congr 1;exact IH
  rw[e1,e2,List.append_assoc];rfl
section
variable {ι α β:Type} {c:ι->ι->Bool} {l l' l'':Ls ι} {r:Wo c->β->α} {Q:β->Ls ι->Prop} {i j lo n m k:Nat}
theorem Dt.set_ {g:Wo c->SortSt} {f:Wo c->PUnit->StateT SortSt Sem α} (l':Ls ι) (e:∀ w,g w=Av w l') (h:Dt (fun w=>f w ⟨⟩) l' r Q):Dt (fun w=>set (g w)>>=f w) l r Q:=Dt.modify (g:=fun w _=>g w) l' e h
theorem Dt.two {γ δ:Type} {P:Prop} [Decidable P] {m1 m2:Wo c->StateT SortSt Sem γ} {f:Wo c->γ->StateT SortSt Sem α} {r':Wo c->δ->γ} {Q':δ->Ls ι->Prop} (h1:Dt m1 l r' Q') (h2:Dt m2 l r' Q') (k:∀ b l',Q' b l'->Dt (fun w=>f w (r' w b)) l' r Q):Dt (fun w=>if P then m1 w>>=f w else m2 w>>=f w) l r Q:=Dt.ite (fun _=>h1.bind k) fun _=>h2.bind k
theorem ud (a:Array ι) (i j:Nat):(a.extract i j).toList=(a.toList.drop i).take (j - i):=by rw[Array.toList_extract,List.extract_eq_take_drop]
theorem Dt.mrg {x y:Nat×Nat×Nat} (h1:l.p[i]? =some x) (h2:l.p[i+1]? =some y) (C:pK l.p.toList 0 lo) (hl:lo<=l.a.size):Dt (fun w:Wo c=>mergeAt' i) l (fun _ b=>b) (fun b l'=>b=true/\l'.a.Perm l.a/\pK l'.p.toList 0 lo):=by
 obtain ⟨sa,na,pw⟩:=x;obtain ⟨sb,nb,pb⟩:=y;obtain ⟨q1,q2,q3,q4,q5⟩:=C.join (m:=pw) (i:=i) (x:=(sa,na,pw)) (y:=(sb,nb,pb)) (by rw[Array.getElem?_toList];exact h1) (by rw[Array.getElem?_toList];exact h2);have q1:sa+na=sb:=q1;have q2:1<=na:=q2;have q3:1<=nb:=q3;have q4:sb+nb<=lo:=q4;generalize hl1:(⟨l.a,(l.p.setIfInBounds i (sa,na+nb,pw)).eraseIdxIfInBounds (i+1),l.g⟩:Ls ι)=l1;have q5:pK l1.p.toList 0 lo:=by rw[<-hl1];simp only [Array.toList_eraseIdxIfInBounds,Array.toList_setIfInBounds];exact q5
 have ea:l1.a=l.a:=by rw[<-hl1]
 refine Dt.get ?_;dsimp only [Av];rw[h1,h2];refine Dt.set_ l1 (fun w=>by rw[<-hl1]) ?_;have em:l1.a.Perm l.a:=ea ▸ .refl _;refine Dt.get' (IG hl (by assumption) (by assumption)) fun z _ _=> ?_;refine Dt.bind (Dt.gal (IF hl (by assumption) (by assumption)) (IE (by assumption))) fun k l' q=> ?_;obtain ⟨rfl,hk⟩:=q;refine Dt.itw (na - k=0) (fun w=>beq_iff_eq) (fun n0=> ?_) fun _=>Dt.pure true (fun w=>rfl) ⟨rfl,em,q5⟩;refine Dt.get' (ID hl (by assumption) (by assumption) (by assumption) hk) fun z _ _=> ?_;refine Dt.bind (Dt.gal (by exact Om q4 hl) (F8 q3)) fun k2 l' q=> ?_;obtain ⟨rfl,hk2⟩:=q;refine Dt.itw (k2=0) (fun w=>beq_iff_eq) (fun n2=> ?_) fun _=>Dt.pure true (fun w=>rfl) ⟨rfl,em,q5⟩;have c1:sb+k2<=l.a.size:=Om (OS hk2 sb) (Om q4 hl);have c0:=Om (O5 sb k2) c1;have ck:sa+k<sb:=q1 ▸ Nat.add_lt_add_left (Nat.lt_of_sub_ne_zero n0) sa;have cl:=OQ ck;have s1:1<=(l.a.extract (sa+k) sb).size:=by rw[Array.size_extract_of_le c0];exact Nat.sub_pos_of_lt ck
 have s2:1<=(l.a.extract sb (sb+k2)).size:=by rw[Array.size_extract_of_le c1,Nat.add_sub_cancel_left];exact Nat.pos_of_ne_zero n2
 have ee:∀ (f:Array Keyed->Array Keyed->StateT SortSt Sem (Array Keyed)) (w:Wo c),f ((l.a.map w.it).extract (sa+k) sb) ((l.a.map w.it).extract sb (sb+k2))=f ((l.a.extract (sa+k) sb).map w.it) ((l.a.extract sb (sb+k2)).map w.it):=fun f w=>by rw[Array.map_extract,Array.map_extract]
 refine Dt.two (Dt.eq (ee Jn) (Dt.mlo s1 s2)) (Dt.eq (ee Jo) (Dt.mhi s1 s2)) fun z l2 q=> ?_;obtain ⟨⟨a1,a2⟩,o,eo,L,e1,e2⟩:=q;cases eo;have ll:L.toList.length=sb+k2 - (sa+k):=by rw[e2.length_eq,Of,Array.length_toList,Array.length_toList,Array.size_extract_of_le c0,Array.size_extract_of_le c1,Nat.add_sub_cancel_left,Nat.sub_add_comm cl]
 have hb:sa+k+0+L.toList.length<=l.a.size:=by rw[ll,Nat.add_zero,Nat.add_sub_cancel' (Om cl (O5 _ _))];exact c1
 generalize hl3:(⟨(L.toList.zipIdx 0).foldl (fun a x=>a.setIfInBounds (sa+k+x.2) x.1) l.a,l2.p,l2.g⟩:Ls ι)=l3;have p3:=sW (s:=sa+k) L.toList 0 l.a hb;refine Dt.modify l3 (fun w=> ?_) (Dt.get (Dt.pure true (fun w=>rfl) ⟨rfl,?_,?_⟩))
 .rw[<-hl3,e1];refine congrArg (fun a=>SortSt.mk' w.kd a l2.p l2.g none) (Array.toList_inj.mp ?_);have p4:=sW (s:=sa+k) (L.toList.map w.it) 0 (l.a.map w.it) (by rw[Oc,Array.size_map];exact hb);have ar:l2.a.map w.it=l.a.map w.it:=by rw[a1,ea]
  refine (congrArg (fun b=>(List.foldl (fun (a:Array Keyed) x=>a.setIfInBounds (sa+k+x.2) x.1) b ((L.map w.it).toList.zipIdx)).toList) ar).trans ?_;rw[Array.toList_map (f:=w.it) (xs:=L)];refine p4.trans ?_;rw[Array.toList_map,Array.toList_map,p3,List.map_append,List.map_append,List.map_take,List.map_drop,Oc]
 .rw[<-hl3];refine Array.perm_iff_toList_perm.mpr ?_;show (List.foldl _ l.a _).toList.Perm _;rw[p3,ll];refine (List.Perm.append_left _ (e2.append_right _)).trans (.of_eq ?_);rw[ud,ud,Nat.add_zero,Nat.add_sub_cancel_left,List.append_assoc,Nat.add_sub_cancel' (Om cl (O5 _ _))];have e4:l.a.toList.drop (sb+k2)=(l.a.toList.drop sb).drop k2:=List.drop_drop.symm;have e3:l.a.toList.drop sb=(l.a.toList.drop (sa+k)).drop (sb - (sa+k)):=by rw[List.drop_drop,Nat.add_sub_cancel' cl]
  rw[e4,List.take_append_drop,e3,List.take_append_drop,List.take_append_drop]
 .rw[<-hl3];show pK l2.p.toList 0 lo;rw[a2];exact q5
end
section
variable {ι α β:Type} {c:ι->ι->Bool} {l l' l'':Ls ι} {r:Wo c->β->α} {Q:β->Ls ι->Prop} {i j lo n m k:Nat}
structure Rn (l:Ls ι) (lo:Nat) (l':Ls ι):Prop where
 a:l'.a.Perm l.a
 c:pK l'.p.toList 0 lo
theorem Rn.pm (h:Rn l lo l') (q:Pm l' l''):Rn l lo l'':=⟨q.a.trans h.a,q.p ▸ h.c⟩
theorem Dt.mr {f:Wo c->Bool->StateT SortSt Sem α} {i':Wo c->Nat} (i:Nat) (e:∀ w,i' w=i) (h1:i+1<l'.p.size) (g:Rn l lo l') (hl:lo<=l.a.size) (h:∀ l'',Rn l lo l''->Dt (fun w=>f w true) l'' r Q):Dt (fun w=>mergeAt' (i' w)>>=f w) l' r Q:=by
 rw[funext e];refine Dt.bind (Dt.mrg (Array.getElem?_eq_getElem (Nat.lt_of_succ_lt h1)) (Array.getElem?_eq_getElem h1) g.c (by rw[g.a.size_eq];exact hl)) fun b l'' q=> ?_;obtain ⟨rfl,q1,q2⟩:=q;exact h l'' ⟨q1.trans g.a,q2⟩
theorem Dt.jm {P:Prop} {R:Nat->Ls ι->Prop} {p q p0:Wo c->StateT SortSt Sem α} {F:Nat->Wo c->StateT SortSt Sem α} (h:(¬P->Dt q l r Q)->(P->Dt p l r Q)->Dt p0 l r Q) (n:Nat) (z:R n l) (k:∀ n l',R n l'->Dt (F n) l' r Q) (m:(∀ n l',R n l'->Dt (F n) l' r Q)->P->Dt p l r Q) (e:q=F n:=by rfl):Dt p0 l r Q:=h (fun _=>e ▸ k n l z) (m k)
theorem Dt.run (hp:l.p=#[]):Dt (fun w:Wo c=>sortRuns') l (fun _ b=>b) (fun _ l'=>l'.a.Perm l.a):=by
 refine Dt.get ?_;dsimp only [Av];simp only [Array.size_map];refine Dt.l1 (fun _ lo l'=>lo<=l.a.size/\Rn l lo l') (fun lo l'=>lo<=l.a.size/\Rn l lo l') ⟨OG _,.refl _,by rw[hp];rfl⟩ (fun _ _ q=>q) (fun x lo l' _ _ g=> ?_) fun lo l' g=> ?_
 .obtain ⟨g1,g2⟩:=g;have sz:=g2.a.size_eq;refine Dt.ite (fun _=>dI ⟨g1,g2⟩) fun h=> ?_;have h:lo<l.a.size:=Nat.lt_of_not_le h;refine Dt.bind (Dt.cnt (Nat.sub_pos_of_lt h) (O1 ((Nat.add_sub_cancel' g1).trans sz.symm))) fun k l1 q=> ?_;obtain ⟨k1,k2,pm⟩:=q;have k2:k<=l.a.size - lo:=k2;refine Dt.jm (R:=fun n l2=>1<=n/\n<=l.a.size - lo/\Rn l lo l2) (Dt.itp (P:=k<minRun' l.a.size l.a.size 0)) k ⟨k1,k2,g2.pm pm⟩ (fun n l2 z=> ?_) fun key hlt=> ?_
  .obtain ⟨n1,n2,g3⟩:=z;have fin:∀ l3,Rn l lo l3->Dt (fun w:Wo c=>_root_.modify (fun s=>setPending s ((pendingOf s).push (lo,n,0)))>>=fun _=>Pure.pure (ForInStep.yield ((none:Option PUnit),lo+n))) l3 Kr (QI (fun lo l'=>lo<=l.a.size/\Rn l lo l') fun lo l'=>lo<=l.a.size/\Rn l lo l'):=fun l3 g3=>
    Dt.modify ⟨l3.a,l3.p.push (lo,n,0),l3.g⟩ (fun w=>rfl) (yI (g:=lo+n) ⟨IC (by assumption) n2,g3.a,by show pK (l3.p.push (lo,n,0)).toList 0 (lo+n);rw[Array.toList_push];exact g3.c.snoc n1⟩)
   refine Dt.get ?_;dsimp only [Av];cases e:l2.p.back? with
   |none=>exact fin l2 g3
   |some y=>
    refine Dt.l1 (fun _ _ l'=>Rn l lo l') (fun _ l'=>Rn l lo l') g3 (fun _ _ q=>q) (fun x _ l' _ _ g=> ?_) fun _ l' g=> ?_
    .refine Dt.get ?_;dsimp+instances only [Av];by_cases h:l'.p.size>1
     .rw[if_pos h,Array.getElem?_eq_getElem (show l'.p.size - 2<l'.p.size by exact Nat.sub_lt (Nat.lt_of_succ_lt h) (by decide))];exact Dt.ite (fun _=>dI (g:=PUnit.unit) g) fun _=>Dt.mr (l'.p.size - 2) (fun w=>rfl) (IB h) g g1 fun l'' g4=>Dt.ite (fun h=>nomatch h) fun _=>yI (g:=PUnit.unit) g4
     .rw[if_neg h];exact dI (g:=PUnit.unit) g
    .refine Dt.modify ⟨l'.a,l'.p.modify (l'.p.size - 1) fun x=>(x.1,x.2.1,_),l'.g⟩ (fun w=>rfl) (fin _ ⟨g.a,?_⟩);show pK (l'.p.modify _ _).toList 0 lo;rw[Array.toList_modify];refine pK.map ?_ g.c;exact fun x=>⟨rfl,rfl⟩
  .refine Dt.rule ?_;have sz1:=pm.sz;refine Dt.bind (Dt.bin (IA sz (by assumption) sz1)) fun b l2 q=> ?_;obtain ⟨rfl,q⟩:=q;exact Dt.ite (fun h=>nomatch h) fun _=>key (min (l.a.size - lo) (minRun' l.a.size l.a.size 0)) l2 ⟨by exact Nat.le_min.mpr ⟨Om k1 k2,Om k1 (OQ hlt)⟩,Iz,(g2.pm pm).pm q⟩
 .obtain ⟨g1,g2⟩:=g;refine Dt.l1 (fun _ _ l'=>Rn l lo l') (fun _ l'=>Rn l lo l') g2 (fun _ _ q=>q) (fun x _ l' _ _ g=> ?_) fun _ l' g=>Dt.pure ⟨⟩ (fun w=>rfl) g.a;refine Dt.get ?_;refine Dt.itw (l'.p.size<=1) (fun w=>Iff.rfl) (fun h=> ?_) fun _=>dI (g:=PUnit.unit) g;refine Dt.mr (if (if l'.p.size - 2>0 then l'.p[l'.p.size - 2 - 1]?.map (·.2.1) else none).any (· <(l'.p[l'.p.size - 2+1]?.elim 0 (·.2.1))) then l'.p.size - 2 - 1 else l'.p.size - 2) (fun w=>rfl) ?_ g g1 fun l'' g4=>Dt.ite (fun h=>nomatch h) fun _=>yI (g:=PUnit.unit) g4;generalize (if l'.p.size - 2>0 then l'.p[l'.p.size - 2 - 1]?.map (·.2.1) else none).any (· <(l'.p[l'.p.size - 2+1]?.elim 0 (·.2.1)))=b;cases b
  .show l'.p.size - 2+1<_;exact Iy h
  .show l'.p.size - 2 - 1+1<_;exact Ix h
end
end Mine.Internal
namespace Mine.Internal
open PySem PySem.W PyProof.Rows
theorem qA (n:Nat) (c:_root_.Fin n->_root_.Fin n->Bool):∃ L:List (_root_.Fin n),L.Perm (List.finRange n)/\∃ p g,∀ (w:Wo c) (K:PUnit->SortSt->Prop),K ⟨⟩ (SortSt.mk' w.kd (L.toArray.map w.it) p g none)->wpS w.M w.A w.E w.s sortRuns' K (SortSt.mk' w.kd ((List.finRange n).toArray.map w.it) #[] 7 none):=by
 obtain ⟨b,l',h1,h2⟩:=Dt.run (c:=c) (l:=⟨(List.finRange n).toArray,#[],7⟩) rfl;refine ⟨l'.a.toList,Array.perm_iff_toList_perm.mp h1,l'.p,l'.g,fun w K h=>h2 w K ?_⟩;show K ⟨⟩ (SortSt.mk' w.kd (l'.a.map w.it) l'.p l'.g none);rw[Array.toArray_toList] at h;exact h
noncomputable def zQ (n:Nat) (c:_root_.Fin n->_root_.Fin n->Bool):List (_root_.Fin n):=Classical.choose (qA n c)
theorem jL (n:Nat) (c:_root_.Fin n->_root_.Fin n->Bool):(zQ n c).Perm (List.finRange n):=(Classical.choose_spec (qA n c)).1
theorem yt {n:Nat} {c:_root_.Fin n->_root_.Fin n->Bool} (h:n<2):zQ n c=List.finRange n:=by
 have p:=jL n c;generalize hM:List.finRange n=M at p ⊢;have l:M.length<2:=by rw[<-hM,List.length_finRange];exact h
 cases M with
 |nil=>exact List.perm_nil.mp p
 |cons a M=>
  cases M with
  |nil=>exact List.perm_singleton.mp p
  |cons b M=>exact absurd l (by rw[Ok,Ok];exact Iw)
noncomputable def DS (a b c d:Int):Bool:=if a=c then decide (b<d) else decide (a<c)
noncomputable abbrev zR (ks:List (Int×Int)) (i j:_root_.Fin ks.length):Bool:=DS ks[i].1 ks[i].2 ks[j].1 ks[j].2
noncomputable def Ai (ks:List (Int×Int)):List Nat:=(zQ ks.length (zR ks)).map (·.val)
noncomputable def ec {α:Type} (ks:List (Int×Int)) (l:List α):List α:=(Ai ks).filterMap (l[·]?)
section
variable {prog:Program} {w:World} {A:Around} {E:Value->Shared->Prop} {s:Shared}
theorem A6 {x y:Addr} {ox oy:Obj} {a b c d:Int} {t1 t2 t3 t4:Tok} {n k:Nat} {Q:Bool->Shared->Prop} (hx:s.heap.get? x=some ox) (dx:ox.data= .seq #[.int a t1,.int b t2] n) (hy:s.heap.get? y=some oy) (dy:oy.data= .seq #[.int c t3,.int d t4] k)
  (h:Q (DS a b c d) s):wpAny (model prog w) A (keyLt' (tuples' true) (.ref x) (.ref y)) Q E s:=by
 refine kat_lt hx dx hy dy (kat_cons (wpAny_eqBool_int (kat_go (fun e=> ?_) fun e=> ?_)))
 .rw[beq_iff_eq] at e;unfold DS at h;rw[if_pos e] at h;refine kat_yes (kat_cons (wpAny_eqBool_int (kat_go (fun e2=> ?_) fun e2=> ?_)))
  .rw[beq_iff_eq] at e2;refine kat_yes (kat_nil ?_);rw[e2,O3 (Int.lt_irrefl _)] at h;exact h
  .exact kat_no (kat_one _ _ (PyProof.Rows.lt_int h))
 .rw[beq_eq_false_iff_ne] at e;unfold DS at h;rw[if_neg e] at h;exact kat_no (oneLt_int h)
end
def wC (h h':Heap):Prop:=∀ b x,h.get? b=some x->h'.get? b=some x
section
variable {C:bq} {A:Around} {P:Pt} {ks:List (Int×Int)} {kvs vs:List Value}
theorem AI (I:aE C P) {k:Int×Int} {v:Value} (r:RD C P.own (fX k) v):∃ b t u m,v= .ref b/\P.h.get? b=some (cj [.int k.1 t,.int k.2 u] m):=by
 obtain @⟨ad,vs,n,o,rs⟩:kC C P.own cj [.int k.1,.int k.2] v:=r.view;obtain ⟨r1,rt⟩:eQ C P.own (.int k.1) [.int k.2] vs:=rs.view;obtain ⟨r2,ru⟩:eQ C P.own (.int k.2) [] _:=rt.view;obtain ⟨t1,e1⟩:∃ t,_=Value.int k.1 t:=r1.view;obtain ⟨t2,e2⟩:∃ t,_=Value.int k.2 t:=r2.view;have e3:_=[]:=ru.view;subst e1 e2 e3;exact ⟨_,_,_,_,rfl,I.fz _ _ o⟩
theorem wK (I:aE C P) {h':Heap} (kp:wC P.h h'):∀ {ks:List (Int×Int)} {vs:List Value},RDs C P.own (ks.map fX) vs->∃ fs,KatTups h' vs fs/\fs.length=vs.length/\∀ v∈fs,∃ x t,v= .int x t
 |[],vs,r=>by rw[show vs=[] from r.view];exact ⟨[],trivial,rfl,fun _ h=>absurd h Oy⟩
 |d::l,vs,r=>by
  obtain ⟨r1,rs⟩:eQ C P.own (fX d) (l.map fX) vs:=r.view;obtain ⟨fs,t,e,k⟩:=wK I kp rs;obtain ⟨b,t1,u1,m,rfl,g⟩:=AI I r1;exact ⟨_::fs,KatTups.cons (kp _ _ g) rfl rfl rfl t,congrArg (· +1) e,fun v hv=>(Oe.mp hv).elim (fun z=>⟨_,_,z⟩) (k v)⟩
theorem DX {h':Heap} {tk:Nat} {Q:SortKind->Shared->Prop} {E:Value->Shared->Prop} (I:aE C P) (rk:RDs C P.own (ks.map fX) kvs) (h2:2<=kvs.length) (kp:wC P.h h') (q:Q (tuples' true) {P.s with heap:=h',toks:=tk}):wpAny C.M A (keyKind' kvs.toArray) Q E {P.s with heap:=h',toks:=tk}:=by
 obtain ⟨fs,t,e,kk⟩:=wK I kp rk;refine kat_kind (T:=.type "int") t (La h2 e) (fun y hy=> ?_) (by decide) q;obtain ⟨x,tt,rfl⟩:=kk y hy;exact .now
theorem wX {w:bp} {l:List D} (r:RDs C w l vs) {i:Nat} (hi:i<l.length):RD C w (l.getD i .none) (vs.getD i Value.none):=by
 have e1:l[i]? =some l[i]:=Oh hi;obtain ⟨y,e2,ry⟩:=r.get e1;rw[Ow,Ow,e1,e2];exact ry
theorem CM {n:Nat} (hk:kvs.length=n) (hv:vs.length=n):kvs.toArray.zip vs.toArray=(List.finRange n).toArray.map fun i=>(kvs.getD i.val Value.none,vs.getD i.val Value.none):=by
 apply Array.toList_inj.mp
 rw[Array.toList_zip,Array.toList_map];show kvs.zip vs=(List.finRange n).map _;refine List.ext_getElem (by rw[List.length_zip,Oc,List.length_finRange,hk,hv,Nat.min_self]) fun i h1 h2=> ?_;rw[List.length_zip] at h1;rw[List.getElem_zip,List.getElem_map,List.getElem_finRange,Ow,Ow];show _=((kvs[i]?).getD _,(vs[i]?).getD _);rw[Oh (by exact OD h1 (Nat.min_le_left _ _)),Oh (by exact OD h1 (Nat.min_le_right _ _))];rfl
theorem Dl {h':Heap} {tk:Nat} {Q:PUnit×SortSt->Shared->Prop} {E:Value->Shared->Prop} (I:aE C P) (rk:RDs C P.own (ks.map fX) kvs) (lv:vs.length=ks.length) (kp:wC P.h h')
  (h:∀ st,(arrOf st).map (·.2)=List.toArray ((zQ ks.length (zR ks)).map fun i=>vs.getD i.val Value.none)->failedOf st=none->Q (⟨⟩,st) {P.s with heap:=h',toks:=tk}):wpAny C.M A (sortRuns'.run (SortSt.mk' (tuples' true) (kvs.toArray.zip vs.toArray) #[] 7 none)) Q E {P.s with heap:=h',toks:=tk}:=by
 have lk:kvs.length=ks.length:=by rw[rk.length,Oc]
 obtain ⟨p,g,run⟩:=(Classical.choose_spec (qA ks.length (zR ks))).2;rw[CM lk lv];have at_:∀ i:_root_.Fin ks.length,∃ b t u m,kvs.getD i.val Value.none= .ref b/\P.h.get? b=some (cj [.int ks[i].1 t,.int ks[i].2 u] m):=fun i=>by
  have r1:=wX rk (i:=i.val) (by rw[Oc];exact i.2);have e:(ks.map fX).getD i.val .none=fX ks[i]:=by
   rw[Ow,Ou,Oh i.2];rfl
  rw[e] at r1;exact AI I r1
 refine wpAny_mono (run ⟨C.M,A,E,{P.s with heap:=h',toks:=tk},fun i=>(kvs.getD i.val Value.none,vs.getD i.val Value.none),tuples' true,fun i j Q' q=> ?_⟩ (fun _ st=>(arrOf st).map (·.2)=List.toArray ((zQ ks.length (zR ks)).map fun i=>vs.getD i.val Value.none)/\failedOf st=none) ⟨?_,rfl⟩) (fun z s' q=> ?_) fun _ _ e=>e
 .obtain ⟨b1,t1,u1,m1,z1,g1⟩:=at_ i;obtain ⟨b2,t2,u2,m2,z2,g2⟩:=at_ j;show wpAny _ _ (keyLt' _ (kvs.getD i.val Value.none) (kvs.getD j.val Value.none)) _ _ _;rw[z1,z2];exact A6 (kp _ _ g1) rfl (kp _ _ g2) rfl q
 .show ((List.toArray (zQ ks.length (zR ks))).map _).map _=_;rw[Array.map_map,List.map_toArray];rfl
 .obtain ⟨rfl,q1,q2⟩:=q;exact h z.2 q1 q2
theorem sM (h:ks.length<2) (lv:vs.length=ks.length):(zQ ks.length (zR ks)).map (fun i=>vs.getD i.val Value.none)=vs:=by
 rw[yt h];refine List.ext_getElem (by rw[Oc,List.length_finRange,lv]) fun i h1 h2=> ?_;rw[List.getElem_map,List.getElem_finRange,Ow];show ((vs[i]?).getD _)=_;rw[Oh h2];rfl
theorem G8 {α:Type} {n:Nat} {l:List α} {d:α} (hl:l.length=n) (L:List (_root_.Fin n)):(L.map (·.val)).filterMap (l[·]?)=L.map fun i=>l.getD i.val d:=by
 induction L with
 |nil=>rfl
 |cons i L ih=>
  have e:=Oh (l:=l) (i:=i.val) (by rw[hl];exact i.2);rw[List.map_cons,List.filterMap_cons,e,List.map_cons,Ow,e,ih];rfl
theorem m6 {w:bp} {l:List D} (r:RDs C w l vs) (hl:l.length=ks.length):RDs C w (ec ks l) ((zQ ks.length (zR ks)).map fun i=>vs.getD i.val Value.none):=by
 unfold ec Ai;rw[G8 (d:=.none) hl];generalize zQ ks.length (zR ks)=L
 induction L with
 |nil=>exact .nil
 |cons i L ih=>exact .cons (wX r (by rw[hl];exact i.2)) ih
theorem sR {α:Type} {F:PUnit×SortSt->Sem α} {h':Heap} {tk:Nat} {Q:α->Shared->Prop} {E:Value->Shared->Prop} (I:aE C P) (rk:RDs C P.own (ks.map fX) kvs) (lv:vs.length=ks.length) (kp:wC P.h h')
  (h:∀ st,(arrOf st).map (·.2)=List.toArray ((zQ ks.length (zR ks)).map fun i=>vs.getD i.val Value.none)->failedOf st=none->wpAny C.M A (F (⟨⟩,st)) Q E {P.s with heap:=h',toks:=tk}):wpAny C.M A (if vs.toArray.size<2 then pure general'>>=fun kind=>(StateT.run (if vs.toArray.size<2 then pure () else sortRuns') (SortSt.mk' kind (kvs.toArray.zip vs.toArray) #[] 7 none))>>=F else keyKind' kvs.toArray>>=fun kind=>(StateT.run (if vs.toArray.size<2 then pure () else sortRuns') (SortSt.mk' kind (kvs.toArray.zip vs.toArray) #[] 7 none))>>=F) Q E {P.s with heap:=h',toks:=tk}:=by
 have lk:kvs.length=ks.length:=by rw[rk.length,Oc]
 by_cases h2:vs.toArray.size<2
 .rw[if_pos h2,if_pos h2];rw[Oz] at h2;refine Op (Oq ?_);rw[StateT.run_pure];refine Op (Oq (h _ ?_ rfl));rw[sM (Iu lv h2) lv];show (kvs.toArray.zip vs.toArray).map (·.2)=vs.toArray
  apply Array.toList_inj.mp
  rw[Array.toList_map,Array.toList_zip];exact List.map_snd_zip (by show vs.length<=kvs.length;exact O1 (lv.trans lk.symm))
 .rw[if_neg h2,if_neg h2];rw[Oz] at h2;exact Op (DX I rk (It lv lk h2) kp (Op (Dl I rk lv kp h)))
end
end Mine.Internal
namespace Mine.Internal
open PySem PySem.W PyProof.Rows
noncomputable def ie (h:Heap) (a:Addr) (vs:List Value):Heap:=((h.update a (Obj.mapSeq fun _=>(#[]:Array Value))).push (seqObj "tuple" vs.toArray 0)).push (seqObj "list" #[] 0)
theorem m5 {h:Heap} {a b:Addr} {o:Obj} {vs:List Value} (hb:b≠a) (e:h.get? b=some o):(ie h a vs).get? b=some o:=by
 refine Ol _ (Ol _ ?_);rw[Heap.get?_update_ne _ _ _ _ hb];exact e
section
variable {prog:Program} {w:World} {A:Around} {E:Value->Shared->Prop} {s:Shared}
theorem mZ {v:Value} {kw:List (Str×Value)} {Q:Value->Shared->Prop} (ha1:argsOk "sorted" ⟨[v],kw⟩) (ha2:∀ x,argsOk "list.sort" ⟨[.ref x],kw⟩)
  (h:wpAny (model prog w) A.in1 (collect v) (fun vs s1=>vs.length<=sizeLine/\wpAny (model prog w) A.in1.in1 (Builtin.«list.sort» ⟨[.ref s1.heap.objs.size],kw⟩) (fun fin s'=>∃ x,fin= .done (.ret x)/\Q (.ref s1.heap.objs.size) s') E {s1 with heap:=s1.heap.push (seqObj "list" vs.toArray 0)}) E s):
  wpAny (model prog w) A (call (.builtin "sorted") [v] kw) Q E s:=by
 refine call_function_entry_kw kind_sorted plain_sorted entry_sorted ha1 ?_;unfold Builtin.«sorted»;refine Op (m:=checkCount "sorted" 1 1 _) (Oq ?_);refine Op (wpAny_mono h (fun vs s1 h1=> ?_) fun _ _ e=>e);refine Op (wpAny_newList ?_ h1.1);refine Op (wpAny_holding (wpAny_call_entry_kw slot_list_sort ⟨_,Ox _ rfl,rfl⟩ entry_list_sort (wpAny_mono h1.2 (fun fin s' q=> ?_) fun _ _ e=>e) (ha2 _)));obtain ⟨x,rfl,q⟩:=q;exact ⟨_,rfl,Oq ⟨_,rfl,q⟩⟩
theorem qc {l:Addr} {vs:List Value} (hl:s.heap.IsList l vs.toArray) (h64:vs.length<=1000) {Q:List Value->Shared->Prop} (h:∀ h' tk,wC s.heap h'->s.heap.objs.size<=h'.objs.size->Q vs {s with heap:=h',toks:=tk}):wpAny (model prog w) A (collect (.ref l)) Q E s:=by
 refine collect_list hl (h _ s.toks (fun b x q=> ?_) ?_) (by rw[sizeLine_eq];exact Om (h64) (Oj rfl))
 .have hlt:b<s.heap.objs.size:=OK q;rw[Heap.get?_update_ne _ _ _ _ (Nat.ne_of_lt hlt),Heap.get?_push_ne _ _ _ (Nat.ne_of_lt hlt)];exact q
 .rw[Heap.size_update,size_push'];exact OV _
end
noncomputable def HB:D->Option (Int×Int)
 | .tup [a,b]=>(iD a).bind fun x=>(iD b).map fun z=>(x,z)
 |_=>none
theorem Du {y:D} (h:(HB y).isSome=true):fX ((HB y).getD (0,0))=y:=by
 cases y with
 |tup l=>
  cases l with
  |nil=>cases h
  |cons a l=>
   cases l with
   |nil=>cases h
   |cons b l=>
    cases l with
    |cons c l=>cases h
    |nil=>
     obtain ⟨k,e⟩:=Option.isSome_iff_exists.mp h;obtain ⟨x,hx,h2⟩:=Option.bind_eq_some_iff.mp (show (iD a).bind (fun x=>(iD b).map fun z=>(x,z))=some k from e);obtain ⟨z,hz,rfl⟩:=OY.mp h2;rw[nY hx,nY hz];rfl
 |_=>cases h
noncomputable abbrev Ds (y:D):Int×Int:=(HB y).getD (0,0)
section
variable {C:bq} {A:Around} {P:Pt} {E:Value->Shared->Prop} {l:List D} {vs:List Value}
theorem Dd {v:Value} {Q:Value->Shared->Prop} (I:aE C P) (hv:gU C P l v) (hp:∀ y∈l,(HB y).isSome=true) (hz:l.length<=1000)
  (k:∀ h' t a ws n,sv C P h' a (aJ ws n)->RDs C P.own (ec (l.map Ds) l) ws->Q (.ref a) {P.s with heap:=h',toks:=t}):wpAny C.M A (call (.builtin "sorted") [v]) Q E P.s:=by
 obtain @⟨la,vs,ln,g,_,rv⟩:=hv;have lv:=rv.length;have rk:RDs C P.own ((l.map Ds).map fX) vs:=by
  rw[List.map_map,show l.map (fX ∘ Ds)=l from (List.map_congr_left fun y hy=>Du (hp y hy)).trans (List.map_id l)];exact rv
 have lk:vs.length=(l.map Ds).length:=by rw[Oc];exact lv
 refine mZ (args_sorted1 _) (fun _=>args_list_sort _) (qc ⟨_,g,rfl,_,rfl⟩ (by exact Om (O1 lv) (hz)) fun h1 tk mo sz=>⟨by rw[sizeLine_eq];exact pQ hz lv,?_⟩);generalize ha:h1.objs.size=a at sz;have ho:(h1.push (seqObj "list" vs.toArray 0)).get? a=some (seqObj "list" vs.toArray 0):=by rw[<-ha];exact Ox _ rfl
 obtain ⟨e1,ho1⟩:∃ e1,((h1.push (seqObj "list" vs.toArray 0)).update a (Obj.mapSeq fun _=>(#[]:Array Value))).get? a=some (seqObj "list" #[] e1):=⟨_,get?_update_seq ho fun _=>#[]⟩;have ho6:(ie (h1.push (seqObj "list" vs.toArray 0)) a vs).get? a=some (seqObj "list" #[] e1):=Ol _ (Ol _ ho1);have ne:∀ b x,P.h.get? b=some x->b≠a:=fun b x q=>Nat.ne_of_lt (OD (OK q) sz);have kp:wC P.h (ie (h1.push (seqObj "list" vs.toArray 0)) a vs):=fun b x q=>m5 (ne b x q) (Ol _ (mo b x q));rw[list_sort_plain];refine Op (listItems_at ho rfl ?_);refine Op (listUpdate_at ho rfl ?_ (by rw[Oz,sizeLine_eq];exact pQ hz lv) (OG _));refine Op (seqEpoch_at ho1 rfl ?_);refine Op (wpAny_newTuple ?_ (by show vs.length<=_;rw[sizeLine_eq];exact pQ hz lv));refine Op (wpAny_newList ?_ (OG _));refine wpAny_holding ?_;show wpAny C.M A.in1.in1 _ _ E {P.s with heap:=ie (h1.push (seqObj "list" vs.toArray 0)) a vs,toks:=tk};dsimp only;refine sR I rk lk kp fun st hout hf=> ?_;have rr:=m6 (ks:=l.map Ds) rv (by rw[Oc]);have lo:((zQ (l.map Ds).length (zR (l.map Ds))).map fun i=>vs.getD i.val Value.none).length<=1000:=by rw[Oc,(jL _ _).length_eq,List.length_finRange,Oc];exact hz
 generalize (zQ (l.map Ds).length (zR (l.map Ds))).map (fun i=>vs.getD i.val Value.none)=out at hout rr lo
 try dsimp only
 rw[hout];obtain ⟨c2,hc2⟩:∃ c2,((ie (h1.push (seqObj "list" vs.toArray 0)) a vs).update a (Obj.mapSeq fun _=>List.toArray out)).get? a=some (seqObj "list" (List.toArray out) c2):=⟨_,get?_update_seq ho6 fun _=>List.toArray out⟩;refine Op (seqEpoch_at ho6 rfl ?_);refine Op (listUpdate_at ho6 rfl ?_ (OG _) (by rw[Oz,sizeLine_eq];exact Om (lo) (Oj rfl)));rw[hf];simp only [bne_self_eq_false,Bool.false_eq_true,if_false];refine Oq ⟨_,rfl,k _ tk a out c2 ⟨fun b x q=> ?_,I.off sz,I.out sz,hc2⟩ rr⟩;rw[Heap.get?_update_ne _ _ _ _ (ne b x q)];exact kp b x q
end
noncomputable def qB (l:List D):Option D:=aq ((∀ y∈l,(HB y).isSome=true)/\l.length<=1000) (.lst (ec (l.map fun y=>(HB y).getD (0,0)) l))
noncomputable def xO:BF:=⟨"sorted",.builtin "sorted",by decide+kernel,fun hd ps=>off hd (g1 (fun u=>(lD u).bind qB) ps),fun {C A P hd K ps vs Q E} G hh I r w p=>iz (fun vs=>wpAny C.M A (call (.builtin "sorted") vs) Q E P.s) I r (gx w).2 fun v u z h e k=>by
 obtain ⟨l,e1,e⟩:=ao e;obtain ⟨hm,rfl⟩:=d9 e;exact Dd I (fN e1 h) hm.1 hm.2 fun h' t a ws n nw rr=>(p.fin k).note I nw t (kI I nw.own rr rfl)⟩
end Mine.Internal
namespace Mine.Internal
open PySem PySem.W PyProof.Rows
noncomputable abbrev jf (y:D):Int×Int:=(t0 y).getD (0,0)
theorem vL {y:D} (h:(t0 y).isSome=true):t0 y=some (jf y):=by
 obtain ⟨k,e⟩:=Option.isSome_iff_exists.mp h;unfold jf;rw[e];rfl
noncomputable abbrev xm (l:List D):List D:=(l.map jf).map fX
theorem Pa.ext {P₀ P:Pt} (x:Pa P₀ P []):Ext P₀ P:=⟨x.sm,x.G,x.fz,x.val,x.cell⟩
section
variable {C:bq} {A:Around} {P₀ P:Pt} {E:Value->Shared->Prop} {Pf:PySem.Fin->Shared->Prop} {items:List D} {vs kvs:List Value} {a kS:Addr} {n e1:Nat}
theorem uX {st:SortSt} {out:List Value} {ds:List D} (I:aE C P) (pa:Pa P₀ P [(kS,aJ kvs n),(a,aJ [] e1)]) (hfs:P.fs=P₀.fs) (hσ:P.σ=P₀.σ) (hout:(arrOf st).map (·.2)=List.toArray out) (hf:failedOf st=none) (hz:out.length<=1000) (hkz:kvs.length<=1000) (ro:RDs C P.own ds out)
  (k:∀ P',bv P₀ P'->aE C P'->P'.σ=P₀.σ->RD C P'.own (.lst ds) (.ref a)->Pf (.done (.ret .none)) P'.s):wpAny C.M A (ksk_tail a false e1 (.ref kS) st) Pf E P.s:=by
 have gk:=rH I pa.G;have ga:=I.gh.at_ (a,aJ [] e1) (by rw[pa.G];exact .tail _ (.head _));have ne:a≠kS:=fun q=>by
  have nd:=I.gh.nd;rw[pa.G] at nd;exact (OW.mp nd).1 (by rw[<-q];exact .head _)
 have s1:=Heap.SameBut.update P.h kS (Obj.mapSeq fun _=>(#[]:Array Value));have ga1:(P.h.update kS (Obj.mapSeq fun _=>(#[]:Array Value))).get? a=some (aJ [] e1):=(s1.2 a ne).trans ga.1;have s2:=Heap.SameBut.update (P.h.update kS (Obj.mapSeq fun _=>(#[]:Array Value))) a (Obj.mapSeq fun _=>List.toArray out);obtain ⟨c2,hc2⟩:∃ c2,((P.h.update kS (Obj.mapSeq fun _=>(#[]:Array Value))).update a (Obj.mapSeq fun _=>List.toArray out)).get? a=some (aJ out c2):=⟨_,get?_update_seq ga1 fun _=>List.toArray out⟩;unfold ksk_tail
 try dsimp only
 rw[hout];refine Op (listUpdate_at gk.2 rfl ?_ (by rw[Oz,sizeLine_eq];exact Om (hkz) (Oj rfl)) (OG _));refine Op (wpAny_letGo ?_);refine Op (seqEpoch_at ga1 rfl ?_);refine Op (listUpdate_at ga1 rfl ?_ (OG _) (by simp only [Bool.false_eq_true,if_false];rw[Oz,sizeLine_eq];exact Om (hz) (Oj rfl)));rw[hf];simp only [bne_self_eq_false,Bool.false_eq_true,if_false];refine Oq ?_;show Pf _ {P.s with heap:=(P.h.update kS (Obj.mapSeq fun _=>(#[]:Array Value))).update a (Obj.mapSeq fun _=>List.toArray out)};generalize P.h.update kS (Obj.mapSeq fun _=>(#[]:Array Value))=h1 at s1 ga1 s2 hc2 ⊢;generalize h1.update a (Obj.mapSeq fun _=>List.toArray out)=h2 at s2 hc2 ⊢;have J1:=I.show (t:=P.s.toks) pa.G fun b o hb e=>s1.extBut b o hb e;have p1:=pa.show (h:=h1) (t:=P.s.toks) gk.1;have a1:=(rH J1 p1.G).1;have J2:=J1.show (t:=P.s.toks) p1.G fun b o hb e=>s2.extBut b o hb e;have p2:=p1.show (h:=h2) (t:=P.s.toks) a1;have nw:sv C ((P.show h1 P.s.toks kS ([(a,aJ [] e1)]++P₀.G)).show h2 P.s.toks a P₀.G) h2 a (aJ out c2):=⟨fun _ _ e=>e,bl _ _ _,J1.offH (by rw[a1];exact cx.noConfusion),hc2⟩;exact k _ ((bv.mk p2.ext hfs).trans (.note nw.own)) (J2.note (t:=P.s.toks) nw) hσ (kI J2 nw.own ((ro.ext (fE gk.1)).ext (fE a1)) rfl)
theorem yv (I:aE C P) (pa:Pa P₀ P [(kS,aJ kvs n),(a,aJ [] e1)]) (hfs:P.fs=P₀.fs) (hσ:P.σ=P₀.σ) (rk:RDs C P.own (xm items) kvs) (rv:RDs C P.own items vs) (h64:items.length<=1000)
  (k:∀ P',bv P₀ P'->aE C P'->P'.σ=P₀.σ->RD C P'.own (.lst (ec (items.map jf) items)) (.ref a)->Pf (.done (.ret .none)) P'.s):wpAny C.M A (ksk_end a false vs.toArray e1 (.ref kS) kvs.toArray) Pf E P.s:=by
 have lk:kvs.length=items.length:=by rw[rk.length,Oc,Oc]
 have lv:=rv.length;unfold ksk_end;simp only [Bool.false_eq_true,if_false];refine sR (h':=P.h) (tk:=P.s.toks) I rk (by rw[Oc];exact lv) (fun _ _ e=>e) fun st hout hf=> ?_;exact uX I pa hfs hσ hout hf (by rw[Oc,(jL _ _).length_eq,List.length_finRange,Oc];exact h64) (by exact Om (O1 lk) (h64)) (m6 rv (by rw[Oc])) k
theorem uY {l:uH} {fa:Addr} (Gd:eA C) (hfrs:lV A P₀.fs) (hX:P₀.fs≠[]) (hdep:A.depth+151<recursionLimit) (huni:A.units+1003<cLine) (I:aE C P) (pa:Pa P₀ P [(kS,aJ [] 0),(a,aJ [] e1)]) (hfs:P.fs=P₀.fs) (hσ:P.σ=P₀.σ) (L:lU xn C P₀.own l fa) (rv:RDs C P₀.own items vs) (hk:∀ y∈items,(t0 y).isSome=true) (h64:items.length<=1000)
  (k:∀ P',bv P₀ P'->aE C P'->P'.σ=P₀.σ->RD C P'.own (.lst (ec (items.map jf) items)) (.ref a)->Pf (.done (.ret .none)) P'.s):wpAny C.M A (ksk_rest a (.ref fa) false vs.toArray e1 (.ref kS)) Pf E P.s:=by
 have lv:=rv.length;unfold ksk_rest;refine Op (wpAny_rule ?_)
 first
  |rw[List.forIn_toArray]
  |(rw[<-Array.forIn_toList];simp only [List.toList_toArray])
  |rw[<-Array.forIn_toList]
 refine Op (ksk_fold (fun j s'=>∃ P' kvs n,P'.s=s'/\Pa P₀ P' [(kS,aJ kvs n),(a,aJ [] e1)]/\P'.fs=P₀.fs/\P'.σ=P₀.σ/\aE C P'/\RDs C P'.own (xm (items.take j)) kvs) vs 0 P.s ⟨P,[],0,rfl,pa,hfs,hσ,I,.nil⟩ (fun j x s' hx hI=> ?_) fun s' hI=> ?_)
 .rw[O4] at hI ⊢;obtain ⟨P',kvs,m,rfl,pa',hfs',hσ',I',rk⟩:=hI;obtain ⟨hj,ex⟩:=Og.mp hx;have hj':j<items.length:=Ie lv hj;have ei:items[j]? =some items[j]:=Oh hj';obtain ⟨x',ex',rx⟩:=rv.get ei;rw[hx] at ex';cases ex';refine Op (wpAny_attempt (Bf Gd (hfs'.symm ▸ hfrs) (I'.szF (by rw[hfs'];exact hX)) hdep huni I' (L.ext pa'.fz) (rx.ext pa'.fz) (fun K=>Gz (vL (hk _ (List.getElem_mem hj')))) fun kv P'' g I'' e r=> ?_));have pa'':=pa'.grow g.toExt;have gk:=rH I'' pa''.G;have s1:=Heap.SameBut.update P''.h kS (Obj.mapSeq (·.push kv));have ea:(List.toArray kvs).push kv=List.toArray (kvs++[kv]):=by simp
  obtain ⟨c2,hc2⟩:∃ c2,(P''.h.update kS (Obj.mapSeq (·.push kv))).get? kS=some (aJ (kvs++[kv]) c2):=⟨_,by rw[aJ,<-ea];exact get?_update_seq gk.2 (·.push kv)⟩;have lkv:kvs.length=j:=by rw[rk.length,Oc,Oc,List.length_take];exact K8 lv hj
  try dsimp only
  refine Op (listUpdate_at gk.2 rfl ?_ (by rw[Oz,sizeLine_eq];exact Om (Om (O1 lkv) (Om (OQ hj) (Om (O1 lv) (h64)))) (Oj rfl)) (Om (O1 (Array.size_push ..)) (by rw[Oz,sizeLine_eq];exact Om (Nat.add_le_add_right (Om (O1 lkv) (Om (OQ hj) (Om (O1 lv) (h64)))) _) (Oj rfl))));have J:=I''.gturn (t:=P''.s.toks) pa''.G (fun b o hb e=>s1.extBut b o hb e) hc2;refine Oq ⟨rfl,_,kvs++[kv],c2,rfl,pa''.turn (h:=P''.h.update kS (Obj.mapSeq (·.push kv))) (t:=P''.s.toks) (g':=[(kS,aJ (kvs++[kv]) c2),(a,aJ [] e1)]),g.fs.trans hfs',e.trans hσ',J,?_⟩;have et:xm (items.take (j+1))=xm (items.take j)++[fX (jf items[j])]:=by rw[List.take_succ,ei];show (List.map jf (items.take j++[items[j]])).map fX=_;rw[List.map_append,List.map_append];rfl
  rw[et];exact (rk.ext g.fz).append (.cons r .nil)
 .rw[O4] at hI;obtain ⟨P',kvs,m,rfl,pa',hfs',hσ',I',rk⟩:=hI;rw[lv,List.take_length] at rk
  try dsimp only
  refine Op (listItems_at (rH I' pa'.G).2 rfl ?_);exact yv I' pa' hfs' hσ' rk (rv.ext pa'.fz) h64 k
theorem Ah {l:uH} {fa:Addr} {v:Value} {Q:Value->Shared->Prop} (Gd:eA C) (hfrs:lV A P.fs) (hX:P.fs≠[]) (hdep:A.depth+151<recursionLimit) (huni:A.units+1005<cLine) (I:aE C P) (L:lU xn C P.own l fa) (hv:gU C P items v) (hk:∀ y∈items,(t0 y).isSome=true) (h64:items.length<=1000)
  (k:∀ v P',bv P P'->aE C P'->P'.σ=P.σ->RD C P'.own (.lst (ec (items.map jf) items)) v->Q v P'.s):wpAny C.M A (call (.builtin "sorted") [v] [(Str.ofString "key",.ref fa)]) Q E P.s:=by
 obtain @⟨la,vs,ln,g,_,rv⟩:=hv;have lv:=rv.length;refine mZ (ksk_s1 _ _) (fun x=>ksk_l1 _ _) (qc ⟨_,g,rfl,_,rfl⟩ (by exact Om (O1 lv) (h64)) fun h1 tk mo sz=>⟨by rw[sizeLine_eq];exact pQ h64 lv,?_⟩);rw[ksk_t1];generalize ha:h1.objs.size=a at sz;have ho:(h1.push (seqObj "list" vs.toArray 0)).get? a=some (seqObj "list" vs.toArray 0):=by rw[<-ha];exact Ox _ rfl
 obtain ⟨e1,ho1⟩:∃ e1,((h1.push (seqObj "list" vs.toArray 0)).update a (Obj.mapSeq fun _=>(#[]:Array Value))).get? a=some (seqObj "list" #[] e1):=⟨_,get?_update_seq ho fun _=>#[]⟩;have ne:∀ b x,P.h.get? b=some x->b≠a:=fun b x q=>Nat.ne_of_lt (OD (OK q) sz);have kp:wC P.h (ie (h1.push (seqObj "list" vs.toArray 0)) a vs):=fun b x q=>m5 (ne b x q) (Ol _ (mo b x q));have n1:sv C P (ie (h1.push (seqObj "list" vs.toArray 0)) a vs) a (aJ [] e1):=⟨kp,I.off sz,I.out sz,Ol _ (Ol _ ho1)⟩;have J1:=I.hide (t:=tk) n1;generalize hS:(((h1.push (seqObj "list" vs.toArray 0)).update a (Obj.mapSeq fun _=>(#[]:Array Value))).push (seqObj "tuple" vs.toArray 0)).objs.size=kS;have la:a<kS:=by rw[<-hS];exact OK (Ol _ ho1)
 have n2:sv C (P.hide (ie (h1.push (seqObj "list" vs.toArray 0)) a vs) tk a (aJ [] e1)) (ie (h1.push (seqObj "list" vs.toArray 0)) a vs) kS (aJ [] 0):=
  ⟨fun _ _ e=>e,(a_ (Nat.ne_of_gt la)).trans (I.off (Om sz (OQ la))),I.out (Om sz (OQ la)),by rw[<-hS];exact Ox _ rfl⟩
 have J2:=J1.hide (t:=tk) n2;unfold ksk_tree;refine Op (listItems_at ho rfl ?_);refine Op (listUpdate_at ho rfl ?_ (by rw[Oz,sizeLine_eq];exact pQ h64 lv) (OG _));refine Op (seqEpoch_at ho1 rfl ?_);refine Op (wpAny_newTuple ?_ (by show vs.length<=_;rw[sizeLine_eq];exact pQ h64 lv));refine Op (wpAny_newList ?_ (OG _));refine wpAny_holding ?_;have pa:=((Pa.refl P).hide (h:=ie (h1.push (seqObj "list" vs.toArray 0)) a vs) (t:=tk) (o:=aJ [] e1) n1.own).hide (h:=ie (h1.push (seqObj "list" vs.toArray 0)) a vs) (t:=tk) (o:=aJ [] 0) n2.own;have fin:=uY (A:=A.in1.in1) (E:=E) (Pf:=fun fin s'=>∃ x,fin= .done (.ret x)/\Q (.ref a) s') Gd hfrs hX hdep (by show A.units+1+1+1003<cLine;exact huni) J2 pa rfl rfl L rv hk h64 fun P' g I' e r=>⟨_,rfl,k _ P' g I' e r⟩;rw[<-hS] at fin;exact fin
end
noncomputable def m4 (l:List D):Option D:=aq ((∀ y∈l,(t0 y).isSome=true)/\l.length<=1000) (.lst (ec (l.map jf) l))
noncomputable def Jv (s:Sx) (a:CE) (e:Expr):Bool:=oI (fun g es kw _=>cY (fun x _=>x==("sorted":Str)&&dB s.sc x) g&&one (fun e=>gA e&&a.is s e) es&&
 one (fun k=>k.arg==some ("key":Str)&&oF (fun ps b sc lp=>t6 xn s ps b sc&&s.lm.any (fun l=>lp.line==l.pos.line&&lp.col==l.pos.col)) k.value) kw) e
section
variable {X:SX} {st:Stmt} {ρ:a9} {P:Pt} {K:Out->av->Prop} {Q:Flow->Shared->Prop} {E:Value->Shared->Prop}
theorem Ap (a:CE) {e:Expr} {Q:Value->Shared->Prop} {K:R PV->av->Prop} (h:Jv X.sx a e=true) (I:aE X.C P) (G:cc X P ρ) (w:Wp K (bz (a.ev X.ker ρ) (fun x=>g1 (fun u=>(lD u).bind m4) [x]) P.σ)) (p:bg X.toCx (RV X.C) P K Q E):wpAny X.M X.A (eval e X.env) Q E P.s:=by
 refine iI (fun e=>wpAny X.M X.A (eval e X.env) Q E P.s) h fun g es kw pos h=> ?_;refine bY (fun g=>wpAny X.M X.A (eval (.Call g es kw pos) X.env) Q E P.s) (ah (ah h)) fun x px hx=> ?_;refine dj (fun es=>wpAny X.M X.A (eval (.Call (.Name x px) es kw pos) X.env) Q E P.s) (ak (ah h)) fun ae ha=> ?_;refine dj (fun kw=>wpAny X.M X.A (eval (.Call (.Name x px) [ae] kw pos) X.env) Q E P.s) (ak h) fun kwd hk=> ?_;obtain ⟨arg,le,kpos⟩:=kwd;have harg:arg=some ("key":Str):=bu (ah hk);subst harg;refine pH (fun le=>wpAny X.M X.A (eval (.Call (.Name x px) [ae] [⟨some ("key":Str),le,kpos⟩] pos) X.env) Q E P.s) (ak hk) fun ps b sc lp hl=> ?_;have hn:x=("sorted":Str):=bu (ah hx);subst hn;obtain ⟨l,hlm,hpos⟩:=any_some (ak hl);show wpAny X.M X.A (do callWith pos (<-eval (.Name ("sorted":Str) px) X.env) [] (backTo pos (starEach [ae] X.env)) (backToKw pos (keywordEach [⟨some ("key":Str),.Lambda ps b sc lp,kpos⟩] X.env))) Q E P.s;refine Op (eS (v:=.builtin "sorted") I (ak hx) (by decide+kernel) ?_);refine callWith_kw ?_ (by rw[cQ (ah ha)];rfl) (by rw[cQ (ah ha)];rfl);rw[cQ (ah ha)];refine Calls.spliced_cons (a.ok X.toCx ae ρ P _ _ E (ak ha) I G.toEnvOK (aH w) (p.bind fun z v P1 g1 I1 r1 w p=>Calls.spliced_nil ?_));refine kws_cons (Be hlm I1 (ah hl) (bu (ah hpos)) (bu (ak hpos)) fun fa P2 g2 I2 e2 L=>kws_nil ?_);have r2:jI X.C P2 [z] [v]:=.cons (r1.ext g2.toExt) .nil;have G2:=(G.ext g1).ext g2;refine iz (fun vs=>wpAny X.M X.A (call (.builtin "sorted") vs [(Str.ofString "key",.ref fa)]) Q E P2.s) I2 r2 (by rw[e2];exact w) fun v u z hnow e k=> ?_;obtain ⟨items,q1,e⟩:=ao e;obtain ⟨hm,rfl⟩:=d9 e;have d2:=X.dep2;have u2:=X.uni2;refine Ah X.good G2.frs G2.ne (K7 d2) (K6 u2) I2 L (fN q1 hnow) hm.1 hm.2 fun v' P3 g3 I3 e3 r3=> ?_;exact p.ok (.d (.lst (ec (items.map jf) items))) v' P3 (g2.trans g3) I3 r3 (by rw[e3];exact k)
end
noncomputable def HQ (a:CE):C1:=⟨fun K ρ=>ce ρ (bz (a.ev K ρ) fun x=>g1 (fun u=>(lD u).bind m4) [x]) fun v σ=>some (.ret v,σ),fun s=>j2 fun v _=>CG (Jv s a) v,fun X st ρ P K Q E h I G w p=>jg (fun st=>Ws X st Q E P) h fun v pos h=>fj (fun v=>wpAny X.M X.A (PySem.exec (.Return v pos) X.env) Q E P.s) h fun e h=>
 wpAny_Return_some (Ap a h I G (dc w) (p.bind G fun x v P1 g I1 r w G1 p=>p.ret x v P1 (G1.gs (.refl P1)) I1 r w))⟩
noncomputable def PV.at0:PV->Option Nat
 | .p n 0=>some n
 |_=>none
noncomputable def PO.wr:PO->Option cb
 | .wrp f=>some f
 |_=>none
theorem uB:∀ {x:PV} {n:Nat},x.at0=some n->x= .p n 0
 | .p _ 0,_,e=>by cases e;rfl
 | .p _ (_+1),_,e=>nomatch (show (none:Option Nat)=_ from e)
 | .d _,_,e=>nomatch (show (none:Option Nat)=_ from e)
 | .b _ _,_,e=>nomatch (show (none:Option Nat)=_ from e)
theorem CQ:∀ {o:PO} {f:cb},o.wr=some f->o= .wrp f
 | .wrp _,_,e=>by cases e;rfl
 | .fld _,_,e=>nomatch (show (none:Option cb)=_ from e)
 | .rcd _ _,_,e=>nomatch (show (none:Option cb)=_ from e)
 | .dead,_,e=>nomatch (show (none:Option cb)=_ from e)
noncomputable def zV (ps:List PV) (σ:av):Option (Nat×cb):=(ps[wI]?).bind fun x=>x.at0.bind fun m=>(bU σ m 0).bind fun f=>f.rd.bind fun _=>aq (ps.length<=1000) (m,f)
noncomputable def sB (ps:List PV):PM PV:=fun σ=>(zV ps σ).map fun q=>(.ok (.p σ.length 0),((σ++[PO.dead]).set q.1 .dead).set σ.length (.wrp q.2))
noncomputable def Ju (x:PV) (σ:av):Option (Nat×cb):=x.at0.bind fun n=>(σ[n]?).bind fun o=>o.wr.map fun f=>(n,f)
noncomputable def xp (x:PV):PM PV:=fun σ=>(Ju x σ).map fun q=>(.ok (.p q.1 2),σ)
theorem zY {α β:Type} {K:R α->av->Prop} {g:β->R α×av}:∀ {o:Option β},Wp K (o.map g)->∃ q,o=some q/\K (g q).1 (g q).2
 |some q,w=>⟨q,rfl,w⟩
 |none,w=>w.elim
section
variable {C:bq} {A:Around} {P:Pt} {Q E:Value->Shared->Prop}
theorem jI.len {ps:List PV} {vs:List Value} (h:jI C P ps vs):vs.length=ps.length:=by
 induction h with
 |nil=>rfl
 |cons _ _ ih=>exact congrArg (· +1) ih
theorem CN {h':Heap} {a d:Addr} {o:Obj} {vs:List Value} {m t:Nat} {f:cb} {po:PO} (I:aE C P) (n:sv C P h' d (cj vs 0)) (em:P.σ[m]? =some po) (y1:P.own a= .cell m 0) (y2:P.h.get? a=some o) (y3:RF C P.own o f) (e5:vs[wI]? =some (.ref a)):
  ∃ P',bv P P'/\aE C P'/\RV C P' (.ref d) (.p P.σ.length 0)/\P'.σ=((P.σ++[PO.dead]).set m .dead).set P.σ.length (.wrp f)/\P'.s={P.s with heap:=h',toks:=t}:=by
 have lm:=(Og.mp em).1;have em':(P.σ++[PO.dead])[m]? =some po:=(OX lm).trans em;have nad:a≠d:=fun q=>by rw[q,n.own] at y1;cases y1
 have cs:=cg P.own d (.cell P.σ.length 0);have oN:∀ b k,fQ P.own d (.cell P.σ.length 0) b= .cell P.σ.length k->b=d/\k=0:=fun b k q=>by
  rcases cs b with ⟨z,u⟩|⟨_,u⟩
  .cases u.symm.trans q;exact ⟨z,rfl⟩
  .exact absurd (I.bd b _ _ (u.symm.trans q)).lt (OU _)
 obtain ⟨J,fz⟩:=qm (t:=t) (j:=2) (a:=a) (d:=d) (p1:=.wrp f) (I.make (po:=.dead) (t:=t) trivial n trivial) (m:=m) (n:=P.σ.length) (h':=h') em' eR (Nat.ne_of_lt lm) ((a_ nad).trans y1) (bl _ _ _) (fun _ _ _ e=>e) (n.keep _ _ y2) n.at_ (fun b q=>nomatch (oN b 2 q).2) (fun b k q=>by rw[(oN b k q).2];exact Nat.zero_lt_succ _) (Nat.lt_succ_self 2)
  ⟨d,vs,0,.ref a,(a_ (Ne.symm nad)).trans (bl _ _ _),n.at_,e5,.mk (bl _ _ _) (n.keep _ _ y2) (y3.ext fun b o q=>(a_ fun c=>by rw[c,y1] at q;cases q).trans (dg n.own b o q))⟩
 have cs2:=cg (fQ P.own d (.cell P.σ.length 0)) a (.cell P.σ.length 2);refine ⟨(P.make h' t d .dead).adopt h' t a m P.σ.length 2 (.wrp f),⟨⟨⟨h',t,rfl⟩,rfl,fun b o q=>fz b o (dg n.own b o q),fun k j v=> ?_,fun k j b v q=> ?_⟩,rfl⟩,J,⟨⟨.wrp f,List.getElem?_set_self (by rw[OE];show _<(P.σ++[PO.dead]).length;rw[Of];exact Nat.lt_succ_self _),Nat.zero_lt_succ _⟩,fun b q=> ?_⟩,rfl,rfl⟩
 .obtain ⟨o,q1,q2⟩:=c6 (o':=.dead) em' (fun _ _=>trivial) (fR (l:=[PO.dead]) v);exact ⟨o,(OI (Nat.ne_of_gt v.lt)).trans q1,q2⟩
 .rcases cs2 b with ⟨_,u⟩|⟨_,u⟩
  .cases u.symm.trans q;exact absurd v.lt (OU _)
  .rcases cs b with ⟨_,w⟩|⟨_,w⟩
   .cases w.symm.trans (u.symm.trans q);exact absurd v.lt (OU _)
   .exact w.symm.trans (u.symm.trans q)
 .rcases cs2 b with ⟨_,u⟩|⟨_,u⟩
  .cases u.symm.trans q
  .rw[(oN b 0 (u.symm.trans q)).1]
theorem yJ {K:R PV->av->Prop} {ps:List PV} {vs:List Value} (I:aE C P) (r:jI C P ps vs) (w:Wp K (sB ps P.σ)) (p:dt C A (RV C) P K Q E):wpAny C.M A (newTuple vs) Q E P.s:=by
 refine aW fun G9 k9=> ?_;obtain ⟨q,e,w⟩:=zY w;obtain ⟨y,e1,e⟩:=ao e;obtain ⟨m,e2,e⟩:=ao e;obtain ⟨f,e3,e⟩:=ao e;obtain ⟨x,e4,e⟩:=ao e;obtain ⟨hl,e⟩:=d9 e;refine k9 ?_;subst e;rw[uB e2] at e1;refine aW fun G9 k9=> ?_;obtain ⟨v,e5,rv⟩:=r.get e1;obtain ⟨y1,y2,y3⟩:=lR I rv e3 (gz e4).2;obtain ⟨po,em,_⟩:=ao e3;obtain ⟨P',g,J,rv',es,ep⟩:=CN (t:=P.s.toks) I (I.newTup vs 0) em y1 y2 y3 e5;refine k9 ?_;exact wpAny_newObj_type (ep ▸ p.ok _ _ P' g J rv' (es ▸ w)) (show vs.toArray.size<=sizeLine by rw[Oz,r.len];exact Om hl (by decide))
theorem DZ {K:R PV->av->Prop} {x:PV} {vx:Value} {value e:Expr} {t:Tok} (he:cC e=true) (I:aE C P) (r:RV C P vx x) (w:Wp K (xp x P.σ)) (p:dt C A (RV C) P K Q E):wpAny C.M A (subscriptTail value e vx (.int wI t)) Q E P.s:=by
 refine aW fun G9 k9=> ?_;obtain ⟨q,e0,w⟩:=zY w;obtain ⟨n,e1,e0⟩:=ao e0;obtain ⟨o,e2,e0⟩:=ao e0;obtain ⟨f,e3,e0⟩:=aZ e0;refine k9 ?_;subst e0;rw[CQ e3] at e2;rw[uB e1] at r;refine aW fun G9 k9=> ?_;obtain ⟨d,vs,k,v3,y1,y2,y3,y4⟩:RO C P.own P.h n (.wrp f):=I.obj n _ e2;refine k9 ?_;rw[r.2 d y1];have ht:IsTup P.h d vs.toArray:=⟨_,y2,rfl,k,rfl⟩;have l2:=(Og.mp y3).1;have pl:cB wI vs.length=some wI:=(if_pos (by decide)).trans (if_pos (OP.mpr l2));exact tail_any ht.typeIs slot_tuple_getitem.lookup (PyProof.Rows.getItem_tuple ht (by decide) (by decide) (fT pl).1 (List.getElem?_toArray.trans y3) (p.ok (.p n 2) v3 P (.refl _) I ⟨⟨_,e2,Nat.lt_succ_self 2⟩,fun b q=>by
  obtain ⟨z1,_,_⟩:=y4;rw[I.one _ _ _ _ z1 q]⟩ w)) (cy he _ _)
end
section
variable {X:Cx} {e:Expr} {ρ:a9} {P:Pt} {K:R PV->av->Prop} {Q E:Value->Shared->Prop}
theorem C3 (l:CL) (h:iX (fun es _ _=>l.is X.sx es) e=true) (I:aE X.C P) (G:EnvOK X P ρ) (w:Wp K (bz (l.ev X.ker ρ) sB P.σ)) (p:bg X (RV X.C) P K Q E):wpAny X.M X.A (eval e X.env) Q E P.s:=
 km (fun e=>wpAny X.M X.A (eval e X.env) Q E P.s) h fun es k pos h=>Tuple_ (l.ok X es pos ρ P _ _ E h I G (aH w) (p.bind fun xs vs P1 g1 I1 r1 w p=>yJ I1 r1 w p))
theorem C' (a:CE) (h:bx (fun v j _=>cC j&&a.is X.sx v&&(ai wI).is X.sx j) e=true) (I:aE X.C P) (G:EnvOK X P ρ) (w:Wp K (bz (a.ev X.ker ρ) (fun x=>bz ((ai wI).ev X.ker ρ) fun _=>xp x) P.σ)) (p:bg X (RV X.C) P K Q E):wpAny X.M X.A (eval e X.env) Q E P.s:=
 bZ (fun e=>wpAny X.M X.A (eval e X.env) Q E P.s) h fun v j pos h=>Subscript_ (a.ok X v ρ P _ _ E (ak (ah h)) I G (aH w) (p.bind fun x v P1 g1 I1 r1 w p=>
  (ai wI).ok X j ρ P1 (fun q σ=>q= .ok (.d (.int wI))/\Wp K (xp x σ)) _ E (ak h) I1 (G.ext g1) ⟨rfl,w⟩ ⟨fun y u P2 g2 I2 r2 w=>by
   cases w.1;obtain ⟨t,rfl⟩:∃ t,u= .int wI t:=RD.view r2;exact DZ (ah (ah h)) I2 (r1.ext g2.toExt) w.2 (p.mono g2),fun c e P2 g2 I2 xx w=>by cases w.1⟩))
end
noncomputable def Ku (l:CL):CE:=⟨fun K ρ=>bz (l.ev K ρ) sB,fun s=>iX fun es _ _=>l.is s es,fun _ _ _ _ _ _ _ h I G w p=>C3 l h I G w p⟩
noncomputable def Kw (a:CE):CE:=⟨fun K ρ=>bz (a.ev K ρ) fun x=>bz ((ai wI).ev K ρ) fun _=>xp x,fun s=>bx fun v j _=>cC j&&a.is s v&&(ai wI).is s j,fun _ _ _ _ _ _ _ h I G w p=>C' a h I G w p⟩
noncomputable section
noncomputable def nQ:List (List Nat):=[Pg,[102,105,114,115,116],Ph,Pi,[116,111,108,100],Pn,[98,97,99,107,115],Pj,Pp]
abbrev rP:C1:=(sP false 3 4 (b8 (ag 0) 3) (gY (lx oV oV (ag 1) (sub (ag 4) (ai 1)) (ag 2))) (ag 4))
def zt:CS:=(sC rP (sC (HQ (ag 3)) sN))
def uy:CS:=(sC (aK 4 (ai 0)) (sC (eD 5 (b8 (ag 0) 3) (sC (cI (mw (bH (aO EI (ag 3) hJ) (bH (aO oV (sub (ag 5) (ai 1)) (ag 3)) e_))) (sC (eD 6 (sub (ag 5) (ai 3)) (sC (cI (lW (cE (aO dY (sub (ag 6) (ai 0)) (ag 1)) (cE (aO dY (sub (ag 6) (ai 1)) (ag 2)) h_))) (sC (aK 4 (aG bf (ag 4) (sub (ag 6) (ai 2)))) sN) sN) sN)) sN) sN) sN)) (sC (aT (ag 4)) sN)))
def t_:CS:=(sC (cI (mw (bH (aO uM (ag 0) (ai 0)) (bH (aO CK (ag 0) (zr "LAST_DAY" (some 99999,[]))) e_))) (sC (cz 4 [110,111,32,100,97,121]) sN) sN) sN)
abbrev me:C1:=(cI (aO uM (ag 1) (ag 0)) (sC (cz 4 [116,104,101,32,108,97,115,116,32,100,97,121,32,105,115,32,98,101,108,111,119,32,116,104,101,32,102,105,114,115,116,32,111,110,101]) sN) sN)
def rN:CS:=(sC (aL (ax 3 (aj (ag 0) au))) (sC (aL (ax 3 (aj (ag 1) au))) (sC me sN)))
def kT:CS:=(sC (cI (mw (bH (aO mh (bi ba (aj (ag 0) au)) (ai 3)) (bH (dD (lu (bi wg (aj (qP false (iE 1 (ag 0) il (ss Ca (ag 1) (zr "GREAT" (none,Pq))))) au)))) e_))) (sC (cz 2 [110,111,32,99,117,114,114,101,110,99,121]) sN) sN) sN)
def mj:CS:=(sC (cI (aO ol (ag 1) (b8 (ag 0) 1)) (sC (cz 11 [110,111,32,115,117,99,104,32,97,99,99,111,117,110,116]) sN) sN) sN)
abbrev md:CS:=(sC (cI (lW (cE (aO dY (sub (ag 9) (ai 0)) (ag 1)) (cE (aO dY (sub (ag 9) (ai 1)) (ag 2)) h_))) (sC (aK 6 (aG bf (ag 6) (sub (ag 9) (ai 2)))) (sC (aL (bm aN (ag 7) (aj (bw (aj (sub (ag 8) (ai 1)) (aj (sub (ag 8) (ai 0)) (aj (sub (ag 9) (ai 2)) (aj (ag 6) au))))) au))) sN)) sN) sN)
abbrev ma:CS:=(sC (eD 9 (sub (ag 8) (ai 3)) md) sN)
abbrev g_:C1:=(aK 5 (meth (ag 0) 26 (aj (ag 1) (aj (ag 2) (aj (aG dm (ag 3) (ai 1)) au)))))
abbrev g9:C1:=(eD 8 (ax 126 (aj (ag 0) (aj (ag 3) (aj (ag 4) au)))) ma)
def rI:CS:=(sC (aL (meth (ag 0) 15 (aj (ag 1) au))) (sC (aL (ax 5 (aj (ag 2) au))) (sC (aL (ax 163 (aj (ag 3) (aj (ag 4) au)))) (sC g_ (sC (aK 6 (ag 5)) (sC (aK 7 (fu au)) (sC g9 (Dk 7 (sC (aT (bw (aj (ag 5) (aj (ag 7) (aj (ag 6) au))))) sN)))))))))
def wa:CS:=(sC (cI (mw (bH (aO uM (bi ba (aj (ag 0) au)) (ai 1)) (bH (aO CK (bi ba (aj (ag 0) au)) (ai 12)) (bH (aO EH (sub (ag 0) (ai 0)) (zr "SMALL" (none,Pu))) e_)))) (sC (aT (cD false)) sN) sN) (sC (aT (bi wg (aj (qP false (iE 1 (ag 0) il (ss Ca (ag 1) (aG bf (zr "SMALL" (none,Pu)) (zr "FIGURES" (none,[48,49,50,51,52,53,54,55,56,57])))))) au))) sN))
def Cg:CS:=(sC (cI (dD (lu (ax 36 (aj (ag 1) au)))) (sC (cz 1 [110,111,32,110,97,109,101,32,111,102,32,97,110,32,97,99,99,111,117,110,116]) sN) sN) (sC (cI (aO Hg (ag 1) (b8 (ag 0) 1)) (sC (cz 9 [97,110,32,97,99,99,111,117,110,116,32,116,104,97,116,32,105,115,32,116,104,101,114,101,32,97,108,114,101,97,100,121]) sN) sN) (sC (aL (bm aN (b8 (ag 0) 1) (aj (ag 1) au))) (sC (aL (bm aN (b8 (ag 0) 6) (aj (bw (aj (aU [97,99,99,111,117,110,116]) (aj (ag 1) au))) au))) sN))))
abbrev tz:CS:=(sC (cI (lW (cE (aO dY (sub (ag 7) (ai 0)) (ag 1)) (cE (aO dY (sub (ag 7) (ai 1)) (ag 2)) h_))) (sC (aK 5 (aG bf (ag 5) (sub (ag 7) (ai 2)))) (sC (aL (bm aN (ag 4) (aj (bw (aj (sub (ag 6) (ai 1)) (aj (sub (ag 6) (ai 0)) (aj (sub (ag 7) (ai 2)) (aj (ag 5) au))))) au))) sN)) sN) sN)
abbrev tx:CS:=(sC (eD 7 (sub (ag 6) (ai 3)) tz) sN)
def AY:CS:=(sC (aK 4 (fu au)) (sC (aK 5 (ag 3)) (sC (eD 6 (ag 0) tx) (sC (aT (ag 4)) sN))))
abbrev pB:C1:=(aT (ax 126 (aj (ag 0) (aj (ag 1) (aj (ag 2) au)))))
def v_:CS:=(sC (aL (ax 163 (aj (ag 1) (aj (ag 2) au)))) (sC pB sN))
abbrev kR:CS:=(sC (cI (lW (cE (aO dY (sub (ag 9) (ai 0)) (ag 1)) (cE (aO dY (sub (ag 9) (ai 1)) (ag 2)) h_))) (sC (aK 6 (aG bf (ag 6) (sub (ag 9) (ai 2)))) (sC (aL (bm aN (ag 7) (aj (bw (aj (sub (ag 8) (ai 1)) (aj (sub (ag 8) (ai 0)) (aj (sub (ag 9) (ai 2)) (aj (ag 6) au))))) au))) sN)) sN) sN)
abbrev kQ:CS:=(sC (eD 9 (sub (ag 8) (ai 3)) kR) sN)
abbrev kP:C1:=(aK 5 (meth (ag 0) 26 (aj (ag 1) (aj (ag 2) (aj (aG dm (ag 3) (ai 1)) au)))))
abbrev kO:C1:=(eD 8 (ax 126 (aj (ag 0) (aj (ag 3) (aj (ag 4) au)))) kQ)
def pA:CS:=(sC (aL (meth (ag 0) 15 (aj (ag 1) au))) (sC (aL (ax 5 (aj (ag 2) au))) (sC (aL (ax 163 (aj (ag 3) (aj (ag 4) au)))) (sC kP (sC (aK 6 (ag 5)) (sC (aK 7 (fu au)) (sC kO (sC (aT (Ku (aj (ag 5) (aj (ag 7) (aj (ag 6) au))))) sN))))))))
abbrev lf:C1:=(aT (meth (ag 0) 26 (aj (ag 1) (aj (ag 2) (aj (ag 3) au)))))
def pG:CS:=(sC (aL (meth (ag 0) 15 (aj (ag 1) au))) (sC (aL (ax 5 (aj (ag 2) au))) (sC (aL (ax 3 (aj (ag 3) au))) (sC lf sN))))
abbrev lE:CS:=(sC (cI (lW (cE (aO uM (sub (ag 5) (ai 1)) (ag 3)) (cE (aO dY (sub (ag 6) (ai 0)) (ag 1)) (cE (aO dY (sub (ag 6) (ai 1)) (ag 2)) h_)))) (sC (aK 4 (aG bf (ag 4) (sub (ag 6) (ai 2)))) sN) sN) sN)
abbrev lC:CS:=(sC (eD 6 (sub (ag 5) (ai 3)) lE) sN)
def A3:CS:=(sC (aK 4 (ai 0)) (sC (eD 5 (ag 0) lC) (sC (aT (ag 4)) sN)))
def AV:CS:=(sC (aT (Cv (Ct (CJ FE (ag 0)) (Cs (M2 (CJ C2 (ag 0))))))) sN)
abbrev rb:C1:=(aK 3 (bi xO (aj (qP false (iE 5 (ag 0) (gY (lx oV oV (ag 1) (sub (ag 5) (ai 1)) (ag 2))) (bw (aj (sub (ag 5) (ai 1)) (aj (sub (ag 5) (ai 0)) au))))) au)))
abbrev ra:C1:=(aT (qP false (iE 4 (ag 3) il (sub (ag 0) (aG dm (sub (ag 4) (ai 1)) (ai 1))))))
def yV:CS:=(sC rb (sC ra sN))
abbrev lz:CS:=(sC (cI (mw (bH (dD (lu (CJ mT (ag 11)))) (bH (dD (lu (ax 34 (aj (sub (ag 11) (ai 2)) au)))) (bH (dD (lu (ax 34 (aj (sub (ag 11) (ai 3)) au)))) e_)))) (sC (aT (cD false)) sN) sN) sN)
abbrev tm:C1:=(aK 7 (ax 181 (aj (key (ag 1) 3 Pi) (aj (ag 4) (aj (ag 5) au)))))
abbrev tj:C1:=(aK 8 (ax 166 (aj (ag 0) (aj (ag 4) (aj (ag 5) au)))))
abbrev ti:C1:=(cI (mw (bH (dD (lu (CJ qt (ag 8)))) (bH (aO mh (ag 8) (ag 7)) e_))) (sC (aT (cD false)) sN) sN)
abbrev th:C1:=(aK 9 (ax 164 (aj (ag 0) (aj (ag 2) (aj (ag 3) (aj (ag 4) (aj (ag 5) au)))))))
abbrev tg:C1:=(cI (mw (bH (dD (lu (CJ mT (ag 9)))) (bH (aO mh (bi ba (aj (ag 9) au)) (ai 3)) (bH (dD (lu (CJ qt (sub (ag 9) (ai 1))))) e_)))) (sC (aT (cD false)) sN) sN)
abbrev tf:C1:=(aK 10 (ax 180 (aj (key (ag 1) 3 Pi) (aj (ag 2) (aj (ag 3) (aj (ag 4) au))))))
abbrev td:C1:=(cI (mw (bH (dD (lu (ax 34 (aj (sub (ag 9) (ai 0)) au)))) (bH (dD (lu (ax 34 (aj (sub (ag 9) (ai 2)) au)))) (bH (aO mh (sub (ag 9) (ai 0)) (ag 10)) e_)))) (sC (aT (cD false)) sN) sN)
abbrev ta:C1:=(aK 12 (ax 180 (aj (key (ag 1) 3 Pi) (aj (ag 2) (aj (ag 3) (aj (aG bf (ag 5) (ai 1)) au))))))
abbrev q9:C1:=(cI (mw (bH (aO mh (sub (ag 9) (ai 1)) (ax 178 (aj (ag 7) (aj (ag 2) (aj (ag 3) (aj (ag 10) au)))))) (bH (aO mh (sub (ag 9) (ai 2)) (ag 12)) e_))) (sC (aT (cD false)) sN) sN)
abbrev q8:C1:=(cI (aO mh (meth (ag 0) 61 (aj (ag 2) (aj (ag 3) (aj (ag 5) au)))) (ag 12)) (sC (aT (cD false)) sN) sN)
abbrev q7:C1:=(aL (bm aN (ag 6) (aj (bw (aj (ag 8) (aj (bi BG (aj (ag 8) au)) au))) au)))
abbrev qZ:C1:=(aL (bm aN (ag 6) (aj (bw (aj (sub (ag 9) (ai 1)) (aj (bi BG (aj (sub (ag 9) (ai 1)) au)) au))) au)))
abbrev qY:C1:=(aK 13 (ax 179 (aj (ag 0) (aj (ag 2) (aj (ag 3) (aj (ag 4) (aj (ag 5) au)))))))
abbrev qX:C1:=(aL (bm aN (Kw (ag 13)) (aj (aU [109,111,114,101]) au)))
abbrev qW:C1:=(aK 13 (ax 164 (aj (ag 0) (aj (ag 2) (aj (ag 3) (aj (ag 4) (aj (ag 5) au)))))))
abbrev qU:C1:=(aT (Cv (Ct (ss dY (ax 166 (aj (ag 0) (aj (ag 4) (aj (ag 5) au)))) (ag 7)) (Cs (ss dY (sub (ag 13) (ai 1)) (ax 178 (aj (ag 7) (aj (ag 2) (aj (ag 3) (aj (ag 10) au))))))))))
def AW:CS:=(sC tm (sC tj (sC ti (sC th (sC tg (sC tf (sC td (sC (eD 11 (sub (ag 9) (ai 1)) lz) (sC ta (sC q9 (sC q8 (sC q7 (sC qZ (sC qY (sC qX (sC qW (sC qU sN)))))))))))))))))
def zJ:CS:=(sC (cI (aO dY (bi ba (aj (b8 (ag 0) 5) au)) (ai 0)) (sC (aT (neg (ai 1))) sN) sN) (sC (aT (sub (b8 (ag 0) 5) (aG dm (bi ba (aj (b8 (ag 0) 5) au)) (ai 1)))) sN))
def rZ:CS:=(sC (aL (ax 3 (aj (ag 1) au))) (sC (cI (aO oV (ag 1) (meth (ag 0) 2 au)) (sC (cz 8 [97,32,99,108,111,115,101,100,32,100,97,121]) sN) sN) sN))
def Cf:CS:=(sC (aL (meth (ag 0) 4 (aj (ag 1) au))) (sC (aL (bm aN (b8 (ag 0) 5) (aj (ag 1) au))) (sC (aL (bm aN (b8 (ag 0) 6) (aj (bw (aj (aU [99,108,111,115,101]) (aj (ag 1) au))) au))) (sC (aT (bi ba (aj (b8 (ag 0) 5) au))) sN))))
abbrev ri:C1:=(aT (sub (aG bf (cU (aj (neg (ai 1)) au)) (key (ag 0) 5 Pn)) (neg (ai 1))))
def y_:CS:=(sC ri sN)
abbrev y6:C1:=(cI (aO dY (aG aY (ag 1) (ai 3)) (ai 0)) (sC (aT (aG bf (aG bf (ag 2) (ai 1)) (aG aY (aG bh (ag 1) (ai 3)) (aG dm (ai 99999) (ag 2))))) sN) sN)
abbrev yZ:C1:=(aT (bi pY (aj (ai 99999) (aj (aG bf (aG bf (ag 2) (ai 1)) (aG aY (aG bh (ag 1) (ai 3)) (ai 7))) au))))
def Go:CS:=(sC (aK 2 (ax 70 (aj (ag 0) au))) (sC y6 (sC yZ sN)))
abbrev tw:C1:=(aL (bm aN (key (ag 1) 5 Pn) (aj (ag 3) au)))
abbrev tu:C1:=(aL (bm aN (key (ag 1) 7 Pj) (aj (bw (aj (aU [99,108,111,115,101]) (aj (ag 3) au))) au)))
abbrev tn:C1:=(aT (ss dY (meth (ag 0) 11 (aj (ag 3) au)) (bi ba (aj (key (ag 1) 5 Pn) au))))
def AX:CS:=(sC (aK 3 (ax 71 (aj (ag 1) (aj (ag 2) au)))) (sC tw (sC tu (sC tn sN))))
def Ce:CS:=(sC (aK 5 (aG bf (bi ba (aj (b8 (ag 0) 3) au)) (ai 1))) (sC (aL (bm aN (b8 (ag 0) 3) (aj (bw (aj (ag 5) (aj (ag 1) (aj (ag 2) (aj (ag 3) (aj (ag 4) au)))))) au))) (sC (aT (ag 5)) sN)))
def Cd:CS:=(sC (cI (mw (bH (aO uM (ag 1) (ai 1)) (bH (aO CK (ag 1) (bi ba (aj (b8 (ag 0) 3) au))) e_))) (sC (cz 12 [110,111,32,115,117,99,104,32,101,110,116,114,121]) sN) sN) (sC (aT (sub (b8 (ag 0) 3) (aG dm (ag 1) (ai 1)))) sN))
def ux:CS:=(sC (aK 3 (meth (ag 0) 8 (aj (ag 1) au))) (sC (cI (mw (bH (aO mh (sub (ag 3) (ai 4)) (ai 0)) (bH (aO JP (ag 1) (b8 (ag 0) 4)) e_))) (sC (cz 10 [97,110,32,101,110,116,114,121,32,116,104,97,116,32,99,97,110,39,116,32,98,101,32,116,97,107,101,110,32,98,97,99,107]) sN) sN) (sC (aL (meth (ag 0) 4 (aj (ag 2) au))) (sC (aK 4 (bi gP (aj (qP false (iE 5 (sub (ag 3) (ai 3)) il (bw (aj (sub (ag 5) (ai 0)) (aj (sub (ag 5) (ai 1)) (aj (neg (sub (ag 5) (ai 2))) au)))))) au))) (sC (qJ (b8 (ag 0) 4) (ag 1) (cD true)) (sC (aL (bm aN (b8 (ag 0) 6) (aj (bw (aj (aU [98,97,99,107]) (aj (ag 1) (aj (ag 2) au)))) au))) (sC (aT (meth (ag 0) 7 (aj (ag 2) (aj (sub (ag 3) (ai 2)) (aj (ag 4) (aj (ag 1) au)))))) sN)))))))
abbrev yX:C1:=(aK 5 (aG bf (bi ba (aj (key (ag 0) 3 Pi) au)) (ai 1)))
abbrev yW:C1:=(aL (bm aN (key (ag 0) 3 Pi) (aj (bw (aj (ag 5) (aj (ag 1) (aj (ag 2) (aj (bi gP (aj (ag 3) au)) (aj (ag 4) au)))))) au)))
def Gm:CS:=(sC yX (sC yW (sC (aT (ag 5)) sN)))
abbrev nI:C1:=(aK 4 (aG bf (ai 1) (aG aY (ag 3) (bi n4 (aj (ai 1) (aj (bi ba (aj (key (ag 1) 3 Pi) au)) au))))))
abbrev nH:C1:=(cI (mw (bH (aO dY (key (ag 1) 3 Pi) (cU au)) (bH (aO Hg (ag 4) (key (ag 1) 6 [98,97,99,107,115])) (bH (aO mh (sub (sub (key (ag 1) 3 Pi) (aG dm (ag 4) (ai 1))) (ai 4)) (ai 0)) e_)))) (sC (aT (cD true)) sN) sN)
abbrev nG:C1:=(aK 5 (sub (key (ag 1) 3 Pi) (aG dm (ag 4) (ai 1))))
abbrev ir:C1:=(sP false 7 9 (sub (ag 5) (ai 3)) il (bw (aj (sub (ag 9) (ai 0)) (aj (sub (ag 9) (ai 1)) (aj (aG dm (ai 0) (sub (ag 9) (ai 2))) au)))))
abbrev nF:C1:=(aK 8 (ax 73 (aj (ag 1) (aj (ag 6) (aj (sub (ag 5) (ai 2)) (aj (ag 7) (aj (ag 4) au)))))))
abbrev nE:C1:=(aL (bm aN (key (ag 1) 6 [98,97,99,107,115]) (aj (ag 4) au)))
abbrev nD:C1:=(aL (bm aN (key (ag 1) 7 Pj) (aj (bw (aj (aU [98,97,99,107]) (aj (ag 4) (aj (ag 6) au)))) au)))
abbrev nC:C1:=(aT (ss dY (meth (ag 0) 9 (aj (ag 4) (aj (ag 6) au))) (ag 8)))
def tM:CS:=(sC nI (sC nH (sC nG (sC (aK 6 (ax 71 (aj (ag 1) (aj (ag 2) au)))) (sC ir (sC nF (sC nE (sC nD (sC nC sN)))))))))
def rO:CS:=(sC (aT (Cv (Ct (ss mh (ag 0) (ai 0)) (Cs (EC uM uM (neg (zr "BOUND" (some 1000000000000000000000000000000,[]))) (ag 0) (zr "BOUND" (some 1000000000000000000000000000000,[]))))))) sN)
def wb:CS:=(sC (aT (aG bh (aG ft (aG ft (ag 0) (sub (ag 1) (ai 0))) (sub (ag 2) (ai 1))) (aG ft (sub (ag 1) (ai 1)) (sub (ag 2) (ai 0))))) sN)
def x_:CS:=(sC (aL (ax 5 (aj (ag 1) au))) (sC (aL (ax 3 (aj (ag 2) au))) (sC (cI (aO dY (ag 1) (b8 (ag 0) 0)) (sC (aT (bw (aj (ai 1) (aj (ai 1) au)))) sN) sN) (sC (aK 3 (bm yT (b8 (ag 0) 2) (aj (ag 1) (aj xW au)))) (sC (sP false 4 5 (ag 3) (gY (aO oV (ag 5) (ag 2))) (ag 5)) (sC (cI (aO dY (bi ba (aj (ag 4) au)) (ai 0)) (sC (cz 13 [110,111,32,114,97,116,101,32,102,111,114,32,116,104,105,115,32,100,97,121]) sN) sN) (sC (aT (sub (ag 3) (bi BE (aj (ag 4) au)))) sN)))))))
def rM:CS:=(sC (cI (mw (bH (aO CK (bi ba (aj (ag 0) au)) (ai 40)) (bH (dD (lu (bi wg (aj (qP false (iE 1 (ag 0) il (EC B' B' (aU [32]) (ag 1) (aU [126])))) au)))) e_))) (sC (cz 5 [110,111,32,110,111,116,101]) sN) sN) sN)
abbrev pF:C1:=(cI (aO dY (ag 4) (ag 7)) (sC (cz 2 [98,111,116,104,32,99,117,114,114,101,110,99,105,101,115,32,97,114,101,32,116,104,101,32,115,97,109,101]) sN) sN)
abbrev pE:C1:=(cI (mw (bH (aO uM (ag 5) (ai 1)) (bH (dD (lu (ax 12 (aj (ag 5) au)))) e_))) (sC (cz 3 [110,111,32,97,109,111,117,110,116,32,116,111,32,99,111,110,118,101,114,116]) sN) sN)
abbrev pD:C1:=(aK 8 (ax 13 (aj (ag 5) (aj (meth (ag 0) 14 (aj (ag 4) (aj (ag 1) au))) (aj (meth (ag 0) 14 (aj (ag 7) (aj (ag 1) au))) au)))))
abbrev oz:C1:=(cI (aO dY (ag 8) (ai 0)) (sC (cz 14 [110,111,116,104,105,110,103,32,105,115,32,103,111,116]) sN) sN)
abbrev ow:C1:=(cI (dD (lu (ax 12 (aj (ag 8) au)))) (sC (cz 3 [116,111,111,32,109,117,99,104,32,105,115,32,103,111,116]) sN) sN)
abbrev ov:C1:=(aK 9 (bw (aj (bw (aj (ag 3) (aj (ag 4) (aj (neg (ag 5)) au)))) (aj (bw (aj (aU Po) (aj (ag 4) (aj (ag 5) au)))) (aj (bw (aj (aU Po) (aj (ag 7) (aj (neg (ag 8)) au)))) (aj (bw (aj (ag 6) (aj (ag 7) (aj (ag 8) au)))) au))))))
abbrev ou:C1:=(aL (bm aN (b8 (ag 0) 6) (aj (bw (aj (aU Ps) (aj (ag 1) (aj (ag 2) (aj (ag 3) (aj (ag 4) (aj (ag 5) (aj (ag 6) (aj (ag 7) au))))))))) au)))
abbrev oq:C1:=(aT (meth (ag 0) 7 (aj (ag 1) (aj (ag 2) (aj (ag 9) (aj (ai 0) au))))))
def wv:CS:=(sC (aL (meth (ag 0) 4 (aj (ag 1) au))) (sC (aL (ax 16 (aj (ag 2) au))) (sC (aL (meth (ag 0) 15 (aj (ag 3) au))) (sC (aL (meth (ag 0) 15 (aj (ag 6) au))) (sC (aL (ax 5 (aj (ag 4) au))) (sC (aL (ax 5 (aj (ag 7) au))) (sC pF (sC pE (sC pD (sC oz (sC ow (sC ov (sC ou (sC oq sN))))))))))))))
abbrev nB:CS:=(sC (aK 2 (aG bf (ag 2) (sub (ag 1) (aG aY (aG bf (aG bh (ag 0) (ai 41)) (aG ft (aG bh (ag 0) (ai 3854)) (ag 3))) (ai 94))))) sN)
abbrev vC:C1:=(aK 1 (aU Py))
abbrev vB:C1:=(aK 1 (aG bf (ag 1) (aU Pz)))
abbrev vA:C1:=(aK 1 (aG bf (ag 1) (aU PA)))
abbrev vw:C1:=(eD 3 (bi kY (aj (aG aY (ag 0) (ai 41)) au)) nB)
def DL:CS:=(sC vC (sC vB (sC vA (sC (aK 2 (aU [])) (sC vw (sC (aT (ag 2)) sN))))))
abbrev im:CS:=(sC (cI (lW (cE (aO dY (sub (ag 4) (ai 0)) (ag 1)) (cE (aO oV (sub (ag 4) (ai 1)) (ag 2)) (cE (mw (bH (aO EI (ag 3) hJ) (bH (aO JQ (sub (ag 4) (ai 1)) (sub (ag 3) (ai 1))) e_))) h_)))) (sC (aK 3 (ag 4)) sN) sN) sN)
abbrev tA:C1:=(cI (aO dY (ag 1) (sub (key (ag 0) 2 Ph) (ai 0))) (sC (aT (bw (aj (ai 1) (aj (ai 1) au)))) sN) sN)
abbrev lA:C1:=(aT (bw (aj (sub (ag 3) (ai 2)) (aj (sub (ag 3) (ai 3)) au))))
def tB:CS:=(sC tA (sC (aK 3 hJ) (sC (eD 4 (key (ag 0) 4 [116,111,108,100]) im) (sC (cI (aO EI (ag 3) hJ) (sC (aT hJ) sN) sN) (sC lA sN)))))
abbrev rm:C1:=(aT (aG bf (ai 1) (aG aY (aG bh (ag 0) (ai 4)) (zm (aO dY (aG aY (ag 0) (ai 4)) (ai 0)) (aG ft (ai 4) (aG AN (ai 10) (ai 29))) (ai 500)))))
def zd:CS:=(sC rm sN)
abbrev ph:C1:=(aK 5 (bi ba (aj (key (ag 1) 2 Ph) au)))
abbrev pg:C1:=(aK 6 (sub (key (ag 1) 2 Ph) (aG aY (ag 3) (ag 5))))
abbrev pd:C1:=(aK 7 (sub (key (ag 1) 2 Ph) (aG aY (aG bf (aG bf (ag 3) (ai 1)) (aG aY (aG bh (ag 3) (ag 5)) (aG dm (ag 5) (ai 1)))) (ag 5))))
abbrev pc:C1:=(aK 8 (sub (key (ag 1) 0 Pg) (aG aY (aG bh (ag 3) (ai 6)) (bi ba (aj (key (ag 1) 0 Pg) au)))))
abbrev o_:C1:=(aK 9 (sub (key (ag 1) 0 Pg) (aG aY (aG bh (ag 3) (ai 7)) (bi ba (aj (key (ag 1) 0 Pg) au)))))
abbrev oZ:C1:=(aK 11 (cU (aj (ax 75 (aj (ag 1) (aj (ag 6) (aj (ag 4) au)))) (aj (ax 75 (aj (ag 1) (aj (ag 7) (aj (ag 4) au)))) au))))
abbrev je:C1:=(cI (mw (bH (aO EI (sub (ag 11) (ai 0)) hJ) (bH (aO EI (sub (ag 11) (ai 1)) hJ) e_))) (sC (aT (cD true)) sN) sN)
abbrev iq:C1:=(aK 12 (aG ft (aG ft (ag 10) (sub (sub (ag 11) (ai 0)) (ai 0))) (sub (sub (ag 11) (ai 1)) (ai 1))))
abbrev ip:C1:=(aK 12 (aG bh (ag 12) (aG ft (sub (sub (ag 11) (ai 0)) (ai 1)) (sub (sub (ag 11) (ai 1)) (ai 0)))))
abbrev fi:C1:=(cI (mw (bH (aO dY (ag 12) (ai 0)) (bH (aO JQ (ag 12) (aG AN (ai 10) (ai 30))) e_))) (sC (aT (cD true)) sN) sN)
abbrev fh:C1:=(aK 13 (cU (aj (bw (aj (ag 8) (aj (ag 6) (aj (aG dm (ai 0) (ag 10)) au)))) (aj (bw (aj (aU Po) (aj (ag 6) (aj (ag 10) au)))) au))))
abbrev fg:C1:=(aK 13 (aG bf (ag 13) (cU (aj (bw (aj (aU Po) (aj (ag 7) (aj (aG dm (ai 0) (ag 12)) au)))) (aj (bw (aj (ag 9) (aj (ag 7) (aj (ag 12) au)))) au)))))
abbrev ff:C1:=(aK 15 (ax 73 (aj (ag 1) (aj (ag 4) (aj (ag 14) (aj (ag 13) (aj (ai 0) au)))))))
abbrev fe:C1:=(aL (bm aN (key (ag 1) 7 Pj) (aj (bw (aj (aU Ps) (aj (ag 4) (aj (ag 8) (aj (ag 6) (aj (ag 10) (aj (ag 9) (aj (ag 7) (aj (ag 14) au))))))))) au)))
abbrev fc:C1:=(aT (ss dY (meth (ag 0) 17 (aj (ag 4) (aj (ag 14) (aj (ag 8) (aj (ag 6) (aj (ag 10) (aj (ag 9) (aj (ag 7) au)))))))) (ag 15)))
def gB:CS:=(sC (aK 4 (ax 71 (aj (ag 1) (aj (ag 2) au)))) (sC ph (sC pg (sC pd (sC pc (sC o_ (sC (aK 10 (ax 76 (aj (aG bh (ag 2) (ai 5)) au))) (sC oZ (sC je (sC iq (sC ip (sC fi (sC fh (sC fg (sC (aK 14 (ax 56 (aj (aG bh (ag 3) (ai 2)) au))) (sC ff (sC fe (sC fc sN))))))))))))))))))
def rY:CS:=(sC (aL (ax 5 (aj (ag 1) au))) (sC (aL (meth (ag 0) 4 (aj (ag 2) au))) (sC (cI (mw (bH (aO dY (ag 1) (b8 (ag 0) 0)) (bH (dD (lx oV oV (ai 1) (ag 3) (zr "GREATEST" (some 1000000000,[])))) (bH (dD (lx oV oV (ai 1) (ag 4) (zr "GREATEST" (some 1000000000,[])))) e_)))) (sC (cz 6 [110,111,32,114,97,116,101]) sN) sN) (sC (aK 5 (bi xQ (aj (bm yT (b8 (ag 0) 2) (aj (ag 1) (aj xW au))) au))) (sC (qJ (ag 5) (ag 2) (bw (aj (ag 3) (aj (ag 4) au)))) (Dk 5 (sC (qJ (b8 (ag 0) 2) (ag 1) (ag 5)) (sC (aL (bm aN (b8 (ag 0) 6) (aj (bw (aj (aU [114,97,116,101]) (aj (ag 1) (aj (ag 2) (aj (ag 3) (aj (ag 4) au)))))) au))) sN))))))))
abbrev vj:C1:=(aK 5 (sub (key (ag 1) 2 Ph) (aG bf (ai 1) (aG aY (ag 3) (aG dm (bi ba (aj (key (ag 1) 2 Ph) au)) (ai 1))))))
abbrev vi:C1:=(aK 6 (bw (aj (ag 5) (aj (ag 4) (aj (aG bf (ai 1) (aG aY (aG bh (ag 3) (ai 2)) (aG AN (ai 10) (ai 9)))) (aj (aG bf (ai 1) (aG aY (aG bh (ag 2) (ai 7)) (aG AN (ai 10) (ai 9)))) au))))))
abbrev nq:C1:=(cI (aO CK (aG aY (aG bh (ag 3) (ai 3)) (ai 3)) (ai 0)) (sC (aK 6 (bw (aj (sub (ag 6) (ai 0)) (aj (ag 4) (aj (aG bf (ai 1) (aG aY (aG bh (ag 3) (ai 2)) (ai 40))) (aj (aG bf (ai 1) (aG aY (aG bh (ag 2) (ai 7)) (ai 40))) au)))))) sN) sN)
abbrev vh:C1:=(aL (bm aN (key (ag 1) 4 [116,111,108,100]) (aj (ag 6) au)))
abbrev vg:C1:=(aL (bm aN (key (ag 1) 7 Pj) (aj (bw (aj (aU [114,97,116,101]) (aj (sub (ag 6) (ai 0)) (aj (ag 4) (aj (sub (ag 6) (ai 2)) (aj (sub (ag 6) (ai 3)) au)))))) au)))
abbrev vf:C1:=(aT (ss EI (meth (ag 0) 6 (aj (sub (ag 6) (ai 0)) (aj (ag 4) (aj (sub (ag 6) (ai 2)) (aj (sub (ag 6) (ai 3)) au))))) hJ))
def DJ:CS:=(sC (aK 4 (ax 71 (aj (ag 1) (aj (ag 2) au)))) (sC vj (sC vi (sC nq (sC vh (sC vg (sC vf sN)))))))
def DM:CS:=(sC (aK 1 (aU PB)) (sC (aK 2 (sub (ag 1) (aG aY (ag 0) (ai 26)))) (sC (aK 3 (aG bh (ag 0) (ai 26))) (sC (eD 4 (bi kY (aj (aG aY (ag 3) (ai 12)) au)) (sC (aK 2 (aG bf (ag 2) (sub (ag 1) (aG aY (aG bf (aG bh (ag 3) (ai 12)) (aG ft (aG bh (ag 3) (ai 432)) (ag 4))) (ai 36))))) sN)) (sC (aT (ag 2)) sN)))))
abbrev tS:C1:=(cI (mw (bH (aO Hg (ag 3) (key (ag 1) 0 Pg)) (bH (aO CK (bi ba (aj (key (ag 1) 0 Pg) au)) (ai 6)) e_))) (sC (aT (cD true)) sN) sN)
abbrev tQ:C1:=(aL (bm aN (key (ag 1) 0 Pg) (aj (ag 3) au)))
abbrev tP:C1:=(aL (bm aN (key (ag 1) 7 Pj) (aj (bw (aj (aU [97,99,99,111,117,110,116]) (aj (ag 3) au))) au)))
def A4:CS:=(sC (aK 3 (ax 43 (aj (ag 2) au))) (sC tS (sC tQ (sC tP (sC (aT (ss EI (meth (ag 0) 37 (aj (ag 3) au)) hJ)) sN)))))
def ua:CS:=(sC (aK 1 nn) (sC (eD 2 (ag 0) (sC (qJ (ag 1) (sub (ag 2) (ai 1)) (aG bf (bm yT (ag 1) (aj (sub (ag 2) (ai 1)) (aj (ai 0) au))) (sub (ag 2) (ai 2)))) sN)) (Dk 1 (sC (aT (bi wg (aj (qP false (iE 3 (ag 1) il (ss dY (sub (ag 1) (ag 3)) (ai 0)))) au))) sN))))
def r7:CS:=(sC (aL (meth (ag 0) 15 (aj (sub (ag 1) (ai 0)) au))) (sC (aL (ax 5 (aj (sub (ag 1) (ai 1)) au))) (sC (cI (dD (lu (ax 12 (aj (sub (ag 1) (ai 2)) au)))) (sC (cz 3 [110,111,32,97,109,111,117,110,116]) sN) sN) sN)))
def EJ:CS:=(sC (aL (meth (ag 0) 4 (aj (ag 1) au))) (sC (aL (ax 16 (aj (ag 2) au))) (sC (cI (mw (bH (aO uM (bi ba (aj (ag 3) au)) (ai 2)) (bH (aO CK (bi ba (aj (ag 3) au)) (ai 60)) e_))) (sC (cz 7 [116,111,111,32,102,101,119,32,111,114,32,116,111,111,32,109,97,110,121,32,108,105,110,101,115]) sN) sN) (sC (eD 4 (ag 3) (sC (aL (meth (ag 0) 19 (aj (ag 4) au))) sN)) (sC (cI (dD (lu (ax 18 (aj (ag 3) au)))) (sC (cz 7 [108,105,110,101,115,32,116,104,97,116,32,100,111,32,110,111,116,32,99,111,109,101,32,116,111,32,110,111,117,103,104,116]) sN) sN) (sC (aK 5 (bi gP (aj (qP false (iE 6 (ag 3) il (bw (aj (sub (ag 6) (ai 0)) (aj (sub (ag 6) (ai 1)) (aj (sub (ag 6) (ai 2)) au)))))) au))) (sC (aL (bm aN (b8 (ag 0) 6) (aj (bw (aj (aU [101,110,116,114,121]) (aj (ag 1) (aj (ag 2) (aj (ag 5) au))))) au))) (sC (aT (meth (ag 0) 7 (aj (ag 1) (aj (ag 2) (aj (ag 5) (aj (ai 0) au)))))) sN))))))))
abbrev io:CS:=(sC (aK 7 (aG bf (aG bh (ag 2) (ai 3)) (aG ft (ai 5) (ag 6)))) (sC (aK 8 (sub (key (ag 0) 2 Ph) (aG aY (ag 7) (bi ba (aj (key (ag 0) 2 Ph) au))))) (sC (aK 9 (ax 76 (aj (aG bf (ag 1) (aG ft (ai 77) (ag 6))) au))) (sC (aK 10 (aG ft (ax 76 (aj (aG bf (aG bh (ag 1) (ai 3)) (ag 6)) au)) (aG dm (aG aY (aG bh (ag 7) (ai 3)) (ai 3)) (ai 1)))) (sC (aL (bm aN (ag 4) (aj (bw (aj (sub (ag 3) (aG aY (aG bh (ag 7) (ai 9)) (bi ba (aj (ag 3) au)))) (aj (ag 8) (aj (ag 9) au)))) au))) (sC (aL (bm aN (ag 4) (aj (bw (aj (sub (ag 3) (aG aY (aG bh (ag 7) (ai 5)) (bi ba (aj (ag 3) au)))) (aj (ag 8) (aj (aG dm (aG dm (ai 0) (ag 9)) (ag 10)) au)))) au))) (sC (aL (bm aN (ag 4) (aj (bw (aj (sub (ag 3) (aG aY (aG bh (ag 7) (ai 7)) (bi ba (aj (ag 3) au)))) (aj (ag 8) (aj (ag 10) au)))) au))) sN)))))))
abbrev tI:C1:=(aK 5 (zm (aO dY (aG aY (ag 2) (ai 16)) (ai 7)) (aG bf (ai 1) (aG aY (aG bh (ag 2) (ai 16)) (ai 20))) (aG bf (ai 1) (aG aY (ag 2) (ai 3)))))
abbrev tH:C1:=(aT (qP false (iE 11 (ag 4) (gY (aO mh (sub (ag 11) (ai 2)) (ai 0))) (ag 11))))
def A0:CS:=(sC (aK 3 (key (ag 0) 0 Pg)) (sC (aK 4 (fu au)) (sC tI (sC (eD 6 (bi kY (aj (ag 5) au)) io) (sC tH sN)))))
abbrev vt:C1:=(aK 6 (ax 80 (aj (ag 1) (aj (aG bh (ag 2) (ai 5)) (aj (ag 3) au)))))
abbrev vq:C1:=(aK 7 (ax 73 (aj (ag 1) (aj (ag 4) (aj (ag 5) (aj (ag 6) (aj (ai 0) au)))))))
abbrev vp:C1:=(aL (bm aN (key (ag 1) 7 Pj) (aj (bw (aj (aU [101,110,116,114,121]) (aj (ag 4) (aj (ag 5) (aj (bi gP (aj (ag 6) au)) au))))) au)))
abbrev vo:C1:=(aT (ss dY (meth (ag 0) 20 (aj (ag 4) (aj (ag 5) (aj (ag 6) au)))) (ag 7)))
def DK:CS:=(sC (aK 4 (ax 71 (aj (ag 1) (aj (ag 2) au)))) (sC (aK 5 (ax 56 (aj (ag 3) au))) (sC vt (sC vq (sC vp (sC vo sN))))))
abbrev ny:C1:=(cI (mw (bH (aO JQ (ax 70 (aj (ag 1) au)) (ai 99999)) (bH (aO CK (bi ba (aj (key (ag 1) 3 Pi) au)) (key (ag 1) 8 Pp)) e_))) (sC (aT (cD true)) sN) sN)
abbrev nx:C1:=(cI (aO uM (aG aY (ag 2) (ai 8)) (ai 3)) (sC (aT (ax 81 (aj (ag 0) (aj (ag 1) (aj (ag 3) (aj (ag 4) au)))))) sN) sN)
abbrev nv:C1:=(cI (lW (cE (aO dY (aG aY (ag 2) (ai 8)) (ai 3)) (cE (aO dY (aG aY (aG bh (ag 2) (ai 8)) (ai 3)) (ai 0)) h_))) (sC (aT (ax 79 (aj (ag 0) (aj (ag 1) (aj (ag 3) au))))) sN) sN)
abbrev nu:C1:=(cI (aO dY (aG aY (ag 2) (ai 8)) (ai 3)) (sC (aT (ax 78 (aj (ag 0) (aj (ag 1) (aj (ag 3) (aj (ag 4) au)))))) sN) sN)
abbrev nt:C1:=(cI (aO uM (aG aY (ag 2) (ai 8)) (ai 6)) (sC (aT (ax 77 (aj (ag 0) (aj (ag 1) (aj (ag 3) (aj (ag 4) au)))))) sN) sN)
abbrev vn:C1:=(cI (aO dY (aG aY (ag 2) (ai 8)) (ai 6)) (sC (aT (ax 74 (aj (ag 0) (aj (ag 1) (aj (ag 3) (aj (ag 4) au)))))) sN) sN)
abbrev vm:C1:=(aT (ax 72 (aj (ag 0) (aj (ag 1) (aj (ag 3) au)))))
def q_:CS:=(sC ny (sC nx (sC nv (sC nu (sC nt (sC vn (sC vm sN)))))))
abbrev lB:CS:=(sC (cI (dD (lu (ax 82 (aj (ag 0) (aj (ag 1) (aj (sub (ag 2) (ag 5)) (aj (sub (ag 2) (aG bf (ag 5) (ai 1))) (aj (sub (ag 2) (aG bf (ag 5) (ai 2))) au)))))))) (sC (aT (cD false)) sN) sN) sN)
abbrev tJ:C1:=(eD 5 (bi xP (aj (ag 3) (aj (bi pY (aj (aG dm (bi ba (aj (ag 2) au)) (ai 2)) (aj (ag 4) au))) (aj (ai 3) au)))) lB)
def A1:CS:=(sC tJ (sC (aT (cD true)) sN))
abbrev hV:C1:=(FP (sC (aL (ax 166 (aj (ag 0) (aj (ag 1) (aj (ag 2) au))))) sN) (hA 0 3 (sC (aT (Cv (Ct (CJ (NW 4 (by decide)) (ag 3)) (Cs (CJ NX (ag 3)))))) sN) hN))
def js:CS:=(sC hV (sC (aT (cD false)) sN))
abbrev qT:C1:=(FP (sC (aL (ax 164 (aj (ag 0) (aj (ag 1) (aj (ag 2) (aj (ag 3) (aj (ag 4) au))))))) sN) (hC 11 (sC (aT (aU [78,111,65,99,99,111,117,110,116])) sN) (hC 2 (sC (aT (aU Px)) sN) (hC 4 (sC (aT (aU [66,97,100,68,97,121])) sN) hN))))
def yU:CS:=(sC qT (sC (aT (aU [])) sN))
abbrev l9:C1:=(aK 4 (sub (cU (aj (cU (aj (neg (ai 1)) (aj (ai 5) au))) (aj (cU (aj (ai 5) (aj (ai 100000) au))) (aj (cU (aj (ai 100000) (aj (ai 100000) au))) (aj (cU (aj (ai 7) (aj (ai 6) au))) (aj (cU (aj (ai 99999) (aj (ai 0) au))) (aj (cU (aj (ai 0) (aj (neg (ai 1)) au))) au))))))) (aG aY (ag 3) (ai 6))))
abbrev l8:C1:=(cI (aO mh (ax 184 (aj (ag 0) (aj (ag 1) (aj (ag 2) (aj (sub (ag 4) (ai 0)) (aj (sub (ag 4) (ai 1)) au)))))) (aU [66,97,100,68,97,121])) (sC (aT (cD false)) sN) sN)
abbrev l7:C1:=(cI (aO mh (ax 184 (aj (ag 0) (aj (aU Pw) (aj (sub (cU (aj (aU Pk) (aj (ag 2) au))) (aG aY (aG bh (ag 3) (ai 6)) (ai 2))) (aj (sub (ag 4) (ai 0)) (aj (ai 5) au)))))) (aU [78,111,65,99,99,111,117,110,116])) (sC (aT (cD false)) sN) sN)
abbrev lZ:C1:=(cI (aO mh (ax 184 (aj (ag 0) (aj (ag 1) (aj (sub (cU (aj (aU Pk) (aj (aU [69,85,82,79]) (aj (aU []) au)))) (aG aY (aG bh (ag 3) (ai 12)) (ai 3))) (aj (sub (ag 4) (ai 0)) (aj (sub (ag 4) (ai 1)) au)))))) (aU Px)) (sC (aT (cD false)) sN) sN)
abbrev lY:C1:=(aT (ax 183 (aj (ag 0) (aj (sub (ag 4) (ai 0)) (aj (sub (ag 4) (ai 1)) au)))))
def rc:CS:=(sC l9 (sC l8 (sC l7 (sC lZ (sC lY sN)))))
def DN:CS:=(sC (cI (aO uM (ag 1) (bi ba (aj (ag 0) au))) (sC (aT (sub (ag 0) (ag 1))) sN) sN) (sC (aT (ai 0)) sN))
abbrev gZ:C1:=(aK 2 (aG bf (cU (aj (ai 0) (aj (bi n4 (aj (ai 0) (aj (ax 70 (aj (ag 0) au)) au))) (aj (ai 99999) au)))) (qP false (iE 3 (key (ag 0) 3 Pi) il (sub (ag 3) (ai 1))))))
abbrev l_:C1:=(cI (aO dY (aG aY (ag 1) (ai 2)) (ai 1)) (sC (aT (sub (ag 2) (aG aY (aG bh (ag 1) (ai 2)) (bi ba (aj (ag 2) au))))) sN) sN)
def rj:CS:=(sC gZ (sC l_ (sC (aT (aG aY (aG bh (ag 1) (ai 2)) (ai 100000))) sN)))
abbrev iu:CS:=(sC (aL (ax 73 (aj (ag 1) (aj (aG bh (aG ft (ai 7) (aG dm (ag 2) (ag 5))) (ai 2)) (aj (aU Pv) (aj (ag 4) (aj (ai 0) au))))))) (sC (aL (meth (ag 0) 20 (aj (aG bh (aG ft (ai 7) (aG dm (ag 2) (ag 5))) (ai 2)) (aj (aU Pv) (aj (ag 4) au))))) sN))
abbrev tO:C1:=(aK 3 (sub (key (ag 1) 2 Ph) (neg (ai 1))))
abbrev tN:C1:=(aK 4 (cU (aj (bw (aj (sub (key (ag 1) 0 Pg) (neg (ai 1))) (aj (ag 3) (aj (ai 7) au)))) (aj (bw (aj (sub (key (ag 1) 0 Pg) (neg (ai 2))) (aj (ag 3) (aj (neg (ai 7)) au)))) au))))
def A2:CS:=(sC tO (sC tN (sC (eD 5 (bi kY (aj (ag 2) au)) iu) (sC (Ar nQ 8 (ag 1) (aU Pp) (aG bf (key (ag 1) 8 Pp) (ag 2))) sN))))
def EK:CS:=(sC (aL (ax 5 (aj (ag 1) au))) (sC (jd (ag 0) 0 (ag 1)) (sC (jd (ag 0) 1 (fu (aj (aU Po) au))) (sC (jd (ag 0) 2 nn) (sC (jd (ag 0) 3 (fu au)) (sC (jd (ag 0) 4 nn) (sC (jd (ag 0) 5 (fu au)) (sC (jd (ag 0) 6 (fu au)) sN))))))))
abbrev nJ:CS:=(sC (aL (meth (ag 1) 37 (aj (ag 2) au))) sN)
abbrev vE:C1:=(aK 1 (Jl (aj (sub (key (ag 0) 2 Ph) (ai 0)) au)))
abbrev vD:C1:=(eD 2 (Ka (key (ag 0) 0 Pg) (Nc (ai 1)) M3) nJ)
def DO:CS:=(sC vE (sC vD (sC (aT (ag 1)) sN)))
def DI:CS:=(sC (aK 3 (aG aY (ag 1) (bi ba (aj (ag 0) au)))) (sC (aT (aG bf (aG bf (Ka (ag 0) M3 (Nc (ag 3))) (sub (ag 2) (aG aY (aG bh (ag 1) (ai 13)) (ai 26)))) (Ka (ag 0) (Nc (aG bf (ag 3) (ai 1))) M3))) sN))
def tL:CS:=(sC (aK 1 (aU Pq)) (sC (aK 2 (sub (ag 1) (aG aY (ag 0) (ai 26)))) (sC (aK 2 (aG bf (ag 2) (sub (ag 1) (aG aY (aG bh (ag 0) (ai 26)) (ai 26))))) (sC (aT (aG bf (ag 2) (sub (ag 1) (aG aY (aG bh (ag 0) (ai 676)) (ai 26))))) sN))))
abbrev ef:CS:=(sC (cI (lW (cE (aO ol (ag 4) (ag 1)) (cE (aO uM (bi ba (aj (ag 1) au)) (ag 3)) h_))) (sC (aL (bm aN (ag 1) (aj (ag 4) au))) sN) sN) sN)
abbrev kM:C1:=(aK 2 (fu (aj (ax 41 (aj (sub (ag 0) (ai 0)) au)) (aj (ax 41 (aj (sub (ag 0) (ai 1)) au)) (aj (aU [69,85,82]) (aj (aU [74,80,89]) (aj (aU [85,83,68]) au)))))))
abbrev kL:C1:=(aK 2 (qP true (Jq (ag 2) (cU (aj (aU [75,87,68]) (aj (aU [67,72,70]) (aj (aU [71,66,80]) (aj (aU [83,69,75]) (aj (aU [69,85,83]) au)))))))))
abbrev fW:C1:=(aK 3 (zm (aO dY (aG aY (aG bh (sub (ag 0) (ai 0)) (ai 3)) (ai 8)) (ai 3)) (ai 8) (ai 4)))
abbrev fV:C1:=(cI (aO dY (aG aY (sub (ag 0) (ai 1)) (ai 2)) (ai 1)) (sC (qJ (ag 2) (ai 1) (ax 40 (aj (sub (ag 2) (ai 0)) (aj (aG bh (sub (ag 0) (ai 1)) (ai 2)) (aj (aU Pq) au))))) sN) sN)
def oY:CS:=(sC (aK 1 (fu au)) (sC kM (sC kL (sC fW (sC fV (sC (eD 4 (ag 2) ef) (sC (aT (ag 1)) sN)))))))
abbrev jX:CS:=(sC (cI (aO ol (ag 3) (ag 2)) (sC (aL (bm aN (ag 2) (aj (ag 3) au))) sN) sN) sN)
abbrev rh:C1:=(aK 1 (fu (aj (ax 43 (aj (sub (ag 0) (ai 0)) au)) (aj (ax 43 (aj (sub (ag 0) (ai 1)) au)) (aj (aU [97]) (aj (aU [122,57]) au))))))
abbrev jW:C1:=(cI (aO dY (aG aY (sub (ag 0) (ai 1)) (ai 2)) (ai 1)) (sC (qJ (ag 1) (ai 1) (ax 40 (aj (sub (ag 1) (ai 0)) (aj (aG bh (sub (ag 0) (ai 1)) (ai 2)) (aj (aU Pu) au))))) sN) sN)
abbrev rf:C1:=(aK 2 (fu (aj (aU Po) au)))
def yY:CS:=(sC rh (sC jW (sC rf (sC (eD 3 (ag 1) jX) (sC (aT (ag 2)) sN)))))
abbrev tG:CS:=(sC (HR nQ (ag 1) (ag 2) (fu au)) sN)
abbrev tE:C1:=(aK 1 (AR Pg (ax 87 (aj (cU (aj (ax 33 (aj (ag 0) (aj (ai 0) au))) (aj (ax 33 (aj (ag 0) (aj (ai 1) au))) au))) au))))
abbrev tC:C1:=(eD 2 (cU (aj (aU Pi) (aj (aU [116,111,108,100]) (aj (aU Pn) (aj (aU [98,97,99,107,115]) (aj (aU Pj) au)))))) tG)
def AZ:CS:=(sC tE (sC (Ar nQ 1 (ag 1) (aU [102,105,114,115,116]) (bi ba (aj (key (ag 1) 0 Pg) au))) (sC (Ar nQ 2 (ag 1) (aU Ph) (ax 42 (aj (cU (aj (ax 33 (aj (ag 0) (aj (ai 2) au))) (aj (ax 33 (aj (ag 0) (aj (ai 3) au))) au))) au))) (sC tC (sC (Ar nQ 8 (ag 1) (aU Pp) (ai 20)) (sC (aT (ag 1)) sN))))))
abbrev lN:C1:=(cI (aO dY (aG aY (ax 33 (aj (ag 0) (aj (ai 4) au))) (ai 8)) (ai 5)) (sC (aL (ax 186 (aj (ag 2) (aj (ag 1) (aj (aG aY (aG bh (ax 33 (aj (ag 0) (aj (ai 4) au))) (ai 8)) (ai 120)) au))))) sN) sN)
abbrev iA:C1:=(aK 3 (aG bf (ai 8) (aG ft (ai 3) (aG aY (aG bh (ax 33 (aj (ag 0) (aj (ai 5) au))) (ai 7)) (aG bf (ai 1) (aG bh (bi ba (aj (ag 0) au)) (ai 3)))))))
abbrev lM:C1:=(cI (dD (lu (ax 83 (aj (ag 2) (aj (ag 1) (aj (ag 0) (aj (ai 8) (aj (ag 3) au)))))))) (sC (aT (cD false)) sN) sN)
abbrev lK:C1:=(aK 4 (sub (key (ag 1) 0 Pg) (aG aY (ax 33 (aj (ag 0) (aj (ai 4) au))) (bi ba (aj (key (ag 1) 0 Pg) au)))))
abbrev lJ:C1:=(aK 5 (sub (key (ag 1) 2 Ph) (aG aY (ax 33 (aj (ag 0) (aj (ai 5) au))) (ai 3))))
abbrev lI:C1:=(aK 6 (ax 84 (aj (ag 1) (aj (ax 33 (aj (ag 0) (aj (ai 6) au))) au))))
abbrev lH:C1:=(aK 7 (ax 84 (aj (ag 1) (aj (ax 33 (aj (ag 0) (aj (ai 7) au))) au))))
abbrev gO:C1:=(cI (aO dY (aG aY (aG bh (ax 33 (aj (ag 0) (aj (ai 5) au))) (ai 3)) (ai 4)) (ai 1)) (sC (aK 7 (ag 6)) sN) sN)
abbrev gN:C1:=(cI (aO uM (ag 7) (ag 6)) (sC (cI (aO mh (ax 184 (aj (ag 2) (aj (ag 4) (aj (ag 5) (aj (ag 6) (aj (ag 7) au)))))) (aU [66,97,100,68,97,121])) (sC (aT (cD false)) sN) sN) (sC (cI (dD (lu (ax 183 (aj (ag 2) (aj (ag 6) (aj (ag 7) au)))))) (sC (aT (cD false)) sN) sN) sN)) sN)
abbrev j5:C1:=(cI (dD (lu (ax 185 (aj (ag 2) (aj (ag 4) (aj (ag 5) (aj (aG bh (ax 33 (aj (ag 0) (aj (ai 6) au))) (ai 2)) au))))))) (sC (aT (cD false)) sN) sN)
abbrev eV:C1:=(cI (dD (lu (ax 182 (aj (ag 2) (aj (ag 1) (aj (ag 4) (aj (ag 5) (aj (bi pY (aj (ag 6) (aj (ag 7) au))) (aj (bi n4 (aj (ag 6) (aj (ag 7) au))) (aj (ag 8) au)))))))))) (sC (aT (cD false)) sN) sN)
abbrev gM:C1:=(cI (dD (lu (ax 83 (aj (ag 2) (aj (ag 1) (aj (ag 0) (aj (ag 3) (aj (ai 63) au)))))))) (sC (aT (cD false)) sN) sN)
abbrev gK:C1:=(cI (dD (lu (ax 182 (aj (ag 2) (aj (ag 1) (aj (ag 4) (aj (ag 5) (aj (bi pY (aj (ag 6) (aj (ag 7) au))) (aj (bi n4 (aj (ag 6) (aj (ag 7) au))) (aj (ag 8) au)))))))))) (sC (aT (cD false)) sN) sN)
abbrev gI:C1:=(aL (meth (ag 2) 37 (aj (aU Pw) au)))
abbrev gH:C1:=(cI (aO mh (ax 164 (aj (ag 2) (aj (aU Pw) (aj (ag 5) (aj (ai 0) (aj (ai 99999) au)))))) (bw (aj (ai 0) (aj (cU au) (aj (ai 0) au))))) (sC (aT (cD false)) sN) sN)
abbrev gF:C1:=(aT (ss dY (qP false (iE 9 (ag 8) (gY (aO mh (sub (ag 9) (ai 0)) (sub (ag 9) (ai 1)))) (ag 9))) (cU au)))
def BA:CS:=(sC (aK 1 (ax 88 (aj (ag 0) au))) (sC (aK 2 (ax 86 (aj (ag 1) au))) (sC lN (sC iA (sC lM (sC lK (sC lJ (sC lI (sC lH (sC gO (sC gN (sC j5 (sC (aK 8 (fu au)) (sC eV (sC gM (sC gK (sC gI (sC gH (sC gF sN)))))))))))))))))))
def Do:mt:=⟨0,"__init__",true,[("self",0),("home",1)],2,2,false,EK⟩
def wV:List mt:=[
 Do,
 ⟨2,"closed",true,[("self",0)],1,1,false,zJ⟩,
 ⟨3,"need_day",false,[("day",0)],1,1,false,t_⟩,
 ⟨4,"need_open",true,[("self",0),("day",1)],2,2,false,rZ⟩,
 ⟨5,"need_currency",false,[("text",0)],1,2,false,kT⟩,
 ⟨6,"tell_rate",true,[("self",0),("currency",1),("day",2),("top",3),("bottom",4),("days",5)],5,6,false,rY⟩,
 ⟨7,"enter",true,[("self",0),("day",1),("note",2),("lines",3),("back",4),("number",5)],5,6,false,Ce⟩,
 ⟨8,"entry",true,[("self",0),("number",1)],2,2,false,Cd⟩,
 ⟨9,"contrary",true,[("self",0),("number",1),("day",2),("old",3),("lines",4)],3,6,false,ux⟩,
 ⟨11,"close",true,[("self",0),("day",1)],2,2,false,Cf⟩,
 ⟨12,"is_amount",false,[("amount",0)],1,1,false,rO⟩,
 ⟨13,"changed",false,[("amount",0),("one",1),("other",2)],3,3,false,wb⟩,
 ⟨14,"rate",true,[("self",0),("currency",1),("day",2),("days",3),("known",4)],3,6,false,x_⟩,
 ⟨15,"need_account",true,[("self",0),("account",1)],2,2,false,mj⟩,
 ⟨16,"need_note",false,[("text",0)],1,2,false,rM⟩,
 ⟨17,"convert",true,[("self",0),("day",1),("note",2),("giver",3),("one",4),("amount",5),("taker",6),("other",7),("got",8),("lines",9)],8,10,false,wv⟩,
 ⟨18,"balanced",false,[("lines",0),("totals",1),("line",2)],1,4,false,ua⟩,
 ⟨19,"need_line",true,[("self",0),("line",1)],2,2,false,r7⟩,
 ⟨20,"post",true,[("self",0),("day",1),("note",2),("lines",3),("line",4),("kept",5)],4,7,false,EJ⟩,
 ⟨26,"added_up",true,[("self",0),("account",1),("currency",2),("last",3),("total",4),("old",5),("line",6)],4,7,false,uy⟩,
 ⟨33,"_law_cell",false,[("_law_script",0),("_law_k",1)],2,2,false,DN⟩,
 ⟨34,"_law_whole",false,[("_law_found",0)],1,1,false,AV⟩,
 ⟨36,"is_name",false,[("text",0)],1,2,false,wa⟩,
 ⟨37,"admit",true,[("self",0),("account",1)],2,2,false,Cg⟩,
 ⟨40,"_law_twin",false,[("_law_text",0),("_law_cell_here",1),("_law_signs",2),("_law_at",3)],3,4,false,DI⟩,
 ⟨41,"_law_currency",false,[("_law_cell_here",0),("_law_signs",1),("_law_found",2)],1,3,false,tL⟩,
 ⟨42,"_law_currencies",false,[("_law_cells",0),("_law_found",1),("_law_some",2),("_law_limit",3),("_law_currency_here",4)],1,5,false,oY⟩,
 ⟨43,"_law_name",false,[("_law_cell_here",0),("_law_signs",1),("_law_found",2),("_law_left",3),("_law_k",4)],1,5,false,DM⟩,
 ⟨56,"_law_note",false,[("_law_cell_here",0),("_law_some",1),("_law_found",2),("_law_k",3)],1,4,false,DL⟩,
 ⟨61,"balance_on",true,[("self",0),("account",1),("currency",2),("day",3)],4,4,false,pG⟩,
 ⟨70,"_law_closed",false,[("_law_plain_here",0)],1,1,false,y_⟩,
 ⟨71,"_law_day",false,[("_law_plain_here",0),("_law_cell_here",1),("_law_closed_here",2)],2,3,false,Go⟩,
 ⟨72,"_law_shut",false,[("_law_book_here",0),("_law_plain_here",1),("_law_big",2),("_law_day_here",3)],3,4,false,AX⟩,
 ⟨73,"_law_put",false,[("_law_plain_here",0),("_law_day_here",1),("_law_note_here",2),("_law_lines_here",3),("_law_back",4),("_law_number",5)],5,6,false,Gm⟩,
 ⟨74,"_law_contrary",false,[("_law_book_here",0),("_law_plain_here",1),("_law_big",2),("_law_pick",3),("_law_number",4),("_law_entry",5),("_law_day_here",6),("_law_lines_here",7),("_law_due",8)],4,10,false,tM⟩,
 ⟨75,"_law_rate",false,[("_law_plain_here",0),("_law_currency_here",1),("_law_day_here",2),("_law_found",3),("_law_row",4)],3,5,false,tB⟩,
 ⟨76,"_law_amount",false,[("_law_cell_here",0)],1,1,false,zd⟩,
 ⟨77,"_law_convert",false,[("_law_book_here",0),("_law_plain_here",1),("_law_big",2),("_law_pick",3),("_law_day_here",4),("_law_many",5),("_law_one",6),("_law_other",7),("_law_giver",8),("_law_taker",9),("_law_amount_here",10),("_law_rates",11),("_law_found",12),("_law_lines_here",13),("_law_note_here",14),("_law_due",15)],4,16,false,gB⟩,
 ⟨78,"_law_tell",false,[("_law_book_here",0),("_law_plain_here",1),("_law_big",2),("_law_pick",3),("_law_day_here",4),("_law_currency_here",5),("_law_row",6)],4,7,false,DJ⟩,
 ⟨79,"_law_admit",false,[("_law_book_here",0),("_law_plain_here",1),("_law_big",2),("_law_name_here",3)],3,4,false,A4⟩,
 ⟨80,"_law_lines",false,[("_law_plain_here",0),("_law_big",1),("_law_pick",2),("_law_names_here",3),("_law_found",4),("_law_many",5),("_law_k",6),("_law_left",7),("_law_currency_here",8),("_law_one",9),("_law_two",10)],3,12,false,A0⟩,
 ⟨81,"_law_post",false,[("_law_book_here",0),("_law_plain_here",1),("_law_big",2),("_law_pick",3),("_law_day_here",4),("_law_note_here",5),("_law_lines_here",6),("_law_due",7)],4,8,false,DK⟩,
 ⟨82,"_law_step",false,[("_law_book_here",0),("_law_plain_here",1),("_law_way",2),("_law_big",3),("_law_pick",4)],5,5,false,q_⟩,
 ⟨83,"_law_deeds",false,[("_law_book_here",0),("_law_plain_here",1),("_law_script",2),("_law_first",3),("_law_last",4),("_law_k",5)],5,6,false,A1⟩,
 ⟨84,"_law_asked_day",false,[("_law_plain_here",0),("_law_cell_here",1),("_law_some",2)],2,4,false,rj⟩,
 ⟨86,"_law_book",false,[("_law_plain_here",0),("_law_book_here",1),("_law_name_here",2)],1,3,false,DO⟩,
 ⟨87,"_law_names",false,[("_law_cells",0),("_law_some",1),("_law_found",2),("_law_name_here",3)],1,4,true,yY⟩,
 ⟨88,"_law_plain",false,[("_law_script",0),("_law_plain_here",1),("_law_part",2)],1,3,true,AZ⟩,
 ⟨126,"by_day",false,[("book",0),("first",1),("last",2),("found",3)],3,5,false,zt⟩,
 ⟨163,"need_days",false,[("first",0),("last",1)],2,2,false,rN⟩,
 ⟨164,"statement",false,[("book",0),("account",1),("currency",2),("first",3),("last",4),("opening",5),("closing",6),("rows",7),("old",8),("line",9)],5,10,false,rI⟩,
 ⟨166,"journal",false,[("book",0),("first",1),("last",2)],3,3,false,v_⟩,
 ⟨178,"_law_rows",false,[("_law_entries",0),("_law_account",1),("_law_currency_here",2),("_law_opening",3),("_law_found",4),("_law_balance",5),("_law_entry",6),("_law_line",7)],4,8,false,AY⟩,
 ⟨179,"statement",false,[("book",0),("account",1),("currency",2),("first",3),("last",4),("opening",5),("closing",6),("rows",7),("old",8),("line",9)],5,10,true,pA⟩,
 ⟨180,"_law_ahead",false,[("_law_entries",0),("_law_account",1),("_law_currency_here",2),("_law_first",3),("_law_found",4),("_law_entry",5),("_law_line",6)],4,7,false,A3⟩,
 ⟨181,"_law_sorted",false,[("_law_entries",0),("_law_first",1),("_law_last",2),("_law_keys",3)],3,6,false,yV⟩,
 ⟨182,"_law_told",false,[("_law_book_here",0),("_law_plain_here",1),("_law_account",2),("_law_currency_here",3),("_law_first",4),("_law_last",5),("_law_held",6),("_law_due",7),("_law_told_here",8),("_law_found",9),("_law_opening",10),("_law_row",11),("_law_closing",12),("_law_again",13)],7,14,false,AW⟩,
 ⟨183,"_law_refused_journal",false,[("_law_book_here",0),("_law_first",1),("_law_last",2),("e",3)],3,4,false,js⟩,
 ⟨184,"_law_tried",false,[("_law_book_here",0),("_law_account",1),("_law_currency_here",2),("_law_first",3),("_law_last",4)],5,5,false,yU⟩,
 ⟨185,"_law_refusals",false,[("_law_book_here",0),("_law_account",1),("_law_currency_here",2),("_law_cell_here",3),("_law_none",4)],4,5,false,rc⟩,
 ⟨186,"_law_bulk",false,[("_law_book_here",0),("_law_plain_here",1),("_law_many",2),("_law_currency_here",3),("_law_lines_here",4),("_law_k",5)],3,6,false,A2⟩,
 ⟨187,"law",false,[("_law_script",0),("_law_plain_here",1),("_law_book_here",2),("_law_place",3),("_law_account",4),("_law_currency_here",5),("_law_first",6),("_law_last",7),("_law_held",8)],1,10,false,BA⟩]
noncomputable def M5:Nat:=187
noncomputable def GR:List (Str×(Option Int×List Nat)):=[("SMALL",(none,Pu)),("GREAT",(none,Pq)),("FIGURES",(none,[48,49,50,51,52,53,54,55,56,57])),("LAST_DAY",(some 99999,[])),("BOUND",(some 1000000000000000000000000000000,[])),("GREATEST",(some 1000000000,[]))]
abbrev TT:Nat->Option PF:=wO wV
end
open PySem PySem.W PySem.Calls PyProof.Rows
set_option Elab.async false
set_option maxRecDepth 100000
set_option maxHeartbeats 8000000
noncomputable def tZ (i:Nat):Str:=(nQ[i]?).elim ⟨#[0,i]⟩ fun l=>⟨l.toArray⟩
noncomputable def yu:Option (Str×Pos):=some ("by_day",⟨72,29,72,57⟩)
def KP (h:Heap):Prop:=∃ K:Frag,K.In h/\HC yu Do wV GR tZ K=true/\qp yu K h
def yN (s:Shared):Prop:=KP s.heap
theorem KP.keeps {h h':Heap} (x:KP h) (k:∀ b o,h.get? b=some o->h'.get? b=some o):KP h':=x.elim fun K y=>⟨K,y.1.keeps k,y.2.1,fun l e=>k _ _ (y.2.2 l e)⟩
theorem FK {h:Heap} {K:Frag} (X:K.In h) (ok:HC yu Do wV GR tZ K=true) (TK:qp yu K h):TabsAt ((gD yu K).toList.map fun l=>(l.c,l.P)) h:=fun q hq=>by
 obtain ⟨l,hl,rfl⟩:=Ot.mp hq;have e:=Option.mem_toList.mp hl;have o7:=ak ok;rw[e] at o7;exact ⟨codeHd_of_K X o7,TK l e⟩
theorem Bu {h:Heap} {K:Frag} (x:∀ l,gD yu K=some l->∃ ps,h.get? l.P=some (qz ps)):GrownAll ((gD yu K).toList.map fun l=>(l.c,l.P)) h:=by
 cases e:gD yu K with
 |none=>exact trivial
 |some l=>exact ⟨x l e,trivial⟩
theorem v4 {h h':Heap} {K:Frag} (x:∀ b o,b∉(gD yu K).toList.map (·.P)->h.get? b=some o->h'.get? b=some o) (b:Addr) (o:Obj) (e:(ghostOf h ((gD yu K).toList.map fun l=>(l.c,l.P))).get? b=some o):h'.get? b=some o:=
 x b o (fun hb=>by
  rw[hideAll_none _ (by rw[List.map_map];exact hb)] at e;cases e) (of_hideAll _ e)
theorem NU:∀ (w:World) (os:OsState),(dC pN w 11 (some (.ref 6)) 40178 ⟨eZ (boot_heap w.params).objs.toList,11,{},Array.mk [],boot_drawn,boot_toks,os⟩ (topStub pN)).map (fun s=>HC yu Do wV GR tZ (v9 s.tree s.n)&&uS yu (v9 s.tree s.n) s.tree s.n)=some true:=fun w os=>by kernel_rfl
noncomputable abbrev iV (x:Int):Option PV:=some (.d (.int x))
noncomputable abbrev sV (x:List Nat):Option PV:=some (.d (.str x))
noncomputable abbrev dV (x:D):Option PV:=some (.d x)
noncomputable abbrev qV (n:Nat):Option PV:=some (.p n 0)
noncomputable abbrev CC (d:Nat) (hd:Bool) (f:Nat) (args:List PV) (σ:av):Option (R PV×av):=jk TT d hd f args σ
noncomputable abbrev KK (d:Nat) (hd:Bool):cP:=⟨jk TT d,hd⟩
abbrev Ev (K:cP) (e:CE) (ρ:a9) (σ:av) (v:PV):Prop:=e.ev K ρ σ=some (.ok v,σ)
abbrev Ts (K:cP) (t:CT) (ρ:a9) (σ:av) (b:Bool):Prop:=t.ts K ρ σ=some (.ok b,σ)
section
variable {α β:Type} {K:cP} {ρ ρ':a9} {σ σ' σ'':av} {c d f:Nat} {hd:Bool}
theorem aC {m:PM α} {g:α->PM β} {a:α} {z:Option (R β×av)} (h:m σ=some (.ok a,σ')) (k:g a σ'=z):bz m g σ=z:=by
 unfold bz;rw[h];exact k
theorem cJ {m:PM α} {k:α->av->Option (Out×av)} {a:α} {z:Option (Out×av)} (h:m σ=some (.ok a,σ')) (h2:k a σ'=z):ce ρ m k σ=z:=by
 unfold ce;rw[h];exact h2
theorem F6 {m:PM α} {k:α->av->Option (Out×av)} (h:m σ=some (.ex c,σ')):ce ρ m k σ=some (.ex c ρ,σ'):=by
 unfold ce;rw[h]
theorem aa {a:C1} {l:CS} {z:Option (Out×av)} (h:a.ex K ρ σ=some (.next ρ',σ')) (k:l.ex K ρ' σ'=z):(sC a l).ex K ρ σ=z:=by
 show sI (a.ex K ρ σ) (l.ex K)=z;rw[h];exact k
theorem aP {a:C1} {l:CS} {v:PV} (h:a.ex K ρ σ=some (.ret v,σ')):(sC a l).ex K ρ σ=some (.ret v,σ'):=by
 show sI (a.ex K ρ σ) (l.ex K)=_;rw[h];rfl
theorem jM {a:C1} {l:CS} (h:a.ex K ρ σ=some (.ex c ρ',σ')):(sC a l).ex K ρ σ=some (.ex c ρ',σ'):=by
 show sI (a.ex K ρ σ) (l.ex K)=_;rw[h];rfl
theorem aM {e:CE} {v:PV} (h:e.ev K ρ σ=some (.ok v,σ')):(aT e).ex K ρ σ=some (.ret v,σ'):=cJ h rfl
theorem aA {i:Nat} {e:CE} {v:PV} (h:e.ev K ρ σ=some (.ok v,σ')) (k:ρ.set i (some v)=ρ'):(aK i e).ex K ρ σ=some (.next ρ',σ'):=by
 subst k;exact cJ h rfl
theorem aB {e:CE} {v:PV} (h:e.ev K ρ σ=some (.ok v,σ')):(aL e).ex K ρ σ=some (.next ρ,σ'):=cJ h rfl
theorem eC {e:CE} (h:e.ev K ρ σ=some (.ex c,σ')):(aL e).ex K ρ σ=some (.ex c ρ,σ'):=F6 h
theorem cK {t:CT} {a b:CS} {z:Option (Out×av)} (h:Ts K t ρ σ true) (k:a.ex K ρ σ=z):(cI t a b).ex K ρ σ=z:=cJ h k
theorem bj {t:CT} {a b:CS} {z:Option (Out×av)} (h:Ts K t ρ σ false) (k:b.ex K ρ σ=z):(cI t a b).ex K ρ σ=z:=cJ h k
theorem iL {o i a:CE} {x:PV} {k v:D} (h1:Ev K a ρ σ (.d v)) (h2:Ev K o ρ σ x) (h3:Ev K i ρ σ (.d k)) (h4:yA x k v σ=some σ'):(qJ o i a).ex K ρ σ=some (.next ρ,σ'):=by
 refine cJ h1 (cJ h2 (cJ h3 ?_));show (yA x k v σ).bind _=_;rw[h4];rfl
theorem bP {i:Nat} {it:CE} {b:CS} {v:PV} {x:D} {xs:List D} {z:Option (Out×av)} (h:Ev K it ρ σ v) (h1:uL v σ=some (x,xs)) (h2:eU v x i (fun ρ=>b.ex K ρ) xs ρ σ=z) (hK:K.hd=false:=by rfl):(eD i it b).ex K ρ σ=z:=by
 show (match K.hd with|true=>none|false=>_)=z
 rw[hK];refine cJ h ?_;show (uL v σ).bind _=z;rw[h1];exact h2
theorem bL {v:PV} {x y:D} {i:Nat} {b:a9->av->Option (Out×av)} {l:List D} {z:Option (Out×av)} (h:b (ρ.set i (dV y)) σ=some (.next ρ',σ')) (hs:bn σ' x v=true) (k:eU v x i b l ρ' σ'=z):eU v x i b (y::l) ρ σ=z:=by
 show (match b (ρ.set i (dV y)) σ with
  |some (.next ρ',σ')=>if bn σ' x v then eU v x i b l ρ' σ' else none
  |z=>z)=z
 rw[h];show (if bn σ' x v then _ else none)=z;rw[if_pos hs];exact k
theorem xN {v:PV} {x:D} {i:Nat} {b:a9->av->Option (Out×av)} (N:Nat) (Pr:List D->a9->av->Prop):∀ (xs pre:List D) (ρ:a9) (σ:av),pre.length+xs.length<=N->Pr pre ρ σ->(∀ pre y ρ σ,y∈xs->pre.length<N->Pr pre ρ σ->∃ ρ' σ',b (ρ.set i (dV y)) σ=some (.next ρ',σ')/\bn σ' x v=true/\Pr (pre++[y]) ρ' σ')->∃ ρ' σ',eU v x i b xs ρ σ=some (.next ρ',σ')/\Pr (pre++xs) ρ' σ':=by
 intro xs
 induction xs with
 |nil=>
  intro pre ρ σ _ h _;exact ⟨ρ,σ,rfl,by rw[List.append_nil];exact h⟩
 |cons y xs ih=>
  intro pre ρ σ hl h st;rw[Ok] at hl;obtain ⟨ρ1,σ1,e1,s1,p1⟩:=st pre y ρ σ (.head _) (Nat.lt_of_add_right_lt hl) h;obtain ⟨ρ2,σ2,e2,p2⟩:=ih (pre++[y]) ρ1 σ1 (by rw[Of,On];exact K2 hl) p1 fun pre z ρ σ hz=>st pre z ρ σ (.tail _ hz);exact ⟨ρ2,σ2,bL e1 s1 e2,by rw[List.append_cons];exact p2⟩
theorem j4 {α β γ:Type} {v:PV} {x:D} {i:Nat} {b:a9->av->Option (Out×av)} (f:α->D) (mk:β->γ->a9) (g:β->α->β) (hs:bn σ x v=true):∀ (ys:List α),(∀ s c y,y∈ys->∃ c',b ((mk s c).set i (dV (f y))) σ=some (.next (mk (g s y) c'),σ))->∀ s c,∃ c',eU v x i b (ys.map f) (mk s c) σ=some (.next (mk (ys.foldl g s) c'),σ):=by
 intro ys
 induction ys with
 |nil=>
  intro _ s c;exact ⟨c,rfl⟩
 |cons y ys ih=>
  intro h s c;obtain ⟨c1,e1⟩:=h s c y (.head _);obtain ⟨c2,e2⟩:=ih (fun s c z hz=>h s c z (.tail _ hz)) (g s y) c1;exact ⟨c2,bL e1 hs e2⟩
theorem dE {n j:Nat} {x:D} (h:rd σ (.p n j)=some x):bn σ x (.p n j)=true:=@Os _ (_) h
theorem lQ {p s:Nat} {kp:Bool} {b:CS} {args:List PV} {o:Out} {z:Option (R PV×av)} (hT:TT f=some ⟨p,s,kp,b.ex⟩) (hl:args.length=p) (hr:args.map some++List.replicate (s - p) none=ρ) (h:b.ex (KK d hd) ρ σ=some (o,σ')) (k:BQ kp σ.length (some (o,σ'))=z):CC (d+1) hd f args σ=z:=by
 show (match TT f with
  |some pf=>FT ⟨jk TT d,hd⟩ pf args
  |none=>fun _=>none) σ=z
 rw[hT];show (if args.length=p then BQ kp σ.length (b.ex (KK d hd) (args.map some++List.replicate (s - p) none) σ) else none)=z;rw[if_pos hl,hr,h];exact k
theorem aS {p s:Nat} {kp:Bool} {b:CS} {args:List PV} {v:D} (hT:TT f=some ⟨p,s,kp,b.ex⟩) (hl:args.length=p) (hr:args.map some++List.replicate (s - p) none=ρ) (h:b.ex (KK d hd) ρ σ=some (.ret (.d v),σ')) (k:σ'.take σ.length=σ''):CC (d+1) hd f args σ=some (.ok (.d v),σ''):=
 lQ hT hl hr h (by show some (R.ok (PV.d v),σ'.take σ.length)=_;rw[k])
theorem fm {p s:Nat} {kp:Bool} {b:CS} {args:List PV} (hT:TT f=some ⟨p,s,kp,b.ex⟩) (hl:args.length=p) (hr:args.map some++List.replicate (s - p) none=ρ) (h:b.ex (KK d hd) ρ σ=some (.next ρ',σ')) (k:σ'.take σ.length=σ''):CC (d+1) hd f args σ=some (.ok (.d .none),σ''):=
 lQ hT hl hr h (by show some (R.ok (PV.d .none),σ'.take σ.length)=_;rw[k])
theorem oj {p s:Nat} {kp:Bool} {b:CS} {args:List PV} (hT:TT f=some ⟨p,s,kp,b.ex⟩) (hl:args.length=p) (hr:args.map some++List.replicate (s - p) none=ρ) (h:b.ex (KK d hd) ρ σ=some (.ex c ρ',σ')) (k:σ'.take σ.length=σ''):CC (d+1) hd f args σ=some (.ex c,σ''):=
 lQ hT hl hr h (by show some (R.ex c,σ'.take σ.length)=_;rw[k])
theorem Fo {p s m:Nat} {b:CS} {args:List PV} {f':cb} (hT:TT f=some ⟨p,s,false,b.ex⟩) (hl:args.length=p) (hr:args.map some++List.replicate (s - p) none=ρ) (h:b.ex (KK d hd) ρ σ=some (.ret (.p m 0),σ')) (hm:σ.length<=m) (ho:σ'[m]? =some (.fld f')) (k:σ'.take σ.length=σ''):CC (d+1) hd f args σ=some (.ok (.d f'.toD),σ''):=
 lQ hT hl hr h (by
  show (if m<σ.length then _ else u8 false σ.length σ' 0 σ'[m]?)=_;rw[if_neg (Pb.mpr hm),ho,<-k];rfl)
theorem tk (σ:av):σ.take σ.length=σ:=List.take_length
theorem HL (σ l:av):(σ++l).take σ.length=σ:=List.take_left
theorem aQ {o:BO} {a b:CE} {x y:PV} {u w z:D} (h1:Ev K a ρ σ x) (h2:Ev K b ρ σ y) (r1:rd σ x=some u) (r2:rd σ y=some w) (h:o.g u w=some z):Ev K (aG o a b) ρ σ (.d z):=by
 refine aC h1 (aC h2 ?_);show (rd σ x).bind _=_;rw[r1,Od,r2,Od,h];rfl
theorem oh {o:CO} {x y:PV} {u w:D} {q:Bool} (h:o.g u w=some q) (r1:rd σ x=some u) (r2:rd σ y=some w):zS o.g x y σ=some (.ok q,σ):=by
 unfold zS;rw[r1,Od,r2,Od,h];rfl
theorem kZ {o:CO} {a b:CE} {x y:PV} {u w:D} {q:Bool} (h1:Ev K a ρ σ x) (h2:Ev K b ρ σ y) (r1:rd σ x=some u) (r2:rd σ y=some w) (h:o.g u w=some q):Ev K (ss o a b) ρ σ (.d (.bool q)):=
 aC h1 (aC h2 (aC (oh h r1 r2) rfl))
theorem an {o:CO} {a b:CE} {x y:PV} {u w:D} {q:Bool} (h1:Ev K a ρ σ x) (h2:Ev K b ρ σ y) (r1:rd σ x=some u) (r2:rd σ y=some w) (h:o.g u w=some q):Ts K (aO o a b) ρ σ q:=
 aC h1 (aC h2 (oh h r1 r2))
theorem bT {l:uN .Or} {q:Bool} (h:l.ts K ρ σ=some (.ok q,σ)):Ts K (mw l) ρ σ q:=h
theorem cn {l:uN .And} {q:Bool} (h:l.ts K ρ σ=some (.ok q,σ)):Ts K (lW l) ρ σ q:=h
theorem xU {l:CA} {z:Option (R PV×av)} (h:l.ev K ρ σ=z):(Cv l).ev K ρ σ=z:=h
theorem xT {a:CE} {z:Option (R PV×av)} (h:a.ev K ρ σ=z):(Cs a).ev K ρ σ=z:=h
theorem gW {a:CT} (h:Ts K a ρ σ true):Ts K (dD a) ρ σ false:=aC h rfl
theorem uO {t:CT} {z:Option (R Bool×av)} (h:t.ts K ρ σ=z):(gY t).ts K ρ σ=z:=h
theorem mV {a:CT} {q:Bool} (h:Ts K a ρ σ q):Ts K (dD a) ρ σ (!q):=aC h rfl
theorem eY {a:CE} {q:Bool} (h:Ev K a ρ σ (.d (.bool q))):Ts K (lu a) ρ σ q:=aC h rfl
theorem bF {q:Bool} {a:CT} {l:uN .Or} (h:Ts K a ρ σ false) (k:l.ts K ρ σ=some (.ok q,σ)):(bH a l).ts K ρ σ=some (.ok q,σ):=aC h k
theorem i0 {a:CT} {l:uN .Or} (h:Ts K a ρ σ true):(bH a l).ts K ρ σ=some (.ok true,σ):=aC h rfl
theorem cF {q:Bool} {a:CT} {l:uN .And} (h:Ts K a ρ σ true) (k:l.ts K ρ σ=some (.ok q,σ)):(cE a l).ts K ρ σ=some (.ok q,σ):=aC h k
theorem fH {a:CT} {l:uN .And} (h:Ts K a ρ σ false):(cE a l).ts K ρ σ=some (.ok false,σ):=aC h rfl
theorem BK {a:CE} {l:CA} {z:Option (R PV×av)} (h:Ev K a ρ σ (.d (.bool true))) (k:l.ev K ρ σ=z):(Ct a l).ev K ρ σ=z:=aC h (aC (a:=true) (σ':=σ) rfl k)
theorem JN {o q:CO} {c:CE} {x y w:PV} {u v t:D} {p r:Bool} (h3:Ev K c ρ σ w) (r1:rd σ x=some u) (r2:rd σ y=some v) (r3:rd σ w=some t) (e1:o.g u v=some p) (e2:q.g v t=some r):Na (c.ev K ρ) o.g q.g x y σ=some (.ok (.d (.bool (p&&r))),σ):=by
 refine aC (oh e1 r1 r2) ?_;cases p with
 |true=>exact aC h3 (aC (oh e2 r2 r3) rfl)
 |false=>rfl
theorem xR {o q:CO} {a b c:CE} {x y w:PV} {u v t:D} {p r:Bool} (h1:Ev K a ρ σ x) (h2:Ev K b ρ σ y) (h3:Ev K c ρ σ w) (r1:rd σ x=some u) (r2:rd σ y=some v) (r3:rd σ w=some t) (e1:o.g u v=some p) (e2:q.g v t=some r):Ev K (EC o q a b c) ρ σ (.d (.bool (p&&r))):=aC h1 (aC h2 (JN h3 r1 r2 r3 e1 e2))
theorem qw {o q:CO} {a b c:CE} {x y w:PV} {u v t:D} {p r:Bool} (h1:Ev K a ρ σ x) (h2:Ev K b ρ σ y) (h3:Ev K c ρ σ w) (r1:rd σ x=some u) (r2:rd σ y=some v) (r3:rd σ w=some t) (e1:o.g u v=some p) (e2:q.g v t=some r):Ts K (lx o q a b c) ρ σ (p&&r):=by
 refine aC h1 (aC h2 (aC (oh e1 r1 r2) ?_));cases p with
 |true=>exact aC h3 (oh e2 r2 r3)
 |false=>rfl
theorem n6 {a:CE} {i:Int} (h:Ev K a ρ σ (.d (.int i))):Ev K (neg a) ρ σ (.d (.int (-i))):=aC h rfl
theorem rS {t:CT} {a b:CE} {z:Option (R PV×av)} (h:Ts K t ρ σ true) (k:a.ev K ρ σ=z):(zm t a b).ev K ρ σ=z:=aC h k
theorem rT {t:CT} {a b:CE} {z:Option (R PV×av)} (h:Ts K t ρ σ false) (k:b.ev K ρ σ=z):(zm t a b).ev K ρ σ=z:=aC h k
theorem cl1 {a:CE} {x:PV} (h:Ev K a ρ σ x):(aj a au).ev K ρ σ=some (.ok [x],σ):=aC h (aC (a:=[]) (σ':=σ) rfl rfl)
theorem c5 {a:CE} {l:CL} {x:PV} {xs:List PV} (h:Ev K a ρ σ x) (k:l.ev K ρ σ=some (.ok xs,σ)):(aj a l).ev K ρ σ=some (.ok (x::xs),σ):=aC h (aC k rfl)
theorem b7 {f:BF} {l:CL} {xs:List PV} {z:Option (R PV×av)} (h:l.ev K ρ σ=some (.ok xs,σ)) (k:f.g K.hd xs σ=z):(bi f l).ev K ρ σ=z:=aC h k
theorem az {n:Nat} {l:CL} {xs:List PV} {z:Option (R PV×av)} (h:l.ev (KK d hd) ρ σ=some (.ok xs,σ)) (k:CC d hd n xs σ=z):(ax n l).ev (KK d hd) ρ σ=z:=aC h k
theorem bM {n:Nat} {l:CL} {xs:List PV} {z:Option (R PV×av)} (k:CC d hd n xs σ=z) (h:l.ev (KK d hd) ρ σ=some (.ok xs,σ)):(ax n l).ev (KK d hd) ρ σ=z:=aC h k
theorem tT {t:CT} {p:Prop} {i:Decidable p} (q:p) (h:Ts K t ρ σ (decide p)):Ts K t ρ σ true:=by rw[Os q] at h;exact h
theorem tF {t:CT} {p:Prop} {i:Decidable p} (q:¬p) (h:Ts K t ρ σ (decide p)):Ts K t ρ σ false:=by rw[O3 q] at h;exact h
theorem El {n:Nat} {o:CE} {l:CL} {x:PV} {xs:List PV} {z:Option (R PV×av)} (h0:Ev (KK d hd) o ρ σ x) (hx:Jw x σ=some (.ok (),σ)) (h:l.ev (KK d hd) ρ σ=some (.ok xs,σ)) (k:CC d hd n (x::xs) σ=z):(meth o n l).ev (KK d hd) ρ σ=z:=aC h0 (aC hx (aC h k))
theorem aR {q:Prop} [Decidable q] {a:α} (h:q):aq q a=some a:=if_pos h
theorem dQ {l:CL} {xs:List PV} {ds:List D} (h:l.ev K ρ σ=some (.ok xs,σ)) (k:pC xs=some ds:=by rfl) (hl:ds.length<=1000:=by exact Oj rfl):Ev K (cU l) ρ σ (.d (.lst ds)):=by
 refine aC h ?_;show ((pC xs).bind fun ds=>aq (ds.length<=1000) (PV.d (.lst ds))).map _=_;rw[k,Od,aR hl];rfl
theorem bB {l:CL} {xs:List PV} {ds:List D} (h:l.ev K ρ σ=some (.ok xs,σ)) (k:pC xs=some ds:=by rfl) (hl:ds.length<=1000:=by exact Oj rfl):Ev K (bw l) ρ σ (.d (.tup ds)):=by
 refine aC h ?_;show ((pC xs).bind fun ds=>aq (ds.length<=1000) (PV.d (.tup ds))).map _=_;rw[k,Od,aR hl];rfl
theorem eW {l:CL} {xs:List PV} {ds:List D} (h:l.ev K ρ σ=some (.ok xs,σ)) (k:pC xs=some ds:=by rfl) (hl:ds.length<=1000:=by exact Oj rfl):(fu l).ev K ρ σ=some (.ok (.p σ.length 0),σ++[.fld (.list ds)]):=by
 refine aC h (aC (a:=ds) (σ':=σ) ?_ rfl);show ((pC xs).bind fun ds=>aq (ds.length<=1000) ds).map _=_;rw[k,Od,aR hl];rfl
theorem j1 {x:PV} {l:List D} (h:rd σ x=some (.lst l)) (hl:l.length<=dX):ba.g hd [x] σ=some (.ok (.d (.int l.length)),σ):=by
 show ((rd σ x).bind fun u=>(DU u).map fun z=>(R.ok (PV.d z),σ))=_;rw[h,Od];show (Option.map _ (aq (l.length<=dX) (D.int l.length)))=_;rw[aR hl];rfl
theorem Jr {x:PV} {l:List D} (h:rd σ x=some (.tup l)) (hl:l.length<=dX):ba.g hd [x] σ=some (.ok (.d (.int l.length)),σ):=by
 show ((rd σ x).bind fun u=>(DU u).map fun z=>(R.ok (PV.d z),σ))=_;rw[h,Od];show (Option.map _ (aq (l.length<=dX) (D.int l.length)))=_;rw[aR hl];rfl
theorem xl {l:List Nat} (hl:l.length<=dX):ba.g hd [.d (.str l)] σ=some (.ok (.d (.int l.length)),σ):=by
 show (Option.map _ (aq (l.length<=dX) (D.int l.length)))=_;rw[aR hl];rfl
theorem dh {i:Int} (h0: -1000<=i) (h:i<=100000000):bI i=true:=by rw[bI,Os (by exact OL (by decide) h0),Os (by exact OM h (by decide))];rfl
theorem bc {a i:CE} {x y:PV} {u w z:D} (h1:Ev K a ρ σ x) (h2:Ev K i ρ σ y) (r1:rd σ x=some u) (r2:n8 y=some w) (h:cp u w=some z):Ev K (sub a i) ρ σ (.d z):=by
 refine aC h1 (aC h2 ?_);show (rd σ x).bind _=_;rw[r1,Od,r2,Od,h];rfl
theorem sX {k n:Nat} (h:k<n):cB k n=some k:=by
 unfold cB;rw[if_pos (o9),if_pos (OP.mpr h),Int.toNat_natCast]
theorem v7 (l:List D) (i:Int):cp (.lst l) (.int i)=(aq (bI i=true) ()).bind fun _=>(cB i l.length).bind fun k=>l[k]? :=rfl
theorem GW (l:List D) (i:Int):cp (.tup l) (.int i)=cp (.lst l) (.int i):=rfl
theorem GX (l:List Nat) (i:Int):cp (.str l) (.int i)=(aq (bI i=true) ()).bind fun _=>(cB i l.length).bind fun k=>(l[k]?).map fun c=>D.str [c]:=rfl
theorem dN {l:List D} {k:Nat} {z:D} (h:l[k]? =some z) (hk:k<=100000:=by decide):cp (.lst l) (.int k)=some z:=by
 rw[v7,aR (dh (Ki) (OO.mpr (Om hk (Oj rfl)))),Od,sX (Og.mp h).1];exact h
theorem ix {l:List D} {k:Nat} {z:D} (h:l[k]? =some z) (hk:k<=100000:=by decide):cp (.tup l) (.int k)=some z:=by rw[GW];exact dN h hk
theorem cw {a:CE} {l:List D} {z:D} (k:Nat) (h:Ev K a ρ σ (.d (.tup l))) (hz:l[k]? =some z) (hk:k<=100000:=by decide):Ev K (sub a (ai (k:Nat))) ρ σ (.d z):=bc h rfl rfl rfl (ix hz hk)
theorem Fn {l:List Nat} {k c:Nat} (h:l[k]? =some c) (hk:k<=100000:=by decide):cp (.str l) (.int k)=some (.str [c]):=by
 rw[GX,aR (dh (Ki) (OO.mpr (Om hk (Oj rfl)))),Od,sX (Og.mp h).1,Od,h];rfl
theorem b_ {o a:CE} {n j:Nat} {l:List D} {y:D} (h0:Ev K o ρ σ (.p n j)) (h1:Ev K a ρ σ (.d y)) (h:bU σ n j=some (.list l)) (hl:l.length<dX):(bm aN o (aj a au)).ev K ρ σ=some (.ok (.d .none),d8 σ n j (.list (l++[y]))):=by
 refine aC h0 ?_;have r:rd σ (.p n j)=some (.lst l):=by show (bU σ n j).bind _=_;rw[h];rfl
 show (match (rd σ (.p n j)).any (D3 (.p n j)) with|true=>_|false=>none)=_
 rw[r];refine aC (cl1 h1) ?_;show ((bU σ n j).bind fun f=>(Hp y f).map _)=_;rw[h,Od];show Option.map _ (aq (l.length<dX) _)=_;rw[aR hl];rfl
theorem uk {b:Int} (h1:0<b) (h2:b<2^250):lP b=true:=by
 simp only [lP,Bool.and_eq_true,bne_iff_ne,ne_eq,decide_eq_true_eq];refine ⟨by exact Int.ne_of_gt h1,OD (m:=2^250) ?_ (Nat.pow_le_pow_right (by decide) (by decide))⟩;have:((2^250:Nat):Int)=2^250:=by norm_cast
 exact K1 h1 h2
theorem aF {a b:Int} (hb:0<b):0<=a.fmod b/\a.fmod b<b:=by
 rw[Int.fmod_eq_emod_of_nonneg a (O8 hb)];exact ⟨Int.emod_nonneg a (Ne.symm (Int.ne_of_lt hb)),Int.emod_lt_of_pos a hb⟩
theorem eO {a b:Int} (h1:0<b) (h2:b<2^250):aY.g (.int a) (.int b)=some (.int (a.fmod b)):=by
 show (aq (lP b=true) (a.fmod b)).map _=_;rw[aR (uk h1 h2)];rfl
theorem xI {a b:Int} (h1:0<b) (h2:b<2^250):bh.g (.int a) (.int b)=some (.int (a.fdiv b)):=by
 show (aq (lP b=true) (a.fdiv b)).map _=_;rw[aR (uk h1 h2)];rfl
theorem xi {a b:Int} (h:a.natAbs<2^64):jU a b=true:=by rw[jU,Os h];rfl
theorem eT {a b:Int} (h:b.natAbs<2^64):jU a b=true:=by rw[jU,Os h,Bool.or_true];rfl
theorem iy {a b:Int} (h:jU a b=true):ft.g (.int a) (.int b)=some (.int (a*b)):=by
 show (aq (jU a b=true) (a*b)).map _=_;rw[aR h];rfl
theorem xJ {a b:List Nat} (h:a.length+b.length<=dX):bf.g (.str a) (.str b)=some (.str (a++b)):=if_pos h
section
variable {a b:Int} {s t:List Nat}
theorem tU (h:a<b):uM.g (.int a) (.int b)=some true:=congrArg some (Os h)
theorem pi (h:¬a<b):uM.g (.int a) (.int b)=some false:=congrArg some (O3 h)
theorem D6 (h:b<a):CK.g (.int a) (.int b)=some true:=congrArg some (Os h)
theorem t9 (h:¬b<a):CK.g (.int a) (.int b)=some false:=congrArg some (O3 h)
theorem vI (h:a<=b):oV.g (.int a) (.int b)=some true:=congrArg some (Os h)
theorem Jt (h:¬a<=b):oV.g (.int a) (.int b)=some false:=congrArg some (O3 h)
theorem i9 (h:a=b):dY.g (.int a) (.int b)=some true:=congrArg some (Os h)
theorem n7 (h:a≠b):dY.g (.int a) (.int b)=some false:=congrArg some (O3 h)
theorem DD (h:a≠b):mh.g (.int a) (.int b)=some true:=congrArg (fun c=>some !c) (O3 h)
theorem s9 (h:a=b):mh.g (.int a) (.int b)=some false:=congrArg (fun c=>some !c) (Os h)
theorem fk (h:s=t):dY.g (.str s) (.str t)=some true:=congrArg some (Os h)
theorem iC (h:s≠t):dY.g (.str s) (.str t)=some false:=congrArg some (O3 h)
theorem Jm (h:s=t):mh.g (.str s) (.str t)=some false:=congrArg (fun c=>some !c) (Os h)
end
theorem iW {i:Nat} {it bS:CE} {t:CI} {v:PV} {x:D} {xs l:List D} (h:Ev K it ρ σ v) (h1:uL v σ=some (x,xs)) (h2:cX v x i (t.ts K) (bS.ev K) ρ xs [] σ=some (.ok l,σ')) (hK:K.hd=false):og i it t bS K ρ σ=some (.ok l,σ'):=by
 unfold og n_;rw[hK];refine aC h ?_;show (uL v σ).bind _=_;rw[h1,Od,h2];rfl
theorem dS {i:Nat} {it bS:CE} {t:CI} {v:PV} {x:D} {xs l:List D} (h:Ev K it ρ σ v) (h1:uL v σ=some (x,xs)) (h2:cX v x i (t.ts K) (bS.ev K) ρ xs [] σ=some (.ok l,σ')) (hK:K.hd=false:=by rfl):(iE i it t bS).ev K ρ σ=some (.ok l,σ'):=iW h h1 h2 hK
theorem m_ {j i:Nat} {it bS:CE} {t:CI} {l:List D} (h:og i it t bS K ρ σ=some (.ok l,σ')) (k:ρ.set j (dV (.lst l))=ρ'):(sP false j i it t bS).ex K ρ σ=some (.next ρ',σ'):=by
 subst k;exact cJ (aC h rfl) rfl
theorem j6 {f:CF} {l:List D} (h:f.ev K ρ σ=some (.ok l,σ')):(qP false f).ev K ρ σ=some (.ok (.d (.lst l)),σ'):=aC h rfl
theorem zF {i:Nat} {bS:CE} {y:D} {w:PV} (hs:bn σ y w=true) (f g:α->D):∀ (xs:List α) (acc:List D),(∀ x∈xs,Ev K bS (ρ.set i (dV (f x))) σ (.d (g x)))->acc.length+xs.length<=1000000->cX w y i (il.ts K) (bS.ev K) ρ (xs.map f) acc σ=some (.ok (acc++xs.map g),σ):=by
 intro xs
 induction xs with
 |nil=>
  intro acc _ _;rw[List.map_nil,List.map_nil,List.append_nil];rfl
 |cons x xs ih=>
  intro acc h hl;have e:=h x (.head _);rw[Ok] at hl;have ih:=ih (acc++[g x]) (fun z hz=>h z (.tail _ hz)) (by rw[Of,On];exact NC hl);rw[List.map_cons,List.map_cons,List.append_cons,<-ih];show (match bS.ev K (ρ.set i (dV (f x))) σ with
   |some (.ok (.d z),σ'')=>if bn σ'' y w/\acc.length<dX then cX w y i (il.ts K) (bS.ev K) ρ (xs.map f) (acc++[z]) σ'' else none
   |some (.ex c,σ'')=>some (.ex c,σ'')
   |_=>none)=_
  rw[e];exact if_pos ⟨hs,OC (Om (O5 _ _) hl) (by decide)⟩
theorem gq {i:Nat} {bS:CE} {y:D} (f g:α->D):∀ (xs:List α) (acc:List D),(∀ x∈xs,Ev K bS (ρ.set i (dV (f x))) σ (.d (g x)))->acc.length+xs.length<=1000000->cX (.d y) y i (il.ts K) (bS.ev K) ρ (xs.map f) acc σ=some (.ok (acc++xs.map g),σ):=zF rfl f g
theorem zI (p:α->Bool):∀ xs:List α,jA (xs.map fun x=>.bool (p x))=some (xs.map p):=by
 intro xs
 induction xs with
 |nil=>
  exact rfl
 |cons x xs ih=>
  show (jA (xs.map fun x=>.bool (p x))).map (p x::·)=_;rw[ih];rfl
theorem Fq (p:α->Bool) (xs:List α):wg.g false [.d (.lst (xs.map fun x=>.bool (p x)))] σ=some (.ok (.d (.bool (xs.all p))),σ):=by
 show (Option.map _ (Option.map _ (jA (xs.map fun x=>.bool (p x)))))=_;rw[zI];show some (R.ok (PV.d (.bool ((xs.map p).all id))),σ)=_;rw[List.all_map];rfl
theorem fZ {x:D} {xs:List D} (h:items x=some xs):uL (.d x) σ=some (x,xs):=by
 show (Option.map _ (items x))=_;rw[h];rfl
theorem lj {i:Nat} {it bS:CE} {t:List Nat} {p:Nat->Bool} (h:Ev K it ρ σ (.d (.str t))) (hl:t.length<=1000) (k:∀ c∈t,Ev K bS (ρ.set i (sV [c])) σ (.d (.bool (p c)))) (hK:K.hd=false:=by rfl):Ev K (bi wg (aj (qP false (iE i it il bS)) au)) ρ σ (.d (.bool (t.all p))):=by
 have e:items (.str t)=some (t.map fun c=>.str [c]):=if_pos (Om hl (by decide));refine b7 (cl1 (j6 (dS h (fZ e) (gq (fun c=>.str [c]) (fun c=>.bool (p c)) t [] k (by rw[O2];exact KQ hl)) hK))) ?_;rw[hK];exact Fq p t
end
noncomputable def g7:List Nat:=Pq
noncomputable def m9:List Nat:=Pu
noncomputable def bo (t:List Nat):Bool:=decide (t.length=3)&&t.all fun c=>decide (c∈g7)
def aX (n:Int):Prop:=0<=n/\n<=99999
def fJ (t:List Nat):Prop:=t.length<=40/\∀ c∈t,32<=c/\c<=126
noncomputable def c_ (a:Int):Bool:=decide (a≠0)&&(decide (-(10^30)<a)&&decide (a<10^30))
section
variable {σ:av} {d:Nat} {hd:Bool}
theorem Fh {a b:Nat} (h:a<=b):B'.g (.str [a]) (.str [b])=some true:=by
 show some (if a<b then true else if a=b then true else false)=_;rcases Nat.lt_or_eq_of_le h with q|q
 .rw[if_pos q]
 .rw[if_neg (K0 q),if_pos q]
theorem ci {n:Int} (h:aX n):CC (d+1) hd 3 [.d (.int n)] σ=some (.ok (.d .none),σ):=
 fm rfl rfl rfl (aa (bj (bT (bF (an rfl rfl rfl rfl (pi (Pc.mpr h.1))) (bF (an rfl rfl rfl rfl (t9 (Pc.mpr h.2))) rfl))) rfl) rfl) (tk σ)
theorem ly {n:Int} (h:¬aX n):CC (d+1) false 3 [.d (.int n)] σ=some (.ex 4,σ):=by
 refine oj rfl rfl rfl (jM (cK (bT ?_) rfl)) (tk σ);by_cases q:n<0
 .exact i0 (an rfl rfl rfl rfl (tU q))
 .exact bF (an rfl rfl rfl rfl (pi q)) (i0 (an rfl rfl rfl rfl (D6 (by unfold aX at h;exact KZ h q))))
theorem BX {t:List Nat} (hl:t.length<=1000):Ts (KK d false) (mw (bH (aO mh (bi ba (aj (ag 0) au)) (ai 3)) (bH (dD (lu (bi wg (aj (qP false (iE 1 (ag 0) il (ss Ca (ag 1) (zr "GREAT" (none,Pq))))) au)))) e_))) [sV t,none] σ (!bo t):=by
 refine bT ?_;have e:=lj (K:=KK d false) (ρ:=[sV t,none]) (σ:=σ) (i:=1) (it:=ag 0) (p:=fun c=>decide (c∈g7)) (bS:=ss Ca (ag 1) (zr "GREAT" (none,Pq))) rfl hl fun c _=>rfl;have l:Ev (KK d false) (bi ba (aj (ag 0) au)) [sV t,none] σ (.d (.int t.length)):=b7 (cl1 rfl) (xl (Om hl (by decide)));by_cases q:t.length=3
 .unfold bo;rw[Os q,Bool.true_and];refine bF (an l rfl rfl rfl (s9 (by rw[q];rfl))) ?_;cases z:t.all fun c=>decide (c∈g7) with
  |true=>rw[z] at e;exact bF (mV (eY e)) rfl
  |false=>rw[z] at e;exact i0 (mV (eY e))
 .unfold bo;rw[O3 q];exact i0 (an l rfl rfl rfl (DD (Nat.ToInt.of_diseq rfl rfl q)))
theorem rX {t:List Nat} (h:bo t=true):t.length=3:=OT (ah h)
theorem bX {t:List Nat} (h:bo t=true):CC (d+1) false 5 [.d (.str t)] σ=some (.ok (.d .none),σ):=by
 have e:=BX (d:=d) (σ:=σ) (t:=t) (by rw[rX h];decide);rw[h] at e;exact fm rfl rfl rfl (aa (bj e rfl) rfl) (tk σ)
theorem s8 {t:List Nat} (hl:t.length<=1000) (h:bo t=false):CC (d+1) false 5 [.d (.str t)] σ=some (.ex 2,σ):=by
 have e:=BX (d:=d) (σ:=σ) (t:=t) hl;rw[h] at e;exact oj rfl rfl rfl (jM (cK e rfl)) (tk σ)
theorem jR {t:List Nat} (h:fJ t):CC (d+1) false 16 [.d (.str t)] σ=some (.ok (.d .none),σ):=by
 have hl:t.length<=1000:=Om h.1 (by decide);have e:=lj (K:=KK d false) (ρ:=[sV t,none]) (σ:=σ) (i:=1) (it:=ag 0) (p:=fun _=>true) (bS:=EC B' B' (aU [32]) (ag 1) (aU [126])) rfl hl fun c hc=> ?_
 .rw[show (t.all fun _=>true)=true from List.all_eq_true.mpr fun _ _=>rfl] at e;exact fm rfl rfl rfl (aa (bj (bT (bF (an (b7 (cl1 rfl) (xl (Om hl (by decide)))) rfl rfl rfl (t9 (by have:=h.1;exact Pc.mpr (OO.mpr this)))) (bF (mV (eY e)) rfl))) rfl) rfl) (tk σ)
 .exact xR rfl rfl rfl rfl rfl rfl (Fh (h.2 c hc).1) (Fh (h.2 c hc).2)
theorem pt {a:Int}:CC (d+1) hd 12 [.d (.int a)] σ=some (.ok (.d (.bool (c_ a))),σ):=by
 refine aS rfl rfl rfl (aP (aM (xU ?_))) (tk σ);by_cases q:a=0
 .rw[q];exact rfl
 .refine BK (kZ rfl rfl rfl rfl (DD q)) ?_;unfold c_;rw[Os q,Bool.true_and];exact xT (xR rfl rfl rfl rfl rfl rfl rfl rfl)
end
section
theorem bA {n:Nat} (h:n<=1000):n<=dX:=Om h (by decide)
theorem df {n:Nat} (h:n<=1000):n<dX:=OC h (by decide)
variable {r:av} {d:Nat} {hd:Bool} {K:cP} {ρ:a9}
end
section
variable {r:av} {d:Nat} {hd:Bool} {K:cP} {ρ:a9} {σ:av}
theorem wP {a:List Nat} {ns:List (List Nat)}:D.str a∈ns.map D.str<->a∈ns:=by
 constructor
 .intro h;obtain ⟨b,hb,e⟩:=Ot.mp h;cases e;exact hb
 .exact fun h=>List.mem_map_of_mem h
theorem xC {a:List Nat} {ns:List (List Nat)}:GP (.str a) (.lst (ns.map .str))=some (@decide (D.str a∈ns.map D.str) (Classical.propDecidable _)):=by
 have h:(pl 8 (.str a)&&(ns.map D.str).all (pl 8))=true:=Bool.and_eq_true_iff.mpr ⟨rfl,List.all_eq_true.mpr fun x hx=>by
  obtain ⟨b,_,e⟩:=Ot.mp hx;rw[<-e];rfl⟩
 unfold GP;show aq _ _=_;unfold aq;rw[if_pos h];congr
theorem Jz {a:List Nat} {ns:List (List Nat)} (h:a∈ns):Hg.g (.str a) (.lst (ns.map .str))=some true:=xC.trans (congrArg some (@Os _ (_) (wP.mpr h)))
theorem D5 {a:List Nat} {ns:List (List Nat)} (h:a∉ns):Hg.g (.str a) (.lst (ns.map .str))=some false:=xC.trans (congrArg some (@O3 _ (_) fun q=>h (wP.mp q)))
theorem AQ {a:List Nat} {ns:List (List Nat)} (h:a∈ns):ol.g (.str a) (.lst (ns.map .str))=some false:=congrArg (Option.map fun c=> !c) (Jz h)
theorem xg {a:List Nat} {ns:List (List Nat)} (h:a∉ns):ol.g (.str a) (.lst (ns.map .str))=some true:=congrArg (Option.map fun c=> !c) (D5 h)
end
section
variable {r:av} {d:Nat} {hd:Bool} {K:cP} {ρ ρ':a9} {σ σ':av}
theorem dO {l:av} {f:cb}:bU (l++[.fld f]) l.length 0=some f:=by
 unfold bU;rw[eR];rfl
theorem mz {l:av} {o o':PO}:(l++[o]).set l.length o'=l++[o']:=by
 rw[List.set_append_right _ _ (Oo _),Nat.sub_self];rfl
theorem iO {l:av} {f f':cb}:d8 (l++[.fld f]) l.length 0 f'=l++[.fld f']:=by
 unfold d8;rw[eR];exact mz
theorem u9 {l:av} {f:cb} {x:D} (h:f.rd=some x):rd (l++[.fld f]) (.p l.length 0)=some x:=by
 show (bU (l++[.fld f]) l.length 0).bind cb.rd=_;rw[dO];exact h
theorem qI {k v:D} {ks vs:List D} (h:i8 k ks=true) (hl:ks.length<100000):An k v (.dict ks vs)=some (.dict (dG k ks) (dF k v ks vs)):=aR ⟨h,hl⟩
theorem mA {n j:Nat} {k v:D} {f f':cb} (h:bU σ n j=some f) (h2:An k v f=some f'):yA (.p n j) k v σ=some (d8 σ n j f'):=by
 show (bU σ n j).bind _=_;rw[h,Od,h2];rfl
theorem wj {o a b:CE} {x:PV} {ks vs:List D} {k z:D} (h:Ev K o ρ σ x) (r1:rd σ x=some (.dct ks vs)) (h1:Ev K a ρ σ (.d k)) (h2:Ev K b ρ σ (.d z)) (hf:i8 k ks=true):Ev K (bm yT o (aj a (aj b au))) ρ σ (.d ((dJ k ks vs).getD z)):=by
 refine aC h ?_;show (match (rd σ x).any GO with|true=>_|false=>none)=_
 rw[r1];refine aC (c5 h1 (cl1 h2)) ?_;show ((rd σ x).bind fun u=>(Bw u k z).map _)=_;rw[r1,Od];show (aq (i8 k ks=true) _).map _=_;rw[aR hf];rfl
theorem rF {i:Nat} {l:CS} {v:PV} {x:D} {z:Option (Out×av)} (h:ρ[i]? =some (some v)) (h1:vX v σ=some (.d x,σ')) (k:l.ex K (ρ.set i (dV x)) σ'=z):(Dk i l).ex K ρ σ=z:=by
 show ((ρ[i]?).join).bind _=z;rw[h];show (vX v σ).bind _=z;rw[h1];exact k
theorem rG {l:av} {f:cb} {x:D} (h:f.rd=some x):vX (.p l.length 0) (l++[.fld f])=some (.d x,l++[.dead]):=by
 show ((bU (l++[.fld f]) l.length 0).bind fun g=>g.rd.map fun x=>(PV.d x,(l++[PO.fld f]).set l.length .dead))=_;rw[dO,Od,h];show some (PV.d x,_)=_;rw[mz]
end
section
variable {r:av} {d:Nat} {hd:Bool} {K:cP} {ρ ρ':a9} {σ σ':av}
noncomputable def HG (a t1 b1 t2 b2:Int):Int:=(a*t1*b2).fdiv (b1*t2)
theorem uu {a t1 b1 t2 b2:Int} (h1:1<=t1/\t1<=10^9) (h2:1<=b1/\b1<=10^9) (h3:1<=t2/\t2<=10^9) (h4:1<=b2/\b2<=10^9):CC (d+1) hd 13 [.d (.int a),.d (.tup [.int t1,.int b1]),.d (.tup [.int t2,.int b2])] σ=some (.ok (.d (.int (HG a t1 b1 t2 b2))),σ):=by
 have p1:0<b1*t2:=Int.mul_pos (NG h2) (NG h3);have p2:b1*t2<=10^9*10^9:=Int.mul_le_mul h2.2 h3.2 (OL (by decide) h3.1) (by decide);exact aS rfl rfl rfl (aP (aM (aQ (aQ (aQ rfl rfl rfl rfl (iy (eT (Mn h1)))) rfl rfl rfl (iy (eT (Mn h4)))) (aQ rfl rfl rfl rfl (iy (eT (Mn h3)))) rfl rfl (xI p1 (NE p2))))) (tk _)
noncomputable def cV:List Nat:=Po
end
section
noncomputable def d7:List Nat:=PB
def pv (c:List Nat):Prop:=∃ x r,c=x::r/\r.length<=11/\x∈m9/\∀ y∈r,y∈d7
variable {r:av} {d:Nat} {hd:Bool} {K:cP} {ρ ρ':a9} {σ σ':av}
theorem vQ {t:List Nat} (h:pv t):CC (d+1) false 36 [.d (.str t)] σ=some (.ok (.d (.bool true)),σ):=by
 refine aW fun G9 k9=> ?_;obtain ⟨x,q,rfl,h1,h2,h3⟩:=h;refine k9 ?_;have hs:∀ y∈m9,y∈d7:=by decide
 have hl:(x::q).length<=1000:=by rw[Ok];exact OC h1 (Oj rfl)
 have e:=lj (K:=KK d false) (ρ:=[sV (x::q),none]) (σ:=σ) (i:=1) (it:=ag 0) (t:=x::q) (p:=fun _=>true) (bS:=ss Ca (ag 1) (aG bf (zr "SMALL" (none,Pu)) (zr "FIGURES" (none,[48,49,50,51,52,53,54,55,56,57])))) rfl hl fun c hc=> ?_
 .rw[show ((x::q).all fun _=>true)=true from List.all_eq_true.mpr fun _ _=>rfl] at e;have l:Ev (KK d false) (bi ba (aj (ag 0) au)) [sV (x::q),none] σ (.d (.int (x::q).length)):=b7 (cl1 rfl) (xl (bA hl));refine aS rfl rfl (ρ:=[sV (x::q),none]) rfl (aa (bj (bT (bF (an l rfl rfl rfl (pi ?_)) (bF (an l rfl rfl rfl (t9 ?_)) (bF (an (bc rfl rfl rfl rfl (Fn (k:=0) rfl)) rfl rfl rfl ?_) rfl)))) rfl) (aP (aM e))) (tk _)
  .rw[Ok];exact M1
  .rw[Ok];exact Pc.mpr (OO.mpr (O9 h1))
  .exact congrArg (fun c=>some !c) (Os h2)
 .refine kZ rfl rfl rfl rfl ?_;refine congrArg some (Os ?_);rcases Oe.mp hc with z|z
  .rw[z];exact hs x h2
  .exact h3 c z
theorem uz {o a:CE} {k:Nat} {x v:PV} {σ'':av} (h1:a.ev K ρ σ=some (.ok v,σ')) (h2:Ev K o ρ σ' x) (h3:Ao k x v σ'=some σ''):(jd o k a).ex K ρ σ=some (.next ρ,σ''):=by
 refine cJ h1 (cJ h2 ?_);show (Ao k x v σ').bind _=_;rw[h3];rfl
end
section
variable {r:av} {d:Nat} {hd:Bool} {K:cP} {ρ ρ':a9} {σ σ':av} {n m:Int}
noncomputable def cell (sc:List Int) (k:Nat):Int:=sc.getD k 0
theorem B9 {sc:List Int} {k:Nat} (hs:sc.length<=63) (hk:k<=1000):CC (d+1) hd 33 [.d (.lst (sc.map .int)),.d (.int k)] σ=some (.ok (.d (.int (cell sc k))),σ):=by
 have hl:(sc.map D.int).length=sc.length:=Oc ..;have l:Ev (KK d hd) (bi ba (aj (ag 0) au)) [dV (.lst (sc.map .int)),iV k] σ (.d (.int sc.length)):=by
  have e:=j1 (hd:=hd) (σ:=σ) (x:=.d (.lst (sc.map .int))) rfl (by rw[hl];exact bA (Om (hs) (Oj rfl)));rw[hl] at e;exact b7 (cl1 rfl) e
 by_cases q:k<sc.length
 .refine aS rfl rfl (ρ:=[dV (.lst (sc.map .int)),iV k]) rfl (aP (cK (an rfl l rfl rfl (tU (OP.mpr q))) (aP (aM (bc rfl rfl rfl rfl (dN ?_ (Om hk (Oj rfl)))))))) (tk _);rw[Ou,Oh q,cell,Ow,Oh q];rfl
 .rw[show cell sc k=0 by rw[cell,Ow,List.getElem?_eq_none (Nat.le_of_not_lt q)];rfl];exact aS rfl rfl (ρ:=[dV (.lst (sc.map .int)),iV k]) rfl (aa (bj (an rfl l rfl rfl (pi (M0 q))) rfl) rfl) (tk _)
theorem gR {t e:CE} {l:List Nat} {a k:Int} (h1:Ev K t ρ σ (.d (.str l))) (h2:Ev K e ρ σ (.d (.int a))) (h3:0<k) (h4:k<=l.length) (h5:l.length<=1000):Ev K (sub t (aG aY e (ai k))) ρ σ (.d (.str [l.getD (a.fmod k).toNat 0])):=by
 have q:=aF (a:=a) (b:=k) h3;have hk:(a.fmod k).toNat<l.length:=o8 h4 q;refine bc h1 (aQ h2 rfl rfl rfl (eO h3 (Kl h4 h5))) rfl rfl ?_;have e:a.fmod k=(((a.fmod k).toNat:Nat):Int):=Kk q;rw[e];refine Fn ?_ (Kj h5 hk);rw[Int.toNat_natCast,Ow,Oh hk];rfl
theorem ig {l:List Nat} {a k:Int} (h1:0<k) (h2:k<=l.length):l.getD (a.fmod k).toNat 0∈l.take k.toNat:=by
 have r:=aF (a:=a) (b:=k) h1;rw[Ow,Oh (o8 h2 r),Option.getD_some];exact List.mem_take_iff_getElem.mpr ⟨(a.fmod k).toNat,MZ h2 r,rfl⟩
theorem dz {e:CE} {a k:Int} (h:Ev K e ρ σ (.d (.int a))) (h1:0<k:=by decide) (h2:k<2^250:=by decide):Ev K (aG bh e (ai k)) ρ σ (.d (.int (a.fdiv k))):=aQ h rfl rfl rfl (xI h1 h2)
theorem dP {e:CE} {a k:Int} (h:Ev K e ρ σ (.d (.int a))) (h1:0<k:=by decide) (h2:k<2^250:=by decide):Ev K (aG aY e (ai k)) ρ σ (.d (.int (a.fmod k))):=aQ h rfl rfl rfl (eO h1 h2)
theorem j8:∃ t,bo t=true/\CC (d+1) hd 41 [.d (.int n)] σ=some (.ok (.d (.str t)),σ):=by
 have g:=fun a:Int=>List.mem_of_mem_take (ig (l:=g7) (a:=a) (k:=26) (by decide) (by decide));refine ⟨[g7.getD (n.fmod 26).toNat 0]++[g7.getD ((n.fdiv 26).fmod 26).toNat 0]++[g7.getD ((n.fdiv 676).fmod 26).toNat 0],?_,?_⟩
 .show (true&&(decide _&&(decide _&&(decide _&&true))))=true;rw[Os (g _),Os (g _),Os (g _)];rfl
 .refine aS rfl rfl (ρ:=[iV n,none,none]) rfl ?_ (tk _);refine aa rfl ?_;refine aa (aA (gR (l:=g7) rfl rfl (by decide) (by decide) (by decide)) rfl) ?_;refine aa (aA (aQ rfl (gR (l:=g7) rfl rfl (by decide) (by decide) (by decide)) rfl rfl rfl) rfl) ?_;exact aP (aM (aQ rfl (gR (l:=g7) rfl rfl (by decide) (by decide) (by decide)) rfl rfl rfl))
theorem nT (a b c:Int):items (.rng a b c)=aq ((bI a&&bI b&&decide (0<c)&&decide (c<1000)&&decide (ch a b c<=100000))=true) ((List.range (ch a b c)).map fun (i:Nat)=>.int (a+(i:Int)*c)):=rfl
theorem HS (b:Int):kY.g hd [.d (.int b)] σ=(aq (bI b=true) (D.rng 0 b 1)).map fun z=>(R.ok (PV.d z),σ):=rfl
theorem iT {k:Nat} (h:k<=1000):items (.rng 0 k 1)=some ((List.range k).map fun (i:Nat)=>.int i):=by
 have e:ch 0 k 1=k:=by
  unfold ch;split
  .rw[Int.ediv_one];exact MY
  .exact MX (by assumption)
 rw[nT,aR]
 .rw[e];refine congrArg some (List.map_congr_left fun i _=> ?_);rw[Int.mul_one,Int.zero_add]
 .rw[e,dh (by decide) (by decide),dh (Ki) (ND h),Os (by decide),Os (by decide),Os (Om h (Oj rfl))];rfl
theorem rQ {e:CE} {k:Nat} (h:Ev K e ρ σ (.d (.int k))) (hk:k<=1000):Ev K (bi kY (aj e au)) ρ σ (.d (.rng 0 k 1)):=by
 refine b7 (cl1 h) ?_;rw[HS,aR (dh (Ki) (ND hk))];rfl
end
section
variable {r:av} {d:Nat} {hd:Bool} {K:cP} {ρ ρ':a9} {σ σ':av} {n m:Int}
theorem qF {a:CE} {lo hi:CP} {x l h:PV} {u u1 u2 z:D} (h1:Ev K a ρ σ x) (h2:lo.ev K ρ σ=some (.ok l,σ)) (h3:hi.ev K ρ σ=some (.ok h,σ)) (r1:rd σ x=some u) (r2:n8 l=some u1) (r3:n8 h=some u2) (e:eJ u u1 u2=some z):Ev K (Ka a lo hi) ρ σ (.d z):=by
 refine aC h1 (aC h2 (aC h3 ?_));show (rd σ x).bind _=_;rw[r1,Od,r2,Od,r3,Od,e];rfl
theorem HV {s:List Nat} {i:Int} (h0:0<=i) (h1:i<=s.length):eJ (.str s) .none (.int i)=some (.str (s.take i.toNat)):=by
 show ((aq (0<=i) i.toNat).bind fun h=>aq (0<=h/\h<=s.length) (D.str (cR s 0 h)))=_;rw[aR h0,Od,aR ⟨OG _,by exact Int.toNat_le.mpr h1⟩,cR,List.drop_zero,Nat.sub_zero]
theorem F1 {s:List Nat} {i:Int} (h0:0<=i) (h1:i<=s.length):eJ (.str s) (.int i) .none=some (.str (s.drop i.toNat)):=by
 show ((aq (0<=i) i.toNat).bind fun l=>aq (l<=s.length/\s.length<=s.length) (D.str (cR s l s.length)))=_;rw[aR h0,Od,aR ⟨by exact Int.toNat_le.mpr h1,Oo _⟩,cR,List.take_of_length_le (by rw[List.length_drop];exact Oo _)]
theorem sE {t sg:List Nat} (h1:1<=t.length) (h2:t.length<=50) (hs:sg.length=26):∃ k y,k<t.length/\y∈sg/\CC (d+1) hd 40 [.d (.str t),.d (.int n),.d (.str sg)] σ=some (.ok (.d (.str (t.set k y))),σ):=by
 have r:=aF (a:=n) (b:=t.length) (Kh h1);have q:n.fmod t.length=(((n.fmod t.length).toNat:Nat):Int):=by exact (OR r.1).symm
 have hk:(n.fmod t.length).toNat<t.length:=H5 r;generalize (n.fmod t.length).toNat=k at q hk;have g:=List.mem_of_mem_take (ig (l:=sg) (a:=n.fdiv 13) (k:=26) (by decide) (by rw[hs];decide));refine ⟨k,_,hk,g,?_⟩;have e1:Ev (KK d hd) (aG aY (ag 1) (bi ba (aj (ag 0) au))) [sV t,iV n,sV sg,none] σ (.d (.int k)):=by
  rw[<-q];exact aQ rfl (b7 (cl1 rfl) (xl (bA (Om h2 (Oj rfl))))) rfl rfl (eO (Kh h1) (OP.mpr (OC h2 (Oj rfl))))
 have e2:=gR (K:=KK d hd) (ρ:=[sV t,iV n,sV sg,iV k]) (σ:=σ) (t:=ag 2) (l:=sg) (e:=aG bh (ag 1) (ai 13)) (a:=n.fdiv 13) (k:=26) rfl rfl (by decide) (by rw[hs];decide) (Om (O1 hs) (Oj rfl));rw[List.set_eq_take_append_cons_drop,if_pos hk,List.append_cons];have p1:=HV (s:=t) (i:=k) (o9) (MW r q);have p2:=F1 (s:=t) (i:=(k:Int)+1) (MV) (MU r q);rw[Int.toNat_natCast] at p1;rw[show ((k:Int)+1).toNat=k+1 by exact MT] at p2;refine aS rfl rfl (ρ:=[sV t,iV n,sV sg,none]) rfl (aa (aA e1 rfl) (aP (aM (aQ (aQ (qF rfl rfl rfl rfl rfl rfl p1) e2 rfl rfl (xJ ?_)) (qF rfl rfl rfl rfl rfl rfl p2) rfl rfl (xJ ?_))))) (tk _)
 .rw[List.length_take,On];exact bA (Nat.succ_le_of_lt (OC (Om (Nat.min_le_right _ _) h2) (by decide)))
 .rw[Of,List.length_take,On,List.length_drop];exact bA (Om (Nat.add_le_add (O9 (Om (Nat.min_le_right _ _) h2)) (Om (Nat.sub_le _ _) h2)) (by decide))
theorem Gb {t:List Nat} {k y:Nat} (h:pv t) (hy:y∈m9):pv (t.set k y):=by
 refine aW fun G9 k9=> ?_;obtain ⟨x,r,rfl,h1,h2,h3⟩:=h;refine k9 ?_;have hs:∀ y∈m9,y∈d7:=by decide
 cases k with
 |zero=>exact ⟨y,r,rfl,h1,hy,h3⟩
 |succ k=>
  refine ⟨x,r.set k y,rfl,by rw[OE];exact h1,h2,fun z hz=> ?_⟩;rcases List.mem_or_eq_of_mem_set hz with hz|rfl
  .exact h3 z hz
  .exact hs _ hy
theorem Eu {t:List Nat} {k y:Nat} (h:bo t=true) (hy:y∈g7):bo (t.set k y)=true:=by
 rw[bo,Bool.and_eq_true,decide_eq_true_eq,List.all_eq_true] at h ⊢;refine ⟨by rw[OE];exact h.1,fun z hz=> ?_⟩;rcases List.mem_or_eq_of_mem_set hz with hz|rfl
 .exact h.2 z hz
 .exact Os hy
theorem AP {t:List Nat} (h:pv t):1<=t.length/\t.length<=12:=by
 refine aW fun G9 k9=> ?_;obtain ⟨x,r,rfl,h1,_⟩:=h;refine k9 ?_;rw[Ok];exact MS h1
theorem vP {i j:Nat} {l:List D} (h:rd σ (.p i j)=some (.lst l)) (hl:l.length<=1000):uL (.p i j) σ=some (.lst l,l):=by
 unfold uL;rw[h];show (Option.map _ (aq (l.length<=dX) l))=_;rw[aR (bA hl)];rfl
end
section
theorem ym {F:List (List Nat)} {a b c:List Nat} (ha:a∈F) (hb:b∈F) (hc:c∈F) (h1:a≠b) (h2:a≠c) (h3:b≠c):3<=F.length:=by
 refine aW fun G9 k9=> ?_;obtain ⟨i,hi,rfl⟩:=List.mem_iff_getElem.mp ha;obtain ⟨j,hj,rfl⟩:=List.mem_iff_getElem.mp hb;obtain ⟨k,hk,rfl⟩:=List.mem_iff_getElem.mp hc;refine k9 ?_;have q1:i≠j:=fun q=>h1 (by subst q;rfl);have q2:i≠k:=fun q=>h2 (by subst q;rfl);have q3:j≠k:=fun q=>h3 (by subst q;rfl);exact MR hi hj hk q1 q2 q3
noncomputable def curs:List (List Nat):=[[69,85,82],[74,80,89],[85,83,68],[75,87,68],[67,72,70],[71,66,80],[83,69,75],[69,85,83]]
theorem Et:∀ x∈curs,bo x=true:=by decide
variable {r:av} {d:Nat} {hd:Bool} {K:cP} {ρ ρ':a9} {σ σ':av} {n m:Int}
theorem He {a b:CE} {x y:PV} {l m:List D} (h1:Ev K a ρ σ x) (h2:Ev K b ρ σ y) (r1:rd σ x=some (.lst l)) (r2:rd σ y=some (.lst m)) (hl:l.length+m.length<=1000):(qP true (Jq a b)).ev K ρ σ=some (.ok (.p σ.length 0),σ++[.fld (.list (l++m))]):=by
 refine aC (a:=l++m) (σ':=σ) (aC h1 (aC h2 ?_)) rfl;show ((((rd σ x).bind lD).bind fun l=>((rd σ y).bind lD).bind fun m=>aq (l.length+m.length<=dX) (l++m)).map fun z=>(R.ok z,σ))=_;rw[r1,r2];show (aq (l.length+m.length<=dX) (l++m)).map _=_;rw[aR (bA hl)];rfl
end
section
variable {F:List (List Nat)} {w:List Nat} {L:Int}
noncomputable def CB (L:Int) (F:List (List Nat)) (w:List Nat):List (List Nat):=if w∈F∨L<=F.length then F else F++[w]
theorem Fi {a b c e:Option PV} {o1 o2 X Y:PO} (h:F.length<=8):Ev (KK 6 false) (bi ba (aj (ag 1) au)) [a,qV 2,b,c,e] [o1,o2,.fld (.list (F.map .str)),X,Y] (.d (.int F.length)):=by
 have e:=j1 (hd:=false) (σ:=[o1,o2,.fld (.list (F.map .str)),X,Y]) (x:=.p 2 0) rfl (by rw[Oc];exact bA (Om h (by decide)));rw[Oc] at e;exact b7 rfl e
theorem Ew {a b:Option PV} {o1 o2 X Y:PO} (h:F.length<=8):ef.ex (KK 6 false) [a,qV 2,b,iV L,sV w] [o1,o2,.fld (.list (F.map .str)),X,Y]=some (.next [a,qV 2,b,iV L,sV w],[o1,o2,.fld (.list ((CB L F w).map .str)),X,Y]):=by
 unfold CB;by_cases q:w∈F
 .rw[if_pos (.inl q)];exact aa (bj (cn (fH (an rfl rfl rfl rfl (AQ q)))) rfl) rfl
 by_cases z:(F.length:Int)<L
 .rw[if_neg (fun y=>y.elim q (Int.not_le.mpr z)),List.map_append];exact aa (cK (cn (cF (an rfl rfl rfl rfl (xg q)) (cF (an (Fi h) rfl rfl rfl (tU z)) rfl))) (aa (aB (b_ (n:=2) (j:=0) (l:=F.map .str) (y:=.str w) rfl rfl rfl (by rw[Oc];exact df (Om h (by decide))))) rfl)) rfl
 .rw[if_pos (.inr (Pc.mp z))];exact aa (bj (cn (cF (an rfl rfl rfl rfl (xg q)) (fH (an (Fi h) rfl rfl rfl (pi z))))) rfl) rfl
structure Cu (L:Int) (P:List Nat->Prop) (ws F:List (List Nat)):Prop where
 nd:F.Nodup
 le:(F.length:Int)<=L
 al:∀ x∈F,P x
 mm:∀ x∈ws,x∈F∨L<=F.length
theorem Ha {P:List Nat->Prop} {ws:List (List Nat)} (h:Cu L P ws F) (hw:P w):Cu L P (w::ws) (CB L F w):=by
 unfold CB;by_cases q:w∈F∨L<=F.length
 .rw[if_pos q];refine ⟨h.nd,h.le,h.al,fun x hx=> ?_⟩;rcases Oe.mp hx with rfl|hx
  .exact q
  .exact h.mm x hx
 .rw[if_neg q];refine ⟨List.nodup_append.mpr ⟨h.nd,OW.mpr ⟨Oy,OZ⟩,fun a ha c hc=>by rw[Oi.mp hc];rintro rfl;exact q (.inl ha)⟩,by rw[Of];exact Int.not_le.mp fun z=>q (.inr z),fun x hx=> ?_,fun x hx=>.inl ?_⟩
  .rcases Ov.mp hx with z|z
   .exact h.al x z
   .rw[Oi.mp z];exact hw
  .rcases Oe.mp hx with rfl|hx
   .exact List.mem_append_right _ (.head _)
   .exact List.mem_append_left _ ((h.mm x hx).resolve_right fun z=>q (.inr z))
theorem Ex {P:List Nat->Prop} {a:Option PV} {o1 o2 X:PO} {ys:List D} (hL:L<=8):∀ (ws us F:List (List Nat)) (x:Option PV),Cu L P us F->(∀ x∈ws,P x)->∃ G y,Cu L P (ws.reverse++us) G/\eU (.p 4 0) (.lst ys) 4 (fun ρ=>ef.ex (KK 6 false) ρ) (ws.map .str) [a,qV 2,qV 4,iV L,x] [o1,o2,.fld (.list (F.map .str)),X,.fld (.list ys)]=some (.next [a,qV 2,qV 4,iV L,y],[o1,o2,.fld (.list (G.map .str)),X,.fld (.list ys)]):=by
 intro ws
 induction ws with
 |nil=>
  intro us F x h _;exact ⟨F,x,h,rfl⟩
 |cons w ws ih=>
  intro us F x h hw;refine aW fun G9 k9=> ?_;obtain ⟨G,y,c,e⟩:=ih (w::us) (CB L F w) (sV w) (Ha h (hw w (.head _))) fun x hx=>hw x (.tail _ hx);refine k9 ?_;exact ⟨G,y,by rw[List.reverse_cons,List.append_assoc];exact c,bL (Ew (by have:=h.le;omega)) (dE rfl) e⟩
theorem n9 {c0 c1:Int} {o1 o2:PO}:∃ F:List (List Nat),F.Nodup/\(∀ x∈F,bo x=true)/\3<=F.length/\F.length<=8/\(∃ n0 v,∀ x∈F,x∈n0::v::curs)/\CC 7 false 42 [.d (.lst [.int c0,.int c1])] [o1,o2]=some (.ok (.d (.lst (F.map .str))),[o1,o2]):=by
 refine aW fun G9 k9=> ?_;obtain ⟨n0,h0,e0⟩:=j8 (d:=5) (hd:=false) (σ:=[o1,o2,.fld (.list [])]) (n:=c0);obtain ⟨n1,h1,e1⟩:=j8 (d:=5) (hd:=false) (σ:=[o1,o2,.fld (.list [])]) (n:=c1);refine k9 ?_;generalize hB:PO.fld (.list [.str n0,.str n1,.str [69,85,82],.str [74,80,89],.str [85,83,68]])=B;refine aW fun G9 k9=> ?_;obtain ⟨L,hL,x4⟩:∃ L:Int,(4<=L/\L<=8)/\∀ x y z s,fW.ex (KK 6 false) [dV (.lst [.int c0,.int c1]),x,y,z,none] s=some (.next [dV (.lst [.int c0,.int c1]),x,y,iV L,none],s):=by
  by_cases q:(c0.fdiv 3).fmod 8=3
  .exact ⟨8,by decide,fun _ _ _ _=>aA (rS (tT q rfl) rfl) rfl⟩
  .exact ⟨4,by decide,fun _ _ _ _=>aA (rT (tF q rfl) rfl) rfl⟩
 obtain ⟨v,hv,x5⟩:∃ v,bo v=true/\∀ x y z,fV.ex (KK 6 false) [dV (.lst [.int c0,.int c1]),x,qV 4,y,z] [o1,o2,.fld (.list []),B,.fld (.list (.str n0:: .str n1::curs.map .str))]=some (.next [dV (.lst [.int c0,.int c1]),x,qV 4,y,z],[o1,o2,.fld (.list []),B,.fld (.list (.str n0:: .str v::curs.map .str))]):=by
  by_cases q:c1.fmod 2=1
  .obtain ⟨k,y,hk,hy,e2⟩:=sE (d:=5) (hd:=false) (n:=c1.fdiv 2) (t:=n0) (sg:=g7) (by rw[rX h0];decide) (by rw[rX h0];decide) rfl;exact ⟨n0.set k y,Eu h0 hy,fun _ _ _=>cK (tT q rfl) (aa (iL (bM e2 rfl) rfl rfl rfl) rfl)⟩
  .exact ⟨n1,h1,fun _ _ _=>bj (tF q rfl) rfl⟩
 obtain ⟨F,y,c,lp⟩:=Ex (P:=fun x=>bo x=true/\x∈n0::v::curs) (a:=dV (.lst [.int c0,.int c1])) (o1:=o1) (o2:=o2) (X:=B) (ys:=.str n0:: .str v::curs.map .str) hL.2 (n0::v::curs) [] [] none ⟨OZ,by have:=hL.1;show (0:Int)<=L;omega,de,de⟩ fun x hx=>⟨by
  rcases Oe.mp hx with rfl|hx
  .exact h0
  rcases Oe.mp hx with rfl|hx
  .exact hv
  .exact Et x hx,hx⟩
 refine k9 ?_;have m:∀ x∈curs,x∈F∨L<=F.length:=fun x hx=>c.mm x (by rw[List.append_nil];exact List.mem_reverse.mpr (.tail _ (.tail _ hx)));have le:=c.le;refine ⟨F,c.nd,fun x hx=>(c.al x hx).1,?_,by omega,⟨n0,v,fun x hx=>(c.al x hx).2⟩,?_⟩
 .by_cases z:L<=F.length
  .omega
  .exact ym ((m [69,85,82] (.head _)).resolve_right z) ((m [74,80,89] (.tail _ (.head _))).resolve_right z) ((m [85,83,68] (.tail _ (.tail _ (.head _)))).resolve_right z) (by decide) (by decide) (by decide)
 .exact Fo (f':=.list (F.map .str)) (m:=2) rfl rfl rfl (aa rfl (aa (aA (eW (c5 (bM e0 rfl) (c5 (bM e1 rfl) rfl))) rfl) (aa (aA (He rfl (dQ rfl) rfl rfl (Oj rfl)) rfl) (aa (x4 _ _ _ _) (aa (hB ▸ x5 _ _ _) (aa (bP rfl rfl (hB ▸ lp)) rfl)))))) (Oo _) rfl rfl
end
section
variable {r:av} {d:Nat} {hd:Bool} {K:cP} {ρ ρ':a9} {σ σ':av} {n m:Int}
theorem fp {a b:CE} {x y:Int} (h1:Ev K a ρ σ (.d (.int x))) (h2:Ev K b ρ σ (.d (.int y))):Ev K (aG bf a b) ρ σ (.d (.int (x+y))):=aQ h1 h2 rfl rfl rfl
end
section
variable {r:av} {d:Nat} {hd:Bool} {K:cP} {ρ ρ':a9} {σ σ':av} {n m:Int}
end
section
variable {r:av} {d:Nat} {hd:Bool} {K:cP} {ρ ρ':a9} {σ σ':av} {n m:Int}
end
section
variable {r:av} {d:Nat} {hd:Bool} {K:cP} {ρ ρ':a9} {σ σ':av} {n m:Int}
theorem Bx {a b:List D} (h:a.length+b.length<=1000):bf.g (.lst a) (.lst b)=some (.lst (a++b)):=if_pos (bA h)
end
section
variable {α:Type} [DecidableEq α]
noncomputable def hZ (a:α) (v:D):List (α×D)->List (α×D)
 |[]=>[(a,v)]
 |x::l=>if x.1=a then (x.1,v)::l else x::hZ a v l
noncomputable def fC (a:α):List (α×D)->Option D
 |[]=>none
 |x::l=>if x.1=a then some x.2 else fC a l
variable {mk:α->D}
theorem jZ (hk:∀ a b,dK (mk a) (mk b)=decide (a=b)) (a:α):∀ l:List (α×D),dJ (mk a) (l.map fun x=>mk x.1) (l.map (·.2))=fC a l:=by
 intro l
 induction l with
 |nil=>
  exact rfl
 |cons x l ih=>
  show (if dK (mk x.1) (mk a)=true then some x.2 else dJ (mk a) (l.map fun x=>mk x.1) (l.map (·.2)))=if x.1=a then some x.2 else fC a l;rw[hk,ih];by_cases h:x.1=a
  .rw[if_pos h,if_pos (Os h)]
  .rw[if_neg h,if_neg (by rw[O3 h];exact OB)]
theorem u' (hk:∀ a b,dK (mk a) (mk b)=decide (a=b)) (a:α) (v:D):∀ l:List (α×D),dG (mk a) (l.map fun x=>mk x.1)=(hZ a v l).map fun x=>mk x.1:=by
 intro l
 induction l with
 |nil=>
  exact rfl
 |cons x l ih=>
  show (if dK (mk x.1) (mk a)=true then mk x.1::l.map (fun x=>mk x.1) else mk x.1::dG (mk a) (l.map fun x=>mk x.1))=(if x.1=a then (x.1,v)::l else x::hZ a v l).map fun x=>mk x.1;rw[hk,ih];by_cases h:x.1=a
  .rw[if_pos h,if_pos (Os h)];rfl
  .rw[if_neg h,if_neg (by rw[O3 h];exact OB)];rfl
theorem u_ (hk:∀ a b,dK (mk a) (mk b)=decide (a=b)) (a:α) (v:D):∀ l:List (α×D),dF (mk a) v (l.map fun x=>mk x.1) (l.map (·.2))=(hZ a v l).map (·.2):=by
 intro l
 induction l with
 |nil=>
  exact rfl
 |cons x l ih=>
  show (if dK (mk x.1) (mk a)=true then v::l.map (·.2) else x.2::dF (mk a) v (l.map fun x=>mk x.1) (l.map (·.2)))=(if x.1=a then (x.1,v)::l else x::hZ a v l).map (·.2);rw[hk,ih];by_cases h:x.1=a
  .rw[if_pos h,if_pos (Os h)];rfl
  .rw[if_neg h,if_neg (by rw[O3 h];exact OB)];rfl
theorem jY {a b:α} {v:D}:∀ l:List (α×D),fC b (hZ a v l)=if b=a then some v else fC b l:=by
 intro l
 induction l with
 |nil=>
  show (if a=b then some v else none)=if b=a then some v else none;by_cases h:b=a
  .rw[if_pos h,if_pos h.symm]
  .rw[if_neg h,if_neg fun e=>h e.symm]
 |cons x l ih=>
  show fC b (if x.1=a then (x.1,v)::l else x::hZ a v l)=if b=a then some v else if x.1=b then some x.2 else fC b l;by_cases h:x.1=a
  .rw[if_pos h];show (if x.1=b then some v else fC b l)=_;by_cases k:b=a
   .rw[if_pos k,if_pos (h.trans k.symm)]
   .rw[if_neg k,if_neg fun e=>k (e.symm.trans h),if_neg fun e=>k (e.symm.trans h)]
  .rw[if_neg h];show (if x.1=b then some x.2 else fC b (hZ a v l))=_;rw[ih];by_cases k:b=a
   .rw[if_pos k,if_neg fun e=>h (e.trans k),if_pos k]
   .rw[if_neg k,if_neg k]
theorem jV {a b:α} {v:D}:∀ l:List (α×D),b∈(hZ a v l).map (·.1)<->b=a∨b∈l.map (·.1):=by
 intro l
 induction l with
 |nil=>
  show b∈[a]<->b=a∨b∈[];simp
 |cons x l ih=>
  show b∈(if x.1=a then (x.1,v)::l else x::hZ a v l).map (·.1)<->b=a∨b∈x.1::l.map (·.1);by_cases h:x.1=a
  .rw[if_pos h];show b∈x.1::l.map (·.1)<->_;rw[Oe,<-h];constructor
   .intro q;exact .inr q
   .rintro (q|q)
    .exact .inl q
    .exact q
  .rw[if_neg h];show b∈x.1::(hZ a v l).map (·.1)<->_;rw[Oe,Oe,ih];constructor
   .rintro (q|q|q)
    .exact .inr (.inl q)
    .exact .inl q
    .exact .inr (.inr q)
   .rintro (q|q|q)
    .exact .inr (.inl q)
    .exact .inl q
    .exact .inr (.inr q)
theorem rp {a:α} {v:D}:∀ l:List (α×D),(hZ a v l).length<=l.length+1:=by
 intro l
 induction l with
 |nil=>
  exact Oo _
 |cons x l ih=>
  show (if x.1=a then (x.1,v)::l else x::hZ a v l).length<=_;by_cases h:x.1=a
  .rw[if_pos h];exact OV _
  .rw[if_neg h];exact O9 (ih)
end
noncomputable abbrev Rw:=List Nat×Int×Int×Int
noncomputable def sQ (x:Rw):D:=.tup [.str x.1,.int x.2.1,.int x.2.2.1,.int x.2.2.2]
noncomputable def C9 (x:Rw):D:=.tup [.int x.2.2.1,.int x.2.2.2]
open Classical in
noncomputable def sY (c:List Nat) (n:Int) (o:Option Rw) (x:Rw):Option Rw:=if x.1=c/\x.2.1<=n/\(∀ y,o=some y->y.2.1<=x.2.1) then some x else o
noncomputable def jB (c:List Nat) (n:Int) (rs:List Rw):Option Rw:=rs.foldl (sY c n) none
theorem lg {c:List Nat} {n:Int} {rs:List Rw} {x:Rw}:jB c n (rs++[x])=sY c n (jB c n rs) x:=by
 unfold jB;rw[List.foldl_append];rfl
structure Nh (c:List Nat) (l:List (Int×D)) (n:Int) (y:Rw):Prop where
 c:y.1=c
 m:y.2.1∈l.map (·.1)
 le:y.2.1<=n
 mx:∀ k∈l.map (·.1),k<=n->k<=y.2.1
 at_:fC y.2.1 l=some (C9 y)
structure zP (c:List Nat) (rs:List Rw) (l:List (Int×D)):Prop where
 no:∀ n,jB c n rs=none->∀ k∈l.map (·.1),n<k
 yes:∀ n y,jB c n rs=some y->Nh c l n y
theorem BU {c:List Nat}:zP c [] []:=⟨fun _ _ k h=>(by cases h),fun _ _ h=>(by cases h)⟩
theorem wl {c:List Nat} {rs:List Rw} {l:List (Int×D)} {x:Rw} (h:zP c rs l) (hx:x.1≠c):zP c (rs++[x]) l:=by
 have e:∀ n,jB c n (rs++[x])=jB c n rs:=fun n=>lg.trans (if_neg fun q=>hx q.1);exact ⟨fun n=>by rw[e];exact h.no n,fun n y=>by rw[e];exact h.yes n y⟩
theorem zC {c:List Nat} {rs:List Rw} {l:List (Int×D)} {x:Rw} (h:zP c rs l) (hx:x.1=c):zP c (rs++[x]) (hZ x.2.1 (C9 x) l):=by
 refine ⟨fun n e k hk=> ?_,fun n y e=> ?_⟩
 .rw[lg] at e;unfold sY at e;split at e
  .cases e
  .next q=>
   rcases (jV l).mp hk with z|z
   .subst z;exact Int.not_le.mp fun z=>q ⟨hx,z,fun y hy=>by rw[e] at hy;cases hy⟩
   .exact h.no n e k z
 .rw[lg] at e;unfold sY at e;split at e
  .next q=>
   cases e;refine ⟨hx,(jV l).mpr (.inl rfl),q.2.1,fun k hk hn=> ?_,(jY l).trans (if_pos rfl)⟩;rcases (jV l).mp hk with z|z
   .exact Int.le_of_eq z
   .cases b:jB c n rs with
    |none=>exact absurd hn (Int.not_le.mpr (h.no n b k z))
    |some y=>exact OL ((h.yes n y b).mx k z hn) (q.2.2 y b)
  .next q=>
   have d:=h.yes n y e;have lt:x.2.1<=n->x.2.1<y.2.1:=fun z=>Int.not_le.mp fun z2=>q ⟨hx,z,fun y' hy=>by rw[e] at hy;cases hy;exact z2⟩;have ne:y.2.1≠x.2.1:=fun z=>absurd (lt (z ▸ d.le)) (MQ z);refine ⟨d.c,(jV l).mpr (.inr d.m),d.le,fun k hk hn=> ?_,(jY l).trans ((if_neg ne).trans d.at_)⟩;rcases (jV l).mp hk with z|z
   .subst z;exact O8 (lt hn)
   .exact d.mx k z hn
section
theorem GY {a b:Int} (h:b<=a):JQ.g (.int a) (.int b)=some true:=congrArg some (Os h)
theorem Eb {a b:Int} (h:¬b<=a):JQ.g (.int a) (.int b)=some false:=congrArg some (O3 h)
theorem lF (a b:List Nat):dK (.str a) (.str b)=decide (a=b):=rfl
theorem Bi (a b:Int):dK (.int a) (.int b)=decide (a=b):=rfl
theorem kW {c:List Nat} {α:Type} (f:α->List Nat) (g:List α):i8 (.str c) (g.map fun x=>.str (f x))=true:=by
 have:(g.map fun x=>D.str (f x)).all GJ=true:=List.all_eq_true.mpr fun x hx=>by
  obtain ⟨y,_,e⟩:=Ot.mp hx;rw[<-e];rfl
 show (_||(true&&(g.map fun x=>D.str (f x)).all GJ))=true;rw[this];exact Bool.or_true _
theorem nZ {c:Int} {α:Type} (f:α->Int) (g:List α):i8 (.int c) (g.map fun x=>.int (f x))=true:=by
 have:(g.map fun x=>D.int (f x)).all GM=true:=List.all_eq_true.mpr fun x hx=>by
  obtain ⟨y,_,e⟩:=Ot.mp hx;rw[<-e];rfl
 show ((true&&(g.map fun x=>D.int (f x)).all GM)||_)=true;rw[this];rfl
noncomputable def zD (l:List (Int×D)):D:=.dct (l.map fun x=>.int x.1) (l.map (·.2))
variable {r:av} {d:Nat} {hd:Bool} {K:cP} {ρ ρ':a9} {σ σ':av} {n t b:Int} {c:List Nat} {rs:List Rw} {m:List (List Nat×D)}
theorem eG {α:Type} {i:Nat} {bS:CE} {t:CI} {v:PV} {y:D} (hs:bn σ y v=true) (f g:α->D) (p:α->Bool):∀ (xs:List α) (acc:List D),(∀ x∈xs,t.ts K (ρ.set i (dV (f x))) σ=some (.ok (p x),σ))->(∀ x∈xs,p x=true->Ev K bS (ρ.set i (dV (f x))) σ (.d (g x)))->acc.length+xs.length<=1000000->cX v y i (t.ts K) (bS.ev K) ρ (xs.map f) acc σ=some (.ok (acc++(xs.filter p).map g),σ):=by
 intro xs
 induction xs with
 |nil=>
  intro acc _ _ _;rw[List.map_nil,List.filter_nil,List.map_nil,List.append_nil];rfl
 |cons x xs ih=>
  intro acc h1 h2 hl;rw[Ok] at hl;rw[List.map_cons];show (match t.ts K (ρ.set i (dV (f x))) σ with
   |some (.ok false,σ')=>if bn σ' y v then cX v y i (t.ts K) (bS.ev K) ρ (xs.map f) acc σ' else none
   |some (.ok true,σ')=>(match bS.ev K (ρ.set i (dV (f x))) σ' with
    |some (.ok (.d z),σ'')=>if bn σ'' y v/\acc.length<dX then cX v y i (t.ts K) (bS.ev K) ρ (xs.map f) (acc++[z]) σ'' else none
    |some (.ex c,σ'')=>some (.ex c,σ'')
    |_=>none)
   |_=>none)=_
  rw[h1 x (.head _)];cases q:p x with
  |false=>
   rw[List.filter_cons_of_neg (by rw[q];exact OB)];show (if bn σ y v then _ else none)=_;rw[if_pos hs];exact ih acc (fun z hz=>h1 z (.tail _ hz)) (fun z hz=>h2 z (.tail _ hz)) (Nat.le_of_succ_le hl)
  |true=>
   rw[OJ q,List.map_cons,List.append_cons];show (match bS.ev K (ρ.set i (dV (f x))) σ with
    |some (.ok (.d z),σ'')=>if bn σ'' y v/\acc.length<dX then cX v y i (t.ts K) (bS.ev K) ρ (xs.map f) (acc++[z]) σ'' else none
    |some (.ex c,σ'')=>some (.ex c,σ'')
    |_=>none)=_
   rw[h2 x (.head _) q];show (if bn σ y v/\acc.length<dX then _ else none)=_;rw[if_pos ⟨hs,OC (Om (O5 _ _) hl) (by decide)⟩];exact ih (acc++[g x]) (fun z hz=>h1 z (.tail _ hz)) (fun z hz=>h2 z (.tail _ hz)) (by rw[Of,On];exact NC hl)
theorem Bp:∀ l:List Int,nW (l.map .int)=some l:=by
 intro l
 induction l with
 |nil=>
  exact rfl
 |cons x l ih=>
  show (nW (l.map .int)).map (x::·)=_;rw[ih];rfl
theorem Gl {l:List Int} {x:Int} (h1:x∈l) (h2:∀ a∈l,a<=x):BE.g false [.d (.lst (l.map .int))] σ=some (.ok (.d (.int x)),σ):=by
 show Option.map (fun z=>(R.ok (PV.d z),σ)) ((nW (l.map D.int)).bind fun is=>(yS is).map D.int)=_;rw[Bp,Od];cases e:yS l with
 |none=>cases l with
  |nil=>cases h1
  |cons a l=>cases e
 |some y=>rw[xk e h1 h2];rfl
noncomputable def Fa (o:Option Rw):R PV:=o.elim (.ex 13) fun y=>.ok (.d (C9 y))
noncomputable def fI (h:List Nat) (rs:List Rw) (c:List Nat) (n:Int):Option Rw:=if c=h then some (c,0,1,1) else jB c n rs
noncomputable def FU (o:Option Rw):D:=o.elim .none sQ
end
section
variable {r:av} {d:Nat} {hd:Bool} {K:cP} {ρ ρ':a9} {σ σ':av} {n t b:Int} {c:List Nat} {rs:List Rw} {m:List (List Nat×D)}
theorem Ch {y:Rw}:∀ {rs:List Rw},jB c n rs=some y->y∈rs:=by
 have key:∀ (rs:List Rw) (o:Option Rw),rs.foldl (sY c n) o=some y->y∈rs∨o=some y:=by
  intro rs
  induction rs with
  |nil=>exact fun o h=>.inr h
  |cons x rs ih=>
   intro o h;rcases ih _ h with z|z
   .exact .inl (.tail _ z)
   .unfold sY at z;split at z
    .cases z;exact .inl (.head _)
    .exact .inr z
 exact fun {rs} h=>(key rs none h).resolve_right nofun
def EY (x:Rw):Prop:=(1<=x.2.2.1/\x.2.2.1<=10^9)/\(1<=x.2.2.2/\x.2.2.2<=10^9)
theorem pO {h:List Nat} {y:Rw} (hr:∀ x∈rs,EY x) (e:fI h rs c n=some y):EY y:=by
 unfold fI at e;split at e
 .cases e;exact ⟨⟨Int.le_refl 1,(by decide:(1:Int)<=10^9)⟩,Int.le_refl 1,(by decide:(1:Int)<=10^9)⟩
 .exact hr y (Ch e)
theorem yc {g:Int} (h:1<=g):c_ g=decide (g<10^30):=by
 unfold c_;rw[Os (show g≠0 by exact Ne.symm (Int.ne_of_lt h)),Os (show -(10^30)<g by exact OL (by decide) h),Bool.true_and,Bool.true_and]
end
section
variable {r:av} {d:Nat} {hd:Bool} {K:cP} {ρ ρ':a9} {σ σ':av} {rs:List Rw} {m:List (List Nat×D)} {k:Nat} {N G:List (List Nat)} {h s:List Nat} {i j:Nat}
theorem C4 {b:CS} {h:CH} {c:Nat} {z:Option (Out×av)} (h1:b.ex (KK d false) ρ σ=some (.ex c ρ',σ')) (hc:c<nX) (k:h.ex (KK d false) c ρ' σ'=z):(FP b h).ex (KK d false) ρ σ=z:=by
 show FH h (KK d false) (b.ex (KK d false) ρ σ)=z;rw[h1];show (if c<nX then h.ex (KK d false) c ρ' σ' else none)=z;rw[if_pos hc];exact k
noncomputable def F0:List Nat:=(Py++Pz)++PA
theorem FZ:∀ c∈F0,32<=c/\c<=126:=by decide
theorem s6 {n:Int}:∃ t:List Nat,fJ t/\∀ d σ,CC (d+1) false 56 [.d (.int n)] σ=some (.ok (.d (.str t)),σ):=by
 have q:=aF (a:=n) (b:=41) (by decide);have e:n.fmod 41=(((n.fmod 41).toNat:Nat):Int):=by exact (OR q.1).symm
 generalize hk:(n.fmod 41).toNat=k at e;have key:∀ (is:List Nat) (t:List Nat),(∀ c∈t,32<=c/\c<=126)->t.length+is.length<=40->(∀ i∈is,i<100)->∃ t',fJ t'/\∀ d σ x3,∃ y3,eU (.d (.rng 0 k 1)) (.rng 0 k 1) 3 (fun ρ=>nB.ex (KK d false) ρ) (is.map fun (i:Nat)=>.int i) [iV n,sV F0,sV t,x3] σ=some (.next [iV n,sV F0,sV t',y3],σ):=by
  intro is
  induction is with
  |nil=>exact fun t h hl _=>⟨t,⟨hl,h⟩,fun d σ x3=>⟨x3,rfl⟩⟩
  |cons i is ih=>
   intro t h hl hi;rw[Ok] at hl;have g1:=ig (l:=F0) (a:=n.fdiv 41+n.fdiv 3854*i) (k:=94) (by decide) (by decide);obtain ⟨t',h',lp⟩:=ih (t++[F0.getD ((n.fdiv 41+n.fdiv 3854*i).fmod 94).toNat 0]) (fun c hc=>by
    rcases Ov.mp hc with hc|hc
    .exact h c hc
    .rw[Oi.mp hc];exact FZ _ (List.mem_of_mem_take g1)) (by rw[Of,On];exact MP hl) (fun j hj=>hi j (.tail _ hj))
   have hi':=hi i (.head _);refine ⟨t',h',fun d σ x3=> ?_⟩;obtain ⟨y3,lp⟩:=lp d σ (iV i);exact ⟨y3,bL (aa (aA (aQ rfl (gR (l:=F0) rfl (aQ (dz rfl) (aQ rfl rfl rfl rfl (iy (eT (O7 hi' (by decide))))) rfl rfl rfl) (by decide) (by decide) (by decide)) rfl rfl (xJ (bA (by rw[On];exact MO hl)))) rfl) rfl) rfl lp⟩
 obtain ⟨t,ht,lp⟩:=key (List.range k) [] de (by rw[List.length_range,O2];exact MN q e) (fun i hi=>MM q e (List.mem_range.mp hi));refine ⟨t,ht,fun d σ=> ?_⟩;obtain ⟨y3,lp⟩:=lp d σ none;have m0:=dP (K:=KK d false) (ρ:=[iV n,sV F0,sV [],none]) (σ:=σ) (e:=ag 0) (a:=n) (k:=41) rfl (by decide) (by decide);rw[e] at m0;refine aS rfl rfl (ρ:=[iV n,none,none,none]) rfl ?_ (tk _);refine aa rfl ?_;refine aa rfl ?_;refine aa rfl ?_;refine aa rfl ?_;refine aa (bP (rQ m0 (NB q e)) (fZ (iT (NB q e))) lp) ?_;exact rfl
end
section
variable {r:av} {d:Nat} {hd:Bool} {K:cP} {ρ ρ':a9} {σ σ':av} {N F:List (List Nat)} {sc:List Int} {B C:PO}
theorem xS {e ke:CE} {k:Nat} (hs:sc.length<=63) (h0:Ev (KK (d+1) hd) e ρ σ (.d (.lst (sc.map .int)))) (h1:Ev (KK (d+1) hd) ke ρ σ (.d (.int k))) (hk:k<=1000):Ev (KK (d+1) hd) (ax 33 (aj e (aj ke au))) ρ σ (.d (.int (cell sc k))):=az (c5 h0 (cl1 h1)) (B9 hs hk)
variable {p q:Int} {x:Option PV}
theorem DT {e:CE} {T:List (List Nat)} (h:Ev K e ρ σ (.d (.lst (T.map .str)))) (hl:T.length<=1000):Ev K (bi ba (aj e au)) ρ σ (.d (.int T.length)):=by
 have q:=j1 (hd:=K.hd) (σ:=σ) (x:=.d (.lst (T.map .str))) rfl (by rw[Oc];exact bA hl);rw[Oc] at q;exact b7 (cl1 h) q
end
section
theorem Hf {d p s m f:Nat} {hd:Bool} {ρ:a9} {σ σ' σ'':av} {b:CS} {args:List PV} {f':cb} (hT:TT f=some ⟨p,s,true,b.ex⟩) (hl:args.length=p) (hr:args.map some++List.replicate (s - p) none=ρ) (h:b.ex (KK d hd) ρ σ=some (.ret (.p m 0),σ')) (hm:σ.length<=m) (ho:σ'[m]? =some (.fld f')) (k:σ'.take σ.length++[.fld f']=σ''):CC (d+1) hd f args σ=some (.ok (.p σ.length 0),σ''):=
 lQ hT hl hr h (by
  show (if m<σ.length then _ else u8 true σ.length σ' 0 σ'[m]?)=_;rw[if_neg (Pb.mpr hm),ho,<-k];rfl)
variable {r:av} {d:Nat} {hd:Bool} {K:cP} {ρ ρ':a9} {σ σ':av} {rs:List Rw} {sc:List Int} {n t b:Int} {c:List Nat}
variable {h a c2:List Nat} {G:List (List Nat)} {i:Nat} {fw:Int}
end
section
variable {r:av} {d:Nat} {hd:Bool} {K:cP} {ρ ρ':a9} {σ σ':av} {N F:List (List Nat)} {u w:Rw} {g:Int} {rs:List Rw}
open Classical in
theorem BL {u v:D} (p1:pl 8 u=true) (p2:pl 8 v=true) (hf:JJ u v=none):dY.g u v=some (decide (u=v)):=by
 show JK u v=_;unfold JK;rw[hf];show M' u v=_;unfold M' aq;rw[if_pos (by rw[p1,p2];rfl)]
theorem uh {u v:D} (h:u=v) (p:pl 8 u=true) (hf:JJ u v=none):dY.g u v=some true:=(BL p (h ▸ p) hf).trans (congrArg some (@Os _ (_) h))
theorem JI {u v:D} (h:u≠v) (p1:pl 8 u=true) (p2:pl 8 v=true) (hf:JJ u v=none):dY.g u v=some false:=(BL p1 p2 hf).trans (congrArg some (@O3 _ (_) h))
theorem xh {u v:D} (h:u=v) (p:pl 8 u=true) (hf:JJ u v=none):mh.g u v=some false:=congrArg (Option.map fun c=> !c) (uh h p hf)
end
section
theorem FJ {l:List D} (h:1<=l.length) (hl:l.length<=1000):eJ (.lst l) (.int 1) .none=some (.lst (l.drop 1)):=by
 have e:∀ i:Int,eJ (.lst l) (.int i) .none=(aq (l.length<=dX) ()).bind fun _=>(aq (bI i=true) i).bind fun a=>some (.lst (cR l (oU a l.length) (oU l.length l.length))):=fun _=>rfl;rw[e,aR (bA hl),Od,aR (by decide),Od];have c1:oU 1 l.length=1:=by
  unfold oU;rw[if_neg (by decide)];show min 1 l.length=1;exact Nat.min_eq_left h
 have c2:oU l.length l.length=l.length:=by
  unfold oU;rw[if_neg (Km),Int.toNat_natCast,Nat.min_self]
 rw[c1,c2,cR,List.take_of_length_le (by rw[List.length_drop];exact Oo _)]
variable {r:av} {d:Nat} {hd:Bool} {K:cP} {ρ ρ':a9} {σ σ':av} {N F G T:List (List Nat)} {u w:Rw} {g:Int} {rs:List Rw} {h n1 s:List Nat} {k:Nat} {sc:List Int}
end
noncomputable abbrev bQ:=List Nat×List Nat×Int
structure eI where
 no:Int
 day:Int
 note:List Nat
 lines:List bQ
 back:Int
structure St where
 home:List Nat
 names:List (List Nat)
 tk:List D
 tv:List D
 made:List eI
 gone:List Int
 ends:List Int
 deeds:List D
noncomputable def bC (l:bQ):D:=.tup [.str l.1,.str l.2.1,.int l.2.2]
noncomputable def cq (e:eI):D:=.tup [.int e.no,.int e.day,.str e.note,.tup (e.lines.map bC),.int e.back]
noncomputable def mf (S:St):List cb:=[.d (.str S.home),.list (S.names.map .str),.dict S.tk S.tv,.list (S.made.map cq),.dict (S.gone.map .int) (S.gone.map fun _=>.bool true),.list (S.ends.map .int),.list S.deeds]
noncomputable def bk (S:St):PO:=.rcd true (mf S)
noncomputable def cl (l:List Int):Int:=if l.length=0 then -1 else l.getD (l.length - 1) 0
structure Sh (S:St):Prop where
 n:S.names.length<=1000
 t:S.tk.length<=1000
 m:S.made.length<=1000
 g:S.gone.length<=1000
 e:S.ends.length<=1000
 d:S.deeds.length<=1000
abbrev Bk (σ:av) (n:Nat) (S:St):Prop:=σ[n]? =some (bk S)
section
variable {r:av} {d n i:Nat} {hd:Bool} {S S':St} {K:cP} {ρ:a9} {σ:av} {e:CE} {f:cb} {o:PO} {l:av}
theorem Bk.lt (h:Bk σ n S):n<σ.length:=(Og.mp h).1
theorem ed (h:n<σ.length):Bk (σ.set n (bk S)) n S:=List.getElem?_set_self h
theorem Bk.app (h:Bk σ n S):Bk (σ++l) n S:=by
 show (σ++l)[n]? =_;rw[OX h.lt];exact h
theorem Dg (h:n<σ.length):(σ++l).set n o=σ.set n o++l:=List.set_append_left _ _ h
theorem uR:(σ.set n o).take σ.length=σ.set n o:=by
 have:=List.take_length (l:=σ.set n o);rw[OE] at this;exact this
theorem uQ:(σ.set n o++l).take σ.length=σ.set n o:=by
 have:=List.take_left (l₁:=σ.set n o) (l₂:=l);rw[OE] at this;exact this
theorem Bk.same (h:Bk σ n S):σ.set n (bk S)=σ:=by
 obtain ⟨hl,e⟩:=Og.mp h;rw[<-e];exact List.set_getElem_self hl
theorem GK (h:Bk σ n S):Jw (.p n 0) σ=some (.ok (),σ):=by
 show (cA true σ n).map _=_;unfold cA;rw[h];rfl
theorem gS {k:Nat} (h:Bk σ n S) (he:Ev K e ρ σ (.p n 0)) (hf:(mf S)[k]? =some f):Ev K (b8 e k) ρ σ (zv n k f):=by
 refine aC he ?_;show (cA true σ n).bind _=_;unfold cA;rw[h];show ((mf S)[k]?).map _=_;rw[hf];rfl
theorem jw {j:Nat} (h:Bk σ n S) (hf:(mf S)[j]? =some f):bU σ n (j+2)=some f:=by
 unfold bU;rw[h];exact hf
theorem sT {j:Nat} {x:D} (h:Bk σ n S) (hf:(mf S)[j]? =some f) (hx:f.rd=some x):rd σ (.p n (j+2))=some x:=by
 show (bU σ n (j+2)).bind _=_;rw[jw h hf];exact hx
theorem kK {j:Nat} (h:Bk σ n S) (hf:(mf S).set j f=mf S'):d8 σ n (j+2) f=σ.set n (bk S'):=by
 unfold d8;rw[h];show σ.set n (.rcd true ((mf S).set (j+2 - 2) f))=_;rw[Nat.add_sub_cancel,hf];rfl
theorem sd (h:Bk σ n S) (he:Ev K e ρ σ (.p n 0)):Ev K (b8 e 0) ρ σ (.d (.str S.home)):=gS (f:=.d (.str S.home)) h he rfl
theorem kh (h:Bk σ n S) (he:Ev K e ρ σ (.p n 0)):Ev K (b8 e 1) ρ σ (.p n 3):=gS (f:=.list (S.names.map .str)) h he rfl
theorem r_ (h:Bk σ n S) (he:Ev K e ρ σ (.p n 0)):Ev K (b8 e 2) ρ σ (.p n 4):=gS (f:=.dict S.tk S.tv) h he rfl
theorem ki (h:Bk σ n S) (he:Ev K e ρ σ (.p n 0)):Ev K (b8 e 3) ρ σ (.p n 5):=gS (f:=.list (S.made.map cq)) h he rfl
theorem yb (h:Bk σ n S) (he:Ev K e ρ σ (.p n 0)):Ev K (b8 e 4) ρ σ (.p n 6):=gS (f:=.dict (S.gone.map .int) (S.gone.map fun _=>.bool true)) h he rfl
theorem mQ (h:Bk σ n S) (he:Ev K e ρ σ (.p n 0)):Ev K (b8 e 5) ρ σ (.p n 7):=gS (f:=.list (S.ends.map .int)) h he rfl
theorem Cn (h:Bk σ n S) (he:Ev K e ρ σ (.p n 0)):Ev K (b8 e 6) ρ σ (.p n 8):=gS (f:=.list S.deeds) h he rfl
theorem nc (h:Bk σ n S):rd σ (.p n 3)=some (.lst (S.names.map .str)):=sT (f:=.list (S.names.map .str)) h rfl rfl
theorem wW (h:Bk σ n S):rd σ (.p n 4)=some (.dct S.tk S.tv):=sT (f:=.dict S.tk S.tv) h rfl rfl
theorem gy (h:Bk σ n S):rd σ (.p n 5)=some (.lst (S.made.map cq)):=sT (f:=.list (S.made.map cq)) h rfl rfl
theorem Dq (h:Bk σ n S):rd σ (.p n 6)=some (.dct (S.gone.map .int) (S.gone.map fun _=>.bool true)):=sT (f:=.dict (S.gone.map .int) (S.gone.map fun _=>.bool true)) h rfl rfl
theorem qM (h:Bk σ n S):rd σ (.p n 7)=some (.lst (S.ends.map .int)):=sT (f:=.list (S.ends.map .int)) h rfl rfl
theorem bW {f:Nat} {l:CL} {xs:List PV} {z:Option (R PV×av)} (b:Bk σ n S) (h0:Ev (KK d hd) e ρ σ (.p n 0)) (h:l.ev (KK d hd) ρ σ=some (.ok xs,σ)) (k:CC d hd f (.p n 0::xs) σ=z):(meth e f l).ev (KK d hd) ρ σ=z:=El h0 (GK b) h k
theorem fM {x:PV} {l:List D} (h:Ev K e ρ σ x) (r:rd σ x=some (.lst l)) (hl:l.length<=1000):Ev K (bi ba (aj e au)) ρ σ (.d (.int l.length)):=b7 (cl1 h) (j1 r (bA hl))
theorem pU (b:Bk σ n S) (sh:S.made.length<=1000) (h:Ev K e ρ σ (.p n 0)):Ev K (bi ba (aj (b8 e 3) au)) ρ σ (.d (.int S.made.length)):=by
 have q:=fM (ki b h) (gy b) (by rw[Oc];exact sh);rw[Oc] at q;exact q
theorem A_ (b:Bk σ n S) (sh:Sh S) (h:Ev K e ρ σ (.p n 0)):Ev K (bi ba (aj (b8 e 3) au)) ρ σ (.d (.int S.made.length)):=pU b sh.m h
theorem Ba (b:Bk σ n S) (sh:Sh S) (h:Ev K e ρ σ (.p n 0)):Ev K (bi ba (aj (b8 e 5) au)) ρ σ (.d (.int S.ends.length)):=by
 have q:=fM (mQ b h) (qM b) (by rw[Oc];exact sh.e);rw[Oc] at q;exact q
theorem wt (b:Bk σ n S) (sh:Sh S):CC (d+1) hd 2 [.p n 0] σ=some (.ok (.d (.int (cl S.ends))),σ):=by
 have e:Ev (KK d hd) (bi ba (aj (b8 (ag 0) 5) au)) [qV n] σ (.d (.int S.ends.length)):=Ba b sh rfl;unfold cl;by_cases q:S.ends.length=0
 .rw[if_pos q];exact aS rfl rfl rfl (aP (cK (an e rfl rfl rfl (i9 (by rw[q];rfl))) rfl)) (tk _)
 .rw[if_neg q];refine aS rfl rfl rfl (aa (bj (an e rfl rfl rfl (n7 (Int.ofNat_ne_zero.mpr q))) rfl) (aP (aM (bc (mQ b rfl) (aQ e rfl rfl rfl rfl) (qM b) rfl (w:=.int (S.ends.length - 1)) ?_)))) (tk _);have hk:S.ends.length - 1<S.ends.length:=by exact Nat.sub_one_lt q
  have:=dN (l:=S.ends.map D.int) (k:=S.ends.length - 1) (z:=.int (S.ends.getD (S.ends.length - 1) 0)) (by rw[Ou,Oh hk,Ow,Oh hk];rfl) (ML sh.e);rw[show ((S.ends.length:Int) - 1)=((S.ends.length - 1:Nat):Int) by exact (Int.ofNat_sub (Nat.one_le_of_lt hk)).symm];exact this
theorem jO {t:Int} (b:Bk σ n S) (sh:Sh S) (h:aX t) (hc:cl S.ends<t):CC (d+2) hd 4 [.p n 0,.d (.int t)] σ=some (.ok (.d .none),σ):=
 fm rfl rfl rfl (aa (aB (bM (ci h) rfl)) (aa (bj (an rfl (bW b rfl rfl (wt b sh)) rfl rfl (Jt (Int.not_le.mpr hc))) rfl) rfl)) (tk _)
theorem dq {a:List Nat} (b:Bk σ n S) (h:a∈S.names):CC (d+1) hd 15 [.p n 0,.d (.str a)] σ=some (.ok (.d .none),σ):=
 fm rfl rfl rfl (aa (bj (an rfl (kh b rfl) rfl (nc b) (AQ h)) rfl) rfl) (tk _)
theorem wA {a:List Nat} (b:Bk σ n S) (h:a∉S.names):CC (d+1) false 15 [.p n 0,.d (.str a)] σ=some (.ex 11,σ):=
 oj rfl rfl rfl (jM (cK (an rfl (kh b rfl) rfl (nc b) (xg h)) rfl)) (tk _)
theorem zB {k:Nat} {t:eI} (b:Bk σ n S) (sh:Sh S) (h:S.made[k]? =some t):CC (d+1) hd 8 [.p n 0,.d (.int (k+1))] σ=some (.ok (.d (cq t)),σ):=by
 have hk:=(Og.mp h).1;have sm:=sh.m;refine aS rfl rfl rfl (aa (bj (bT (bF rfl (bF (an rfl (A_ b sh rfl) rfl rfl (t9 (Pc.mpr (OO.mpr hk)))) rfl))) rfl) (aP (aM (bc (ki b rfl) rfl (gy b) rfl (w:=.int ((k:Int)+1 - 1)) ?_)))) (tk _);rw[Int.add_sub_cancel];exact dN (by rw[Ou,h];rfl) (Om (OQ hk) (Om sm (by decide)))
theorem AU {a:CE} {t:eI} (b:Bk σ n S) (sh:S.made.length<=1000) (he:Ev K e ρ σ (.p n 0)) (h:Ev K a ρ σ (.d (cq t))):(bm aN (b8 e 3) (aj a au)).ev K ρ σ=some (.ok (.d .none),σ.set n (bk {S with made:=S.made++[t]})):=by
 have q:=b_ (ki b he) h (jw (j:=3) b rfl) (by rw[Oc];exact df sh);rw[kK b (S':={S with made:=S.made++[t]}) (by simp only [mf,List.map_append];rfl)] at q;exact q
theorem yQ {a:CE} {t:List Nat} (b:Bk σ n S) (sh:S.names.length<=1000) (he:Ev K e ρ σ (.p n 0)) (h:Ev K a ρ σ (.d (.str t))):(bm aN (b8 e 1) (aj a au)).ev K ρ σ=some (.ok (.d .none),σ.set n (bk {S with names:=S.names++[t]})):=by
 have q:=b_ (kh b he) h (jw (j:=1) b rfl) (by rw[Oc];exact df sh);rw[kK b (S':={S with names:=S.names++[t]}) (by simp only [mf,List.map_append];rfl)] at q;exact q
theorem BP {a:CE} {t:Int} (b:Bk σ n S) (sh:S.ends.length<=1000) (he:Ev K e ρ σ (.p n 0)) (h:Ev K a ρ σ (.d (.int t))):(bm aN (b8 e 5) (aj a au)).ev K ρ σ=some (.ok (.d .none),σ.set n (bk {S with ends:=S.ends++[t]})):=by
 have q:=b_ (mQ b he) h (jw (j:=5) b rfl) (by rw[Oc];exact df sh);rw[kK b (S':={S with ends:=S.ends++[t]}) (by simp only [mf,List.map_append];rfl)] at q;exact q
theorem gf {a:CE} {x:D} (b:Bk σ n S) (sh:S.deeds.length<=1000) (he:Ev K e ρ σ (.p n 0)) (h:Ev K a ρ σ (.d x)):(bm aN (b8 e 6) (aj a au)).ev K ρ σ=some (.ok (.d .none),σ.set n (bk {S with deeds:=S.deeds++[x]})):=by
 have q:=b_ (Cn b he) h (jw (j:=6) b rfl) (df sh);rw[kK b (S':={S with deeds:=S.deeds++[x]}) rfl] at q;exact q
theorem k7 {day back:Int} {note:List Nat} {ls:List bQ} (b:Bk σ n S) (sh:S.made.length<=1000):CC (d+1) hd 7 [.p n 0,.d (.int day),.d (.str note),.d (.tup (ls.map bC)),.d (.int back)] σ=some (.ok (.d (.int (S.made.length+1))),σ.set n (bk {S with made:=S.made++[⟨S.made.length+1,day,note,ls,back⟩]})):=
 aS rfl rfl rfl (aa (aA (aQ (pU b sh rfl) rfl rfl rfl rfl) rfl) (aa (aB (AU (t:=⟨S.made.length+1,day,note,ls,back⟩) b sh rfl (bB rfl))) rfl)) uR
end
noncomputable def pI (a:List Nat):D:=.tup [.str [97,99,99,111,117,110,116],.str a]
noncomputable def fO (n:Int):D:=.tup [.str [99,108,111,115,101],.int n]
noncomputable def wZ (c:List Nat) (n t b:Int):D:=.tup [.str [114,97,116,101],.str c,.int n,.int t,.int b]
noncomputable def jy (n:Int) (note:List Nat) (ls:List bQ):D:=.tup [.str [101,110,116,114,121],.int n,.str note,.tup (ls.map bC)]
noncomputable def mO (n:Int) (note g one:List Nat) (a:Int) (t aV:List Nat):D:=.tup [.str Ps,.int n,.str note,.str g,.str one,.int a,.str t,.str aV]
noncomputable def told (S:St) (c:List Nat) (n t b:Int) (ks vs:List D):St:={S with tk:=dG (.str c) S.tk,tv:=dF (.str c) (.dct (dG (.int n) ks) (dF (.int n) (.tup [.int t,.int b]) ks vs)) S.tk S.tv,deeds:=S.deeds++[wZ c n t b]}
noncomputable def jF (S:St) (a:List Nat):St:={S with names:=S.names++[a],deeds:=S.deeds++[pI a]}
noncomputable def vb (S:St) (t:Int) (note:List Nat) (ls:List bQ):St:={S with made:=S.made++[⟨S.made.length+1,t,note,ls,0⟩],deeds:=S.deeds++[jy t note ls]}
noncomputable def xV (S:St) (t:Int):St:={S with ends:=S.ends++[t],deeds:=S.deeds++[fO t]}
section
variable {r:av} {d n i:Nat} {hd:Bool} {S S':St} {K:cP} {ρ:a9} {σ:av} {e:CE} {o:PO} {l:av} {t:Int}
theorem sH {o o':PO}:((σ.set n o').set n o).take σ.length=σ.set n o:=by rw[List.set_set];exact uR
theorem oJ {a:List Nat} (b:Bk σ n S) (sh:Sh S) (h:pv a) (hn:a∉S.names):CC (d+2) false 37 [.p n 0,.d (.str a)] σ=some (.ok (.d .none),σ.set n (bk (jF S a))):=
 fm rfl rfl (ρ:=[qV n,sV a]) rfl (aa (bj (gW (eY (bM (vQ h) rfl))) rfl) (aa (bj (an rfl (kh b rfl) rfl (nc b) (D5 hn)) rfl) (aa (aB (yQ b sh.n rfl rfl)) (aa (aB (gf (S:={S with names:=S.names++[a]}) (ed b.lt) sh.d rfl (bB rfl))) rfl)))) sH
theorem B5 (b:Bk σ n S) (sh:Sh S) (h:aX t) (hc:cl S.ends<t) (hl:S.ends.length<=900):CC (d+3) false 11 [.p n 0,.d (.int t)] σ=some (.ok (.d (.int (S.ends.length+1))),σ.set n (bk (xV S t))):=by
 have q:=fM (K:=KK (d+2) false) (ρ:=[qV n,iV t]) (σ:=(σ.set n (bk {S with ends:=S.ends++[t]})).set n (bk {S with ends:=S.ends++[t],deeds:=S.deeds++[fO t]})) (e:=b8 (ag 0) 5) (x:=.p n 7) (l:=(S.ends++[t]).map .int) (mQ (S:={S with ends:=S.ends++[t],deeds:=S.deeds++[fO t]}) (ed (by rw[OE];exact b.lt)) rfl) (qM (S:={S with ends:=S.ends++[t],deeds:=S.deeds++[fO t]}) (ed (by rw[OE];exact b.lt))) (by rw[Oc,Of,On];exact Om (O9 hl) (Oj rfl));rw[Oc,Of] at q;exact aS rfl rfl (ρ:=[qV n,iV t]) rfl (aa (aB (bW b rfl rfl (jO b sh h hc))) (aa (aB (BP b sh.e rfl rfl)) (aa (aB (gf (S:={S with ends:=S.ends++[t]}) (ed b.lt) sh.d rfl (bB rfl))) (aP (aM q))))) sH
theorem kU {k:D} {ks:List D} (h:i8 k ks=true):ks.all ub=true:=by
 have h:((GM k&&ks.all GM)||(GJ k&&ks.all GJ))=true:=h;refine List.all_eq_true.mpr fun x hx=> ?_;rcases (Bool.or_eq_true _ _).mp h with z|z
 .have:=List.all_eq_true.mp (ak z) x hx;cases x<;>first|rfl|cases this
 .have:=List.all_eq_true.mp (ak z) x hx;cases x<;>first|rfl|cases this
theorem Ep {a:CE} {ks vs:List D} (h:Ev K a ρ σ (.d (.dct ks vs))) (hl:ks.length<=100000) (hf:ks.all ub=true):(bi xQ (aj a au)).ev K ρ σ=some (.ok (.p σ.length 0),σ++[.fld (.dict ks vs)]):=by
 refine b7 (cl1 h) ?_;show ((aq (ks.length<=100000/\ks.all ub=true) ()).bind fun _=>g8 (.fld (.dict ks vs)) σ)=_;rw[aR ⟨hl,hf⟩];rfl
theorem C7 {c:List Nat} {u v:Int} {ks vs:List D} (b:Bk σ n S) (sh:Sh S) (hc:bo c=true) (hn:aX t) (hk:cl S.ends<t) (hh:c≠S.home) (ht:1<=u/\u<=10^9) (hb:1<=v/\v<=10^9) (e:(dJ (.str c) S.tk S.tv).getD (.dct [] [])= .dct ks vs) (f1:i8 (.str c) S.tk=true) (f2:i8 (.int t) ks=true) (l1:ks.length<1000):
  CC (d+3) false 6 [.p n 0,.d (.str c),.d (.int t),.d (.int u),.d (.int v)] σ=some (.ok (.d .none),σ.set n (bk (told S c t u v ks vs))):=by
 have g:=wj (K:=KK (d+2) false) (ρ:=[qV n,sV c,iV t,iV u,iV v,none]) (σ:=σ) (o:=b8 (ag 0) 2) (x:=.p n 4) (a:=ag 1) (b:=xW) (ks:=S.tk) (vs:=S.tv) (k:=.str c) (z:=.dct [] []) (r_ b rfl) (wW b) rfl rfl f1;rw[e] at g;have s1:=mA (σ:=σ++[.fld (.dict ks vs)]) (n:=σ.length) (j:=0) (k:=.int t) (v:=.tup [.int u,.int v]) dO (qI (vs:=vs) f2 (Om l1 (Oj rfl)));rw[iO] at s1;have b':Bk (σ++[.dead]) n S:=b.app;have s2:=mA (σ:=σ++[.dead]) (n:=n) (j:=4) (k:=.str c) (v:=.dct (dG (.int t) ks) (dF (.int t) (.tup [.int u,.int v]) ks vs)) (jw (j:=2) b' rfl) (qI (vs:=S.tv) f1 (by have:=sh.t;exact OC this (Oj rfl)));rw[kK (j:=2) b' (S':={S with tk:=dG (.str c) S.tk,tv:=dF (.str c) (.dct (dG (.int t) ks) (dF (.int t) (.tup [.int u,.int v]) ks vs)) S.tk S.tv}) rfl] at s2;refine fm rfl rfl (ρ:=[qV n,sV c,iV t,iV u,iV v,none]) rfl (aa (aB (az (cl1 rfl) (bX hc))) (aa (aB (bW b rfl rfl (jO b sh hn hk))) (aa (bj (bT (bF (an rfl (sd b rfl) rfl rfl (iC hh)) (bF (mV (qw rfl rfl rfl rfl rfl rfl (vI ht.1) (vI ht.2))) (bF (mV (qw rfl rfl rfl rfl rfl rfl (vI hb.1) (vI hb.2))) rfl)))) rfl) (aa (aA (Ep g (Om (OQ l1) (Oj rfl)) (kU f2)) rfl)
  (aa (iL (bB rfl) rfl rfl s1) (rF rfl (rG rfl) (aa (iL rfl (r_ b' rfl) rfl s2) (aa (aB (gf (S:={S with tk:=dG (.str c) S.tk,tv:=dF (.str c) (.dct (dG (.int t) ks) (dF (.int t) (.tup [.int u,.int v]) ks vs)) S.tk S.tv}) (ed b'.lt) sh.d rfl (bB rfl))) rfl)))))))) ?_
 rw[List.set_set,Dg b.lt];exact uQ
theorem vY {a:Int} {b:Bool} (h:c_ a=b):CC (d+1) hd 12 [.d (.int a)] σ=some (.ok (.d (.bool b)),σ):=h ▸ pt
structure wD (S:St) (l:bQ):Prop where
 n:l.1∈S.names
 c:bo l.2.1=true
 a:c_ l.2.2=true
theorem DR {x:bQ} (b:Bk σ n S) (h:wD S x):CC (d+2) false 19 [.p n 0,.d (bC x)] σ=some (.ok (.d .none),σ):=
 fm rfl rfl (ρ:=[qV n,dV (bC x)]) rfl (aa (aB (bW b rfl rfl (dq b h.n))) (aa (aB (az rfl (bX h.c))) (aa (bj (gW (eY (az rfl (vY h.a)))) rfl) rfl))) (tk _)
theorem vH {v:D} {w:PV} {ls:List bQ} (b:Bk σ n S) (hs:bn σ v w=true) (h:∀ l∈ls,wD S l):∀ {m note o4:PV} {o:Option PV},∃ o',eU w v 4 (fun ρ=>(sC (aL (meth (ag 0) 19 (aj (ag 4) au))) sN).ex (KK (d+2) false) ρ) (ls.map bC) [qV n,some m,some note,some o4,o,none,none] σ=some (.next [qV n,some m,some note,some o4,o',none,none],σ):=by
 induction ls with
 |nil=>exact ⟨_,rfl⟩
 |cons l ls ih=>
  intro m note o4 o;obtain ⟨o',e⟩:=ih (fun x hx=>h x (.tail _ hx)) (m:=m) (note:=note) (o4:=o4) (o:=dV (bC l));exact ⟨o',bL (aa (aB (bW b rfl (cl1 rfl) (DR b (h l (.head _))))) rfl) hs e⟩
theorem w9 {note:List Nat} {ls:List bQ} (b:Bk σ n S) (sh:Sh S) (hn:aX t) (hk:cl S.ends<t) (ht:fJ note) (hl:2<=ls.length/\ls.length<=60) (h:∀ l∈ls,wD S l) (hb:CC (d+2) false 18 [.d (.lst (ls.map bC))] σ=some (.ok (.d (.bool true)),σ)):
  CC (d+3) false 20 [.p n 0,.d (.int t),.d (.str note),.d (.lst (ls.map bC))] σ=some (.ok (.d (.int (S.made.length+1))),σ.set n (bk (vb S t note ls))):=by
 obtain ⟨o',lp⟩:=vH (d:=d) (v:=.lst (ls.map bC)) (w:=.d (.lst (ls.map bC))) b rfl h (m:=.d (.int t)) (note:=.d (.str note)) (o4:=.d (.lst (ls.map bC))) (o:=none);have hlen:(ls.map bC).length=ls.length:=Oc ..;have ll:Ev (KK (d+2) false) (bi ba (aj (ag 3) au)) [qV n,iV t,sV note,dV (.lst (ls.map bC)),none,none,none] σ (.d (.int ls.length)):=by
  have e:=j1 (hd:=false) (σ:=σ) (x:=.d (.lst (ls.map bC))) rfl (by rw[hlen];exact bA (LL hl));rw[hlen] at e;exact b7 rfl e
 have it:items (.lst (ls.map bC))=some (ls.map bC):=if_pos (by rw[hlen];exact bA (LL hl));refine aS rfl rfl (ρ:=[qV n,iV t,sV note,dV (.lst (ls.map bC)),none,none,none]) rfl ?_ (sH (o':=bk {S with deeds:=S.deeds++[jy t note ls]}));refine aa (aB (bW b rfl rfl (jO b sh hn hk))) ?_;refine aa (aB (az rfl (jR ht))) ?_;refine aa (bj (bT (bF (an ll rfl rfl rfl (pi (Pc.mpr (OO.mpr hl.1)))) (bF (an ll rfl rfl rfl (t9 (Pc.mpr (OO.mpr hl.2)))) rfl))) rfl) ?_;refine aa (bP rfl (fZ it) lp) ?_;refine aa (bj (gW (eY (az (cl1 rfl) hb))) rfl) ?_;have kept:Ev (KK (d+2) false) (bi gP (aj (qP false (iE 6 (ag 3) il (bw (aj (sub (ag 6) (ai 0)) (aj (sub (ag 6) (ai 1)) (aj (sub (ag 6) (ai 2)) au)))))) au)) [qV n,iV t,sV note,dV (.lst (ls.map bC)),o',none,none] σ (.d (.tup (ls.map bC))):=by
  refine b7 (cl1 (j6 (dS rfl (fZ it) (gq bC bC ls [] (fun l hl=>bB rfl) (by rw[O2];exact MJ hl))))) ?_;show (aq ((ls.map bC).length<=dX) (D.tup (ls.map bC))).map _=_;rw[aR (by rw[hlen];exact bA (LL hl))];rfl
 refine aa (aA kept rfl) ?_;refine aa (aB (gf b sh.d rfl (bB rfl))) ?_;exact aP (aM (bW (S:={S with deeds:=S.deeds++[jy t note ls]}) (ed b.lt) rfl rfl (k7 (S:={S with deeds:=S.deeds++[jy t note ls]}) (ed b.lt) sh.m)))
end
structure uF (S:St) (rs:List Rw) (m:List (List Nat×D)):Prop where
 k:S.tk=m.map fun x=>.str x.1
 v:S.tv=m.map (·.2)
 d:∀ c,∃ l:List (Int×D),(fC c m).getD (.dct [] [])=zD l/\zP c rs l/\l.length<=rs.length
 ml:m.length<=rs.length
section
variable {d i:Nat} {hd:Bool} {S:St} {K:cP} {ρ:a9} {σ:av} {n t b:Int} {c:List Nat} {rs:List Rw} {m:List (List Nat×D)}
theorem Aa (T:uF S rs m) (sh:Sh S) (hc:bo c=true) (hn:aX n) (hk:cl S.ends<n) (hh:c≠S.home) (ht:1<=t/\t<=10^9) (hb:1<=b/\b<=10^9) (hr:rs.length<=900):
  ∃ ks vs m',uF (told S c n t b ks vs) (rs++[(c,n,t,b)]) m'/\∀ d σ i,Bk σ i S->CC (d+3) false 6 [.p i 0,.d (.str c),.d (.int n),.d (.int t),.d (.int b)] σ=some (.ok (.d .none),σ.set i (bk (told S c n t b ks vs))):=by
 obtain ⟨l,e,W,hl⟩:=T.d c;have e':(dJ (.str c) S.tk S.tv).getD (.dct [] [])= .dct (l.map fun x=>.int x.1) (l.map (·.2)):=by rw[T.k,T.v,jZ lF];exact e
 refine ⟨l.map fun x=>.int x.1,l.map (·.2),hZ c (zD (hZ n (C9 (c,n,t,b)) l)) m,⟨?_,?_,fun c'=> ?_,?_⟩,fun d σ i q=>C7 q sh hc hn hk hh ht hb e' (by rw[T.k];exact kW (·.1) m) (nZ (·.1) l) (by rw[Oc];exact OC hl (OC hr (Oj rfl)))⟩
 .show dG (.str c) S.tk=_;rw[T.k];exact u' lF c _ m
 .show dF (.str c) (.dct (dG (.int n) (l.map fun x=>.int x.1)) (dF (.int n) (.tup [.int t,.int b]) (l.map fun x=>.int x.1) (l.map (·.2)))) S.tk S.tv=_;rw[T.k,T.v,u' Bi n (.tup [.int t,.int b]) l,u_ Bi n (.tup [.int t,.int b]) l];exact u_ lF c _ m
 .rw[jY];by_cases q:c'=c
  .rw[if_pos q,q];exact ⟨_,rfl,zC (x:=(c,n,t,b)) W rfl,by rw[Of];exact Om (rp l) (Nat.add_le_add_right hl 1)⟩
  .rw[if_neg q];obtain ⟨l',e1,D1,h1⟩:=T.d c';exact ⟨l',e1,wl D1 fun z=>q z.symm,by rw[Of];exact Nat.le_add_right_of_le h1⟩
 .rw[Of];exact Om (rp m) (Nat.add_le_add_right T.ml 1)
theorem AA (B:Bk σ i S) (T:uF S rs m) (hc:bo c=true) (hn:aX n) (hh:c≠S.home) (hr:rs.length<=900):CC (d+2) false 14 [.p i 0,.d (.str c),.d (.int n)] σ=some (Fa (jB c n rs),σ):=by
 obtain ⟨l,e,W,hl⟩:=T.d c;have g:=wj (K:=KK (d+1) false) (ρ:=[qV i,sV c,iV n,none,none,none]) (σ:=σ) (o:=b8 (ag 0) 2) (x:=.p i 4) (a:=ag 1) (b:=xW) (ks:=S.tk) (vs:=S.tv) (k:=.str c) (z:=.dct [] []) (r_ B rfl) (wW B) rfl rfl (by rw[T.k];exact kW (·.1) m);rw[T.k,T.v,jZ lF,e] at g;have it:items (zD l)=some (l.map fun x=>.int x.1):=if_pos ⟨by rw[Oc];exact Om hl (Om hr (Oj rfl)),kU (nZ (c:=0) (·.1) l)⟩;have cm:(sP false 4 5 (ag 3) (gY (aO oV (ag 5) (ag 2))) (ag 5)).ex (KK (d+1) false) [qV i,sV c,iV n,dV (zD l),none,none] σ=some (.next [qV i,sV c,iV n,dV (zD l),dV (.lst (((l.filter fun x=>decide (x.1<=n)).map (·.1)).map .int)),none],σ):=by
  refine m_ (iW rfl (fZ it) (eG rfl (fun x:Int×D=>D.int x.1) (fun x=>.int x.1) (fun x=>decide (x.1<=n)) l [] (fun x _=>rfl) (fun x _ _=>rfl) (by rw[O2];exact NA hr hl)) rfl) ?_;rw[List.map_map];rfl
 have ll:∀ k:List Int,k.length<=1000->ba.g false [.d (.lst (k.map D.int))] σ=some (.ok (.d (.int k.length)),σ):=fun k hk=>by
  have:=j1 (hd:=false) (σ:=σ) (x:=.d (.lst (k.map D.int))) rfl (by rw[Oc];exact bA hk);rw[Oc] at this;exact this
 have kl:((l.filter fun x=>decide (x.1<=n)).map (·.1)).length<=1000:=by
  rw[Oc];have:=List.length_filter_le (fun x:Int×D=>decide (x.1<=n)) l;exact Nz hr hl this
 have mem:∀ k,k∈(l.filter fun x=>decide (x.1<=n)).map (·.1)<->k∈l.map (·.1)/\k<=n:=fun k=>by
  constructor
  .intro h;obtain ⟨x,hx,e⟩:=Ot.mp h;obtain ⟨h1,h2⟩:=List.mem_filter.mp hx;subst e;exact ⟨List.mem_map_of_mem h1,OT h2⟩
  .rintro ⟨h1,h2⟩;obtain ⟨x,hx,e⟩:=Ot.mp h1;subst e;exact Ot.mpr ⟨x,List.mem_filter.mpr ⟨hx,Os h2⟩,rfl⟩
 generalize (l.filter fun x=>decide (x.1<=n)).map (·.1)=kn at cm kl mem;have pre:∀ z,(sC (cI (aO dY (bi ba (aj (ag 4) au)) (ai 0)) (sC (cz 13 [110,111,32,114,97,116,101,32,102,111,114,32,116,104,105,115,32,100,97,121]) sN) sN) (sC (aT (sub (ag 3) (bi BE (aj (ag 4) au)))) sN)).ex (KK (d+1) false) [qV i,sV c,iV n,dV (zD l),dV (.lst (kn.map .int)),none] σ=z->x_.ex (KK (d+1) false) [qV i,sV c,iV n,none,none,none] σ=z:=fun z h=>
  aa (aB (az (cl1 rfl) (bX hc))) (aa (aB (az (cl1 rfl) (ci hn))) (aa (bj (an rfl (sd B rfl) rfl rfl (iC hh)) rfl) (aa (aA g rfl) (aa cm h))))
 cases q:jB c n rs with
 |none=>
  have:kn=[]:=List.eq_nil_iff_forall_not_mem.mpr fun k hk=>by
   have:=W.no n q k ((mem k).mp hk).1;have:=((mem k).mp hk).2;exact MI (by assumption) this
  subst this;exact oj rfl rfl rfl (pre _ rfl) (tk _)
 |some y=>
  have Y:=W.yes n y q;have hm:y.2.1∈kn:=(mem _).mpr ⟨Y.m,Y.le⟩;have hp:0<kn.length:=List.length_pos_of_mem hm;refine aS rfl rfl rfl (pre _ (aa (bj (an (b7 (cl1 rfl) (ll kn kl)) rfl rfl rfl (n7 (Int.natCast_ne_zero_iff_pos.mpr hp))) rfl) (aP (aM (bc rfl (b7 (cl1 rfl) (Gl hm fun a ha=>Y.mx a ((mem a).mp ha).1 ((mem a).mp ha).2)) rfl rfl ?_))))) (tk _);show (aq (i8 (.int y.2.1) (l.map fun x=>.int x.1)=true) ()).bind (fun _=>dJ (.int y.2.1) (l.map fun x=>.int x.1) (l.map (·.2)))=_;rw[aR (nZ (·.1) l),jZ Bi];exact Y.at_
theorem yD (B:Bk σ i S) (hc:bo S.home=true) (hn:aX n):CC (d+2) false 14 [.p i 0,.d (.str S.home),.d (.int n)] σ=some (.ok (.d (.tup [.int 1,.int 1])),σ):=
 aS rfl rfl rfl (aa (aB (az (cl1 rfl) (bX hc))) (aa (aB (az rfl (ci hn))) (aP (cK (an rfl (sd B rfl) rfl rfl (fk rfl)) rfl)))) (tk _)
theorem sU (B:Bk σ i S) (T:uF S rs m) (hh:bo S.home=true) (hc:bo c=true) (hn:aX n) (hr:rs.length<=900):CC (d+2) false 14 [.p i 0,.d (.str c),.d (.int n)] σ=some (Fa (fI S.home rs c n),σ):=by
 unfold fI;by_cases q:c=S.home
 .rw[if_pos q,q];exact yD B hh hn
 .rw[if_neg q];exact AA B T hc hn q hr
noncomputable def BY (S:St) (n:Int) (note gv one:List Nat) (a:Int) (tk' aV:List Nat) (g:Int):St:={S with made:=S.made++[⟨S.made.length+1,n,note,[(gv,one,-a),(cV,one,a),(cV,aV,-g),(tk',aV,g)],0⟩],deeds:=S.deeds++[mO n note gv one a tk' aV]}
theorem wp {a g t1 b1 t2 b2:Int} {note gv one tk' aV:List Nat} (B:Bk σ i S) (sh:Sh S) (hn:aX n) (hk:cl S.ends<n) (ht:fJ note) (h1:gv∈S.names) (h2:tk'∈S.names) (c1:bo one=true) (c2:bo aV=true) (ne:one≠aV) (ha:1<=a) (ha2:c_ a=true)
  (r1:CC (d+2) false 14 [.p i 0,.d (.str one),.d (.int n)] σ=some (.ok (.d (.tup [.int t1,.int b1])),σ)) (r2:CC (d+2) false 14 [.p i 0,.d (.str aV),.d (.int n)] σ=some (.ok (.d (.tup [.int t2,.int b2])),σ))
  (q1:1<=t1/\t1<=10^9) (q2:1<=b1/\b1<=10^9) (q3:1<=t2/\t2<=10^9) (q4:1<=b2/\b2<=10^9) (eg:HG a t1 b1 t2 b2=g) (hg:g≠0) (hg2:c_ g=true):
  CC (d+3) false 17 [.p i 0,.d (.int n),.d (.str note),.d (.str gv),.d (.str one),.d (.int a),.d (.str tk'),.d (.str aV)] σ=some (.ok (.d (.int (S.made.length+1))),σ.set i (bk (BY S n note gv one a tk' aV g))):=by
 have hc:=uu (d:=d+1) (hd:=false) (σ:=σ) (a:=a) q1 q2 q3 q4;rw[eg] at hc;refine aS rfl rfl (ρ:=[qV i,iV n,sV note,sV gv,sV one,iV a,sV tk',sV aV,none,none]) rfl ?_ (sH (o':=bk {S with deeds:=S.deeds++[mO n note gv one a tk' aV]}));refine aa (aB (bW B rfl (cl1 rfl) (jO B sh hn hk))) ?_;refine aa (aB (az rfl (jR ht))) ?_;refine aa (aB (bW B rfl rfl (dq B h1))) ?_;refine aa (aB (bW B rfl rfl (dq B h2))) ?_;refine aa (aB (az (cl1 rfl) (bX c1))) ?_;refine aa (aB (az (cl1 rfl) (bX c2))) ?_;refine aa (bj (an rfl rfl rfl rfl (iC ne)) rfl) ?_;refine aa (bj (bT (bF (an rfl rfl rfl rfl (pi (Pc.mpr ha))) (bF (gW (eY (az (cl1 rfl) (vY ha2)))) rfl))) rfl) ?_;refine aa (aA (az (c5 rfl (c5 (bW B rfl rfl r1) (cl1 (bW B rfl rfl r2)))) hc) rfl) ?_;refine aa (bj (tF hg rfl) rfl) ?_;refine aa (bj (gW (eY (az (cl1 rfl) (vY hg2)))) rfl) ?_;refine aa rfl ?_;refine aa (aB (gf B sh.d rfl (bB rfl))) ?_;exact aP (aM (bW (S:={S with deeds:=S.deeds++[mO n note gv one a tk' aV]}) (ed B.lt) rfl rfl (k7 (S:={S with deeds:=S.deeds++[mO n note gv one a tk' aV]}) (ls:=[(gv,one,-a),(cV,one,a),(cV,aV,-g),(tk',aV,g)]) (ed B.lt) sh.m)))
end
noncomputable def bO (c:List Nat) (ls:List bQ):Int:=((ls.filter fun l=>decide (l.2.1=c)).map fun l=>l.2.2).sum
theorem ur {c:List Nat} {ls:List bQ} {l:bQ}:bO c (ls++[l])=bO c ls+(if l.2.1=c then l.2.2 else 0):=by
 unfold bO;rw[List.filter_append,List.map_append,List.sum_append];by_cases q:l.2.1=c
 .rw[if_pos q,OJ (p:=fun l:bQ=>decide (l.2.1=c)) (Os q)];show _+(l.2.2+0)=_;rw[Int.add_zero]
 .rw[if_neg q,List.filter_cons_of_neg (p:=fun l:bQ=>decide (l.2.1=c)) (by rw[decide_eq_true_eq];exact q)];rfl
structure EX (ls:List bQ) (m:List (List Nat×D)):Prop where
 v:∀ c,(fC c m).getD (.int 0)= .int (bO c ls)
 l:m.length<=ls.length
section
variable {d i:Nat} {hd:Bool} {S:St} {K:cP} {ρ:a9} {σ:av} {ls:List bQ} {l:bQ} {m:List (List Nat×D)} {v:D} {o:Option PV}
theorem zh {α:Type} [DecidableEq α] {x:α×D}:∀ {m:List (α×D)},x∈m->∃ w,fC x.1 m=some w:=by
 intro m
 induction m with
 |nil=>
  intro h;exact absurd h Oy
 |cons y m ih=>
  intro h;show ∃ w,(if y.1=x.1 then some y.2 else fC x.1 m)=some w;by_cases q:y.1=x.1
  .exact ⟨_,if_pos q⟩
  .rcases Oe.mp h with z|z
   .exact absurd (by rw[z]) q
   .obtain ⟨w,e⟩:=ih z;exact ⟨w,(if_neg q).trans e⟩
theorem Ci {a0:Option PV} (T:EX ls m) (hl:ls.length<=1000):∃ m',EX (ls++[l]) m'/\(sC (qJ (ag 1) (sub (ag 2) (ai 1)) (aG bf (bm yT (ag 1) (aj (sub (ag 2) (ai 1)) (aj (ai 0) au))) (sub (ag 2) (ai 2)))) sN).ex K [a0,qV σ.length,dV (bC l),o] (σ++[.fld (.dict (m.map fun x=>.str x.1) (m.map (·.2)))])=some (.next [a0,qV σ.length,dV (bC l),o],σ++[.fld (.dict (m'.map fun x=>.str x.1) (m'.map (·.2)))]):=by
 have e1:Ev K (sub (ag 2) (ai 1)) [a0,qV σ.length,dV (bC l),o] (σ++[.fld (.dict (m.map fun x=>.str x.1) (m.map (·.2)))]) (.d (.str l.2.1)):=rfl;have g:=wj (K:=K) (ρ:=[a0,qV σ.length,dV (bC l),o]) (σ:=σ++[.fld (.dict (m.map fun x=>.str x.1) (m.map (·.2)))]) (o:=ag 1) (a:=sub (ag 2) (ai 1)) (b:=ai 0) (z:=.int 0) rfl (u9 rfl) e1 rfl (kW (·.1) m);rw[jZ lF,T.v] at g;have s1:=mA (σ:=σ++[.fld (.dict (m.map fun x=>.str x.1) (m.map (·.2)))]) (n:=σ.length) (j:=0) (k:=.str l.2.1) (v:=.int (bO l.2.1 ls+l.2.2)) dO (qI (vs:=m.map (·.2)) (kW (·.1) m) (by rw[Oc];have:=T.l;exact OC this (OC hl (Oj rfl))));rw[iO,u' lF l.2.1 (.int (bO l.2.1 ls+l.2.2)) m,u_ lF l.2.1 (.int (bO l.2.1 ls+l.2.2)) m] at s1;refine ⟨hZ l.2.1 (.int (bO l.2.1 ls+l.2.2)) m,⟨fun c=> ?_,?_⟩,aa (iL (aQ g rfl rfl rfl rfl) rfl e1 s1) rfl⟩
 .rw[jY,ur];by_cases q:c=l.2.1
  .rw[if_pos q,if_pos q.symm,q];rfl
  .rw[if_neg q,if_neg fun z=>q z.symm,Int.add_zero];exact T.v c
 .rw[Of];exact Om (rp m) (Nat.add_le_add_right T.l 1)
theorem Ck {a0:Option PV} {w:PV} (hs:∀ o,bn (σ++[o]) v w=true):∀ (ms ls:List bQ) (m:List (List Nat×D)) (o2:Option PV),EX ls m->ls.length+ms.length<=1000->∃ m' o2',EX (ls++ms) m'/\eU w v 2 (fun ρ=>(sC (qJ (ag 1) (sub (ag 2) (ai 1)) (aG bf (bm yT (ag 1) (aj (sub (ag 2) (ai 1)) (aj (ai 0) au))) (sub (ag 2) (ai 2)))) sN).ex K ρ) (ms.map bC) [a0,qV σ.length,o2,none] (σ++[.fld (.dict (m.map fun x=>.str x.1) (m.map (·.2)))])=some (.next [a0,qV σ.length,o2',none],σ++[.fld (.dict (m'.map fun x=>.str x.1) (m'.map (·.2)))]):=by
 intro ms
 induction ms with
 |nil=>
  intro ls m o2 T _;exact ⟨m,o2,by rw[List.append_nil];exact T,rfl⟩
 |cons l ms ih=>
  intro ls m o2 T h;rw[Ok] at h;obtain ⟨m1,T1,e1⟩:=Ci (K:=K) (σ:=σ) (a0:=a0) (o:=none) (l:=l) T (Nat.le_of_add_right_le h);obtain ⟨m2,o2',T2,e2⟩:=ih (ls++[l]) m1 (dV (bC l)) T1 (by rw[Of,On];exact N9 h);exact ⟨m2,o2',by rw[List.append_cons];exact T2,bL e1 (hs _) e2⟩
theorem Cj (h:∀ c,bO c ls=0) (hl:ls.length<=900):CC (d+1) false 18 [.d (.lst (ls.map bC))] σ=some (.ok (.d (.bool true)),σ):=by
 obtain ⟨m,o2,T,lp⟩:=Ck (K:=KK d false) (σ:=σ) (v:=.lst (ls.map bC)) (w:=.d (.lst (ls.map bC))) (a0:=dV (.lst (ls.map bC))) (fun _=>rfl) ls [] [] none ⟨fun c=>rfl,Oo _⟩ (by rw[O2];exact MH hl);rw[List.nil_append] at T;refine aS rfl rfl (ρ:=[dV (.lst (ls.map bC)),none,none,none]) rfl ?_ (HL σ [.dead]);refine aa rfl ?_;refine aa (bP rfl (fZ (if_pos (by rw[Oc];exact bA (Ny hl)))) lp) ?_;refine rF rfl (rG rfl) (aP (aM ?_));have e:=Fq (σ:=σ++[.dead]) (fun _:List Nat×D=>true) m;rw[show (m.all fun _=>true)=true from List.all_eq_true.mpr fun _ _=>rfl] at e;refine b7 (cl1 (j6 (dS rfl (fZ (if_pos ⟨by rw[Oc];have:=T.l;exact Om this (Om hl (Oj rfl)),kU (kW (c:=[]) (·.1) m)⟩)) (gq (fun x:List Nat×D=>.str x.1) (fun _=>.bool true) m [] (fun x hx=> ?_) (by rw[O2];have:=T.l;exact NA hl this))))) e;obtain ⟨w,hw⟩:=zh hx;have tv:=T.v x.1;rw[hw,h] at tv;refine kZ (bc rfl rfl rfl rfl (z:=.int 0) ?_) rfl rfl rfl (i9 rfl);show (aq (i8 (.str x.1) (m.map fun x=>.str x.1)=true) ()).bind (fun _=>dJ (.str x.1) (m.map fun x=>.str x.1) (m.map (·.2)))=_;rw[aR (kW (·.1) m),Od,jZ lF,hw];exact congrArg some tv
theorem A8 {n:Int}:∀ g:List Int,(dJ (.int n) (g.map .int) (g.map fun _=>.bool true)).isSome=decide (n∈g):=by
 intro g
 induction g with
 |nil=>
  exact rfl
 |cons a g ih=>
  show (if dK (.int a) (.int n)=true then some (D.bool true) else dJ (.int n) (g.map .int) (g.map fun _=>.bool true)).isSome=_;rw[Bi];by_cases q:a=n
  .rw[if_pos (Os q),Os (by rw[q];exact .head _)];rfl
  .rw[if_neg (by rw[O3 q];exact OB),ih,Bool.eq_iff_iff,decide_eq_true_eq,decide_eq_true_eq,Oe];exact ⟨.inr,fun h=>h.resolve_left fun e=>q e.symm⟩
theorem Dr {n:Int}:∀ g:List Int,n∉g->dG (.int n) (g.map .int)=(g++[n]).map .int/\dF (.int n) (.bool true) (g.map .int) (g.map fun _=>.bool true)=(g++[n]).map fun _=>.bool true:=by
 intro g
 induction g with
 |nil=>
  intro _;exact ⟨rfl,rfl⟩
 |cons a g ih=>
  intro h;have q:¬dK (.int a) (.int n)=true:=by rw[Bi,decide_eq_true_eq];exact fun e=>h (by rw[e];exact .head _)
  obtain ⟨h1,h2⟩:=ih fun z=>h (.tail _ z);refine ⟨?_,?_⟩
  .show (if dK (.int a) (.int n)=true then _ else D.int a::dG (.int n) (g.map .int))=_;rw[if_neg q,h1];rfl
  .show (if dK (.int a) (.int n)=true then _ else D.bool true::dF (.int n) (.bool true) (g.map .int) (g.map fun _=>.bool true))=_;rw[if_neg q,h2];rfl
theorem D8 {e a:CE} {t:Int} (B:Bk σ i S) (h0:Ev K e ρ σ (.p i 0)) (h:Ev K a ρ σ (.d (.int t))):Ts K (aO JP a (b8 e 4)) ρ σ (decide (t∈S.gone)):=by
 refine an h (yb B h0) rfl (Dq B) ?_;show aq (i8 (.int t) (S.gone.map .int)=true) _=_;rw[aR (nZ (fun x=>x) _),A8]
noncomputable def oA (n day:Int):D:=.tup [.str [98,97,99,107],.int n,.int day]
noncomputable def eM (l:bQ):bQ:=(l.1,l.2.1,-l.2.2)
noncomputable def Cl (S:St) (k:Nat) (e:eI) (t:Int):St:={S with made:=S.made++[⟨S.made.length+1,t,e.note,e.lines.map eM,k+1⟩],gone:=S.gone++[(k:Int)+1],deeds:=S.deeds++[oA (k+1) t]}
theorem ut {k:Nat} {e:eI} {t:Int} (B:Bk σ i S) (sh:Sh S) (h:S.made[k]? =some e) (h2:e.back=0) (hl:e.lines.length<=1000) (hg:((k:Int)+1)∉S.gone) (hn:aX t) (hk:cl S.ends<t):
  CC (d+3) false 9 [.p i 0,.d (.int (k+1)),.d (.int t)] σ=some (.ok (.d (.int (S.made.length+1))),σ.set i (bk (Cl S k e t))):=by
 have g:=D8 (K:=KK (d+2) false) (ρ:=[qV i,iV (k+1),iV t,dV (cq e),none,none]) (e:=ag 0) (a:=ag 1) B rfl rfl;rw[O3 hg] at g;have lines:Ev (KK (d+2) false) (bi gP (aj (qP false (iE 5 (sub (ag 3) (ai 3)) il (bw (aj (sub (ag 5) (ai 0)) (aj (sub (ag 5) (ai 1)) (aj (neg (sub (ag 5) (ai 2))) au)))))) au)) [qV i,iV (k+1),iV t,dV (cq e),none,none] σ (.d (.tup ((e.lines.map eM).map bC))):=by
  rw[List.map_map];refine b7 (cl1 (j6 (dS rfl rfl (gq bC (bC ∘ eM) e.lines [] (fun l hl=>bB rfl) (by rw[O2];exact KQ hl))))) ?_;show (aq ((e.lines.map (bC ∘ eM)).length<=dX) (D.tup (e.lines.map (bC ∘ eM)))).map _=_;rw[aR (by rw[Oc];exact bA hl)];rfl
 obtain ⟨p1,p2⟩:=Dr S.gone hg;have s1:=mA (σ:=σ) (n:=i) (j:=6) (k:=.int (k+1)) (v:=.bool true) (jw (j:=4) B rfl) (qI (nZ (fun x=>x) S.gone) (by rw[Oc];have:=sh.g;exact OC this (Oj rfl)));rw[p1,p2,kK (j:=4) B (S':={S with gone:=S.gone++[(k:Int)+1]}) rfl] at s1;have B1:Bk (σ.set i (bk {S with gone:=S.gone++[(k:Int)+1]})) i {S with gone:=S.gone++[(k:Int)+1]}:=ed B.lt;refine aS rfl rfl (ρ:=[qV i,iV (k+1),iV t,none,none,none]) rfl ?_ (σ':=((σ.set i (bk {S with gone:=S.gone++[(k:Int)+1]})).set i (bk {S with gone:=S.gone++[(k:Int)+1],deeds:=S.deeds++[oA (k+1) t]})).set i (bk (Cl S k e t))) (by rw[List.set_set];exact sH);refine aa (aA (bW B rfl rfl (zB B sh h)) rfl) ?_;refine aa (bj (bT (bF (an rfl rfl rfl rfl (s9 h2)) (bF g rfl))) rfl) ?_;refine aa (aB (bW B rfl rfl (jO B sh hn hk))) ?_;refine aa (aA lines rfl) ?_;refine aa (iL rfl (yb B rfl) rfl s1) ?_;refine aa (aB (gf B1 sh.d rfl (bB rfl))) ?_;exact aP (aM (bW (S:={S with gone:=S.gone++[(k:Int)+1],deeds:=S.deeds++[oA (k+1) t]}) (ed B1.lt) rfl rfl (k7 (S:={S with gone:=S.gone++[(k:Int)+1],deeds:=S.deeds++[oA (k+1) t]}) (ls:=e.lines.map eM) (ed B1.lt) sh.m)))
end
noncomputable def iZ:List Nat:=Pw
def M_ (t:List Nat):Prop:=∀ k y,t.set k y≠iZ
theorem wf {t:List Nat} (h:M_ t):t≠iZ:=fun e=>h t.length 0 (by rw[List.set_eq_of_length_le (Oo _)];exact e)
noncomputable def Cr (q s:Int) (i:Nat):Nat:=d7.getD ((q+s*(i:Int)).fmod 36).toNat 0
theorem li {q s:Int} {i v c:Nat} (hv:∀ j,j<36->d7.getD j 0=c->j=v) (h:Cr q s i=c):(q+s*(i:Int)) % 36=v:=by
 have r:=aF (a:=q+s*(i:Int)) (b:=36) (by decide);have e:=hv _ ((Int.toNat_lt r.1).mpr r.2) h;rw[Int.fmod_eq_emod_of_nonneg _ (by decide)] at e r;exact MG e
theorem Hq {x m:Nat} {q s:Int}:M_ (x::(List.range m).map (Cr q s)):=by
 intro k y h;have hl:=congrArg List.length h;rw[OE,Ok,Oc,List.length_range] at hl;have hm:m=7:=Nat.succ.inj hl;subst hm;have g:∀ i c,i<7->iZ[i+1]? =some c->k≠i+1->Cr q s i=c:=fun i c hi hc hk=>by
  rw[<-h,OI hk,List.getElem?_cons_succ,Ou,List.getElem?_range hi] at hc;exact O0 hc
 by_cases z:k<=3
 .have e1:=li (v:=13) (by decide) (g 3 110 (by decide) rfl (Nat.ne_of_lt (OC z (Oj rfl))));have e2:=li (v:=6) (by decide) (g 4 103 (by decide) rfl (Nat.ne_of_lt (OC z (Oj rfl))));have e3:=li (v:=4) (by decide) (g 5 101 (by decide) rfl (Nat.ne_of_lt (OC z (Oj rfl))));exact ME e1 e3
 .have e1:=li (v:=19) (by decide) (g 0 116 (by decide) rfl (MD z));have e2:=li (v:=17) (by decide) (g 1 114 (by decide) rfl (MC z));have e3:=li (v:=0) (by decide) (g 2 97 (by decide) rfl (MB z));exact MA e1 e3
structure Hw (T:List (List Nat)):Prop where
 nd:T.Nodup
 ne:cV∉T
 nm:∀ x∈T,pv x
 st:iZ∉T
noncomputable def st0 (h:List Nat):St:=⟨h,[cV],[],[],[],[],[],[]⟩
theorem xM {v:PV} {x:D} {i:Nat} {b:a9->av->Option (Out×av)} (Pr:Nat->a9->av->Prop):∀ (n k:Nat) (ρ:a9) (σ:av),Pr k ρ σ->(∀ j ρ σ,j<k+n->Pr j ρ σ->∃ ρ' σ',b (ρ.set i (iV (j:Nat))) σ=some (.next ρ',σ')/\bn σ' x v=true/\Pr (j+1) ρ' σ')->∃ ρ' σ',eU v x i b ((List.range' k n).map fun (j:Nat)=>.int j) ρ σ=some (.next ρ',σ')/\Pr (k+n) ρ' σ':=by
 intro n
 induction n with
 |zero=>
  intro k ρ σ h _;exact ⟨ρ,σ,rfl,h⟩
 |succ n ih=>
  intro k ρ σ h st;obtain ⟨ρ1,σ1,e1,s1,p1⟩:=st k ρ σ (by omega) h;obtain ⟨ρ2,σ2,e2,p2⟩:=ih (k+1) ρ1 σ1 p1 fun j ρ σ hj=>st j ρ σ (Nx hj);exact ⟨ρ2,σ2,bL e1 s1 e2,by rw[show k+(n+1)=k+1+n by exact LK];exact p2⟩
section
variable {d:Nat} {hd:Bool} {K:cP} {ρ ρ':a9} {σ σ':av} {n:Int}
theorem nk:∃ t,pv t/\M_ t/\CC (d+1) false 43 [.d (.int n)] σ=some (.ok (.d (.str t)),σ):=by
 have g0:=ig (l:=d7) (a:=n) (k:=26) (by decide) (by decide);have q:=aF (a:=n.fdiv 26) (b:=12) (by decide);have e:(n.fdiv 26).fmod 12=((((n.fdiv 26).fmod 12).toNat:Nat):Int):=by exact (OR q.1).symm
 generalize hk:((n.fdiv 26).fmod 12).toNat=k at e;have m0:=dP (K:=KK d false) (ρ:=[iV n,sV d7,sV [d7.getD (n.fmod 26).toNat 0],iV (n.fdiv 26),none]) (σ:=σ) (e:=ag 3) (a:=n.fdiv 26) (k:=12) rfl (by decide) (by decide);rw[e] at m0;generalize hq:(n.fdiv 26).fdiv 12=a;generalize hs:(n.fdiv 26).fdiv 432=b;obtain ⟨ρ2,s2,lp,y4,rfl,rfl⟩:=xM (v:=.d (.rng 0 k 1)) (x:=.rng 0 k 1) (i:=4) (b:=fun ρ=>(sC (aK 2 (aG bf (ag 2) (sub (ag 1) (aG aY (aG bf (aG bh (ag 3) (ai 12)) (aG ft (aG bh (ag 3) (ai 432)) (ag 4))) (ai 36))))) sN).ex (KK d false) ρ)
  (fun j ρ s=>∃ x4,ρ=[iV n,sV d7,sV (d7.getD (n.fmod 26).toNat 0::(List.range j).map (Cr a b)),iV (n.fdiv 26),x4]/\s=σ) k 0 [iV n,sV d7,sV [d7.getD (n.fmod 26).toNat 0],iV (n.fdiv 26),none] σ ⟨none,rfl,rfl⟩ fun j ρ s hj ⟨x4,h1,h2⟩=>by
   subst h1 h2;have ct:=xJ (a:=d7.getD (n.fmod 26).toNat 0::(List.range j).map (Cr a b)) (b:=[Cr a b j]) (by rw[Ok,Oc,List.length_range,On];exact bA (Mz q e hj));rw[List.cons_append,show (List.range j).map (Cr a b)++[Cr a b j]=(List.range (j+1)).map (Cr a b) by rw[List.range_succ,List.map_append];rfl] at ct;have ad:Ev (KK d false) (aG bf (aG bh (ag 3) (ai 12)) (aG ft (aG bh (ag 3) (ai 432)) (ag 4))) [iV n,sV d7,sV (d7.getD (n.fmod 26).toNat 0::(List.range j).map (Cr a b)),iV (n.fdiv 26),iV (j:Nat)] s (.d (.int (a+b*(j:Int)))):=by
    rw[<-hq,<-hs];exact aQ (dz rfl) (aQ rfl rfl rfl rfl (iy (eT (My q e hj)))) rfl rfl rfl
   exact ⟨_,_,aa (aA (aQ rfl (gR (l:=d7) rfl ad (by decide) (by decide) (by decide)) rfl rfl ct) rfl) rfl,rfl,⟨_,rfl,rfl⟩⟩
 rw[O4] at lp;rw[<-List.range_eq_range'] at lp;refine ⟨_,⟨_,(List.range k).map (Cr a b),rfl,?_,g0,fun y hy=> ?_⟩,Hq,?_⟩
 .rw[Oc,List.length_range];exact Mx q e
 .obtain ⟨i,_,rfl⟩:=Ot.mp hy;exact List.mem_of_mem_take (ig (l:=d7) (a:=a+b*(i:Int)) (k:=36) (by decide) (by decide))
 .refine aS rfl rfl (ρ:=[iV n,none,none,none,none]) rfl ?_ (tk _);refine aa rfl ?_;refine aa (aA (gR (l:=d7) rfl rfl (by decide) (by decide) (by decide)) rfl) ?_;refine aa rfl ?_;refine aa (bP (rQ m0 (Nw q e)) (fZ (iT (Nw q e))) lp) ?_;exact rfl
end
structure Pl where
 names:List (List Nat)
 first:Int
 curs:List (List Nat)
 ents:List eI
 told:List Rw
 ends:List Int
 backs:List Int
 deeds:List D
 most:Int
 ex:List cb
noncomputable def w_ (p:Pl):List cb:=.list (p.names.map .str):: .d (.int p.first):: .d (.lst (p.curs.map .str)):: .list (p.ents.map cq):: .list (p.told.map sQ):: .list (p.ends.map .int):: .list (p.backs.map .int):: .list p.deeds:: .d (.int p.most)::p.ex
noncomputable def pk (p:Pl):PO:=.rcd false (w_ p)
abbrev Rk (σ:av) (m:Nat) (p:Pl):Prop:=σ[m]? =some (pk p)
section
variable {d m n i:Nat} {hd:Bool} {p p':Pl} {S S':St} {K:cP} {ρ:a9} {σ:av} {e a:CE} {f:cb} {l:av} {s:List Nat}
theorem Rk.lt (h:Rk σ m p):m<σ.length:=(Og.mp h).1
theorem Rk.app (h:Rk σ m p):Rk (σ++l) m p:=by
 show (σ++l)[m]? =_;rw[OX h.lt];exact h
theorem iB {k:Nat} (h:Rk σ m p) (he:Ev K e ρ σ (.p m 0)) (hf:(w_ p)[k]? =some f):Ev K (key e k s) ρ σ (zv m k f):=by
 refine aC he (aC (a:=.d (.str s)) (σ':=σ) rfl ?_);show (aq (jc (.d (.str s))=some s) ()).bind (fun _=>oE false k (.p m 0) σ)=_;rw[aR (show jc (.d (.str s))=some s from rfl),Od];show (cA false σ m).bind _=_;unfold cA;rw[h];show ((w_ p)[k]?).map _=_;rw[hf];rfl
theorem jv {j:Nat} (h:Rk σ m p) (hf:(w_ p)[j]? =some f):bU σ m (j+2)=some f:=by
 unfold bU;rw[h];exact hf
theorem sS {j:Nat} {x:D} (h:Rk σ m p) (hf:(w_ p)[j]? =some f) (hx:f.rd=some x):rd σ (.p m (j+2))=some x:=by
 show (bU σ m (j+2)).bind _=_;rw[jv h hf];exact hx
theorem kJ {j:Nat} (h:Rk σ m p) (hf:(w_ p).set j f=w_ p'):d8 σ m (j+2) f=σ.set m (pk p'):=by
 unfold d8;rw[h];show σ.set m (.rcd false ((w_ p).set (j+2 - 2) f))=_;rw[Nat.add_sub_cancel,hf];rfl
theorem c8 (h:Rk σ m p) (he:Ev K e ρ σ (.p m 0)):Ev K (key e 0 s) ρ σ (.p m 2):=iB (f:=.list (p.names.map .str)) h he rfl
theorem ju (h:Rk σ m p) (he:Ev K e ρ σ (.p m 0)):Ev K (key e 2 s) ρ σ (.d (.lst (p.curs.map .str))):=iB (f:=.d (.lst (p.curs.map .str))) h he rfl
theorem jt (h:Rk σ m p) (he:Ev K e ρ σ (.p m 0)):Ev K (key e 3 s) ρ σ (.p m 5):=iB (f:=.list (p.ents.map cq)) h he rfl
theorem Bm (h:Rk σ m p) (he:Ev K e ρ σ (.p m 0)):Ev K (key e 4 s) ρ σ (.p m 6):=iB (f:=.list (p.told.map sQ)) h he rfl
theorem vN (h:Rk σ m p) (he:Ev K e ρ σ (.p m 0)):Ev K (key e 5 s) ρ σ (.p m 7):=iB (f:=.list (p.ends.map .int)) h he rfl
theorem mK (h:Rk σ m p) (he:Ev K e ρ σ (.p m 0)):Ev K (key e 6 s) ρ σ (.p m 8):=iB (f:=.list (p.backs.map .int)) h he rfl
theorem DY (h:Rk σ m p) (he:Ev K e ρ σ (.p m 0)):Ev K (key e 7 s) ρ σ (.p m 9):=iB (f:=.list p.deeds) h he rfl
theorem vM (h:Rk σ m p) (he:Ev K e ρ σ (.p m 0)):Ev K (key e 8 s) ρ σ (.d (.int p.most)):=iB (f:=.d (.int p.most)) h he rfl
theorem c7 (h:Rk σ m p):rd σ (.p m 2)=some (.lst (p.names.map .str)):=sS (f:=.list (p.names.map .str)) h rfl rfl
theorem jp (h:Rk σ m p):rd σ (.p m 5)=some (.lst (p.ents.map cq)):=sS (f:=.list (p.ents.map cq)) h rfl rfl
theorem AC (h:Rk σ m p):rd σ (.p m 6)=some (.lst (p.told.map sQ)):=sS (f:=.list (p.told.map sQ)) h rfl rfl
theorem AD (h:Rk σ m p):rd σ (.p m 7)=some (.lst (p.ends.map .int)):=sS (f:=.list (p.ends.map .int)) h rfl rfl
theorem qO (h:Rk σ m p):rd σ (.p m 8)=some (.lst (p.backs.map .int)):=sS (f:=.list (p.backs.map .int)) h rfl rfl
theorem Dx {t:List Nat} (h:Rk σ m p) (hl:p.names.length<=1000) (he:Ev K e ρ σ (.p m 0)) (ha:Ev K a ρ σ (.d (.str t))):(bm aN (key e 0 s) (aj a au)).ev K ρ σ=some (.ok (.d .none),σ.set m (pk {p with names:=p.names++[t]})):=by
 have q:=b_ (c8 (s:=s) h he) ha (jv (j:=0) h rfl) (by rw[Oc];exact df hl);rw[kJ h (p':={p with names:=p.names++[t]}) (by simp only [w_,List.map_append];rfl)] at q;exact q
theorem F4 {t:eI} (h:Rk σ m p) (hl:p.ents.length<=1000) (he:Ev K e ρ σ (.p m 0)) (ha:Ev K a ρ σ (.d (cq t))):(bm aN (key e 3 s) (aj a au)).ev K ρ σ=some (.ok (.d .none),σ.set m (pk {p with ents:=p.ents++[t]})):=by
 have q:=b_ (jt (s:=s) h he) ha (jv (j:=3) h rfl) (by rw[Oc];exact df hl);rw[kJ h (p':={p with ents:=p.ents++[t]}) (by simp only [w_,List.map_append];rfl)] at q;exact q
theorem F3 {t:Rw} (h:Rk σ m p) (hl:p.told.length<=1000) (he:Ev K e ρ σ (.p m 0)) (ha:Ev K a ρ σ (.d (sQ t))):(bm aN (key e 4 s) (aj a au)).ev K ρ σ=some (.ok (.d .none),σ.set m (pk {p with told:=p.told++[t]})):=by
 have q:=b_ (Bm (s:=s) h he) ha (jv (j:=4) h rfl) (by rw[Oc];exact df hl);rw[kJ h (p':={p with told:=p.told++[t]}) (by simp only [w_,List.map_append];rfl)] at q;exact q
theorem F5 {t:Int} (h:Rk σ m p) (hl:p.ends.length<=1000) (he:Ev K e ρ σ (.p m 0)) (ha:Ev K a ρ σ (.d (.int t))):(bm aN (key e 5 s) (aj a au)).ev K ρ σ=some (.ok (.d .none),σ.set m (pk {p with ends:=p.ends++[t]})):=by
 have q:=b_ (vN (s:=s) h he) ha (jv (j:=5) h rfl) (by rw[Oc];exact df hl);rw[kJ h (p':={p with ends:=p.ends++[t]}) (by simp only [w_,List.map_append];rfl)] at q;exact q
theorem Dy {t:Int} (h:Rk σ m p) (hl:p.backs.length<=1000) (he:Ev K e ρ σ (.p m 0)) (ha:Ev K a ρ σ (.d (.int t))):(bm aN (key e 6 s) (aj a au)).ev K ρ σ=some (.ok (.d .none),σ.set m (pk {p with backs:=p.backs++[t]})):=by
 have q:=b_ (mK (s:=s) h he) ha (jv (j:=6) h rfl) (by rw[Oc];exact df hl);rw[kJ h (p':={p with backs:=p.backs++[t]}) (by simp only [w_,List.map_append];rfl)] at q;exact q
theorem iR {t:D} (h:Rk σ m p) (hl:p.deeds.length<=1000) (he:Ev K e ρ σ (.p m 0)) (ha:Ev K a ρ σ (.d t)):(bm aN (key e 7 s) (aj a au)).ev K ρ σ=some (.ok (.d .none),σ.set m (pk {p with deeds:=p.deeds++[t]})):=by
 have q:=b_ (DY (s:=s) h he) ha (jv (j:=7) h rfl) (df hl);rw[kJ h (p':={p with deeds:=p.deeds++[t]}) rfl] at q;exact q
theorem ii (h:m<σ.length):Rk (σ.set m (pk p)) m p:=List.getElem?_set_self h
structure gt (σ:av) (m n:Nat) (p:Pl) (S:St):Prop where
 r:Rk σ m p
 b:Bk σ n S
 ne:m≠n
noncomputable def bb (σ:av) (m n:Nat) (p:Pl) (S:St):av:=(σ.set m (pk p)).set n (bk S)
theorem gt.to (h:gt σ m n p S) (p':Pl) (S':St):gt (Mine.Internal.bb σ m n p' S') m n p' S':=by
 refine ⟨?_,?_,h.ne⟩
 .show ((σ.set m (pk p')).set n (bk S'))[m]? =_;rw[OI (Ne.symm h.ne)];exact ii h.r.lt
 .exact ed (by rw[OE];exact h.b.lt)
theorem Fp {p1 p2:Pl} {S1 S2:St} (ne:m≠n):bb (bb σ m n p1 S1) m n p2 S2=bb σ m n p2 S2:=by
 unfold bb;rw[List.set_comm _ _ (Ne.symm ne),List.set_set,List.set_set]
theorem gt.same (h:gt σ m n p S):bb σ m n p S=σ:=by
 unfold bb;obtain ⟨hl,e⟩:=Og.mp h.r;have:σ.set m (pk p)=σ:=by rw[<-e];exact List.set_getElem_self hl
 rw[this];exact h.b.same
theorem Hk:(bb σ m n p S).length=σ.length:=by unfold bb;rw[OE,OE]
theorem jJ:(bb σ m n p S).take σ.length=bb σ m n p S:=by
 have:=List.take_length (l:=bb σ m n p S);rw[Hk] at this;exact this
theorem EL (ne:m≠n) (p':Pl):(bb σ m n p S).set m (pk p')=bb σ m n p' S:=by unfold bb;rw[List.set_comm _ _ (Ne.symm ne),List.set_set]
theorem ED {l:List Int}:cB (-1) (l.length+1)=some l.length/\((D.int (-1))::l.map D.int)[l.length]? =some (.int (cl l)):=by
 constructor
 .unfold cB;rw[if_neg (by decide),if_pos (Mw)];congr 1;exact Mu
 .unfold cl;cases l with
  |nil=>rfl
  |cons a l=>
   rw[if_neg (by rw[Ok];exact KO),Ok,List.getElem?_cons_succ,Ou,Nat.add_sub_cancel,Ow,Oh (by rw[Ok];exact Mt)];rfl
theorem fD (h:Rk σ m p) (hl:p.ends.length<=900):CC (d+1) hd 70 [.p m 0] σ=some (.ok (.d (.int (cl p.ends))),σ):=by
 refine aS rfl rfl (ρ:=[qV m]) rfl (aP (aM (bc (aQ (dQ (cl1 (n6 rfl))) (vN h rfl) rfl (AD h) (Bx (by rw[Oc];show 1+_<=_;exact Om (OS hl 1) (Oj rfl)))) (n6 rfl) rfl rfl ?_))) (tk _);have q:=ED (l:=p.ends);have e:([D.int (-1)]++p.ends.map D.int).length=p.ends.length+1:=by rw[Of,Oc];show 1+_=_;exact Ms
 rw[v7,aR (by decide),Od,e,q.1,Od];exact q.2
theorem j7 {c:Int} (h:Rk σ m p) (hl:p.ends.length<=900) (h1: -1<=cl p.ends) (h2:cl p.ends<99999):∃ t,aX t/\cl p.ends<t/\∀ d σ,Rk σ m p->CC (d+2) false 71 [.p m 0,.d (.int c)] σ=some (.ok (.d (.int t)),σ):=by
 have q1:=aF (a:=c.fdiv 3) (b:=99999 - cl p.ends) (Int.sub_pos_of_lt h2);have q2:=aF (a:=c.fdiv 3) (b:=7) (by decide);by_cases z:c.fmod 3=0
 .exact ⟨cl p.ends+1+(c.fdiv 3).fmod (99999 - cl p.ends),⟨by exact Int.add_nonneg (Int.add_le_add_right h1 1) q1.1,Mr q1⟩,Mq q1,fun d σ h=>aS rfl rfl (ρ:=[qV m,iV c,none]) rfl (aa (aA (az (cl1 rfl) (fD h hl)) rfl) (aP (cK (an (dP rfl) rfl rfl rfl (i9 z)) (aP (aM (fp (fp rfl rfl) (aQ (dz rfl) rfl rfl rfl (eO (Int.sub_pos_of_lt h2) (OM (Int.sub_le_sub_left h1 99999) (by decide)))))))))) (tk _)⟩
 .exact ⟨min 99999 (cl p.ends+1+(c.fdiv 3).fmod 7),⟨by exact Int.le_min.mpr ⟨by decide,Int.add_nonneg (Int.add_le_add_right h1 1) q2.1⟩,Mp⟩,Mo h2 q2,fun d σ h=>aS rfl rfl (ρ:=[qV m,iV c,none]) rfl (aa (aA (az (cl1 rfl) (fD h hl)) rfl) (aa (bj (an (dP rfl) rfl rfl rfl (n7 z)) rfl) rfl)) (tk _)⟩
theorem jD {c:Int}:∃ t,(1<=t/\t<=4*10^29)/\∀ d hd σ,CC (d+1) hd 76 [.d (.int c)] σ=some (.ok (.d (.int t)),σ):=by
 have q1:=aF (a:=c.fdiv 4) (b:=4*10^29) (by decide);have q2:=aF (a:=c.fdiv 4) (b:=500) (by decide);by_cases z:c.fmod 4=0
 .exact ⟨1+(c.fdiv 4).fmod (4*10^29),⟨by exact O6 q1.1,Mm q1⟩,fun d hd σ=>aS rfl rfl rfl (aP (aM (fp rfl (aQ (dz rfl) (rS (an (dP rfl) rfl rfl rfl (i9 z)) rfl) rfl rfl rfl)))) (tk _)⟩
 .exact ⟨1+(c.fdiv 4).fmod 500,⟨by exact O6 q2.1,by exact OL (Int.add_le_add_left (O8 q2.2) 1) (by decide)⟩,fun d hd σ=>aS rfl rfl rfl (aP (aM (fp rfl (aQ (dz rfl) (rT (an (dP rfl) rfl rfl rfl (n7 z)) rfl) rfl rfl rfl)))) (tk _)⟩
theorem nM (h:Rk σ m p) (hl:p.ents.length<=1000) (he:Ev K e ρ σ (.p m 0)):Ev K (bi ba (aj (key e 3 s) au)) ρ σ (.d (.int p.ents.length)):=by
 have q:=fM (jt (s:=s) h he) (jp h) (by rw[Oc];exact hl);rw[Oc] at q;exact q
theorem mB {t b:Int} {note:List Nat} {ls:List bQ} (h:Rk σ m p) (hl:p.ents.length<=1000) (hs:ls.length<=1000):CC (d+1) false 73 [.p m 0,.d (.int t),.d (.str note),.d (.lst (ls.map bC)),.d (.int b)] σ=some (.ok (.d (.int (p.ents.length+1))),σ.set m (pk {p with ents:=p.ents++[⟨p.ents.length+1,t,note,ls,b⟩]})):=by
 have tp:gP.g false [.d (.lst (ls.map bC))] σ=some (.ok (.d (.tup (ls.map bC))),σ):=by
  show (aq ((ls.map bC).length<=dX) (D.tup (ls.map bC))).map _=_;rw[aR (by rw[Oc];exact bA hs)];rfl
 exact aS rfl rfl (ρ:=[qV m,iV t,sV note,dV (.lst (ls.map bC)),iV b,none]) rfl (aa (aA (fp (nM h hl rfl) rfl) rfl) (aa (aB (F4 (t:=⟨p.ents.length+1,t,note,ls,b⟩) h hl rfl (bB (c5 rfl (c5 rfl (c5 rfl (c5 (b7 (cl1 rfl) tp) (cl1 rfl)))))))) rfl)) uR
end
structure uJ (N:List (List Nat)) (e:eI):Prop where
 l:∀ x∈e.lines,x.1∈N/\bo x.2.1=true/\c_ x.2.2=true
 n:e.lines.length<=60
 z:∀ c,bO c e.lines=0
 t:fJ e.note
 d:aX e.day
def Fr (l:List eI):Prop:=l.map (·.no)=(List.range l.length).map fun i=>((i:Nat):Int)+1
theorem Fr.snoc {l:List eI} {x:eI} (h:Fr l) (hx:x.no=l.length+1):Fr (l++[x]):=by
 unfold Fr at*;rw[List.map_append,h,Of,On,List.range_succ,List.map_append];show _++[x.no]=_++[_];rw[hx]
def Hz (l:List Int):Prop:=(-1::l).Pairwise (· <·)/\∀ x∈l,x<=99999
theorem Hz.cl {l:List Int} (h:Hz l):∀ x∈ -1::l,x<=cl l:=by
 rcases List.eq_nil_or_concat l with rfl|⟨r,y,rfl⟩
 .intro x hx;rw[Oi.mp hx];exact Int.le_refl _
 .rw[List.concat_eq_append] at h ⊢;intro x hx;have e:Mine.Internal.cl (r++[y])=y:=by
   unfold Mine.Internal.cl;rw[Of,On,if_neg (KO),Nat.add_sub_cancel,Ow,OA (Oo _),Nat.sub_self];rfl
  rw[e];have h1:=h.1;rw[<-List.cons_append,List.pairwise_append] at h1;rw[<-List.cons_append] at hx;rcases Ov.mp hx with q|q
  .exact O8 (h1.2.2 x q y (.head _))
  .rw[Oi.mp q];exact Int.le_refl _
theorem Hz.snoc {l:List Int} {t:Int} (h:Hz l) (h1:Mine.Internal.cl l<t) (h2:t<=99999):Hz (l++[t]):=by
 refine ⟨?_,fun x hx=> ?_⟩
 .rw[<-List.cons_append,List.pairwise_append];exact ⟨h.1,List.pairwise_singleton _ _,fun a ha b hb=>by rw[Oi.mp hb];exact OM (h.cl a ha) h1⟩
 .rcases Ov.mp hx with q|q
  .exact h.2 x q
  .rw[Oi.mp q];exact h2
structure Gd (N:Nat) (p:Pl) (S:St):Prop where
 names:S.names=p.names
 nm:∃ T,p.names=cV::T/\Hw T/\1<=T.length
 nl:p.names.length<=7
 nd:p.curs.Nodup
 ic:∀ c∈p.curs,bo c=true
 c3:3<=p.curs.length
 c10:p.curs.length<=8
 home:p.curs[0]? =some S.home
 made:S.made=p.ents
 ends:S.ends=p.ends
 gone:S.gone=p.backs
 tell:∃ m,uF S p.told m
 rw:∀ x∈p.told,EY x
 ent:∀ e∈p.ents,uJ p.names e
 cl1: -1<=cl p.ends
 cl2:cl p.ends<=99999
 l1:p.ents.length<=N
 l2:p.told.length<=N
 l3:p.ends.length<=N
 l4:p.backs.length<=N
 l5:p.deeds.length<=N
 l6:S.deeds.length<=N
 cu:∀ e∈p.ents,∀ x∈e.lines,x.2.1∈p.curs
 nos:Fr p.ents
 inc:Hz p.ends
 tc:∀ x∈p.told,x.1∈p.curs
structure Gr (p p':Pl):Prop where
 e:∃ xs,p'.ents=p.ents++xs/\∀ x∈xs,cl p.ends<x.day
 t:∃ ys,p'.told=p.told++ys/\∀ y∈ys,cl p.ends<y.2.1
 k:∃ zs,p'.ends=p.ends++zs
 n:∃ ns,p'.names=p.names++ns
 x:p'.ex=p.ex
section
variable {p p' p'':Pl} {x:eI} {y:Rw} {bs:List Int} {ds:List D}
theorem xf {α:Type} {q:α->Prop}:∀ x∈([]:List α),q x:=fun _ h=>absurd h Oy
theorem AK {α:Type} {q:α->Prop} {a:α} (h:q a):∀ x∈[a],q x:=fun x hx=>by rw[Oi.mp hx];exact h
theorem Gr.refl:Gr p p:=⟨⟨[],(List.append_nil _).symm,xf⟩,⟨[],(List.append_nil _).symm,xf⟩,⟨[],(List.append_nil _).symm⟩,⟨[],(List.append_nil _).symm⟩,rfl⟩
theorem Gr.ends {t:Int}:Gr p {p with ends:=p.ends++[t],deeds:=ds}:=have r:=Gr.refl (p:=p);⟨r.e,r.t,⟨_,rfl⟩,r.n,rfl⟩
theorem Gr.names {t:List Nat}:Gr p {p with names:=p.names++[t],deeds:=ds}:=have r:=Gr.refl (p:=p);⟨r.e,r.t,r.k,⟨_,rfl⟩,rfl⟩
theorem Gr.told (h:cl p.ends<y.2.1):Gr p {p with told:=p.told++[y],deeds:=ds}:=have r:=Gr.refl (p:=p);⟨r.e,⟨_,rfl,AK h⟩,r.k,r.n,rfl⟩
theorem Gr.ents (h:cl p.ends<x.day):Gr p {p with ents:=p.ents++[x],backs:=bs,deeds:=ds}:=have r:=Gr.refl (p:=p);⟨⟨_,rfl,AK h⟩,r.t,r.k,r.n,rfl⟩
theorem JM:∀ l:List Int,cl l∈ -1::l:=fun l=>by
 unfold cl;by_cases q:l.length=0
 .rw[if_pos q];exact .head _
 .rw[if_neg q,Ow,Oh (Nat.sub_one_lt q)];exact .tail _ (List.getElem_mem _)
theorem Gr.cl (h:Gr p p') (i:Hz p'.ends):Mine.Internal.cl p.ends<=Mine.Internal.cl p'.ends:=by
 obtain ⟨zs,e⟩:=h.k;refine i.cl _ ?_;rw[e,<-List.cons_append];exact List.mem_append_left _ (JM _)
theorem Gr.trans (h:Gr p p') (k:Gr p' p'') (i:Mine.Internal.cl p.ends<=Mine.Internal.cl p'.ends):Gr p p'':=by
 obtain ⟨⟨a1,b1,c1⟩,⟨a2,b2,c2⟩,⟨a3,b3⟩,⟨a4,b4⟩,a5⟩:=h;obtain ⟨⟨d1,e1,f1⟩,⟨d2,e2,f2⟩,⟨d3,e3⟩,⟨d4,e4⟩,d5⟩:=k;refine ⟨⟨a1++d1,by rw[e1,b1,List.append_assoc],fun x hx=> ?_⟩,⟨a2++d2,by rw[e2,b2,List.append_assoc],fun x hx=> ?_⟩,⟨a3++d3,by rw[e3,b3,List.append_assoc]⟩,⟨a4++d4,by rw[e4,b4,List.append_assoc]⟩,d5.trans a5⟩
 .exact (Ov.mp hx).elim (c1 x) fun q=>OM i (f1 x q)
 .exact (Ov.mp hx).elim (c2 x) fun q=>OM i (f2 x q)
end
structure Ke (p p':Pl):Prop where
 c:p'.curs=p.curs
 m:p'.most=p.most
 e:p'.ents.length<=p.ents.length+1
 g:Gr p p'
section
variable {d m n i N:Nat} {hd:Bool} {p p':Pl} {S S':St} {K:cP} {ρ:a9} {σ σ':av} {e a:CE} {t:Int}
theorem iU {o:CO} {a b:CE} {x y:PV} {u w:D} {q:Bool} (h1:a.ev K ρ σ=some (.ok x,σ')) (h2:Ev K b ρ σ' y) (r1:rd σ' x=some u) (r2:rd σ' y=some w) (h:o.g u w=some q):(ss o a b).ev K ρ σ=some (.ok (.d (.bool q)),σ'):=aC h1 (aC h2 (aC (oh h r1 r2) rfl))
theorem Gd.sh (g:Gd N p S) (hN:N<=900):Sh S:=by
 obtain ⟨mm,T⟩:=g.tell;have:=g.nl;have:=g.l1;have:=g.l2;have:=g.l3;have:=g.l4;have:=g.l6;exact ⟨by rw[g.names];exact o3 (by assumption),by rw[T.k,Oc];have:=T.ml;exact Nz hN (by assumption) this,by rw[g.made];exact Kg hN (by assumption),by rw[g.gone];exact Kg hN (by assumption),by rw[g.ends];exact Kg hN (by assumption),Kg hN this⟩
theorem Gd.mono (g:Gd N p S) {M:Nat} (h:N<=M):Gd M p S:={g with l1:=Om g.l1 h,l2:=Om g.l2 h,l3:=Om g.l3 h,l4:=Om g.l4 h,l5:=Om g.l5 h,l6:=Om g.l6 h}
theorem gt.bm (h:gt σ m n p S):Bk (σ.set m (pk p')) n S:=by
 show (σ.set m (pk p'))[n]? =_;rw[OI h.ne];exact h.b
theorem bE {α:Type} {l:List α} {x:α} (h:l.length<=N):(l++[x]).length<=N+1:=by rw[Of];exact O9 h
theorem xY {l:List Int} {x:Int}:cl (l++[x])=x:=by
 unfold cl;rw[Of,On,if_neg (KO),Nat.add_sub_cancel,Ow,OA (Oo _),Nat.sub_self];rfl
theorem uF.of {S S':St} {rs:List Rw} {mm:List (List Nat×D)} (T:uF S rs mm) (h1:S'.tk=S.tk) (h2:S'.tv=S.tv):uF S' rs mm:=⟨by rw[h1];exact T.k,by rw[h2];exact T.v,T.d,T.ml⟩
theorem Al {c:Int} (h:gt σ m n p S) (g:Gd N p S) (hN:N<=800) (ho:cl p.ends<99999):∃ p' S',Gd (N+1) p' S'/\Ke p p'/\(p'.ents=p.ents/\∃ t,p'.ends=p.ends++[t])/\CC (d+4) false 72 [.p n 0,.p m 0,.d (.int c)] σ=some (.ok (.d (.bool true)),bb σ m n p' S'):=by
 obtain ⟨t,h1,h2,dr⟩:=j7 (c:=c) h.r (o1 hN g.l3) g.cl1 ho;have sh:=g.sh (o6 hN);refine ⟨{p with ends:=p.ends++[t],deeds:=p.deeds++[fO t]},xV S t,?_,⟨rfl,rfl,OV _,.ends⟩,⟨rfl,t,rfl⟩,?_⟩
 .exact {names:=g.names,nm:=g.nm,nl:=g.nl,nd:=g.nd,ic:=g.ic,c3:=g.c3,c10:=g.c10,home:=g.home,made:=g.made,ends:=by show S.ends++[t]=p.ends++[t];rw[g.ends],gone:=g.gone,tell:=⟨g.tell.choose,g.tell.choose_spec.of rfl rfl⟩,rw:=g.rw,ent:=g.ent,cl1:=by show -1<=cl (p.ends++[t]);rw[xY];have:=h1.1;omega,cl2:=by show cl (p.ends++[t])<=99999;rw[xY];exact h1.2,l1:=OF g.l1,l2:=OF g.l2,l3:=bE g.l3,l4:=OF g.l4,l5:=bE g.l5,l6:=bE g.l6,cu:=g.cu,nos:=g.nos,inc:=g.inc.snoc h2 h1.2,tc:=g.tc}
 .have a1:=F5 (K:=KK (d+3) false) (ρ:=[qV n,qV m,iV c,iV t]) (e:=ag 1) (a:=ag 3) (s:=Pn) (t:=t) h.r (o0 hN g.l3) rfl rfl;have r1:Rk (σ.set m (pk {p with ends:=p.ends++[t]})) m {p with ends:=p.ends++[t]}:=ii h.r.lt;have a2:=iR (K:=KK (d+3) false) (ρ:=[qV n,qV m,iV c,iV t]) (e:=ag 1) (a:=bw (aj (aU [99,108,111,115,101]) (aj (ag 3) au))) (s:=Pj) (t:=fO t) r1 (by have:=g.l5;show p.deeds.length<=_;exact o0 hN this) rfl (bB rfl);rw[List.set_set] at a2;have b2:Bk (σ.set m (pk {p with ends:=p.ends++[t],deeds:=p.deeds++[fO t]})) n S:=h.bm;have cr:=B5 (d:=d) b2 sh h1 (by rw[g.ends];exact h2) (by rw[g.ends];have:=g.l3;exact o1 hN this);have r3:Rk (bb σ m n {p with ends:=p.ends++[t],deeds:=p.deeds++[fO t]} (xV S t)) m {p with ends:=p.ends++[t],deeds:=p.deeds++[fO t]}:=(h.to _ _).r;have ln:Ev (KK (d+3) false) (bi ba (aj (key (ag 1) 5 Pn) au)) [qV n,qV m,iV c,iV t] (bb σ m n {p with ends:=p.ends++[t],deeds:=p.deeds++[fO t]} (xV S t)) (.d (.int (S.ends.length+1))):=by
   have q:=fM (K:=KK (d+3) false) (ρ:=[qV n,qV m,iV c,iV t]) (vN (e:=ag 1) (s:=Pn) r3 rfl) (AD r3) (by rw[Oc];show (p.ends++[t]).length<=_;rw[Of,On];have:=g.l3;exact OC this (OC hN (Oj rfl)));rw[Oc] at q;rw[g.ends];have e:(((p.ends++[t]).length:Nat):Int)=(p.ends.length:Int)+1:=by rw[Of,On];rfl
   rw[<-e];exact q
  exact aS rfl rfl (ρ:=[qV n,qV m,iV c,none]) rfl (aa (aA (bM (dr (d+1) _ h.r) rfl) rfl) (aa (aB a1) (aa (aB a2) (aP (aM (iU (bW b2 rfl rfl cr) ln rfl rfl (i9 rfl))))))) jJ
theorem vJ {c:Int} (h:gt σ m n p S) (g:Gd N p S) (hN:N<=800):∃ p' S',Gd (N+1) p' S'/\Ke p p'/\CC (d+3) false 79 [.p n 0,.p m 0,.d (.int c)] σ=some (.ok (.d (.bool true)),bb σ m n p' S'):=by
 obtain ⟨t,ht,hf,nr⟩:=nk (d:=d+1) (σ:=σ) (n:=c);have sh:=g.sh (o6 hN);have ln:Ev (KK (d+2) false) (bi ba (aj (key (ag 1) 0 Pg) au)) [qV n,qV m,iV c,sV t] σ (.d (.int p.names.length)):=by
  have q:=fM (K:=KK (d+2) false) (ρ:=[qV n,qV m,iV c,sV t]) (c8 (e:=ag 1) (s:=Pg) h.r rfl) (c7 h.r) (by rw[Oc];have:=g.nl;exact o3 this);rw[Oc] at q;exact q
 by_cases z1:t∈p.names
 .refine ⟨p,S,g.mono (OV _),⟨rfl,rfl,OV _,.refl⟩,?_⟩;rw[h.same];exact aS rfl rfl (ρ:=[qV n,qV m,iV c,none]) rfl (aa (aA (az rfl nr) rfl) (aP (cK (bT (i0 (an rfl (c8 h.r rfl) rfl (c7 h.r) (Jz z1)))) rfl))) (tk _)
 by_cases z2:(6:Int)<p.names.length
 .refine ⟨p,S,g.mono (OV _),⟨rfl,rfl,OV _,.refl⟩,?_⟩;rw[h.same];exact aS rfl rfl (ρ:=[qV n,qV m,iV c,none]) rfl (aa (aA (az rfl nr) rfl) (aP (cK (bT (bF (an rfl (c8 h.r rfl) rfl (c7 h.r) (D5 z1)) (i0 (an ln rfl rfl rfl (D6 z2))))) rfl))) (tk _)
 refine ⟨{p with names:=p.names++[t],deeds:=p.deeds++[pI t]},jF S t,?_,⟨rfl,rfl,OV _,.names⟩,?_⟩
 .obtain ⟨T,e1,e2,e3⟩:=g.nm;refine {names:=by show S.names++[t]=p.names++[t];rw[g.names],nm:=⟨T++[t],by show p.names++[t]=_;rw[e1];rfl,⟨?_,?_,fun x hx=> ?_,fun q=> ?_⟩,by rw[Of];omega⟩,nl:=by show (p.names++[t]).length<=7;rw[Of,On];omega,nd:=g.nd,ic:=g.ic,c3:=g.c3,c10:=g.c10,home:=g.home,made:=g.made,ends:=g.ends,gone:=g.gone,tell:=⟨g.tell.choose,g.tell.choose_spec.of rfl rfl⟩,rw:=g.rw,ent:=fun e he=> ?_,cl1:=g.cl1,cl2:=g.cl2,l1:=OF g.l1,l2:=OF g.l2,l3:=OF g.l3,l4:=OF g.l4,l5:=bE g.l5,l6:=bE g.l6,cu:=g.cu,nos:=g.nos,inc:=g.inc,tc:=g.tc}
  .exact List.nodup_append.mpr ⟨e2.nd,OW.mpr ⟨Oy,OZ⟩,fun a ha c hc=>by rw[Oi.mp hc];rintro rfl;exact z1 (by rw[e1];exact .tail _ ha)⟩
  .intro q;rcases Ov.mp q with q|q
   .exact e2.ne q
   .exact z1 (by rw[<-Oi.mp q,e1];exact .head _)
  .rcases Ov.mp hx with q|q
   .exact e2.nm x q
   .rw[Oi.mp q];exact ht
  .rcases Ov.mp q with q|q
   .exact e2.st q
   .exact wf hf (Oi.mp q).symm
  .have q:=g.ent e he;exact ⟨fun x hx=>⟨List.mem_append_left _ (q.l x hx).1,(q.l x hx).2⟩,q.n,q.z,q.t,q.d⟩
 .have a1:=Dx (K:=KK (d+2) false) (ρ:=[qV n,qV m,iV c,sV t]) (e:=ag 1) (a:=ag 3) (s:=Pg) (t:=t) h.r (by have:=g.nl;exact Om (OO.mp (Pc.mp z2)) (by decide)) rfl rfl;have r1:Rk (σ.set m (pk {p with names:=p.names++[t]})) m {p with names:=p.names++[t]}:=ii h.r.lt;have a2:=iR (K:=KK (d+2) false) (ρ:=[qV n,qV m,iV c,sV t]) (e:=ag 1) (a:=bw (aj (aU [97,99,99,111,117,110,116]) (aj (ag 3) au))) (s:=Pj) (t:=pI t) r1 (by have:=g.l5;show p.deeds.length<=_;exact o0 hN this) rfl (bB rfl);rw[List.set_set] at a2;have b2:Bk (σ.set m (pk {p with names:=p.names++[t],deeds:=p.deeds++[pI t]})) n S:=h.bm;have ar:=oJ (d:=d) b2 sh ht (by rw[g.names];exact z1);exact aS rfl rfl (ρ:=[qV n,qV m,iV c,none]) rfl (aa (aA (az rfl nr) rfl) (aa (bj (bT (bF (an rfl (c8 h.r rfl) rfl (c7 h.r) (D5 z1)) (bF (an ln rfl rfl rfl (t9 z2)) rfl))) rfl) (aa (aB a1) (aa (aB a2) (aP (aM (iU (bW b2 rfl rfl ar) rfl rfl rfl rfl))))))) jJ
end
section
variable {d m n i N:Nat} {hd:Bool} {p p':Pl} {S S':St} {K:cP} {ρ:a9} {σ σ':av} {e a:CE} {t:Int} {s:List Nat}
theorem nN (h:Rk σ m p) (hl:p.curs.length<=1000) (he:Ev K e ρ σ (.p m 0)):Ev K (bi ba (aj (key e 2 s) au)) ρ σ (.d (.int p.curs.length)):=DT (ju h he) hl
theorem pT (h:Rk σ m p) (hl:p.names.length<=1000) (he:Ev K e ρ σ (.p m 0)):Ev K (bi ba (aj (key e 0 s) au)) ρ σ (.d (.int p.names.length)):=by
 have q:=fM (c8 (s:=s) h he) (c7 h) (by rw[Oc];exact hl);rw[Oc] at q;exact q
theorem ze {c k:Int} (h:gt σ m n p S) (g:Gd N p S) (hN:N<=800) (ho:cl p.ends<99999):∃ p' S',Gd (N+1) p' S'/\Ke p p'/\CC (d+4) false 78 [.p n 0,.p m 0,.d (.int c),.d (.int k)] σ=some (.ok (.d (.bool true)),bb σ m n p' S'):=by
 refine aW fun G9 k9=> ?_;obtain ⟨t,h1,h2,dr⟩:=j7 (c:=c) h.r (o1 hN g.l3) g.cl1 ho;refine k9 ?_;have c3:=g.c3;have c10:=g.c10;have q:=aF (a:=k) (b:=p.curs.length - 1) (Kd c3);have hk:1+(k.fmod (p.curs.length - 1)).toNat<p.curs.length:=Ml q;generalize hu:p.curs[1+(k.fmod (p.curs.length - 1)).toNat]=u;have um:u∈p.curs:=hu ▸ List.getElem_mem hk;have un:u≠S.home:=fun z=>by
  have h0:=g.home;obtain ⟨l0,e0⟩:=Og.mp h0;have:=(List.getElem_inj g.nd (h₀:=l0) (h₁:=hk)).mp (by rw[e0,hu,z]);omega
 have e5:Ev (KK (d+3) false) (sub (key (ag 1) 2 Ph) (aG bf (ai 1) (aG aY (ag 3) (aG dm (bi ba (aj (key (ag 1) 2 Ph) au)) (ai 1))))) [qV n,qV m,iV c,iV k,iV t,none,none] σ (.d (.str u)):=by
  refine bc (ju h.r rfl) (fp rfl (aQ rfl (aQ (nN h.r (HE c10) rfl) rfl rfl rfl rfl) rfl rfl (eO (Kd c3) (Nv c10)))) rfl rfl ?_;rw[show (1:Int)+k.fmod (p.curs.length - 1)=((1+(k.fmod (p.curs.length - 1)).toNat:Nat):Int) by exact Mk q];exact dN (by rw[Ou,Oh hk,hu];rfl) (Om (OQ hk) (Om c10 (by decide)))
 have f1:=aF (a:=k.fdiv 2) (b:=10^9) (by decide);have f2:=aF (a:=c.fdiv 7) (b:=10^9) (by decide);have f3:=aF (a:=k.fdiv 2) (b:=40) (by decide);have f4:=aF (a:=c.fdiv 7) (b:=40) (by decide);refine aW fun G9 k9=> ?_;obtain ⟨x,y,hx,hy,s4⟩:∃ x y,(1<=x/\x<=10^9)/\(1<=y/\y<=10^9)/\nq.ex (KK (d+3) false) [qV n,qV m,iV c,iV k,iV t,sV u,dV (sQ (u,t,1+(k.fdiv 2).fmod (10^9),1+(c.fdiv 7).fmod (10^9)))] σ=some (.next [qV n,qV m,iV c,iV k,iV t,sV u,dV (sQ (u,t,x,y))],σ):=by
  by_cases z:0<(k.fdiv 3).fmod 3
  .exact ⟨1+(k.fdiv 2).fmod 40,1+(c.fdiv 7).fmod 40,Nu f3,Nu f4,cK (an (dP (dz rfl)) rfl rfl rfl (D6 z)) rfl⟩
  .exact ⟨_,_,Nt f1,Nt f2,bj (an (dP (dz rfl)) rfl rfl rfl (t9 z)) rfl⟩
 obtain ⟨mm,T⟩:=g.tell;obtain ⟨ks,vs,m',T',run⟩:=Aa T (g.sh (by omega)) (g.ic u um) h1 (by show cl S.ends<t;rw[g.ends];exact h2) un hx hy (by have:=g.l2;omega);refine k9 ?_;refine ⟨{p with told:=p.told++[(u,t,x,y)],deeds:=p.deeds++[wZ u t x y]},told S u t x y ks vs,?_,⟨rfl,rfl,OV _,.told h2⟩,?_⟩
 .have tc':∀ x'∈p.told++[(u,t,x,y)],x'.1∈p.curs:=fun z hz=>by
   rcases Ov.mp hz with hz|hz
   .exact g.tc z hz
   .rw[Oi.mp hz];exact um
  have rw':∀ x'∈p.told++[(u,t,x,y)],EY x':=fun z hz=>by
   rcases Ov.mp hz with hz|hz
   .exact g.rw z hz
   .rw[Oi.mp hz];exact ⟨hx,hy⟩
  exact {names:=g.names,nm:=g.nm,nl:=g.nl,nd:=g.nd,ic:=g.ic,c3:=g.c3,c10:=g.c10,home:=g.home,made:=g.made,ends:=g.ends,gone:=g.gone,tell:=⟨m',T'⟩,rw:=rw',ent:=g.ent,cl1:=g.cl1,cl2:=g.cl2,l1:=OF g.l1,l2:=bE g.l2,l3:=OF g.l3,l4:=OF g.l4,l5:=bE g.l5,l6:=bE g.l6,cu:=g.cu,nos:=g.nos,inc:=g.inc,tc:=tc'}
 .have a1:=F3 (K:=KK (d+3) false) (ρ:=[qV n,qV m,iV c,iV k,iV t,sV u,dV (sQ (u,t,x,y))]) (e:=ag 1) (a:=ag 6) (s:=[116,111,108,100]) (t:=(u,t,x,y)) h.r (o0 hN g.l2) rfl rfl;have r1:Rk (σ.set m (pk {p with told:=p.told++[(u,t,x,y)]})) m {p with told:=p.told++[(u,t,x,y)]}:=ii h.r.lt;have a2:=iR (K:=KK (d+3) false) (ρ:=[qV n,qV m,iV c,iV k,iV t,sV u,dV (sQ (u,t,x,y))]) (e:=ag 1) (a:=bw (aj (aU [114,97,116,101]) (aj (sub (ag 6) (ai 0)) (aj (ag 4) (aj (sub (ag 6) (ai 2)) (aj (sub (ag 6) (ai 3)) au)))))) (s:=Pj) (t:=wZ u t x y) r1 (by have:=g.l5;show p.deeds.length<=_;exact o0 hN this) rfl (bB rfl);rw[List.set_set] at a2;have b2:Bk (σ.set m (pk {p with told:=p.told++[(u,t,x,y)],deeds:=p.deeds++[wZ u t x y]})) n S:=h.bm;have tr:=run d _ n b2;exact aS rfl rfl (ρ:=[qV n,qV m,iV c,iV k,none,none,none]) rfl (aa (aA (bM (dr (d+1) _ h.r) rfl) rfl) (aa (aA e5 rfl) (aa rfl (aa s4 (aa (aB a1) (aa (aB a2) (aP (aM (iU (bW b2 rfl rfl tr) rfl rfl rfl rfl))))))))) jJ
theorem wm {c:List Nat}:∀ ls:List bQ,bO c (ls.map eM)= - bO c ls:=by
 intro ls
 induction ls with
 |nil=>
  exact rfl
 |cons l ls ih=>
  have ih:=ih;unfold bO at ih ⊢;rw[List.map_cons];by_cases q:l.2.1=c
  .rw[OJ (p:=fun l:bQ=>decide (l.2.1=c)) (a:=eM l) (Os q),OJ (p:=fun l:bQ=>decide (l.2.1=c)) (Os q),List.map_cons,List.map_cons,List.sum_cons,List.sum_cons,ih,Int.neg_add];rfl
  .rw[List.filter_cons_of_neg (p:=fun l:bQ=>decide (l.2.1=c)) (a:=eM l) (by rw[decide_eq_true_eq];exact q),List.filter_cons_of_neg (p:=fun l:bQ=>decide (l.2.1=c)) (by rw[decide_eq_true_eq];exact q),ih]
theorem so {a:Int} (h:c_ a=true):c_ (-a)=true:=by
 unfold c_ at h ⊢;have h1:=OT (ah h);have h2:=OT (ah (ak h));have h3:=OT (ak (ak h));rw[Os (show -a≠0 by exact Int.neg_ne_zero.mpr h1),Os (show -(10^30)< -a by exact Int.neg_lt_neg h3),Os (show -a<10^30 by exact Int.neg_lt_of_neg_lt h2)];rfl
theorem xz {a:Int} {ns:List Int}:D.int a∈ns.map D.int<->a∈ns:=by
 constructor
 .intro h;obtain ⟨b,hb,e⟩:=Ot.mp h;cases e;exact hb
 .exact fun h=>List.mem_map_of_mem h
theorem xD {a:Int} {ns:List Int}:GP (.int a) (.lst (ns.map .int))=some (@decide (D.int a∈ns.map D.int) (Classical.propDecidable _)):=by
 have h:(pl 8 (.int a)&&(ns.map D.int).all (pl 8))=true:=Bool.and_eq_true_iff.mpr ⟨rfl,List.all_eq_true.mpr fun x hx=>by
  obtain ⟨b,_,e⟩:=Ot.mp hx;rw[<-e];rfl⟩
 unfold GP;show aq _ _=_;unfold aq;rw[if_pos h];congr
theorem Jy {a:Int} {ns:List Int} (h:a∈ns):Hg.g (.int a) (.lst (ns.map .int))=some true:=xD.trans (congrArg some (@Os _ (_) (xz.mpr h)))
theorem Fl {a:Int} {ns:List Int} (h:a∉ns):Hg.g (.int a) (.lst (ns.map .int))=some false:=xD.trans (congrArg some (@O3 _ (_) fun q=>h (xz.mp q)))
theorem HW (e:eI):pl 7 (cq e)=true:=by
 have:(e.lines.map bC).all (pl 5)=true:=List.all_eq_true.mpr fun x hx=>by
  obtain ⟨l,_,q⟩:=Ot.mp hx;rw[<-q];rfl
 show (true&&(true&&(true&&((e.lines.map bC).all (pl 5)&&(true&&true)))))=true;rw[this];rfl
theorem AG (l:List eI):pl 8 (.lst (l.map cq))=true:=List.all_eq_true.mpr fun x hx=>by
 obtain ⟨y,_,e⟩:=Ot.mp hx;rw[<-e];exact HW y
theorem BN {l:List eI} (h:l≠[]):dY.g (.lst (l.map cq)) (.lst [])=some false:=JI (fun z=>h (by injection z with z;exact List.map_eq_nil_iff.mp z)) (AG l) rfl rfl
theorem pq {c k:Int} (h:gt σ m n p S) (g:Gd N p S) (hN:N<=800) (ho:cl p.ends<99999):∃ p' S',Gd (N+1) p' S'/\Ke p p'/\CC (d+4) false 74 [.p n 0,.p m 0,.d (.int c),.d (.int k)] σ=some (.ok (.d (.bool true)),bb σ m n p' S'):=by
 have sh:=g.sh (o6 hN);have el:=g.l1;have le:∀ x4,Ev (KK (d+3) false) (bi ba (aj (key (ag 1) 3 Pi) au)) [qV n,qV m,iV c,iV k,x4,none,none,none,none,none] σ (.d (.int p.ents.length)):=fun x4=>nM h.r (o0 hN el) rfl;by_cases z0:p.ents=[]
 .refine ⟨p,S,g.mono (OV _),⟨rfl,rfl,OV _,.refl⟩,?_⟩;rw[h.same];have e4:Ev (KK (d+3) false) (aG bf (ai 1) (aG aY (ag 3) (bi n4 (aj (ai 1) (aj (bi ba (aj (key (ag 1) 3 Pi) au)) au))))) [qV n,qV m,iV c,iV k,none,none,none,none,none,none] σ (.d (.int (1+k.fmod (max 1 p.ents.length)))):=fp rfl (aQ rfl (b7 (c5 rfl (cl1 (le none))) rfl) rfl rfl (eO (Nr) (Nq hN el)));exact aS rfl rfl (ρ:=[qV n,qV m,iV c,iV k,none,none,none,none,none,none]) rfl (aa (aA e4 rfl) (aP (cK (bT (i0 (an (jt h.r rfl) (dQ rfl) (jp h.r) rfl (by rw[z0];exact uh rfl rfl rfl)))) rfl))) (tk _)
 have ep:0<p.ents.length:=List.length_pos_iff.mpr z0;have q:=aF (a:=k) (b:=p.ents.length) (Kb ep);have hk:(k.fmod p.ents.length).toNat<p.ents.length:=H5 q;generalize hj:(k.fmod p.ents.length).toNat=j at hk;have kj:(1:Int)+k.fmod (max 1 p.ents.length)=(j:Int)+1:=by
  rw[show max (1:Int) p.ents.length=p.ents.length by exact Int.max_eq_right (OO.mpr ep)];exact Mj q hj
 have e4:Ev (KK (d+3) false) (aG bf (ai 1) (aG aY (ag 3) (bi n4 (aj (ai 1) (aj (bi ba (aj (key (ag 1) 3 Pi) au)) au))))) [qV n,qV m,iV c,iV k,none,none,none,none,none,none] σ (.d (.int (j+1))):=by
  have e:=fp (K:=KK (d+3) false) (ρ:=[qV n,qV m,iV c,iV k,none,none,none,none,none,none]) (σ:=σ) (a:=ai 1) (x:=1) (b:=aG aY (ag 3) (bi n4 (aj (ai 1) (aj (bi ba (aj (key (ag 1) 3 Pi) au)) au)))) (y:=k.fmod (max 1 p.ents.length)) rfl (aQ rfl (b7 (c5 rfl (cl1 (le none))) rfl) rfl rfl (eO (Nr) (Nq hN el)));rw[kj] at e;exact e
 have ej:p.ents[j]? =some p.ents[j]:=Oh hk;generalize p.ents[j]=E at ej;have Em:E∈p.ents:=OH ej;have eE:∀ x5 x6 x7 x8,Ev (KK (d+3) false) (sub (key (ag 1) 3 Pi) (aG dm (ag 4) (ai 1))) [qV n,qV m,iV c,iV k,iV (j+1),x5,x6,x7,x8,none] σ (.d (cq E)):=fun x5 x6 x7 x8=>by
  refine bc (jt h.r rfl) rfl (jp h.r) rfl (w:=.int ((j:Int)+1 - 1)) ?_;rw[Int.add_sub_cancel];exact dN (by rw[Ou,ej];rfl) (Om (OQ hk) (Om el (Om hN (by decide))))
 have ne:Ts (KK (d+3) false) (aO dY (key (ag 1) 3 Pi) (cU au)) [qV n,qV m,iV c,iV k,iV (j+1),none,none,none,none,none] σ false:=an (jt h.r rfl) (dQ rfl) (jp h.r) rfl (BN z0);by_cases z1:((j:Int)+1)∈p.backs
 .refine ⟨p,S,g.mono (OV _),⟨rfl,rfl,OV _,.refl⟩,?_⟩;rw[h.same];exact aS rfl rfl (ρ:=[qV n,qV m,iV c,iV k,none,none,none,none,none,none]) rfl (aa (aA e4 rfl) (aP (cK (bT (bF ne (i0 (an rfl (mK h.r rfl) rfl (qO h.r) (Jy z1))))) rfl))) (tk _)
 by_cases z2:E.back=0
 case neg=>
  refine ⟨p,S,g.mono (OV _),⟨rfl,rfl,OV _,.refl⟩,?_⟩;rw[h.same];exact aS rfl rfl (ρ:=[qV n,qV m,iV c,iV k,none,none,none,none,none,none]) rfl (aa (aA e4 rfl) (aP (cK (bT (bF ne (bF (an rfl (mK h.r rfl) rfl (qO h.r) (Fl z1)) (i0 (an (bc (eE _ _ _ _) rfl rfl rfl (ix (k:=4) rfl)) rfl rfl rfl (DD z2)))))) rfl))) (tk _)
 refine aW fun G9 k9=> ?_;obtain ⟨t,h1,h2,dr⟩:=j7 (c:=c) h.r (o1 hN g.l3) g.cl1 ho;refine k9 ?_;have Eo:=g.ent E Em;have E6:=Eo.n;refine ⟨{p with ents:=p.ents++[⟨p.ents.length+1,t,E.note,E.lines.map eM,j+1⟩],backs:=p.backs++[(j:Int)+1],deeds:=p.deeds++[oA (j+1) t]},Cl S j E t,?_,⟨rfl,rfl,O1 Of,.ents h2⟩,?_⟩
 .have en:∀ e∈p.ents++[⟨p.ents.length+1,t,E.note,E.lines.map eM,j+1⟩],uJ p.names e:=fun e he=>by
   rcases Ov.mp he with he|he
   .exact g.ent e he
   .rw[Oi.mp he];refine ⟨fun x hx=> ?_,by show (E.lines.map eM).length<=60;rw[Oc];exact E6,fun c=>by show bO c (E.lines.map eM)=0;rw[wm,Eo.z];rfl,Eo.t,h1⟩;obtain ⟨y,hy,rfl⟩:=Ot.mp hx;have:=Eo.l y hy;exact ⟨this.1,this.2.1,so this.2.2⟩
  have cu:∀ e∈p.ents++[⟨p.ents.length+1,t,E.note,E.lines.map eM,j+1⟩],∀ x∈e.lines,x.2.1∈p.curs:=fun e he x hx=>by
   rcases Ov.mp he with he|he
   .exact g.cu e he x hx
   .rw[Oi.mp he] at hx;obtain ⟨y,hy,rfl⟩:=Ot.mp hx;exact g.cu E Em y hy
  exact {names:=g.names,nm:=g.nm,nl:=g.nl,nd:=g.nd,ic:=g.ic,c3:=g.c3,c10:=g.c10,home:=g.home,made:=by show S.made++[⟨S.made.length+1,t,E.note,E.lines.map eM,j+1⟩]=_;rw[g.made],ends:=g.ends,gone:=by show S.gone++[(j:Int)+1]=_;rw[g.gone],tell:=⟨g.tell.choose,g.tell.choose_spec.of rfl rfl⟩,rw:=g.rw,ent:=en,cl1:=g.cl1,cl2:=g.cl2,l1:=bE g.l1,l2:=OF g.l2,l3:=OF g.l3,l4:=bE g.l4,l5:=bE g.l5,l6:=bE g.l6,cu:=cu,nos:=g.nos.snoc rfl,inc:=g.inc,tc:=g.tc}
 .have cm:ir.ex (KK (d+3) false) [qV n,qV m,iV c,iV k,iV (j+1),dV (cq E),iV t,none,none,none] σ=some (.next [qV n,qV m,iV c,iV k,iV (j+1),dV (cq E),iV t,dV (.lst ((E.lines.map eM).map bC)),none,none],σ):=by
   refine m_ (iW rfl rfl (gq bC (fun l=>.tup [.str l.1,.str l.2.1,.int (0 - l.2.2)]) E.lines [] (fun l hl=>bB rfl) (by rw[O2];exact Mi E6)) rfl) ?_;rw[List.nil_append,List.map_map];have:(E.lines.map fun l=>D.tup [.str l.1,.str l.2.1,.int (0 - l.2.2)])=E.lines.map (bC ∘ eM):=List.map_congr_left fun l _=>by rw[Int.zero_sub];rfl
   rw[this];rfl
  have pr:=mB (d:=d+2) (t:=t) (b:=j+1) (note:=E.note) (ls:=E.lines.map eM) h.r (o0 hN el) (by rw[Oc];exact H_ E6);have r1:Rk (σ.set m (pk {p with ents:=p.ents++[⟨p.ents.length+1,t,E.note,E.lines.map eM,j+1⟩]})) m {p with ents:=p.ents++[⟨p.ents.length+1,t,E.note,E.lines.map eM,j+1⟩]}:=ii h.r.lt;have a1:=Dy (K:=KK (d+3) false) (ρ:=[qV n,qV m,iV c,iV k,iV (j+1),dV (cq E),iV t,dV (.lst ((E.lines.map eM).map bC)),iV (p.ents.length+1),none]) (e:=ag 1) (a:=ag 4) (s:=[98,97,99,107,115]) (t:=(j:Int)+1) r1 (by have:=g.l4;show p.backs.length<=_;exact o0 hN this) rfl rfl;rw[List.set_set] at a1;have r2:Rk (σ.set m (pk {p with ents:=p.ents++[⟨p.ents.length+1,t,E.note,E.lines.map eM,j+1⟩],backs:=p.backs++[(j:Int)+1]})) m {p with ents:=p.ents++[⟨p.ents.length+1,t,E.note,E.lines.map eM,j+1⟩],backs:=p.backs++[(j:Int)+1]}:=ii h.r.lt;have a2:=iR (K:=KK (d+3) false) (ρ:=[qV n,qV m,iV c,iV k,iV (j+1),dV (cq E),iV t,dV (.lst ((E.lines.map eM).map bC)),iV (p.ents.length+1),none]) (e:=ag 1) (a:=bw (aj (aU [98,97,99,107]) (aj (ag 4) (aj (ag 6) au)))) (s:=Pj) (t:=oA (j+1) t) r2 (by have:=g.l5;show p.deeds.length<=_;exact o0 hN this) rfl (bB rfl);rw[List.set_set] at a2;have b2:Bk (σ.set m (pk {p with ents:=p.ents++[⟨p.ents.length+1,t,E.note,E.lines.map eM,j+1⟩],backs:=p.backs++[(j:Int)+1],deeds:=p.deeds++[oA (j+1) t]})) n S:=h.bm;have cr:=ut (d:=d) (k:=j) (e:=E) b2 sh (by rw[g.made];exact ej) z2 (H_ E6) (by rw[g.gone];exact z1) h1 (by rw[g.ends];exact h2);exact aS rfl rfl (ρ:=[qV n,qV m,iV c,iV k,none,none,none,none,none,none]) rfl (aa (aA e4 rfl) (aa (bj (bT (bF ne (bF (an rfl (mK h.r rfl) rfl (qO h.r) (Fl z1)) (bF (an (bc (eE _ _ _ _) rfl rfl rfl (ix (k:=4) rfl)) rfl rfl rfl (s9 z2)) rfl)))) rfl) (aa (aA (eE _ _ _ _) rfl) (aa (aA (az rfl (dr (d+1) _ h.r)) rfl) (aa cm (aa (aA (az rfl pr) rfl) (aa (aB a1) (aa (aB a2) (aP (aM (iU (bW b2 rfl rfl cr) rfl rfl rfl (i9 (by rw[g.made]))))))))))))) jJ
end
noncomputable def Kv (o:Option Rw):D:=o.elim .none C9
theorem bN {c:List Nat} {ls:List bQ} {l:bQ}:bO c (l::ls)=(if l.2.1=c then l.2.2 else 0)+bO c ls:=by
 unfold bO;by_cases q:l.2.1=c
 .rw[if_pos q,OJ (p:=fun l:bQ=>decide (l.2.1=c)) (Os q),List.map_cons,List.sum_cons]
 .rw[if_neg q,List.filter_cons_of_neg (p:=fun l:bQ=>decide (l.2.1=c)) (by rw[decide_eq_true_eq];exact q),Int.zero_add]
theorem Gj {a k M:Int} (h1:0<k) (h2:k<M):a.fmod M≠(a+k).fmod M:=by
 have hM:0<=M:=by exact OL (by decide) (OM h1 h2)
 rw[Int.fmod_eq_emod_of_nonneg a hM,Int.fmod_eq_emod_of_nonneg (a+k) hM];intro h;have e1:=Int.emod_add_mul_ediv a M;have e2:=Int.emod_add_mul_ediv (a+k) M;generalize a / M=x at e1;generalize (a+k) / M=y at e2;rw[h] at e1;have e3:M*(y - x)=k:=by rw[Int.mul_sub];exact Mh e1 e2
 rcases Int.lt_or_le (y - x) 1 with q|q
 .have:M*(y - x)<=M*0:=Int.mul_le_mul_of_nonneg_left (Int.le_iff_lt_add_one.mpr q) hM;rw[Int.mul_zero] at this;exact Mf h1 e3 this
 .have:M*1<=M*(y - x):=Int.mul_le_mul_of_nonneg_left q hM;rw[Int.mul_one] at this;exact Me h2 e3 this
section
variable {d m n i N:Nat} {hd:Bool} {p p':Pl} {S S':St} {K:cP} {ρ:a9} {σ σ':av} {e a:CE} {t:Int} {s h c:List Nat}
theorem pS (R:Rk σ m p) (hh:p.curs[0]? =some h) (hr:p.told.length<=900):CC (d+1) false 75 [.p m 0,.d (.str c),.d (.int t)] σ=some (.ok (.d (Kv (fI h p.told c t))),σ):=by
 unfold fI;have e0:Ev (KK d false) (sub (key (ag 0) 2 Ph) (ai 0)) [qV m,sV c,iV t,none,none] σ (.d (.str h)):=bc (ju R rfl) rfl rfl rfl (dN (k:=0) (by rw[Ou,hh];rfl));by_cases q:c=h
 .rw[if_pos q];exact aS rfl rfl (ρ:=[qV m,sV c,iV t,none,none]) rfl (aP (cK (an rfl e0 rfl rfl (fk q)) rfl)) (tk _)
 .rw[if_neg q];obtain ⟨c',lp⟩:=j4 (σ:=σ) (v:=.p m 6) (x:=.lst (p.told.map sQ)) (i:=4) (b:=fun ρ=>im.ex (KK d false) ρ) sQ (fun (o:Option Rw) (x4:Option PV)=>[qV m,sV c,iV t,dV (FU o),x4]) (sY c t) (dE (AC R)) p.told (fun o x4 x _=>by
   refine ⟨dV (sQ x),?_⟩;have a0:∀ o,Ev (KK d false) (sub (ag 4) (ai 0)) [qV m,sV c,iV t,o,dV (sQ x)] σ (.d (.str x.1)):=fun o=>rfl;have a1:∀ o,Ev (KK d false) (sub (ag 4) (ai 1)) [qV m,sV c,iV t,o,dV (sQ x)] σ (.d (.int x.2.1)):=fun o=>rfl;unfold sY;by_cases q1:x.1=c
   .by_cases q2:x.2.1<=t
    .cases o with
     |none=>
      rw[if_pos ⟨q1,q2,fun y h=>by cases h⟩];exact aa (cK (cn (cF (an (a0 _) rfl rfl rfl (fk q1)) (cF (tT q2 rfl) rfl))) rfl) rfl
     |some y=>
      by_cases q3:y.2.1<=x.2.1
      .rw[if_pos ⟨q1,q2,fun z h=>by cases h;exact q3⟩];exact aa (cK (cn (cF (an (a0 _) rfl rfl rfl (fk q1)) (cF (an (a1 _) rfl rfl rfl (vI q2)) (cF (bT (bF (an rfl rfl rfl rfl rfl) (i0 (an (a1 _) (cw 1 rfl rfl) rfl rfl (GY q3))))) rfl)))) rfl) rfl
      .rw[if_neg fun z=>q3 (z.2.2 y rfl)];exact aa (bj (cn (cF (an (a0 _) rfl rfl rfl (fk q1)) (cF (an (a1 _) rfl rfl rfl (vI q2)) (fH (bT (bF (an rfl rfl rfl rfl rfl) (bF (an (a1 _) (cw 1 rfl rfl) rfl rfl (Eb q3)) rfl))))))) rfl) rfl
    .rw[if_neg fun z=>q2 z.2.1];exact aa (bj (cn (cF (an (a0 _) rfl rfl rfl (fk q1)) (fH (tF q2 rfl)))) rfl) rfl
   .rw[if_neg fun z=>q1 z.1];exact aa (bj (cn (fH (an (a0 _) rfl rfl rfl (iC q1)))) rfl) rfl) none none
  have lp:eU (.p m 6) (.lst (p.told.map sQ)) 4 (fun ρ=>im.ex (KK d false) ρ) (p.told.map sQ) [qV m,sV c,iV t,dV .none,none] σ=some (.next [qV m,sV c,iV t,dV (FU (jB c t p.told)),c'],σ):=lp;have pre:∀ z,(sC (cI (aO EI (ag 3) hJ) (sC (aT hJ) sN) sN) (sC lA sN)).ex (KK d false) [qV m,sV c,iV t,dV (FU (jB c t p.told)),c'] σ=z->tB.ex (KK d false) [qV m,sV c,iV t,none,none] σ=z:=fun z hz=>aa (bj (an rfl e0 rfl rfl (iC q)) rfl) (aa rfl (aa (bP (Bm R rfl) (vP (AC R) (by rw[Oc];exact Ny hr)) lp) hz));cases z:jB c t p.told with
  |none=>
   rw[z] at pre;exact aS rfl rfl rfl (pre _ rfl) (tk _)
  |some y=>
   rw[z] at pre;exact aS rfl rfl rfl (pre _ rfl) (tk _)
theorem nh {x ke:CE} {k M:Int} (R:Rk σ m p) (he:Ev K e ρ σ (.p m 0)) (hx:Ev K x ρ σ (.d (.int k))) (hm:Ev K ke ρ σ (.d (.int M))) (h1:0<M) (h2:M<=p.names.length) (h3:p.names.length<=1000):∃ z∈p.names,Ev K (sub (key e 0 s) (aG aY x ke)) ρ σ (.d (.str z)):=by
 have q:=aF (a:=k) (b:=M) h1;have hk:(k.fmod M).toNat<p.names.length:=o8 h2 q;have g:=eO (a:=k) h1 (show M<2^250 by exact Kl h2 h3);rw[show k.fmod M=(((k.fmod M).toNat:Nat):Int) by exact Kk q] at g;exact ⟨_,List.getElem_mem hk,bc (c8 R he) (aQ hx hm rfl rfl g) (c7 R) rfl (dN (by rw[Ou,Oh hk];rfl) (Kj h3 hk))⟩
theorem ni {x ke:CE} {k M:Int} (R:Rk σ m p) (he:Ev K e ρ σ (.p m 0)) (hx:Ev K x ρ σ (.d (.int k))) (hm:Ev K ke ρ σ (.d (.int M))) (h1:0<M) (h2:M<=p.curs.length) (h3:p.curs.length<=1000):∃ z,p.curs[(k.fmod M).toNat]? =some z/\Ev K (sub (key e 2 s) (aG aY x ke)) ρ σ (.d (.str z)):=by
 have q:=aF (a:=k) (b:=M) h1;have hk:(k.fmod M).toNat<p.curs.length:=o8 h2 q;have g:=eO (a:=k) h1 (show M<2^250 by exact Kl h2 h3);rw[show k.fmod M=(((k.fmod M).toNat:Nat):Int) by exact Kk q] at g;exact ⟨_,Oh hk,bc (ju R he) (aQ hx hm rfl rfl g) rfl rfl (dN (by rw[Ou,Oh hk];rfl) (Kj h3 hk))⟩
end
section
variable {d m n i N:Nat} {hd:Bool} {p p':Pl} {S S':St} {K:cP} {ρ:a9} {σ σ':av} {e a:CE} {t:Int} {s h c:List Nat}
noncomputable def dR (gv one tk' aV:List Nat) (a g:Int):List bQ:=[(gv,one,-a),(cV,one,a),(cV,aV,-g),(tk',aV,g)]
theorem G_ {gv one tk' aV:List Nat} {a g:Int} (c:List Nat):bO c (dR gv one tk' aV a g)=0:=by
 unfold dR;rw[bN,bN,bN,bN];show (if one=c then -a else 0)+((if one=c then a else 0)+((if aV=c then -g else 0)+((if aV=c then g else 0)+0)))=0;split<;>split<;>omega
noncomputable abbrev vR (n m:Nat) (c k:Int) (x4 x5 x6 x7 x8 x9 x10 x11 x12 x13 x14 x15:Option PV):a9:=[qV n,qV m,iV c,iV k,x4,x5,x6,x7,x8,x9,x10,x11,x12,x13,x14,x15]
theorem Gd.conv {t g am:Int} {note gv one tk' aV:List Nat} (G:Gd N p S) (h1:aX t) (ht:fJ note) (v1:gv∈p.names) (v2:tk'∈p.names) (m1:one∈p.curs) (m2:aV∈p.curs) (ha:c_ am=true) (hg:c_ g=true) {dd:D}:
  Gd (N+1) {p with ents:=p.ents++[⟨p.ents.length+1,t,note,dR gv one tk' aV am g,0⟩],deeds:=p.deeds++[dd]} (BY S t note gv one am tk' aV g):=by
 have c1:=G.ic one m1;have c2:=G.ic aV m2;have cu:∀ e∈p.ents++[⟨p.ents.length+1,t,note,dR gv one tk' aV am g,0⟩],∀ x∈e.lines,x.2.1∈p.curs:=fun e he x hx=>by
  rcases Ov.mp he with he|he
  .exact G.cu e he x hx
  .rw[Oi.mp he] at hx;rcases Oe.mp hx with z|hx
   .rw[z];exact m1
   rcases Oe.mp hx with z|hx
   .rw[z];exact m1
   rcases Oe.mp hx with z|hx
   .rw[z];exact m2
   .rw[Oi.mp hx];exact m2
 have en:∀ e∈p.ents++[⟨p.ents.length+1,t,note,dR gv one tk' aV am g,0⟩],uJ p.names e:=fun e he=>by
  rcases Ov.mp he with he|he
  .exact G.ent e he
  .rw[Oi.mp he];have ex:cV∈p.names:=by obtain ⟨T,e,_⟩:=G.nm;rw[e];exact .head _
   refine ⟨fun x hx=> ?_,Oj rfl,G_,ht,h1⟩;rcases Oe.mp hx with z|hx
   .rw[z];exact ⟨v1,c1,so ha⟩
   rcases Oe.mp hx with z|hx
   .rw[z];exact ⟨ex,c1,ha⟩
   rcases Oe.mp hx with z|hx
   .rw[z];exact ⟨ex,c2,so hg⟩
   .rw[Oi.mp hx];exact ⟨v2,c2,hg⟩
 exact {names:=G.names,nm:=G.nm,nl:=G.nl,nd:=G.nd,ic:=G.ic,c3:=G.c3,c10:=G.c10,home:=G.home,made:=by show S.made++[⟨S.made.length+1,t,note,dR gv one tk' aV am g,0⟩]=_;rw[G.made],ends:=G.ends,gone:=G.gone,tell:=⟨G.tell.choose,G.tell.choose_spec.of rfl rfl⟩,rw:=G.rw,ent:=en,cl1:=G.cl1,cl2:=G.cl2,l1:=bE G.l1,l2:=OF G.l2,l3:=OF G.l3,l4:=OF G.l4,l5:=bE G.l5,l6:=bE G.l6,cu:=cu,nos:=G.nos.snoc rfl,inc:=G.inc,tc:=G.tc}
theorem rq {c k:Int} (h:gt σ m n p S) (G:Gd N p S) (hN:N<=800) (ho:cl p.ends<99999):∃ p' S',Gd (N+1) p' S'/\Ke p p'/\CC (d+4) false 77 [.p n 0,.p m 0,.d (.int c),.d (.int k)] σ=some (.ok (.d (.bool true)),bb σ m n p' S'):=by
 refine aW fun G9 k9=> ?_;obtain ⟨t,h1,h2,dr⟩:=j7 (c:=c) h.r (o1 hN G.l3) G.cl1 ho;have sh:=G.sh (o6 hN);have c3:=G.c3;have c10:=G.c10;have nl:=G.nl;have n0:0<p.names.length:=by obtain ⟨T,e,_⟩:=G.nm;rw[e,Ok];omega
 have r0:=aF (a:=k.fdiv p.curs.length) (b:=p.curs.length - 1) (Kd c3);obtain ⟨one,i1,e6⟩:=ni (K:=KK (d+3) false) (ρ:=vR n m c k (iV t) (iV p.curs.length) none none none none none none none none none none) (e:=ag 1) (s:=Ph) (x:=ag 3) (ke:=ag 5) (k:=k) (M:=p.curs.length) h.r rfl rfl rfl (HD c3) (LJ) (HE c10);obtain ⟨aV,i2,e7⟩:=ni (K:=KK (d+3) false) (ρ:=vR n m c k (iV t) (iV p.curs.length) (sV one) none none none none none none none none none) (e:=ag 1) (s:=Ph) (x:=aG bf (aG bf (ag 3) (ai 1)) (aG aY (aG bh (ag 3) (ag 5)) (aG dm (ag 5) (ai 1)))) (ke:=ag 5) (k:=k+1+(k.fdiv p.curs.length).fmod (p.curs.length - 1)) (M:=p.curs.length) h.r rfl (fp rfl (aQ (aQ rfl rfl rfl rfl (xI (HD c3) (OP.mpr (OC c10 (Oj rfl))))) rfl rfl rfl (eO (Kd c3) (Nv c10)))) rfl (HD c3) (LJ) (HE c10);obtain ⟨gv,v1,e8⟩:=nh (K:=KK (d+3) false) (ρ:=vR n m c k (iV t) (iV p.curs.length) (sV one) (sV aV) none none none none none none none none) (e:=ag 1) (s:=Pg) (x:=aG bh (ag 3) (ai 6)) (ke:=bi ba (aj (key (ag 1) 0 Pg) au)) h.r rfl rfl (pT h.r (o3 nl) rfl) (Kb n0) (Int.le_refl _) (o3 nl);obtain ⟨tk',v2,e9⟩:=nh (K:=KK (d+3) false) (ρ:=vR n m c k (iV t) (iV p.curs.length) (sV one) (sV aV) (sV gv) none none none none none none none) (e:=ag 1) (s:=Pg) (x:=aG bh (ag 3) (ai 7)) (ke:=bi ba (aj (key (ag 1) 0 Pg) au)) h.r rfl rfl (pT h.r (o3 nl) rfl) (Kb n0) (Int.le_refl _) (o3 nl);have ne:one≠aV:=fun z=>by
  have q1:=aF (a:=k) (b:=p.curs.length) (HD c3);have q2:=aF (a:=k+1+(k.fdiv p.curs.length).fmod (p.curs.length - 1)) (b:=p.curs.length) (HD c3);have:=(List.getElem?_inj (H5 q1) G.nd).mp (i1.trans ((congrArg some z).trans i2.symm));have mn:=Gj (a:=k) (k:=1+(k.fdiv p.curs.length).fmod (p.curs.length - 1)) (M:=p.curs.length) (ON (by decide) (O6 r0.1)) (Md r0);rw[<-Int.add_assoc] at mn;exact Mc q1 q2 this mn
 have c1:=G.ic one (OH i1);have c2:=G.ic aV (OH i2);obtain ⟨am,ham,ea⟩:=jD (c:=c.fdiv 5);refine k9 ?_;have a2:c_ am=true:=by rw[yc ham.1];exact Os (Np ham)
 have l1:=pS (d:=d+2) (σ:=σ) (c:=one) (t:=t) h.r G.home (o1 hN G.l2);have l2:=pS (d:=d+2) (σ:=σ) (c:=aV) (t:=t) h.r G.home (o1 hN G.l2);have pre:∀ z,(sC je (sC iq (sC ip (sC fi (sC fh (sC fg (sC (aK 14 (ax 56 (aj (aG bh (ag 3) (ai 2)) au))) (sC ff (sC fe (sC fc sN)))))))))).ex (KK (d+3) false) (vR n m c k (iV t) (iV p.curs.length) (sV one) (sV aV) (sV gv) (sV tk') (iV am) (dV (.lst [Kv (fI S.home p.told one t),Kv (fI S.home p.told aV t)])) none none none none) σ=z->gB.ex (KK (d+3) false) (vR n m c k none none none none none none none none none none none none) σ=z:=fun z hz=>
  aa (aA (az rfl (dr (d+1) _ h.r)) rfl) (aa (aA (nN h.r (HE c10) rfl) rfl) (aa (aA e6 rfl) (aa (aA e7 rfl) (aa (aA e8 rfl) (aa (aA e9 rfl) (aa (aA (az rfl (ea _ _ _)) rfl) (aa (aA (dQ (c5 (az rfl l1) (cl1 (az rfl l2)))) rfl) hz)))))))
 have same:∀ (hz:gB.ex (KK (d+3) false) (vR n m c k none none none none none none none none none none none none) σ=some (.ret (.d (.bool true)),σ)),∃ p' S',Gd (N+1) p' S'/\Ke p p'/\CC (d+4) false 77 [.p n 0,.p m 0,.d (.int c),.d (.int k)] σ=some (.ok (.d (.bool true)),bb σ m n p' S'):=fun hz=>⟨p,S,G.mono (OV _),⟨rfl,rfl,OV _,.refl⟩,by rw[h.same];exact aS rfl rfl rfl hz (tk _)⟩;cases zu:fI S.home p.told one t with
 |none=>
  rw[zu] at pre;exact same (pre _ rfl)
 |some u=>
 cases zw:fI S.home p.told aV t with
 |none=>
  rw[zu,zw] at pre;exact same (pre _ rfl)
 |some w=>
 rw[zu,zw] at pre;have uo:=pO G.rw zu;have wo:=pO G.rw zw;refine aW fun G9 k9=> ?_;obtain ⟨⟨u1,u2⟩,u3,u4⟩:=uo;obtain ⟨⟨w1,w2⟩,w3,w4⟩:=wo;refine k9 ?_;have p1:0<u.2.2.2*w.2.2.1:=Int.mul_pos (o2 u3) (o2 w1);have p2:u.2.2.2*w.2.2.1<=10^9*10^9:=Int.mul_le_mul u4 w2 (O8 w1) (by decide);have p3:0<am*u.2.2.1*w.2.2.2:=Int.mul_pos (Int.mul_pos (ham.1) (o2 u1)) (o2 w3);have g0:0<=HG am u.2.2.1 u.2.2.2 w.2.2.1 w.2.2.2:=by
  unfold HG;rw[Int.fdiv_eq_ediv_of_nonneg _ (O8 p1)];exact Int.ediv_nonneg (O8 p3) (O8 p1)
 have pre2:∀ z,(sC fi (sC fh (sC fg (sC (aK 14 (ax 56 (aj (aG bh (ag 3) (ai 2)) au))) (sC ff (sC fe (sC fc sN))))))).ex (KK (d+3) false) (vR n m c k (iV t) (iV p.curs.length) (sV one) (sV aV) (sV gv) (sV tk') (iV am) (dV (.lst [C9 u,C9 w])) (iV (HG am u.2.2.1 u.2.2.2 w.2.2.1 w.2.2.2)) none none none) σ=z->gB.ex (KK (d+3) false) (vR n m c k none none none none none none none none none none none none) σ=z:=fun z hz=>
  pre z (aa rfl (aa (aA (aQ (aQ rfl rfl rfl rfl (iy (eT (LI u1 u2)))) rfl rfl rfl (iy (eT (LI w3 w4)))) rfl) (aa (aA (aQ rfl (aQ rfl rfl rfl rfl (iy (eT (LI w1 w2)))) rfl rfl (xI p1 (NE p2))) rfl) hz)))
 generalize hg:HG am u.2.2.1 u.2.2.2 w.2.2.1 w.2.2.2=g at pre2 g0;have p30:∀ ρ,Ev (KK (d+3) false) (aG AN (ai 10) (ai 30)) ρ σ (.d (.int (10^30))):=fun ρ=>rfl;by_cases z1:g=0
 .exact same (pre2 _ (aP (cK (bT (i0 (tT z1 rfl))) rfl)))
 by_cases z2:10^30<=g
 .exact same (pre2 _ (aP (cK (bT (bF (an rfl rfl rfl rfl (n7 z1)) (i0 (an rfl (p30 _) rfl rfl (GY z2))))) rfl)))
 obtain ⟨note,hn,en⟩:=s6 (n:=k.fdiv 2);have hg2:c_ g=true:=by rw[yc (Mb g0 z1)];exact Os (Int.lt_of_not_ge z2)
 obtain ⟨mm,T⟩:=G.tell;have hh:bo S.home=true:=G.ic _ (OH G.home);have cv:∀ d σ n,Bk σ n S->CC (d+3) false 17 [.p n 0,.d (.int t),.d (.str note),.d (.str gv),.d (.str one),.d (.int am),.d (.str tk'),.d (.str aV)] σ=some (.ok (.d (.int (S.made.length+1))),σ.set n (bk (BY S t note gv one am tk' aV g))):=fun d σ n b=>by
  have x1:=sU (d:=d) b T hh c1 h1 (by have:=G.l2;omega);have x2:=sU (d:=d) b T hh c2 h1 (by have:=G.l2;omega);rw[zu] at x1;rw[zw] at x2;exact wp b sh h1 (by rw[G.ends];exact h2) hn (by rw[G.names];exact v1) (by rw[G.names];exact v2) c1 c2 ne ham.1 a2 x1 x2 ⟨u1,u2⟩ ⟨u3,u4⟩ ⟨w1,w2⟩ ⟨w3,w4⟩ hg z1 hg2
 refine ⟨_,_,G.conv h1 hn v1 v2 (OH i1) (OH i2) a2 hg2 (dd:=.tup [.str Ps,.int t,.str gv,.str one,.int am,.str tk',.str aV,.str note]),⟨rfl,rfl,O1 Of,.ents h2⟩,?_⟩
 have pr:=mB (d:=d+2) (t:=t) (b:=0) (note:=note) (ls:=dR gv one tk' aV am g) h.r (o0 hN G.l1) (Oj rfl);have r1:Rk (σ.set m (pk {p with ents:=p.ents++[⟨p.ents.length+1,t,note,dR gv one tk' aV am g,0⟩]})) m {p with ents:=p.ents++[⟨p.ents.length+1,t,note,dR gv one tk' aV am g,0⟩]}:=ii h.r.lt;have a1:=iR (K:=KK (d+3) false) (ρ:=vR n m c k (iV t) (iV p.curs.length) (sV one) (sV aV) (sV gv) (sV tk') (iV am) (dV (.lst [C9 u,C9 w])) (iV g) (dV (.lst ((dR gv one tk' aV am g).map bC))) (sV note) (iV (p.ents.length+1))) (e:=ag 1) (a:=bw (aj (aU Ps) (aj (ag 4) (aj (ag 8) (aj (ag 6) (aj (ag 10) (aj (ag 9) (aj (ag 7) (aj (ag 14) au))))))))) (s:=Pj) (t:=.tup [.str Ps,.int t,.str gv,.str one,.int am,.str tk',.str aV,.str note]) r1 (by have:=G.l5;show p.deeds.length<=_;exact o0 hN this) rfl (bB rfl);rw[List.set_set] at a1;have b2:Bk (σ.set m (pk {p with ents:=p.ents++[⟨p.ents.length+1,t,note,dR gv one tk' aV am g,0⟩],deeds:=p.deeds++[.tup [.str Ps,.int t,.str gv,.str one,.int am,.str tk',.str aV,.str note]]})) n S:=h.bm;refine aS rfl rfl rfl (pre2 _ ?_) jJ;refine aa (bj (bT (bF (an rfl rfl rfl rfl (n7 z1)) (bF (an rfl (p30 _) rfl rfl (Eb z2)) rfl))) rfl) ?_;refine aa (aA (dQ (ds:=[bC (gv,one,-am),bC (cV,one,am)]) rfl (by rw[Int.zero_sub];rfl)) rfl) ?_;refine aa (aA (aQ rfl (dQ (ds:=[bC (cV,aV,-g),bC (tk',aV,g)]) rfl (by rw[Int.zero_sub];rfl)) rfl rfl rfl) rfl) ?_;refine aa (aA (az rfl (en (d+2) _)) rfl) ?_;refine aa (aA (az rfl pr) rfl) ?_;refine aa (aB a1) ?_;exact aP (aM (iU (bW b2 rfl rfl (cv d _ n b2)) rfl rfl rfl (i9 (by rw[G.made]))))
end
noncomputable def nz (l:bQ):Bool:=decide (l.2.2≠0)
theorem zE {c:List Nat}:∀ ls:List bQ,bO c (ls.filter nz)=bO c ls:=by
 intro ls
 induction ls with
 |nil=>
  exact rfl
 |cons l ls ih=>
  rw[bN];by_cases q:l.2.2=0
  .rw[List.filter_cons_of_neg (by show¬decide (l.2.2≠0)=true;rw[decide_eq_true_eq];exact fun z=>z q),ih,q];split<;>omega
  .rw[OJ (by show decide (l.2.2≠0)=true;exact Os q),bN,ih]
theorem wn {c:List Nat} {l1 l2:List bQ}:bO c (l1++l2)=bO c l1+bO c l2:=by
 unfold bO;rw[List.filter_append,List.map_append,List.sum_append]
section
variable {d m n i N:Nat} {hd:Bool} {p p':Pl} {S S':St} {K:cP} {ρ:a9} {σ σ':av} {e a:CE} {t:Int} {s h c:List Nat}
theorem Dw {T:List (List Nat)} {x ke:CE} {k M:Int} {v:PV} (he:Ev K e ρ σ v) (hr:rd σ v=some (.lst (T.map .str))) (hx:Ev K x ρ σ (.d (.int k))) (hm:Ev K ke ρ σ (.d (.int M))) (h1:0<M) (h2:M<=T.length) (h3:T.length<=1000):∃ z∈T,Ev K (sub e (aG aY x ke)) ρ σ (.d (.str z)):=by
 have q:=aF (a:=k) (b:=M) h1;have hk:(k.fmod M).toNat<T.length:=o8 h2 q;have g:=eO (a:=k) h1 (show M<2^250 by exact Kl h2 h3);rw[show k.fmod M=(((k.fmod M).toNat:Nat):Int) by exact Kk q] at g;exact ⟨_,List.getElem_mem hk,bc he (aQ hx hm rfl rfl g) hr rfl (dN (by rw[Ou,Oh hk];rfl) (Kj h3 hk))⟩
theorem Gu {T:List (List Nat)} {v:PV} (he:Ev K e ρ σ v) (hr:rd σ v=some (.lst (T.map .str))) (hl:T.length<=1000):Ev K (bi ba (aj e au)) ρ σ (.d (.int T.length)):=by
 have q:=fM he hr (by rw[Oc];exact hl);rw[Oc] at q;exact q
structure Hy (N C:List (List Nat)) (k:Nat) (fs:List bQ):Prop where
 l:∀ x∈fs,x.1∈N/\bo x.2.1=true/\(x.2.2≠0->c_ x.2.2=true)
 n:fs.length=3*k
 z:∀ c,bO c fs=0
 m:2*k<=(fs.filter nz).length
 u:∀ x∈fs,x.2.1∈C
noncomputable abbrev nR (m:Nat) (b k M:Int) (n:Nat) (x6 x7 x8 x9 x10:Option PV):a9:=[qV m,iV b,iV k,some (.p m 2),qV n,iV M,x6,x7,x8,x9,x10,none]
theorem vG {b k M:Int} {fs:List bQ} {i j:Nat} {x7 x8 x9 x10:Option PV} (R:Rk σ m p) (G:Gd N p S) (q:Hy p.names p.curs j fs) (hj:j<=30) (hi:i<100):∃ fs' y7 y8 y9 y10,Hy p.names p.curs (j+1) fs'/\io.ex (KK (d+1) false) (nR m b k M σ.length (iV i) x7 x8 x9 x10) (σ++[.fld (.list (fs.map bC))])=some (.next (nR m b k M σ.length (iV i) y7 y8 y9 y10),σ++[.fld (.list (fs'.map bC))]):=by
 have c3:=G.c3;have c10:=G.c10;have nl:=G.nl;have n0:0<p.names.length:=by obtain ⟨T,e,_⟩:=G.nm;rw[e,Ok];omega
 have R':∀ o,Rk (σ++[o]) m p:=fun o=>R.app;generalize hL:k.fdiv 3+5*(i:Int)=L;have e7:Ev (KK (d+1) false) (aG bf (aG bh (ag 2) (ai 3)) (aG ft (ai 5) (ag 6))) (nR m b k M σ.length (iV i) x7 x8 x9 x10) (σ++[.fld (.list (fs.map bC))]) (.d (.int L)):=by
  rw[<-hL];exact rfl
 refine aW fun G9 k9=> ?_;obtain ⟨u,i1,e8⟩:=ni (K:=KK (d+1) false) (ρ:=nR m b k M σ.length (iV i) (iV L) x8 x9 x10) (e:=ag 0) (s:=Ph) (x:=ag 7) (ke:=bi ba (aj (key (ag 0) 2 Ph) au)) (k:=L) (M:=p.curs.length) (R' (.fld (.list (fs.map bC)))) rfl rfl (nN (R' _) (HE c10) rfl) (HD c3) (LJ) (HE c10);have uc:=G.ic u (OH i1);obtain ⟨a1,h1,ea1⟩:=jD (c:=b+77*(i:Int));obtain ⟨a2,h2,ea2⟩:=jD (c:=b.fdiv 3+(i:Int));refine k9 ?_;have q3:=aF (a:=L.fdiv 3) (b:=3) (by decide);have hy:(L.fdiv 3).fmod 3 - 1= -1∨(L.fdiv 3).fmod 3 - 1=0∨(L.fdiv 3).fmod 3 - 1=1:=by omega
 have e10:∀ x10,Ev (KK (d+1) false) (aG ft (ax 76 (aj (aG bf (aG bh (ag 1) (ai 3)) (ag 6)) au)) (aG dm (aG aY (aG bh (ag 7) (ai 3)) (ai 3)) (ai 1))) (nR m b k M σ.length (iV i) (iV L) (sV u) (iV a1) x10) (σ++[.fld (.list (fs.map bC))]) (.d (.int (a2*((L.fdiv 3).fmod 3 - 1)))):=fun x10=>aQ (az rfl (ea2 _ _ _)) rfl rfl rfl (iy (eT (Ma q3)));generalize (L.fdiv 3).fmod 3 - 1=y at e10 hy;have hw:(-(4*10^29)<=a2*y/\a2*y<=4*10^29):=by
  rcases hy with rfl|rfl|rfl<;>omega
 generalize a2*y=w at e10 hw;have pk:∀ (o:av) (D':Int) x,0<D'->D'<100->∃ z∈p.names,Ev (KK (d+1) false) (sub (ag 3) (aG aY (aG bh (ag 7) (ai D')) (bi ba (aj (ag 3) au)))) (nR m b k M σ.length (iV i) (iV L) (sV u) (iV a1) (iV w)) (σ++[x]) (.d (.str z)):=fun o D' x h0 h9=>Dw (T:=p.names) (v:=.p m 2) rfl (c7 (R' x)) (dz rfl h0 (OL h9 (by decide))) (Gu (T:=p.names) (v:=.p m 2) rfl (c7 (R' x)) (o3 nl)) (Kb n0) (Int.le_refl _) (o3 nl);have r4:∀ o,Ev (KK (d+1) false) (ag 4) (nR m b k M σ.length (iV i) (iV L) (sV u) (iV a1) (iV w)) (σ++[o]) (.p σ.length 0):=fun o=>rfl;obtain ⟨z1,m1,f1⟩:=pk [] 9 (.fld (.list (fs.map bC))) (by decide) (by decide);have g1:=c5 f1 (l:=aj (ag 8) (aj (ag 9) au)) (xs:=[.d (.str u),.d (.int a1)]) rfl;have v1:Ev (KK (d+1) false) (bw (aj (sub (ag 3) (aG aY (aG bh (ag 7) (ai 9)) (bi ba (aj (ag 3) au)))) (aj (ag 8) (aj (ag 9) au)))) (nR m b k M σ.length (iV i) (iV L) (sV u) (iV a1) (iV w)) (σ++[.fld (.list (fs.map bC))]) (.d (bC (z1,u,a1))):=bB g1;have ap1:=b_ (r4 _) v1 dO (by rw[Oc,q.n];exact df (Om (Pd 3 hj) (by decide)));rw[iO] at ap1;obtain ⟨z2,m2,f2⟩:=pk [] 5 (.fld (.list (fs.map bC++[bC (z1,u,a1)]))) (by decide) (by decide);have g2:=c5 f2 (l:=aj (ag 8) (aj (aG dm (aG dm (ai 0) (ag 9)) (ag 10)) au)) (xs:=[.d (.str u),.d (.int (0 - a1 - w))]) rfl;have v2:Ev (KK (d+1) false) (bw (aj (sub (ag 3) (aG aY (aG bh (ag 7) (ai 5)) (bi ba (aj (ag 3) au)))) (aj (ag 8) (aj (aG dm (aG dm (ai 0) (ag 9)) (ag 10)) au)))) (nR m b k M σ.length (iV i) (iV L) (sV u) (iV a1) (iV w)) (σ++[.fld (.list (fs.map bC++[bC (z1,u,a1)]))]) (.d (bC (z2,u,0 - a1 - w))):=bB g2;have ap2:=b_ (r4 _) v2 dO (by rw[Of,Oc,q.n,On];exact df (Om (O9 (Pd 3 hj)) (Oj rfl)));rw[iO] at ap2;obtain ⟨z3,m3,f3⟩:=pk [] 7 (.fld (.list ((fs.map bC++[bC (z1,u,a1)])++[bC (z2,u,0 - a1 - w)]))) (by decide) (by decide);have g3:=c5 f3 (l:=aj (ag 8) (aj (ag 10) au)) (xs:=[.d (.str u),.d (.int w)]) rfl;have v3:Ev (KK (d+1) false) (bw (aj (sub (ag 3) (aG aY (aG bh (ag 7) (ai 7)) (bi ba (aj (ag 3) au)))) (aj (ag 8) (aj (ag 10) au)))) (nR m b k M σ.length (iV i) (iV L) (sV u) (iV a1) (iV w)) (σ++[.fld (.list ((fs.map bC++[bC (z1,u,a1)])++[bC (z2,u,0 - a1 - w)]))]) (.d (bC (z3,u,w))):=bB g3;have ap3:=b_ (r4 _) v3 dO (by rw[Of,Of,Oc,q.n,On,On];exact df (Om (Nat.add_le_add_right (Pd 3 hj) 2) (by decide)));rw[iO] at ap3;have e9:Ev (KK (d+1) false) (ax 76 (aj (aG bf (ag 1) (aG ft (ai 77) (ag 6))) au)) (nR m b k M σ.length (iV i) (iV L) (sV u) x9 x10) (σ++[.fld (.list (fs.map bC))]) (.d (.int a1)):=az rfl (ea1 _ _ _);refine ⟨fs++[(z1,u,a1),(z2,u,0 - a1 - w),(z3,u,w)],iV L,sV u,iV a1,iV w,⟨fun x hx=> ?_,by rw[Of,q.n];show 3*j+3=_;exact L_,fun c=> ?_,?_,fun x hx=> ?_⟩,aa (aA e7 rfl) (aa (aA e8 rfl) (aa (aA e9 rfl) (aa (aA (e10 _) rfl) (aa (aB ap1) (aa (aB ap2) (aa (aB ap3) ?_))))))⟩
 .rcases Ov.mp hx with hx|hx
  .exact q.l x hx
  have am:∀ v:Int,-(10^30)<v->v<10^30->v≠0->c_ v=true:=fun v y1 y2 y3=>by unfold c_;rw[Os y3,Os y1,Os y2];rfl
  rcases Oe.mp hx with z|hx
  .rw[z];exact ⟨m1,uc,am a1 (OL (by decide) h1.1) (Np h1)⟩
  rcases Oe.mp hx with z|hx
  .rw[z];exact ⟨m2,uc,am (0 - a1 - w) (ON (by decide:(-10^30:Int)<0 - 4*10^29 - 4*10^29) (Int.sub_le_sub (Int.sub_le_sub_left h1.2 0) hw.2)) (OM (Int.sub_le_sub (Int.sub_le_sub_left h1.1 0) hw.1) (by decide))⟩
  .rw[Oi.mp hx];exact ⟨m3,uc,am w (ON (by decide) hw.1) (OM hw.2 (by decide))⟩
 .rw[wn,q.z c,bN,bN,bN];show 0+((if u=c then a1 else 0)+((if u=c then 0 - a1 - w else 0)+((if u=c then w else 0)+0)))=0;split<;>omega
 .rw[List.filter_append,Of];have:2<=([(z1,u,a1),(z2,u,0 - a1 - w),(z3,u,w)].filter nz).length:=by
   rw[OJ (by show decide (a1≠0)=true;exact Os (Int.ne_of_gt (ON (by decide) h1.1))),Ok];by_cases y:w=0
   .rw[OJ (by show decide (0 - a1 - w≠0)=true;exact Os (L9 h1 y)),Ok];exact LG
   .by_cases y2:0 - a1 - w=0
    .rw[List.filter_cons_of_neg (by show¬decide (0 - a1 - w≠0)=true;rw[decide_eq_true_eq];exact fun z=>z y2),OJ (by show decide (w≠0)=true;exact Os y),Ok];exact LG
    .rw[OJ (by show decide (0 - a1 - w≠0)=true;exact Os y2),Ok];exact LG
  have:=q.m;exact L8 (by assumption) this
 .rcases Ov.mp hx with hx|hx
  .exact q.u x hx
  have um:=OH i1;rcases Oe.mp hx with z|hx
  .rw[z];exact um
  rcases Oe.mp hx with z|hx
  .rw[z];exact um
  .rw[Oi.mp hx];exact um
 .rw[List.map_append];simp only [List.append_assoc];rfl
structure zO (N C:List (List Nat)) (ls:List bQ):Prop where
 l:∀ x∈ls,x.1∈N/\bo x.2.1=true/\c_ x.2.2=true
 lo:2<=ls.length
 hi:ls.length<=60
 z:∀ c,bO c ls=0
 u:∀ x∈ls,x.2.1∈C
theorem vF {b k:Int} (R:Rk σ m p) (G:Gd N p S):∃ ls,zO p.names p.curs ls/\CC (d+2) false 80 [.p m 0,.d (.int b),.d (.int k)] σ=some (.ok (.d (.lst (ls.map bC))),σ):=by
 refine aW fun G9 k9=> ?_;obtain ⟨M,hM1,hM2,e5⟩:∃ M:Nat,1<=M/\M<=20/\∀ s,Ev (KK (d+1) false) (zm (aO dY (aG aY (ag 2) (ai 16)) (ai 7)) (aG bf (ai 1) (aG aY (aG bh (ag 2) (ai 16)) (ai 20))) (aG bf (ai 1) (aG aY (ag 2) (ai 3)))) [qV m,iV b,iV k,some (.p m 2),qV σ.length,none,none,none,none,none,none,none] s (.d (.int M)):=by
  have q1:=aF (a:=k.fdiv 16) (b:=20) (by decide);have q2:=aF (a:=k) (b:=3) (by decide);by_cases z:k.fmod 16=7
  .refine ⟨(1+(k.fdiv 16).fmod 20).toNat,by exact OO.mp (OL (O6 q1.1) (Int.self_le_toNat _)),L7 q1,fun s=> ?_⟩;rw[OR (Int.add_nonneg (by decide) q1.1)];exact rS (an (dP rfl) rfl rfl rfl (i9 z)) rfl
  .refine ⟨(1+k.fmod 3).toNat,by exact OO.mp (OL (O6 q2.1) (Int.self_le_toNat _)),by exact Int.toNat_le.mpr (OL (Int.add_le_add_left (O8 q2.2) 1) (by decide)),fun s=> ?_⟩;rw[OR (Int.add_nonneg (by decide) q2.1)];exact rT (an (dP rfl) rfl rfl rfl (n7 z)) rfl
 obtain ⟨ρ2,s2,lp,fs,x6,x7,x8,x9,x10,rfl,rfl,q⟩:=xN (v:=.d (.rng 0 M 1)) (x:=.rng 0 M 1) (i:=6) (b:=fun ρ=>io.ex (KK (d+1) false) ρ) M
  (fun pre ρ s=>∃ fs x6 x7 x8 x9 x10,ρ=nR m b k M σ.length x6 x7 x8 x9 x10/\s=σ++[.fld (.list (fs.map bC))]/\Hy p.names p.curs pre.length fs) ((List.range M).map fun (i:Nat)=>.int i) [] (nR m b k M σ.length none none none none none) (σ++[.fld (.list [])]) (by rw[Oc,List.length_range,O2];omega) ⟨[],none,none,none,none,none,rfl,rfl,de,rfl,fun _=>rfl,Oo _,de⟩ fun pre x ρ s hx hp H9=>by
   obtain ⟨fs,x6,x7,x8,x9,x10,h1,h2,q⟩:=H9;obtain ⟨i,hi,rfl⟩:=Ot.mp hx;have hi':=List.mem_range.mp hi;subst h1 h2;obtain ⟨fs',y7,y8,y9,y10,q',e⟩:=vG (d:=d) (b:=b) (k:=k) (M:=M) (i:=i) (x7:=x7) (x8:=x8) (x9:=x9) (x10:=x10) R G q (Om (OQ hp) (Om hM2 (by decide))) (Om hi' (Om hM2 (Oj rfl)));exact ⟨_,_,e,rfl,⟨fs',_,y7,y8,y9,y10,rfl,rfl,by rw[Of];exact q'⟩⟩
 refine k9 ?_;rw[List.nil_append,Oc,List.length_range] at q;have hl:(fs.filter nz).length<=60:=by have:=List.length_filter_le nz fs;rw[q.n] at this;exact Om this (Pd 3 hM2)
 refine ⟨fs.filter nz,⟨fun x hx=> ?_,by have:=q.m;exact Om (Pd 2 hM1) this,hl,fun c=>by rw[zE];exact q.z c,fun x hx=>q.u x (List.mem_filter.mp hx).1⟩,?_⟩
 .obtain ⟨h1,h2⟩:=List.mem_filter.mp hx;have:=q.l x h1;exact ⟨this.1,this.2.1,this.2.2 (OT h2)⟩
 .refine aS rfl rfl (ρ:=[qV m,iV b,iV k,none,none,none,none,none,none,none,none,none]) rfl ?_ (HL σ [.fld (.list (fs.map bC))]);refine aa (aA (c8 R rfl) rfl) (aa rfl (aa (aA (e5 _) rfl) ?_));refine aa (bP (rQ rfl (Om hM2 (Oj rfl))) (fZ (iT (Om hM2 (Oj rfl)))) lp) ?_;refine aP (aM (j6 (dS rfl (vP (u9 rfl) (by rw[Oc,q.n];exact Om (Pd 3 hM2) (by decide))) ?_)));have cf:=eG (K:=KK (d+1) false) (ρ:=nR m b k M σ.length x6 x7 x8 x9 x10) (σ:=σ++[.fld (.list (fs.map bC))]) (i:=11) (bS:=ag 11) (t:=gY (aO mh (sub (ag 11) (ai 2)) (ai 0))) (v:=.p σ.length 0) (y:=.lst (fs.map bC)) (dE (u9 rfl)) bC bC nz fs [] (fun l _=> ?_) (fun l _ _=>rfl) (by rw[O2,q.n];exact Om (O1 (O4 _)) (Om (Pd 3 hM2) (by decide)))
  .exact cf
  .refine uO (an rfl rfl rfl rfl ?_);by_cases z:l.2.2=0
   .rw[show nz l=false from O3 (fun y=>y z)];exact s9 z
   .rw[show nz l=true from Os z];exact DD z
theorem zO.ent {N C:List (List Nat)} {ls:List bQ} {t:Int} {note:List Nat} {no:Int} (q:zO N C ls) (h1:aX t) (h2:fJ note):uJ N ⟨no,t,note,ls,0⟩:=⟨q.l,q.hi,q.z,h2,h1⟩
theorem Gd.post {t:Int} {note:List Nat} {ls:List bQ} (G:Gd N p S) (h1:aX t) (ht:fJ note) (q:zO p.names p.curs ls) {dd:List D} (hdd:(p.deeds++dd).length<=N+1):
  Gd (N+1) {p with ents:=p.ents++[⟨p.ents.length+1,t,note,ls,0⟩],deeds:=p.deeds++dd} (vb S t note ls):=by
 have en:∀ e∈p.ents++[⟨p.ents.length+1,t,note,ls,0⟩],uJ p.names e:=fun e he=>by
  rcases Ov.mp he with he|he
  .exact G.ent e he
  .rw[Oi.mp he];exact q.ent h1 ht
 have cu:∀ e∈p.ents++[⟨p.ents.length+1,t,note,ls,0⟩],∀ x∈e.lines,x.2.1∈p.curs:=fun e he x hx=>by
  rcases Ov.mp he with he|he
  .exact G.cu e he x hx
  .rw[Oi.mp he] at hx;exact q.u x hx
 exact {names:=G.names,nm:=G.nm,nl:=G.nl,nd:=G.nd,ic:=G.ic,c3:=G.c3,c10:=G.c10,home:=G.home,made:=by show S.made++[⟨S.made.length+1,t,note,ls,0⟩]=_;rw[G.made],ends:=G.ends,gone:=G.gone,tell:=⟨G.tell.choose,G.tell.choose_spec.of rfl rfl⟩,rw:=G.rw,ent:=en,cl1:=G.cl1,cl2:=G.cl2,l1:=bE G.l1,l2:=OF G.l2,l3:=OF G.l3,l4:=OF G.l4,l5:=hdd,l6:=bE G.l6,cu:=cu,nos:=G.nos.snoc rfl,inc:=G.inc,tc:=G.tc}
theorem zg {c k:Int} (h:gt σ m n p S) (G:Gd N p S) (hN:N<=800) (ho:cl p.ends<99999):∃ p' S',Gd (N+1) p' S'/\Ke p p'/\CC (d+4) false 81 [.p n 0,.p m 0,.d (.int c),.d (.int k)] σ=some (.ok (.d (.bool true)),bb σ m n p' S'):=by
 refine aW fun G9 k9=> ?_;obtain ⟨t,h1,h2,dr⟩:=j7 (c:=c) h.r (o1 hN G.l3) G.cl1 ho;obtain ⟨note,hn,en⟩:=s6 (n:=k);obtain ⟨ls,q,er⟩:=vF (d:=d+1) (b:=c.fdiv 5) (k:=k) h.r G;refine k9 ?_;have sh:=G.sh (o6 hN);have qh:=q.hi;have po:∀ d σ n,Bk σ n S->CC (d+3) false 20 [.p n 0,.d (.int t),.d (.str note),.d (.lst (ls.map bC))] σ=some (.ok (.d (.int (S.made.length+1))),σ.set n (bk (vb S t note ls))):=fun d σ n b=>w9 b sh h1 (by rw[G.ends];exact h2) hn ⟨q.lo,q.hi⟩ (fun l hl=>⟨by rw[G.names];exact (q.l l hl).1,(q.l l hl).2.1,(q.l l hl).2.2⟩) (Cj q.z (by omega));refine ⟨_,_,G.post h1 hn q (dd:=[jy t note ls]) (bE G.l5),⟨rfl,rfl,O1 Of,.ents h2⟩,?_⟩;have pr:=mB (d:=d+2) (t:=t) (b:=0) (note:=note) (ls:=ls) h.r (o0 hN G.l1) (H_ qh);have r1:Rk (σ.set m (pk {p with ents:=p.ents++[⟨p.ents.length+1,t,note,ls,0⟩]})) m {p with ents:=p.ents++[⟨p.ents.length+1,t,note,ls,0⟩]}:=ii h.r.lt;have tp:∀ s:av,gP.g false [.d (.lst (ls.map bC))] s=some (.ok (.d (.tup (ls.map bC))),s):=fun s=>by
  show (aq ((ls.map bC).length<=dX) (D.tup (ls.map bC))).map _=_;rw[aR (by rw[Oc];exact bA (H_ qh))];rfl
 have a1:=iR (K:=KK (d+3) false) (ρ:=[qV n,qV m,iV c,iV k,iV t,sV note,dV (.lst (ls.map bC)),iV (p.ents.length+1)]) (e:=ag 1) (a:=bw (aj (aU [101,110,116,114,121]) (aj (ag 4) (aj (ag 5) (aj (bi gP (aj (ag 6) au)) au))))) (s:=Pj) (t:=jy t note ls) r1 (by have:=G.l5;show p.deeds.length<=_;exact o0 hN this) rfl (bB (c5 rfl (c5 rfl (c5 rfl (cl1 (b7 (cl1 rfl) (tp _)))))));rw[List.set_set] at a1;have b2:Bk (σ.set m (pk {p with ents:=p.ents++[⟨p.ents.length+1,t,note,ls,0⟩],deeds:=p.deeds++[jy t note ls]})) n S:=h.bm;exact aS rfl rfl (ρ:=[qV n,qV m,iV c,iV k,none,none,none,none]) rfl (aa (aA (az rfl (dr (d+1) _ h.r)) rfl) (aa (aA (az (cl1 rfl) (en (d+2) _)) rfl) (aa (aA (az rfl er) rfl) (aa (aA (az rfl pr) rfl) (aa (aB a1) (aP (aM (iU (bW b2 rfl rfl (po d _ n b2)) rfl rfl rfl (i9 (by rw[G.made])))))))))) jJ
end
section
variable {d m n i N:Nat} {hd:Bool} {p p':Pl} {S S':St} {K:cP} {ρ:a9} {σ σ':av} {e a:CE} {t:Int} {s h c:List Nat}
noncomputable abbrev qS (n m:Nat) (w b k:Int):a9:=[qV n,qV m,iV w,iV b,iV k]
noncomputable abbrev qD (n m:Nat) (sc:List Int) (f l:Int) (x:Option PV):a9:=[qV n,qV m,dV (.lst (sc.map .int)),iV f,iV l,x]
def E4 (p:Pl):Prop:=(p.ents.length:Int)<=p.most+1
structure Kf (p p':Pl):Prop where
 c:p'.curs=p.curs
 m:p'.most=p.most
 k:E4 p->E4 p'
 g:Gr p p'
theorem Ad {w b k:Int} (h:gt σ m n p S) (G:Gd N p S) (hN:N<=800):∃ p' S',Gd (N+1) p' S'/\Ke p p'/\(E4 p->E4 p')/\CC (d+5) false 82 [.p n 0,.p m 0,.d (.int w),.d (.int b),.d (.int k)] σ=some (.ok (.d (.bool true)),bb σ m n p' S'):=by
 have cr:=fD (d:=d+3) (hd:=false) h.r (o1 hN G.l3);have le:Ev (KK (d+4) false) (bi ba (aj (key (ag 1) 3 Pi) au)) (qS n m w b k) σ (.d (.int p.ents.length)):=nM h.r (o0 hN G.l1) rfl;have same:∀ (hz:q_.ex (KK (d+4) false) (qS n m w b k) σ=some (.ret (.d (.bool true)),σ)),∃ p' S',Gd (N+1) p' S'/\Ke p p'/\(E4 p->E4 p')/\CC (d+5) false 82 [.p n 0,.p m 0,.d (.int w),.d (.int b),.d (.int k)] σ=some (.ok (.d (.bool true)),bb σ m n p' S'):=fun hz=>⟨p,S,G.mono (OV _),⟨rfl,rfl,OV _,.refl⟩,id,by rw[h.same];exact aS rfl rfl rfl hz (tk _)⟩;by_cases z1:99999<=cl p.ends
 .exact same (aP (cK (bT (i0 (an (az (cl1 rfl) cr) rfl rfl rfl (GY z1)))) rfl))
 by_cases z2:p.most<p.ents.length
 .exact same (aP (cK (bT (bF (an (az (cl1 rfl) cr) rfl rfl rfl (Eb z1)) (i0 (an le (vM h.r rfl) rfl rfl (D6 z2))))) rfl))
 have ho:cl p.ends<99999:=by exact Int.lt_of_not_ge z1
 have s1:ny.ex (KK (d+4) false) (qS n m w b k) σ=some (.next (qS n m w b k),σ):=bj (bT (bF (an (az (cl1 rfl) cr) rfl rfl rfl (Eb z1)) (bF (an le (vM h.r rfl) rfl rfl (t9 z2)) rfl))) rfl;have w8:Ev (KK (d+4) false) (aG aY (ag 2) (ai 8)) (qS n m w b k) σ (.d (.int (w.fmod 8))):=rfl;have fin:∀ (hx:∃ p' S',Gd (N+1) p' S'/\Ke p p'/\q_.ex (KK (d+4) false) (qS n m w b k) σ=some (.ret (.d (.bool true)),bb σ m n p' S')),∃ p' S',Gd (N+1) p' S'/\Ke p p'/\(E4 p->E4 p')/\CC (d+5) false 82 [.p n 0,.p m 0,.d (.int w),.d (.int b),.d (.int k)] σ=some (.ok (.d (.bool true)),bb σ m n p' S'):=fun ⟨p',S',g,ke,e⟩=>⟨p',S',g,ke,fun _=>by unfold E4;rw[ke.m];have:=ke.e;exact OL (OO.mpr this) (Int.add_le_add_right (Pc.mp z2) 1),aS rfl rfl rfl e jJ⟩;refine fin ?_;by_cases y1:w.fmod 8<3
 .obtain ⟨p',S',g,ke,e⟩:=zg (d:=d) (c:=b) (k:=k) h G hN ho;exact ⟨p',S',g,ke,aa s1 (aP (cK (tT y1 rfl) (aP (aM (az rfl e)))))⟩
 have s2:nx.ex (KK (d+4) false) (qS n m w b k) σ=some (.next (qS n m w b k),σ):=bj (tF y1 rfl) rfl;by_cases y2:w.fmod 8=3
 .by_cases y3:(w.fdiv 8).fmod 3=0
  .obtain ⟨p',S',g,ke,e⟩:=vJ (d:=d+1) (c:=b) h G hN;exact ⟨p',S',g,ke,aa s1 (aa s2 (aP (cK (cn (cF (an w8 rfl rfl rfl (i9 y2)) (cF (an (dP (dz rfl)) rfl rfl rfl (i9 y3)) rfl))) (aP (aM (az (c5 rfl (c5 rfl (cl1 rfl))) e))))))⟩
  .obtain ⟨p',S',g,ke,e⟩:=ze (d:=d) (c:=b) (k:=k) h G hN ho;exact ⟨p',S',g,ke,aa s1 (aa s2 (aa (bj (cn (cF (an w8 rfl rfl rfl (i9 y2)) (fH (an (dP (dz rfl)) rfl rfl rfl (n7 y3))))) rfl) (aP (cK (an w8 rfl rfl rfl (i9 y2)) (aP (aM (az rfl e)))))))⟩
 have s3:nv.ex (KK (d+4) false) (qS n m w b k) σ=some (.next (qS n m w b k),σ):=bj (cn (fH (tF y2 rfl))) rfl;have s4:nu.ex (KK (d+4) false) (qS n m w b k) σ=some (.next (qS n m w b k),σ):=bj (tF y2 rfl) rfl;by_cases y4:w.fmod 8<6
 .obtain ⟨p',S',g,ke,e⟩:=rq (d:=d) (c:=b) (k:=k) h G hN ho;exact ⟨p',S',g,ke,aa s1 (aa s2 (aa s3 (aa s4 (aP (cK (tT y4 rfl) (aP (aM (az rfl e))))))))⟩
 have s5:nt.ex (KK (d+4) false) (qS n m w b k) σ=some (.next (qS n m w b k),σ):=bj (tF y4 rfl) rfl;by_cases y5:w.fmod 8=6
 .obtain ⟨p',S',g,ke,e⟩:=pq (d:=d) (c:=b) (k:=k) h G hN ho;exact ⟨p',S',g,ke,aa s1 (aa s2 (aa s3 (aa s4 (aa s5 (aP (cK (tT y5 rfl) (aP (aM (az rfl e)))))))))⟩
 refine aW fun G9 k9=> ?_;obtain ⟨p',S',g,ke,_,e⟩:=Al (d:=d) (c:=b) h G hN ho;refine k9 ?_;exact ⟨p',S',g,ke,aa s1 (aa s2 (aa s3 (aa s4 (aa s5 (aa (bj (tF y5 rfl) rfl) (aP (aM (az rfl e))))))))⟩
theorem wL {a:CT} {q:Bool} (h:a.ts K ρ σ=some (.ok q,σ')):(dD a).ts K ρ σ=some (.ok (!q),σ'):=aC h rfl
theorem qv {q:Bool} (h:a.ev K ρ σ=some (.ok (.d (.bool q)),σ')):(lu a).ts K ρ σ=some (.ok q,σ'):=aC h rfl
theorem xF {t:CT} {a b:CS} {z:Option (Out×av)} (h:t.ts K ρ σ=some (.ok false,σ')) (k:b.ex K ρ σ'=z):(cI t a b).ex K ρ σ=z:=cJ h k
theorem v6 {sc:List Int} {k:Nat} {x:CE} (hs:sc.length<=63) (he:Ev K e ρ σ (.d (.lst (sc.map .int)))) (hx:Ev K x ρ σ (.d (.int k))) (hk:k<sc.length):Ev K (sub e x) ρ σ (.d (.int (cell sc k))):=bc he hx rfl rfl (dN (by rw[Ou,Oh hk,cell,Ow,Oh hk];rfl) (Om (OQ (OD hk hs)) (Oj rfl)))
theorem GB {a b:Int} (h1:0<=a/\a<=1000) (h2: -1000<=b/\b<=1000):items (.rng a b 3)=some ((List.range (ch a b 3)).map fun (i:Nat)=>.int (a+(i:Int)*3))/\(∀ i,i<ch a b 3->a+(i:Int)*3<b)/\ch a b 3<=1000:=by
 have hr:ch a b 3<=1000/\∀ i:Nat,i<ch a b 3->a+(i:Int)*3<b:=by
  unfold ch;by_cases q:a<b
  .rw[if_pos q];exact ⟨by exact Int.toNat_le.mpr (OL (Int.add_le_add_right (Int.ediv_le_ediv (by decide) (Int.sub_le_sub (Int.sub_le_sub h2.2 h1.1) (Int.le_refl 1))) 1) (by decide)),fun i hi=>by exact Int.add_lt_of_lt_sub_left (Int.lt_of_le_sub_one (Int.mul_le_of_le_ediv (by decide) (Int.le_of_lt_add_one (Int.lt_toNat.mp hi))))⟩
  .rw[if_neg q];exact ⟨by decide,fun i hi=>L5 hi⟩
 refine ⟨?_,hr.2,hr.1⟩;rw[nT,aR];rw[dh (OL (by decide) h1.1) (OL h1.2 (by decide)),dh (h2.1) (OL h2.2 (by decide)),Os (by decide),Os (by decide),Os (by omega)];rfl
theorem KL {f m:Int} (h:0<=f) (k:m<=61):ch f m 3<=70:=by
 unfold ch;split<;>omega
theorem pZ {sc:List Int} {f l:Int} (hs:sc.length<=63) (hf:0<=f/\f<=500) (hl:0<=l/\l<=500) (h:gt σ m n p S) (G:Gd N p S) (hN:N<=700):∃ p' S',Gd (N+70) p' S'/\Kf p p'/\CC (d+6) false 83 [.p n 0,.p m 0,.d (.lst (sc.map .int)),.d (.int f),.d (.int l)] σ=some (.ok (.d (.bool true)),bb σ m n p' S'):=by
 have i3:=GB (a:=f) (b:=min (sc.length - 2) l) ⟨by exact hf.1,by exact OL hf.2 (by decide)⟩ ⟨No hl,by exact OL (O_ _ _) (OL (Int.sub_le_self _ (by decide)) (OL (OO.mpr hs) (by decide)))⟩;have r63:ch f (min (sc.length - 2) l) 3<=70:=by
  exact KL hf.1 (OL (O_ _ _) (Int.sub_le_sub_right (OO.mpr hs) 2))
 refine aW fun G9 k9=> ?_;obtain ⟨ρ2,s2,lp,p',S',x5,rfl,rfl,g,ke⟩:=xN (v:=.d (.rng f (min (sc.length - 2) l) 3)) (x:=.rng f (min (sc.length - 2) l) 3) (i:=5) (b:=fun ρ=>lB.ex (KK (d+5) false) ρ) 70
  (fun pre ρ s=>∃ p' S' x5,ρ=(qD n m sc f l x5)/\s=bb σ m n p' S'/\Gd (N+pre.length) p' S'/\Kf p p') ((List.range (ch f (min (sc.length - 2) l) 3)).map fun (i:Nat)=>.int (f+(i:Int)*3)) [] (qD n m sc f l none) σ (by rw[Oc,List.length_range,O2];omega) ⟨p,S,none,rfl,h.same.symm,G,rfl,rfl,id,.refl⟩ fun pre x ρ s hx hp H9=>by
   obtain ⟨p',S',x5,h1,h2,g,ke⟩:=H9;obtain ⟨i,hi,rfl⟩:=Ot.mp hx;have hi':=i3.2.1 i (List.mem_range.mp hi);subst h1 h2;have kk:f+(i:Int)*3=((f.toNat+i*3:Nat):Int):=LZ hf;rw[kk];obtain ⟨p2,S2,g2,ke2,kc,e⟩:=Ad (d:=d) (w:=cell sc (f.toNat+i*3)) (b:=cell sc (f.toNat+i*3+1)) (k:=cell sc (f.toNat+i*3+2)) (h.to p' S') g (Om (Nat.add_le_add hN (OQ hp)) (by decide));rw[Fp h.ne] at e;have e1:∀ (o:PV) s,Ev (KK (d+5) false) (aG bf (ag 5) (ai 1)) (qD n m sc f l (iV ((f.toNat+i*3:Nat):Int))) s (.d (.int ((f.toNat+i*3+1:Nat):Int))):=fun o s=>by rw[Int.natCast_add (f.toNat+i*3) 1];exact rfl
   have e2:∀ (o:PV) s,Ev (KK (d+5) false) (aG bf (ag 5) (ai 2)) (qD n m sc f l (iV ((f.toNat+i*3:Nat):Int))) s (.d (.int ((f.toNat+i*3+2:Nat):Int))):=fun o s=>by rw[Int.natCast_add (f.toNat+i*3) 2];exact rfl
   have g0:Ev (KK (d+5) false) (sub (ag 2) (ag 5)) (qD n m sc f l (iV ((f.toNat+i*3:Nat):Int))) (bb σ m n p' S') (.d (.int (cell sc (f.toNat+i*3)))):=v6 hs rfl rfl (Nat.lt_of_succ_lt (LY hf hi'));have g1:Ev (KK (d+5) false) (sub (ag 2) (aG bf (ag 5) (ai 1))) (qD n m sc f l (iV ((f.toNat+i*3:Nat):Int))) (bb σ m n p' S') (.d (.int (cell sc (f.toNat+i*3+1)))):=v6 hs rfl (e1 (.p 0 0) _) (Nat.lt_of_succ_lt (F7 hf hi'));have g2':Ev (KK (d+5) false) (sub (ag 2) (aG bf (ag 5) (ai 2))) (qD n m sc f l (iV ((f.toNat+i*3:Nat):Int))) (bb σ m n p' S') (.d (.int (cell sc (f.toNat+i*3+2)))):=v6 hs rfl (e2 (.p 0 0) _) (F7 hf hi');have ar:=c5 (K:=KK (d+5) false) (ρ:=(qD n m sc f l (iV ((f.toNat+i*3:Nat):Int)))) (σ:=bb σ m n p' S') (a:=ag 0) (x:=.p n 0) rfl (c5 (a:=ag 1) (x:=.p m 0) rfl (c5 g0 (c5 g1 (cl1 g2'))));exact ⟨_,_,aa (xF (wL (qv (az ar e))) rfl) rfl,rfl,⟨p2,S2,_,rfl,rfl,by rw[Of];exact g2,ke2.c.trans ke.c,ke2.m.trans ke.m,fun q=>kc (ke.k q),ke.g.trans ke2.g (ke.g.cl g.inc)⟩⟩
 refine k9 ?_;rw[List.nil_append,Oc,List.length_range] at g;refine ⟨p',S',g.mono (by omega),ke,aS rfl rfl (ρ:=(qD n m sc f l none)) rfl ?_ jJ⟩;have ln:Ev (KK (d+5) false) (bi ba (aj (ag 2) au)) (qD n m sc f l none) σ (.d (.int sc.length)):=by
  have q:=j1 (hd:=false) (σ:=σ) (x:=.d (.lst (sc.map .int))) rfl (by rw[Oc];exact bA (Om (hs) (Oj rfl)));rw[Oc] at q;exact b7 rfl q
 have mn:Ev (KK (d+5) false) (bi pY (aj (aG dm (bi ba (aj (ag 2) au)) (ai 2)) (aj (ag 4) au))) (qD n m sc f l none) σ (.d (.int (min (sc.length - 2) l))):=b7 (c5 (aQ ln rfl rfl rfl rfl) rfl) rfl;have rg:Ev (KK (d+5) false) (bi xP (aj (ag 3) (aj (bi pY (aj (aG dm (bi ba (aj (ag 2) au)) (ai 2)) (aj (ag 4) au))) (aj (ai 3) au)))) (qD n m sc f l none) σ (.d (.rng f (min (sc.length - 2) l) 3)):=by
  refine b7 (c5 rfl (c5 mn rfl)) ?_;show (aq ((bI f&&bI (min (sc.length - 2) l)&&decide ((0:Int)<3)&&decide ((3:Int)<1000))=true) (PV.d (.rng f (min (sc.length - 2) l) 3))).map _=_;rw[aR (by rw[dh (OL (by decide) hf.1) (OL hf.2 (by decide)),dh (No hl) (OL (O_ _ _) (OL (Int.sub_le_self _ (by decide)) (OL (OO.mpr hs) (by decide))))];rfl)];rfl
 exact aa (bP rg (fZ i3.1) lp) rfl
end
section
variable {r:av} {d:Nat} {hd:Bool} {K:cP} {ρ ρ':a9} {σ σ':av}
end
section
variable {T:List (List Nat)} {w:List Nat} {K:cP}
noncomputable def kB (T:List (List Nat)) (w:List Nat):List (List Nat):=if w∈cV::T then T else T++[w]
theorem mD (h:Hw T) (hw:pv w) (fw:w≠iZ):Hw (kB T w):=by
 unfold kB;by_cases q:w∈cV::T
 .rw[if_pos q];exact h
 rw[if_neg q];refine ⟨List.nodup_append.mpr ⟨h.nd,OW.mpr ⟨Oy,OZ⟩,fun a ha c hc=>by rw[Oi.mp hc];rintro rfl;exact q (.tail _ ha)⟩,fun z=> ?_,fun y hy=> ?_,fun z=> ?_⟩
 .rcases Ov.mp z with z|z
  .exact h.ne z
  .exact q (by rw[<-Oi.mp z];exact .head _)
 .rcases Ov.mp hy with z|z
  .exact h.nm y z
  .rw[Oi.mp z];exact hw
 .rcases Ov.mp z with z|z
  .exact h.st z
  .exact fw (Oi.mp z).symm
theorem mG:T.length<=(kB T w).length/\(kB T w).length<=T.length+1/\(w≠cV->1<=(kB T w).length):=by
 unfold kB;by_cases q:w∈cV::T
 .rw[if_pos q];exact ⟨Oo _,OV _,fun z=>(Oe.mp q).elim (fun y=>absurd y z) List.length_pos_of_mem⟩
 .rw[if_neg q,Of];exact ⟨O5 _ _,Oo _,fun _=>Nat.le_add_left _ _⟩
theorem mE {a b:Option PV} {o1 B:PO} (h:T.length<=4):jX.ex (KK 6 false) [a,b,qV 2,sV w] [o1,B,.fld (.list ((cV::T).map .str))]=some (.next [a,b,qV 2,sV w],[o1,B,.fld (.list ((cV::kB T w).map .str))]):=by
 unfold kB;by_cases q:w∈cV::T
 .rw[if_pos q];exact aa (bj (an rfl rfl rfl rfl (AQ q)) rfl) rfl
 .rw[if_neg q,<-List.cons_append,List.map_append];exact aa (cK (an rfl rfl rfl rfl (xg q)) (aa (aB (b_ (n:=2) (j:=0) (l:=(cV::T).map .str) (y:=.str w) rfl rfl rfl (by rw[Oc];exact df (Om (O9 h) (by decide))))) rfl)) rfl
theorem yP {c0 c1:Int}:∃ T,Hw T/\1<=T.length/\T.length<=4/\CC 7 false 87 [.d (.lst [.int c0,.int c1])] [.rcd false []]=some (.ok (.p 1 0),[.rcd false [],.fld (.list ((cV::T).map .str))]):=by
 refine aW fun G9 k9=> ?_;obtain ⟨n0,h0,f0,e0⟩:=nk (d:=5) (σ:=[.rcd false []]) (n:=c0);obtain ⟨n1,h1,f1,e1⟩:=nk (d:=5) (σ:=[.rcd false []]) (n:=c1);obtain ⟨v,hv,fv,x2⟩:∃ v,pv v/\v≠iZ/\jW.ex (KK 6 false) [dV (.lst [.int c0,.int c1]),qV 1,none,none] [.rcd false [],.fld (.list [.str n0,.str n1,.str [97],.str [122,57]])]=some (.next [dV (.lst [.int c0,.int c1]),qV 1,none,none],[.rcd false [],.fld (.list [.str n0,.str v,.str [97],.str [122,57]])]):=by
  by_cases q:c1.fmod 2=1
  .obtain ⟨k,y,hk,hy,e2⟩:=sE (d:=5) (hd:=false) (n:=c1.fdiv 2) (t:=n0) (sg:=m9) (AP h0).1 (by have:=(AP h0).2;exact Om this (Oj rfl)) rfl;exact ⟨n0.set k y,Gb h0 hy,f0 k y,cK (tT q rfl) (aa (iL (bM e2 rfl) rfl rfl rfl) rfl)⟩
  .exact ⟨n1,h1,wf f1,bj (tF q rfl) rfl⟩
 refine k9 ?_;have t1:=mG (T:=[]) (w:=n0);rw[O2] at t1;have t2:=mG (T:=kB [] n0) (w:=v);have t3:=mG (T:=kB (kB [] n0) v) (w:=[97]);have t4:=mG (T:=kB (kB (kB [] n0) v) [97]) (w:=[122,57]);have st:∀ o:PO,bn [.rcd false [],.fld (.list [.str n0,.str v,.str [97],.str [122,57]]),o] (.lst [.str n0,.str v,.str [97],.str [122,57]]) (.p 1 0)=true:=fun o=>dE rfl;exact ⟨_,mD (mD (mD (mD ⟨OZ,Oy,de,Oy⟩ h0 (wf f0)) hv fv) ⟨97,[],rfl,by decide,by decide,de⟩ (by decide)) ⟨122,[57],rfl,by decide,by decide,by decide⟩ (by decide),Om (t3.2.2 (by decide)) t4.1,Om t4.2.1 (O9 (Om t3.2.1 (O9 (Om t2.2.1 (O9 t1.2.1))))),Hf rfl rfl rfl (aa (aA (eW (c5 (bM e0 rfl) (c5 (bM e1 rfl) rfl))) rfl) (aa x2 (aa rfl (aa (bP (v:=.p 1 0) (x:=.lst [.str n0,.str v,.str [97],.str [122,57]]) rfl rfl (bL (mE (T:=[]) (by decide)) (st _) (bL (mE (by omega)) (st _) (bL (mE (by omega)) (st _) (bL (mE (by omega)) (st _) rfl))))) rfl)))) (by decide) rfl rfl⟩
end
section
variable {r:av} {d:Nat} {hd:Bool} {K:cP} {ρ ρ':a9} {σ σ':av}
theorem xG {ds:av} {o:PO}:(σ++(o::ds))[σ.length]? =some o:=by rw[OA (Oo _),Nat.sub_self];rfl
theorem wT {ds:av} {o o':PO}:(σ++(o::ds)).set σ.length o'=σ++(o'::ds):=by rw[List.set_append_right _ _ (Oo _),Nat.sub_self];rfl
theorem wY {ds:av} {b:Bool} {l:List cb}:cA b (σ++(.rcd b l::ds)) σ.length=some l:=by
 unfold cA;rw[xG];exact if_pos rfl
theorem nf {ds ds':av} {b:Bool} {l:List cb}:cA b ((σ++(.rcd b l::ds))++ds') σ.length=some l:=by
 rw[List.append_assoc,List.cons_append];exact wY
theorem qn {ds:av} {o o':PO} {f:cb}:(((σ++(o::ds))++[PO.fld f]).set (σ++(o::ds)).length PO.dead).set σ.length o'=σ++(o'::(ds++[.dead])):=by
 rw[mz,List.append_assoc,List.cons_append,wT]
theorem gr {o a:CE} {k:Nat} {l:List cb} {ds:av} {f:cb} {x:D} (ha:a.ev K ρ (σ++(.rcd true l::ds))=some (.ok (.p (σ++(.rcd true l::ds)).length 0),(σ++(.rcd true l::ds))++[.fld f])) (he:Ev K o ρ ((σ++(.rcd true l::ds))++[.fld f]) (.p σ.length 0)) (hk:k=l.length) (hr:f.rd=some x):(jd o k a).ex K ρ (σ++(.rcd true l::ds))=some (.next ρ,σ++(.rcd true (l++[f])::(ds++[.dead]))):=by
 refine uz ha he ?_;show (cA true ((σ++(.rcd true l::ds))++[.fld f]) σ.length).bind _=_;rw[nf,Od,aR hk,Od];show (aq ((σ++(.rcd true l::ds)).length≠σ.length) ()).bind _=_;rw[aR (by rw[Of,Ok];exact NF),Od,dO,Od,hr];exact congrArg some qn
theorem Br {h:List Nat} (hc:bo h=true):CC (d+2) false 0 [.p σ.length 0,.d (.str h)] (σ++[.rcd true []])=some (.ok (.d .none),σ++[bk (st0 h)]):=by
 have l0:∀ s,Ev (KK (d+1) false) (ag 0) [qV σ.length,sV h] s (.p σ.length 0):=fun s=>rfl;have a1:(jd (ag 0) 0 (ag 1)).ex (KK (d+1) false) [qV σ.length,sV h] (σ++[.rcd true []])=some (.next [qV σ.length,sV h],σ++[.rcd true [.d (.str h)]]):=by
  refine uz (v:=.d (.str h)) rfl (l0 _) ?_;show (cA true (σ++[.rcd true []]) σ.length).bind _=_;rw[wY,Od,aR (show 0=([]:List cb).length from rfl),Od];exact congrArg some wT
 have a2:=gr (K:=KK (d+1) false) (ρ:=[qV σ.length,sV h]) (σ:=σ) (o:=ag 0) (a:=fu (aj (aU Po) au)) (k:=1) (l:=[.d (.str h)]) (ds:=[]) (f:=.list [.str cV]) (eW rfl) (l0 _) rfl rfl;have a3:=gr (K:=KK (d+1) false) (ρ:=[qV σ.length,sV h]) (σ:=σ) (o:=ag 0) (a:=nn) (k:=2) (l:=[.d (.str h),.list [.str cV]]) (ds:=[.dead]) (f:=.dict [] []) rfl (l0 _) rfl rfl;have a4:=gr (K:=KK (d+1) false) (ρ:=[qV σ.length,sV h]) (σ:=σ) (o:=ag 0) (a:=fu au) (k:=3) (l:=[.d (.str h),.list [.str cV],.dict [] []]) (ds:=[.dead,.dead]) (f:=.list []) (eW rfl) (l0 _) rfl rfl;have a5:=gr (K:=KK (d+1) false) (ρ:=[qV σ.length,sV h]) (σ:=σ) (o:=ag 0) (a:=nn) (k:=4) (l:=[.d (.str h),.list [.str cV],.dict [] [],.list []]) (ds:=[.dead,.dead,.dead]) (f:=.dict [] []) rfl (l0 _) rfl rfl;have a6:=gr (K:=KK (d+1) false) (ρ:=[qV σ.length,sV h]) (σ:=σ) (o:=ag 0) (a:=fu au) (k:=5) (l:=[.d (.str h),.list [.str cV],.dict [] [],.list [],.dict [] []]) (ds:=[.dead,.dead,.dead,.dead]) (f:=.list []) (eW rfl) (l0 _) rfl rfl;have a7:=gr (K:=KK (d+1) false) (ρ:=[qV σ.length,sV h]) (σ:=σ) (o:=ag 0) (a:=fu au) (k:=6) (l:=[.d (.str h),.list [.str cV],.dict [] [],.list [],.dict [] [],.list []]) (ds:=[.dead,.dead,.dead,.dead,.dead]) (f:=.list []) (eW rfl) (l0 _) rfl rfl;refine fm rfl rfl (ρ:=[qV σ.length,sV h]) rfl (aa (aB (bM (bX hc) rfl)) (aa a1 (aa a2 (aa a3 (aa a4 (aa a5 (aa a6 (aa a7 rfl)))))))) ?_;have e:σ++(bk (st0 h)::[.dead,.dead,.dead,.dead,.dead,.dead])=(σ++[bk (st0 h)])++[.dead,.dead,.dead,.dead,.dead,.dead]:=by rw[List.append_assoc];rfl
 show (σ++(bk (st0 h)::[.dead,.dead,.dead,.dead,.dead,.dead])).take (σ++[PO.rcd true []]).length=_;rw[e,show (σ++[PO.rcd true []]).length=(σ++[bk (st0 h)]).length by rw[Of,Of];rfl];exact List.take_left
theorem JO {p s f:Nat} {kp:Bool} {b:CS} {args:List PV} {o:PO} {ds σ'':av} (hT:TT f=some ⟨p,s,kp,b.ex⟩) (hl:args.length=p) (hr:args.map some++List.replicate (s - p) none=ρ) (h:b.ex (KK d hd) ρ σ=some (.ret (.p σ.length 0),σ++(o::ds))) (ho:∀ f,o≠ .fld f) (k:σ++[o]=σ''):CC (d+1) hd f args σ=some (.ok (.p σ.length 0),σ''):=
 lQ hT hl hr h (by
  show (if σ.length<σ.length then _ else u8 kp σ.length (σ++(o::ds)) 0 (σ++(o::ds))[σ.length]?)=_;rw[if_neg (OU _),xG,<-k];cases o with
  |fld f=>exact absurd rfl (ho f)
  |rcd i l=>show some (R.ok (PV.p σ.length 0),(σ++(PO.rcd i l::ds)).take σ.length++[.rcd i l])=_;rw[List.take_left]
  |dead=>show some (R.ok (PV.p σ.length 0),(σ++(PO.dead::ds)).take σ.length++[.dead])=_;rw[List.take_left]
  |wrp f=>show some (R.ok (PV.p σ.length 0),(σ++(PO.wrp f::ds)).take σ.length++[.wrp f])=_;rw[List.take_left])
end
section
variable {d m n N:Nat} {hd:Bool} {K:cP} {ρ ρ':a9} {σ σ':av} {p p':Pl} {S S':St} {sc:List Int} {e:CE}
theorem zA {s:List Nat} {a:CE} {f:cb} {x:D} (ha:a.ev K ρ (σ++[.rcd false []])=some (.ok (.p (σ++[PO.rcd false []]).length 0),(σ++[.rcd false []])++[.fld f])) (hr:f.rd=some x):(AR s a).ev K ρ σ=some (.ok (.p σ.length 0),σ++(.rcd false [f]::[.dead])):=by
 show bz (g8 (.rcd false [])) (fun x=>bz ((aU s).ev K ρ) fun y=>bz (a.ev K ρ) fun v=>Am s x y v) σ=_;refine aC (m:=g8 (.rcd false [])) (a:=PV.p σ.length 0) (σ':=σ++[PO.rcd false []]) rfl ?_;refine aC (m:=(aU s).ev K ρ) (a:=PV.d (.str s)) (σ':=σ++[PO.rcd false []]) rfl (aC ha ?_);have rl:ij (.p σ.length 0) ((σ++[.rcd false []])++[.fld f])=0:=by
  show ((cA false ((σ++[.rcd false []])++[.fld f]) σ.length).getD []).length=_;rw[nf];rfl
 show (aq (ij (.p σ.length 0) ((σ++[.rcd false []])++[.fld f])=0) ()).bind _=_;rw[aR rl,Od];show (ng [s] 0 (.p (σ++[PO.rcd false []]).length 0) (.p σ.length 0) (.d (.str s)) ((σ++[.rcd false []])++[.fld f])).map _=_;unfold ng;show ((aq (jc (.d (.str s))=some s) ()).bind fun _=>Dh 0 (.p σ.length 0) (.p (σ++[PO.rcd false []]).length 0) ((σ++[.rcd false []])++[.fld f])).map _=_;rw[aR (show jc (.d (.str s))=some s from rfl),Od];show ((cA false ((σ++[.rcd false []])++[.fld f]) σ.length).bind _).map _=_;rw[nf,Od];show ((aq (0=([]:List cb).length/\0<100/\(σ++[PO.rcd false []]).length≠σ.length) ()).bind _).map _=_;rw[aR ⟨rfl,by decide,by rw[Of,Ok];exact NF⟩,Od,dO,Od,hr];show some (R.ok (PV.p σ.length 0),(((σ++(PO.rcd false []::[]))++[PO.fld f]).set (σ++(PO.rcd false []::[])).length .dead).set σ.length (.rcd false [f]))=_;rw[qn];rfl
noncomputable def Dv (T F:List (List Nat)) (mo:Int):Pl:=⟨cV::T,(T.length:Int)+1,F,[],[],[],[],[],mo,[]⟩
theorem B8 {i j:Nat} {x:Option PV} {s:av} (hs:sc.length<=63) (hi:i<=100) (hj:j<=100):(aj (cU (aj (ax 33 (aj (ag 0) (aj (ai (i:Nat)) au))) (aj (ax 33 (aj (ag 0) (aj (ai (j:Nat)) au))) au))) au).ev (KK 7 false) [dV (.lst (sc.map .int)),x,none] s=some (.ok [.d (.lst [.int (cell sc i),.int (cell sc j)])],s):=cl1 (dQ (c5 (xS (d:=6) hs rfl rfl (Om (hi) (Oj rfl))) (cl1 (xS (d:=6) hs rfl rfl (Om (hj) (Oj rfl))))))
theorem yF (hs:sc.length<=63):∃ T F,Hw T/\1<=T.length/\T.length<=4/\F.Nodup/\(∀ x∈F,bo x=true)/\3<=F.length/\F.length<=8/\(∃ n0 v,∀ x∈F,x∈n0::v::curs)/\CC 8 false 88 [.d (.lst (sc.map .int))] []=some (.ok (.p 0 0),[pk (Dv T F 20)]):=by
 obtain ⟨T,hT,hT1,hT4,eN⟩:=yP (c0:=cell sc 0) (c1:=cell sc 1);obtain ⟨F,hF,hC,hF3,hF10,hFq,eF⟩:=n9 (o1:=.rcd false [.list ((cV::T).map .str),.d (.int ((T.length:Int)+1))]) (o2:=.dead) (c0:=cell sc 2) (c1:=cell sc 3);have ln:=fM (K:=KK 7 false) (ρ:=[dV (.lst (sc.map .int)),qV 0,none]) (σ:=[.rcd false [.list ((cV::T).map .str)],.dead]) (e:=key (ag 1) 0 Pg) (x:=.p 0 2) (l:=(cV::T).map .str) rfl rfl (by rw[Oc];exact Om (O9 hT4) (by decide));rw[Oc] at ln;exact ⟨T,F,hT,hT1,hT4,hF,hC,hF3,hF10,hFq,lQ (o:=.ret (.p 0 0)) (σ':=pk (Dv T F 20)::List.replicate 6 .dead) rfl rfl rfl (aa (aA (zA (σ:=[]) (bM eN (B8 hs (by decide) (by decide))) rfl) rfl) (aa (ρ':=[dV (.lst (sc.map .int)),qV 0,none]) (σ':=[.rcd false [.list ((cV::T).map .str),.d (.int ((T.length:Int)+1))],.dead]) (cJ ln rfl) (aa (ρ':=[dV (.lst (sc.map .int)),qV 0,none]) (σ':=[.rcd false [.list ((cV::T).map .str),.d (.int ((T.length:Int)+1)),.d (.lst (F.map .str))],.dead]) (cJ (bM eF (B8 hs (by decide) (by decide))) rfl) (by kernel_rfl)))) rfl⟩
theorem wB {v:D}:∀ (T:List (List Nat)) (S:St) (x2:Option PV),Sh S->(∀ x∈T,pv x/\x∉S.names)->T.Nodup->S.names.length+T.length<=100->S.deeds.length+T.length<=100->∃ y2,eU (.d v) v 2 (fun ρ=>nJ.ex (KK (d+2) false) ρ) (T.map .str) [qV m,qV σ.length,x2] (σ++[bk S])=some (.next [qV m,qV σ.length,y2],σ++[bk {S with names:=S.names++T,deeds:=S.deeds++T.map pI}]):=by
 intro T
 induction T with
 |nil=>
  intro S x2 _ _ _ _ _;exact ⟨x2,by simp only [List.map_nil,List.append_nil];rfl⟩
 |cons b T ih=>
  intro S x2 sh h nd l1 l2;rw[Ok] at l1 l2;have B:Bk (σ++[bk S]) σ.length S:=eR;have ar:=oJ (d:=d) B sh (h b (.head _)).1 (h b (.head _)).2;rw[mz] at ar;obtain ⟨y2,e⟩:=ih (jF S b) (sV b) ⟨by show (S.names++[b]).length<=_;rw[Of,On];exact LX l1,sh.t,sh.m,sh.g,sh.e,by show (S.deeds++[pI b]).length<=_;rw[Of,On];exact LW l2⟩ (fun x hx=>⟨(h x (.tail _ hx)).1,fun z=>by
   rcases Ov.mp z with z|z
   .exact (h x (.tail _ hx)).2 z
   .rw[Oi.mp z] at hx;exact (OW.mp nd).1 hx⟩) (OW.mp nd).2 (by show (S.names++[b]).length+_<=_;rw[Of,On];exact Nm l1) (by show (S.deeds++[pI b]).length+_<=_;rw[Of,On];exact Nm l2)
  refine ⟨y2,bL (aa (aB (bW B rfl (cl1 rfl) ar)) rfl) rfl (e.trans ?_)⟩;simp only [jF,List.append_assoc,List.map_cons];rfl
noncomputable def Hh (h:List Nat) (T:List (List Nat)):St:=⟨h,cV::T,[],[],[],[],[],T.map pI⟩
theorem DC {h:List Nat} {l:CL} (hl:l.ev (KK (d+2) false) ρ σ=some (.ok [.d (.str h)],σ)) (hh:bo h=true):(Jl l).ev (KK (d+2) false) ρ σ=some (.ok (.p σ.length 0),σ++[bk (st0 h)]):=by
 refine aC hl ?_;refine aC (m:=Jk) (a:=PV.p σ.length 0) (σ':=σ++[PO.rcd true []]) rfl ?_;refine aC (Br (d:=d) hh) ?_;rfl
theorem Cc {h:List Nat} {T G:List (List Nat)} (R:Rk σ m p) (hn:p.names=cV::T) (hc:p.curs=h::G) (hh:bo h=true) (hT:Hw T) (ht:T.length<=10):CC (d+3) false 86 [.p m 0] σ=some (.ok (.p σ.length 0),σ++[bk (Hh h T)]):=by
 have sh0:Sh (st0 h):=⟨Oj rfl,Oj rfl,Oj rfl,Oj rfl,Oj rfl,Oj rfl⟩;obtain ⟨y2,lp⟩:=wB (d:=d) (m:=m) (σ:=σ) (v:=.lst (T.map .str)) T (st0 h) none sh0 (fun x hx=>⟨hT.nm x hx,fun z=>by rw[Oi.mp z] at hx;exact hT.ne hx⟩) hT.nd (by show 1+_<=_;exact Om (OS ht 1) (Oj rfl)) (by show 0+_<=_;exact Om (OS ht 0) (Oj rfl));refine JO (o:=bk (Hh h T)) (ds:=[]) rfl rfl (ρ:=[qV m,none,none]) rfl ?_ (fun f h=>nomatch (show PO.rcd true (mf _)= .fld f from h)) rfl;have e0:Ev (KK (d+2) false) (sub (key (ag 0) 2 Ph) (ai 0)) [qV m,none,none] σ (.d (.str h)):=bc (ju R rfl) rfl rfl rfl (dN (k:=0) (by rw[hc];rfl));have R':Rk (σ++[bk (st0 h)]) m p:=R.app;have sl:=FJ (l:=p.names.map D.str) (by rw[Oc,hn,Ok];exact NH) (by rw[Oc,hn,Ok];exact Om (Nat.add_le_add_right (ht) _) (Oj rfl));rw[show (p.names.map D.str).drop 1=T.map .str by rw[hn];rfl] at sl;refine aa (aA (DC (cl1 e0) hh) rfl) ?_;refine aa (bP (qF (c8 R' rfl) rfl rfl (c7 R') rfl rfl sl) (fZ (if_pos (by rw[Oc];exact bA (Om ht (Oj rfl))))) lp) ?_;exact rfl
theorem Ob {h:List Nat} {T G:List (List Nat)} {mo:Int} (hT:Hw T) (h1:1<=T.length) (h4:T.length<=4) (hF:(h::G).Nodup) (hC:∀ x∈h::G,bo x=true) (h3:3<=(h::G).length) (h10:(h::G).length<=8):Gd 10 (Dv T (h::G) mo) (Hh h T):=by
 exact {names:=rfl,nm:=⟨T,rfl,hT,h1⟩,nl:=by show (cV::T).length<=7;rw[Ok];omega,nd:=hF,ic:=hC,c3:=h3,c10:=h10,home:=rfl,made:=rfl,ends:=rfl,gone:=rfl,tell:=⟨[],rfl,rfl,fun c=>⟨[],rfl,BU,Oo _⟩,Oo _⟩,rw:=de,ent:=de,cl1:=Int.le_refl _,cl2:=(by decide:cl []<=99999),l1:=OG _,l2:=OG _,l3:=OG _,l4:=OG _,l5:=OG _,l6:=by show (T.map pI).length<=10;rw[Oc];omega,cu:=de,nos:=rfl,inc:=⟨List.pairwise_singleton _ _,fun _ h=>absurd h Oy⟩,tc:=de}
end
section
variable {d m n N:Nat} {hd:Bool} {K:cP} {ρ ρ':a9} {σ σ':av} {p p':Pl} {S S':St} {e:CE}
theorem xq {e:CE} {l:List D} (h:Ev K e ρ σ (.d (.tup l))):Ev K (CJ mT e) ρ σ (.d (.bool true)):=by
 refine aC h ?_;rfl
theorem xr {x:PV} {l:List D} (h:Ev K e ρ σ x) (r:rd σ x=some (.lst l)):Ev K (CJ qt e) ρ σ (.d (.bool true)):=by
 refine aC h ?_;show (rd σ x).bind _=_;rw[r];rfl
theorem D9 {l:List D} {z:D} (j:Nat) (h1:1<=j) (h2:j<=l.length) (h3:j<=1000) (hz:l[l.length - j]? =some z):cp (.lst l) (.int (-(j:Int)))=some z:=by
 have e:cB (-(j:Int)) l.length=some (l.length - j):=by
  unfold cB;rw[if_neg (Int.not_le.mpr (Int.neg_neg_of_pos (OP.mpr h1))),if_pos (LO h2)];congr 1;exact LN
 rw[v7,aR (dh (Int.neg_le_neg (OO.mpr h3)) (LM)),Od,e];exact hz
theorem Bg {tb:List (List Nat)} {k:Nat} {o a:CE} {s:List Nat} {y z:D} {l:List cb} (hr:σ[m]? =some (.rcd false l)) (ha:Ev K a ρ σ (.d y)) (ho:Ev K o ρ σ (.p m 0)) (ht:tb[k]? =some s) (hk:l[k]? =some (.d z)):(Ar tb k o (aU s) a).ex K ρ σ=some (.next ρ,σ.set m (.rcd false (l.set k (.d y)))):=by
 have hl:k<l.length:=(Og.mp hk).1;refine cJ ha (cJ ho (cJ (a:=.d (.str s)) (σ':=σ) rfl ?_));show (ng tb k (.d y) (.p m 0) (.d (.str s)) σ).bind _=_;unfold ng;rw[ht,Od,aR (show jc (.d (.str s))=some s from rfl),Od];show ((cA false σ m).bind _).bind _=_;unfold cA;rw[hr];show (if k=l.length then aq (k<100) _ else (l[k]?).bind fun f=>aq (GN f=true) _).bind _=_;rw[if_neg (Nat.ne_of_lt hl),hk];rfl
end
section
variable {d m n N:Nat} {hd:Bool} {K:cP} {ρ ρ':a9} {σ σ':av} {p p':Pl} {S S':St} {e:CE}
theorem jo {q:Int} (R:Rk σ m p) (G:Gd N p S) (hN:N<=800):∃ t,aX t/\CC (d+2) false 84 [.p m 0,.d (.int q)] σ=some (.ok (.d (.int t)),σ):=by
 have l1:=G.l1;have cr:=fD (d:=d) (hd:=false) R (o1 hN G.l3);have cf:=eG (K:=KK (d+1) false) (ρ:=[qV m,iV q,none,none]) (σ:=σ) (i:=3) (bS:=sub (ag 3) (ai 1)) (t:=il) (v:=.p m 5) (y:=.lst (p.ents.map cq)) (dE (jp R)) cq (fun e=>D.int e.day) (fun _=>true) p.ents [] (fun l _=>rfl) (fun l _ _=>cw 1 rfl rfl) (by rw[O2];exact LV hN l1);rw[List.filter_eq_self.mpr fun _ _=>rfl,List.nil_append] at cf;generalize hL:[0,max 0 (cl p.ends),99999]++p.ents.map (fun e=>e.day)=L;have dL:∀ x∈L,aX x:=fun x hx=>by
  rw[<-hL] at hx;have c1:=G.cl2;rcases Ov.mp hx with hx|hx
  .rcases Oe.mp hx with rfl|hx
   .exact ⟨by decide,by decide⟩
   rcases Oe.mp hx with rfl|hx
   .exact ⟨LU,by exact Int.max_le.mpr ⟨by decide,c1⟩⟩
   .rw[Oi.mp hx];exact ⟨by decide,by decide⟩
  .obtain ⟨e,he,rfl⟩:=Ot.mp hx;exact (G.ent e he).d
 have lL:L.length=3+p.ents.length:=by rw[<-hL,Of,Oc];rfl
 have s1:gZ.ex (KK (d+1) false) [qV m,iV q,none,none] σ=some (.next [qV m,iV q,dV (.lst (L.map .int)),none],σ):=by
  have ct:=Bx (a:=[D.int 0,.int (max 0 (cl p.ends)),.int 99999]) (b:=p.ents.map fun e=>D.int e.day) (by rw[Oc];show 3+_<=_;exact Om (OS (Om l1 hN) 3) (by decide));rw[show [D.int 0,.int (max 0 (cl p.ends)),.int 99999]++p.ents.map (fun e=>D.int e.day)=L.map .int by rw[<-hL,List.map_append,List.map_map];rfl] at ct;exact aA (aQ (dQ (c5 rfl (c5 (b7 (c5 rfl (cl1 (az (cl1 rfl) cr))) rfl) (cl1 rfl)))) (j6 (dS (jt R rfl) (vP (jp R) (by rw[Oc];exact o0 hN l1)) cf)) rfl rfl ct) rfl
 by_cases z:q.fmod 2=1
 .have r:=aF (a:=q.fdiv 2) (b:=L.length) (Nl lL);have hk:((q.fdiv 2).fmod L.length).toNat<L.length:=H5 r;have g:=eO (a:=q.fdiv 2) (b:=L.length) (Nl lL) (LS hN l1 lL);rw[show (q.fdiv 2).fmod L.length=((((q.fdiv 2).fmod L.length).toNat:Nat):Int) by exact (OR r.1).symm] at g;have ln:=j1 (hd:=false) (σ:=σ) (x:=.d (.lst (L.map .int))) rfl (by rw[Oc];exact bA (LQ hN l1 lL));rw[Oc] at ln;exact ⟨_,dL _ (List.getElem_mem hk),aS rfl rfl (ρ:=[qV m,iV q,none,none]) rfl (aa s1 (aP (cK (an (dP rfl) rfl rfl rfl (i9 z)) (aP (aM (bc rfl (aQ (dz rfl) (b7 (cl1 rfl) ln) rfl rfl g) rfl rfl (dN (by rw[Ou,Oh hk];rfl) (LP hN l1 lL hk)))))))) (tk _)⟩
 .have r:=aF (a:=q.fdiv 2) (b:=100000) (by decide);exact ⟨(q.fdiv 2).fmod 100000,⟨by exact r.1,by exact Int.le_of_lt_add_one r.2⟩,aS rfl rfl (ρ:=[qV m,iV q,none,none]) rfl (aa s1 (aa (bj (an (dP rfl) rfl rfl rfl (n7 z)) rfl) (aP (aM (dP (dz rfl)))))) (tk _)⟩
end
section
variable {d i:Nat} {hd:Bool} {S:St} {K:cP} {ρ:a9} {σ:av} {ls:List bQ} {l:bQ} {m:List (List Nat×D)} {v:D} {o:Option PV}
noncomputable def jG (a c:List Nat) (t:Int) (l:bQ):Int:=if l.1=a/\l.2.1=c then t+l.2.2 else t
noncomputable def j3 (q:Option Int) (n:Int):Bool:=q.elim true fun x=>decide (n<=x)
noncomputable def oM (a c:List Nat) (q:Option Int) (t:Int) (e:eI):Int:=if j3 q e.day=true then e.lines.foldl (jG a c) t else t
noncomputable def total (S:St) (a c:List Nat) (q:Option Int):Int:=S.made.foldl (oM a c q) 0
noncomputable def tX (q:Option Int):D:=q.elim .none .int
theorem qo {a c:List Nat} {q:Option Int} (B:Bk σ i S) (sh:Sh S):CC (d+1) false 26 [.p i 0,.d (.str a),.d (.str c),.d (tX q)] σ=some (.ok (.d (.int (total S a c q))),σ):=by
 obtain ⟨c',lp⟩:=j4 (σ:=σ) (v:=.p i 5) (x:=.lst (S.made.map cq)) (i:=5) (b:=fun ρ=>(sC (cI (mw (bH (aO EI (ag 3) hJ) (bH (aO oV (sub (ag 5) (ai 1)) (ag 3)) e_))) (sC (eD 6 (sub (ag 5) (ai 3)) (sC (cI (lW (cE (aO dY (sub (ag 6) (ai 0)) (ag 1)) (cE (aO dY (sub (ag 6) (ai 1)) (ag 2)) h_))) (sC (aK 4 (aG bf (ag 4) (sub (ag 6) (ai 2)))) sN) sN) sN)) sN) sN) sN).ex (KK d false) ρ)
  cq (fun (t:Int) (o:Option PV×Option PV)=>[qV i,sV a,sV c,dV (tX q),iV t,o.1,o.2]) (oM a c q) (dE (gy B)) S.made (fun t o e _=>by
   obtain ⟨c',lp⟩:=j4 (σ:=σ) (v:=.d (.tup (e.lines.map bC))) (x:=.tup (e.lines.map bC)) (i:=6) (b:=fun ρ=>(sC (cI (lW (cE (aO dY (sub (ag 6) (ai 0)) (ag 1)) (cE (aO dY (sub (ag 6) (ai 1)) (ag 2)) h_))) (sC (aK 4 (aG bf (ag 4) (sub (ag 6) (ai 2)))) sN) sN) sN).ex (KK d false) ρ)
    bC (fun (t:Int) (o:Option PV)=>[qV i,sV a,sV c,dV (tX q),iV t,dV (cq e),o]) (jG a c) rfl e.lines (fun t o l _=>by
     refine ⟨dV (bC l),?_⟩;unfold jG;by_cases q1:l.1=a
     .by_cases q2:l.2.1=c
      .rw[if_pos ⟨q1,q2⟩];exact aa (cK (cn (cF (an (cw 0 rfl rfl) rfl rfl rfl (fk q1)) (cF (an (cw 1 rfl rfl) rfl rfl rfl (fk q2)) rfl))) (aa (aA (fp rfl (cw 2 rfl rfl)) rfl) rfl)) rfl
      .rw[if_neg fun h=>q2 h.2];exact aa (bj (cn (cF (an (cw 0 rfl rfl) rfl rfl rfl (fk q1)) (fH (an (cw 1 rfl rfl) rfl rfl rfl (iC q2))))) rfl) rfl
     .rw[if_neg fun h=>q1 h.1];exact aa (bj (cn (fH (an (cw 0 rfl rfl) rfl rfl rfl (iC q1)))) rfl) rfl) t o.2
   have d1:Ev (KK d false) (sub (ag 5) (ai 1)) [qV i,sV a,sV c,dV (tX q),iV t,dV (cq e),o.2] σ (.d (.int e.day)):=cw 1 rfl rfl;unfold oM;cases q with
   |none=>
    rw[if_pos (show j3 none e.day=true from rfl)];exact ⟨(dV (cq e),c'),aa (cK (bT (i0 (an rfl rfl rfl rfl rfl))) (aa (bP (cw 3 rfl rfl) (fZ rfl) lp) rfl)) rfl⟩
   |some x=>
    by_cases z:e.day<=x
    .rw[if_pos (show j3 (some x) e.day=true from Os z)];exact ⟨(dV (cq e),c'),aa (cK (bT (bF (an rfl rfl rfl rfl rfl) (i0 (an d1 rfl rfl rfl (vI z))))) (aa (bP (cw 3 rfl rfl) (fZ rfl) lp) rfl)) rfl⟩
    .rw[if_neg (show¬j3 (some x) e.day=true by show¬decide (e.day<=x)=true;rw[decide_eq_true_eq];exact z)];exact ⟨(dV (cq e),o.2),aa (bj (bT (bF (an rfl rfl rfl rfl rfl) (bF (an d1 rfl rfl rfl (Jt z)) rfl))) rfl) rfl⟩) 0 (none,none)
 exact aS rfl rfl (ρ:=[qV i,sV a,sV c,dV (tX q),none,none,none]) rfl (aa (aA rfl rfl) (aa (bP (ki B rfl) (vP (gy B) (by rw[Oc];exact sh.m)) lp) (aP (aM rfl)))) (tk _)
end
noncomputable abbrev su:=List Nat×List Nat
noncomputable abbrev gi (f t:Int) (e:eI):Bool:=decide (f<=e.day)&&decide (e.day<=t)
theorem G7 {α β:Type} (g:α->β) (l:List α) (xs:List Nat):xs.filterMap ((l.map g)[·]?)=(xs.filterMap (l[·]?)).map g:=by
 rw[List.map_filterMap];exact congrArg (fun h=>xs.filterMap h) (funext fun i=>Ou)
theorem m8 {α β:Type} (g:α->β) (ks:List (Int×Int)) (l:List α):ec ks (l.map g)=(ec ks l).map g:=G7 g l _
theorem uZ (ks:List (Int×Int)):(Ai ks).Perm (List.range ks.length):=by
 have h:=(jL ks.length (zR ks)).map (·.val);have e:(List.finRange ks.length).map (·.val)=List.range ks.length:=List.ext_getElem (by simp) fun i h1 h2=>by simp
 rw[e] at h;exact h
theorem BB {α:Type} (l:List α):(List.range l.length).filterMap (l[·]?)=l:=by
 induction l with
 |nil=>rfl
 |cons a l ih=>
  rw[Ok,List.range_succ_eq_map,List.filterMap_cons,List.filterMap_map];exact congrArg (a::·) ih
theorem sO {α:Type} (g:α->Int×Int) (l:List α):(ec (l.map g) l).Perm l:=by
 have h:=(uZ (l.map g)).filterMap (l[·]?);rw[Oc,BB] at h;exact h
noncomputable abbrev kE (e:eI):Int×Int:=(e.day,e.no)
noncomputable def kD (e:eI):D:=.tup [.int e.day,.int e.no]
noncomputable def jE (es:List eI) (f t:Int):List eI:=ec ((es.filter (gi f t)).map kE) (es.filter (gi f t))
theorem rA {es:List eI} {f t:Int}:(jE es f t).Perm (es.filter (gi f t)):=sO kE _
theorem nS {es:List eI} {f t:Int} {e:eI} (h:e∈jE es f t):e∈es:=(List.mem_filter.mp (rA.mem_iff.mp h)).1
theorem rB {es:List eI} {f t:Int}:(jE es f t).length<=es.length:=by rw[rA.length_eq];exact List.length_filter_le _ _
section
variable {d m n N:Nat} {hd:Bool} {K:cP} {ρ ρ':a9} {σ σ':av} {p p':Pl} {S S':St} {e:CE} {f t:Int}
theorem p_ {i:Nat} {bS:CE} {v:PV} {g:eI->D} {es:List eI} (r:rd σ v=some (.lst (es.map cq))) (hs:bn σ (.lst (es.map cq)) v=true) (h1:∀ x,(ag 1).ev K (ρ.set i (dV (cq x))) σ=some (.ok (.d (.int f)),σ)) (h2:∀ x,(ag 2).ev K (ρ.set i (dV (cq x))) σ=some (.ok (.d (.int t)),σ)) (h3:∀ x,(ag i).ev K (ρ.set i (dV (cq x))) σ=some (.ok (.d (cq x)),σ)) (he:∀ x,Ev K bS (ρ.set i (dV (cq x))) σ (.d (g x))) (hl:es.length<=1000):cX v (.lst (es.map cq)) i ((gY (lx oV oV (ag 1) (sub (ag i) (ai 1)) (ag 2))).ts K) (bS.ev K) ρ (es.map cq) [] σ=some (.ok ((es.filter (gi f t)).map g),σ):=by
 have cf:=eG (K:=K) (ρ:=ρ) (σ:=σ) (i:=i) (bS:=bS) (t:=gY (lx oV oV (ag 1) (sub (ag i) (ai 1)) (ag 2))) (v:=v) (y:=.lst (es.map cq)) hs cq g (gi f t) es [] (fun x _=>uO (qw (h1 x) (bc (h3 x) rfl rfl rfl (ix (k:=1) rfl)) (h2 x) rfl rfl rfl rfl rfl)) (fun x _ _=>he x) (by rw[O2];exact KQ hl);rw[List.nil_append] at cf;exact cf
theorem om (B:Bk σ n S) (h6:S.made.length<=1000):CC (d+1) false 126 [.p n 0,.d (.int f),.d (.int t)] σ=some (.ok (.d (.lst ((jE S.made f t).map cq))),σ):=by
 have cf:=p_ (K:=KK d false) (ρ:=[qV n,iV f,iV t,none,none]) (i:=4) (bS:=ag 4) (g:=cq) (f:=f) (t:=t) (gy B) (dE (gy B)) (fun _=>rfl) (fun _=>rfl) (fun _=>rfl) (fun _=>rfl) h6;have ln:((S.made.filter (gi f t)).map cq).length<=1000:=by
  rw[Oc];exact Om (List.length_filter_le _ _) h6
 have sk:m4 ((S.made.filter (gi f t)).map cq)=some (.lst ((jE S.made f t).map cq)):=by
  unfold m4;rw[aR ⟨fun y hy=>by obtain ⟨x,_,rfl⟩:=Ot.mp hy;rfl,ln⟩,m8,List.map_map];rfl
 refine aS rfl rfl (ρ:=[qV n,iV f,iV t,none,none]) rfl (aa (m_ (iW (ki B rfl) (vP (gy B) (by rw[Oc];exact h6)) cf rfl) rfl) (aP (cJ (aC (a:=.d (.lst ((S.made.filter (gi f t)).map cq))) (σ':=σ) rfl ?_) rfl))) (tk _);show (Option.map _ (Option.bind (some ((S.made.filter (gi f t)).map cq)) m4))=_;rw[Od,sk];rfl
theorem F_ {es:List eI} {e:eI} (nos:Fr es) (h:e∈es):∃ k:Nat,e.no=(k:Int)+1/\es[k]? =some e/\k<es.length:=by
 obtain ⟨k,hk⟩:=List.getElem?_of_mem h;have hl:=(Og.mp hk).1;have q:=congrArg (·[k]?) nos;simp only [Ou,hk,List.getElem?_range hl,Option.map_some] at q;exact ⟨k,O0 q,hk,hl⟩
theorem tV {v:PV} {es:List eI} (r:rd σ v=some (.lst (es.map cq))) (hs:bn σ (.lst (es.map cq)) v=true) (iv:uL v σ=some (.lst (es.map cq),es.map cq)) (nos:Fr es) (hl:es.length<=1000):CC (d+1) false 181 [v,.d (.int f),.d (.int t)] σ=some (.ok (.d (.lst ((jE es f t).map cq))),σ):=by
 have cf:=p_ (K:=KK d false) (ρ:=[some v,iV f,iV t,none,none,none]) (i:=5) (bS:=bw (aj (sub (ag 5) (ai 1)) (aj (sub (ag 5) (ai 0)) au))) (g:=kD) (f:=f) (t:=t) r hs (fun _=>rfl) (fun _=>rfl) (fun _=>rfl) (fun x=>bB (c5 (cw 1 rfl rfl) (cl1 (cw 0 rfl rfl)))) hl;have ln:((es.filter (gi f t)).map kD).length<=1000:=by
  rw[Oc];exact Om (List.length_filter_le _ _) hl
 have sk:qB ((es.filter (gi f t)).map kD)=some (.lst ((jE es f t).map kD)):=by
  unfold qB;rw[aR ⟨fun y hy=>by obtain ⟨x,_,rfl⟩:=Ot.mp hy;rfl,ln⟩,m8,List.map_map];rfl
 have e1:Ev (KK d false) (bi xO (aj (qP false (iE 5 (ag 0) (gY (lx oV oV (ag 1) (sub (ag 5) (ai 1)) (ag 2))) (bw (aj (sub (ag 5) (ai 1)) (aj (sub (ag 5) (ai 0)) au))))) au)) [some v,iV f,iV t,none,none,none] σ (.d (.lst ((jE es f t).map kD))):=by
  refine b7 (cl1 (j6 (dS rfl iv cf))) ?_;show (Option.map _ (Option.bind (some ((es.filter (gi f t)).map kD)) qB))=_;rw[Od,sk];rfl
 have cm:=gq (K:=KK d false) (ρ:=[some v,iV f,iV t,dV (.lst ((jE es f t).map kD)),none,none]) (σ:=σ) (i:=4) (bS:=sub (ag 0) (aG dm (sub (ag 4) (ai 1)) (ai 1))) (y:=.lst ((jE es f t).map kD)) kD cq (jE es f t) [] (fun x hx=>by
  obtain ⟨k,h1,h2,h3⟩:=F_ nos (nS hx);refine bc (u:=.lst (es.map cq)) (w:=.int k) rfl (aQ (cw 1 rfl rfl) rfl rfl rfl (z:=.int k) ?_) r rfl (dN (k:=k) (by rw[Ou,h2];rfl) (Om (OQ (OD h3 hl)) (Oj rfl)));show some (D.int (x.no - 1))=_;rw[h1,Int.add_sub_cancel]) (by rw[O2];have:=rB (es:=es) (f:=f) (t:=t);exact Om (OS (Om this (hl)) _) (Oj rfl))
 rw[List.nil_append] at cm;exact aS rfl rfl (ρ:=[some v,iV f,iV t,none,none,none]) rfl (aa (aA e1 rfl) (aP (aM (j6 (dS rfl (fZ (if_pos (by rw[Oc];exact bA (by have:=rB (es:=es) (f:=f) (t:=t);exact Om this hl)))) cm))))) (tk _)
end
noncomputable def uW (a:su) (e:eI) (s:Int×List D) (x:bQ):Int×List D:=if x.1=a.1/\x.2.1=a.2 then (s.1+x.2.2,s.2++[.tup [.int e.day,.int e.no,.int x.2.2,.int (s.1+x.2.2)]]) else s
noncomputable def uK (a:su) (s:Int×List D) (e:eI):Int×List D:=e.lines.foldl (uW a e) s
noncomputable def hU (es:List eI) (a:su) (t:Int):Int:=es.foldl (oM a.1 a.2 (some t)) 0
noncomputable def d6 (es:List eI) (a:su) (f t:Int):Int×List D:=(jE es f t).foldl (uK a) (hU es a (f - 1),[])
noncomputable def wQ (es:List eI) (a:su) (f t:Int):D:=.tup [.int (hU es a (f - 1)),.lst (d6 es a f t).2,.int (d6 es a f t).1]
noncomputable def wE (a:su) (e:eI):Int:=e.lines.foldl (jG a.1 a.2) 0
noncomputable def HO (a:su) (es:List eI):Int:=(es.map (wE a)).sum
section
variable {a:su} {e:eI} {es l l':List eI} {f t:Int}
theorem Cy (ls:List bQ):∀ z:Int,ls.foldl (jG a.1 a.2) z=z+ls.foldl (jG a.1 a.2) 0:=by
 induction ls with
 |nil=>exact fun z=>(Int.add_zero z).symm
 |cons x ls ih=>
  intro z;rw[List.foldl_cons,List.foldl_cons,ih,ih (jG a.1 a.2 0 x),<-Int.add_assoc];congr 1;unfold jG;split
  .rw[Int.zero_add]
  .rw[Int.add_zero]
theorem Cz (es:List eI):∀ z:Int,es.foldl (oM a.1 a.2 (some t)) z=z+(es.map fun e=>if e.day<=t then wE a e else 0).sum:=by
 induction es with
 |nil=>exact fun z=>(Int.add_zero z).symm
 |cons e es ih=>
  intro z;rw[List.foldl_cons,ih,List.map_cons,List.sum_cons,<-Int.add_assoc];congr 1;unfold oM;by_cases q:e.day<=t
  .rw[if_pos (show j3 (some t) e.day=true from Os q),if_pos q,Cy];rfl
  .rw[if_neg (show¬j3 (some t) e.day=true by show¬decide (e.day<=t)=true;rw[decide_eq_true_eq];exact q),if_neg q,Int.add_zero]
theorem Da (ls:List bQ):∀ s:Int×List D,(ls.foldl (uW a e) s).1=ls.foldl (jG a.1 a.2) s.1:=by
 induction ls with
 |nil=>exact fun s=>rfl
 |cons x ls ih=>
  intro s;rw[List.foldl_cons,List.foldl_cons,ih];congr 1;unfold uW jG;split<;>rfl
theorem wS (ls:List bQ):∀ s:Int×List D,(ls.foldl (uW a e) s).2.length<=s.2.length+ls.length:=by
 induction ls with
 |nil=>exact fun s=>Oo _
 |cons x ls ih=>
  intro s;rw[List.foldl_cons,Ok];have h:=ih (uW a e s x);have k:(uW a e s x).2.length<=s.2.length+1:=by
   unfold uW;split
   .rw[Of,On];exact Oo _
   .exact OV _
  exact KY h k
theorem Dc (es:List eI) (h6:∀ e∈es,e.lines.length<=60):∀ s:Int×List D,(es.foldl (uK a) s).2.length<=s.2.length+60*es.length:=by
 induction es with
 |nil=>exact fun s=>Oo _
 |cons e es ih=>
  intro s;rw[List.foldl_cons,Ok];have h:=ih (fun x hx=>h6 x (.tail _ hx)) (uK a s e);have k:=wS (a:=a) (e:=e) e.lines s;have:=h6 e (.head _);unfold uK at h k ⊢;exact KT h k this
theorem Db (es:List eI):∀ s:Int×List D,(es.foldl (uK a) s).1=s.1+HO a es:=by
 induction es with
 |nil=>exact fun s=>(Int.add_zero _).symm
 |cons e es ih=>
  intro s;show (es.foldl (uK a) (uK a s e)).1=s.1+(wE a e+HO a es);rw[ih,<-Int.add_assoc];congr 1;exact (Da _ _).trans (Cy _ _)
theorem Aj (h:l.Perm l'):HO a l=HO a l':=by
 induction h with
 |nil=>rfl
 |cons x _ ih=>exact congrArg (wE a x+·) ih
 |swap x y l=>exact Int.add_left_comm _ _ _
 |trans _ _ p q=>exact p.trans q
theorem De (h:f<=t+1) (es:List eI):(es.map fun e=>if e.day<=f - 1 then wE a e else 0).sum+HO a (es.filter (gi f t))=(es.map fun e=>if e.day<=t then wE a e else 0).sum:=by
 induction es with
 |nil=>rfl
 |cons e es ih=>
  rw[List.map_cons,List.sum_cons,List.map_cons,List.sum_cons,<-ih];by_cases q:e.day<=f - 1
  .rw[if_pos q,if_pos (Int.le_of_lt_add_one (ON (Int.lt_of_le_sub_one q) h)),List.filter_cons_of_neg fun h=>by rw[Bool.and_eq_true,decide_eq_true_eq] at h;omega,Int.add_assoc]
  .rw[if_neg q,Int.zero_add];by_cases z:e.day<=t
   .rw[if_pos z,OJ (by rw[Bool.and_eq_true,decide_eq_true_eq,decide_eq_true_eq];exact Ir q z)];exact Int.add_left_comm _ _ _
   .rw[if_neg z,Int.zero_add,List.filter_cons_of_neg fun h=>by rw[Bool.and_eq_true,decide_eq_true_eq,decide_eq_true_eq] at h;exact z h.2]
theorem Ae (h:f<=t+1):(d6 es a f t).1=hU es a t:=by
 unfold d6 hU;rw[Db,Aj rA,Cz,Cz,Int.zero_add,Int.zero_add];exact De h es
end
noncomputable abbrev Nj (lb lr le ll:Nat):CS:=(sC (cI (lW (cE (aO dY (sub (ag ll) (ai 0)) (ag 1)) (cE (aO dY (sub (ag ll) (ai 1)) (ag 2)) h_))) (sC (aK lb (aG bf (ag lb) (sub (ag ll) (ai 2)))) (sC (aL (bm aN (ag lr) (aj (bw (aj (sub (ag le) (ai 1)) (aj (sub (ag le) (ai 0)) (aj (sub (ag ll) (ai 2)) (aj (ag lb) au))))) au))) sN)) sN) sN)
structure Kt (lb lr le ll r:Nat) (a:su) (mk:Option PV->Int->Option PV->a9):Prop where
 h1:∀ e b x K s,(ag 1).ev K (mk e b x) s=some (.ok (.d (.str a.1)),s)
 h2:∀ e b x K s,(ag 2).ev K (mk e b x) s=some (.ok (.d (.str a.2)),s)
 hb:∀ e b x K s,(ag lb).ev K (mk e b x) s=some (.ok (.d (.int b)),s)
 hr:∀ e b x K s,(ag lr).ev K (mk e b x) s=some (.ok (.p r 0),s)
 he:∀ e b x K s,(ag le).ev K (mk (some e) b x) s=some (.ok e,s)
 hl:∀ e b x K s,(ag ll).ev K (mk e b (some x)) s=some (.ok x,s)
 sb:∀ e b x c,(mk e b x).set lb (iV c)=mk e c x
 se:∀ e b x y,(mk e b x).set le y=mk y b x
 sl:∀ e b x y,(mk e b x).set ll y=mk e b y
section
variable {d m n N:Nat} {hd:Bool} {K:cP} {ρ ρ':a9} {σ σ':av} {p p':Pl} {S S':St} {f t:Int} {a:su} {lb lr le ll:Nat} {mk:Option PV->Int->Option PV->a9}
theorem Ag {v:D} {E:eI} (M:Kt lb lr le ll σ.length a mk) (ls:List bQ):∀ (s:Int×List D) (x9:Option PV),s.2.length+ls.length<=100000->∃ y9,eU (.d v) v ll (fun ρ=>(Nj lb lr le ll).ex K ρ) (ls.map bC) (mk (dV (cq E)) s.1 x9) (σ++[.fld (.list s.2)])=some (.next (mk (dV (cq E)) (ls.foldl (uW a E) s).1 y9),σ++[.fld (.list (ls.foldl (uW a E) s).2)]):=by
 induction ls with
 |nil=>exact fun s x9 _=>⟨x9,rfl⟩
 |cons x ls ih=>
  intro s x9 hl;rw[Ok] at hl;have e1:Ev K (sub (ag ll) (ai 0)) (mk (dV (cq E)) s.1 (dV (bC x))) (σ++[.fld (.list s.2)]) (.d (.str x.1)):=bc (M.hl ..) rfl rfl rfl (ix (k:=0) rfl);have e2:Ev K (sub (ag ll) (ai 1)) (mk (dV (cq E)) s.1 (dV (bC x))) (σ++[.fld (.list s.2)]) (.d (.str x.2.1)):=bc (M.hl ..) rfl rfl rfl (ix (k:=1) rfl);have st:=M.sl (dV (cq E)) s.1 x9 (dV (bC x));rw[List.foldl_cons];unfold uW;by_cases q1:x.1=a.1
  .by_cases q2:x.2.1=a.2
   .rw[if_pos ⟨q1,q2⟩];have ap:=b_ (K:=K) (ρ:=mk (dV (cq E)) (s.1+x.2.2) (dV (bC x))) (o:=ag lr) (a:=bw (aj (sub (ag le) (ai 1)) (aj (sub (ag le) (ai 0)) (aj (sub (ag ll) (ai 2)) (aj (ag lb) au))))) (y:=.tup [.int E.day,.int E.no,.int x.2.2,.int (s.1+x.2.2)]) (l:=s.2) (σ:=σ++[.fld (.list s.2)]) (M.hr ..) (bB (c5 (bc (M.he ..) rfl rfl rfl (ix (k:=1) rfl)) (c5 (bc (M.he ..) rfl rfl rfl (ix (k:=0) rfl)) (c5 (bc (M.hl ..) rfl rfl rfl (ix (k:=2) rfl)) (cl1 (M.hb ..)))))) dO (OC (m:=100000) (KX hl) (by decide));rw[iO] at ap;obtain ⟨y9,e⟩:=ih (s.1+x.2.2,s.2++[.tup [.int E.day,.int E.no,.int x.2.2,.int (s.1+x.2.2)]]) (dV (bC x)) (by show (s.2++[_]).length+_<=_;rw[Of,On];exact KW hl);exact ⟨y9,bL (by rw[st];exact aa (cK (cn (cF (an e1 (M.h1 ..) rfl rfl (fk q1)) (cF (an e2 (M.h2 ..) rfl rfl (fk q2)) rfl))) (aa (aA (fp (M.hb ..) (bc (M.hl ..) rfl rfl rfl (ix (k:=2) rfl))) (M.sb ..)) (aa (aB ap) rfl))) rfl) rfl e⟩
   .rw[if_neg fun h=>q2 h.2];obtain ⟨y9,e⟩:=ih s (dV (bC x)) (Nat.le_of_succ_le hl);exact ⟨y9,bL (by rw[st];exact aa (bj (cn (cF (an e1 (M.h1 ..) rfl rfl (fk q1)) (fH (an e2 (M.h2 ..) rfl rfl (iC q2))))) rfl) rfl) rfl e⟩
  .rw[if_neg fun h=>q1 h.1];obtain ⟨y9,e⟩:=ih s (dV (bC x)) (Nat.le_of_succ_le hl);exact ⟨y9,bL (by rw[st];exact aa (bj (cn (fH (an e1 (M.h1 ..) rfl rfl (iC q1)))) rfl) rfl) rfl e⟩
theorem wR {v:D} (M:Kt lb lr le ll σ.length a mk) (es:List eI) (h6:∀ e∈es,e.lines.length<=60):∀ (s:Int×List D) (x8 x9:Option PV),s.2.length+60*es.length<=100000->∃ y8 y9,eU (.d v) v le (fun ρ=>(sC (eD ll (sub (ag le) (ai 3)) (Nj lb lr le ll)) sN).ex (KK d false) ρ) (es.map cq) (mk x8 s.1 x9) (σ++[.fld (.list s.2)])=some (.next (mk y8 (es.foldl (uK a) s).1 y9),σ++[.fld (.list (es.foldl (uK a) s).2)]):=by
 induction es with
 |nil=>exact fun s x8 x9 _=>⟨x8,x9,rfl⟩
 |cons E es ih=>
  intro s x8 x9 hl;rw[Ok] at hl;have E6:=h6 E (.head _);have sl:=wS (a:=a) (e:=E) E.lines s;obtain ⟨y9,e1⟩:=Ag (K:=KK d false) (v:=.tup (E.lines.map bC)) (E:=E) M E.lines s x9 (KV hl E6);obtain ⟨z8,z9,e⟩:=ih (fun e he=>h6 e (.tail _ he)) (uK a s E) (dV (cq E)) y9 (by show (E.lines.foldl (uW a E) s).2.length+_<=_;exact KU hl E6 sl);exact ⟨z8,z9,bL (by rw[M.se];exact aa (bP (bc (M.he ..) rfl rfl rfl (ix (k:=3) rfl)) (fZ rfl) e1) rfl) rfl e⟩
end
structure Fw (es:List eI):Prop where
 l:∀ e∈es,e.lines.length<=60
 e:es.length<=1000
 no:Fr es
section
variable {d m n N:Nat} {hd:Bool} {K:cP} {ρ ρ':a9} {σ σ':av} {p p':Pl} {S S':St} {f t:Int} {a:su} {es:List eI}
theorem jS (h1:aX f) (h2:aX t) (h:f<=t):CC (d+2) false 163 [.d (.int f),.d (.int t)] σ=some (.ok (.d .none),σ):=
 fm rfl rfl rfl (aa (aB (bM (ci h1) rfl)) (aa (aB (bM (ci h2) rfl)) (aa (bj (an rfl rfl rfl rfl (pi (Pc.mpr h))) rfl) rfl))) (tk _)
theorem jT (h:¬(aX f/\aX t/\f<=t)):CC (d+2) false 163 [.d (.int f),.d (.int t)] σ=some (.ex 4,σ):=by
 by_cases h1:aX f
 .by_cases h2:aX t
  .exact oj rfl rfl rfl (aa (aB (bM (ci h1) rfl)) (aa (aB (bM (ci h2) rfl)) (jM (cK (an rfl rfl rfl rfl (tU (Int.not_le.mp fun z=>h ⟨h1,h2,z⟩))) rfl)))) (tk _)
  .exact oj rfl rfl rfl (aa (aB (bM (ci h1) rfl)) (jM (eC (bM (ly h2) rfl)))) (tk _)
 .exact oj rfl rfl rfl (jM (eC (bM (ly h1) rfl))) (tk _)
theorem t5 (B:Bk σ n S) (h6:S.made.length<=1000) (h1:aX f) (h2:aX t) (h:f<=t):CC (d+3) false 166 [.p n 0,.d (.int f),.d (.int t)] σ=some (.ok (.d (.lst ((jE S.made f t).map cq))),σ):=
 aS rfl rfl rfl (aa (aB (bM (jS h1 h2 h) rfl)) (aP (aM (bM (om B h6) rfl)))) (tk _)
theorem vO (h:¬(aX f/\aX t/\f<=t)):CC (d+3) false 166 [.p n 0,.d (.int f),.d (.int t)] σ=some (.ex 4,σ):=
 oj rfl rfl rfl (jM (eC (bM (jT h) rfl))) (tk _)
noncomputable abbrev tR (n:Nat) (a:su) (f t o:Int) (r:Nat) (x8:Option PV) (c:Int) (x9:Option PV):a9:=[qV n,sV a.1,sV a.2,iV f,iV t,iV o,iV c,qV r,x8,x9]
theorem HN {o:Int} {r:Nat}:Kt 6 7 8 9 r a (tR n a f t o r):=⟨fun _ _ _ _ _=>rfl,fun _ _ _ _ _=>rfl,fun _ _ _ _ _=>rfl,fun _ _ _ _ _=>rfl,fun _ _ _ _ _=>rfl,fun _ _ _ _ _=>rfl,fun _ _ _ _=>rfl,fun _ _ _ _=>rfl,fun _ _ _ _=>rfl⟩
theorem sL (B:Bk σ n S) (sh:Sh S) (F:Fw S.made) (ha:a.1∈S.names) (hc:bo a.2=true) (h1:aX f) (h2:aX t) (h:f<=t):∃ y8 y9,∀ (k:CS) (z:Option (Out×av)),k.ex (KK (d+2) false) (tR n a f t (hU S.made a (f - 1)) σ.length y8 (d6 S.made a f t).1 y9) (σ++[.fld (.list (d6 S.made a f t).2)])=z->(sC (aL (meth (ag 0) 15 (aj (ag 1) au))) (sC (aL (ax 5 (aj (ag 2) au))) (sC (aL (ax 163 (aj (ag 3) (aj (ag 4) au)))) (sC g_ (sC (aK 6 (ag 5)) (sC (aK 7 (fu au)) (sC g9 k))))))).ex (KK (d+2) false) [qV n,sV a.1,sV a.2,iV f,iV t,none,none,none,none,none] σ=z:=by
 have jl:=rB (es:=S.made) (f:=f) (t:=t);have:=F.e;have bd:CC (d+2) false 126 [.p n 0,.d (.int f),.d (.int t)] (σ++[.fld (.list [])])=some (.ok (.d (.lst ((jE S.made f t).map cq))),σ++[.fld (.list [])]):=om (B.app) F.e;have ar:CC (d+2) false 26 [.p n 0,.d (.str a.1),.d (.str a.2),.d (.int (f - 1))] σ=some (.ok (.d (.int (hU S.made a (f - 1)))),σ):=qo (d:=d+1) (a:=a.1) (c:=a.2) (q:=some (f - 1)) B sh;obtain ⟨y8,y9,lp⟩:=wR (d:=d+2) (σ:=σ) (v:=.lst ((jE S.made f t).map cq)) (HN (n:=n) (a:=a) (f:=f) (t:=t) (o:=hU S.made a (f - 1)) (r:=σ.length)) (jE S.made f t) (fun e he=>F.l e (nS he)) (hU S.made a (f - 1),[]) none none (by show 0+_<=_;exact Om (OS (Pd _ (Om jl (this))) _) (Oj rfl));refine ⟨y8,y9,fun k z hk=> ?_⟩;exact aa (aB (bW B rfl rfl (dq B ha))) (aa (aB (bM (bX hc) rfl)) (aa (aB (bM (jS h1 h2 h) rfl)) (aa (aA (bW B rfl rfl ar) rfl) (aa (aA rfl rfl) (aa (aA (eW rfl) rfl) (aa (bP (bM bd rfl) (fZ (if_pos (by rw[Oc];exact bA (Om jl this)))) lp) hk))))))
theorem sK (B:Bk σ n S) (sh:Sh S) (F:Fw S.made) (ha:a.1∈S.names) (hc:bo a.2=true) (h1:aX f) (h2:aX t) (h:f<=t):CC (d+3) false 164 [.p n 0,.d (.str a.1),.d (.str a.2),.d (.int f),.d (.int t)] σ=some (.ok (.d (wQ S.made a f t)),σ):=by
 obtain ⟨y8,y9,e⟩:=sL (d:=d) B sh F ha hc h1 h2 h;exact aS rfl rfl rfl (e _ _ (rF rfl (rG rfl) (aP (aM (bB rfl))))) (HL σ _)
theorem my (B:Bk σ n S) {u c:List Nat} {k:Nat} (h:u∉S.names/\k=11∨u∈S.names/\bo c=false/\c.length<=1000/\k=2∨u∈S.names/\bo c=true/\¬(aX f/\aX t/\f<=t)/\k=4):CC (d+3) false 164 [.p n 0,.d (.str u),.d (.str c),.d (.int f),.d (.int t)] σ=some (.ex k,σ):=by
 rcases h with ⟨h,rfl⟩|⟨h1,h2,h3,rfl⟩|⟨h1,h2,h3,rfl⟩
 .exact oj rfl rfl rfl (jM (eC (bW B rfl rfl (wA B h)))) (tk _)
 .exact oj rfl rfl rfl (aa (aB (bW B rfl rfl (dq B h1))) (jM (eC (bM (s8 h3 h2) rfl)))) (tk _)
 .exact oj rfl rfl rfl (aa (aB (bW B rfl rfl (dq B h1))) (aa (aB (bM (bX h2) rfl)) (jM (eC (bM (jT h3) rfl))))) (tk _)
theorem EG {d p s m f:Nat} {hd:Bool} {ρ:a9} {σ σ' σ'':av} {b:CS} {args:List PV} {f':cb} (hT:TT f=some ⟨p,s,true,b.ex⟩) (hl:args.length=p) (hr:args.map some++List.replicate (s - p) none=ρ) (h:b.ex (KK d hd) ρ σ=some (.ret (.p m 0),σ')) (hm:σ.length<=m) (ho:σ'[m]? =some (.wrp f')) (k:σ'.take σ.length++[.wrp f']=σ''):CC (d+1) hd f args σ=some (.ok (.p σ.length 0),σ''):=
 lQ hT hl hr h (by
  show (if m<σ.length then _ else u8 true σ.length σ' 0 σ'[m]?)=_;rw[if_neg (Pb.mpr hm),ho,<-k];rfl)
theorem zU {ps:List PV} {s:av} {f:cb} {x:D} (h:ps[wI]? =some (.p s.length 0)) (hr:f.rd=some x) (hl:ps.length<=1000):sB ps (s++[.fld f])=some (.ok (.p (s.length+1) 0),s++[PO.dead,.wrp f]):=by
 have e:zV ps (s++[.fld f])=some (s.length,f):=by
  unfold zV;rw[h,Od];show ((bU (s++[.fld f]) s.length 0).bind fun f=>f.rd.bind fun _=>aq _ _)=_;rw[dO,Od,hr,Od,aR hl]
 unfold sB;rw[e,Of];show some (R.ok (PV.p (s.length+1) 0),((s++[PO.fld f]++[PO.dead]).set s.length .dead).set (s.length+1) (.wrp f))=_;rw[List.append_assoc,List.set_append_right _ _ (Oo _),Nat.sub_self,List.set_append_right _ _ (O5 _ 1),Nat.add_sub_cancel_left];rfl
theorem yr (B:Bk σ n S) (sh:Sh S) (F:Fw S.made) (ha:a.1∈S.names) (hc:bo a.2=true) (h1:aX f) (h2:aX t) (h:f<=t):CC (d+3) false 179 [.p n 0,.d (.str a.1),.d (.str a.2),.d (.int f),.d (.int t)] σ=some (.ok (.p σ.length 0),σ++[.wrp (.list (d6 S.made a f t).2)]):=by
 obtain ⟨y8,y9,e⟩:=sL (d:=d) B sh F ha hc h1 h2 h;have w:=zU (ps:=[.d (.int (hU S.made a (f - 1))),.p σ.length 0,.d (.int (d6 S.made a f t).1)]) (s:=σ) (f:=.list (d6 S.made a f t).2) rfl rfl (Oj rfl);exact EG (m:=σ.length+1) rfl rfl rfl (e _ _ (aP (aM (aC (m:=(aj (ag 5) (aj (ag 7) (aj (ag 6) au))).ev (KK (d+2) false) (tR n a f t (hU S.made a (f - 1)) σ.length y8 (d6 S.made a f t).1 y9)) rfl w)))) (OV _) (by rw[OA (O5 _ 1),Nat.add_sub_cancel_left];rfl) (by rw[HL])
theorem EM (B:Bk σ n S) (sh:Sh S) (ha:a.1∈S.names) (hc:bo a.2=true) (h1:aX t):CC (d+2) false 61 [.p n 0,.d (.str a.1),.d (.str a.2),.d (.int t)] σ=some (.ok (.d (.int (hU S.made a t))),σ):=
 aS rfl rfl rfl (aa (aB (bW B rfl rfl (dq B ha))) (aa (aB (bM (bX hc) rfl)) (aa (aB (bM (ci h1) rfl)) (aP (aM (bW B rfl rfl (qo (d:=d) (q:=some t) B sh))))))) (tk _)
noncomputable abbrev rR (v:D) (a:su) (o:Int) (r:Nat) (x6:Option PV) (b:Int) (x7:Option PV):a9:=[dV v,sV a.1,sV a.2,iV o,qV r,iV b,x6,x7]
theorem HU {v:D} {o:Int} {r:Nat}:Kt 5 4 6 7 r a (rR v a o r):=⟨fun _ _ _ _ _=>rfl,fun _ _ _ _ _=>rfl,fun _ _ _ _ _=>rfl,fun _ _ _ _ _=>rfl,fun _ _ _ _ _=>rfl,fun _ _ _ _ _=>rfl,fun _ _ _ _=>rfl,fun _ _ _ _=>rfl,fun _ _ _ _=>rfl⟩
theorem zf {o:Int} (h6:∀ e∈es,e.lines.length<=60) (hl:es.length<=1000):CC (d+1) false 178 [.d (.lst (es.map cq)),.d (.str a.1),.d (.str a.2),.d (.int o)] σ=some (.ok (.d (.lst (es.foldl (uK a) (o,[])).2)),σ):=by
 obtain ⟨y8,y9,lp⟩:=wR (d:=d) (σ:=σ) (v:=.lst (es.map cq)) (HU (v:=.lst (es.map cq)) (a:=a) (o:=o) (r:=σ.length)) es h6 (o,[]) none none (by show 0+_<=_;exact Om (OS (Pd _ (hl)) _) (Oj rfl));exact Fo (m:=σ.length) (f':=.list (es.foldl (uK a) (o,[])).2) rfl rfl rfl (aa (aA (eW rfl) rfl) (aa (aA rfl rfl) (aa (bP rfl (fZ (if_pos (by rw[Oc];exact bA (hl)))) lp) (aP (aM rfl))))) (Oo _) eR (HL σ _)
theorem nO {v:PV} (r:rd σ v=some (.lst (es.map cq))) (hs:bn σ (.lst (es.map cq)) v=true) (iv:uL v σ=some (.lst (es.map cq),es.map cq)):CC (d+1) false 180 [v,.d (.str a.1),.d (.str a.2),.d (.int f)] σ=some (.ok (.d (.int (hU es a (f - 1)))),σ):=by
 obtain ⟨c',lp⟩:=j4 (σ:=σ) (v:=v) (x:=.lst (es.map cq)) (i:=5) (b:=fun ρ=>lC.ex (KK d false) ρ) cq (fun (z:Int) (o:Option PV×Option PV)=>[some v,sV a.1,sV a.2,iV f,iV z,o.1,o.2]) (oM a.1 a.2 (some (f - 1))) hs es (fun z o e _=>by
  obtain ⟨c',lp⟩:=j4 (σ:=σ) (v:=.d (.tup (e.lines.map bC))) (x:=.tup (e.lines.map bC)) (i:=6) (b:=fun ρ=>lE.ex (KK d false) ρ) bC (fun (z:Int) (o:Option PV)=>[some v,sV a.1,sV a.2,iV f,iV z,dV (cq e),o]) (fun z l=>if e.day<f then jG a.1 a.2 z l else z) rfl e.lines (fun z o l _=>by
   refine ⟨dV (bC l),?_⟩;have e0:Ev (KK d false) (sub (ag 5) (ai 1)) [some v,sV a.1,sV a.2,iV f,iV z,dV (cq e),dV (bC l)] σ (.d (.int e.day)):=cw 1 rfl rfl;have e1:Ev (KK d false) (sub (ag 6) (ai 0)) [some v,sV a.1,sV a.2,iV f,iV z,dV (cq e),dV (bC l)] σ (.d (.str l.1)):=cw 0 rfl rfl;have e2:Ev (KK d false) (sub (ag 6) (ai 1)) [some v,sV a.1,sV a.2,iV f,iV z,dV (cq e),dV (bC l)] σ (.d (.str l.2.1)):=cw 1 rfl rfl;by_cases q:e.day<f
   .rw[if_pos q];unfold jG;by_cases q1:l.1=a.1
    .by_cases q2:l.2.1=a.2
     .rw[if_pos ⟨q1,q2⟩];exact aa (cK (cn (cF (an e0 rfl rfl rfl (tU q)) (cF (an e1 rfl rfl rfl (fk q1)) (cF (an e2 rfl rfl rfl (fk q2)) rfl)))) (aa (aA (fp rfl (cw 2 rfl rfl)) rfl) rfl)) rfl
     .rw[if_neg fun h=>q2 h.2];exact aa (bj (cn (cF (an e0 rfl rfl rfl (tU q)) (cF (an e1 rfl rfl rfl (fk q1)) (fH (an e2 rfl rfl rfl (iC q2)))))) rfl) rfl
    .rw[if_neg fun h=>q1 h.1];exact aa (bj (cn (cF (an e0 rfl rfl rfl (tU q)) (fH (an e1 rfl rfl rfl (iC q1))))) rfl) rfl
   .rw[if_neg q];exact aa (bj (cn (fH (an e0 rfl rfl rfl (pi q)))) rfl) rfl) z o.2
  refine ⟨(dV (cq e),c'),?_⟩;have ee:e.lines.foldl (fun z l=>if e.day<f then jG a.1 a.2 z l else z) z=oM a.1 a.2 (some (f - 1)) z e:=by
   unfold oM;by_cases q:e.day<f
   .rw[if_pos (show j3 (some (f - 1)) e.day=true from Os (Int.le_sub_one_of_lt q))];simp only [if_pos q]
   .rw[if_neg (show¬j3 (some (f - 1)) e.day=true by show¬decide (e.day<=f - 1)=true;rw[decide_eq_true_eq];exact Iq q)];simp only [if_neg q];exact e.lines.recOn rfl fun _ _ ih=>ih
  rw[ee] at lp;exact aa (bP (cw 3 rfl rfl) (fZ rfl) lp) rfl) 0 (none,none)
 exact aS rfl rfl rfl (aa (aA rfl rfl) (aa (bP rfl iv lp) (aP (aM rfl)))) (tk _)
end
section
variable {d m n N:Nat} {hd:Bool} {K:cP} {ρ ρ':a9} {σ σ':av} {p p':Pl} {S S':St} {f t:Int} {u c:List Nat}
theorem z6 (h:CC (d+3) false 164 [.p n 0,.d (.str u),.d (.str c),.d (.int f),.d (.int t)] σ=some (.ex 11,σ)):CC (d+4) false 184 [.p n 0,.d (.str u),.d (.str c),.d (.int f),.d (.int t)] σ=some (.ok (.d (.str [78,111,65,99,99,111,117,110,116])),σ):=
 aS rfl rfl rfl (aP (C4 (jM (eC (bM h rfl))) (by decide) rfl)) (tk _)
theorem z7 (h:CC (d+3) false 164 [.p n 0,.d (.str u),.d (.str c),.d (.int f),.d (.int t)] σ=some (.ex 2,σ)):CC (d+4) false 184 [.p n 0,.d (.str u),.d (.str c),.d (.int f),.d (.int t)] σ=some (.ok (.d (.str Px)),σ):=
 aS rfl rfl rfl (aP (C4 (jM (eC (bM h rfl))) (by decide) rfl)) (tk _)
theorem sG (h:CC (d+3) false 164 [.p n 0,.d (.str u),.d (.str c),.d (.int f),.d (.int t)] σ=some (.ex 4,σ)):CC (d+4) false 184 [.p n 0,.d (.str u),.d (.str c),.d (.int f),.d (.int t)] σ=some (.ok (.d (.str [66,97,100,68,97,121])),σ):=
 aS rfl rfl rfl (aP (C4 (jM (eC (bM h rfl))) (by decide) rfl)) (tk _)
theorem jN (h:¬(aX f/\aX t/\f<=t)):CC (d+4) false 183 [.p n 0,.d (.int f),.d (.int t)] σ=some (.ok (.d (.bool true)),σ):=
 aS rfl rfl rfl (aP (C4 (jM (eC (bM (vO h) rfl))) (by decide) rfl)) (tk _)
theorem qR {K:cP} {a:CE} {s:List Nat} (h:Ev K a ρ σ (.d (.str s))):Ts K (aO mh a (aU s)) ρ σ false:=an h rfl rfl rfl (Jm rfl)
noncomputable def nP:List (Int×Int):=[(-1,5),(5,100000),(100000,100000),(7,6),(99999,0),(0,-1)]
theorem NY {j:Nat} (h:j<6):∃ x y,nP[j]? =some (x,y)/\¬(aX x/\aX y/\x<=y):=by
 have e:∀ x∈nP,¬(aX x.1/\aX x.2/\x.1<=x.2):=by unfold aX;decide
 exact ⟨_,_,Oh (show j<nP.length from h),e _ (List.getElem_mem h)⟩
theorem uU {l:CL} {ds:List D} {k:CE} {x b:Int} {z:D} {j:Nat} (hl:Ev K (cU l) ρ σ (.d (.lst ds))) (hk:Ev K k ρ σ (.d (.int x))) (h0:0<b) (h1:b<=100) (hj:(x.fmod b).toNat=j) (hz:ds[j]? =some z):Ev K (sub (cU l) (aG aY k (ai b))) ρ σ (.d z):=by
 have q:=aF (a:=x) h0;have e:x.fmod b=(j:Int):=Io hj q;refine bc hl (aQ hk rfl rfl rfl (z:=.int j) ?_) rfl rfl (dN hz (Im h1 q e));rw[eO h0 (OM h1 (by decide)),e]
theorem qK {k:Int} (B:Bk σ n S) (ha:u∈S.names) (hc:bo c=true) (hs:iZ∉S.names):CC (d+5) false 185 [.p n 0,.d (.str u),.d (.str c),.d (.int k)] σ=some (.ok (.d (.bool true)),σ):=by
 have q6:=aF (a:=k) (b:=6) (by decide);have q2:=aF (a:=k.fdiv 6) (b:=2) (by decide);have q3:=aF (a:=k.fdiv 12) (b:=3) (by decide);obtain ⟨x,y,e,nd⟩:=NY (j:=(k.fmod 6).toNat) ((Int.toNat_lt q6.1).mpr q6.2);have nd':¬(aX x/\aX y/\x<=y):=nd;have e1:Ev (KK (d+4) false) (sub (cU (aj (cU (aj (neg (ai 1)) (aj (ai 5) au))) (aj (cU (aj (ai 5) (aj (ai 100000) au))) (aj (cU (aj (ai 100000) (aj (ai 100000) au))) (aj (cU (aj (ai 7) (aj (ai 6) au))) (aj (cU (aj (ai 99999) (aj (ai 0) au))) (aj (cU (aj (ai 0) (aj (neg (ai 1)) au))) au))))))) (aG aY (ag 3) (ai 6))) [qV n,sV u,sV c,iV k,none] σ (.d (.lst [.int x,.int y])):=
  uU (ds:=nP.map fun x=>.lst [.int x.1,.int x.2]) (dQ rfl) rfl (by decide) (by decide) rfl (by rw[Ou,e];rfl)
 have d0:Ev (KK (d+4) false) (sub (ag 4) (ai 0)) [qV n,sV u,sV c,iV k,dV (.lst [.int x,.int y])] σ (.d (.int x)):=bc rfl rfl rfl rfl (dN (k:=0) rfl);have d1:Ev (KK (d+4) false) (sub (ag 4) (ai 1)) [qV n,sV u,sV c,iV k,dV (.lst [.int x,.int y])] σ (.d (.int y)):=bc rfl rfl rfl rfl (dN (k:=1) rfl);obtain ⟨c2,e2⟩:∃ c2,Ev (KK (d+4) false) (sub (cU (aj (aU Pk) (aj (ag 2) au))) (aG aY (aG bh (ag 3) (ai 6)) (ai 2))) [qV n,sV u,sV c,iV k,dV (.lst [.int x,.int y])] σ (.d (.str c2)):=by
  have l:((k.fdiv 6).fmod 2).toNat<[Pk,c].length:=by show _<2;exact (Int.toNat_lt q2.1).mpr q2.2
  exact ⟨_,uU (ds:=[Pk,c].map .str) (dQ rfl) (dz rfl) (by decide) (by decide) rfl (by rw[Ou,Oh l];rfl)⟩
 obtain ⟨c3,e3,i3,l3⟩:∃ c3,Ev (KK (d+4) false) (sub (cU (aj (aU Pk) (aj (aU [69,85,82,79]) (aj (aU []) au)))) (aG aY (aG bh (ag 3) (ai 12)) (ai 3))) [qV n,sV u,sV c,iV k,dV (.lst [.int x,.int y])] σ (.d (.str c3))/\bo c3=false/\c3.length<=1000:=by
  have l:((k.fdiv 12).fmod 3).toNat<[Pk,[69,85,82,79],[]].length:=by show _<3;exact (Int.toNat_lt q3.1).mpr q3.2
  have ok:∀ x∈[Pk,[69,85,82,79],[]],bo x=false/\x.length<=1000:=by decide
  exact ⟨_,uU (ds:=[Pk,[69,85,82,79],[]].map .str) (dQ rfl) (dz rfl) (by decide) (by decide) rfl (by rw[Ou,Oh l];rfl),ok _ (List.getElem_mem l)⟩
 exact aS rfl rfl rfl (aa (aA e1 rfl) (aa (bj (qR (az (c5 rfl (c5 rfl (c5 rfl (c5 d0 (cl1 d1))))) (sG (my B (.inr (.inr ⟨ha,hc,nd',rfl⟩)))))) rfl) (aa (bj (qR (az (c5 rfl (c5 rfl (c5 e2 (c5 d0 (cl1 rfl))))) (z6 (my B (.inl ⟨hs,rfl⟩))))) rfl) (aa (bj (qR (az (c5 rfl (c5 rfl (c5 e3 (c5 d0 (cl1 d1))))) (z7 (my B (.inr (.inl ⟨ha,i3,l3,rfl⟩)))))) rfl) (aP (aM (az (c5 rfl (c5 d0 (cl1 d1))) (jN nd')))))))) (tk _)
end
def Ht (y:D):Prop:=∃ i j k l,y= .tup [.int i,.int j,.int k,.int l]
section
variable {a:su} {e:eI}
theorem FQ (ls:List bQ):∀ s:Int×List D,(∀ y∈s.2,Ht y)->∀ y∈(ls.foldl (uW a e) s).2,Ht y:=by
 induction ls with
 |nil=>exact fun s h=>h
 |cons x ls ih=>
  intro s h;rw[List.foldl_cons];refine ih _ ?_;unfold uW;split
  .intro y hy;rcases Ov.mp hy with hy|hy
   .exact h y hy
   .rw[Oi.mp hy];exact ⟨_,_,_,_,rfl⟩
  .exact h
theorem FR (es:List eI):∀ s:Int×List D,(∀ y∈s.2,Ht y)->∀ y∈(es.foldl (uK a) s).2,Ht y:=by
 induction es with
 |nil=>exact fun s h=>h
 |cons e es ih=>
  intro s h;rw[List.foldl_cons];exact ih _ (FQ e.lines s h)
theorem F2 {l:List D} (h:∀ y∈l,Ht y):pl 8 (.lst l)=true:=List.all_eq_true.mpr fun x hx=>by
 obtain ⟨i,j,k,m,rfl⟩:=h x hx;rfl
end
section
variable {d m n N:Nat} {hd:Bool} {K:cP} {ρ ρ':a9} {σ σ' σ'':av} {p p':Pl} {S S':St} {f t:Int} {a:su}
theorem A9 {x:PV} {l:List D} {hd:Bool} (h:rd σ x=some (.lst l)) (hl:l.length<=100000):BG.g hd [x] σ=some (.ok (.d (.lst l)),σ):=by
 show ((rd σ x).bind fun u=>_)=_;rw[h,Od];show ((aq (l.length<=dX) (D.lst l)).map _)=_;rw[aR (Om hl (by decide))];rfl
theorem yj {x:Int}:CC (d+1) hd 34 [.d (.int x)] σ=some (.ok (.d (.bool true)),σ):=aS rfl rfl rfl (aP (aM rfl)) (tk _)
theorem wh {e:CE} {x:Int} (h:Ev (KK (d+1) hd) e ρ σ (.d (.int x))):Ts (KK (d+1) hd) (dD (lu (ax 34 (aj e au)))) ρ σ false:=gW (eY (az (cl1 h) yj))
theorem ES {o a:CE} {n j:Nat} {l:List D} {y:D} (h0:o.ev K ρ σ=some (.ok (.p n j),σ')) (h1:Ev K a ρ σ' (.d y)) (h:bU σ' n j=some (.list l)) (hl:l.length<dX):(bm aN o (aj a au)).ev K ρ σ=some (.ok (.d .none),d8 σ' n j (.list (l++[y]))):=by
 refine aC h0 ?_;have r:rd σ' (.p n j)=some (.lst l):=by show (bU σ' n j).bind _=_;rw[h];rfl
 show (match (rd σ' (.p n j)).any (D3 (.p n j)) with|true=>_|false=>none)=_
 rw[r];refine aC (cl1 h1) ?_;show ((bU σ' n j).bind fun f=>(Hp y f).map _)=_;rw[h,Od];show Option.map _ (aq (l.length<dX) _)=_;rw[aR hl];rfl
noncomputable abbrev s3 (p:Pl) (S:St) (H:List D) (tl:av):av:=pk p::bk S:: .fld (.list H)::tl
noncomputable abbrev oR (a:su) (f t:Int) (x7 x8 x9 x10 x11 x12 x13:Option PV):a9:=[qV 1,qV 0,sV a.1,sV a.2,iV f,iV t,qV 2,x7,x8,x9,x10,x11,x12,x13]
theorem yB {v:D} {R:List D} {x7 x8 x9 x10 x12 x13:Option PV} (h:∀ y∈R,Ht y):∀ x11,∃ y11,eU (.d v) v 11 (fun ρ=>lz.ex (KK (d+1) false) ρ) R (oR a f t x7 x8 x9 x10 x11 x12 x13) σ=some (.next (oR a f t x7 x8 x9 x10 y11 x12 x13),σ):=by
 induction R with
 |nil=>exact fun x11=>⟨x11,rfl⟩
 |cons y R ih=>
  intro x11;obtain ⟨i,j,k,l,rfl⟩:=h y (.head _);obtain ⟨y11,e⟩:=ih (fun y hy=>h y (.tail _ hy)) (dV (.tup [.int i,.int j,.int k,.int l]));exact ⟨y11,bL (aa (bj (bT (bF (gW (eY (xq rfl))) (bF (wh (cw 2 rfl rfl)) (bF (wh (cw 3 rfl rfl)) rfl)))) rfl) rfl) rfl e⟩
theorem z_ {H:List D} (hm:S.made=p.ents) (sh:Sh S) (F:Fw S.made) (ha:a.1∈S.names) (hc:bo a.2=true) (h1:aX f) (h2:aX t) (h:f<=t) (hH:H.length<=1000):∃ J R,pl 8 (.lst J)=true/\pl 8 (.lst R)=true/\CC (d+4) false 182 [.p 1 0,.p 0 0,.d (.str a.1),.d (.str a.2),.d (.int f),.d (.int t),.p 2 0] (s3 p S H [])=some (.ok (.d (.bool true)),s3 p S (H++[.tup [.lst J,.lst J]]++[.tup [.lst R,.lst R]]) []):=by
 have Fe:=F.e;have jl:=rB (es:=S.made) (f:=f) (t:=t);have sr:=fun (s:av) (B:Bk s 1 S)=>sK (d:=d) (σ:=s) B sh F ha hc h1 h2 h;have s2r:=fun (s:av) (B:Bk s 1 S)=>yr (d:=d) (σ:=s) B sh F ha hc h1 h2 h;have jr:=fun (s:av) (B:Bk s 1 S)=>t5 (d:=d) (σ:=s) B F.e h1 h2 h;have br:=EM (d:=d+1) (σ:=s3 p S H []) (n:=1) rfl sh ha hc h2;have lr:=fun s=>zf (d:=d+2) (σ:=s) (es:=jE S.made f t) (a:=a) (o:=hU S.made a (f - 1)) (fun e he=>F.l e (nS he)) (Om jl Fe);have R0:Rk (s3 p S H []) 0 p:=rfl;have re:rd (s3 p S H []) (.p 0 5)=some (.lst (S.made.map cq)):=by rw[hm];exact jp R0
 have iv:uL (.p 0 5) (s3 p S H [])=some (.lst (S.made.map cq),S.made.map cq):=vP re (by rw[Oc];exact F.e);have ls:=tV (d:=d+2) (f:=f) (t:=t) re (dE re) iv F.no F.e;have la:=nO (d:=d+2) (a:=a) (f:=f) re (dE re) iv;have lb:=nO (d:=d+2) (a:=a) (f:=t+1) re (dE re) iv;rw[Int.add_sub_cancel] at lb;have sb:=Ae (es:=S.made) (a:=a) (f:=f) (t:=t) (O8 (Int.lt_add_one_of_le h));have rr:∀ y∈(d6 S.made a f t).2,Ht y:=FR _ _ fun y hy=>absurd hy Oy;have rl:(d6 S.made a f t).2.length<=60000:=by
  have:=Dc (a:=a) (jE S.made f t) (fun e he=>F.l e (nS he)) (hU S.made a (f - 1),[]);unfold d6;exact Om this (by show 0+60*_<=_;exact OS (Pd _ (Om jl (Fe))) _)
 unfold wQ at sr;rw[sb] at sr;rw[show (List.foldl (uK a) (hU S.made a (f - 1),[]) (jE S.made f t)).2=(d6 S.made a f t).2 from rfl] at lr;have pj:pl 8 (.lst ((jE S.made f t).map cq))=true:=AG _;have jl2:((jE S.made f t).map cq).length<=1000:=by rw[Oc];exact Om jl Fe
 have pr:=F2 rr;refine ⟨(jE S.made f t).map cq,(d6 S.made a f t).2,pj,pr,?_⟩;generalize (d6 S.made a f t).2=R at sr s2r lr rr rl pr ⊢;generalize hU S.made a (f - 1)=o at sr s2r la lr ⊢;generalize hU S.made a t=z at sr br lb ⊢;generalize (jE S.made f t).map cq=J at jr ls lr pj jl2 ⊢;obtain ⟨y11,lp⟩:=yB (d:=d+2) (a:=a) (f:=f) (t:=t) (σ:=s3 p S H []) (v:=.lst R) (x7:=dV (.lst J)) (x8:=dV (.lst J)) (x9:=dV (.tup [.int o,.lst R,.int z])) (x10:=iV o) (x12:=none) (x13:=none) rr none;have ek:∀ ρ,Ev (KK (d+3) false) (ag 1) ρ (s3 p S H []) (.p 0 0)->Ev (KK (d+3) false) (key (ag 1) 3 Pi) ρ (s3 p S H []) (.p 0 5):=fun ρ h=>jt R0 h;have f0:∀ s x10 x11 x12 x13,Ev (KK (d+3) false) (sub (ag 9) (ai 0)) (oR a f t (dV (.lst J)) (dV (.lst J)) (dV (.tup [.int o,.lst R,.int z])) x10 x11 x12 x13) s (.d (.int o)):=fun s _ _ _ _=>cw 0 rfl rfl;have f1:∀ s x10 x11 x12 x13,Ev (KK (d+3) false) (sub (ag 9) (ai 1)) (oR a f t (dV (.lst J)) (dV (.lst J)) (dV (.tup [.int o,.lst R,.int z])) x10 x11 x12 x13) s (.d (.lst R)):=fun s _ _ _ _=>cw 1 rfl rfl;have f2:∀ s x10 x11 x12 x13,Ev (KK (d+3) false) (sub (ag 9) (ai 2)) (oR a f t (dV (.lst J)) (dV (.lst J)) (dV (.tup [.int o,.lst R,.int z])) x10 x11 x12 x13) s (.d (.int z)):=fun s _ _ _ _=>cw 2 rfl rfl;refine aS (σ':=s3 p S (H++[.tup [.lst J,.lst J]]++[.tup [.lst R,.lst R]]) [.wrp (.list (R++[.str [109,111,114,101]]))]) rfl rfl (ρ:=oR a f t none none none none none none none) rfl ?_ rfl;refine aa (aA (az (c5 (ek _ rfl) rfl) ls) rfl) ?_;refine aa (aA (az rfl (jr _ rfl)) rfl) ?_;refine aa (bj (bT (bF (gW (eY (xr rfl rfl))) (bF (an rfl rfl rfl rfl (xh rfl pj rfl)) rfl))) rfl) ?_;refine aa (aA (az rfl (sr _ rfl)) rfl) ?_;refine aa (bj (bT (bF (gW (eY (xq rfl))) (bF (an (b7 (cl1 rfl) (Jr rfl (Oj rfl))) rfl rfl rfl (s9 rfl)) (bF (gW (eY (xr (f1 ..) rfl))) rfl)))) rfl) ?_;refine aa (aA (az (c5 (ek _ rfl) rfl) la) rfl) ?_;refine aa (bj (bT (bF (wh (f0 ..)) (bF (wh (f2 ..)) (bF (an (f0 ..) rfl rfl rfl (s9 rfl)) rfl)))) rfl) ?_;refine aa (bP (f1 ..) (fZ (if_pos (Om rl (by decide)))) lp) ?_;refine aa (aA (az (c5 (ek _ rfl) rfl) lb) rfl) ?_;refine aa (bj (bT (bF (an (f1 ..) (az rfl (lr _)) rfl rfl (xh rfl pr rfl)) (bF (an (f2 ..) rfl rfl rfl (s9 rfl)) rfl))) rfl) ?_;refine aa (bj (an (bW rfl rfl rfl br) rfl rfl rfl (s9 rfl)) rfl) ?_;refine aa (aB (b_ (l:=H) rfl (bB (c5 rfl (cl1 (b7 (cl1 rfl) (A9 rfl (Om jl2 (Oj rfl))))))) rfl (df hH))) ?_;refine aa (aB (b_ (l:=H++[.tup [.lst J,.lst J]]) rfl (bB (c5 (f1 ..) (cl1 (b7 (cl1 (f1 ..)) (A9 rfl (Om (rl) (Oj rfl))))))) rfl (OC (m:=1001) (by rw[Of,On];exact O9 hH) (by decide)))) ?_;refine aa (aA (az rfl (s2r _ rfl)) rfl) ?_;refine aa (aB (ES (l:=R) (n:=3) (j:=2) (y:=.str [109,111,114,101]) rfl rfl rfl (OC rl (by decide)))) ?_;refine aa (aA (az rfl (sr _ rfl)) rfl) ?_;exact aP (aM (xU (BK (kZ (az rfl (jr _ rfl)) rfl rfl rfl (uh rfl pj rfl)) (xT (kZ (cw 1 rfl rfl) (az rfl (lr _)) rfl rfl (uh rfl pr rfl))))))
end
section
variable {d m n N:Nat} {hd:Bool} {K:cP} {ρ ρ':a9} {σ σ':av} {p p':Pl} {S S':St} {c:List Nat} {t:Int}
noncomputable abbrev bR (m n:Nat) (k:Nat) (u:List Nat) (ls:List bQ) (x:Option PV):a9:=[qV n,qV m,iV k,sV u,dV (.lst (ls.map bC)),x]
structure NP (p p':Pl):Prop where
 n:p'.names=p.names
 c:p'.curs=p.curs
 e:p'.ends=p.ends
theorem zH {j k:Nat} {u:List Nat} {ls:List bQ} (h:gt σ m n p S) (G:Gd N p S) (hN:N<=800) (he:p.ends=[]) (q:zO p.names p.curs ls) (hj:j<k) (hk:k<=200):∃ p' S',Gd (N+1) p' S'/\NP p p'/\iu.ex (KK (d+3) false) (bR m n k u ls (iV j)) σ=some (.next (bR m n k u ls (iV j)),bb σ m n p' S'):=by
 have hn:fJ Pv:=⟨by decide,by decide⟩;have e7:∀ s,Ev (KK (d+3) false) (aG bh (aG ft (ai 7) (aG dm (ag 2) (ag 5))) (ai 2)) (bR m n k u ls (iV j)) s (.d (.int ((7*((k:Int) - j)).fdiv 2))):=fun s=>dz (aQ rfl rfl rfl rfl (iy (xi (by decide))));have r:=Int.fdiv_eq_ediv_of_nonneg (7*((k:Int) - j)) (b:=2) (by decide);generalize (7*((k:Int) - j)).fdiv 2=t at e7 r;have h1:aX t:=⟨Il hj r,by omega⟩;have gp:=G.post (dd:=[]) h1 hn q (by rw[List.append_nil];exact OF G.l5);rw[List.append_nil] at gp;refine ⟨_,_,gp,⟨rfl,rfl,rfl⟩,?_⟩;have pr:=mB (d:=d+2) (t:=t) (b:=0) (note:=Pv) (ls:=ls) h.r (o0 hN G.l1) (H_ q.hi);have b2:Bk (σ.set m (pk {p with ents:=p.ents++[⟨p.ents.length+1,t,Pv,ls,0⟩]})) n S:=h.bm;have cl0:cl S.ends= -1:=by rw[G.ends,he];rfl
 have po:=w9 (d:=d) (t:=t) (note:=Pv) (ls:=ls) b2 (G.sh (o6 hN)) h1 (by rw[cl0];exact ON (by decide) h1.1) hn ⟨q.lo,q.hi⟩ (fun l hl=>⟨by rw[G.names];exact (q.l l hl).1,(q.l l hl).2.1,(q.l l hl).2.2⟩) (Cj q.z (by have:=q.hi;exact Om this (Oj rfl)));exact aa (aB (az (c5 rfl (c5 (e7 _) rfl)) pr)) (aa (aB (bW b2 rfl (c5 (e7 _) rfl) po)) rfl)
theorem Cb {k:Nat} (hk:k<=120) (h:gt σ m n p S) (G:Gd N p S) (hN:N<=600) (he:p.ends=[]):∃ p' S',Gd (N+120) p' S'/\CC (d+4) false 186 [.p n 0,.p m 0,.d (.int k)] σ=some (.ok (.d .none),bb σ m n p' S'):=by
 have c3:=G.c3;have c10:=G.c10;have nl:=G.nl;have n2:2<=p.names.length:=by obtain ⟨T,e,_,e2⟩:=G.nm;rw[e,Ok];exact Nat.le_add_of_sub_le e2
 obtain ⟨u,hu⟩:∃ u,p.curs[p.curs.length - 1]? =some u:=⟨_,Oh (Nat.sub_one_lt_of_lt c3)⟩;obtain ⟨z1,hz1⟩:∃ u,p.names[p.names.length - 1]? =some u:=⟨_,Oh (Nat.sub_one_lt_of_lt n2)⟩;obtain ⟨z2,hz2⟩:∃ u,p.names[p.names.length - 2]? =some u:=⟨_,Oh (Nat.sub_lt (OD (by decide) n2) (by decide))⟩;have gn:∀ {l:List (List Nat)} {x:List Nat} (j:Nat),1<=j->j<=l.length->j<=1000->l[l.length - j]? =some x->cp (.lst (l.map .str)) (.int (-(j:Int)))=some (.str x):=fun j a b c e=>D9 j a (by rw[Oc];exact b) c (by rw[Oc,Ou,e];rfl);have gu:=gn 1 (by decide) (Nat.one_le_of_lt c3) (by decide) hu;have g1:=gn 1 (by decide) (Nat.one_le_of_lt n2) (by decide) hz1;have g2:=gn 2 (by decide) (Nat.succ_le_of_lt n2) (by decide) hz2;have um:=OH hu;have uc:=G.ic u um;have q:zO p.names p.curs [(z1,u,7),(z2,u,-7)]:=⟨fun x hx=>by
  rcases Oe.mp hx with rfl|hx
  .exact ⟨OH hz1,uc,(by decide:c_ 7=true)⟩
  .rw[Oi.mp hx];exact ⟨OH hz2,uc,(by decide:c_ (-7)=true)⟩,Oj rfl,Oj rfl,fun c=>by
  rw[bN,bN];show (if u=c then 7 else 0)+((if u=c then -7 else 0)+0)=(0:Int);split<;>rfl,fun x hx=>by
  rcases Oe.mp hx with rfl|hx
  .exact um
  .rw[Oi.mp hx];exact um⟩
 obtain ⟨ρ2,s2,lp,p',S',x5,rfl,rfl,g,B⟩:=xM (v:=.d (.rng 0 k 1)) (x:=.rng 0 k 1) (i:=5) (b:=fun ρ=>iu.ex (KK (d+3) false) ρ) (fun j ρ s=>∃ p' S' x5,ρ=bR m n k u [(z1,u,7),(z2,u,-7)] x5/\s=bb σ m n p' S'/\Gd (N+j) p' S'/\NP p p') k 0 (bR m n k u [(z1,u,7),(z2,u,-7)] none) σ ⟨p,S,none,rfl,h.same.symm,G,rfl,rfl,rfl⟩ fun j ρ s hj hx=>by
   obtain ⟨p',S',x5,e1,e2,g,B⟩:=hx;subst e1 e2;obtain ⟨p2,S2,g2,B2,e⟩:=zH (d:=d) (j:=j) (k:=k) (u:=u) (ls:=[(z1,u,7),(z2,u,-7)]) (h.to p' S') g (Om (Nat.add_le_add (hN) (Om (OQ hj) (OS (hk) _))) (Oj rfl)) (B.e.trans he) (by rw[B.n,B.c];exact q) (KS hj) (Om (hk) (Oj rfl));rw[Fp h.ne] at e;exact ⟨_,_,e,rfl,⟨p2,S2,_,rfl,rfl,g2,B2.n.trans B.n,B2.c.trans B.c,B2.e.trans B.e⟩⟩
 rw[O4] at g;rw[<-List.range_eq_range'] at lp;have h':=h.to p' S';have g':Gd (N+120) {p' with most:=p'.most+k} S':=by
  have:=g.mono (M:=N+120) (Ij hk);exact {this with}
 have ko:=Bg (K:=KK (d+3) false) (ρ:=bR m n k u [(z1,u,7),(z2,u,-7)] x5) (tb:=nQ) (k:=8) (o:=ag 1) (a:=aG bf (key (ag 1) 8 Pp) (ag 2)) (s:=Pp) (y:=.int (p'.most+k)) (z:=.int p'.most) (l:=w_ p') h'.r (fp (vM h'.r rfl) rfl) rfl rfl rfl;refine ⟨_,_,g',fm (ρ':=bR m n k u [(z1,u,7),(z2,u,-7)] x5) rfl rfl (ρ:=[qV n,qV m,iV k,none,none,none]) rfl (σ':=bb σ m n {p' with most:=p'.most+k} S') ?_ jJ⟩;refine aa (aA (bc (ju h.r rfl) (n6 rfl) rfl rfl gu) rfl) (aa (aA (dQ (ds:=[bC (z1,u,7),bC (z2,u,-7)]) (c5 (bB (c5 (bc (c8 h.r rfl) (n6 rfl) (c7 h.r) rfl g1) rfl)) (cl1 (bB (c5 (bc (c8 h.r rfl) (n6 rfl) (c7 h.r) rfl g2) rfl))))) rfl) (aa (bP (rQ rfl (Om (hk) (Oj rfl))) (fZ (iT (Om (hk) (Oj rfl)))) lp) (aa ko ?_)));show some (Out.next _,(bb σ m n p' S').set m (pk {p' with most:=p'.most+k}))=_;rw[EL h.ne]
end
section
variable {d m n N:Nat} {hd:Bool} {K:cP} {ρ ρ':a9} {σ σ':av} {p p':Pl} {S S':St} {t f:Int} {sc:List Int} {a:su}
theorem Gd.fw (G:Gd N p S) (hN:N<=1000):Fw S.made:=by
 rw[G.made];exact ⟨fun e he=>(G.ent e he).n,Om G.l1 hN,G.nos⟩
theorem Gd.far (G:Gd N p S):iZ∉S.names:=by
 obtain ⟨T,e1,e2,_⟩:=G.nm;rw[G.names,e1];exact fun z=>(Oe.mp z).elim (by decide) e2.st
theorem F' {e:eI} (ls:List bQ) (h:∀ x∈ls,x.1≠a.1):∀ (s:Int×List D) (z:Int),ls.foldl (uW a e) s=s/\ls.foldl (jG a.1 a.2) z=z:=by
 induction ls with
 |nil=>exact fun s z=>⟨rfl,rfl⟩
 |cons x ls ih=>
  intro s z;have n:¬(x.1=a.1/\x.2.1=a.2):=fun q=>h x (.head _) q.1;have i:=ih (fun y hy=>h y (.tail _ hy)) s z;rw[List.foldl_cons,List.foldl_cons,show uW a e s x=s from if_neg n,show jG a.1 a.2 z x=z from if_neg n];exact i
theorem AO (es:List eI) (h:∀ e∈es,∀ x∈e.lines,x.1≠a.1):∀ (s:Int×List D) (z:Int),es.foldl (uK a) s=s/\es.foldl (oM a.1 a.2 (some t)) z=z:=by
 induction es with
 |nil=>exact fun s z=>⟨rfl,rfl⟩
 |cons e es ih=>
  intro s z;have i:=ih (fun y hy=>h y (.tail _ hy)) s z;have q:=F' (e:=e) e.lines (h e (.head _)) s z;rw[List.foldl_cons,List.foldl_cons,show uK a s e=s from q.1];unfold oM;rw[q.2,show (if j3 (some t) e.day=true then z else z)=z by split<;>rfl];exact i
theorem yq {es:List eI} (h:∀ e∈es,∀ x∈e.lines,x.1≠a.1):wQ es a f t= .tup [.int 0,.lst [],.int 0]:=by
 have e0:hU es a (f - 1)=0:=(AO es h (0,[]) 0).2;have e1:d6 es a f t=(0,[]):=by
  unfold d6;rw[e0];exact (AO (t:=t) _ (fun e he=>h e (nS he)) (0,[]) 0).1
 unfold wQ;rw[e0,e1]
noncomputable abbrev LR (sc:List Int) (x3 x4 x5 x6 x7 x8:Option PV):a9:=[dV (.lst (sc.map .int)),qV 0,qV 1,x3,x4,x5,x6,x7,x8,none]
def Hl (H:List D):Prop:=∀ x∈H,∃ J,x= .tup [.lst J,.lst J]/\pl 8 (.lst J)=true
theorem Hl.two {H J R:List D} (h:Hl H) (h1:pl 8 (.lst J)=true) (h2:pl 8 (.lst R)=true):Hl (H++[.tup [.lst J,.lst J]]++[.tup [.lst R,.lst R]]):=fun x hx=>by
 rcases Ov.mp hx with hx|hx
 .rcases Ov.mp hx with hx|hx
  .exact h x hx
  .rw[Oi.mp hx];exact ⟨J,rfl,h1⟩
 .rw[Oi.mp hx];exact ⟨R,rfl,h2⟩
theorem wM {q:Int} {x:Int} {y:Int} {H:List D} (G:Gd N p S) (hN:N<=800) (ha:a.1∈p.names) (hc:a.2∈p.curs) (h1:aX x) (h2:aX y) (hH:H.length<=1000) (hh:Hl H):∃ H',H'.length=H.length+2/\Hl H'/\eV.ex (KK 8 false) (LR sc (iV q) (sV a.1) (sV a.2) (iV x) (iV y) (qV 2)) (s3 p S H [])=some (.next (LR sc (iV q) (sV a.1) (sV a.2) (iV x) (iV y) (qV 2)),s3 p S H' []):=by
 obtain ⟨J,R,pj,pr,e⟩:=z_ (d:=4) (f:=min x y) (t:=max x y) (H:=H) G.made (G.sh (o6 hN)) (G.fw (Om (hN) (Oj rfl))) (a:=a) (by rw[G.names];exact ha) (G.ic _ hc) ⟨by have:=h1.1;have:=h2.1;exact Ii (by assumption) this,by have:=h1.2;exact OL (O_ _ _) this⟩ ⟨by have:=h1.1;exact OL this (Int.le_max_left _ _),by have:=h1.2;have:=h2.2;exact Ih (by assumption) this⟩ (Ig) hH;exact ⟨_,by rw[Of,Of];rfl,hh.two pj pr,xF (wL (qv (az rfl e))) rfl⟩
theorem Bc {q x y:Int} (hs:sc.length<=63) (hq:0<=q/\q<=500) (G:Gd N p S) (hN:N<=600) (ha:a.1∈p.names) (hc:a.2∈p.curs) (h1:aX x) (h2:aX y):∃ σ',(sC (aK 8 (fu au)) (sC eV (sC gM (sC gK (sC gI (sC gH (sC gF sN))))))).ex (KK 8 false) (LR sc (iV q) (sV a.1) (sV a.2) (iV x) (iV y) none) [pk p,bk S]=some (.ret (.d (.bool true)),σ'):=by
 obtain ⟨H1,l1,g1,e1⟩:=wM (sc:=sc) (q:=q) (H:=[]) G (Om (hN) (Oj rfl)) ha hc h1 h2 (OG _) (fun x hx=>absurd hx Oy);have B1:gt (s3 p S H1 []) 0 1 p S:=⟨rfl,rfl,by decide⟩;obtain ⟨p2,S2,G2,k2,e2⟩:=pZ (d:=2) (sc:=sc) (f:=q) (l:=63) hs hq ⟨by decide,by decide⟩ B1 G (Om (hN) (Oj rfl));obtain ⟨ns,en⟩:=k2.g.n;obtain ⟨H2,l2,g2,e3⟩:=wM (sc:=sc) (q:=q) (x:=x) (y:=y) (H:=H1) (a:=a) G2 (Om (Nat.add_le_add_right (hN) _) (Oj rfl)) (by rw[en];exact List.mem_append_left _ ha) (by rw[k2.c];exact hc) h1 h2 (by rw[l1];decide) g1;have fr:=G2.far;have sh:=G2.sh (Om (Nat.add_le_add_right (hN) _) (Oj rfl));have ad:=oJ (d:=6) (σ:=s3 p2 S2 H2 []) (n:=1) rfl sh (a:=iZ) ⟨115,[116,114,97,110,103,101,114],rfl,by decide,by decide,by decide⟩ fr;have sh2:Sh (jF S2 iZ):=⟨by show (S2.names++[iZ]).length<=_;rw[Of,On,G2.names];have:=G2.nl;exact Om (O9 this) (Oj rfl),sh.t,sh.m,sh.g,sh.e,by show (S2.deeds++[pI iZ]).length<=_;rw[Of,On];have:=G2.l6;exact Om (Nat.add_le_add_right (Om this (Nat.add_le_add_right (hN) _)) _) (Oj rfl)⟩;have st:=sK (d:=5) (σ:=s3 p2 (jF S2 iZ) H2 []) (n:=1) (a:=(iZ,a.2)) (f:=0) (t:=99999) rfl sh2 (G2.fw (Om (Nat.add_le_add_right (hN) _) (Oj rfl))) (List.mem_append_right _ (.head _)) (G2.ic _ (by rw[k2.c];exact hc)) ⟨by decide,by decide⟩ ⟨by decide,by decide⟩ (by decide);rw[yq (fun e he x hx z=>by
  have he:e∈S2.made:=he;rw[G2.made] at he;have z:x.1=iZ:=z;exact fr (by rw[G2.names,<-z];exact ((G2.ent e he).l x hx).1))] at st
 have hl:H2.length=4:=by rw[l2,l1];rfl
 have cf:=eG (K:=KK 8 false) (ρ:=LR sc (iV q) (sV a.1) (sV a.2) (iV x) (iV y) (qV 2)) (σ:=s3 p2 (jF S2 iZ) H2 []) (i:=9) (bS:=ag 9) (t:=gY (aO mh (sub (ag 9) (ai 0)) (sub (ag 9) (ai 1)))) (v:=.p 2 0) (y:=.lst H2) (dE rfl) id id (fun _=>false) H2 [] (fun x hx=>by
  obtain ⟨J,rfl,hp⟩:=g2 x hx;exact uO (an (cw 0 rfl rfl) (cw 1 rfl rfl) rfl rfl (xh rfl hp rfl))) (fun x _ h=>absurd h OB) (by rw[O2];exact Ic hl)
 rw[List.filter_eq_nil_iff.mpr fun _ _=>OB,List.map_nil,List.append_nil,List.map_id] at cf;refine ⟨_,aa (aA (eW rfl) rfl) (aa e1 (aa (xF (wL (qv (az rfl e2))) rfl) (aa e3 (aa (aB (bW (S:=S2) rfl rfl rfl ad)) (aa (bj (an (az rfl st) (bB rfl) rfl rfl (xh rfl rfl rfl)) rfl) (aP (aM (kZ (j6 (dS rfl (vP rfl (Ib hl)) cf)) (dQ rfl) rfl rfl (uh rfl rfl rfl)))))))))⟩
end
section
variable {d m n N:Nat} {hd:Bool} {K:cP} {ρ ρ':a9} {σ σ':av} {p p':Pl} {S S':St} {t f:Int} {sc:List Int} {a:su}
theorem Bd (hs:sc.length<=63) (G:Gd 130 p S):∃ σ',(sC iA (sC lM (sC lK (sC lJ (sC lI (sC lH (sC gO (sC gN (sC j5 (sC (aK 8 (fu au)) (sC eV (sC gM (sC gK (sC gI (sC gH (sC gF sN)))))))))))))))).ex (KK 8 false) (LR sc none none none none none none) [pk p,bk S]=some (.ret (.d (.bool true)),σ'):=by
 have H:gt [pk p,bk S] 0 1 p S:=⟨rfl,rfl,by decide⟩;have cell_:∀ (k:Nat) x3 x4 x5 x6 x7 p S,k<=1000->Ev (KK 8 false) (ax 33 (aj (ag 0) (aj (ai (k:Nat)) au))) (LR sc x3 x4 x5 x6 x7 none) [pk p,bk S] (.d (.int (cell sc k))):=fun k _ _ _ _ _ _ _ hk=>xS (d:=7) (k:=k) hs rfl rfl hk;have ln:=j1 (hd:=false) (σ:=[pk p,bk S]) (x:=.d (.lst (sc.map .int))) rfl (by rw[Oc];exact bA (Om (hs) (Oj rfl)));rw[Oc] at ln;have q0:(sc.length:Int).fdiv 3=(sc.length:Int) / 3:=Int.fdiv_eq_ediv_of_nonneg _ (by decide);have q1:=aF (a:=(cell sc 5).fdiv 7) (b:=1+(sc.length:Int).fdiv 3) (IR q0);generalize hq:8+3*((cell sc 5).fdiv 7).fmod (1+(sc.length:Int).fdiv 3)=q;have hq':0<=q/\q<=500:=KR hs q0 q1 hq;have s4:iA.ex (KK 8 false) (LR sc none none none none none none) [pk p,bk S]=some (.next (LR sc (iV q) none none none none none),[pk p,bk S]):=by
  rw[<-hq];exact aA (fp rfl (aQ rfl (aQ (dz (cell_ 5 _ _ _ _ _ _ _ (by decide))) (fp rfl (dz (b7 (cl1 rfl) ln))) rfl rfl (eO (IR q0) (LH hs q0))) rfl rfl (iy (xi (by decide))))) rfl
 obtain ⟨p1,S1,G1,k1,e1⟩:=pZ (d:=2) (sc:=sc) (f:=8) (l:=q) hs ⟨by decide,by decide⟩ hq' H G (by decide);have nl:=G1.nl;have c3:=G1.c3;have sh:=G1.sh (by decide);have R1:Rk [pk p1,bk S1] 0 p1:=rfl;have B1:Bk [pk p1,bk S1] 1 S1:=rfl;obtain ⟨u,um,e6⟩:∃ u,u∈p1.names/\∀ ρ,Ev (KK 8 false) (ag 1) ρ [pk p1,bk S1] (.p 0 0)->Ev (KK 8 false) (ax 33 (aj (ag 0) (aj (ai 4) au))) ρ [pk p1,bk S1] (.d (.int (cell sc 4)))->Ev (KK 8 false) (sub (key (ag 1) 0 Pg) (aG aY (ax 33 (aj (ag 0) (aj (ai 4) au))) (bi ba (aj (key (ag 1) 0 Pg) au)))) ρ [pk p1,bk S1] (.d (.str u)):=by
  have n1:1<=p1.names.length:=by obtain ⟨T,e,_,e2⟩:=G1.nm;rw[e,Ok];exact NH
  have r:=aF (a:=cell sc 4) (b:=p1.names.length) (Kh n1);have hk:((cell sc 4).fmod p1.names.length).toNat<p1.names.length:=H5 r;have g:=eO (a:=cell sc 4) (b:=p1.names.length) (Kh n1) (OP.mpr (OC nl (Oj rfl)));rw[show (cell sc 4).fmod p1.names.length=((((cell sc 4).fmod p1.names.length).toNat:Nat):Int) by exact (OR r.1).symm] at g;refine ⟨_,List.getElem_mem hk,fun ρ h1 h4=> ?_⟩;have ll:=fM (c8 (s:=Pg) R1 h1) (c7 R1) (by rw[Oc];exact o3 nl);rw[Oc] at ll;exact bc (c8 R1 h1) (aQ h4 ll rfl rfl g) (c7 R1) rfl (dN (by rw[Ou,Oh hk];rfl) (Om (OQ hk) (Om nl (by decide))))
 obtain ⟨c,cm,e7⟩:∃ c,c∈p1.curs/\∀ ρ,Ev (KK 8 false) (ag 1) ρ [pk p1,bk S1] (.p 0 0)->Ev (KK 8 false) (ax 33 (aj (ag 0) (aj (ai 5) au))) ρ [pk p1,bk S1] (.d (.int (cell sc 5)))->Ev (KK 8 false) (sub (key (ag 1) 2 Ph) (aG aY (ax 33 (aj (ag 0) (aj (ai 5) au))) (ai 3))) ρ [pk p1,bk S1] (.d (.str c)):=by
  have r:=aF (a:=cell sc 5) (b:=3) (by decide);have hk:((cell sc 5).fmod 3).toNat<p1.curs.length:=by omega
  have g:=eO (a:=cell sc 5) (b:=3) (by decide) (by decide);rw[show (cell sc 5).fmod 3=((((cell sc 5).fmod 3).toNat:Nat):Int) by exact (OR r.1).symm] at g;exact ⟨_,List.getElem_mem hk,fun ρ h1 h5=>bc (ju R1 h1) (aQ h5 rfl rfl rfl g) rfl rfl (dN (by rw[Ou,Oh hk];rfl) (Om (OQ ((Int.toNat_lt r.1).mpr r.2)) (Oj rfl:3<=100000)))⟩
 obtain ⟨x,hx,e8⟩:=jo (d:=6) (q:=cell sc 6) R1 G1 (by decide);obtain ⟨y0,hy0,e9⟩:=jo (d:=6) (q:=cell sc 7) R1 G1 (by decide);obtain ⟨y,hy,s10⟩:∃ y,aX y/\gO.ex (KK 8 false) (LR sc (iV q) (sV u) (sV c) (iV x) (iV y0) none) [pk p1,bk S1]=some (.next (LR sc (iV q) (sV u) (sV c) (iV x) (iV y) none),[pk p1,bk S1]):=by
  have m:=dP (dz (cell_ 5 (iV q) (sV u) (sV c) (iV x) (iV y0) p1 S1 (by decide)) (k:=3) (by decide) (by decide)) (k:=4) (by decide) (by decide);by_cases z:((cell sc 5).fdiv 3).fmod 4=1
  .exact ⟨x,hx,cK (an m rfl rfl rfl (i9 z)) rfl⟩
  .exact ⟨y0,hy0,bj (an m rfl rfl rfl (n7 z)) rfl⟩
 have ha:u∈S1.names:=by rw[G1.names];exact um
 have hc:=G1.ic c cm;have s11:gN.ex (KK 8 false) (LR sc (iV q) (sV u) (sV c) (iV x) (iV y) none) [pk p1,bk S1]=some (.next (LR sc (iV q) (sV u) (sV c) (iV x) (iV y) none),[pk p1,bk S1]):=by
  by_cases z:y<x
  .have nd:¬(aX x/\aX y/\x<=y):=fun h=>Int.not_le.mpr z h.2.2;exact cK (an rfl rfl rfl rfl (tU z)) (aa (bj (qR (az rfl (sG (my (d:=4) B1 (.inr (.inr ⟨ha,hc,nd,rfl⟩)))))) rfl) (aa (bj (gW (eY (az rfl (jN (d:=4) nd)))) rfl) rfl))
  .exact bj (an rfl rfl rfl rfl (pi z)) rfl
 obtain ⟨σ',e⟩:=Bc (a:=(u,c)) (q:=q) (x:=x) (y:=y) hs hq' G1 (by decide) um cm hx hy;exact ⟨σ',aa s4 (aa (xF (wL (qv (az rfl e1))) rfl) (aa (aA (e6 _ rfl (cell_ 4 _ _ _ _ _ _ _ (by decide))) rfl) (aa (aA (e7 _ rfl (cell_ 5 _ _ _ _ _ _ _ (by decide))) rfl) (aa (aA (az (c5 rfl (cl1 (cell_ 6 _ _ _ _ _ _ _ (by decide)))) e8) rfl) (aa (aA (az (c5 rfl (cl1 (cell_ 7 _ _ _ _ _ _ _ (by decide)))) e9) rfl) (aa s10 (aa s11 (aa (bj (gW (eY (az (c5 rfl (c5 rfl (c5 rfl (cl1 (dz (cell_ 6 _ _ _ _ _ _ _ (by decide))))))) (qK (d:=3) B1 ha hc G1.far)))) rfl) e))))))))⟩
theorem FY (sc:List Int) (hs:sc.length<=63):∃ σ',CC 9 false 187 [.d (.lst (sc.map .int))] []=some (.ok (.d (.bool true)),σ'):=by
 obtain ⟨T,F,hT,hT1,hT4,hF,hC,hF3,hF10,_,eP⟩:=yF hs;obtain ⟨h,G,rfl⟩:∃ h G,F=h::G:=by
  cases F with
  |nil=>exact absurd hF3 (by decide)
  |cons a l=>exact ⟨a,l,rfl⟩
 have eB:=Cc (d:=5) (σ:=[pk (Dv T (h::G) 20)]) (m:=0) (p:=Dv T (h::G) 20) rfl rfl rfl (hC h (.head _)) hT (Om hT4 (Oj rfl));have g0:=Ob (mo:=20) hT hT1 hT4 hF hC hF3 hF10;have H:gt [pk (Dv T (h::G) 20),bk (Hh h T)] 0 1 (Dv T (h::G) 20) (Hh h T):=⟨rfl,rfl,by decide⟩;obtain ⟨p,S,g,e3⟩:∃ p S,Gd 130 p S/\lN.ex (KK 8 false) (LR sc none none none none none none) [pk (Dv T (h::G) 20),bk (Hh h T)]=some (.next (LR sc none none none none none none),[pk p,bk S]):=by
  have c4:Ev (KK 8 false) (ax 33 (aj (ag 0) (aj (ai 4) au))) (LR sc none none none none none none) [pk (Dv T (h::G) 20),bk (Hh h T)] (.d (.int (cell sc 4))):=xS (d:=7) (k:=4) hs rfl rfl (by decide);by_cases z:(cell sc 4).fmod 8=5
  .have r:=aF (a:=(cell sc 4).fdiv 8) (b:=120) (by decide);have ek:((cell sc 4).fdiv 8).fmod 120=(((((cell sc 4).fdiv 8).fmod 120).toNat:Nat):Int):=by exact (OR r.1).symm
   generalize hk:(((cell sc 4).fdiv 8).fmod 120).toNat=k at ek;obtain ⟨p,S,g,e⟩:=Cb (d:=4) (k:=k) (Ia r ek) H g0 (by decide) rfl;have m7:=dP (dz c4 (k:=8) (by decide) (by decide)) (k:=120) (by decide) (by decide);rw[ek] at m7;exact ⟨p,S,g,cK (an (dP c4) rfl rfl rfl (i9 z)) (aa (aB (az (c5 rfl (c5 rfl (cl1 m7))) e)) rfl)⟩
  .exact ⟨_,_,g0.mono (by decide),bj (an (dP c4) rfl rfl rfl (n7 z)) rfl⟩
 obtain ⟨σ',e4⟩:=Bd hs g;exact ⟨_,aS rfl rfl (ρ:=[dV (.lst (sc.map .int)),none,none,none,none,none,none,none,none,none]) rfl (aa (aA (az (cl1 rfl) eP) rfl) (aa (aA (az (cl1 rfl) eB) rfl) (aa e3 e4))) rfl⟩
end
open PySem PySem.W PySem.Calls PyProof.Rows
set_option Elab.async false
set_option maxRecDepth 100000
set_option maxHeartbeats 8000000
theorem Js:LeftO pN qN ["BOUND","GREATEST"] (fun _=>true) yN (fun _=>True) 40178:=DV z1 (by decide) z2 z3 z4 (fun s e=>⟨_,Ee s.tree s.n s.life,ah e,C_ s.life (ak e)⟩) (fun w os=>Dn (NV w os) (NU w os)) (fun w os=>Dm (NT w os) (NS w os) (NR w os) (NQ w os))
theorem zk:∀ i,i<100->∀ j,j<100->tZ i=tZ j->i=j:=by decide+kernel
theorem Bh:∀ i j,i<100->j<100->tZ i=tZ j->i=j:=fun i j hi hj h=>zk i hi j hj h
end Mine.Internal
open PySem PySem.W PyProof.Rows
set_option Elab.async false
set_option maxRecDepth 100000 in
set_option maxHeartbeats 8000000 in
theorem PySem.Challenge.cw_uf010015_08_holds : PySem.Challenge.rw_uf010015_08.Holds := by
 w_on
 refine holds_law Mine.Internal.HP fun said=> ?_;refine holds_open (q:=Mine.Internal.qN) (loose:=["BOUND","GREATEST"]) (Xt:=fun _=>true) (XP:=fun _ _=>True) (Yf:=Mine.Internal.yN) (Ya:=fun _=>True) (YP:=fun _ h=>Mine.Internal.KP h) (N:=40178) Mine.Internal.Js
  (fun w s e=>of_eq_true e) (fun w h h' a k=>Mine.Internal.KP.keeps a k) (fun _ _=>trivial) (fun _ _ _ _ _=>trivial) (by rfl) (by rfl) (by rfl) (fun s _=>recFacts_of (by rfl)) (by rfl) (by first|assumption|decide+kernel) (by decide+kernel) ⟨rfl,rfl,rfl,rfl,rfl,by decide+kernel⟩ ?hw ?hc
 (case hw=>w_witness2)
 intro w s₀ s₁ mg mb G Y fa o pm cd doc dV kV ho hd hcd hD hmg hg args vals as hpre hlay hrd hwl hlo;obtain ⟨K,X,ok,TK⟩:=Y;refine Ground.open G ?_;intro T B D TE TW
 wrow_args hpre hlay hrd hwl hlo
 refine enter_call ?_;refine kn_post (Mine.Internal.FK X ok TK) (fun _ _=>rfl) ?_
 rename IntsAre _ _=>hI
 rename Heap.IsList _ _ _=>hL
 rename¬(_<_)=>hle
 obtain ⟨σ',hrun⟩:=Mine.Internal.FY _ (Int.ofNat_le.mp (Int.not_lt.mp hle));refine Mine.Internal.DW (sp:=Mine.Internal.yu) (key:=Mine.Internal.tZ) Mine.Internal.Bh T X ok TK hL hI (f:=Mine.Internal.M5) (by kernel_rfl) (by exact hmg) (d:=8) (by decide) hrun ?_;intro s' sm keep gro;obtain ⟨h',tk,rfl⟩:=sm;refine ⟨⟨.inl ⟨_,.bool true,[],rfl,raisesW_false (by wrow_none_raised),ReadsW.bool true,?_,unshared_nil⟩,Mine.Internal.v4 keep,rfl,hg⟩,Mine.Internal.Bu gro⟩
 wrow_post