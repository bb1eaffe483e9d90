import PyProof.Rows.All
import Wide.All
import OpenK.AllK
import Wide.FinOn
import PySem.Challenge.RW_uf010015_14
set_option autoImplicit false
set_option linter.all false
set_option bootstrap.genMatcherCode false
set_option compiler.extract_closed false
set_option genSizeOf false
set_option genInjectivity false
namespace Mine.Internal
noncomputable abbrev Lj:List Nat:=[110,97,109,101,115]
noncomputable abbrev Lk:List Nat:=[101,110,116,114,105,101,115]
noncomputable abbrev Ll:List Nat:=[99,117,114,114,101,110,99,105,101,115]
noncomputable abbrev Lm:List Nat:=[100,101,101,100,115]
noncomputable abbrev Ln:List Nat:=[101,110,100,115]
noncomputable abbrev Lo:List Nat:=[101,120,99,104,97,110,103,101]
noncomputable abbrev Lp:List Nat:=[116,111,108,100]
noncomputable abbrev Lq:List Nat:=[98,97,99,107,115]
noncomputable abbrev Lr:List Nat:=[107,101,112,116]
noncomputable abbrev Ls:List Nat:=[107,110,111,119,110]
noncomputable abbrev Lu:List Nat:=[65,66,67,68,69,70,71,72,73,74,75,76,77,78,79,80,81,82,83,84,85,86,87,88,89,90]
noncomputable abbrev Lv:List Nat:=[97,98,99,100,101,102,103,104,105,106,107,108,109,110,111,112,113,114,115,116,117,118,119,120,121,122]
noncomputable abbrev Lw:List Nat:=[99,104,97,110,103,101]
noncomputable abbrev Lx:List Nat:=[97,98,99,100,101,102,103,104,105,106,107,108,109,110,111,112,113,114,115,116,117,118,119,120,121,122,48,49,50,51,52,53,54,55,56,57]
noncomputable abbrev Ly:List Nat:=[32,33,34,35,36,38,39,40,41,42,43,44,45,46,47,48,49,50,51,52,53,54,55,56,57,58,59,60,61,62,63,64]
noncomputable abbrev Lz:List Nat:=[65,66,67,68,69,70,71,72,73,74,75,76,77,78,79,80,81,82,83,84,85,86,87,88,89,90,91,92,93,94,95,96]
noncomputable abbrev LA:List Nat:=[97,98,99,100,101,102,103,104,105,106,107,108,109,110,111,112,113,114,115,116,117,118,119,120,121,122,123,124,125,126]
def J':=@List.length_map
def Ka:=@Option.bind_some
def Kb:=@List.mem_cons
def Kd:=@List.length_append
def Kg:=@List.getElem?_eq_some_iff
def Kh:=@List.getElem?_eq_getElem
def Ki:=@List.mem_singleton
def Kj:=@Nat.le_of_ble_eq_true
def Kk:=@List.length_cons
def Kl:=@PySem.Heap.get?_push_of_some
def Km:=@Nat.le_trans
def Kn:=@List.length_singleton
def Ko:=@Nat.le_refl
def Kp:=@PySem.wpAny_bind
def Kq:=@PySem.wpAny_pure
def Kr:=@decide_eq_true
def Kt:=@List.mem_map
def Ku:=@List.getElem?_map
def Kv:=@List.mem_append
def Kw:=@List.getD_eq_getElem?_getD
def Kx:=@PySem.Heap.get?_push_size
def Ky:=@List.not_mem_nil
def Kz:=@List.size_toArray
def KA:=@List.getElem?_append_right
def KC:=@Bool.false_ne_true
def KE:=@Nat.lt_of_le_of_lt
def KF:=@Nat.lt_of_lt_of_le
def KG:=@List.length_set
def KH:=@Nat.le_succ_of_le
def KI:=@Nat.zero_le
def KJ:=@List.mem_of_getElem?
def KL:=@List.getElem?_set_ne
def KM:=@List.filter_cons_of_pos
def KN:=@PySem.Heap.lt_size
def KO:=@Int.le_trans
def KQ:=@Int.lt_of_le_of_lt
def KR:=@Int.lt_of_lt_of_le
def KS:=@Int.ofNat_le
def KT:=@Int.ofNat_lt
def KU:=@Nat.le_of_lt
def KV:=@Int.toNat_of_nonneg
def KW:=@Nat.add_le_add_left
def KX:=@of_decide_eq_true
def KY:=@Nat.lt_irrefl
def KZ:=@Nat.le_succ
def K0:=@List.nodup_cons
def K1:=@List.getElem?_append_left
def K2:=@Option.map_eq_some_iff
def K3:=@List.nodup_nil
def K4:=@Option.some.inj
def K5:=@Nat.le_of_eq
def K6:=@List.length_nil
def K7:=@decide_eq_false
def K8:=@Nat.zero_add
def K9:=@Nat.le_add_right
def K_:=@Int.le_add_of_nonneg_right
def La:=@Nat.lt_trans
def Lb:=@Int.le_of_lt
def Lc:=@Nat.succ_le_succ
def Ld:=@Int.min_le_left
def Le:=@Int.natCast_nonneg
def Lf:=@Nat.not_lt
def Lg:=@Int.not_lt
def Lh:=@Nat.mul_le_mul_left
def Li:=@Nat.le_of_lt_succ
open PySem PySem.W PySem.Calls PyProof.Rows
set_option Elab.async false
set_option maxRecDepth 100000
set_option maxHeartbeats 8000000
theorem dA {a b:Bool} (h1:a=true) (h2:b=true):(a&&b)=true:=by rw[h1,h2];rfl
noncomputable def cuts:{p:(OpenLaw→Bool)×(OpenLaw→Bool)×(OpenLaw→Bool)×(OpenLaw→Bool)×(OpenLaw→Bool)×(OpenLaw→Bool)×(OpenLaw→Bool)×(OpenLaw→Bool)×(OpenLaw→Bool)×(OpenLaw→Bool)×(OpenLaw→Bool)×(OpenLaw→Bool)×(OpenLaw→Bool)×(OpenLaw→Bool)×(OpenLaw→Bool)×(OpenLaw→Bool)×(OpenLaw→Bool)×(OpenLaw→Bool)×(OpenLaw→Bool) // ∀ l:OpenLaw,l.wellSaid=(p.1 l&&p.2.1 l&&p.2.2.1 l&&p.2.2.2.1 l&&p.2.2.2.2.1 l&&p.2.2.2.2.2.1 l&&p.2.2.2.2.2.2.1 l&&p.2.2.2.2.2.2.2.1 l&&p.2.2.2.2.2.2.2.2.1 l&&p.2.2.2.2.2.2.2.2.2.1 l&&p.2.2.2.2.2.2.2.2.2.2.1 l&&p.2.2.2.2.2.2.2.2.2.2.2.1 l&&p.2.2.2.2.2.2.2.2.2.2.2.2.1 l&&p.2.2.2.2.2.2.2.2.2.2.2.2.2.1 l&&p.2.2.2.2.2.2.2.2.2.2.2.2.2.2.1 l&&p.2.2.2.2.2.2.2.2.2.2.2.2.2.2.2.1 l&&p.2.2.2.2.2.2.2.2.2.2.2.2.2.2.2.2.1 l&&p.2.2.2.2.2.2.2.2.2.2.2.2.2.2.2.2.2.1 l&&p.2.2.2.2.2.2.2.2.2.2.2.2.2.2.2.2.2.2 l)}:=⟨(_,_,_,_,_,_,_,_,_,_,_,_,_,_,_,_,_,_,_),fun l=>rfl⟩
theorem sd0:cuts.1.1 PySem.Challenge.rw_uf010015_14=true:=by kernel_rfl
theorem sd1:cuts.1.2.1 PySem.Challenge.rw_uf010015_14=true:=by kernel_rfl
theorem sd2:cuts.1.2.2.1 PySem.Challenge.rw_uf010015_14=true:=by kernel_rfl
theorem sd3:cuts.1.2.2.2.1 PySem.Challenge.rw_uf010015_14=true:=by kernel_rfl
theorem sd4:cuts.1.2.2.2.2.1 PySem.Challenge.rw_uf010015_14=true:=by kernel_rfl
theorem sd5:cuts.1.2.2.2.2.2.1 PySem.Challenge.rw_uf010015_14=true:=by kernel_rfl
theorem sd6:cuts.1.2.2.2.2.2.2.1 PySem.Challenge.rw_uf010015_14=true:=by kernel_rfl
theorem sd7:cuts.1.2.2.2.2.2.2.2.1 PySem.Challenge.rw_uf010015_14=true:=by kernel_rfl
theorem sd8:cuts.1.2.2.2.2.2.2.2.2.1 PySem.Challenge.rw_uf010015_14=true:=by kernel_rfl
theorem sd9:cuts.1.2.2.2.2.2.2.2.2.2.1 PySem.Challenge.rw_uf010015_14=true:=by kernel_rfl
theorem GE:cuts.1.2.2.2.2.2.2.2.2.2.2.1 PySem.Challenge.rw_uf010015_14=true:=by kernel_rfl
theorem GD:cuts.1.2.2.2.2.2.2.2.2.2.2.2.1 PySem.Challenge.rw_uf010015_14=true:=by kernel_rfl
theorem GC:cuts.1.2.2.2.2.2.2.2.2.2.2.2.2.1 PySem.Challenge.rw_uf010015_14=true:=by kernel_rfl
theorem GB:cuts.1.2.2.2.2.2.2.2.2.2.2.2.2.2.1 PySem.Challenge.rw_uf010015_14=true:=by kernel_rfl
theorem GA:cuts.1.2.2.2.2.2.2.2.2.2.2.2.2.2.2.1 PySem.Challenge.rw_uf010015_14=true:=by kernel_rfl
theorem Gz:cuts.1.2.2.2.2.2.2.2.2.2.2.2.2.2.2.2.1 PySem.Challenge.rw_uf010015_14=true:=by kernel_rfl
theorem Gy:cuts.1.2.2.2.2.2.2.2.2.2.2.2.2.2.2.2.2.1 PySem.Challenge.rw_uf010015_14=true:=by kernel_rfl
theorem Gx:cuts.1.2.2.2.2.2.2.2.2.2.2.2.2.2.2.2.2.2.1 PySem.Challenge.rw_uf010015_14=true:=by kernel_rfl
theorem Gw:cuts.1.2.2.2.2.2.2.2.2.2.2.2.2.2.2.2.2.2.2 PySem.Challenge.rw_uf010015_14=true:=by kernel_rfl
theorem saidN:PySem.Challenge.rw_uf010015_14.wellSaid=true:=(cuts.2 PySem.Challenge.rw_uf010015_14).trans (dA (dA (dA (dA (dA (dA (dA (dA (dA (dA (dA (dA (dA (dA (dA (dA (dA (dA (sd0) sd1) sd2) sd3) sd4) sd5) sd6) sd7) sd8) sd9) GE) GD) GC) GB) GA) Gz) Gy) Gx) Gw)
open PySem PySem.W PySem.Calls PyProof.Rows
noncomputable def dh (p:Program) (w:World) (n₀:Nat) (ann:Option Value):Nat→SharedT→Thread→Option SharedT
 |0,_,_=>none
 |n+1,s,t=>match through t with
  |true=>some s
  |false=>match PySem.W.Fast.tw6613529449190102663 n₀ ann t with
   |false=>none
   |true=>match PySem.W.Fast.tw10156331382660048174 (PySem.W.Fast.tw11892475500146522536 PySem.W.Fast.tw14364793385576792824) p w s t with
    |some (s',t')=>dh p w n₀ ann n s' t'
    |none=>none
theorem lF {p:Program} {w:World} {n₀:Nat} {ann:Option Value}:∀ {n:Nat} {s s':SharedT} {t:Thread},dh p w n₀ ann n s t=some s'→topRun treeTable p w n₀ ann n s.abs t=some s'.abs
 |0,_,_,_,h=>by cases h
 |n+1,s,s',t,h=>by
  unfold dh at h;rw[←PySem.W.Fast.te6613529449190102663,←PySem.W.Fast.te10156331382660048174,←PySem.W.Fast.te11892475500146522536,←PySem.W.Fast.te14364793385576792824] at h;unfold topRun;cases ht:through t with
  |true=>rw[ht] at h;cases h;rfl
  |false=>
   rw[ht] at h;cases hk:stepOk n₀ ann t with
   |false=>rw[hk] at h;cases h
   |true=>
    rw[hk] at h;cases hs:stepT (denote treeTable) p w s t with
    |none=>rw[hs] at h;cases h
    |some x=>
     obtain ⟨s₂,t₂⟩:=x;rw[hs] at h;dsimp only;rw[stepT_spec hs];exact lF h
noncomputable def dW (l:List Obj):BT:=(l.foldl (fun (x:BT×Nat) o=>(x.1.ins x.2 o,x.2+1)) (.nil,0)).1
theorem A7 {p q:Program} {loose:List Str} {Xt:Shared→Bool} {Yf:Shared→Prop} {Yt:SharedT→Bool} {N n0:Nat} {life0:Life} {ann:Option Value}
  (e:opening p=plainProg p.main.scope.names) (hN:Nat.ble 600 N=true) (f:∀ s,fenceModules? p s=some s)
  (hT:∀ P:Params,absHeap (dW (boot_heap P).objs.toList) n0 life0=boot_heap P)
  (size:∀ w:World,((boot_heap w.params).isNs mainGlobals,(boot_heap w.params).objs.size,(boot_heap w.params).nsMap mainGlobals "__annotations__")=(true,n0,ann))
  (hY:∀ s,Yt s=true→Yf s.abs)
  (run1:∀ (w:World) (os:OsState),(dh p w n0 ann N ⟨dW (boot_heap w.params).objs.toList,n0,life0,Array.mk [],boot_drawn,boot_toks,os⟩ (topStub p)).map (fun s=>
   (staticsOk (PySem.W.Fast.tw5923862056798008813 p.main.body) (boot_heap w.params) s.abs.heap&&namesBound p s.abs.heap&&gensDone s.abs&&laidKept (boot_heap w.params) s.abs.heap,Yt s))=some (true,true))
  (run2:∀ (w:World) (os:OsState),(dh p w n0 ann N ⟨dW (boot_heap w.params).objs.toList,n0,life0,Array.mk [],boot_drawn,boot_toks,os⟩ (topStub p)).map (fun s=>
   PySem.W.Fast.tw4187177175401517315 q loose (PySem.W.Fast.tw5923862056798008813 p.main.body) Xt true s.abs)=some (openGood q loose)):
  LeftO p q loose Xt Yf (fun _=>True) N:=fun w=>by
 obtain ⟨⟨h,gs,d,k,os⟩,e1,e2⟩:=K2.mp (boot_open e hN f w);obtain ⟨rfl,rfl,rfl,rfl⟩:h=boot_heap w.params∧gs=Array.mk []∧d=boot_drawn∧k=boot_toks:=by simpa using e2
 obtain ⟨z1,z2,z3⟩:_∧_∧_:=by simpa only [Prod.mk.injEq] using size w
 obtain ⟨s',r1,r2⟩:=K2.mp (run1 w os);have l2:=run2 w os;rw[r1] at l2;have l2:=K4 l2;rw[←PySem.W.Fast.te5923862056798008813] at r2;rw[←PySem.W.Fast.te5923862056798008813,←PySem.W.Fast.te4187177175401517315] at l2;obtain ⟨l1,l3⟩:_∧_:=by simpa only [Prod.mk.injEq] using r2
 have r:=lF r1;have ha:(SharedT.abs ⟨dW (boot_heap w.params).objs.toList,n0,life0,Array.mk [],boot_drawn,boot_toks,os⟩)=⟨boot_heap w.params,Array.mk [],boot_drawn,boot_toks,os⟩:=by
  show Shared.mk (absHeap _ _ _) _ _ _ _=_;rw[hT]
 rw[ha] at r;unfold openEnds;rw[e1];show (topFrom treeTable p w N _).map _=_;have t:topFrom treeTable p w N ⟨boot_heap w.params,Array.mk [],boot_drawn,boot_toks,os⟩=some s'.abs:=by
  unfold topFrom;dsimp only;rw[z1,z2,z3,r];show (match staticsOk (importedModules p.main.body) (boot_heap w.params) s'.abs.heap&&namesBound p s'.abs.heap&&gensDone s'.abs&&laidKept (boot_heap w.params) s'.abs.heap with|true=>some s'.abs|false=>none)=_
  rw[l1]
 rw[t];exact congrArg some (Prod.ext l2 (eq_true (hY s' l3)))
open PySem PySem.W PySem.Calls PyProof.Rows
theorem AL {α:Type} {o:Option α} {f g:α→Bool} (h1:o.map f=some true) (h2:o.map g=some true):o.map (fun s=>(f s,g s))=some (true,true):=by
 cases o with
 |none=>cases h1
 |some a=>exact congrArg some (Prod.ext (K4 h1) (K4 h2))
theorem AK {α:Type} {o:Option α} {F:α→Shared} {q:Program} {loose mods:List Str} {Xt:Shared→Bool}
  (hA:o.map (fun s=>((PySem.W.Fast.tw4187177175401517315 q loose mods Xt true (F s)).1,(PySem.W.Fast.tw4187177175401517315 q loose mods Xt true (F s)).2.1))=some (expectedOf q,bltViewBooted))
  (hB:o.map (fun s=>((PySem.W.Fast.tw4187177175401517315 q loose mods Xt true (F s)).2.2.1,(PySem.W.Fast.tw4187177175401517315 q loose mods Xt true (F s)).2.2.2.1))=some (true,true))
  (hC:o.map (fun s=>(PySem.W.Fast.tw4187177175401517315 q loose mods Xt true (F s)).2.2.2.2.2.1)=some (plainGoodE q (looseW q loose)))
  (hD:o.map (fun s=>((PySem.W.Fast.tw4187177175401517315 q loose mods Xt true (F s)).2.2.2.2.1,(PySem.W.Fast.tw4187177175401517315 q loose mods Xt true (F s)).2.2.2.2.2.2))=some (pinGoodD (drecsOf q),plainGoodD q loose,wideGood q,clsGoodW q loose)):
  o.map (fun s=>PySem.W.Fast.tw4187177175401517315 q loose mods Xt true (F s))=some (openGood q loose):=by
 cases o with
 |none=>cases hA
 |some a=>
  obtain ⟨a1,a2⟩:=Prod.mk.inj (K4 hA);obtain ⟨b1,b2⟩:=Prod.mk.inj (K4 hB);have c1:=K4 hC;obtain ⟨d1,d2⟩:=Prod.mk.inj (K4 hD);exact congrArg some (Prod.ext a1 (Prod.ext a2 (Prod.ext b1 (Prod.ext b2 (Prod.ext d1 (Prod.ext c1 d2))))))
open PySem PySem.W PySem.Calls PyProof.Rows
set_option Elab.async false
set_option maxRecDepth 100000
set_option maxHeartbeats 8000000
noncomputable def pN:Program:=PySem.Challenge.pw_uf010015_14
noncomputable def qN:Program:=view pN ((List.range 1).map (· +0)++(List.range 16).map (· +2)++(List.range 4).map (· +19)++(List.range 11).map (· +24)++(List.range 8).map (· +36)++(List.range 2).map (· +45)++(List.range 32).map (· +48))
theorem z1:opening pN=plainProg pN.main.scope.names:=by kernel_rfl
theorem z2:∀ s,fenceModules? pN s=some s:=fun s=>by kernel_rfl
theorem z3:∀ P:Params,absHeap (dW (boot_heap P).objs.toList) 11 {}=boot_heap P:=fun P=>by kernel_rfl
theorem z4:∀ w:World,((boot_heap w.params).isNs mainGlobals,(boot_heap w.params).objs.size,(boot_heap w.params).nsMap mainGlobals "__annotations__")=(true,11,some (.ref 6)):=fun w=>by kernel_rfl
theorem z6a:∀ (w:World) (os:OsState),(dh pN w 11 (some (.ref 6)) 40178 ⟨dW (boot_heap w.params).objs.toList,11,{},Array.mk [],boot_drawn,boot_toks,os⟩ (topStub pN)).map (fun s=>staticsOk (PySem.W.Fast.tw5923862056798008813 pN.main.body) (boot_heap w.params) s.abs.heap&&namesBound pN s.abs.heap&&gensDone s.abs&&laidKept (boot_heap w.params) s.abs.heap)=some true:=fun w os=>by kernel_rfl
theorem z7a:∀ (w:World) (os:OsState),(dh pN w 11 (some (.ref 6)) 40178 ⟨dW (boot_heap w.params).objs.toList,11,{},Array.mk [],boot_drawn,boot_toks,os⟩ (topStub pN)).map (fun s=>((PySem.W.Fast.tw4187177175401517315 qN ["BOUND","GREATEST"] (PySem.W.Fast.tw5923862056798008813 pN.main.body) (fun _=>true) true s.abs).1,(PySem.W.Fast.tw4187177175401517315 qN ["BOUND","GREATEST"] (PySem.W.Fast.tw5923862056798008813 pN.main.body) (fun _=>true) true s.abs).2.1))=some (expectedOf qN,bltViewBooted):=fun w os=>by kernel_rfl
theorem z7b:∀ (w:World) (os:OsState),(dh pN w 11 (some (.ref 6)) 40178 ⟨dW (boot_heap w.params).objs.toList,11,{},Array.mk [],boot_drawn,boot_toks,os⟩ (topStub pN)).map (fun s=>((PySem.W.Fast.tw4187177175401517315 qN ["BOUND","GREATEST"] (PySem.W.Fast.tw5923862056798008813 pN.main.body) (fun _=>true) true s.abs).2.2.1,(PySem.W.Fast.tw4187177175401517315 qN ["BOUND","GREATEST"] (PySem.W.Fast.tw5923862056798008813 pN.main.body) (fun _=>true) true s.abs).2.2.2.1))=some (true,true):=fun w os=>by kernel_rfl
theorem z7c:∀ (w:World) (os:OsState),(dh pN w 11 (some (.ref 6)) 40178 ⟨dW (boot_heap w.params).objs.toList,11,{},Array.mk [],boot_drawn,boot_toks,os⟩ (topStub pN)).map (fun s=>(PySem.W.Fast.tw4187177175401517315 qN ["BOUND","GREATEST"] (PySem.W.Fast.tw5923862056798008813 pN.main.body) (fun _=>true) true s.abs).2.2.2.2.2.1)=some (plainGoodE qN (looseW qN ["BOUND","GREATEST"])):=fun w os=>by kernel_rfl
theorem z7d:∀ (w:World) (os:OsState),(dh pN w 11 (some (.ref 6)) 40178 ⟨dW (boot_heap w.params).objs.toList,11,{},Array.mk [],boot_drawn,boot_toks,os⟩ (topStub pN)).map (fun s=>((PySem.W.Fast.tw4187177175401517315 qN ["BOUND","GREATEST"] (PySem.W.Fast.tw5923862056798008813 pN.main.body) (fun _=>true) true s.abs).2.2.2.2.1,(PySem.W.Fast.tw4187177175401517315 qN ["BOUND","GREATEST"] (PySem.W.Fast.tw5923862056798008813 pN.main.body) (fun _=>true) true s.abs).2.2.2.2.2.2))=some (pinGoodD (drecsOf qN),plainGoodD qN ["BOUND","GREATEST"],wideGood qN,clsGoodW qN ["BOUND","GREATEST"]):=fun w os=>by kernel_rfl
noncomputable abbrev nX:Nat:=16
end Mine.Internal
namespace Mine.Internal
theorem aK {T:Prop} (h:∀ G:Prop,(T→G)→G):T:=h T id
section
variable {a b c d e f g h:Nat} {i j k l m n p:Int}
theorem c3 (u:a<b) (v:b<c) (w:c<d):3≤d:=Km (Nat.succ_le_of_lt (KE (Nat.succ_le_of_lt (KE (Nat.succ_le_of_lt (KE (KI a) u)) v)) w)) (Ko d)
theorem gK (u:a≤b+c) (v:d≤a+e*c):d≤b+(e+1)*c:=Km v (Km (Nat.add_le_add_right u _) (K5 (by rw[Nat.succ_mul,Nat.add_assoc,Nat.add_comm c])))
theorem nA (u:0≤i) (v:i<(b:Int)):i.natAbs<b:=KT.mp (by rw[Int.natAbs_of_nonneg u];exact v)
theorem tA (u:i.toNat<a*2) (v:¬j.toNat<a):(i - j).toNat<a∧i - j<j:=by
 have h1:=KQ (Int.self_le_toNat i) (KT.mpr u);cases a with
 |zero=>exact absurd u (Nat.not_lt_zero _)
 |succ q=>
  have h2:(q:Int)<j:=Int.lt_toNat.mp (Nat.lt_of_succ_le (Lf.mp v));exact ⟨(Int.toNat_lt' (Nat.succ_pos q)).mpr (by omega),by omega⟩
theorem qB (u:0≤i∧i<(c:Int)) (v:i=(a:Int)):a<c:=KT.mp (v ▸ u.2)
theorem o0:a≤800→b≤a→b≤1000:=fun u v=>Km v (Km u (Kj rfl))
theorem o1:a≤800→b≤a→b≤900:=fun u v=>Km v (Km u (Kj rfl))
theorem o2:1≤i→0<i:=fun u=>Int.lt_of_add_one_le u
theorem o3:a≤7→a≤1000:=fun u=>Km u (Kj rfl)
theorem o4:a<64→a≤1000:=by lia
theorem o5:a+(b+1)=c→a<c:=fun u=>u ▸ Nat.lt_add_of_pos_right (Nat.succ_pos b)
theorem o6:a≤800→a≤900:=fun u=>Km u (Kj rfl)
theorem o7:a<64→b=a→b<64:=fun u v=>lt_of_eq_of_lt v u
theorem o8:i≤(a:Int)→0≤j∧j<i→j.toNat<a:=fun u v=>(Int.toNat_lt v.1).mpr (KR v.2 u)
theorem o9:0≤(a:Int):=Le a
theorem o10:¬(a:Int)<0:=Int.not_ofNat_neg a
theorem o11:a≤8→a≤1000:=fun u=>Km u (Kj rfl)
theorem o12:a≤60→a≤1000:=by lia
theorem o13:3≤a→0<(a:Int):=fun u=>KT.mpr (KF (Kj rfl) u)
theorem o14:i≤(a:Int)→a≤1000→i<2^250:=fun u v=>KQ (KO u (KS.mpr v)) (by decide)
theorem o15:0≤i∧i<j→i=(i.toNat:Int):=fun u=>(KV u.1).symm
theorem o16:a≤1000→i.toNat<a→i.toNat≤100000:=fun u v=>Km (KU v) (Km u (by decide))
theorem o17: -1000≤(a:Int):=Int.neg_ofNat_le_natCast 1000 a
theorem o18:0≤i∧i<(a:Int)→i.toNat<a:=fun u=>(Int.toNat_lt u.1).mpr u.2
theorem o19:1≤a+1:=Nat.le_add_left 1 a
theorem o20:a+(b+1)=c→a - 1<c:=fun u=>u ▸ KE (Nat.sub_le a 1) (Nat.lt_add_of_pos_right (Nat.succ_pos b))
theorem o21:a<64→a≤16777216:=by lia
theorem o22:1≤i∧i≤10^9→i.natAbs<2^64:=fun u=>nA (KO (by decide) u.1) (KQ u.2 (by decide))
theorem o23:1≤a→0<(a:Int):=fun u=>Int.natCast_pos.mpr u
theorem o24:a≤900→b≤a→b≤1000:=fun u v=>Km v (Km u (Kj rfl))
theorem o25:3≤a→0<(a:Int) - 1:=fun u=>Int.sub_pos_of_lt (KT.mpr (KF (by decide) u))
theorem o26:0<a→0<(a:Int):=fun u=>Int.natCast_pos.mpr u
theorem o27:0<i→¬i=0:=fun u=>Int.ne_of_gt u
theorem o28:0<i→i≠0:=fun u=>Ne.symm (Int.ne_of_lt u)
theorem o29:a<b→(c+d) / 2<a→(c+d) / 2<b:=fun u v=>La v u
theorem o30:¬a<b→b≤a:=fun u=>Nat.le_of_not_lt u
theorem o31:¬a<2→2≤a:=fun u=>Nat.le_of_not_lt u
theorem o32:1≤i∧i≤10^9→0<i:=fun u=>KR (by decide) u.1
theorem o33:a≤63→a≤1000:=by lia
theorem o34:0≤i∧i<(a:Int)→i=(i.toNat:Int):=fun u=>(KV u.1).symm
theorem o35:2≤a∧a≤60→a≤1000:=fun u=>Km u.2 (by decide)
theorem o36:a+(b+1)=a+1+b:=Eq.symm (Nat.succ_add_eq_add_succ a b)
theorem o37:(a:Int)≤(a:Int):=Int.le_refl ↑a
theorem o38:1≤i→i≤10^9→i.natAbs<2^64:=fun u v=>nA (KO (by decide) u) (KQ v (by decide))
theorem o39:2≤a+1+1:=Nat.le_add_left 2 a
theorem o40:a+(b+1)≠a:=by lia
theorem o41:a≤100→a≤1000:=by lia
theorem o42:0<i→0≤i:=fun u=>Lb u
theorem o43:1≤i∧i≤10^9→i.natAbs≤2^30:=fun u=>KS.mp (by rw[Int.natAbs_of_nonneg (KO (by decide) u.1)];exact KO u.2 (by decide))
theorem o44:a≤2^24→(a:Int)<9223372036854775808:=fun u=>KT.mpr (KE u (Kj rfl))
theorem o45:a<b→b - (a+1)<b - a:=fun u=>Nat.sub_succ_lt_self b a u
theorem o46:a≤100→b<a→b<100:=fun u v=>KF v u
theorem o47:a<b→c<a→c<b:=fun u v=>La v u
theorem o48:a=b→b≤100→a≤100:=fun u v=>le_of_eq_of_le u v
theorem o49:a=b→c<b→c<a:=fun u v=>Nat.lt_of_lt_of_eq v (id (Eq.symm u))
theorem o50:a+100<b→a+1<b:=fun u=>KE (KW (by decide) a) u
theorem o51:a+64*b+1000<c→a+100<c:=fun u=>KE (Nat.add_le_add (K9 a _) (by decide)) u
theorem o52:a<b→b<c→a<c:=fun u v=>La u v
theorem o53:a+(b+1)=c→a+1+b=c:=fun u=>(Nat.succ_add a b).trans u
theorem o54:b<c→c<a+1→c - 1<a:=fun u v=>KF (Nat.sub_one_lt_of_lt u) (Li v)
theorem o55:a<64→b=a→b≤16777216:=fun u v=>v ▸ Km (KU u) (by decide)
theorem o56:i≤10^9*10^9→i<2^250:=fun u=>KQ u (by decide)
theorem o57:a≤1000→a≤100000:=fun u=>Km u (Kj rfl)
theorem o58:a≤1000→(a:Int)≤100000000:=fun u=>KS.mpr (Km u (by decide))
theorem o59:i≤(a:Int)→i.toNat≤a:=fun u=>Int.toNat_le.mpr u
theorem o60:a<b→(a:Int)<(b:Int):=fun u=>KT.mpr u
theorem o61:a≤b∧a≤8→a≤1000:=fun u=>Km u.2 (by decide)
theorem o62:a≤b∧a≤8→a≤b+c:=fun u=>Km u.1 (K9 b c)
theorem o65:a+(b+1)≤1000000→a+1+b≤1000000:=fun u=>Km (K5 (Nat.succ_add a b)) u
theorem o66:1≤i→i≠0:=fun u=>Ne.symm (Int.ne_of_lt u)
theorem o67:0≤i∧i<41→i=(a:Int)→a≤1000:=fun u v=>Km (KU (KT.mp (v ▸ u.2:(a:Int)<((41:Nat):Int)))) (by decide)
theorem o68:a≤1000→a<100000:=fun u=>KE u (Kj rfl)
theorem o69:a≤b→a≤b+c:=fun u=>Nat.le_add_right_of_le u
theorem o70:a≤900→b≤a→b≤100000:=fun u v=>Km v (Km u (Kj rfl))
theorem o71:a≤900→b≤a→0+b≤1000000:=fun u v=>Km (K5 (K8 b)) (Km v (Km u (by decide)))
theorem o72:a≤900→b≤a→c≤b→c≤1000:=fun u v w=>Km w (Km v (Km u (by decide)))
theorem o73:a+(b+1)≤1000→a≤1000:=fun u=>Nat.le_of_add_right_le u
theorem o74:a+(b+1)≤1000→a+1+b≤1000:=fun u=>Km (K5 (Nat.succ_add a b)) u
theorem o75:a≤900→a≤1000:=fun u=>Km u (by decide)
theorem o76:a≤1000→0+a≤1000000:=fun u=>Km (K5 (K8 a)) (Km u (by decide))
theorem o77:a<b+1+c→a<b+(c+1):=fun u=>KF u (K5 (Nat.succ_add b c))
theorem o78:0≤i∧i<12→i=(a:Int)→a≤1000:=fun u v=>Km (KU (KT.mp (v ▸ u.2:(a:Int)<((12:Nat):Int)))) (by decide)
theorem o79:¬a+1=0:=Nat.add_one_ne_zero a
theorem o80:i<99999→0<99999 - i:=fun u=>Int.sub_pos_of_lt u
theorem o81:a≤8→(a:Int) - 1<2^250:=fun u=>KQ (Int.sub_le_sub_right (KS.mpr u) 1) (by decide)
theorem o82:0≤i∧i<40→1≤1+i∧1+i≤10^9:=fun u=>⟨K_ u.1,KO (Int.add_le_add_left (Lb u.2) 1) (by decide)⟩
theorem o83:0≤i∧i<10^9→1≤1+i∧1+i≤10^9:=fun u=>⟨K_ u.1,by rw[Int.add_comm];exact Int.add_one_le_of_lt u.2⟩
theorem o84:0<max 1 (a:Int):=KR (by decide) (Int.le_max_left _ _)
theorem o85:a≤800→b≤a→max 1 (b:Int)<2^250:=fun u v=>Int.max_lt.mpr ⟨by decide,KQ (KS.mpr (Km v u)) (by decide)⟩
theorem o86:1≤i∧i≤4*10^29→i<10^30:=fun u=>KQ u.2 (by decide)
theorem o87:1≤i→0≤i:=fun u=>Lb u
theorem o88:a≤20→a≤1000:=fun u=>Km u (Kj rfl)
theorem o89:a≤60→a≤900:=fun u=>Km u (Kj rfl)
theorem o90:0≤i∧i≤500→ -1000≤min ((a:Int) - 2) i:=fun u=>Int.le_min.mpr ⟨KO (by decide:(-1000:Int)≤0 - 2) (Int.sub_le_sub_right (Le a) 2),KO (by decide) u.1⟩
theorem o91:a+(b+1)≤100→a+1+b≤100:=fun u=>Km (K5 (Nat.succ_add a b)) u
theorem o92:a≤10→a≤1000:=fun u=>Km u (Kj rfl)
theorem o93:a≤4→a≤10:=fun u=>Km u (Kj rfl)
theorem o95:a<64→0+a≤1000000:=fun u=>Km (K5 (K8 a)) (Km (KU u) (by decide))
theorem o96:a+(b+1)<100000→a<100000:=fun u=>Nat.lt_of_add_right_lt u
theorem o97:a+(b+1)<100000→c≤a+1→c+b<100000:=fun u v=>KE (Km (Nat.add_le_add_right v b) (K5 (Nat.succ_add a b))) u
theorem o98:a≤b+1→c≤a+d→c≤b+(d+1):=fun u v=>Km v (Km (Nat.add_le_add_right u d) (K5 (Nat.succ_add b d)))
theorem o99:a+60*(b+1)<100000→c≤60→a+c<100000:=fun u v=>KE (KW (Km v (Nat.le_mul_of_pos_right 60 (Nat.succ_pos b))) a) u
theorem Fu:a+60*(b+1)<100000→c≤60→d≤a+c→d+60*b<100000:=fun u v w=>KE (Km (Nat.add_le_add_right (Km w (KW v a)) _) (K5 (by rw[Nat.mul_succ,Nat.add_right_comm,Nat.add_assoc]))) u
theorem Ft:a<64→a≤100000:=by lia
theorem Fs:a<64→0+60*a<100000:=fun u=>KE (Km (K5 (K8 _)) (Lh 60 (KU u))) (by decide)
theorem Fr:a+1≤8000→a≤8000:=fun u=>Nat.le_of_succ_le u
theorem Fq:0≤i∧i<j→0≤j - i:=fun u=>Int.sub_nonneg_of_le (Lb u.2)
theorem J0:0<a→(a:Int)=i→0<i:=fun u v=>v ▸ KT.mpr u
theorem Fo:i.toNat<a→j≤i→j.toNat<a:=fun u v=>KE (Int.toNat_le_toNat v) u
theorem JZ:2≤a→1≤a:=fun u=>Nat.one_le_of_lt u
theorem Fn:i=(a:Int) / 3→0<1+i:=fun u=>u ▸ KR (by decide) (K_ (Int.ediv_nonneg (Le a) (by decide)))
theorem Fl:¬0≤i→i<0:=fun u=>Int.lt_of_not_ge u
theorem Fk:0≤i+(a:Int)→ -(a:Int)≤i:=fun u=>Int.add_nonneg_iff_neg_le.mp u
theorem Fj:a+1+b=a+(b+1):=by lia
theorem Fi:b<a+2→b<a+1+2:=fun u=>Nat.lt_succ_of_lt u
theorem Fh: -2^62<i∧i<2^62→ -2^63≤i:=fun u=>KO (by decide) u.1
theorem Fg: -2^62<i∧i<2^62→i<2^63:=fun u=>KO u.2 (by decide)
theorem Dh:a=b→c<a→c<b:=fun u v=>u ▸ v
theorem Ff:a<b→a=b→False:=fun u v=>Nat.ne_of_lt u v
theorem Fd:a<b+1→¬a<b→a=b:=fun u v=>Nat.eq_of_lt_succ_of_not_lt u v
theorem Fc:a<b→a - 1<b:=fun u=>Nat.sub_lt_of_lt u
theorem Fb:a<b→¬a=b - 1→a<b - 1:=fun u v=>Nat.lt_of_le_of_ne (Nat.le_sub_one_of_lt u) v
theorem Fa:1≤a→a - 1<a:=fun u=>Nat.sub_one_lt_of_lt u
theorem E_:a+0=b→a≤b:=fun u=>K5 u
theorem E9:a+(b+1)=c→a≤c:=fun u=>Nat.le.intro u
theorem E8:a≤b→b≤c→a≤c:=fun u v=>Km u v
theorem E7:a<64→a≤16777216+1:=by lia
theorem E5:a<2→a≤16777216:=by lia
theorem E4:a=b→c=b→a=c:=fun u v=>v ▸ u
theorem E3:i.natAbs<2^64→ -2^64<i:=fun u=>Int.neg_lt_of_neg_lt (KQ (Int.natAbs_neg i ▸ Int.le_natAbs) (KR (KT.mpr u) (by decide)))
theorem E2:i.natAbs<2^64→i<2^64:=fun u=>KQ Int.le_natAbs (KR (KT.mpr u) (by decide))
theorem E1:a+64<b→c≤9→a+1+min c d<b:=fun u v=>KE (Km (KW (Km (Nat.min_le_left _ _) v) _) (KW (by decide:10≤64) a)) u
theorem E0:a≤100000→(a:Int)≤100000000:=fun u=>KS.mpr (Km u (Kj rfl))
theorem JY:¬((a+1:Nat):Int)<1:=of_decide_eq_false rfl
theorem JX:¬b<a→¬(b:Int)<(a:Int):=fun u v=>u (KT.mp v)
theorem JW:i≤(a:Int)→0≤j∧j<i→j.toNat<min i.toNat a:=fun u v=>Nat.lt_min.mpr ⟨(Int.toNat_lt v.1).mpr (KR v.2 (Int.self_le_toNat i)),(Int.toNat_lt v.1).mpr (KR v.2 u)⟩
theorem JV:((a:Int) - 0 - 1+1).toNat=a:=by rw[Int.sub_zero,Int.sub_add_cancel];rfl
theorem JU:¬0<(a:Int)→0=a:=fun u=>(Nat.eq_zero_of_not_pos fun q=>u (KT.mpr q)).symm
theorem JT:0≤i∧i<(a:Int)→i=(b:Int)→(b:Int)≤(a:Int):=fun u v=>v ▸ Lb u.2
theorem JS:0≤(a:Int)+1:=Int.zero_le_ofNat (a+1)
theorem JR:0≤i∧i<(a:Int)→i=(b:Int)→(b:Int)+1≤(a:Int):=fun u v=>Int.add_one_le_of_lt (v ▸ u.2)
theorem JQ:((a:Int)+1).toNat=a+1:=Int.toNat_natCast_add_one
theorem JP:a≤11→1≤a+1∧a+1≤12:=fun u=>⟨Lc (KI a),Lc u⟩
theorem JO:a<b→c<b→d<b→a≠c→a≠d→c≠d→3≤b:=fun u v w x y z=>(Nat.lt_or_gt_of_ne x).elim (fun p=>(Nat.lt_or_gt_of_ne z).elim (fun q=>c3 p q w) fun q=>(Nat.lt_or_gt_of_ne y).elim (fun r=>c3 r q v) fun r=>c3 r p v) fun p=>(Nat.lt_or_gt_of_ne y).elim (fun q=>c3 p q w) fun q=>(Nat.lt_or_gt_of_ne z).elim (fun r=>c3 r q u) fun r=>c3 r p u
theorem JN:4≤a→4≤a+b:=fun u=>Km u (K9 a b)
theorem JM:i=j→¬j<i:=fun u=>by subst u;exact Int.lt_irrefl _
theorem JL:a+(b+1)≤40→a+1+b≤40:=fun u=>Km (K5 (Nat.succ_add a b)) u
theorem JK:a+(b+1)≤40→a+1≤1000:=fun u=>Km (KW (Lc (KI b)) a) (Km u (by decide))
theorem JJ:0≤i∧i<41→i=(a:Int)→0+a≤40:=fun u v=>Km (K5 (K8 a)) (Li (KT.mp (v ▸ u.2:(a:Int)<((41:Nat):Int))))
theorem JI:0≤i∧i<41→i=(a:Int)→b<a→b<100:=fun u v w=>La w (KF (KT.mp (v ▸ u.2:(a:Int)<((41:Nat):Int))) (by decide))
theorem EZ:¬a=0→a - 1<a:=fun u=>Nat.sub_one_lt u
theorem JH:a≤1000→a - 1≤100000:=fun u=>Km (Nat.sub_le a 1) (Km u (by decide))
theorem EY:¬(a:Int)+1<1:=of_decide_eq_false rfl
theorem EX:a<b→¬(b:Int)<(a:Int)+1:=fun u=>Lg.mpr (KS.mpr u)
theorem EW:a<b→b≤1000→a≤100000:=fun u v=>Km (KU u) (Km v (by decide))
theorem JG:2≤a∧a≤60→0+a≤1000000:=fun u=>Km (K5 (K8 a)) (Km u.2 (by decide))
theorem JF:i<j→j≤i→False:=fun u v=>Int.not_le.mpr u v
theorem JE:a≤900→0+a≤1000:=fun u=>by rw[K8];exact Km u (Kj rfl)
theorem JD:((i+j) % 36).toNat=a→(i+j) % 36=(a:Int):=fun u=>u ▸ (KV (Int.emod_nonneg _ (by decide))).symm
theorem JC:(i+j*(3:Int)) % 36=(13:Int)→(i+j*(5:Int)) % 36=(4:Int)→False:=fun u v=>by have h1:=Int.emod_emod_of_dvd (i+j*3) (show (2:Int) ∣ 36 by decide);have h2:=Int.emod_emod_of_dvd (i+j*5) (show (2:Int) ∣ 36 by decide);rw[u] at h1;rw[v,show i+j*5=i+j*3+2*j by rw[Int.add_assoc,Int.mul_comm 2,←Int.mul_add];rfl,Int.add_mul_emod_self_left,←h1] at h2;exact absurd h2 (by decide)
theorem JB:¬a≤3→a≠0+1:=fun u v=>u (Km (K5 v) (Kj rfl))
theorem JA:¬a≤3→a≠1+1:=fun u v=>u (v ▸ by decide)
theorem Jz:¬a≤3→a≠2+1:=fun u v=>u (K5 v)
theorem Jy:(i+j*(0:Int)) % 36=(19:Int)→(i+j*(2:Int)) % 36=(0:Int)→False:=fun u v=>by have h1:=Int.emod_emod_of_dvd (i+j*0) (show (2:Int) ∣ 36 by decide);have h2:=Int.emod_emod_of_dvd (i+j*2) (show (2:Int) ∣ 36 by decide);rw[u] at h1;rw[v,show i+j*2=i+j*0+2*j by rw[Int.add_assoc,Int.mul_comm 2,←Int.mul_add];rfl,Int.add_mul_emod_self_left,←h1] at h2;exact absurd h2 (by decide)
theorem Jx:a<a+(b+1):=by lia
theorem Jw:0≤i∧i<12→i=(i.toNat:Int):=fun u=>(KV u.1).symm
theorem Jv:0≤i∧i<12→i=(a:Int)→b<0+a→b+1+1≤1000:=fun u v w=>Km (Lc (Nat.succ_le_of_lt (KF w (Km (K5 (K8 a)) (KU (KT.mp (v ▸ u.2:(a:Int)<((12:Nat):Int)))))))) (by decide)
theorem Ju:0≤i∧i<12→i=(a:Int)→b<0+a→((b:Int)).natAbs<2^64:=fun u v w=>KF w (Km (K5 (K8 a)) (Km (KU (KT.mp (v ▸ u.2:(a:Int)<((12:Nat):Int)))) (by decide)))
theorem Jt:0≤i∧i<12→i=(a:Int)→a≤11:=fun u v=>Li (KT.mp (v ▸ u.2:(a:Int)<((12:Nat):Int)))
theorem Js:0≤ -1+((a+1:Nat):Int):=by rw[Int.natCast_add,Int.add_comm,Int.add_assoc];exact KO (Le a) (Int.le_of_eq (Int.add_zero _).symm)
theorem Jr:(-1+((a+1:Nat):Int)).toNat=a:=by rw[Int.natCast_add,Int.add_comm,Int.add_assoc];exact congrArg Int.toNat (Int.add_zero _)
theorem Jq:a<a+1:=Nat.lt_succ_self a
theorem Jp:1+a=a+1:=Nat.add_comm 1 a
theorem Jo:0≤i∧i<99999 - j→j+1+i≤99999:=fun u=>by rw[Int.add_assoc,Int.add_comm 1 i,Int.add_comm j];exact Int.add_le_of_le_sub_right (Int.add_one_le_of_lt u.2)
theorem Jn:0≤i∧i<99999 - j→j<j+1+i:=fun u=>KR (Int.lt_succ j) (K_ u.1)
theorem Jm:min 99999 (i+1+j)≤99999:=Ld 99999 (i+1+j)
theorem Jl:i<99999→0≤j∧j<7→i<min 99999 (i+1+j):=fun u v=>Int.lt_min.mpr ⟨u,KR (Int.lt_succ i) (K_ v.1)⟩
theorem Jk:0≤i∧i<4*10^29→1+i≤4*10^29:=fun u=>by rw[Int.add_comm];exact Int.add_one_le_of_lt u.2
theorem Jj:0≤i∧i<(a:Int) - 1→1+i.toNat<a:=fun u=>by rw[Nat.add_comm];exact KT.mp (by rw[Int.natCast_add,KV u.1];exact Int.add_lt_of_lt_sub_right u.2)
theorem Ji:0=1+i.toNat→False:=by lia
theorem Jh:0≤i∧i<(a:Int) - 1→1+i=((1+i.toNat:Nat):Int):=fun u=>by rw[Int.natCast_add,KV u.1];rfl
theorem Jg:0≤i∧i<(a:Int)→i.toNat=b→1+i=(b:Int)+1:=fun u v=>by rw[←v,KV u.1,Int.add_comm]
theorem Jf:a≤60→0+a≤1000000:=fun u=>Km (K5 (K8 a)) (Km u (by decide))
theorem Je:i+j=k→i+l=k+m→l - j=m:=fun u v=>by subst u;rw[Int.add_assoc] at v;rw[Int.add_left_cancel v,Int.add_comm,Int.add_sub_cancel]
theorem Jd:0<i→j=i→j≤0→False:=fun u v w=>absurd (v ▸ w) (Int.not_le.mpr u)
theorem Jc:i<j→k=i→j≤k→False:=fun u v w=>absurd (v ▸ w) (Int.not_le.mpr u)
theorem Jb:0≤i∧i<(a:Int) - 1→1+i<(a:Int):=fun u=>by rw[Int.add_comm];exact Int.add_lt_of_lt_sub_right u.2
theorem Ja:0≤i∧i<(a:Int)→0≤j∧j<(a:Int)→i.toNat=j.toNat→i≠j→False:=fun u v w x=>x (by rw[←KV u.1,w,KV v.1])
theorem I_:0≤i→¬i=0→1≤i:=fun u v=>Int.lt_iff_le_and_ne.mpr ⟨u,fun h=>v h.symm⟩
theorem I9:0≤i∧i<3→i - 1= -1∨i - 1=0∨i - 1=1:=by lia
theorem I8:0≤i∧i<3→(i - 1).natAbs<2^64:=fun u=>(Int.le_total 0 (i - 1)).elim (fun h=>nA h (Int.lt_trans (Int.sub_lt_sub_right u.2 1) (by decide))) fun h=>Int.natAbs_neg (i - 1) ▸ nA (Int.neg_nonneg_of_nonpos h) (by rw[Int.neg_sub];exact KQ (Int.sub_le_self 1 u.1) (by decide))
theorem I7:3*a+3=3*(a+1):=Eq.symm (Nat.mul_succ 3 a)
theorem I6:1≤i∧i≤4*10^29→j=0→0 - i - j≠0:=fun u v w=>by subst v;exact absurd (KO u.1 (Int.le_of_eq (Int.neg_eq_zero.mp (by rwa [Int.sub_zero,Int.zero_sub] at w)))) (by decide)
theorem I5:2≤a→2*b≤c→2*(b+1)≤c+a:=fun u v=>Nat.add_le_add v u
theorem I0:0≤i∧i<20→(1+i).toNat≤20:=fun u=>Int.toNat_le.mpr (by rw[Int.add_comm];exact Int.add_one_le_of_lt u.2)
theorem IZ:0+a≤a:=by lia
theorem IY:a<0→i+(a:Int)*3<j:=fun u=>absurd u (Nat.not_lt_zero a)
theorem IX:0≤i∧i≤500→i+(a:Int)*3=((i.toNat+a*3:Nat):Int):=fun u=>by obtain ⟨n,rfl⟩:=Int.eq_ofNat_of_zero_le u.1;rfl
theorem Dg:0≤i∧i≤500→i+(a:Int)*3<min ((b:Int) - 2) j→i.toNat+a*3+2<b:=fun u v=>by obtain ⟨n,rfl⟩:=Int.eq_ofNat_of_zero_le u.1;exact KT.mp (Int.add_lt_of_lt_sub_right (KR v (Ld _ _)))
theorem IW:0≤i∧i≤500→i+(a:Int)*3<min ((b:Int) - 2) j→i.toNat+a*3+1<b:=fun u v=>Nat.lt_of_succ_lt (Dg u v)
theorem IV:a≤4→b=a+1→b≤1000:=fun u v=>v ▸ Km (Lc u) (by decide)
theorem IU:a+(b+1)≤100→a+1≤1000:=fun u=>Km (KW (Lc (KI b)) a) (Km u (by decide))
theorem IT:b+(a+1)≤100→b+1≤1000:=fun u=>Km (KW (Lc (KI a)) b) (Km u (by decide))
theorem IS:a≤10→a+1≤1000:=by lia
theorem IR:(a:Int)+1=(b:Int)+1→a=b:=by lia
theorem IQ:a≤b→b≤7*8→a<64:=fun u v=>KE u (KE v (Kj rfl))
theorem IP:a+(b+1)≤1000→a+b≤1000:=fun u=>Nat.le_of_succ_le u
theorem EV:a<64→0+a≤1000:=fun u=>by rw[K8];exact Km (KU u) (Kj rfl)
theorem IN:a+60*(b+1)<100000→a+60*b<100000:=fun u=>KE (KW (Lh 60 (KZ b)) a) u
theorem IM:0<i→i.natAbs=i.toNat:=fun u=>Int.ofNat_inj.mp ((Int.natAbs_of_nonneg (Lb u)).trans (KV (Lb u)).symm)
theorem IL:0<i→i=(i.natAbs:Int):=fun u=>(Int.natAbs_of_nonneg (Lb u)).symm
theorem IK:1≤a→a=a - 1+1:=fun u=>(Nat.sub_eq_iff_eq_add u).mp rfl
theorem IJ:0≤i→i.toNat<2^0→i=0:=fun u v=>Int.le_antisymm (Int.toNat_eq_zero.mp (Nat.lt_one_iff.mp v)) u
theorem II:2*0+1≤a→1≤a:=fun u=>Nat.one_le_of_lt u
theorem IH:2*(a+1)+1≤b→1≤b:=fun u=>Nat.one_le_of_lt u
theorem IG:0≤i→¬i=0→0<i:=fun u v=>Std.lt_of_le_of_ne u fun a=>v (id (Eq.symm a))
theorem IF:2*(a+1)+1≤b→b=b - 1+1:=fun u=>(Nat.sub_add_cancel (Nat.one_le_of_lt u)).symm
theorem IE:2*(a+1)+1≤b+1→2*a+1≤b:=fun u=>Nat.le_of_succ_le (Nat.le_of_succ_le_succ u)
theorem ID:¬i.toNat<a→0<a→0<i:=fun u v=>Int.lt_toNat.mp (KF v (Lf.mp u))
theorem IC:2*(a+1)+1≤b+1→b=b - 1+1:=fun u=>(Nat.sub_add_cancel (Km (Km (Nat.le_add_left 1 a) (Nat.le_mul_of_pos_left _ (by decide))) (Nat.le_of_succ_le_succ u))).symm
theorem IB:i.toNat<a*2→¬j.toNat<a→i - j<j:=fun u v=>(tA u v).2
theorem IA:i.toNat<a*2→¬j.toNat<a→(i - j).toNat<a:=fun u v=>(tA u v).1
theorem Iz:2*(a+1)+1≤b+1+1→2*a+1≤b:=fun u=>Nat.le_of_succ_le_succ (Nat.le_of_succ_le_succ u)
theorem Iy:a≤8000→2*a+1≤100000:=fun u=>Km (Lc (Lh 2 u)) (by decide)
theorem Ix:0<i→1≤i:=fun u=>Int.le_of_sub_one_lt u
theorem Iw:a≤2*b→c≤b→d≤a+c→d≤4*b:=fun u v w=>Km w (Km (Nat.add_le_add u v) (Km (K5 (Nat.succ_mul 2 b).symm) (Nat.mul_le_mul_right b (by decide))))
theorem Iv:a≤8000→b≤a→c≤a→b+c+2≤2^27:=fun u v w=>Km (Nat.add_le_add_right (Nat.add_le_add (Km v u) (Km w u)) 2) (by decide)
theorem Iu:31+31*a=31*(a+1):=by lia
theorem It: -10^30<i→i<10^30→i.natAbs≤10^30:=fun u v=>(Int.le_total 0 i).elim (fun h=>KU (nA h (KR v (by decide)))) fun h=>KU (Int.natAbs_neg i ▸ nA (Int.neg_nonneg_of_nonpos h) (KR (Int.neg_lt_of_neg_lt u) (by decide)))
theorem Ir:i.natAbs≤j.natAbs+10^30→k.natAbs≤i.natAbs+a*10^30→k.natAbs≤j.natAbs+(a+1)*10^30:=gK
theorem Iq:i.natAbs≤j.natAbs+60*10^30→k.natAbs≤i.natAbs+a*(60*10^30)→k.natAbs≤j.natAbs+(a+1)*(60*10^30):=gK
theorem Ip:i.natAbs≤Int.natAbs 0+a*(60*10^30)→a<64→i.natAbs≤2^120:=fun u v=>Km u (Km (KW (Nat.mul_le_mul_right _ (KU v)) _) (by decide))
theorem Io:a<64→31*a≤31*64:=fun u=>Lh 31 (KU u)
theorem Im:i.natAbs≤a→i.toNat≤a:=fun u=>Int.toNat_le.mpr (KO Int.le_natAbs (KS.mpr u))
theorem Il:1≤a→2≤a+1:=fun u=>Nat.le_add_of_sub_le u
theorem Ik:a≤63→i=(a:Int) / 3→1+i<2^250:=fun u v=>by subst v;exact KQ (Int.add_le_add_left (KO (Int.ediv_le_self _ (Le a)) (KS.mpr u)) 1) (by decide)
theorem Ij:¬0≤i→0≤i+(a:Int)→(i+(a:Int)).toNat<a:=fun u v=>(Int.toNat_lt v).mpr (by have:=Int.add_lt_add_right (Int.not_le.mp u) (a:Int);rwa [Int.zero_add] at this)
theorem Ii:i<0→i+(a:Int)≤(a:Int):=fun u=>KO (Int.add_le_add_right (Lb u) a) (Int.le_of_eq (Int.zero_add _))
theorem Ih:((a:Int)+(b:Int)*1).toNat=a+b:=by rw[Int.mul_one];exact Int.toNat_natCast (a+b)
theorem Ig:1≠a+1+1:=Nat.ne_of_beq_eq_false rfl
theorem Ie:a+(b+1)≤7→c<b→a+(c+1)<7:=fun u v=>KF (Nat.add_lt_add_left (Nat.succ_lt_succ v) a) u
theorem Ic:a+0=a+(b+1)→False:=by lia
theorem Ib:a+(b+1)≤7→a+1+b≤7:=fun u=>Km (K5 (Nat.succ_add a b)) u
theorem Ia:a+0<a+(b+1):=Nat.add_lt_add_left (Nat.succ_pos b) a
theorem H':a=b→b≤7→0+a≤7:=fun u v=>Km (K5 ((K8 a).trans u)) v
theorem H_:a=b→b≤7→c<0+a→c<7:=fun u v w=>KF w (Km (K5 ((K8 a).trans u)) v)
theorem H8:a+8*b+150<c→a+1+8*b+144<c:=fun u=>by rw[Nat.add_right_comm a 1];exact KE (KW (by decide:145≤150) _) u
theorem H7:a+64*b+1000<c→d≤a+10→d+64*b+945<c:=fun u v=>KE (Km (Nat.add_le_add_right (Nat.add_le_add_right v _) _) (by rw[Nat.add_right_comm a 10];exact KW (by decide:955≤1000) _)) u
theorem H6:a<7→a=b→c=b→d<0+c→d<7:=fun u v w x=>by subst v;subst w;rw[K8] at x;exact La x u
theorem H5:a=b→c=b→d<0+c→d=a→False:=fun u v w x=>by rw[x,v,u,K8] at w;exact KY _ w
theorem H4:a<7→a=b→c=b→c≤999:=fun u v w=>by subst v;subst w;exact Km (KU u) (by decide)
theorem H3:a<7→a=b→b≤6:=fun u v=>v ▸ Li u
theorem H2:i<j→0≤j - i - 1:=by lia
theorem H1: -2^63≤(a:Int):=Int.neg_ofNat_le_natCast (2^63) a
theorem H0:(a:Int) - ((b:Int)+1)=(a:Int) - (b:Int) - 1:=Eq.symm (Int.sub_sub (↑a) (↑b) 1)
theorem HZ:a=b→(a:Int) - (b:Int)≤0:=fun u=>by rw[u,Int.sub_self];exact Int.le_refl 0
theorem HY:a+8*(b+1)+144<c→a<c:=fun u=>KE (Km (K9 a _) (K9 _ 144)) u
theorem HX:a+8*(b+1)+144<c→a+1+8*b+150<c:=fun u=>KE (by rw[Nat.mul_succ,←Nat.add_assoc,Nat.add_right_comm a 1];exact KW (by decide:151≤152) _) u
theorem HW:a+64*(b+1)+945<c→a+3+64*b+1000<c:=fun u=>KE (by rw[Nat.mul_succ,←Nat.add_assoc,Nat.add_right_comm a 3];exact KW (by decide:1003≤1009) _) u
theorem HV:a+8*(b+1)+144<c→a+1+8*b+151<c:=fun u=>KE (by rw[Nat.mul_succ,←Nat.add_assoc,Nat.add_right_comm a 1];exact Ko _) u
theorem HU:a+64*(b+1)+945<c→a+3+64*b+1005<c:=fun u=>KE (by rw[Nat.mul_succ,←Nat.add_assoc,Nat.add_right_comm a 3];exact KW (by decide:1008≤1009) _) u
theorem HT:a≤50→b=300→1+b+8*(a+1)+144<1000:=fun u v=>by subst v;exact KE (Nat.add_le_add_right (KW (Lh 8 (Lc u)) _) _) (by decide)
theorem HS:b<a+2→b<a+c+2:=fun u=>KF u (Nat.add_le_add_right (K9 a c) 2)
theorem HR:a<b→b<1+1→b=1:=fun u v=>Nat.le_antisymm (Li v) (KE (KI a) u)
theorem HQ:a≤b→¬c≥a→(c+a) / 2<b:=fun u v=>KF ((Nat.div_lt_iff_lt_mul (by decide)).mpr (by rw[Nat.mul_two];exact Nat.add_lt_add_right (Nat.not_le.mp v) a)) u
theorem HP:¬a≥b→a≤(a+b) / 2:=fun u=>(Nat.le_div_iff_mul_le (by decide)).mpr (by rw[Nat.mul_two];exact KW (KU (Nat.not_le.mp u)) a)
theorem HO:a - b≤c+1→(b+a) / 2 - b≤c:=fun u=>Nat.sub_le_iff_le_add.mpr (Li ((Nat.div_lt_iff_lt_mul (by decide)).mpr (KE (KW (Nat.sub_le_iff_le_add.mp u) b) (by rw[Nat.mul_two,Nat.add_right_comm c 1 b];exact Nat.add_lt_add_right (Nat.lt_succ_of_le (Nat.le_add_left b c)) _))))
theorem HN:(a+b) / 2≤c→¬c=(a+b) / 2→(a+b) / 2<c:=fun u v=>Nat.lt_of_le_of_ne u fun a_1=>v (id (Eq.symm a_1))
theorem HM:¬a≥b→(a+b) / 2+1≤b:=fun u=>Nat.succ_le_of_lt ((Nat.div_lt_iff_lt_mul (by decide)).mpr (by rw[Nat.mul_two];exact Nat.add_lt_add_right (Nat.not_le.mp u) b))
theorem HL:a - b≤c+1→a - ((b+a) / 2+1)≤c:=fun u=>Nat.sub_le_iff_le_add.mpr (Lf.mp fun v=>absurd (Nat.lt_mul_div_succ (b+a) (show 0<2 by decide)) (Lf.mpr (by rw[Nat.two_mul];exact Nat.add_le_add (Nat.le_of_add_le_add_left (a:=c+1) (Km (by rw[Nat.add_right_comm c 1];exact v) (Nat.sub_le_iff_le_add.mp u))) (Km (Nat.le_add_left _ c) (KU v)))))
theorem HK:b - a≤b:=Nat.sub_le b a
theorem HJ:0≤a:=KI a
theorem HI:a≤a:=by lia
theorem HH:a - 0≤a:=Nat.sub_le a 0
theorem HG:a<b→a=c→¬b=c:=fun u v w=>Nat.ne_of_lt u (v.trans w.symm)
theorem HF:b<c→c<a+1→b=d→d<c∧c≤a:=fun u v w=>⟨w ▸ u,Li v⟩
theorem HE:a<b→a=c→c≤b - 1:=fun u v=>v ▸ Nat.le_sub_one_of_lt u
theorem HD:a<b→b=c→¬(c<a∧a≤d):=fun u v w=>Nat.lt_asymm u (v ▸ w.1)
theorem HC:a<b→c<a∧a≤d→a - 1<b - 1:=fun u v=>Nat.sub_lt_sub_right (KE (KI _) v.1) u
theorem HB:b<c→¬b=d→¬(d<b∧b≤a)→d<c∧c≤a→b<c - 1:=fun u v w x=>KF (Nat.lt_of_le_of_ne (Lf.mp fun q=>w ⟨q,KU (KF u x.2)⟩) v) (Nat.le_sub_one_of_lt x.1)
theorem HA:b≤a→c<a+1→¬c=b→¬(b<c∧c≤a)→c<a:=fun u v w x=>KF (Nat.lt_of_le_of_ne (Lf.mp fun q=>x ⟨q,Li v⟩) w) u
theorem Hz:2≤a→b=a→0<b:=fun u v=>v ▸ KF (by decide) u
theorem Hy:1<((a+1+1:Nat):Int):=Int.compare_eq_gt.mp rfl
theorem Hw:0<((a+1:Nat):Int):=Int.ofNat_succ_pos a
theorem Hv:b=a→c=a→¬c<2→d=b→0<d:=fun u v w x=>by subst x;subst u;subst v;exact KF (by decide) (Lf.mp w)
theorem Hu:a=b→c<a→min c b=c:=fun u v=>Nat.min_eq_left (u ▸ KU v)
theorem Ht:a<64→b=a→c<b→d=c→d≤16777216:=fun u v w x=>by subst x;subst v;exact Km (KU (La w u)) (by decide)
theorem Hs:a<64→b=a→c<b→d=c→d+1≤16777216+1:=fun u v w x=>by subst x;subst v;exact Lc (Km (KU (La w u)) (by decide))
theorem Hr:a+8*b+151<c→a+151<c:=fun u=>KE (Nat.add_le_add_right (K9 a _) _) u
theorem Hq:a+64*b+1005<c→a+1005<c:=fun u=>KE (Nat.add_le_add_right (K9 a _) _) u
theorem Hp:a+b+2≤2^27→(c:Int)+(d:Int)>((2^27:Nat):Int)→c≤a+1→d≤b+1→False:=fun u v w x=>absurd (KT.mp v) (Lf.mpr (Km (Nat.add_le_add w x) (Km (K5 (Nat.add_add_add_comm a 1 b 1)) u)))
theorem Ho:¬(a:Int)+1=0:=Int.ne_of_gt (Int.lt_add_one_of_le (Le a))
theorem Hn:a+64*b+1000<c→a+64<c:=fun u=>KE (Nat.add_le_add (K9 a _) (by decide)) u
theorem Hm:a+(b+1)≤c→a+1+b≤c:=fun u=>Km (K5 (Nat.succ_add a b)) u
theorem Hl:0<i→i<2^250→i.natAbs<2^250:=fun u v=>Int.natAbs_lt_natAbs_of_nonneg_of_lt (b:=2^250) (Lb u) v
theorem Hk:a=b→¬a<b:=fun u=>u ▸ KY a
theorem Hj:((a+1:Nat):Int)+1 - 2=(a:Int):=(congrArg (· - 2) (Int.add_assoc (a:Int) 1 1)).trans (Int.add_sub_cancel (a:Int) 2)
theorem Hi:1<((a+1:Nat):Int)+1:=Int.lt_add_of_pos_left 1 (Int.natCast_pos.mpr (Nat.succ_pos a))
theorem Hh:a≤500→a≤900:=fun u=>Km u (Kj rfl)
theorem Df:a≤400→b≤a→b≤900:=fun u v=>Km v (Km u (Kj rfl))
theorem EU:a≤400→a≤800:=fun u=>Km u (Kj rfl)
theorem Hg:a≤400→a+1≤500:=fun u=>Km (Lc u) (Kj rfl)
theorem ET:a≤400→b≤a→b≤1000:=fun u v=>Km v (Km u (Kj rfl))
theorem Hf:a≤b+c→b≤d+1→a≤d+(c+1):=fun u v=>Km u (by rw[Nat.add_comm c 1,←Nat.add_assoc];exact Nat.add_le_add_right v c)
theorem ES:i≤j→¬j<i:=fun u=>Lg.mpr u
theorem He:a+(b+1)≤100000→a≤100000:=fun u=>Km (K9 a _) u
theorem Hc:a+(b+1)≤100000→a+1+b≤100000:=fun u=>by rw[Nat.add_right_comm];exact u
theorem ER:a+(b+1)≤100000→a+b≤100000:=fun u=>Nat.le_of_succ_le u
theorem Hb:a+60*(b+1)≤100000→c≤60→a+c≤100000:=fun u v=>Km (KW (Km v (Nat.le_mul_of_pos_right 60 (Nat.succ_pos b))) a) u
theorem Ha:a+60*(b+1)≤100000→c≤60→d≤a+c→d+60*b≤100000:=fun u v w=>by rw[Nat.mul_succ] at u;exact Km (Nat.add_le_add_right (Km w (KW v a)) _) (by rw[Nat.add_right_comm,Nat.add_assoc];exact u)
theorem G_:a<64→0+60*a≤100000:=fun u=>by rw[K8];exact Km (Lh 60 (KU u)) (Kj rfl)
theorem G8:a+(b+1)≤900→a+1+b≤900:=fun u=>by rw[Nat.add_right_comm];exact u
theorem G7:a+(b+1)≤900→a≤900:=fun u=>Km (K9 a _) u
theorem EQ:a≤500→b≤a→b≤900:=fun u v=>Km v (Km u (Kj rfl))
theorem G6:a≤500→b≤8→a+1+b+min 2 c≤900:=fun u v=>Km (Nat.add_le_add (Nat.add_le_add (Lc u) v) (Nat.min_le_left 2 c)) (Kj rfl)
theorem G4:min 2 a≤1000:=Km (Nat.min_le_left 2 a) (Kj rfl)
theorem G0:a≤8→a+1+min 2 b≤500:=fun u=>Km (Nat.add_le_add (Lc u) (Nat.min_le_left 2 b)) (Kj rfl)
theorem GZ:a≤b+60*c→b≤d+e→e≤60→a≤d+60*(c+1):=fun u v w=>by rw[Nat.mul_succ,←Nat.add_assoc,Nat.add_right_comm];exact Km u (Nat.add_le_add_right (Km v (KW w d)) _)
theorem GY:a<64→b≤0+60*a→b≤100000:=fun u v=>Km v (by rw[K8];exact Km (Lh 60 (KU u)) (Kj rfl))
theorem GX:b≤7→min a b≤1000:=fun u=>Km (Nat.min_le_right a b) (Km u (Kj rfl))
theorem De:a≤b→c<a→c<b+1:=fun u v=>Nat.lt_succ_of_lt (KF v u)
theorem yD:a≤b→c<a→c<b:=fun u v=>KF v u
theorem GW:a≤500→b≤c→c≤a→0+b≤1000000:=fun u v w=>by rw[K8];exact Km v (Km w (Km u (Kj rfl)))
theorem EP:a≤500→b≤c→c≤a→b≤1000:=fun u v w=>Km v (Km w (Km u (Kj rfl)))
theorem GV:a≤b→b<64→0+a≤1000000:=fun u v=>by rw[K8];exact Km u (Km (KU v) (Kj rfl))
theorem EO:a≤b→b<64→a≤1000:=fun u v=>Km u (Km (KU v) (Kj rfl))
theorem GU:b≤7→0+min a b≤900:=fun u=>by rw[K8];exact Km (Nat.min_le_right a b) (Km u (Kj rfl))
theorem GT:b≤7→0+min a b≤1000000:=fun u=>by rw[K8];exact Km (Nat.min_le_right a b) (Km u (Kj rfl))
theorem GS:i≤j→i+1 - 1≤j:=fun u=>by rw[Int.add_sub_cancel];exact u
theorem GR:0≤i∧i≤j→i - 1≤j:=fun u=>KO (Int.sub_le_self i (by decide)) u.2
theorem GQ:a<0+b→a<b:=fun u=>K8 b ▸ u
theorem EN:a≤900→b<0+a→b≤100000:=fun u v=>Km (KU (KF (K8 a ▸ v) u)) (Kj rfl)
theorem GP:a≤7→min b a≤900:=fun u=>Km (Nat.min_le_right b a) (Km u (Kj rfl))
theorem GO:a≤63→i=(a:Int) / 3→0≤j∧j<1+i→8+3*j=k→0≤k∧k≤500:=fun u v w x=>by subst v;subst x;have h:j≤63:=KO (Int.le_of_lt_add_one (Int.add_comm 1 _ ▸ w.2)) (KO (Int.ediv_le_self _ (Le a)) (KS.mpr u));exact ⟨Int.add_nonneg (by decide) (Int.mul_nonneg (by decide) w.1),KO (Int.add_le_add_left (Int.mul_le_mul_of_nonneg_left h (by decide)) 8) (by decide)⟩
theorem GN:(a:Int)≤i+1→i=2→a≤3:=fun u v=>KS.mp (by rw[v] at u;exact u)
theorem EM:0≤i→0<i+1:=fun u=>Int.lt_add_one_of_le u
theorem GM:a≤300→a≤900:=by lia
theorem GL:a≤300→a≤500:=by lia
theorem GK:a≤300→a≤400:=by lia
theorem GJ:(a:Int)≤i+1→i=4→a≤5:=fun u v=>KS.mp (by rw[v] at u;exact u)
theorem Dd:a≤a+b:=by lia
end
inductive D where
 |none
 |bool (b:Bool)
 |int (i:Int)
 |str (s:List Nat)
 |tup (l:List D)
 |lst (l:List D)
 |dct (ks vs:List D)
 |rng (a b c:Int)
 |exc (c:Nat)
inductive PV where
 |d (x:D)
 |p (n j:Nat)
inductive Fld where
 |d (x:D)
 |list (l:List D)
 |dict (ks vs:List D)
inductive PO where
 |fld (f:Fld)
 |rcd (i:Bool) (l:List Fld)
 |dead
 |wrp (f:Fld)
noncomputable abbrev Sto:=List PO
noncomputable abbrev Rho:=List (Option PV)
inductive R (α:Type) where
 |ok (a:α)
 |ex (c:Nat)
noncomputable abbrev PM (α:Type):=Sto→Option (R α×Sto)
inductive Out where
 |next (ρ:Rho)
 |ret (v:PV)
 |ex (c:Nat) (ρ:Rho)
section
variable {α β:Type}
noncomputable def ret (a:α):PM α:=fun σ=>some (.ok a,σ)
noncomputable def su (f:α→PM β):Option (R α×Sto)→Option (R β×Sto)
 |some (.ok a,σ)=>f a σ
 |some (.ex c,σ)=>some (.ex c,σ)
 |none=>none
noncomputable def bnd (m:PM α) (f:α→PM β):PM β:=fun σ=>su f (m σ)
noncomputable def opt (o:Option α):PM α:=fun σ=>o.map fun a=>(.ok a,σ)
def Wp (K:R α→Sto→Prop):Option (R α×Sto)→Prop
 |some (r,σ)=>K r σ
 |none=>False
def bK (K:R β→Sto→Prop) (f:α→PM β):R α→Sto→Prop
 | .ok a,σ=>Wp K (f a σ)
 | .ex c,σ=>K (.ex c) σ
theorem aC {K:R β→Sto→Prop} {f:α→PM β}:∀ {o:Option (R α×Sto)},Wp K (su f o)→Wp (bK K f) o
 |none,h=>h
 |some (.ok _,_),h=>h
 |some (.ex _,_),h=>h
theorem fk {K:R α→Sto→Prop} {σ:Sto}:∀ {o:Option α},Wp K (o.map fun a=>(.ok a,σ))→∃ a,o=some a∧K (.ok a) σ
 |none,h=>h.elim
 |some a,h=>⟨a,rfl,h⟩
end
noncomputable def lim:Nat:=2^24
noncomputable def Fld.toD:Fld→D
 | .d x=>x
 | .list l=>.lst l
 | .dict ks vs=>.dct ks vs
noncomputable def PO.at:PO→Nat→Option Fld
 | .fld f,0=>some f
 | .rcd _ l,j+2=>l[j]?
 | .wrp f,2=>some f
 |_,_=>none
noncomputable def PO.put:PO→Nat→Fld→PO
 | .fld _,_,f=>.fld f
 | .rcd i l,j,f=>.rcd i (l.set (j - 2) f)
 | .dead,_,_=>.dead
 | .wrp _,_,f=>.wrp f
noncomputable def a8 (σ:Sto) (n j:Nat):Option Fld:=(σ[n]?).bind fun o=>o.at j
noncomputable def putAt (σ:Sto) (n j:Nat) (f:Fld):Sto:=match σ[n]? with
 |some o=>σ.set n (o.put j f)
 |none=>σ
noncomputable def Fld.rd:Fld→Option D
 | .d _=>none
 | .list l=>some (.lst l)
 | .dict ks vs=>some (.dct ks vs)
noncomputable def rd (σ:Sto):PV→Option D
 | .d x=>some x
 | .p n j=>(a8 σ n j).bind Fld.rd
noncomputable def dOf:PV→Option D
 | .d x=>some x
 | .p _ _=>none
noncomputable def nG:List PV→Option (List D)
 |[]=>some []
 |v::r=>(dOf v).bind fun x=>(nG r).map (x::·)
noncomputable def fN (o:PO):PM PV:=fun σ=>some (.ok (.p σ.length 0),σ++[o])
set_option genCtorIdx false
structure Ker where
 Φ:Bool→Nat→List PV→PM PV
 hd:Bool
noncomputable def Ker.up (K:Ker):Ker:=⟨K.Φ,true⟩
noncomputable def eY (a b:Int):Bool:=decide (a.natAbs<2^64)||decide (b.natAbs<2^64)||decide (a.natAbs.log2+b.natAbs.log2+2≤2^27)
noncomputable def gg (b:Int):Bool:=b !=0&&decide (b.natAbs<2^9000)
noncomputable def small (i:Int):Bool:=decide (-(2^62)<i)&&decide (i<2^62)
noncomputable def cR (i:Int) (n:Nat):Option Nat:=
 if 0≤i then (if i<n then some i.toNat else none) else if 0≤i+n then some (i+n).toNat else none
noncomputable def cut (i:Int) (n:Nat):Nat:=if i<0 then (i+n).toNat else min i.toNat n
noncomputable def bY {α:Type} (l:List α) (lo hi:Nat):List α:=(l.drop lo).take (hi - lo)
noncomputable def iD:D→Option Int
 | .int i=>some i
 |_=>none
noncomputable def bD:D→Option Bool
 | .bool b=>some b
 |_=>none
noncomputable def sD:D→Option (List Nat)
 | .str s=>some s
 |_=>none
noncomputable def tD:D→Option (List D)
 | .tup l=>some l
 |_=>none
noncomputable def lD:D→Option (List D)
 | .lst l=>some l
 |_=>none
noncomputable def al {α:Type} (c:Prop) [Decidable c] (a:α):Option α:=if c then some a else none
noncomputable def rU:D→Bool
 | .int _=>true
 | .str _=>true
 |_=>false
noncomputable def bS (a b c:Int):Nat:=if a<b then ((b - a - 1) / c+1).toNat else 0
noncomputable def items:D→Option (List D)
 | .tup l=>some l
 | .lst l=>al (l.length≤lim) l
 | .str s=>al (s.length≤lim) (s.map fun c=>.str [c])
 | .rng a b c=>al ((small a&&small b&&decide (0<c)&&decide (c<1000)&&decide (bS a b c≤100000))=true) ((List.range (bS a b c)).map fun (i:Nat)=>.int (a+(i:Int)*c))
 | .dct ks _=>al (ks.length≤100000∧ks.all rU=true) ks
 |_=>none
open Classical in
noncomputable def bp (σ:Sto) (x:D):PV→Bool
 | .d _=>true
 |v=>decide (rd σ v=some x)
noncomputable def cx (v:PV) (x:D) (i:Nat) (body:Rho→Sto→Option (Out×Sto)):List D→Rho→Sto→Option (Out×Sto)
 |[],ρ,σ=>some (.next ρ,σ)
 |y::r,ρ,σ=>match body (ρ.set i (some (.d y))) σ with
  |some (.next ρ',σ')=>if bp σ' x v then cx v x i body r ρ' σ' else none
  |z=>z
noncomputable def cX (v:PV) (x:D) (i:Nat) (test:Rho→PM Bool) (elt:Rho→PM PV) (ρ:Rho):List D→List D→PM (List D)
 |[],acc=>ret acc
 |y::r,acc=>fun σ=>match test (ρ.set i (some (.d y))) σ with
  |some (.ok false,σ')=>if bp σ' x v then cX v x i test elt ρ r acc σ' else none
  |some (.ok true,σ')=>(match elt (ρ.set i (some (.d y))) σ' with
   |some (.ok (.d z),σ'')=>if bp σ'' x v∧acc.length<lim then cX v x i test elt ρ r (acc++[z]) σ'' else none
   |_=>none)
  |_=>none
noncomputable def br {α:Type} (ρ:Rho) (m:PM α) (k:α→Sto→Option (Out×Sto)):Sto→Option (Out×Sto):=fun σ=>match m σ with
 |some (.ok v,σ')=>k v σ'
 |some (.ex n,σ')=>some (.ex n ρ,σ')
 |none=>none
noncomputable def lG (z:Option (Out×Sto)) (k:Rho→Sto→Option (Out×Sto)):Option (Out×Sto):=match z with
 |some (.next ρ,σ)=>k ρ σ
 |z=>z
noncomputable def yc (keep:Bool) (n:Nat) (σ:Sto):Nat→Option PO→Option (R PV×Sto)
 |0,some (.fld f)=>(match keep with
  |false=>some (.ok (.d f.toD),σ.take n)
  |true=>some (.ok (.p n 0),σ.take n++[.fld f]))
 |0,some o=>some (.ok (.p n 0),σ.take n++[o])
 |_,_=>none
noncomputable def C5 (keep:Bool) (n:Nat):PV→Sto→Option (R PV×Sto)
 | .d x,σ=>some (.ok (.d x),σ.take n)
 | .p m j,σ=>if m<n then some (.ok (.p m j),σ.take n) else yc keep n σ j σ[m]?
noncomputable def zJ (keep:Bool) (n:Nat):Option (Out×Sto)→Option (R PV×Sto)
 |some (.next _,σ')=>some (.ok (.d .none),σ'.take n)
 |some (.ret v,σ')=>C5 keep n v σ'
 |some (.ex c _,σ')=>some (.ex c,σ'.take n)
 |none=>none
end Mine.Internal
namespace Mine.Internal
open PySem PyProof.Rows
structure Fm where
 L:Addr
 m:Str→Option Value
 cells:List Addr
 cv:Addr→Option Value
noncomputable def Fm.adr (f:Fm):List Addr:=f.L::f.cells
def Fm.like (f g:Fm):Prop:=g.L=f.L∧g.cells=f.cells
theorem Fm.like.refl (f:Fm):f.like f:=⟨rfl,rfl⟩
theorem Fm.like.trans {f g k:Fm} (a:f.like g) (b:g.like k):f.like k:=⟨b.1.trans a.1,b.2.trans a.2⟩
structure PF where
 params:Nat
 slots:Nat
 keep:Bool
 body:Ker→Rho→Sto→Option (Out×Sto)
noncomputable def GF (K:Ker) (f:PF) (args:List PV):PM PV:=fun σ=>
 if args.length=f.params then zJ f.keep σ.length (f.body K (args.map some++List.replicate (f.slots - f.params) none) σ) else none
noncomputable def gi (T:Nat→Option PF):Nat→Bool→Nat→List PV→PM PV
 |0,_,_,_=>fun _=>none
 |d+1,hd,f,args=>match T f with
  |some pf=>GF ⟨gi T d,hd⟩ pf args
  |none=>fun _=>none
structure Lam where
 c:Addr
 P:Addr
 pos:Pos
 qual:Str
structure Cfg where
 prog:Program
 w:World
 H:Heap
 book:Addr
 exc:Nat→Addr
 K:List (Addr×Obj)
 mg:Str→Option Value
 mb:Str→Option Value
 fnm:Nat→Str×Bool
 fadr:Nat→Addr
 att:Nat→Str
 key:Nat→Str
 gls:List (Str×(Option Int×List Nat))
 T:Nat→Option PF
 lam:Option Lam
noncomputable abbrev Cfg.M (C:Cfg):Model:=model C.prog C.w
noncomputable abbrev bN (vs:List Value) (n:Nat):Obj:={cls:=.type "tuple",data:=.seq vs.toArray n}
noncomputable abbrev aE (vs:List Value) (n:Nat):Obj:={cls:=.type "list",data:=.seq vs.toArray n}
structure Rst where
 n:Nat
 d:Option Addr
 sl:Array (Option Value)
noncomputable abbrev pv (vs:List Value) (r:Rst):Obj:={cls:=.type "list",dict:=r.d,data:=.seq vs.toArray r.n,slots:=r.sl}
noncomputable abbrev xY (a b c:Int) (t u v:Tok):Obj:={cls:=.type "range",data:=.fields #[.int a t,.int b u,.int c v]}
noncomputable abbrev jz (c d:Addr):Obj:={cls:=.ref c,dict:=some d,data:=.plain}
noncomputable abbrev c4 (es:List DictEntry) (n:Nat):Obj:={cls:=.type "dict",data:=.dict es.toArray n}
set_option genCtorIdx true in
inductive Own where
 |no
 |fz (o:Obj)
 |cell (n j:Nat)
 |gh
 |fr
noncomputable abbrev a':=Addr→Own
def okS (s:List Nat):Prop:=(∀ c∈s,c<0x110000)∧s.length≤lim
noncomputable abbrev ofL (s:List Nat):Str:=⟨s.toArray⟩
structure KD (C:Cfg) where
 K:Type
 dec:DecidableEq K
 knd:KeyKind C.prog C.w K
 toD:K→D
 ok:K→Prop
inductive IsKD (C:Cfg):KD C→Prop
 |str:IsKD C ⟨Str,inferInstance,strKind C.prog C.w,fun s=>.str s.cps.toList,fun s=>okS s.cps.toList⟩
 |int:IsKD C ⟨Int,inferInstance,intKind C.prog C.w,fun i=>.int i,fun _=>True⟩
def PrKey (C:Cfg) (w:a') (ks:List Str) (a:Addr):Prop:=∃ vs n,w a= .fz (bN vs n)∧ItemsAre (strKind C.prog C.w) ks vs∧ks.length=2∧∀ s∈ks,okS s.cps.toList
noncomputable def prD (ks:List Str):D:=.tup (ks.map fun s=>.str s.cps.toList)
inductive DictAs (C:Cfg) (w:a') (o:Obj) (ks:List D) (vs:List Value):Prop
 |mk (k:KD C) (l:List (k.K×Value)):IsKD C k→(letI:=k.dec;o.IsDictOf k.knd l)→ks=l.map (fun p=>k.toD p.1)→vs=l.map (·.2)→(∀ p∈l,k.ok p.1)→DictAs C w o ks vs
 |pr (xs:List (List Str×Addr×Value)) (es:Array DictEntry) (ep:Nat):o.ExactDict→o.data= .dict es ep→es.toList=xs.map (entryOfKey (tupleKind (strKind C.prog C.w)))→(∀ x∈xs,PrKey C w x.1 x.2.1)→(xs.map (·.1)).Nodup→ks=xs.map (fun x=>prD x.1)→vs=xs.map (·.2.2)→xs≠[]→DictAs C w o ks vs
mutual
inductive RD (C:Cfg) (w:a'):D→Value→Prop
 |none:RD C w .none .none
 |bool (b:Bool):RD C w (.bool b) (.bool b)
 |int (i:Int) (t:Tok):RD C w (.int i) (.int i t)
 |str (s:List Nat) (t:Tok):okS s→RD C w (.str s) (.str (ofL s) t)
 |tup {a:Addr} {vs:List Value} {n:Nat} {ps:List D}:w a= .fz (bN vs n)→RDs C w ps vs→RD C w (.tup ps) (.ref a)
 |lst {a:Addr} {vs:List Value} {n:Rst} {ps:List D}:w a= .fz (pv vs n)→RDs C w ps vs→RD C w (.lst ps) (.ref a)
 |dct {a:Addr} {o:Obj} {vs:List Value} {ks ps:List D}:w a= .fz o→DictAs C w o ks vs→RDs C w ps vs→RD C w (.dct ks ps) (.ref a)
 |rng {r:Addr} (a b c:Int) (t u v:Tok):w r= .fz (xY a b c t u v)→RD C w (.rng a b c) (.ref r)
 |exc {a:Addr} {o:Obj} {c:Nat} (vs:Array Value):w a= .fz o→o.cls= .ref (C.exc c)→o.data= .fields vs→RD C w (.exc c) (.ref a)
inductive RDs (C:Cfg) (w:a'):List D→List Value→Prop
 |nil:RDs C w [] []
 |cons {p:D} {v:Value} {ps:List D} {vs:List Value}:RD C w p v→RDs C w ps vs→RDs C w (p::ps) (v::vs)
end
section
variable {C:Cfg} {w w':a'}
abbrev Fz (w w':a'):Prop:=∀ a o,w a= .fz o→w' a= .fz o
theorem PrKey.ext (x:Fz w w') {ks:List Str} {a:Addr}:PrKey C w ks a→PrKey C w' ks a
 |⟨vs,n,h,r⟩=>⟨vs,n,x _ _ h,r⟩
theorem DictAs.ext (x:Fz w w') {o:Obj} {ks:List D} {vs:List Value}:DictAs C w o ks vs→DictAs C w' o ks vs
 | .mk k l a b c d e=>.mk k l a b c d e
 | .pr xs es ep a b c d e f g h=>.pr xs es ep a b c (fun y hy=>(d y hy).ext x) e f g h
theorem RD.ext (x:Fz w w') {p:D} {v:Value} (h:RD C w p v):RD C w' p v:=
 RD.rec (motive_1:=fun p v _=>RD C w' p v) (motive_2:=fun p v _=>RDs C w' p v) .none .bool .int .str (fun h _ r=>.tup (x _ _ h) r) (fun h _ r=>.lst (x _ _ h) r) (fun h d _ r=>.dct (x _ _ h) (d.ext x) r) (fun a b c t u v h=>.rng a b c t u v (x _ _ h)) (fun vs h a b=>.exc vs (x _ _ h) a b) .nil (fun _ _ h r=>.cons h r) h
theorem RDs.ext (x:Fz w w') {p:List D} {v:List Value} (h:RDs C w p v):RDs C w' p v:=
 RDs.rec (motive_1:=fun p v _=>RD C w' p v) (motive_2:=fun p v _=>RDs C w' p v) .none .bool .int .str (fun h _ r=>.tup (x _ _ h) r) (fun h _ r=>.lst (x _ _ h) r) (fun h d _ r=>.dct (x _ _ h) (d.ext x) r) (fun a b c t u v h=>.rng a b c t u v (x _ _ h)) (fun vs h a b=>.exc vs (x _ _ h) a b) .nil (fun _ _ h r=>.cons h r) h
inductive SeqV {ι:Type} (C:Cfg) (w:a') (mk:List Value→ι→Obj) (ps:List D):Value→Prop
 |mk {a:Addr} {vs:List Value} {n:ι}:w a= .fz (mk vs n)→RDs C w ps vs→SeqV C w mk ps (.ref a)
inductive DctV (C:Cfg) (w:a') (ks ps:List D):Value→Prop
 |mk {a:Addr} {o:Obj} {vs:List Value}:w a= .fz o→DictAs C w o ks vs→RDs C w ps vs→DctV C w ks ps (.ref a)
inductive RngV (w:a') (a b c:Int):Value→Prop
 |mk {r:Addr} (t u v:Tok):w r= .fz (xY a b c t u v)→RngV w a b c (.ref r)
inductive ExcV (C:Cfg) (w:a') (c:Nat):Value→Prop
 |mk {a:Addr} {o:Obj}:w a= .fz o→o.cls= .ref (C.exc c)→ExcV C w c (.ref a)
def F9 (C:Cfg) (w:a') (v:Value):D→Prop
 | .none=>v= .none
 | .bool b=>v= .bool b
 | .int i=>∃ t,v= .int i t
 | .str s=>okS s∧∃ t,v= .str (ofL s) t
 | .tup ps=>SeqV C w bN ps v
 | .lst ps=>SeqV C w pv ps v
 | .dct ks ps=>DctV C w ks ps v
 | .rng a b c=>RngV w a b c v
 | .exc c=>ExcV C w c v
theorem RD.view {p:D} {v:Value} (h:RD C w p v):F9 C w v p:=by
 cases h with
 |none=>rfl
 |bool b=>rfl
 |int i t=>exact ⟨t,rfl⟩
 |str s t h=>exact ⟨h,t,rfl⟩
 |tup h r=>exact .mk h r
 |lst h r=>exact .mk h r
 |dct h d r=>exact .mk h d r
 |rng a b c t u v h=>exact .mk t u v h
 |exc vs h a b=>exact .mk h a
inductive ConsV (C:Cfg) (w:a') (p:D) (ps:List D):List Value→Prop
 |mk {v:Value} {vs:List Value}:RD C w p v→RDs C w ps vs→ConsV C w p ps (v::vs)
def F8 (C:Cfg) (w:a') (vs:List Value):List D→Prop
 |[]=>vs=[]
 |p::ps=>ConsV C w p ps vs
theorem RDs.view {ps:List D} {vs:List Value} (h:RDs C w ps vs):F8 C w vs ps:=by
 cases h with
 |nil=>rfl
 |cons h r=>exact .mk h r
theorem RDs.length:∀ {ps:List D} {vs:List Value},RDs C w ps vs→vs.length=ps.length
 |[],vs,h=>by rw[show vs=[] from h.view];rfl
 |p::ps,vs,h=>by
  obtain ⟨_,r⟩:ConsV C w p ps vs:=h.view;exact congrArg Nat.succ r.length
theorem RDs.append:∀ {ps qs:List D} {vs ws:List Value},RDs C w ps vs→RDs C w qs ws→RDs C w (ps++qs) (vs++ws)
 |[],_,vs,_,h,k=>by rw[show vs=[] from h.view];exact k
 |p::ps,_,vs,_,h,k=>by
  obtain ⟨h1,r⟩:ConsV C w p ps vs:=h.view;exact .cons h1 (r.append k)
theorem RDs.get:∀ {ps:List D} {vs:List Value},RDs C w ps vs→∀ {k:Nat} {p:D},ps[k]? =some p→∃ v,vs[k]? =some v∧RD C w p v
 |[],_,_,_,_,e=>nomatch e
 |p::ps,vs,h,k,q,e=>by
  obtain ⟨h1,r⟩:ConsV C w p ps vs:=h.view;cases k with
  |zero=>cases e;exact ⟨_,rfl,h1⟩
  |succ k=>exact r.get (k:=k) e
theorem RDs.set:∀ {ps:List D} {vs:List Value},RDs C w ps vs→∀ {k:Nat} {p:D} {v:Value},RD C w p v→RDs C w (ps.set k p) (vs.set k v)
 |[],vs,h,_,_,_,_=>by rw[show vs=[] from h.view];exact .nil
 |p::ps,vs,h,k,q,v,e=>by
  obtain ⟨h1,r⟩:ConsV C w p ps vs:=h.view;cases k with
  |zero=>exact .cons e r
  |succ k=>exact .cons h1 (r.set e)
theorem RDs.drop:∀ {ps:List D} {vs:List Value},RDs C w ps vs→∀ k:Nat,RDs C w (ps.drop k) (vs.drop k)
 |ps,vs,h,0=>h
 |[],vs,h,k+1=>by rw[show vs=[] from h.view];exact .nil
 |p::ps,vs,h,k+1=>by
  obtain ⟨h,r⟩:ConsV C w p ps vs:=h.view;exact r.drop k
theorem RDs.take:∀ {ps:List D} {vs:List Value},RDs C w ps vs→∀ k:Nat,RDs C w (ps.take k) (vs.take k)
 |ps,vs,h,0=>.nil
 |[],vs,h,k+1=>by rw[show vs=[] from h.view];exact .nil
 |p::ps,vs,h,k+1=>by
  obtain ⟨h1,r⟩:ConsV C w p ps vs:=h.view;exact .cons h1 (r.take k)
end
def RF (C:Cfg) (w:a') (o:Obj):Fld→Prop
 | .d _=>False
 | .list ps=>∃ vs n,o=aE vs n∧RDs C w ps vs
 | .dict ks ps=>∃ vs,DictAs C w o ks vs∧RDs C w ps vs
inductive FOb (C:Cfg) (w:a') (h:Heap) (n j:Nat) (f:Fld):Value→Prop
 |mk {a:Addr} {o:Obj}:w a= .cell n j→h.get? a=some o→RF C w o f→FOb C w h n j f (.ref a)
def FA (C:Cfg) (w:a') (h:Heap) (n i:Nat) (v:Value):Fld→Prop
 | .d x=>RD C w x v
 | .list l=>FOb C w h n (i+2) (.list l) v
 | .dict ks ps=>FOb C w h n (i+2) (.dict ks ps) v
def mZ (C:Cfg) (es:List DictEntry):Prop:=∀ i e,es[i]? =some e→(∃ t,e.key= .str (C.att i) t)∧e.hash=PyData.keyHash C.w.params (C.att i)
inductive OInst (C:Cfg) (w:a') (h:Heap) (n:Nat) (l:List Fld):Prop
 |mk {x d:Addr} {es:List DictEntry} {k:Nat}:w x= .cell n 0→h.get? x=some (jz C.book d)→w d= .cell n 1→h.get? d=some (c4 es k)→mZ C es→es.length=l.length→l.length≤7→
  (∀ i f e,l[i]? =some f→es[i]? =some e→FA C w h n i e.val f)→OInst C w h n l
inductive ORcd (C:Cfg) (w:a') (h:Heap) (n:Nat) (l:List Fld):Prop
 |mk {d:Addr} {o:Obj} {kvs:List (Str×Value)}:w d= .cell n 0→h.get? d=some o→o.IsDictOf (strKind C.prog C.w) kvs→kvs.length=l.length→l.length≤100→(∀ i p,kvs[i]? =some p→p.1=C.key i)→
  (∀ i f p,l[i]? =some f→kvs[i]? =some p→FA C w h n i p.2 f)→ORcd C w h n l
def RO (C:Cfg) (w:a') (h:Heap) (n:Nat):PO→Prop
 | .fld f=>∃ v,FOb C w h n 0 f v
 | .rcd true l=>OInst C w h n l
 | .rcd false l=>ORcd C w h n l
 | .dead=>True
 | .wrp f=>∃ t vs k v,w t= .cell n 0∧h.get? t=some (bN vs k)∧vs[2]? =some v∧FOb C w h n 2 f v
structure Pt where
 s:Shared
 fs:List Fm
 own:a'
 G:List (Addr×Obj)
 σ:Sto
noncomputable abbrev Pt.h (P:Pt):Heap:=P.s.heap
def PO.has (j:Nat):PO→Prop
 | .fld _=>j=0
 | .rcd _ l=>j<l.length+2
 | .dead=>True
 | .wrp _=>j<3
def Valid (σ:Sto) (n j:Nat):Prop:=∃ o,σ[n]? =some o∧o.has j
def RV (C:Cfg) (P:Pt) (v:Value):PV→Prop
 | .d x=>RD C P.own x v
 | .p n j=>Valid P.σ n j∧∀ a,P.own a= .cell n j→v= .ref a
inductive RVs (C:Cfg) (P:Pt):List PV→List Value→Prop
 |nil:RVs C P [] []
 |cons {p:PV} {v:Value} {ps:List PV} {vs:List Value}:RV C P v p→RVs C P ps vs→RVs C P (p::ps) (v::vs)
structure FrOK (C:Cfg) (h:Heap) (w:a') (fs:List Fm):Prop where
 ns:∀ f∈fs,h.Ns f.L f.m∧w f.L= .fr∧C.H.objs.size≤f.L
 cl:∀ f∈fs,∀ c∈f.cells,h.IsCell c (f.cv c)∧w c= .fr∧f.L<c
 ord:fs.Pairwise fun f g=>∀ a∈g.adr,a<f.L
 all:∀ a,w a= .fr→∃ f∈fs,a∈f.adr
noncomputable abbrev oI (ps:Array Value):Obj:={cls:=.none,data:=.fields ps}
def Hid (h:Heap) (w:a') (G:List (Addr×Obj)) (a:Addr) (o:Obj):Prop:=h.get? a=some o∧w a= .gh∧∀ p∈G,p.1≠a
def TabAt (h:Heap) (w:a') (G:List (Addr×Obj)) (l:Lam):Prop:=Hid h w G l.P (oI #[])∨∃ c oc vs t,Hid h w G l.P (oI #[rawInt l.pos.line,rawInt l.pos.col,.ref c])∧w c= .fz oc∧oc.data= .fields vs∧vs[1]? =some (.str l.qual t)
structure GhOK (l:Option Lam) (h:Heap) (w:a') (G:List (Addr×Obj)):Prop where
 at_:∀ p∈G,h.get? p.1=some p.2∧w p.1= .gh
 nd:(G.map (·.1)).Nodup
 tab:∀ z,l=some z→TabAt h w G z
structure Inv (C:Cfg) (P:Pt):Prop where
 base:∀ b o,C.H.get? b=some o→P.h.get? b=some o∧P.own b= .no
 fz:∀ a o,P.own a= .fz o→P.h.get? a=some o
 live:∀ a,P.own a≠ .no→∃ o,P.h.get? a=some o
 fr:FrOK C P.h P.own P.fs
 gh:GhOK C.lam P.h P.own P.G
 one:∀ a b n j,P.own a= .cell n j→P.own b= .cell n j→a=b
 bd:∀ a n j,P.own a= .cell n j→Valid P.σ n j
 obj:∀ n o,P.σ[n]? =some o→RO C P.own P.h n o
def Same (s s':Shared):Prop:=∃ h tk,s'={s with heap:=h,toks:=tk}
theorem Same.refl (s:Shared):Same s s:=⟨s.heap,s.toks,rfl⟩
theorem Same.trans {s s' s'':Shared} (a:Same s s') (b:Same s' s''):Same s s'':=by
 obtain ⟨_,_,rfl⟩:=a;obtain ⟨h',tk',rfl⟩:=b;exact ⟨h',tk',rfl⟩
structure Ext (P P':Pt):Prop where
 sm:Same P.s P'.s
 G:P'.G=P.G
 fz:Fz P.own P'.own
 val:∀ n j,Valid P.σ n j→Valid P'.σ n j
 cell:∀ n j a,Valid P.σ n j→P'.own a= .cell n j→P.own a= .cell n j
structure Grow (P P':Pt):Prop extends Ext P P' where
 fs:P'.fs=P.fs
inductive Like:List Fm→List Fm→Prop
 |mk {f f':Fm} {r:List Fm}:f.like f'→Like (f::r) (f'::r)
structure GrowS (P P':Pt):Prop extends Ext P P' where
 fs:Like P.fs P'.fs
section
variable {P P' P'':Pt}
theorem Ext.refl (P:Pt):Ext P P:=⟨.refl _,rfl,fun _ _ h=>h,fun _ _ h=>h,fun _ _ _ _ h=>h⟩
theorem Ext.trans (a:Ext P P') (b:Ext P' P''):Ext P P'':=
 ⟨a.sm.trans b.sm,b.G.trans a.G,fun x o h=>b.fz x o (a.fz x o h),fun n j h=>b.val n j (a.val n j h),fun n j x h k=>a.cell n j x h (b.cell n j x (a.val n j h) k)⟩
theorem Grow.refl (P:Pt):Grow P P:=⟨.refl P,rfl⟩
theorem Grow.trans (a:Grow P P') (b:Grow P' P''):Grow P P'':=⟨a.toExt.trans b.toExt,b.fs.trans a.fs⟩
theorem Like.trans {a b c:List Fm}:Like a b→Like b c→Like a c
 |⟨x⟩,⟨y⟩=>⟨x.trans y⟩
theorem GrowS.trans (a:GrowS P P') (b:GrowS P' P''):GrowS P P'':=⟨a.toExt.trans b.toExt,a.fs.trans b.fs⟩
theorem GrowS.grow (a:GrowS P P') (b:Grow P' P''):GrowS P P'':=⟨a.toExt.trans b.toExt,b.fs ▸ a.fs⟩
theorem RV.ext {C:Cfg} (x:Ext P P') {v:Value}:∀ {p:PV},RV C P v p→RV C P' v p
 | .d _,h=>RD.ext x.fz h
 | .p n j,h=>⟨x.val n j h.1,fun a e=>h.2 a (x.cell n j a h.1 e)⟩
theorem RVs.ext {C:Cfg} (x:Ext P P') {p:List PV} {v:List Value} (h:RVs C P p v):RVs C P' p v:=by
 induction h with
 |nil=>exact .nil
 |cons h _ ih=>exact .cons (h.ext x) ih
end
section
variable {C:Cfg} {P P':Pt} {w w':a'} {h h':Heap}
theorem RF.ext (x:Fz w w') {o:Obj}:∀ {f:Fld},RF C w o f→RF C w' o f
 | .d _,r=>r
 | .list _,⟨vs,n,e,r⟩=>⟨vs,n,e,r.ext x⟩
 | .dict _ _,⟨vs,e,r⟩=>⟨vs,e.ext x,r.ext x⟩
theorem FOb.mv {n n' j:Nat} {f:Fld} {v:Value} (x:Fz w w') (k:∀ b j o,w b= .cell n j→h.get? b=some o→w' b= .cell n' j∧h'.get? b=some o):FOb C w h n j f v→FOb C w' h' n' j f v
 |⟨a,b,c⟩=>⟨(k _ _ _ a b).1,(k _ _ _ a b).2,c.ext x⟩
theorem FA.mv {n n' i:Nat} {v:Value} (x:Fz w w') (k:∀ b j o,w b= .cell n j→h.get? b=some o→w' b= .cell n' j∧h'.get? b=some o):∀ {f:Fld},FA C w h n i v f→FA C w' h' n' i v f
 | .d _,r=>RD.ext x r
 | .list _,r=>FOb.mv x k r
 | .dict _ _,r=>FOb.mv x k r
theorem RO.mv {n n':Nat} (x:Fz w w') (k:∀ b j o,w b= .cell n j→h.get? b=some o→w' b= .cell n' j∧h'.get? b=some o):∀ {o:PO},RO C w h n o→RO C w' h' n' o
 | .fld _,⟨v,r⟩=>⟨v,r.mv x k⟩
 | .rcd true _,⟨a,b,c,d,e,f,g,z⟩=>⟨(k _ _ _ a b).1,(k _ _ _ a b).2,(k _ _ _ c d).1,(k _ _ _ c d).2,e,f,g,fun i y u p q=>FA.mv x k (z i y u p q)⟩
 | .rcd false _,⟨a,b,c,d,e,f,z⟩=>⟨(k _ _ _ a b).1,(k _ _ _ a b).2,c,d,e,f,fun i y u p q=>FA.mv x k (z i y u p q)⟩
 | .dead,_=>trivial
 | .wrp _,⟨t,vs,q,v,a,b,c,r⟩=>⟨t,vs,q,v,(k _ _ _ a b).1,(k _ _ _ a b).2,c,r.mv x k⟩
theorem FrOK.mv {fs:List Fm} (F:FrOK C h w fs) (k:∀ b o,w b= .fr→h.get? b=some o→w' b= .fr∧h'.get? b=some o) (k':∀ b,w' b= .fr→w b= .fr):FrOK C h' w' fs:=by
 refine ⟨fun f hf=> ?_,fun f hf c hc=> ?_,F.ord,fun a e=>F.all a (k' a e)⟩
 ·obtain ⟨⟨o,es,ep,ho,r⟩,e,z⟩:=F.ns f hf;exact ⟨⟨o,es,ep,(k _ _ e ho).2,r⟩,(k _ _ e ho).1,z⟩
 ·obtain ⟨⟨o,ho,r⟩,e,z⟩:=F.cl f hf c hc;exact ⟨⟨o,(k _ _ e ho).2,r⟩,(k _ _ e ho).1,z⟩
theorem TabAt.map {G G':List (Addr×Obj)} {z:Lam} (x:Fz w w') (k:∀ a o,Hid h w G a o→Hid h' w' G' a o):TabAt h w G z→TabAt h' w' G' z:=fun h=>by
 rcases h with a|⟨c,oc,vs,t,a,b,r⟩
 ·exact .inl (k _ _ a)
 ·exact .inr ⟨c,oc,vs,t,k _ _ a,x _ _ b,r⟩
theorem GhOK.mv {l:Option Lam} {G:List (Addr×Obj)} (F:GhOK l h w G) (x:Fz w w') (k:∀ b o,w b= .gh→h.get? b=some o→w' b= .gh∧h'.get? b=some o):GhOK l h' w' G:=
 ⟨fun p hp=>⟨(k _ _ (F.at_ p hp).2 (F.at_ p hp).1).2,(k _ _ (F.at_ p hp).2 (F.at_ p hp).1).1⟩,F.nd,fun z e=>(F.tab z e).map x fun a o q=>⟨(k a o q.2.1 q.1).2,(k a o q.2.1 q.1).1,q.2.2⟩⟩
noncomputable def upd (w:a') (a:Addr) (x:Own):a':=fun b=>if b=a then x else w b
theorem bn (w:a') (a:Addr) (x:Own):upd w a x a=x:=if_pos rfl
theorem aW {w:a'} {a b:Addr} {x:Own} (e:b≠a):upd w a x b=w b:=if_neg e
theorem b_ (w:a') (a:Addr) (x:Own) (b:Addr):(b=a∧upd w a x b=x)∨(b≠a∧upd w a x b=w b):=by
 by_cases e:b=a
 ·exact .inl ⟨e,if_pos e⟩
 ·exact .inr ⟨e,if_neg e⟩
theorem gx {σ l:Sto} {n j:Nat}:Valid σ n j→Valid (σ++l) n j
 |⟨o,e,r⟩=>⟨o,by rw[K1 (Kg.mp e).1];exact e,r⟩
theorem Valid.lt {σ:Sto} {n j:Nat}:Valid σ n j→n<σ.length
 |⟨_,e,_⟩=>(Kg.mp e).1
theorem ji {w:a'} {a b:Addr} {x:Own} (hx:x≠ .fr) (h:upd w a x b= .fr):w b= .fr:=by
 rcases b_ w a x b with ⟨_,r⟩|⟨_,r⟩
 ·exact absurd (r.symm.trans h) hx
 ·exact r.symm.trans h
structure Mv (C:Cfg) (P P':Pt) (a:Addr):Prop where
 k:∀ b o,b≠a→P.h.get? b=some o→P'.h.get? b=some o∧P'.own b=P.own b
 n:∀ b,b≠a→P'.own b=P.own b
 H:C.H.get? a=none
theorem Inv.step (I:Inv C P) {a:Addr} {z:Nat} (m:Mv C P P' a) (hfs:P'.fs=P.fs) (hG:P'.G=P.G) (h0:P.own a= .no∨∃ j,P.own a= .cell z j) (h1:(∃ o,P'.own a= .fz o∧P'.h.get? a=some o)∨(∃ o j,P'.own a= .cell z j∧P'.h.get? a=some o∧∀ b,b≠a→P.own b≠ .cell z j))
  (hz:∀ j,P'.own a= .cell z j→Valid P'.σ z j) (hs:∀ n o,n≠z→P'.σ[n]? =some o→P.σ[n]? =some o) (hl:∀ n j,Valid P.σ n j→Valid P'.σ n j) (ho:∀ o,P'.σ[z]? =some o→RO C P'.own P'.h z o):Inv C P':=by
 have na:∀ {b x},P.own b=x→x≠ .no→(∀ j,x≠ .cell z j)→b≠a:=fun e h3 h4 q=>by
  subst q;rcases h0 with q|⟨j,q⟩
  ·exact h3 (e.symm.trans q)
  ·exact h4 j (e.symm.trans q)
 have fz:Fz P.own P'.own:=fun b o e=>(m.n b (na e (nofun) (nofun))).trans e;have frb:∀ b,P'.own b= .fr→P.own b= .fr:=fun b e=>by
  by_cases q:b=a
  ·rw[q] at e;rcases h1 with ⟨_,e1,_⟩|⟨_,_,e1,_⟩
   ·cases e1.symm.trans e
   ·cases e1.symm.trans e
  ·rw[←m.n b q];exact e
 have kk:∀ b o x,P.own b=x→x≠ .no→(∀ j,x≠ .cell z j)→P.h.get? b=some o→P'.own b=x∧P'.h.get? b=some o:=fun b o x e h3 h4 q=>
  have ne:=na e h3 h4
  ⟨(m.k b o ne q).2.trans e,(m.k b o ne q).1⟩
 refine ⟨fun b o e=> ?_,fun b o e=> ?_,fun b e=> ?_,hfs ▸ I.fr.mv (fun b o e q=>kk b o _ e nofun nofun q) frb,hG ▸ I.gh.mv fz fun b o e q=>kk b o _ e nofun nofun q,fun b c n j e f=> ?_,fun b n j e=> ?_,fun n o e=> ?_⟩
 ·have ne:b≠a:=fun q=>by rw[q,m.H] at e;cases e
  obtain ⟨e1,e2⟩:=I.base b o e;exact ⟨(m.k b o ne e1).1,(m.k b o ne e1).2.trans e2⟩
 ·by_cases q:b=a
  ·subst q;rcases h1 with ⟨o',e1,e2⟩|⟨o',j,e1,_⟩
   ·rw[e1] at e;cases e;exact e2
   ·rw[e1] at e;cases e
  ·rw[m.n b q] at e;exact (m.k b o q (I.fz b o e)).1
 ·by_cases q:b=a
  ·subst q;rcases h1 with ⟨o',e1,e2⟩|⟨o',j,e1,e2,_⟩
   ·exact ⟨_,e2⟩
   ·exact ⟨_,e2⟩
  ·rw[m.n b q] at e;obtain ⟨o,ho⟩:=I.live b e;exact ⟨o,(m.k b o q ho).1⟩
 ·have key:∀ {b c},b=a→c≠a→P'.own b= .cell n j→P'.own c= .cell n j→False:=fun {b c} q r e f=>by
   subst q;rw[m.n c r] at f;rcases h1 with ⟨o',e1,e2⟩|⟨o',j',e1,e2,e3⟩
   ·rw[e1] at e;cases e
   ·rw[e1] at e;cases e;exact e3 c r f
  by_cases q:b=a
  ·by_cases r:c=a
   ·rw[q,r]
   ·exact (key q r e f).elim
  ·by_cases r:c=a
   ·exact (key r q f e).elim
   ·rw[m.n b q] at e;rw[m.n c r] at f;exact I.one b c n j e f
 ·by_cases q:b=a
  ·subst q;rcases h1 with ⟨o',e1,e2⟩|⟨o',j',e1,_⟩
   ·rw[e1] at e;cases e
   ·rw[e1] at e;cases e;exact hz _ e1
  ·rw[m.n b q] at e;exact hl n j (I.bd b n j e)
 ·by_cases q:n=z
  ·subst q;exact ho o e
  ·exact (I.obj n o (hs n o q e)).mv fz fun b j o e' q'=>kk b o _ e' nofun (fun j q2=>by cases q2;exact q rfl) q'
theorem Inv.off (I:Inv C P) {a:Addr} (e:P.h.objs.size≤a):P.own a= .no:=by
 by_cases q:P.own a= .no
 ·exact q
 ·obtain ⟨o,ho⟩:=I.live a q;exact absurd (KN ho) (Lf.mpr e)
theorem Inv.offH (I:Inv C P) {a:Addr} (e:P.own a≠ .no):C.H.get? a=none:=by
 cases q:C.H.get? a with
 |none=>rfl
 |some o=>exact absurd (I.base a o q).2 e
theorem Inv.out (I:Inv C P) {a:Addr} (e:P.h.objs.size≤a):C.H.get? a=none:=by
 cases q:C.H.get? a with
 |none=>rfl
 |some o=>exact absurd (KN (I.base a o q).1) (Lf.mpr e)
noncomputable def Pt.to (P:Pt) (h:Heap) (t:Nat):Pt:={P with s:={P.s with heap:=h,toks:=t}}
theorem Grow.to (P:Pt) (h:Heap) (t:Nat):Grow P (P.to h t):=⟨⟨⟨h,t,rfl⟩,rfl,fun _ _ e=>e,fun _ _ e=>e,fun _ _ _ _ e=>e⟩,rfl⟩
theorem Inv.to (I:Inv C P) {t:Nat} (k:∀ b o,P.h.get? b=some o→h'.get? b=some o):Inv C (P.to h' t):=
 ⟨fun b o e=>⟨k b o (I.base b o e).1,(I.base b o e).2⟩,fun a o e=>k a o (I.fz a o e),fun a e=>(I.live a e).imp fun o q=>k a o q,I.fr.mv (fun b o e q=>⟨e,k b o q⟩) (fun _ e=>e),I.gh.mv (fun _ _ e=>e) fun b o e q=>⟨e,k b o q⟩,I.one,I.bd,fun n o e=>(I.obj n o e).mv (fun _ _ e=>e) fun b j o e q=>⟨e,k b o q⟩⟩
structure New (C:Cfg) (P:Pt) (h':Heap) (a:Addr) (o:Obj):Prop where
 keep:∀ b o,P.h.get? b=some o→h'.get? b=some o
 own:P.own a= .no
 H:C.H.get? a=none
 at_:h'.get? a=some o
theorem Inv.push (I:Inv C P) {o:Obj} (ho:o.isFreed=false):New C P (P.h.push o) P.h.objs.size o:=
 ⟨fun b o e=>Kl _ e,I.off (Ko _),I.out (Ko _),Kx _ ho⟩
noncomputable def Pt.note (P:Pt) (h:Heap) (t:Nat) (a:Addr) (o:Obj):Pt:={P.to h t with own:=upd P.own a (.fz o)}
theorem dp {P:Pt} {a:Addr} {x:Own} (e:P.own a= .no):Fz P.own (upd P.own a x):=fun b o q=>(aW fun r=>by rw[r,e] at q;cases q).trans q
theorem Grow.note {a:Addr} {o:Obj} {t:Nat} (e:P.own a= .no):Grow P (P.note h' t a o):=
 ⟨⟨⟨h',t,rfl⟩,rfl,dp e,fun _ _ e=>e,fun n j b _ q=>by
  rcases b_ P.own a (.fz o) b with ⟨_,r⟩|⟨_,r⟩
  ·cases r.symm.trans q
  ·exact r.symm.trans q⟩,rfl⟩
theorem Mv.new {a:Addr} {o:Obj} (n:New C P h' a o) (hh:P'.h=h') {x:Own} (hw:P'.own=upd P.own a x):Mv C P P' a:=
 ⟨fun b o ne e=>⟨hh ▸ n.keep b o e,hw ▸ aW ne⟩,fun b ne=>hw ▸ aW ne,n.H⟩
theorem Inv.note (I:Inv C P) {a:Addr} {o:Obj} {t:Nat} (n:New C P h' a o):Inv C (P.note h' t a o):=
 I.step (z:=P.σ.length) (Mv.new n rfl rfl) rfl rfl (.inl n.own) (.inl ⟨o,bn _ _ _,n.at_⟩) (fun j e=>by cases (bn P.own a (.fz o)).symm.trans e) (fun n o _ e=>e) (fun _ _ v=>v) fun o e=>absurd (Kg.mp e).1 (KY _)
noncomputable def Pt.make (P:Pt) (h:Heap) (t:Nat) (a:Addr) (o:PO):Pt:={P.to h t with own:=upd P.own a (.cell P.σ.length 0),σ:=P.σ++[o]}
theorem Grow.make {a:Addr} {o:PO} {t:Nat} (e:P.own a= .no):Grow P (P.make h' t a o):=
 ⟨⟨⟨h',t,rfl⟩,rfl,dp e,fun _ _ e=>gx e,fun n j b v q=>by
  rcases b_ P.own a (.cell P.σ.length 0) b with ⟨_,r⟩|⟨_,r⟩
  ·cases r.symm.trans q;exact absurd v.lt (KY _)
  ·exact r.symm.trans q⟩,rfl⟩
theorem cV {α:Type} {l:List α} {x:α} {n:Nat} {y:α} (e:(l++[x])[n]? =some y):(n≠l.length→l[n]? =some y)∧(n=l.length→y=x):=by
 rcases Nat.lt_trichotomy n l.length with q|q|q
 ·rw[K1 q] at e;exact ⟨fun _=>e,fun r=>absurd r (Nat.ne_of_lt q)⟩
 ·subst q;rw[KA (Ko _),Nat.sub_self] at e;exact ⟨fun r=>absurd rfl r,fun _=>(K4 e).symm⟩
 ·rw[List.getElem?_eq_none (by rw[Kd];exact q)] at e;cases e
theorem dG {α:Type} {l:List α} {x:α}:(l++[x])[l.length]? =some x:=by rw[KA (Ko _),Nat.sub_self];rfl
theorem Inv.make (I:Inv C P) {a:Addr} {o:Obj} {po:PO} {t:Nat} (h0:po.has 0) (n:New C P h' a o) (r:RO C (upd P.own a (.cell P.σ.length 0)) h' P.σ.length po):Inv C (P.make h' t a po):=
 I.step (z:=P.σ.length) (Mv.new n rfl rfl) rfl rfl (.inl n.own) (.inr ⟨o,0,bn _ _ _,n.at_,fun b _ q=>absurd (I.bd b _ _ q).lt (KY _)⟩) (fun j e=>by cases (bn P.own a (.cell P.σ.length 0)).symm.trans e;exact ⟨po,dG,h0⟩)
  (fun n o ne e=>(cV e).1 ne) (fun _ _ v=>gx v) fun o e=>(cV e).2 rfl ▸ r
theorem xV {P:Pt} {w:a'} {G:List (Addr×Obj)} {s:Shared} {fs:List Fm} {a:Addr} {po:PO} (h0:po.has 0) (h:∀ b,w b= .cell P.σ.length 0→b=a):RV C ⟨s,fs,w,G,P.σ++[po]⟩ (.ref a) (.p P.σ.length 0):=
 ⟨⟨po,by rw[KA (Ko _),Nat.sub_self];rfl,h0⟩,fun b e=>by rw[h b e]⟩
theorem Inv.rvMake (I:Inv C P) {a:Addr} {po:PO} {t:Nat} (h0:po.has 0):RV C (P.make h' t a po) (.ref a) (.p P.σ.length 0):=
 xV h0 fun b e=>by
  rcases b_ P.own a (.cell P.σ.length 0) b with ⟨q,_⟩|⟨_,r⟩
  ·exact q
  ·exact absurd (I.bd b _ _ (r.symm.trans e)).lt (KY _)
noncomputable def Pt.turn (P:Pt) (h:Heap) (t n:Nat) (o:PO):Pt:={P.to h t with σ:=P.σ.set n o}
theorem c6 {σ:Sto} {n m j:Nat} {o o':PO} (e:σ[n]? =some o) (k:∀ j,o.has j→o'.has j):Valid σ m j→Valid (σ.set n o') m j
 |⟨x,q,r⟩=>by
  by_cases c:n=m
  ·subst c;rw[e] at q;cases q;exact ⟨o',by rw[List.getElem?_set_self (Kg.mp e).1],k j r⟩
  ·exact ⟨x,by rw[KL c];exact q,r⟩
theorem Grow.turn {t n:Nat} {o o':PO} (e:P.σ[n]? =some o) (k:∀ j,o.has j→o'.has j):Grow P (P.turn h' t n o'):=
 ⟨⟨⟨h',t,rfl⟩,rfl,fun _ _ e=>e,fun m j v=>c6 e k v,fun _ _ _ _ q=>q⟩,rfl⟩
theorem Inv.turn (I:Inv C P) {a:Addr} {n j t:Nat} {o:Obj} {po po':PO} (kp:∀ j,po.has j→po'.has j) (e:P.σ[n]? =some po) (ha:P.own a= .cell n j) (hs:∀ b o,b≠a→P.h.get? b=some o→h'.get? b=some o) (ho:h'.get? a=some o) (r:RO C P.own h' n po'):Inv C (P.turn h' t n po'):=
 have hn:=(Kg.mp e).1
 I.step (z:=n) ⟨fun b o ne e=>⟨hs b o ne e,rfl⟩,fun _ _=>rfl,I.offH (by rw[ha];nofun)⟩ rfl rfl (.inr ⟨j,ha⟩) (.inr ⟨o,j,ha,ho,fun b ne q=>ne (I.one b a n j q ha)⟩) (fun j q=>c6 e kp (I.bd a n j q))
  (fun m o ne e=>by rwa [show (P.turn h' t n po').σ[m]? =P.σ[m]? from KL (Ne.symm ne)] at e) (fun _ _ v=>c6 e kp v)
  fun o e=>by
   rw[show (P.turn h' t n po').σ[n]? =some po' from List.getElem?_set_self hn] at e;cases e;exact r
noncomputable def Pt.ice (P:Pt) (n:Nat) (a:Addr) (o:Obj):Pt:={P with own:=upd P.own a (.fz o),σ:=P.σ.set n .dead}
theorem Inv.ice (I:Inv C P) {a:Addr} {n j:Nat} {o:Obj} {po:PO} (e:P.σ[n]? =some po) (ha:P.own a= .cell n j) (ho:P.h.get? a=some o):Inv C (P.ice n a o):=
 I.step (z:=n) ⟨fun b o ne e=>⟨e,aW ne⟩,fun _ ne=>aW ne,I.offH (by rw[ha];nofun)⟩ rfl rfl (.inr ⟨j,ha⟩) (.inl ⟨o,bn _ _ _,ho⟩) (fun j e=>by cases (bn P.own a (.fz o)).symm.trans e)
  (fun m o ne e=>by rwa [show (P.ice n a _).σ[m]? =P.σ[m]? from KL (Ne.symm ne)] at e) (fun _ _ v=>c6 e (fun _ _=>trivial) v)
  fun o e=>by
   by_cases q:n<P.σ.length
   ·rw[show (P.ice n a _).σ[n]? =some .dead from List.getElem?_set_self q] at e;cases e;exact True.intro
   ·rw[show (P.ice n a _).σ[n]? =none from List.getElem?_eq_none (by show (P.σ.set n .dead).length≤n;rw[KG];exact Lf.mp q)] at e;cases e
theorem Grow.ice {a:Addr} {n j:Nat} {o:Obj} {po:PO} (e:P.σ[n]? =some po) (ha:P.own a= .cell n j):Grow P (P.ice n a o):=
 ⟨⟨.refl _,rfl,fun b o q=>(aW fun r=>by rw[r,ha] at q;cases q).trans q,fun m j v=>c6 e (fun _ _=>trivial) v,fun n j b _ q=>by
  rcases b_ P.own a (.fz o) b with ⟨_,r⟩|⟨_,r⟩
  ·cases r.symm.trans q
  ·exact r.symm.trans q⟩,rfl⟩
end
theorem aS {p:Prop} [Decidable p] {a:p→Bool} (h:(if h:p then a h else false)=true):p:=by
 by_cases k:p
 ·exact k
 ·rw[dif_neg k] at h;cases h
theorem ag {a b:Bool} (h:(a&&b)=true):a=true:=(Bool.and_eq_true_iff.mp h).1
theorem aj {a b:Bool} (h:(a&&b)=true):b=true:=(Bool.and_eq_true_iff.mp h).2
theorem bg {α:Type} [BEq α] [LawfulBEq α] {a b:α} (h:(a==b)=true):a=b:=beq_iff_eq.mp h
noncomputable def gw (f:BoolOp→List Expr→Pos→Bool) (z:Expr):Bool:=if h:z.ctorIdx=0 then Expr.BoolOp.elim z h f else false
theorem eT (q:Expr→Prop) {f:BoolOp→List Expr→Pos→Bool} {z:Expr} (h:gw f z=true) (k:∀ op es pos,f op es pos=true→q (.BoolOp op es pos)):q z:=Expr.BoolOp.elim (motive_1:=fun z=>gw f z=true→q z) z (aS h) k h
noncomputable def jf (f:Expr→Operator→Expr→Pos→Bool) (z:Expr):Bool:=if h:z.ctorIdx=2 then Expr.BinOp.elim z h f else false
theorem je (q:Expr→Prop) {f:Expr→Operator→Expr→Pos→Bool} {z:Expr} (h:jf f z=true) (k:∀ l op r pos,f l op r pos=true→q (.BinOp l op r pos)):q z:=Expr.BinOp.elim (motive_1:=fun z=>jf f z=true→q z) z (aS h) k h
noncomputable def dU (f:UnaryOp→Expr→Pos→Bool) (z:Expr):Bool:=if h:z.ctorIdx=3 then Expr.UnaryOp.elim z h f else false
theorem gj (q:Expr→Prop) {f:UnaryOp→Expr→Pos→Bool} {z:Expr} (h:dU f z=true) (k:∀ op x pos,f op x pos=true→q (.UnaryOp op x pos)):q z:=Expr.UnaryOp.elim (motive_1:=fun z=>dU f z=true→q z) z (aS h) k h
noncomputable def m8 (f:Arguments→Expr→Scope→Pos→Bool) (z:Expr):Bool:=if h:z.ctorIdx=4 then Expr.Lambda.elim z h f else false
theorem nL (q:Expr→Prop) {f:Arguments→Expr→Scope→Pos→Bool} {z:Expr} (h:m8 f z=true) (k:∀ ps b sc pos,f ps b sc pos=true→q (.Lambda ps b sc pos)):q z:=Expr.Lambda.elim (motive_1:=fun z=>m8 f z=true→q z) z (aS h) k h
noncomputable def lz (f:Expr→Expr→Expr→Pos→Bool) (z:Expr):Bool:=if h:z.ctorIdx=5 then Expr.IfExp.elim z h f else false
theorem qc (q:Expr→Prop) {f:Expr→Expr→Expr→Pos→Bool} {z:Expr} (h:lz f z=true) (k:∀ t a b pos,f t a b pos=true→q (.IfExp t a b pos)):q z:=Expr.IfExp.elim (motive_1:=fun z=>lz f z=true→q z) z (aS h) k h
noncomputable def gq (f:List (Option Expr)→List Expr→Pos→Bool) (z:Expr):Bool:=if h:z.ctorIdx=6 then Expr.Dict.elim z h f else false
theorem gp (q:Expr→Prop) {f:List (Option Expr)→List Expr→Pos→Bool} {z:Expr} (h:gq f z=true) (k:∀ ks vs pos,f ks vs pos=true→q (.Dict ks vs pos)):q z:=Expr.Dict.elim (motive_1:=fun z=>gq f z=true→q z) z (aS h) k h
noncomputable def io (f:Expr→List Comprehension→Scope→Pos→Bool) (z:Expr):Bool:=if h:z.ctorIdx=8 then Expr.ListComp.elim z h f else false
theorem kG (q:Expr→Prop) {f:Expr→List Comprehension→Scope→Pos→Bool} {z:Expr} (h:io f z=true) (k:∀ el gs scope pos,f el gs scope pos=true→q (.ListComp el gs scope pos)):q z:=Expr.ListComp.elim (motive_1:=fun z=>io f z=true→q z) z (aS h) k h
noncomputable def gR (f:Expr→List CmpOp→List Expr→Pos→Bool) (z:Expr):Bool:=if h:z.ctorIdx=15 then Expr.Compare.elim z h f else false
theorem gt (q:Expr→Prop) {f:Expr→List CmpOp→List Expr→Pos→Bool} {z:Expr} (h:gR f z=true) (k:∀ l ops rs pos,f l ops rs pos=true→q (.Compare l ops rs pos)):q z:=Expr.Compare.elim (motive_1:=fun z=>gR f z=true→q z) z (aS h) k h
noncomputable def nc (f:Expr→List Expr→List Keyword→Pos→Bool) (z:Expr):Bool:=if h:z.ctorIdx=16 then Expr.Call.elim z h f else false
theorem gu (q:Expr→Prop) {f:Expr→List Expr→List Keyword→Pos→Bool} {z:Expr} (h:nc f z=true) (k:∀ g es kw pos,f g es kw pos=true→q (.Call g es kw pos)):q z:=Expr.Call.elim (motive_1:=fun z=>nc f z=true→q z) z (aS h) k h
noncomputable def bR (f:Const→Nat→Pos→Bool) (z:Expr):Bool:=if h:z.ctorIdx=19 then Expr.Constant.elim z h f else false
theorem cq (q:Expr→Prop) {f:Const→Nat→Pos→Bool} {z:Expr} (h:bR f z=true) (k:∀ c k pos,f c k pos=true→q (.Constant c k pos)):q z:=Expr.Constant.elim (motive_1:=fun z=>bR f z=true→q z) z (aS h) k h
noncomputable def cF (f:Expr→Str→Pos→Bool) (z:Expr):Bool:=if h:z.ctorIdx=20 then Expr.Attribute.elim z h f else false
theorem dE (q:Expr→Prop) {f:Expr→Str→Pos→Bool} {z:Expr} (h:cF f z=true) (k:∀ v x pos,f v x pos=true→q (.Attribute v x pos)):q z:=Expr.Attribute.elim (motive_1:=fun z=>cF f z=true→q z) z (aS h) k h
noncomputable def aY (f:Expr→Expr→Pos→Bool) (z:Expr):Bool:=if h:z.ctorIdx=21 then Expr.Subscript.elim z h f else false
theorem bv (q:Expr→Prop) {f:Expr→Expr→Pos→Bool} {z:Expr} (h:aY f z=true) (k:∀ v i pos,f v i pos=true→q (.Subscript v i pos)):q z:=Expr.Subscript.elim (motive_1:=fun z=>aY f z=true→q z) z (aS h) k h
noncomputable def cE (f:Str→Pos→Bool) (z:Expr):Bool:=if h:z.ctorIdx=23 then Expr.Name.elim z h f else false
theorem bM (q:Expr→Prop) {f:Str→Pos→Bool} {z:Expr} (h:cE f z=true) (k:∀ x pos,f x pos=true→q (.Name x pos)):q z:=Expr.Name.elim (motive_1:=fun z=>cE f z=true→q z) z (aS h) k h
noncomputable def jM (f:List Expr→Pos→Bool) (z:Expr):Bool:=if h:z.ctorIdx=24 then Expr.List.elim z h f else false
theorem ki (q:Expr→Prop) {f:List Expr→Pos→Bool} {z:Expr} (h:jM f z=true) (k:∀ es pos,f es pos=true→q (.List es pos)):q z:=Expr.List.elim (motive_1:=fun z=>jM f z=true→q z) z (aS h) k h
noncomputable def ly (f:List Expr→Nat→Pos→Bool) (z:Expr):Bool:=if h:z.ctorIdx=25 then Expr.Tuple.elim z h f else false
theorem p_ (q:Expr→Prop) {f:List Expr→Nat→Pos→Bool} {z:Expr} (h:ly f z=true) (k:∀ es k pos,f es k pos=true→q (.Tuple es k pos)):q z:=Expr.Tuple.elim (motive_1:=fun z=>ly f z=true→q z) z (aS h) k h
noncomputable def qb (f:Option Expr→Option Expr→Option Expr→Pos→Bool) (z:Expr):Bool:=if h:z.ctorIdx=26 then Expr.Slice.elim z h f else false
theorem qa (q:Expr→Prop) {f:Option Expr→Option Expr→Option Expr→Pos→Bool} {z:Expr} (h:qb f z=true) (k:∀ l u st pos,f l u st pos=true→q (.Slice l u st pos)):q z:=Expr.Slice.elim (motive_1:=fun z=>qb f z=true→q z) z (aS h) k h
noncomputable def iO (f:Option Expr→Pos→Bool) (z:Stmt):Bool:=if h:z.ctorIdx=3 then Stmt.Return.elim z h f else false
theorem g8 (q:Stmt→Prop) {f:Option Expr→Pos→Bool} {z:Stmt} (h:iO f z=true) (k:∀ v pos,f v pos=true→q (.Return v pos)):q z:=Stmt.Return.elim (motive_2:=fun z=>iO f z=true→q z) z (aS h) k h
noncomputable def my (f:List Expr→Expr→Pos→Bool) (z:Stmt):Bool:=if h:z.ctorIdx=5 then Stmt.Assign.elim z h f else false
theorem nE (q:Stmt→Prop) {f:List Expr→Expr→Pos→Bool} {z:Stmt} (h:my f z=true) (k:∀ ts e pos,f ts e pos=true→q (.Assign ts e pos)):q z:=Stmt.Assign.elim (motive_2:=fun z=>my f z=true→q z) z (aS h) k h
noncomputable def vG (f:Expr→Expr→List Stmt→List Stmt→Pos→Bool) (z:Stmt):Bool:=if h:z.ctorIdx=9 then Stmt.For.elim z h f else false
theorem uh (q:Stmt→Prop) {f:Expr→Expr→List Stmt→List Stmt→Pos→Bool} {z:Stmt} (h:vG f z=true) (k:∀ t e b el pos,f t e b el pos=true→q (.For t e b el pos)):q z:=Stmt.For.elim (motive_2:=fun z=>vG f z=true→q z) z (aS h) k h
noncomputable def kZ (f:Expr→List Stmt→List Stmt→Pos→Bool) (z:Stmt):Bool:=if h:z.ctorIdx=11 then Stmt.While.elim z h f else false
theorem pI (q:Stmt→Prop) {f:Expr→List Stmt→List Stmt→Pos→Bool} {z:Stmt} (h:kZ f z=true) (k:∀ t b el pos,f t b el pos=true→q (.While t b el pos)):q z:=Stmt.While.elim (motive_2:=fun z=>kZ f z=true→q z) z (aS h) k h
noncomputable def DQ (f:Expr→List Stmt→List Stmt→Pos→Bool) (z:Stmt):Bool:=if h:z.ctorIdx=12 then Stmt.If.elim z h f else false
theorem w7 (q:Stmt→Prop) {f:Expr→List Stmt→List Stmt→Pos→Bool} {z:Stmt} (h:DQ f z=true) (k:∀ t a b pos,f t a b pos=true→q (.If t a b pos)):q z:=Stmt.If.elim (motive_2:=fun z=>DQ f z=true→q z) z (aS h) k h
noncomputable def pK (f:Option Expr→Option Expr→Pos→Bool) (z:Stmt):Bool:=if h:z.ctorIdx=16 then Stmt.Raise.elim z h f else false
theorem pJ (q:Stmt→Prop) {f:Option Expr→Option Expr→Pos→Bool} {z:Stmt} (h:pK f z=true) (k:∀ x cause pos,f x cause pos=true→q (.Raise x cause pos)):q z:=Stmt.Raise.elim (motive_2:=fun z=>pK f z=true→q z) z (aS h) k h
noncomputable def vE (f:List Stmt→List ExceptHandler→List Stmt→List Stmt→Pos→Bool) (z:Stmt):Bool:=if h:z.ctorIdx=17 then Stmt.Try.elim z h f else false
theorem ud (q:Stmt→Prop) {f:List Stmt→List ExceptHandler→List Stmt→List Stmt→Pos→Bool} {z:Stmt} (h:vE f z=true) (k:∀ b hs el fin pos,f b hs el fin pos=true→q (.Try b hs el fin pos)):q z:=Stmt.Try.elim (motive_2:=fun z=>vE f z=true→q z) z (aS h) k h
noncomputable def ui (f:Expr→Pos→Bool) (z:Stmt):Bool:=if h:z.ctorIdx=24 then Stmt.Expr.elim z h f else false
theorem rH (q:Stmt→Prop) {f:Expr→Pos→Bool} {z:Stmt} (h:ui f z=true) (k:∀ e pos,f e pos=true→q (.Expr e pos)):q z:=Stmt.Expr.elim (motive_2:=fun z=>ui f z=true→q z) z (aS h) k h
noncomputable def B0 (f:Bool→Bool) (c:Const):Bool:=if h:c.ctorIdx=1 then Const.bool.elim c h f else false
theorem xl (q:Const→Prop) {f:Bool→Bool} {c:Const} (h:B0 f c=true) (k:∀ b,f b=true→q (.bool b)):q c:=Const.bool.elim (motive:=fun c=>B0 f c=true→q c) c (aS h) k h
noncomputable def BZ (f:Int→Bool) (c:Const):Bool:=if h:c.ctorIdx=2 then Const.int.elim c h f else false
theorem xk (q:Const→Prop) {f:Int→Bool} {c:Const} (h:BZ f c=true) (k:∀ b,f b=true→q (.int b)):q c:=Const.int.elim (motive:=fun c=>BZ f c=true→q c) c (aS h) k h
noncomputable def Ai (f:Str→Bool) (c:Const):Bool:=if h:c.ctorIdx=5 then Const.str.elim c h f else false
theorem oB (q:Const→Prop) {f:Str→Bool} {c:Const} (h:Ai f c=true) (k:∀ b,f b=true→q (.str b)):q c:=Const.str.elim (motive:=fun c=>Ai f c=true→q c) c (aS h) k h
noncomputable def BY (c:Const):Bool:=if h:c.ctorIdx=0 then Const.none.elim c h true else false
theorem xj (q:Const→Prop) {c:Const} (h:BY c=true) (k:q .none):q c:=Const.none.elim (motive:=fun c=>BY c=true→q c) c (aS h) (fun _=>k) h
noncomputable def uIs (b:Bool) (o:UnaryOp):Bool:=match b with
 |true=>o.ctorIdx==UnaryOp.Not.ctorIdx
 |false=>o.ctorIdx==UnaryOp.USub.ctorIdx
theorem Ar (q:UnaryOp→Prop) {o:UnaryOp} (h:uIs true o=true) (k:q .Not):q o:=by cases o<;>first|exact k|cases h
theorem As (q:UnaryOp→Prop) {o:UnaryOp} (h:uIs false o=true) (k:q .USub):q o:=by cases o<;>first|exact k|cases h
noncomputable def bIs:Bool→BoolOp→Bool
 |true,.And=>true
 |false,.Or=>true
 |_,_=>false
theorem v6 (q:BoolOp→Prop) {o:BoolOp} (h:bIs true o=true) (k:q .And):q o:=by cases o<;>first|exact k|cases h
theorem Eg (q:BoolOp→Prop) {o:BoolOp} (h:bIs false o=true) (k:q .Or):q o:=by cases o<;>first|exact k|cases h
section
variable {α:Type}
noncomputable def one (f:α→Bool):List α→Bool
 |[a]=>f a
 |_=>false
theorem cS (q:List α→Prop) {f:α→Bool}:∀ {l:List α},one f l=true→(∀ a,f a=true→q [a])→q l
 |[a],h,k=>k a h
 |[],h,_=>nomatch h
 |_::_::_,h,_=>nomatch h
noncomputable def two (f:α→α→Bool):List α→Bool
 |[a,b]=>f a b
 |_=>false
theorem lC (q:List α→Prop) {f:α→α→Bool}:∀ {l:List α},two f l=true→(∀ a b,f a b=true→q [a,b])→q l
 |[a,b],h,k=>k a b h
 |[],h,_=>nomatch h
 |[_],h,_=>nomatch h
 |_::_::_::_,h,_=>nomatch h
theorem bu (q:List α→Prop):∀ {l:List α},l.isEmpty=true→q []→q l
 |[],_,k=>k
 |_::_,h,_=>nomatch h
noncomputable def jst (f:α→Bool):Option α→Bool
 |some a=>f a
 |none=>false
theorem fc (q:Option α→Prop) {f:α→Bool}:∀ {o:Option α},jst f o=true→(∀ a,f a=true→q (some a))→q o
 |some a,h,k=>k a h
 |none,h,_=>nomatch h
theorem iG (q:Option α→Prop):∀ {o:Option α},o.isNone=true→q none→q o
 |none,_,k=>k
 |some _,h,_=>nomatch h
end
noncomputable def du (f:Str→List Expr→Bool) (e:Expr):Bool:=nc (fun g es kw _=>kw.isEmpty&&cE (fun x _=>f x es) g) e
theorem dt (q:Expr→Prop) {f:Str→List Expr→Bool} {e:Expr} (h:du f e=true) (k:∀ x px es pos,f x es=true→q (.Call (.Name x px) es [] pos)):q e:=
 gu q h fun g es kw pos h=>bu (fun kw=>q (.Call g es kw pos)) (ag h) (bM (fun g=>q (.Call g es [] pos)) (aj h) fun x px h=>k x px es pos h)
noncomputable def fH (f:Expr→Str→Pos→List Expr→Pos→Bool) (e:Expr):Bool:=nc (fun g es kw pos=>kw.isEmpty&&cF (fun v x ap=>f v x ap es pos) g) e
theorem fG (q:Expr→Prop) {f:Expr→Str→Pos→List Expr→Pos→Bool} {e:Expr} (h:fH f e=true) (k:∀ v x ap es pos,f v x ap es pos=true→q (.Call (.Attribute v x ap) es [] pos)):q e:=
 gu q h fun g es kw pos h=>bu (fun kw=>q (.Call g es kw pos)) (ag h) (dE (fun g=>q (.Call g es [] pos)) (aj h) fun v x ap h=>k v x ap es pos h)
noncomputable def sE (f:Expr→CmpOp→Expr→Bool) (e:Expr):Bool:=gR (fun l ops rs _=>one (fun o=>one (fun r=>f l o r) rs) ops) e
theorem m9 (q:Expr→Prop) {f:Expr→CmpOp→Expr→Bool} {e:Expr} (h:sE f e=true) (k:∀ l o r pos,f l o r=true→q (.Compare l [o] [r] pos)):q e:=
 gt q h fun l ops rs pos h=>cS (fun ops=>q (.Compare l ops rs pos)) h fun o h=>cS (fun rs=>q (.Compare l [o] rs pos)) h fun r h=>k l o r pos h
noncomputable def m_ (f:Expr→CmpOp→CmpOp→Expr→Expr→Bool) (e:Expr):Bool:=gR (fun l ops rs _=>two (fun o p=>two (fun r q=>f l o p r q) rs) ops) e
theorem km (q:Expr→Prop) {f:Expr→CmpOp→CmpOp→Expr→Expr→Bool} {e:Expr} (h:m_ f e=true) (k:∀ l o p r s pos,f l o p r s=true→q (.Compare l [o,p] [r,s] pos)):q e:=
 gt q h fun l ops rs pos h=>lC (fun ops=>q (.Compare l ops rs pos)) h fun o p h=>lC (fun rs=>q (.Compare l [o,p] rs pos)) h fun r s h=>k l o p r s pos h
noncomputable def uM (f:Expr→Option Expr→Option Expr→Bool) (e:Expr):Bool:=aY (fun v i _=>qb (fun l u st _=>st.isNone&&f v l u) i) e
theorem sB (q:Expr→Prop) {f:Expr→Option Expr→Option Expr→Bool} {e:Expr} (h:uM f e=true) (k:∀ v l u p pos,f v l u=true→q (.Subscript v (.Slice l u none p) pos)):q e:=
 bv q h fun v i pos h=>qa (fun i=>q (.Subscript v i pos)) h fun l u st p h=>iG (fun st=>q (.Subscript v (.Slice l u st p) pos)) (ag h) (k v l u p pos (aj h))
noncomputable def F1 (f:Expr→Str→Expr→List Expr→Int→Scope→Bool) (e:Expr):Bool:=io (fun el gs scope _=>one (fun g=>cE (fun x _=>f el x g.iter g.ifs g.is_async scope) g.target) gs) e
theorem oA (q:Expr→Prop) {f:Expr→Str→Expr→List Expr→Int→Scope→Bool} {e:Expr} (h:F1 f e=true) (k:∀ el x px iter cs ay scope pos,f el x iter cs ay scope=true→q (.ListComp el [⟨.Name x px,iter,cs,ay⟩] scope pos)):q e:=
 kG q h fun el gs scope pos h=>cS (fun gs=>q (.ListComp el gs scope pos)) h fun g h=>match g,h with
  |⟨t,iter,cs,ay⟩,h=>bM (fun t=>q (.ListComp el [⟨t,iter,cs,ay⟩] scope pos)) h fun x px h=>k el x px iter cs ay scope pos h
noncomputable def kx (f:Expr→Expr→Bool) (s:Stmt):Bool:=my (fun ts e _=>one (fun t=>f t e) ts) s
theorem dT (q:Stmt→Prop) {f:Expr→Expr→Bool} {s:Stmt} (h:kx f s=true) (k:∀ t e pos,f t e=true→q (.Assign [t] e pos)):q s:=
 nE q h fun ts e pos h=>cS (fun ts=>q (.Assign ts e pos)) h fun t h=>k t e pos h
noncomputable abbrev Gam:=List (Str×Nat)
noncomputable def kt (sc:Scope) (x:Str):Bool:=sc.names.lookup x==some .local||sc.names.lookup x==some .cell||sc.names.lookup x==some .free
noncomputable def dg (sc:Scope) (x:Str):Bool:=sc.names.lookup x==some .globalImplicit&& !(x==("__debug__":Str))
noncomputable def dl (e:Expr):Bool:=e.ctorIdx !=16|| !du (fun _ es=>es.isEmpty) e
noncomputable def bP (e:Expr):Bool:=e.ctorIdx !=26
noncomputable def jI (sc scope:Scope) (x:Str):Bool:=
 scope.kind== .function&&scope.names.all (fun p=>p.2 != .cell)&&scope.names.lookup x==some .local&&
 scope.names.all (fun p=>p.2 != .local||(scope.names.lookup p.1==some .local&&(p.1==x||p.1==(".0":Str))))&&scope.names.all (fun p=>p.2 != .free||sc.names.lookup p.1==some .cell)
noncomputable def fx (e:Expr):Bool:=e.ctorIdx !=22
noncomputable def ed (e:Expr):Bool:=e.ctorIdx==8||e.ctorIdx==9||e.ctorIdx==10
noncomputable def hO (sc:Scope) (x:Str):Bool:=sc.names.lookup x==some .local||sc.names.lookup x==some .cell
noncomputable def l7 {α:Type} [BEq α]:List α→Bool
 |[]=>true
 |a::r=> !r.contains a&&l7 r
structure Sx where
 fnm:Nat→Str×Bool
 att:Nat→Str
 key:Nat→Str
 gls:List (Str×(Option Int×List Nat))
 sc:Scope
 Γ:Gam
 lm:Option Lam
end Mine.Internal
namespace Mine.Internal
open PySem PyProof.Rows PySem.W
noncomputable def FP (K:Frag) (D:Addr):Bool:=
 findIn K (.ref D) "__getattribute__"==some (some (.builtin "BaseException.__getattribute__"))&&findIn K (.ref D) "__getattr__"==some none&&
 findIn K (.ref D) "__class__"==some (some (.builtin "object.__class__"))&&specialIn K (.builtin "object.__class__") "__get__"==some (some (.builtin "getset_descriptor.__get__"))&&
 takesIn K (.builtin "object.__class__")==some true&&mroIn K D (.type "object")==some true&&mroIn K D (.type "BaseException")==some true&&(clsIn K D).isSome
noncomputable def gP:Nat→Str
 |0=>"LedgerError"|1=>"BadName"|2=>"BadCurrency"|3=>"BadAmount"|4=>"BadDay"|5=>"BadNote"|6=>"BadRate"|7=>"Unbalanced"|8=>"Closed"|9=>"Taken"
 |10=>"TakenBack"|11=>"NoAccount"|12=>"NoEntry"|13=>"NoRate"|14=>"TooSmall"|15=>"NoPeriod"|16=>"BadText"|_=>"?"
noncomputable def biNames:List (Str×Value):=[("len",.builtin "len"),("range",.type "range"),("min",.builtin "min"),("max",.builtin "max"),("abs",.builtin "abs"),("int",.type "int"),("str",.type "str"),("list",.type "list"),("tuple",.type "tuple"),
 ("dict",.type "dict"),("all",.builtin "all"),("sum",.builtin "sum"),("sorted",.builtin "sorted"),("isinstance",.builtin "isinstance"),("bool",.type "bool"),("ValueError",.type "ValueError")]
structure ClsOK (C:Cfg):Prop where
 X:Frag.In C.K C.H
 name:C.mg "Book"=some (.ref C.book)
 cd:∃ cd,clsIn C.K C.book=some cd∧cd.hasDict=true
 plain:plainOver C.K C.book=true
 makes:makesIn C.K C.book=true
 ga:findIn C.K (.ref C.book) "__getattribute__"=some (some (.builtin "object.__getattribute__"))
 gattr:findIn C.K (.ref C.book) "__getattr__"=some none
 sattr:findIn C.K (.ref C.book) "__setattr__"=some (some (.builtin "object.__setattr__"))
 no:∀ k,k<7→findIn C.K (.ref C.book) (C.att k)=some none
 inj:∀ i,i<7→∀ k,k<7→C.att i=C.att k→i=k
 init:findIn C.K (.ref C.book) "__init__"=some (some (.ref (C.fadr 0)))∧typeIn C.K (.ref (C.fadr 0))=some (.type "function")
 meth:∀ m,(C.fnm m).2=true→findIn C.K (.ref C.book) (C.fnm m).1=some (some (.ref (C.fadr m)))∧typeIn C.K (.ref (C.fadr m))=some (.type "function")∧(∀ k,k<7→C.att k≠(C.fnm m).1)∧∃ o fd,C.H.get? (C.fadr m)=some o∧o.data= .func fd
def DU (v:Value):Option Int×List Nat→Prop
 |(some i,_)=>∃ t,v= .int i t
 |(none,s)=>okS s∧∃ t,v= .str (ofL s) t
structure Good (C:Cfg):Prop where
 g:C.H.Ns mainGlobals C.mg
 b:C.H.Ns builtinsNs C.mb
 nolimit:C.H.NoLimit
 nodigits:∃ mc,C.H.Ns cStatics mc∧mc "sys.int_max_str_digits"=none
 big:∃ o,C.H.get? sysModules=some o
 cls:ClsOK C
 exc:∀ c,c<nX→OwnCls (gP c) (C.exc c) [.type "ValueError",.type "Exception",.type "BaseException",.type "object"] "ValueError.__new__" C.mg C.H
 exk:∀ c,c<nX→FP C.K (C.exc c)=true
 kit:∀ c,c<nX→∀ k,k<nX→kitOne C.K (.ref (C.exc c)) (.ref (C.exc k))=some (c==k||k==0)
 kitV:∀ c,c<nX→kitOne C.K (.ref (C.exc c)) (.type "ValueError")=some true
 exm:∀ c,c<nX→∀ k,k<nX→exmOne C.K (.ref (C.exc c)) (.ref (C.exc k))=some (c==k||k==0)
 fn:∀ f,(C.fnm f).2=false→C.mg (C.fnm f).1=some (.ref (C.fadr f))∧∃ o fd,C.H.get? (C.fadr f)=some o∧o.data= .func fd
 bi:∀ p∈biNames,C.mg p.1=none∧C.mb p.1=some p.2
 gl:∀ x q,C.gls.lookup x=some q→∃ v,C.mg x=some v∧DU v q
 keys:∀ i j,i<100→j<100→C.key i=C.key j→i=j
 lam:∀ l,C.lam=some l→CodeHd C.H l.c l.P∧C.H.BuiltinsAt C.mg l.P∧mainGlobals≠l.P
def kq (A:Around) (fs:List Fm):Prop:=∃ ls,A.frames=some ls∧∀ e∈ls,e.scope.kind≠ .module∧∃ f∈fs,e.frame=some f.L
def kept:Own→Prop
 | .no| .fr=>False
 |_=>True
def oF (C:Cfg) (P:Pt) (ls:List Env) (e:Addr) (c:Nat):Prop:=
 ∃ B:Heap,B.StaysIn P.h∧B.get? e=none∧P.h.FunFrames B ls∧(∀ b o,C.H.get? b=some o→B.get? b=some o)∧(∀ b o,kept (P.own b)→P.h.get? b=some o→B.get? b=some o)∧
  ((∃ oe vs a0,P.h.get? e=some oe∧oe.cls= .ref (C.exc c)∧oe.data= .fields vs∧vs[1]? =some Value.none∧vs[0]? =some a0)∨
  (∃ a0,P.h.TracedW B e (.ref (C.exc c)) a0)∨
  (∃ a0 env L,ls.head? =some env∧env.frame=some L∧P.h.TracedAtW B e (.ref (C.exc c)) a0 (rawInt L)))
inductive Exc (C:Cfg) (A:Around) (P:Pt) (c:Nat):Value→Prop
 |mk {a:Addr} {ls:List Env}:A.frames=some ls→oF C P ls a c→Exc C A P c (.ref a)
structure Post {α β:Type} (C:Cfg) (A:Around) (Rel:Pt→β→α→Prop) (P:Pt) (K:R α→Sto→Prop) (Q:β→Shared→Prop) (E:Value→Shared→Prop):Prop where
 ok:∀ p v P',Grow P P'→Inv C P'→Rel P' v p→K (.ok p) P'.σ→Q v P'.s
 ex:∀ c e P',Grow P P'→Inv C P'→Exc C A P' c e→K (.ex c) P'.σ→E e P'.s
abbrev F_ (C:Cfg) (P:Pt) (vs:List Value) (ps:List PV):Prop:=RVs C P ps vs
abbrev kH (_:Pt) (c b:Bool):Prop:=c=b
section
variable {α β γ δ:Type} {C:Cfg} {A:Around} {Rel:Pt→β→α→Prop} {Rel':Pt→δ→γ→Prop} {P P':Pt} {K:R α→Sto→Prop} {Q:β→Shared→Prop} {E:Value→Shared→Prop}
theorem Post.mono (h:Post C A Rel P K Q E) (g:Grow P P'):Post C A Rel P' K Q E:=
 ⟨fun p v P'' g'=>h.ok p v P'' (g.trans g'),fun c e P'' g'=>h.ex c e P'' (g.trans g')⟩
theorem Post.bind {f:γ→PM α} {Q':δ→Shared→Prop} (h:Post C A Rel P K Q E) (k:∀ p v P',Grow P P'→Inv C P'→Rel' P' v p→Wp K (f p P'.σ)→Post C A Rel P' K Q E→Q' v P'.s):Post C A Rel' P (bK K f) Q' E:=
 ⟨fun p v P' g i r w=>k p v P' g i r w (h.mono g),h.ex⟩
end
def qg (C:Cfg) (d:Nat):Prop:=∀ (hd:Bool) (A:Around) (P:Pt) (f:Nat) (args:List PV) (vs:List Value) (K:R PV→Sto→Prop) (Q E:Value→Shared→Prop),
 kq A P.fs→C.H.objs.size≤P.h.objs.size→A.depth+8*d+144<recursionLimit→A.units+64*d+945<cLine→(hd=false→A.handled=none)→Inv C P→RVs C P args vs→Wp K (gi C.T d hd f args P.σ)→Post C A (RV C) P K Q E→
 codeAny C.M A (.call (.ref (C.fadr f)) ⟨vs,[]⟩) (fun r s'=>match r with| .ok (.ret v)=>Q v s'| .ok _=>False| .error e=>E e s') P.s
def wc (sc:Scope) (env:Env):Prop:=∀ x,(kt sc x=true→kt env.scope x=true)∧(dg sc x=true→env.kindOf x=some .globalImplicit)∧(sc.names.lookup x=some .cell→env.kindOf x=some .cell∧∃ c,env.cells.lookup x=some c)
structure Cx where
 C:Cfg
 A:Around
 env:Env
 sc:Scope
 Γ:Gam
 d:Nat
 hd:Bool
 good:Good C
 calls:qg C d
 kinds:wc sc env
 kind:env.scope.kind= .function
 glob:env.globals=mainGlobals
 blt:env.builtins=builtinsNs
 dep:A.depth+8*d+150<recursionLimit
 uni:A.units+64*d+1000<cLine
 hnd:hd=false→A.handled=none
 lm:Option Lam
noncomputable abbrev Cx.M (X:Cx):Model:=X.C.M
noncomputable def Cx.ker (X:Cx):Ker:=⟨gi X.C.T X.d,X.hd⟩
noncomputable def Cx.sx (X:Cx):Sx:=⟨X.C.fnm,X.C.att,X.C.key,X.C.gls,X.sc,X.Γ,X.lm⟩
def wb (env:Env) (fs:List Fm) (x:Str) (v:Value):Prop:=
 (env.kindOf x=some .local∧∃ f∈fs,f.L=env.locals∧f.m x=some v)∨
 ((env.kindOf x=some .cell∨env.kindOf x=some .free)∧∃ c,env.cells.lookup x=some c∧∃ f∈fs,c∈f.cells∧f.cv c=some v)
structure EnvOK (X:Cx) (P:Pt) (ρ:Rho):Prop where
 frs:kq X.A P.fs
 ne:P.fs≠[]
 var:∀ x i p,X.Γ.lookup x=some i→kt X.env.scope x=true→ρ[i]? =some (some p)→∃ v,RV X.C P v p∧wb X.env P.fs x v
theorem EnvOK.ext {X:Cx} {P P':Pt} {ρ:Rho} (h:EnvOK X P ρ) (g:Grow P P'):EnvOK X P' ρ:=
 ⟨g.fs ▸ h.frs,g.fs ▸ h.ne,fun x i p a b c=>by
  obtain ⟨v,r,l⟩:=h.var x i p a b c;exact ⟨v,r.ext g.toExt,g.fs ▸ l⟩⟩
abbrev aV {α β:Type} (X:Cx) (Rel:Pt→β→α→Prop) (P:Pt) (K:R α→Sto→Prop) (Q:β→Shared→Prop) (E:Value→Shared→Prop):Prop:=Post X.C X.A Rel P K Q E
structure CE where
 ev:Ker→Rho→PM PV
 is:Sx→Expr→Bool
 ok:∀ (X:Cx) (e:Expr) (ρ:Rho) (P:Pt) (K:R PV→Sto→Prop) (Q E:Value→Shared→Prop),is X.sx e=true→Inv X.C P→EnvOK X P ρ→Wp K (ev X.ker ρ P.σ)→aV X (RV X.C) P K Q E→wpAny X.M X.A (eval e X.env) Q E P.s
structure CT where
 ts:Ker→Rho→PM Bool
 is:Sx→Expr→Bool
 ok:∀ (X:Cx) (e:Expr) (ρ:Rho) (P:Pt) (K:R Bool→Sto→Prop) (Q:Bool→Shared→Prop) (E:Value→Shared→Prop),is X.sx e=true→Inv X.C P→EnvOK X P ρ→Wp K (ts X.ker ρ P.σ)→aV X kH P K Q E→wpAny X.M X.A (isTrue e X.env (eval e X.env)) Q E P.s
structure CL where
 ev:Ker→Rho→PM (List PV)
 is:Sx→List Expr→Bool
 star:∀ sx es env pos,is sx es=true→∀ x∈backTo pos (starEach es env),x.1=false
 ok:∀ (X:Cx) (es:List Expr) (pos:Pos) (ρ:Rho) (P:Pt) (K:R (List PV)→Sto→Prop) (Q:List Value→Shared→Prop) (E:Value→Shared→Prop),is X.sx es=true→Inv X.C P→EnvOK X P ρ→Wp K (ev X.ker ρ P.σ)→aV X (F_ X.C) P K Q E→
  wpAny X.M X.A (spliced (backTo pos (starEach es X.env))) Q E P.s
section
variable {α β:Type} {C:Cfg} {A:Around} {P P':Pt} {Q E:Value→Shared→Prop}
theorem Post.here {Rel:Pt→β→α→Prop} {K:R α→Sto→Prop} {Q:β→Shared→Prop} {v:β} {p:α} (h:Post C A Rel P K Q E) (I:Inv C P) (r:Rel P v p) (k:K (.ok p) P.σ):Q v P.s:=h.ok p v P (.refl P) I r k
def Fin (C:Cfg) (P:Pt) (z:D) (Q:Value→Shared→Prop):Prop:=∀ w P',Grow P P'→Inv C P'→RD C P'.own z w→P'.σ=P.σ→Q w P'.s
theorem Fin.grown {z:D} {v:Value} {h':Heap} (k:Fin C P z Q) (I:Inv C P) (kp:∀ b o,P.h.get? b=some o→h'.get? b=some o) (r:RD C P.own z v) (t:Nat):Q v {P.s with heap:=h',toks:=t}:=k v (P.to h' t) (.to P h' t) (I.to kp) r rfl
theorem Fin.tok {z:D} {v:Value} (k:Fin C P z Q) (I:Inv C P) (r:RD C P.own z v) (t:Nat):Q v {P.s with toks:=t}:=k.grown I (fun _ _ e=>e) r t
theorem Fin.here {z:D} {v:Value} (k:Fin C P z Q) (I:Inv C P) (r:RD C P.own z v):Q v P.s:=k v P (.refl P) I r rfl
theorem Fin.note {z:D} {h':Heap} {a:Addr} {o:Obj} (k:Fin C P z Q) (I:Inv C P) (n:New C P h' a o) (t:Nat) (r:RD C (upd P.own a (.fz o)) z (.ref a)):Q (.ref a) {P.s with heap:=h',toks:=t}:=k _ (P.note h' t a o) (.note n.own) (I.note n) r rfl
theorem Post.fin {K:R PV→Sto→Prop} {z:D} (h:Post C A (RV C) P K Q E) (k:K (.ok (.d z)) P.σ):Fin C P z Q:=fun w P' g I r e=>h.ok (.d z) w P' g I r (e ▸ k)
inductive LstV (C:Cfg) (P:Pt) (l:List D):Value→Prop
 |mk {a:Addr} {vs:List Value} {n:Rst}:P.h.get? a=some (pv vs n)→P.own a≠ .no→RDs C P.own l vs→LstV C P l (.ref a)
inductive DicV (C:Cfg) (P:Pt) (ks ps:List D):Value→Prop
 |mk {a:Addr} {o:Obj} {vs:List Value}:P.h.get? a=some o→P.own a≠ .no→DictAs C P.own o ks vs→RDs C P.own ps vs→DicV C P ks ps (.ref a)
def Now (C:Cfg) (P:Pt) (v:Value):D→Prop
 | .lst l=>LstV C P l v
 | .dct ks ps=>DicV C P ks ps v
 |x=>RD C P.own x v
theorem hV (I:Inv C P) {v:Value}:∀ {x:D},RD C P.own x v→Now C P v x
 | .lst l,r=>by
  obtain ⟨e,r'⟩:SeqV C P.own pv l v:=r.view;exact .mk (I.fz _ _ e) (by rw[e];nofun) r'
 | .dct ks ps,r=>by
  obtain ⟨e,d,r'⟩:DctV C P.own ks ps v:=r.view;exact .mk (I.fz _ _ e) (by rw[e];nofun) d r'
 | .none,r=>r
 | .bool _,r=>r
 | .int _,r=>r
 | .str _,r=>r
 | .tup _,r=>r
 | .rng _ _ _,r=>r
 | .exc _,r=>r
theorem FA.at {w:a'} {h:Heap} {n i:Nat} {v:Value}:∀ {f:Fld},FA C w h n i v f→(∀ x,f≠ .d x)→FOb C w h n (i+2) f v
 | .d _,_,hf=>absurd rfl (hf _)
 | .list _,r,_=>r
 | .dict _ _,r,_=>r
theorem FOb.to {w:a'} {h:Heap} {n j:Nat} {f:Fld} {v v':Value} (k:∀ a,w a= .cell n j→v'= .ref a):FOb C w h n j f v→FOb C w h n j f v'
 |⟨a,b,c⟩=>k _ a ▸ ⟨a,b,c⟩
theorem Cd {w:a'} {h:Heap} {n:Nat} {f:Fld}:∀ {o:PO} {j:Nat},RO C w h n o→o.at j=some f→(∀ x,f≠ .d x)→∃ v,FOb C w h n j f v
 | .fld _,0,r,e,_=>by cases e;exact r
 | .fld _,_+1,_,e,_=>nomatch (show (none:Option Fld)=some f from e)
 | .rcd _ _,0,_,e,_=>nomatch (show (none:Option Fld)=some f from e)
 | .rcd _ _,1,_,e,_=>nomatch (show (none:Option Fld)=some f from e)
 | .dead,_,_,e,_=>nomatch (show (none:Option Fld)=some f from e)
 | .wrp _,0,_,e,_=>nomatch (show (none:Option Fld)=some f from e)
 | .wrp _,1,_,e,_=>nomatch (show (none:Option Fld)=some f from e)
 | .wrp _,_+3,_,e,_=>nomatch (show (none:Option Fld)=some f from e)
 | .wrp _,2,⟨_,_,_,v,_,_,_,r⟩,e,_=>by cases e;exact ⟨v,r⟩
 | .rcd true l,j+2,r,e,hf=>by
  obtain ⟨_,_,_,_,_,h6,_,h8⟩:OInst C w h n l:=r;have e:l[j]? =some f:=e;have q:=(Kg.mp e).1;rw[←h6] at q;exact ⟨_,(h8 j f _ e (Kh q)).at hf⟩
 | .rcd false l,j+2,r,e,hf=>by
  obtain ⟨_,_,_,h4,_,_,h8⟩:ORcd C w h n l:=r;have e:l[j]? =some f:=e;have q:=(Kg.mp e).1;rw[←h4] at q;exact ⟨_,(h8 j f _ e (Kh q)).at hf⟩
theorem kh (I:Inv C P) {v:Value} {n j:Nat} {f:Fld} (r:RV C P v (.p n j)) (e:a8 P.σ n j=some f) (hf:∀ x,f≠ .d x):FOb C P.own P.h n j f v:=by
 obtain ⟨o,e1,e2⟩:=Option.bind_eq_some_iff.mp e;obtain ⟨_,q⟩:=Cd (I.obj n o e1) e2 hf;exact q.to r.2
theorem fX:∀ {f:Fld} {x:D},f.rd=some x→f.toD=x∧∀ x,f≠ .d x
 | .list _,_,e=>by cases e;exact ⟨rfl,nofun⟩
 | .dict _ _,_,e=>by cases e;exact ⟨rfl,nofun⟩
theorem AW {n j:Nat} {v:Value}:∀ {f:Fld},FOb C P.own P.h n j f v→Now C P v f.toD
 | .d _,⟨_,_,h⟩=>h.elim
 | .list _,⟨h1,h2,h3⟩=>by
  obtain ⟨vs,k,rfl,h3⟩:=h3;exact .mk (n:=⟨k,none,#[]⟩) h2 (by rw[h1];nofun) h3
 | .dict _ _,⟨h1,h2,h3⟩=>by
  obtain ⟨vs,h3,h4⟩:=h3;exact .mk h2 (by rw[h1];nofun) h3 h4
theorem bh (I:Inv C P) {v:Value} {x:D}:∀ {p:PV},RV C P v p→rd P.σ p=some x→Now C P v x
 | .d y,r,e=>by cases e;exact hV I r
 | .p n j,r,e=>by
  obtain ⟨f,e1,e2⟩:=Option.bind_eq_some_iff.mp e;exact (fX e2).1 ▸ AW (kh I r e1 (fX e2).2)
theorem n6 {α:Type}:∀ {o:Option (Option α)} {a:α},o.join=some a→o=some (some a)
 |some (some _),_,e=>by cases e;rfl
end
section
variable {X:Cx} {e:Expr} {ρ:Rho} {P:Pt} {K:R PV→Sto→Prop} {Q E:Value→Shared→Prop}
theorem Dx (i:Nat) (h:cE (fun x _=>X.sx.Γ.lookup x==some i&&kt X.sx.sc x&& !(x==("__debug__":Str))&& !(x==("__classdict__":Str))) e=true) (I:Inv X.C P) (G:EnvOK X P ρ) (w:Wp K (opt ((ρ[i]?).join) P.σ)) (p:aV X (RV X.C) P K Q E):
  wpAny X.M X.A (eval e X.env) Q E P.s:=by
 refine bM (fun e=>wpAny X.M X.A (eval e X.env) Q E P.s) h fun x pos h=> ?_;obtain ⟨q,e1,k⟩:=fk w;obtain ⟨v,r,l⟩:=G.var x i q (bg (ag (ag (ag h)))) ((X.kinds x).1 (aj (ag (ag h)))) (n6 e1);have done:Q v P.s:=p.here I r k;have n1:=(Bool.not_eq_true' _).mp (aj (ag h));rcases l with ⟨hk,f,hf,hL,hm⟩|⟨hk,c,hc,f,hf,hcf,hcv⟩
 ·exact wpAny_Name (wpAny_loadName_local X.kind hk (hL ▸ (I.fr.ns f hf).1) hm done) n1
 ·have hcell:=(I.fr.cl f hf c hcf).1;rw[hcv] at hcell;rcases hk with hk|hk
  ·exact wpAny_Name (wpAny_loadName_cell X.kind hk hc hcell done) n1
  ·exact wpAny_Name (wpAny_loadName_free X.kind hk hc hcell done ((Bool.not_eq_true' _).mp (aj h))) n1
theorem zR (h:bR (fun c _ _=>BY c) e=true) (I:Inv X.C P) (w:Wp K (ret (.d .none) P.σ)) (p:aV X (RV X.C) P K Q E):wpAny X.M X.A (eval e X.env) Q E P.s:=
 cq (fun e=>wpAny X.M X.A (eval e X.env) Q E P.s) h fun c k pos h=>xj (fun c=>wpAny X.M X.A (eval (.Constant c k pos) X.env) Q E P.s) h (wpAny_Constant_none ((p.fin w).here I .none))
theorem zX (b:Bool) (h:bR (fun c _ _=>B0 (fun c=>b==c) c) e=true) (I:Inv X.C P) (w:Wp K (ret (.d (.bool b)) P.σ)) (p:aV X (RV X.C) P K Q E):wpAny X.M X.A (eval e X.env) Q E P.s:=
 cq (fun e=>wpAny X.M X.A (eval e X.env) Q E P.s) h fun c k pos h=>xl (fun c=>wpAny X.M X.A (eval (.Constant c k pos) X.env) Q E P.s) h fun c h=>wpAny_Constant_bool ((p.fin w).here I (bg h ▸ .bool b))
theorem BR (i:Int) (h:bR (fun c _ _=>BZ (fun j=>i==j) c) e=true) (I:Inv X.C P) (w:Wp K (ret (.d (.int i)) P.σ)) (p:aV X (RV X.C) P K Q E):wpAny X.M X.A (eval e X.env) Q E P.s:=
 cq (fun e=>wpAny X.M X.A (eval e X.env) Q E P.s) h fun c k pos h=>xk (fun c=>wpAny X.M X.A (eval (.Constant c k pos) X.env) Q E P.s) h fun j h=>wpAny_Constant_int ((p.fin w).tok I (bg h ▸ .int i _) _)
theorem s_ {C:Cfg} {w:a'} {x:Str} {s:List Nat} (h:x.cps.toList=s) (k:okS s) (t:Tok):RD C w (.str s) (.str x t):=by
 obtain ⟨⟨l⟩⟩:=x;subst h;exact .str _ t k
noncomputable def okB (s:List Nat):Bool:=s.all (· <0x110000)&&decide (s.length≤1000)
theorem yB {s:List Nat} (h:okB s=true):okS s:=⟨fun c hc=>KX (List.all_eq_true.mp (ag h) c hc),Km (KX (aj h)) (by decide)⟩
theorem BL (s:List Nat) (h:bR (fun c _ _=>Ai (fun x=>x.cps.toList==s&&okB s) c) e=true) (I:Inv X.C P) (w:Wp K (ret (.d (.str s)) P.σ)) (p:aV X (RV X.C) P K Q E):wpAny X.M X.A (eval e X.env) Q E P.s:=
 cq (fun e=>wpAny X.M X.A (eval e X.env) Q E P.s) h fun c k pos h=>oB (fun c=>wpAny X.M X.A (eval (.Constant c k pos) X.env) Q E P.s) h fun x h=>wpAny_Constant_str ((p.fin w).tok I (s_ (bg (ag h)) (yB (aj h)) _) _)
theorem c7 {x:Str} {v:Value} {pos:Pos} (I:Inv X.C P) (hw:dg X.sc x=true) (hv:X.C.mg x=some v) (h:Q v P.s):wpAny X.M X.A (eval (.Name x pos) X.env) Q E P.s:=
 Calls.Name_function_global X.kind ((X.kinds x).2.1 hw) (Calls.loadGlobal_global (mg:=X.C.mg) (X.glob ▸ X.good.g.keeps fun b o e=>(I.base b o e).1) hv h) ((Bool.not_eq_true' _).mp (aj hw))
theorem dQ {x:Str} {v:Value} {pos:Pos} (I:Inv X.C P) (hw:dg X.sc x=true) (hb:(x,v)∈biNames) (h:Q v P.s):wpAny X.M X.A (eval (.Name x pos) X.env) Q E P.s:=
 Calls.Name_function_global X.kind ((X.kinds x).2.1 hw) (Calls.loadGlobal_builtin (mg:=X.C.mg) (mb:=X.C.mb) (X.glob ▸ X.good.g.keeps fun b o e=>(I.base b o e).1) (X.good.bi _ hb).1 (X.blt ▸ X.good.b.keeps fun b o e=>(I.base b o e).1) (X.good.bi _ hb).2 h) ((Bool.not_eq_true' _).mp (aj hw))
noncomputable def glD:Option Int×List Nat→D
 |(some i,_)=>.int i
 |(none,s)=>.str s
theorem FL {C:Cfg} {w:a'} {v:Value}:∀ {q:Option Int×List Nat},DU v q→RD C w (glD q) v
 |(some i,_),⟨t,e⟩=>e ▸ .int i t
 |(none,s),⟨h,t,e⟩=>e ▸ .str s t h
theorem DT (x:Str) (q:Option Int×List Nat) (h:cE (fun y _=>y==x&&dg X.sx.sc x&&X.sx.gls.lookup x==some q) e=true) (I:Inv X.C P) (w:Wp K (ret (.d (glD q)) P.σ)) (p:aV X (RV X.C) P K Q E):wpAny X.M X.A (eval e X.env) Q E P.s:=by
 refine bM (fun e=>wpAny X.M X.A (eval e X.env) Q E P.s) h fun y pos h=> ?_;obtain ⟨v,hv,hg⟩:=X.good.gl x q (bg (aj h));rw[bg (ag (ag h))];exact c7 I (aj (ag h)) hv ((p.fin w).here I (FL hg))
end
noncomputable def loc (i:Nat):CE:=⟨fun _ ρ=>opt ((ρ[i]?).join),fun x=>cE fun y _=>x.Γ.lookup y==some i&&kt x.sc y&& !(y==("__debug__":Str))&& !(y==("__classdict__":Str)),fun _ _ _ _ _ _ _ h I G w p=>Dx i h I G w p⟩
noncomputable def eH:CE:=⟨fun _ _=>ret (.d .none),fun _=>bR fun c _ _=>BY c,fun _ _ _ _ _ _ _ h I _ w p=>zR h I w p⟩
noncomputable def dz (b:Bool):CE:=⟨fun _ _=>ret (.d (.bool b)),fun _=>bR fun c _ _=>B0 (fun c=>b==c) c,fun _ _ _ _ _ _ _ h I _ w p=>zX b h I w p⟩
noncomputable def ah (i:Int):CE:=⟨fun _ _=>ret (.d (.int i)),fun _=>bR fun c _ _=>BZ (fun j=>i==j) c,fun _ _ _ _ _ _ _ h I _ w p=>BR i h I w p⟩
noncomputable def aU (s:List Nat):CE:=⟨fun _ _=>ret (.d (.str s)),fun _=>bR fun c _ _=>Ai (fun x=>x.cps.toList==s&&okB s) c,fun _ _ _ _ _ _ _ h I _ w p=>BL s h I w p⟩
noncomputable def glb (x:Str) (q:Option Int×List Nat):CE:=⟨fun _ _=>ret (.d (glD q)),fun c=>cE fun y _=>y==x&&dg c.sc x&&c.gls.lookup x==some q,fun _ _ _ _ _ _ _ h I _ w p=>DT x q h I w p⟩
section
variable {C:Cfg} {A:Around} {P:Pt} {Q E:Value→Shared→Prop}
theorem cZ {v:D} {j:Int} {y:Value} (e:iD v=some j) (h:Now C P y v):∃ t,y= .int j t:=by
 cases v<;>first|(cases e;exact RD.view h)|cases e
theorem jo {v:D} {s:List Nat} {y:Value} (e:sD v=some s) (h:Now C P y v):okS s∧∃ t,y= .str (ofL s) t:=by
 cases v<;>first|(cases e;exact RD.view h)|cases e
theorem Eh {v:D} {b:Bool} {y:Value} (e:bD v=some b) (h:Now C P y v):y= .bool b:=by
 cases v<;>first|(cases e;exact RD.view h)|cases e
theorem CW {v:D} {l:List D} {y:Value} (e:tD v=some l) (h:Now C P y v):SeqV C P.own bN l y:=by
 cases v<;>first|(cases e;exact RD.view h)|cases e
theorem fA {v:D} {l:List D} {y:Value} (e:lD v=some l) (h:Now C P y v):LstV C P l y:=by
 cases v<;>first|(cases e;exact h)|cases e
theorem grd {α:Type} {c:Prop} [Decidable c] {a x:α} (h:al c a=some x):c∧a=x:=by
 unfold al at h;by_cases k:c
 ·rw[if_pos k] at h;exact ⟨k,K4 h⟩
 ·rw[if_neg k] at h;cases h
theorem bind_some {α β:Type} {f:α→Option β} {b:β}:∀ {o:Option α},o.bind f=some b→∃ a,o=some a∧f a=some b
 |some a,h=>⟨a,rfl,h⟩
theorem map_some {α β:Type} {f:α→β} {b:β}:∀ {o:Option α},o.map f=some b→∃ a,o=some a∧f a=b
 |some a,h=>⟨a,rfl,K4 h⟩
theorem Dq {a b:Int} (h:eY a b=true):IntMulOk a b:=by
 simp only [eY,Bool.or_eq_true,decide_eq_true_eq] at h;rcases h with (h|h)|h
 ·exact .of_left (intBits_le_64 (E3 h) (E2 h))
 ·exact .of_right (intBits_le_64 (E3 h) (E2 h))
 ·unfold IntMulOk Builtin.Int.intTooBig;simp only [Bool.and_eq_true,decide_eq_true_eq,not_and,and_imp];intro _ _ q;have h1:Builtin.Int.intBits a≤a.natAbs.log2+1:=by unfold Builtin.Int.intBits;split<;>omega
  have h2:Builtin.Int.intBits b≤b.natAbs.log2+1:=by unfold Builtin.Int.intBits;split<;>omega
  simp only [bitsLine] at q;exact Hp h q h1 h2
theorem uD {a b:Int} (h:gg b=true):b≠0∧Builtin.divisionGoesByPylong a b=false:=by
 simp only [gg,Bool.and_eq_true,bne_iff_ne,ne_eq,decide_eq_true_eq] at h;refine ⟨h.1,?_⟩;unfold Builtin.divisionGoesByPylong;have hb:b.natAbs.log2<9000:=by
  have:b.natAbs≠0:=by have:=h.1;exact Int.natAbs_ne_zero.mpr this
  exact (Nat.log2_lt this).mpr h.2
 have h0:(b==0)=false:=by simpa using h.1
 simp only [h0,Bool.and_eq_false_iff,decide_eq_false_iff_not]
 left
 simp only [Bool.false_eq_true,if_false];exact Lf.mpr (Nat.succ_le_of_lt ((Nat.div_lt_iff_lt_mul (by decide)).mpr hb))
structure BO where
 op:Operator
 g:D→D→Option D
 ok:∀ {C:Cfg} {A:Around} {P:Pt} {u v z:D} {x y:Value} {Q E:Value→Shared→Prop},Inv C P→Now C P x u→Now C P y v→g u v=some z→Fin C P z Q→wpAny C.M A (binaryOp op x y) Q E P.s
noncomputable def n8 (f:Int→Int→Option Int) (u v:D):Option D:=(iD u).bind fun a=>(iD v).bind fun b=>(f a b).map .int
theorem fe {f:Int→Int→Option Int} {u v z:D} {x y:Value} (h:n8 f u v=some z) (hu:Now C P x u) (hv:Now C P y v):∃ a b c t s,x= .int a t∧y= .int b s∧f a b=some c∧z= .int c:=by
 obtain ⟨a,e1,h⟩:=bind_some h;obtain ⟨b,e2,h⟩:=bind_some h;obtain ⟨c,e3,h⟩:=map_some h;obtain ⟨t,e4⟩:=cZ e1 hu;obtain ⟨s,e5⟩:=cZ e2 hv;exact ⟨a,b,c,t,s,e4,e5,e3,h.symm⟩
noncomputable def cD:BO:=⟨.Sub,n8 fun a b=>some (a - b),fun I hu hv e k=>by
 obtain ⟨a,b,c,t,s,rfl,rfl,e',rfl⟩:=fe e hu hv;cases e';exact sub_int (k.tok I (.int _ _) _)⟩
noncomputable def oMod:BO:=⟨.Mod,n8 fun a b=>al (gg b=true) (a.fmod b),fun I hu hv e k=>by
 obtain ⟨a,b,c,t,s,rfl,rfl,e',rfl⟩:=fe e hu hv;obtain ⟨hm,rfl⟩:=grd e';exact mod_int' (uD (a:=0) hm).1 (k.tok I (.int _ _) _)⟩
noncomputable def oDiv:BO:=⟨.FloorDiv,n8 fun a b=>al (gg b=true) (a.fdiv b),fun I hu hv e k=>by
 obtain ⟨a,b,c,t,s,rfl,rfl,e',rfl⟩:=fe e hu hv;obtain ⟨hm,rfl⟩:=grd e';exact floordiv_int (uD (a:=0) hm).1 (k.tok I (.int _ _) _) (.inl (uD hm).2)⟩
noncomputable def oPow:BO:=⟨.Pow,n8 fun a b=>al (0≤b∧b≤1000∧0≤a∧a≤1000) (a^b.toNat),fun I hu hv e k=>by
 obtain ⟨a,b,c,t,s,rfl,rfl,e',rfl⟩:=fe e hu hv;obtain ⟨hm,rfl⟩:=grd e';exact pow_int_small hm.1 (by exact KO hm.2.1 (by decide)) (by exact nA hm.2.2.1 (KQ hm.2.2.2 (by decide))) (k.tok I (.int _ _) _)⟩
noncomputable def oMul:BO:=⟨.Mult,n8 fun a b=>al (eY a b=true) (a*b),fun I hu hv e k=>by
 obtain ⟨a,b,c,t,s,rfl,rfl,e',rfl⟩:=fe e hu hv;obtain ⟨hm,rfl⟩:=grd e';exact mul_int (k.tok I (.int _ _) _) (Dq hm)⟩
noncomputable def F6 (u v:D):Option D:=match u with
 | .int a=>(iD v).map fun b=>.int (a+b)
 | .str a=>(sD v).bind fun b=>al (a.length+b.length≤lim) (.str (a++b))
 | .tup a=>(tD v).bind fun b=>al (a.length+b.length≤lim) (.tup (a++b))
 | .lst a=>(lD v).bind fun b=>al (a.length+b.length≤lim) (.lst (a++b))
 |_=>none
theorem Inv.newTup (I:Inv C P) (vs:List Value) (n:Nat):New C P (P.h.push (bN vs n)) P.h.objs.size (bN vs n):=I.push rfl
theorem oU (I:Inv C P) {vs:List Value} {n:Nat} {l:List D} {o:Obj} {a:Addr} (e:P.own a= .no) (r:RDs C P.own l vs) (ho:o=bN vs n):RD C (upd P.own a (.fz o)) (.tup l) (.ref a):=.tup (by rw[bn,ho]) (r.ext (dp e))
theorem fW (I:Inv C P) {vs:List Value} {n:Nat} {l:List D} {o:Obj} {a:Addr} (e:P.own a= .no) (r:RDs C P.own l vs) (ho:o=aE vs n):RD C (upd P.own a (.fz o)) (.lst l) (.ref a):=.lst (n:=⟨n,none,#[]⟩) (by rw[bn,ho]) (r.ext (dp e))
theorem B4 {x y:List D} {u v:Value} (I:Inv C P) (hu:SeqV C P.own bN x u) (hv:SeqV C P.own bN y v) (hm:x.length+y.length≤lim) (k:Fin C P (.tup (x++y)) Q):wpAny C.M A (binaryOp .Add u v) Q E P.s:=by
 obtain @⟨a1,vs1,n1,o1,r1⟩:=hu;obtain @⟨a2,vs2,n2,o2,r2⟩:=hv;have l1:=r1.length;have l2:=r2.length;have g1:=I.fz _ _ o1;have g2:=I.fz _ _ o2;by_cases hv:vs1=[]
 ·subst hv;obtain rfl:x=[]:=List.eq_nil_of_length_eq_zero l1.symm;exact concat_meets ⟨_,g1,rfl⟩ ⟨_,g2,rfl⟩ noFill_tuple_add seq_tuple_add PySem.F.slot_tuple_add PySem.F.entry_tuple_add (PySem.F.args_tuple_add_2 _ _)
   (tuple_addW0 a1 a2 _ _ n1 n2 none none #[] #[] (by simp)) ⟨g1,g2,k.here I (.tup o2 r2)⟩
 ·by_cases hw:vs2=[]
  ·subst hw;obtain rfl:y=[]:=List.eq_nil_of_length_eq_zero l2.symm;exact concat_meets ⟨_,g1,rfl⟩ ⟨_,g2,rfl⟩ noFill_tuple_add seq_tuple_add PySem.F.slot_tuple_add PySem.F.entry_tuple_add (PySem.F.args_tuple_add_2 _ _)
    (tuple_addW1 a1 a2 _ _ n1 n2 none none #[] #[] (by simpa using hv) (by simp)) ⟨g1,g2,k.here I (by rw[List.append_nil];exact .tup o1 r1)⟩
  ·refine concat_meets ⟨_,g1,rfl⟩ ⟨_,g2,rfl⟩ noFill_tuple_add seq_tuple_add PySem.F.slot_tuple_add PySem.F.entry_tuple_add (PySem.F.args_tuple_add_2 _ _)
    (tuple_addW2 a1 a2 _ _ n1 n2 none none #[] #[] (by simpa using hv) (by simpa using hw) (by simpa [sizeLine,lim,l1,l2] using hm)) ⟨g1,g2,?_⟩
   have:=k.note I (I.newTup (vs1++vs2) 0) P.s.toks (oU I (I.off (Ko _)) (r1.append r2) rfl)
   simpa using this
theorem v9 {s:Shared} {l b:Addr} {vs ws:List Value} {n m:Rst} (hl:s.heap.get? l=some (pv vs n)) (hb:s.heap.get? b=some (pv ws m)) (h:Q (.ref s.heap.objs.size) {s with heap:=s.heap.push {cls:=.type "list",data:=.seq (vs.toArray++ws.toArray)}}) (hsz:vs.toArray.size+ws.toArray.size≤sizeLine):wpAny C.M A (binaryOp .Add (.ref l) (.ref b)) Q E s:=
 concat_meets ⟨_,hl,rfl⟩ ⟨_,hb,rfl⟩ noFill_list_add seq_list_add PySem.F.slot_list_add PySem.F.entry_list_add (PySem.F.args_list_add_2 _ _) (list_addW l b vs.toArray ws.toArray n.n m.n n.d m.d n.sl m.sl hsz) ⟨hl,hb,h⟩
theorem B5 {x y:List D} {u v:Value} (I:Inv C P) (hu:LstV C P x u) (hv:LstV C P y v) (hm:x.length+y.length≤lim) (k:Fin C P (.lst (x++y)) Q):wpAny C.M A (binaryOp .Add u v) Q E P.s:=by
 obtain @⟨a1,vs1,n1,g1,_,r1⟩:=hu;obtain @⟨a2,vs2,n2,g2,_,r2⟩:=hv;refine v9 g1 g2 ?_ (by simpa [sizeLine,lim,r1.length,r2.length] using hm);have:=k.note I (I.push (o:=aE (vs1++vs2) 0) rfl) P.s.toks (fW I (I.off (Ko _)) (r1.append r2) rfl)
 simpa using this
theorem Ep (I:Inv C P):∀ {u v z:D} {x y:Value},Now C P x u→Now C P y v→F6 u v=some z→Fin C P z Q→wpAny C.M A (binaryOp .Add x y) Q E P.s
 | .int a,v,z,x,y,hu,hv,e,k=>by
  obtain ⟨b,e1,rfl⟩:=map_some e;obtain ⟨t,rfl⟩:=RD.view hu;obtain ⟨s,rfl⟩:=cZ e1 hv;exact add_int (k.tok I (.int _ _) _)
 | .str a,v,z,x,y,hu,hv,e,k=>by
  obtain ⟨b,e1,e⟩:=bind_some e;obtain ⟨hm,rfl⟩:=grd e;obtain ⟨ha,t,rfl⟩:=RD.view hu;obtain ⟨hb,s,rfl⟩:=jo e1 hv;refine add_str (fun t' tk=>k.tok I ?_ _) (by simpa [Str.length,sizeLine,lim] using hm);exact s_ (by rw[Str.cps_append];simp) ⟨fun c hc=>(Kv.mp hc).elim (ha.1 c) (hb.1 c),by simpa using hm⟩ _
 | .tup a,v,z,x,y,hu,hv,e,k=>by
  obtain ⟨b,e1,e⟩:=bind_some e;obtain ⟨hm,rfl⟩:=grd e;exact B4 I (RD.view hu) (CW e1 hv) hm k
 | .lst a,v,z,x,y,hu,hv,e,k=>by
  obtain ⟨b,e1,e⟩:=bind_some e;obtain ⟨hm,rfl⟩:=grd e;exact B5 I hu (fA e1 hv) hm k
 | .none,_,_,_,_,_,_,e,_=>nomatch e
 | .bool _,_,_,_,_,_,_,e,_=>nomatch e
 | .dct _ _,_,_,_,_,_,_,e,_=>nomatch e
 | .rng _ _ _,_,_,_,_,_,_,e,_=>nomatch e
 | .exc _,_,_,_,_,_,_,e,_=>nomatch e
noncomputable def oAdd:BO:=⟨.Add,F6,fun I hu hv e k=>Ep I hu hv e k⟩
noncomputable def op2 (g:D→D→Option D) (x y:PV):PM PV:=fun σ=>(rd σ x).bind fun u=>(rd σ y).bind fun v=>(g u v).map fun z=>(.ok (.d z),σ)
theorem xp {K:R PV→Sto→Prop} {g:D→D→Option D} {x y:PV} {σ:Sto} (h:Wp K (op2 g x y σ)):∃ u v z,rd σ x=some u∧rd σ y=some v∧g u v=some z∧K (.ok (.d z)) σ:=by
 unfold op2 at h;cases e1:rd σ x with
 |none=>rw[e1] at h;exact h.elim
 |some u=>
 cases e2:rd σ y with
 |none=>rw[e1,e2] at h;exact h.elim
 |some v=>
 cases e3:g u v with
 |none=>rw[e1,e2,Ka,Ka,e3] at h;exact h.elim
 |some z=>rw[e1,e2,Ka,Ka,e3] at h;exact ⟨u,v,z,rfl,rfl,e3,h⟩
end
section
variable {X:Cx} {e:Expr} {ρ:Rho} {P:Pt} {K:R PV→Sto→Prop} {Q E:Value→Shared→Prop}
theorem Ed (o:BO) (a b:CE) (h:jf (fun l op r _=>op==o.op&&a.is X.sx l&&b.is X.sx r) e=true) (I:Inv X.C P) (G:EnvOK X P ρ) (w:Wp K (bnd (a.ev X.ker ρ) (fun x=>bnd (b.ev X.ker ρ) fun y=>op2 o.g x y) P.σ)) (p:aV X (RV X.C) P K Q E):
  wpAny X.M X.A (eval e X.env) Q E P.s:=
 je (fun e=>wpAny X.M X.A (eval e X.env) Q E P.s) h fun l op r pos h=>wpAny_BinOp (a.ok X l ρ P _ _ E (aj (ag h)) I G (aC w) (p.bind fun x v P1 g1 I1 r1 w p=>
  b.ok X r ρ P1 _ _ E (aj h) I1 (G.ext g1) (aC w) (p.bind fun y u P2 g2 I2 r2 w p=>by
   obtain ⟨i,j,z,e1,e2,e3,k⟩:=xp w;rw[bg (ag (ag h))];exact o.ok I2 (bh I2 (r1.ext g2.toExt) e1) (bh I2 r2 e2) e3 (p.fin k))))
end
noncomputable def bin (o:BO) (a b:CE):CE:=⟨fun K ρ=>bnd (a.ev K ρ) fun x=>bnd (b.ev K ρ) fun y=>op2 o.g x y,fun s=>jf fun l op r _=>op==o.op&&a.is s l&&b.is s r,fun _ _ _ _ _ _ _ h I G w p=>Ed o a b h I G w p⟩
noncomputable def plF (p:D→Bool):D→Bool
 | .none=>true
 | .int _=>true
 | .str _=>true
 | .tup l=>l.all p
 | .lst l=>l.all p
 |_=>false
noncomputable def pl:Nat→D→Bool
 |0=>plF fun _=>false
 |n+1=>plF (pl n)
noncomputable def pyF (f:D→PyData):D→PyData
 | .none=>.none
 | .int i=>.int i
 | .str s=>.str (ofL s)
 | .tup l=>.tuple (l.map f)
 | .lst l=>.list (l.map f)
 |_=>.dict []
noncomputable def py:Nat→D→PyData
 |0=>pyF fun _=>.none
 |n+1=>pyF (py n)
theorem ig {f:D→PyData} {p:D→Bool} (ih:∀ x y,p x=true→p y=true→(PyData.eqv (f x) (f y)=true↔x=y)):∀ l m:List D,l.all p=true→m.all p=true→(PyData.eqvAll (l.map f) (m.map f)=true↔l=m)
 |[],[],_,_=>⟨fun _=>rfl,fun _=>by simp [PyData.eqvAll]⟩
 |[],_::_,_,_=>⟨fun h=>by simp [PyData.eqvAll] at h,nofun⟩
 |_::_,[],_,_=>⟨fun h=>by simp [PyData.eqvAll] at h,nofun⟩
 |x::l,y::m,h1,h2=>by
  have q:=ih x y (ag h1) (ag h2);have r:=ig ih l m (aj h1) (aj h2);rw[List.map_cons,List.map_cons,PyData.eqvAll,Bool.and_eq_true,q,r,List.cons.injEq]
theorem yC (a b:List Nat):(ofL a==ofL b)=true↔a=b:=by
 rw[beq_iff_eq];exact ⟨fun h=>congrArg Array.toList (congrArg Str.cps h),fun h=>by rw[h]⟩
inductive PlV (p:D→Bool):D→Prop
 |none:PlV p .none
 |int (i:Int):PlV p (.int i)
 |str (s:List Nat):PlV p (.str s)
 |tup (l:List D):l.all p=true→PlV p (.tup l)
 |lst (l:List D):l.all p=true→PlV p (.lst l)
theorem gE {p:D→Bool}:∀ {x:D},plF p x=true→PlV p x
 | .none,_=>.none
 | .int i,_=>.int i
 | .str s,_=>.str s
 | .tup l,h=>.tup l h
 | .lst l,h=>.lst l h
 | .bool _,h=>absurd h KC
 | .dct _ _,h=>absurd h KC
 | .rng _ _ _,h=>absurd h KC
 | .exc _,h=>absurd h KC
theorem rY {f:D→PyData} {p:D→Bool} (ih:∀ x y,p x=true→p y=true→(PyData.eqv (f x) (f y)=true↔x=y)) {x y:D} (hx:PlV p x) (hy:PlV p y):PyData.eqv (pyF f x) (pyF f y)=true↔x=y:=by
 cases hx with
 |none=>cases hy<;>simp [pyF,PyData.eqv]
 |int i=>
  cases hy with
  |int j=>simp only [pyF,PyData.eqv,beq_iff_eq];exact ⟨fun h=>h ▸ rfl,fun h=>by injection h⟩
  |_=>simp [pyF,PyData.eqv]
 |str s=>
  cases hy with
  |str t=>simp only [pyF,PyData.eqv];exact (yC s t).trans ⟨fun h=>h ▸ rfl,fun h=>by injection h⟩
  |_=>simp [pyF,PyData.eqv]
 |tup l h=>
  cases hy with
  |tup m h'=>simp only [pyF,PyData.eqv];exact (ig ih l m h h').trans ⟨fun h=>h ▸ rfl,fun h=>by injection h⟩
  |_=>simp [pyF,PyData.eqv]
 |lst l h=>
  cases hy with
  |lst m h'=>simp only [pyF,PyData.eqv];exact (ig ih l m h h').trans ⟨fun h=>h ▸ rfl,fun h=>by injection h⟩
  |_=>simp [pyF,PyData.eqv]
theorem lf:∀ (n:Nat) (x y:D),pl n x=true→pl n y=true→(PyData.eqv (py n x) (py n y)=true↔x=y)
 |0,_,_,hx,hy=>rY (fun _ _ h=>absurd h KC) (gE hx) (gE hy)
 |n+1,_,_,hx,hy=>rY (lf n) (gE hx) (gE hy)
section
variable {C:Cfg} {A:Around} {P:Pt} {Q E:Value→Shared→Prop}
theorem lK {l:List Nat} (h:∀ c∈l,c<0x110000):PyData.strOk (ofL l)=true:=by
 simp only [PyData.strOk,List.all_toArray,List.all_eq_true,decide_eq_true_eq];exact h
inductive DataOK (h:Heap) (n:Nat) (v:Value) (d:PyData):Prop
 |mk (as:List Addr):Reads h v d as→d.canLay0=true→d.depth≤n→DataOK h n v d
inductive DatasOK (h:Heap) (n:Nat) (vs:List Value) (ds:List PyData):Prop
 |mk (as:List Addr):ReadsAll h vs ds as→PyData.canLayAll0 ds=true→PyData.depthAll ds≤n→DatasOK h n vs ds
theorem eG {h:Heap} {n:Nat} {f:D→PyData} {p:D→Bool} (ih:∀ x v,RD C P.own x v→p x=true→DataOK h n v (f x)):∀ {l:List D} {vs:List Value},RDs C P.own l vs→l.all p=true→DatasOK h n vs (l.map f)
 |[],vs,r,_=>by rw[show vs=[] from r.view];exact .mk _ .nil rfl (KI _)
 |x::l,vs,r,e=>by
  obtain ⟨r1,r2⟩:ConsV C P.own x l vs:=r.view;obtain ⟨as,a1,a2,a3⟩:=ih x _ r1 (ag e);obtain ⟨bs,b1,b2,b3⟩:=eG ih r2 (aj e);refine .mk _ (.cons a1 b1) ?_ ?_
  ·rw[List.map_cons,PyData.canLayAll0,a2,b2];rfl
  ·rw[List.map_cons,PyData.depthAll];exact Nat.max_le.mpr ⟨a3,b3⟩
theorem qM (I:Inv C P) {n:Nat} {f:D→PyData} {p:D→Bool} (ih:∀ x v,RD C P.own x v→p x=true→DataOK P.h n v (f x)) {x:D} {v:Value} (r:Now C P v x) (e:PlV p x):DataOK P.h (n+1) v (pyF f x):=by
 cases e with
 |none=>cases RD.view r;exact .mk _ .none rfl (KI _)
 |int i=>obtain ⟨t,rfl⟩:=RD.view r;exact .mk _ (.int _ _) rfl (KI _)
 |str s=>obtain ⟨hs,t,rfl⟩:=RD.view r;exact .mk _ (.str _ _) (lK hs.1) (KI _)
 |tup l h=>
  obtain ⟨o,s⟩:SeqV C P.own bN l v:=RD.view r;obtain ⟨as,a1,a2,a3⟩:=eG ih s h;exact .mk _ (reads_tuple_at (I.fz _ _ o) rfl rfl (by simpa using a1)) a2 (Lc a3)
 |lst l h=>
  obtain ⟨o,_,s⟩:LstV C P l v:=r;obtain ⟨as,a1,a2,a3⟩:=eG ih s h;exact .mk _ (reads_list_at o rfl rfl (by simpa using a1)) a2 (Lc a3)
theorem eX (I:Inv C P):∀ (n:Nat) (x:D) (v:Value),Now C P v x→pl n x=true→DataOK P.h (n+1) v (py n x)
 |0,_,_,r,e=>qM I (n:=0) (p:=fun _=>false) (fun _ _ _ h=>absurd h KC) r (gE e)
 |n+1,_,_,r,e=>qM I (fun x v r e=>eX I n x v (hV I r) e) r (gE e)
theorem gA {d:PyData} {n:Nat} (h:d.canLay0=true) (k:d.depth≤n) (hn:n≤64):SeqAt.shaped d=true:=by
 unfold SeqAt.shaped;rw[h,Bool.true_and];exact Kr (Km k hn)
noncomputable def eqF (a b:D):Option Bool:=match a with
 | .int i=>(iD b).map fun j=>decide (i=j)
 | .str s=>(sD b).map fun t=>decide (s=t)
 | .bool p=>(bD b).map fun q=>p==q
 |_=>none
open Classical in
noncomputable def eqS (a b:D):Option Bool:=al ((pl 8 a&&pl 8 b)=true) (decide (a=b))
noncomputable def eqD (a b:D):Option Bool:=(eqF a b).or (eqS a b)
theorem AV {α:Type} {p q:Option α} {a:α} (h:p.or q=some a):p=some a∨q=some a:=by
 cases p with
 |none=>exact .inr h
 |some x=>exact .inl h
open Classical in
theorem zG (I:Inv C P) {u v:D} {x y:Value} {c:Bool} (hu:Now C P x u) (hv:Now C P y v) (e:eqD u v=some c):∃ d d' as bs,Reads P.h x d as∧Reads P.h y d' bs∧SeqAt.shaped d=true∧SeqAt.shaped d'=true∧PyData.eqv d d'=c:=by
 rcases AV e with e|e
 ·cases u<;>try (cases e;done)
  ·obtain ⟨q,e1,rfl⟩:=map_some e;cases RD.view hu;cases Eh e1 hv;exact ⟨_,_,_,_,.bool _,.bool _,rfl,rfl,by simp [PyData.eqv]⟩
  ·obtain ⟨j,e1,rfl⟩:=map_some e;obtain ⟨t,rfl⟩:=RD.view hu;obtain ⟨s,rfl⟩:=cZ e1 hv;exact ⟨_,_,_,_,.int _ _,.int _ _,rfl,rfl,by simp only [PyData.eqv];rfl⟩
  ·obtain ⟨s,e1,rfl⟩:=map_some e;obtain ⟨h1,t,rfl⟩:=RD.view hu;obtain ⟨h2,t',rfl⟩:=jo e1 hv;refine ⟨_,_,_,_,.str _ _,.str _ _,gA (lK h1.1) (Ko 0) (by decide),gA (lK h2.1) (Ko 0) (by decide),?_⟩;rw[Bool.eq_iff_iff,decide_eq_true_eq,←yC];simp only [PyData.eqv]
 ·obtain ⟨h,rfl⟩:=grd e;obtain ⟨as,a1,a2,a3⟩:=eX I 8 _ _ hu (ag h);obtain ⟨bs,b1,b2,b3⟩:=eX I 8 _ _ hv (aj h);refine ⟨_,_,as,bs,a1,b1,gA a2 a3 (by decide),gA b2 b3 (by decide),?_⟩;rw[Bool.eq_iff_iff,decide_eq_true_eq];exact lf 8 u v (ag h) (aj h)
structure CO where
 op:CmpOp
 g:D→D→Option Bool
 ok:∀ {C:Cfg} {A:Around} {P:Pt} {u v:D} {c:Bool} {x y:Value} {Q E:Value→Shared→Prop},Good C→A.units+64<cLine→Inv C P→Now C P x u→Now C P y v→g u v=some c→Fin C P (.bool c) Q→wpAny C.M A (compareOp op x y) Q E P.s
noncomputable def cEq:CO:=⟨.Eq,eqD,fun _ hu I a b e k=>by
 obtain ⟨d,d',as,bs,r1,r2,s1,s2,rfl⟩:=zG I a b e;exact eq_dataH r1 r2 s1 s2 hu (k.here I (.bool _))⟩
noncomputable def cNe:CO:=⟨.NotEq,fun u v=>(eqD u v).map fun c=> !c,fun _ hu I a b e k=>by
 obtain ⟨c,e',rfl⟩:=map_some e;obtain ⟨d,d',as,bs,r1,r2,s1,s2,rfl⟩:=zG I a b e';exact ne_dataH r1 r2 s1 s2 hu (k.here I (.bool _))⟩
noncomputable def zS (f:Int→Int→Bool) (u v:D):Option Bool:=(iD u).bind fun a=>(iD v).map fun b=>f a b
theorem ja {f:Int→Int→Bool} {u v:D} {x y:Value} {c:Bool} (h:zS f u v=some c) (hu:Now C P x u) (hv:Now C P y v):∃ a b t s,x= .int a t∧y= .int b s∧c=f a b:=by
 obtain ⟨a,e1,h⟩:=bind_some h;obtain ⟨b,e2,h⟩:=map_some h;obtain ⟨t,e4⟩:=cZ e1 hu;obtain ⟨s,e5⟩:=cZ e2 hv;exact ⟨a,b,t,s,e4,e5,h.symm⟩
noncomputable def cLt:CO:=⟨.Lt,zS fun a b=>decide (a<b),fun _ _ I a b e k=>by
 obtain ⟨i,j,t,s,rfl,rfl,rfl⟩:=ja e a b;exact lt_int (k.here I (.bool _))⟩
noncomputable def cGt:CO:=⟨.Gt,zS fun a b=>decide (a>b),fun _ _ I a b e k=>by
 obtain ⟨i,j,t,s,rfl,rfl,rfl⟩:=ja e a b;exact gt_int (k.here I (.bool _))⟩
noncomputable def cGe:CO:=⟨.GtE,zS fun a b=>decide (a≥b),fun _ _ I a b e k=>by
 obtain ⟨i,j,t,s,rfl,rfl,rfl⟩:=ja e a b;exact ge_int (k.here I (.bool _))⟩
noncomputable def cLe:CO:=⟨.LtE,zS fun a b=>decide (a≤b),fun _ _ I a b e k=>by
 obtain ⟨i,j,t,s,rfl,rfl,rfl⟩:=ja e a b;exact le_int (k.here I (.bool _))⟩
noncomputable def leL:List Nat→List Nat→Bool
 |[],_=>true
 |_::_,[]=>false
 |a::r,b::q=>if a<b then true else if a=b then leL r q else false
theorem yQ:∀ a b:List Nat,leL a b= !decide (b<a)
 |[],b=>by simp [leL]
 |x::r,[]=>by simp [leL]
 |x::r,y::q=>by
  have ih:=yQ r q;simp only [leL,List.cons_lt_cons_iff];by_cases h1:x<y
  ·simp [h1];omega
  ·by_cases h2:x=y
   ·subst h2;simp [ih]
   ·have h3:y<x:=by exact Nat.lt_of_le_of_ne (Lf.mp h1) (Ne.symm h2)
    simp [h1,h2,h3]
noncomputable def cLeS:CO:=⟨.LtE,fun u v=>(sD u).bind fun a=>(sD v).map fun b=>leL a b,fun _ _ I a b e k=>by
 obtain ⟨s,e1,e⟩:=bind_some e;obtain ⟨t,e2,rfl⟩:=map_some e;obtain ⟨_,t1,rfl⟩:=jo e1 a;obtain ⟨_,t2,rfl⟩:=jo e2 b;refine PySem.P.le_str ?_;have:=k.here I (.bool _);rw[yQ] at this
 simpa using this⟩
noncomputable def isN:D→Option Bool
 | .none=>some true
 | .int _| .str _| .tup _| .lst _| .bool _=>some false
 |_=>none
noncomputable def FG (u v:D):Option Bool:=match v with
 | .none=>isN u
 |_=>none
theorem Bg {u v:D} {x y:Value} {c:Bool} (h:FG u v=some c) (hu:Now C P x u) (hv:Now C P y v):y= .none∧((x= .none∧c=true)∨(x≠ .none∧c=false)):=by
 cases v<;>try (cases h;done)
 refine ⟨RD.view hv,?_⟩;cases u<;>try (cases h;done)
 ·cases h;exact .inl ⟨RD.view hu,rfl⟩
 ·cases h;cases RD.view hu;exact .inr ⟨nofun,rfl⟩
 ·cases h;obtain ⟨t,rfl⟩:=RD.view hu;exact .inr ⟨nofun,rfl⟩
 ·cases h;obtain ⟨_,t,rfl⟩:=RD.view hu;exact .inr ⟨nofun,rfl⟩
 ·cases h;obtain ⟨_,_⟩:=RD.view hu;exact .inr ⟨nofun,rfl⟩
 ·cases h;obtain ⟨_,_,_⟩:=hu;exact .inr ⟨nofun,rfl⟩
noncomputable def cIs:CO:=⟨.Is,FG,fun _ _ I a b e k=>by
 obtain ⟨rfl,⟨rfl,rfl⟩|⟨hn,rfl⟩⟩:=Bg e a b
 ·exact wpAny_is_self (by decide) (k.here I (.bool _))
 ·exact is_none_ne hn (k.here I (.bool _))⟩
noncomputable def EJ:List Nat→Option Nat
 |[c]=>some c
 |_=>none
noncomputable def inS (u v:D):Option Bool:=(sD u).bind fun s=>(EJ s).bind fun c=>(sD v).map fun t=>decide (c∈t)
theorem vH {u v:D} {x y:Value} {c:Bool} (h:inS u v=some c) (hu:Now C P x u) (hv:Now C P y v):∃ a l t s,x= .str (ofL [a]) t∧y= .str (ofL l) s∧c=decide (a∈l):=by
 obtain ⟨s,e1,h⟩:=bind_some h;obtain ⟨a,e2,h⟩:=bind_some h;obtain ⟨l,e3,rfl⟩:=map_some h;obtain ⟨_,t1,e4⟩:=jo e1 hu;obtain ⟨_,t2,e5⟩:=jo e3 hv;obtain rfl:s=[a]:=by
  rcases s with _|⟨z,_|⟨w,y⟩⟩<;>first|(cases e2;done)|(cases e2;rfl)
 exact ⟨a,l,t1,t2,e4,e5,rfl⟩
noncomputable def z_:CO:=⟨.In,inS,fun _ _ I a b e k=>by
 obtain ⟨i,l,t,s,rfl,rfl,rfl⟩:=vH e a b;exact in_str (by rw[StrLaws.found_one];exact k.here I (.bool _))⟩
noncomputable def BU:CO:=⟨.NotIn,fun u v=>(inS u v).map fun c=> !c,fun _ _ I a b e k=>by
 obtain ⟨c,e',rfl⟩:=map_some e;obtain ⟨i,l,t,s,rfl,rfl,rfl⟩:=vH e' a b;exact notIn_str (by rw[StrLaws.found_one];exact k.here I (.bool _))⟩
open Classical in
noncomputable def inL (u v:D):Option Bool:=(lD v).bind fun l=>al ((pl 8 u&&l.all (pl 8))=true) (decide (u∈l))
open Classical in
theorem vI (I:Inv C P) {u v:D} {x y:Value} {c:Bool} (hu:Now C P x u) (hv:Now C P y v) (e:inL u v=some c):∃ d ds as bs,Reads P.h x d as∧Reads P.h y (.list ds) bs∧PyData.canLayAll0 ds=true∧d.canLay0=true∧PyData.depthAll ds≤9∧d.depth≤9∧(ds.any fun z=>PyData.eqv z d)=c:=by
 obtain ⟨l,e1,e⟩:=bind_some e;obtain ⟨h,rfl⟩:=grd e;obtain @⟨a,vs,n,g,_,r⟩:=fA e1 hv;obtain ⟨as,a1,a2,a3⟩:=eX I 8 _ _ hu (ag h);obtain ⟨bs,b1,b2,b3⟩:=eG (fun x v r e=>eX I 8 x v (hV I r) e) r (aj h);refine ⟨_,_,as,_,a1,reads_list_at g rfl rfl (by simpa using b1),b2,a2,b3,a3,?_⟩;rw[Bool.eq_iff_iff,decide_eq_true_eq,List.any_map,List.any_eq_true];constructor
 ·rintro ⟨z,hz,q⟩;exact (lf 8 z u (List.all_eq_true.mp (aj h) z hz) (ag h)).mp q ▸ hz
 ·exact fun hz=>⟨u,hz,(lf 8 u u (ag h) (ag h)).mpr rfl⟩
noncomputable def cIn:CO:=⟨.In,inL,fun _ hu I a b e k=>by
 obtain ⟨d,ds,as,bs,r1,r2,h1,h2,h3,h4,rfl⟩:=vI I a b e;exact SeqAt.in_list_reads r2 r1 h1 h2 (E1 hu h3) (k.here I (.bool _))⟩
noncomputable def cNotIn:CO:=⟨.NotIn,fun u v=>(inL u v).map fun c=> !c,fun _ hu I a b e k=>by
 obtain ⟨c,e',rfl⟩:=map_some e;obtain ⟨d,ds,as,bs,r1,r2,h1,h2,h3,h4,rfl⟩:=vI I a b e';exact SeqAt.notIn_list_reads r2 r1 h1 h2 (E1 hu h3) (k.here I (.bool _))⟩
end
noncomputable def cm2 (g:D→D→Option Bool) (x y:PV):PM Bool:=fun σ=>(rd σ x).bind fun u=>(rd σ y).bind fun v=>(g u v).map fun c=>(.ok c,σ)
theorem jh {K:R Bool→Sto→Prop} {g:D→D→Option Bool} {x y:PV} {σ:Sto} (h:Wp K (cm2 g x y σ)):∃ u v c,rd σ x=some u∧rd σ y=some v∧g u v=some c∧K (.ok c) σ:=by
 unfold cm2 at h;cases e1:rd σ x with
 |none=>rw[e1] at h;exact h.elim
 |some u=>
 cases e2:rd σ y with
 |none=>rw[e1,e2] at h;exact h.elim
 |some v=>
 cases e3:g u v with
 |none=>rw[e1,e2,Ka,Ka,e3] at h;exact h.elim
 |some z=>rw[e1,e2,Ka,Ka,e3] at h;exact ⟨u,v,z,rfl,rfl,e3,h⟩
noncomputable def trD:D→Option Bool
 | .bool b=>some b
 | .none=>some false
 | .int i=>some (i !=0)
 | .str s=>some (!s.isEmpty)
 |_=>none
noncomputable def trV (v:PV):PM Bool:=opt ((dOf v).bind trD)
noncomputable def bV (b:Bool):PV:=.d (.bool b)
section
variable {C:Cfg} {A:Around} {P:Pt} {E:Value→Shared→Prop} {Q:Bool→Shared→Prop}
theorem Eu (I:Inv C P):∀ {x:D} {v:Value} {b:Bool},RD C P.own x v→trD x=some b→(∀ P',Grow P P'→Inv C P'→P'.σ=P.σ→Q b P'.s)→wpAny C.M A (truthy v) Q E P.s
 | .bool c,v,b,r,e,k=>by
  cases e;rw[show v= .bool c from r.view];exact wpAny_truthy_bool (k P (.refl P) I rfl)
 | .none,v,b,r,e,k=>by
  cases e;rw[show v= .none from r.view];exact truthy_none (k P (.refl P) I rfl)
 | .int i,v,b,r,e,k=>by
  cases e;obtain ⟨t,q⟩:∃ t,v= .int i t:=r.view;rw[q];exact truthy_int (k P (.refl P) I rfl)
 | .str l,v,b,r,e,k=>by
  cases e;obtain ⟨hx,t,q⟩:okS l∧∃ t,v= .str (ofL l) t:=r.view;rw[q];have hl:=hx.2;refine PySem.P.truthy_str (by simp [Str.length,lim] at hl ⊢;exact KT.mpr (KE hl (Kj rfl))) ?_;have h:=k (P.to P.h (P.s.toks+1+1)) (.to ..) (I.to fun _ _ e=>e) rfl;rw[show ((Str.length (ofL l):Int) !=0)= !l.isEmpty by cases l<;>simp [Str.length];exact Ho];exact h
 | .tup _,_,_,_,e,_=>nomatch e
 | .lst _,_,_,_,e,_=>nomatch e
 | .dct _ _,_,_,_,e,_=>nomatch e
 | .rng _ _ _,_,_,_,e,_=>nomatch e
 | .exc _,_,_,_,e,_=>nomatch e
theorem kF {x:D} {v:Value}:∀ {p:PV},dOf p=some x→RV C P v p→RD C P.own x v
 | .d _,e,r=>by cases e;exact r
theorem xy {K:R Bool→Sto→Prop} {v:Value} {p:PV} (I:Inv C P) (r:RV C P v p) (w:Wp K (trV p P.σ)) (h:Post C A kH P K Q E):wpAny C.M A (truthy v) Q E P.s:=by
 refine aK fun G9 k9=> ?_;obtain ⟨b,e,k⟩:=fk w;obtain ⟨x,e1,e2⟩:=bind_some e;refine k9 ?_;exact Eu I (kF e1 r) e2 fun P' g I' e=>h.ok b b P' g I' rfl (e ▸ k)
theorem jJ {u v:D} {x y:Value} {c:Bool} (o:CO) (G:Good C) (hu:A.units+64<cLine) (I:Inv C P) (a:Now C P x u) (b:Now C P y v) (e:o.g u v=some c) (k:∀ P',Grow P P'→Inv C P'→P'.σ=P.σ→Q c P'.s):
  wpAny C.M A (compareOp o.op x y) (fun z s=>wpAny C.M A (truthy z) Q E s) E P.s:=
 o.ok G hu I a b e fun z P' g I' r e'=>by
  rw[show z= .bool c from r.view];exact wpAny_truthy_bool (k P' g I' e')
end
theorem Post.bindB {α β:Type} {C:Cfg} {A:Around} {Rel:Pt→β→α→Prop} {P:Pt} {K:R α→Sto→Prop} {Q:β→Shared→Prop} {E:Value→Shared→Prop} {f:Bool→PM α} {Q':Bool→Shared→Prop} (h:Post C A Rel P K Q E) (k:∀ b P',Grow P P'→Inv C P'→Wp K (f b P'.σ)→Post C A Rel P' K Q E→Q' b P'.s):Post C A kH P (bK K f) Q' E:=
 ⟨fun p v P' g i r w=>(show v=p from r) ▸ k p P' g i w (h.mono g),h.ex⟩
section
variable {X:Cx} {e:Expr} {ρ:Rho} {P:Pt} {K:R PV→Sto→Prop} {KB:R Bool→Sto→Prop} {QB:Bool→Shared→Prop} {Q E:Value→Shared→Prop}
theorem Cx.lt (X:Cx):X.A.units+64<cLine:=Hn X.uni
theorem D_ (o:CO) (a b:CE) (h:sE (fun l op r=>op==o.op&&behindInMarks op r==false&&a.is X.sx l&&b.is X.sx r) e=true) (I:Inv X.C P) (G:EnvOK X P ρ) (w:Wp K (bnd (a.ev X.ker ρ) (fun x=>bnd (b.ev X.ker ρ) fun y=>bnd (cm2 o.g x y) fun c=>ret (bV c)) P.σ)) (p:aV X (RV X.C) P K Q E):
  wpAny X.M X.A (eval e X.env) Q E P.s:=
 m9 (fun e=>wpAny X.M X.A (eval e X.env) Q E P.s) h fun l op r pos h=>wpAny_Compare1 (a.ok X l ρ P _ _ E (aj (ag h)) I G (aC w) (p.bind fun x v P1 g1 I1 r1 w p=>
  b.ok X r ρ P1 _ _ E (aj h) I1 (G.ext g1) (aC w) (p.bind fun y u P2 g2 I2 r2 w p=>by
   refine aK fun G9 k9=> ?_;obtain ⟨i,j,z,e1,e2,e3,k⟩:=jh (aC w);refine k9 ?_;rw[bg (ag (ag (ag h)))];exact o.ok X.good X.lt I2 (bh I2 (r1.ext g2.toExt) e1) (bh I2 r2 e2) e3 (p.fin k)))) (bg (aj (ag (ag h))))
theorem Ax (o:CO) (a b:CE) (h:sE (fun l op r=>op==o.op&&behindInMarks op r==false&&a.is X.sx l&&b.is X.sx r) e=true) (I:Inv X.C P) (G:EnvOK X P ρ) (w:Wp KB (bnd (a.ev X.ker ρ) (fun x=>bnd (b.ev X.ker ρ) fun y=>cm2 o.g x y) P.σ)) (p:aV X kH P KB QB E):
  wpAny X.M X.A (isTrue e X.env (eval e X.env)) QB E P.s:=
 m9 (fun e=>wpAny X.M X.A (isTrue e X.env (eval e X.env)) QB E P.s) h fun l op r pos h=>wpAny_isTrue_Compare1 (a.ok X l ρ P _ _ E (aj (ag h)) I G (aC w) (p.bind fun x v P1 g1 I1 r1 w p=>
  b.ok X r ρ P1 _ _ E (aj h) I1 (G.ext g1) (aC w) (p.bind fun y u P2 g2 I2 r2 w p=>by
   refine aK fun G9 k9=> ?_;obtain ⟨i,j,z,e1,e2,e3,k⟩:=jh w;refine k9 ?_;rw[bg (ag (ag (ag h)))];exact jJ o X.good X.lt I2 (bh I2 (r1.ext g2.toExt) e1) (bh I2 r2 e2) e3 fun P' g I' e=>p.ok z z P' g I' rfl (e ▸ k)))) (bg (aj (ag (ag h))))
noncomputable def ch2 (m:PM PV) (g1 g2:D→D→Option Bool) (x y:PV):PM PV:=bnd (cm2 g1 x y) fun c=>if c then bnd m fun z=>bnd (cm2 g2 y z) fun c=>ret (bV c) else ret (bV false)
theorem BN (o q:CO) (a b c:CE) (h:m_ (fun l o1 o2 r s=>o1==o.op&&o2==q.op&&lastMarks [o1,o2] [r,s]==false&&a.is X.sx l&&b.is X.sx r&&c.is X.sx s) e=true) (I:Inv X.C P) (G:EnvOK X P ρ) (w:Wp K (bnd (a.ev X.ker ρ) (fun x=>bnd (b.ev X.ker ρ) fun y=>ch2 (c.ev X.ker ρ) o.g q.g x y) P.σ)) (p:aV X (RV X.C) P K Q E):
  wpAny X.M X.A (eval e X.env) Q E P.s:=
 km (fun e=>wpAny X.M X.A (eval e X.env) Q E P.s) h fun l o1 o2 r s pos h=>Compare_chain (a.ok X l ρ P _ _ E (aj (ag (ag h))) I G (aC w) (p.bind fun x v P1 g1 I1 r1 w p=>
  chain_link (b.ok X r ρ P1 _ _ E (aj (ag h)) I1 (G.ext g1) (aC w) (p.bind fun y u P2 g2 I2 r2 w p=>by
   refine aK fun G9 k9=> ?_;obtain ⟨i,j,z,e1,e2,e3,k⟩:=jh (aC w);refine k9 ?_;rw[bg (ag (ag (ag (ag (ag h)))))];refine o.ok X.good X.lt I2 (bh I2 (r1.ext g2.toExt) e1) (bh I2 r2 e2) e3 fun t P3 g3 I3 r3 e'=> ?_;rw[show t= .bool z from r3.view];refine wpAny_truthy_bool ?_;have k:=e' ▸ k;cases z with
   |false=>exact ((p.mono g3).fin k).here I3 (.bool _)
   |true=>
    refine chain_last (c.ok X s ρ P3 _ _ E (aj h) I3 ((G.ext g1).ext (g2.trans g3)) (aC k) ((p.mono g3).bind fun t' v' P4 g4 I4 r4 w p=> ?_));refine aK fun G9 k9=> ?_;obtain ⟨i',j',z',f1,f2,f3,k⟩:=jh (aC w);refine k9 ?_;rw[bg (aj (ag (ag (ag (ag h)))))];exact q.ok X.good X.lt I4 (bh I4 (r2.ext (g3.trans g4).toExt) f1) (bh I4 r4 f2) f3 (p.fin k))))) (bg (aj (ag (ag (ag h)))))
theorem wk {M:Model} {A:Around} {E:Value→Shared→Prop} {s:Shared} {pos:Pos} {a:Value} {op op':CmpOp} {ops:List CmpOp} {r r':Sem Value} {rs:List (Sem Value)} {Q:Bool→Shared→Prop}
  (h:wpAny M A r (fun b s₁=>wpAny M A (compareOp op a b) (fun c s₂=>wpAny M A (PySem.truthy c)
   (fun t s₃=>if t then wpAny M A (testChain pos b (op'::ops) (r'::rs)) Q E s₃ else Q false s₃) E s₂) E s₁) E s):
  wpAny M A (testChain pos a (op::op'::ops) (r::r'::rs)) Q E s:=by
 show wpAny M A (do
  let rv←holding [a] r
  standAt pos
  let c←holding [a,rv] (compareOp op a rv)
  release [a,rv] [c]
  if←holding [c,rv] (PySem.truthy c) then testChain pos rv (op'::ops) (r'::rs) else pure false) Q E s
 refine Kp (wpAny_holding (wpAny_mono h (fun b s₁ h₁=>Kp (wpAny_standAt (Kp (wpAny_holding (wpAny_mono h₁ (fun c s₂ h₂=>
  Kp (wpAny_release' (Kp (wpAny_holding (wpAny_mono h₂ (fun t s₃ h₃=> ?_) fun _ _ x=>x))))) fun _ _ x=>x))))) fun _ _ x=>x))
 cases t with
 |false=>exact Kq h₃
 |true=>exact h₃
theorem wl {M:Model} {A:Around} {E:Value→Shared→Prop} {s:Shared} {pos:Pos} {a:Value} {op:CmpOp} {r:Sem Value} {Q:Bool→Shared→Prop}
  (h:wpAny M A r (fun b s₁=>wpAny M A (compareOp op a b) (fun c s₂=>wpAny M A (PySem.truthy c) Q E s₂) E s₁) E s):wpAny M A (testChain pos a [op] [r]) Q E s:=by
 show wpAny M A (do
  let rv←holding [a] r
  standAt pos
  let c←operate [a,rv] (compareOp op a rv)
  holding [c] (PySem.truthy c)) Q E s
 exact Kp (wpAny_holding (wpAny_mono h (fun b s₁ h₁=>Kp (wpAny_standAt (Kp (wpAny_operate' (wpAny_mono h₁ (fun c s₂ h₂=>wpAny_holding h₂) fun _ _ x=>x))))) fun _ _ x=>x))
noncomputable def Ew (m:PM PV) (g1 g2:D→D→Option Bool) (x y:PV):PM Bool:=bnd (cm2 g1 x y) fun c=>if c then bnd m fun z=>cm2 g2 y z else ret false
theorem xA (o q:CO) (a b c:CE) (h:m_ (fun l o1 o2 r s=>o1==o.op&&o2==q.op&&lastMarks [o1,o2] [r,s]==false&&a.is X.sx l&&b.is X.sx r&&c.is X.sx s) e=true) (I:Inv X.C P) (G:EnvOK X P ρ) (w:Wp KB (bnd (a.ev X.ker ρ) (fun x=>bnd (b.ev X.ker ρ) fun y=>Ew (c.ev X.ker ρ) o.g q.g x y) P.σ)) (p:aV X kH P KB QB E):
  wpAny X.M X.A (isTrue e X.env (eval e X.env)) QB E P.s:=
 km (fun e=>wpAny X.M X.A (isTrue e X.env (eval e X.env)) QB E P.s) h fun l o1 o2 r s pos h=>isTrue_chain (a.ok X l ρ P _ _ E (aj (ag (ag h))) I G (aC w) (p.bind fun x v P1 g1 I1 r1 w p=>
  wk (b.ok X r ρ P1 _ _ E (aj (ag h)) I1 (G.ext g1) (aC w) (p.bind fun y u P2 g2 I2 r2 w p=>by
   refine aK fun G9 k9=> ?_;obtain ⟨i,j,z,e1,e2,e3,k⟩:=jh (aC w);refine k9 ?_;rw[bg (ag (ag (ag (ag (ag h)))))];refine jJ o X.good X.lt I2 (bh I2 (r1.ext g2.toExt) e1) (bh I2 r2 e2) e3 fun P3 g3 I3 e'=> ?_;have k:=e' ▸ k;cases z with
   |false=>exact (p.mono g3).here I3 rfl k
   |true=>
    refine wl (c.ok X s ρ P3 _ _ E (aj h) I3 ((G.ext g1).ext (g2.trans g3)) (aC k) ((p.mono g3).bind fun t' v' P4 g4 I4 r4 w p=> ?_));refine aK fun G9 k9=> ?_;obtain ⟨i',j',z',f1,f2,f3,k⟩:=jh w;refine k9 ?_;rw[bg (aj (ag (ag (ag (ag h)))))];exact jJ q X.good X.lt I4 (bh I4 (r2.ext (g3.trans g4).toExt) f1) (bh I4 r4 f2) f3 fun P' g I' e=>p.ok z' z' P' g I' rfl (e ▸ k))))) (bg (aj (ag (ag (ag h)))))
theorem Dp (a:CE) (h:dU (fun o x _=>uIs false o&&a.is X.sx x) e=true) (I:Inv X.C P) (G:EnvOK X P ρ) (w:Wp K (bnd (a.ev X.ker ρ) (fun x=>bnd (opt ((dOf x).bind iD)) fun i=>ret (.d (.int (-i)))) P.σ)) (p:aV X (RV X.C) P K Q E):wpAny X.M X.A (eval e X.env) Q E P.s:=
 gj (fun e=>wpAny X.M X.A (eval e X.env) Q E P.s) h fun o x pos h=>As (fun o=>wpAny X.M X.A (eval (.UnaryOp o x pos) X.env) Q E P.s) (ag h) (wpAny_UnaryOp (a.ok X x ρ P _ _ E (aj h) I G (aC w) (p.bind fun y v P1 g1 I1 r1 w p=>by
  refine aK fun G9 k9=> ?_;obtain ⟨i,e1,k⟩:=fk (aC w);obtain ⟨z,e2,e3⟩:=bind_some e1;obtain ⟨t,q⟩:=cZ e3 (hV I1 (kF e2 r1));refine k9 ?_;rw[q];exact neg_int ((p.fin k).tok I1 (.int _ _) _))))
theorem Av (a:CT) (h:dU (fun o x _=>uIs true o&&a.is X.sx x) e=true) (I:Inv X.C P) (G:EnvOK X P ρ) (w:Wp KB (bnd (a.ts X.ker ρ) (fun b=>ret !b) P.σ)) (p:aV X kH P KB QB E):wpAny X.M X.A (isTrue e X.env (eval e X.env)) QB E P.s:=
 gj (fun e=>wpAny X.M X.A (isTrue e X.env (eval e X.env)) QB E P.s) h fun o x pos h=>Ar (fun o=>wpAny X.M X.A (isTrue (.UnaryOp o x pos) X.env (eval (.UnaryOp o x pos) X.env)) QB E P.s) (ag h)
  (isTrue_not (a.ok X x ρ P _ _ E (aj h) I G (aC w) ⟨fun b c P2 g2 I2 e k=>p.ok (!b) (!c) P2 g2 I2 (congrArg _ e) k,p.ex⟩))
theorem DG (t:CT) (a b:CE) (h:lz (fun te ae be _=>t.is X.sx te&&a.is X.sx ae&&b.is X.sx be) e=true) (I:Inv X.C P) (G:EnvOK X P ρ) (w:Wp K (bnd (t.ts X.ker ρ) (fun c=>if c then a.ev X.ker ρ else b.ev X.ker ρ) P.σ)) (p:aV X (RV X.C) P K Q E):wpAny X.M X.A (eval e X.env) Q E P.s:=
 qc (fun e=>wpAny X.M X.A (eval e X.env) Q E P.s) h fun te ae be pos h=>IfExp_ (t.ok X te ρ P _ _ E (ag (ag h)) I G (aC w) (p.bindB fun c P1 g1 I1 w p=>by
  cases c with
  |true=>exact a.ok X ae ρ P1 _ _ E (aj (ag h)) I1 (G.ext g1) w p
  |false=>exact b.ok X be ρ P1 _ _ E (aj h) I1 (G.ext g1) w p))
end
noncomputable def yn (e:Expr):Bool:=e.ctorIdx==16||e.ctorIdx==19||e.ctorIdx==20||e.ctorIdx==21||e.ctorIdx==23
theorem wD {e:Expr} (h:yn e=true) (env:Env) (whole:Sem Value):isTrue e env whole=(do let v←whole;standAt e.pos;holding [v] (PySem.truthy v)):=by
 cases e<;>first|rfl|(cases h;done)
noncomputable def cmp (o:CO) (a b:CE):CE:=⟨fun K ρ=>bnd (a.ev K ρ) fun x=>bnd (b.ev K ρ) fun y=>bnd (cm2 o.g x y) fun c=>ret (bV c),fun s=>sE fun l op r=>op==o.op&&behindInMarks op r==false&&a.is s l&&b.is s r,fun _ _ _ _ _ _ _ h I G w p=>D_ o a b h I G w p⟩
noncomputable def aJ (o:CO) (a b:CE):CT:=⟨fun K ρ=>bnd (a.ev K ρ) fun x=>bnd (b.ev K ρ) fun y=>cm2 o.g x y,fun s=>sE fun l op r=>op==o.op&&behindInMarks op r==false&&a.is s l&&b.is s r,fun _ _ _ _ _ _ _ h I G w p=>Ax o a b h I G w p⟩
noncomputable def BP (o q:CO) (a b c:CE):CE:=⟨fun K ρ=>bnd (a.ev K ρ) fun x=>bnd (b.ev K ρ) fun y=>ch2 (c.ev K ρ) o.g q.g x y,fun s=>m_ fun l o1 o2 r t=>o1==o.op&&o2==q.op&&lastMarks [o1,o2] [r,t]==false&&a.is s l&&b.is s r&&c.is s t,fun _ _ _ _ _ _ _ h I G w p=>BN o q a b c h I G w p⟩
noncomputable def qn (o q:CO) (a b c:CE):CT:=⟨fun K ρ=>bnd (a.ev K ρ) fun x=>bnd (b.ev K ρ) fun y=>Ew (c.ev K ρ) o.g q.g x y,fun s=>m_ fun l o1 o2 r t=>o1==o.op&&o2==q.op&&lastMarks [o1,o2] [r,t]==false&&a.is s l&&b.is s r&&c.is s t,fun _ _ _ _ _ _ _ h I G w p=>xA o q a b c h I G w p⟩
noncomputable def neg (a:CE):CE:=⟨fun K ρ=>bnd (a.ev K ρ) fun x=>bnd (opt ((dOf x).bind iD)) fun i=>ret (.d (.int (-i))),fun s=>dU fun o x _=>uIs false o&&a.is s x,fun _ _ _ _ _ _ _ h I G w p=>Dp a h I G w p⟩
noncomputable def eU (a:CT):CT:=⟨fun K ρ=>bnd (a.ts K ρ) fun b=>ret !b,fun s=>dU fun o x _=>uIs true o&&a.is s x,fun _ _ _ _ _ _ _ h I G w p=>Av a h I G w p⟩
noncomputable def pH (t:CT) (a b:CE):CE:=⟨fun K ρ=>bnd (t.ts K ρ) fun c=>if c then a.ev K ρ else b.ev K ρ,fun s=>lz fun te ae be _=>t.is s te&&a.is s ae&&b.is s be,fun _ _ _ _ _ _ _ h I G w p=>DG t a b h I G w p⟩
noncomputable def tof (a:CE):CT:=⟨fun K ρ=>bnd (a.ev K ρ) trV,fun s e=>yn e&&a.is s e,fun X e ρ P K Q E h I G w p=>isTrue_plain (a.ok X e ρ P _ _ E (aj h) I G (aC w) (p.bind fun y v P1 g1 I1 r1 w p=>xy I1 r1 w p)) (wD (ag h) _ _)⟩
structure CA where
 ev:Ker→Rho→PM PV
 is:Sx→List Expr→Bool
 ok:∀ (X:Cx) (es:List Expr) (pos:Pos) (ρ:Rho) (P:Pt) (K:R PV→Sto→Prop) (Q E:Value→Shared→Prop),is X.sx es=true→Inv X.C P→EnvOK X P ρ→Wp K (ev X.ker ρ P.σ)→aV X (RV X.C) P K Q E→wpAny X.M X.A (eval (.BoolOp .And es pos) X.env) Q E P.s
structure CTs (op:BoolOp) where
 ts:Ker→Rho→PM Bool
 is:Sx→List Expr→Bool
 ok:∀ (X:Cx) (es:List Expr) (pos:Pos) (whole:Sem Value) (ρ:Rho) (P:Pt) (K:R Bool→Sto→Prop) (Q:Bool→Shared→Prop) (E:Value→Shared→Prop),is X.sx es=true→Inv X.C P→EnvOK X P ρ→Wp K (ts X.ker ρ P.σ)→aV X kH P K Q E→wpAny X.M X.A (isTrue (.BoolOp op es pos) X.env whole) Q E P.s
noncomputable def ia {α:Type} (f:α→Bool) (g:List α→Bool):List α→Bool
 |a::r=>f a&&g r
 |[]=>false
theorem c9 {α:Type} (q:List α→Prop) {f:α→Bool} {g:List α→Bool}:∀ {l:List α},ia f g l=true→(∀ a r,f a=true→g r=true→q (a::r))→q l
 |a::r,h,k=>k a r (ag h) (aj h)
 |[],h,_=>nomatch h
noncomputable def zh {α:Type} (f:α→Bool) (g:List α→Bool):List α→Bool
 |a::b::r=>f a&&g (b::r)
 |_=>false
theorem ur {α:Type} (q:List α→Prop) {f:α→Bool} {g:List α→Bool}:∀ {l:List α},zh f g l=true→(∀ a b r,f a=true→g (b::r)=true→q (a::b::r))→q l
 |a::b::r,h,k=>k a b r (ag h) (aj h)
 |[],h,_=>nomatch h
 |[_],h,_=>nomatch h
section
variable {X:Cx} {es:List Expr} {pos:Pos} {whole:Sem Value} {ρ:Rho} {P:Pt} {K:R PV→Sto→Prop} {KB:R Bool→Sto→Prop} {QB:Bool→Shared→Prop} {Q E:Value→Shared→Prop}
theorem B2 (a:CE) (l:CA) (h:zh (a.is X.sx) (l.is X.sx) es=true) (I:Inv X.C P) (G:EnvOK X P ρ) (w:Wp K (bnd (a.ev X.ker ρ) (fun x=>bnd (trV x) fun b=>if b then l.ev X.ker ρ else ret x) P.σ)) (p:aV X (RV X.C) P K Q E):wpAny X.M X.A (eval (.BoolOp .And es pos) X.env) Q E P.s:=
 ur (fun es=>wpAny X.M X.A (eval (.BoolOp .And es pos) X.env) Q E P.s) h fun e e2 r h1 h2=>BoolOp_and (a.ok X e ρ P _ _ E h1 I G (aC w) (p.bind fun x v P1 g1 I1 r1 w p=>
  xy I1 r1 (aC w) (p.bindB fun c P2 g2 I2 w p=>by
   cases c with
   |true=>exact l.ok X _ pos ρ P2 _ _ E h2 I2 (G.ext (g1.trans g2)) w p
   |false=>exact p.here I2 (r1.ext g2.toExt) w)))
theorem xB (a:CT) (l:CTs .And) (h:ia (a.is X.sx) (l.is X.sx) es=true) (I:Inv X.C P) (G:EnvOK X P ρ) (w:Wp KB (bnd (a.ts X.ker ρ) (fun b=>if b then l.ts X.ker ρ else ret false) P.σ)) (p:aV X kH P KB QB E):wpAny X.M X.A (isTrue (.BoolOp .And es pos) X.env whole) QB E P.s:=
 c9 (fun es=>wpAny X.M X.A (isTrue (.BoolOp .And es pos) X.env whole) QB E P.s) h fun e r h1 h2=>isTrue_and (a.ok X e ρ P _ _ E h1 I G (aC w) (p.bindB fun c P1 g1 I1 w p=>by
  cases c with
  |true=>exact l.ok X _ pos whole ρ P1 _ _ E h2 I1 (G.ext g1) w p
  |false=>exact p.here I1 rfl w))
theorem Au (a:CT) (l:CTs .Or) (h:ia (a.is X.sx) (l.is X.sx) es=true) (I:Inv X.C P) (G:EnvOK X P ρ) (w:Wp KB (bnd (a.ts X.ker ρ) (fun b=>if b then ret true else l.ts X.ker ρ) P.σ)) (p:aV X kH P KB QB E):wpAny X.M X.A (isTrue (.BoolOp .Or es pos) X.env whole) QB E P.s:=
 c9 (fun es=>wpAny X.M X.A (isTrue (.BoolOp .Or es pos) X.env whole) QB E P.s) h fun e r h1 h2=>isTrue_or (a.ok X e ρ P _ _ E h1 I G (aC w) (p.bindB fun c P1 g1 I1 w p=>by
  cases c with
  |false=>exact l.ok X _ pos whole ρ P1 _ _ E h2 I1 (G.ext g1) w p
  |true=>exact p.here I1 rfl w))
end
noncomputable def F4 (a:CE):CA:=⟨a.ev,fun s=>one (a.is s),fun X es pos ρ P K Q E h I G w p=>cS (fun es=>wpAny X.M X.A (eval (.BoolOp .And es pos) X.env) Q E P.s) h fun e h=>BoolOp_one (a.ok X e ρ P K Q E h I G w p)⟩
noncomputable def El (a:CE) (l:CA):CA:=⟨fun K ρ=>bnd (a.ev K ρ) fun x=>bnd (trV x) fun b=>if b then l.ev K ρ else ret x,fun s=>zh (a.is s) (l.is s),fun _ _ _ _ _ _ _ _ h I G w p=>B2 a l h I G w p⟩
noncomputable def F5 (l:CA):CE:=⟨l.ev,fun s=>gw fun o es _=>bIs true o&&l.is s es,fun X e ρ P K Q E h I G w p=>eT (fun e=>wpAny X.M X.A (eval e X.env) Q E P.s) h fun o es pos h=>v6 (fun o=>wpAny X.M X.A (eval (.BoolOp o es pos) X.env) Q E P.s) (ag h) (l.ok X es pos ρ P K Q E (aj h) I G w p)⟩
noncomputable def gY:CTs .And:=⟨fun _ _=>ret true,fun _ es=>es.isEmpty,fun X es pos whole ρ P K Q E h I G w p=>bu (fun es=>wpAny X.M X.A (isTrue (.BoolOp .And es pos) X.env whole) Q E P.s) h (isTrue_and_nil (p.here I rfl w))⟩
noncomputable def cB (a:CT) (l:CTs .And):CTs .And:=⟨fun K ρ=>bnd (a.ts K ρ) fun b=>if b then l.ts K ρ else ret false,fun s=>ia (a.is s) (l.is s),fun _ _ _ _ _ _ _ _ _ h I G w p=>xB a l h I G w p⟩
noncomputable def eA:CTs .Or:=⟨fun _ _=>ret false,fun _ es=>es.isEmpty,fun X es pos whole ρ P K Q E h I G w p=>bu (fun es=>wpAny X.M X.A (isTrue (.BoolOp .Or es pos) X.env whole) Q E P.s) h (isTrue_or_nil (p.here I rfl w))⟩
noncomputable def bH (a:CT) (l:CTs .Or):CTs .Or:=⟨fun K ρ=>bnd (a.ts K ρ) fun b=>if b then ret true else l.ts K ρ,fun s=>ia (a.is s) (l.is s),fun _ _ _ _ _ _ _ _ _ h I G w p=>Au a l h I G w p⟩
noncomputable def lH (l:CTs .And):CT:=⟨l.ts,fun s=>gw fun o es _=>bIs true o&&l.is s es,fun X e ρ P K Q E h I G w p=>eT (fun e=>wpAny X.M X.A (isTrue e X.env (eval e X.env)) Q E P.s) h fun o es pos h=>v6 (fun o=>wpAny X.M X.A (isTrue (.BoolOp o es pos) X.env (eval (.BoolOp o es pos) X.env)) Q E P.s) (ag h) (l.ok X es pos _ ρ P K Q E (aj h) I G w p)⟩
noncomputable def tor (l:CTs .Or):CT:=⟨l.ts,fun s=>gw fun o es _=>bIs false o&&l.is s es,fun X e ρ P K Q E h I G w p=>eT (fun e=>wpAny X.M X.A (isTrue e X.env (eval e X.env)) Q E P.s) h fun o es pos h=>Eg (fun o=>wpAny X.M X.A (isTrue (.BoolOp o es pos) X.env (eval (.BoolOp o es pos) X.env)) Q E P.s) (ag h) (l.ok X es pos _ ρ P K Q E (aj h) I G w p)⟩
theorem cY {α:Type} {q:α→Prop}:∀ p∈([]:List α),q p:=fun _ h=>absurd h Ky
theorem cw {env:Env} {e:Expr} {es:List Expr} (h:fx e=true):starEach (e::es) env=(false,eval e env)::starEach es env:=by
 cases e<;>first|rfl|(cases h;done)
section
variable {X:Cx} {es:List Expr} {pos:Pos} {ρ:Rho} {P:Pt} {K:R (List PV)→Sto→Prop} {Q:List Value→Shared→Prop} {E:Value→Shared→Prop}
theorem Ea (a:CE) (l:CL) (h:ia (fun e=>fx e&&a.is X.sx e) (l.is X.sx) es=true) (I:Inv X.C P) (G:EnvOK X P ρ) (w:Wp K (bnd (a.ev X.ker ρ) (fun x=>bnd (l.ev X.ker ρ) fun xs=>ret (x::xs)) P.σ)) (p:aV X (F_ X.C) P K Q E):
  wpAny X.M X.A (spliced (backTo pos (starEach es X.env))) Q E P.s:=
 c9 (fun es=>wpAny X.M X.A (spliced (backTo pos (starEach es X.env))) Q E P.s) h fun e r h1 h2=>by
  rw[cw (ag h1)];exact Calls.spliced_cons (a.ok X e ρ P _ _ E (aj h1) I G (aC w) (p.bind fun x v P1 g1 I1 r1 w p=>
   l.ok X r pos ρ P1 _ _ E h2 I1 (G.ext g1) (aC w) ⟨fun xs vs P2 g2 I2 r2 k=>p.ok (x::xs) (v::vs) P2 g2 I2 (.cons (r1.ext g2.toExt) r2) k,p.ex⟩))
theorem zU (a:CE) (l:CL) (sx:Sx) (es:List Expr) (env:Env) (pos:Pos) (h:ia (fun e=>fx e&&a.is sx e) (l.is sx) es=true):∀ x∈backTo pos (starEach es env),x.1=false:=
 c9 (fun es=>∀ x∈backTo pos (starEach es env),x.1=false) h fun e r h1 h2 x hx=>by
  rw[cw (ag h1)] at hx;rcases Kb.mp hx with q|q
  ·rw[q]
  ·exact l.star sx r env pos h2 x q
end
noncomputable def clN:CL:=⟨fun _ _=>ret [],fun _ es=>es.isEmpty,fun sx es env pos h=>bu (fun es=>∀ x∈backTo pos (starEach es env),x.1=false) h cY,fun X es pos ρ P K Q E h I G w p=>bu (fun es=>wpAny X.M X.A (spliced (backTo pos (starEach es X.env))) Q E P.s) h (Calls.spliced_nil (p.here I .nil w))⟩
noncomputable def clC (a:CE) (l:CL):CL:=⟨fun K ρ=>bnd (a.ev K ρ) fun x=>bnd (l.ev K ρ) fun xs=>ret (x::xs),fun s=>ia (fun e=>fx e&&a.is s e) (l.is s),zU a l,fun _ _ _ _ _ _ _ _ h I G w p=>Ea a l h I G w p⟩
section
variable {C:Cfg} {A:Around} {P:Pt} {Q E:Value→Shared→Prop}
theorem vY:∀ {ps:List PV} {vs:List Value} {ds:List D},RVs C P ps vs→nG ps=some ds→RDs C P.own ds vs
 |[],vs,_,h,e=>by cases e;cases h;exact .nil
 |p::ps,vs,_,h,e=>by
  cases h with
  |cons h r=>
  obtain ⟨x,e1,e⟩:=bind_some e;obtain ⟨xs,e2,rfl⟩:=map_some e;exact .cons (kF e1 h) (vY r e2)
noncomputable def qk (mk:List D→PV) (ps:List PV):PM PV:=opt ((nG ps).bind fun ds=>al (ds.length≤1000) (mk ds))
theorem oP {vs:List Value} {ds:List D} {w:a'} (r:RDs C w ds vs) (h:ds.length≤1000):vs.toArray.size≤sizeLine:=by
 rw[Kz,r.length];exact Km h (by decide)
theorem wE {K:R PV→Sto→Prop} {ps:List PV} {vs:List Value} (I:Inv C P) (r:RVs C P ps vs) (w:Wp K (qk (fun ds=>.d (.tup ds)) ps P.σ)) (p:Post C A (RV C) P K Q E):wpAny C.M A (newTuple vs) Q E P.s:=by
 obtain ⟨v,e,k⟩:=fk w;obtain ⟨ds,e1,e⟩:=bind_some e;obtain ⟨hl,e⟩:=grd e;have r:=vY r e1;subst e;exact wpAny_newObj_type ((p.fin k).note I (I.newTup vs 0) P.s.toks (oU I (I.off (Ko _)) r rfl)) (oP r hl)
theorem wG {K:R PV→Sto→Prop} {ps:List PV} {vs:List Value} (I:Inv C P) (r:RVs C P ps vs) (w:Wp K (qk (fun ds=>.d (.lst ds)) ps P.σ)) (p:Post C A (RV C) P K Q E):wpAny C.M A (newList vs) Q E P.s:=by
 obtain ⟨v,e,k⟩:=fk w;obtain ⟨ds,e1,e⟩:=bind_some e;obtain ⟨hl,e⟩:=grd e;have r:=vY r e1;subst e;exact wpAny_newObj_type ((p.fin k).note I (I.push (o:=aE vs 0) rfl) P.s.toks (fW I (I.off (Ko _)) r rfl)) (oP r hl)
theorem Post.make {K:R PV→Sto→Prop} {f:Fld} {h':Heap} {a:Addr} {o:Obj} {t:Nat} (p:Post C A (RV C) P K Q E) (I:Inv C P) (n:New C P h' a o) (r:RF C (upd P.own a (.cell P.σ.length 0)) o f) (k:K (.ok (.p P.σ.length 0)) (P.σ++[.fld f])):Q (.ref a) {P.s with heap:=h',toks:=t}:=
 p.ok (.p P.σ.length 0) _ (P.make h' t a (.fld f)) (.make n.own) (I.make rfl n ⟨_,.mk (bn _ _ _) n.at_ r⟩) (I.rvMake rfl) k
noncomputable def mkL (ps:List PV):PM PV:=bnd (opt ((nG ps).bind fun ds=>al (ds.length≤1000) ds)) fun ds=>fN (.fld (.list ds))
theorem wF {K:R PV→Sto→Prop} {ps:List PV} {vs:List Value} (I:Inv C P) (r:RVs C P ps vs) (w:Wp K (mkL ps P.σ)) (p:Post C A (RV C) P K Q E):wpAny C.M A (newList vs) Q E P.s:=by
 obtain ⟨ds,e,k⟩:=fk (aC w);obtain ⟨ds',e1,e⟩:=bind_some e;obtain ⟨hl,e⟩:=grd e;cases e;have r:=vY r e1;have hn:=I.push (o:=aE vs 0) rfl;exact wpAny_newObj_type (p.make (f:=.list ds) (t:=P.s.toks) I hn ⟨vs,0,rfl,r.ext (dp hn.own)⟩ k) (oP r hl)
end
section
variable {X:Cx} {e:Expr} {ρ:Rho} {P:Pt} {K:R PV→Sto→Prop} {Q E:Value→Shared→Prop}
theorem CM (l:CL) (h:ly (fun es _ _=>l.is X.sx es) e=true) (I:Inv X.C P) (G:EnvOK X P ρ) (w:Wp K (bnd (l.ev X.ker ρ) (qk fun ds=>.d (.tup ds)) P.σ)) (p:aV X (RV X.C) P K Q E):wpAny X.M X.A (eval e X.env) Q E P.s:=
 p_ (fun e=>wpAny X.M X.A (eval e X.env) Q E P.s) h fun es k pos h=>Tuple_ (l.ok X es pos ρ P _ _ E h I G (aC w) (p.bind fun xs vs P1 g1 I1 r1 w p=>wE I1 r1 w p))
theorem Dv (l:CL) (h:jM (fun es _=>l.is X.sx es) e=true) (I:Inv X.C P) (G:EnvOK X P ρ) (w:Wp K (bnd (l.ev X.ker ρ) (qk fun ds=>.d (.lst ds)) P.σ)) (p:aV X (RV X.C) P K Q E):wpAny X.M X.A (eval e X.env) Q E P.s:=
 ki (fun e=>wpAny X.M X.A (eval e X.env) Q E P.s) h fun es pos h=>List_ (l.ok X es pos ρ P _ _ E h I G (aC w) (p.bind fun xs vs P1 g1 I1 r1 w p=>wG I1 r1 w p))
theorem A0 (l:CL) (h:jM (fun es _=>l.is X.sx es) e=true) (I:Inv X.C P) (G:EnvOK X P ρ) (w:Wp K (bnd (l.ev X.ker ρ) mkL P.σ)) (p:aV X (RV X.C) P K Q E):wpAny X.M X.A (eval e X.env) Q E P.s:=
 ki (fun e=>wpAny X.M X.A (eval e X.env) Q E P.s) h fun es pos h=>List_ (l.ok X es pos ρ P _ _ E h I G (aC w) (p.bind fun xs vs P1 g1 I1 r1 w p=>wF I1 r1 w p))
noncomputable abbrev dct0:Obj:={cls:=.type "dict",data:=.dict #[]}
theorem v4 {C:Cfg} {w:a'}:DictAs C w dct0 [] []:=.mk _ [] .str ⟨#[],0,⟨rfl,rfl,rfl⟩,rfl,fun _ he=>by simp at he,Pairs.nil,K3⟩ rfl rfl cY
theorem BH (h:gq (fun ks vs _=>ks.isEmpty&&vs.isEmpty) e=true) (I:Inv X.C P) (w:Wp K (ret (.d (.dct [] [])) P.σ)) (p:aV X (RV X.C) P K Q E):wpAny X.M X.A (eval e X.env) Q E P.s:=
 gp (fun e=>wpAny X.M X.A (eval e X.env) Q E P.s) h fun ks vs pos h=>bu (fun ks=>wpAny X.M X.A (eval (.Dict ks vs pos) X.env) Q E P.s) (ag h) (bu (fun vs=>wpAny X.M X.A (eval (.Dict [] vs pos) X.env) Q E P.s) (aj h)
  (wpAny_Dict_empty ((p.fin w).note I (I.push (o:=dct0) rfl) P.s.toks (.dct (bn _ _ _) v4 .nil))))
theorem yG (h:gq (fun ks vs _=>ks.isEmpty&&vs.isEmpty) e=true) (I:Inv X.C P) (w:Wp K (fN (.fld (.dict [] [])) P.σ)) (p:aV X (RV X.C) P K Q E):wpAny X.M X.A (eval e X.env) Q E P.s:=
 gp (fun e=>wpAny X.M X.A (eval e X.env) Q E P.s) h fun ks vs pos h=>bu (fun ks=>wpAny X.M X.A (eval (.Dict ks vs pos) X.env) Q E P.s) (ag h) (bu (fun vs=>wpAny X.M X.A (eval (.Dict [] vs pos) X.env) Q E P.s) (aj h)
  (wpAny_Dict_empty (p.make (f:=.dict [] []) (t:=P.s.toks) I (I.push (o:=dct0) rfl) ⟨[],v4,.nil⟩ w)))
end
noncomputable def tup (l:CL):CE:=⟨fun K ρ=>bnd (l.ev K ρ) (qk fun ds=>.d (.tup ds)),fun s=>ly fun es _ _=>l.is s es,fun _ _ _ _ _ _ _ h I G w p=>CM l h I G w p⟩
noncomputable def lst (l:CL):CE:=⟨fun K ρ=>bnd (l.ev K ρ) (qk fun ds=>.d (.lst ds)),fun s=>jM fun es _=>l.is s es,fun _ _ _ _ _ _ _ h I G w p=>Dv l h I G w p⟩
noncomputable def eJ (l:CL):CE:=⟨fun K ρ=>bnd (l.ev K ρ) mkL,fun s=>jM fun es _=>l.is s es,fun _ _ _ _ _ _ _ h I G w p=>A0 l h I G w p⟩
noncomputable def v0:CE:=⟨fun _ _=>ret (.d (.dct [] [])),fun _=>gq fun ks vs _=>ks.isEmpty&&vs.isEmpty,fun _ _ _ _ _ _ _ h I _ w p=>BH h I w p⟩
noncomputable def hW:CE:=⟨fun _ _=>fN (.fld (.dict [] [])),fun _=>gq fun ks vs _=>ks.isEmpty&&vs.isEmpty,fun _ _ _ _ _ _ _ h I _ w p=>yG h I w p⟩
noncomputable def dP:D→D→Bool
 | .int a,.int b=>decide (a=b)
 | .str a,.str b=>decide (a=b)
 |_,_=>false
noncomputable def isI:D→Bool
 | .int _=>true
 |_=>false
noncomputable def isS:D→Bool
 | .str _=>true
 |_=>false
noncomputable def gU (k:D) (ks:List D):Bool:=(isI k&&ks.all isI)||(isS k&&ks.all isS)
noncomputable def cU (k:D):List D→List D→Option D
 |x::ks,v::vs=>if dP x k then some v else cU k ks vs
 |_,_=>none
noncomputable def cQ (k:D):List D→List D
 |[]=>[k]
 |x::ks=>if dP x k then x::ks else x::cQ k ks
noncomputable def cP (k v:D):List D→List D→List D
 |x::ks,u::vs=>if dP x k then v::vs else u::cP k v ks vs
 |_,_=>[v]
inductive KeyAt (C:Cfg) (o:Obj) (k:D) (vk:Value) (ks:List D) (vs:List Value):Prop
 |mk (d:KD C) (l:List (d.K×Value)) (c:d.K):IsKD C d→(letI:=d.dec;o.IsDictOf d.knd l)→ks=l.map (fun p=>d.toD p.1)→vs=l.map (·.2)→(∀ p∈l,d.ok p.1)→k=d.toD c→(letI:=d.dec;d.knd.is c vk=true)→d.ok c→KeyAt C o k vk ks vs
section
variable {C:Cfg} {w:a'}
theorem r_ {K K':Type} [DecidableEq K] [DecidableEq K'] {knd:KeyKind C.prog C.w K} {knd':KeyKind C.prog C.w K'} {o:Obj} (h:o.IsDictOf knd []):o.IsDictOf knd' []:=by
 obtain ⟨es,ep,h1,h2,_,h4,_⟩:=h;have he:es=#[]:=by
  cases q:es.toList with
  |nil=>exact Array.toList_eq_nil_iff.mp q
  |cons e r=>rw[q] at h4;cases h4
 subst he;exact ⟨#[],ep,h1,h2,fun e he=>by simp at he,by simpa using Pairs.nil,K3⟩
theorem pF {o:Obj} {k:D} {vk:Value} {ks:List D} {vs:List Value} (h:DictAs C w o ks vs) (hk:RD C w k vk) (hf:gU k ks=true):KeyAt C o k vk ks vs:=by
 cases h with
 |pr xs es ep _ _ _ _ _ e _ hne=>
  cases xs with
  |nil=>exact absurd rfl hne
  |cons x xs=>
   rw[e] at hf;have hf:((isI k&&false)||(isS k&&false))=true:=hf;rw[Bool.and_false,Bool.and_false] at hf;cases hf
 |mk d l hd h1 h2 h3 h4=>
  subst h2;subst h3;rcases (Bool.or_eq_true _ _).mp hf with hf|hf
  ·cases k with
   |int i=>
    obtain ⟨t,e⟩:∃ t,vk= .int i t:=hk.view;rw[e];cases hd with
    |int=>exact .mk _ l i .int h1 rfl rfl h4 rfl (intKind_is _ _ _ _) trivial
    |str=>
     cases l with
     |nil=>exact .mk _ [] i .int (r_ h1) rfl rfl cY rfl (intKind_is _ _ _ _) trivial
     |cons p l=>cases ag (aj hf)
   |_=>cases ag hf
  ·cases k with
   |str s=>
    obtain ⟨hs,t,e⟩:okS s∧∃ t,vk= .str (ofL s) t:=hk.view;rw[e];cases hd with
    |str=>exact .mk _ l (ofL s) .str h1 rfl rfl h4 rfl (strKind_is _ _ _ _) hs
    |int=>
     cases l with
     |nil=>exact .mk _ [] (ofL s) .str (r_ h1) rfl rfl cY rfl (strKind_is _ _ _ _) hs
     |cons p l=>cases ag (aj hf)
   |_=>cases ag hf
theorem fb {d:KD C} (hd:IsKD C d) (a b:d.K):dP (d.toD a) (d.toD b)=true↔a=b:=by
 cases hd with
 |int=>exact decide_eq_true_iff
 |str=>
  show decide _=true↔_;rw[decide_eq_true_eq];exact ⟨fun h=>by
   obtain ⟨⟨a⟩⟩:=a;obtain ⟨⟨b⟩⟩:=b
   simpa using h,fun h=>by rw[h]⟩
theorem kU {d:KD C} (hd:IsKD C d) (c:d.K):∀ {l:List (d.K×Value)} {ps:List D},RDs C w ps (l.map (·.2))→match cU (d.toD c) (l.map fun p=>d.toD p.1) ps,(letI:=d.dec;valueAt l c) with
  |some p,some v=>RD C w p v
  |none,none=>True
  |_,_=>False
 |[],ps,r=>by
  cases ps with
  |nil=>trivial
  |cons=>cases r.length
 |(a,v)::l,[],r=>by cases r.length
 |(a,v)::l,p::ps,r=>by
  obtain ⟨r1,r2⟩:ConsV C w p ps (v::l.map Prod.snd):=r.view
  letI:=d.dec
  show match cU (d.toD c) (d.toD a::l.map fun p=>d.toD p.1) (p::ps),(List.find? (fun kv=>decide (kv.1=c)) ((a,v)::l)).map (·.2) with
   |some p,some v=>RD C w p v
   |none,none=>True
   |_,_=>False
  by_cases h:a=c
  ·rw[cU,if_pos ((fb hd a c).mpr h),List.find?_cons_of_pos (by simpa using h)];exact r1
  ·rw[cU,if_neg (fun q=>h ((fb hd a c).mp q)),List.find?_cons_of_neg (by simpa using h)];exact kU hd c r2
theorem yk {d:KD C} (hd:IsKD C d) (c:d.K) {q:D} {u:Value} (hq:RD C w q u):∀ {l:List (d.K×Value)} {ps:List D},RDs C w ps (l.map (·.2))→(l.map (·.1)).Nodup→
  (letI:=d.dec;cQ (d.toD c) (l.map fun p=>d.toD p.1)=(stored l c u).map (fun p=>d.toD p.1)∧RDs C w (cP (d.toD c) q (l.map fun p=>d.toD p.1) ps) ((stored l c u).map (·.2)))
 |[],ps,r,_=>by
  cases ps with
  |nil=>exact ⟨rfl,.cons hq .nil⟩
  |cons=>cases r.length
 |(a,v)::l,[],r,_=>by cases r.length
 |(a,v)::l,p::ps,r,hn=>by
  obtain ⟨r1,r2⟩:ConsV C w p ps (v::l.map Prod.snd):=r.view
  letI:=d.dec
  rw[List.map_cons,K0] at hn;show cQ (d.toD c) (d.toD a::l.map fun p=>d.toD p.1)=_∧RDs C w (cP (d.toD c) q (d.toD a::l.map fun p=>d.toD p.1) (p::ps)) _;by_cases h:a=c
  ·have e2:stored ((a,v)::l) c u=(a,u)::l:=by
    subst h;rw[stored,List.any_cons,Kr rfl,Bool.true_or,if_pos rfl,List.map_cons,if_pos rfl];congr 1;refine (List.map_congr_left fun kv hkv=> ?_).trans (List.map_id _);have hne:¬kv.1=a:=fun e=>hn.1 (Kt.mpr ⟨kv,hkv,e⟩);rw[if_neg hne];rfl
   rw[cQ,cP,if_pos ((fb hd a c).mpr h),if_pos ((fb hd a c).mpr h),e2];exact ⟨rfl,.cons hq r2⟩
  ·have e2:stored ((a,v)::l) c u=(a,v)::stored l c u:=by
    rw[stored,stored,List.any_cons,K7 h,Bool.false_or,List.map_cons,if_neg h];by_cases hr:(l.any fun kv=>decide (kv.1=c))=true
    ·rw[if_pos hr,if_pos hr]
    ·rw[if_neg hr,if_neg hr];rfl
   have ih:=yk hd c hq r2 hn.2;rw[cQ,cP,if_neg (fun q=>h ((fb hd a c).mp q)),if_neg (fun q=>h ((fb hd a c).mp q)),e2];exact ⟨congrArg _ ih.1,.cons r1 ih.2⟩
end
section
variable {C:Cfg} {A:Around} {P:Pt} {Q E:Value→Shared→Prop}
theorem ce (G:Good C) (I:Inv C P) {a:Addr} (h:P.own a≠ .no):(a==sysModules)=false:=by
 refine beq_eq_false_iff_ne.mpr fun q=> ?_;obtain ⟨o,ho⟩:=G.big;exact h (q ▸ (I.base _ _ ho).2)
end
noncomputable def getD (u v:D):Option D:=match u with
 | .tup l=>(iD v).bind fun i=>(al (small i=true) ()).bind fun _=>(cR i l.length).bind fun k=>l[k]?
 | .lst l=>(iD v).bind fun i=>(al (small i=true) ()).bind fun _=>(cR i l.length).bind fun k=>l[k]?
 | .str l=>(iD v).bind fun i=>(al (small i=true) ()).bind fun _=>(cR i l.length).bind fun k=>(l[k]?).map fun c=>.str [c]
 | .dct ks vs=>(al (gU v ks=true) ()).bind fun _=>cU v ks vs
 |_=>none
section
variable {C:Cfg} {A:Around} {P:Pt} {Q E:Value→Shared→Prop}
theorem ca {e:Expr} (h:bP e=true) (o i:Value):subscripted e false o i=operate [o,i] (PySem.getItem o i):=by
 cases e<;>first|rfl|(cases h;done)
theorem nW {i:Int} {n k:Nat} (h:cR i n=some k):seqIndex? i n=some k∧k<n:=by
 unfold cR at h;split at h
 ·split at h
  ·rename_i h1 h2
   cases h;exact ⟨seqIndex_of h1 h2,by exact (Int.toNat_lt h1).mpr h2⟩
  ·cases h
 ·split at h
  ·rename_i h1 h2
   cases h;exact ⟨seqIndex_neg (Fl h1) (Fk h2),Ij h1 h2⟩
  ·cases h
theorem eW {i:Int} (h:small i=true): -(2^63)≤i∧i<2^63:=by
 simp only [small,Bool.and_eq_true,decide_eq_true_eq] at h;exact ⟨KO (by decide) (Lb h.1),Int.lt_trans h.2 (by decide)⟩
theorem pM {α:Type} {v:D} {n:Nat} {f:Nat→Option α} {z:α} {y:Value} (h:((iD v).bind fun i=>(al (small i=true) ()).bind fun _=>(cR i n).bind f)=some z) (hv:Now C P y v):∃ i t k,y= .int i t∧small i=true∧cR i n=some k∧f k=some z:=by
 refine aK fun G9 k9=> ?_;obtain ⟨i,e1,h⟩:=bind_some h;obtain ⟨_,e2,h⟩:=bind_some h;obtain ⟨k,e3,h⟩:=bind_some h;obtain ⟨t,q⟩:=cZ e1 hv;refine k9 ?_;exact ⟨i,t,k,q,(grd e2).1,e3,h⟩
theorem yM {l:List D} {vs:List Value} {a:Addr} {i:Int} {t:Tok} {k:Nat} {p:D} {s:Shared} (hl:s.heap.IsList a vs.toArray) (hr:RDs C P.own l vs) (hs:small i=true) (hk:cR i l.length=some k) (hp:l[k]? =some p)
  (hQ:∀ v,RD C P.own p v→Q v s):wpAny C.M A (PySem.getItem (.ref a) (.int i t)) Q E s:=by
 obtain ⟨v,hv,hrv⟩:=hr.get hp;have hlen:=hr.length;unfold cR at hk;split at hk
 ·split at hk
  ·rename_i h1 h2
   cases hk;exact wpAny_getItem_list hl h1 (eW hs).2 (by simpa using hv) (hQ v hrv)
  ·cases hk
 ·split at hk
  ·rename_i h1 h2
   cases hk;refine wpAny_getItem_list_neg hl (Fl h1) (by simp [hlen];exact Fk h2) (eW hs).1 (by simpa [hlen] using hv) (hQ v hrv)
  ·cases hk
theorem Bp (G:Good C) (I:Inv C P) {value e:Expr} (he:bP e=true):∀ {u v z:D} {x y:Value},Now C P x u→Now C P y v→RD C P.own v y→getD u v=some z→Fin C P z Q→wpAny C.M A (subscriptTail value e x y) Q E P.s
 | .tup l,v,z,x,y,hu,hv,_,e,k=>by
  refine aK fun G9 k9=> ?_;obtain ⟨i,t,n,q,h1,h2,h3⟩:=pM e hv;refine k9 ?_;rw[q];refine aK fun G9 k9=> ?_;obtain @⟨a,vs,m,h4,h5⟩:SeqV C P.own bN l x:=RD.view hu;obtain ⟨w,h6,h7⟩:=h5.get h3;refine k9 ?_;have ht:IsTup P.h a vs.toArray:=⟨_,I.fz _ _ h4,rfl,m,rfl⟩;exact tail_any ht.typeIs slot_tuple_getitem.lookup (PyProof.Rows.getItem_tuple ht (eW h1).1 (eW h1).2 (by simpa [h5.length] using (nW h2).1) (by simpa using h6) (k.here I h7)) (ca he _ _)
 | .lst l,v,z,x,y,hu,hv,_,e,k=>by
  refine aK fun G9 k9=> ?_;obtain ⟨i,t,n,q,h1,h2,h3⟩:=pM e hv;refine k9 ?_;rw[q];refine aK fun G9 k9=> ?_;obtain @⟨a,vs,m,h4,_,h5⟩:LstV C P l x:=hu;refine k9 ?_;have hl:P.h.IsList a vs.toArray:=⟨_,h4,rfl,_,rfl⟩;exact tail_any hl.typeIs slot_list_getitem.lookup (yM hl h5 h1 h2 h3 fun w hw=>k.here I hw) (ca he _ _)
 | .str l,v,z,x,y,hu,hv,_,e,k=>by
  refine aK fun G9 k9=> ?_;obtain ⟨i,t,n,q,h1,h2,h3⟩:=pM e hv;refine k9 ?_;rw[q];refine aK fun G9 k9=> ?_;obtain ⟨hx,t',r⟩:okS l∧∃ t,x= .str (ofL l) t:=RD.view hu;obtain ⟨c,h4,rfl⟩:=map_some h3;refine k9 ?_;rw[r];have h63:=eW h1;refine tail_any (typeIs_str P.s _ t') F.slot_str_getitem.lookup (PySem.P.getItem_str (c:=c) (by simp;exact And.comm.mp (id (And.symm h63))) ?_ (k.tok I (.str [c] _ ⟨fun d hd=> ?_,by simp [lim]⟩) _)) (ca he _ _)
  ·have:seqIndex? i (Str.length (ofL l))=some n:=by simpa [Str.length] using (nW h2).1
   rw[this]
   simpa using h4
  ·rw[Ki.mp hd];exact hx.1 c (KJ h4)
 | .dct ks ps,v,z,x,y,hu,hv,hr,e,k=>by
  refine aK fun G9 k9=> ?_;obtain ⟨_,e1,e⟩:=bind_some e;obtain @⟨a,o,vs,h1,h2,h3,h4⟩:DicV C P ks ps x:=hu;obtain ⟨d,l,c,hd,h5,rfl,rfl,h6,rfl,h7,h8⟩:=pF h3 hr (grd e1).1;refine k9 ?_
  letI:=d.dec
  have hl:=kU hd c h4;rw[e] at hl;cases q:valueAt l c with
  |none=>rw[q] at hl;exact hl.elim
  |some w=>
   rw[q] at hl;have hM:=(Heap.dictOf_iff.mpr ⟨o,h1,h5⟩).mapOf;exact tail_any hM.typeIs slot_dict_getitem.lookup (wpAny_getItem_of h7 hM q (k.tok I hl _)) (ca he _ _)
 | .none,_,_,_,_,_,_,_,e,_=>nomatch e
 | .bool _,_,_,_,_,_,_,_,e,_=>nomatch e
 | .int _,_,_,_,_,_,_,_,e,_=>nomatch e
 | .rng _ _ _,_,_,_,_,_,_,_,e,_=>nomatch e
 | .exc _,_,_,_,_,_,_,_,e,_=>nomatch e
end
noncomputable def qp (x y:PV):PM PV:=fun σ=>(rd σ x).bind fun u=>(dOf y).bind fun v=>(getD u v).map fun z=>(.ok (.d z),σ)
theorem Am {K:R PV→Sto→Prop} {x y:PV} {σ:Sto} (h:Wp K (qp x y σ)):∃ u v z,rd σ x=some u∧dOf y=some v∧getD u v=some z∧K (.ok (.d z)) σ:=by
 unfold qp at h;cases e1:rd σ x with
 |none=>rw[e1] at h;exact h.elim
 |some u=>
 cases e2:dOf y with
 |none=>rw[e1,e2] at h;exact h.elim
 |some v=>
 cases e3:getD u v with
 |none=>rw[e1,e2,Ka,Ka,e3] at h;exact h.elim
 |some z=>rw[e1,e2,Ka,Ka,e3] at h;exact ⟨u,v,z,rfl,rfl,e3,h⟩
section
variable {X:Cx} {e:Expr} {ρ:Rho} {P:Pt} {K:R PV→Sto→Prop} {Q E:Value→Shared→Prop}
theorem CX (a i:CE) (h:aY (fun v j _=>bP j&&a.is X.sx v&&i.is X.sx j) e=true) (I:Inv X.C P) (G:EnvOK X P ρ) (w:Wp K (bnd (a.ev X.ker ρ) (fun x=>bnd (i.ev X.ker ρ) fun y=>qp x y) P.σ)) (p:aV X (RV X.C) P K Q E):wpAny X.M X.A (eval e X.env) Q E P.s:=
 bv (fun e=>wpAny X.M X.A (eval e X.env) Q E P.s) h fun v j pos h=>Subscript_ (a.ok X v ρ P _ _ E (aj (ag h)) I G (aC w) (p.bind fun x v P1 g1 I1 r1 w p=>
  i.ok X j ρ P1 _ _ E (aj h) I1 (G.ext g1) (aC w) (p.bind fun y u P2 g2 I2 r2 w p=>by
   refine aK fun G9 k9=> ?_;obtain ⟨i,j,z,e1,e2,e3,k⟩:=Am w;refine k9 ?_;have r2:=kF e2 r2;exact Bp X.good I2 (ag (ag h)) (bh I2 (r1.ext g2.toExt) e1) (hV I2 r2) r2 e3 (p.fin k))))
end
noncomputable def sub (a i:CE):CE:=⟨fun K ρ=>bnd (a.ev K ρ) fun x=>bnd (i.ev K ρ) fun y=>qp x y,fun s=>aY fun v j _=>bP j&&a.is s v&&i.is s j,fun _ _ _ _ _ _ _ h I G w p=>CX a i h I G w p⟩
structure CP where
 ev:Ker→Rho→PM PV
 is:Sx→Option Expr→Bool
 ok:∀ (X:Cx) (e:Option Expr) (ρ:Rho) (P:Pt) (K:R PV→Sto→Prop) (Q E:Value→Shared→Prop),is X.sx e=true→Inv X.C P→EnvOK X P ρ→Wp K (ev X.ker ρ P.σ)→aV X (RV X.C) P K Q E→wpAny X.M X.A (evalPart e X.env) Q E P.s
noncomputable def noP:CP:=⟨fun _ _=>ret (.d .none),fun _ e=>e.isNone,fun X e ρ P K Q E h I G w p=>iG (fun e=>wpAny X.M X.A (evalPart e X.env) Q E P.s) h (Kq ((p.fin w).here I .none))⟩
noncomputable def atP (a:CE):CP:=⟨a.ev,fun s=>jst (a.is s),fun X e ρ P K Q E h I G w p=>fc (fun e=>wpAny X.M X.A (evalPart e X.env) Q E P.s) h fun e h=>a.ok X e ρ P K Q E h I G w p⟩
noncomputable def ss (d:Int):D→Option Int
 | .none=>some d
 | .int i=>al (small i=true) i
 |_=>none
noncomputable def yt (d:Nat):D→Option Nat
 | .none=>some d
 | .int i=>al (0≤i) i.toNat
 |_=>none
noncomputable def dj (u lo hi:D):Option D:=match u with
 | .lst s=>(al (s.length≤lim) ()).bind fun _=>(ss 0 lo).bind fun l=>(ss s.length hi).map fun h=>.lst (bY s (cut l s.length) (cut h s.length))
 | .str s=>(yt 0 lo).bind fun l=>(yt s.length hi).bind fun h=>al (l≤h∧h≤s.length) (.str (bY s l h))
 | .tup s=>(yt 0 lo).bind fun l=>(yt s.length hi).bind fun h=>al (l≤h∧h≤s.length∧h - l<s.length∧s.length≤lim) (.tup (bY s l h))
 |_=>none
section
variable {C:Cfg} {A:Around} {P:Pt} {Q E:Value→Shared→Prop}
theorem zP (j:Int) (m:Nat):clipAt m j=cut j m:=by
 unfold clipAt cut;by_cases h:j<0
 ·rw[if_pos h,if_pos h,Int.min_eq_left (Ii h)];rcases Int.le_total 0 (j+m) with q|q
  ·rw[Int.max_eq_right q]
  ·rw[Int.max_eq_left q,Int.toNat_of_nonpos q];rfl
 ·rw[if_neg h,if_neg h];obtain ⟨n,rfl⟩:=Int.eq_ofNat_of_zero_le (Lg.mp h);rcases Nat.le_total n m with q|q
  ·rw[Int.min_eq_left (KS.mpr q),Int.max_eq_right (Le n)];exact (Nat.min_eq_left q).symm
  ·rw[Int.min_eq_right (KS.mpr q),Int.max_eq_right (Le m)];exact (Nat.min_eq_right q).symm
theorem mP {w:a'} {v:Value} {n i:Int}:∀ {p:D},RD C w p v→ss n p=some i→∃ o:Option Int,IsPart v o∧∀ m:Nat,(o.elim (cut n m) (clipAt m))=cut i m
 | .none,r,e=>by
  cases e;rw[show v= .none from r.view];exact ⟨none,.none,fun m=>rfl⟩
 | .int j,r,e=>by
  obtain ⟨t,q⟩:∃ t,v= .int j t:=r.view;rw[q];rw[←(grd e).2];exact ⟨some j,.int j t,fun m=>zP j m⟩
 | .bool _,_,e=>nomatch e
 | .str _,_,e=>nomatch e
 | .tup _,_,e=>nomatch e
 | .lst _,_,e=>nomatch e
 | .dct _ _,_,e=>nomatch e
 | .rng _ _ _,_,e=>nomatch e
 | .exc _,_,e=>nomatch e
theorem BI (n:Nat):cut (n:Int) n=n:=by
 unfold cut;rw[if_neg (o10)];simp
theorem wu {l:List D} {x vl vu:Value} {lo hi z:D} (I:Inv C P) (hu:LstV C P l x) (r1:RD C P.own lo vl) (r2:RD C P.own hi vu) (e:dj (.lst l) lo hi=some z) (k:Fin C P z Q):
  wpAny C.M A (PySem.getItem x (.ref P.h.objs.size)) Q E {P.s with heap:=P.h.push {cls:=.type "slice",data:=.fields #[vl,vu,.none]}}:=by
 refine aK fun G9 k9=> ?_;obtain @⟨a,vs,n,g,_,r⟩:=hu;obtain ⟨_,e1,e⟩:=bind_some e;obtain ⟨i,e2,e⟩:=bind_some e;obtain ⟨j,e3,rfl⟩:=map_some e;obtain ⟨o1,p1,q1⟩:=mP r1 e2;obtain ⟨o2,p2,q2⟩:=mP r2 e3;refine k9 ?_;have hlen:=r.length;have hl:(P.h.push {cls:=.type "slice",data:=.fields #[vl,vu,.none]}).IsList a vs.toArray:=⟨_,Kl _ g,rfl,_,rfl⟩;have z1:o1.elim 0 (clipAt vs.length)=cut i l.length:=by
  have h:=q1 l.length;rw[show cut 0 l.length=0 by unfold cut;rw[if_neg (by decide)];simp] at h;rw[hlen,h]
 have z2:o2.elim vs.length (clipAt vs.length)=cut j l.length:=by
  have h:=q2 l.length;rw[BI] at h;rw[hlen,h]
 have e8:slicePick vs.toArray o1 o2 none=(bY vs (cut i l.length) (cut j l.length)).toArray:=by
  rw[slicePick_plain];simp only [Kz,z1,z2];rfl
 refine wpAny_getItem_list_slice hl (Heap.IsSliceOf.new ..) p1 p2 .none (by simp) ?_ (by rw[Kz,hlen];exact Km (grd e1).1 (by decide));rw[e8];have hn:=Kx (P.h.push {cls:=.type "slice",data:=.fields #[vl,vu,.none]}) (o:=aE (bY vs (cut i l.length) (cut j l.length)) 0) rfl;have q:=k.note I ⟨fun b o e=>Kl _ (Kl _ e),I.off (by rw[Heap.size_push];exact KZ _),I.out (by rw[Heap.size_push];exact KZ _),hn⟩ P.s.toks (fW I (I.off (by rw[Heap.size_push];exact KZ _)) ((r.drop _).take _) rfl);exact q
theorem kT {w:a'} {v:Value} {n i:Nat}:∀ {p:D},RD C w p v→yt n p=some i→∃ o:Option (Int×Tok),v=partValue o∧o.map (·.1)=(if o.isSome then some (i:Int) else none)∧(o=none→i=n)
 | .none,r,e=>by
  cases e;exact ⟨none,r.view,rfl,fun _=>rfl⟩
 | .int j,r,e=>by
  obtain ⟨t,q⟩:∃ t,v= .int j t:=r.view;obtain ⟨h,rfl⟩:=grd e;exact ⟨some (j,t),q,by show some j=some (j.toNat:Int);rw[KV h],fun h=>(nomatch h)⟩
 | .bool _,_,e=>nomatch e
 | .str _,_,e=>nomatch e
 | .tup _,_,e=>nomatch e
 | .lst _,_,e=>nomatch e
 | .dct _ _,_,e=>nomatch e
 | .rng _ _ _,_,e=>nomatch e
 | .exc _,_,e=>nomatch e
theorem oO {x:Str} {l u:Option Int} {a b:Nat} (hab:a≤b) (hb:b≤x.length) (hl:l=some (a:Int)∨(l=none∧a=0)) (hu:u=some (b:Int)∨(u=none∧b=x.length)):StrLaws.sliceText x l u=⟨((x.cps.toList.drop a).take (b - a)).toArray⟩:=by
 rw[←StrLaws.sliceText_nat x hab hb];unfold StrLaws.sliceText;have e:Builtin.Str.strSliceIndices l u 1 x.length=Builtin.Str.strSliceIndices (some (a:Int)) (some (b:Int)) 1 x.length:=by
  rcases hl with rfl|⟨rfl,rfl⟩
  ·rcases hu with rfl|⟨rfl,rfl⟩
   ·rfl
   ·rw[StrLaws.sliceIdx_none_hi]
  ·rcases hu with rfl|⟨rfl,rfl⟩
   ·rw[StrLaws.sliceIdx_none_lo];rfl
   ·rw[StrLaws.sliceIdx_none_lo,StrLaws.sliceIdx_none_hi];rfl
 rw[e]
theorem wt {l:List Nat} {x vl vu:Value} {lo hi z:D} (I:Inv C P) (hu:okS l∧∃ t,x= .str (ofL l) t) (r1:RD C P.own lo vl) (r2:RD C P.own hi vu) (e:dj (.str l) lo hi=some z) (k:Fin C P z Q):
  wpAny C.M A (PySem.getItem x (.ref P.h.objs.size)) Q E {P.s with heap:=P.h.push {cls:=.type "slice",data:=.fields #[vl,vu,.none]}}:=by
 refine aK fun G9 k9=> ?_;obtain ⟨ho,t,hx⟩:=hu;obtain ⟨i,e2,e⟩:=bind_some e;obtain ⟨j,e3,e⟩:=bind_some e;obtain ⟨⟨q1,q2⟩,rfl⟩:=grd e;obtain ⟨o1,f1,p1,z1⟩:=kT r1 e2;obtain ⟨o2,f2,p2,z2⟩:=kT r2 e3;refine k9 ?_;have hs:=oO (x:=ofL l) (l:=o1.map (·.1)) (u:=o2.map (·.1)) q1 q2 (by
  cases o1 with
  |none=>exact .inr ⟨rfl,z1 rfl⟩
  |some o=>exact .inl p1) (by
  cases o2 with
  |none=>exact .inr ⟨rfl,z2 rfl⟩
  |some o=>exact .inl p2)
 rw[hx];refine wpAny_getItem_str_slice (l:=o1) (u:=o2) (st:=none) ⟨_,Kx _ rfl,rfl,by rw[f1,f2];rfl⟩ rfl (post_val_or_str ⟨?_,fun t' n=> ?_⟩)
 ·show (StrLaws.sliceText (ofL l) (o1.map (·.1)) (o2.map (·.1))).length≤sizeLine;rw[hs];show ((l.drop i).take (j - i)).toArray.size≤sizeLine;rw[Kz,List.length_take,List.length_drop];exact Km (Km (Nat.min_le_right _ _) (Nat.sub_le _ _)) (Km ho.2 (by decide))
 ·have q:=k.grown I (h':=P.h.push {cls:=.type "slice",data:=.fields #[vl,vu,.none]}) (v:=.str (StrLaws.sliceText (ofL l) (o1.map (·.1)) (o2.map (·.1))) t') (fun b o e=>Kl _ e) (by
   rw[hs];refine .str _ t' ⟨fun c hc=>ho.1 c (List.mem_of_mem_drop (List.mem_of_mem_take hc)),?_⟩;rw[bY,List.length_take,List.length_drop];exact Km (Km (Nat.min_le_right _ _) (Nat.sub_le _ _)) ho.2) n
  exact q
theorem J9 {o1 o2:Option Int} {i j n:Nat} (h1:o1=some (i:Int)∨(o1=none∧i=0)) (h2:o2=some (j:Int)∨(o2=none∧j=n)) (hij:i≤j) (hj:j≤n):Builtin.Slice.sliceAdjust o1 o2 1 (n:Int)=((i:Int),(j:Int)):=by
 have a1:¬((1:Int)<0):=by decide
 have a2:¬((i:Int)<0):=o10;have a3:¬((j:Int)<0):=o10;have a4:min (i:Int) (n:Int)=i:=by exact Int.min_eq_left (KS.mpr (Km hij hj))
 have a5:min (j:Int) (n:Int)=j:=by exact Int.min_eq_left (KS.mpr hj)
 rcases h1 with rfl|⟨rfl,rfl⟩<;>rcases h2 with rfl|⟨rfl,rfl⟩<;>simp only [Builtin.Slice.sliceAdjust,a1,a2,a3,a4,a5,if_false]<;>rfl
theorem GI {i j:Nat} (h:i≤j):Builtin.Slice.slicePlaces (i:Int) (j:Int) 1=j - i:=by
 unfold Builtin.Slice.slicePlaces;rw[if_pos (by decide),Int.ediv_one,Int.sub_add_cancel];split
 ·exact Int.toNat_sub j i
 ·rename_i q
  exact (Nat.sub_eq_zero_of_le (KS.mp (Lg.mp q))).symm
theorem qK {o:Option (Int×Tok)} {s:Shared} {Q:Option Int→Shared→Prop} (h:Q (o.map (·.1)) s):wpAny C.M A (Builtin.Slice.slicePartIndex (partValue o)) Q E s:=by
 cases o with
 |none=>exact slicePart_none h
 |some p=>exact slicePart_int h
theorem Aj {sl:Addr} {o1 o2:Option (Int×Tok)} {i j n:Nat} {s:Shared} {Q:Int×Int×Nat→Shared→Prop} (hs:s.heap.IsSliceOf sl (partValue o1) (partValue o2) .none) (h1:o1.map (·.1)=some (i:Int)∨(o1.map (·.1)=none∧i=0)) (h2:o2.map (·.1)=some (j:Int)∨(o2.map (·.1)=none∧j=n)) (hij:i≤j) (hj:j≤n) (h:Q ((i:Int),1,j - i) s):
  wpAny C.M A (Builtin.Slice.sliceApplied (.ref sl) (pure (n:Int))) Q E s:=by
 obtain ⟨os,hos,hcs,hds⟩:=id hs;unfold Builtin.Slice.sliceApplied Builtin.Slice.sliceFields;refine Kp (Kp (wpAny_field hos hds (x:=partValue o1) rfl (Kp (wpAny_field hos hds (x:=partValue o2) rfl (Kp (wpAny_field hos hds (x:=.none) rfl (Kq ?_)))))));refine Kp (slicePart_none ?_);show wpAny _ _ (if ((1:Int)==0)=true then _ else _) _ _ s;rw[if_neg (by decide)];refine Kp (qK (Kp (qK (Kp (Kq ?_)))));show wpAny _ _ (match Builtin.Slice.sliceAdjust (o1.map (·.1)) (o2.map (·.1)) 1 (n:Int) with|(lo,hi)=>pure (lo,(1:Int),Builtin.Slice.slicePlaces lo hi 1)) _ _ s
 rw[J9 h1 h2 hij hj];show wpAny _ _ (pure ((i:Int),(1:Int),Builtin.Slice.slicePlaces (i:Int) (j:Int) 1)) _ _ s;rw[GI hij];exact Kq h
theorem EH (xs:List Value) (i j:Nat):((List.range (j - i)).filterMap fun (k:Nat)=>xs.toArray[((i:Int)+(k:Int)*1).toNat]?).toArray=(bY xs i j).toArray:=by
 have e:(fun (k:Nat)=>xs.toArray[((i:Int)+(k:Int)*1).toNat]?)=(fun x=>xs.toArray[x]?) ∘ fun k=>i+k:=by
  funext k;have:((i:Int)+(k:Int)*1).toNat=i+k:=Ih;rw[this];rfl
 rw[e,←List.filterMap_map,pick_run];rfl
theorem wg {t sl:Addr} {vs:List Value} {o1 o2:Option (Int×Tok)} {i j:Nat} {s:Shared} {Q:Value→Shared→Prop} (ht:IsTup s.heap t vs.toArray) (hs:s.heap.IsSliceOf sl (partValue o1) (partValue o2) .none) (h1:o1.map (·.1)=some (i:Int)∨(o1.map (·.1)=none∧i=0)) (h2:o2.map (·.1)=some (j:Int)∨(o2.map (·.1)=none∧j=vs.length)) (hij:i≤j) (hj:j≤vs.length) (hp:j - i<vs.length) (hsz:vs.length≤sizeLine)
  (h:Q (.ref s.heap.objs.size) {s with heap:=s.heap.push {cls:=.type "tuple",data:=.seq (bY vs i j).toArray}}):wpAny C.M A (PySem.getItem (.ref t) (.ref sl)) Q E s:=by
 have hok:sizeOk (.seq (bY vs i j).toArray):=by
  show (bY vs i j).toArray.size≤sizeLine;rw[Kz,bY,List.length_take,List.length_drop];exact Km (Nat.min_le_right _ _) (Km (Nat.sub_le _ _) hsz)
 obtain ⟨os,hos,hcs,hds⟩:=id hs;have hT:s.TypeIs (.ref sl) "slice":=⟨os,hos,hcs⟩;unfold PySem.getItem
 try with_reducible refine wpAny_holding ?_
 first|refine Kp (Kq ?_)|skip
 refine Kp (wpAny_sequenceKey ht.typeIs (by decide) ?_);refine Kp (wpAny_callSpecial?_slot (name:=Str.ofString "__getitem__") ht.typeIs slot_tuple_getitem
  (wpAny_call_entry slot_tuple_getitem ht.typeIs entry_tuple_getitem ?_ (args_tuple_getitem _ _)))
 show wpAny _ _ (Builtin.Tuple.tupleItemsOf (.ref t)>>=_) _ _ s;refine Kp (tupleItemsOf_ ht ?_);refine Kp (wpAny_typeOf hT ?_);rw[if_pos (by decide)];rw[Kz];refine Kp (Aj hs h1 h2 hij hj ?_);have hno:¬(((i:Int)==0&&(1:Int)==1&&(j - i)==vs.toArray.size)=true):=by
  have:((j - i)==vs.toArray.size)=false:=by rw[beq_eq_false_iff_ne,Kz];exact Nat.ne_of_lt hp
  rw[this,Bool.and_false];exact KC
 show wpAny _ _ (if ((i:Int)==0&&(1:Int)==1&&(j - i)==vs.toArray.size)=true then _ else _) _ _ s;rw[if_neg hno,EH]
 first
  |exact Kp (m:=Builtin.Tuple.tupleExact _) (wpAny_newObj_type (Kq ⟨_,rfl,Kq h⟩) hok)
  |exact Kp (m:=Builtin.Tuple.tupleExact _) (wpAny_newObj_type (Kp (Kq (Kq ⟨_,rfl,Kq h⟩))) hok)
  |exact Kp (Kp (m:=Builtin.Tuple.tupleExact _) (wpAny_newObj_type (Kq (Kq ⟨_,rfl,Kq h⟩)) hok))
  |exact Kp (Kp (m:=Builtin.Tuple.tupleExact _) (wpAny_newObj_type (Kq ⟨_,rfl,Kq h⟩) hok))
theorem wr {l:List D} {x vl vu:Value} {lo hi z:D} (I:Inv C P) (hu:SeqV C P.own bN l x) (r1:RD C P.own lo vl) (r2:RD C P.own hi vu) (e:dj (.tup l) lo hi=some z) (k:Fin C P z Q):
  wpAny C.M A (PySem.getItem x (.ref P.h.objs.size)) Q E {P.s with heap:=P.h.push {cls:=.type "slice",data:=.fields #[vl,vu,.none]}}:=by
 refine aK fun G9 k9=> ?_;obtain @⟨a,vs,n,g,r⟩:=hu;obtain ⟨i,e2,e⟩:=bind_some e;obtain ⟨j,e3,e⟩:=bind_some e;obtain ⟨⟨q1,q2,q3,q4⟩,rfl⟩:=grd e;obtain ⟨o1,f1,p1,z1⟩:=kT r1 e2;obtain ⟨o2,f2,p2,z2⟩:=kT r2 e3;refine k9 ?_;have hlen:=r.length;have ht:IsTup (P.h.push {cls:=.type "slice",data:=.fields #[vl,vu,.none]}) a vs.toArray:=⟨_,Kl _ (I.fz _ _ g),rfl,n,rfl⟩;refine wg (o1:=o1) (o2:=o2) (i:=i) (j:=j) ht (by rw[←f1,←f2];exact Heap.IsSliceOf.new ..) (by
  cases o1 with
  |none=>exact .inr ⟨rfl,z1 rfl⟩
  |some o=>exact .inl p1) (by
  cases o2 with
  |none=>exact .inr ⟨rfl,by rw[hlen];exact z2 rfl⟩
  |some o=>exact .inl p2) q1 (by rw[hlen];exact q2) (by rw[hlen];exact q3) (by rw[hlen];exact Km q4 (by decide)) ?_
 have hn:=Kx (P.h.push {cls:=.type "slice",data:=.fields #[vl,vu,.none]}) (o:=bN (bY vs i j) 0) rfl;exact k.note I ⟨fun b o e=>Kl _ (Kl _ e),I.off (by rw[Heap.size_push];exact KZ _),I.out (by rw[Heap.size_push];exact KZ _),hn⟩ P.s.toks (oU I (I.off (by rw[Heap.size_push];exact KZ _)) ((r.drop _).take _) rfl)
theorem xK {value:Expr} {le ue:Option Expr} {sp:Pos} (I:Inv C P) {vl vu:Value}:∀ {u lo hi z:D} {x:Value},Now C P x u→RD C P.own lo vl→RD C P.own hi vu→dj u lo hi=some z→Fin C P z Q→
  wpAny C.M A (subscriptTail value (.Slice le ue none sp) x (.ref P.h.objs.size)) Q E {P.s with heap:=P.h.push {cls:=.type "slice",data:=.fields #[vl,vu,.none]}}
 | .lst l,lo,hi,z,x,hu,r1,r2,e,k=>by
  have q:=wu (A:=A) (E:=E) I hu r1 r2 e k;refine aK fun G9 k9=> ?_;obtain @⟨a,vs,n,g,_,r⟩:LstV C P l x:=hu;refine k9 ?_;have hl:(P.h.push {cls:=.type "slice",data:=.fields #[vl,vu,.none]}).IsList a vs.toArray:=⟨_,Kl _ g,rfl,_,rfl⟩;exact tail_any hl.typeIs list_getitem_lookup q (ops:=[.ref P.h.objs.size,.ref a]) rfl
 | .str l,lo,hi,z,x,hu,r1,r2,e,k=>by
  have q:=wt (A:=A) (E:=E) I (RD.view hu) r1 r2 e k;obtain ⟨_,t,hx⟩:okS l∧∃ t,x= .str (ofL l) t:=RD.view hu;rw[hx] at q ⊢;exact tail_any (typeIs_str _ _ t) F.slot_str_getitem.lookup q (ops:=[.ref P.h.objs.size,.str (ofL l) t]) rfl
 | .tup l,lo,hi,z,x,hu,r1,r2,e,k=>by
  have q:=wr (A:=A) (E:=E) I (RD.view hu) r1 r2 e k;refine aK fun G9 k9=> ?_;obtain @⟨a,vs,n,g,r⟩:SeqV C P.own bN l x:=RD.view hu;refine k9 ?_;have ht:IsTup (P.h.push {cls:=.type "slice",data:=.fields #[vl,vu,.none]}) a vs.toArray:=⟨_,Kl _ (I.fz _ _ g),rfl,n,rfl⟩;exact tail_any ht.typeIs slot_tuple_getitem.lookup q (ops:=[.ref P.h.objs.size,.ref a]) rfl
 | .none,_,_,_,_,_,_,_,e,_=>nomatch e
 | .bool _,_,_,_,_,_,_,_,e,_=>nomatch e
 | .int _,_,_,_,_,_,_,_,e,_=>nomatch e
 | .dct _ _,_,_,_,_,_,_,_,e,_=>nomatch e
 | .rng _ _ _,_,_,_,_,_,_,_,e,_=>nomatch e
 | .exc _,_,_,_,_,_,_,_,e,_=>nomatch e
end
noncomputable def oN (x lo hi:PV):PM PV:=fun σ=>(rd σ x).bind fun u=>(dOf lo).bind fun l=>(dOf hi).bind fun h=>(dj u l h).map fun z=>(.ok (.d z),σ)
theorem wd {K:R PV→Sto→Prop} {x lo hi:PV} {σ:Sto} (h:Wp K (oN x lo hi σ)):∃ u l v z,rd σ x=some u∧dOf lo=some l∧dOf hi=some v∧dj u l v=some z∧K (.ok (.d z)) σ:=by
 unfold oN at h;cases e1:rd σ x with
 |none=>rw[e1] at h;exact h.elim
 |some u=>
 cases e2:dOf lo with
 |none=>rw[e1,e2] at h;exact h.elim
 |some l=>
 cases e4:dOf hi with
 |none=>rw[e1,e2,e4] at h;exact h.elim
 |some v=>
 cases e3:dj u l v with
 |none=>rw[e1,e2,e4,Ka,Ka,Ka,e3] at h;exact h.elim
 |some z=>rw[e1,e2,e4,Ka,Ka,Ka,e3] at h;exact ⟨u,l,v,z,rfl,rfl,rfl,e3,h⟩
section
variable {X:Cx} {e:Expr} {ρ:Rho} {P:Pt} {K:R PV→Sto→Prop} {Q E:Value→Shared→Prop}
theorem CZ (a:CE) (lo hi:CP) (h:uM (fun v l u=>a.is X.sx v&&lo.is X.sx l&&hi.is X.sx u) e=true) (I:Inv X.C P) (G:EnvOK X P ρ) (w:Wp K (bnd (a.ev X.ker ρ) (fun x=>bnd (lo.ev X.ker ρ) fun l=>bnd (hi.ev X.ker ρ) fun h=>oN x l h) P.σ)) (p:aV X (RV X.C) P K Q E):wpAny X.M X.A (eval e X.env) Q E P.s:=
 sB (fun e=>wpAny X.M X.A (eval e X.env) Q E P.s) h fun v l u sp pos h=>Subscript_ (a.ok X v ρ P _ _ E (ag (ag h)) I G (aC w) (p.bind fun x v P1 g1 I1 r1 w p=>
  wpAny_Slice (lo.ok X l ρ P1 _ _ E (aj (ag h)) I1 (G.ext g1) (aC w) (p.bind fun y1 v1 P2 g2 I2 r2 w p=>
   hi.ok X u ρ P2 _ _ E (aj h) I2 ((G.ext g1).ext g2) (aC w) (p.bind fun y2 v2 P3 g3 I3 r3 w p=>by
    refine aK fun G9 k9=> ?_;obtain ⟨u1,u2,u3,z,e1,e2,e3,e4,k⟩:=wd w;refine k9 ?_;rw[evalPart_none];exact Kq (xK I3 (bh I3 ((r1.ext g2.toExt).ext g3.toExt) e1) (kF e2 (r2.ext g3.toExt)) (kF e3 r3) e4 (p.fin k)))))))
end
noncomputable def slc (a:CE) (lo hi:CP):CE:=⟨fun K ρ=>bnd (a.ev K ρ) fun x=>bnd (lo.ev K ρ) fun l=>bnd (hi.ev K ρ) fun h=>oN x l h,fun s=>uM fun v l u=>a.is s v&&lo.is s l&&hi.is s u,fun _ _ _ _ _ _ _ h I G w p=>CZ a lo hi h I G w p⟩
structure BF where
 nm:Str
 val:Value
 mem:(nm,val)∈biNames
 g:Bool→List PV→PM PV
 ok:∀ {C:Cfg} {A:Around} {P:Pt} {hd:Bool} {K:R PV→Sto→Prop} {ps:List PV} {vs:List Value} {Q E:Value→Shared→Prop},Good C→(hd=false→A.handled=none)→Inv C P→RVs C P ps vs→Wp K (g hd ps P.σ)→Post C A (RV C) P K Q E→wpAny C.M A (call val vs) Q E P.s
theorem FX:∀ p∈biNames,(∃ id,p.2= .builtin id)∨(∃ T,p.2= .type T):=by
 have h:biNames.all (fun p=>match p.2 with| .builtin _=>true| .type _=>true|_=>false)=true:=by decide+kernel
 intro p hp;have q:=List.all_eq_true.mp h p hp;cases e:p.2<;>rw[e] at q<;>first|exact .inl ⟨_,rfl⟩|exact .inr ⟨_,rfl⟩|cases q
theorem cK {l:List (Bool×Sem Value)} (h:∀ x∈l,x.1=false):l.any (·.1)=false:=by
 rw[Bool.eq_false_iff];intro q;obtain ⟨x,hx,e⟩:=List.any_eq_true.mp q;rw[h x hx] at e;cases e
theorem cj {M:Model} {A:Around} {E:Value→Shared→Prop} {s:Shared} {f:Value} {l:List (Bool×Sem Value)} {Q:Args→Shared→Prop} (hl:∀ x∈l,x.1=false) (h:wpAny M A (spliced l) (fun vs s'=>Q ⟨vs,[]⟩ s') E s):
  wpAny M A (evalArgs f true l []) Q E s:=by
 cases l with
 |nil=>
  unfold evalArgs;show wpAny M A (spliced []>>=_) Q E s;refine Kp (wpAny_mono h (fun vs s' h'=> ?_) fun _ _ x=>x);refine Kp (Kq ?_);refine wpAny_holding ?_;exact Kp (Kq (Kp (Kq (Kq h'))))
 |cons x r=>
  obtain ⟨b,t⟩:=x;obtain rfl:b=false:=hl _ (.head _);exact Calls.evalArgs_plain h
section
variable {X:Cx} {e:Expr} {ρ:Rho} {P:Pt} {K:R PV→Sto→Prop} {Q E:Value→Shared→Prop}
theorem FY (f:BF) (l:CL) (h:du (fun x es=>x==f.nm&&dg X.sx.sc x&&l.is X.sx es) e=true) (I:Inv X.C P) (G:EnvOK X P ρ) (w:Wp K (bnd (l.ev X.ker ρ) (f.g X.ker.hd) P.σ)) (p:aV X (RV X.C) P K Q E):wpAny X.M X.A (eval e X.env) Q E P.s:=
 dt (fun e=>wpAny X.M X.A (eval e X.env) Q E P.s) h fun x px es pos h=>by
  have hw:=aj (ag h);rw[bg (ag (ag h))] at hw ⊢;have hp:=l.star X.sx es X.env pos (aj h);refine wpAny_Call_NameR (dQ I hw f.mem ?_);have args:wpAny X.M X.A (evalArgs f.val true (backTo pos (starEach es X.env)) []) (fun a s₁=>wpAny X.M X.A (PySem.call f.val ([]++a.pos) a.kw) Q E s₁) E P.s:=
   cj hp (l.ok X es pos ρ P _ _ E (aj h) I G (aC w) (p.bind fun ps vs P1 g1 I1 r1 w p=>f.ok X.good X.hnd I1 r1 w p))
  rcases FX _ f.mem with ⟨id,q⟩|⟨T,q⟩
  ·have q:f.val=_:=q;rw[q] at args ⊢;exact Calls.callWith_builtin (cK hp) args
  ·have q:f.val=_:=q;rw[q] at args ⊢;exact PyProof.Rows.callWith_type (cK hp) args
end
noncomputable def bi (f:BF) (l:CL):CE:=⟨fun K ρ=>bnd (l.ev K ρ) (f.g K.hd),fun s=>du fun x es=>x==f.nm&&dg s.sc x&&l.is s es,fun _ _ _ _ _ _ _ h I G w p=>FY f l h I G w p⟩
noncomputable def g1 (g:D→Option D):List PV→PM PV
 |[x]=>fun σ=>(rd σ x).bind fun u=>(g u).map fun z=>(.ok (.d z),σ)
 |_=>fun _=>none
noncomputable def g2 (g:D→D→Option D):List PV→PM PV
 |[x,y]=>op2 g x y
 |_=>fun _=>none
section
variable {C:Cfg} {A:Around} {P:Pt} {K:R PV→Sto→Prop} {ps:List PV} {vs:List Value} {Q E:Value→Shared→Prop}
inductive RVC (C:Cfg) (P:Pt) (p:PV) (ps:List PV):List Value→Prop
 |mk {v:Value} {vs:List Value}:RV C P v p→RVs C P ps vs→RVC C P p ps (v::vs)
def F7 (C:Cfg) (P:Pt) (vs:List Value):List PV→Prop
 |[]=>vs=[]
 |p::ps=>RVC C P p ps vs
theorem RVs.view (h:RVs C P ps vs):F7 C P vs ps:=by
 cases h with
 |nil=>rfl
 |cons h r=>exact .mk h r
theorem eO {g:D→Option D} (q:List Value→Prop) (I:Inv C P) (r:RVs C P ps vs) (w:Wp K (g1 g ps P.σ)) (k:∀ v u z,Now C P v u→g u=some z→K (.ok (.d z)) P.σ→q [v]):q vs:=by
 match ps,r,w with
 |[x],r,w=>
  obtain ⟨r1,r2⟩:RVC C P x [] vs:=r.view;rw[show _=[] from r2.view];have w:Wp K ((rd P.σ x).bind fun u=>(g u).map fun z=>(.ok (.d z),P.σ)):=w;cases e1:rd P.σ x with
  |none=>rw[e1] at w;exact w.elim
  |some u=>
   cases e2:g u with
   |none=>rw[e1,Ka,e2] at w;exact w.elim
   |some z=>rw[e1,Ka,e2] at w;exact k _ u z (bh I r1 e1) e2 w
 |[],_,w=>exact w.elim
 |_::_::_,_,w=>exact w.elim
theorem zv {g:D→D→Option D} (q:List Value→Prop) (I:Inv C P) (r:RVs C P ps vs) (w:Wp K (g2 g ps P.σ)) (k:∀ x y u v z,Now C P x u→Now C P y v→g u v=some z→K (.ok (.d z)) P.σ→q [x,y]):q vs:=by
 match ps,r,w with
 |[x,y],r,w=>
  obtain ⟨r1,r2⟩:RVC C P x [y] vs:=r.view;obtain ⟨r4,r3⟩:RVC C P y [] _:=r2.view;rw[show _=[] from r3.view];obtain ⟨u,v,z,e1,e2,e3,w⟩:=xp w;exact k _ _ u v z (bh I r1 e1) (bh I r4 e2) e3 w
 |[],_,w=>exact w.elim
 |[_],_,w=>exact w.elim
 |_::_::_::_,_,w=>exact w.elim
noncomputable def A6 (u:D):Option D:=(match u with
 | .str s=>some s.length
 | .tup l=>some l.length
 | .lst l=>some l.length
 |_=>none).bind fun n=>al (n≤lim) (.int (n:Nat))
theorem Dz (I:Inv C P):∀ {u z:D} {v:Value},Now C P v u→A6 u=some z→Fin C P z Q→wpAny C.M A (call (.builtin "len") [v]) Q E P.s
 | .str l,z,v,h,e,k=>by
  obtain ⟨hm,rfl⟩:=grd e;obtain ⟨_,t,q⟩:okS l∧∃ t,v= .str (ofL l) t:=RD.view h;rw[q];have k:=k.tok I (.int _ _) (P.s.toks+1+1) (v:=.int l.length (P.s.toks+1));simp only [lim] at hm;exact PyProof.Rows.len_str (by simp [Str.length];exact o44 hm) (by simpa [Str.length] using k)
 | .tup l,z,v,h,e,k=>by
  obtain ⟨hm,rfl⟩:=grd e;obtain @⟨a,vs,n,o,r⟩:SeqV C P.own bN l v:=RD.view h;have k:=k.tok I (.int _ _) (P.s.toks+1+1) (v:=.int l.length (P.s.toks+1));simp only [lim] at hm;exact PyProof.Rows.len_tuple (items:=vs.toArray) ⟨_,I.fz _ _ o,rfl,n,rfl⟩ (by simp [r.length];exact o44 hm) (by simpa [r.length] using k)
 | .lst l,z,v,h,e,k=>by
  obtain ⟨hm,rfl⟩:=grd e;obtain @⟨a,vs,n,o,_,r⟩:LstV C P l v:=h;have k:=k.tok I (.int _ _) (P.s.toks+1+1) (v:=.int l.length (P.s.toks+1));simp only [lim] at hm;exact PyProof.Rows.len_list (items:=vs.toArray) ⟨_,o,rfl,_,rfl⟩ (by simp [r.length];exact o44 hm) (by simpa [r.length] using k)
 | .none,_,_,_,e,_=>nomatch e
 | .bool _,_,_,_,e,_=>nomatch e
 | .int _,_,_,_,e,_=>nomatch e
 | .dct _ _,_,_,_,e,_=>nomatch e
 | .rng _ _ _,_,_,_,e,_=>nomatch e
 | .exc _,_,_,_,e,_=>nomatch e
end
noncomputable def fLen:BF:=⟨"len",.builtin "len",by decide+kernel,fun _=>g1 A6,fun {C A P hd K ps vs Q E} _ _ I r w p=>eO (fun vs=>wpAny C.M A (call (.builtin "len") vs) Q E P.s) I r w fun v u z h e k=>Dz I h e (p.fin k)⟩
noncomputable def GG (u:D):Option D:=(iD u).bind fun b=>al (small b=true) (.rng 0 b 1)
noncomputable def fRange:BF:=⟨"range",.type "range",by decide+kernel,fun _=>g1 GG,fun {C A P hd K ps vs Q E} _ _ I r w p=>eO (fun vs=>wpAny C.M A (call (.type "range") vs) Q E P.s) I r w fun v u z h e k=>by
 obtain ⟨b,e1,e⟩:=bind_some e;obtain ⟨hs,rfl⟩:=grd e;obtain ⟨t,q⟩:=cZ e1 h;rw[q];exact call_range_1 ((p.fin k).note I (I.push rfl) _ (.rng 0 b 1 _ _ _ (bn _ _ _)))⟩
noncomputable def fTuple:BF:=⟨"tuple",.type "tuple",by decide+kernel,fun _=>g1 fun u=>(lD u).bind fun l=>al (l.length≤lim) (.tup l),fun {C A P hd K ps vs Q E} _ _ I r w p=>eO (fun vs=>wpAny C.M A (call (.type "tuple") vs) Q E P.s) I r w fun v u z h e k=>by
 obtain ⟨l,e1,e⟩:=bind_some e;obtain ⟨hm,rfl⟩:=grd e;obtain @⟨a,vs,n,o,_,rr⟩:=fA e1 h;refine call_tuple_list (items:=vs.toArray) ⟨_,o,rfl,_,rfl⟩ (fun h' kp=> ?_) (by rw[Kz,rr.length];exact Km hm (by decide));have hn:h'.objs.size≥P.h.objs.size∨True:=.inr trivial;have own:P.own h'.objs.size= .no:=by
  by_cases q:P.own h'.objs.size= .no
  ·exact q
  ·obtain ⟨o,ho⟩:=I.live _ q;exact absurd (KN (kp _ _ ho)) (KY _)
 have H:C.H.get? h'.objs.size=none:=by
  cases q:C.H.get? h'.objs.size with
  |none=>rfl
  |some o=>exact absurd (KN (kp _ _ (I.base _ _ q).1)) (KY _)
 exact (p.fin k).note I ⟨fun b o e=>Kl _ (kp b o e),own,H,Kx _ rfl⟩ P.s.toks (oU I own rr rfl)⟩
noncomputable def im:List D→Option (List Bool)
 |[]=>some []
 | .bool b::r=>(im r).map (b::·)
 |_=>none
noncomputable def off {α:Type} (hd:Bool) (m:PM α):PM α:=fun σ=>match hd with
 |true=>none
 |false=>m σ
theorem dM {α:Type} {hd:Bool} {K:R α→Sto→Prop} {m:PM α} {σ:Sto} (w:Wp K (off hd m σ)):hd=false∧Wp K (m σ):=by
 cases hd with
 |true=>exact w.elim
 |false=>exact ⟨rfl,w⟩
theorem mQ {C:Cfg} {w:a'}:∀ {l:List D} {vs:List Value} {bs:List Bool},RDs C w l vs→im l=some bs→vs=bs.map Value.bool
 |[],vs,bs,r,e=>by cases e;exact r.view
 | .bool b::l,vs,bs,r,e=>by
  obtain ⟨r1,r2⟩:ConsV C w (.bool b) l vs:=r.view;obtain ⟨bs',e1,rfl⟩:=map_some e;rw[show _=Value.bool b from r1.view,mQ r2 e1];rfl
 | .none::_,_,_,_,e=>nomatch e
 | .int _::_,_,_,_,e=>nomatch e
 | .str _::_,_,_,_,e=>nomatch e
 | .tup _::_,_,_,_,e=>nomatch e
 | .lst _::_,_,_,_,e=>nomatch e
 | .dct _ _::_,_,_,_,e=>nomatch e
 | .rng _ _ _::_,_,_,_,e=>nomatch e
 | .exc _::_,_,_,_,e=>nomatch e
theorem xn {bs:List Bool}:(List.range bs.length).all (fun i=>(bs[i]?).getD true)=bs.all id:=by
 rw[Bool.eq_iff_iff,List.all_eq_true,List.all_eq_true];constructor
 ·intro h b hb;obtain ⟨i,hi⟩:=List.mem_iff_getElem?.mp hb;have:=h i (List.mem_range.mpr (Kg.mp hi).1);rw[hi] at this
  simpa using this
 ·intro h i hi;have hi':=List.mem_range.mp hi;rw[Kh hi']
  simpa using h _ (List.getElem_mem hi')
theorem En {C:Cfg} {A:Around} {P:Pt} {Q E:Value→Shared→Prop} {l:List D} {v:Value} {bs:List Bool} (I:Inv C P) (hh:A.handled=none) (h:LstV C P l v) (e2:im l=some bs) (k:Fin C P (.bool (bs.all id)) Q):wpAny C.M A (call (.builtin "all") [v]) Q E P.s:=by
 obtain @⟨a,vs,q,g,_,hs⟩:=h;have hvs:=mQ hs e2;have hl:P.h.IsList a vs.toArray:=⟨_,g,rfl,_,rfl⟩;have hane:a≠P.h.objs.size:=Nat.ne_of_lt (KN g);refine call_all_walk (wpAny_pyIter_list hl ?_);refine ⟨_,_,_,_,_,_,fun i=>(bs[i]?).getD true,rfl,Walks.list (A:=A.in1) hh P.h.objs.size _ hane vs.toArray,⟨⟨_,Kx _ rfl,rfl,rfl⟩,hl.at fun o e=>Kl _ e⟩,?_,fun h' tk kp=> ?_⟩
 ·intro i v s' Q' E' hP hQ;rw[hvs] at hP;simp only [List.getElem?_toArray,Ku] at hP;obtain ⟨b,hb,rfl⟩:=K2.mp hP;dsimp only at hQ;rw[hb] at hQ;exact wpAny_truthy_bool hQ
 ·have hn:vs.toArray.size=bs.length:=by simp [hvs]
  rw[hn,xn];refine k.grown I (fun b o e=>kp b o (fun hm=> ?_) (Kl _ e)) (.bool _) _;rw[Ki.mp hm] at e;exact absurd (KN e) (KY _)
noncomputable def fAll:BF:=⟨"all",.builtin "all",by decide+kernel,fun hd ps=>off hd (g1 (fun u=>(lD u).bind fun l=>(im l).map fun bs=>.bool (bs.all id)) ps),fun {C A P hd K ps vs Q E} _ hh I r w p=>eO (fun vs=>wpAny C.M A (call (.builtin "all") vs) Q E P.s) I r (dM w).2 fun v u z h e k=>by
 obtain ⟨l,e1,e⟩:=bind_some e;obtain ⟨bs,e2,rfl⟩:=map_some e;exact En I (hh (dM w).1) (fA e1 h) e2 (p.fin k)⟩
structure MF where
 nm:Str
 T:String
 id:String
 pa:PlainAttrs T
 sl:Slot T nm id
 ty:typeOf (.builtin id)=pure (.type "method_descriptor")
 fit:PV→D→Bool
 fitok:∀ {C:Cfg} {P:Pt} {v:Value} {p:PV} {x:D},Inv C P→RV C P v p→rd P.σ p=some x→fit p x=true→P.s.TypeIs v T∧∀ a,v= .ref a→∃ ob,P.h.get? a=some ob∧ob.dict=none
 g:PV→List PV→PM PV
 ok:∀ {C:Cfg} {A:Around} {P:Pt} {K:R PV→Sto→Prop} {x:PV} {ps:List PV} {v:Value} {vs:List Value} {Q E:Value→Shared→Prop},Good C→Inv C P→RV C P v x→RVs C P ps vs→Wp K (g x ps P.σ)→Post C A (RV C) P K Q E→wpAny C.M A (call (.builtin id) (v::vs)) Q E P.s
theorem lx {v:Expr} {x:Str} {env:Env} (h:dl v=true):attributeBase v x env (eval v env)=eval v env:=by
 cases v with
 |Call f es kw pos=>
  cases f<;>first|rfl|skip
  cases es<;>first|rfl|skip
  cases kw<;>first|rfl|(cases h;done)
 |_=>rfl
theorem uy {l:CL} {sx:Sx} {env:Env} {pos:Pos} {es:List Expr} (h:l.is sx es=true) (hl:es.length<29):
  ((backTo pos (starEach es env)).all (fun x=> !x.1)&&(backToKw pos (keywordEach [] env)).all (fun x=>x.1.isSome)&&decide (es.length+([]:List Keyword).length+(if ([]:List Keyword).isEmpty then 0 else 1)<30))=true:=by
 have hp:=l.star sx es env pos h;have h1:(backTo pos (starEach es env)).all (fun x=> !x.1)=true:=List.all_eq_true.mpr fun x hx=>by rw[hp x hx];rfl
 have h2:decide (es.length+([]:List Keyword).length+(if ([]:List Keyword).isEmpty then 0 else 1)<30)=true:=Kr (by simp;exact Nat.lt_succ_of_lt hl);rw[h1,h2];rfl
noncomputable def xc (f:PV→D→Bool) (x:PV) (m:PM PV):PM PV:=fun σ=>match (rd σ x).any (f x) with
 |true=>m σ
 |false=>none
theorem xr {f:PV→D→Bool} {x:PV} {m:PM PV} {K:R PV→Sto→Prop} {σ:Sto} (w:Wp K (xc f x m σ)):(∃ u,rd σ x=some u∧f x u=true)∧Wp K (m σ):=by
 unfold xc at w;cases e:rd σ x with
 |none=>rw[e] at w;exact w.elim
 |some u=>
  rw[e] at w;have w:Wp K (match f x u with|true=>m σ|false=>none):=w
  cases q:f x u with
  |true=>rw[q] at w;exact ⟨⟨u,rfl,q⟩,w⟩
  |false=>rw[q] at w;exact w.elim
section
variable {X:Cx} {e:Expr} {ρ:Rho} {P:Pt} {K:R PV→Sto→Prop} {Q E:Value→Shared→Prop}
theorem FW (f:MF) (o:CE) (l:CL) (h:fH (fun v x ap es pos=>x==f.nm&&dl v&&ap.endLine==pos.line&&o.is X.sx v&&l.is X.sx es&&decide (es.length<29)) e=true) (I:Inv X.C P) (G:EnvOK X P ρ) (w:Wp K (bnd (o.ev X.ker ρ) (fun x=>xc f.fit x (bnd (l.ev X.ker ρ) fun ps=>f.g x ps)) P.σ)) (p:aV X (RV X.C) P K Q E):wpAny X.M X.A (eval e X.env) Q E P.s:=
 fG (fun e=>wpAny X.M X.A (eval e X.env) Q E P.s) h fun v x ap es pos h=>by
  rw[bg (ag (ag (ag (ag (ag h)))))];have hl:=aj (ag h);have hp:=l.star X.sx es X.env pos hl;refine wpAny_Call_method_late (lx (aj (ag (ag (ag (ag h)))))) (uy hl (KX (aj h))) (aj (ag (ag (ag h)))) rfl ?_;refine o.ok X v ρ P _ _ E (aj (ag (ag h))) I G (aC w) (p.bind fun x v P1 g1 I1 r1 w p=> ?_);obtain ⟨⟨u,e1,e2⟩,w⟩:=xr w;obtain ⟨k4,k5⟩:=f.fitok I1 r1 e1 e2;refine ⟨f.T,f.id,f.pa,f.sl,f.ty,k4,k5,?_⟩;refine Calls.callWith_builtin (cK hp) (cj hp ?_);exact l.ok X es pos ρ P1 _ _ E hl I1 (G.ext g1) (aC w) (p.bind fun ps vs P2 g2 I2 r2 w p=>f.ok X.good I2 (r1.ext g2.toExt) r2 w p)
end
noncomputable def bm (f:MF) (o:CE) (l:CL):CE:=⟨fun K ρ=>bnd (o.ev K ρ) fun x=>xc f.fit x (bnd (l.ev K ρ) fun ps=>f.g x ps),fun s=>fH fun v x ap es pos=>x==f.nm&&dl v&&ap.endLine==pos.line&&o.is s v&&l.is s es&&decide (es.length<29),fun _ _ _ _ _ _ _ h I G w p=>FW f o l h I G w p⟩
noncomputable def isL:D→Bool
 | .lst _=>true
 |_=>false
noncomputable def w9:D→Bool
 | .dct _ _=>true
 |_=>false
section
variable {C:Cfg} {A:Around} {P:Pt} {K:R PV→Sto→Prop} {Q E:Value→Shared→Prop}
noncomputable def DP:PV→D→Bool
 | .p _ _,.lst _=>true
 |_,_=>false
theorem By {v:Value} {p:PV} {x:D} (I:Inv C P) (r:RV C P v p) (h:rd P.σ p=some x) (e:DP p x=true):P.s.TypeIs v "list"∧∀ a,v= .ref a→∃ ob,P.h.get? a=some ob∧ob.dict=none:=by
 cases p with
 |d y=>cases e
 |p n j=>
  obtain ⟨f,e1,e2⟩:=Option.bind_eq_some_iff.mp h;have q:=kh I r e1 (fX e2).2;cases f with
  |list l=>
   obtain ⟨_,g,ws,m,e3,_⟩:=q;subst e3;exact ⟨⟨_,g,rfl⟩,fun b q=>by cases q;exact ⟨_,g,rfl⟩⟩
  |dict a b=>cases e2;cases e
  |d y=>cases e2
theorem vM {v:Value} {p:PV} {x:D} (I:Inv C P) (r:RV C P v p) (hh:rd P.σ p=some x) (e:w9 x=true):P.s.TypeIs v "dict"∧∀ a,v= .ref a→∃ ob,P.h.get? a=some ob∧ob.dict=none:=by
 cases x with
 |dct ks ps=>
  obtain ⟨g,_,h,_⟩:DicV C P ks ps v:=bh I r hh;cases h with
  |mk d l _ h1 _=>
   letI:=d.dec
   have hD:=Heap.dictOf_iff.mpr ⟨_,g,h1⟩;exact ⟨hD.typeIs,hD.mapOf.noDict⟩
  |pr xs es ep h1=>
   exact ⟨⟨_,g,h1.1⟩,fun a e=>by cases e;exact ⟨_,g,h1.2.1⟩⟩
 |_=>cases e
noncomputable def B8 (x:PV) (g:Fld→Option Fld):PM PV:=match x with
 | .p n j=>fun σ=>(a8 σ n j).bind fun f=>(g f).map fun f'=>(.ok (.d .none),putAt σ n j f')
 | .d _=>fun _=>none
theorem Al {x:PV} {g:Fld→Option Fld} {σ:Sto} (w:Wp K (B8 x g σ)):∃ n j f f',x= .p n j∧a8 σ n j=some f∧g f=some f'∧K (.ok (.d .none)) (putAt σ n j f'):=by
 cases x with
 |d=>exact w.elim
 |p n j=>
  have w:Wp K ((a8 σ n j).bind fun f=>(g f).map fun f'=>(.ok (.d .none),putAt σ n j f')):=w;cases e1:a8 σ n j with
  |none=>rw[e1] at w;exact w.elim
  |some f=>
   cases e2:g f with
   |none=>rw[e1,Ka,e2] at w;exact w.elim
   |some f'=>rw[e1,Ka,e2] at w;exact ⟨n,j,f,f',rfl,e1,e2,w⟩
theorem vc {o:PO} {j:Nat} {f f':Fld} (h:o.at j=some f):∀ i,o.has i→(o.put j f').has i:=fun i=>by
 cases o with
 |fld=>exact id
 |rcd b l=>intro q;show i<(l.set (j - 2) f').length+2;rw[KG];exact q
 |dead=>exact id
 |wrp _=>exact id
theorem zz {w:a'} {h:Heap} {n i:Nat} {v:Value}:∀ {f:Fld},(∀ x,f≠ .d x)→FOb C w h n (i+2) f v→FA C w h n i v f
 | .d x,hf,_=>absurd rfl (hf x)
 | .list _,_,r=>r
 | .dict _ _,_,r=>r
theorem FOb.is (I:Inv C P) {n j:Nat} {f:Fld} {v:Value} {a:Addr} (q:FOb C P.own P.h n j f v) (ha:P.own a= .cell n j):v= .ref a:=by
 obtain ⟨z1,_,_⟩:=q;rw[I.one _ _ _ _ z1 ha]
theorem C4 {h':Heap} {n j:Nat} {a:Addr} {f f':Fld} {o':Obj} (I:Inv C P) (hf':∀ x,f'≠ .d x) (hf:∀ x,f≠ .d x) (ha:P.own a= .cell n j) (hs:∀ b o,b≠a→P.h.get? b=some o→h'.get? b=some o) (ho:h'.get? a=some o') (r:RF C P.own o' f'):
  ∀ {o:PO},RO C P.own P.h n o→o.at j=some f→RO C P.own h' n (o.put j f'):=by
 have k:∀ b i o,P.own b= .cell n i→i≠j→P.h.get? b=some o→h'.get? b=some o:=fun b i o e ne q=>hs b o (fun c=>by rw[c,ha] at e;cases e;exact ne rfl) q;have fa:∀ (l:List Fld) (i:Nat) (x:Fld) (v:Value),j=i+2→l[i]? =some f→∀ i' y,(l.set i f')[i']? =some y→(∀ y,l[i']? =some y→FA C P.own P.h n i' v y)→(i'=i→v= .ref a)→FA C P.own h' n i' v y:=fun l i x v ej e i' y e' q1 q2=>by
  by_cases c:i=i'
  ·subst c;rw[List.getElem?_set_self (Kg.mp e).1] at e';cases e';rw[q2 rfl];exact zz hf' (.mk (ej ▸ ha) ho r)
  ·rw[KL c] at e';have q:=q1 y e';cases y with
   |d x=>exact q
   |list l=>
    obtain ⟨z1,z2,z3⟩:FOb C P.own P.h n (i'+2) (.list l) v:=q;exact FOb.mk z1 (k _ _ _ z1 (by omega) z2) z3
   |dict ks ps=>
    obtain ⟨z1,z2,z3⟩:FOb C P.own P.h n (i'+2) (.dict ks ps) v:=q;exact FOb.mk z1 (k _ _ _ z1 (by omega) z2) z3
 intro o ro e;rcases o with f0|⟨b,l⟩|_|f0
 ·cases j with
  |zero=>exact ⟨_,.mk ha ho r⟩
  |succ j=>cases e
 ·rcases j with _|_|i
  ·cases e
  ·cases e
  have e:l[i]? =some f:=e;cases b with
  |true=>
  obtain @⟨x,d,es,m,h1,h2,h3,h4,h5,h6,h7,h8⟩:OInst C P.own P.h n l:=ro;refine OInst.mk h1 (k _ _ _ h1 nofun h2) h3 (k _ _ _ h3 (Ig) h4) h5 (by rw[KG];exact h6) (by rw[KG];exact h7) fun i' y en e1 e2=> ?_;refine fa l i y en.val rfl e i' y e1 (fun y q=>h8 i' y en q e2) fun c=> ?_;subst c;exact ((h8 _ f en e e2).at hf).is I ha
  |false=>
  obtain @⟨d,o,kvs,h1,h2,h3,h4,h5,h6,h8⟩:ORcd C P.own P.h n l:=ro;refine ORcd.mk h1 (k _ _ _ h1 nofun h2) h3 (by rw[KG];exact h4) (by rw[KG];exact h5) h6 fun i' y en e1 e2=> ?_;refine fa l i y en.2 rfl e i' y e1 (fun y q=>h8 i' y en q e2) fun c=> ?_;subst c;exact ((h8 _ f en e e2).at hf).is I ha
 ·cases j<;>cases e
 ·rcases j with _|_|_|j
  ·cases e
  ·cases e
  ·obtain ⟨t,vs,q,v,z1,z2,z3,z4⟩:=ro;refine ⟨t,vs,q,v,z1,k t 0 _ z1 nofun z2,z3,?_⟩;rw[z4.is I ha];exact .mk ha ho r
  ·cases e
theorem wB {n j:Nat} {f:Fld} {o:PO} {σ:Sto} (e:σ[n]? =some o):putAt σ n j f=σ.set n (o.put j f):=by
 unfold putAt;rw[e]
theorem kJ {h':Heap} {t n j:Nat} {a:Addr} {f f':Fld} {o':Obj} (I:Inv C P) (hf':∀ x,f'≠ .d x) (hf:∀ x,f≠ .d x) (e:a8 P.σ n j=some f) (ha:P.own a= .cell n j) (hs:∀ b o,b≠a→P.h.get? b=some o→h'.get? b=some o) (ho:h'.get? a=some o') (r:RF C P.own o' f'):
  ∃ P',Grow P P'∧Inv C P'∧P'.σ=putAt P.σ n j f'∧P'.own=P.own∧P'.s={P.s with heap:=h',toks:=t}:=by
 obtain ⟨o,e1,e2⟩:=bind_some e;exact ⟨P.turn h' t n (o.put j f'),.turn e1 (vc e2),I.turn (vc e2) e1 ha hs ho (C4 I hf' hf ha hs ho r (I.obj n o e1) e2),(wB e1).symm,rfl,rfl⟩
theorem jg {s:Shared} {l:Addr} {vs:List Value} {n:Nat} {x:Value} (ho:s.heap.get? l=some (aE vs n)) (hsz:vs.length≤sizeLine)
  (hQ:∀ h' n',h'.get? l=some (aE (vs++[x]) n')→Heap.SameBut l s.heap h'→Q .none {s with heap:=h'}):wpAny C.M A (call (.builtin "list.append") [.ref l,x]) Q E s:=by
 have hl:s.heap.IsList l vs.toArray:=⟨_,ho,rfl,n,rfl⟩;refine wpAny_call_entry slot_list_append hl.typeIs entry_list_append ?_ (args_list_append _ _);show wpAny _ _ (updateSeq l (·.push x)>>=fun _=>PySem.ret .none) _ _ s;have e1:∃ n',(aE vs n).mapSeq (·.push x)=aE (vs++[x]) n':=⟨_,by simp [Obj.mapSeq];rfl⟩;obtain ⟨n',e1⟩:=e1;have g:=Heap.get?_update_self (Obj.mapSeq (·.push x)) ho (by rw[e1];rfl);rw[e1] at g;exact Kp (wpAny_updateSeq (hz:=by simpa using hsz) ho rfl (Kq ⟨.none,rfl,hQ _ n' (by simpa using g) (Heap.SameBut.update ..)⟩))
noncomputable def F3 (y:D):Fld→Option Fld
 | .list l=>al (l.length<lim) (.list (l++[y]))
 |_=>none
noncomputable def F2 (x:PV):List PV→PM PV
 |[.d y]=>B8 x (F3 y)
 |_=>fun _=>none
theorem Ej {x:PV} {ps:List PV} {v:Value} {vs:List Value} (I:Inv C P) (r:RV C P v x) (rs:RVs C P ps vs) (w:Wp K (F2 x ps P.σ)) (p:Post C A (RV C) P K Q E):wpAny C.M A (call (.builtin "list.append") (v::vs)) Q E P.s:=by
 match ps,rs,w with
 |[.d y],rs,w=>
  obtain @⟨u,_,r1,r2⟩:RVC C P (.d y) [] vs:=rs.view;rw[show _=[] from r2.view];obtain ⟨n,j,f,f',e1,e2,e3,k⟩:=Al w;subst e1;cases f with
  |list l=>
   obtain ⟨hl,q⟩:=grd e3;obtain @⟨a,o,h1,h2,h3⟩:=kh I r e2 (fun _ h=>by cases h);obtain ⟨ws,m,e4,rr⟩:=h3;subst q;subst e4;refine jg h2 (by rw[rr.length];exact Km (KU hl) (by decide)) fun h' n' z1 z2=> ?_;obtain ⟨P',q1,q2,q3,q4,q5⟩:=kJ (t:=P.s.toks) (f':=.list (l++[y])) I (fun _ h=>by cases h) (fun _ h=>by cases h) e2 h1 (fun b o hb e=>z2.extBut b o hb e) z1 ⟨_,n',rfl,rr.append (.cons r1 .nil)⟩;have:=p.ok (.d .none) .none P' q1 q2 .none (by rw[q3];exact k);rw[q5] at this;exact this
  |_=>cases e3
 |[],_,w=>exact w.elim
 |[.p _ _],_,w=>exact w.elim
 | .d _::_::_,_,w=>exact w.elim
 | .p _ _::_::_,_,w=>exact w.elim
end
noncomputable def aH:MF:=⟨"append","list","list.append",F.plainAttrs_list,F.slot_list_append,F.type_list_append,DP,By,F2,fun _ I r rs w p=>Ej I r rs w p⟩
noncomputable def zk (u k z:D):Option D:=match u with
 | .dct ks vs=>al (gU k ks=true) ((cU k ks vs).getD z)
 |_=>none
noncomputable def gG (x:PV):List PV→PM PV
 |[.d k,.d z]=>fun σ=>(rd σ x).bind fun u=>(zk u k z).map fun r=>(.ok (.d r),σ)
 |_=>fun _=>none
section
variable {C:Cfg} {A:Around} {P:Pt} {K:R PV→Sto→Prop} {Q E:Value→Shared→Prop}
theorem Bo {u k z y:D} {x vk vz:Value} (G:Good C) (I:Inv C P) (hu:Now C P x u) (hk:RD C P.own k vk) (hz:RD C P.own z vz) (e:zk u k z=some y) (f:Fin C P y Q):wpAny C.M A (call (.builtin "dict.get") [x,vk,vz]) Q E P.s:=by
 cases u with
 |dct ks ps=>
  obtain ⟨hf,q⟩:=grd e;subst q;obtain @⟨a,o,vs,h1,h2,h3,h4⟩:DicV C P ks ps x:=hu;obtain ⟨d,l,c,hd,h5,e1,e2,h6,e3,h7,h8⟩:=pF h3 hk hf;subst e1;subst e2;subst e3
  letI:=d.dec
  have hl:=kU hd c h4;have hD:=Heap.dictOf_iff.mpr ⟨o,h1,h5⟩;have rr:RD C P.own ((cU (d.toD c) (l.map fun p=>d.toD p.1) ps).getD z) ((valueAt l c).getD vz):=by
   revert hl
   cases cU (d.toD c) (l.map fun p=>d.toD p.1) ps<;>cases valueAt l c<;>intro hl<;>first|exact hz|exact hl.elim|exact hl
  exact call_meetsIn PySem.F.slot_dict_get hD.typeIs PySem.F.entry_dict_get (PySem.F.args_dict_get_3 _ _ _) (meets_dict_get_default _ a h7 (ce G I h2) vz) ⟨_,hD.mapOf,f.tok I rr _⟩
 |_=>cases e
theorem DW {x:PV} {ps:List PV} {v:Value} {vs:List Value} (G:Good C) (I:Inv C P) (r:RV C P v x) (rs:RVs C P ps vs) (w:Wp K (gG x ps P.σ)) (p:Post C A (RV C) P K Q E):wpAny C.M A (call (.builtin "dict.get") (v::vs)) Q E P.s:=by
 match ps,rs,w with
 |[.d k,.d z],rs,w=>
  obtain @⟨vk,_,r1,r2⟩:RVC C P (.d k) [.d z] vs:=rs.view;obtain @⟨vz,_,r3,r4⟩:RVC C P (.d z) [] _:=r2.view;rw[show _=[] from r4.view];have w:Wp K ((rd P.σ x).bind fun u=>(zk u k z).map fun r=>(.ok (.d r),P.σ)):=w;cases e1:rd P.σ x with
  |none=>rw[e1] at w;exact w.elim
  |some u=>
   cases e2:zk u k z with
   |none=>rw[e1,Ka,e2] at w;exact w.elim
   |some y=>rw[e1,Ka,e2] at w;exact Bo G I (bh I r e1) r1 r3 e2 (p.fin w)
 |[],_,w=>exact w.elim
 |[_],_,w=>exact absurd w (by cases ‹PV›<;>exact id)
 |[.d _,.p _ _],_,w=>exact w.elim
 | .p _ _::_::_,_,w=>exact w.elim
 | .d _:: .d _::_::_,_,w=>exact w.elim
 | .d _:: .p _ _::_::_,_,w=>exact w.elim
end
noncomputable def wM:MF:=⟨"get","dict","dict.get",F.plainAttrs_dict,F.slot_dict_get,F.type_dict_get,fun _=>w9,vM,gG,fun G I r rs w p=>DW G I r rs w p⟩
noncomputable def inK (u v:D):Option Bool:=match v with
 | .dct ks vs=>al (gU u ks=true) (cU u ks vs).isSome
 |_=>none
section
variable {X:Cx} {e:Expr} {ρ:Rho} {P:Pt} {K:R PV→Sto→Prop} {Q E:Value→Shared→Prop}
theorem Inv.szF {C:Cfg} (I:Inv C P) (h:P.fs≠[]):C.H.objs.size≤P.h.objs.size:=by
 cases q:P.fs with
 |nil=>exact absurd q h
 |cons f r=>
  have z:=I.fr.ns f (by rw[q];exact .head _);exact KU (KE z.2.2 z.1.lt)
theorem om {f:Nat} {ps:List PV} {vs:List Value} (I:Inv X.C P) (G:EnvOK X P ρ) (r:RVs X.C P ps vs) (w:Wp K (X.ker.Φ X.ker.hd f ps P.σ)) (p:aV X (RV X.C) P K Q E):wpAny X.M X.A (call (.ref (X.C.fadr f)) vs) Q E P.s:=
 wpAny_call (X.calls X.hd X.A P f ps vs K Q E G.frs (I.szF G.ne) (by have:=X.dep;exact KE (KW (by decide) _) this) (by have:=X.uni;exact KE (KW (by decide) _) this) X.hnd I r w p)
theorem BS (f:Nat) (l:CL) (h:du (fun x es=>x==(X.sx.fnm f).1&& !(X.sx.fnm f).2&&dg X.sx.sc x&&l.is X.sx es) e=true) (I:Inv X.C P) (G:EnvOK X P ρ) (w:Wp K (bnd (l.ev X.ker ρ) (X.ker.Φ X.ker.hd f) P.σ)) (p:aV X (RV X.C) P K Q E):wpAny X.M X.A (eval e X.env) Q E P.s:=
 dt (fun e=>wpAny X.M X.A (eval e X.env) Q E P.s) h fun x px es pos h=>by
  have hw:=aj (ag h);rw[bg (ag (ag (ag h)))] at hw ⊢;obtain ⟨hn,o,fd,ho,hdata⟩:=X.good.fn f ((Bool.not_eq_true' _).mp (aj (ag (ag h))));refine wpAny_Call_NameR (c7 I hw hn ?_);refine Calls.callWith_function (o:=o) (fd:=fd) (cj (l.star X.sx es X.env pos (aj h)) ?_);exact l.ok X es pos ρ P _ _ E (aj h) I G (aC w) (p.bind fun ps vs P1 g1 I1 r1 w p=>⟨⟨(I1.base _ _ ho).1,hdata⟩,om I1 (G.ext g1) r1 w p⟩)
end
noncomputable def ao (f:Nat) (l:CL):CE:=⟨fun K ρ=>bnd (l.ev K ρ) (K.Φ K.hd f),fun s=>du fun x es=>x==(s.fnm f).1&& !(s.fnm f).2&&dg s.sc x&&l.is s es,fun _ _ _ _ _ _ _ h I G w p=>BS f l h I G w p⟩
noncomputable def bJ (b:Bool) (σ:Sto) (n:Nat):Option (List Fld):=match σ[n]? with
 |some (.rcd c l)=>if c=b then some l else none
 |_=>none
theorem gD {b:Bool} {σ:Sto} {n:Nat} {l:List Fld} (h:bJ b σ n=some l):σ[n]? =some (.rcd b l):=by
 unfold bJ at h;split at h
 ·rename_i c l' e
  split at h
  ·rename_i q;cases h;cases q;exact e
  ·cases h
 ·cases h
noncomputable def ux (n k:Nat):Fld→PV
 | .d x=>.d x
 |_=>.p n (k+2)
noncomputable def kg (b:Bool) (k:Nat):PV→PM PV
 | .p n 0=>fun σ=>(bJ b σ n).bind fun l=>(l[k]?).map fun f=>(.ok (ux n k f),σ)
 |_=>fun _=>none
theorem uQ {b:Bool} {k:Nat} {x:PV} {σ:Sto} {K:R PV→Sto→Prop} (w:Wp K (kg b k x σ)):∃ n l f,x= .p n 0∧σ[n]? =some (.rcd b l)∧l[k]? =some f∧K (.ok (ux n k f)) σ:=by
 match x,w with
 | .p n 0,w=>
  have w:Wp K ((bJ b σ n).bind fun l=>(l[k]?).map fun f=>(.ok (ux n k f),σ)):=w;cases e1:bJ b σ n with
  |none=>rw[e1] at w;exact w.elim
  |some l=>
   cases e2:l[k]? with
   |none=>rw[e1,Ka,e2] at w;exact w.elim
   |some f=>rw[e1,Ka,e2] at w;exact ⟨n,l,f,rfl,gD e1,e2,w⟩
 | .p _ (_+1),w=>exact w.elim
 | .d _,w=>exact w.elim
section
variable {C:Cfg} {A:Around} {P:Pt} {Q E:Value→Shared→Prop}
theorem xW (I:Inv C P) {b:Bool} {n k:Nat} {l:List Fld} {v:Value} (e:P.σ[n]? =some (.rcd b l)):∀ {f:Fld},l[k]? =some f→FA C P.own P.h n k v f→RV C P v (ux n k f)
 | .d _,_,r=>r
 | .list m,h,r=>⟨⟨_,e,Nat.add_lt_add_right (Kg.mp h).1 2⟩,fun _ q=>FOb.is I (f:=.list m) r q⟩
 | .dict x y,h,r=>⟨⟨_,e,Nat.add_lt_add_right (Kg.mp h).1 2⟩,fun _ q=>FOb.is I (f:=.dict x y) r q⟩
theorem pX (x y:Str) (t:Tok):(Value.str x t).isStr y=decide (x=y):=by
 show (x==y)=_;rw[Bool.eq_iff_iff,beq_iff_eq,decide_eq_true_eq]
theorem sy {C:Cfg} (inj:∀ i,i<7→∀ k,k<7→C.att i=C.att k→i=k):∀ {es:List DictEntry} {off k:Nat} {e:DictEntry},(∀ (i:Nat) (e:DictEntry),es[i]? =some e→∃ t,e.key=Value.str (C.att (off+i)) t)→off+es.length≤7→es[k]? =some e→es.find? (·.key.isStr (C.att (off+k)))=some e
 |[],_,_,_,_,_,h=>by cases h
 |a::es,off,k,e,h,hl,hk=>by
  obtain ⟨t,ht⟩:=h 0 a rfl;simp only [Kk] at hl;cases k with
  |zero=>
   cases hk;rw[List.find?_cons,ht,pX,Kr (by rfl)]
  |succ k=>
   have hk':es[k]? =some e:=hk;have hlt:=(Kg.mp hk').1;rw[List.find?_cons,ht,pX,K7 (fun q=>by have:=inj _ (by exact Nat.lt_of_add_right_lt hl) _ (Ie hl hlt) q;exact Ic this)];have:=sy inj (off:=off+1) (k:=k) (es:=es) (e:=e) (fun i e he=>by have:=h (i+1) e he;rw[show off+(i+1)=off+1+i by exact o36] at this;exact this) (by exact Ib hl) hk';rw[show off+1+k=off+(k+1) by exact Fj] at this;exact this
theorem m4 {C:Cfg}:∀ {es:List DictEntry} {off:Nat} {x:Str},(∀ (i:Nat) (e:DictEntry),es[i]? =some e→∃ t,e.key=Value.str (C.att (off+i)) t)→(∀ i,off≤i→i<off+es.length→C.att i≠x)→es.find? (·.key.isStr x)=none∧es.any (·.refKey)=false
 |[],_,_,_,_=>⟨rfl,rfl⟩
 |a::es,off,x,h,hn=>by
  obtain ⟨t,ht⟩:=h 0 a rfl;have ih:=m4 (C:=C) (es:=es) (off:=off+1) (x:=x) (fun i e he=>by have:=h (i+1) e he;rw[show off+(i+1)=off+1+i by exact o36] at this;exact this) (fun i h1 h2=>hn i (by exact Nat.le_of_succ_le h1) (by simp only [Kk];exact o77 h2));refine ⟨?_,?_⟩
  ·rw[List.find?_cons,ht,pX,K7 (hn (off+0) (Ko _) (by simp only [Kk];exact Ia))];exact ih.1
  ·rw[List.any_cons,ih.2,Bool.or_false];unfold DictEntry.refKey;rw[ht]
theorem uK {es:List DictEntry} (h:mZ C es) (i:Nat) (e:DictEntry) (he:es[i]? =some e):∃ t,e.key=Value.str (C.att (0+i)) t:=by rw[K8];exact (h i e he).1
theorem w_:∀ {x:D} {v:Value} {w:a'},RD C w x v→PySem.W.handedIn v=true
 |_,_,_,r=>by cases r<;>rfl
theorem xb {w:a'} {h:Heap} {n i:Nat} {v:Value}:∀ {f:Fld},FA C w h n i v f→PySem.W.handedIn v=true
 | .d _,r=>w_ r
 | .list l,r=>by
  obtain ⟨_,_,_⟩:FOb C w h n (i+2) (.list l) v:=r;rfl
 | .dict ks ps,r=>by
  obtain ⟨_,_,_⟩:FOb C w h n (i+2) (.dict ks ps) v:=r;rfl
theorem uu {n k:Nat} {l:List Fld} {f:Fld} {vx:Value} {expr:Bool} (G:Good C) (hk:k<7) (I:Inv C P) (hx:RV C P vx (.p n 0)) (e1:P.σ[n]? =some (.rcd true l)) (e2:l[k]? =some f) (kk:∀ v t,FA C P.own P.h n k v f→Q v {P.s with toks:=t}):
  wpAny C.M A (PySem.getAttr vx (C.att k) expr) Q E P.s:=by
 obtain @⟨x,d,es,m,h1,h2,h3,h4,h5,h6,h7,h8⟩:OInst C P.own P.h n l:=I.obj n _ e1;rw[hx.2 x h1];have W:=G.cls;obtain ⟨cd,c1,c2⟩:=W.cd;have hlt:k<es.length:=by rw[h6];exact (Kg.mp e2).1
 have hen:es[k]? =some es[k]:=Kh hlt;have fa:=h8 k f _ e2 hen;have X:PySem.W.Frag.In C.K P.h:=W.X.keeps fun b o e=>(I.base b o e).1;have hfind:es.find? (·.key.isStr (C.att k))=some es[k]:=by
  have:=sy W.inj (off:=0) (k:=k) (uK h5) (H' h6 h7) hen
  rwa [K8] at this
 have hlook:PySem.W.lookIn (C.att k) (c4 es m)=some (some es[k].val):=by
  unfold PySem.W.lookIn;show (match es.find? (·.key.isStr (C.att k)) with|some e=>some (some e.val)|none=>_)=_
  rw[hfind]
 refine PySem.W.get_value X (show PySem.W.InstAt P.h x (jz C.book d) C.book (some (c4 es m)) from ⟨h2,rfl,rfl,h4⟩) W.ga ?_ (xb fa) (kk _ _ fa);unfold PySem.W.findObj;rw[c1,W.no k hk];show (PySem.W.ownOf cd (some (c4 es m)) (C.att k)).bind _=_;unfold PySem.W.ownOf;rw[c2,if_pos rfl];show (PySem.W.lookIn (C.att k) (c4 es m)).bind _=_;rw[hlook];rfl
end
section
variable {X:Cx} {e:Expr} {ρ:Rho} {P:Pt} {K:R PV→Sto→Prop} {Q E:Value→Shared→Prop}
theorem BW (a:CE) (k:Nat) (h:cF (fun v x _=>x==X.sx.att k&&decide (k<7)&&dl v&&a.is X.sx v) e=true) (I:Inv X.C P) (G:EnvOK X P ρ) (w:Wp K (bnd (a.ev X.ker ρ) (kg true k) P.σ)) (p:aV X (RV X.C) P K Q E):wpAny X.M X.A (eval e X.env) Q E P.s:=
 dE (fun e=>wpAny X.M X.A (eval e X.env) Q E P.s) h fun v x pos h=>by
  rw[bg (ag (ag (ag h))),arm_eval_Attribute,lx (aj (ag h))];refine Kp (a.ok X v ρ P _ _ E (aj h) I G (aC w) (p.bind fun x vx P1 g1 I1 r1 w p=> ?_));obtain ⟨n,l,f,q,e1,e2,kk⟩:=uQ w;subst q;refine Kp (wpAny_standAt (Kp (wpAny_holding (uu X.good (KX (aj (ag (ag h)))) I1 r1 e1 e2 fun v t fa=> ?_))));refine Kp (wpAny_letTemporaryGo (Kq ?_));exact p.ok _ v (P1.to P1.h t) (.to ..) (I1.to fun _ _ e=>e) (xW I1 e1 e2 fa) kk
noncomputable def isO:PV→PM Unit
 | .p n 0=>fun σ=>(bJ true σ n).map fun _=>(.ok (),σ)
 |_=>fun _=>none
theorem CD {x:PV} {σ:Sto} {K:R Unit→Sto→Prop} (w:Wp K (isO x σ)):∃ n l,x= .p n 0∧σ[n]? =some (.rcd true l)∧K (.ok ()) σ:=by
 match x,w with
 | .p n 0,w=>
  have w:Wp K ((bJ true σ n).map fun _=>(.ok (),σ)):=w;cases e1:bJ true σ n with
  |none=>rw[e1] at w;exact w.elim
  |some l=>rw[e1] at w;exact ⟨n,l,rfl,gD e1,w⟩
 | .p _ (_+1),w=>exact w.elim
 | .d _,w=>exact w.elim
theorem A2 (o:CE) (m:Nat) (l:CL) (h:fH (fun v x ap es pos=>x==(X.sx.fnm m).1&&(X.sx.fnm m).2&&dl v&&ap.endLine==pos.line&&o.is X.sx v&&l.is X.sx es&&decide (es.length<29)) e=true) (I:Inv X.C P) (G:EnvOK X P ρ)
  (w:Wp K (bnd (o.ev X.ker ρ) (fun x=>bnd (isO x) fun _=>bnd (l.ev X.ker ρ) fun ps=>X.ker.Φ X.ker.hd m (x::ps)) P.σ)) (p:aV X (RV X.C) P K Q E):wpAny X.M X.A (eval e X.env) Q E P.s:=
 fG (fun e=>wpAny X.M X.A (eval e X.env) Q E P.s) h fun v x ap es pos h=>by
  have W:=X.good.cls;obtain ⟨w1,w2,w3,of,fd,w4,w5⟩:=W.meth m (aj (ag (ag (ag (ag (ag h))))));have hl:=aj (ag h);rw[bg (ag (ag (ag (ag (ag (ag h)))))),arm_eval_Call,lx (aj (ag (ag (ag (ag h)))))];refine Kp (o.ok X v ρ P _ _ E (aj (ag (ag h))) I G (aC w) (p.bind fun x vx P1 g1 I1 r1 w p=> ?_));refine Kp (wpAny_standAt ?_);have hform:methodCallForm (es.length+([]:List Keyword).length) (backTo pos (starEach es X.env)) (backToKw pos (keywordEach [] X.env))=true:=uy hl (KX (aj h));have hpos:methodCallPos true v X.env ap pos=pure pos:=by
   unfold methodCallPos;have:(ap.endLine==pos.line)=true:=aj (ag (ag (ag h)));simp [this]
  obtain ⟨n,fl,q,e1,w⟩:=CD (aC w);subst q;obtain @⟨a,d,en,k,i1,i2,i3,i4,i5,i6,i7,_⟩:OInst X.C P1.own P1.h n fl:=I1.obj n _ e1;rw[r1.2 a i1];unfold methodCall;rw[hform];have XX:PySem.W.Frag.In X.C.K P1.h:=W.X.keeps fun b o e=>(I1.base b o e).1;have hnone:=m4 (C:=X.C) (es:=en) (off:=0) (x:=(X.C.fnm m).1) (uK i5) (fun i _ h=>w3 i (H_ i6 i7 h));refine Kp (wpAny_holding (PySem.W.method_fn XX (show PySem.W.InstAt P1.h a (jz X.C.book d) X.C.book (some (c4 en k)) from ⟨i2,rfl,rfl,i4⟩) W.ga W.gattr w1 w2 ?_ ?_))
  ·unfold PySem.W.shadowIn PySem.W.lookIn;show Option.map _ (match en.find? (·.key.isStr (X.C.fnm m).1) with|some e=>some (some e.val)|none=>if en.any (·.refKey) then none else some none)=_
   rw[hnone.1,hnone.2];rfl
  ·refine Kp (wpAny_of_eq hpos ?_);refine Calls.callWith_function (o:=of) (fd:=fd) (cj (l.star X.sx es X.env pos hl) ?_);have rr:RV X.C P1 (.ref a) (.p n 0):=⟨r1.1,fun b q=>by rw[I1.one b a n 0 q i1]⟩;exact l.ok X es pos ρ P1 _ _ E hl I1 (G.ext g1) (aC w) (p.bind fun ps vs P2 g2 I2 r2 w p=>⟨⟨(I2.base _ _ w4).1,w5⟩,om I2 ((G.ext g1).ext g2) (.cons (rr.ext g2.toExt) r2) w p⟩)
end
noncomputable def bC (a:CE) (k:Nat):CE:=⟨fun K ρ=>bnd (a.ev K ρ) (kg true k),fun s=>cF fun v x _=>x==s.att k&&decide (k<7)&&dl v&&a.is s v,fun _ _ _ _ _ _ _ h I G w p=>BW a k h I G w p⟩
noncomputable def meth (o:CE) (m:Nat) (l:CL):CE:=⟨fun K ρ=>bnd (o.ev K ρ) fun x=>bnd (isO x) fun _=>bnd (l.ev K ρ) fun ps=>K.Φ K.hd m (x::ps),fun s=>fH fun v x ap es pos=>x==(s.fnm m).1&&(s.fnm m).2&&dl v&&ap.endLine==pos.line&&o.is s v&&l.is s es&&decide (es.length<29),fun _ _ _ _ _ _ _ h I G w p=>A2 o m l h I G w p⟩
section
variable {C:Cfg} {A:Around} {P:Pt} {Q E:Value→Shared→Prop}
noncomputable def Pt.make2 (P:Pt) (h:Heap) (a b:Addr):Pt:={P with s:={P.s with heap:=h},own:=upd (upd P.own b (.cell P.σ.length 1)) a (.cell P.σ.length 0),σ:=P.σ++[.rcd true []]}
theorem yH (I:Inv C P) {h':Heap} {x d:Addr} (k:∀ b o,P.h.get? b=some o→h'.get? b=some o) (hx:P.own x= .no) (hd:P.own d= .no) (Hx:C.H.get? x=none) (Hd:C.H.get? d=none) (ne:x≠d) (ox:h'.get? x=some (jz C.book d)) (od:h'.get? d=some (c4 [] 0)):
  Inv C (P.make2 h' x d)∧Grow P (P.make2 h' x d)∧RV C (P.make2 h' x d) (.ref x) (.p P.σ.length 0):=by
 have na:∀ b,P.own b≠ .no→b≠x∧b≠d:=fun b q=>⟨fun e=>q (e ▸ hx),fun e=>q (e ▸ hd)⟩;have w1:(P.make2 h' x d).own x= .cell P.σ.length 0:=bn _ _ _;have w2:(P.make2 h' x d).own d= .cell P.σ.length 1:=(aW (Ne.symm ne)).trans (bn _ _ _);have w3:∀ b,b≠x→b≠d→(P.make2 h' x d).own b=P.own b:=fun b p q=>(aW p).trans (aW q);have cs:∀ b,(b=x∧(P.make2 h' x d).own b= .cell P.σ.length 0)∨(b=d∧(P.make2 h' x d).own b= .cell P.σ.length 1)∨(b≠x∧b≠d∧(P.make2 h' x d).own b=P.own b):=fun b=>by
  by_cases p:b=x
  ·exact .inl ⟨p,p ▸ w1⟩
  ·by_cases q:b=d
   ·exact .inr (.inl ⟨q,q ▸ w2⟩)
   ·exact .inr (.inr ⟨p,q,w3 b p q⟩)
 have kk:∀ b o y,P.own b=y→y≠ .no→P.h.get? b=some o→(P.make2 h' x d).own b=y∧h'.get? b=some o:=fun b o y e q r=>⟨(w3 b (na b (e ▸ q)).1 (na b (e ▸ q)).2).trans e,k b o r⟩;have fz:Fz P.own (P.make2 h' x d).own:=fun b o e=>(w3 b (na b (by rw[e];nofun)).1 (na b (by rw[e];nofun)).2).trans e;have lt:∀ b n j,P.own b= .cell n j→n≠P.σ.length:=fun b n j e=>Nat.ne_of_lt (I.bd b n j e).lt;refine ⟨⟨fun b o e=> ?_,fun b o e=> ?_,fun b e=> ?_,I.fr.mv (fun b o e q=>kk b o _ e nofun q) (fun b e=>ji (x:=.cell P.σ.length 1) (a:=d) Own.noConfusion (ji (x:=.cell P.σ.length 0) (a:=x) Own.noConfusion e)),I.gh.mv fz fun b o e q=>kk b o _ e nofun q,fun b c n j e f=> ?_,fun b n j e=> ?_,fun n o e=> ?_⟩,⟨⟨⟨h',_,rfl⟩,rfl,fz,fun _ _ v=>gx v,fun n j b v q=> ?_⟩,rfl⟩,xV (by show 0<0+2;decide) fun b e=> ?_⟩
 ·obtain ⟨e1,e2⟩:=I.base b o e;have p:b≠x:=fun q=>by rw[q,Hx] at e;cases e
  have q:b≠d:=fun q=>by rw[q,Hd] at e;cases e
  exact ⟨k b o e1,(w3 b p q).trans e2⟩
 ·rcases cs b with ⟨_,q⟩|⟨_,q⟩|⟨_,_,q⟩
  ·cases q.symm.trans e
  ·cases q.symm.trans e
  ·exact k b o (I.fz b o (q.symm.trans e))
 ·rcases cs b with ⟨p,q⟩|⟨p,q⟩|⟨_,_,q⟩
  ·exact ⟨_,p ▸ ox⟩
  ·exact ⟨_,p ▸ od⟩
  ·obtain ⟨o,ho⟩:=I.live b (q ▸ e);exact ⟨o,k b o ho⟩
 ·rcases cs b with ⟨p,q⟩|⟨p,q⟩|⟨_,_,q⟩<;>rcases cs c with ⟨p',q'⟩|⟨p',q'⟩|⟨_,_,q'⟩
  ·rw[p,p']
  ·have z:=(q.symm.trans e).trans (q'.symm.trans f).symm;cases z
  ·cases q.symm.trans e;exact absurd rfl (lt c _ _ (q'.symm.trans f))
  ·have z:=(q.symm.trans e).trans (q'.symm.trans f).symm;cases z
  ·rw[p,p']
  ·cases q.symm.trans e;exact absurd rfl (lt c _ _ (q'.symm.trans f))
  ·cases q'.symm.trans f;exact absurd rfl (lt b _ _ (q.symm.trans e))
  ·cases q'.symm.trans f;exact absurd rfl (lt b _ _ (q.symm.trans e))
  ·exact I.one b c n j (q.symm.trans e) (q'.symm.trans f)
 ·rcases cs b with ⟨p,q⟩|⟨p,q⟩|⟨_,_,q⟩
  ·cases q.symm.trans e;exact ⟨_,dG,by show 0<0+2;decide⟩
  ·cases q.symm.trans e;exact ⟨_,dG,by show 1<0+2;decide⟩
  ·exact gx (I.bd b n j (q.symm.trans e))
 ·by_cases z:n=P.σ.length
  ·rw[(cV e).2 z,z];exact OInst.mk w1 ox w2 od (fun i e h=>by cases h) rfl (KI _) (fun i f e h=>by cases h)
  ·exact (I.obj n o ((cV e).1 z)).mv fz fun b j o e q=>kk b o _ e nofun q
 ·rcases cs b with ⟨p,z⟩|⟨p,z⟩|⟨_,_,z⟩
  ·cases z.symm.trans q;exact absurd v.lt (KY _)
  ·cases z.symm.trans q;exact absurd v.lt (KY _)
  ·exact z.symm.trans q
 ·rcases cs b with ⟨p,z⟩|⟨p,z⟩|⟨_,_,z⟩
  ·exact p
  ·cases z.symm.trans e
  ·exact absurd rfl (lt b _ _ (z.symm.trans e))
end
noncomputable def Fw:PM PV:=fN (.rcd true [])
noncomputable def Fv (Φ:List PV→PM PV) (ps:List PV):PM PV:=bnd Fw fun o=>bnd (Φ (o::ps)) fun v=>bnd (opt ((dOf v).bind fun x=>match x with| .none=>some ()|_=>none)) fun _=>ret o
section
variable {X:Cx} {e:Expr} {ρ:Rho} {P:Pt} {K:R PV→Sto→Prop} {Q E:Value→Shared→Prop}
theorem Dm (l:CL) (h:du (fun x es=>x==("Book":Str)&&dg X.sx.sc x&&l.is X.sx es) e=true) (I:Inv X.C P) (G:EnvOK X P ρ) (w:Wp K (bnd (l.ev X.ker ρ) (Fv (X.ker.Φ X.ker.hd 0)) P.σ)) (p:aV X (RV X.C) P K Q E):wpAny X.M X.A (eval e X.env) Q E P.s:=
 dt (fun e=>wpAny X.M X.A (eval e X.env) Q E P.s) h fun x px es pos h=>by
  have hw:=aj (ag h);rw[bg (ag (ag h))] at hw ⊢;have W:=X.good.cls;refine wpAny_Call_NameR (c7 I hw W.name ?_);have hp:=l.star X.sx es X.env pos (aj h);have hst:((backTo pos (starEach es X.env)).any (·.1)||([]:List (Option Str×Sem Value)).any fun x=>x.1.isNone)=false:=by rw[cK hp];rfl
  unfold callWith;refine Kp (wpAny_holding (cj hp ?_));refine l.ok X es pos ρ P _ _ E (aj h) I G (aC w) (p.bind fun ps vs P1 g1 I1 r1 w p=> ?_);refine Kp (wpAny_standAt ?_);have XX:PySem.W.Frag.In X.C.K P1.h:=W.X.keeps fun b o e=>(I1.base b o e).1;have Y:=PySem.W.makes_of (M:=X.M) XX W.makes;obtain ⟨oc,od,cd,sl,hC0,_⟩:=Y.obj;refine Kp (m:=keeperOf (.ref X.C.book)) ?_;unfold keeperOf;refine Kp (wpAny_load hC0 ?_);refine Kp (Y.call X.A _ E P1.s (fun _ _ e=>e) ?_);rw[if_pos (by rfl)];refine Kq ?_;rw[hst];show wpAny _ _ (call (.ref X.C.book) vs []>>=fun r=>do holding [r] point;pure r) _ _ _;refine Kp (wpAny_mono (Q:=fun r s'=>Q r s') ?_ (fun r s' hr=>Kp (wpAny_holding (wpAny_point (Kq hr)))) fun _ _ x=>x);obtain ⟨⟨hh,g,dr,t,os⟩,fs,own,gh,σ⟩:=P1;refine wpAny_call (PySem.W.make_core Y (PySem.W.looks_findIn XX W.init.1) (fun self=>PySem.W.bind_fn XX self W.init.2) (.inl rfl) ?_);have hs1:=Kx (hh.push PySem.W.emptyDict) (o:=PySem.W.instObj X.C.book hh.objs.size) rfl;rw[Heap.size_push] at hs1;obtain ⟨J,gJ,rJ⟩:=yH I1 (h':=(hh.push PySem.W.emptyDict).push (PySem.W.instObj X.C.book hh.objs.size)) (x:=hh.objs.size+1) (d:=hh.objs.size) (fun b o e=>Kl _ (Kl _ e)) (I1.off (KZ _)) (I1.off (Ko _)) (I1.out (KZ _)) (I1.out (Ko _)) (Nat.succ_ne_self _)
   hs1 (Kl _ (Kx _ rfl))
  have hdep:=X.dep;have huni:=X.uni;have d1:(X.A.under (.builtin "type.__call__" ⟨.ref X.C.book::vs,[]⟩)).depth=X.A.depth+1:=rfl;have u1:(X.A.under (.builtin "type.__call__" ⟨.ref X.C.book::vs,[]⟩)).units≤X.A.units+10:=KW (Kj rfl) _;have f1:(X.A.under (.builtin "type.__call__" ⟨.ref X.C.book::vs,[]⟩)).frames=X.A.frames:=by
   generalize X.A=A;obtain ⟨_,_,fr,_,_⟩:=A;cases fr<;>rfl
  have G1:=G.ext g1;have w:Wp K (su (fun v=>bnd (opt ((dOf v).bind fun x=>match x with| .none=>some ()|_=>none)) fun _=>ret (.p σ.length 0)) (X.ker.Φ X.ker.hd 0 (.p σ.length 0::ps) (σ++[.rcd true []]))):=w
  refine codeAny_mono (X.calls X.hd (X.A.under (.builtin "type.__call__" ⟨.ref X.C.book::vs,[]⟩)) (Pt.make2 ⟨⟨hh,g,dr,t,os⟩,fs,own,gh,σ⟩ _ (hh.objs.size+1) hh.objs.size) 0 (.p σ.length 0::ps) (.ref (hh.objs.size+1)::vs) _ (fun v s'=>v= .none∧Q (.ref (hh.objs.size+1)) s') E (by
   obtain ⟨ls,q1,q2⟩:=G1.frs;exact ⟨ls,f1.trans q1,q2⟩) (J.szF G1.ne) (by rw[d1];exact H8 hdep) (H7 huni u1) X.hnd J (.cons rJ (r1.ext gJ.toExt)) (aC w) ⟨fun v u P3 g3 I3 r3 k=> ?_,fun c e P3 g3 I3 x3 k=> ?_⟩) fun r s' h=> ?_
  ·obtain ⟨_,e1,k⟩:=fk (aC k);obtain ⟨z,e2,e3⟩:=bind_some e1;have e4:z= .none:=by cases z<;>first|rfl|cases e3
   have r3:=kF e2 r3;rw[e4] at r3;exact ⟨r3.view,p.ok (.p σ.length 0) _ P3 (gJ.trans g3) I3 (rJ.ext g3.toExt) k⟩
  ·refine p.ex c e P3 (gJ.trans g3) I3 ?_ k;obtain ⟨q1,q2⟩:=x3;exact .mk (f1 ▸ q1) q2
  ·cases r with
   |ok fl=>cases fl<;>exact h
   |error e=>exact h
end
noncomputable def Fx (l:CL):CE:=⟨fun K ρ=>bnd (l.ev K ρ) (Fv (K.Φ K.hd 0)),fun s=>du fun x es=>x==("Book":Str)&&dg s.sc x&&l.is s es,fun _ _ _ _ _ _ _ h I G w p=>Dm l h I G w p⟩
def Inj (Γ:Gam):Prop:=∀ x y i,Γ.lookup x=some i→Γ.lookup y=some i→x=y
structure SX extends Cx where
 outer:List Env
 L:Addr
 cs:List Addr
 fr:A.frames=some (env::outer)
 loc:env.locals=L
 frame:env.frame=some L
 cell:∀ x,env.kindOf x=some .cell→∃ c,env.cells.lookup x=some c∧c∈cs
 apart:∀ x y c,env.cells.lookup x=some c→env.cells.lookup y=some c→x=y
 inj:Inj Γ
 scE:sc=env.scope
 dep2:A.depth+8*d+151<recursionLimit
 uni2:A.units+64*d+1005<cLine
 lmE:∀ l,lm=some l→C.lam=some l∧env.code= .ref l.c∧env.qual++"<lambda>"=l.qual
structure SEnv (X:SX) (P:Pt) (ρ:Rho):Prop extends EnvOK X.toCx P ρ where
 hd:∃ f r,P.fs=f::r∧f.L=X.L∧f.cells=X.cs
section
variable {X:SX} {P P':Pt} {ρ:Rho}
theorem SEnv.ext (G:SEnv X P ρ) (g:Grow P P'):SEnv X P' ρ:=⟨G.toEnvOK.ext g,g.fs ▸ G.hd⟩
theorem SEnv.gs (G:SEnv X P ρ) (g:Grow P P'):GrowS P P':=⟨g.toExt,by
 obtain ⟨f,r,e,_⟩:=G.hd;rw[g.fs,e];exact .mk (.refl f)⟩
end
def WpS (K:Out→Sto→Prop):Option (Out×Sto)→Prop
 |some (o,σ)=>K o σ
 |none=>False
def oK {α:Type} (K:Out→Sto→Prop) (ρ:Rho) (k:α→Sto→Option (Out×Sto)):R α→Sto→Prop
 | .ok v,σ=>WpS K (k v σ)
 | .ex c,σ=>K (.ex c ρ) σ
theorem b9 {α:Type} {K:Out→Sto→Prop} {ρ:Rho} {m:PM α} {k:α→Sto→Option (Out×Sto)} {σ:Sto} (h:WpS K (br ρ m k σ)):Wp (oK K ρ k) (m σ):=by
 unfold br at h;generalize m σ=o at h
 match o,h with
 |none,h=>exact h
 |some (.ok _,_),h=>exact h
 |some (.ex _,_),h=>exact h
structure PostS (X:SX) (P:Pt) (K:Out→Sto→Prop) (Q:Flow→Shared→Prop) (E:Value→Shared→Prop):Prop where
 next:∀ ρ P',GrowS P P'→Inv X.C P'→SEnv X P' ρ→K (.next ρ) P'.σ→Q .next P'.s
 ret:∀ p v P',GrowS P P'→Inv X.C P'→RV X.C P' v p→K (.ret p) P'.σ→Q (.ret v) P'.s
 ex:∀ c ρ e P',GrowS P P'→Inv X.C P'→Exc X.C X.A P' c e→SEnv X P' ρ→K (.ex c ρ) P'.σ→E e P'.s
section
variable {X:SX} {P P':Pt} {ρ:Rho} {K:Out→Sto→Prop} {Q:Flow→Shared→Prop} {E:Value→Shared→Prop}
theorem PostS.mono (h:PostS X P K Q E) (g:GrowS P P'):PostS X P' K Q E:=
 ⟨fun ρ P'' g'=>h.next ρ P'' (g.trans g'),fun p v P'' g'=>h.ret p v P'' (g.trans g'),fun c ρ e P'' g'=>h.ex c ρ e P'' (g.trans g')⟩
theorem PostS.bind {α β:Type} {Rel:Pt→β→α→Prop} {k:α→Sto→Option (Out×Sto)} {Q':β→Shared→Prop} (h:PostS X P K Q E) (G:SEnv X P ρ) (kk:∀ p v P',Grow P P'→Inv X.C P'→Rel P' v p→WpS K (k p P'.σ)→SEnv X P' ρ→PostS X P' K Q E→Q' v P'.s):Post X.C X.A Rel P (oK K ρ k) Q' E:=
 ⟨fun p v P' g i r w=>kk p v P' g i r w (G.ext g) (h.mono (G.gs g)),fun c e P' g i x w=>h.ex c ρ e P' (G.gs g) i x (G.ext g) w⟩
theorem PostS.go (h:PostS X P K Q E) (I:Inv X.C P) (G:SEnv X P ρ) (k:K (.next ρ) P.σ):Q .next P.s:=h.next ρ P (G.gs (.refl P)) I G k
end
structure C1 where
 ex:Ker→Rho→Sto→Option (Out×Sto)
 is:Sx→Stmt→Bool
 ok:∀ (X:SX) (st:Stmt) (ρ:Rho) (P:Pt) (K:Out→Sto→Prop) (Q:Flow→Shared→Prop) (E:Value→Shared→Prop),is X.sx st=true→Inv X.C P→SEnv X P ρ→WpS K (ex X.ker ρ P.σ)→PostS X P K Q E→wpAny X.M X.A (PySem.exec st X.env) Q E P.s
structure CS where
 ex:Ker→Rho→Sto→Option (Out×Sto)
 is:Sx→List Stmt→Bool
 ok:∀ (X:SX) (st:List Stmt) (ρ:Rho) (P:Pt) (K:Out→Sto→Prop) (Q:Flow→Shared→Prop) (E:Value→Shared→Prop),is X.sx st=true→Inv X.C P→SEnv X P ρ→WpS K (ex X.ker ρ P.σ)→PostS X P K Q E→wpAny X.M X.A (PySem.execs st X.env) Q E P.s
def tK (K:Out→Sto→Prop) (k:Rho→Sto→Option (Out×Sto)):Out→Sto→Prop
 | .next ρ,σ=>WpS K (k ρ σ)
 |o,σ=>K o σ
theorem uP {K:Out→Sto→Prop} {k:Rho→Sto→Option (Out×Sto)}:∀ {z:Option (Out×Sto)},WpS K (lG z k)→WpS (tK K k) z
 |none,h=>h
 |some (.next _,_),h=>h
 |some (.ret _,_),h=>h
 |some (.ex _ _,_),h=>h
noncomputable def sN:CS:=⟨fun _ ρ σ=>some (.next ρ,σ),fun _ st=>st.isEmpty,fun X st ρ P K Q E h I G w p=>bu (fun st=>wpAny X.M X.A (PySem.execs st X.env) Q E P.s) h (wpAny_execs_nil (p.go I G w))⟩
noncomputable def sC (a:C1) (l:CS):CS:=⟨fun K ρ σ=>lG (a.ex K ρ σ) (l.ex K),fun s=>ia (a.is s) (l.is s),fun X st ρ P K Q E h I G w p=>c9 (fun st=>wpAny X.M X.A (PySem.execs st X.env) Q E P.s) h fun e r h1 h2=>
 wpAny_execs_cons (a.ok X e ρ P _ _ E h1 I G (uP w) ⟨fun ρ' P' g I' G' k=>l.ok X r ρ' P' K Q E h2 I' G' k (p.mono g),p.ret,p.ex⟩)⟩
noncomputable def aR (a:CE):C1:=⟨fun K ρ=>br ρ (a.ev K ρ) fun v σ=>some (.ret v,σ),fun s=>iO fun v _=>jst (a.is s) v,fun X st ρ P K Q E h I G w p=>g8 (fun st=>wpAny X.M X.A (PySem.exec st X.env) Q E P.s) h fun v pos h=>fc (fun v=>wpAny X.M X.A (PySem.exec (.Return v pos) X.env) Q E P.s) h fun e h=>
 wpAny_Return_some (a.ok X.toCx e ρ P _ _ E h I G.toEnvOK (b9 w) (p.bind G fun x v P1 g I1 r w G1 p=>p.ret x v P1 (G1.gs (.refl P1)) I1 r w))⟩
theorem eV {env:Env} {e:Expr} {t:Option Expr} {l:Nat} (h:ed e=false):swapsWith e t l env=pure false:=by
 cases e<;>first|rfl|cases h
noncomputable def aM (a:CE):C1:=⟨fun K ρ=>br ρ (a.ev K ρ) fun _ σ=>some (.next ρ,σ),fun s=>ui fun e _=> !ed e&&a.is s e,fun X st ρ P K Q E h I G w p=>rH (fun st=>wpAny X.M X.A (PySem.exec st X.env) Q E P.s) h fun e pos h=>by
 rw[PySem.exec_Expr _ e pos (by unfold interactive;rw[X.kind];rfl) (eV ((Bool.not_eq_true' _).mp (ag h)))];exact Kp (wpAny_standAt (Kp (a.ok X.toCx e ρ P _ _ E (aj h) I G.toEnvOK (b9 w) (p.bind G fun x v P1 g I1 r w G1 p=>wpAny_dropValue (p.go I1 G1 w)))))⟩
noncomputable def sIf (t:CT) (a b:CS):C1:=⟨fun K ρ=>br ρ (t.ts K ρ) fun c=>if c then a.ex K ρ else b.ex K ρ,fun s=>DQ fun te ae be _=>t.is s te&&a.is s ae&&b.is s be,fun X st ρ P K Q E h I G w p=>w7 (fun st=>wpAny X.M X.A (PySem.exec st X.env) Q E P.s) h fun te ae be pos h=>
 wpAny_If (t.ok X.toCx te ρ P _ _ E (ag (ag h)) I G.toEnvOK (b9 w) (p.bind (Rel:=kH) G fun c v P1 g I1 r w G1 p=>by
  rw[show v=c from r];cases c with
  |true=>exact a.ok X ae ρ P1 K Q E (aj (ag h)) I1 G1 w p
  |false=>exact b.ok X be ρ P1 K Q E (aj h) I1 G1 w p))⟩
section
variable {C:Cfg} {P:Pt}
theorem Inv.frame {h':Heap} {f g:Fm} {r:List Fm} {a:Addr} {t:Nat} (I:Inv C P) (hf:P.fs=f::r) (lk:f.like g) (ha:a∈f.adr) (hs:∀ b o,b≠a→P.h.get? b=some o→h'.get? b=some o) (hn:h'.Ns g.L g.m) (hc:∀ c∈g.cells,h'.IsCell c (g.cv c)):
  Inv C {P.to h' t with fs:=g::r}:=by
 have hm:f∈P.fs:=by rw[hf];exact .head _
 have own:P.own a= .fr:=by
  rcases Kb.mp ha with q|q
  ·rw[q];exact (I.fr.ns f hm).2.1
  ·exact (I.fr.cl f hm a q).2.1
 have le:f.L≤a:=by
  rcases Kb.mp ha with q|q
  ·exact K5 q.symm
  ·exact KU (I.fr.cl f hm a q).2.2
 have ord:=I.fr.ord;rw[hf] at ord;obtain ⟨o1,o2⟩:=List.pairwise_cons.mp ord;have kk:∀ b o x,P.own b=x→x≠ .fr→P.h.get? b=some o→P.own b=x∧h'.get? b=some o:=fun b o x e q z=>⟨e,hs b o (fun c=>q (by rw[←e,c,own])) z⟩;have ne:∀ k∈r,∀ b∈k.adr,b≠a:=fun k hk b hb=>Nat.ne_of_lt (KF (o1 k hk b hb) le);refine ⟨fun b o e=>⟨hs b o (fun c=> ?_) (I.base b o e).1,(I.base b o e).2⟩,fun b o e=>(kk b o _ e Own.noConfusion (I.fz b o e)).2,fun b e=> ?_,⟨fun k hk=> ?_,fun k hk c hcc=> ?_,?_,fun b e=> ?_⟩,I.gh.mv (fun _ _ e=>e) fun b o e q=>kk b o _ e Own.noConfusion q,I.one,I.bd,fun n o e=>(I.obj n o e).mv (fun _ _ e=>e) fun b j o e q=>kk b o _ e Own.noConfusion q⟩
 ·have q:=(I.base b o e).2;rw[c,own] at q;cases q
 ·by_cases c:b=a
  ·rw[c];rcases Kb.mp ha with q|q
   ·rw[q,←lk.1];obtain ⟨o,_,_,ho,_⟩:=hn;exact ⟨o,ho⟩
   ·obtain ⟨o,ho,_⟩:=hc a (by rw[lk.2];exact q);exact ⟨o,ho⟩
  ·obtain ⟨o,ho⟩:=I.live b e;exact ⟨o,hs b o c ho⟩
 ·rcases Kb.mp hk with q|q
  ·subst q;exact ⟨hn,by rw[lk.1];exact (I.fr.ns f hm).2⟩
  ·obtain ⟨⟨o,es,ep,ho,z⟩,x⟩:=I.fr.ns k (by rw[hf];exact .tail _ q);exact ⟨⟨o,es,ep,hs _ _ (ne k q _ (.head _)) ho,z⟩,x⟩
 ·rcases Kb.mp hk with q|q
  ·subst q;exact ⟨hc c hcc,by rw[lk.1];exact (I.fr.cl f hm c (by rw[←lk.2];exact hcc)).2⟩
  ·obtain ⟨⟨o,ho,z⟩,x⟩:=I.fr.cl k (by rw[hf];exact .tail _ q) c hcc;exact ⟨⟨o,hs _ _ (ne k q _ (.tail _ hcc)) ho,z⟩,x⟩
 ·exact List.pairwise_cons.mpr ⟨fun k hk b hb=>by rw[lk.1];exact o1 k hk b hb,o2⟩
 ·obtain ⟨k,hk,z⟩:=I.fr.all b e;rw[hf] at hk;rcases Kb.mp hk with q|q
  ·exact ⟨g,.head _,by rw[Fm.adr,lk.1,lk.2];exact q ▸ z⟩
  ·exact ⟨k,.tail _ q,z⟩
end
section
variable {X:SX} {P:Pt} {ρ:Rho} {E:Value→Shared→Prop}
theorem oQ {ρ:Rho} {i j:Nat} {p q:PV} (h:(ρ.set i (some p))[j]? =some (some q)):(i=j∧q=p)∨(i≠j∧ρ[j]? =some (some q)):=by
 by_cases e:i=j
 ·subst e;by_cases hl:i<ρ.length
  ·rw[List.getElem?_set_self hl] at h;cases h;exact .inl ⟨rfl,rfl⟩
  ·rw[List.getElem?_eq_none (by simpa using hl)] at h;cases h
 ·rw[KL e] at h;exact .inr ⟨e,h⟩
theorem zx {A:Around} {f g:Fm} {r:List Fm} (lk:f.like g) (h:kq A (f::r)):kq A (g::r):=by
 obtain ⟨ls,e,hl⟩:=h;refine ⟨ls,e,fun x hx=> ?_⟩;obtain ⟨a,b,hb,c⟩:=hl x hx;refine ⟨a,?_⟩;rcases Kb.mp hb with q|q
 ·exact ⟨g,.head _,by rw[c,q,lk.1]⟩
 ·exact ⟨b,.tail _ q,c⟩
theorem iu {x:Str} {i:Nat} {p:PV} {v:Value} {Q:Unit→Shared→Prop} {A:Around} {M:Model} (hx:X.Γ.lookup x=some i) (hb:hO X.sc x=true) (I:Inv X.C P) (G:SEnv X P ρ) (hr:RV X.C P v p)
  (k:∀ P',GrowS P P'→Inv X.C P'→SEnv X P' (ρ.set i (some p))→P'.σ=P.σ→Q () P'.s):wpAny M A (storeName X.env x v) Q E P.s:=by
 rw[X.scE] at hb;obtain ⟨f,r,hf,hL,hcs⟩:=G.hd;have hm:f∈P.fs:=by rw[hf];exact .head _
 have hns:=(I.fr.ns f hm).1;have hloc:X.env.locals=f.L:=X.loc.trans hL.symm;have fin:∀ (h':Heap) (t:Nat) (g:Fm),f.like g→Inv X.C {P.to h' t with fs:=g::r}→wb X.env (g::r) x v→(∀ y w,y≠x→wb X.env (f::r) y w→wb X.env (g::r) y w)→Q () {P.s with heap:=h',toks:=t}:=fun h' t g lk J l1 l2=>by
  refine k {P.to h' t with fs:=g::r} ⟨⟨⟨h',t,rfl⟩,rfl,fun _ _ e=>e,fun _ _ e=>e,fun _ _ _ _ e=>e⟩,by rw[hf];exact .mk lk⟩ J ⟨⟨zx lk (hf ▸ G.frs),nofun,fun y j q h1 h2 h3=> ?_⟩,⟨g,r,rfl,by rw[lk.1];exact hL,by rw[lk.2];exact hcs⟩⟩ rfl;rcases oQ h3 with ⟨e1,e2⟩|⟨e1,e2⟩
  ·subst e1;have e3:=X.inj _ _ _ h1 hx;subst e3;subst e2;exact ⟨v,hr,l1⟩
  ·obtain ⟨w,z1,z2⟩:=G.var y j q h1 h2 e2;exact ⟨w,z1,l2 y w (fun c=>e1 (by rw[c,hx] at h1;exact K4 h1)) (hf ▸ z2)⟩
 rcases (Bool.or_eq_true _ _).mp hb with hb|hb
 ·have hb:=bg hb;rw[←hloc] at hns;refine wpAny_storeName_local (m:=f.m) hb hns (fun h' hn' hs'=> ?_) (by rw[X.kind];rfl);rw[hloc] at hn' hs';refine fin h' _ {f with m:=fun y=>if y=x then some v else f.m y} ⟨rfl,rfl⟩ (I.frame hf ⟨rfl,rfl⟩ (.head _) (fun b o e h=>hs'.extBut b o e h) hn' fun c hc=>(I.fr.cl f hm c hc).1.sameBut hs' (Nat.ne_of_gt (I.fr.cl f hm c hc).2.2)) (.inl ⟨hb,_,.head _,hloc.symm,if_pos rfl⟩) fun y w e l=> ?_;rcases l with ⟨h1,f1,hf1,h2,h3⟩|⟨h1,c,h2,f1,hf1,h3,h4⟩
  ·rcases Kb.mp hf1 with q|q
   ·exact .inl ⟨h1,_,.head _,by rw[←h2,q],by show (if y=x then _ else _)=_;rw[if_neg e,←q];exact h3⟩
   ·exact .inl ⟨h1,f1,.tail _ q,h2,h3⟩
  ·rcases Kb.mp hf1 with q|q
   ·exact .inr ⟨h1,c,h2,_,.head _,q ▸ h3,q ▸ h4⟩
   ·exact .inr ⟨h1,c,h2,f1,.tail _ q,h3,h4⟩
 ·have hb:=bg hb;obtain ⟨c,hc,hcf⟩:=X.cell x hb;rw[←hcs] at hcf;refine wpAny_storeName_cell X.kind hb hc (I.fr.cl f hm c hcf).1 fun h' hc' hs'=> ?_;have hcL:f.L≠c:=Nat.ne_of_lt (I.fr.cl f hm c hcf).2.2;refine fin h' _ {f with cv:=fun a=>if a=c then some v else f.cv a} ⟨rfl,rfl⟩ (I.frame hf ⟨rfl,rfl⟩ (.tail _ hcf) (fun b o e h=>hs'.extBut b o e h) (hns.sameBut hs' hcL) fun c' hc1=> ?_) (.inr ⟨.inl hb,c,hc,_,.head _,hcf,if_pos rfl⟩) fun y w e l=> ?_
  ·show h'.IsCell c' (if c'=c then _ else _);by_cases q:c'=c
   ·rw[if_pos q,q];exact hc'
   ·rw[if_neg q];exact (I.fr.cl f hm c' hc1).1.sameBut hs' q
  ·rcases l with ⟨h1,f1,hf1,h2,h3⟩|⟨h1,c1,h2,f1,hf1,h3,h4⟩
   ·rcases Kb.mp hf1 with q|q
    ·exact .inl ⟨h1,_,.head _,by rw[←h2,q],q ▸ h3⟩
    ·exact .inl ⟨h1,f1,.tail _ q,h2,h3⟩
   ·rcases Kb.mp hf1 with q|q
    ·refine .inr ⟨h1,c1,h2,_,.head _,q ▸ h3,?_⟩;show (if c1=c then _ else _)=_;rw[if_neg (fun z:c1=c=>e (X.apart _ _ _ h2 (by rw[hc,z]))),←q];exact h4
    ·exact .inr ⟨h1,c1,h2,f1,.tail _ q,h3,h4⟩
end
noncomputable def CU (i:Nat) (f:Sx→Expr→Bool) (s:Sx) (st:Stmt):Bool:=kx (fun t e=>cE (fun x _=> !ed e&&s.Γ.lookup x==some i&&hO s.sc x&&f s e) t) st
noncomputable def aF (i:Nat) (a:CE):C1:=⟨fun K ρ=>br ρ (a.ev K ρ) fun v σ=>some (.next (ρ.set i (some v)),σ),CU i a.is,fun X st ρ P K Q E h I G w p=>dT (fun st=>wpAny X.M X.A (PySem.exec st X.env) Q E P.s) h fun t e pos h=>bM (fun t=>wpAny X.M X.A (PySem.exec (.Assign [t] e pos) X.env) Q E P.s) h fun x px h=>
 wpAny_Assign_Name (a.ok X.toCx e ρ P _ _ E (aj h) I G.toEnvOK (b9 w) (p.bind G fun y v P1 g I1 r w G1 p=>
  iu (bg (aj (ag (ag h)))) (aj (ag h)) I1 G1 r fun P2 g2 I2 G2 e2=>p.next _ P2 g2 I2 G2 (e2 ▸ w))) (eV ((Bool.not_eq_true' _).mp (ag (ag (ag h)))))⟩
set_option maxRecDepth 100000 in
theorem ni {prog:Program} {w:World} {A:Around} {E:Value→Shared→Prop} {s:Shared} {l:Addr} {vs:List Value} {n:Nat} {k:Int} {t:Tok} {v:Value} {Q:Unit→Shared→Prop} (ho:s.heap.get? l=some (aE vs n)) (h0:0≤k) (hfit:k<2^63) (hk:k<vs.length)
  (hQ:∀ h',h'.get? l=some (aE (vs.set k.toNat v) n)→Heap.SameBut l s.heap h'→Q () {s with heap:=h'}):wpAny (model prog w) A (PySem.setItem (.ref l) (.int k t) v) Q E s:=by
 have hl:s.heap.IsList l vs.toArray:=⟨_,ho,rfl,n,rfl⟩;unfold PySem.setItem
 try with_reducible refine wpAny_holding ?_
 first|refine Kp (Kq ?_)|skip
 refine Kp (wpAny_sequenceKey hl.typeIs (by decide) ?_);refine Kp (wpAny_callSpecial?_slot (name:=Str.ofString "__setitem__") hl.typeIs slot_list_setitem
  (wpAny_call_entry slot_list_setitem hl.typeIs entry_list_setitem ?_ (args_list_setitem _ _ _)))
 show wpAny _ _ (Builtin.List.listSubscript? (.int k t)>>=_) _ _ s;refine Kp (wpAny_listSubscript_int (fitsIndex_of h0 hfit) ?_);clear hfit;obtain ⟨j,rfl⟩:=Int.eq_ofNat_of_zero_le h0;have hj:j<vs.length:=by exact KT.mp hk
 have hx':vs.toArray[j]? =some vs[j]:=by simp [hj]
 show wpAny _ _ ((seqItemAt l j>>=fun r=>pure (r.map (j,·)))>>=_) _ _ s;refine Kp (Kp (wpAny_seqItemAt ho rfl (Kq ?_)));rw[hx'];show wpAny _ _ (setSeqItemAt l j v>>=_) _ _ s;have e1:(aE vs n).mapSeq (·.setIfInBounds j v)=aE (vs.set j v) n:=by simp [Obj.mapSeq]
 have g:=Heap.get?_update_self (Obj.mapSeq (·.setIfInBounds j v)) ho (by rw[e1];rfl);rw[e1] at g;refine Kp (wpAny_setSeqItemAt ho rfl ?_)
 first
  |exact Kp (Kq (Kq ⟨.none,rfl,Kq (hQ _ (by simpa using g) (Heap.SameBut.update ..))⟩))
  |exact Kq ⟨.none,rfl,Kq (hQ _ (by simpa using g) (Heap.SameBut.update ..))⟩
noncomputable def sW (k v:D):Fld→Option Fld
 | .list l=>(iD k).bind fun i=>al ((small i&&decide (0≤i)&&decide (i<l.length))=true) (.list (l.set i.toNat v))
 | .dict ks vs=>al (gU k ks=true∧ks.length<100000) (.dict (cQ k ks) (cP k v ks vs))
 | .d _=>none
theorem tm {K:Type} [DecidableEq K] {ks:List (K×Value)} {k:K} {v:Value} {P:K→Prop} (h:∀ e∈ks,P e.1) (hk:P k):∀ e∈stored ks k v,P e.1:=by
 intro e he;unfold stored at he;split at he
 ·obtain ⟨x,hx,rfl⟩:=Kt.mp he;split
  ·exact h x hx
  ·exact h x hx
 ·rcases Kv.mp he with he|he
  ·exact h e he
  ·rw[Ki.mp he];exact hk
section
variable {C:Cfg} {A:Around} {P:Pt} {E:Value→Shared→Prop} {Q:Unit→Shared→Prop}
theorem sU {n j:Nat} {f f':Fld} {k v:D} {vx vk vv:Value} (I:Inv C P) (hx:RV C P vx (.p n j)) (hk:RD C P.own k vk) (hv:RD C P.own v vv) (e:a8 P.σ n j=some f) (e':sW k v f=some f')
  (kk:∀ P',Grow P P'→Inv C P'→P'.σ=putAt P.σ n j f'→Q () P'.s):wpAny C.M A (PySem.setItem vx vk vv) Q E P.s:=by
 cases f with
 |d x=>cases e'
 |list l=>
  obtain ⟨i,e1,e2⟩:=bind_some e';obtain ⟨h1,q⟩:=grd e2;subst q;refine aK fun G9 k9=> ?_;obtain ⟨t,q⟩:=cZ e1 (hV I hk);obtain @⟨a,o,h2,h3,ws,m,e3,rr⟩:=kh I hx e (fun _ h=>by cases h);refine k9 ?_;rw[q];subst e3;have h0:=KX (aj (ag h1));have hl:=KX (aj h1);refine ni h3 h0 (by have:=(eW (ag (ag h1))).2;exact Int.lt_of_add_one_le this) (by rw[rr.length];exact hl) fun h' z1 z2=> ?_;refine aK fun G9 k9=> ?_;obtain ⟨P',q1,q2,q3,q4,q5⟩:=kJ (t:=P.s.toks) (f':=.list (l.set i.toNat v)) I (fun _ h=>by cases h) (fun _ h=>by cases h) e h2 (fun b o hb e=>z2.extBut b o hb e) z1 ⟨_,m,rfl,rr.set hv⟩;refine k9 ?_;have:=kk P' q1 q2 q3;rw[q5] at this;exact this
 |dict ks ps=>
  obtain ⟨⟨h1,h4⟩,q⟩:=grd e';subst q;refine aK fun G9 k9=> ?_;obtain @⟨a,o,h2,h3,vs,hd,rr⟩:=kh I hx e (fun _ h=>by cases h);obtain ⟨d,l,c,hk1,h5,e1,e2,h6,e3,h7,h8⟩:=pF hd hk h1;refine k9 ?_;subst e1;subst e2;subst e3
  letI:=d.dec
  have hlen:l.length<100000:=by rw[J'] at h4;exact h4
  refine wpAny_setItem_pairs h7 (Heap.dictOf_iff.mpr ⟨o,h3,h5⟩) (fun h' z1 z2=> ?_) (Km (KU hlen) (by decide));refine aK fun G9 k9=> ?_;obtain ⟨o',z3,z4⟩:=Heap.dictOf_iff.mp z1;have hnd:(l.map (·.1)).Nodup:=by obtain ⟨_,_,_,_,_,_,h⟩:=h5;exact h
  have pa:=yk hk1 c hv rr hnd;obtain ⟨P',q1,q2,q3,q4,q5⟩:=kJ (t:=P.s.toks+1) (f':=.dict (cQ (d.toD c) (l.map fun p=>d.toD p.1)) (cP (d.toD c) v (l.map fun p=>d.toD p.1) ps)) I (fun _ h=>by cases h) (fun _ h=>by cases h) e h2 (fun b o hb e=>z2.extBut b o hb e) z3 ⟨_,.mk d _ hk1 z4 pa.1 rfl (tm (P:=d.ok) h6 h8),pa.2⟩;refine k9 ?_;have:=kk P' q1 q2 q3;rw[q5] at this;exact this
end
noncomputable def wx (x:PV) (k v:D) (σ:Sto):Option Sto:=match x with
 | .p n j=>(a8 σ n j).bind fun f=>(sW k v f).map fun f'=>putAt σ n j f'
 | .d _=>none
theorem ww {x:PV} {k v:D} {σ σ':Sto} (h:wx x k v σ=some σ'):∃ n j f f',x= .p n j∧a8 σ n j=some f∧sW k v f=some f'∧σ'=putAt σ n j f':=by
 cases x with
 |d=>cases h
 |p n j=>
  refine aK fun G9 k9=> ?_;obtain ⟨f,e1,h⟩:=bind_some h;obtain ⟨f',e2,h⟩:=map_some h;refine k9 ?_;exact ⟨n,j,f,f',rfl,e1,e2,h.symm⟩
noncomputable def dZ {α:Type} (o:Option α) (k:α→Option (Out×Sto)):Option (Out×Sto):=o.bind k
theorem df {α:Type} {K:Out→Sto→Prop} {k:α→Option (Out×Sto)}:∀ {o:Option α},WpS K (dZ o k)→∃ a,o=some a∧WpS K (k a)
 |some a,h=>⟨a,rfl,h⟩
section
variable {X:SX} {st:Stmt} {ρ:Rho} {P:Pt} {K:Out→Sto→Prop} {Q:Flow→Shared→Prop} {E:Value→Shared→Prop}
theorem AI (o i a:CE) (h:kx (fun t e=>aY (fun oe ke _=> !ed e&&bP ke&&o.is X.sx oe&&i.is X.sx ke&&a.is X.sx e) t) st=true) (I:Inv X.C P) (G:SEnv X P ρ)
  (w:WpS K (br ρ (a.ev X.ker ρ) (fun v=>br ρ (o.ev X.ker ρ) fun x=>br ρ (i.ev X.ker ρ) fun k σ=>dZ (dOf k) fun k=>dZ (dOf v) fun v=>dZ (wx x k v σ) fun σ'=>some (.next ρ,σ')) P.σ)) (p:PostS X P K Q E):wpAny X.M X.A (PySem.exec st X.env) Q E P.s:=
 dT (fun st=>wpAny X.M X.A (PySem.exec st X.env) Q E P.s) h fun t e pos h=>bv (fun t=>wpAny X.M X.A (PySem.exec (.Assign [t] e pos) X.env) Q E P.s) h fun oe ke px h=>
  wpAny_Assign_Subscript (a.ok X.toCx e ρ P _ _ E (aj h) I G.toEnvOK (b9 w) (p.bind G fun v vv P1 g1 I1 r1 w G1 p=>
   o.ok X.toCx oe ρ P1 _ _ E (aj (ag (ag h))) I1 G1.toEnvOK (b9 w) (p.bind G1 fun x vx P2 g2 I2 r2 w G2 p=>
    i.ok X.toCx ke ρ P2 _ _ E (aj (ag h)) I2 G2.toEnvOK (b9 w) (p.bind G2 fun k vk P3 g3 I3 r3 w G3 p=>by
     refine aK fun G9 k9=> ?_;obtain ⟨dk,e1,w⟩:=df w;obtain ⟨dv,e2,w⟩:=df w;obtain ⟨σ',e3,w⟩:=df w;obtain ⟨n,j,f,f',q,e4,e5,e6⟩:=ww e3;refine k9 ?_;subst q;subst e6;exact sU I3 (r2.ext g3.toExt) (kF e1 r3) (kF e2 (r1.ext (g2.trans g3).toExt)) e4 e5 fun P4 g4 I4 e=>p.next ρ P4 (G3.gs g4) I4 (G3.ext g4) (e ▸ w))))) (eV ((Bool.not_eq_true' _).mp (ag (ag (ag (ag h))))))
end
noncomputable def lT (o i a:CE):C1:=⟨fun K ρ=>br ρ (a.ev K ρ) fun v=>br ρ (o.ev K ρ) fun x=>br ρ (i.ev K ρ) fun k σ=>dZ (dOf k) fun k=>dZ (dOf v) fun v=>dZ (wx x k v σ) fun σ'=>some (.next ρ,σ'),fun s=>kx fun t e=>aY (fun oe ke _=> !ed e&&bP ke&&o.is s oe&&i.is s ke&&a.is s e) t,fun X st ρ P K Q E h I G w p=>AI o i a h I G w p⟩
noncomputable def uj (v:PV) (σ:Sto):Option (PV×Sto):=match v with
 | .p n 0=>(a8 σ n 0).bind fun f=>f.rd.map fun x=>(.d x,σ.set n .dead)
 |_=>none
theorem C6 {C:Cfg} {w:a'} {a:Addr} {o:Obj} (h:w a= .fz o):∀ {f:Fld} {x:D},f.rd=some x→RF C w o f→RD C w x (.ref a)
 | .list _,_,e,⟨vs,n,e',r⟩=>by cases e;exact .lst (n:=⟨n,none,#[]⟩) (h.trans (congrArg Own.fz e')) r
 | .dict _ _,_,e,⟨vs,d,r⟩=>by cases e;exact .dct h d r
theorem zf {C:Cfg} {P:Pt} {x y:PV} {σ':Sto} (I:Inv C P) (e:uj x P.σ=some (y,σ')):∃ P',Grow P P'∧Inv C P'∧P'.σ=σ'∧P'.s=P.s∧∀ v,RV C P v x→RV C P' v y:=by
 match x,e with
 | .p n 0,e=>
  refine aK fun G9 k9=> ?_;obtain ⟨f,e1,e⟩:=bind_some e;obtain ⟨z,e2,e⟩:=map_some e;refine k9 ?_;cases e;refine aK fun G9 k9=> ?_;obtain ⟨o',e3,e4⟩:=bind_some e1;obtain ⟨_,q⟩:=Cd (I.obj n o' e3) e4 (fX e2).2;obtain @⟨a,o,h1,h2,h3⟩:=q;refine k9 ?_;have g:=Grow.ice (o:=o) e3 h1;exact ⟨P.ice n a o,g,I.ice e3 h1 h2,rfl,rfl,fun v r=>by rw[r.2 a h1];exact C6 (bn _ _ _) e2 (h3.ext g.fz)⟩
 | .p _ (_+1),e=>cases e
 | .d _,e=>cases e
theorem AJ (i:Nat) (l:CS) {X:SX} {st:List Stmt} {ρ:Rho} {P:Pt} {K:Out→Sto→Prop} {Q:Flow→Shared→Prop} {E:Value→Shared→Prop} (h:l.is X.sx st=true) (I:Inv X.C P) (G:SEnv X P ρ) (w:WpS K (dZ ((ρ[i]?).join) fun v=>dZ (uj v P.σ) fun q=>l.ex X.ker (ρ.set i (some q.1)) q.2)) (p:PostS X P K Q E):wpAny X.M X.A (PySem.execs st X.env) Q E P.s:=by
 refine aK fun G9 k9=> ?_;obtain ⟨v,e1,w⟩:=df w;obtain ⟨⟨y,σ'⟩,e2,w⟩:=df w;obtain ⟨P',g,I',e3,e4,k⟩:=zf I e2;refine k9 ?_;have G':=G.ext g;rw[←e4];refine l.ok X st (ρ.set i (some y)) P' K Q E h I' ⟨⟨G'.frs,G'.ne,fun x j q h1 h2 h3=> ?_⟩,G'.hd⟩ (by rw[e3];exact w) (p.mono (G.gs g));rcases oQ h3 with ⟨c1,c2⟩|⟨c1,c2⟩
 ·subst c1;subst c2;obtain ⟨u,r,ld⟩:=G.var x i v h1 h2 (n6 e1);exact ⟨u,k u r,g.fs ▸ ld⟩
 ·exact G'.var x j q h1 h2 c2
noncomputable def s0 (i:Nat) (l:CS):CS:=⟨fun K ρ σ=>dZ ((ρ[i]?).join) fun v=>dZ (uj v σ) fun q=>l.ex K (ρ.set i (some q.1)) q.2,l.is,fun _ _ _ _ _ _ _ h I G w p=>AJ i l h I G w p⟩
section
variable {C:Cfg} {P:Pt}
noncomputable def Pt.adopt (P:Pt) (h:Heap) (t:Nat) (a:Addr) (m n j:Nat) (o:PO):Pt:={P.to h t with own:=upd P.own a (.cell n j),σ:=(P.σ.set m .dead).set n o}
theorem xo (I:Inv C P) {h':Heap} {t m n i j:Nat} {a d:Addr} {oa od:Obj} {po p0 p1:PO} (em:P.σ[m]? =some po) (en:P.σ[n]? =some p0) (ne:m≠n) (ha:P.own a= .cell m 0) (hd:P.own d= .cell n i) (hs:∀ b o,b≠d→P.h.get? b=some o→h'.get? b=some o)
  (oa:P.h.get? a=some oa) (od:h'.get? d=some od) (hno:∀ b,P.own b≠ .cell n j) (h1:∀ b k,P.own b= .cell n k→p1.has k) (h2:p1.has j) (r:RO C (upd P.own a (.cell n j)) h' n p1):Inv C (P.adopt h' t a m n j p1)∧Fz P.own (upd P.own a (.cell n j)):=by
 have nad:a≠d:=fun q=>by rw[q,hd] at ha;cases ha;exact ne rfl
 have kk:∀ b o x,P.own b=x→x≠ .cell m 0→x≠ .cell n i→P.h.get? b=some o→upd P.own a (.cell n j) b=x∧h'.get? b=some o:=fun b o x e q1 q2 z=>
  have na:b≠a:=fun c=>q1 (by rw[←e,c,ha]);have nd:b≠d:=fun c=>q2 (by rw[←e,c,hd])
  ⟨(aW na).trans e,hs b o nd z⟩
 have fz:Fz P.own (upd P.own a (.cell n j)):=fun b o e=>(aW fun c=>by rw[c,ha] at e;cases e).trans e;have len:(P.σ.set m .dead).length=P.σ.length:=KG;have ln:=(Kg.mp en).1;have gn:((P.σ.set m .dead).set n p1)[n]? =some p1:=by rw[List.getElem?_set_self (by rw[len];exact ln)]
 refine ⟨⟨fun b o e=> ?_,fun c o e=> ?_,fun c e=> ?_,I.fr.mv (fun b o e q=>kk b o _ e Own.noConfusion Own.noConfusion q) (fun b e=>ji Own.noConfusion e),I.gh.mv fz fun b o e q=>kk b o _ e Own.noConfusion Own.noConfusion q,fun b c k j' e f=> ?_,fun c k j' e=> ?_,fun k o e=> ?_⟩,fz⟩
 ·obtain ⟨e1,e2⟩:=I.base b o e;exact (kk b o _ e2 Own.noConfusion Own.noConfusion e1).symm
 ·rcases b_ P.own a (.cell n j) c with ⟨_,q⟩|⟨_,q⟩
  ·cases q.symm.trans e
  ·have z:=q.symm.trans e;exact (kk c o _ z Own.noConfusion Own.noConfusion (I.fz c o z)).2
 ·by_cases c1:c=d
  ·exact ⟨_,c1 ▸ od⟩
  ·rcases b_ P.own a (.cell n j) c with ⟨p,q⟩|⟨_,q⟩
   ·exact ⟨_,hs c _ c1 (p ▸ oa)⟩
   ·obtain ⟨o,ho⟩:=I.live c (q ▸ e);exact ⟨o,hs c o c1 ho⟩
 ·rcases b_ P.own a (.cell n j) b with ⟨p,q⟩|⟨_,q⟩<;>rcases b_ P.own a (.cell n j) c with ⟨p',q'⟩|⟨_,q'⟩
  ·rw[p,p']
  ·cases q.symm.trans e;exact absurd (q'.symm.trans f) (hno c)
  ·cases q'.symm.trans f;exact absurd (q.symm.trans e) (hno b)
  ·exact I.one b c k j' (q.symm.trans e) (q'.symm.trans f)
 ·rcases b_ P.own a (.cell n j) c with ⟨p,q⟩|⟨_,q⟩
  ·cases q.symm.trans e;exact ⟨_,gn,h2⟩
  ·have e:=q.symm.trans e;by_cases c1:k=n
   ·rw[c1] at e ⊢;exact ⟨_,gn,h1 c j' e⟩
   ·obtain ⟨o,e1,e2⟩:=c6 em (o':=.dead) (fun _ _=>trivial) (I.bd c k j' e);exact ⟨o,by show ((P.σ.set m .dead).set n p1)[k]? =_;rw[KL (Ne.symm c1)];exact e1,e2⟩
 ·by_cases c1:k=n
  ·rw[c1] at e ⊢;cases (gn.symm.trans e);exact r
  ·have e:((P.σ.set m .dead).set n p1)[k]? =some o:=e;rw[KL (Ne.symm c1)] at e;by_cases c2:k=m
   ·rw[c2,List.getElem?_set_self (Kg.mp em).1] at e;cases e;exact True.intro
   ·rw[KL (Ne.symm c2)] at e;exact (I.obj k o e).mv fz fun b j o e q=>kk b o _ e (fun z=>by cases z;exact c2 rfl) (fun z=>by cases z;exact c1 rfl) q
theorem sF (I:Inv C P) {h':Heap} {t m n i:Nat} {a d:Addr} {oa od:Obj} {po:PO} {b:Bool} {l l':List Fld} (em:P.σ[m]? =some po) (en:P.σ[n]? =some (.rcd b l)) (ne:m≠n) (ha:P.own a= .cell m 0) (hd:P.own d= .cell n i) (hs:∀ b o,b≠d→P.h.get? b=some o→h'.get? b=some o)
  (oa:P.h.get? a=some oa) (od:h'.get? d=some od) (hl:l'.length=l.length+1) (r:RO C (upd P.own a (.cell n (l.length+2))) h' n (.rcd b l')):Inv C (P.adopt h' t a m n (l.length+2) (.rcd b l'))∧Grow P (P.adopt h' t a m n (l.length+2) (.rcd b l')):=by
 have lt:∀ b k,P.own b= .cell n k→k<l.length+2:=fun b k q=>by
  obtain ⟨o',e1,e2⟩:=I.bd b n _ q;rw[en] at e1;cases e1;exact e2
 have up:∀ k,k<l.length+2→k<l'.length+2:=fun k q=>by rw[hl];exact Nat.lt_succ_of_lt q
 obtain ⟨J,fz⟩:=xo (t:=t) (j:=l.length+2) (p1:=.rcd b l') I em en ne ha hd hs oa od (fun b q=>KY _ (lt b _ q)) (fun b k q=>up k (lt b k q)) (by show l.length+2<l'.length+2;rw[hl];exact Nat.lt_succ_self _) r;refine ⟨J,⟨⟨⟨h',t,rfl⟩,rfl,fz,fun k j v=> ?_,fun k j c v q=> ?_⟩,rfl⟩⟩
 ·have e2:(P.σ.set m .dead)[n]? =some (.rcd b l):=by rw[KL ne];exact en
  exact c6 e2 up (c6 em (fun _ _=>trivial) v)
 ·rcases b_ P.own a (.cell n (l.length+2)) c with ⟨p,z⟩|⟨_,z⟩
  ·cases z.symm.trans q;obtain ⟨o',e1,e2⟩:=v;rw[en] at e1;cases e1;exact absurd e2 (KY _)
  ·exact z.symm.trans q
theorem wp {A:Around} {s:Shared} {x dx:Addr} {es es':List DictEntry} {n n':Nat} {name:Str} {tk:Tok} {v:Value} {R:Result→Shared→Prop} (W:ClsOK C) (X:PySem.W.Frag.In C.K s.heap) (hx:s.heap.get? x=some (jz C.book dx)) (hd:s.heap.get? dx=some (c4 es n))
  (hno:PySem.W.findIn C.K (.ref C.book) name=some none) (href:es.any (·.refKey)=false) (hp:Obj.putName name (PyData.keyHash C.w.params name) (.str name s.toks) v (c4 es n)=c4 es' n') (hz:es'.length≤1000)
  (h:∀ h',h'.get? dx=some (c4 es' n')→Heap.SameBut dx s.heap h'→R (.ok (.ret .none)) {s with heap:=h',toks:=s.toks+1}):
  codeAny C.M A (.call (.builtin "object.__setattr__") ⟨[.ref x,.str name tk,v],[]⟩) R s:=by
 refine PySem.W.osa_open X (od:=some (c4 es n)) ⟨hx,rfl,rfl,hd⟩ W.plain (r:=none) (by unfold PySem.W.takerIn;rw[hno];rfl) fun b=> ?_;obtain ⟨cd,hc,hd'⟩:=W.cd;have g:=Heap.get?_update_self (Obj.putName name (PyData.keyHash C.w.params name) (.str name s.toks) v) hd (by rw[hp];rfl);rw[hp] at g;refine Kp (Kq (Kp (Kp (wpAny_loadPart hx (Kp ((PySem.W.looks_clsIn X hc).here ?_))))));rw[hd'];refine Kq (a:=some dx) (Kp (Kq (Kp ?_)));unfold nsSet;refine Kp (Kp (wpAny_askSetting (Kq (Kp (wpAny_mkText (Kp (wpAny_loadPart hd ?_)))))));dsimp only;have c:(!es.toArray.any (·.key.isStr name)&&es.toArray.any (·.refKey))=false:=by
  rw[←Array.any_toList,←Array.any_toList,href,Bool.and_false]
 rw[aRefKeyMayBeTheName_at,c];refine wpAny_updatePart hd ?_;refine Kp (wpAny_lookBehind g (pastItsLine_dict (by rw[Kz];exact Km hz (by decide))) ?_);exact Kq (h _ g (Heap.SameBut.update ..))
noncomputable def xN (k:Nat) (x v:PV) (σ:Sto):Option Sto:=match x with
 | .p n 0=>(bJ true σ n).bind fun l=>(al (k=l.length) ()).bind fun _=>match v with
  | .d y=>some (σ.set n (.rcd true (l++[.d y])))
  | .p m 0=>(al (m≠n) ()).bind fun _=>(a8 σ m 0).bind fun f=>f.rd.map fun _=>(σ.set m .dead).set n (.rcd true (l++[f]))
  |_=>none
 |_=>none
theorem FA.mono {w w':a'} {h h':Heap} {n i:Nat} {v:Value} {f:Fld} (x:Fz w w') (k:∀ b o,w b= .cell n (i+2)→h.get? b=some o→w' b= .cell n (i+2)∧h'.get? b=some o) (q:FA C w h n i v f):FA C w' h' n i v f:=by
 cases f with
 |d y=>exact RD.ext x q
 |list l=>
  obtain ⟨a,b,c⟩:FOb C w h n (i+2) (.list l) v:=q;exact FOb.mk (k _ _ a b).1 (k _ _ a b).2 (RF.ext x c)
 |dict ks ps=>
  obtain ⟨a,b,c⟩:FOb C w h n (i+2) (.dict ks ps) v:=q;exact FOb.mk (k _ _ a b).1 (k _ _ a b).2 (RF.ext x c)
theorem sX {A:Around} {E:Value→Shared→Prop} {Q:Unit→Shared→Prop} {k:Nat} {x v:PV} {vx vv:Value} {σ':Sto} (G:Good C) (hk:k<7) (I:Inv C P) (hx:RV C P vx x) (hv:RV C P vv v) (e:xN k x v P.σ=some σ')
  (kk:∀ P',Grow P P'→Inv C P'→P'.σ=σ'→Q () P'.s):wpAny C.M A (PySem.setAttr vx (C.att k) vv) Q E P.s:=by
 match x,hx,e with
 | .p _ (_+1),_,e=>cases e
 | .d _,_,e=>cases e
 | .p n 0,hx,e=>
 obtain ⟨l,e1,e⟩:=bind_some e;obtain ⟨_,e2,e⟩:=bind_some e;have e2:=(grd e2).1;have en:=gD e1;obtain @⟨a,d,es,m,h1,h2,h3,h4,h5,h6,h7,h8⟩:OInst C P.own P.h n l:=I.obj n _ en;have W:=G.cls;have XX:PySem.W.Frag.In C.K P.h:=W.X.keeps fun b o e=>(I.base b o e).1;have hnone:=m4 (C:=C) (es:=es) (off:=0) (x:=C.att k) (uK h5) (fun i _ h q=>by have:=W.inj i (H6 hk e2 h6 h) k hk q;exact H5 e2 h6 h this);have nad:d≠a:=fun q=>by rw[q,h1] at h3;cases h3
 rw[hx.2 a h1];have hp:Obj.putName (C.att k) (PyData.keyHash C.w.params (C.att k)) (.str (C.att k) (P.s.toks+1)) vv (c4 es m)=c4 (es++[⟨PyData.keyHash C.w.params (C.att k),.str (C.att k) (P.s.toks+1),vv⟩]) (m+1):=by
  rw[Obj.putName_eq];show (match es.toArray.findIdx? (·.key.isStr (C.att k)) with|some i=>_|none=>_)=_
  have:es.toArray.findIdx? (·.key.isStr (C.att k))=none:=by
   rw[List.findIdx?_toArray,List.findIdx?_eq_none_iff];intro e he;have:=hnone.1;rw[List.find?_eq_none] at this
   simpa using this e he
  rw[this];show ({cls:=.type "dict",data:=.dict (es.toArray.push _) (m+1)}:Obj)=_;rw[List.push_toArray]
 refine PySem.W.set_plain XX (show PySem.W.InstAt P.h a (jz C.book d) C.book (some (c4 es m)) from ⟨h2,rfl,rfl,h4⟩) W.sattr ?_;refine wp (s:={P.s with toks:=P.s.toks+1}) W XX h2 h4 (W.no k hk) hnone.2 hp (by simp;exact H4 hk e2 h6) fun h' g1 g2=> ?_;have at':mZ C (es++[⟨PyData.keyHash C.w.params (C.att k),.str (C.att k) (P.s.toks+1),vv⟩]):=fun i e he=>by
  by_cases c:i=es.length
  ·rw[(cV he).2 c,c,h6,←e2];exact ⟨⟨_,rfl⟩,rfl⟩
  ·exact h5 i e ((cV he).1 c)
 have ro:∀ (w':a') (f:Fld),Fz P.own w'→(∀ b j,P.own b= .cell n j→w' b= .cell n j)→FA C w' h' n k vv f→RO C w' h' n (.rcd true (l++[f])):=fun w' f fz kw fa=>by
  refine OInst.mk (kw _ _ h1) (g2.extBut _ _ (Ne.symm nad) h2) (kw _ _ h3) g1 at' (by simp [h6]) (by simp;exact H3 hk e2) fun i f' en' q1 q2=> ?_;by_cases c:i=l.length
  ·rw[(cV q1).2 c,(cV q2).2 (c.trans h6.symm),c,←e2];exact fa
  ·refine (h8 i f' en' ((cV q1).1 c) ((cV q2).1 (fun z=>c (z.trans h6)))).mono fz fun b o z1 z2=>⟨kw b _ z1,g2.extBut b o (fun z=> ?_) z2⟩;rw[z,h3] at z1;cases z1
 match v,hv,e with
 | .d y,hv,e=>
  cases e;have J:=I.turn (h':=h') (t:=P.s.toks+1+1) (po':=.rcd true (l++[.d y])) (fun j q=>by show j<(l++[Fld.d y]).length+2;simp;have:j<l.length+2:=q;exact Fi this) en h3 (fun b o hb e=>g2.extBut b o hb e) g1 (ro P.own (.d y) (fun _ _ e=>e) (fun _ _ e=>e) hv);exact kk _ (.turn en fun j q=>by show j<(l++[Fld.d y]).length+2;simp;have:j<l.length+2:=q;exact Fi this) J rfl
 | .p m' 0,hv,e=>
  obtain ⟨_,z1,e⟩:=bind_some e;obtain ⟨f,z2,e⟩:=bind_some e;obtain ⟨u,z3,e⟩:=map_some e;have z1:=(grd z1).1;obtain ⟨o',z4,z5⟩:=bind_some z2;obtain @⟨af,of,y1,y2,y3⟩:=kh I hv z2 (fX z3).2;have fz:Fz P.own (upd P.own af (.cell n (l.length+2))):=fun b o e=>(aW fun c=>by rw[c,y1] at e;cases e).trans e;have ndf:af≠d:=fun q=>by rw[q,h3] at y1;cases y1
  obtain ⟨J,g⟩:=sF (t:=P.s.toks+1+1) (l':=l++[f]) I z4 en z1 y1 h3 (fun b o hb e=>g2.extBut b o hb e) y2 g1 (by simp)
   (ro _ f fz (fun b j e=>(aW fun c=>by rw[c,y1] at e;cases e;exact z1 rfl).trans e) (zz (fX z3).2 (by rw[e2];exact FOb.mk (bn _ _ _) (g2.extBut _ _ ndf y2) (y3.ext fz))))
  exact kk _ g J e
 | .p _ (_+1),_,e=>cases e
end
section
variable {X:SX} {st:Stmt} {ρ:Rho} {P:Pt} {K:Out→Sto→Prop} {Q:Flow→Shared→Prop} {E:Value→Shared→Prop}
theorem xU (o:CE) (k:Nat) (a:CE) (h:kx (fun t e=>cF (fun oe x _=> !ed e&&x==X.sx.att k&&decide (k<7)&&o.is X.sx oe&&a.is X.sx e) t) st=true) (I:Inv X.C P) (G:SEnv X P ρ)
  (w:WpS K (br ρ (a.ev X.ker ρ) (fun v=>br ρ (o.ev X.ker ρ) fun x σ=>dZ (xN k x v σ) fun σ'=>some (.next ρ,σ')) P.σ)) (p:PostS X P K Q E):wpAny X.M X.A (PySem.exec st X.env) Q E P.s:=
 dT (fun st=>wpAny X.M X.A (PySem.exec st X.env) Q E P.s) h fun t e pos h=>dE (fun t=>wpAny X.M X.A (PySem.exec (.Assign [t] e pos) X.env) Q E P.s) h fun oe x px h=>by
  rw[bg (aj (ag (ag (ag h))))];exact plainObj_wpAny_Assign_Attribute (a.ok X.toCx e ρ P _ _ E (aj h) I G.toEnvOK (b9 w) (p.bind G fun v vv P1 g1 I1 r1 w G1 p=>
   o.ok X.toCx oe ρ P1 _ _ E (aj (ag h)) I1 G1.toEnvOK (b9 w) (p.bind G1 fun x vx P2 g2 I2 r2 w G2 p=>by
    obtain ⟨σ',e3,w⟩:=df w;exact sX X.good (KX (aj (ag (ag h)))) I2 r2 (r1.ext g2.toExt) e3 fun P4 g4 I4 e=>p.next ρ P4 (G2.gs g4) I4 (G2.ext g4) (e ▸ w)))) (eV ((Bool.not_eq_true' _).mp (ag (ag (ag (ag h))))))
end
noncomputable def gZ (o:CE) (k:Nat) (a:CE):C1:=⟨fun K ρ=>br ρ (a.ev K ρ) fun v=>br ρ (o.ev K ρ) fun x σ=>dZ (xN k x v σ) fun σ'=>some (.next ρ,σ'),fun s=>kx fun t e=>cF (fun oe x _=> !ed e&&x==s.att k&&decide (k<7)&&o.is s oe&&a.is s e) t,fun X st ρ P K Q E h I G w p=>xU o k a h I G w p⟩
section
variable {C:Cfg} {P:Pt}
noncomputable def Pt.hide (P:Pt) (h:Heap) (t:Nat) (a:Addr) (o:Obj):Pt:={P.to h t with own:=upd P.own a .gh,G:=(a,o)::P.G}
noncomputable def Pt.show (P:Pt) (h:Heap) (t:Nat) (a:Addr) (G:List (Addr×Obj)):Pt:={P.to h t with own:=upd P.own a .no,G:=G}
theorem Inv.hide (I:Inv C P) {h':Heap} {a:Addr} {o:Obj} {t:Nat} (n:New C P h' a o):Inv C (P.hide h' t a o):=by
 have kk:∀ b o x,P.own b=x→x≠ .no→P.h.get? b=some o→upd P.own a .gh b=x∧h'.get? b=some o:=fun b o x e q z=>⟨(aW fun c=>q (by rw[←e,c,n.own])).trans e,n.keep b o z⟩;have cs:=b_ P.own a .gh;refine ⟨fun b o e=> ?_,fun b o e=> ?_,fun b e=> ?_,I.fr.mv (fun b o e q=>kk b o _ e Own.noConfusion q) (fun b e=>ji Own.noConfusion e),⟨fun p hp=> ?_,?_,fun z e=>(I.gh.tab z e).map (dp n.own) fun b o q=>⟨n.keep b o q.1,(kk b o _ q.2.1 Own.noConfusion q.1).1,fun p hp=> ?_⟩⟩,fun b c k j e f=> ?_,fun b k j e=> ?_,fun k o e=>(I.obj k o e).mv (fun b o e=>(aW fun c=>by rw[c,n.own] at e;cases e).trans e) fun b j o e q=>kk b o _ e Own.noConfusion q⟩
 ·obtain ⟨e1,e2⟩:=I.base b o e;exact ⟨n.keep b o e1,(aW fun c=>by rw[c,n.H] at e;cases e).trans e2⟩
 ·rcases cs b with ⟨_,q⟩|⟨_,q⟩
  ·cases q.symm.trans e
  ·exact n.keep b o (I.fz b o (q.symm.trans e))
 ·rcases cs b with ⟨p,q⟩|⟨_,q⟩
  ·exact ⟨o,p ▸ n.at_⟩
  ·obtain ⟨o,ho⟩:=I.live b (q ▸ e);exact ⟨o,n.keep b o ho⟩
 ·rcases Kb.mp hp with q|q
  ·rw[q];exact ⟨n.at_,bn _ _ _⟩
  ·exact (kk _ _ _ (I.gh.at_ p q).2 Own.noConfusion (I.gh.at_ p q).1).symm
 ·refine K0.mpr ⟨fun q=> ?_,I.gh.nd⟩;obtain ⟨p,hp,e⟩:=Kt.mp q;have:=(I.gh.at_ p hp).2;rw[e,n.own] at this;cases this
 ·rcases Kb.mp hp with z|z
  ·rw[z];intro c;have:=q.2.1;rw[←c,n.own] at this;cases this
  ·exact q.2.2 p z
 ·rcases cs b with ⟨_,q⟩|⟨_,q⟩
  ·cases q.symm.trans e
  ·rcases cs c with ⟨_,q'⟩|⟨_,q'⟩
   ·cases q'.symm.trans f
   ·exact I.one b c k j (q.symm.trans e) (q'.symm.trans f)
 ·rcases cs b with ⟨_,q⟩|⟨_,q⟩
  ·cases q.symm.trans e
  ·exact I.bd b k j (q.symm.trans e)
section
variable {a:Addr} {o:Obj} {G:List (Addr×Obj)}
theorem Inv.gturn (I:Inv C P) (hG:P.G=(a,o)::G) {h':Heap} {o':Obj} {t:Nat} (hs:∀ b o,b≠a→P.h.get? b=some o→h'.get? b=some o) (ho:h'.get? a=some o'):Inv C {P.to h' t with G:=(a,o')::G}:=by
 have own:P.own a= .gh:=(I.gh.at_ (a,o) (by rw[hG];exact .head _)).2;have nd:=I.gh.nd;rw[hG] at nd;have kk:∀ b o x,P.own b=x→x≠ .gh→P.h.get? b=some o→P.own b=x∧h'.get? b=some o:=fun b o x e q z=>⟨e,hs b o (fun c=>q (by rw[←e,c,own])) z⟩;refine ⟨fun b o e=>⟨hs b o (fun c=> ?_) (I.base b o e).1,(I.base b o e).2⟩,fun b o e=>(kk b o _ e Own.noConfusion (I.fz b o e)).2,fun b e=> ?_,I.fr.mv (fun b o e q=>kk b o _ e Own.noConfusion q) (fun _ e=>e),⟨fun p hp=> ?_,nd,fun z e=>(I.gh.tab z e).map (fun _ _ e=>e) fun b o q=>⟨hs b o (Ne.symm (q.2.2 (a,_) (by rw[hG];exact .head _))) q.1,q.2.1,fun p hp=>(Kb.mp hp).elim (fun c=>by rw[c];show a≠b;exact q.2.2 (a,_) (by rw[hG];exact .head _)) fun c=>q.2.2 p (by rw[hG];exact .tail _ c)⟩⟩,I.one,I.bd,fun k o e=>(I.obj k o e).mv (fun _ _ e=>e) fun b j o e q=>kk b o _ e Own.noConfusion q⟩
 ·have:=(I.base b o e).2;rw[c,own] at this;cases this
 ·by_cases c:b=a
  ·exact ⟨o',c ▸ ho⟩
  ·obtain ⟨o,z⟩:=I.live b e;exact ⟨o,hs b o c z⟩
 ·rcases Kb.mp hp with q|q
  ·rw[q];exact ⟨ho,own⟩
  ·have z:=I.gh.at_ p (by rw[hG];exact .tail _ q);exact ⟨hs _ _ (fun c=>(K0.mp nd).1 (Kt.mpr ⟨p,q,c⟩)) z.1,z.2⟩
theorem Inv.show (I:Inv C P) (hG:P.G=(a,o)::G) {h':Heap} {t:Nat} (hs:∀ b o,b≠a→P.h.get? b=some o→h'.get? b=some o):Inv C (P.show h' t a G):=by
 have own:P.own a= .gh:=(I.gh.at_ (a,o) (by rw[hG];exact .head _)).2;have nd:=I.gh.nd;rw[hG] at nd;have cs:=b_ P.own a .no;have kk:∀ b o x,b≠a→P.own b=x→P.h.get? b=some o→upd P.own a .no b=x∧h'.get? b=some o:=fun b o x c e z=>⟨(aW c).trans e,hs b o c z⟩;have ka:∀ b x,P.own b=x→x≠ .gh→b≠a:=fun b x e q c=>q (by rw[←e,c,own]);refine ⟨fun b o e=> ?_,fun b o e=> ?_,fun b e=> ?_,I.fr.mv (fun b o e q=>kk b o _ (ka b _ e Own.noConfusion) e q) (fun b e=>ji Own.noConfusion e),⟨fun p hp=> ?_,(K0.mp nd).2,fun z e=>(I.gh.tab z e).map (fun b o e=>(aW (ka b _ e Own.noConfusion)).trans e) fun b o q=>have ne:=Ne.symm (q.2.2 (a,_) (by rw[hG];exact .head _));⟨hs b o ne q.1,(aW ne).trans q.2.1,fun p hp=>q.2.2 p (by rw[hG];exact .tail _ hp)⟩⟩,fun b c k j e f=> ?_,fun b k j e=> ?_,fun k o e=>(I.obj k o e).mv (fun b o e=>(aW (ka b _ e Own.noConfusion)).trans e) fun b j o e q=>kk b o _ (ka b _ e Own.noConfusion) e q⟩
 ·obtain ⟨e1,e2⟩:=I.base b o e;exact (kk b o _ (ka b _ e2 Own.noConfusion) e2 e1).symm
 ·rcases cs b with ⟨_,q⟩|⟨c,q⟩
  ·cases q.symm.trans e
  ·exact hs b o c (I.fz b o (q.symm.trans e))
 ·rcases cs b with ⟨_,q⟩|⟨c,q⟩
  ·exact absurd q e
  ·obtain ⟨o,z⟩:=I.live b (q ▸ e);exact ⟨o,hs b o c z⟩
 ·have z:=I.gh.at_ p (by rw[hG];exact .tail _ hp);exact (kk _ _ _ (fun c=>(K0.mp nd).1 (Kt.mpr ⟨p,hp,c⟩)) z.2 z.1).symm
 ·rcases cs b with ⟨_,q⟩|⟨_,q⟩
  ·cases q.symm.trans e
  ·rcases cs c with ⟨_,q'⟩|⟨_,q'⟩
   ·cases q'.symm.trans f
   ·exact I.one b c k j (q.symm.trans e) (q'.symm.trans f)
 ·rcases cs b with ⟨_,q⟩|⟨_,q⟩
  ·cases q.symm.trans e
  ·exact I.bd b k j (q.symm.trans e)
theorem ghA (I:Inv C P) (hG:P.G=(a,o)::G):P.own a= .gh∧P.h.get? a=some o:=by
 have z:=I.gh.at_ (a,o) (by rw[hG];exact .head _);exact ⟨z.2,z.1⟩
theorem eD {w:a'} (e:w a= .gh):Fz w (upd w a .no):=fun b o q=>(aW fun c=>by rw[c,e] at q;cases q).trans q
theorem jK {w:a'} {b:Addr} {n j:Nat} (q:upd w a .no b= .cell n j):w b= .cell n j:=by
 rcases b_ w a .no b with ⟨_,r⟩|⟨_,r⟩
 ·cases r.symm.trans q
 ·exact r.symm.trans q
theorem RV.show {v:Value} {h:Heap} {t:Nat} (e:P.own a= .gh):∀ {p:PV},RV C P v p→RV C (P.show h t a G) v p
 | .d _,r=>RD.ext (eD e) r
 | .p n j,r=>⟨r.1,fun b q=>r.2 b (jK q)⟩
end
structure Past (P₀ P:Pt) (a:Addr) (o:Obj):Prop where
 sm:Same P₀.s P.s
 fs:Like P₀.fs P.fs
 G:P.G=(a,o)::P₀.G
 fz:Fz P₀.own P.own
 val:∀ n j,Valid P₀.σ n j→Valid P.σ n j
 cell:∀ n j b,Valid P₀.σ n j→P.own b= .cell n j→P₀.own b= .cell n j
theorem Past.show {P₀:Pt} {a:Addr} {o:Obj} {h:Heap} {t:Nat} (x:Past P₀ P a o) (e:P.own a= .gh):GrowS P₀ (P.show h t a P₀.G):=
 ⟨⟨x.sm.trans ⟨h,t,rfl⟩,rfl,fun b o q=>eD e b o (x.fz b o q),x.val,fun n j b v q=>x.cell n j b v (jK q)⟩,x.fs⟩
theorem Past.grow {P₀ P':Pt} {a:Addr} {o:Obj} (x:Past P₀ P a o) (g:GrowS P P'):Past P₀ P' a o:=
 ⟨x.sm.trans g.sm,x.fs.trans g.fs,g.G.trans x.G,fun b o q=>g.fz b o (x.fz b o q),fun n j v=>g.val n j (x.val n j v),fun n j b v q=>x.cell n j b v (g.cell n j b (x.val n j v) q)⟩
theorem Past.turn {P₀:Pt} {a:Addr} {o o':Obj} {h:Heap} {t:Nat} (x:Past P₀ P a o):Past P₀ {P.to h t with G:=(a,o')::P₀.G} a o':=
 ⟨x.sm.trans ⟨h,t,rfl⟩,x.fs,rfl,x.fz,x.val,x.cell⟩
theorem Past.start {P:Pt} {a:Addr} {o:Obj} {h:Heap} {t:Nat} (e:P.own a= .no) (hf:∃ f r,P.fs=f::r):Past P (P.hide h t a o) a o:=by
 obtain ⟨f,r,hf⟩:=hf;refine ⟨⟨h,t,rfl⟩,by show Like P.fs P.fs;rw[hf];exact .mk (.refl f),rfl,dp e,fun _ _ v=>v,fun n j b v q=> ?_⟩;rcases b_ P.own a .gh b with ⟨_,r⟩|⟨_,r⟩
 ·cases r.symm.trans q
 ·exact r.symm.trans q
end
structure Itr (C:Cfg) (va:Value) (x:D) (w:a') (I:Addr) (St:Nat→Heap→Prop):Prop where
 own:∀ i h h',St i h→h'.get? I=h.get? I→St i h'
 fld:∀ i h,St i h→∃ o,h.get? I=some o
 self:∀ (A:Around) (i:Nat) (s:Shared) (Q:Value→Shared→Prop) (E:Value→Shared→Prop),St i s.heap→Q (.ref I) s→wpAny C.M A (pyIter (.ref I)) Q E s
 item:∀ (A:Around) (i:Nat) (P:Pt) (xs:List D) (y:D) (Q:Option Value→Shared→Prop) (E:Value→Shared→Prop),A.handled=none→Inv C P→Fz w P.own→Now C P va x→items x=some xs→xs[i]? =some y→St i P.h→
  (∀ val h' tk,RD C P.own y val→St (i+1) h'→(∀ b o,b≠I→P.h.get? b=some o→h'.get? b=some o)→Q (some val) {P.s with heap:=h',toks:=tk})→wpAny C.M A (pyNext (.ref I)) Q E P.s
 done:∀ (A:Around) (i:Nat) (P:Pt) (xs:List D) (Q:Option Value→Shared→Prop) (E:Value→Shared→Prop),A.handled=none→Inv C P→Fz w P.own→Now C P va x→items x=some xs→xs.length=i→St i P.h→
  (∀ h' tk,(∀ b o,b≠I→P.h.get? b=some o→h'.get? b=some o)→Q none {P.s with heap:=h',toks:=tk})→wpAny C.M A (pyNext (.ref I)) Q E P.s
section
variable {C:Cfg} {A:Around} {P:Pt} {Q E:Value→Shared→Prop}
theorem DH (I:Inv C P) {va:Value} {l:List D} (hn:SeqV C P.own bN l va)
  (k:∀ o St,o.isFreed=false→Itr C va (.tup l) P.own P.h.objs.size St→St 0 (P.h.push o)→Q (.ref P.h.objs.size) {P.s with heap:=P.h.push o}):wpAny C.M A (pyIter va) Q E P.s:=by
 obtain @⟨a,vs,n,o,r⟩:=hn;refine wpAny_pyIter_tuple (items:=vs.toArray) ⟨_,I.fz _ _ o,rfl,n,rfl⟩ (k _ (fun i h=>h.IsTupleIter P.h.objs.size a i) rfl ⟨?_,?_,fun A i s Q E st h=>wpAny_pyIter_tupleiter st h,?_,?_⟩ ⟨_,Kx _ rfl,rfl,rfl⟩)
 ·exact fun i h h' x e=>x.at fun o q=>e.trans q
 ·rintro i h ⟨o,ho,_⟩;exact ⟨o,ho⟩
 ·intro A i P' xs y Q E hh I' fz hr hx hi hst k;cases hx;obtain ⟨w,hw,hrw⟩:=(r.ext fz).get hi;exact wpAny_pyNext_tuple_item hst ⟨_,I'.fz _ _ (fz _ _ o),rfl,_,rfl⟩ (x:=w) (by simpa using hw) fun h' h1 h2=>k w h' P'.s.toks hrw h1 fun b o hb e=>h2.extBut b o hb e
 ·intro A i P' xs Q E hh I' fz hr hx hi hst k;cases hx;exact wpAny_pyNext_tuple_end hh hst ⟨_,I'.fz _ _ (fz _ _ o),rfl,_,rfl⟩ (by simp [r.length,hi]) fun h' h2=>k h' P'.s.toks fun b o hb e=>h2 b o hb e
theorem DK (I:Inv C P) {va:Value} {l:List D} (hn:LstV C P l va)
  (k:∀ o St,o.isFreed=false→Itr C va (.lst l) P.own P.h.objs.size St→St 0 (P.h.push o)→Q (.ref P.h.objs.size) {P.s with heap:=P.h.push o}):wpAny C.M A (pyIter va) Q E P.s:=by
 obtain @⟨a,vs,n,o,_,r⟩:=hn;refine wpAny_pyIter_list (items:=vs.toArray) ⟨_,o,rfl,_,rfl⟩ (k _ (fun i h=>h.IsListIter P.h.objs.size a i) rfl ⟨?_,?_,fun A i s Q E st h=>wpAny_pyIter_listiter st h,?_,?_⟩ ⟨_,Kx _ rfl,rfl,rfl⟩)
 ·exact fun i h h' x e=>x.at fun o q=>e.trans q
 ·rintro i h ⟨o,ho,_⟩;exact ⟨o,ho⟩
 ·intro A i P' xs y Q E hh I' fz hr hx hi hst k;cases (grd hx).2;generalize he:Value.ref a=v at hr;obtain @⟨b,vs',n',o',_,r'⟩:LstV C P' l v:=hr;cases he;obtain ⟨w,hw,hrw⟩:=r'.get hi;exact wpAny_pyNext_list_item hst ⟨_,o',rfl,_,rfl⟩ (x:=w) (by simpa using hw) fun h' h1 h2=>k w h' P'.s.toks hrw h1 fun b o hb e=>h2.extBut b o hb e
 ·intro A i P' xs Q E hh I' fz hr hx hi hst k;cases (grd hx).2;generalize he:Value.ref a=v at hr;obtain @⟨b,vs',n',o',_,r'⟩:LstV C P' l v:=hr;cases he;exact wpAny_pyNext_list_end hh hst ⟨_,o',rfl,_,rfl⟩ (by simp [r'.length,hi]) fun h' h2=>k h' P'.s.toks fun b o hb e=>h2 b o hb e
theorem DI (I:Inv C P) {va:Value} {l:List Nat} (hn:okS l∧∃ t,va= .str (ofL l) t)
  (k:∀ o St,o.isFreed=false→Itr C va (.str l) P.own P.h.objs.size St→St 0 (P.h.push o)→Q (.ref P.h.objs.size) {P.s with heap:=P.h.push o}):wpAny C.M A (pyIter va) Q E P.s:=by
 obtain ⟨hs,t,q⟩:=hn;subst q;have hchar:∀ i (x:D) (xs:List D),items (.str l)=some xs→xs[i]? =some x→∃ c,x= .str [c]∧l[i]? =some c∧okS [c]:=fun i x xs hx hi=>by
  cases (grd hx).2;rw[Ku] at hi;obtain ⟨c,hc,rfl⟩:=K2.mp hi;exact ⟨c,rfl,hc,fun d hd=>by rw[Ki.mp hd];exact hs.1 c (KJ hc),by simp [lim]⟩
 have hlen:∀ (xs:List D),items (.str l)=some xs→xs.length=l.length:=fun xs hx=>by
  cases (grd hx).2;simp
 cases ha:(ofL l).cps.all (· <128)
 ·refine wpAny_pyIter_wide ha (k _ (fun i h=>h.IsStrIter P.h.objs.size "str_iterator" (ofL l) t i) rfl ⟨?_, ?_,fun A i s Q E st h=>wpAny_pyIter_striter_wide st h, ?_, ?_⟩ ⟨_,Kx _ rfl,rfl,rfl⟩)
  ·rintro i h h' ⟨o,ho,r⟩ e;exact ⟨o,e.trans ho,r⟩
  ·rintro i h ⟨o,ho,_⟩;exact ⟨o,ho⟩
  ·intro A i P' xs y Q E hh I' fz hr hx hi hst k;obtain ⟨c,rfl,hc,hk⟩:=hchar i y xs hx hi;exact wpAny_pyNext_wide_item hst (c:=c) (by simpa using hc) fun h' h1 h2=>k _ h' _ (.str [c] _ hk) h1 fun b o hb e=>h2.extBut b o hb e
  ·intro A i P' xs Q E hh I' fz hr hx hi hst k;exact wpAny_pyNext_wide_end hh hst (by simp [←hi,hlen xs hx]) fun h' h2=>k h' P'.s.toks fun b o hb e=>h2 b o hb e
 ·refine wpAny_pyIter_ascii ha (k _ (fun i h=>h.IsStrIter P.h.objs.size "str_ascii_iterator" (ofL l) t i) rfl ⟨?_, ?_,fun A i s Q E st h=>wpAny_pyIter_striter_ascii st h, ?_, ?_⟩ ⟨_,Kx _ rfl,rfl,rfl⟩)
  ·rintro i h h' ⟨o,ho,r⟩ e;exact ⟨o,e.trans ho,r⟩
  ·rintro i h ⟨o,ho,_⟩;exact ⟨o,ho⟩
  ·intro A i P' xs y Q E hh I' fz hr hx hi hst k;obtain ⟨c,rfl,hc,hk⟩:=hchar i y xs hx hi;exact wpAny_pyNext_ascii_item hst (c:=c) (by simpa using hc) fun h' h1 h2=>k _ h' _ (.str [c] _ hk) h1 fun b o hb e=>h2.extBut b o hb e
  ·intro A i P' xs Q E hh I' fz hr hx hi hst k;exact wpAny_pyNext_ascii_end hh hst (by simp [←hi,hlen xs hx]) fun h' h2=>k h' P'.s.toks fun b o hb e=>h2 b o hb e
theorem DJ (I:Inv C P) {va:Value} {a b c:Int} {xs:List D} (hn:RngV P.own a b c va) (hx0:items (.rng a b c)=some xs)
  (k:∀ o St,o.isFreed=false→Itr C va (.rng a b c) P.own P.h.objs.size St→St 0 (P.h.push o)→Q (.ref P.h.objs.size) {P.s with heap:=P.h.push o}):wpAny C.M A (pyIter va) Q E P.s:=by
 obtain @⟨r,t,u,v,hm⟩:=hn;obtain ⟨hg,_⟩:=grd hx0;simp only [Bool.and_eq_true,decide_eq_true_eq] at hg;obtain ⟨⟨⟨⟨g1,g2⟩,g3⟩,g4⟩,g5⟩:=hg;have s1: -(2^62)<a∧a<2^62:=by simpa [small] using g1
 have s2: -(2^62)<b∧b<2^62:=by simpa [small] using g2
 have hsize:Builtin.Range.rangeSize a b c=(bS a b c:Int):=by
  unfold Builtin.Range.rangeSize bS;rw[if_pos g3];split
  ·have:0≤(b - a - 1) / c:=Int.ediv_nonneg (H2 (by assumption)) (o42 g3);exact (KV (KO this (K_ (by decide)))).symm
  ·rfl
 have hfit:∀ i:Int,-(2^63)≤i→i<2^63→Builtin.Range.rangeFitsLong i=true:=fun i h1 h2=>by
  unfold Builtin.Range.rangeFitsLong;simp;exact ⟨h1,h2⟩
 have hsm:Builtin.Range.small a b c=true:=by
  unfold Builtin.Range.small;rw[hsize,hfit a (Fh s1) (Fg s1),hfit b (Fh s2) (Fg s2),hfit c (by exact KO (by decide) g3) (by exact KO g4 (by decide)),hfit _ (H1) (by exact KT.mpr (KE g5 (Kj rfl))),if_pos g3,hfit (b+(c - 1)) (by exact KO (by decide:(-2^63:Int)≤ -2^62+(0+1 - 1)) (Int.add_le_add (Lb s2.1) (Int.sub_le_sub_right (Int.add_one_le_of_lt g3) 1))) (by exact Int.lt_trans (Int.add_lt_add s2.2 (Int.sub_lt_sub_right g4 1)) (by decide))];simp
 refine wpAny_pyIter_range (I.fz _ _ hm) hsm (k _ (fun i h=>IsRangeIter h P.h.objs.size (a+(i:Nat)*c) ((bS a b c:Int) - (i:Nat)) c) rfl ⟨?_,?_,fun A i s Q E st h=>wpAny_pyIter_rangeiter st h,?_,?_⟩ ?_)
 ·intro i h h' x e;exact e.trans x
 ·intro i h x;exact ⟨_,x⟩
 ·intro A i P' xs2 y Q E hh I' fz hr hx2 hi hst k;cases (grd hx2).2;rw[Ku] at hi;obtain ⟨j,hj,rfl⟩:=K2.mp hi;obtain ⟨hlt,hj⟩:=Kg.mp hj;simp at hlt hj;subst hj;refine wpAny_pyNext_range_item hst (by exact Int.sub_pos_of_lt (KT.mpr hlt)) fun h' h1 h2=>k _ h' _ (.int _ _) ?_ fun b o hb e=>h2.extBut b o hb e;have e1:a+((i+1:Nat):Int)*c=a+(i:Int)*c+c:=by push_cast;rw[Int.add_mul,Int.one_mul,Int.add_assoc]
  have e2:(bS a b c:Int) - ((i+1:Nat):Int)=(bS a b c:Int) - (i:Int) - 1:=by push_cast;exact H0
  show IsRangeIter _ _ _ _ _;rw[e1,e2];exact h1
 ·intro A i P' xs2 Q E hh I' fz hr hx2 hi hst k;cases (grd hx2).2;simp at hi;exact wpAny_pyNext_range_end hh hst (HZ hi) fun h' h2=>k h' P'.s.toks fun b o hb e=>h2 b o hb e
 ·rw[hsize];have:=Kx P.h (o:={cls:=.type "range_iterator",data:=.fields #[rawInt a,rawInt (bS a b c:Int),rawInt c]}) rfl
  simpa using this
end
section
variable {C:Cfg} {A:Around} {P:Pt} {Q E:Value→Shared→Prop}
theorem DB {d:KD C} (hd:IsKD C d) {c:d.K} {kv:Value} {w:a'} (h:letI:=d.dec;d.knd.is c kv=true) (ok:d.ok c):RD C w (d.toD c) kv:=by
 cases hd with
 |str=>
  cases kv with
  |str x t=>
   have e:x=c:=by simpa [PySem.strKind,Value.isStrOf] using h
   rw[e];exact s_ rfl ok t
  |_=>simp [PySem.strKind,Value.isStrOf] at h
 |int=>
  cases kv with
  |int x t=>
   have e:x=c:=by simpa [intKind,Value.isInt] using h
   rw[e];exact .int c t
  |_=>simp [intKind,Value.isInt] at h
theorem DL (G:Good C) (I:Inv C P) {va:Value} {ks ps ys:List D} (hn:DctV C P.own ks ps va) (hit:items (.dct ks ps)=some ys)
  (k:∀ o St,o.isFreed=false→Itr C va (.dct ks ps) P.own P.h.objs.size St→St 0 (P.h.push o)→Q (.ref P.h.objs.size) {P.s with heap:=P.h.push o}):wpAny C.M A (pyIter va) Q E P.s:=by
 obtain @⟨a,o,vs,ho,hda,_⟩:=hn;cases hda with
 |pr xs es ep _ _ _ _ _ e _ hne=>
  have hf:=(grd hit).1.2;cases xs with
  |nil=>exact absurd rfl hne
  |cons x xs=>rw[e] at hf;cases hf
 |mk d l hd h1 h2 h3 h4=>
 letI:=d.dec
 obtain ⟨es,ep,z1,z2,z3,z4,z5⟩:=h1;have hD:∀ P':Pt,Inv C P'→Fz P.own P'.own→P'.h.DictAt d.knd a l ep:=fun P' I' fz=>⟨o,es,I'.fz _ _ (fz _ _ ho),z1,z2,z3,z4,z5⟩;refine wpAny_pyIter_dict (ep:=ep) (ce G I (by rw[ho];nofun)) (hD P I fun _ _ e=>e) (k _ (fun i h=>h.IsKeyIter P.h.objs.size a i l.length ep) rfl ⟨?_,?_,fun A i s Q E st h=>wpAny_pyIter_keyiter st h,?_,?_⟩ ⟨_,Kx _ rfl,rfl,rfl⟩)
 ·exact fun i h h' x e=>x.at fun o q=>e.trans q
 ·rintro i h ⟨o,ho,_⟩;exact ⟨o,ho⟩
 ·intro A i P' xs y Q E hh I' fz hr hx hi hst k;have e:=(grd hx).2;rw[←e,h2,Ku] at hi;obtain ⟨⟨c,v⟩,hc,rfl⟩:=K2.mp hi;refine wpAny_pyNext_dict_item hst (hD P' I' fz) hc fun kv h' hkv g1 g2=> ?_;exact k _ h' P'.s.toks (DB hd hkv (h4 _ (KJ hc))) g1 fun b o hb e=>g2.extBut b o hb e
 ·intro A i P' xs Q E hh I' fz hr hx hi hst k;have e:=(grd hx).2;rw[←e,h2,J'] at hi;exact wpAny_pyNext_dict_end hh hst (hD P' I' fz) (by rw[←hi];exact List.getElem?_eq_none (Ko _)) fun h' h2=>k h' P'.s.toks fun b o hb e=>h2 b o hb e
noncomputable def EK (x:D):PV→Bool
 | .d _=>true
 | .p _ _=>isL x
noncomputable def itV (v:PV) (σ:Sto):Option (D×List D):=(rd σ v).bind fun x=>(al (EK x v=true) ()).bind fun _=>(items x).map fun xs=>(x,xs)
theorem mw {v:PV} {σ:Sto} {x:D} {xs:List D} (h:itV v σ=some (x,xs)):rd σ v=some x∧EK x v=true∧items x=some xs:=by
 obtain ⟨y,e1,h⟩:=bind_some h;obtain ⟨_,e2,h⟩:=bind_some h;obtain ⟨ys,e3,h⟩:=map_some h;cases h;exact ⟨e1,(grd e2).1,e3⟩
theorem vD (G:Good C) (I:Inv C P) {v:PV} {va:Value} {x:D} {xs:List D} (r:RV C P va v) (e:itV v P.σ=some (x,xs))
  (k:∀ o St,o.isFreed=false→Itr C va x P.own P.h.objs.size St→St 0 (P.h.push o)→Q (.ref P.h.objs.size) {P.s with heap:=P.h.push o}):wpAny C.M A (pyIter va) Q E P.s:=by
 obtain ⟨e1,e2,e3⟩:=mw e;have hn:=bh I r e1;cases x with
 |tup l=>exact DH I (RD.view hn) k
 |lst l=>exact DK I hn k
 |str l=>exact DI I (RD.view hn) k
 |rng a b c=>exact DJ I (RD.view hn) e3 k
 |dct ks ps=>
  cases v with
  |p n j=>cases e2
  |d y=>
   cases e1;exact DL G I (RD.view r) e3 k
 |_=>cases e3
theorem nO {P':Pt} {v:PV} {va:Value} {x:D} (I':Inv C P') (r:RV C P' va v):∀ {σ:Sto},rd σ v=some x→bp P'.σ x v=true→Now C P' va x:=fun {σ} e h=>by
 cases v with
 |d y=>cases e;exact hV I' r
 |p n j=>exact bh I' r (@KX _ (_) h)
end
noncomputable def iF (e:Expr):Bool:=e.ctorIdx !=7
theorem n9 {e:Expr} {env:Env} (h:iF e=true) (x:Value):foldedSetIterable e env x=pure x:=by
 cases e<;>first|rfl|(cases h;done)
def fK (K:Out→Sto→Prop) (v:PV) (x:D) (i:Nat) (body:Rho→Sto→Option (Out×Sto)) (r:List D):Out→Sto→Prop
 | .next ρ,σ=>bp σ x v=true∧WpS K (cx v x i body r ρ σ)
 |o,σ=>K o σ
theorem CG {K:Out→Sto→Prop} {v:PV} {x y:D} {i:Nat} {body:Rho→Sto→Option (Out×Sto)} {r:List D} {ρ:Rho} {σ:Sto} (h:WpS K (cx v x i body (y::r) ρ σ)):WpS (fK K v x i body r) (body (ρ.set i (some (.d y))) σ):=by
 have h:WpS K (match body (ρ.set i (some (.d y))) σ with
  |some (.next ρ',σ')=>if bp σ' x v then cx v x i body r ρ' σ' else none
  |z=>z):=h
 generalize body (ρ.set i (some (.d y))) σ=z at h
 match z,h with
 |none,h=>exact h
 |some (.ret _,_),h=>exact h
 |some (.ex _ _,_),h=>exact h
 |some (.next ρ',σ'),h=>
  have h:WpS K (if bp σ' x v then cx v x i body r ρ' σ' else none):=h;cases q:bp σ' x v with
  |true=>rw[q] at h;exact ⟨q,h⟩
  |false=>rw[q] at h;exact h.elim
inductive FInv (X:SX) (K:Out→Sto→Prop) (b:CS) (i:Nat) (v:PV) (va:Value) (x:D) (xs:List D) (σ₀:Sto) (St:Nat→Heap→Prop) (P₀:Pt) (n:Nat) (s:Shared):Prop
 |mk (P:Pt) (ρ:Rho) (j:Nat) (o:Obj):P.s=s→Past P₀ P P₀.h.objs.size o→Inv X.C P→SEnv X P ρ→RV X.C P va v→bp P.σ x v=true→St j P.h→j≤xs.length→n=xs.length - j→
  WpS K (cx v x i (fun ρ=>b.ex X.ker ρ) (xs.drop j) ρ P.σ)→FInv X K b i v va x xs σ₀ St P₀ n s
section
variable {X:SX} {P P₀:Pt} {ρ:Rho} {K:Out→Sto→Prop} {Q:Flow→Shared→Prop} {E:Value→Shared→Prop}
theorem SEnv.show {a:Addr} {h:Heap} {t:Nat} {G:List (Addr×Obj)} (e:P.own a= .gh) (q:SEnv X P ρ):SEnv X (P.show h t a G) ρ:=
 ⟨⟨q.frs,q.ne,fun x i p h1 h2 h3=>by
  obtain ⟨v,r,l⟩:=q.var x i p h1 h2 h3;exact ⟨v,r.show e,l⟩⟩,q.hd⟩
theorem w6 {w:a'} {a b:Addr} (h:kept (upd w a .no b)):kept (w b):=by
 rcases b_ w a .no b with ⟨_,r⟩|⟨_,r⟩
 ·rw[r] at h;exact h.elim
 ·rw[r] at h;exact h
theorem Exc.show {C:Cfg} {A:Around} {a:Addr} {G:List (Addr×Obj)} {c:Nat} {e:Value}:Exc C A P c e→Exc C A (P.show P.h P.s.toks a G) c e:=fun h=>by
 obtain ⟨h1,B,k1,k2,k3,k4,k5,k6⟩:=h;exact ⟨h1,B,k1,k2,k3,k4,fun b o q=>k5 b o (w6 q),k6⟩
theorem PostS.past {a:Addr} {o:Obj} (p:PostS X P₀ K Q E) (x:Past P₀ P a o) (I:Inv X.C P):(∀ q v P',GrowS P P'→Inv X.C P'→RV X.C P' v q→K (.ret q) P'.σ→Q (.ret v) P'.s)∧(∀ c ρ e P',GrowS P P'→Inv X.C P'→Exc X.C X.A P' c e→SEnv X P' ρ→K (.ex c ρ) P'.σ→E e P'.s):=by
 refine ⟨fun q v P' g I' r k=> ?_,fun c ρ e P' g I' xx G k=> ?_⟩
 ·have x':=x.grow g;have w:=(ghA I' x'.G).1;exact p.ret q v (P'.show P'.h P'.s.toks a P₀.G) (x'.show w) (I'.show x'.G fun _ _ _ e=>e) (r.show w) k
 ·have x':=x.grow g;have w:=(ghA I' x'.G).1;exact p.ex c ρ e (P'.show P'.h P'.s.toks a P₀.G) (x'.show w) (I'.show x'.G fun _ _ _ e=>e) xx.show (G.show w) k
end
noncomputable def b8 (h:Heap):List Addr→Heap
 |[]=>h
 |a::r=>(b8 h r).update a fun o=>{o with data:=.freed}
theorem get?_freed (h:Heap) (a b:Addr):(h.update a fun o=>{o with data:=.freed}).get? b=if b=a then none else h.get? b:=by
 by_cases e:b=a
 ·subst e;rw[if_pos rfl];unfold Heap.get? Heap.update;rw[Array.getElem?_modify,if_pos rfl];cases h.objs[b]? <;>rfl
 ·rw[if_neg e];exact Heap.get?_update_other _ _ (Ne.symm e)
theorem get?_without (h:Heap):∀ (l:List Addr) (b:Addr),(b8 h l).get? b=if b∈l then none else h.get? b
 |[],b=>by simp [b8]
 |a::r,b=>by
  unfold b8;rw[get?_freed,get?_without h r b];by_cases e:b=a
  ·simp [e]
  ·simp [e]
section
variable {C:Cfg} {M:Model} {A:Around} {E:Value→Shared→Prop} {P:Pt} {env:Env} {outer ls:List Env} {e:Addr} {c:Nat}
theorem Inv.slots (I:Inv C P) {h':Heap} (kb:∀ b o,C.H.get? b=some o→h'.get? b=some o) (kn:∀ b o,kept (P.own b)→P.h.get? b=some o→h'.get? b=some o) (u:P.h.UpToSlots h'):Inv C (P.to h' P.s.toks):=by
 have kk:∀ b o x,P.own b=x→kept x→P.h.get? b=some o→P.own b=x∧h'.get? b=some o:=fun b o x e q z=>⟨e,kn b o (e ▸ q) z⟩;refine ⟨fun b o e=>⟨kb b o e,(I.base b o e).2⟩,fun b o e=>(kk b o _ e trivial (I.fz b o e)).2,fun b e=> ?_,⟨fun f hf=>⟨u.ns (I.fr.ns f hf).1,(I.fr.ns f hf).2⟩,fun f hf c hc=>⟨?_,(I.fr.cl f hf c hc).2⟩,I.fr.ord,I.fr.all⟩,I.gh.mv (fun _ _ e=>e) fun b o e q=>kk b o _ e trivial q,I.one,I.bd,fun n o e=>(I.obj n o e).mv (fun _ _ e=>e) fun b j o e q=>kk b o _ e trivial q⟩
 ·obtain ⟨o,ho⟩:=I.live b e;cases q:P.own b with
  |no=>exact absurd q e
  |fr=>
   have z:∀ vs,o.data≠ .fields vs:=by
    obtain ⟨f,hf,hm⟩:=I.fr.all b q;rcases Kb.mp hm with r|r
    ·obtain ⟨o',es,ep,h1,h2,_⟩:=(I.fr.ns f hf).1;rw[←r,ho] at h1;cases h1;intro vs;rw[h2];nofun
    ·obtain ⟨o',h1,h2⟩:=(I.fr.cl f hf b r).1;rw[ho] at h1;cases h1;intro vs;rw[h2];nofun
   obtain ⟨sl,e⟩:=u b o ho z;exact ⟨_,e⟩
  |fz o'=>exact ⟨o,kn b o (by rw[q];trivial) ho⟩
  |cell n j=>exact ⟨o,kn b o (by rw[q];trivial) ho⟩
  |gh=>exact ⟨o,kn b o (by rw[q];trivial) ho⟩
 ·obtain ⟨o,ho,hd⟩:=(I.fr.cl f hf c hc).1;obtain ⟨sl,e⟩:=u c o ho fun vs q=>by rw[hd] at q;cases q
  exact ⟨_,e,hd⟩
def Held (C:Cfg) (P:Pt) (ls:List Env) (e:Addr) (c:Nat) (fl:Value):Prop:=
 ∃ B:Heap,B.StaysIn P.h∧B.get? e=none∧P.h.FunFrames B ls∧(∀ b o,C.H.get? b=some o→B.get? b=some o)∧(∀ b o,kept (P.own b)→P.h.get? b=some o→B.get? b=some o)∧∃ a0,P.h.TracedAtW B e (.ref (C.exc c)) a0 fl
theorem Held.at {L:Addr} (hf:env.frame=some L) (x:Held C P (env::outer) e c (rawInt L)):oF C P (env::outer) e c:=by
 refine aK fun G9 k9=> ?_;obtain ⟨B,k1,k2,k3,k4,k5,a0,ht⟩:=x;refine k9 ?_;exact ⟨B,k1,k2,k3,k4,k5,.inr (.inr ⟨a0,env,L,rfl,hf,ht⟩)⟩
theorem kX {B h':Heap} (I:Inv C P) (k1:B.StaysIn P.h) (k5:∀ b o,kept (P.own b)→P.h.get? b=some o→B.get? b=some o):∀ b o,kept (P.own b)→h'.get? b=some o→B.StaysIn h'→B.get? b=some o:=fun b o q z s=>by
 obtain ⟨o',ho⟩:=I.live b (fun e=>by rw[e] at q;exact q);have:=k5 b o' q ho;rw[s b o' this] at z;cases z;exact this
theorem xd {L:Addr} {Q:Unit→Shared→Prop} (hfr:A.frames=some (env::outer)) (hf:env.frame=some L) (I:Inv C P) (hx:oF C P (env::outer) e c)
  (hQ:∀ h',Inv C (P.to h' P.s.toks)→oF C (P.to h' P.s.toks) outer e c→Q () {P.s with heap:=h'}):wpAny M A (leaving env (.ref e)) Q E P.s:=by
 refine aK fun G9 k9=> ?_;obtain ⟨B,k1,k2,k3,k4,k5,hx⟩:=hx;refine k9 ?_;have fin:∀ h',B.StaysIn h'→h'.FunFrames B outer→P.h.UpToSlots h'→(∃ a0,h'.TracedW B e (.ref (C.exc c)) a0)→Q () {P.s with heap:=h'}:=fun h' x1 x2 x4 x3=>
  hQ h' (I.slots (fun b o q=>x1 b o (k4 b o q)) (fun b o q z=>x1 _ _ (k5 b o q z)) x4) ⟨B,x1,k2,x2,k4,fun b o q z=>kX I k1 k5 b o q z x1,.inr (.inl x3)⟩
 rcases hx with ⟨oe,vs,a0,he,hc,hd,h1,h0⟩|⟨a0,ht⟩|⟨a0,env',L',hh,hf',ht⟩
 ·exact wpAny_leaving_firstW hfr k3 hf he k1 k2 hd h1 h0 fun h' ⟨x1,⟨_,_,x2⟩,x3,x4⟩=>fin h' x1 x2 x4 ⟨a0,hc ▸ x3⟩
 ·exact wpAny_leaving_nextW hfr k3 hf ht k1 k2 fun h' ⟨x1,⟨_,_,x2⟩,x3,x4⟩=>fin h' x1 x2 x4 ⟨a0,x3⟩
 ·cases hh;unfold leaving;refine Kp (wpAny_noteFrame_againW hf' ht ?_);refine wpAny_setFlight_noneW k1 k3 ht fun h' x1 x2 x3 x4=> ?_;obtain ⟨_,_,x2⟩:=x2;exact fin h' x1 x2 (fun b o hb hn=>⟨o.slots,x4 b o hb hn⟩) ⟨a0,x3⟩
theorem rV {L:Addr} {Q:Unit→Shared→Prop} (hfr:A.frames=some (env::outer)) (hf:env.frame=some L) (I:Inv C P) (hx:oF C P (env::outer) e c)
  (hQ:∀ h',Inv C (P.to h' P.s.toks)→Held C (P.to h' P.s.toks) (env::outer) e c (rawInt L)→Q () {P.s with heap:=h'}):wpAny M A (noteFrame (.ref e) env) Q E P.s:=by
 refine aK fun G9 k9=> ?_;obtain ⟨B,k1,k2,k3,k4,k5,hx⟩:=hx;refine k9 ?_;have fin:∀ h',B.StaysIn h'→h'.FunFrames B (env::outer)→P.h.UpToSlots h'→(∃ a0,h'.TracedAtW B e (.ref (C.exc c)) a0 (rawInt L))→Q () {P.s with heap:=h'}:=fun h' x1 x2 x4 x3=>
  hQ h' (I.slots (fun b o q=>x1 b o (k4 b o q)) (fun b o q z=>x1 _ _ (k5 b o q z)) x4) ⟨B,x1,k2,x2,k4,fun b o q z=>kX I k1 k5 b o q z x1,x3⟩
 rcases hx with ⟨oe,vs,a0,he,hc,hd,h1,h0⟩|⟨a0,ht⟩|⟨a0,env',L',hh,hf',ht⟩
 ·unfold noteFrame;simp only [hf];refine Kp (wpAny_field he hd h1 ?_);rw[if_neg (by decide)];exact wpAny_entryW hfr k3 hf he k1 k2 hd (Array.getElem?_eq_some_iff.mp h1).1 h0 fun h' ⟨x1,x2,x3,x4⟩=>fin h' x1 x2 x4 ⟨a0,hc ▸ x3⟩
 ·exact wpAny_noteFrame_onW hfr k3 hf ht k1 k2 fun h' ⟨x1,x2,x3,x4⟩=>fin h' x1 x2 x4 ⟨a0,x3⟩
 ·cases hh;rw[hf] at hf';cases hf';exact wpAny_noteFrame_againW hf ht (hQ P.h I ⟨B,k1,k2,k3,k4,k5,a0,ht⟩)
theorem zC {L:Addr} {Q:Unit→Shared→Prop} (hf:env.frame=some L) (I:Inv C P) (hx:Held C P ls e c (rawInt L))
  (hQ:∀ h',Inv C (P.to h' P.s.toks)→Held C (P.to h' P.s.toks) ls e c (rawInt L)→Q () {P.s with heap:=h'}):
  wpAny M A (do
   if (←field (.ref e) 1)== .none then unsupported "frame.own-activation:exception-without-traceback"
   setFlight (.ref e) env.frame) Q E P.s:=by
 refine aK fun G9 k9=> ?_;obtain ⟨B,k1,k2,k3,k4,k5,a0,oe,vs,T,oT,ts,he,hcls,hd,h1,hnT,hTe,hT,hdT,h3⟩:=hx;refine k9 ?_;have hsz3:3<ts.size:=(Array.getElem?_eq_some_iff.mp h3).1;have other:∀ b,b≠T→(P.h.update T (Obj.mapFields (·.setIfInBounds 3 (rawInt L)))).get? b=P.h.get? b:=
  fun b hb=>Heap.get?_update_other _ _ (Ne.symm hb)
 have noRecord:∀ b o,P.h.get? b=some o→(∀ vs,o.data≠ .fields vs)→b≠T:=fun b o hb hnf q=>by
  rw[q,hT] at hb;injection hb with hb;subst hb;exact hnf ts hdT
 refine Kp (wpAny_field he hd h1 ?_);rw[if_neg (show¬((Value.ref T==Value.none)=true) from by simp)];unfold setFlight;refine Kp (wpAny_field he hd h1 ?_);rw[if_pos (show (Value.ref T !=Value.none)=true from by simp),hf];have st:∀ b o,B.get? b=some o→(P.h.update T (Obj.mapFields (·.setIfInBounds 3 (rawInt L)))).get? b=some o:=fun b o hbo=>(other b fun q=>by rw[q,hnT] at hbo;cases hbo).trans (k1 b o hbo);refine wpAny_setField hT hdT hsz3 (hQ _ (I.slots (fun b o q=>st b o (k4 b o q)) (fun b o q z=>st _ _ (k5 b o q z)) fun b o hb hn=>⟨o.slots,(other b (noRecord b o hb hn)).trans hb⟩) ?_);refine ⟨B,st,k2,k3.of_keeps fun b o hb hnf=>⟨o,(other b (noRecord b o hb hnf)).trans hb,rfl⟩,k4,fun b o q z=>kX I k1 k5 b o q z st,a0,?_⟩;exact ⟨oe,vs,T,_,_,(other e (Ne.symm hTe)).trans he,hcls,hd,h1,hnT,hTe,Heap.get?_update_self _ hT (Obj.isFreed_of_fields (Obj.data_mapFields hdT _)),Obj.data_mapFields hdT _,by simp [hsz3]⟩
theorem zB {h':Heap} {vs:List Value} {tk:Nat} (I:Inv C P) (hA:kq A P.fs) (hx:Heap.MadeExcOf P.h h' e (.ref (C.exc c)) vs):Inv C (P.to h' tk)∧Exc C A (P.to h' tk) c (.ref e):=by
 refine aK fun G9 k9=> ?_;obtain ⟨k,new,t,he,_,_⟩:=hx;obtain ⟨ls,hls,hl⟩:=hA;refine k9 ?_;refine ⟨I.to k,.mk hls ⟨b8 P.h (P.fs.map (·.L)),fun b o hb=> ?_,?_,?_,fun b o hb=> ?_,fun b o q hb=> ?_,.inl ⟨_,_,_,he,rfl,rfl,rfl,rfl⟩⟩⟩
 ·rw[get?_without] at hb;split at hb
  ·cases hb
  ·exact k b o hb
 ·rw[get?_without];split
  ·rfl
  ·exact new
 ·clear hls
  induction ls with
  |nil=>trivial
  |cons env ls ih=>
   refine aK fun G9 k9=> ?_;obtain ⟨a,f,hf,b⟩:=hl env (.head _);obtain ⟨o,es,ep,ho,hd,_⟩:=(I.fr.ns f hf).1;refine k9 ?_;refine ⟨a,⟨f.L,o,b,?_,k _ _ ho,fun vs q=>by rw[hd] at q;cases q⟩,ih fun e he=>hl e (.tail _ he)⟩;rw[get?_without,if_pos (List.mem_map_of_mem hf)]
 ·rw[get?_without,if_neg]
  ·exact (I.base b o hb).1
  ·intro q;obtain ⟨f,hf,z⟩:=Kt.mp q;have:=(I.base b o hb).2;rw[←z,(I.fr.ns f hf).2.1] at this;cases this
 ·have hb':P.h.get? b=some o:=by
   obtain ⟨o',ho⟩:=I.live b (fun e=>by have q:kept (P.own b):=q;rw[e] at q;exact q);have:=k b o' ho;rw[show h'.get? b=some o from hb] at this;cases this;exact ho
  rw[get?_without,if_neg]
  ·exact hb'
  ·intro z;obtain ⟨f,hf,z⟩:=Kt.mp z;have q:kept (P.own b):=q;rw[←z,(I.fr.ns f hf).2.1] at q;exact q
end
section
variable {X:SX} {st:Stmt} {ρ:Rho} {P:Pt} {K:Out→Sto→Prop} {Q:Flow→Shared→Prop} {E:Value→Shared→Prop}
theorem rW {c:Nat} {e:Value} {E:Value→Shared→Prop} {M:Model} (I:Inv X.C P) (hx:Exc X.C X.A P c e) (k:∀ P',Grow P P'→Inv X.C P'→P'.σ=P.σ→Exc X.C X.A P' c e→E e P'.s):notedBy M X.A X.env (cameBackBy M X.A X.env E) e P.s:=by
 obtain ⟨h1,h2⟩:=hx;rw[X.fr] at h1;cases h1;unfold notedBy;refine rV X.fr X.frame I h2 fun h1 I1 x1=> ?_;unfold cameBackBy;refine zC (P:=P.to h1 P.s.toks) X.frame I1 x1 fun h2 I2 x2=> ?_;exact k ((P.to h1 P.s.toks).to h2 P.s.toks) ((Grow.to ..).trans (.to ..)) I2 rfl (.mk X.fr (x2.at X.frame))
noncomputable def isR (c:Nat) (m:List Nat) (s:Sx) (st:Stmt):Bool:=pK (fun ex cause _=>cause.isNone&&jst (du fun x es=>one (bR fun k _ _=>Ai (fun t=>x==gP c&&decide (c<nX)&&dg s.sc x&&t.cps.toList==m&&okB m) k) es) ex) st
theorem yi (c:Nat) (m:List Nat) (h:isR c m X.sx st=true) (I:Inv X.C P) (G:SEnv X P ρ) (w:WpS K (match X.ker.hd with|true=>none|false=>some (Out.ex c ρ,P.σ))) (p:PostS X P K Q E):wpAny X.M X.A (PySem.exec st X.env) Q E P.s:=by
 refine pJ (fun st=>wpAny X.M X.A (PySem.exec st X.env) Q E P.s) h fun ex cause pos h=> ?_;refine iG (fun cause=>wpAny X.M X.A (PySem.exec (.Raise ex cause pos) X.env) Q E P.s) (ag h) ?_;refine fc (fun ex=>wpAny X.M X.A (PySem.exec (.Raise ex none pos) X.env) Q E P.s) (aj h) fun ex h=> ?_;refine dt (fun ex=>wpAny X.M X.A (PySem.exec (.Raise (some ex) none pos) X.env) Q E P.s) h fun x px es q4 h=> ?_;refine cS (fun es=>wpAny X.M X.A (PySem.exec (.Raise (some (.Call (.Name x px) es [] q4)) none pos) X.env) Q E P.s) h fun a h=> ?_;refine cq (fun a=>wpAny X.M X.A (PySem.exec (.Raise (some (.Call (.Name x px) [a] [] q4)) none pos) X.env) Q E P.s) h fun k q2 q3 h=> ?_;refine oB (fun k=>wpAny X.M X.A (PySem.exec (.Raise (some (.Call (.Name x px) [.Constant k q2 q3] [] q4)) none pos) X.env) Q E P.s) h fun s h=> ?_;have hw:=aj (ag (ag h));have h17:=KX (aj (ag (ag (ag h))));rw[bg (ag (ag (ag (ag h))))] at hw ⊢;cases hh:X.hd with
 |true=>rw[show X.ker.hd=true from hh] at w;exact w.elim
 |false=>
 rw[show X.ker.hd=false from hh] at w;refine aK fun G9 k9=> ?_;obtain ⟨tl,Nn,nm,q,bs,hdct,sn,sub,ab,col,dd,k0,k1,k2,k3,k5,mN,hcls,hN,hni,T⟩:=(X.good.exc c h17).obj;refine k9 ?_;have keep:∀ b o,X.C.H.get? b=some o→P.h.get? b=some o:=fun b o e=>(I.base b o e).1;refine wpAny_Raise_call_subT (C:=X.C.exc c) (nm:=nm) (q:=q) (N:=Nn) (bs:=bs) (bm:=tl) (hdct:=hdct) (sn:=sn) (sub:=sub) (ab:=ab) (col:=col) (dd:=dd) (k0:=k0) (k1:=k1) (k2:=k2) (k3:=k3) (k5:=k5)
  PySem.F.excBase_ValueError (mN:=mN) (T.hasType PySem.F.excBase_ValueError.hasBase) (X.hnd hh) rfl hni (c7 I hw (X.good.exc c h17).bound ⟨rfl,?_⟩)
 refine cj (fun y hy=>by cases Ki.mp hy;rfl) ?_;refine Calls.spliced_cons ?_;refine wpAny_Constant_str (k:=q2) (pos:=q3) ?_;refine Calls.spliced_nil ⟨rfl,by simp [sizeLine],keep _ _ hcls,hN.keeps keep,T.keeps keep,fun h' e hx=> ?_⟩;obtain ⟨I',x⟩:=zB (tk:=P.s.toks+1) I G.frs hx;exact p.ex c ρ _ (P.to h' (P.s.toks+1)) (G.gs (.to ..)) I' x (G.ext (.to ..)) w
end
noncomputable def bZ (c:Nat) (m:List Nat):C1:=⟨fun K ρ σ=>match K.hd with|true=>none|false=>some (.ex c ρ,σ),isR c m,fun _ _ _ _ _ _ _ h I G w p=>yi c m h I G w p⟩
section
variable {X:SX} {st:Stmt} {ρ:Rho} {P P₀:Pt} {K:Out→Sto→Prop} {Q:Flow→Shared→Prop} {E:Value→Shared→Prop}
theorem SEnv.hide {a:Addr} {o:Obj} {h:Heap} {t:Nat} (e:P.own a= .no) (q:SEnv X P ρ):SEnv X (P.hide h t a o) ρ:=
 ⟨⟨q.frs,q.ne,fun x i p h1 h2 h3=>by
  obtain ⟨v,r,l⟩:=q.var x i p h1 h2 h3;have pa:=Past.start (h:=h) (t:=t) (o:=o) e (by obtain ⟨f,r,z,_⟩:=q.hd;exact ⟨f,r,z⟩);refine ⟨v,?_,l⟩;cases p with
  |d x=>exact RD.ext pa.fz r
  |p n j=>exact ⟨r.1,fun b z=>r.2 b (pa.cell n j b r.1 z)⟩⟩,q.hd⟩
theorem RV.hide {C:Cfg} {v:Value} {a:Addr} {o:Obj} {h:Heap} {t:Nat} (e:P.own a= .no) (hf:∃ f r,P.fs=f::r) {p:PV} (r:RV C P v p):RV C (P.hide h t a o) v p:=by
 have pa:=Past.start (h:=h) (t:=t) (o:=o) e hf;cases p with
 |d x=>exact RD.ext pa.fz r
 |p n j=>exact ⟨r.1,fun b z=>r.2 b (pa.cell n j b r.1 z)⟩
theorem RV.gto {C:Cfg} {v:Value} {G:List (Addr×Obj)} {h:Heap} {t:Nat}:∀ {p:PV},RV C P v p→RV C {P.to h t with G:=G} v p
 | .d _,r=>r
 | .p _ _,r=>r
theorem SEnv.gto {G:List (Addr×Obj)} {h:Heap} {t:Nat} (q:SEnv X P ρ):SEnv X {P.to h t with G:=G} ρ:=
 ⟨⟨q.frs,q.ne,fun x i p h1 h2 h3=>by
  obtain ⟨v,r,l⟩:=q.var x i p h1 h2 h3;exact ⟨v,r.gto,l⟩⟩,q.hd⟩
theorem D5 (i:Nat) (it:CE) (b:CS) (h:vG (fun t e be el _=>el.isEmpty&&cE (fun x _=>X.sx.Γ.lookup x==some i&&hO X.sx.sc x&&iF e&&it.is X.sx e&&b.is X.sx be) t) st=true) (I:Inv X.C P) (G:SEnv X P ρ)
  (w:WpS K (match X.ker.hd with|true=>none|false=>br ρ (it.ev X.ker ρ) (fun v σ=>dZ (itV v σ) fun q=>cx v q.1 i (fun ρ=>b.ex X.ker ρ) q.2 ρ σ) P.σ)) (p:PostS X P K Q E):wpAny X.M X.A (PySem.exec st X.env) Q E P.s:=by
 refine uh (fun st=>wpAny X.M X.A (PySem.exec st X.env) Q E P.s) h fun t e be el pos h=> ?_;refine bu (fun el=>wpAny X.M X.A (PySem.exec (.For t e be el pos) X.env) Q E P.s) (ag h) ?_;refine bM (fun t=>wpAny X.M X.A (PySem.exec (.For t e be [] pos) X.env) Q E P.s) (aj h) fun y py h=> ?_;cases hd:X.hd with
 |true=>rw[show X.ker.hd=true from hd] at w;exact w.elim
 |false=>
 rw[show X.ker.hd=false from hd] at w;have hh:=X.hnd hd;refine wpAny_For (it.ok X.toCx e ρ P _ _ E (aj (ag h)) I G.toEnvOK (b9 w) (p.bind G fun v va P₀ g₀ I₀ r₀ w G₀ p=> ?_)) (n9 (aj (ag (ag h))));obtain ⟨⟨x,xs⟩,e0,w⟩:=df w;obtain ⟨e1,e2,e3⟩:=mw e0;refine vD X.good I₀ r₀ e0 fun oi St hof W st0=> ?_;have hfs:∃ f r,P₀.fs=f::r:=by obtain ⟨f,r,z,_⟩:=G₀.hd;exact ⟨f,r,z⟩
 have hn:=I₀.push hof;have still0:bp P₀.σ x v=true:=by
  cases v with
  |d y=>rfl
  |p n j=>exact @Kr _ (_) e1
 refine codeAny_forLoop (FInv X K b i v va x xs P₀.σ St P₀) ?_ xs.length ⟨P₀.hide (P₀.h.push oi) P₀.s.toks P₀.h.objs.size oi,ρ,0,oi,rfl,.start hn.own hfs,I₀.hide hn,G₀.hide hn.own,r₀.hide hn.own hfs,still0,st0,KI _,rfl,w⟩;rintro n s ⟨P₁,ρ₁,j,o₁,rfl,x₁,I₁,G₁,r₁,s₁,st₁,hj,rfl,w⟩;have now₁:=nO I₁ r₁ e1 s₁;rcases Nat.lt_or_ge j xs.length with hlt|hge
 ·rw[List.drop_eq_getElem_cons hlt] at w;refine W.item X.A j P₁ xs xs[j] _ _ hh I₁ x₁.fz now₁ e3 (Kh hlt) st₁ fun val h' tk rv st₂ kp=> ?_;obtain ⟨o₂,ho₂⟩:=W.fld _ _ st₂;have I₂:=I₁.gturn (t:=tk) x₁.G kp ho₂;have x₂:=x₁.turn (o':=o₂) (h:=h') (t:=tk);have G₂:=G₁.gto (G:=(P₀.h.objs.size,o₂)::P₀.G) (h:=h') (t:=tk);refine wpAny_assign_Name (iu (p:=.d xs[j]) (bg (ag (ag (ag (ag h))))) (aj (ag (ag (ag h)))) I₂ G₂ rv fun P₃ g₃ I₃ G₃ e₃=> ?_);have x₃:=x₂.grow g₃;have pp:=p.past x₃ I₃;refine b.ok X be _ P₃ (fK K v x i (fun ρ=>b.ex X.ker ρ) (xs.drop (j+1))) _ _ (aj h) I₃ G₃ (by rw[e₃];exact CG w) ⟨fun ρ₄ P₄ g₄ I₄ G₄ k=> ?_,fun q u P₄ g₄ I₄ r₄ k=>pp.1 q u P₄ g₄ I₄ r₄ k,fun c ρ' e P₄ g₄ I₄ xx G₄ k=> ?_⟩
  ·have x₄:=x₃.grow g₄;refine ⟨xs.length - (j+1),o45 hlt,⟨P₄,ρ₄,j+1,o₂,rfl,x₄,I₄,G₄,?_,k.1,W.own _ _ _ st₂ ?_,hlt,rfl,k.2⟩⟩
   ·exact (r₁.gto.ext g₃.toExt).ext g₄.toExt
   ·rw[(ghA I₄ x₄.G).2,ho₂]
  ·refine rW I₄ xx fun P₅ g₅ I₅ e₅ x₅=>pp.2 c ρ' e P₅ (g₄.grow g₅) I₅ x₅ (G₄.ext g₅) (e₅ ▸ k)
 ·have hjx:j=xs.length:=Nat.le_antisymm hj hge;rw[hjx,List.drop_length] at w;refine W.done X.A j P₁ xs _ _ hh I₁ x₁.fz now₁ e3 hjx.symm st₁ fun h' tk kp=> ?_;have w₁:=(ghA I₁ x₁.G).1;exact wpAny_execs_nil (p.next ρ₁ (P₁.show h' tk P₀.h.objs.size P₀.G) (x₁.show w₁) (I₁.show x₁.G kp) (G₁.show w₁) w)
end
noncomputable def cN (i:Nat) (it:CE) (b:CS):C1:=⟨fun K ρ σ=>match K.hd with|true=>none|false=>br ρ (it.ev K ρ) (fun v σ=>dZ (itV v σ) fun q=>cx v q.1 i (fun ρ=>b.ex K ρ) q.2 ρ σ) σ,fun s=>vG fun t e be el _=>el.isEmpty&&cE (fun x _=>s.Γ.lookup x==some i&&hO s.sc x&&iF e&&it.is s e&&b.is s be) t,fun _ _ _ _ _ _ _ h I G w p=>D5 i it b h I G w p⟩
section
variable {C:Cfg} {P:Pt}
open Classical in
noncomputable def Pt.enter (P:Pt) (h:Heap) (t:Nat) (g:Fm):Pt:={P.to h t with fs:=g::P.fs,own:=fun a=>if a∈g.adr then .fr else P.own a}
theorem zK {g:Fm} {h:Heap} {t:Nat} {a:Addr} (e:a∈g.adr):(P.enter h t g).own a= .fr:=@if_pos _ (_) e _ _ _
theorem r8 {g:Fm} {h:Heap} {t:Nat} {a:Addr} (e:a∉g.adr):(P.enter h t g).own a=P.own a:=@if_neg _ (_) e _ _ _
theorem rZ {g:Fm} {h:Heap} {t:Nat} {a:Addr} {x:Own} (e:(P.enter h t g).own a=x) (hx:x≠ .fr):P.own a=x:=by
 by_cases q:a∈g.adr
 ·exact absurd ((zK q).symm.trans e).symm hx
 ·exact (r8 q).symm.trans e
theorem Inv.enter (I:Inv C P) {h':Heap} {t:Nat} {g:Fm} (sz:C.H.objs.size≤P.h.objs.size) (kp:∀ b o,P.h.get? b=some o→h'.get? b=some o) (hL:P.h.objs.size≤g.L) (hn:h'.Ns g.L g.m) (hc:∀ c∈g.cells,h'.IsCell c (g.cv c)∧g.L<c):Inv C (P.enter h' t g):=by
 have ge:∀ a∈g.adr,P.h.objs.size≤a:=fun a ha=>by
  rcases Kb.mp ha with q|q
  ·rw[q];exact hL
  ·exact Km hL (KU (hc a q).2)
 have no:∀ b o,P.h.get? b=some o→b∉g.adr:=fun b o e q=>Lf.mpr (ge b q) (KN e);have kk:∀ b o x,P.own b=x→P.h.get? b=some o→(P.enter h' t g).own b=x∧h'.get? b=some o:=fun b o x e z=>⟨(r8 (no b o z)).trans e,kp b o z⟩;refine ⟨fun b o e=>(kk b o _ (I.base b o e).2 (I.base b o e).1).symm,fun b o e=>kp b o (I.fz b o (rZ e Own.noConfusion)),fun b e=> ?_,⟨fun f hf=> ?_,fun f hf c hcc=> ?_,?_,fun b e=> ?_⟩,I.gh.mv (fun b o e=>(kk b o _ e (I.fz b o e)).1) fun b o e q=>kk b o _ e q,fun a b n j e f=>I.one a b n j (rZ e Own.noConfusion) (rZ f Own.noConfusion),fun a n j e=>I.bd a n j (rZ e Own.noConfusion),fun n o e=>(I.obj n o e).mv (fun b o e=>(kk b o _ e (I.fz b o e)).1) fun b j o e q=>kk b o _ e q⟩
 ·by_cases q:b∈g.adr
  ·rcases Kb.mp q with z|z
   ·obtain ⟨o,_,_,ho,_⟩:=hn;exact ⟨o,z ▸ ho⟩
   ·obtain ⟨o,ho,_⟩:=(hc b z).1;exact ⟨o,ho⟩
  ·obtain ⟨o,ho⟩:=I.live b (r8 q ▸ e);exact ⟨o,kp b o ho⟩
 ·rcases Kb.mp hf with q|q
  ·rw[q];exact ⟨hn,zK (.head _),Km sz hL⟩
  ·obtain ⟨⟨o,es,ep,ho,z⟩,x,y⟩:=I.fr.ns f q;exact ⟨⟨o,es,ep,kp _ _ ho,z⟩,(kk _ _ _ x ho).1,y⟩
 ·rcases Kb.mp hf with q|q
  ·subst q;exact ⟨(hc c hcc).1,zK (.tail _ hcc),(hc c hcc).2⟩
  ·obtain ⟨⟨o,ho,z⟩,x,y⟩:=I.fr.cl f q c hcc;exact ⟨⟨o,kp _ _ ho,z⟩,(kk _ _ _ x ho).1,y⟩
 ·refine List.pairwise_cons.mpr ⟨fun f hf a ha=> ?_,I.fr.ord⟩;refine KF ?_ hL;rcases Kb.mp ha with q|q
  ·rw[q];obtain ⟨⟨o,_,_,ho,_⟩,_⟩:=I.fr.ns f hf;exact KN ho
  ·obtain ⟨⟨o,ho,_⟩,_⟩:=I.fr.cl f hf a q;exact KN ho
 ·by_cases q:b∈g.adr
  ·exact ⟨g,.head _,q⟩
  ·obtain ⟨f,hf,z⟩:=I.fr.all b (r8 q ▸ e);exact ⟨f,.tail _ hf,z⟩
theorem Ext.enter (I:Inv C P) {h':Heap} {t:Nat} {g:Fm} (no:∀ b o,P.h.get? b=some o→b∉g.adr):Ext P (P.enter h' t g):=
 ⟨⟨h',t,rfl⟩,rfl,fun b o e=>(r8 (no b o (I.fz b o e))).trans e,fun _ _ v=>v,fun n j b _ e=>rZ e Own.noConfusion⟩
structure Pa (P₀ P:Pt) (g:List (Addr×Obj)):Prop where
 sm:Same P₀.s P.s
 G:P.G=g++P₀.G
 fz:Fz P₀.own P.own
 val:∀ n j,Valid P₀.σ n j→Valid P.σ n j
 cell:∀ n j b,Valid P₀.σ n j→P.own b= .cell n j→P₀.own b= .cell n j
section
variable {P₀ P':Pt} {g g':List (Addr×Obj)}
theorem Pa.grow (x:Pa P₀ P g) (y:Ext P P'):Pa P₀ P' g:=
 ⟨x.sm.trans y.sm,y.G.trans x.G,fun b o q=>y.fz b o (x.fz b o q),fun n j v=>y.val n j (x.val n j v),fun n j b v q=>x.cell n j b v (y.cell n j b (x.val n j v) q)⟩
theorem Pa.turn {h:Heap} {t:Nat} (x:Pa P₀ P g):Pa P₀ {P.to h t with G:=g'++P₀.G} g':=⟨x.sm.trans ⟨h,t,rfl⟩,rfl,x.fz,x.val,x.cell⟩
theorem Pa.rv {v:Value} (x:Pa P₀ P g):∀ {p:PV},RV C P₀ v p→RV C P v p
 | .d _,r=>RD.ext x.fz r
 | .p n j,r=>⟨x.val n j r.1,fun b z=>r.2 b (x.cell n j b r.1 z)⟩
theorem Pa.hide {a:Addr} {o:Obj} {h:Heap} {t:Nat} (x:Pa P₀ P g) (e:P.own a= .no):Pa P₀ (P.hide h t a o) ((a,o)::g):=
 ⟨x.sm.trans ⟨h,t,rfl⟩,congrArg ((a,o)::·) x.G,fun b o q=>dp e b o (x.fz b o q),x.val,fun n j b v q=>x.cell n j b v (by
  rcases b_ P.own a .gh b with ⟨_,r⟩|⟨_,r⟩
  ·cases r.symm.trans q
  ·exact r.symm.trans q)⟩
theorem Pa.show {a:Addr} {o:Obj} {h:Heap} {t:Nat} (x:Pa P₀ P ((a,o)::g)) (e:P.own a= .gh):Pa P₀ (P.show h t a (g++P₀.G)) g:=
 ⟨x.sm.trans ⟨h,t,rfl⟩,rfl,fun b o q=>eD e b o (x.fz b o q),x.val,fun n j b v q=>x.cell n j b v (jK q)⟩
theorem Pa.refl (P:Pt):Pa P P []:=⟨.refl _,rfl,fun _ _ e=>e,fun _ _ v=>v,fun _ _ _ _ e=>e⟩
end
section
variable {p q:Addr×Obj} {G:List (Addr×Obj)}
theorem Inv.swap (I:Inv C P) (hG:P.G=p::q::G):Inv C {P with G:=q::p::G}:=by
 have mm:∀ r,r∈q::p::G→r∈P.G:=fun r hr=>by
  rw[hG];rcases Kb.mp hr with z|z
  ·rw[z];exact .tail _ (.head _)
  ·rcases Kb.mp z with z|z
   ·rw[z];exact .head _
   ·exact .tail _ (.tail _ z)
 refine ⟨I.base,I.fz,I.live,I.fr,⟨fun r hr=>I.gh.at_ r (mm r hr),?_,fun z e=>(I.gh.tab z e).map (fun _ _ e=>e) fun b o q=>⟨q.1,q.2.1,fun r hr=>q.2.2 r (mm r hr)⟩⟩,I.one,I.bd,I.obj⟩
 ·have nd:=I.gh.nd;rw[hG] at nd;exact (List.Perm.swap _ _ _).nodup_iff.mp nd
end
noncomputable def Pt.pop (P:Pt) (L:Addr) (o:Obj) (fs:List Fm):Pt:={P with own:=upd P.own L .gh,G:=(L,o)::P.G,fs:=fs}
theorem Inv.pop (I:Inv C P) {g:Fm} {fs:List Fm} {o:Obj} (hf:P.fs=g::fs) (hc:g.cells=[]) (ho:P.h.get? g.L=some o):Inv C (P.pop g.L o fs):=by
 have own:P.own g.L= .fr:=(I.fr.ns g (by rw[hf];exact .head _)).2.1;have ord:=I.fr.ord;rw[hf] at ord;obtain ⟨o1,o2⟩:=List.pairwise_cons.mp ord;have cs:=b_ P.own g.L .gh;have ne:∀ k∈fs,∀ b∈k.adr,b≠g.L:=fun k hk b hb=>Nat.ne_of_lt (o1 k hk b hb);have kk:∀ b o x,P.own b=x→x≠ .fr→P.h.get? b=some o→upd P.own g.L .gh b=x∧P.h.get? b=some o:=fun b o x e q z=>⟨(aW fun c=>q (by rw[←e,c,own])).trans e,z⟩;have bk:∀ b x,upd P.own g.L .gh b=x→x≠ .gh→P.own b=x:=fun b x e q=>by
  rcases cs b with ⟨_,r⟩|⟨_,r⟩
  ·exact absurd (r.symm.trans e).symm q
  ·exact r.symm.trans e
 refine ⟨fun b o e=>(kk b o _ (I.base b o e).2 Own.noConfusion (I.base b o e).1).symm,fun b o e=>I.fz b o (bk b _ e Own.noConfusion),fun b e=> ?_,⟨fun f h=> ?_,fun f h c hcc=> ?_,o2,fun b e=> ?_⟩,⟨fun p hp=> ?_,K0.mpr ⟨fun q=> ?_,I.gh.nd⟩,fun z e=>(I.gh.tab z e).map (fun b o e=>(kk b o _ e Own.noConfusion (I.fz b o e)).1) fun b o q=>⟨q.1,(kk b o _ q.2.1 Own.noConfusion q.1).1,fun p hp=>(Kb.mp hp).elim (fun c d=> ?_) (q.2.2 p)⟩⟩,fun a b n j e f=>I.one a b n j (bk a _ e Own.noConfusion) (bk b _ f Own.noConfusion),fun a n j e=>I.bd a n j (bk a _ e Own.noConfusion),fun n o e=>(I.obj n o e).mv (fun b o e=>(kk b o _ e Own.noConfusion (I.fz b o e)).1) fun b j o e q=>kk b o _ e Own.noConfusion q⟩
 ·rcases cs b with ⟨z,r⟩|⟨_,r⟩
  ·exact ⟨o,z ▸ ho⟩
  ·exact I.live b (r ▸ e)
 ·obtain ⟨x,y,z⟩:=I.fr.ns f (by rw[hf];exact .tail _ h);exact ⟨x,(aW (ne f h _ (.head _))).trans y,z⟩
 ·obtain ⟨x,y,z⟩:=I.fr.cl f (by rw[hf];exact .tail _ h) c hcc;exact ⟨x,(aW (ne f h _ (.tail _ hcc))).trans y,z⟩
 ·rcases cs b with ⟨_,r⟩|⟨nb,r⟩
  ·cases r.symm.trans e
  ·obtain ⟨f,h,z⟩:=I.fr.all b (r.symm.trans e);rw[hf] at h;rcases Kb.mp h with q|q
   ·rw[q,Fm.adr,hc] at z;exact absurd (Ki.mp z) nb
   ·exact ⟨f,q,z⟩
 ·rcases Kb.mp hp with q|q
  ·rw[q];exact ⟨ho,bn _ _ _⟩
  ·exact (kk _ _ _ (I.gh.at_ p q).2 Own.noConfusion (I.gh.at_ p q).1).symm
 ·obtain ⟨p,hp,e⟩:=Kt.mp q;have:=(I.gh.at_ p hp).2;rw[e,own] at this;cases this
 ·have:=q.2.1;rw[←d,c,own] at this;cases this
theorem Pa.pop {P₀:Pt} {g:List (Addr×Obj)} {L:Addr} {o:Obj} {fs:List Fm} (x:Pa P₀ P g) (e:P.own L= .fr):Pa P₀ (P.pop L o fs) ((L,o)::g):=by
 refine ⟨x.sm,congrArg ((L,o)::·) x.G,fun b o q=>(aW fun c=> ?_).trans (x.fz b o q),x.val,fun n j b v q=>x.cell n j b v ?_⟩
 ·have:=x.fz b o q;rw[c,e] at this;cases this
 ·rcases b_ P.own L .gh b with ⟨_,r⟩|⟨_,r⟩
  ·cases r.symm.trans q
  ·exact r.symm.trans q
theorem Pa.past {P₀:Pt} {a:Addr} {o:Obj} (x:Pa P₀ P [(a,o)]) (e:Like P₀.fs P.fs):Past P₀ P a o:=⟨x.sm,e,x.G,x.fz,x.val,x.cell⟩
end
theorem mi {scope:Scope} {env:Env} (x:Str):(relabel scope env).names.lookup x=(scope.names.lookup x).map fun k=>if (k==NameKind.free&&env.scope.kind== .function&&env.kindOf x==some .cell)=true then NameKind.cell else k:=by
 unfold relabel;generalize scope.names=l
 induction l with
 |nil=>rfl
 |cons p l ih=>
  obtain ⟨n,k⟩:=p;rw[List.map_cons];cases hx:x==n with
  |true=>
   obtain rfl:=beq_iff_eq.mp hx;by_cases hc:(k==NameKind.free&&env.scope.kind== .function&&env.kindOf x==some .cell)=true
   ·simp only [List.lookup_cons,hc,if_true,hx,Option.map]
   ·simp only [List.lookup_cons,hc,if_false,hx,Option.map];simp
  |false=>
   have e:((if (k==NameKind.free&&env.scope.kind== .function&&env.kindOf n==some .cell)=true then (n,NameKind.cell) else (n,k)):Str×NameKind).1=n:=by split<;>rfl
   rw[List.lookup_cons,List.lookup_cons];simp only [e,hx];exact ih
theorem ik {env:Env}:∀ (l:List (Str×NameKind)) (cl:List (Str×Addr)),(∀ p∈l,p.2=NameKind.free→∃ c,env.cells.lookup p.1=some c)→(∀ y c,cl.lookup y=some c→env.cells.lookup y=some c)→
  ∃ cl',(forIn l cl fun (x:Str×NameKind) (r:List (Str×Addr))=>(if (x.2==NameKind.free)=true then do let a←cellOf env x.1;pure (ForInStep.yield ((x.1,a)::r)) else pure (ForInStep.yield r):Sem (ForInStep (List (Str×Addr)))))=pure cl'∧
   (∀ y c,cl'.lookup y=some c→env.cells.lookup y=some c)∧(∀ y c,cl.lookup y=some c→cl'.lookup y=some c)∧(∀ p∈l,p.2=NameKind.free→(cl'.lookup p.1).isSome=true)
 |[],cl,_,h2=>⟨cl,rfl,h2,fun _ _ h=>h,fun p hp=>(Ky hp).elim⟩
 |(n,k)::l,cl,h1,h2=>by
  by_cases hk:k=NameKind.free
  ·subst hk;obtain ⟨c,hc⟩:=h1 (n,.free) (.head _) rfl;have h2':∀ y d,List.lookup y ((n,c)::cl)=some d→env.cells.lookup y=some d:=fun y d hd=>by
    rw[List.lookup_cons] at hd;cases hy:y==n with
    |true=>rw[hy] at hd;cases hd;rw[beq_iff_eq.mp hy];exact hc
    |false=>rw[hy] at hd;exact h2 y d hd
   obtain ⟨cl',e,q1,q2,q3⟩:=ik l ((n,c)::cl) (fun p hp=>h1 p (.tail _ hp)) h2';refine ⟨cl',?_,q1,fun y d hd=> ?_,fun p hp hf=> ?_⟩
   ·rw[List.forIn_cons];rw[if_pos (beq_self_eq_true _)];have hcell:cellOf env n=pure c:=by unfold cellOf;rw[hc]
    simp only [hcell];exact e
   ·refine q2 y d ?_;rw[List.lookup_cons];cases hy:y==n with
    |true=>
     have:=h2 y d hd;rw[beq_iff_eq.mp hy,hc] at this;exact this
    |false=>exact hd
   ·rcases Kb.mp hp with rfl|hp
    ·rw[q2 n c (by rw[List.lookup_cons,beq_self_eq_true])];rfl
    ·exact q3 p hp hf
  ·obtain ⟨cl',e,q1,q2,q3⟩:=ik l cl (fun p hp=>h1 p (.tail _ hp)) h2;refine ⟨cl',?_,q1,q2,fun p hp hf=> ?_⟩
   ·rw[List.forIn_cons];rw[if_neg (by simpa using hk)];exact e
   ·rcases Kb.mp hp with rfl|hp
    ·exact absurd hf hk
    ·exact q3 p hp hf
theorem hJ {scope:Scope} {env:Env} (h:∀ p∈scope.names,p.2=NameKind.free→∃ c,env.cells.lookup p.1=some c):
  ∃ cl,closureFor scope env=pure cl∧(∀ p∈scope.names,p.2=NameKind.free→cl.lookup p.1=env.cells.lookup p.1):=by
 obtain ⟨cl,e,q1,_,q3⟩:=ik scope.names [] h (fun y c hc=>nomatch hc);refine ⟨cl,?_,fun p hp hf=> ?_⟩
 ·unfold closureFor;have:(forIn scope.names [] fun (x:Str×NameKind) (r:List (Str×Addr))=>(match x with
   |(name,kind)=>if (kind==NameKind.free)=true then do let a←cellOf env name;pure (ForInStep.yield ((name,a)::r)) else pure (ForInStep.yield r):Sem (ForInStep (List (Str×Addr)))))=pure cl:=e
  simp only [this];rfl
 ·obtain ⟨c,hc⟩:=Option.isSome_iff_exists.mp (q3 p hp hf);rw[hc,q1 _ _ hc]
theorem b7 {β:Type} {x:Str} {b:β}:∀ {l:List (Str×β)},l.lookup x=some b→(x,b)∈l
 |[],h=>nomatch h
 |(n,c)::l,h=>by
  rw[List.lookup_cons] at h;cases hx:x==n with
  |true=>rw[hx] at h;cases h;rw[beq_iff_eq.mp hx];exact .head _
  |false=>rw[hx] at h;exact .tail _ (b7 h)
structure CompOK (sc scope:Scope) (x:Str):Prop where
 kind:scope.kind= .function
 cell:∀ p∈scope.names,p.2≠ .cell
 var:scope.names.lookup x=some .local
 loc:∀ p∈scope.names,p.2= .local→scope.names.lookup p.1=some .local∧(p.1=x∨p.1=(".0":Str))
 free:∀ p∈scope.names,p.2= .free→sc.names.lookup p.1=some .cell
theorem oj {sc scope:Scope} {x:Str} (h:jI sc scope x=true):CompOK sc scope x:=by
 simp only [jI,Bool.and_eq_true,beq_iff_eq,List.all_eq_true,bne_iff_ne,ne_eq,Bool.or_eq_true] at h;obtain ⟨⟨⟨⟨h1,h2⟩,h3⟩,h4⟩,h5⟩:=h;exact ⟨h1,h2,h3,fun p hp e=>(h4 p hp).resolve_left fun q=>q e,fun p hp e=>(h5 p hp).resolve_left fun q=>q e⟩
noncomputable abbrev mO (scope:Scope) (cl:List (Str×Addr)) (L:Addr) (env:Env):Env:=compEnvC scope cl L env
section
variable {sc scope:Scope} {x:Str} {env:Env} {cl:List (Str×Addr)} {L:Addr}
theorem dD (y:Str):(mO scope cl L env).scope.names.lookup y=(scope.names.lookup y).map fun k=>if (k==NameKind.free&&env.scope.kind== .function&&env.kindOf y==some .cell)=true then NameKind.cell else k:=mi y
theorem ou {y:Str} (h:scope.names.lookup y=some .free):(mO scope cl L env).scope.names.lookup y=some .cell∨(mO scope cl L env).scope.names.lookup y=some .free:=by
 rw[dD,h];show some (if _ then _ else _)=_∨some (if _ then _ else _)=_;split
 ·exact .inl rfl
 ·exact .inr rfl
theorem vt {s:Scope} {y:Str} (h:s.names.lookup y=some .cell∨s.names.lookup y=some .free):kt s y=true:=by
 unfold kt;rcases h with h|h
 ·rw[h];rfl
 ·rw[h];rfl
theorem A1 {s:Scope} {y:Str} (h:kt s y=true):s.names.lookup y=some .local∨s.names.lookup y=some .cell∨s.names.lookup y=some .free:=by
 rcases (Bool.or_eq_true _ _).mp h with h|h
 ·rcases (Bool.or_eq_true _ _).mp h with h|h
  ·exact .inl (bg h)
  ·exact .inr (.inl (bg h))
 ·exact .inr (.inr (bg h))
theorem uH (K:CompOK sc scope x):wc scope (mO scope cl L env):=fun y=>by
 refine ⟨fun h=> ?_,fun h=> ?_,fun h=>absurd rfl (K.cell _ (b7 h))⟩
 ·rcases A1 h with h|h|h
  ·unfold kt;rw[dD,h];rfl
  ·exact absurd rfl (K.cell _ (b7 h))
  ·exact vt (ou h)
 ·have h:=bg (ag h);show (mO scope cl L env).scope.names.lookup y=_;rw[dD,h];rfl
noncomputable def Cx.comp (X:Cx) (K:CompOK X.sc scope x) (i:Nat) (cl:List (Str×Addr)) (L:Addr):Cx:=
 ⟨X.C,X.A,mO scope cl L X.env,scope,(x,i)::X.Γ,X.d,X.hd,X.good,X.calls,uH K,K.kind,X.glob,X.blt,X.dep,X.uni,X.hnd,none⟩
end
section
variable {X:Cx} {scope:Scope} {x:Str} {cl:List (Str×Addr)} {P P':Pt} {ρ:Rho} {i:Nat} {g:Fm} {fs:List Fm}
theorem zQ {p:PV} {v:Value} {gl:List (Addr×Obj)} (K:CompOK X.sc scope x) (hcl:∀ p∈scope.names,p.2=NameKind.free→cl.lookup p.1=X.env.cells.lookup p.1) (hi:∀ q∈X.Γ,q.2≠i) (h0:X.Γ.lookup (".0":Str)=none) (G:EnvOK X P ρ) (pa:Pa P P' gl) (hf:P'.fs=g::P.fs) (hr:RV X.C P' v p) (hm:g.m x=some v):
  EnvOK (X.comp K i cl g.L) P' (ρ.set i (some p)):=by
 obtain ⟨ls,q1,q2⟩:=G.frs;refine ⟨⟨ls,q1,fun en hen=> ?_⟩,by rw[hf];nofun,fun y j q hy hmine hq=> ?_⟩
 ·obtain ⟨a,f,hf',b⟩:=q2 en hen;exact ⟨a,f,by rw[hf];exact .tail _ hf',b⟩
 have hy:List.lookup y ((x,i)::X.Γ)=some j:=hy;rw[List.lookup_cons] at hy;cases hx:y==x with
 |true=>
  rw[hx] at hy;cases hy;rcases oQ hq with ⟨_,z⟩|⟨z,_⟩
  ·rw[z];refine ⟨v,hr,.inl ⟨?_,g,by rw[hf];exact .head _,rfl,by rw[beq_iff_eq.mp hx];exact hm⟩⟩;show (mO scope cl g.L X.env).scope.names.lookup y=_;rw[dD,beq_iff_eq.mp hx,K.var];rfl
  ·exact absurd rfl z
 |false=>
  rw[hx] at hy;rcases oQ hq with ⟨z,_⟩|⟨_,hq⟩
  ·exact absurd z.symm (hi (y,j) (b7 hy))
  have hmine:kt (mO scope cl g.L X.env).scope y=true:=hmine;have hfree:scope.names.lookup y=some .free:=by
   cases hs:scope.names.lookup y with
   |none=>unfold kt at hmine;rw[dD,hs] at hmine;cases hmine
   |some k=>
    cases k with
    |free=>rfl
    |«local»=>
     obtain ⟨_,h|h⟩:=K.loc _ (b7 hs) rfl
     ·rw[show y=x from h,beq_self_eq_true] at hx;cases hx
     ·rw[show y=(".0":Str) from h,h0] at hy;cases hy
    |cell=>exact absurd rfl (K.cell _ (b7 hs))
    |_=>unfold kt at hmine;rw[dD,hs] at hmine;cases hmine
  have hk:=((X.kinds y).2.2 (K.free _ (b7 hfree) rfl)).1;obtain ⟨w,hw,hl⟩:=G.var y j q hy (vt (.inl hk)) hq;refine ⟨w,pa.rv hw,?_⟩;rcases hl with ⟨h1,_⟩|⟨_,c,h2,f,hf',h3,h4⟩
  ·rw[hk] at h1;cases h1
  ·exact .inr ⟨ou hfree,c,(hcl _ (b7 hfree) rfl).trans h2,f,by rw[hf];exact .tail _ hf',h3,h4⟩
end
structure CI where
 ts:Ker→Rho→PM Bool
 is:Sx→List Expr→Bool
 ok:∀ (X:Cx) (cs:List Expr) (ρ:Rho) (P:Pt) (K:R Bool→Sto→Prop) (Q:Bool→Shared→Prop) (E:Value→Shared→Prop),is X.sx cs=true→Inv X.C P→EnvOK X P ρ→Wp K (ts X.ker ρ P.σ)→aV X kH P K Q E→
  wpAny X.M X.A (forIn cs true fun c r=>if r=true then do let ok←isTrue c X.env (eval c X.env);pure (ForInStep.yield ok) else pure (ForInStep.yield r)) Q E P.s
noncomputable def noIf:CI:=⟨fun _ _=>ret true,fun _ cs=>cs.isEmpty,fun X cs ρ P K Q E h I G w p=>bu (fun cs=>wpAny X.M X.A (forIn cs true fun c r=>if r=true then do let ok←isTrue c X.env (eval c X.env);pure (ForInStep.yield ok) else pure (ForInStep.yield r)) Q E P.s) h (wpAny_tests_nil (p.here I rfl w))⟩
noncomputable def iE (t:CT):CI:=⟨t.ts,fun s=>one (t.is s),fun X cs ρ P K Q E h I G w p=>cS (fun cs=>wpAny X.M X.A (forIn cs true fun c r=>if r=true then do let ok←isTrue c X.env (eval c X.env);pure (ForInStep.yield ok) else pure (ForInStep.yield r)) Q E P.s) h fun c h=>wpAny_tests_one (t.ok X c ρ P K Q E h I G w p)⟩
section
variable (K:R (List D)→Sto→Prop) (v:PV) (x:D) (i:Nat) (test:Rho→PM Bool) (elt:Rho→PM PV) (ρ:Rho) (y:D) (r acc:List D)
def cK2:R PV→Sto→Prop
 | .ok (.d z),σ=>(bp σ x v=true∧acc.length<lim)∧Wp K (cX v x i test elt ρ r (acc++[z]) σ)
 |_,_=>False
def cK1:R Bool→Sto→Prop
 | .ok false,σ=>bp σ x v=true∧Wp K (cX v x i test elt ρ r acc σ)
 | .ok true,σ=>Wp (cK2 K v x i test elt ρ r acc) (elt (ρ.set i (some (.d y))) σ)
 | .ex _,_=>False
end
section
variable {K:R (List D)→Sto→Prop} {v:PV} {x:D} {i:Nat} {test:Rho→PM Bool} {elt:Rho→PM PV} {ρ:Rho} {y:D} {r acc:List D} {σ:Sto}
theorem xt:∀ {z:Option (R PV×Sto)},Wp K (match z with
   |some (.ok (.d z),σ'')=>if bp σ'' x v∧acc.length<lim then cX v x i test elt ρ r (acc++[z]) σ'' else none
   |_=>none)→Wp (cK2 K v x i test elt ρ r acc) z
 |none,h=>h
 |some (.ex _,_),h=>h
 |some (.ok (.p _ _),_),h=>h
 |some (.ok (.d z),σ),h=>by
  have h:Wp K (if bp σ x v∧acc.length<lim then cX v x i test elt ρ r (acc++[z]) σ else none):=h;by_cases q:bp σ x v=true∧acc.length<lim
  ·rw[if_pos q] at h;exact ⟨q,h⟩
  ·rw[if_neg q] at h;exact h.elim
theorem Aq (h:Wp K (cX v x i test elt ρ (y::r) acc σ)):Wp (cK1 K v x i test elt ρ y r acc) (test (ρ.set i (some (.d y))) σ):=by
 unfold cX at h;generalize test (ρ.set i (some (.d y))) σ=z at h
 match z,h with
 |none,h=>exact h
 |some (.ex _,_),h=>exact h
 |some (.ok true,σ'),h=>exact xt h
 |some (.ok false,σ'),h=>
  have h:Wp K (if bp σ' x v then cX v x i test elt ρ r acc σ' else none):=h;cases q:bp σ' x v with
  |true=>rw[q] at h;exact ⟨q,h⟩
  |false=>rw[q] at h;exact h.elim
end
noncomputable def Sx.comp (s:Sx) (scope:Scope) (x:Str) (i:Nat):Sx:={s with sc:=scope,Γ:=(x,i)::s.Γ,lm:=none}
noncomputable def i_ (i:Nat) (it:CE) (t:CI) (elt:CE) (K:Ker) (ρ:Rho):PM (List D):=match K.hd with
 |true=>fun _=>none
 |false=>bnd (it.ev K ρ) fun v σ=>(itV v σ).bind fun q=>cX v q.1 i (t.ts K) (elt.ev K) ρ q.2 [] σ
theorem iq {α β:Type} {K:R β→Sto→Prop} {k:α→Option (R β×Sto)}:∀ {o:Option α},Wp K (o.bind k)→∃ a,o=some a∧Wp K (k a)
 |some a,h=>⟨a,rfl,h⟩
inductive FreshL (C:Cfg) (P:Pt):Value→List D→Prop
 |mk {a:Addr} {vs:List Value} {n:Nat} {l:List D}:New C P P.h a (aE vs n)→RDs C P.own l vs→FreshL C P (.ref a) l
theorem D4 {w:a'} {a:Addr} {x:Own} (e:∀ o,w a≠ .fz o):Fz w (upd w a x):=fun b o q=>(aW fun c=>by rw[c] at q;exact e o q).trans q
theorem Pa.frm {P₀ P:Pt} {g:List (Addr×Obj)} {fs:List Fm} (x:Pa P₀ P g):Pa P₀ {P with fs:=fs} g:=⟨x.sm,x.G,x.fz,x.val,x.cell⟩
inductive CInv (X:Cx) (K:R (List D)→Sto→Prop) (i:Nat) (t:CI) (elt:CE) (ρ:Rho) (v:PV) (x:D) (xs:List D) (St:Nat→Heap→Prop) (P₁:Pt) (aI aD L:Addr) (n:Nat) (s:Shared):Prop
 |mk (P:Pt) (g:Fm) (j:Nat) (oi:Obj) (vs:List Value) (m:Nat) (acc:List D):P.s=s→Pa P₁ P [(aI,oi),(aD,aE vs m)]→P.fs=g::P₁.fs→g.L=L→g.cells=[]→Inv X.C P→RDs X.C P.own acc vs→bp P.σ x v=true→St j P.h→j≤xs.length→n=xs.length - j→
  Wp K (cX v x i (t.ts X.ker) (elt.ev X.ker) ρ (xs.drop j) acc P.σ)→CInv X K i t elt ρ v x xs St P₁ aI aD L n s
theorem oh {X:Cx} {ρ:Rho} {P:Pt} {K:R (List D)→Sto→Prop} {Q E:Value→Shared→Prop} (i:Nat) (it:CE) (t:CI) (elt:CE) {el iter:Expr} {cs:List Expr} {x:Str} {px pos p2:Pos} {scope:Scope} {use:Option (Value→Sem Unit)}
  (Kc:CompOK X.sc scope x) (h1:iF iter=true) (h2:it.is X.sx iter=true) (h3:elt.is (X.sx.comp scope x i) el=true) (h4:t.is (X.sx.comp scope x i) cs=true) (h5:∀ q∈X.Γ,q.2≠i) (h6:X.Γ.lookup (".0":Str)=none)
  (I:Inv X.C P) (G:EnvOK X P ρ) (w:Wp K (i_ i it t elt X.ker ρ P.σ)) (pe:∀ c e P',Grow P P'→Inv X.C P'→Exc X.C X.A P' c e→K (.ex c) P'.σ→E e P'.s)
  (pk:∀ acc v L oL P',Pa P P' [(L,oL)]→P'.fs=P.fs→Inv X.C P'→FreshL X.C P' v acc→(∃ m,P'.h.Ns L m)→K (.ok acc) P'.σ→compPost X.M X.A E use Q v L (.ok .next) P'.s):
  wpAny X.M X.A (comprehension (.ListComp el [⟨.Name x px,iter,cs,0⟩] scope pos) scope X.env p2 (newList []) false (eval iter X.env) use) Q E P.s:=by
 cases hd:X.hd with
 |true=>unfold i_ at w;rw[show X.ker.hd=true from hd] at w;exact w.elim
 |false=>
 unfold i_ at w;rw[show X.ker.hd=false from hd] at w;have hh:=X.hnd hd;obtain ⟨cl,hclos,hcl⟩:=hJ (scope:=scope) (env:=X.env) (fun p hp e=>((X.kinds p.1).2.2 (Kc.free p hp e)).2);refine wpAny_comprehension_free rfl (n9 h1) hclos Kc.kind (fun y hy e=>(Kc.loc y hy e).1) ?_;refine it.ok X iter ρ P _ _ E h2 I G (aC w) ⟨fun v va P₁ g₁ I₁ r₁ w=> ?_,pe⟩;refine aK fun G9 k9=> ?_;obtain ⟨⟨x0,xs⟩,e0,w⟩:=iq w;obtain ⟨e1,e2,e3⟩:=mw e0;refine k9 ?_;refine vD X.good I₁ r₁ e0 fun oi St hof W st0=> ?_;have G₁:=G.ext g₁;have hn:=I₁.push hof;have I₂:=I₁.hide (t:=P₁.s.toks) hn;have hn₂:=I₂.push (o:=aE [] 0) rfl;have I₃:=(I₂.hide (t:=P₁.s.toks) hn₂).swap rfl;have pa₃:=((((Pa.refl P₁).hide (h:=P₁.h.push oi) (t:=P₁.s.toks) (o:=oi) hn.own).hide (h:=(P₁.h.push oi).push (aE [] 0)) (t:=P₁.s.toks) (o:=aE [] 0) hn₂.own).turn (h:=(P₁.h.push oi).push (aE [] 0)) (t:=P₁.s.toks) (g':=[(P₁.h.objs.size,oi),((P₁.h.push oi).objs.size,aE [] 0)]));refine wpAny_newObj_type (wpAny_newFunctionEnv Kc.cell (fun y hy=>(Ky hy).elim) (fun h₁ hns₁ hsb₁=> ?_) Kc.kind);generalize hP₃:(Pt.mk {P₁.s with heap:=(P₁.h.push oi).push (aE [] 0),toks:=P₁.s.toks} P₁.fs (upd (upd P₁.own P₁.h.objs.size .gh) (P₁.h.push oi).objs.size .gh) ((P₁.h.objs.size,oi)::((P₁.h.push oi).objs.size,aE [] 0)::P₁.G) P₁.σ)=P₃;replace I₃:Inv X.C P₃:=by rw[←hP₃];exact I₃
 replace pa₃:Pa P₁ P₃ [(P₁.h.objs.size,oi),((P₁.h.push oi).objs.size,aE [] 0)]:=by rw[←hP₃];exact pa₃
 have es:P₃.s={P₁.s with heap:=(P₁.h.push oi).push (aE [] 0)}:=by rw[←hP₃]
 have eh:P₃.h=(P₁.h.push oi).push (aE [] 0):=by rw[←hP₃]
 have efs:P₃.fs=P₁.fs:=by rw[←hP₃]
 have eσ:P₃.σ=P₁.σ:=by rw[←hP₃]
 change h₁.Ns ((P₁.h.push oi).push (aE [] 0)).objs.size _ at hns₁;change Heap.SameBut ((P₁.h.push oi).push (aE [] 0)).objs.size (((P₁.h.push oi).push (aE [] 0)).push _) h₁ at hsb₁;rw[←eh] at hns₁ hsb₁;have kp:∀ b o,P₃.h.get? b=some o→h₁.get? b=some o:=fun b o e=>hsb₁.extBut b o (Nat.ne_of_lt (KN e)) (Kl _ e);have sz:X.C.H.objs.size≤P₃.h.objs.size:=I₃.szF (by rw[efs];exact G₁.ne);generalize hg:(⟨P₃.h.objs.size,fun y=>([]:List (Str×Value)).reverse.lookup y,[],fun _=>none⟩:Fm)=g₄;have I₄:=I₃.enter (g:=g₄) (t:=P₁.s.toks) sz kp (by rw[←hg];exact Ko _) (by rw[←hg];exact hns₁) (fun c hc=>by rw[←hg] at hc;exact (Ky hc).elim);have pa₄:=pa₃.grow (Ext.enter (h':=h₁) (t:=P₁.s.toks) (g:=g₄) I₃ fun b o e q=>by
  rw[←hg] at q;exact absurd (Ki.mp q) (Nat.ne_of_lt (KN e)))
 have st4:St 0 h₁:=W.own _ _ _ st0 (by
  obtain ⟨oi2,e4⟩:=W.fld _ _ st0;rw[e4];exact kp _ _ (by rw[eh];exact Kl _ e4))
 have still0:bp P₁.σ x0 v=true:=by
  cases v with
  |d y=>rfl
  |p n j=>exact @Kr _ (_) e1
 have loop:∀ s₃:Shared,s₃={P₁.s with heap:=h₁}→
   codeAny X.M X.A (.compLoop (.ListComp el [⟨.Name x px,iter,cs,0⟩] scope pos) 0 (.ref P₁.h.objs.size) (.ref (P₁.h.push oi).objs.size) (mO scope cl P₃.h.objs.size X.env)) (compPost X.M X.A E use Q (.ref (P₁.h.push oi).objs.size) P₃.h.objs.size) s₃:=by
  rintro s₃ rfl;refine codeAny_compLoop_tests (CInv X K i t elt ρ v x0 xs St P₁ P₁.h.objs.size (P₁.h.push oi).objs.size P₃.h.objs.size) ?_ xs.length
   ⟨P₃.enter h₁ P₁.s.toks g₄,g₄,0,oi,[],0,[],by show {P₃.s with heap:=h₁,toks:=P₁.s.toks}=_;rw[es],?_,by show g₄::P₃.fs=_;rw[efs],by rw[←hg],by rw[←hg],I₄,.nil,by show bp P₃.σ x0 v=true;rw[eσ];exact still0,st4,KI _,rfl,by show Wp K (cX _ _ _ _ _ _ _ _ P₃.σ);rw[eσ];exact w⟩
  ·rintro n s ⟨P₅,g₅,j,o₅,vs,m,acc,rfl,pa,hf,hgL,hgc,I₅,rs,s₅,st₅,hj,rfl,w⟩;have now₅:=nO I₅ (pa.rv r₁) e1 s₅;have hL:=I₅.fr.ns g₅ (by rw[hf];exact .head _);rcases Nat.lt_or_ge j xs.length with hlt|hge
   ·rw[List.drop_eq_getElem_cons hlt] at w;refine W.item X.A j P₅ xs xs[j] _ _ hh I₅ pa.fz now₅ e3 (Kh hlt) st₅ fun val h' tk rv st₆ kp=> ?_;obtain ⟨o₆,ho₆⟩:=W.fld _ _ st₆;have I₆:=I₅.gturn (t:=tk) pa.G kp ho₆;have pa₆:=pa.turn (h:=h') (t:=tk) (g':=[(P₁.h.objs.size,o₆),((P₁.h.push oi).objs.size,aE vs m)]);refine wpAny_assign_Name (wpAny_storeName_local (m:=g₅.m) (env:=mO scope cl P₃.h.objs.size X.env) (s:={P₅.s with heap:=h',toks:=tk}) ?_ (hgL ▸ (I₆.fr.ns g₅ (by show g₅∈P₅.fs;rw[hf];exact .head _)).1) (fun h₇ hn₇ hs₇=> ?_) ?_)
    ·show (mO scope cl P₃.h.objs.size X.env).scope.names.lookup x=_;rw[dD,Kc.var];rfl
    rotate_left
    ·show (scope.kind==_||(scope.kind==_&&_))=false;rw[Kc.kind];rfl
    have I₇:=I₆.frame (t:=tk+1) (g:=⟨P₃.h.objs.size,fun y=>if y=x then some val else g₅.m y,[],fun _=>none⟩) hf ⟨hgL.symm,hgc.symm⟩ (.head _) (fun b o hb e=>hs₇.extBut b o (by rw[←hgL];exact hb) e) hn₇ (fun c hc=>(Ky hc).elim);have pa₇:=(pa₆.turn (h:=h₇) (t:=tk+1) (g':=[(P₁.h.objs.size,o₆),((P₁.h.push oi).objs.size,aE vs m)])).frm (fs:=⟨P₃.h.objs.size,fun y=>if y=x then some val else g₅.m y,[],fun _=>none⟩::P₁.fs);have G₇:=zQ (g:=⟨P₃.h.objs.size,fun y=>if y=x then some val else g₅.m y,[],fun _=>none⟩) (i:=i) (p:=.d xs[j]) (v:=val) Kc hcl h5 h6 G₁ pa₇ rfl rv (if_pos rfl);refine t.ok (X.comp Kc i cl P₃.h.objs.size) cs _ _ (cK1 K v x0 i (t.ts X.ker) (elt.ev X.ker) ρ xs[j] (xs.drop (j+1)) acc) _ _ h4 I₇ G₇ (Aq w) ⟨fun b c P₈ g₈ I₈ r₈ k=> ?_,fun c e P' _ _ _ k=>k.elim⟩;rw[show c=b from r₈];have pa₈:=pa₇.grow g₈.toExt;cases b with
    |false=>
     exact ⟨xs.length - (j+1),o45 hlt,⟨P₈,_,j+1,o₆,vs,m,acc,rfl,pa₈,g₈.fs,rfl,rfl,I₈,rs.ext g₈.fz,k.1,W.own _ _ _ st₆ (by rw[(ghA I₈ pa₈.G).2,ho₆]),hlt,rfl,k.2⟩⟩
    |true=>
     refine elt.ok (X.comp Kc i cl P₃.h.objs.size) el _ P₈ (cK2 K v x0 i (t.ts X.ker) (elt.ev X.ker) ρ (xs.drop (j+1)) acc) _ _ h3 I₈ (G₇.ext g₈) k ⟨fun q vy P₉ g₉ I₉ r₉ k=> ?_,fun c e P' _ _ _ k=>k.elim⟩;cases q with
     |p n' j'=>exact k.elim
     |d z=>
      have pa₉:=pa₈.grow g₉.toExt;have J:=I₉.swap pa₉.G;have hD:=(ghA J rfl).2;have rs₉:=(rs.ext g₈.fz).ext g₉.fz;refine jg hD (by rw[rs₉.length];exact Km (KU k.1.2) (by decide)) fun h₁₀ n' e10 s10=> ?_;have J1:=J.gturn (t:=P₉.s.toks) rfl (fun b o hb e=>s10.extBut b o hb e) e10;have J2:=J1.swap rfl;have pa₁₀:=pa₉.turn (h:=h₁₀) (t:=P₉.s.toks) (g':=[(P₁.h.objs.size,o₆),((P₁.h.push oi).objs.size,aE (vs++[vy]) n')]);exact ⟨xs.length - (j+1),o45 hlt,⟨_,_,j+1,o₆,vs++[vy],n',acc++[z],rfl,pa₁₀,g₉.fs.trans g₈.fs,rfl,rfl,J2,rs₉.append (.cons r₉ .nil),k.1.1,W.own _ _ _ st₆ (by rw[ho₆];exact (ghA J2 rfl).2),hlt,rfl,k.2⟩⟩
   ·have hjx:j=xs.length:=Nat.le_antisymm hj hge;rw[hjx,List.drop_length] at w;refine W.done X.A j P₅ xs _ _ hh I₅ pa.fz now₅ e3 hjx.symm st₅ fun h' tk kp=> ?_;have a1:=(ghA I₅ pa.G).1;have J1:=I₅.show (t:=tk) pa.G kp;have p1:=pa.show (h:=h') (t:=tk) a1;have a2:=(ghA J1 p1.G).1;have oD:=(ghA J1 p1.G).2;have J2:=J1.show (h':=h') (t:=tk) p1.G fun _ _ _ e=>e;have p2:=p1.show (h:=h') (t:=tk) a2;refine aK fun G9 k9=> ?_;obtain ⟨⟨o,es2,ep2,hoL,hrest⟩,frL,_⟩:=J2.fr.ns g₅ (by show g₅∈P₅.fs;rw[hf];exact .head _);refine k9 ?_;have J3:=J2.pop (o:=o) (fs:=P₁.fs) hf hgc hoL;have p3:=p2.pop (o:=o) (fs:=P₁.fs) frL;rw[hgL] at J3 p3 frL;refine pk acc _ P₃.h.objs.size o _ ⟨g₁.sm.trans p3.sm,?_,fun b o q=>p3.fz b o (g₁.fz b o q),fun n j q=>p3.val n j (g₁.val n j q),fun n j b v q=>g₁.cell n j b v (p3.cell n j b (g₁.val n j v) q)⟩ g₁.fs J3 (.mk (vs:=vs) (n:=m) ⟨fun _ _ e=>e,?_,J1.offH (by rw[a2];nofun),oD⟩ ?_) ⟨g₅.m,o,es2,ep2,hgL ▸ hoL,hrest⟩ w
    ·rw[p3.G,g₁.G]
    ·exact (aW fun q=>by rw[←q] at frL;cases (bn _ _ _).symm.trans frL).trans (bn _ _ _)
    ·exact ((rs.ext (eD a1)).ext (eD a2)).ext (D4 fun o q=>by cases frL.symm.trans q)
  ·exact pa₄
 have eL:P₃.h.objs.size=((P₁.h.push oi).push (aE [] 0)).objs.size:=by rw[eh]
 rw[eL] at loop;exact codeAny_compStart_list (loop _ rfl) (W.self X.A 0 _ _ _ st4 (loop _ rfl))
abbrev Ga (C:Cfg) (P:Pt) (v:Value) (l:List D):Prop:=FreshL C P v l
structure CF where
 ev:Ker→Rho→PM (List D)
 is:Sx→Expr→Bool
 ok:∀ (X:Cx) (e:Expr) (ρ:Rho) (P:Pt) (K:R (List D)→Sto→Prop) (Q E:Value→Shared→Prop),is X.sx e=true→Inv X.C P→EnvOK X P ρ→Wp K (ev X.ker ρ P.σ)→aV X (Ga X.C) P K Q E→wpAny X.M X.A (eval e X.env) Q E P.s
noncomputable def Do (mu:Bool) (l:List D):PM PV:=match mu with
 |false=>ret (.d (.lst l))
 |true=>fN (.fld (.list l))
theorem vq {C:Cfg} {P:Pt} {mu:Bool} {l:List D} {v:Value} {K:R PV→Sto→Prop} (I:Inv C P) (r:FreshL C P v l) (w:Wp K (Do mu l P.σ)):∃ p P',Grow P P'∧Inv C P'∧RV C P' v p∧P'.s=P.s∧K (.ok p) P'.σ:=by
 obtain @⟨a,vs,n,_,hn,rs⟩:=r;cases mu with
 |false=>exact ⟨.d (.lst l),P.note P.h P.s.toks a (aE vs n),.note hn.own,I.note hn,.lst (n:=⟨n,none,#[]⟩) (bn _ _ _) (rs.ext (dp hn.own)),rfl,w⟩
 |true=>exact ⟨.p P.σ.length 0,P.make P.h P.s.toks a (.fld (.list l)),.make hn.own,I.make rfl hn ⟨.ref a,.mk (bn _ _ _) hn.at_ ⟨vs,n,rfl,rs.ext (dp hn.own)⟩⟩,I.rvMake rfl,rfl,w⟩
noncomputable def ofF (mu:Bool) (f:CF):CE:=⟨fun K ρ=>bnd (f.ev K ρ) (Do mu),f.is,fun X e ρ P K Q E h I G w p=>f.ok X e ρ P _ Q E h I G (aC w) (p.bind fun l v P1 g I1 r w p=>by
 obtain ⟨q,P2,g2,I2,r2,e2,k⟩:=vq I1 r w;rw[←e2];exact p.ok q v P2 g2 I2 r2 k)⟩
noncomputable def iR (i:Nat) (it:CE) (t:CI) (elt:CE) (s:Sx):Expr→Bool:=F1 fun el x iter cs ay scope=>ay==0&&jI s.sc scope x&&iF iter&&it.is s iter&&elt.is (s.comp scope x i) el&&t.is (s.comp scope x i) cs&&s.Γ.all (fun q=>q.2 !=i)&&s.Γ.lookup (".0":Str)==none
theorem FreshL.show {C:Cfg} {P:Pt} {L:Addr} {h':Heap} {t:Nat} {G:List (Addr×Obj)} {v:Value} {l:List D} (e:P.own L= .gh) (hs:∀ b o,b≠L→P.h.get? b=some o→h'.get? b=some o):FreshL C P v l→FreshL C (P.show h' t L G) v l
 |@FreshL.mk _ _ a _ _ _ n r=>
  have ne:a≠L:=fun q=>by have:=n.own;rw[q,e] at this;cases this
  .mk ⟨fun _ _ e=>e,(aW ne).trans n.own,n.H,hs _ _ ne n.at_⟩ (r.ext (eD e))
section
variable {X:Cx} {e:Expr} {ρ:Rho} {P:Pt} {K:R (List D)→Sto→Prop} {Q E:Value→Shared→Prop}
theorem Pa.done {P P':Pt} {L:Addr} {oL:Obj} (x:Pa P P' [(L,oL)]) (hf:P'.fs=P.fs) (I:Inv X.C P') {h':Heap} (hs:Heap.SameBut L P'.h h'):Grow P (P'.show h' P'.s.toks L P.G)∧Inv X.C (P'.show h' P'.s.toks L P.G):=by
 have a:=(ghA I x.G).1;have y:=x.show (h:=h') (t:=P'.s.toks) a;exact ⟨⟨⟨y.sm,y.G,y.fz,y.val,y.cell⟩,hf⟩,I.show x.G fun b o hb e=>hs.extBut b o hb e⟩
theorem BM (i:Nat) (it:CE) (t:CI) (elt:CE) (h:iR i it t elt X.sx e=true) (I:Inv X.C P) (G:EnvOK X P ρ) (w:Wp K (i_ i it t elt X.ker ρ P.σ)) (p:aV X (Ga X.C) P K Q E):wpAny X.M X.A (eval e X.env) Q E P.s:=
 oA (fun e=>wpAny X.M X.A (eval e X.env) Q E P.s) h fun el x px iter cs ay scope pos h=>by
  have h0:=ag (ag (ag (ag (ag (ag (ag h))))));rw[bg h0,eval_ListComp];refine oh i it t elt (oj (aj (ag (ag (ag (ag (ag (ag h)))))))) (aj (ag (ag (ag (ag (ag h)))))) (aj (ag (ag (ag (ag h))))) (aj (ag (ag (ag h)))) (aj (ag (ag h))) (fun q hq z=> ?_) (bg (aj h)) I G w p.ex fun acc v L oL P' x' hf I' r hn k=> ?_
  ·have:=List.all_eq_true.mp (aj (ag h)) q hq;rw[z,bne_self_eq_false] at this;cases this
  ·obtain ⟨m,hn⟩:=hn;refine ⟨m,hn,fun h' hs=> ?_⟩;obtain ⟨g,J⟩:=x'.done (X:=X) hf I' hs;exact p.ok acc v _ g J (r.show (ghA I' x'.G).1 fun b o hb e=>hs.extBut b o hb e) k
end
noncomputable def comp (i:Nat) (it:CE) (t:CI) (elt:CE):CF:=⟨i_ i it t elt,iR i it t elt,fun _ _ _ _ _ _ _ h I G w p=>BM i it t elt h I G w p⟩
theorem sM {el iter:Expr} {x y:Str} {px py pos:Pos} {cs:List Expr} {scope:Scope} {l:Nat} {env:Env}:∃ b,swapsWith (.ListComp el [⟨.Name x px,iter,cs,0⟩] scope pos) (some (.Name y py)) l env=pure b:=⟨_,rfl⟩
noncomputable def Ct (mu:Bool) (j i:Nat) (it:CE) (t:CI) (elt:CE) (K:Ker) (ρ:Rho):Sto→Option (Out×Sto):=br ρ (bnd (i_ i it t elt K ρ) (Do mu)) fun v σ=>some (.next (ρ.set j (some v)),σ)
theorem uL (mu:Bool) (j i:Nat) (it:CE) (t:CI) (elt:CE) {X:SX} {st:Stmt} {ρ:Rho} {P:Pt} {K:Out→Sto→Prop} {Q:Flow→Shared→Prop} {E:Value→Shared→Prop} (h:kx (fun t' e=>cE (fun x _=>X.sx.Γ.lookup x==some j&&hO X.sx.sc x&&iR i it t elt X.sx e) t') st=true) (I:Inv X.C P) (G:SEnv X P ρ)
  (w:WpS K (Ct mu j i it t elt X.ker ρ P.σ)) (p:PostS X P K Q E):wpAny X.M X.A (PySem.exec st X.env) Q E P.s:=
 dT (fun st=>wpAny X.M X.A (PySem.exec st X.env) Q E P.s) h fun te e pos h=>bM (fun te=>wpAny X.M X.A (PySem.exec (.Assign [te] e pos) X.env) Q E P.s) h fun y py h=>by
  have hy:=bg (ag (ag h));have hb:=aj (ag h);have hc:=aj h;refine oA (fun e=>iR i it t elt X.sx e=true→wpAny X.M X.A (PySem.exec (.Assign [.Name y py] e pos) X.env) Q E P.s) hc (fun el x px iter cs ay scope q2 h hc=> ?_) hc;have h0:=bg (ag (ag (ag (ag (ag (ag (ag h)))))));subst h0;obtain ⟨b,hsw⟩:=sM (el:=el) (iter:=iter) (x:=x) (y:=y) (px:=px) (py:=py) (pos:=q2) (cs:=cs) (scope:=scope) (l:=pos.line) (env:=X.env);cases b with
  |false=>exact wpAny_Assign_Name ((ofF mu (comp i it t elt)).ok X.toCx _ ρ P _ _ E hc I G.toEnvOK (b9 w) (p.bind G fun y' v P1 g I1 r w G1 p=>iu hy hb I1 G1 r fun P2 g2 I2 G2 e2=>p.next _ P2 g2 I2 G2 (e2 ▸ w))) hsw
  |true=>
   rw[exec_Assign_Name_used _ _ _ _ hsw];refine Kp (wpAny_standAt (Kp ?_));show wpAny _ X.A (do let _←comprehension (.ListComp el [⟨.Name x px,iter,cs,0⟩] scope q2) scope X.env _ (newList []) false (eval iter X.env) (some (assign (.Name y py) X.env))) _ _ P.s;refine Kp (wpAny_mono (oh (X:=X.toCx) (Q:=fun _ s'=>Q .next s') i it t elt (oj (aj (ag (ag (ag (ag (ag (ag h)))))))) (aj (ag (ag (ag (ag (ag h)))))) (aj (ag (ag (ag (ag h))))) (aj (ag (ag (ag h)))) (aj (ag (ag h))) (fun q hq z=> ?_) (bg (aj h)) I G.toEnvOK (aC (b9 w)) (fun c e P' g I' x k=>p.ex c ρ e P' (G.gs g) I' x (G.ext g) k) fun acc v L oL P' x' hf I' r hn k=> ?_) (fun _ s' hq=>Kq (Kq hq)) fun _ _ e=>e)
   ·have:=List.all_eq_true.mp (aj (ag h)) q hq;rw[z,bne_self_eq_false] at this;cases this
   ·obtain ⟨m,oo,es,ep,hn1,hn2⟩:=hn;have hoo:oo=oL:=K4 (hn1.symm.trans (ghA I' x'.G).2);have hlk:Like P.fs P'.fs:=by
     obtain ⟨f,r,z,_⟩:=G.hd;rw[hf,z];exact .mk (.refl f)
    have past:=x'.past hlk;have G':SEnv X P' ρ:=⟨⟨hf ▸ G.frs,hf ▸ G.ne,fun x i p h1 h2 h3=>by
     obtain ⟨v,r,l⟩:=G.var x i p h1 h2 h3;exact ⟨v,x'.rv r,hf ▸ l⟩⟩,hf ▸ G.hd⟩
    obtain ⟨q,P1,g1,I1,r1,e1,k⟩:=vq I' r k;rw[←e1];refine wpAny_assign_Name (iu hy hb I1 (G'.ext g1) r1 fun P2 g2 I2 G2 e2=> ?_);have past2:=past.grow ((G'.gs g1).trans g2);have gh2:=ghA I2 past2.G;refine ⟨m,⟨oo,es,ep,by rw[hoo];exact gh2.2,hn2⟩,fun h' hs=> ?_⟩;exact p.next _ (P2.show h' P2.s.toks L P.G) (past2.show gh2.1) (I2.show past2.G fun b o hb e=>hs.extBut b o hb e) (G2.show gh2.1) (by show K _ P2.σ;rw[e2];exact k)
noncomputable def iy (mu:Bool) (j i:Nat) (it:CE) (t:CI) (elt:CE):C1:=⟨Ct mu j i it t elt,fun s=>kx fun t' e=>cE (fun x _=>s.Γ.lookup x==some j&&hO s.sc x&&iR i it t elt s e) t',fun _ _ _ _ _ _ _ h I G w p=>uL mu j i it t elt h I G w p⟩
noncomputable def SX.up (X:SX) (v:Option Value):SX:={X with A:=X.A.mark v,hd:=true,dep:=X.dep,uni:=X.uni,hnd:=(fun q=>by cases q),fr:=X.fr,dep2:=X.dep2,uni2:=X.uni2}
section
variable {C:Cfg} {M:Model} {A:Around} {E:Value→Shared→Prop} {P:Pt} {ls:List Env} {e:Addr} {c:Nat}
theorem rX {fl:Value} {Q:Unit→Shared→Prop} (I:Inv C P) (hx:Held C P ls e c fl) (hQ:∀ h',Inv C (P.to h' P.s.toks)→Held C (P.to h' P.s.toks) ls e c .none→Q () {P.s with heap:=h'}):
  wpAny M A (setFlight (.ref e) none) Q E P.s:=by
 refine aK fun G9 k9=> ?_;obtain ⟨B,k1,k2,k3,k4,k5,a0,ht⟩:=hx;refine k9 ?_;refine wpAny_setFlight_noneW k1 k3 ht fun h' x1 x2 x3 x4=> ?_;exact hQ h' (I.slots (fun b o q=>x1 b o (k4 b o q)) (fun b o q z=>x1 _ _ (k5 b o q z)) fun b o hb hn=>⟨o.slots,x4 b o hb hn⟩) ⟨B,x1,k2,x2,k4,fun b o q z=>kX I k1 k5 b o q z x1,a0,x3⟩
end
noncomputable def Di:Option (Out×Sto)→Option (Out×Sto)
 |some (.ex _ _,_)=>none
 |z=>z
def nK (K:Out→Sto→Prop):Out→Sto→Prop
 | .ex _ _,_=>False
 |o,σ=>K o σ
theorem Ao {K:Out→Sto→Prop}:∀ {z:Option (Out×Sto)},WpS K (Di z)→WpS (nK K) z
 |none,h=>h
 |some (.next _,_),h=>h
 |some (.ret _,_),h=>h
 |some (.ex _ _,_),h=>h
structure CH where
 ex:Ker→Nat→Rho→Sto→Option (Out×Sto)
 is:Sx→List ExceptHandler→Bool
 ok:∀ (X:SX) (hs:List ExceptHandler) (e:Addr) (c:Nat) (ρ:Rho) (P:Pt) (K:Out→Sto→Prop) (Q:Flow→Shared→Prop) (E:Value→Shared→Prop),is X.sx hs=true→c<nX→Inv X.C P→Held X.C P (X.env::X.outer) e c .none→SEnv X P ρ→WpS K (ex X.ker c ρ P.σ)→PostS X P K Q E→wpAny X.M X.A (handleBy (.ref e) X.env hs) Q E P.s
noncomputable def hN:CH:=⟨fun _ _ _ _=>none,fun _ _=>true,fun _ _ _ _ _ _ _ _ _ _ _ _ _ _ w=>w.elim⟩
noncomputable def hdl (f:Option Expr→Option Str→List Stmt→Bool):ExceptHandler→Bool
 | .ExceptHandler t y b _=>f t y b
theorem zg (q:ExceptHandler→Prop) {f:Option Expr→Option Str→List Stmt→Bool}:∀ {h:ExceptHandler},hdl f h=true→(∀ t y b pos,f t y b=true→q (.ExceptHandler t y b pos))→q h
 | .ExceptHandler t y b pos,h,k=>k t y b pos h
noncomputable def pW (s:Sx) (c':Nat) (t:Option Expr):Bool:=jst (cE fun n _=>n==gP c'&&decide (c'<nX)&&dg s.sc n) t
section
variable {X:SX} {hs:List ExceptHandler} {e:Addr} {c:Nat} {ρ:Rho} {P:Pt} {K:Out→Sto→Prop} {Q:Flow→Shared→Prop} {E:Value→Shared→Prop}
theorem zY {c':Nat} {t:Option Expr} {y:Option Str} {be:List Stmt} {pos:Pos} (h:pW X.sx c' t=true) (h17:c<nX) (I:Inv X.C P) (L:Held X.C P (X.env::X.outer) e c .none)
  (k1:(c==c'||c'==0)=true→codeAny X.M (X.A.mark (some (.ref e))) (.handlers (.ref e) [.ExceptHandler none y be pos] X.env) (fun r s₂=>match r with
     | .ok f=>(match y with
      |none=>Q f s₂
      |some n=>wpAny X.M X.A (do bindName X.env n .none;unbindBehindTheSuite X.env n pos) (fun _ s₃=>Q f s₃) E s₂)
     | .error x=>cameBackBy X.M X.A X.env E x s₂) P.s)
  (k2:(c==c'||c'==0)=false→wpAny X.M X.A (handleBy (.ref e) X.env hs) Q E P.s):wpAny X.M X.A (handleBy (.ref e) X.env (.ExceptHandler t y be pos::hs)) Q E P.s:=by
 refine fc (fun t=>wpAny X.M X.A (handleBy (.ref e) X.env (.ExceptHandler t y be pos::hs)) Q E P.s) h fun t h=> ?_;refine bM (fun t=>wpAny X.M X.A (handleBy (.ref e) X.env (.ExceptHandler (some t) y be pos::hs)) Q E P.s) h fun n np h=> ?_;have h0:=bg (ag (ag h));subst h0;have hc':=KX (aj (ag h));have XX:=X.good.cls.X.keeps fun b o e=>(I.base b o e).1;refine wpAny_handleBy_cons (codeAny_handlers_test (c7 (X:=(X.up (some (.ref e))).toCx) I (aj h) (X.good.exc c' hc').bound ?_)) (fun q=>by cases q);have LT:PySem.W.Looks X.M P.h (typeOf (.ref e)) (.ref (X.C.exc c)):=by
  refine aK fun G9 k9=> ?_;obtain ⟨B,k1,k2,k3,k4,k5,a0,oe,vs,T,oT,ts,he,hc,hd,_⟩:=L;refine k9 ?_;exact hc.1 ▸ (PySem.W.Looks.ld he).andThen .now
 refine (PySem.W.exm_one XX LT (X.good.exm c h17 c' hc')).here ?_;cases hm:(c==c'||c'==0) with
 |true=>exact k1 hm
 |false=>exact k2 hm
theorem SEnv.up (G:SEnv X P ρ) (v:Option Value):SEnv (X.up v) P ρ:=⟨⟨G.frs,G.ne,G.var⟩,G.hd⟩
theorem SEnv.dn {v:Option Value} (G:SEnv (X.up v) P ρ):SEnv X P ρ:=⟨⟨G.frs,G.ne,G.var⟩,G.hd⟩
noncomputable def ifc (b:Bool) (x y:Option (Out×Sto)):Option (Out×Sto):=match b with
 |true=>x
 |false=>y
theorem FK (c':Nat) (b:CS) (r:CH) (h:ia (hdl fun t y be=>pW X.sx c' t&&y.isNone&& !be.isEmpty&&b.is X.sx be) (r.is X.sx) hs=true) (h17:c<nX) (I:Inv X.C P) (L:Held X.C P (X.env::X.outer) e c .none) (G:SEnv X P ρ)
  (w:WpS K (ifc (c==c'||c'==0) (Di (b.ex X.ker.up ρ P.σ)) (r.ex X.ker c ρ P.σ))) (p:PostS X P K Q E):wpAny X.M X.A (handleBy (.ref e) X.env hs) Q E P.s:=by
 refine c9 (fun hs=>wpAny X.M X.A (handleBy (.ref e) X.env hs) Q E P.s) h fun hn hs h1 h2=> ?_;refine zg (fun hn=>wpAny X.M X.A (handleBy (.ref e) X.env (hn::hs)) Q E P.s) h1 fun t y be pos h=> ?_;refine iG (fun y=>wpAny X.M X.A (handleBy (.ref e) X.env (.ExceptHandler t y be pos::hs)) Q E P.s) (aj (ag (ag h))) ?_;refine zY (ag (ag (ag h))) h17 I L (fun q=> ?_) fun q=>r.ok X hs e c ρ P K Q E h2 h17 I L G (by rw[q] at w;exact w) p;rw[q] at w;cases be with
 |nil=>cases aj (ag h)
 |cons b0 bt=>
 refine codeAny_handlers_suite (rX I L fun h1 I1 L1=> ?_);have g1:=Grow.to P h1 P.s.toks;refine b.ok (X.up (some (.ref e))) _ ρ (P.to h1 P.s.toks) (nK K) _ _ (aj h) I1 ((G.ext g1).up _) (Ao w) ⟨fun ρ' P' g I' G' k=> ?_,fun q v P' g I' r k=> ?_,fun c ρ' e P' g I' x G' k=>k.elim⟩
 ·exact p.next ρ' P' ((G.gs g1).trans g) I' G'.dn k
 ·exact p.ret q v P' ((G.gs g1).trans g) I' r k
end
noncomputable def hC (c':Nat) (b:CS) (r:CH):CH:=⟨fun K c ρ σ=>ifc (c==c'||c'==0) (Di (b.ex K.up ρ σ)) (r.ex K c ρ σ),fun s=>ia (hdl fun t y be=>pW s c' t&&y.isNone&& !be.isEmpty&&b.is s be) (r.is s),fun _ _ _ _ _ _ _ _ _ h h17 I L G w p=>FK c' b r h h17 I L G w p⟩
noncomputable def At (h:CH) (K:Ker):Option (Out×Sto)→Option (Out×Sto)
 |some (.ex c ρ,σ)=>if c<nX then h.ex K c ρ σ else none
 |z=>z
def Et (K:Out→Sto→Prop) (h:CH) (k:Ker):Out→Sto→Prop
 | .ex c ρ,σ=>c<nX∧WpS K (h.ex k c ρ σ)
 |o,σ=>K o σ
theorem Cz {K:Out→Sto→Prop} {h:CH} {k:Ker}:∀ {z:Option (Out×Sto)},WpS K (At h k z)→WpS (Et K h k) z
 |none,w=>w
 |some (.next _,_),w=>w
 |some (.ret _,_),w=>w
 |some (.ex c ρ,σ),w=>by
  have w:WpS K (if c<nX then h.ex k c ρ σ else none):=w;by_cases q:c<nX
  ·rw[if_pos q] at w;exact ⟨q,w⟩
  ·rw[if_neg q] at w;exact w.elim
noncomputable def u8 (b:CS) (h:CH) (K:Ker) (ρ:Rho) (σ:Sto):Option (Out×Sto):=match K.hd with
 |true=>none
 |false=>At h K (b.ex K ρ σ)
theorem CQ (b:CS) (h:CH) {X:SX} {st:Stmt} {ρ:Rho} {P:Pt} {K:Out→Sto→Prop} {Q:Flow→Shared→Prop} {E:Value→Shared→Prop} (hE:vE (fun be he el fin _=>el.isEmpty&&fin.isEmpty&& !he.isEmpty&&b.is X.sx be&&h.is X.sx he) st=true) (I:Inv X.C P) (G:SEnv X P ρ)
  (w:WpS K (u8 b h X.ker ρ P.σ)) (p:PostS X P K Q E):wpAny X.M X.A (PySem.exec st X.env) Q E P.s:=by
 refine ud (fun st=>wpAny X.M X.A (PySem.exec st X.env) Q E P.s) hE fun be he el fin pos h0=> ?_;refine bu (fun el=>wpAny X.M X.A (PySem.exec (.Try be he el fin pos) X.env) Q E P.s) (ag (ag (ag (ag h0)))) ?_;refine bu (fun fin=>wpAny X.M X.A (PySem.exec (.Try be he [] fin pos) X.env) Q E P.s) (aj (ag (ag (ag h0)))) ?_;cases hd:X.hd with
 |true=>unfold u8 at w;rw[show X.ker.hd=true from hd] at w;exact w.elim
 |false=>
 unfold u8 at w;rw[show X.ker.hd=false from hd] at w;cases he with
 |nil=>cases aj (ag (ag h0))
 |cons h₀ hs=>
 refine wpAny_Try_except (b.ok X be ρ P (Et K h X.ker) _ _ (aj (ag h0)) I G (Cz w) ⟨fun ρ' P' g I' G' k=>wpAny_execs_nil (p.next ρ' P' g I' G' k),p.ret,fun c ρ' e P' g I' x G' k=> ?_⟩);obtain ⟨h1,h2⟩:=x;rw[X.fr] at h1;cases h1;refine rV X.fr X.frame I' h2 fun h1 I1 x1=> ?_;refine rX I1 x1 fun h2 I2 L2=> ?_;have g2:=(Grow.to P' h1 P'.s.toks).trans (.to _ h2 P'.s.toks);exact h.ok X _ _ c ρ' ((P'.to h1 P'.s.toks).to h2 P'.s.toks) K Q E (aj h0) k.1 I2 L2 (G'.ext g2) k.2 (p.mono (g.grow g2))
noncomputable def AH (b:CS) (h:CH):C1:=⟨u8 b h,fun s=>vE fun be he el fin _=>el.isEmpty&&fin.isEmpty&& !he.isEmpty&&b.is s be&&h.is s he,fun _ _ _ _ _ _ _ hE I G w p=>CQ b h hE I G w p⟩
noncomputable def lvO (L:Addr) (n:Nat) (m:Option Nat) (a:Addr):Own→Own
 | .fr=>if L≤a then .no else .fr
 | .cell k j=>if k<n then .cell k j else if m=some k then .cell n j else .no
 |x=>x
section
variable {L a:Addr} {n:Nat} {m:Option Nat}
theorem yJ (x:Own):lvO L n m a x= .no∨(lvO L n m a x=x∧(x= .fr→a<L)∧∀ k j,x= .cell k j→k<n)∨∃ k j,x= .cell k j∧n≤k∧m=some k∧lvO L n m a x= .cell n j:=by
 cases x with
 |no=>exact .inl rfl
 |fz o=>exact .inr (.inl ⟨rfl,Own.noConfusion,fun _ _=>Own.noConfusion⟩)
 |gh=>exact .inr (.inl ⟨rfl,Own.noConfusion,fun _ _=>Own.noConfusion⟩)
 |fr=>
  by_cases q:L≤a
  ·exact .inl (if_pos q)
  ·exact .inr (.inl ⟨if_neg q,fun _=>Nat.lt_of_not_le q,fun _ _=>Own.noConfusion⟩)
 |cell k j=>
  by_cases q:k<n
  ·exact .inr (.inl ⟨if_pos q,Own.noConfusion,fun k' j' e=>by cases e;exact q⟩)
  ·by_cases z:m=some k
   ·exact .inr (.inr ⟨k,j,rfl,Nat.le_of_not_lt q,z,(if_neg q).trans (if_pos z)⟩)
   ·exact .inl ((if_neg q).trans (if_neg z))
theorem Cj {x y:Own} (h:lvO L n m a x=y) (hy:y≠ .no) (hc:∀ j,y≠ .cell n j):x=y∧(x= .fr→a<L)∧∀ k j,x= .cell k j→k<n:=by
 rcases yJ (L:=L) (a:=a) (n:=n) (m:=m) x with q|⟨q,z⟩|⟨k,j,_,_,_,q⟩
 ·exact absurd (h.symm.trans q) hy
 ·exact ⟨q.symm.trans h,z⟩
 ·exact absurd (h.symm.trans q) (hc j)
theorem gM {x:Own} {k j:Nat} (h:lvO L n m a x= .cell k j):(x= .cell k j∧k<n)∨(k=n∧∃ k',m=some k'∧n≤k'∧x= .cell k' j):=by
 rcases yJ (L:=L) (a:=a) (n:=n) (m:=m) x with q|⟨q,_,z⟩|⟨k',j',e,le,em,q⟩
 ·cases h.symm.trans q
 ·have e:=q.symm.trans h;exact .inl ⟨e,z k j e⟩
 ·cases h.symm.trans q;exact .inr ⟨rfl,k',em,le,e⟩
theorem A3 {x:Own} (h:kept (lvO L n m a x)):kept x:=by
 rcases yJ (L:=L) (a:=a) (n:=n) (m:=m) x with q|⟨q,_⟩|⟨k',j',e,_⟩
 ·rw[q] at h;exact h.elim
 ·rw[q] at h;exact h
 ·rw[e];trivial
end
section
variable {C:Cfg} {P P₀:Pt} {g:Fm} {fs:List Fm} {L:Addr} {n:Nat} {m:Option Nat} {tl:Sto}
noncomputable def Pt.leave (P:Pt) (L:Addr) (n:Nat) (m:Option Nat) (tl:Sto) (fs:List Fm):Pt:={P with fs:=fs,own:=fun a=>lvO L n m a (P.own a),σ:=P.σ.take n++tl}
theorem ir {α:Type} {l t:List α} {k n:Nat} (h:k<n) (hn:n≤l.length):(l.take n++t)[k]? =l[k]? :=by
 rw[K1 (by rw[List.length_take,Nat.min_eq_left hn];exact h),List.getElem?_take_of_lt h]
theorem uU {α:Type} {l:List α} {x:α} {n:Nat} (hn:n≤l.length):(l.take n++[x])[n]? =some x:=by
 have e:(l.take n).length=n:=by rw[List.length_take,Nat.min_eq_left hn]
 rw[KA (K5 e),e,Nat.sub_self];rfl
def Gb (σ:Sto) (n:Nat) (m:Option Nat) (tl:Sto):Prop:=(m=none∧tl=[])∨∃ k o,m=some k∧n≤k∧σ[k]? =some o∧tl=[o]
theorem yZ {σ:Sto} (hn:n≤σ.length) (h:Gb σ n m tl) {k:Nat} {o:PO} (e:(σ.take n++tl)[k]? =some o):(k<n∧σ[k]? =some o)∨(k=n∧∃ k',m=some k'∧n≤k'∧σ[k']? =some o):=by
 rcases Nat.lt_or_ge k n with q|q
 ·rw[ir q hn] at e;exact .inl ⟨q,e⟩
 ·have el:(σ.take n).length=n:=by rw[List.length_take,Nat.min_eq_left hn]
  rw[KA (by rw[el];exact q),el] at e;rcases h with ⟨_,z⟩|⟨k',o',z1,z2,z3,z4⟩
  ·rw[z] at e;cases e
  ·rw[z4] at e;cases hk:k - n with
   |succ x=>rw[hk] at e;cases e
   |zero=>
    rw[hk] at e;cases e;exact .inr ⟨by exact Nat.le_antisymm (Nat.sub_eq_zero_iff_le.mp hk) q,k',z1,z2,z3⟩
theorem Inv.leave (I:Inv C P) (hf:P.fs=g::fs) (hn:n≤P.σ.length) (ht:Gb P.σ n m tl):Inv C (P.leave g.L n m tl fs):=by
 have ord:=I.fr.ord;rw[hf] at ord;obtain ⟨o1,o2⟩:=List.pairwise_cons.mp ord;have lt:∀ k∈fs,∀ b∈k.adr,lvO g.L n m b .fr= .fr:=fun k hk b hb=>if_neg (Nat.not_le.mpr (o1 k hk b hb));have fz:Fz P.own (P.leave g.L n m tl fs).own:=fun b o e=>by show lvO g.L n m b (P.own b)=_;rw[e];rfl
 refine ⟨fun b o e=>⟨(I.base b o e).1,?_⟩,fun b o e=>I.fz b o (Cj e Own.noConfusion fun _=>Own.noConfusion).1,fun b e=>I.live b fun q=>e ?_,⟨fun f h=> ?_,fun f h c hc=> ?_,o2,fun b e=> ?_⟩,I.gh.mv fz fun b o e q=>⟨?_,q⟩,fun a b k j e f=> ?_,fun a k j e=> ?_,fun k o e=> ?_⟩
 ·show lvO g.L n m b (P.own b)=_;rw[(I.base b o e).2];rfl
 ·show lvO g.L n m b (P.own b)=_;rw[q];rfl
 ·obtain ⟨x,y,z⟩:=I.fr.ns f (by rw[hf];exact .tail _ h);exact ⟨x,by show lvO g.L n m f.L (P.own f.L)=_;rw[y];exact lt f h _ (.head _),z⟩
 ·obtain ⟨x,y,z⟩:=I.fr.cl f (by rw[hf];exact .tail _ h) c hc;exact ⟨x,by show lvO g.L n m c (P.own c)=_;rw[y];exact lt f h _ (.tail _ hc),z⟩
 ·obtain ⟨x,y,_⟩:=Cj e Own.noConfusion fun _=>Own.noConfusion;obtain ⟨f,h,z⟩:=I.fr.all b x;rw[hf] at h;rcases Kb.mp h with q|q
  ·subst q;have lb:=y x;rcases Kb.mp z with z|z
   ·rw[z] at lb;exact absurd lb (KY _)
   ·exact absurd (La lb (I.fr.cl f (by rw[hf];exact .head _) b z).2.2) (KY _)
  ·exact ⟨f,q,z⟩
 ·show lvO g.L n m b (P.own b)=_;rw[e];rfl
 ·rcases gM e with ⟨e1,e2⟩|⟨e1,k1,e2,e3,e4⟩<;>rcases gM f with ⟨f1,f2⟩|⟨f1,k2,f2,f3,f4⟩
  ·exact I.one a b k j e1 f1
  ·exact absurd f1 (Nat.ne_of_lt e2)
  ·exact absurd e1 (Nat.ne_of_lt f2)
  ·rw[e2] at f2;cases f2;exact I.one a b k1 j e4 f4
 ·rcases gM e with ⟨e1,e2⟩|⟨e1,k1,e2,e3,e4⟩
  ·obtain ⟨o,h1,h2⟩:=I.bd a k j e1;exact ⟨o,by show (P.σ.take n++tl)[k]? =_;rw[ir e2 hn];exact h1,h2⟩
  ·obtain ⟨o,h1,h2⟩:=I.bd a k1 j e4;rcases ht with ⟨z,_⟩|⟨k',o',z1,z2,z3,z4⟩
   ·rw[z] at e2;cases e2
   ·rw[z1] at e2;cases e2;rw[h1] at z3;cases z3;exact ⟨o,by show (P.σ.take n++tl)[k]? =_;rw[e1,z4];exact uU hn,h2⟩
 ·rcases yZ hn ht e with ⟨e1,e2⟩|⟨e1,k',e2,e3,e4⟩
  ·exact (I.obj k o e2).mv fz fun b j o e q=>⟨by show lvO g.L n m b (P.own b)=_;rw[e];exact if_pos e1,q⟩
  ·subst e1;exact (I.obj k' o e4).mv fz fun b j o e q=>⟨by show lvO g.L k m b (P.own b)=_;rw[e];exact (if_neg (Lf.mpr e3)).trans (if_pos e2),q⟩
theorem Grow.leave (x:Ext P₀ P) (hn:P₀.σ.length≤P.σ.length):Grow P₀ (P.leave L P₀.σ.length m tl P₀.fs):=by
 refine ⟨⟨x.sm,x.G,fun b o e=>by show lvO L _ m b (P.own b)=_;rw[x.fz b o e];rfl,fun k j v=> ?_,fun k j a v e=> ?_⟩,rfl⟩
 ·obtain ⟨o,h1,h2⟩:=x.val k j v;exact ⟨o,by show (P.σ.take _++tl)[k]? =_;rw[ir v.lt hn];exact h1,h2⟩
 ·rcases gM e with ⟨e1,_⟩|⟨e1,_⟩
  ·exact x.cell k j a v e1
  ·exact absurd v.lt (by rw[e1];exact KY _)
theorem Ext.len (x:Ext P₀ P):P₀.σ.length≤P.σ.length:=by
 cases h:P₀.σ.length with
 |zero=>exact KI _
 |succ k=>
  have hk:k<P₀.σ.length:=by rw[h];exact Nat.lt_succ_self k
  have v:∃ j,Valid P₀.σ k j:=by
   cases q:P₀.σ[k] with
   |fld f=>exact ⟨0,_,Kh hk,by rw[q];rfl⟩
   |rcd b l=>exact ⟨0,_,Kh hk,by rw[q];exact Nat.succ_pos _⟩
   |dead=>exact ⟨0,_,Kh hk,by rw[q];trivial⟩
   |wrp f=>exact ⟨0,_,Kh hk,by rw[q];exact Nat.zero_lt_succ _⟩
  obtain ⟨j,v⟩:=v;exact (x.val k j v).lt
theorem Exc.leave {A:Around} {ls:List Env} {e:Addr} {c:Nat} (hA:A.frames=some ls):oF C P ls e c→Exc C A (P.leave L n m tl fs) c (.ref e):=fun h=>by
 obtain ⟨B,k1,k2,k3,k4,k5,k6⟩:=h;exact .mk hA ⟨B,k1,k2,k3,k4,fun b o q=>k5 b o (A3 q),k6⟩
def eK (K:R PV→Sto→Prop) (keep:Bool) (n:Nat):Out→Sto→Prop
 | .next _,σ=>K (.ok (.d .none)) (σ.take n)
 | .ret v,σ=>Wp K (C5 keep n v σ)
 | .ex c _,σ=>K (.ex c) (σ.take n)
theorem CJ {K:R PV→Sto→Prop} {keep:Bool}:∀ {z:Option (Out×Sto)},Wp K (zJ keep n z)→WpS (eK K keep n) z
 |none,h=>h
 |some (.next _,_),h=>h
 |some (.ret _,_),h=>h
 |some (.ex _ _,_),h=>h
theorem ta {K:R PV→Sto→Prop} {keep:Bool} {p:PV} {v:Value} {Q:Value→Shared→Prop} (I:Inv C P) (x:Ext P₀ P) (hf:P.fs=g::P₀.fs) (r:RV C P v p) (w:Wp K (C5 keep P₀.σ.length p P.σ)) (k:∀ p P',Grow P₀ P'→Inv C P'→RV C P' v p→K (.ok p) P'.σ→Q v P'.s):Q v P.s:=by
 have hn:=x.len;have nil:∀ σ:Sto,σ.take P₀.σ.length++[]=σ.take P₀.σ.length:=fun σ=>List.append_nil _;cases p with
 |d z=>exact k (.d z) (P.leave g.L P₀.σ.length none [] P₀.fs) (.leave x hn) (I.leave hf hn (.inl ⟨rfl,rfl⟩)) (RD.ext (fun b o e=>by show lvO g.L _ none b (P.own b)=_;rw[e];rfl) r) (by show K _ (P.σ.take _++[]);rw[nil];exact w)
 |p m j=>
  by_cases q:m<P₀.σ.length
  ·have w:Wp K (if m<P₀.σ.length then some (.ok (.p m j),P.σ.take P₀.σ.length) else _):=w;rw[if_pos q] at w;refine k (.p m j) (P.leave g.L P₀.σ.length none [] P₀.fs) (.leave x hn) (I.leave hf hn (.inl ⟨rfl,rfl⟩)) ⟨?_,fun a e=> ?_⟩ (by show K _ (P.σ.take _++[]);rw[nil];exact w)
   ·obtain ⟨o,h1,h2⟩:=r.1;exact ⟨o,by show (P.σ.take _++[])[m]? =_;rw[ir q hn];exact h1,h2⟩
   ·rcases gM e with ⟨e1,_⟩|⟨e1,_⟩
    ·exact r.2 a e1
    ·omega
  ·have q:=Nat.le_of_not_lt q;have w:Wp K (if m<P₀.σ.length then some (.ok (.p m j),P.σ.take P₀.σ.length) else yc keep P₀.σ.length P.σ j P.σ[m]?):=w;rw[if_neg (Lf.mpr q)] at w;obtain ⟨o,h1,h2⟩:=r.1;rw[h1] at w;have keepIt:j=0→Wp K (some (.ok (.p P₀.σ.length 0),P.σ.take P₀.σ.length++[o]))→Q v P.s:=fun z w'=>by
    subst z;refine k (.p P₀.σ.length 0) (P.leave g.L P₀.σ.length (some m) [o] P₀.fs) (.leave x hn) (I.leave hf hn (.inr ⟨m,o,rfl,q,h1,rfl⟩)) ⟨⟨o,uU hn,h2⟩,fun a e=> ?_⟩ w';rcases gM e with ⟨_,e1⟩|⟨_,k',e1,_,e2⟩
    ·exact absurd e1 (KY _)
    ·cases e1;exact r.2 a e2
   have iced:∀ f z,o= .fld f→f.rd=some z→j=0→Wp K (some (.ok (.d z),P.σ.take P₀.σ.length))→Q v P.s:=fun f z e1 e2 e3 w'=>by
    subst e1;subst e3;have e4:uj (.p m 0) P.σ=some (.d z,P.σ.set m .dead):=by
     show (((P.σ[m]?).bind fun o=>o.at 0).bind fun f=>f.rd.map fun x=>(PV.d x,P.σ.set m PO.dead))=_;rw[h1];show (f.rd.map fun x=>(PV.d x,P.σ.set m PO.dead))=_;rw[e2];rfl
    obtain ⟨P',g',I',e5,e6,kk⟩:=zf I e4;have x':=x.trans g'.toExt;rw[←e6];refine k (.d z) (P'.leave g.L P₀.σ.length none [] P₀.fs) (.leave x' x'.len) (I'.leave (g'.fs.trans hf) x'.len (.inl ⟨rfl,rfl⟩)) (RD.ext (fun b o e=>by show lvO g.L _ none b (P'.own b)=_;rw[e];rfl) (kk v r)) ?_;show K _ (P'.σ.take _++[]);rw[nil,e5,List.take_set_of_le q];exact w'
   match j,o,keep,w with
   |0,.fld (.list l),false,w=>exact iced (.list l) _ rfl rfl rfl w
   |0,.fld (.dict a b),false,w=>exact iced (.dict a b) _ rfl rfl rfl w
   |0,.fld (.d z),false,w=>
    obtain ⟨_,_,_,h⟩:∃ v,FOb C P.own P.h m 0 (.d z) v:=I.obj m _ h1;exact h.elim
   |0,.fld f,true,w=>exact keepIt rfl w
   |0,.rcd b l,false,w=>exact keepIt rfl w
   |0,.rcd b l,true,w=>exact keepIt rfl w
   |0,.dead,false,w=>exact keepIt rfl w
   |0,.dead,true,w=>exact keepIt rfl w
   |0,.wrp f,false,w=>exact keepIt rfl w
   |0,.wrp f,true,w=>exact keepIt rfl w
   |_+1,_,_,w=>exact w.elim
end
theorem fL {α:Type}:∀ {ns:List Str} {vs:List α} {n:Str},n∈ns→ns.length=vs.length→((ns.zip vs).lookup n).isSome=true
 |[],_,_,h,_=>nomatch h
 |a::r,[],_,_,h=>by simp at h
 |a::r,v::vs,n,h,hl=>by
  rw[List.zip_cons_cons,List.lookup_cons];cases e:n==a with
  |true=>rfl
  |false=>
   refine fL ?_ (by simpa using hl);rcases Kb.mp h with q|q
   ·subst q;simp at e
   ·exact q
theorem ff {α β:Type} {f g:α→Option β}:∀ {l:List α},(∀ x∈l,f x=g x)→l.filterMap f=l.filterMap g
 |[],_=>rfl
 |a::r,h=>by
  rw[List.filterMap_cons,List.filterMap_cons,h a (.head _),ff fun x hx=>h x (.tail _ hx)]
theorem g9 {α:Type}:∀ {ns:List Str} {vs:List α},ns.Nodup→ns.length=vs.length→ns.filterMap (fun n=>((ns.zip vs).lookup n).map (n,·))=ns.zip vs
 |[],_,_,_=>by simp
 |a::r,[],_,h=>by simp at h
 |a::r,v::vs,hn,hl=>by
  rw[List.filterMap_cons];have h0:(((a::r).zip (v::vs)).lookup a).map (a,·)=some (a,v):=by simp [List.lookup_cons]
  rw[h0];simp only [List.zip_cons_cons];congr 1;rw[ff (g:=fun n=>((r.zip vs).lookup n).map (n,·)) fun n hnr=> ?_]
  ·exact g9 (K0.mp hn).2 (by simpa using hl)
  ·rw[List.lookup_cons];have:(n==a)=false:=beq_eq_false_iff_ne.mpr fun e=>(K0.mp hn).1 (e ▸ hnr);rw[this]
theorem J7 {α β γ:Type} {l:List α} {b:β} {f:α→β→Sem (ForInStep β)} {g:β→Sem γ} (h:l=[]):(forIn l b f>>=g)=g b:=by subst h;rfl
theorem jb {fd:FuncData} {vals:List Value} {names:List Str} (h1:fd.params.posonlyargs=[]) (h2:fd.params.kwonlyargs=[]) (h3:fd.params.vararg=none) (h4:fd.params.kwarg=none) (h5:fd.params.args.map (·.arg)=names)
  (h6:fd.defaults= .none) (hl:names.length=vals.length) (hn:names.Nodup):bindArgs fd ⟨vals,[]⟩=pure (names.zip vals):=by
 obtain ⟨f1,f2,⟨p1,p2,p3,p4,p5,p6,p7⟩,f4,f5,f6,f7,f8,f9,f10,f11,f12,f13,f14,f15⟩:=fd;dsimp only at h1 h2 h3 h4 h5 h6;subst h1 h2 h3 h4 h5 h6;have hm:((p2.map (·.arg)).take ((p2.map (·.arg)).length - ([]:List Value).length)).filter (fun n=>(((p2.map (·.arg)).zip vals).lookup n).isNone)=[]:=by
  rw[K6,Nat.sub_zero,List.take_length];refine List.filter_eq_nil_iff.mpr fun n hnm=> ?_;have:=fL hnm hl;cases e:((p2.map (·.arg)).zip vals).lookup n with
  |none=>rw[e] at this;cases this
  |some=>exact KC
 have hd:([]:List Value).drop (([]:List Value).length - (p2.map (·.arg)).length)=[]:=List.drop_nil;refine (if_neg ?_).trans ?_
 ·show¬(decide (vals.length>(p2.map (·.arg)).length)&&true)=true;rw[hl,K7 (KY _)];exact KC
 refine (if_neg ?_).trans ?_
 ·show¬(!(((p2.map (·.arg)).take ((p2.map (·.arg)).length - (([]:List Value).drop (([]:List Value).length - (p2.map (·.arg)).length)).length)).filter fun n=>(((p2.map (·.arg)).zip vals).lookup n).isNone).isEmpty)=true;rw[hd,hm];exact KC
 refine (J7 ?_).trans ?_
 ·show ((p2.map (·.arg)).drop _).zip (([]:List Value).drop (([]:List Value).length - (p2.map (·.arg)).length))=[];rw[hd,List.zip_nil_right]
 show (pure (((p2.map (fun x:Arg=>x.arg))++[]).filterMap fun n=>(((p2.map (fun x:Arg=>x.arg)).zip vals).lookup n).map (n,·)):Sem _)=_;rw[List.append_nil,g9 hn hl]
theorem lZ {α:Type} [BEq α] [LawfulBEq α]:∀ {l:List α},l7 l=true→l.Nodup
 |[],_=>K3
 |a::r,h=>by
  simp only [l7,Bool.and_eq_true,Bool.not_eq_true'] at h;exact K0.mpr ⟨fun q=>by rw[List.contains_iff_mem.mpr q] at h;exact absurd h.1 (by simp),lZ h.2⟩
theorem zd:∀ {Γ:Gam},(Γ.map (·.2)).Nodup→Inj Γ
 |[],_=>fun x y i h=>by cases h
 |(a,j)::r,hn=>fun x y i h1 h2=>by
  have ih:=zd (K0.mp hn).2;have hj:∀ z,r.lookup z≠some j:=fun z q=>(K0.mp hn).1 (Kt.mpr ⟨(z,j),PySem.mem_of_lookup q,rfl⟩);rw[List.lookup_cons] at h1 h2;cases e1:x==a<;>cases e2:y==a<;>rw[e1] at h1<;>rw[e2] at h2
  ·exact ih x y i h1 h2
  ·cases h2;exact absurd h1 (hj x)
  ·cases h1;exact absurd h2 (hj y)
  ·rw[beq_iff_eq.mp e1,beq_iff_eq.mp e2]
noncomputable def isP (Γ:Gam) (sc:Scope):Nat→List Arg→Bool
 |_,[]=>true
 |k,a::r=>Γ.lookup a.arg==some k&&hO sc a.arg&&isP Γ sc (k+1) r
structure Row where
 id:Nat
 nm:Str
 mth:Bool
 Γ:Gam
 params:Nat
 slots:Nat
 keep:Bool
 body:CS
noncomputable def Row.pf (r:Row):PF:=⟨r.params,r.slots,r.keep,r.body.ex⟩
noncomputable def isF (s:Sx) (r:Row) (ps:Arguments) (body:List Stmt):Bool:=
 ps.posonlyargs.isEmpty&&ps.kwonlyargs.isEmpty&&ps.vararg.isNone&&ps.kwarg.isNone&&ps.args.length==r.params&&isP r.Γ s.sc 0 ps.args&&l7 (ps.args.map (·.arg))&&
 l7 (r.Γ.map (·.2))&&s.sc.kind== .function&& !s.sc.isCoroutine&& !s.sc.isGenerator&&r.body.is s body
noncomputable def vF (a:Addr):Value→Bool
 | .ref b=>b==a
 |_=>false
theorem zb {a:Addr} {v:Value} (h:vF a v=true):v= .ref a:=by
 cases v<;>first|exact congrArg Value.ref (bg h)|cases h
noncomputable def wW (l:Option Lam) (cd:Value) (q:Str):Option Lam:=l.bind fun z=>if (vF z.c cd&&(q++".<locals>."++"<lambda>"==z.qual))=true then some z else none
theorem wV {l:Option Lam} {cd:Value} {q:Str} {z:Lam} (h:wW l cd q=some z):l=some z∧cd= .ref z.c∧q++".<locals>."++"<lambda>"=z.qual:=by
 cases l with
 |none=>cases h
 |some y=>
  have h:(if (vF y.c cd&&(q++".<locals>."++"<lambda>"==y.qual))=true then some y else none)=some z:=h;by_cases k:(vF y.c cd&&(q++".<locals>."++"<lambda>"==y.qual))=true
  ·rw[if_pos k] at h;cases h;exact ⟨rfl,zb (ag k),bg (aj k)⟩
  ·rw[if_neg k] at h;cases h
def J_ (C:Cfg) (r:Row) (a:Addr):Prop:=∃ o fd body,C.H.get? a=some o∧o.data= .func fd∧C.H.CodeRec fd.code fd.qualname∧fd.body= .stmts body∧fd.closure=[]∧fd.globals=mainGlobals∧fd.builtins=builtinsNs∧fd.defaults= .none∧
 isF ⟨C.fnm,C.att,C.key,C.gls,fd.scope,r.Γ,wW C.lam fd.code fd.qualname⟩ r fd.params body=true
def uO (C:Cfg):Prop:=∀ f pf,C.T f=some pf→∃ r:Row,pf=r.pf∧J_ C r (C.fadr f)
theorem ow {kindOf:Str→Option NameKind}:∀ {ns:List Str} {vs:List Value} {m:Str→Option Value} {k:Nat} {x:Str} {v:Value},ns.Nodup→ns[k]? =some x→vs[k]? =some v→kindOf x=some .local→bindL kindOf (ns.zip vs) m x=some v
 |[],_,_,_,_,_,_,h,_,_=>by simp at h
 |a::r,[],_,_,_,_,_,_,h,_=>by simp at h
 |a::r,u::vs,m,k,x,v,hn,h1,h2,hk=>by
  rw[List.zip_cons_cons,bindL];cases k with
  |zero=>
   simp at h1 h2;subst h1;subst h2;rw[if_pos hk];have keep:∀ (l:List (Str×Value)) (m:Str→Option Value),a∉l.map (·.1)→bindL kindOf l m a=m a:=by
    intro l
    induction l with
    |nil=>intro m _;rfl
    |cons p l ih=>
     intro m hm;obtain ⟨n,w⟩:=p;rw[bindL,ih _ fun q=>hm (.tail _ q)];split
     ·exact if_neg (fun e:a=n=>hm (by rw[e];exact .head _))
     ·rfl
   rw[keep _ _ fun q=>(K0.mp hn).1 (by
    obtain ⟨p,hp,e⟩:=Kt.mp q;exact e ▸ (List.of_mem_zip hp).1)]
   simp
  |succ k=>exact ow (K0.mp hn).2 (by simpa using h1) (by simpa using h2) hk
theorem oz {kindOf:Str→Option NameKind}:∀ {ns:List Str} {vs:List Value} {m:Str→Option Value} {k:Nat} {x:Str} {v:Value},ns.Nodup→ns[k]? =some x→vs[k]? =some v→kindOf x=some .cell→bindC kindOf (ns.zip vs) m x=some v
 |[],_,_,_,_,_,_,h,_,_=>by simp at h
 |a::r,[],_,_,_,_,_,_,h,_=>by simp at h
 |a::r,u::vs,m,k,x,v,hn,h1,h2,hk=>by
  rw[List.zip_cons_cons,bindC];cases k with
  |zero=>
   simp at h1 h2;subst h1;subst h2;rw[if_neg (by rw[hk];decide)];have keep:∀ (l:List (Str×Value)) (m:Str→Option Value),a∉l.map (·.1)→bindC kindOf l m a=m a:=by
    intro l
    induction l with
    |nil=>intro m _;rfl
    |cons p l ih=>
     intro m hm;obtain ⟨n,w⟩:=p;rw[bindC,ih _ fun q=>hm (.tail _ q)];split
     ·rfl
     ·exact if_neg (fun e:a=n=>hm (by rw[e];exact .head _))
   rw[keep _ _ fun q=>(K0.mp hn).1 (by
    obtain ⟨p,hp,e⟩:=Kt.mp q;exact e ▸ (List.of_mem_zip hp).1)]
   simp
  |succ k=>exact oz (K0.mp hn).2 (by simpa using h1) (by simpa using h2) hk
theorem pL {Γ:Gam} {sc:Scope}:∀ {l:List Arg} {k:Nat},isP Γ sc k l=true→∀ j a,l[j]? =some a→Γ.lookup a.arg=some (k+j)∧hO sc a.arg=true
 |[],_,_,j,a,e=>by simp at e
 |b::r,k,h,j,a,e=>by
  simp only [isP,Bool.and_eq_true,beq_iff_eq] at h;cases j with
  |zero=>simp at e;subst e;exact h.1
  |succ j=>
   have:=pL h.2 j a (by simpa using e);rw[show k+1+j=k+(j+1) by exact Fj] at this;exact this
noncomputable def lq (cs:List (Str×Addr)):List Addr:=(cs.filter fun p=>cs.lookup p.1==some p.2).map (·.2)
noncomputable def zO (cs:List (Str×Addr)) (cm:Str→Option Value) (c:Addr):Option Value:=match cs.find? fun p=>p.2==c with
 |some p=>cm p.1
 |none=>none
theorem se {cs:List (Str×Addr)} {cm:Str→Option Value} {x:Str} {c:Addr} (hp:cs.Pairwise fun x y=>x.2≠y.2) (h:cs.lookup x=some c):zO cs cm c=cm x:=by
 have hm:=PySem.mem_of_lookup h;unfold zO;cases e:cs.find? fun p=>p.2==c with
 |none=>exact absurd (List.find?_eq_none.mp e _ hm) (by simp)
 |some p=>
  have h1:=List.mem_of_find?_eq_some e;have h2:p.2=c:=by simpa using List.find?_some e
  rw[PySem.name_of_addr hp hm (n':=p.1) (by rw[←h2];exact h1)]
theorem RVs.length {C:Cfg} {P:Pt} {ps:List PV} {vs:List Value} (h:RVs C P ps vs):vs.length=ps.length:=by
 induction h with
 |nil=>rfl
 |cons _ _ ih=>exact congrArg Nat.succ ih
theorem RVs.get {C:Cfg} {P:Pt} {ps:List PV} {vs:List Value} (h:RVs C P ps vs):∀ {k:Nat} {p:PV},ps[k]? =some p→∃ v,vs[k]? =some v∧RV C P v p:=by
 induction h with
 |nil=>exact fun e=>nomatch e
 |cons h _ ih=>
  intro k p e;cases k with
  |zero=>cases e;exact ⟨_,rfl,h⟩
  |succ k=>exact ih (k:=k) e
theorem xi {C:Cfg} {d:Nat} (G:Good C) (hF:uO C) (hS:qg C d):qg C (d+1):=by
 intro hd A P f args vs K Q E hfrs hX hdep huni hhnd I hargs w p;unfold gi at w;cases hT:C.T f with
 |none=>rw[hT] at w;exact w.elim
 |some pf=>
 rw[hT] at w;obtain ⟨rw,hpf,o,fd,body,ho,hdata,hcd,hbody,hclo,hgl,hbl,hdf,hf⟩:=hF f pf hT;subst hpf;simp only [isF,Bool.and_eq_true,beq_iff_eq,List.isEmpty_iff,Option.isNone_iff_eq_none,Bool.not_eq_true'] at hf;obtain ⟨⟨⟨⟨⟨⟨⟨⟨⟨⟨⟨p1,p2⟩,p3⟩,p4⟩,p5⟩,p6⟩,p7⟩,p8⟩,p9⟩,p10⟩,p11⟩,p12⟩:=hf;have w:Wp K (if args.length=rw.params then zJ rw.keep P.σ.length (rw.body.ex ⟨gi C.T d,hd⟩ (args.map some++List.replicate (rw.slots - rw.params) none) P.σ) else none):=w;by_cases hlen:args.length=rw.params
 case neg=>rw[if_neg hlen] at w;exact w.elim
 rw[if_pos hlen] at w;have base:∀ b o,C.H.get? b=some o→P.h.get? b=some o:=fun b o e=>(I.base b o e).1;have hvl:vs.length=args.length:=hargs.length;have hnm:(fd.params.args.map (·.arg)).length=vs.length:=by simp [p5,hvl,hlen]
 have hnd:=lZ p7;have hkinds:∀ x∈(fd.params.args.map (·.arg)).zip vs,fd.scope.names.lookup x.1=some .local∨fd.scope.names.lookup x.1=some .cell:=fun x hx=>by
  obtain ⟨a,ha,e⟩:=Kt.mp (List.of_mem_zip hx).1;obtain ⟨j,hj⟩:=List.mem_iff_getElem?.mp ha;have:=(pL p6 j a hj).2;rw[←e]
  simpa [hO] using this
 refine (codeAny_call_cells (HY hdep) (base _ _ ho) hdata (G.nolimit.keeps base) (hcd.keeps base) hbody (jb p1 p2 p3 p4 rfl hdf hnm hnd) hclo ?_ (fun s₁ x=> ?_) p10 p11 p9)
 ·intro x hx;rcases hkinds x hx with h|h
  ·exact .inl h
  ·exact .inr ⟨h,PySem.W.cellsFrom_some _ _ _ (.inl h)⟩
 ·generalize henv:callEnvC fd P.h.objs.size (C.fadr f)=env' at x ⊢;have e1:env'.locals=P.h.objs.size:=by rw[←henv];rfl
  have e2:env'.frame=some P.h.objs.size:=by rw[←henv];rfl
  have e3:env'.scope=fd.scope:=by rw[←henv];rfl
  have e4:env'.globals=mainGlobals:=by rw[←henv,←hgl];rfl
  have e5:env'.builtins=builtinsNs:=by rw[←henv,←hbl];rfl
  have e6:env'.cells=cellsFrom (P.h.objs.size+1) fd.scope.names []:=by rw[←henv];rfl
  obtain ⟨h₁,t₁,es⟩:=x.toInCall.same;generalize hg:(⟨P.h.objs.size,bindL env'.kindOf ((fd.params.args.map (·.arg)).zip vs) fun _=>none,lq env'.cells,zO env'.cells (bindC env'.kindOf ((fd.params.args.map (·.arg)).zip vs) fun _=>none)⟩:Fm)=g;have gL:g.L=P.h.objs.size:=by rw[←hg]
  have gc:g.cells=lq env'.cells:=by rw[←hg]
  have hcm:∀ c∈lq env'.cells,∃ y,env'.cells.lookup y=some c:=fun c hc=>by
   obtain ⟨p,hp,rfl⟩:=Kt.mp hc;exact ⟨p.1,by simpa using (List.mem_filter.mp hp).2⟩
  have hmc:∀ y c,env'.cells.lookup y=some c→c∈lq env'.cells:=fun y c hc=>Kt.mpr ⟨(y,c),List.mem_filter.mpr ⟨PySem.mem_of_lookup hc,by simpa using hc⟩,rfl⟩;have abv:∀ c∈g.cells,g.L<c:=fun c hc=>by
   rw[gc] at hc;obtain ⟨y,hy⟩:=hcm c hc;have:=x.above y c (PySem.mem_of_lookup hy);rw[gL,←e1];exact this
  have eh:s₁.heap=h₁:=by rw[es]
  have J:Inv C (P.enter h₁ t₁ g):=by
   refine I.enter hX (by rw[←eh];exact x.toInCall.keep) (K5 gL.symm) (by rw[←hg,←eh];rw[e1] at x;exact x.toInCall.ns) fun c hc=>⟨?_,abv c hc⟩;have hc':=hc;rw[gc] at hc';obtain ⟨y,hy⟩:=hcm c hc';rw[←hg,←eh];show s₁.heap.IsCell c (zO _ _ c);rw[se x.apart hy];exact x.cell y c hy
  have xE:Ext P (P.enter h₁ t₁ g):=.enter I fun b o e q=>by
   have lt:=KN e;rcases Kb.mp q with z|z
   ·rw[z,gL] at lt;exact KY _ lt
   ·have:=abv b z;rw[gL] at this;exact KY _ (La lt this)
  obtain ⟨ls,hls,hfr⟩:=hfrs;have hcell:∀ y,env'.kindOf y=some .cell→∃ c,env'.cells.lookup y=some c∧c∈g.cells:=fun y hy=>by
   have hk:fd.scope.names.lookup y=some .cell:=by rw[←e3];exact hy
   have:=PySem.W.cellsFrom_some (x:=y) fd.scope.names (P.h.objs.size+1) [] (.inl hk);rw[←e6] at this;obtain ⟨c,hc⟩:=Option.isSome_iff_exists.mp this;exact ⟨c,hc,gc ▸ hmc y c hc⟩
  have hinj:=zd (lZ p8);have fr:(A.deeper env').frames=some (env'::ls):=by simp [Around.deeper,hls]
  let X:SX:={C:=C,A:=A.deeper env',env:=env',sc:=env'.scope,Γ:=rw.Γ,d:=d,hd:=hd,good:=G,calls:=hS,kinds:=fun y=>⟨id,fun h=>bg (ag h),fun h=>⟨h,(hcell y h).imp fun _ q=>q.1⟩⟩,kind:=(by rw[e3];exact p9),glob:=e4,blt:=e5,dep:=(by show A.depth+1+8*d+150<recursionLimit;exact HX hdep),uni:=(by show A.units+3+64*d+1000<cLine;exact HW huni),hnd:=hhnd,lm:=wW C.lam fd.code fd.qualname,outer:=ls,L:=g.L,cs:=g.cells,fr:=fr,loc:=(by rw[gL];exact e1),frame:=(by rw[gL];exact e2),cell:=hcell,apart:=fun y z c h1 h2=>PySem.name_of_addr x.apart (PySem.mem_of_lookup h1) (PySem.mem_of_lookup h2),inj:=hinj,scE:=rfl,dep2:=(by show A.depth+1+8*d+151<recursionLimit;exact HV hdep),uni2:=(by show A.units+3+64*d+1005<cLine;exact HU huni),lmE:=fun l h=>(by obtain ⟨a,b,c⟩:=wV h;exact ⟨a,by rw[←henv];exact b,by rw[←henv];exact c⟩)}
  have hE:SEnv X (P.enter h₁ t₁ g) (args.map some++List.replicate (rw.slots - rw.params) none):=by
   refine ⟨⟨⟨env'::ls,fr,fun z hz=> ?_⟩,fun q=>(by cases q),fun y i p hy hm hp=> ?_⟩,⟨g,P.fs,rfl,rfl,rfl⟩⟩
   ·rcases Kb.mp hz with q|hz
    ·rw[q];exact ⟨by rw[e3,p9];decide,g,.head _,by rw[gL];exact e2⟩
    ·obtain ⟨k,q,hq,e⟩:=hfr z hz;exact ⟨k,q,.tail _ hq,e⟩
   have hi:i<args.length:=by
    rcases Nat.lt_or_ge i args.length with h|h
    ·exact h
    ·rw[KA (by simpa using h)] at hp;obtain ⟨hh,e⟩:=Kg.mp hp;rw[List.getElem_replicate] at e;cases e
   rw[K1 (by simpa using hi),Ku] at hp;obtain ⟨q,hq,e⟩:=K2.mp hp;cases e;obtain ⟨v,hv,hr⟩:=hargs.get hq;have hi':i<fd.params.args.length:=by rw[p5];exact Dh hlen hi
   obtain ⟨a,ha⟩:∃ a,fd.params.args[i]? =some a:=⟨_,Kh hi'⟩;obtain ⟨h1,h2⟩:=pL p6 i a ha;rw[K8] at h1;have hya:=hinj _ _ _ hy h1;subst hya;have hn:(fd.params.args.map (·.arg))[i]? =some a.arg:=by rw[Ku,ha];rfl
   refine ⟨v,hr.ext xE,?_⟩;rw[hO,Bool.or_eq_true,beq_iff_eq,beq_iff_eq] at h2;have h2:env'.kindOf a.arg=some NameKind.«local»∨env'.kindOf a.arg=some .cell:=by unfold Env.kindOf;rw[e3];exact h2
   rcases h2 with h2|h2
   ·exact .inl ⟨h2,g,.head _,gL.trans e1.symm,by rw[←hg];exact ow hnd hn hv h2⟩
   ·obtain ⟨c,hc,hcc⟩:=hcell _ h2;refine .inr ⟨.inl h2,c,hc,g,.head _,hcc,?_⟩;rw[←hg];show zO _ _ c=_;rw[se x.apart hc];exact oz hnd hn hv h2
  have eP:s₁=(P.enter h₁ t₁ g).s:=es;rw[eP];refine rw.body.ok X body _ (P.enter h₁ t₁ g) (eK K rw.keep P.σ.length) _ _ (by show rw.body.is ⟨C.fnm,C.att,C.key,C.gls,env'.scope,rw.Γ,wW C.lam fd.code fd.qualname⟩ body=true;rw[e3];exact p12) J hE (CJ w) ⟨fun ρ P' gs I' G' k=> ?_,fun q v P' gs I' r k=> ?_,fun c ρ e P' gs I' xx G' k=> ?_⟩
  ·obtain ⟨g',hf'⟩:∃ g',P'.fs=g'::P.fs:=by
    have:=gs.fs;generalize P'.fs=z at this;obtain ⟨_⟩:=this;exact ⟨_,rfl⟩
   exact ta (keep:=rw.keep) (p:=.d .none) I' (xE.trans gs.toExt) hf' .none k fun p' P'' g2 I2 r2 k2=>p.ok p' _ P'' g2 I2 r2 k2
  ·obtain ⟨g',hf'⟩:∃ g',P'.fs=g'::P.fs:=by
    have:=gs.fs;generalize P'.fs=z at this;obtain ⟨_⟩:=this;exact ⟨_,rfl⟩
   exact ta I' (xE.trans gs.toExt) hf' r k fun p' P'' g2 I2 r2 k2=>p.ok p' v P'' g2 I2 r2 k2
  ·obtain ⟨g',hf'⟩:∃ g',P'.fs=g'::P.fs:=by
    have:=gs.fs;generalize P'.fs=z at this;obtain ⟨_⟩:=this;exact ⟨_,rfl⟩
   obtain ⟨a1,a2⟩:=xx;rw[show X.A.frames=some (env'::ls) from fr] at a1;cases a1;refine xd fr e2 I' a2 fun h' I2 x2=> ?_;have y:=(xE.trans gs.toExt).trans (Grow.to P' h' P'.s.toks).toExt;exact p.ex c _ ((P'.to h' P'.s.toks).leave g'.L P.σ.length none [] P.fs) (.leave y y.len) (I2.leave hf' y.len (.inl ⟨rfl,rfl⟩)) (Exc.leave hls x2) (by show K _ (P'.σ.take _++[]);rw[List.append_nil];exact k)
theorem oC {C:Cfg} (G:Good C) (hF:uO C):∀ d,qg C d
 |0=>fun _ _ _ _ _ _ _ _ _ _ _ _ _ _ _ _ w=>w.elim
 |d+1=>xi G hF (oC G hF d)
section
open PySem.W PySem.Builtin PySem.Builtin.ObjectAttr PySem.Builtin.Getset_descriptor
variable {prog:Program} {w:World} {A:Around} {E:Value→Shared→Prop} {s:Shared} {K:Frag} {x D:Addr} {ox:Obj}
end
structure TY where
 nm:Str
 val:Cfg→Value
 g:D→Option Bool
 mean:∀ {C:Cfg},Good C→C.mg nm=some (val C)∨(nm,val C)∈biNames
 ok:∀ {C:Cfg} {A:Around} {P:Pt} {v:Value} {x:D} {b:Bool} {Q E:Value→Shared→Prop},Good C→Inv C P→Now C P v x→g x=some b→(∀ t,Q (.bool b) {P.s with toks:=t})→wpAny C.M A (call (.builtin "isinstance") [v,val C]) Q E P.s
theorem AY {X:Cx} {P:Pt} {Q E:Value→Shared→Prop} (t:TY) {pos:Pos} (I:Inv X.C P) (hw:dg X.sc t.nm=true) (h:Q (t.val X.C) P.s):wpAny X.M X.A (eval (.Name t.nm pos) X.env) Q E P.s:=by
 rcases t.mean X.good with q|q
 ·exact c7 I hw q h
 ·exact dQ I hw q h
noncomputable def Bf (t:TY) (x:PV):PM PV:=fun σ=>(rd σ x).bind fun u=>(t.g u).map fun b=>(.ok (.d (.bool b)),σ)
theorem CB {t:TY} {x:PV} {σ:Sto} {K:R PV→Sto→Prop} (w:Wp K (Bf t x σ)):∃ u b,rd σ x=some u∧t.g u=some b∧K (.ok (.d (.bool b))) σ:=by
 unfold Bf at w;cases e1:rd σ x with
 |none=>rw[e1] at w;exact w.elim
 |some u=>
  rw[e1,Ka] at w;cases e2:t.g u with
  |none=>rw[e2] at w;exact w.elim
  |some b=>rw[e2] at w;exact ⟨u,b,rfl,e2,w⟩
theorem DM (t:TY) (a:CE) {X:Cx} {e:Expr} {ρ:Rho} {P:Pt} {K:R PV→Sto→Prop} {Q E:Value→Shared→Prop} (h:du (fun x es=>x==("isinstance":Str)&&dg X.sx.sc x&&two (fun e y=>fx e&&a.is X.sx e&&cE (fun y _=>y==t.nm&&dg X.sx.sc y) y) es) e=true) (I:Inv X.C P) (G:EnvOK X P ρ)
  (w:Wp K (bnd (a.ev X.ker ρ) (Bf t) P.σ)) (p:aV X (RV X.C) P K Q E):wpAny X.M X.A (eval e X.env) Q E P.s:=
 dt (fun e=>wpAny X.M X.A (eval e X.env) Q E P.s) h fun x px es pos h=>by
  refine lC (fun es=>wpAny X.M X.A (eval (.Call (.Name x px) es [] pos) X.env) Q E P.s) (aj h) fun e y h2=> ?_;refine bM (fun y=>wpAny X.M X.A (eval (.Call (.Name x px) [e,y] [] pos) X.env) Q E P.s) (aj h2) fun y py h3=> ?_;have hw:=aj (ag h);have hy:=aj h3;rw[bg (ag h3)] at hy ⊢;rw[bg (ag (ag h))] at hw ⊢;have hst:starEach [e,.Name t.nm py] X.env=[(false,eval e X.env),(false,eval (.Name t.nm py) X.env)]:=by
   rw[cw (ag (ag h2))];rfl
  have hpl:∀ x∈backTo pos (starEach [e,.Name t.nm py] X.env),x.1=false:=by
   rw[hst];intro x hx;rcases Kb.mp hx with q|q
   ·rw[q]
   ·rw[Ki.mp q]
  refine wpAny_Call_NameR (dQ (v:=.builtin "isinstance") I hw (by decide+kernel) ?_);refine Calls.callWith_builtin (cK hpl) (cj hpl ?_);rw[hst];refine Calls.spliced_cons (a.ok X e ρ P _ _ E (aj (ag h2)) I G (aC w) (p.bind fun q v P1 g1 I1 r1 w p=> ?_));obtain ⟨u,b,e1,e2,k⟩:=CB w;refine Calls.spliced_cons (AY t I1 hy (Calls.spliced_nil ?_));exact t.ok X.good I1 (bh I1 r1 e1) e2 fun tk=>(p.fin k).tok I1 (.bool b) tk
noncomputable def isi (t:TY) (a:CE):CE:=⟨fun K ρ=>bnd (a.ev K ρ) (Bf t),fun s=>du fun x es=>x==("isinstance":Str)&&dg s.sc x&&two (fun e y=>fx e&&a.is s e&&cE (fun y _=>y==t.nm&&dg s.sc y) y) es,fun _ _ _ _ _ _ _ h I G w p=>DM t a h I G w p⟩
noncomputable def Bs:D→Option Bool
 | .tup _=>some true
 |_=>none
noncomputable def qi:TY:=⟨"tuple",fun _=>.type "tuple",Bs,fun _=>.inr (by decide+kernel),fun {C A P v x b Q E} _ I h e k=>by
 cases x with
 |tup l=>cases e;obtain ⟨z,_⟩:=RD.view h;exact IsiPair.tuple_tuple (I.fz _ _ z) rfl (k P.s.toks)
 |_=>cases e⟩
noncomputable def D3:D→Option Bool
 | .int _=>some false
 | .lst _=>some true
 |_=>none
noncomputable def kI:TY:=⟨"list",fun _=>.type "list",D3,fun _=>.inr (by decide+kernel),fun {C A P v x b Q E} _ I h e k=>by
 cases x with
 |int i=>cases e;obtain ⟨t,q⟩:=RD.view h;rw[q];exact IsiPair.int_list (k _)
 |lst l=>cases e;obtain ⟨z,_,_⟩:LstV C P l v:=h;exact IsiPair.list_list z rfl (k P.s.toks)
 |_=>cases e⟩
section
variable {C:Cfg} {A:Around} {P:Pt} {K:R PV→Sto→Prop} {Q E:Value→Shared→Prop}
theorem DR {u v:D} {x y:Value} {c:Bool} (G:Good C) (I:Inv C P) (hu:Now C P x u) (hv:Now C P y v) (e:inK u v=some c) (k:Fin C P (.bool c) Q):wpAny C.M A (compareOp .In x y) Q E P.s:=by
 cases v with
 |dct ks ps=>
  obtain ⟨hf,z⟩:=grd e;subst z;obtain @⟨a,o,vs,h1,h2,h3,h4⟩:DicV C P ks ps y:=hv;have hu:RD C P.own u x:=by
   cases u<;>first|exact hu|(cases hf;done)
  obtain ⟨d,l,i,hd,h5,e1,e2,h6,e3,h7,h8⟩:=pF h3 hu hf;subst e1;subst e2;subst e3
  letI:=d.dec
  have hl:=kU hd i h4;have ez:(valueAt l i).isSome=(cU (d.toD i) (l.map fun p=>d.toD p.1) ps).isSome:=by
   revert hl
   cases cU (d.toD i) (l.map fun p=>d.toD p.1) ps<;>cases valueAt l i<;>intro hl<;>first|rfl|exact hl.elim
  exact wpAny_in_of h7 (ce G I h2) (Heap.dictOf_iff.mpr ⟨o,h1,h5⟩).mapOf (k.tok I (by rw[ez];exact .bool _) _)
 |_=>cases e
end
noncomputable def FV:CO:=⟨.In,inK,fun G _ I a b e k=>DR G I a b e k⟩
noncomputable def mdG:PV→PM PV:=fun x=>fun σ=>(rd σ x).bind fun u=>match u with
 | .dct ks vs=>(al (ks.length≤100000∧ks.all rU=true) ()).bind fun _=>fN (.fld (.dict ks vs)) σ
 |_=>none
theorem Fy {C:Cfg} {A:Around} {P:Pt} {K:R PV→Sto→Prop} {Q E:Value→Shared→Prop} {x:PV} {v:Value} (G:Good C) (I:Inv C P) (r:RV C P v x) (w:Wp K (mdG x P.σ)) (p:Post C A (RV C) P K Q E):wpAny C.M A (call (.type "dict") [v]) Q E P.s:=by
 obtain ⟨u,e1,w⟩:=iq w;cases u with
 |dct ks ps=>
  obtain ⟨_,e2,w⟩:=iq w;have hl:=(grd e2).1.1;have hf:=(grd e2).1.2;obtain @⟨a,o,vs,h1,h2,h3,h4⟩:DicV C P ks ps v:=bh I r e1;cases h3 with
  |pr xs es ep _ _ _ _ _ e _ hne=>
   cases xs with
   |nil=>exact absurd rfl hne
   |cons x xs=>rw[e] at hf;cases hf
  |mk d l hd h5 e3 e4 h6=>
  subst e3;subst e4
  letI:=d.dec
  refine kt_call_dict (ce G I h2) (Heap.dictOf_iff.mpr ⟨o,h1,h5⟩) (by rw[J'] at hl;exact Km hl (by decide)) fun h' hd' hs=> ?_;obtain ⟨o',ho',hd'⟩:=Heap.dictOf_iff.mp hd';have n:New C P h' P.h.objs.size o':=⟨fun b o e=>hs.extBut b o (Nat.ne_of_lt (KN e)) (Kl _ e),I.off (Ko _),I.out (Ko _),ho'⟩;exact p.make (f:=.dict (l.map fun q:d.K×Value=>d.toD q.1) ps) (t:=P.s.toks) I n ⟨_,.mk d l hd hd' rfl rfl h6,h4.ext (dp n.own)⟩ w
 |_=>exact w.elim
noncomputable def vQ:BF:=⟨"dict",.type "dict",by decide+kernel,fun _ ps=>match ps with
 |[x]=>mdG x
 |_=>fun _=>none,fun {C A P hd K ps vs Q E} G _ I r w p=>by
 match ps,r,w with
 |[x],r,w=>
  obtain ⟨r1,r2⟩:RVC C P x [] vs:=r.view;rw[show _=[] from r2.view];exact Fy G I r1 w p
 |[],_,w=>exact w.elim
 |_::_::_,_,w=>exact w.elim⟩
noncomputable def wL:List Int→Option Int
 |[]=>none
 |a::r=>some (r.foldl max a)
noncomputable def mz:List D→Option (List Int)
 |[]=>some []
 |x::r=>(iD x).bind fun i=>(mz r).map (i::·)
theorem FJ {C:Cfg} {w:a'} {x:D} {v:Value} {i:Int} (h:RD C w x v) (e:iD x=some i):∃ t,v= .int i t:=by
 cases x<;>first|(cases e;exact h.view)|(cases e;done)
theorem n7 {C:Cfg} {w:a'}:∀ {l:List D} {vs:List Value} {ts:List Int},RDs C w l vs→mz l=some ts→IntsAre vs ts
 |[],vs,ts,h,e=>by cases e;rw[show vs=[] from h.view];exact .nil
 |x::l,vs,ts,h,e=>by
  obtain ⟨r1,r2⟩:ConsV C w x l vs:=h.view;obtain ⟨s,e1,e⟩:=bind_some e;obtain ⟨ts',e2,rfl⟩:=map_some e;obtain ⟨t,q⟩:=FJ r1 e1;rw[q];exact .cons _ t (n7 r2 e2)
theorem Bv:∀ (r:List Int) (a:Int),(a≤r.foldl max a)∧(∀ b∈r,b≤r.foldl max a)∧(r.foldl max a=a∨r.foldl max a∈r):=by
 intro r
 induction r with
 |nil=>intro a;exact ⟨Int.le_refl _,cY,.inl rfl⟩
 |cons b r ih=>
  intro a;obtain ⟨k1,k2,k3⟩:=ih (max a b);rw[List.foldl_cons];refine ⟨by omega,fun c hc=> ?_,?_⟩
  ·rcases Kb.mp hc with rfl|hc
   ·omega
   ·exact k2 c hc
  ·rcases k3 with k3|k3
   ·rcases Int.le_total a b with q|q
    ·right;rw[k3,show max a b=b by exact Int.max_eq_right q];exact .head _
    ·left;exact k3.trans (Int.max_eq_left q)
   ·exact .inr (.tail _ k3)
theorem qQ {l:List Int} {m:Int} (h:wL l=some m):m∈l∧∀ a∈l,a≤m:=by
 cases l with
 |nil=>cases h
 |cons a r=>
  cases h;obtain ⟨k1,k2,k3⟩:=Bv r a;refine ⟨?_,fun c hc=> ?_⟩
  ·rcases k3 with k3|k3
   ·rw[k3];exact .head _
   ·exact .tail _ k3
  ·rcases Kb.mp hc with rfl|hc
   ·exact k1
   ·exact k2 c hc
theorem vw {l:List Int} {m M:Int} (h:wL l=some m) (h1:M∈l) (h2:∀ a∈l,a≤M):M=m:=
 Int.le_antisymm ((qQ h).2 M h1) (h2 m (qQ h).1)
theorem Dt {C:Cfg} {A:Around} {P:Pt} {Q E:Value→Shared→Prop} {l:List D} {v:Value} {is:List Int} {m:Int} (I:Inv C P) (hh:A.handled=none) (h:LstV C P l v) (e2:mz l=some is) (e3:wL is=some m) (k:Fin C P (.int m) Q):wpAny C.M A (call (.builtin "max") [v]) Q E P.s:=by
 obtain @⟨a,vs,q,g,_,hs⟩:=h;have hi:=n7 hs e2;obtain ⟨xs,e⟩:=hi.allInts.items;have hns:is=xs.toList.map (·.1):=by rw[←hi.numsOf,←nums_intItems,←e]
 have hsz:0<xs.size:=by
  rcases Nat.eq_zero_or_pos xs.size with q|q
  ·rw[hns,Array.size_eq_zero_iff.mp q] at e3;cases e3
  ·exact q
 have hl:P.h.IsList a (intItems xs):=e ▸ (⟨_,g,rfl,_,rfl⟩:P.h.IsList a vs.toArray);refine max_intList hh hl hsz fun v h' tk hv hk=> ?_;obtain ⟨t,rfl⟩:=intItems_at hv;obtain ⟨h1,h2⟩:=argBest_gt (numAt xs) (xs.size - 1);refine k.grown I hk ?_ _;have:=vw (M:=numAt xs (argBest (fun i j=>decide (numAt xs i>numAt xs j)) (xs.size - 1))) e3 ?_ fun a ha=> ?_
 ·rw[←this];exact .int _ _
 ·rw[hns,numAt_eq];exact getD_mem (by rw[J',Array.length_toList];exact Nat.lt_of_le_pred hsz h1)
 ·rw[hns] at ha;obtain ⟨j,hj,rfl⟩:=mem_getD ha;rw[J',Array.length_toList] at hj;rw[←numAt_eq];exact h2 j (by exact Nat.le_sub_one_of_lt hj)
noncomputable def fMax1:BF:=⟨"max",.builtin "max",by decide+kernel,fun hd ps=>off hd (g1 (fun u=>(lD u).bind fun l=>(mz l).bind fun is=>(wL is).map .int) ps),fun {C A P hd K ps vs Q E} _ hh I r w p=>eO (fun vs=>wpAny C.M A (call (.builtin "max") vs) Q E P.s) I r (dM w).2 fun v u z h e k=>by
 obtain ⟨l,e1,e⟩:=bind_some e;obtain ⟨is,e2,e⟩:=bind_some e;obtain ⟨m,e3,rfl⟩:=map_some e;exact Dt I (hh (dM w).1) (fA e1 h) e2 e3 (p.fin k)⟩
noncomputable def vP:BF:=⟨"max",.builtin "max",by decide+kernel,fun hd ps=>off hd (g2 (fun u v=>(iD u).bind fun x=>(iD v).map fun y=>.int (max x y)) ps),fun {C A P hd K ps vs Q E} _ hh I r w p=>zv (fun vs=>wpAny C.M A (call (.builtin "max") vs) Q E P.s) I r (dM w).2 fun vx vy u v z h1 h2 e k=>by
 obtain ⟨x,e1,e⟩:=bind_some e;obtain ⟨y,e2,rfl⟩:=map_some e;obtain ⟨t,q⟩:=cZ e1 h1;obtain ⟨t',q'⟩:=cZ e2 h2;rw[q,q'];refine max_two_ints (hh (dM w).1) fun h' tk kp=>(p.fin k).grown I kp ?_ _;by_cases hc:y>x
 ·rw[if_pos hc,show max x y=y by exact Int.max_eq_right (Lb hc)];exact .int _ _
 ·rw[if_neg hc,show max x y=x by exact Int.max_eq_left (Lg.mp hc)];exact .int _ _⟩
noncomputable def vO:BF:=⟨"min",.builtin "min",by decide+kernel,fun hd ps=>off hd (g2 (fun u v=>(iD u).bind fun x=>(iD v).map fun y=>.int (min x y)) ps),fun {C A P hd K ps vs Q E} _ hh I r w p=>zv (fun vs=>wpAny C.M A (call (.builtin "min") vs) Q E P.s) I r (dM w).2 fun vx vy u v z h1 h2 e k=>by
 obtain ⟨x,e1,e⟩:=bind_some e;obtain ⟨y,e2,rfl⟩:=map_some e;obtain ⟨t,q⟩:=cZ e1 h1;obtain ⟨t',q'⟩:=cZ e2 h2;rw[q,q'];refine min_two_ints (hh (dM w).1) fun h' tk kp=>(p.fin k).grown I kp ?_ _;by_cases hc:y<x
 ·rw[if_pos hc,show min x y=y by exact Int.min_eq_right (Lb hc)];exact .int _ _
 ·rw[if_neg hc,show min x y=x by exact Int.min_eq_left (Lg.mp hc)];exact .int _ _⟩
noncomputable def FB (a b:CE):CF:=⟨fun K ρ=>bnd (a.ev K ρ) fun x=>bnd (b.ev K ρ) fun y=>fun σ=>(((rd σ x).bind lD).bind fun l=>((rd σ y).bind lD).bind fun m=>al (l.length+m.length≤lim) (l++m)).map fun z=>(.ok z,σ),fun s=>jf fun l op r _=>op== .Add&&a.is s l&&b.is s r,
 fun X e ρ P K Q E h I G w p=>je (fun e=>wpAny X.M X.A (eval e X.env) Q E P.s) h fun l op r pos h=>wpAny_BinOp (a.ok X l ρ P _ _ E (aj (ag h)) I G (aC w) (p.bind fun x v P1 g1 I1 r1 w p=>
  b.ok X r ρ P1 _ _ E (aj h) I1 (G.ext g1) (aC w) (p.bind fun y u P2 g2 I2 r2 w p=>by
   obtain ⟨z,e,k⟩:=fk w;obtain ⟨l1,e1,e⟩:=bind_some e;obtain ⟨l2,e2,e⟩:=bind_some e;obtain ⟨hm,rfl⟩:=grd e;obtain ⟨u1,e3,e4⟩:=bind_some e1;obtain ⟨u2,e5,e6⟩:=bind_some e2;rw[bg (ag (ag h))];obtain @⟨a1,vs1,n1,g1',_,rr1⟩:=fA e4 (bh I2 (r1.ext g2.toExt) e3);obtain @⟨a2,vs2,n2,g2',_,rr2⟩:=fA e6 (bh I2 r2 e5);refine v9 g1' g2' ?_ (by simpa [sizeLine,lim,rr1.length,rr2.length] using hm);have n:=I2.push (o:=aE (vs1++vs2) 0) rfl;have eo:aE (vs1++vs2) 0=({cls:=.type "list",data:=.seq (vs1.toArray++vs2.toArray)}:Obj):=by simp
   have:=p.ok (l1++l2) (.ref P2.h.objs.size) (P2.to (P2.h.push (aE (vs1++vs2) 0)) P2.s.toks) (.to ..) (I2.to n.keep) (.mk ⟨fun _ _ e=>e,n.own,n.H,n.at_⟩ (rr1.append rr2)) k;rw[eo] at this;exact this)))⟩
structure FS where
 ev:Ker→Rho→List Nat→PM (List Nat)
 is:Sx→List Expr→Bool
 ok:∀ (X:Cx) (es:List Expr) (ρ:Rho) (P:Pt) (acc:List Nat) (K:R (List Nat)→Sto→Prop) (Q E:Value→Shared→Prop),is X.sx es=true→Inv X.C P→EnvOK X P ρ→okS acc→Wp K (ev X.ker ρ acc P.σ)→aV X (fun _ v t=>okS t∧∃ k,v=Value.str (ofL t) k) P K Q E→wpAny X.M X.A (joinParts (ofL acc) (evalEach es X.env)) Q E P.s
end Mine.Internal
namespace Mine.Internal
open PySem PyProof.Rows PySem.W
noncomputable def uV (l:List Row) (n:Nat):Option PF:=(l.find? fun r=>r.id==n).map (·.pf)
noncomputable def eC (r0:Row) (l:List Row) (n:Nat):Row:=(l.find? fun r=>r.id==n).getD r0
noncomputable def Dl (r0:Row) (l:List Row) (n:Nat):Str×Bool:=((eC r0 l n).nm,(eC r0 l n).mth)
noncomputable def fF:Nat→Str
 |0=>"home"|1=>"names"|2=>"told"|3=>"made"|4=>"gone"|5=>"ends"|6=>"deeds"|_=>"?"
theorem BX:∀ i,i<7→∀ k,k<7→fF i=fF k→i=k:=by decide+kernel
theorem v5:∀ p∈biNames,bootBuiltins p.1=some p.2∧p.1≠"__name__":=by
 have h:biNames.all (fun p=>bootBuiltins p.1==some p.2&& !(p.1==("__name__":Str)))=true:=by kernel_rfl
 exact fun p hp=>⟨bg (ag (List.all_eq_true.mp h p hp)),fun q=>by have:=aj (List.all_eq_true.mp h p hp);rw[q,beq_self_eq_true] at this;cases this⟩
noncomputable def Cm (o:Obj):Bool:=match o.data with
 | .cls _=>true
 |_=>false
noncomputable def ti (o:Obj):Bool:= !(o.cls== .type "list")&& !(o.cls== .none)
noncomputable def Ak (t:BT) (n:Nat):Frag:=((List.range n).filterMap fun a=>((t.get a).bind alive).map fun o=>(a,o)).filter fun q=>ti q.2
noncomputable def uv (t:BT) (n:Nat):Frag:=(Ak t n).filter (fun q=>Cm q.2)++(Ak t n).filter (fun q=> !Cm q.2)
theorem rq {α:Type} {K:List (Nat×α)} {a:Nat} {o:α} (h:K.lookup a=some o):(a,o)∈K:=by
 induction K with
 |nil=>cases h
 |cons q r ih=>
  rw[List.lookup_cons] at h;cases e:(a==q.1) with
  |true=>rw[e] at h;cases h;rw[beq_iff_eq.mp e];exact .head _
  |false=>rw[e] at h;exact .tail _ (ih h)
theorem Bu (t:BT) (n:Nat) (life:Life):(uv t n).In (absHeap t n life):=fun a o e=>by
 have:=rq e;have hm:(a,o)∈Ak t n:=by
  rcases Kv.mp this with q|q<;>exact (List.mem_filter.mp q).1
 refine aK fun G9 k9=> ?_;obtain ⟨b,hb,e1⟩:=List.mem_filterMap.mp (List.mem_filter.mp hm).1;obtain ⟨o',ho,e'⟩:=K2.mp e1;refine k9 ?_;cases e';obtain ⟨o2,h1,h2⟩:=Option.bind_eq_some_iff.mp ho;rw[abs_get (List.mem_range.mp hb) h1];exact h2
noncomputable def B3 (K:Frag) (x:Str):Addr:=match nsIn K mainGlobals x with
 |some (some (.ref a))=>a
 |_=>0
noncomputable def fP (K:Frag):Addr:=B3 K "Book"
noncomputable def j_ (K:Frag) (r:Row):Addr:=if r.mth then (match findIn K (.ref (fP K)) r.nm with
 |some (some (.ref a))=>a
 |_=>0) else B3 K r.nm
noncomputable def fy (sp:Option (Str×Pos)) (K:Frag):Option Lam:=sp.bind fun q=>(tabIn K q.1).map fun z=>⟨z.1,z.2,q.2,q.1++".<locals>."++"<lambda>"⟩
noncomputable def Cl (o:Obj):Bool:=o.cls== .none&&o.dict.isNone&&(match o.data with
 | .fields vs=>vs.isEmpty
 |_=>false)&&o.slots.isEmpty
theorem za {o:Obj} (h:Cl o=true):o=oI #[]:=by
 obtain ⟨cl,di,da,sl⟩:=o;have e1:cl= .none:=bg (ag (ag (ag h)));have e2:di=none:=Option.isNone_iff_eq_none.mp (aj (ag (ag h)));have e3:sl=#[]:=Array.isEmpty_iff.mp (aj h);have h:=aj (ag h);subst e1 e2 e3;cases da with
 |fields vs=>rw[Array.isEmpty_iff.mp h]
 |_=>cases h
noncomputable def sL (sp:Option (Str×Pos)) (K:Frag) (t:BT) (n:Nat):Bool:=(fy sp K).all fun l=>decide (l.P<n)&&((t.get l.P).bind alive).any Cl
def oE (sp:Option (Str×Pos)) (K:Frag) (h:Heap):Prop:=∀ l,fy sp K=some l→h.get? l.P=some (oI #[])
theorem Ay {sp:Option (Str×Pos)} {K:Frag} {t:BT} {n:Nat} (life:Life) (h:sL sp K t n=true):oE sp K (absHeap t n life):=fun l e=>by
 unfold sL at h;rw[e] at h;refine aK fun G9 k9=> ?_;obtain ⟨o,ho,k⟩:=any_some (aj h);obtain ⟨o2,h1,h2⟩:=Option.bind_eq_some_iff.mp ho;refine k9 ?_;rw[abs_get (KX (ag h)) h1,h2,za k]
noncomputable def D6 (K:Frag) (s:Scope→Gam→Value→Str→Sx) (r:Row):Bool:=match K.lookup (j_ K r) with
 |some ⟨cls,_,.func fd,_⟩=>cls== .type "function"&&codeIn K fd.code fd.qualname&&(match fd.body with
   | .stmts body=>isF (s fd.scope r.Γ fd.code fd.qualname) r fd.params body
   |_=>false)&&fd.closure.isEmpty&&fd.globals==mainGlobals&&fd.builtins==builtinsNs&&fd.defaults== .none
 |_=>false
noncomputable def Cc (K:Frag) (s:Scope→Gam→Value→Str→Sx) (r:Row):Bool:=D6 K s r&&(if r.mth then findIn K (.ref (fP K)) r.nm==some (some (.ref (j_ K r)))&&(List.range 7).all (fun k=>fF k !=r.nm) else nsIn K mainGlobals r.nm==some (some (.ref (j_ K r))))
noncomputable def FQ (K:Frag) (f0:Addr):Bool:=(nsIn K mainGlobals "Book"==some (some (.ref (fP K)))&&(clsIn K (fP K)).any (·.hasDict)&&plainOver K (fP K)&&makesIn K (fP K)&&findIn K (.ref (fP K)) "__getattribute__"==some (some (.builtin "object.__getattribute__"))&&findIn K (.ref (fP K)) "__getattr__"==some none)&&
 (findIn K (.ref (fP K)) "__setattr__"==some (some (.builtin "object.__setattr__"))&&(List.range 7).all (fun k=>findIn K (.ref (fP K)) (fF k)==some none)&&findIn K (.ref (fP K)) "__init__"==some (some (.ref f0))&&typeIn K (.ref f0)==some (.type "function"))
noncomputable def F0:List Value:=[.type "ValueError",.type "Exception",.type "BaseException",.type "object"]
noncomputable def FO (K:Frag) (ea:Nat→Addr):Bool:=(List.range nX).all fun c=>(nsIn K mainGlobals (gP c)==some (some (.ref (ea c)))&&excIn K (ea c) F0 "ValueError.__new__"&&FP K (ea c)&&kitOne K (.ref (ea c)) (.type "ValueError")==some true)&&
 (List.range nX).all fun k=>kitOne K (.ref (ea c)) (.ref (ea k))==some (c==k||k==0)&&exmOne K (.ref (ea c)) (.ref (ea k))==some (c==k||k==0)
noncomputable def FM (K:Frag):Bool:=biNames.all fun p=>nsIn K mainGlobals p.1==some none
noncomputable def glB (v:Value):Option Int×List Nat→Bool
 |(some i,_)=>(match v with
  | .int j _=>i==j
  |_=>false)
 |(none,l)=>(match v with
  | .str x _=>x.cps.toList==l&&okB l
  |_=>false)
noncomputable def glK (K:Frag) (gls:List (Str×(Option Int×List Nat))):Bool:=gls.all fun q=>match nsIn K mainGlobals q.1 with
 |some (some v)=>glB v q.2
 |_=>false
noncomputable def okK (sp:Option (Str×Pos)) (r0:Row) (rows:List Row) (gls:List (Str×(Option Int×List Nat))) (key:Nat→Str) (K:Frag):Bool:=
 (K.lookup sysModules).isSome&&K.all (fun q=>ti q.2)&&FM K&&glK K gls&&FO K (fun c=>B3 K (gP c))&&FQ K (j_ K (eC r0 rows 0))&&(r0::rows).all (Cc K fun sc Γ cd q=>⟨Dl r0 rows,fF,key,gls,sc,Γ,wW (fy sp K) cd q⟩)&&(fy sp K).all (fun l=>codeHdIn K l.c l.P)
theorem wz {r0:Row} {rows:List Row} (n:Nat):eC r0 rows n∈r0::rows:=by
 unfold eC;cases e:rows.find? fun r=>r.id==n with
 |none=>exact .head _
 |some r=>exact .tail _ (List.mem_of_find?_eq_some e)
theorem DV {v:Value}:∀ {q:Option Int×List Nat},glB v q=true→DU v q
 |(some i,_),h=>by
  cases v<;>first|(cases h;done)|exact ⟨_,by rw[bg h]⟩
 |(none,l),h=>by
  cases v<;>first|(cases h;done)|skip
  rename_i x t
  refine ⟨yB (aj h),t,?_⟩;obtain ⟨⟨z⟩⟩:=x;rw[←bg (ag h)]
theorem Bw {K:Frag} {sx:Scope→Gam→Value→Str→Sx} {r:Row} {h:Heap} (X:K.In h) (e:D6 K sx r=true):typeIn K (.ref (j_ K r))=some (.type "function")∧∃ o fd body,h.get? (j_ K r)=some o∧o.data= .func fd∧h.CodeRec fd.code fd.qualname∧fd.body= .stmts body∧fd.closure=[]∧fd.globals=mainGlobals∧fd.builtins=builtinsNs∧fd.defaults= .none∧
  isF (sx fd.scope r.Γ fd.code fd.qualname) r fd.params body=true:=by
 unfold D6 at e;split at e
 ·rename_i cls dd fd sl ho
  simp only [Bool.and_eq_true,beq_iff_eq] at e;refine aK fun G9 k9=> ?_;obtain ⟨⟨⟨⟨⟨⟨e1,e2⟩,e3⟩,e4⟩,e5⟩,e6⟩,e7⟩:=e;refine k9 ?_;split at e3
  ·rename_i body hb
   exact ⟨(by show (K.lookup (j_ K r)).map (·.cls)=_;rw[ho,←e1];rfl),_,fd,body,X _ _ ho,rfl,codeRec_of X e2,hb,List.isEmpty_iff.mp e4,e5,e6,e7,e3⟩
  ·cases e3
 ·cases e
noncomputable def mY (sp:Option (Str×Pos)) (scr:Addr) (K:Frag):List Addr:=scr::(fy sp K).toList.map (·.P)
noncomputable def zV (prog:Program) (w:World) (s:Shared) (scr:Addr) (K:Frag) (mg mb:Str→Option Value) (sp:Option (Str×Pos)) (r0:Row) (rows:List Row) (gls:List (Str×(Option Int×List Nat))) (key:Nat→Str):Cfg:=
 ⟨prog,w,b8 s.heap (mY sp scr K),fP K,fun c=>B3 K (gP c),K,mg,mb,Dl r0 rows,fun n=>j_ K (eC r0 rows n),fF,key,gls,uV rows,fy sp K⟩
section
variable {p:Program} {loose:List Str} {mean:ExcName→Option Value} {mg mb:Str→Option Value} {prog:Program} {w:World} {s:Shared} {K:Frag} {sp:Option (Str×Pos)} {r0:Row} {rows:List Row} {gls:List (Str×(Option Int×List Nat))} {key:Nat→Str} {scr:Addr} {o:Obj} {ws:List Addr}
def Low (s:Shared) (ws:List Addr):Prop:=∀ a∈ws,∃ o,s.heap.get? a=some o∧ti o=false∧∀ es ep,o.data≠ .dict es ep
theorem Dw {vs:Array Value} {n:Nat} (ho:s.heap.get? scr=some o) (hc:o.cls= .type "list") (hd:o.data= .seq vs n) (TK:oE sp K s.heap):Low s (mY sp scr K):=fun a ha=>by
 rcases Kb.mp ha with q|q
 ·exact ⟨o,q ▸ ho,by unfold ti;rw[hc];rfl,fun es ep e=>by rw[hd] at e;cases e⟩
 ·obtain ⟨l,hl,q⟩:=Kt.mp q;exact ⟨_,q ▸ TK l (Option.mem_toList.mp hl),rfl,fun es ep e=>by cases e⟩
theorem us {b:Addr} {x:Obj} (h:s.heap.get? b=some x) (ne:b∉ws):(b8 s.heap ws).get? b=some x:=by
 rw[get?_without,if_neg ne];exact h
theorem EL {b:Addr} {x:Obj} (h:(b8 s.heap ws).get? b=some x):s.heap.get? b=some x∧b∉ws:=by
 rw[get?_without] at h;by_cases q:b∈ws
 ·rw[if_pos q] at h;cases h
 ·rw[if_neg q] at h;exact ⟨h,q⟩
theorem zj {b:Addr} {x:Obj} (lw:Low s ws) (h:s.heap.get? b=some x) (hx:ti x=true):(b8 s.heap ws).get? b=some x:=us h fun q=>by
 obtain ⟨o,h1,h2,_⟩:=lw b q;rw[h] at h1;cases h1;rw[hx] at h2;cases h2
theorem vm {a:Addr} {m:Str→Option Value} (lw:Low s ws) (h:s.heap.Ns a m):(b8 s.heap ws).Ns a m:=by
 refine aK fun G9 k9=> ?_;obtain ⟨x,es,ep,h1,h2,r⟩:=h;refine k9 ?_;exact ⟨x,es,ep,us h1 (fun q=>by
  obtain ⟨o,h3,_,h4⟩:=lw a q;rw[h1] at h3;cases h3;exact h4 _ _ h2),h2,r⟩
theorem Bt (X:K.In s.heap) (h:K.all (fun q=>ti q.2)=true) (lw:Low s ws):K.In (b8 s.heap ws):=fun a x e=>
 zj lw (X a x e) (List.all_eq_true.mp h _ (rq e))
theorem Bl (T:Top p loose mean mg mb s.heap) (X:K.In s.heap) (ok:okK sp r0 rows gls key K=true) (hkey:∀ i j,i<100→j<100→key i=key j→i=j) (lw:Low s (mY sp scr K)) (TK:oE sp K s.heap):
  Good (zV prog w s scr K mg mb sp r0 rows gls key)∧uO (zV prog w s scr K mg mb sp r0 rows gls key):=by
 simp only [okK,Bool.and_eq_true] at ok;refine aK fun G9 k9=> ?_;obtain ⟨⟨⟨⟨⟨⟨⟨o1,o0⟩,o2⟩,o3⟩,o4⟩,o5⟩,o6⟩,o7⟩:=ok;refine k9 ?_;have X':=Bt X o0 lw;have g:=vm lw T.g;have nl:(b8 s.heap (mY sp scr K)).NoLimit:=by
  obtain ⟨mc,h1,h2⟩:=T.nolimit;exact ⟨mc,vm lw h1,h2⟩
 have TR:TopRead p loose mg mb (b8 s.heap (mY sp scr K)):=⟨g,vm lw T.b,nl,T.builtins,T.free⟩;have row:∀ n,Cc K (fun sc Γ cd q=>⟨Dl r0 rows,fF,key,gls,sc,Γ,wW (fy sp K) cd q⟩) (eC r0 rows n)=true:=fun n=>List.all_eq_true.mp o6 _ (wz n);have fn:=fun n=>Bw X' (ag (row n));simp only [FQ,Bool.and_eq_true,List.all_eq_true,beq_iff_eq,List.mem_range] at o5;have ex:=fun c (hc:c<nX)=>List.all_eq_true.mp o4 c (List.mem_range.mpr hc);simp only [Bool.and_eq_true,List.all_eq_true,beq_iff_eq,List.mem_range] at ex;refine ⟨⟨g,TR.b,nl,?_,?_,⟨X',mg_of X' g o5.1.1.1.1.1.1,any_some o5.1.1.1.1.1.2,o5.1.1.1.1.2,o5.1.1.1.2,o5.1.1.2,o5.1.2,o5.2.1.1.1,o5.2.1.1.2,BX,⟨o5.2.1.2,o5.2.2⟩,fun m hm=> ?_⟩,fun c hc=>own_of_in X' TR (ex c hc).1.1.1.1 (ex c hc).1.1.1.2,fun c hc=>(ex c hc).1.1.2,fun c hc k hk=>((ex c hc).2 k hk).1,fun c hc=>(ex c hc).1.2,fun c hc k hk=>((ex c hc).2 k hk).2,
  fun n hn=> ?_,fun q hq=>⟨ns_none_of X' g (bg (List.all_eq_true.mp o2 q hq)),(T.builtins _ (v5 q hq).2).trans (v5 q hq).1⟩,fun x q e=> ?_,hkey,fun l e=> ?_⟩,fun n pf hT=> ?_⟩
 ·obtain ⟨mc,h1,h2⟩:=T.nodigits;exact ⟨mc,vm lw h1,h2⟩
 ·obtain ⟨x,hx⟩:=Option.isSome_iff_exists.mp o1;exact ⟨x,X' _ _ hx⟩
 ·have hm:(eC r0 rows m).mth=true:=hm;have:=aj (row m);rw[if_pos hm] at this;simp only [Bool.and_eq_true,beq_iff_eq,List.all_eq_true,List.mem_range,bne_iff_ne] at this;refine aK fun G9 k9=> ?_;obtain ⟨h1,o,fd,body,h2,h3,_⟩:=fn m;refine k9 ?_;exact ⟨this.1,h1,this.2,o,fd,h2,h3⟩
 ·have hn:(eC r0 rows n).mth=false:=hn;have:=aj (row n);rw[if_neg (by rw[hn];exact KC)] at this;refine aK fun G9 k9=> ?_;obtain ⟨_,o,fd,body,h2,h3,_⟩:=fn n;refine k9 ?_;exact ⟨mg_of X' g (beq_iff_eq.mp this),o,fd,h2,h3⟩
 ·have h3:=List.all_eq_true.mp o3 _ (b7 e);dsimp only at h3;split at h3
  ·rename_i v hv
   exact ⟨v,mg_of X' g hv,DV h3⟩
  ·cases h3
 ·have e:fy sp K=some l:=e;have tb:=TK l e;rw[e] at o7;refine aK fun G9 k9=> ?_;obtain ⟨bm,ob,b1,b2,b3,b4,b5,b6⟩:=T.bmain;refine k9 ?_;refine ⟨codeHd_of_K X' o7,⟨bm,ob,b1,b2,fun q=> ?_,fun q=> ?_,zj lw b3 (by unfold ti;rw[b4];rfl),b4,b5,b6⟩,fun q=> ?_⟩
  ·obtain ⟨o,es,ep,e2,hd,_⟩:=T.g;rw[q,e2] at b3;cases b3;rw[hd] at b6;cases b6
  ·rw[q,tb] at b3;cases b3;cases b4
  ·obtain ⟨o,es,ep,e2,hd,_⟩:=T.g;rw[q,tb] at e2;cases e2;cases hd
 ·have hT':(rows.find? fun r=>r.id==n).map (·.pf)=some pf:=hT;refine aK fun G9 k9=> ?_;obtain ⟨r,hr,hpf⟩:=K2.mp hT';have er:eC r0 rows n=r:=by unfold eC;rw[hr];rfl
  obtain ⟨_,o,fd,body,h2,h3,h4,h5,h6,h7,h8,h9,h10⟩:=fn n;refine k9 ?_;rw[er] at h10;exact ⟨r,hpf.symm,o,fd,body,h2,h3,h4,h5,h6,h7,h8,h9,h10⟩
theorem u5 (h:Heap):∀ ws:List Addr,(b8 h ws).objs.size=h.objs.size
 |[]=>rfl
 |a::ws=>by
  show ((b8 h ws).update a _).objs.size=_;unfold Heap.update;rw[Array.size_modify,u5 h ws]
theorem Bi {C:Cfg} {w:a'} {vs:List Value} {sc:List Int} (h:IntsAre vs sc):RDs C w (sc.map .int) vs:=by
 induction h with
 |nil=>exact .nil
 |cons n t _ ih=>exact .cons (.int n t) ih
theorem law_run {fa:Addr} {vs:List Value} {sc:List Int} {f d:Nat} {σ':Sto} {Q:Result→Shared→Prop} (hkey:∀ i j,i<100→j<100→key i=key j→i=j) (T:Top p loose mean mg mb s.heap) (X:K.In s.heap) (ok:okK sp r0 rows gls key K=true) (TK:oE sp K s.heap) (hl:s.heap.IsList scr vs.toArray) (hi:IntsAre vs sc)
  (hf:(eC r0 rows f).mth=false) (hfa:mg (eC r0 rows f).nm=some (.ref fa)) (hd:d≤50) (hrun:gi (uV rows) (d+1) false f [.d (.lst (sc.map .int))] []=some (.ok (.d (.bool true)),σ'))
  (hQ:∀ s',Same s s'→(∀ b o,b∉(fy sp K).toList.map (·.P)→s.heap.get? b=some o→s'.heap.get? b=some o)→(∀ l,fy sp K=some l→∃ ps,s'.heap.get? l.P=some (oI ps))→Q (.ok (.ret (.bool true))) s'):codeAny (model prog w) callerA (.call (.ref fa) ⟨[.ref scr],[]⟩) Q s:=by
 refine aK fun G9 k9=> ?_;obtain ⟨⟨cl,dd,da,sl⟩,ho,hc,n,hdat⟩:=id hl;refine k9 ?_;simp only at hc hdat;subst hc;subst hdat;have lw:=Dw (scr:=scr) (K:=K) (sp:=sp) ho rfl rfl TK;obtain ⟨G,F⟩:=Bl (prog:=prog) (w:=w) T X ok hkey lw TK;generalize hC:zV prog w s scr K mg mb sp r0 rows gls key=C at G F;have cH:C.H=b8 s.heap (mY sp scr K):=by rw[←hC];rfl
 have cT:C.T=uV rows:=by rw[←hC];rfl
 have cM:C.M=model prog w:=by rw[←hC];rfl
 have cL:C.lam=fy sp K:=by rw[←hC];rfl
 have hadr:C.fadr f=fa:=by
  have h1:=(G.fn f (by rw[←hC];exact hf)).1;have h2:mg (eC r0 rows f).nm=some (.ref (C.fadr f)):=by rw[←hC] at h1 ⊢;exact h1
  rw[hfa] at h2;exact (Value.ref.inj (K4 h2)).symm
 generalize ht:(fy sp K).toList.map (·.P)=ts at hQ;have aw:mY sp scr K=scr::ts:=by rw[←ht];rfl
 have hts:∀ a∈ts,s.heap.get? a=some (oI #[]):=fun a ha=>by
  rw[←ht] at ha;obtain ⟨l,hl,q⟩:=Kt.mp ha;exact q ▸ TK l (Option.mem_toList.mp hl)
 let P:Pt:=⟨s,[],fun a=>if a=scr then .fz (pv vs ⟨n,dd,sl⟩) else if a∈ts then .gh else .no,[],[]⟩
 have own:∀ a x,P.own a=x→x≠ .no→(a=scr∧x= .fz (pv vs ⟨n,dd,sl⟩))∨(a∈ts∧x= .gh):=fun a x e q=>by
  by_cases z:a=scr
  ·exact .inl ⟨z,e.symm.trans (if_pos z)⟩
  ·have e:(if a∈ts then Own.gh else .no)=x:=(if_neg z).symm.trans e;by_cases y:a∈ts
   ·exact .inr ⟨y,e.symm.trans (if_pos y)⟩
   ·exact absurd (e.symm.trans (if_neg y)) q
 have I:Inv C P:=by
  refine ⟨fun b o e=> ?_,fun a o e=> ?_,fun a e=> ?_,⟨fun f h=>(Ky h).elim,fun f h=>(Ky h).elim,List.Pairwise.nil,(fun a e=>by rcases own a .fr e Own.noConfusion with ⟨_,q⟩|⟨_,q⟩<;>cases q)⟩,⟨fun p h=>(Ky h).elim,K3,fun z e=> ?_⟩,(fun a b n j e=>by rcases own a (.cell n j) e Own.noConfusion with ⟨_,q⟩|⟨_,q⟩<;>cases q),(fun a n j e=>by rcases own a (.cell n j) e Own.noConfusion with ⟨_,q⟩|⟨_,q⟩<;>cases q),fun n o e=>nomatch e⟩
  ·rw[cH] at e;obtain ⟨h1,h2⟩:=EL e;rw[aw] at h2;refine ⟨h1,?_⟩;show (if b=scr then Own.fz (pv vs ⟨n,dd,sl⟩) else if b∈ts then Own.gh else .no)= .no;rw[if_neg fun q=>h2 (by rw[q];exact .head _),if_neg (show¬b∈ts from fun q=>h2 (.tail _ q))]
  ·rcases own a _ e Own.noConfusion with ⟨h1,h2⟩|⟨_,h2⟩
   ·cases h2;rw[h1];exact ho
   ·cases h2
  ·rcases own a _ rfl e with ⟨h1,_⟩|⟨h1,_⟩
   ·exact ⟨_,h1 ▸ ho⟩
   ·exact ⟨_,hts a h1⟩
  ·rw[cL] at e;have tb:=TK z e;have hm:z.P∈ts:=by rw[←ht,e];exact .head _
   refine .inl ⟨tb,(if_neg fun q=> ?_).trans (if_pos hm),fun p h=>(Ky h).elim⟩;rw[q,ho] at tb;cases tb
 have hsz:C.H.objs.size≤P.h.objs.size:=by
  rw[cH];exact K5 (u5 _ _)
 rw[←hadr,←cM];refine codeAny_mono (oC G F (d+1) false callerA P f [.d (.lst (sc.map .int))] [.ref scr] (fun r _=>r= .ok (.d (.bool true))) (fun v s'=>v= .bool true∧Same s s'∧(∀ b o,b∉ts→s.heap.get? b=some o→s'.heap.get? b=some o)∧∀ l,fy sp K=some l→∃ ps,s'.heap.get? l.P=some (oI ps)) (fun _ _=>False) ⟨[],rfl,fun e h=>(Ky h).elim⟩ hsz ?_ ?_ (fun _=>rfl) I (.cons (.lst (n:=⟨n,dd,sl⟩) (if_pos rfl) (Bi hi)) .nil) ?_ ⟨fun q v P' g I' r k=> ?_,fun c e P' _ _ _ k=>by cases k⟩) fun r s' h=> ?_
 ·show 1+claimMargin+8*(d+1)+144<1000;have:claimMargin=300:=rfl;exact HT hd this
 ·show 4+64*(d+1)+945<9900;exact KE (Nat.add_le_add_right (KW (Lh 64 (Lc hd)) 4) 945) (by decide)
 ·show Wp _ (gi C.T (d+1) false f _ []);rw[cT,hrun];rfl
 ·cases k;refine ⟨r.view,g.sm,fun b o hb e=> ?_,fun l e=> ?_⟩
  ·by_cases z:b=scr
   ·rw[z,ho] at e;cases e;rw[z];exact I'.fz _ _ (g.fz _ _ (if_pos rfl))
   ·exact (I'.base b o (by rw[cH,aw];exact us e fun q=>(Kb.mp q).elim z hb)).1
  ·rcases I'.gh.tab l (cL.trans e) with h|⟨_,_,_,_,h,_⟩
   ·exact ⟨_,h.1⟩
   ·exact ⟨_,h.1⟩
 ·cases r with
  |ok fl=>
   cases fl with
   |ret v=>obtain ⟨rfl,sm,k1,k2⟩:=h;exact hQ s' sm k1 k2
   |_=>exact h.elim
  |error e=>exact h.elim
end
end Mine.Internal
namespace Mine.Internal
open PySem PyProof.Rows PySem.W
section
variable {C:Cfg} {A:Around} {P:Pt} {Q E:Value→Shared→Prop}
theorem DA {kvs:List (Str×Value)} (G:Good C) (hk:∀ i p,kvs[i]? =some p→p.1=C.key i) (hl:kvs.length≤100) {k:Nat} {p:Str×Value} (e:kvs[k]? =some p):valueAt kvs (C.key k)=some p.2:=by
 have hlt:=(Kg.mp e).1;have h1:∀ j,j<k→∀ q,kvs[j]? =some q→q.1≠C.key k:=fun j hj q hq z=>by
  have:=hk j q hq;have:=G.keys j k (by exact KF (La hj hlt) hl) (o46 hl hlt) (this.symm.trans z);exact Ff hj this
 show (kvs.find? fun kv=>decide (kv.1=C.key k)).map (·.2)=_;have:kvs.find? (fun kv=>decide (kv.1=C.key k))=some p:=by
  rw[List.find?_eq_some_iff_getElem];refine ⟨Kr (hk k p e),k,hlt,(Kg.mp e).2,fun j hj=> ?_⟩;have:=h1 j hj kvs[j] (Kh (o47 hlt hj));rw[K7 this];rfl
 rw[this];rfl
theorem sO {kvs:List (Str×Value)} {k:Str} {v:Value} (h:∀ p∈kvs,p.1≠k):stored kvs k v=kvs++[(k,v)]:=by
 unfold stored;rw[if_neg];intro q;simp only [List.any_eq_true,decide_eq_true_eq] at q;obtain ⟨p,hp,e⟩:=q;exact h p hp e
theorem c_ {α:Type} {l:List α} {x y:α} {i:Nat} (h:(l++[x])[i]? =some y):(i≠l.length→l[i]? =some y)∧(i=l.length→y=x):=by
 constructor
 ·intro q;have lt:=(Kg.mp h).1;rw[Kd,Kn] at lt
  rwa [K1 (by exact Nat.lt_of_le_of_ne (Li lt) q)] at h
 ·intro q;rw[q,dG] at h;exact (K4 h).symm
structure StK (C:Cfg) (kvs:List (Str×Value)) (k:Nat) (v:Value) (res:List (Str×Value)) (n:Nat):Prop where
 len:res.length=n
 nm:∀ i p,res[i]? =some p→p.1=C.key i
 nw:∀ p,res[k]? =some p→p.2=v
 old:∀ i p,i≠k→res[i]? =some p→kvs[i]? =some p
theorem xF {kvs:List (Str×Value)} {v:Value} (G:Good C) (hk:∀ i p,kvs[i]? =some p→p.1=C.key i) (hl:kvs.length<100):StK C kvs kvs.length v (stored kvs (C.key kvs.length) v) (kvs.length+1):=by
 rw[sO fun p hp q=>by
  obtain ⟨i,hi,e⟩:=List.getElem_of_mem hp;have h1:=hk i p (by rw[Kh hi,e]);have:=G.keys i kvs.length (by exact La hi hl) hl (h1.symm.trans q);exact Ff hi this]
 refine ⟨by rw[Kd];rfl,fun i p h=> ?_,fun p h=> ?_,fun i p q h=>(c_ h).1 q⟩
 ·by_cases q:i=kvs.length
  ·rw[(c_ h).2 q,q]
  ·exact hk i p ((c_ h).1 q)
 ·rw[(c_ h).2 rfl]
theorem CY {kvs:List (Str×Value)} {v:Value} {k:Nat} (G:Good C) (hk:∀ i p,kvs[i]? =some p→p.1=C.key i) (hl:kvs.length≤100) (hk':k<kvs.length):StK C kvs k v (stored kvs (C.key k) v) kvs.length:=by
 have hm:kvs.any (fun kv=>decide (kv.1=C.key k))=true:=List.any_eq_true.mpr ⟨kvs[k],List.getElem_mem hk',Kr (hk k _ (Kh hk'))⟩;have e:stored kvs (C.key k) v=kvs.map (fun kv=>if kv.1=C.key k then (kv.1,v) else kv):=if_pos hm;rw[e];have key:∀ i p,(kvs.map (fun kv=>if kv.1=C.key k then (kv.1,v) else kv))[i]? =some p→∃ q,kvs[i]? =some q∧(if q.1=C.key k then (q.1,v) else q)=p:=fun i p h=>by
  rw[Ku] at h;exact K2.mp h
 refine ⟨J' ..,fun i p h=> ?_,fun p h=> ?_,fun i p q h=> ?_⟩
 ·obtain ⟨z,e1,e2⟩:=key i p h;rw[←e2,←hk i z e1];split<;>rfl
 ·obtain ⟨z,e1,e2⟩:=key k p h;rw[←e2,if_pos (hk k z e1)]
 ·obtain ⟨z,e1,e2⟩:=key i p h;rw[←e2,if_neg,e1];intro c;have hi:=(Kg.mp e1).1;exact q (G.keys i k (o46 hl hi) (o46 hl hk') ((hk i z e1).symm.trans c))
noncomputable def Bh:Fld→Bool
 | .d _=>true
 |_=>false
noncomputable def AE (k:Nat) (x v:PV) (σ:Sto):Option Sto:=match x with
 | .p n 0=>(bJ false σ n).bind fun l=>match v with
  | .d y=>if k=l.length then al (k<100) (σ.set n (.rcd false (l++[.d y]))) else (l[k]?).bind fun f=>al (Bh f=true) (σ.set n (.rcd false (l.set k (.d y))))
  | .p m 0=>(al (k=l.length∧k<100∧m≠n) ()).bind fun _=>(a8 σ m 0).bind fun f=>f.rd.map fun _=>(σ.set m .dead).set n (.rcd false (l++[f]))
  |_=>none
 |_=>none
noncomputable def eI (x:PV) (σ:Sto):Nat:=match x with
 | .p n _=>((bJ false σ n).getD []).length
 | .d _=>0
theorem vf {k:Nat} {x v:PV} {vx vv:Value} {σ':Sto} (G:Good C) (I:Inv C P) (hx:RV C P vx x) (hv:RV C P vv v) (e:AE k x v P.σ=some σ'):
  ∃ d kvs,vx= .ref d∧P.h.DictOf (strKind C.prog C.w) d kvs∧kvs.length≤100∧kvs.length=eI x P.σ∧∀ h' t,h'.DictOf (strKind C.prog C.w) d (stored kvs (C.key k) vv)→Heap.SameBut d P.h h'→∃ P',Grow P P'∧Inv C P'∧P'.σ=σ'∧P'.s={P.s with heap:=h',toks:=t}:=by
 match x,hx,e with
 | .p _ (_+1),_,e=>cases e
 | .d _,_,e=>cases e
 | .p n 0,hx,e=>
 obtain ⟨l,e1,e⟩:=bind_some e;have en:=gD e1;obtain @⟨d,o,kvs,h1,h2,h3,h4,h5,h6,h7⟩:ORcd C P.own P.h n l:=I.obj n _ en;refine ⟨d,kvs,hx.2 d h1,Heap.dictOf_iff.mpr ⟨o,h2,h3⟩,o48 h4 h5,by show kvs.length=((bJ false P.σ n).getD []).length;rw[e1];exact h4,fun h' t hd hs=> ?_⟩;obtain ⟨o',g1,g2⟩:=Heap.dictOf_iff.mp hd;have ro:∀ (w':a') (f:Fld) (l':List Fld) (q:StK C kvs k vv (stored kvs (C.key k) vv) l'.length),l'.length≤100→(∀ i f',i≠k→l'[i]? =some f'→l[i]? =some f')→(∀ f',l'[k]? =some f'→f'=f)→Fz P.own w'→(∀ b j,P.own b= .cell n j→w' b= .cell n j)→FA C w' h' n k vv f→RO C w' h' n (.rcd false l'):=fun w' f l' q hl i1 i2 fz kw fa=>by
  refine ORcd.mk (kw _ _ h1) g1 g2 q.len hl q.nm fun i f' p z1 z2=> ?_;by_cases c:i=k
  ·subst c;rw[i2 f' z1,q.nw p z2];exact fa
  ·refine (h7 i f' p (i1 i f' c z1) (q.old i p c z2)).mono fz fun b o y1 y2=>⟨kw b _ y1,hs.extBut b o (fun z=> ?_) y2⟩;rw[z,h1] at y1;cases y1
 match v,hv,e with
 | .p _ (_+1),_,e=>cases e
 | .d y,hv,e=>
  have e:(if k=l.length then al (k<100) (P.σ.set n (.rcd false (l++[.d y]))) else (l[k]?).bind fun f=>al (Bh f=true) (P.σ.set n (.rcd false (l.set k (.d y)))))=some σ':=e;by_cases c:k=l.length
  ·rw[if_pos c] at e;obtain ⟨hk,e⟩:=grd e;have q:=xF (v:=vv) G h6 (by rw[h4,←c];exact hk);rw[h4,←c] at q;have r:=ro P.own (.d y) (l++[.d y]) (by rw[Kd,←c];exact q) (by rw[Kd,←c];exact hk) (fun i f' hi z=>(c_ z).1 (by rw[←c];exact hi)) (fun f' z=>(c_ z).2 c) (fun _ _ e=>e) (fun _ _ e=>e) hv;have kp:∀ j,(PO.rcd false l).has j→(PO.rcd false (l++[.d y])).has j:=fun j q=>by show j<(l++[Fld.d y]).length+2;rw[Kd];have:j<l.length+2:=q;exact HS this
   exact ⟨_,.turn en kp,I.turn (h':=h') (t:=t) kp en h1 (fun b o hb e=>hs.extBut b o hb e) g1 r,e.symm ▸ rfl,rfl⟩
  ·rw[if_neg c] at e;obtain ⟨f0,e2,e⟩:=bind_some e;obtain ⟨_,e⟩:=grd e;have hk:=(Kg.mp e2).1;have q:=CY (v:=vv) (k:=k) G h6 (o48 h4 h5) (o49 h4 hk);have r:=ro P.own (.d y) (l.set k (.d y)) (by rw[KG,←h4];exact q) (by rw[KG];exact String.Pos.Raw.mk_le_mk.mp h5) (fun i f' hi z=>by rwa [KL (Ne.symm hi)] at z) (fun f' z=>by rw[List.getElem?_set_self hk] at z;exact (K4 z).symm) (fun _ _ e=>e) (fun _ _ e=>e) hv;have kp:∀ j,(PO.rcd false l).has j→(PO.rcd false (l.set k (.d y))).has j:=fun j q=>by show j<(l.set k (.d y)).length+2;rw[KG];exact q
   exact ⟨_,.turn en kp,I.turn (h':=h') (t:=t) kp en h1 (fun b o hb e=>hs.extBut b o hb e) g1 r,e.symm ▸ rfl,rfl⟩
 | .p m' 0,hv,e=>
  obtain ⟨_,z1,e⟩:=bind_some e;obtain ⟨f,z2,e⟩:=bind_some e;obtain ⟨u,z3,e⟩:=map_some e;obtain ⟨c,hk,z1⟩:=(grd z1).1;obtain ⟨o',z4,z5⟩:=bind_some z2;obtain @⟨af,of,y1,y2,y3⟩:=kh I hv z2 (fX z3).2;have fz:Fz P.own (upd P.own af (.cell n (l.length+2))):=fun b o e=>(aW fun c=>by rw[c,y1] at e;cases e).trans e;have ndf:af≠d:=fun q=>by rw[q,h1] at y1;cases y1;exact z1 rfl
  have q:=xF (v:=.ref af) G h6 (by rw[h4,←c];exact hk);rw[h4,←c] at q;obtain ⟨J,g⟩:=sF (t:=t) (l':=l++[f]) I z4 en z1 y1 h1 (fun b o hb e=>hs.extBut b o hb e) y2 g1 (by rw[Kd];rfl)
   (ro _ f (l++[f]) (by rw[Kd,←c];exact q) (by rw[Kd,←c];exact hk) (fun i f' hi z=>(c_ z).1 (by rw[←c];exact hi)) (fun f' z=>(c_ z).2 c) fz (fun b j e=>(aW fun c=>by rw[c,y1] at e;cases e;exact z1 rfl).trans e) (zz (fX z3).2 (by rw[c];exact FOb.mk (bn _ _ _) (hs.extBut _ _ ndf y2) (y3.ext fz))))
  exact ⟨_,g,J,e,rfl⟩
end
noncomputable def dX:PV→Option (List Nat)
 | .d x=>sD x
 | .p _ _=>none
theorem lL {y:PV} {s:List Nat} (h:dX y=some s):y= .d (.str s):=by
 cases y with
 |d v=>cases v<;>first|(cases h;done)|(cases h;rfl)
 |_=>cases h
noncomputable def DE (k:Nat) (s:List Nat) (x y:PV):PM PV:=fun σ=>(al (dX y=some s) ()).bind fun _=>kg false k x σ
theorem Ap {K:R PV→Sto→Prop} {k:Nat} {s:List Nat} {x y:PV} {σ:Sto} (w:Wp K (DE k s x y σ)):y= .d (.str s)∧Wp K (kg false k x σ):=by
 have w:Wp K ((al (dX y=some s) ()).bind fun _=>kg false k x σ):=w;unfold al at w;by_cases q:dX y=some s
 ·rw[if_pos q] at w;exact ⟨lL q,w⟩
 ·rw[if_neg q] at w;exact w.elim
section
variable {X:Cx} {e:Expr} {ρ:Rho} {P:Pt} {K:R PV→Sto→Prop} {Q E:Value→Shared→Prop}
theorem DC (o:CE) (k:Nat) (s:List Nat) (h:aY (fun v j _=>bP j&&ofL s==X.sx.key k&&o.is X.sx v&&(aU s).is X.sx j) e=true) (I:Inv X.C P) (G:EnvOK X P ρ) (w:Wp K (bnd (o.ev X.ker ρ) (fun x=>bnd ((aU s).ev X.ker ρ) fun y=>DE k s x y) P.σ)) (p:aV X (RV X.C) P K Q E):wpAny X.M X.A (eval e X.env) Q E P.s:=
 bv (fun e=>wpAny X.M X.A (eval e X.env) Q E P.s) h fun v j pos h=>Subscript_ (o.ok X v ρ P _ _ E (aj (ag h)) I G (aC w) (p.bind fun x vx P1 g1 I1 r1 w p=>
  (aU s).ok X j ρ P1 _ _ E (aj h) I1 (G.ext g1) (aC w) (p.bind fun y u P2 g2 I2 r2 w p=>by
   obtain ⟨hy,w2⟩:=Ap w;subst hy;obtain ⟨n,l,f,q,e1,e2,kk⟩:=uQ w2;subst q;obtain ⟨_,t,hu⟩:okS s∧∃ t,u= .str (ofL s) t:=RD.view r2;have hk:ofL s=X.C.key k:=bg (aj (ag (ag h)));obtain @⟨d,ob,kvs,h1,h2,h3,h4,h5,h6,h7⟩:ORcd X.C P2.own P2.h n l:=I2.obj n _ e1;have hlt:=(Kg.mp e2).1;have ek:kvs[k]? =some kvs[k]:=Kh (o49 h4 hlt);have hM:=(Heap.dictOf_iff.mpr ⟨ob,h2,h3⟩).mapOf;rw[hu,(r1.ext g2.toExt).2 d h1,hk];exact tail_any hM.typeIs slot_dict_getitem.lookup (wpAny_getItem_of (strKind_is _ _ _ _) hM (DA X.good h6 (o48 h4 h5) ek) (p.ok _ _ (P2.to P2.h _) (.to ..) (I2.to fun _ _ e=>e) (xW I2 e1 e2 (h7 k f _ e2 ek)) kk)) (ca (ag (ag (ag h))) _ _))))
end
noncomputable def key (o:CE) (k:Nat) (s:List Nat):CE:=⟨fun K ρ=>bnd (o.ev K ρ) fun x=>bnd ((aU s).ev K ρ) fun y=>DE k s x y,fun sx=>aY fun v j _=>bP j&&ofL s==sx.key k&&o.is sx v&&(aU s).is sx j,fun _ _ _ _ _ _ _ h I G w p=>DC o k s h I G w p⟩
noncomputable def kW (key:Nat→Str):Nat→List (List Nat)→Bool
 |_,[]=>true
 |i,s::r=>ofL s==key i&&kW key (i+1) r
theorem mr {key:Nat→Str}:∀ {tb:List (List Nat)} {i k:Nat} {s:List Nat},kW key i tb=true→tb[k]? =some s→ofL s=key (i+k)
 |[],_,_,_,_,e=>nomatch e
 |a::tb,i,k,s,h,e=>by
  cases k with
  |zero=>cases e;exact bg (ag h)
  |succ k=>
   have:=mr (k:=k) (aj h) e;rw[this,Nat.add_assoc,Nat.add_comm 1 k]
noncomputable def fZ (tb:List (List Nat)) (k:Nat) (v x y:PV) (σ:Sto):Option Sto:=(tb[k]?).bind fun s=>(al (dX y=some s) ()).bind fun _=>AE k x v σ
theorem nV {tb:List (List Nat)} {k:Nat} {v x y:PV} {σ σ':Sto} (h:fZ tb k v x y σ=some σ'):∃ s,tb[k]? =some s∧y= .d (.str s)∧AE k x v σ=some σ':=by
 obtain ⟨s,e1,h⟩:=bind_some h;obtain ⟨_,e2,h⟩:=bind_some h;exact ⟨s,e1,lL (grd e2).1,h⟩
section
variable {X:SX} {st:Stmt} {ρ:Rho} {P:Pt} {K:Out→Sto→Prop} {Q:Flow→Shared→Prop} {E:Value→Shared→Prop}
theorem xS (tb:List (List Nat)) (kf:PV→Sto→Nat) (o i a:CE) (h:kx (fun t e=>aY (fun oe ke _=> !ed e&&bP ke&&kW X.sx.key 0 tb&&o.is X.sx oe&&i.is X.sx ke&&a.is X.sx e) t) st=true) (I:Inv X.C P) (G:SEnv X P ρ)
  (w:WpS K (br ρ (a.ev X.ker ρ) (fun v=>br ρ (o.ev X.ker ρ) fun x=>br ρ (i.ev X.ker ρ) fun y σ=>dZ (fZ tb (kf x σ) v x y σ) fun σ'=>some (.next ρ,σ')) P.σ)) (p:PostS X P K Q E):wpAny X.M X.A (PySem.exec st X.env) Q E P.s:=
 dT (fun st=>wpAny X.M X.A (PySem.exec st X.env) Q E P.s) h fun t e pos h=>bv (fun t=>wpAny X.M X.A (PySem.exec (.Assign [t] e pos) X.env) Q E P.s) h fun oe ke px h=>
  wpAny_Assign_Subscript (a.ok X.toCx e ρ P _ _ E (aj h) I G.toEnvOK (b9 w) (p.bind G fun v vv P1 g1 I1 r1 w G1 p=>
   o.ok X.toCx oe ρ P1 _ _ E (aj (ag (ag h))) I1 G1.toEnvOK (b9 w) (p.bind G1 fun x vx P2 g2 I2 r2 w G2 p=>
    i.ok X.toCx ke ρ P2 _ _ E (aj (ag h)) I2 G2.toEnvOK (b9 w) (p.bind G2 fun y vy P3 g3 I3 r3 w G3 p=>by
     obtain ⟨σ',e3,w2⟩:=df w;obtain ⟨s,e4,q,e5⟩:=nV e3;subst q;obtain ⟨_,t,hu⟩:okS s∧∃ t,vy= .str (ofL s) t:=RD.view r3;have hk:=mr (aj (ag (ag (ag h)))) e4;rw[K8] at hk;obtain ⟨d,kvs,q1,q2,q3,_,q4⟩:=vf X.good I3 (r2.ext g3.toExt) (r1.ext (g2.trans g3).toExt) e5;rw[q1,hu,hk];refine wpAny_setItem_pairs (strKind_is _ _ _ _) q2 (fun h' z1 z2=> ?_) (Km q3 (by decide));obtain ⟨P4,g4,I4,y1,y2⟩:=q4 h' (P3.s.toks+1) z1 z2;have:=p.next ρ P4 (G3.gs g4) I4 (G3.ext g4) (y1 ▸ w2);rw[y2] at this;exact this)))) (eV ((Bool.not_eq_true' _).mp (ag (ag (ag (ag (ag h)))))))
end
noncomputable def Cb (tb:List (List Nat)) (kf:PV→Sto→Nat) (o i a:CE):C1:=⟨fun K ρ=>br ρ (a.ev K ρ) fun v=>br ρ (o.ev K ρ) fun x=>br ρ (i.ev K ρ) fun y σ=>dZ (fZ tb (kf x σ) v x y σ) fun σ'=>some (.next ρ,σ'),fun s=>kx fun t e=>aY (fun oe ke _=> !ed e&&bP ke&&kW s.key 0 tb&&o.is s oe&&i.is s ke&&a.is s e) t,fun X st ρ P K Q E h I G w p=>xS tb kf o i a h I G w p⟩
noncomputable def jn (tb:List (List Nat)) (k:Nat) (o i a:CE):C1:=Cb tb (fun _ _=>k) o i a
noncomputable def Ca (tb:List (List Nat)) (o i a:CE):C1:=Cb tb eI o i a
noncomputable def xL (s:List Nat) (x y v:PV):PM PV:=fun σ=>(al (eI x σ=0) ()).bind fun _=>(fZ [s] 0 v x y σ).map fun σ'=>(.ok x,σ')
theorem An {K:R PV→Sto→Prop} {s:List Nat} {x y v:PV} {σ:Sto} (w:Wp K (xL s x y v σ)):∃ σ',eI x σ=0∧fZ [s] 0 v x y σ=some σ'∧K (.ok x) σ':=by
 have w:Wp K ((al (eI x σ=0) ()).bind fun _=>(fZ [s] 0 v x y σ).map fun σ'=>(.ok x,σ')):=w;unfold al at w;by_cases q:eI x σ=0
 ·rw[if_pos q,Ka] at w;cases e:fZ [s] 0 v x y σ with
  |none=>rw[e] at w;exact w.elim
  |some σ'=>rw[e] at w;exact ⟨σ',q,rfl,w⟩
 ·rw[if_neg q] at w;exact w.elim
section
variable {X:Cx} {e:Expr} {ρ:Rho} {P:Pt} {K:R PV→Sto→Prop} {Q E:Value→Shared→Prop}
theorem wK (s:List Nat) (a:CE) (h:gq (fun ks vs _=>ia (jst fun ke=>(aU s).is X.sx ke) List.isEmpty ks&&ia (fun ve=>ofL s==X.sx.key 0&&a.is X.sx ve) List.isEmpty vs) e=true) (I:Inv X.C P) (G:EnvOK X P ρ)
  (w:Wp K (bnd (fN (.rcd false [])) (fun x=>bnd ((aU s).ev X.ker ρ) fun y=>bnd (a.ev X.ker ρ) fun v=>xL s x y v) P.σ)) (p:aV X (RV X.C) P K Q E):wpAny X.M X.A (eval e X.env) Q E P.s:=
 gp (fun e=>wpAny X.M X.A (eval e X.env) Q E P.s) h fun ks vs pos h=>c9 (fun ks=>wpAny X.M X.A (eval (.Dict ks vs pos) X.env) Q E P.s) (ag h) fun ke kr h1 h2=>bu (fun kr=>wpAny X.M X.A (eval (.Dict (ke::kr) vs pos) X.env) Q E P.s) h2
  (c9 (fun vs=>wpAny X.M X.A (eval (.Dict [ke] vs pos) X.env) Q E P.s) (aj h) fun ve vr h3 h4=>bu (fun vr=>wpAny X.M X.A (eval (.Dict [ke] (ve::vr) pos) X.env) Q E P.s) h4
   (fc (fun ke=>wpAny X.M X.A (eval (.Dict [ke] [ve] pos) X.env) Q E P.s) h1 fun ke h5=>by
    refine wpAny_Dict_walk (knd:=strKind X.C.prog X.C.w) rfl rfl (fun q=>nomatch q) (Kj rfl) (pairTrees_cons_walk ?_);have hn:=I.push (o:=dct0) rfl;have d0:dct0.IsDictOf (strKind X.C.prog X.C.w) []:=⟨#[],0,⟨rfl,rfl,rfl⟩,rfl,fun _ he=>by simp at he,Pairs.nil,K3⟩;have J:Inv X.C (P.make (P.h.push dct0) P.s.toks P.h.objs.size (.rcd false [])):=I.make Nat.two_pos hn (ORcd.mk (bn _ _ _) hn.at_ d0 rfl (KI _) (fun i p e=>nomatch e) fun i f p e=>nomatch e);have g0:Grow P (P.make (P.h.push dct0) P.s.toks P.h.objs.size (.rcd false [])):=.make hn.own;have rx:RV X.C (P.make (P.h.push dct0) P.s.toks P.h.objs.size (.rcd false [])) (.ref P.h.objs.size) (.p P.σ.length 0):=I.rvMake Nat.two_pos;have w:Wp K (bnd ((aU s).ev X.ker ρ) (fun y=>bnd (a.ev X.ker ρ) fun v=>xL s (.p P.σ.length 0) y v) (P.σ++[.rcd false []])):=w;refine (aU s).ok X ke ρ (P.make (P.h.push dct0) P.s.toks P.h.objs.size (.rcd false [])) _ _ E h5 J (G.ext g0) (aC w) ((p.mono g0).bind fun y vy P1 g1 I1 r1 w p=> ?_);refine a.ok X ve ρ P1 _ _ E (aj h3) I1 ((G.ext g0).ext g1) (aC w) (p.bind fun v vv P2 g2 I2 r2 w p=> ?_);refine pairTrees_nil_walk ?_;refine aK fun G9 k9=> ?_;obtain ⟨σ',e0,e1,k⟩:=An w;obtain ⟨s',e2,q,e3⟩:=nV e1;refine k9 ?_;cases e2;subst q;refine aK fun G9 k9=> ?_;obtain ⟨_,t,hu⟩:okS s∧∃ t,vy= .str (ofL s) t:=RD.view r1;have hk:ofL s=X.C.key 0:=bg (ag h3);have rx2:=(rx.ext g1.toExt).ext g2.toExt;obtain ⟨d,kvs,q1,q2,q3,q5,q4⟩:=vf X.good I2 rx2 r2 e3;refine k9 ?_;cases q1;rw[e0] at q5;have q6:=List.eq_nil_of_length_eq_zero q5;subst q6;refine ⟨[(X.C.key 0,vv)],⟨by rw[hu,hk];exact strKind_is _ _ _ _,rfl,trivial⟩,q2,fun h' z1 z2=> ?_⟩;refine aK fun G9 k9=> ?_;obtain ⟨P4,g4,I4,y1,y2⟩:=q4 h' (P2.s.toks+1) z1 z2;refine k9 ?_;have:=p.ok (.p P.σ.length 0) _ P4 g4 I4 (rx2.ext g4.toExt) (y1 ▸ k);rw[y2] at this;exact this))
end
noncomputable def yF (s:List Nat) (a:CE):CE:=⟨fun K ρ=>bnd (fN (.rcd false [])) fun x=>bnd ((aU s).ev K ρ) fun y=>bnd (a.ev K ρ) fun v=>xL s x y v,fun sx=>gq fun ks vs _=>ia (jst fun ke=>(aU s).is sx ke) List.isEmpty ks&&ia (fun ve=>ofL s==sx.key 0&&a.is sx ve) List.isEmpty vs,fun _ _ _ _ _ _ _ h I G w p=>wK s a h I G w p⟩
noncomputable def FF:List D→Bool
 |[a,b]=>(sD a).isSome&&(sD b).isSome
 |_=>false
noncomputable def iQ:D→Bool
 | .tup l=>FF l
 |_=>false
noncomputable def mG (k:D) (ks:List D):Bool:=iQ k&&ks.all iQ
open Classical in
noncomputable def fM (k:D):List D→List D→Option D
 |x::ks,v::vs=>if x=k then some v else fM k ks vs
 |_,_=>none
open Classical in
noncomputable def iB (k:D):List D→List D
 |[]=>[k]
 |x::ks=>if x=k then x::ks else x::iB k ks
open Classical in
noncomputable def iA (k v:D):List D→List D→List D
 |x::ks,u::vs=>if x=k then v::vs else u::iA k v ks vs
 |_,_=>[v]
section
variable {C:Cfg} {w:a'}
theorem xT {a:D} (h:(sD a).isSome=true):∃ x,a= .str x:=by
 cases a<;>first|(cases h;done)|exact ⟨_,rfl⟩
theorem rF {k:D} (h:iQ k=true):∃ a b,k= .tup [.str a,.str b]:=by
 cases k with
 |tup l=>
  cases l with
  |nil=>cases h
  |cons x l=>
   cases l with
   |nil=>cases h
   |cons y l=>
    cases l with
    |nil=>
     have h:((sD x).isSome&&(sD y).isSome)=true:=h;obtain ⟨a,e1⟩:=xT (ag h);obtain ⟨b,e2⟩:=xT (aj h);rw[e1,e2];exact ⟨a,b,rfl⟩
    |cons=>cases h
 |_=>cases h
theorem prD_inj:∀ {x y:List Str},prD x=prD y↔x=y:=by
 have key:∀ x y:List Str,(x.map fun s=>D.str s.cps.toList)=(y.map fun s=>D.str s.cps.toList)→x=y:=by
  intro x
  induction x with
  |nil=>intro y h;cases y with
   |nil=>rfl
   |cons=>cases h
  |cons a x ih=>intro y h;cases y with
   |nil=>cases h
   |cons b y=>
    rw[List.map_cons,List.map_cons] at h;injection h with h1 h2;injection h1 with h1;rw[ih y h2,PySem.Str.ext' (Array.toList_inj.mp h1)]
 intro x y;constructor
 ·intro h;injection h with h;exact key x y h
 ·intro h;rw[h]
theorem td {k:D} {vk:Value} (h:iQ k=true) (hk:RD C w k vk):∃ ks a,k=prD ks∧vk= .ref a∧PrKey C w ks a:=by
 refine aK fun G9 k9=> ?_;obtain ⟨a,b,rfl⟩:=rF h;obtain @⟨ad,vs,n,h1,h2⟩:SeqV C w bN [.str a,.str b] vk:=hk.view;obtain ⟨r1,h3⟩:ConsV C w (.str a) [.str b] vs:=h2.view;obtain ⟨r2,h4⟩:ConsV C w (.str b) [] _:=h3.view;obtain ⟨o1,t1,e1⟩:okS a∧∃ t,_=Value.str (ofL a) t:=r1.view;obtain ⟨o2,t2,e2⟩:okS b∧∃ t,_=Value.str (ofL b) t:=r2.view;refine k9 ?_;have e3:_=[]:=h4.view;subst e1 e2 e3;refine ⟨[ofL a,ofL b],ad,rfl,rfl,_,n,h1,?_,rfl,fun s hs=> ?_⟩
 ·exact .cons (strKind_is _ _ _ _) (.cons (strKind_is _ _ _ _) .nil)
 ·rcases Kb.mp hs with z|hs
  ·rw[z];exact o1
  ·rw[Ki.mp hs];exact o2
theorem PrKey.is {C:Cfg} {P:Pt} (I:Inv C P) {ks:List Str} {a:Addr} (h:PrKey C P.own ks a):(tupleKind (strKind C.prog C.w)).is P.h ks a:=by
 refine aK fun G9 k9=> ?_;obtain ⟨vs,n,h1,h2,_⟩:=h;refine k9 ?_;exact ⟨_,vs.toArray,n,I.fz _ _ h1,rfl,rfl,h2⟩
inductive PairAt (C:Cfg) (P:Pt) (a:Addr) (o:Obj) (ks:List D) (vs:List Value):Prop
 |mk (xs:List (List Str×Addr×Value)):P.h.DictOfH (tupleKind (strKind C.prog C.w)) a xs→(∀ x∈xs,PrKey C P.own x.1 x.2.1)→ks=xs.map (fun x=>prD x.1)→vs=xs.map (·.2.2)→(xs.map (·.1)).Nodup→PairAt C P a o ks vs
theorem pb {C:Cfg} {P:Pt} (I:Inv C P) {a:Addr} {o:Obj} {ks:List D} {vs:List Value} (ho:P.h.get? a=some o) (h:DictAs C P.own o ks vs) (hf:ks.all iQ=true):PairAt C P a o ks vs:=by
 cases h with
 |pr xs es ep h1 h2 h3 h4 h5 h6 h7 h8=>exact .mk xs ⟨o,es,ep,ho,h1,h2,h3,fun x hx=>(h4 x hx).is I,h5⟩ h4 h6 h7 h5
 |mk d l hd h1 h2 h3 h4=>
  cases l with
  |cons p l=>
   rw[h2] at hf;have hf:=ag hf;cases hd with
   |str=>cases hf
   |int=>cases hf
  |nil=>
   letI:=d.dec
   refine aK fun G9 k9=> ?_;obtain ⟨es,ep,z1,z2,_,z4,_⟩:=h1;refine k9 ?_;have he:es=#[]:=by
    cases q:es.toList with
    |nil=>exact Array.toList_eq_nil_iff.mp q
    |cons e r=>rw[q] at z4;cases z4
   subst he;exact .mk [] ⟨o,#[],ep,ho,z1,z2,rfl,fun x hx=>absurd hx Ky,K3⟩ cY h2 h3 K3
theorem tU (c:List Str):∀ {xs:List (List Str×Addr×Value)} {ps:List D},RDs C w ps (xs.map (·.2.2))→match fM (prD c) (xs.map fun x=>prD x.1) ps,(atKey xs c).map (·.2) with
  |some p,some v=>RD C w p v
  |none,none=>True
  |_,_=>False
 |[],ps,r=>by
  cases ps with
  |nil=>trivial
  |cons=>cases r.length
 |x::xs,[],r=>by cases r.length
 |x::xs,p::ps,r=>by
  obtain ⟨r1,r2⟩:ConsV C w p ps (x.2.2::List.map (fun y:List Str×Addr×Value=>y.2.2) xs):=r.view;show match fM (prD c) (prD x.1::xs.map fun x=>prD x.1) (p::ps),((List.find? (fun y=>decide (y.1=c)) (x::xs)).map (·.2)).map (·.2) with
   |some p,some v=>RD C w p v
   |none,none=>True
   |_,_=>False
  by_cases h:x.1=c
  ·rw[fM,if_pos (prD_inj.mpr h),List.find?_cons_of_pos (by simpa using h)];exact r1
  ·rw[fM,if_neg (fun q=>h (prD_inj.mp q)),List.find?_cons_of_neg (by simpa using h)];exact tU c r2
theorem Cf (c:List Str) {a:Addr} {q:D} {u:Value} (hq:RD C w q u):∀ {xs:List (List Str×Addr×Value)} {ps:List D},RDs C w ps (xs.map (·.2.2))→(xs.map (·.1)).Nodup→
  iB (prD c) (xs.map fun x=>prD x.1)=(storedH xs c a u).map (fun x=>prD x.1)∧RDs C w (iA (prD c) q (xs.map fun x=>prD x.1) ps) ((storedH xs c a u).map (·.2.2))
 |[],ps,r,_=>by
  cases ps with
  |nil=>exact ⟨rfl,.cons hq .nil⟩
  |cons=>cases r.length
 |x::xs,[],r,_=>by cases r.length
 |x::xs,p::ps,r,hn=>by
  obtain ⟨r1,r2⟩:ConsV C w p ps (x.2.2::List.map (fun y:List Str×Addr×Value=>y.2.2) xs):=r.view;rw[List.map_cons,K0] at hn;show iB (prD c) (prD x.1::xs.map fun x=>prD x.1)=_∧RDs C w (iA (prD c) q (prD x.1::xs.map fun x=>prD x.1) (p::ps)) _;by_cases h:x.1=c
  ·have e1:atKey (x::xs) c=some x.2:=by unfold atKey;rw[List.find?_cons_of_pos (by simpa using h)];rfl
   have e2:storedH (x::xs) c a u=(x.1,x.2.1,u)::xs:=by
    rw[storedH_old e1,List.map_cons,map_putAt_of_not_mem xs c u (fun z=>hn.1 (h ▸ z)),PySem.putAt,if_pos h]
   rw[e2,iB,iA,if_pos (prD_inj.mpr h),if_pos (prD_inj.mpr h)];exact ⟨rfl,.cons hq r2⟩
  ·have ih:=Cf c (a:=a) hq r2 hn.2;have e2:storedH (x::xs) c a u=x::storedH xs c a u:=by
    have e1:atKey (x::xs) c=atKey xs c:=by unfold atKey;rw[List.find?_cons_of_neg (by simpa using h)]
    unfold storedH;rw[e1];split
    ·rw[List.map_cons,PySem.putAt,if_neg h]
    ·rfl
   rw[e2,iB,iA,if_neg (fun q=>h (prD_inj.mp q)),if_neg (fun q=>h (prD_inj.mp q))];exact ⟨congrArg (prD x.1::·) ih.1,.cons r1 ih.2⟩
theorem qP {xs:List (List Str×Addr×Value)} {c:List Str} {a:Addr} {u:Value} {p:List Str→Addr→Prop} (h:∀ x∈xs,p x.1 x.2.1) (hc:p c a):∀ x∈storedH xs c a u,p x.1 x.2.1:=by
 intro x hx;unfold storedH at hx;split at hx
 ·obtain ⟨y,hy,rfl⟩:=Kt.mp hx;unfold PySem.putAt;split
  ·exact h y hy
  ·exact h y hy
 ·rcases Kv.mp hx with hx|hx
  ·exact h x hx
  ·rw[Ki.mp hx];exact hc
theorem sP {xs:List (List Str×Addr×Value)} {c:List Str} {a:Addr} {u:Value}:storedH xs c a u≠[]:=by
 intro h;unfold storedH at h;split at h
 ·rename_i q
  cases xs with
  |nil=>cases q
  |cons=>cases h
 ·exact List.append_ne_nil_of_right_ne_nil xs (by nofun) h
end
noncomputable def mC (u k z:D):Option D:=match u with
 | .dct ks vs=>al (mG k ks=true) ((fM k ks vs).getD z)
 |_=>none
noncomputable def gGP (x:PV):List PV→PM PV
 |[.d k,.d z]=>fun σ=>(rd σ x).bind fun u=>(mC u k z).map fun r=>(.ok (.d r),σ)
 |[.d k]=>fun σ=>(rd σ x).bind fun u=>(mC u k .none).map fun r=>(.ok (.d r),σ)
 |_=>fun _=>none
theorem xq {K:R PV→Sto→Prop} {k z:D} {x:PV} {σ:Sto} (w:Wp K ((rd σ x).bind fun u=>(mC u k z).map fun r=>(.ok (.d r),σ))):∃ u y,rd σ x=some u∧mC u k z=some y∧K (.ok (.d y)) σ:=by
 cases e1:rd σ x with
 |none=>rw[e1] at w;exact w.elim
 |some u=>
  rw[e1,Ka] at w;cases e2:mC u k z with
  |none=>rw[e2] at w;exact w.elim
  |some y=>rw[e2] at w;exact ⟨u,y,rfl,e2,w⟩
section
variable {C:Cfg} {A:Around} {P:Pt} {K:R PV→Sto→Prop} {Q E:Value→Shared→Prop}
theorem rM {u k z y:D} {x vk vz:Value} (G:Good C) (hu:A.units+100<cLine) (I:Inv C P) (hx:Now C P x u) (hk:RD C P.own k vk) (hz:RD C P.own z vz) (e:mC u k z=some y) (f:Fin C P y Q):wpAny C.M A (call (.builtin "dict.get") [x,vk,vz]) Q E P.s∧(vz= .none→wpAny C.M A (call (.builtin "dict.get") [x,vk]) Q E P.s):=by
 cases u with
 |dct ks ps=>
  obtain ⟨hf,q⟩:=grd e;subst q;refine aK fun G9 k9=> ?_;obtain @⟨a,o,vs,h1,h2,h3,h4⟩:DicV C P ks ps x:=hx;obtain ⟨c,ad,e1,e2,h5⟩:=td (ag hf) hk;obtain ⟨xs,h6,h7,e3,e4,h8⟩:=pb I h1 h3 (aj hf);refine k9 ?_;subst e1 e2 e3 e4;have hl:=tU c h4;have rr:RD C P.own ((fM (prD c) (xs.map fun x=>prD x.1) ps).getD z) (((atKey xs c).map (·.2)).getD vz):=by
   revert hl
   cases fM (prD c) (xs.map fun x=>prD x.1) ps<;>cases (atKey xs c).map (·.2)<;>intro hl<;>first|exact hz|exact hl.elim|exact hl
  have hr:(tupleKind (strKind C.prog C.w)).room A.in1:=by
   show A.in1.units<cLine;show A.units+_<cLine;exact o50 hu
  refine ⟨call_meetsIn PySem.F.slot_dict_get h6.typeIs PySem.F.entry_dict_get (PySem.F.args_dict_get_3 _ _ _) (meetsH_dict_get_default _ a ad (ce G I h2) vz) ⟨hr,c,xs,h5.is I,h6,f.tok I rr _⟩,fun hn=> ?_⟩;subst hn;exact call_meetsIn PySem.F.slot_dict_get h6.typeIs PySem.F.entry_dict_get (PySem.F.args_dict_get_2 _ _) (meetsH_dict_get _ a ad (ce G I h2)) ⟨hr,c,xs,h5.is I,h6,f.tok I rr _⟩
 |_=>cases e
theorem Bn {x:PV} {ps:List PV} {v:Value} {vs:List Value} (G:Good C) (hu:A.units+100<cLine) (I:Inv C P) (r:RV C P v x) (rs:RVs C P ps vs) (w:Wp K (gGP x ps P.σ)) (p:Post C A (RV C) P K Q E):wpAny C.M A (call (.builtin "dict.get") (v::vs)) Q E P.s:=by
 match ps,rs,w with
 |[.d k,.d z],rs,w=>
  refine aK fun G9 k9=> ?_;obtain @⟨vk,_,r1,r2⟩:RVC C P (.d k) [.d z] vs:=rs.view;obtain @⟨vz,_,r3,r4⟩:RVC C P (.d z) [] _:=r2.view;refine k9 ?_;rw[show _=[] from r4.view];refine aK fun G9 k9=> ?_;obtain ⟨u,y,e1,e2,k⟩:=xq w;refine k9 ?_;exact (rM G hu I (bh I r e1) r1 r3 e2 (p.fin k)).1
 |[.d k],rs,w=>
  obtain @⟨vk,_,r1,r2⟩:RVC C P (.d k) [] vs:=rs.view;rw[show _=[] from r2.view];refine aK fun G9 k9=> ?_;obtain ⟨u,y,e1,e2,k⟩:=xq w;refine k9 ?_;exact (rM G hu I (bh I r e1) r1 .none e2 (p.fin k)).2 rfl
 |[],_,w=>exact w.elim
 | .p _ _::_,_,w=>exact w.elim
 |[.d _,.p _ _],_,w=>exact w.elim
 | .d _:: .d _::_::_,_,w=>exact w.elim
 | .d _:: .p _ _::_::_,_,w=>exact w.elim
end
section
variable {X:Cx} {e:Expr} {ρ:Rho} {P:Pt} {K:R PV→Sto→Prop} {Q E:Value→Shared→Prop}
theorem Ac (o:CE) (l:CL) (h:fH (fun v x ap es pos=>x==("get":Str)&&dl v&&ap.endLine==pos.line&&o.is X.sx v&&l.is X.sx es&&decide (es.length<29)) e=true) (I:Inv X.C P) (G:EnvOK X P ρ) (w:Wp K (bnd (o.ev X.ker ρ) (fun x=>xc (fun _=>w9) x (bnd (l.ev X.ker ρ) fun ps=>gGP x ps)) P.σ)) (p:aV X (RV X.C) P K Q E):wpAny X.M X.A (eval e X.env) Q E P.s:=
 fG (fun e=>wpAny X.M X.A (eval e X.env) Q E P.s) h fun v x ap es pos h=>by
  rw[bg (ag (ag (ag (ag (ag h)))))];have hl:=aj (ag h);have hp:=l.star X.sx es X.env pos hl;refine wpAny_Call_method_late (lx (aj (ag (ag (ag (ag h)))))) (uy hl (KX (aj h))) (aj (ag (ag (ag h)))) rfl ?_;refine o.ok X v ρ P _ _ E (aj (ag (ag h))) I G (aC w) (p.bind fun x v P1 g1 I1 r1 w p=> ?_);refine aK fun G9 k9=> ?_;obtain ⟨⟨u,e1,e2⟩,w⟩:=xr w;obtain ⟨k4,k5⟩:=vM I1 r1 e1 e2;refine k9 ?_;refine ⟨"dict","dict.get",F.plainAttrs_dict,F.slot_dict_get,F.type_dict_get,k4,k5, ?_⟩;refine Calls.callWith_builtin (cK hp) (cj hp ?_);exact l.ok X es pos ρ P1 _ _ E hl I1 (G.ext g1) (aC w) (p.bind fun ps vs P2 g2 I2 r2 w p=>Bn X.good (o51 X.uni) I2 (r1.ext g2.toExt) r2 w p)
end
noncomputable def Ad (o:CE) (l:CL):CE:=⟨fun K ρ=>bnd (o.ev K ρ) fun x=>xc (fun _=>w9) x (bnd (l.ev K ρ) fun ps=>gGP x ps),fun s=>fH fun v x ap es pos=>x==("get":Str)&&dl v&&ap.endLine==pos.line&&o.is s v&&l.is s es&&decide (es.length<29),fun _ _ _ _ _ _ _ h I G w p=>Ac o l h I G w p⟩
noncomputable def u7 (k v:D):Fld→Option Fld
 | .dict ks vs=>al (mG k ks=true∧ks.length<100000) (.dict (iB k ks) (iA k v ks vs))
 |_=>none
noncomputable def u6 (x:PV) (k v:D) (σ:Sto):Option Sto:=match x with
 | .p n j=>(a8 σ n j).bind fun f=>(u7 k v f).map fun f'=>putAt σ n j f'
 | .d _=>none
theorem sT {x:PV} {k v:D} {σ σ':Sto} (h:u6 x k v σ=some σ'):∃ n j f f',x= .p n j∧a8 σ n j=some f∧u7 k v f=some f'∧σ'=putAt σ n j f':=by
 cases x with
 |d=>cases h
 |p n j=>
  refine aK fun G9 k9=> ?_;obtain ⟨f,e1,h⟩:=bind_some h;obtain ⟨f',e2,h⟩:=map_some h;refine k9 ?_;exact ⟨n,j,f,f',rfl,e1,e2,h.symm⟩
section
variable {C:Cfg} {A:Around} {P:Pt} {E:Value→Shared→Prop} {Q:Unit→Shared→Prop}
theorem qw {n j:Nat} {f f':Fld} {k v:D} {vx vk vv:Value} (hu:A.units+100<cLine) (I:Inv C P) (hx:RV C P vx (.p n j)) (hk:RD C P.own k vk) (hv:RD C P.own v vv) (e:a8 P.σ n j=some f) (e':u7 k v f=some f')
  (kk:∀ P',Grow P P'→Inv C P'→P'.σ=putAt P.σ n j f'→Q () P'.s):wpAny C.M A (PySem.setItem vx vk vv) Q E P.s:=by
 cases f with
 |d x=>cases e'
 |list l=>cases e'
 |dict ks ps=>
  obtain ⟨⟨h1,h4⟩,q⟩:=grd e';subst q;refine aK fun G9 k9=> ?_;obtain @⟨a,o,h2,h3,vs,hd,rr⟩:=kh I hx e (fun _ h=>by cases h);obtain ⟨c,ad,e1,e2,h5⟩:=td (ag h1) hk;obtain ⟨xs,h6,h7,e3,e4,h8⟩:=pb I h3 hd (aj h1);refine k9 ?_;subst e1 e2 e3 e4;have hlen:xs.length<100000:=by rw[J'] at h4;exact h4
  refine wpAny_setItem_heap (by show A.units+_<cLine;exact o50 hu) (h5.is I) h6 (fun h' z1 z2=> ?_) (Km (KU hlen) (by decide));refine aK fun G9 k9=> ?_;obtain ⟨o',es,ep,y1,y2,y3,y4,y5,y6⟩:=z1;have pa:=Cf c (a:=ad) hv rr h8;obtain ⟨P',q1,q2,q3,q4,q5⟩:=kJ (t:=P.s.toks+(tupleKind (strKind C.prog C.w)).draws c) (f':=.dict (iB (prD c) (xs.map fun x=>prD x.1)) (iA (prD c) v (xs.map fun x=>prD x.1) ps)) I (fun _ h=>by cases h) (fun _ h=>by cases h) e h2 (fun b o hb e=>z2.extBut b o hb e) y1 ⟨_,.pr (storedH xs c ad vv) es ep y2 y3 y4 (qP h7 h5) y6 pa.1 rfl sP,pa.2⟩;refine k9 ?_;have:=kk P' q1 q2 q3;rw[q5] at this;exact this
end
section
variable {X:SX} {st:Stmt} {ρ:Rho} {P:Pt} {K:Out→Sto→Prop} {Q:Flow→Shared→Prop} {E:Value→Shared→Prop}
theorem xP (o i a:CE) (h:kx (fun t e=>aY (fun oe ke _=> !ed e&&bP ke&&o.is X.sx oe&&i.is X.sx ke&&a.is X.sx e) t) st=true) (I:Inv X.C P) (G:SEnv X P ρ)
  (w:WpS K (br ρ (a.ev X.ker ρ) (fun v=>br ρ (o.ev X.ker ρ) fun x=>br ρ (i.ev X.ker ρ) fun k σ=>dZ (dOf k) fun k=>dZ (dOf v) fun v=>dZ (u6 x k v σ) fun σ'=>some (.next ρ,σ')) P.σ)) (p:PostS X P K Q E):wpAny X.M X.A (PySem.exec st X.env) Q E P.s:=
 dT (fun st=>wpAny X.M X.A (PySem.exec st X.env) Q E P.s) h fun t e pos h=>bv (fun t=>wpAny X.M X.A (PySem.exec (.Assign [t] e pos) X.env) Q E P.s) h fun oe ke px h=>
  wpAny_Assign_Subscript (a.ok X.toCx e ρ P _ _ E (aj h) I G.toEnvOK (b9 w) (p.bind G fun v vv P1 g1 I1 r1 w G1 p=>
   o.ok X.toCx oe ρ P1 _ _ E (aj (ag (ag h))) I1 G1.toEnvOK (b9 w) (p.bind G1 fun x vx P2 g2 I2 r2 w G2 p=>
    i.ok X.toCx ke ρ P2 _ _ E (aj (ag h)) I2 G2.toEnvOK (b9 w) (p.bind G2 fun k vk P3 g3 I3 r3 w G3 p=>by
     refine aK fun G9 k9=> ?_;obtain ⟨dk,e1,w⟩:=df w;obtain ⟨dv,e2,w⟩:=df w;obtain ⟨σ',e3,w⟩:=df w;obtain ⟨n,j,f,f',q,e4,e5,e6⟩:=sT e3;refine k9 ?_;subst q;subst e6;exact qw (o51 X.uni) I3 (r2.ext g3.toExt) (kF e1 r3) (kF e2 (r1.ext (g2.trans g3).toExt)) e4 e5 fun P4 g4 I4 e=>p.next ρ P4 (G3.gs g4) I4 (G3.ext g4) (e ▸ w))))) (eV ((Bool.not_eq_true' _).mp (ag (ag (ag (ag h))))))
end
noncomputable def xQ (o i a:CE):C1:=⟨fun K ρ=>br ρ (a.ev K ρ) fun v=>br ρ (o.ev K ρ) fun x=>br ρ (i.ev K ρ) fun k σ=>dZ (dOf k) fun k=>dZ (dOf v) fun v=>dZ (u6 x k v σ) fun σ'=>some (.next ρ,σ'),fun s=>kx fun t e=>aY (fun oe ke _=> !ed e&&bP ke&&o.is s oe&&i.is s ke&&a.is s e) t,fun X st ρ P K Q E h I G w p=>xP o i a h I G w p⟩
theorem Dn {C:Cfg} {P:Pt} (I:Inv C P) {h':Heap} {o:Obj} (kp:∀ b o',P.h.get? b=some o'→h'.get? b=some o') (ho:h'.get? P.h.objs.size=some o):New C P h' P.h.objs.size o:=⟨kp,I.off (Ko _),I.out (Ko _),ho⟩
theorem A4 {C:Cfg} {A:Around} {P:Pt} {Q E:Value→Shared→Prop} {l:List D} {v:Value} (I:Inv C P) (h:LstV C P l v) (hl:l.length≤lim) (k:∀ h' vs n,New C P h' P.h.objs.size (aE vs n)→RDs C P.own l vs→Q (.ref P.h.objs.size) {P.s with heap:=h'}):wpAny C.M A (call (.type "list") [v]) Q E P.s:=by
 obtain @⟨a,vs,n,g,_,r⟩:=h;exact call_list_seq a (T:="list") (items:=vs.toArray) (.inl rfl) g rfl rfl (fun h' c' kp ho=>k h' vs c' (Dn I kp ho) r) (by rw[Kz,r.length];exact Km hl (by decide))
noncomputable def mH:BF:=⟨"list",.type "list",by decide+kernel,fun _=>g1 fun u=>(lD u).bind fun l=>al (l.length≤lim) (.lst l),fun {C A P hd K ps vs Q E} _ _ I r w p=>eO (fun vs=>wpAny C.M A (call (.type "list") vs) Q E P.s) I r w fun v u z h e k=>by
 obtain ⟨l,e1,e⟩:=bind_some e;obtain ⟨hm,rfl⟩:=grd e;exact A4 I (fA e1 h) hm fun h' ws n nw rr=>(p.fin k).note I nw P.s.toks (fW I nw.own rr rfl)⟩
noncomputable def iP:PV→Option Int
 | .d v=>iD v
 |_=>none
theorem uq {a:D} {x:Int} (h:iD a=some x):a= .int x:=by
 cases a<;>first|(cases h;done)|exact congrArg D.int (K4 h)
theorem ul {v:PV} {x:Int} (h:iP v=some x):v= .d (.int x):=by
 cases v with
 |d a=>rw[uq h]
 |_=>cases h
noncomputable def ED:List PV→PM PV
 |[x,y,z]=>fun σ=>(iP x).bind fun a=>(iP y).bind fun b=>(iP z).bind fun c=>(al ((small a&&small b&&decide (0<c)&&decide (c<1000))=true) (PV.d (.rng a b c))).map fun z=>(.ok z,σ)
 |_=>fun _=>none
theorem xZ {K:R PV→Sto→Prop} {σ:Sto}:∀ {ps:List PV},Wp K (ED ps σ)→∃ a b c,ps=[.d (.int a),.d (.int b),.d (.int c)]∧(small a&&small b&&decide (0<c)&&decide (c<1000))=true∧K (.ok (.d (.rng a b c))) σ
 |[x,y,z],w=>by
  have w:Wp K ((iP x).bind fun a=>(iP y).bind fun b=>(iP z).bind fun c=>(al ((small a&&small b&&decide (0<c)&&decide (c<1000))=true) (PV.d (.rng a b c))).map fun z=>(.ok z,σ)):=w;cases e1:iP x with
  |none=>rw[e1] at w;exact w.elim
  |some a=>
   cases e2:iP y with
   |none=>rw[e1,e2] at w;exact w.elim
   |some b=>
    cases e3:iP z with
    |none=>rw[e1,e2,e3] at w;exact w.elim
    |some c=>
     rw[e1,e2,e3] at w;obtain ⟨z,e,k⟩:=fk w;obtain ⟨h,rfl⟩:=grd e;rw[ul e1,ul e2,ul e3];exact ⟨a,b,c,rfl,h,k⟩
 |[],w|[_],w|[_,_],w|_::_::_::_::_,w=>w.elim
noncomputable def vN:BF:=⟨"range",.type "range",by decide+kernel,fun _=>ED,fun {C A P hd K ps vs Q E} _ _ I r w p=>by
 obtain ⟨a,b,c,rfl,h,k⟩:=xZ w;obtain ⟨r1,r2⟩:RVC C P (.d (.int a)) [.d (.int b),.d (.int c)] vs:=r.view;obtain ⟨r3,r4⟩:RVC C P (.d (.int b)) [.d (.int c)] _:=r2.view;obtain ⟨r5,r6⟩:RVC C P (.d (.int c)) [] _:=r4.view;obtain ⟨t1,q1⟩:∃ t,_=Value.int a t:=RD.view r1;obtain ⟨t2,q2⟩:∃ t,_=Value.int b t:=RD.view r3;obtain ⟨t3,q3⟩:∃ t,_=Value.int c t:=RD.view r5;rw[show _=[] from r6.view,q1,q2,q3];have h0:=KX (aj (ag h));have h1:=KX (aj h);exact call_range_3 (o28 h0) ((p.fin k).note I (I.push rfl) _ (.rng a b c _ _ _ (bn _ _ _))) (.inl (PyProof.noPylong_small (by exact nA (Lb h0) (Int.lt_trans h1 (by decide)))))⟩
noncomputable def J8:BF:=⟨"abs",.builtin "abs",by decide+kernel,fun _=>g1 fun u=>(iD u).map fun x=>.int (if x<0 then -x else x),fun {C A P hd K ps vs Q E} _ _ I r w p=>eO (fun vs=>wpAny C.M A (call (.builtin "abs") vs) Q E P.s) I r w fun v u z h e k=>by
 obtain ⟨x,e1,rfl⟩:=map_some e;obtain ⟨t,q⟩:=cZ e1 h;rw[q];exact call_abs_int fun u tk=>(p.fin k).tok I (.int _ _) _⟩
noncomputable def fR (t:CT) (b:CS) (k:Ker):Nat→Rho→Sto→Option (Out×Sto)
 |0,_,_=>none
 |n+1,ρ,σ=>br ρ (t.ts k ρ) (fun c=>if c then fun σ=>lG (b.ex k ρ σ) (fR t b k n) else fun σ=>some (.next ρ,σ)) σ
section
variable {X:SX} {st:Stmt} {ρ:Rho} {P:Pt} {K:Out→Sto→Prop} {Q:Flow→Shared→Prop} {E:Value→Shared→Prop}
theorem xu (t:CT) (b:CS) (N:Nat) (h:kZ (fun te be el _=>el.isEmpty&&t.is X.sx te&&b.is X.sx be) st=true) (I:Inv X.C P) (G:SEnv X P ρ)
  (w:WpS K (fR t b X.ker N ρ P.σ)) (p:PostS X P K Q E):wpAny X.M X.A (PySem.exec st X.env) Q E P.s:=by
 refine pI (fun st=>wpAny X.M X.A (PySem.exec st X.env) Q E P.s) h fun te be el pos h=> ?_;refine bu (fun el=>wpAny X.M X.A (PySem.exec (.While te be el pos) X.env) Q E P.s) (ag (ag h)) ?_;refine wpAny_While (codeAny_whileLoop (fun n s=>∃ P' ρ',s=P'.s∧GrowS P P'∧Inv X.C P'∧SEnv X P' ρ'∧WpS K (fR t b X.ker n ρ' P'.σ)) ?_ N ⟨P,ρ,rfl,G.gs (.refl P),I,G,w⟩);rintro n s ⟨P₁,ρ₁,rfl,g₁,I₁,G₁,w₁⟩;cases n with
 |zero=>exact w₁.elim
 |succ n=>
  have p₁:=p.mono g₁;have pE:PostS X P₁ K Q (notedBy X.M X.A X.env (cameBackBy X.M X.A X.env E)):=⟨p₁.next,p₁.ret,fun c ρ' e P₄ g₄ I₄ xx G₄ k=>rW I₄ xx fun P₅ g₅ I₅ e₅ x₅=>p₁.ex c ρ' e P₅ (g₄.grow g₅) I₅ x₅ (G₄.ext g₅) (e₅ ▸ k)⟩;refine t.ok X.toCx te ρ₁ P₁ _ _ _ (aj (ag h)) I₁ G₁.toEnvOK (b9 w₁) (pE.bind (Rel:=kH) G₁ fun c v P2 g I2 r w G2 p2=> ?_);rw[show v=c from r];cases c with
  |false=>exact wpAny_execs_nil (p2.go I2 G2 w)
  |true=>
   refine b.ok X be ρ₁ P2 (tK K (fR t b X.ker n)) _ _ (aj h) I2 G2 (uP w) ⟨fun ρ₄ P₄ g₄ I₄ G₄ k=>⟨n,Nat.lt_succ_self n,P₄,ρ₄,rfl,(g₁.trans (G₁.gs g)).trans g₄,I₄,G₄,k⟩,fun q u P₄ g₄ I₄ r₄ k=>p2.ret q u P₄ g₄ I₄ r₄ k,fun c ρ' e P₄ g₄ I₄ xx G₄ k=>p2.ex c ρ' e P₄ g₄ I₄ xx G₄ k⟩
end
noncomputable def C2 (N:Nat) (t:CT) (b:CS):C1:=⟨fun K=>fR t b K N,fun s=>kZ fun te be el _=>el.isEmpty&&t.is s te&&b.is s be,fun _ _ _ _ _ _ _ h I G w p=>xu t b N h I G w p⟩
end Mine.Internal
namespace Mine.Internal
open PySem PySem.W PyProof.Rows
structure LtOn (n:Nat) (lt:Nat→Nat→Bool):Prop where
 tot:∀ i j,i<n→j<n→i≠j→lt i j= !lt j i
 tr:∀ i j k,i<n→j<n→k<n→lt i j=true→lt j k=true→lt i k=true
def OkT {α:Type} (lt:Nat→Nat→Bool) (n:Nat):KasT α→(α→Prop)→Prop
 | .ret a,R=>R a
 | .ask i j k,R=>i<n∧j<n∧OkT lt n (k (lt i j)) R
section
variable {α β:Type} {lt:Nat→Nat→Bool} {n:Nat}
theorem gH {f:α→KasT β} {R:β→Prop}:∀ (t:KasT α),OkT lt n t (fun a=>OkT lt n (f a) R)→OkT lt n (t.bind f) R
 | .ret _,h=>h
 | .ask i j k,⟨h1,h2,h3⟩=>⟨h1,h2,gH (k (lt i j)) h3⟩
theorem dH {R R':α→Prop} (hr:∀ a,R a→R' a):∀ (t:KasT α),OkT lt n t R→OkT lt n t R'
 | .ret a,h=>hr a h
 | .ask i j k,⟨h1,h2,h3⟩=>⟨h1,h2,dH hr (k (lt i j)) h3⟩
theorem yy {cmp:Nat→Nat→(Bool→Shared→Prop)→Shared→Prop} {Q:α→Shared→Prop} (J:Shared→Prop) (hc:∀ i j s (Q:Bool→Shared→Prop),i<n→j<n→J s→(∀ s',J s'→Q (lt i j) s')→cmp i j Q s):∀ (t:KasT α) (s:Shared),J s→OkT lt n t (fun a=>∀ s',J s'→Q a s')→t.kasWp cmp Q s
 | .ret a,s,hj,h=>h s hj
 | .ask i j k,s,hj,⟨h1,h2,h3⟩=>hc i j s _ h1 h2 hj fun s' hj'=>yy J hc (k (lt i j)) s' hj' h3
structure Per (p:Array Nat) (n:Nat):Prop where
 sz:p.size=n
 pm:p.Perm (List.toArray (List.range n))
theorem rO (p:Array Nat) (i:Nat):p.getD i 0=(p[i]?).getD 0:=by
 rw[Array.getD_eq_getD_getElem?]
theorem rN {p:Array Nat} {i:Nat} (h:i<p.toList.length):p.getD i 0=p.toList[i]:=by
 rw[rO,←Array.getElem?_toList,Kh h];rfl
theorem Per.len {p:Array Nat} (h:Per p n):p.toList.length=n:=by rw[Array.length_toList,h.sz]
theorem Per.inn {p:Array Nat} (h:Per p n) (i:Nat) (hi:i<n):p.getD i 0<n:=by
 have hl:i<p.toList.length:=by rw[h.len];exact hi
 rw[rN hl];exact List.mem_range.mp ((Array.perm_iff_toList_perm.mp h.pm).mem_iff.mp (List.getElem_mem hl))
theorem Per.inj {p:Array Nat} (h:Per p n) (i j:Nat) (hi:i<n) (hj:j<n) (e:p.getD i 0=p.getD j 0):i=j:=by
 have nd:p.toList.Nodup:=(Array.perm_iff_toList_perm.mp h.pm).nodup_iff.mpr List.nodup_range;have li:i<p.toList.length:=by rw[h.len];exact hi
 have lj:j<p.toList.length:=by rw[h.len];exact hj
 rw[rN li,rN lj] at e;rcases Nat.lt_trichotomy i j with z|z|z
 ·exact absurd e (List.pairwise_iff_getElem.mp nd i j li lj z)
 ·exact z
 ·exact absurd e.symm (List.pairwise_iff_getElem.mp nd j i lj li z)
theorem EI:Per (List.toArray (List.range n)) n:=⟨by rw[Kz,List.length_range],Array.Perm.refl _⟩
theorem Per.of {p p':Array Nat} (h:Per p n) (hs:p'.Perm p):Per p' n:=⟨hs.size_eq.trans h.sz,hs.trans h.pm⟩
def Asc (lt:Nat→Nat→Bool) (p:Array Nat) (m:Nat):Prop:=∀ i j,i<j→j<m→lt (p.getD i 0) (p.getD j 0)=true
def Dsc (lt:Nat→Nat→Bool) (p:Array Nat) (m:Nat):Prop:=∀ i j,i<j→j<m→lt (p.getD j 0) (p.getD i 0)=true
variable {p:Array Nat}
theorem LtOn.flip (o:LtOn n lt) (h:Per p n) {i j:Nat} (hi:i<n) (hj:j<n) (ne:i≠j) (q:lt (p.getD i 0) (p.getD j 0)=false):lt (p.getD j 0) (p.getD i 0)=true:=by
 rw[o.tot _ _ (h.inn j hj) (h.inn i hi) fun z=>ne (h.inj _ _ hj hi z).symm,q];rfl
theorem Asc.more (o:LtOn n lt) (h:Per p n) {m:Nat} (hm:1≤m) (hn:m<n) (a:Asc lt p m) (q:lt (p.getD (m - 1) 0) (p.getD m 0)=true):Asc lt p (m+1):=fun i j hij hj=>by
 by_cases z:j<m
 ·exact a i j hij z
 ·have e:j=m:=Fd hj z;subst e;by_cases y:i=j - 1
  ·rw[y];exact q
  ·exact o.tr _ _ _ (h.inn i (o52 hij hn)) (h.inn (j - 1) (Fc hn)) (h.inn j hn) (a i (j - 1) (Fb hij y) (Fa hm)) q
theorem Dsc.more (o:LtOn n lt) (h:Per p n) {m:Nat} (hm:1≤m) (hn:m<n) (a:Dsc lt p m) (q:lt (p.getD m 0) (p.getD (m - 1) 0)=true):Dsc lt p (m+1):=fun i j hij hj=>by
 by_cases z:j<m
 ·exact a i j hij z
 ·have e:j=m:=Fd hj z;subst e;by_cases y:i=j - 1
  ·rw[y];exact q
  ·exact o.tr _ _ _ (h.inn j hn) (h.inn (j - 1) (Fc hn)) (h.inn i (o52 hij hn)) q (a i (j - 1) (Fb hij y) (Fa hm))
theorem th (o:LtOn n lt) (h:Per p n):∀ (f m:Nat),1≤m→m+f=n→Asc lt p m→OkT lt n (kas_asc p f m) (fun r=>m≤r∧r≤n∧Asc lt p r∧(r<n→lt (p.getD r 0) (p.getD (r - 1) 0)=true))
 |0,m,h1,h2,a=>⟨Ko _,E_ h2,a,fun z=>by omega⟩
 |f+1,m,h1,h2,a=>by
  refine ⟨h.inn m (o5 h2),h.inn (m - 1) (o20 h2),?_⟩;cases e:lt (p.getD m 0) (p.getD (m - 1) 0) with
  |true=>exact ⟨Ko _,E9 h2,a,fun _=>e⟩
  |false=>exact dH (fun r q=>⟨by omega,q.2⟩) _ (th o h f (m+1) (o19) (o53 h2) (a.more o h h1 (o5 h2) (o.flip h (o5 h2) (o20 h2) (by exact Nat.ne_of_gt (Nat.sub_one_lt_of_lt h1)) e)))
theorem vj (o:LtOn n lt) (h:Per p n):∀ (f m:Nat),2≤m→m+f=n→Dsc lt p m→OkT lt n (kas_desc f p m 0) (fun r=>r.1=p∧r.2.2=0∧m≤r.2.1∧r.2.1≤n∧Dsc lt p r.2.1)
 |0,m,h1,h2,a=>⟨rfl,rfl,Ko _,by show m≤n;exact E_ h2,a⟩
 |f+1,m,h1,h2,a=>by
  refine ⟨h.inn m (o5 h2),h.inn (m - 1) (o20 h2),?_⟩;cases e:lt (p.getD m 0) (p.getD (m - 1) 0) with
  |true=>exact dH (fun r q=>⟨q.1,q.2.1,by omega,q.2.2.2⟩) _ (vj o h f (m+1) (by exact KH h1) (o53 h2) (a.more o h (JZ h1) (o5 h2) e))
  |false=>
   have e':=o.flip h (o5 h2) (o20 h2) (by exact Nat.ne_of_gt (Nat.sub_one_lt_of_lt h1)) e;refine ⟨h.inn (m - 1) (o20 h2),h.inn m (o5 h2),?_⟩;rw[e'];exact ⟨rfl,rfl,Ko _,by show m≤n;exact E9 h2,a⟩
theorem x_ (h:Per p n) {m:Nat} (hm:m≤n) (i:Nat):(kas_rev p 0 m).getD i 0=p.getD (if i<m then m - 1 - i else i) 0:=by
 unfold kas_rev;rw[rO,rO,getElem?_mirror_all (by rw[h.sz];exact hm)];by_cases z:i<m
 ·rw[if_pos ⟨KI _,z⟩,if_pos z,K8]
 ·rw[if_neg fun y=>z y.2,if_neg z]
theorem Per.rev (h:Per p n) {m:Nat}:Per (kas_rev p 0 m) n:=h.of (mirror_perm _ _ _ _)
theorem yz (o:LtOn n lt) (h:Per p n) (h2:2≤n):OkT lt n (kas_count n p) (fun r=>Per r.2 n∧Asc lt r.2 r.1∧1≤r.1∧r.1≤n):=by
 refine gH _ (dH (fun m q=> ?_) _ (th o h (n - 1) 1 (Ko _) (by exact Nat.add_sub_cancel' (Nat.le_of_succ_le h2)) fun i j _ _=>by omega));obtain ⟨q1,q2,q3,q4⟩:=q;by_cases z:(m==n)=true
 ·rw[if_pos z];exact ⟨h,q3,q1,q2⟩
 rw[if_neg z];have zn:m≠n:=fun y=>z (by rw[y];exact beq_self_eq_true n);by_cases y:m>1
 ·rw[if_pos y];refine ⟨h.inn 0 (by exact Nat.zero_lt_of_lt h2),h.inn (m - 1) (by exact KF (Nat.sub_one_lt_of_lt y) q2),?_⟩;rw[q3 0 (m - 1) (by exact Nat.zero_lt_sub_of_lt y) (by exact Nat.sub_one_lt_of_lt y)];exact ⟨h,q3,q1,q2⟩
 ·rw[if_neg y];have e1:m=1:=by exact Nat.le_antisymm (Lf.mp y) q1
  subst e1;have q5:=q4 (by exact Nat.lt_of_succ_le h2);refine gH _ (dH (fun r w=> ?_) _ (vj o h (n - (1+1)) (1+1) (Ko _) (by exact Nat.add_sub_of_le h2) fun i j hij hj=>by
   have ei:i=0:=by exact Nat.lt_one_iff.mp (KF hij (Li hj))
   have ej:j=1:=HR hij hj;rw[ei,ej];exact q5))
  obtain ⟨pp,mm,qq⟩:=r;obtain ⟨w1,w2,w3,w4,w5⟩:=w;dsimp only at w1 w2 w3 w4 w5;subst w1 w2;show OkT lt n (kas_tail3 mm n pp) _;refine gH _ (dH (fun r w=>⟨h.rev,w.2.2.1,by show 1≤r;omega,w.2.1⟩) _ (th o (h.rev) (n - mm) mm (by exact Nat.one_le_of_lt w3) (by exact Nat.add_sub_of_le w4) fun i j hij hj=> ?_));rw[x_ h w4,x_ h w4,if_pos (o52 hij hj),if_pos hj];exact w5 _ _ (by exact Nat.sub_lt_sub_left (KF hij (Nat.le_sub_one_of_lt hj)) hij) (by exact KE (Nat.sub_le _ _) (Nat.sub_one_lt_of_lt hj))
theorem lY (o:LtOn n lt) (h:Per p n) {k:Nat} (hk:k<n) (a:Asc lt p k):∀ (f l r:Nat),l≤r→r≤k→r - l≤f→(∀ i,i<l→lt (p.getD i 0) (p.getD k 0)=true)→(∀ i,r≤i→i<k→lt (p.getD k 0) (p.getD i 0)=true)→OkT lt n (kas_place p k f l r) (fun l=>l≤k∧(∀ i,i<l→lt (p.getD i 0) (p.getD k 0)=true)∧∀ i,l≤i→i<k→lt (p.getD k 0) (p.getD i 0)=true)
 |0,l,r,h1,h2,h3,b1,b2=>⟨by show l≤k;exact E8 h1 h2,b1,fun i hi=>b2 i (by exact Km (Nat.sub_eq_zero_iff_le.mp (Nat.le_zero.mp h3)) hi)⟩
 |f+1,l,r,h1,h2,h3,b1,b2=>by
  show OkT lt n (if l≥r then _ else _) _;by_cases z:l≥r
  ·rw[if_pos z];exact ⟨by show l≤k;exact E8 h1 h2,b1,fun i hi=>b2 i (by exact Km z hi)⟩
  rw[if_neg z];have hm:(l+r) / 2<k:=HQ h2 z;refine ⟨h.inn k hk,h.inn _ (o29 hk hm),?_⟩;cases e:lt (p.getD k 0) (p.getD ((l+r) / 2) 0) with
  |true=>
   refine lY o h hk a f l ((l+r) / 2) (HP z) (by exact Nat.le_of_succ_le hm) (HO h3) b1 fun i hi hik=> ?_;by_cases y:i=(l+r) / 2
   ·rw[y];exact e
   ·exact o.tr _ _ _ (h.inn k hk) (h.inn _ (o29 hk hm)) (h.inn i (o47 hk hik)) e (a _ i (HN hi y) hik)
  |false=>
   have e':=o.flip h hk (o29 hk hm) (by exact Nat.ne_of_gt hm) e;refine lY o h hk a f ((l+r) / 2+1) r (HM z) h2 (HL h3) (fun i hi=> ?_) b2;by_cases y:i=(l+r) / 2
   ·rw[y];exact e'
   ·exact o.tr _ _ _ (h.inn i (by exact KE (Li hi) (La hm hk))) (h.inn _ (o29 hk hm)) (h.inn k hk) (a i _ (by exact Nat.lt_of_le_of_ne (Li hi) y) hm) e'
theorem Aa (h:Per p n) {k l:Nat} (hk:k<n) (hl:l≤k) (i:Nat):(bubble p k (k - l)).getD i 0=p.getD (if i=l then k else if l<i∧i≤k then i - 1 else i) 0:=by
 rw[rO,rO,getElem?_bubble (by rw[h.sz];exact hk) (k - l) (by exact HK),show k - (k - l)=l by exact Nat.sub_sub_self hl];split
 ·rfl
 ·split<;>rfl
theorem yA (o:LtOn n lt):∀ (f k:Nat) (p:Array Nat),Per p n→1≤k→k+f=n→Asc lt p k→OkT lt n (kas_bin f p k) (fun p'=>Per p' n∧Asc lt p' n)
 |0,k,p,h,h1,h2,a=>by
  have e:k=n:=by exact Nat.add_right_cancel h2
  rw[←e] at h ⊢;exact ⟨h,a⟩
 |f+1,k,p,h,h1,h2,a=>by
  refine gH _ (dH (fun l q=> ?_) _ (lY o h (o5 h2) a k 0 k (HJ) (HI) (HH) (fun i hi=>by omega) fun i hi hik=>by omega));obtain ⟨q1,q2,q3⟩:=q;have hk:k<n:=o5 h2;have hp:Per (bubble p k (k - l)) n:=h.of (bubble_perm _ _ _);refine yA o f (k+1) _ hp (o19) (o53 h2) fun i j hij hj=> ?_;rw[Aa h hk q1,Aa h hk q1];by_cases z1:i=l
  ·rw[if_pos z1,if_neg (HG hij z1),if_pos (HF hij hj z1)];exact q3 _ (HE hij z1) (o54 hij hj)
  ·rw[if_neg z1];by_cases z2:j=l
   ·rw[if_pos z2,if_neg (HD hij z2)];exact q2 i (by exact Nat.lt_of_lt_of_eq hij z2)
   ·rw[if_neg z2];split<;>split
    ·exact a _ _ (HC hij (by assumption)) (o54 hij hj)
    ·omega
    ·exact a _ _ (HB hij z1 (by assumption) (by assumption)) (o54 hij hj)
    ·exact a _ _ (by exact Nat.lt_of_succ_le hij) (HA q1 hj z2 (by assumption))
theorem vi (o:LtOn n lt) (h2:2≤n):OkT lt n (kas_sort n) (fun p=>Per p n∧Asc lt p n):=by
 refine gH _ (dH (fun r q=> ?_) _ (yz o EI h2));obtain ⟨q1,q2,q3,q4⟩:=q;by_cases z:r.1<n
 ·rw[if_pos z,show max r.1 1=r.1 by exact Nat.max_eq_left q3];exact yA o (n - r.1) r.1 r.2 q1 q3 (by exact Nat.add_sub_cancel' (KU z)) q2
 ·rw[if_neg z];refine ⟨q1,?_⟩;have e:r.1=n:=by exact Nat.le_antisymm q4 (Lf.mp z)
  rw[e] at q2;exact q2
end
end Mine.Internal
namespace Mine.Internal
open PySem PySem.W PyProof.Rows
section
variable {prog:Program} {w:World} {A:Around} {E:Value→Shared→Prop} {s:Shared} {vs:List Value} {lt:Nat→Nat→Bool}
noncomputable def cc (h:Heap) (a:Addr) (vs:List Value):Heap:=((h.update a (Obj.mapSeq fun _=>(#[]:Array Value))).push (seqObj "tuple" vs.toArray 0)).push (seqObj "list" #[] 0)
theorem fq {h:Heap} {a b:Addr} {o:Obj} (hb:b≠a) (e:h.get? b=some o):(cc h a vs).get? b=some o:=by
 refine Kl _ (Kl _ ?_);rw[Heap.get?_update_ne _ _ _ _ hb];exact e
theorem xH {κ:SortKind} {a:Addr} {n:Nat} {P:PySem.Fin→Shared→Prop} (ho:s.heap.get? a=some (seqObj "list" vs.toArray n)) (h2:2≤vs.length) (h64:vs.length<64) (o:LtOn vs.length lt)
  (hk:∀ (Q:SortKind→Shared→Prop),Q κ {s with heap:=cc s.heap a vs}→wpAny (model prog w) A (keyKind' vs.toArray) Q (fun _ _=>False) {s with heap:=cc s.heap a vs})
  (hc:∀ i j (Q:Bool→Shared→Prop),i<vs.length→j<vs.length→Q (lt i j) {s with heap:=cc s.heap a vs}→wpAny (model prog w) A (keyLt' κ (vs.getD i Value.none) (vs.getD j Value.none)) Q (fun _ _=>False) {s with heap:=cc s.heap a vs})
  (h:∀ (p:Array Nat) (h':Heap) (c:Nat),Per p vs.length→Asc lt p vs.length→h'.get? a=some (seqObj "list" (List.toArray (p.toList.map fun i=>vs.getD i Value.none)) c)→(∀ b x,b≠a→s.heap.get? b=some x→h'.get? b=some x)→P (.done (.ret .none)) {s with heap:=h'}):
  wpAny (model prog w) A (Builtin.«list.sort» ⟨[.ref a],[]⟩) P E s:=by
 have ha:a<s.heap.objs.size:=KN ho;obtain ⟨e1,ho1⟩:∃ e1,(s.heap.update a (Obj.mapSeq fun _=>(#[]:Array Value))).get? a=some (seqObj "list" #[] e1):=⟨_,get?_update_seq ho fun _=>#[]⟩;have ho6:(cc s.heap a vs).get? a=some (seqObj "list" #[] e1):=Kl _ (Kl _ ho1);rw[list_sort_plain];refine Kp (listItems_at ho rfl ?_);refine Kp (listUpdate_at ho rfl ?_ (by rw[Kz,sizeLine_eq];exact o21 h64) (KI _));refine Kp (seqEpoch_at ho1 rfl ?_);refine Kp (wpAny_newTuple ?_ (by show vs.length≤_;rw[sizeLine_eq];exact o21 h64));refine Kp (wpAny_newList ?_ (KI _));refine wpAny_holding ?_;show wpAny (model prog w) A _ P E {s with heap:=cc s.heap a vs};dsimp only;have hn2:¬vs.toArray.size<2:=by rw[Kz];exact Lf.mpr h2
 rw[if_neg hn2,if_neg hn2];refine Kp (wpAny_mono (hk (fun k s'=>k=κ∧s'={s with heap:=cc s.heap a vs}) ⟨rfl,rfl⟩) (fun k s' q=> ?_) fun _ _ x=>x.elim);obtain ⟨rfl,rfl⟩:=q;refine Kp (wpAny_mono (kat_run (Q:=fun st' s'=>s'={s with heap:=cc s.heap a vs}∧∃ p:Array Nat,Per p vs.length∧Asc lt p vs.length∧arrOf st'=p.map (kas_item (vs.toArray.zip vs.toArray))∧failedOf st'=none) (G:=fun p s'=>s'={s with heap:=cc s.heap a vs}∧Per p vs.length∧Asc lt p vs.length)
  rfl h2 h64 (fun p' st' s' a1 a2 a3 a4=>⟨a4.1,p',a4.2.1,a4.2.2,a2,a3⟩) (yy (n:=vs.length) (lt:=lt) (fun s'=>s'={s with heap:=cc s.heap a vs}) (fun i j s' Q hi hj e q=>by rw[e];exact hc i j Q hi hj (q _ rfl)) _ _ rfl (dH (fun p q s' e=>⟨e,q.1,q.2⟩) _ (vi o h2)))) ?_ fun _ _ e=>e)
 rintro ⟨⟨⟩,st'⟩ s' ⟨rfl,p,hp,hA,har,hf⟩;dsimp only;have hout:=kat_snds rfl har;have hsz:(List.toArray (p.toList.map fun i=>vs.getD i Value.none)).size=vs.length:=by rw[Kz,J',Array.length_toList,hp.sz]
 rw[hout];obtain ⟨c2,hc2⟩:∃ c2,((cc s.heap a vs).update a (Obj.mapSeq fun _=>List.toArray (p.toList.map fun i=>vs.getD i Value.none))).get? a=some (seqObj "list" (List.toArray (p.toList.map fun i=>vs.getD i Value.none)) c2):=⟨_,get?_update_seq ho6 fun _=>List.toArray (p.toList.map fun i=>vs.getD i Value.none)⟩;refine Kp (seqEpoch_at ho6 rfl ?_);refine Kp (listUpdate_at ho6 rfl ?_ (KI _) (Km (K5 hsz) (by rw[sizeLine_eq];exact E7 h64)));rw[hf];simp only [bne_self_eq_false,Bool.false_eq_true,if_false];refine Kq (h p _ c2 hp hA hc2 fun b x hb e=> ?_);rw[Heap.get?_update_ne _ _ _ _ hb];exact fq hb e
end
end Mine.Internal
namespace Mine.Internal
open PySem PySem.W PyProof.Rows
section
variable {prog:Program} {w:World} {A:Around} {E:Value→Shared→Prop} {s:Shared} {vs:List Value} {lt:Nat→Nat→Bool}
theorem yh:∀ (vs:List Value),(List.range vs.length).map (fun i=>vs.getD i Value.none)=vs:=fun vs=>by
 apply List.ext_getElem?
 intro i;rw[Ku];by_cases h:i<vs.length
 ·rw[List.getElem?_range h,Option.map_some,Kw,Kh h];rfl
 ·rw[List.getElem?_eq_none (by rw[List.length_range];exact o30 h),List.getElem?_eq_none (o30 h)];rfl
theorem sS {a:Addr} {n:Nat} {P:PySem.Fin→Shared→Prop} (ho:s.heap.get? a=some (seqObj "list" vs.toArray n)) (h2:vs.length<2)
  (h:∀ (h':Heap) (c:Nat),h'.get? a=some (seqObj "list" vs.toArray c)→(∀ b x,b≠a→s.heap.get? b=some x→h'.get? b=some x)→P (.done (.ret .none)) {s with heap:=h'}):
  wpAny (model prog w) A (Builtin.«list.sort» ⟨[.ref a],[]⟩) P E s:=by
 obtain ⟨e1,ho1⟩:∃ e1,(s.heap.update a (Obj.mapSeq fun _=>(#[]:Array Value))).get? a=some (seqObj "list" #[] e1):=⟨_,get?_update_seq ho fun _=>#[]⟩;have ho6:(cc s.heap a vs).get? a=some (seqObj "list" #[] e1):=Kl _ (Kl _ ho1);rw[list_sort_plain];refine Kp (listItems_at ho rfl ?_);refine Kp (listUpdate_at ho rfl ?_ (by rw[Kz,sizeLine_eq];exact E5 h2) (KI _));refine Kp (seqEpoch_at ho1 rfl ?_);refine Kp (wpAny_newTuple ?_ (by show vs.length≤_;rw[sizeLine_eq];exact E5 h2));refine Kp (wpAny_newList ?_ (KI _));refine wpAny_holding ?_;show wpAny (model prog w) A _ P E {s with heap:=cc s.heap a vs};dsimp only;have hn2:vs.toArray.size<2:=by rw[Kz];exact h2
 rw[if_pos hn2,if_pos hn2];refine Kp (Kq ?_);rw[StateT.run_pure];refine Kp (Kq ?_);dsimp only;have hout:(arrOf (SortSt.mk' general' (vs.toArray.zip vs.toArray) #[] 7 none)).map (·.2)=vs.toArray:=by
  show (vs.toArray.zip vs.toArray).map (·.2)=vs.toArray
  apply Array.toList_inj.mp
  rw[Array.toList_map,Array.toList_zip];show (vs.zip vs).map Prod.snd=vs;exact List.map_snd_zip (Ko _)
 obtain ⟨c2,hc2⟩:∃ c2,((cc s.heap a vs).update a (Obj.mapSeq fun _=>vs.toArray)).get? a=some (seqObj "list" vs.toArray c2):=⟨_,get?_update_seq ho6 fun _=>vs.toArray⟩;refine Kp (seqEpoch_at ho6 rfl ?_);rw[show ((vs.toArray.zip vs.toArray).map (·.2))=vs.toArray from hout];refine Kp (listUpdate_at ho6 rfl ?_ (KI _) (by rw[Kz,sizeLine_eq];exact Km (KU h2) (Kj rfl)));simp only [bne_self_eq_false,Bool.false_eq_true,if_false];refine Kq (h _ c2 hc2 fun b x hb e=> ?_);rw[Heap.get?_update_ne _ _ _ _ hb];exact fq hb e
def qf (h h':Heap):Prop:=∀ b x,h.get? b=some x→h'.get? b=some x
theorem xI {κ:SortKind} {a:Addr} {n:Nat} {P:PySem.Fin→Shared→Prop} (ho:s.heap.get? a=some (seqObj "list" vs.toArray n)) (h64:vs.length<64) (o:LtOn vs.length lt)
  (hk:∀ (Q:SortKind→Shared→Prop),2≤vs.length→Q κ {s with heap:=cc s.heap a vs}→wpAny (model prog w) A (keyKind' vs.toArray) Q (fun _ _=>False) {s with heap:=cc s.heap a vs})
  (hc:∀ i j (Q:Bool→Shared→Prop),i<vs.length→j<vs.length→Q (lt i j) {s with heap:=cc s.heap a vs}→wpAny (model prog w) A (keyLt' κ (vs.getD i Value.none) (vs.getD j Value.none)) Q (fun _ _=>False) {s with heap:=cc s.heap a vs})
  (h:∀ (p:Array Nat) (h':Heap) (c:Nat),Per p vs.length→Asc lt p vs.length→h'.get? a=some (seqObj "list" (List.toArray (p.toList.map fun i=>vs.getD i Value.none)) c)→(∀ b x,b≠a→s.heap.get? b=some x→h'.get? b=some x)→P (.done (.ret .none)) {s with heap:=h'}):
  wpAny (model prog w) A (Builtin.«list.sort» ⟨[.ref a],[]⟩) P E s:=by
 by_cases h2:vs.length<2
 ·refine sS ho h2 fun h' c e k=>h (List.toArray (List.range vs.length)) h' c EI (fun i j _ _=>by omega) ?_ k;show _=some (seqObj "list" (List.toArray ((List.range vs.length).map fun i=>vs.getD i Value.none)) c);rw[yh];exact e
 ·exact xH ho (o31 h2) h64 o (fun Q q=>hk Q (o31 h2) q) hc h
theorem lO {v:Value} {kw:List (Str×Value)} {Q:Value→Shared→Prop} (ha1:argsOk "sorted" ⟨[v],kw⟩) (ha2:∀ x,argsOk "list.sort" ⟨[.ref x],kw⟩)
  (h:wpAny (model prog w) A.in1 (collect v) (fun vs s1=>vs.length≤sizeLine∧wpAny (model prog w) A.in1.in1 (Builtin.«list.sort» ⟨[.ref s1.heap.objs.size],kw⟩) (fun fin s'=>∃ x,fin= .done (.ret x)∧Q (.ref s1.heap.objs.size) s') E {s1 with heap:=s1.heap.push (seqObj "list" vs.toArray 0)}) E s):
  wpAny (model prog w) A (call (.builtin "sorted") [v] kw) Q E s:=by
 refine call_function_entry_kw kind_sorted plain_sorted entry_sorted ha1 ?_;unfold Builtin.«sorted»;refine Kp (m:=checkCount "sorted" 1 1 _) (Kq ?_);refine Kp (wpAny_mono h (fun vs s1 h1=> ?_) fun _ _ e=>e);refine Kp (wpAny_newList ?_ h1.1);refine Kp (wpAny_holding (wpAny_call_entry_kw slot_list_sort ⟨_,Kx _ rfl,rfl⟩ entry_list_sort (wpAny_mono h1.2 (fun fin s' q=> ?_) fun _ _ e=>e) (ha2 _)));obtain ⟨x,rfl,q⟩:=q;exact ⟨_,rfl,Kq ⟨_,rfl,q⟩⟩
def B7 (M:Model) (A:Around) (v:Value) (vs:List Value) (E:Value→Shared→Prop) (s:Shared):Prop:=∀ Q:List Value→Shared→Prop,(∀ h' tk,qf s.heap h'→s.heap.objs.size≤h'.objs.size→Q vs {s with heap:=h',toks:=tk})→wpAny M A (collect v) Q E s
theorem ol {l:Addr} (hl:s.heap.IsList l vs.toArray) (h64:vs.length<64):B7 (model prog w) A (.ref l) vs E s:=fun Q h=>by
 refine collect_list hl (h _ s.toks (fun b x q=> ?_) ?_) (by rw[sizeLine_eq];exact o21 h64)
 ·have hlt:b<s.heap.objs.size:=KN q;rw[Heap.get?_update_ne _ _ _ _ (Nat.ne_of_lt hlt),Heap.get?_push_ne _ _ _ (Nat.ne_of_lt hlt)];exact q
 ·rw[Heap.size_update,size_push'];exact KZ _
theorem sR {κ:SortKind} {v:Value} {Q:Value→Shared→Prop} (col:B7 (model prog w) A.in1 v vs E s) (h64:vs.length<64) (o:LtOn vs.length lt)
  (hk:∀ (h':Heap) (tk:Nat) (Q:SortKind→Shared→Prop),qf s.heap h'→2≤vs.length→Q κ {s with heap:=h',toks:=tk}→wpAny (model prog w) A.in1.in1 (keyKind' vs.toArray) Q (fun _ _=>False) {s with heap:=h',toks:=tk})
  (hc:∀ (h':Heap) (tk:Nat) i j (Q:Bool→Shared→Prop),qf s.heap h'→i<vs.length→j<vs.length→Q (lt i j) {s with heap:=h',toks:=tk}→wpAny (model prog w) A.in1.in1 (keyLt' κ (vs.getD i Value.none) (vs.getD j Value.none)) Q (fun _ _=>False) {s with heap:=h',toks:=tk})
  (h:∀ (p:Array Nat) (h':Heap) (tk:Nat) (a:Addr) (c:Nat),Per p vs.length→Asc lt p vs.length→s.heap.objs.size≤a→h'.get? a=some (seqObj "list" (List.toArray (p.toList.map fun i=>vs.getD i Value.none)) c)→qf s.heap h'→Q (.ref a) {s with heap:=h',toks:=tk}):
  wpAny (model prog w) A (call (.builtin "sorted") [v]) Q E s:=by
 refine lO (args_sorted1 _) (fun _=>args_list_sort _) (col _ fun h1 tk mo sz=>⟨by rw[sizeLine_eq];exact o21 h64,?_⟩);have ne:∀ b x,s.heap.get? b=some x→b≠h1.objs.size:=fun b x q=>Nat.ne_of_lt (KF (KN q) sz);have keep:qf s.heap (h1.push (seqObj "list" vs.toArray 0)):=fun b x q=>Kl _ (mo b x q);have kp:qf s.heap (cc (h1.push (seqObj "list" vs.toArray 0)) h1.objs.size vs):=fun b x q=>fq (ne b x q) (keep b x q);exact xI (s:={s with heap:=h1.push (seqObj "list" vs.toArray 0),toks:=tk}) (lt:=lt) (Kx _ rfl) h64 o (fun Q h2 q=>hk _ tk Q kp h2 q) (fun i j Q hi hj q=>hc _ tk i j Q kp hi hj q) fun p h' c hp hA e k=>⟨_,rfl,h p h' tk _ c hp hA sz e fun b x q=>k b x (ne b x q) (keep b x q)⟩
end
end Mine.Internal
namespace Mine.Internal
open PySem PySem.W PyProof.Rows
section
variable {prog:Program} {w:World} {A:Around} {E:Value→Shared→Prop} {s:Shared}
noncomputable def yO (a b c d:List Nat):Bool:=if a=c then decide (b<d) else decide (a<c)
noncomputable def wX (a b c d:Int):Bool:=if a=c then decide (b<d) else decide (a<c)
theorem oJ {x y:Str}:(x==y)=decide (x.cps.toList=y.cps.toList):=by
 rw[Bool.eq_iff_iff,beq_iff_eq,decide_eq_true_eq];constructor
 ·intro h;rw[h]
 ·intro h;cases x;cases y;exact congrArg Str.mk (Array.toList_inj.mp h)
theorem yK {x y:Addr} {ox oy:Obj} {a b c d:Str} {t1 t2 t3 t4:Tok} {n k:Nat} {Q:Bool→Shared→Prop} (hx:s.heap.get? x=some ox) (dx:ox.data= .seq #[.str a t1,.str b t2] n) (hy:s.heap.get? y=some oy) (dy:oy.data= .seq #[.str c t3,.str d t4] k)
  (h:Q (yO a.cps.toList b.cps.toList c.cps.toList d.cps.toList) s):wpAny (model prog w) A (keyLt' (tuples' true) (.ref x) (.ref y)) Q E s:=by
 refine kat_lt hx dx hy dy (kat_cons (eqBool_str (kat_go (fun e=> ?_) fun e=> ?_)))
 ·rw[oJ,decide_eq_true_eq] at e;unfold yO at h;rw[if_pos e] at h;refine kat_yes (kat_cons (eqBool_str (kat_go (fun e2=> ?_) fun e2=> ?_)))
  ·rw[oJ,decide_eq_true_eq] at e2;refine kat_yes (kat_nil ?_);rw[e2,K7 (List.lt_irrefl _)] at h;exact h
  ·exact kat_no (kat_one _ _ (lt_str h))
 ·rw[oJ,decide_eq_false_iff_not] at e;unfold yO at h;rw[if_neg e] at h;exact kat_no (oneLt_str h)
theorem yL {x y:Addr} {ox oy:Obj} {a b c d:Int} {t1 t2 t3 t4:Tok} {n k:Nat} {Q:Bool→Shared→Prop} (hx:s.heap.get? x=some ox) (dx:ox.data= .seq #[.int a t1,.int b t2] n) (hy:s.heap.get? y=some oy) (dy:oy.data= .seq #[.int c t3,.int d t4] k)
  (h:Q (wX a b c d) s):wpAny (model prog w) A (keyLt' (tuples' true) (.ref x) (.ref y)) Q E s:=by
 refine kat_lt hx dx hy dy (kat_cons (wpAny_eqBool_int (kat_go (fun e=> ?_) fun e=> ?_)))
 ·rw[beq_iff_eq] at e;unfold wX at h;rw[if_pos e] at h;refine kat_yes (kat_cons (wpAny_eqBool_int (kat_go (fun e2=> ?_) fun e2=> ?_)))
  ·rw[beq_iff_eq] at e2;refine kat_yes (kat_nil ?_);rw[e2,K7 (Int.lt_irrefl _)] at h;exact h
  ·exact kat_no (kat_one _ _ (PyProof.Rows.lt_int h))
 ·rw[beq_eq_false_iff_ne] at e;unfold wX at h;rw[if_neg e] at h;exact kat_no (oneLt_int h)
end
end Mine.Internal
namespace Mine.Internal
open PySem PySem.W PyProof.Rows
section
variable {α:Type} {lt:α→α→Bool}
theorem xw (irr:∀ a,lt a a=false) (tr:∀ a b c,lt a b=true→lt b c=true→lt a c=true):∀ {x y:List α},x.Perm y→x.Pairwise (fun a b=>lt a b=true)→y.Pairwise (fun a b=>lt a b=true)→x=y
 |[],y,p,_,_=>(List.nil_perm.mp p).symm
 |a::x,[],p,_,_=>absurd p (fun h=>by cases List.perm_nil.mp h)
 |a::x,b::y,p,hx,hy=>by
  have e:a=b:=by
   have ha:a∈b::y:=p.mem_iff.mp (.head _);have hb:b∈a::x:=p.mem_iff.mpr (.head _);rcases Kb.mp ha with ha|ha
   ·exact ha
   rcases Kb.mp hb with hb|hb
   ·exact hb.symm
   have h1:=(List.pairwise_cons.mp hy).1 a ha;have h2:=(List.pairwise_cons.mp hx).1 b hb;have:=tr _ _ _ h1 h2;rw[irr] at this;cases this
  subst e;rw[xw irr tr p.cons_inv (List.pairwise_cons.mp hx).2 (List.pairwise_cons.mp hy).2]
noncomputable def mB (lt:α→α→Bool) (a:α):List α→List α
 |[]=>[a]
 |b::l=>if lt a b then a::b::l else b::mB lt a l
noncomputable def bz (lt:α→α→Bool):List α→List α
 |[]=>[]
 |a::l=>mB lt a (bz lt l)
theorem mA (a:α):∀ l:List α,(mB lt a l).Perm (a::l)
 |[]=>.refl _
 |b::l=>by
  unfold mB;split
  ·exact .refl _
  ·exact ((mA a l).cons b).trans (.swap _ _ _)
theorem bF:∀ l:List α,(bz lt l).Perm l
 |[]=>.refl _
 |a::l=>(mA a _).trans ((bF l).cons a)
theorem zc (tr:∀ a b c,lt a b=true→lt b c=true→lt a c=true) {a:α}:∀ {l:List α},(∀ b∈l,lt a b=true∨lt b a=true)→l.Pairwise (fun a b=>lt a b=true)→(mB lt a l).Pairwise (fun a b=>lt a b=true)
 |[],_,_=>List.pairwise_cons.mpr ⟨fun _ h=>absurd h Ky,.nil⟩
 |b::l,h,hl=>by
  unfold mB;obtain ⟨h1,h2⟩:=List.pairwise_cons.mp hl;by_cases q:lt a b=true
  ·rw[if_pos q];exact List.pairwise_cons.mpr ⟨fun c hc=>(Kb.mp hc).elim (fun e=>e ▸ q) fun hc=>tr _ _ _ q (h1 c hc),hl⟩
  ·rw[if_neg q];refine List.pairwise_cons.mpr ⟨fun c hc=> ?_,zc tr (fun c hc=>h c (.tail _ hc)) h2⟩;rcases Kb.mp ((mA a l).mem_iff.mp hc) with e|hc
   ·rw[e];exact (h b (.head _)).resolve_left q
   ·exact h1 c hc
abbrev Cmp (lt:α→α→Bool) (l:List α):Prop:=l.Pairwise fun a b=>lt a b=true∨lt b a=true
theorem kK (tr:∀ a b c,lt a b=true→lt b c=true→lt a c=true):∀ {l:List α},Cmp lt l→(bz lt l).Pairwise (fun a b=>lt a b=true)
 |[],_=>.nil
 |a::l,h=>by
  obtain ⟨h1,h2⟩:=List.pairwise_cons.mp h;exact zc tr (fun b hb=>h1 b ((bF l).mem_iff.mp hb)) (kK tr h2)
theorem AC (irr:∀ a,lt a a=false) (tr:∀ a b c,lt a b=true→lt b c=true→lt a c=true) {x y:List α} (hx:Cmp lt x) (p:x.Perm y):bz lt x=bz lt y:=
 xw irr tr (((bF x).trans p).trans (bF y).symm) (kK tr hx) (kK tr ((p.pairwise_iff fun h=>h.symm).mp hx))
end
end Mine.Internal
namespace Mine.Internal
open PySem PySem.W PyProof.Rows
section
variable {α:Type} {q:α→α→Bool} {d:α} {xs:List α}
theorem yg:∀ (xs:List α) (d:α),(List.range xs.length).map (fun i=>xs.getD i d)=xs:=fun xs d=>by
 apply List.ext_getElem?
 intro i;rw[Ku];by_cases h:i<xs.length
 ·rw[List.getElem?_range h,Option.map_some,Kw,Kh h];rfl
 ·rw[List.getElem?_eq_none (by rw[List.length_range];exact o30 h),List.getElem?_eq_none (o30 h)];rfl
structure Trn (q:α→α→Bool):Prop where
 irr:∀ a,q a a=false
 tr:∀ a b c,q a b=true→q b c=true→q a c=true
theorem Trn.on (s:Trn q) (cm:Cmp q xs):LtOn xs.length (fun i j=>q (xs.getD i d) (xs.getD j d)):=by
 refine ⟨fun i j hi hj ne=> ?_,fun i j k _ _ _ h1 h2=>s.tr _ _ _ h1 h2⟩;have e:q (xs.getD i d) (xs.getD j d)=true∨q (xs.getD j d) (xs.getD i d)=true:=by
  rw[Kw,Kw,Kh hi,Kh hj];rcases Nat.lt_or_gt_of_ne ne with z|z
  ·exact List.pairwise_iff_getElem.mp cm i j hi hj z
  ·exact (List.pairwise_iff_getElem.mp cm j i hj hi z).symm
 cases h1:q (xs.getD i d) (xs.getD j d) with
 |true=>
  cases h2:q (xs.getD j d) (xs.getD i d) with
  |true=>have:=s.tr _ _ _ h1 h2;rw[s.irr] at this;cases this
  |false=>rfl
 |false=>rw[e.resolve_left (by rw[h1];exact KC)];rfl
theorem qL (s:Trn q) (cm:Cmp q xs) {p:Array Nat} (hp:Per p xs.length) (ha:Asc (fun i j=>q (xs.getD i d) (xs.getD j d)) p xs.length):p.toList.map (fun i=>xs.getD i d)=bz q xs:=by
 refine xw s.irr s.tr ?_ ?_ (kK s.tr cm)
 ·have h1:(p.toList.map fun i=>xs.getD i d).Perm ((List.range xs.length).map fun i=>xs.getD i d):=(Array.perm_iff_toList_perm.mp hp.pm).map _;rw[yg] at h1;exact h1.trans (bF xs).symm
 ·rw[List.pairwise_map,List.pairwise_iff_getElem];intro i j hi hj hij;rw[←rN hi,←rN hj];exact ha i j hij (by rw[hp.len] at hj;exact hj)
structure Strict (q:α→α→Bool):Prop extends Trn q where
 tot:∀ a b,a≠b→q a b=true∨q b a=true
theorem Strict.cmp (s:Strict q) (nd:xs.Nodup):Cmp q xs:=List.Pairwise.imp (fun ne=>s.tot _ _ ne) nd
theorem Strict.key {β:Type} {f:β→α} (s:Strict q):Trn (fun x y=>q (f x) (f y)):=⟨fun a=>s.irr _,fun a b c=>s.tr _ _ _⟩
theorem Strict.keyc {β:Type} {f:β→α} {l:List β} (s:Strict q) (nd:(l.map f).Nodup):Cmp (fun x y=>q (f x) (f y)) l:=List.pairwise_map.mp (s.cmp nd)
theorem lJ [DecidableEq α] (s:Strict q):Strict (fun x y:α×α=>if x.1=y.1 then q x.2 y.2 else q x.1 y.1):=by
 refine ⟨⟨fun a=> ?_,fun a b c h1 h2=> ?_⟩,fun a b ne=> ?_⟩
 ·rw[if_pos rfl,s.irr]
 ·by_cases e1:a.1=b.1
  ·by_cases e2:b.1=c.1
   ·rw[if_pos e1] at h1;rw[if_pos e2] at h2;rw[if_pos (e1.trans e2)];exact s.tr _ _ _ h1 h2
   ·rw[if_neg e2] at h2;rw[if_neg (by rw[e1];exact e2),e1];exact h2
  ·rw[if_neg e1] at h1;by_cases e2:b.1=c.1
   ·rw[if_neg (by rw[←e2];exact e1),←e2];exact h1
   ·rw[if_neg e2] at h2;have h3:=s.tr _ _ _ h1 h2;rw[if_neg (fun e=>by rw[e,s.irr] at h3;cases h3)];exact h3
 ·by_cases e:a.1=b.1
  ·rw[if_pos e,if_pos e.symm];exact s.tot _ _ fun e2=>ne (Prod.ext e e2)
  ·rw[if_neg e,if_neg (fun z=>e z.symm)];exact s.tot _ _ e
end
theorem AB:Strict (fun a b:List Nat=>decide (a<b)):=by
 refine ⟨⟨fun a=>K7 (List.lt_irrefl _),fun a b c h1 h2=>Kr (List.lt_trans (KX h1) (KX h2))⟩,fun x y h=> ?_⟩;by_cases z:x<y
 ·exact .inl (Kr z)
 ·by_cases w:y<x
  ·exact .inr (Kr w)
  ·exact absurd (List.le_antisymm (List.not_lt.mp w) (List.not_lt.mp z)) h
theorem AA:Strict (fun a b:Int=>decide (a<b)):=by
 refine ⟨⟨fun a=>K7 (Int.lt_irrefl _),fun a b c h1 h2=>Kr (Int.lt_trans (KX h1) (KX h2))⟩,fun x y h=> ?_⟩;rcases Int.lt_or_gt_of_ne h with z|z
 ·exact .inl (Kr z)
 ·exact .inr (Kr z)
theorem strictS:Strict (fun x y:List Nat×List Nat=>yO x.1 x.2 y.1 y.2):=lJ AB
theorem strictI:Strict (fun x y:Int×Int=>wX x.1 x.2 y.1 y.2):=lJ AA
end Mine.Internal
namespace Mine.Internal
open PySem PySem.W PyProof.Rows
section
variable {prog:Program} {w:World} {A:Around} {E:Value→Shared→Prop} {s:Shared} {d it:Addr} {es:Array DictEntry} {ep i:Nat}
def RawD (h:Heap) (d:Addr) (es:Array DictEntry) (ep:Nat):Prop:=∃ o,h.get? d=some o∧o.ExactDict∧o.data= .dict es ep
theorem RawD.at {h h':Heap} (x:RawD h d es ep) (k:∀ o,h.get? d=some o→h'.get? d=some o):RawD h' d es ep:=let ⟨o,a,r⟩:=x;⟨o,k o a,r⟩
theorem RawD.typeIs (x:RawD s.heap d es ep):s.TypeIs (.ref d) "dict":=let ⟨o,a,r,_⟩:=x;⟨o,a,r.1⟩
theorem RawD.lt {h:Heap} (x:RawD h d es ep):d<h.objs.size:=let ⟨_,a,_⟩:=x;KN a
theorem ye {Q:Value→Shared→Prop} (hd:(d==sysModules)=false) (hm:RawD s.heap d es ep)
  (hQ:Q (.ref s.heap.objs.size) {s with heap:=s.heap.push {cls:=.type "dict_keyiterator",data:=.fields #[.ref d,.int 0 0,.int es.size 0,.int ep 0]}}):wpAny (model prog w) A (pyIter (.ref d)) Q E s:=by
 obtain ⟨o,ho,_,hdat⟩:=id hm;have hT:=hm.typeIs;refine wpAny_pyIter_slot hT F.slot_dict_iter (wpAny_call_entry F.slot_dict_iter hT F.entry_dict_iter ?_ (F.args_dict_iter_1 _));unfold Builtin.«dict.__iter__»;refine Kp ?_;unfold Builtin.Dict.dictSlotNone;refine Kp (wpAny_notOrdered_dict hT ?_);show wpAny _ _ (pure (Value.ref d)) _ _ s;refine Kq ?_;show wpAny _ _ (Builtin.Dict.showsAll d>>=_) _ _ s;unfold Builtin.Dict.showsAll;rw[if_neg (by rw[hd];exact KC)];refine Kp (Kq (Kp (wpAny_dictEntries ho hdat (Kp (wpAny_dictEpoch ho hdat ?_)))));exact Kp (wpAny_newObj_type (Kq ⟨_,rfl,"dict_keyiterator",_,⟨_,Kx _ rfl,rfl⟩,F.slot_dict_keyiterator_next.lookup,hQ⟩))
theorem qF {Q:Option Value→Shared→Prop} (hh:A.handled=none) (hit:s.heap.IsKeyIter it d i es.size ep) (hm:RawD s.heap d es ep)
  (h1:∀ e h',es[i]? =some e→h'.IsKeyIter it d (i+1) es.size ep→Heap.ExtBut it s.heap h'→Q (some e.key) {s with heap:=h'})
  (h2:∀ h',es[i]? =none→Heap.ExtBut it s.heap h'→Q none {s with heap:=h'}):wpAny (model prog w) A (pyNext (.ref it)) Q E s:=by
 obtain ⟨o,ho,hc,hd⟩:=id hit;obtain ⟨od,hod,_,hdd⟩:=id hm;unfold pyNext;refine Kp (wpAny_attempt (wpAny_callSpecial?_slot (name:=Str.ofString "__next__") hit.typeIs F.slot_dict_keyiterator_next
  (wpAny_call_entry F.slot_dict_keyiterator_next hit.typeIs F.entry_dict_keyiterator_next ?_ (F.args_dict_keyiterator_next_1 _))))
 refine Kp (Kq ?_);refine Kp ?_;refine Kp ?_
 first|refine Kp (wpAny_typeNameOfWhole_keyiter hit.typeIs (Kq ?_))|refine Kp (wpAny_typeNameOf_keyiter hit.typeIs (Kq ?_))
 refine Kp (wpAny_fieldsOf ho hd ?_);have hown:Builtin.Dict_items.ownsTuple "dict_keyiterator"=false:=by decide
 rw[hown];show wpAny _ _ (if (Value.ref d==Value.none)=true then _ else _) _ _ s;rw[if_neg (show¬((Value.ref d==Value.none)=true) from KC)];refine Kp (Kq ?_);refine Kp (wpAny_dictEntries hod hdd ?_);rw[if_neg (by simp)];refine Kp (Kq ?_);refine Kp (wpAny_dictEpoch hod hdd ?_);rw[if_neg (by simp)];refine Kq ?_;cases hx:es[i]? with
 |some e=>
  simp only [show¬((i:Int)<0) from o10,if_false,Int.toNat_natCast,hx];refine Kp ?_
  first|refine Kp (wpAny_typeNameOfWhole_keyiter hit.typeIs (Kq ?_))|refine Kp (wpAny_typeNameOf_keyiter hit.typeIs (Kq ?_))
  refine Kp (wpAny_isOneOf_keyiter hit.typeIs ?_);show wpAny _ _ (setField (.ref it) 1 (rawInt ((i:Int)+1))>>=_) _ _ s;refine Kp (wpAny_setField ho hd (by simp) ?_);have hit':(s.heap.update it (Obj.mapFields (·.setIfInBounds 1 (rawInt ((i:Int)+1))))).IsKeyIter it d (i+1) es.size ep:=
   ⟨_,Heap.get?_update_self _ ho (Obj.isFreed_of_fields (Obj.data_mapFields hd _)),(Obj.cls_mapFields ..).trans hc,by rw[Obj.data_mapFields hd];simp [rawInt]⟩
  refine Kp (wpAny_holding ?_);refine Kp (wpAny_isOneOf_keyiter (s:={s with heap:=s.heap.update it (Obj.mapFields (·.setIfInBounds 1 (rawInt ((i:Int)+1))))}) hit'.typeIs ?_);show wpAny _ _ (pure e.key) _ _ _;exact Kq (Kq ⟨_,rfl,Kq (h1 e _ hx hit' (Heap.SameBut.update ..).extBut)⟩)
 |none=>
  simp only [show¬((i:Int)<0) from o10,if_false,Int.toNat_natCast,hx];refine Kp ?_
  first|refine Kp (wpAny_typeNameOfWhole_keyiter hit.typeIs (Kq ?_))|refine Kp (wpAny_typeNameOf_keyiter hit.typeIs (Kq ?_))
  show wpAny _ _ (setField (.ref it) 0 .none>>=_) _ _ s;refine Kp (wpAny_setField ho hd (by simp) ?_);show wpAny _ _ (newExc (.type "StopIteration") []>>=_) _ _ _;refine Kp ?_;simp only [newExc,newTuple];refine Kp (wpAny_newObj_type ?_ (by size_fits));refine Kp (m:=firstArgMember _ _) (wpAny_of_eq (a:=Value.none) (by first|rfl|(simp only [firstArgMember];rfl)) ?_)
  refine wpAny_newObj_type ?_ (by size_fits);simp only [raiseNew];refine Kp (wpAny_handled ?_);rw[show A.in1.handled=none from hh];refine Kp (Kq (wpAny_throw ?_));refine Kp (wpAny_isInstance (T:="StopIteration") (b:=true) ⟨_,Kx _ rfl,rfl⟩ isSubtype_stop ?_);exact Kq (h2 _ hx (((Heap.SameBut.update ..).extBut.push _).push _))
theorem u' (lo:(d==sysModules)=false):KdlSrc prog w "dict" d d es.size (fun i v=>∃ e,es[i]? =some e∧v=e.key) (fun h=>RawD h d es ep) where
 type:=fun _ hm=>hm.typeIs
 there:=fun _ hm=>⟨hm.lt,hm.lt⟩
 keep:=fun _ _ hm hk=>hm.at fun o e=>hk d (.inl rfl) o e
 notList:=by decide
 notTuple:=by decide
 hint:=fun _ _ _ _ hm hq=>kdl_hint_dict hm.typeIs hq
 iter:=fun A s hh hm=>⟨_,fun i h=>h.IsKeyIter s.heap.objs.size d i es.size ep∧RawD h d es ep,(fun _ _ hq=>ye lo hm hq),{
   sub:=fun b hb=>by rw[Ki.mp hb];exact .head _
   frame:=fun _ _ _ st hk=>⟨st.1.at fun o e=>hk _ (.head _) o e,st.2.at fun o e=>hk d (.tail _ (.head _)) o e⟩
   item:=fun i s' Q E hi st hQ=>qF hh st.1 st.2 (fun e h' he hit x=>hQ _ h' s'.toks ⟨e,he,rfl⟩ ⟨hit,st.2.at fun o q=>x d o (Nat.ne_of_lt hm.lt) q⟩ fun b o hb q=>x b o (fun z=>hb (z ▸ .head _)) q) (fun h' he _=>by rw[Array.getElem?_eq_getElem hi] at he;cases he)
   done:=fun s' Q E st hQ=>qF hh st.1 st.2 (fun e h' he _ _=>by rw[Array.getElem?_eq_none (Ko _)] at he;cases he) (fun h' _ x=>hQ h' s'.toks fun b o hb q=>x b o (fun z=>hb (z ▸ .head _)) q)
   self:=fun _ _ _ _ st hQ=>wpAny_pyIter_keyiter st.1 hQ},⟨⟨_,Kx _ rfl,rfl,rfl⟩,hm.at fun o e=>Kl _ e⟩⟩
theorem rE {acc:Array Value} (h:ItemsOf (fun i v=>∃ e,es[i]? =some e∧v=e.key) acc es.size):acc.toList=es.toList.map (·.key):=by
 apply List.ext_getElem?
 intro i;rw[Ku,Array.getElem?_toList,Array.getElem?_toList];by_cases q:i<acc.size
 ·obtain ⟨e,h1,h2⟩:=h.2 i acc[i] (Array.getElem?_eq_getElem q);rw[Array.getElem?_eq_getElem q,h1,h2];rfl
 ·rw[Array.getElem?_eq_none (Nat.le_of_not_lt q),Array.getElem?_eq_none (by rw[←h.1];exact Nat.le_of_not_lt q)];rfl
theorem xh (lo:(d==sysModules)=false) (hh:A.handled=none) (hm:RawD s.heap d es ep) (hn:es.size≤sizeLine):B7 (model prog w) A (.ref d) (es.toList.map (·.key)) E s:=fun Q h=>by
 unfold collect;have run:∀ R:Result→Shared→Prop,(∀ h' tk acc c',qf s.heap h'→h'.get? s.heap.objs.size=some {cls:=.type "list",dict:=none,data:=.seq acc c',slots:=#[]}→ItemsOf (fun i v=>∃ e,es[i]? =some e∧v=e.key) acc es.size→R (.ok (.ret (.ref s.heap.objs.size))) {s with heap:=h',toks:=tk})→codeAny (model prog w) A (.builtin "proto.collect" ⟨[.ref d],[]⟩) R s:=fun R kR=>by
  refine codeAny_builtin entry_proto_collect' ?_;show wpAny _ _ (do again (.builtin "list.__iadd__" ⟨[←newList [],.ref d],[]⟩)) _ _ s;refine Kp (wpAny_newList (Kq ⟨Code.quiet_builtin _ (by decide+kernel),codeAny_builtin entry_list_iadd' ?_⟩));show wpAny _ _ (Builtin.List.listExtendWith (.ref s.heap.objs.size) (.ref d) (.ref s.heap.objs.size)) _ _ {s with heap:=s.heap.push (seqObj "list" #[] 0)};rw[Around.under_plainId F.plain_list_iadd _];exact kdl_extend (s:={s with heap:=s.heap.push (seqObj "list" #[] 0)}) (u' (es:=es) (ep:=ep) lo) hh (hm.at fun o e=>Kl _ e) _ (Nat.ne_of_gt hm.lt) (Nat.ne_of_gt hm.lt) _ 0 (Kx _ rfl) (fun h' tk acc c' hk hS hacc=>kR h' tk acc c' (fun b o q=>hk b o (Nat.ne_of_lt (KN q)) (Kl _ q)) hS hacc) hn
 refine Kp (wpAny_runValue (run _ fun h' tk acc c' mo hS hacc=> ?_));refine Kp (wpAny_load hS ?_);show wpAny _ _ (pure acc.toList) Q E _;rw[rE hacc];exact Kq (h h' tk mo (KU (KN hS)))
end
end Mine.Internal
namespace Mine.Internal
open PySem PySem.W PyProof.Rows
noncomputable def unP:D→List Nat×List Nat
 | .tup [.str a,.str b]=>(a,b)
 |_=>([],[])
noncomputable abbrev pz (x y:List Nat×List Nat):Bool:=yO x.1 x.2 y.1 y.2
section
variable {C:Cfg} {A:Around} {P:Pt} {Q E:Value→Shared→Prop} {l:List D} {v:Value} {vs:List Value}
def Cw (P:Pt) (x:List Nat×List Nat) (v:Value):Prop:=∃ b t u m,v= .ref b∧P.h.get? b=some (bN [.str (ofL x.1) t,.str (ofL x.2) u] m)
theorem yu (I:Inv C P) {d:D} (h:iQ d=true) (r:RD C P.own d v):Cw P (unP d) v:=by
 obtain ⟨a,b,rfl⟩:=rF h;obtain @⟨ad,vs,n,o,rs⟩:SeqV C P.own bN [.str a,.str b] v:=r.view;obtain ⟨r1,rt⟩:ConsV C P.own (.str a) [.str b] vs:=rs.view;obtain ⟨r2,ru⟩:ConsV C P.own (.str b) [] _:=rt.view;obtain ⟨_,t1,e1⟩:okS a∧∃ t,_=Value.str (ofL a) t:=r1.view;obtain ⟨_,t2,e2⟩:okS b∧∃ t,_=Value.str (ofL b) t:=r2.view;have e3:_=[]:=ru.view;subst e1 e2 e3;exact ⟨_,_,_,_,rfl,I.fz _ _ o⟩
theorem uS (I:Inv C P) {h':Heap} (kp:qf P.h h'):∀ {l:List D} {vs:List Value},RDs C P.own l vs→l.all iQ=true→∃ fs,KatTups h' vs fs∧fs.length=vs.length∧∀ v∈fs,∃ x t,v= .str x t
 |[],vs,r,_=>by rw[show vs=[] from r.view];exact ⟨[],trivial,rfl,fun _ h=>absurd h Ky⟩
 |d::l,vs,r,h=>by
  obtain ⟨r1,rs⟩:ConsV C P.own d l vs:=r.view;rw[List.all_cons,Bool.and_eq_true] at h;obtain ⟨fs,t,e,k⟩:=uS I kp rs h.2;obtain ⟨b,t1,u1,m,rfl,g⟩:=yu I h.1 r1;exact ⟨_::fs,KatTups.cons (kp _ _ g) rfl rfl rfl t,congrArg (· +1) e,fun v hv=>(Kb.mp hv).elim (fun z=>⟨_,_,z⟩) (k v)⟩
theorem kM {α:Type} {w:a'} {f:α→D} {g:α→Value}:∀ {l:List α},(∀ x∈l,RD C w (f x) (g x))→RDs C w (l.map f) (l.map g)
 |[],_=>.nil
 |x::l,h=>.cons (h x (.head _)) (kM fun y hy=>h y (.tail _ hy))
theorem kN {w:a'} (r:RDs C w l vs) {i:Nat} (hi:i<l.length):RD C w (l.getD i .none) (vs.getD i Value.none):=by
 have e1:l[i]? =some l[i]:=Kh hi;obtain ⟨y,e2,ry⟩:=r.get e1;rw[Kw,Kw,e1,e2];exact ry
theorem mem_getD {l:List D} {i:Nat} (hi:i<l.length):l.getD i .none∈l:=by
 rw[Kw,Kh hi];exact List.getElem_mem hi
noncomputable abbrev jt (x y:D):Bool:=pz (unP x) (unP y)
theorem nQ (I:Inv C P) (r:RDs C P.own l vs) (col:B7 C.M A.in1 v vs E P.s) (hp:l.all iQ=true) (nd:(l.map unP).Nodup) (h64:l.length<64) (k:∀ h' t a vs n,New C P h' a (aE vs n)→RDs C P.own (bz jt l) vs→Q (.ref a) {P.s with heap:=h',toks:=t}):wpAny C.M A (call (.builtin "sorted") [v]) Q E P.s:=by
 have len:=r.length;have tr:Trn jt:=strictS.key;have cm:Cmp jt l:=strictS.keyc nd;have o:LtOn vs.length (fun i j=>jt (l.getD i .none) (l.getD j .none)):=by rw[len];exact tr.on cm
 have at_:∀ i,i<vs.length→Cw P (unP (l.getD i .none)) (vs.getD i Value.none):=fun i hi=>by
  rw[len] at hi;exact yu I (List.all_eq_true.mp hp _ (mem_getD hi)) (kN r hi)
 refine sR (κ:=tuples' true) col (o7 h64 len) o (fun h' tk Q' kp h2 q=> ?_) (fun h' tk i j Q' kp hi hj q=> ?_) fun p h' tk b c hP hA hb hg kp=> ?_
 ·obtain ⟨fs,t,e,kk⟩:=uS I kp r hp;refine kat_kind (T:=.type "str") t (Hz h2 e) (fun y hy=> ?_) (by decide) q;obtain ⟨x,tt,rfl⟩:=kk y hy;exact .now
 ·obtain ⟨b1,t1,u1,m1,e1,g1⟩:=at_ i hi;obtain ⟨b2,t2,u2,m2,e2,g2⟩:=at_ j hj;rw[e1,e2];exact yK (kp _ _ g1) rfl (kp _ _ g2) rfl q
 ·refine k h' tk b _ c ⟨kp,I.off hb,I.out hb,hg⟩ ?_;rw[len] at hP hA;rw[←qL tr cm (d:=.none) hP hA];refine kM fun i hi=>kN r ?_;have:=(Array.perm_iff_toList_perm.mp hP.pm).mem_iff.mp hi;exact List.mem_range.mp this
theorem rC (I:Inv C P) {ks ps:List D} (h:DicV C P ks ps v) (hp:ks.all iQ=true):∃ d es ep,v= .ref d∧P.own d≠ .no∧RawD P.h d es ep∧RDs C P.own ks (es.toList.map (·.key))∧es.size=ks.length:=by
 obtain @⟨a,o,vs,h1,h2,h3,_⟩:=h;cases h3 with
 |pr xs es ep z1 z2 z3 z4 z5 z6 z7 z8=>
  subst z6;refine ⟨a,es,ep,rfl,h2,⟨o,h1,z1,z2⟩,?_,?_⟩
  ·rw[z3,List.map_map];refine kM fun x hx=> ?_;obtain ⟨vs,n,e1,e2,_,e4⟩:=z4 x hx;refine .tup e1 ?_;clear e1;generalize x.1=ks at e2 e4
   induction e2 with
   |nil=>exact .nil
   |cons q _ ih=>
    obtain ⟨t,rfl⟩:=Value.isStrOf_shape q;refine .cons ?_ (ih fun s hs=>e4 s (.tail _ hs));have:=RD.str (C:=C) (w:=P.own) _ t (e4 _ (.head _));exact this
  ·rw[←Array.length_toList,z3,J',J']
 |mk d l hd q1 q2 q3 q4=>
  cases l with
  |cons p l=>
   rw[q2] at hp;have hf:=ag hp;cases hd with
   |str=>cases hf
   |int=>cases hf
  |nil=>
   letI:=d.dec
   obtain ⟨es,ep,z1,z2,_,z4,_⟩:=q1;have he:es=#[]:=by
    cases q:es.toList with
    |nil=>exact Array.toList_eq_nil_iff.mp q
    |cons e r=>rw[q] at z4;cases z4
   subst he;rw[q2];exact ⟨a,#[],ep,rfl,h2,⟨o,h1,z1,z2⟩,.nil,rfl⟩
end
noncomputable def AF:D→Option (List D)
 | .lst l=>some l
 | .dct ks _=>al (ks.all iQ=true∧ks.length≤100000) ks
 |_=>none
noncomputable def uZ (l:List D):Option D:=al (l.all iQ=true∧(l.map unP).Nodup∧l.length<64) (.lst (bz jt l))
noncomputable def fSorted:BF:=⟨"sorted",.builtin "sorted",by decide+kernel,fun hd ps=>off hd (g1 (fun u=>(AF u).bind uZ) ps),fun {C A P hd K ps vs Q E} G hh I r w p=>eO (fun vs=>wpAny C.M A (call (.builtin "sorted") vs) Q E P.s) I r (dM w).2 fun v u z h e k=>by
 obtain ⟨l,e1,e⟩:=bind_some e;obtain ⟨hm,rfl⟩:=grd e;cases u with
 |lst l'=>
  cases e1;obtain @⟨a,vs,n,g,_,r⟩:LstV C P l v:=h;exact nQ I r (ol ⟨_,g,rfl,_,rfl⟩ (by rw[r.length];exact hm.2.2)) hm.1 hm.2.1 hm.2.2 fun h' t a ws n nw rr=>(p.fin k).note I nw t (fW I nw.own rr rfl)
 |dct ks vs'=>
  obtain ⟨_,rfl⟩:=grd e1;obtain ⟨d,es,ep,rfl,hn,hr,rr,hs⟩:=rC I h hm.1;exact nQ I rr (xh (ce G I hn) (hh (dM w).1) hr (by rw[hs,sizeLine_eq];omega)) hm.1 hm.2.1 hm.2.2 fun h' t a ws n nw rr=>(p.fin k).note I nw t (fW I nw.own rr rfl)
 |_=>cases e1⟩
noncomputable def zA:BF:=⟨"list",.type "list",by decide+kernel,fun hd ps=>off hd (g1 (fun u=>match u with
 | .dct ks _=>al (ks.all iQ=true∧ks.length≤100000) (.lst ks)
 |_=>none) ps),fun {C A P hd K ps vs Q E} G hh I r w p=>eO (fun vs=>wpAny C.M A (call (.type "list") vs) Q E P.s) I r (dM w).2 fun v u z h e k=>by
 cases u with
 |dct ks vs'=>
  obtain ⟨hm,rfl⟩:=grd e;obtain ⟨d,es,ep,rfl,hn,hr,rr,hs⟩:=rC I h hm.1;refine kdl_call (u' (ce G I hn)) (hh (dM w).1) hr (by rw[hs,sizeLine_eq];omega) fun h' tk acc c' hk hS hacc=> ?_;rw[←rE hacc] at rr;exact (p.fin k).note I ⟨hk,I.off (Ko _),I.out (Ko _),hS⟩ tk (fW (vs:=acc.toList) (n:=c') I (I.off (Ko _)) rr (by rw[aE,Array.toArray_toList]))
 |_=>cases e⟩
end Mine.Internal
namespace Mine.Internal
open PySem PySem.W PyProof.Rows
noncomputable def J6:List D→Option (Int×Int)
 |a::b::_=>(iD a).bind fun x=>(iD b).map fun z=>(z,x)
 |_=>none
noncomputable def rD:D→Option (Int×Int)
 | .tup l=>J6 l
 |_=>none
noncomputable def nC (k:Int×Int):D:=.tup [.int k.1,.int k.2]
noncomputable def keyCE:CE:=tup (clC (sub (loc 0) (ah 1)) (clC (sub (loc 0) (ah 0)) clN))
theorem yY {y:D} {k:Int×Int} (h:rD y=some k):∃ r,y= .tup (.int k.2:: .int k.1::r):=by
 cases y with
 |tup l=>
  cases l with
  |nil=>cases h
  |cons a l=>
   cases l with
   |nil=>cases h
   |cons b r=>
    refine aK fun G9 k9=> ?_;obtain ⟨x,hx,h2⟩:=Option.bind_eq_some_iff.mp h;obtain ⟨z,hz,rfl⟩:=K2.mp h2;refine k9 ?_;rw[uq hx,uq hz];exact ⟨r,rfl⟩
 |_=>cases h
theorem DD {y:D} {k:Int×Int} {K:Ker} {σ:Sto} (h:rD y=some k):keyCE.ev K [some (.d y)] σ=some (.ok (.d (nC k)),σ):=by
 obtain ⟨r,rfl⟩:=yY h;have l1:(1:Int)<((D.int k.2::D.int k.1::r).length:Nat):=by rw[Kk,Kk];exact Hy
 have l0:(0:Int)<((D.int k.2::D.int k.1::r).length:Nat):=by rw[Kk];exact Hw
 have p1:cR 1 (D.int k.2::D.int k.1::r).length=some 1:=by unfold cR;rw[if_pos (by decide),if_pos l1];rfl
 have p0:cR 0 (D.int k.2::D.int k.1::r).length=some 0:=by unfold cR;rw[if_pos (by decide),if_pos l0];rfl
 have g1:getD (.tup (.int k.2:: .int k.1::r)) (.int 1)=some (.int k.1):=by
  show ((al (small 1=true) ()).bind fun _=>(cR 1 (D.int k.2::D.int k.1::r).length).bind fun i=>(D.int k.2::D.int k.1::r)[i]?)=_;rw[p1];rfl
 have g0:getD (.tup (.int k.2:: .int k.1::r)) (.int 0)=some (.int k.2):=by
  show ((al (small 0=true) ()).bind fun _=>(cR 0 (D.int k.2::D.int k.1::r).length).bind fun i=>(D.int k.2::D.int k.1::r)[i]?)=_;rw[p0];rfl
 have e1:qp (.d (.tup (.int k.2:: .int k.1::r))) (.d (.int 1)) σ=some (.ok (.d (.int k.1)),σ):=by
  show (Option.map (fun z=>(R.ok (PV.d z),σ)) (getD (.tup (.int k.2:: .int k.1::r)) (.int 1)))=_;rw[g1];rfl
 have e0:qp (.d (.tup (.int k.2:: .int k.1::r))) (.d (.int 0)) σ=some (.ok (.d (.int k.2)),σ):=by
  show (Option.map (fun z=>(R.ok (PV.d z),σ)) (getD (.tup (.int k.2:: .int k.1::r)) (.int 0)))=_;rw[g0];rfl
 show su (qk fun ds=>.d (.tup ds)) (su _ (qp (.d (.tup (.int k.2:: .int k.1::r))) (.d (.int 1)) σ))=_;rw[e1];show su (qk fun ds=>.d (.tup ds)) (su _ (su _ (qp (.d (.tup (.int k.2:: .int k.1::r))) (.d (.int 0)) σ)))=_;rw[e0];rfl
noncomputable def rG (k:CE) (s:Sx) (ps:Arguments) (body:Expr) (scope:Scope):Bool:=
 ps.posonlyargs.isEmpty&&ps.kwonlyargs.isEmpty&&ps.vararg.isNone&&ps.kwarg.isNone&&ps.defaults.isEmpty&&ps.kw_defaults.isEmpty&&one (fun a=>scope.names.lookup a.arg==some .local&&k.is ⟨s.fnm,s.att,s.key,s.gls,scope,[(a.arg,0)],none⟩ body) ps.args&&
 scope.names.all (fun p=>p.2 != .cell&&p.2 != .free)&&scope.kind== .function&& !scope.isCoroutine&& !scope.isGenerator
inductive LamAt (k:CE) (C:Cfg) (w:a') (l:Lam) (fa:Addr):Prop
 |mk {nm:Str} {ps:Arguments} {body:Expr} {scope:Scope} {clos:List (Str×Addr)} {pm ctv:Value} {c:Addr} {oc:Obj} {vs:Array Value} {t:Tok} {s:Sx}:s.fnm=C.fnm→s.att=C.att→s.key=C.key→s.gls=C.gls→rG k s ps body scope=true→w fa= .fz (kla_obj nm l.qual ps body scope clos pm c ctv)→w c= .fz oc→oc.data= .fields vs→vs[1]? =some (.str l.qual t)→LamAt k C w l fa
theorem LamAt.ext {k:CE} {C:Cfg} {w w':a'} {l:Lam} {fa:Addr} (x:Fz w w'):LamAt k C w l fa→LamAt k C w' l fa
 |⟨a,b,c,d,e,f,g,h,i⟩=>⟨a,b,c,d,e,x _ _ f,x _ _ g,h,i⟩
section
variable {C:Cfg} {P:Pt} {l:Lam}
theorem Inv.code (I:Inv C P) (hl:C.lam=some l) {h':Heap} {t:Nat} {c:Addr} {oc ot:Obj} {vs:Array Value} {tq:Tok} (hid:Hid P.h P.own P.G l.P ot) (hx:∀ b o,b≠l.P→P.h.get? b=some o→h'.get? b=some o) (hP:h'.get? l.P=some (oI #[rawInt l.pos.line,rawInt l.pos.col,.ref c])) (hc:h'.get? c=some oc) (hge:P.h.objs.size≤c) (hd:oc.data= .fields vs) (hv:vs[1]? =some (.str l.qual tq)):
  Inv C (P.note h' t c oc):=by
 have own:=hid.2.1;have no:P.own c= .no:=I.off hge;have cs:=b_ P.own c (.fz oc);have kk:∀ b o x,P.own b=x→x≠ .gh→x≠ .no→P.h.get? b=some o→upd P.own c (.fz oc) b=x∧h'.get? b=some o:=fun b o x e q1 q2 z=>⟨(aW fun y=>q2 (by rw[←e,y,no])).trans e,hx b o (fun y=>q1 (by rw[←e,y,own])) z⟩;refine ⟨fun b o e=> ?_,fun b o e=> ?_,fun b e=> ?_,I.fr.mv (fun b o e q=>kk b o _ e Own.noConfusion Own.noConfusion q) (fun b e=>ji Own.noConfusion e),⟨fun p hp=> ?_,I.gh.nd,fun z e=> ?_⟩,fun b d k j e f=> ?_,fun b k j e=> ?_,fun k o e=>(I.obj k o e).mv (dp no) fun b j o e q=>kk b o _ e Own.noConfusion Own.noConfusion q⟩
 ·obtain ⟨e1,e2⟩:=I.base b o e;exact ⟨hx b o (fun y=>by rw[y,own] at e2;cases e2) e1,(aW fun y=>by rw[y] at e1;exact KY _ (KF (KN e1) hge)).trans e2⟩
 ·rcases cs b with ⟨q,z⟩|⟨_,z⟩
  ·cases z.symm.trans e;rw[q];exact hc
  ·have e1:=z.symm.trans e;exact (kk b o _ e1 Own.noConfusion Own.noConfusion (I.fz b o e1)).2
 ·rcases cs b with ⟨q,z⟩|⟨_,z⟩
  ·exact ⟨_,q ▸ hc⟩
  ·by_cases y:b=l.P
   ·exact ⟨_,y ▸ hP⟩
   ·obtain ⟨o,ho⟩:=I.live b (z ▸ e);exact ⟨o,hx b o y ho⟩
 ·obtain ⟨e1,e2⟩:=I.gh.at_ p hp;exact ⟨hx _ _ (hid.2.2 p hp) e1,(aW fun y=>by rw[y,no] at e2;cases e2).trans e2⟩
 ·rw[hl] at e;cases e;exact .inr ⟨c,oc,vs,tq,⟨hP,(aW fun y=>by rw[y,no] at own;cases own).trans own,hid.2.2⟩,bn _ _ _,hd,hv⟩
 ·rcases cs b with ⟨_,q⟩|⟨_,q⟩
  ·cases q.symm.trans e
  ·rcases cs d with ⟨_,q'⟩|⟨_,q'⟩
   ·cases q'.symm.trans f
   ·exact I.one b d k j (q.symm.trans e) (q'.symm.trans f)
 ·rcases cs b with ⟨_,q⟩|⟨_,q⟩
  ·cases q.symm.trans e
  ·exact I.bd b k j (q.symm.trans e)
theorem ug {k:CE} {s:Sx} {ps:Arguments} {body:Expr} {scope:Scope} {env:Env} (h:rG k s ps body scope=true):∃ cl,closureFor scope env=pure cl:=by
 obtain ⟨cl,e,_⟩:=hJ (env:=env) (scope:=scope) fun p hp q=>by
  have:=aj (List.all_eq_true.mp (aj (ag (ag (ag h)))) p hp);rw[q] at this;cases this
 exact ⟨cl,e⟩
theorem uf {k:CE} {s:Sx} {ps:Arguments} {body:Expr} {scope:Scope} {env:Env} (h:rG k s ps body scope=true):defaultsOf ps env=([],[]):=by
 have h:=ag (ag (ag (ag (ag h))));refine aK fun G9 k9=> ?_;obtain ⟨p1,p2,p3,p4,p5,p6,p7⟩:=ps;refine k9 ?_;have e1:p7=[]:=List.isEmpty_iff.mp (aj (ag h));have e2:p5=[]:=List.isEmpty_iff.mp (aj h);subst e1;subst e2;rfl
theorem yU {ke:CE} {X:SX} {ps:Arguments} {body:Expr} {scope:Scope} {pos:Pos} {P:Pt} {Q E:Value→Shared→Prop} (hl:X.lm=some l) (I:Inv X.C P) (his:rG ke X.sx ps body scope=true) (h1:pos.line=l.pos.line) (h2:pos.col=l.pos.col)
  (k:∀ fa P',Grow P P'→Inv X.C P'→P'.σ=P.σ→LamAt ke X.C P'.own l fa→Q (.ref fa) P'.s):wpAny X.M X.A (eval (.Lambda ps body scope pos) X.env) Q E P.s:=by
 refine aK fun G9 k9=> ?_;obtain ⟨hC,hcode,hq⟩:=X.lmE l hl;obtain ⟨cl,hcl⟩:=ug (env:=X.env) his;obtain ⟨g1,⟨bm,ob,b1,b2,b3,b4,b5,b6⟩,g3⟩:=X.good.lam l hC;refine k9 ?_;have base:∀ b o,X.C.H.get? b=some o→P.h.get? b=some o:=fun b o e=>(I.base b o e).1;have bat:P.h.BuiltinsAt X.C.mg l.P:=⟨bm,ob,b1,b2,b3,b4,base _ _ b5,b6⟩;refine kla_eval (uf his) ?_;rw[hq];rcases I.gh.tab l hC with h|⟨c,oc,vs,t,h,e1,e2,e3⟩
 ·refine kla_makeFunction hcl X.glob (X.good.g.keeps base) hcode (g1.keeps base) h.1 trivial rfl g3 bat fun c' ctv h' tk hx hge hlt hrec htb=> ?_;refine aK fun G9 k9=> ?_;obtain ⟨c2,oc,vs,t,e,hoc,hd,hv⟩:=hrec;refine k9 ?_;cases e;rw[h1,h2] at htb;have J:=I.code (t:=tk) hC h hx htb hoc hge hd hv;have g:Grow P (P.note h' tk c' oc):=.note (I.off hge);have n:=J.push (o:=kla_obj "<lambda>" l.qual ps body scope cl ((X.C.mg "__name__").getD .none) c' ctv) rfl;exact k _ _ (g.trans (.note n.own)) (J.note (t:=tk) n) rfl ⟨rfl,rfl,rfl,rfl,his,bn _ _ _,dp n.own _ _ (bn _ _ _),hd,hv⟩
 ·have hf:codeAmong pos [rawInt l.pos.line,rawInt l.pos.col,.ref c]=some (.ref c):=by
   show (if ((l.pos.line:Int)==(pos.line:Int)&&(l.pos.col:Int)==(pos.col:Int))=true then some (Value.ref c) else _)=_;rw[h1,h2,beq_self_eq_true,beq_self_eq_true];rfl
  refine kla_makeFunctionHit hcl X.glob (X.good.g.keeps base) hcode (g1.keeps base) h.1 (show TriplesOk [rawInt l.pos.line,rawInt l.pos.col,Value.ref c] from trivial) hf bat fun ctv h' tk hk hsz=> ?_;have n:New X.C P (h'.push (kla_obj "<lambda>" l.qual ps body scope cl ((X.C.mg "__name__").getD .none) c ctv)) h'.objs.size (kla_obj "<lambda>" l.qual ps body scope cl ((X.C.mg "__name__").getD .none) c ctv):=⟨fun b o e=>Kl _ (hk b o e),I.off hsz,I.out hsz,Kx _ rfl⟩;exact k _ _ (.note n.own) (I.note (t:=tk) n) rfl ⟨rfl,rfl,rfl,rfl,his,bn _ _ _,dp n.own _ _ e1,e2,e3⟩
set_option maxHeartbeats 400000 in
theorem yV {ke:CE} {A:Around} {fa:Addr} {y:D} {v:Value} {ky:Int×Int} {Q E:Value→Shared→Prop} (Gd:Good C) (hfrs:kq A P.fs) (hX:C.H.objs.size≤P.h.objs.size) (hdep:A.depth+151<recursionLimit) (huni:A.units+1003<cLine) (I:Inv C P) (L:LamAt ke C P.own l fa) (r:RD C P.own y v) (hk:∀ K,ke.ev K [some (.d y)] P.σ=some (.ok (.d (nC ky)),P.σ))
  (k:∀ kv P',Grow P P'→Inv C P'→P'.σ=P.σ→RD C P'.own (nC ky) kv→Q kv P'.s):wpAny C.M A (call (.ref fa) [v]) Q E P.s:=by
 refine aK fun G9 k9=> ?_;obtain @⟨nm,ps,body,scope,clos,pm,ctv,c,oc,vs,t,s,f1,f2,f3,f4,his,w1,w2,w3,w4⟩:=L;have p11:=(Bool.not_eq_true' _).mp (aj his);have p10:=(Bool.not_eq_true' _).mp (aj (ag his));have p9:=bg (aj (ag (ag his)));have p8:=aj (ag (ag (ag his)));have his:=ag (ag (ag (ag his)));have p7:=aj his;have his:=ag (ag (ag his));have p4:=Option.isNone_iff_eq_none.mp (aj his);have p3:=Option.isNone_iff_eq_none.mp (aj (ag his));have p2:=List.isEmpty_iff.mp (aj (ag (ag his)));have p1:=List.isEmpty_iff.mp (ag (ag (ag his)));have base:∀ b o,C.H.get? b=some o→P.h.get? b=some o:=fun b o e=>(I.base b o e).1;obtain ⟨a,ea,pn,pk⟩:∃ a,ps.args=[a]∧scope.names.lookup a.arg=some .local∧ke.is ⟨s.fnm,s.att,s.key,s.gls,scope,[(a.arg,0)],none⟩ body=true:=
  cS (fun as=>∃ a,as=[a]∧scope.names.lookup a.arg=some .local∧ke.is ⟨s.fnm,s.att,s.key,s.gls,scope,[(a.arg,0)],none⟩ body=true) p7 fun a h=>⟨a,rfl,bg (ag h),aj h⟩
 refine k9 ?_;have hcell:∀ x∈scope.names,x.2≠ .cell:=fun x hx q=>by
  have:=ag (List.all_eq_true.mp p8 x hx);rw[q] at this;cases this
 have hnc:∀ y,scope.names.lookup y≠some .cell:=fun y q=>hcell _ (b7 q) rfl;refine wpAny_call (kla_callFunE (by exact Nat.lt_of_add_right_lt hdep) (I.fz _ _ w1) rfl p10 p11 rfl ⟨c,oc,vs,t,rfl,I.fz _ _ w2,w3,w4⟩ ?_);rw[jb (names:=[a.arg]) p1 p2 p3 p4 (by show ps.args.map _=_;rw[ea];rfl) rfl rfl (K0.mpr ⟨Ky,K3⟩)];refine Kq (wpAny_newFunctionEnv hcell (fun x hx=>by rw[Ki.mp hx];exact pn) (fun h₁ hns hsb=>⟨((Gd.nolimit).keeps base).fresh _ hsb,?_⟩) p9);refine kla_codeExpr ?_;generalize henv:newEnv scope P.s.heap.objs.size mainGlobals clos (l.qual++".<locals>.") (some fa) (.ref c) none builtinsNs=env';have e1:env'.locals=P.h.objs.size:=by rw[←henv];rfl
 have e2:env'.frame=some P.h.objs.size:=by rw[←henv];rfl
 have e3:env'.scope=scope:=by rw[←henv];rfl
 have e4:env'.globals=mainGlobals:=by rw[←henv];rfl
 have e5:env'.builtins=builtinsNs:=by rw[←henv];rfl
 have kp:∀ b o,P.h.get? b=some o→h₁.get? b=some o:=fun b o e=>hsb.extBut b o (Nat.ne_of_lt (KN e)) (Kl _ e);generalize hg:(⟨P.h.objs.size,fun x=>List.lookup x [(a.arg,v)].reverse,[],fun _=>none⟩:Fm)=g;have gL:g.L=P.h.objs.size:=by rw[←hg]
 have gm:g.m a.arg=some v:=by rw[←hg];show List.lookup a.arg [(a.arg,v)]=_;rw[List.lookup_cons,beq_self_eq_true]
 have gc:g.cells=[]:=by rw[←hg]
 have J:Inv C (P.enter h₁ (P.s.toks+1) g):=I.enter hX kp (K5 gL.symm) (by rw[←hg];exact hns) (by rw[gc];exact fun c hc=>absurd hc Ky);have xE:Ext P (P.enter h₁ (P.s.toks+1) g):=.enter I fun b o e q=>by
  rw[Fm.adr,gc,Ki] at q;have lt:=KN e;rw[q,gL] at lt;exact KY _ lt
 obtain ⟨ls,hls,hfr⟩:=hfrs;have fr:(A.deeper env').frames=some (env'::ls):=by simp [Around.deeper,hls]
 let X:Cx:={C:=C,A:=A.deeper env',env:=env',sc:=scope,Γ:=[(a.arg,0)],d:=0,hd:=true,good:=Gd,calls:=fun _ _ _ _ _ _ _ _ _ _ _ _ _ _ _ _ w=>w.elim,kinds:=fun y=>⟨by rw[e3];exact id,fun h=>by unfold Env.kindOf;rw[e3];exact bg (ag h),fun h=>absurd h (hnc y)⟩,kind:=(by rw[e3];exact p9),glob:=e4,blt:=e5,dep:=(by show A.depth+1+8*0+150<recursionLimit;exact Nat.lt_of_succ_le hdep),uni:=(by show A.units+3+64*0+1000<cLine;exact Nat.lt_of_succ_le huni),hnd:=(fun q=>by cases q),lm:=none}
 have hE:EnvOK X (P.enter h₁ (P.s.toks+1) g) [some (.d y)]:=by
  refine ⟨⟨env'::ls,fr,fun z hz=> ?_⟩,fun q=>(by cases q),fun y' i p hy hm hp=> ?_⟩
  ·rcases Kb.mp hz with q|hz
   ·rw[q];exact ⟨by rw[e3,p9];decide,g,.head _,by rw[gL];exact e2⟩
   ·obtain ⟨k,q,hq,e⟩:=hfr z hz;exact ⟨k,q,.tail _ hq,e⟩
  ·have hy:List.lookup y' [(a.arg,0)]=some i:=hy;rw[List.lookup_cons] at hy;cases q:y'==a.arg with
   |false=>rw[q] at hy;cases hy
   |true=>
    rw[q] at hy;cases hy;cases hp;obtain rfl:=bg q;exact ⟨v,RV.ext xE (p:=.d y) r,.inl ⟨by unfold Env.kindOf;rw[show X.env=env' from rfl,e3];exact pn,g,.head _,gL.trans e1.symm,gm⟩⟩
 refine ke.ok X body [some (.d y)] (P.enter h₁ (P.s.toks+1) g) (fun z σ=>z= .ok (.d (nC ky))∧σ=P.σ) _ _ (by show ke.is ⟨C.fnm,C.att,C.key,C.gls,scope,[(a.arg,0)],none⟩ body=true;rw[←f1,←f2,←f3,←f4];exact pk) J hE (by show Wp _ (ke.ev X.ker [some (.d y)] P.σ);rw[hk];exact ⟨rfl,rfl⟩) ⟨fun p w P' g' I' r' kk=> ?_,fun c e P' _ _ _ kk=>by cases kk.1⟩;obtain ⟨q1,q2⟩:=kk;cases q1;have x:=xE.trans g'.toExt;refine ta (K:=fun z σ=>z= .ok (.d (nC ky))∧σ=P.σ) (keep:=false) I' x g'.fs r' ?_ fun p' P'' g2 I2 r2 k2=> ?_
 ·show _∧P'.σ.take P.σ.length=P.σ;rw[q2,List.take_length];exact ⟨rfl,rfl⟩
 ·cases k2.1;exact k w P'' g2 I2 k2.2 r2
end
end Mine.Internal
namespace Mine.Internal
open PySem PySem.W PyProof.Rows
noncomputable abbrev dK (y:D):Int×Int:=(rD y).getD (0,0)
noncomputable abbrev e_ (x y:D):Bool:=wX (dK x).1 (dK x).2 (dK y).1 (dK y).2
theorem tZ {y:D} (h:(rD y).isSome=true):rD y=some (dK y):=by
 obtain ⟨k,e⟩:=Option.isSome_iff_exists.mp h;unfold dK;rw[e];rfl
noncomputable abbrev mq (l:List D):List D:=l.map fun y=>nC (dK y)
theorem Pa.ext {P₀ P:Pt} (x:Pa P₀ P []):Ext P₀ P:=⟨x.sm,x.G,x.fz,x.val,x.cell⟩
section
variable {C:Cfg} {A:Around} {P₀ P:Pt} {E:Value→Shared→Prop} {Pf:PySem.Fin→Shared→Prop} {items:List D} {vs kvs:List Value} {a kS:Addr} {n e1:Nat}
theorem yv (I:Inv C P) {k:Int×Int} {v:Value} (r:RD C P.own (nC k) v):∃ b t u m,v= .ref b∧P.h.get? b=some (bN [.int k.1 t,.int k.2 u] m):=by
 refine aK fun G9 k9=> ?_;obtain @⟨ad,vs,n,o,rs⟩:SeqV C P.own bN [.int k.1,.int k.2] v:=r.view;obtain ⟨r1,rt⟩:ConsV C P.own (.int k.1) [.int k.2] vs:=rs.view;obtain ⟨r2,ru⟩:ConsV C P.own (.int k.2) [] _:=rt.view;obtain ⟨t1,e1⟩:∃ t,_=Value.int k.1 t:=r1.view;obtain ⟨t2,e2⟩:∃ t,_=Value.int k.2 t:=r2.view;refine k9 ?_;have e3:_=[]:=ru.view;subst e1 e2 e3;exact ⟨_,_,_,_,rfl,I.fz _ _ o⟩
theorem uT (I:Inv C P):∀ {l:List D} {vs:List Value},RDs C P.own (mq l) vs→∃ fs,KatTups P.h vs fs∧fs.length=vs.length∧∀ v∈fs,∃ x t,v= .int x t
 |[],vs,r=>by rw[show vs=[] from r.view];exact ⟨[],trivial,rfl,fun _ h=>absurd h Ky⟩
 |d::l,vs,r=>by
  refine aK fun G9 k9=> ?_;obtain ⟨r1,rs⟩:ConsV C P.own (nC (dK d)) (mq l) vs:=r.view;obtain ⟨fs,t,e,k⟩:=uT I rs;obtain ⟨b,t1,u1,m,rfl,g⟩:=yv I r1;refine k9 ?_;exact ⟨_::fs,KatTups.cons g rfl rfl rfl t,congrArg (· +1) e,fun v hv=>(Kb.mp hv).elim (fun z=>⟨_,_,z⟩) (k v)⟩
theorem lM {st:SortSt} {out:List Value} {ds:List D} (I:Inv C P) (pa:Pa P₀ P [(kS,aE kvs n),(a,aE [] e1)]) (hfs:P.fs=P₀.fs) (hσ:P.σ=P₀.σ) (hout:(arrOf st).map (·.2)=List.toArray out) (hf:failedOf st=none) (hz:out.length<64) (hkz:kvs.length<64) (ro:RDs C P.own ds out)
  (k:∀ P',Grow P₀ P'→Inv C P'→P'.σ=P₀.σ→RD C P'.own (.lst ds) (.ref a)→Pf (.done (.ret .none)) P'.s):wpAny C.M A (ksk_tail a false e1 (.ref kS) st) Pf E P.s:=by
 have gk:=ghA I pa.G;have ga:=I.gh.at_ (a,aE [] e1) (by rw[pa.G];exact .tail _ (.head _));have ne:a≠kS:=fun q=>by
  have nd:=I.gh.nd;rw[pa.G] at nd;exact (K0.mp nd).1 (by rw[←q];exact .head _)
 have s1:=Heap.SameBut.update P.h kS (Obj.mapSeq fun _=>(#[]:Array Value));have ga1:(P.h.update kS (Obj.mapSeq fun _=>(#[]:Array Value))).get? a=some (aE [] e1):=(s1.2 a ne).trans ga.1;have s2:=Heap.SameBut.update (P.h.update kS (Obj.mapSeq fun _=>(#[]:Array Value))) a (Obj.mapSeq fun _=>List.toArray out);obtain ⟨c2,hc2⟩:∃ c2,((P.h.update kS (Obj.mapSeq fun _=>(#[]:Array Value))).update a (Obj.mapSeq fun _=>List.toArray out)).get? a=some (aE out c2):=⟨_,get?_update_seq ga1 fun _=>List.toArray out⟩;unfold ksk_tail
 try dsimp only
 rw[hout];refine Kp (listUpdate_at gk.2 rfl ?_ (by rw[Kz,sizeLine_eq];exact o21 hkz) (KI _));refine Kp (wpAny_letGo ?_);refine Kp (seqEpoch_at ga1 rfl ?_);refine Kp (listUpdate_at ga1 rfl ?_ (KI _) (by simp only [Bool.false_eq_true,if_false];rw[Kz,sizeLine_eq];exact E7 hz));rw[hf];simp only [bne_self_eq_false,Bool.false_eq_true,if_false];refine Kq ?_;show Pf _ {P.s with heap:=(P.h.update kS (Obj.mapSeq fun _=>(#[]:Array Value))).update a (Obj.mapSeq fun _=>List.toArray out)};generalize P.h.update kS (Obj.mapSeq fun _=>(#[]:Array Value))=h1 at s1 ga1 s2 hc2 ⊢;generalize h1.update a (Obj.mapSeq fun _=>List.toArray out)=h2 at s2 hc2 ⊢;have J1:=I.show (t:=P.s.toks) pa.G fun b o hb e=>s1.extBut b o hb e;have p1:=pa.show (h:=h1) (t:=P.s.toks) gk.1;have a1:=(ghA J1 p1.G).1;have J2:=J1.show (t:=P.s.toks) p1.G fun b o hb e=>s2.extBut b o hb e;have p2:=p1.show (h:=h2) (t:=P.s.toks) a1;have nw:New C ((P.show h1 P.s.toks kS ([(a,aE [] e1)]++P₀.G)).show h2 P.s.toks a P₀.G) h2 a (aE out c2):=⟨fun _ _ e=>e,bn _ _ _,J1.offH (by rw[a1];exact Own.noConfusion),hc2⟩;exact k _ ((Grow.mk p2.ext hfs).trans (.note nw.own)) (J2.note (t:=P.s.toks) nw) hσ (fW J2 nw.own ((ro.ext (eD gk.1)).ext (eD a1)) rfl)
theorem qu:∀ {l:List D},l.length<2→bz e_ l=l
 |[],_=>rfl
 |[_],_=>rfl
 |_::_::_,h=>by rw[Kk,Kk] at h;omega
theorem wq (I:Inv C P) (pa:Pa P₀ P [(kS,aE kvs n),(a,aE [] e1)]) (hfs:P.fs=P₀.fs) (hσ:P.σ=P₀.σ) (rk:RDs C P.own (mq items) kvs) (rv:RDs C P.own items vs) (nd:(items.map dK).Nodup) (h64:items.length<64)
  (k:∀ P',Grow P₀ P'→Inv C P'→P'.σ=P₀.σ→RD C P'.own (.lst (bz e_ items)) (.ref a)→Pf (.done (.ret .none)) P'.s):wpAny C.M A (ksk_end a false vs.toArray e1 (.ref kS) kvs.toArray) Pf E P.s:=by
 have lk:kvs.length=items.length:=by rw[rk.length,J']
 have lv:=rv.length;unfold ksk_end;simp only [Bool.false_eq_true,if_false];by_cases h2:vs.length<2
 ·have hn2:vs.toArray.size<2:=by rw[Kz];exact h2
  rw[if_pos hn2,if_pos hn2];refine Kp (Kq ?_);rw[StateT.run_pure];refine Kp (Kq ?_)
  try dsimp only
  rw[qu (by exact lt_of_eq_of_lt (id (Eq.symm lv)) h2)] at k;refine lM I pa hfs hσ (out:=vs) ?_ rfl (o7 h64 lv) (o7 h64 lk) rv k;show (kvs.toArray.zip vs.toArray).map (·.2)=vs.toArray
  apply Array.toList_inj.mp
  rw[Array.toList_map,Array.toList_zip];show (kvs.zip vs).map Prod.snd=vs;exact List.map_snd_zip (by exact K5 (lv.trans lk.symm))
 ·have hn2:¬vs.toArray.size<2:=by rw[Kz];exact h2
  rw[if_neg hn2,if_neg hn2];have tr:Trn e_:=strictI.key;have cm:Cmp e_ items:=strictI.keyc nd;have o:LtOn vs.length (fun i j=>e_ (items.getD i .none) (items.getD j .none)):=by rw[lv];exact tr.on cm
  have at_:∀ i,i<vs.length→∃ b t u m,kvs.getD i Value.none= .ref b∧P.h.get? b=some (bN [.int (dK (items.getD i .none)).1 t,.int (dK (items.getD i .none)).2 u] m):=fun i hi=>by
   have hi':i<items.length:=by exact Nat.lt_of_lt_of_eq hi lv
   have r1:=kN rk (i:=i) (by rw[J'];exact hi');have e:(mq items).getD i .none=nC (dK (items.getD i .none)):=by
    rw[Kw,Kw,Ku,Kh hi'];rfl
   rw[e] at r1;exact yv I r1
  obtain ⟨fs,t,e,kk⟩:=uT I rk;refine Kp (kat_kind (T:=.type "int") t (Hv lk lv h2 e) (fun y hy=> ?_) (by decide) ?_)
  ·obtain ⟨x,tt,rfl⟩:=kk y hy;exact .now
  refine Kp (wpAny_mono (kat_run (Q:=fun st' s'=>s'=P.s∧∃ p:Array Nat,Per p vs.length∧Asc (fun i j=>e_ (items.getD i .none) (items.getD j .none)) p vs.length∧arrOf st'=p.map (kas_item (kvs.toArray.zip vs.toArray))∧failedOf st'=none) (G:=fun p s'=>s'=P.s∧Per p vs.length∧Asc (fun i j=>e_ (items.getD i .none) (items.getD j .none)) p vs.length)
   (E4 lk lv) (o31 h2) (o7 h64 lv) (fun p' st' s' a1 a2 a3 a4=>⟨a4.1,p',a4.2.1,a4.2.2,a2,a3⟩) (yy (n:=vs.length) (lt:=fun i j=>e_ (items.getD i .none) (items.getD j .none)) (fun s'=>s'=P.s) (fun i j s' Q hi hj e q=> ?_) _ _ rfl (dH (fun p q s' e=>⟨e,q.1,q.2⟩) _ (vi o (o31 h2))))) ?_ fun _ _ e=>e)
  ·rw[e];refine aK fun G9 k9=> ?_;obtain ⟨b1,t1,u1,m1,z1,g1⟩:=at_ i hi;obtain ⟨b2,t2,u2,m2,z2,g2⟩:=at_ j hj;refine k9 ?_;show wpAny _ _ (keyLt' _ (kvs.getD i Value.none) (kvs.getD j Value.none)) _ _ _;rw[z1,z2];exact yL g1 rfl g2 rfl (q _ rfl)
  ·rintro ⟨⟨⟩,st'⟩ s' ⟨rfl,p,hp,hA,har,hf⟩
   try dsimp only
   have hp':=hp;rw[lv] at hp' hA;rw[←qL tr cm (d:=.none) hp' hA] at k;refine lM I pa hfs hσ (kat_snds (E4 lk lv) har) hf (by rw[J',Array.length_toList,hp.sz];exact o7 h64 lv) (o7 h64 lk) (kM fun i hi=>kN rv ?_) k;exact List.mem_range.mp ((Array.perm_iff_toList_perm.mp hp'.pm).mem_iff.mp hi)
theorem sQ {l:Lam} {fa:Addr} (Gd:Good C) (hfrs:kq A P₀.fs) (hX:P₀.fs≠[]) (hdep:A.depth+151<recursionLimit) (huni:A.units+1003<cLine) (I:Inv C P) (pa:Pa P₀ P [(kS,aE [] 0),(a,aE [] e1)]) (hfs:P.fs=P₀.fs) (hσ:P.σ=P₀.σ) (L:LamAt keyCE C P₀.own l fa) (rv:RDs C P₀.own items vs) (hk:∀ y∈items,(rD y).isSome=true) (nd:(items.map dK).Nodup) (h64:items.length<64)
  (k:∀ P',Grow P₀ P'→Inv C P'→P'.σ=P₀.σ→RD C P'.own (.lst (bz e_ items)) (.ref a)→Pf (.done (.ret .none)) P'.s):wpAny C.M A (ksk_rest a (.ref fa) false vs.toArray e1 (.ref kS)) Pf E P.s:=by
 have lv:=rv.length;unfold ksk_rest;refine Kp (wpAny_rule ?_)
 first
  |rw[List.forIn_toArray]
  |(rw[←Array.forIn_toList];simp only [List.toList_toArray])
  |rw[←Array.forIn_toList]
 refine Kp (ksk_fold (fun j s'=>∃ P' kvs n,P'.s=s'∧Pa P₀ P' [(kS,aE kvs n),(a,aE [] e1)]∧P'.fs=P₀.fs∧P'.σ=P₀.σ∧Inv C P'∧RDs C P'.own (mq (items.take j)) kvs) vs 0 P.s ⟨P,[],0,rfl,pa,hfs,hσ,I,.nil⟩ (fun j x s' hx hI=> ?_) fun s' hI=> ?_)
 ·rw[K8] at hI ⊢;refine aK fun G9 k9=> ?_;obtain ⟨P',kvs,m,rfl,pa',hfs',hσ',I',rk⟩:=hI;obtain ⟨hj,ex⟩:=Kg.mp hx;have hj':j<items.length:=Dh lv hj;have ei:items[j]? =some items[j]:=Kh hj';obtain ⟨x',ex',rx⟩:=rv.get ei;refine k9 ?_;rw[hx] at ex';cases ex';refine Kp (wpAny_attempt (yV Gd (hfs'.symm ▸ hfrs) (I'.szF (by rw[hfs'];exact hX)) hdep huni I' (L.ext pa'.fz) (rx.ext pa'.fz) (fun K=>DD (tZ (hk _ (List.getElem_mem hj')))) fun kv P'' g I'' e r=> ?_));have pa'':=pa'.grow g.toExt;have gk:=ghA I'' pa''.G;have s1:=Heap.SameBut.update P''.h kS (Obj.mapSeq (·.push kv));have ea:(List.toArray kvs).push kv=List.toArray (kvs++[kv]):=by simp
  obtain ⟨c2,hc2⟩:∃ c2,(P''.h.update kS (Obj.mapSeq (·.push kv))).get? kS=some (aE (kvs++[kv]) c2):=⟨_,by rw[aE,←ea];exact get?_update_seq gk.2 (·.push kv)⟩;have lkv:kvs.length=j:=by rw[rk.length,J',List.length_take];exact Hu lv hj
  try dsimp only
  refine Kp (listUpdate_at gk.2 rfl ?_ (by rw[Kz,sizeLine_eq];exact Ht h64 lv hj lkv) (Km (K5 (Array.size_push ..)) (by rw[Kz,sizeLine_eq];exact Hs h64 lv hj lkv)));have J:=I''.gturn (t:=P''.s.toks) pa''.G (fun b o hb e=>s1.extBut b o hb e) hc2;refine Kq ⟨rfl,_,kvs++[kv],c2,rfl,pa''.turn (h:=P''.h.update kS (Obj.mapSeq (·.push kv))) (t:=P''.s.toks) (g':=[(kS,aE (kvs++[kv]) c2),(a,aE [] e1)]),g.fs.trans hfs',e.trans hσ',J,?_⟩;have et:mq (items.take (j+1))=mq (items.take j)++[nC (dK items[j])]:=by rw[List.take_succ,ei];exact List.map_append
  rw[et];exact (rk.ext g.fz).append (.cons r .nil)
 ·rw[K8] at hI;refine aK fun G9 k9=> ?_;obtain ⟨P',kvs,m,rfl,pa',hfs',hσ',I',rk⟩:=hI;refine k9 ?_;rw[lv,List.take_length] at rk
  try dsimp only
  refine Kp (listItems_at (ghA I' pa'.G).2 rfl ?_);exact wq I' pa' hfs' hσ' rk (rv.ext pa'.fz) nd h64 k
theorem xG {l:Lam} {fa:Addr} {v:Value} {Q:Value→Shared→Prop} (Gd:Good C) (hfrs:kq A P.fs) (hX:P.fs≠[]) (hdep:A.depth+151<recursionLimit) (huni:A.units+1005<cLine) (I:Inv C P) (L:LamAt keyCE C P.own l fa) (hv:LstV C P items v) (hk:∀ y∈items,(rD y).isSome=true) (nd:(items.map dK).Nodup) (h64:items.length<64)
  (k:∀ v P',Grow P P'→Inv C P'→P'.σ=P.σ→RD C P'.own (.lst (bz e_ items)) v→Q v P'.s):wpAny C.M A (call (.builtin "sorted") [v] [(Str.ofString "key",.ref fa)]) Q E P.s:=by
 refine aK fun G9 k9=> ?_;obtain @⟨la,vs,ln,g,_,rv⟩:=hv;refine k9 ?_;have lv:=rv.length;refine lO (ksk_s1 _ _) (fun x=>ksk_l1 _ _) (ol ⟨_,g,rfl,_,rfl⟩ (o7 h64 lv) _ fun h1 tk mo sz=>⟨by rw[sizeLine_eq];exact o55 h64 lv,?_⟩);rw[ksk_t1];generalize ha:h1.objs.size=a at sz;have ho:(h1.push (seqObj "list" vs.toArray 0)).get? a=some (seqObj "list" vs.toArray 0):=by rw[←ha];exact Kx _ rfl
 obtain ⟨e1,ho1⟩:∃ e1,((h1.push (seqObj "list" vs.toArray 0)).update a (Obj.mapSeq fun _=>(#[]:Array Value))).get? a=some (seqObj "list" #[] e1):=⟨_,get?_update_seq ho fun _=>#[]⟩;have ne:∀ b x,P.h.get? b=some x→b≠a:=fun b x q=>Nat.ne_of_lt (KF (KN q) sz);have kp:qf P.h (cc (h1.push (seqObj "list" vs.toArray 0)) a vs):=fun b x q=>fq (ne b x q) (Kl _ (mo b x q));have n1:New C P (cc (h1.push (seqObj "list" vs.toArray 0)) a vs) a (aE [] e1):=⟨kp,I.off sz,I.out sz,Kl _ (Kl _ ho1)⟩;have J1:=I.hide (t:=tk) n1;generalize hS:(((h1.push (seqObj "list" vs.toArray 0)).update a (Obj.mapSeq fun _=>(#[]:Array Value))).push (seqObj "tuple" vs.toArray 0)).objs.size=kS;have la:a<kS:=by rw[←hS];exact KN (Kl _ ho1)
 have n2:New C (P.hide (cc (h1.push (seqObj "list" vs.toArray 0)) a vs) tk a (aE [] e1)) (cc (h1.push (seqObj "list" vs.toArray 0)) a vs) kS (aE [] 0):=
  ⟨fun _ _ e=>e,(aW (Nat.ne_of_gt la)).trans (I.off (Km sz (KU la))),I.out (Km sz (KU la)),by rw[←hS];exact Kx _ rfl⟩
 have J2:=J1.hide (t:=tk) n2;unfold ksk_tree;refine Kp (listItems_at ho rfl ?_);refine Kp (listUpdate_at ho rfl ?_ (by rw[Kz,sizeLine_eq];exact o55 h64 lv) (KI _));refine Kp (seqEpoch_at ho1 rfl ?_);refine Kp (wpAny_newTuple ?_ (by show vs.length≤_;rw[sizeLine_eq];exact o55 h64 lv));refine Kp (wpAny_newList ?_ (KI _));refine wpAny_holding ?_;have pa:=((Pa.refl P).hide (h:=cc (h1.push (seqObj "list" vs.toArray 0)) a vs) (t:=tk) (o:=aE [] e1) n1.own).hide (h:=cc (h1.push (seqObj "list" vs.toArray 0)) a vs) (t:=tk) (o:=aE [] 0) n2.own;have fin:=sQ (A:=A.in1.in1) (E:=E) (Pf:=fun fin s'=>∃ x,fin= .done (.ret x)∧Q (.ref a) s') Gd hfrs hX hdep (by show A.units+1+1+1003<cLine;exact huni) J2 pa rfl rfl L rv hk nd h64 fun P' g I' e r=>⟨_,rfl,k _ P' g I' e r⟩;rw[←hS] at fin;exact fin
end
noncomputable def lP (l:List D):Option D:=al ((∀ y∈l,(rD y).isSome=true)∧(l.map dK).Nodup∧l.length<64) (.lst (bz e_ l))
noncomputable def FE (s:Sx) (a:CE) (e:Expr):Bool:=nc (fun g es kw _=>cE (fun x _=>x==("sorted":Str)&&dg s.sc x) g&&one (fun e=>fx e&&a.is s e) es&&
 one (fun k=>k.arg==some ("key":Str)&&m8 (fun ps b sc lp=>rG keyCE s ps b sc&&s.lm.any (fun l=>lp.line==l.pos.line&&lp.col==l.pos.col)) k.value) kw) e
section
variable {X:SX} {st:Stmt} {ρ:Rho} {P:Pt} {K:Out→Sto→Prop} {Q:Flow→Shared→Prop} {E:Value→Shared→Prop}
theorem xR (a:CE) {e:Expr} {Q:Value→Shared→Prop} {K:R PV→Sto→Prop} (h:FE X.sx a e=true) (I:Inv X.C P) (G:SEnv X P ρ) (w:Wp K (bnd (a.ev X.ker ρ) (fun x=>g1 (fun u=>(lD u).bind lP) [x]) P.σ)) (p:aV X.toCx (RV X.C) P K Q E):wpAny X.M X.A (eval e X.env) Q E P.s:=by
 refine gu (fun e=>wpAny X.M X.A (eval e X.env) Q E P.s) h fun g es kw pos h=> ?_;refine bM (fun g=>wpAny X.M X.A (eval (.Call g es kw pos) X.env) Q E P.s) (ag (ag h)) fun x px hx=> ?_;refine cS (fun es=>wpAny X.M X.A (eval (.Call (.Name x px) es kw pos) X.env) Q E P.s) (aj (ag h)) fun ae ha=> ?_;refine cS (fun kw=>wpAny X.M X.A (eval (.Call (.Name x px) [ae] kw pos) X.env) Q E P.s) (aj h) fun kwd hk=> ?_;obtain ⟨arg,le,kpos⟩:=kwd;have harg:arg=some ("key":Str):=bg (ag hk);subst harg;refine nL (fun le=>wpAny X.M X.A (eval (.Call (.Name x px) [ae] [⟨some ("key":Str),le,kpos⟩] pos) X.env) Q E P.s) (aj hk) fun ps b sc lp hl=> ?_;have hn:x=("sorted":Str):=bg (ag hx);subst hn;obtain ⟨l,hlm,hpos⟩:=any_some (aj hl);show wpAny X.M X.A (do callWith pos (←eval (.Name ("sorted":Str) px) X.env) [] (backTo pos (starEach [ae] X.env)) (backToKw pos (keywordEach [⟨some ("key":Str),.Lambda ps b sc lp,kpos⟩] X.env))) Q E P.s;refine Kp (dQ (v:=.builtin "sorted") I (aj hx) (by decide+kernel) ?_);refine callWith_kw ?_ (by rw[cw (ag ha)];rfl) (by rw[cw (ag ha)];rfl);rw[cw (ag ha)];refine Calls.spliced_cons (a.ok X.toCx ae ρ P _ _ E (aj ha) I G.toEnvOK (aC w) (p.bind fun z v P1 g1 I1 r1 w p=>Calls.spliced_nil ?_));refine kws_cons (yU hlm I1 (ag hl) (bg (ag hpos)) (bg (aj hpos)) fun fa P2 g2 I2 e2 L=>kws_nil ?_);have r2:RVs X.C P2 [z] [v]:=.cons (r1.ext g2.toExt) .nil;have G2:=(G.ext g1).ext g2;refine eO (fun vs=>wpAny X.M X.A (call (.builtin "sorted") vs [(Str.ofString "key",.ref fa)]) Q E P2.s) I2 r2 (by rw[e2];exact w) fun v u z hnow e k=> ?_;obtain ⟨items,q1,e⟩:=bind_some e;obtain ⟨hm,rfl⟩:=grd e;have d2:=X.dep2;have u2:=X.uni2;refine xG X.good G2.frs G2.ne (Hr d2) (Hq u2) I2 L (fA q1 hnow) hm.1 hm.2.1 hm.2.2 fun v' P3 g3 I3 e3 r3=> ?_;exact p.ok (.d (.lst (bz e_ items))) v' P3 (g2.trans g3) I3 r3 (by rw[e3];exact k)
end
noncomputable def EA (a:CE):C1:=⟨fun K ρ=>br ρ (bnd (a.ev K ρ) fun x=>g1 (fun u=>(lD u).bind lP) [x]) fun v σ=>some (.ret v,σ),fun s=>iO fun v _=>jst (FE s a) v,fun X st ρ P K Q E h I G w p=>g8 (fun st=>wpAny X.M X.A (PySem.exec st X.env) Q E P.s) h fun v pos h=>fc (fun v=>wpAny X.M X.A (PySem.exec (.Return v pos) X.env) Q E P.s) h fun e h=>
 wpAny_Return_some (xR a h I G (b9 w) (p.bind G fun x v P1 g I1 r w G1 p=>p.ret x v P1 (G1.gs (.refl P1)) I1 r w))⟩
noncomputable def zo (u k:D):Option D:=match u with
 | .dct ks vs=>(al (mG k ks=true) ()).bind fun _=>fM k ks vs
 |_=>none
theorem zm {C:Cfg} {A:Around} {P:Pt} {Q E:Value→Shared→Prop} {value e:Expr} {u k z:D} {x y:Value} (hu:A.units+100<cLine) (I:Inv C P) (he:bP e=true) (hx:Now C P x u) (hk:RD C P.own k y) (q:zo u k=some z) (f:Fin C P z Q):wpAny C.M A (subscriptTail value e x y) Q E P.s:=by
 cases u with
 |dct ks ps=>
  obtain ⟨_,e1,q⟩:=bind_some q;have hf:=(grd e1).1;obtain @⟨a,o,vs,h1,h2,h3,h4⟩:DicV C P ks ps x:=hx;obtain ⟨c,ad,z1,z2,h5⟩:=td (ag hf) hk;obtain ⟨xs,h6,h7,z3,z4,h8⟩:=pb I h1 h3 (aj hf);subst z1 z2 z3 z4;have hl:=tU c h4;rw[q] at hl;cases qq:atKey xs c with
  |none=>rw[qq] at hl;exact hl.elim
  |some p=>
   rw[qq] at hl;exact tail_any h6.typeIs slot_dict_getitem.lookup (wpAny_getItem_heap (by show A.units+_<cLine;exact o50 hu) (h5.is I) h6 qq (f.tok I hl _)) (ca he _ _)
 |_=>cases q
noncomputable def B9 (x y:PV):PM PV:=fun σ=>(rd σ x).bind fun u=>(dOf y).bind fun v=>(zo u v).map fun z=>(.ok (.d z),σ)
section
variable {X:Cx} {e:Expr} {ρ:Rho} {P:Pt} {K:R PV→Sto→Prop} {Q E:Value→Shared→Prop}
theorem Az (a i:CE) (h:aY (fun v j _=>bP j&&a.is X.sx v&&i.is X.sx j) e=true) (I:Inv X.C P) (G:EnvOK X P ρ) (w:Wp K (bnd (a.ev X.ker ρ) (fun x=>bnd (i.ev X.ker ρ) fun y=>B9 x y) P.σ)) (p:aV X (RV X.C) P K Q E):wpAny X.M X.A (eval e X.env) Q E P.s:=
 bv (fun e=>wpAny X.M X.A (eval e X.env) Q E P.s) h fun v j pos h=>Subscript_ (a.ok X v ρ P _ _ E (aj (ag h)) I G (aC w) (p.bind fun x v P1 g1 I1 r1 w p=>
  i.ok X j ρ P1 _ _ E (aj h) I1 (G.ext g1) (aC w) (p.bind fun y u P2 g2 I2 r2 w p=>by
   obtain ⟨i,e1,w⟩:=iq w;obtain ⟨j,e2,w⟩:=iq w;cases e4:zo i j with
   |none=>rw[e4] at w;exact w.elim
   |some z=>
   rw[e4] at w;have k:K (.ok (.d z)) P2.σ:=w;exact zm (o51 X.uni) I2 (ag (ag h)) (bh I2 (r1.ext g2.toExt) e1) (kF e2 r2) e4 (p.fin k))))
end
noncomputable def wm (a i:CE):CE:=⟨fun K ρ=>bnd (a.ev K ρ) fun x=>bnd (i.ev K ρ) fun y=>B9 x y,fun s=>aY fun v j _=>bP j&&a.is s v&&i.is s j,fun _ _ _ _ _ _ _ h I G w p=>Az a i h I G w p⟩
noncomputable section
noncomputable def dm:List (List Nat):=[Lj,[102,105,114,115,116],Ll,Lk,Lp,Ln,Lq,Lm,[109,111,115,116],Lr,Ls]
abbrev pS:C1:=(iy false 3 4 (bC (loc 0) 3) (iE (qn cLe cLe (loc 1) (sub (loc 4) (ah 1)) (loc 2))) (loc 4))
def fn_by_day:CS:=(sC pS (sC (EA (loc 3)) sN))
def fn_need_day:CS:=(sC (sIf (tor (bH (aJ cLt (loc 0) (ah 0)) (bH (aJ cGt (loc 0) (glb "LAST_DAY" (some 99999,[]))) eA))) (sC (bZ 4 [110,111,32,100,97,121]) sN) sN) sN)
abbrev kD:C1:=(sIf (aJ cLt (loc 1) (loc 0)) (sC (bZ 4 [116,104,101,32,108,97,115,116,32,100,97,121,32,105,115,32,98,101,108,111,119,32,116,104,101,32,102,105,114,115,116,32,111,110,101]) sN) sN)
def fn_need_days:CS:=(sC (aM (ao 3 (clC (loc 0) clN))) (sC (aM (ao 3 (clC (loc 1) clN))) (sC kD sN)))
abbrev nF:C1:=(aR (ao 126 (clC (loc 0) (clC (loc 1) (clC (loc 2) clN)))))
def fn_journal:CS:=(sC (aM (ao 163 (clC (loc 1) (clC (loc 2) clN)))) (sC nF sN))
abbrev tN:C1:=(aR (bi fTuple (clC (ofF false (comp 1 (loc 0) noIf (pH (tof (isi kI (loc 1))) (bi mH (clC (loc 1) clN)) (loc 1)))) clN)))
def lw_copy:CS:=(sC tN sN)
def bk_added_up:CS:=(sC (aF 4 (ah 0)) (sC (cN 5 (bC (loc 0) 3) (sC (sIf (tor (bH (aJ cIs (loc 3) eH) (bH (aJ cLe (sub (loc 5) (ah 1)) (loc 3)) eA))) (sC (cN 6 (sub (loc 5) (ah 3)) (sC (sIf (lH (cB (aJ cEq (sub (loc 6) (ah 0)) (loc 1)) (cB (aJ cEq (sub (loc 6) (ah 1)) (loc 2)) gY))) (sC (aF 4 (bin oAdd (loc 4) (sub (loc 6) (ah 2)))) sN) sN) sN)) sN) sN) sN)) (sC (aR (loc 4)) sN)))
def fn_need_currency:CS:=(sC (sIf (tor (bH (aJ cNe (bi fLen (clC (loc 0) clN)) (ah 3)) (bH (eU (tof (bi fAll (clC (ofF false (comp 1 (loc 0) noIf (cmp z_ (loc 1) (glb "GREAT" (none,Lu))))) clN)))) eA))) (sC (bZ 2 [110,111,32,99,117,114,114,101,110,99,121]) sN) sN) sN)
def bk_need_account:CS:=(sC (sIf (aJ cNotIn (loc 1) (bC (loc 0) 1)) (sC (bZ 11 [110,111,32,115,117,99,104,32,97,99,99,111,117,110,116]) sN) sN) sN)
abbrev fn_statement_f1:CS:=(sC (sIf (lH (cB (aJ cEq (sub (loc 9) (ah 0)) (loc 1)) (cB (aJ cEq (sub (loc 9) (ah 1)) (loc 2)) gY))) (sC (aF 6 (bin oAdd (loc 6) (sub (loc 9) (ah 2)))) (sC (aM (bm aH (loc 7) (clC (tup (clC (sub (loc 8) (ah 1)) (clC (sub (loc 8) (ah 0)) (clC (sub (loc 9) (ah 2)) (clC (loc 6) clN))))) clN))) sN)) sN) sN)
abbrev fn_statement_f2:CS:=(sC (cN 9 (sub (loc 8) (ah 3)) fn_statement_f1) sN)
abbrev kC:C1:=(aF 5 (meth (loc 0) 26 (clC (loc 1) (clC (loc 2) (clC (bin cD (loc 3) (ah 1)) clN)))))
abbrev kB:C1:=(cN 8 (ao 126 (clC (loc 0) (clC (loc 3) (clC (loc 4) clN)))) fn_statement_f2)
def fn_statement:CS:=(sC (aM (meth (loc 0) 15 (clC (loc 1) clN))) (sC (aM (ao 5 (clC (loc 2) clN))) (sC (aM (ao 163 (clC (loc 3) (clC (loc 4) clN)))) (sC kC (sC (aF 6 (loc 5)) (sC (aF 7 (eJ clN)) (sC kB (s0 7 (sC (aR (tup (clC (loc 5) (clC (loc 7) (clC (loc 6) clN))))) sN)))))))))
abbrev fn_common_f1:CS:=(sC (aF 2 (bin oMod (loc 0) (loc 1))) (sC (aF 0 (loc 1)) (sC (aF 1 (loc 2)) sN)))
def fn_common:CS:=(sC (C2 100000 (aJ cNe (loc 1) (ah 0)) fn_common_f1) (sC (aR (loc 0)) sN))
abbrev pR:C1:=(aF 2 (ao 131 (clC (bi J8 (clC (loc 0) clN)) (clC (loc 1) clN))))
abbrev pQ:C1:=(aR (tup (clC (bin oDiv (loc 0) (loc 2)) (clC (bin oDiv (loc 1) (loc 2)) clN))))
def fn_lowest:CS:=(sC pR (sC pQ sN))
abbrev fn_pairs_to_f1:CS:=(sC (xQ (loc 2) (tup (clC (sub (loc 4) (ah 0)) (clC (sub (loc 4) (ah 1)) clN))) (dz true)) sN)
abbrev fn_pairs_to_f2:CS:=(sC (cN 4 (sub (loc 3) (ah 3)) fn_pairs_to_f1) sN)
abbrev mD:C1:=(cN 3 (ao 126 (clC (loc 0) (clC (ah 0) (clC (loc 1) clN)))) fn_pairs_to_f2)
def fn_pairs_to:CS:=(sC (aF 2 hW) (sC mD (sC (aR (bi fSorted (clC (loc 2) clN))) sN)))
abbrev fn_sheet_f1:CS:=(sC (aF 4 (meth (loc 0) 26 (clC (sub (loc 3) (ah 0)) (clC (sub (loc 3) (ah 1)) (clC (loc 1) clN))))) (sC (sIf (aJ cNe (loc 4) (ah 0)) (sC (aM (bm aH (loc 2) (clC (tup (clC (sub (loc 3) (ah 0)) (clC (sub (loc 3) (ah 1)) (clC (loc 4) clN)))) clN))) sN) sN) sN))
abbrev rS:C1:=(cN 3 (ao 127 (clC (loc 0) (clC (loc 1) clN))) fn_sheet_f1)
def fn_sheet:CS:=(sC (aM (ao 3 (clC (loc 1) clN))) (sC (aF 2 (eJ clN)) (sC rS (sC (aR (loc 2)) sN))))
def bk_rate:CS:=(sC (aM (ao 5 (clC (loc 1) clN))) (sC (aM (ao 3 (clC (loc 2) clN))) (sC (sIf (aJ cEq (loc 1) (bC (loc 0) 0)) (sC (aR (tup (clC (ah 1) (clC (ah 1) clN)))) sN) sN) (sC (aF 3 (bm wM (bC (loc 0) 2) (clC (loc 1) (clC v0 clN)))) (sC (iy false 4 5 (loc 3) (iE (aJ cLe (loc 5) (loc 2))) (loc 5)) (sC (sIf (aJ cEq (bi fLen (clC (loc 4) clN)) (ah 0)) (sC (bZ 13 [110,111,32,114,97,116,101,32,102,111,114,32,116,104,105,115,32,100,97,121]) sN) sN) (sC (aR (sub (loc 3) (bi fMax1 (clC (loc 4) clN)))) sN)))))))
abbrev fn_worth_f1:CS:=(sC (sIf (aJ cEq (sub (loc 5) (ah 0)) (loc 1)) (sC (aF 6 (meth (loc 0) 14 (clC (sub (loc 5) (ah 1)) (clC (loc 2) clN)))) (sC (aF 3 (bin oAdd (bin oMul (loc 3) (sub (loc 6) (ah 1))) (bin oMul (bin oMul (sub (loc 5) (ah 2)) (sub (loc 6) (ah 0))) (loc 4)))) (sC (aF 4 (bin oMul (loc 4) (sub (loc 6) (ah 1)))) sN))) sN) sN)
abbrev j2:C1:=(cN 5 (ao 128 (clC (loc 0) (clC (loc 2) clN))) fn_worth_f1)
def fn_worth:CS:=(sC (aM (meth (loc 0) 15 (clC (loc 1) clN))) (sC (aM (ao 3 (clC (loc 2) clN))) (sC (aF 3 (ah 0)) (sC (aF 4 (ah 1)) (sC j2 (sC (aR (ao 132 (clC (loc 3) (clC (loc 4) clN)))) sN))))))
abbrev ju:C1:=(AH (sC (aR (ao 133 (clC (loc 0) (clC (loc 1) (clC (loc 2) clN))))) sN) (hC 13 (sC (aR eH) sN) hN))
def lw_worth_told:CS:=(sC ju sN)
abbrev ku:C1:=(AH (sC (aR (meth (loc 0) 14 (clC (loc 1) (clC (loc 2) clN)))) sN) (hC 13 (sC (aR eH) sN) hN))
def lw_rate_told:CS:=(sC ku sN)
abbrev fJ:CS:=(sC (aM (bm aH (loc 3) (clC (ao 171 (clC (loc 0) (clC (loc 5) (clC (loc 4) clN)))) clN))) sN)
abbrev fI:CS:=(sC (aM (bm aH (loc 3) (clC (ao 165 (clC (loc 0) (clC (loc 6) (clC (loc 4) clN)))) clN))) sN)
abbrev lw_days_told_f3:CS:=(sC (aM (bm aH (loc 3) (clC (bi mH (clC (ao 128 (clC (loc 0) (clC (loc 4) clN))) clN)) clN))) (sC (cN 5 (key (loc 1) 2 Ll) fJ) (sC (cN 6 (slc (key (loc 1) 0 Lj) noP (atP (ah 2))) fI) sN)))
def lw_days_told:CS:=(sC (aF 3 (eJ clN)) (sC (cN 4 (loc 2) lw_days_told_f3) (sC (aR (loc 3)) sN)))
abbrev jL:C1:=(aR (meth (loc 0) 26 (clC (loc 1) (clC (loc 2) (clC (loc 3) clN)))))
def bk_balance_on:CS:=(sC (aM (meth (loc 0) 15 (clC (loc 1) clN))) (sC (aM (ao 5 (clC (loc 2) clN))) (sC (aM (ao 3 (clC (loc 3) clN))) (sC jL sN))))
def bk_entry:CS:=(sC (sIf (tor (bH (aJ cLt (loc 1) (ah 1)) (bH (aJ cGt (loc 1) (bi fLen (clC (bC (loc 0) 3) clN))) eA))) (sC (bZ 12 [110,111,32,115,117,99,104,32,101,110,116,114,121]) sN) sN) (sC (aR (sub (bC (loc 0) 3) (bin cD (loc 1) (ah 1)))) sN))
abbrev fn_moved_f1:CS:=(sC (sIf (lH (cB (aJ cEq (tup (clC (sub (loc 7) (ah 0)) (clC (sub (loc 7) (ah 1)) clN))) (loc 1)) (cB (aJ cGt (sub (loc 7) (ah 2)) (ah 0)) gY))) (sC (aF 4 (bin oAdd (loc 4) (sub (loc 7) (ah 2)))) sN) sN) (sC (sIf (lH (cB (aJ cEq (tup (clC (sub (loc 7) (ah 0)) (clC (sub (loc 7) (ah 1)) clN))) (loc 1)) (cB (aJ cLt (sub (loc 7) (ah 2)) (ah 0)) gY))) (sC (aF 5 (bin cD (loc 5) (sub (loc 7) (ah 2)))) sN) sN) sN))
abbrev fn_moved_f2:CS:=(sC (cN 7 (sub (loc 6) (ah 3)) fn_moved_f1) sN)
abbrev rT:C1:=(cN 6 (ao 126 (clC (loc 0) (clC (loc 2) (clC (loc 3) clN)))) fn_moved_f2)
def fn_moved:CS:=(sC (aF 4 (ah 0)) (sC (aF 5 (ah 0)) (sC rT (sC (aR (tup (clC (loc 4) (clC (loc 5) clN)))) sN))))
def bk_periods:CS:=(sC (aR (bi fLen (clC (bC (loc 0) 5) clN))) sN)
abbrev fn_period_f1:CS:=(sC (aF 6 (meth (loc 0) 26 (clC (sub (loc 5) (ah 0)) (clC (sub (loc 5) (ah 1)) (clC (bin cD (loc 3) (ah 1)) clN))))) (sC (aF 7 (ao 146 (clC (loc 0) (clC (loc 5) (clC (loc 3) (clC (loc 2) clN)))))) (sC (aM (bm aH (loc 4) (clC (tup (clC (sub (loc 5) (ah 0)) (clC (sub (loc 5) (ah 1)) (clC (loc 6) (clC (sub (loc 7) (ah 0)) (clC (sub (loc 7) (ah 1)) (clC (bin cD (bin oAdd (loc 6) (sub (loc 7) (ah 0))) (sub (loc 7) (ah 1))) clN))))))) clN))) sN)))
abbrev i0:C1:=(sIf (tor (bH (aJ cLt (loc 1) (ah 1)) (bH (aJ cGt (loc 1) (meth (loc 0) 22 clN)) eA))) (sC (bZ 15 [110,111,32,115,117,99,104,32,112,101,114,105,111,100]) sN) sN)
abbrev iZ:C1:=(sIf (aJ cGt (loc 1) (ah 1)) (sC (aF 3 (bin oAdd (sub (bC (loc 0) 5) (bin cD (loc 1) (ah 2))) (ah 1))) sN) sN)
abbrev iY:C1:=(cN 5 (ao 127 (clC (loc 0) (clC (loc 2) clN))) fn_period_f1)
def fn_period:CS:=(sC i0 (sC (aF 2 (sub (bC (loc 0) 5) (bin cD (loc 1) (ah 1)))) (sC (aF 3 (ah 0)) (sC iZ (sC (aF 4 (eJ clN)) (sC iY (s0 4 (sC (aR (tup (clC (loc 3) (clC (loc 2) (clC (loc 4) clN))))) sN))))))))
abbrev jV:CS:=(sC (aM (bm aH (loc 8) (clC (ao 170 (clC (ao 164 (clC (loc 0) (clC (loc 9) (clC (loc 5) (clC (ah 0) (clC (loc 2) clN)))))) clN)) clN))) sN)
abbrev q8:C1:=(iy false 6 17 (bi fRange (clC (key (loc 1) 9 Lr) clN)) noIf (ao 170 (clC (ao 147 (clC (loc 0) (clC (bin oAdd (loc 17) (ah 1)) clN))) clN)))
abbrev q7:C1:=(iy false 7 16 (bi fRange (clC (loc 3) clN)) noIf (meth (loc 0) 8 (clC (bin oAdd (loc 16) (ah 1)) clN)))
abbrev qZ:C1:=(cN 9 (slc (key (loc 1) 0 Lj) noP (atP (key (loc 1) 10 Ls))) jV)
abbrev qY:C1:=(iy false 10 15 (slc (key (loc 1) 0 Lj) noP (atP (key (loc 1) 10 Ls))) noIf (meth (loc 0) 61 (clC (loc 15) (clC (loc 5) (clC (loc 2) clN)))))
abbrev qX:C1:=(iy false 11 14 (slc (key (loc 1) 0 Lj) noP (atP (key (loc 1) 10 Ls))) noIf (meth (loc 0) 61 (clC (loc 14) (clC (loc 5) (clC (loc 4) clN)))))
abbrev qW:C1:=(aF 12 (ao 172 (clC (loc 0) (clC (loc 1) (clC (lst (clC (loc 4) (clC (loc 2) clN))) clN)))))
abbrev qU:C1:=(aF 13 (lst (clC (ao 170 (clC (ao 164 (clC (loc 0) (clC (aU Lo) (clC (loc 5) (clC (loc 4) (clC (loc 2) clN)))))) clN)) (clC (bi mH (clC (ao 166 (clC (loc 0) (clC (loc 4) (clC (loc 2) clN)))) clN)) clN))))
abbrev qT:C1:=(aR (lst (clC (loc 6) (clC (loc 7) (clC (loc 8) (clC (loc 10) (clC (loc 11) (clC (loc 12) (clC (bi mH (clC (ao 166 (clC (loc 0) (clC (ah 0) (clC (loc 2) clN)))) clN)) (clC (loc 13) clN))))))))))
def lw_told4:CS:=(sC q8 (sC q7 (sC (aF 8 (eJ clN)) (sC qZ (sC qY (sC qX (sC qW (sC qU (s0 8 (sC qT sN))))))))))
abbrev lw_sheet_f1:CS:=(sC (aF 5 (tup (clC (sub (loc 4) (ah 0)) (clC (sub (loc 4) (ah 1)) clN)))) (sC (xQ (loc 2) (loc 5) (bin oAdd (Ad (loc 2) (clC (loc 5) (clC (ah 0) clN))) (sub (loc 4) (ah 2)))) sN))
abbrev lw_sheet_f2:CS:=(sC (sIf (aJ cLe (sub (loc 3) (ah 1)) (loc 1)) (sC (cN 4 (sub (loc 3) (ah 3)) lw_sheet_f1) sN) sN) sN)
abbrev re:C1:=(cN 3 (key (loc 0) 3 Lk) lw_sheet_f2)
abbrev rc:C1:=(aR (ofF false (comp 6 (bi fSorted (clC (bi zA (clC (loc 2) clN)) clN)) (iE (aJ cNe (wm (loc 2) (loc 6)) (ah 0))) (tup (clC (sub (loc 6) (ah 0)) (clC (sub (loc 6) (ah 1)) (clC (wm (loc 2) (loc 6)) clN)))))))
def lw_sheet:CS:=(sC (aF 2 hW) (sC re (sC rc sN)))
abbrev pt:C1:=(aR (sub (bin oAdd (lst (clC (neg (ah 1)) clN)) (key (loc 0) 5 Ln)) (neg (ah 1))))
def lw_closed:CS:=(sC pt sN)
def bk_closed:CS:=(sC (sIf (aJ cEq (bi fLen (clC (bC (loc 0) 5) clN)) (ah 0)) (sC (aR (neg (ah 1))) sN) sN) (sC (aR (sub (bC (loc 0) 5) (bin cD (bi fLen (clC (bC (loc 0) 5) clN)) (ah 1)))) sN))
def bk_need_open:CS:=(sC (aM (ao 3 (clC (loc 1) clN))) (sC (sIf (aJ cLe (loc 1) (meth (loc 0) 2 clN)) (sC (bZ 8 [97,32,99,108,111,115,101,100,32,100,97,121]) sN) sN) sN))
def bk_tell_rate:CS:=(sC (aM (ao 5 (clC (loc 1) clN))) (sC (aM (meth (loc 0) 4 (clC (loc 2) clN))) (sC (sIf (tor (bH (aJ cEq (loc 1) (bC (loc 0) 0)) (bH (eU (qn cLe cLe (ah 1) (loc 3) (glb "GREATEST" (some 1000000000,[])))) (bH (eU (qn cLe cLe (ah 1) (loc 4) (glb "GREATEST" (some 1000000000,[])))) eA)))) (sC (bZ 6 [110,111,32,114,97,116,101]) sN) sN) (sC (aF 5 (bi vQ (clC (bm wM (bC (loc 0) 2) (clC (loc 1) (clC v0 clN))) clN))) (sC (lT (loc 5) (loc 2) (tup (clC (loc 3) (clC (loc 4) clN)))) (s0 5 (sC (lT (bC (loc 0) 2) (loc 1) (loc 5)) (sC (aM (bm aH (bC (loc 0) 6) (clC (tup (clC (aU [114,97,116,101]) (clC (loc 1) (clC (loc 2) (clC (loc 3) (clC (loc 4) clN)))))) clN))) sN))))))))
abbrev wQ:C1:=(sIf (aJ cEq (bin oMod (loc 1) (ah 3)) (ah 0)) (sC (aR (bin oAdd (bin oAdd (loc 2) (ah 1)) (bin oMod (bin oDiv (loc 1) (ah 3)) (bin cD (ah 99999) (loc 2))))) sN) sN)
abbrev wP:C1:=(aR (bi vO (clC (ah 99999) (clC (bin oAdd (bin oAdd (loc 2) (ah 1)) (bin oMod (bin oDiv (loc 1) (ah 3)) (ah 7))) clN))))
def lw_day:CS:=(sC (aF 2 (ao 70 (clC (loc 0) clN))) (sC wQ (sC wP sN)))
abbrev tz:C1:=(aF 5 (sub (key (loc 1) 2 Ll) (bin oAdd (ah 1) (bin oMod (loc 3) (bin cD (bi fLen (clC (key (loc 1) 2 Ll) clN)) (ah 1))))))
abbrev tx:C1:=(aF 6 (tup (clC (loc 5) (clC (loc 4) (clC (bin oAdd (ah 1) (bin oMod (bin oDiv (loc 3) (ah 2)) (bin oPow (ah 10) (ah 9)))) (clC (bin oAdd (ah 1) (bin oMod (bin oDiv (loc 2) (ah 7)) (bin oPow (ah 10) (ah 9)))) clN))))))
abbrev lw_tell_s4:C1:=(sIf (aJ cGt (bin oMod (bin oDiv (loc 3) (ah 3)) (ah 3)) (ah 0)) (sC (aF 6 (tup (clC (sub (loc 6) (ah 0)) (clC (loc 4) (clC (bin oAdd (ah 1) (bin oMod (bin oDiv (loc 3) (ah 2)) (ah 40))) (clC (bin oAdd (ah 1) (bin oMod (bin oDiv (loc 2) (ah 7)) (ah 40))) clN)))))) sN) sN)
abbrev tw:C1:=(aM (bm aH (key (loc 1) 4 Lp) (clC (loc 6) clN)))
abbrev tu:C1:=(aM (bm aH (key (loc 1) 7 Lm) (clC (tup (clC (aU [114,97,116,101]) (clC (sub (loc 6) (ah 0)) (clC (loc 4) (clC (sub (loc 6) (ah 2)) (clC (sub (loc 6) (ah 3)) clN)))))) clN)))
abbrev tn:C1:=(aR (cmp cIs (meth (loc 0) 6 (clC (sub (loc 6) (ah 0)) (clC (loc 4) (clC (sub (loc 6) (ah 2)) (clC (sub (loc 6) (ah 3)) clN))))) eH))
def lw_tell:CS:=(sC (aF 4 (ao 71 (clC (loc 1) (clC (loc 2) clN)))) (sC tz (sC tx (sC lw_tell_s4 (sC tw (sC tu (sC tn sN)))))))
def lw_cell:CS:=(sC (sIf (aJ cLt (loc 1) (bi fLen (clC (loc 0) clN))) (sC (aR (sub (loc 0) (loc 1))) sN) sN) (sC (aR (ah 0)) sN))
def fn_is_name:CS:=(sC (sIf (tor (bH (aJ cLt (bi fLen (clC (loc 0) clN)) (ah 1)) (bH (aJ cGt (bi fLen (clC (loc 0) clN)) (ah 12)) (bH (aJ BU (sub (loc 0) (ah 0)) (glb "SMALL" (none,Lv))) eA)))) (sC (aR (dz false)) sN) sN) (sC (aR (bi fAll (clC (ofF false (comp 1 (loc 0) noIf (cmp z_ (loc 1) (bin oAdd (glb "SMALL" (none,Lv)) (glb "FIGURES" (none,[48,49,50,51,52,53,54,55,56,57])))))) clN))) sN))
def bk_admit:CS:=(sC (sIf (eU (tof (ao 36 (clC (loc 1) clN)))) (sC (bZ 1 [110,111,32,110,97,109,101,32,111,102,32,97,110,32,97,99,99,111,117,110,116]) sN) sN) (sC (sIf (aJ cIn (loc 1) (bC (loc 0) 1)) (sC (bZ 9 [97,110,32,97,99,99,111,117,110,116,32,116,104,97,116,32,105,115,32,116,104,101,114,101,32,97,108,114,101,97,100,121]) sN) sN) (sC (aM (bm aH (bC (loc 0) 1) (clC (loc 1) clN))) (sC (aM (bm aH (bC (loc 0) 6) (clC (tup (clC (aU [97,99,99,111,117,110,116]) (clC (loc 1) clN))) clN))) sN))))
def lw_name:CS:=(sC (aF 1 (aU Lx)) (sC (aF 2 (sub (loc 1) (bin oMod (loc 0) (ah 26)))) (sC (aF 3 (bin oDiv (loc 0) (ah 26))) (sC (cN 4 (bi fRange (clC (bin oMod (loc 3) (ah 12)) clN)) (sC (aF 2 (bin oAdd (loc 2) (sub (loc 1) (bin oMod (bin oAdd (bin oDiv (loc 3) (ah 12)) (bin oMul (bin oDiv (loc 3) (ah 432)) (loc 4))) (ah 36))))) sN)) (sC (aR (loc 2)) sN)))))
def bk_close:CS:=(sC (aM (meth (loc 0) 4 (clC (loc 1) clN))) (sC (aM (bm aH (bC (loc 0) 5) (clC (loc 1) clN))) (sC (aM (bm aH (bC (loc 0) 6) (clC (tup (clC (aU [99,108,111,115,101]) (clC (loc 1) clN))) clN))) (sC (aR (bi fLen (clC (bC (loc 0) 5) clN))) sN))))
abbrev rb:C1:=(aM (bm aH (key (loc 1) 5 Ln) (clC (loc 3) clN)))
abbrev q_:C1:=(aM (bm aH (key (loc 1) 7 Lm) (clC (tup (clC (aU [99,108,111,115,101]) (clC (loc 3) clN))) clN)))
abbrev q9:C1:=(aR (cmp cEq (meth (loc 0) 11 (clC (loc 3) clN)) (bi fLen (clC (key (loc 1) 5 Ln) clN))))
def lw_shut2:CS:=(sC (aF 3 (ao 71 (clC (loc 1) (clC (loc 2) clN)))) (sC rb (sC q_ (sC q9 sN))))
def bk_enter:CS:=(sC (aF 5 (bin oAdd (bi fLen (clC (bC (loc 0) 3) clN)) (ah 1))) (sC (aM (bm aH (bC (loc 0) 3) (clC (tup (clC (loc 5) (clC (loc 1) (clC (loc 2) (clC (loc 3) (clC (loc 4) clN)))))) clN))) (sC (aR (loc 5)) sN)))
def bk_contrary:CS:=(sC (aF 3 (meth (loc 0) 8 (clC (loc 1) clN))) (sC (sIf (tor (bH (aJ cNe (sub (loc 3) (ah 4)) (ah 0)) (bH (aJ FV (loc 1) (bC (loc 0) 4)) eA))) (sC (bZ 10 [97,110,32,101,110,116,114,121,32,116,104,97,116,32,99,97,110,39,116,32,98,101,32,116,97,107,101,110,32,98,97,99,107]) sN) sN) (sC (aM (meth (loc 0) 4 (clC (loc 2) clN))) (sC (aF 4 (bi fTuple (clC (ofF false (comp 5 (sub (loc 3) (ah 3)) noIf (tup (clC (sub (loc 5) (ah 0)) (clC (sub (loc 5) (ah 1)) (clC (neg (sub (loc 5) (ah 2))) clN)))))) clN))) (sC (lT (bC (loc 0) 4) (loc 1) (dz true)) (sC (aM (bm aH (bC (loc 0) 6) (clC (tup (clC (aU [98,97,99,107]) (clC (loc 1) (clC (loc 2) clN)))) clN))) (sC (aR (meth (loc 0) 7 (clC (loc 2) (clC (sub (loc 3) (ah 2)) (clC (loc 4) (clC (loc 1) clN)))))) sN)))))))
abbrev wO:C1:=(aF 5 (bin oAdd (bi fLen (clC (key (loc 0) 3 Lk) clN)) (ah 1)))
abbrev wN:C1:=(aM (bm aH (key (loc 0) 3 Lk) (clC (tup (clC (loc 5) (clC (loc 1) (clC (loc 2) (clC (bi fTuple (clC (loc 3) clN)) (clC (loc 4) clN)))))) clN)))
def lw_put:CS:=(sC wO (sC wN (sC (aR (loc 5)) sN)))
abbrev mh:C1:=(aF 4 (bin oAdd (ah 1) (bin oMod (loc 3) (bi vP (clC (ah 1) (clC (bi fLen (clC (key (loc 1) 3 Lk) clN)) clN))))))
abbrev mf:C1:=(sIf (tor (bH (aJ cEq (key (loc 1) 3 Lk) (lst clN)) (bH (aJ cIn (loc 4) (key (loc 1) 6 Lq)) (bH (aJ cNe (sub (sub (key (loc 1) 3 Lk) (bin cD (loc 4) (ah 1))) (ah 4)) (ah 0)) eA)))) (sC (aR (dz true)) sN) sN)
abbrev me:C1:=(aF 5 (sub (key (loc 1) 3 Lk) (bin cD (loc 4) (ah 1))))
abbrev lw_contrary_s5:C1:=(iy false 7 9 (sub (loc 5) (ah 3)) noIf (tup (clC (sub (loc 9) (ah 0)) (clC (sub (loc 9) (ah 1)) (clC (bin cD (ah 0) (sub (loc 9) (ah 2))) clN)))))
abbrev md:C1:=(aF 8 (ao 73 (clC (loc 1) (clC (loc 6) (clC (sub (loc 5) (ah 2)) (clC (loc 7) (clC (loc 4) clN)))))))
abbrev ma:C1:=(aM (bm aH (key (loc 1) 6 Lq) (clC (loc 4) clN)))
abbrev l_:C1:=(aM (bm aH (key (loc 1) 7 Lm) (clC (tup (clC (aU [98,97,99,107]) (clC (loc 4) (clC (loc 6) clN)))) clN)))
abbrev l9:C1:=(aR (cmp cEq (meth (loc 0) 9 (clC (loc 4) (clC (loc 6) clN))) (loc 8)))
def lw_contrary:CS:=(sC mh (sC mf (sC me (sC (aF 6 (ao 71 (clC (loc 1) (clC (loc 2) clN)))) (sC lw_contrary_s5 (sC md (sC ma (sC l_ (sC l9 sN)))))))))
def fn_is_amount:CS:=(sC (aR (F5 (El (cmp cNe (loc 0) (ah 0)) (F4 (BP cLt cLt (neg (glb "BOUND" (some 1000000000000000000000000000000,[]))) (loc 0) (glb "BOUND" (some 1000000000000000000000000000000,[]))))))) sN)
def fn_changed:CS:=(sC (aR (bin oDiv (bin oMul (bin oMul (loc 0) (sub (loc 1) (ah 0))) (sub (loc 2) (ah 1))) (bin oMul (sub (loc 1) (ah 1)) (sub (loc 2) (ah 0))))) sN)
def fn_need_note:CS:=(sC (sIf (tor (bH (aJ cGt (bi fLen (clC (loc 0) clN)) (ah 40)) (bH (eU (tof (bi fAll (clC (ofF false (comp 1 (loc 0) noIf (BP cLeS cLeS (aU [32]) (loc 1) (aU [126])))) clN)))) eA))) (sC (bZ 5 [110,111,32,110,111,116,101]) sN) sN) sN)
abbrev nJ:C1:=(sIf (aJ cEq (loc 4) (loc 7)) (sC (bZ 2 [98,111,116,104,32,99,117,114,114,101,110,99,105,101,115,32,97,114,101,32,116,104,101,32,115,97,109,101]) sN) sN)
abbrev nI:C1:=(sIf (tor (bH (aJ cLt (loc 5) (ah 1)) (bH (eU (tof (ao 12 (clC (loc 5) clN)))) eA))) (sC (bZ 3 [110,111,32,97,109,111,117,110,116,32,116,111,32,99,111,110,118,101,114,116]) sN) sN)
abbrev nH:C1:=(aF 8 (ao 13 (clC (loc 5) (clC (meth (loc 0) 14 (clC (loc 4) (clC (loc 1) clN))) (clC (meth (loc 0) 14 (clC (loc 7) (clC (loc 1) clN))) clN)))))
abbrev mW:C1:=(sIf (aJ cEq (loc 8) (ah 0)) (sC (bZ 14 [110,111,116,104,105,110,103,32,105,115,32,103,111,116]) sN) sN)
abbrev mV:C1:=(sIf (eU (tof (ao 12 (clC (loc 8) clN)))) (sC (bZ 3 [116,111,111,32,109,117,99,104,32,105,115,32,103,111,116]) sN) sN)
abbrev mU:C1:=(aF 9 (tup (clC (tup (clC (loc 3) (clC (loc 4) (clC (neg (loc 5)) clN)))) (clC (tup (clC (aU Lo) (clC (loc 4) (clC (loc 5) clN)))) (clC (tup (clC (aU Lo) (clC (loc 7) (clC (neg (loc 8)) clN)))) (clC (tup (clC (loc 6) (clC (loc 7) (clC (loc 8) clN)))) clN))))))
abbrev mT:C1:=(aM (bm aH (bC (loc 0) 6) (clC (tup (clC (aU Lw) (clC (loc 1) (clC (loc 2) (clC (loc 3) (clC (loc 4) (clC (loc 5) (clC (loc 6) (clC (loc 7) clN))))))))) clN)))
abbrev mS:C1:=(aR (meth (loc 0) 7 (clC (loc 1) (clC (loc 2) (clC (loc 9) (clC (ah 0) clN))))))
def bk_convert:CS:=(sC (aM (meth (loc 0) 4 (clC (loc 1) clN))) (sC (aM (ao 16 (clC (loc 2) clN))) (sC (aM (meth (loc 0) 15 (clC (loc 3) clN))) (sC (aM (meth (loc 0) 15 (clC (loc 6) clN))) (sC (aM (ao 5 (clC (loc 4) clN))) (sC (aM (ao 5 (clC (loc 7) clN))) (sC nJ (sC nI (sC nH (sC mW (sC mV (sC mU (sC mT (sC mS sN))))))))))))))
abbrev lw_note_f1:CS:=(sC (aF 2 (bin oAdd (loc 2) (sub (loc 1) (bin oMod (bin oAdd (bin oDiv (loc 0) (ah 41)) (bin oMul (bin oDiv (loc 0) (ah 3854)) (loc 3))) (ah 94))))) sN)
abbrev tM:C1:=(aF 1 (aU Ly))
abbrev tL:C1:=(aF 1 (bin oAdd (loc 1) (aU Lz)))
abbrev tJ:C1:=(aF 1 (bin oAdd (loc 1) (aU LA)))
abbrev tI:C1:=(cN 3 (bi fRange (clC (bin oMod (loc 0) (ah 41)) clN)) lw_note_f1)
def lw_note:CS:=(sC tM (sC tL (sC tJ (sC (aF 2 (aU [])) (sC tI (sC (aR (loc 2)) sN))))))
abbrev lw_rate2_f1:CS:=(sC (sIf (lH (cB (aJ cEq (sub (loc 4) (ah 0)) (loc 1)) (cB (aJ cLe (sub (loc 4) (ah 1)) (loc 2)) (cB (tor (bH (aJ cIs (loc 3) eH) (bH (aJ cGe (sub (loc 4) (ah 1)) (sub (loc 3) (ah 1))) eA))) gY)))) (sC (aF 3 (loc 4)) sN) sN) sN)
abbrev rf:C1:=(sIf (aJ cEq (loc 1) (sub (key (loc 0) 2 Ll) (ah 0))) (sC (aR (tup (clC (ah 1) (clC (ah 1) clN)))) sN) sN)
abbrev jW:C1:=(aR (tup (clC (sub (loc 3) (ah 2)) (clC (sub (loc 3) (ah 3)) clN))))
def lw_rate2:CS:=(sC rf (sC (aF 3 eH) (sC (cN 4 (key (loc 0) 4 Lp) lw_rate2_f1) (sC (sIf (aJ cIs (loc 3) eH) (sC (aR eH) sN) sN) (sC jW sN)))))
abbrev pu:C1:=(aR (bin oAdd (ah 1) (bin oMod (bin oDiv (loc 0) (ah 4)) (pH (aJ cEq (bin oMod (loc 0) (ah 4)) (ah 0)) (bin oMul (ah 4) (bin oPow (ah 10) (ah 29))) (ah 500)))))
def lw_amount:CS:=(sC pu sN)
abbrev ny:C1:=(aF 5 (bi fLen (clC (key (loc 1) 2 Ll) clN)))
abbrev nx:C1:=(aF 6 (sub (key (loc 1) 2 Ll) (bin oMod (loc 3) (loc 5))))
abbrev nv:C1:=(aF 7 (sub (key (loc 1) 2 Ll) (bin oMod (bin oAdd (bin oAdd (loc 3) (ah 1)) (bin oMod (bin oDiv (loc 3) (loc 5)) (bin cD (loc 5) (ah 1)))) (loc 5))))
abbrev nu:C1:=(aF 8 (sub (key (loc 1) 0 Lj) (bin oMod (bin oDiv (loc 3) (ah 6)) (bi fLen (clC (key (loc 1) 0 Lj) clN)))))
abbrev nt:C1:=(aF 9 (sub (key (loc 1) 0 Lj) (bin oMod (bin oDiv (loc 3) (ah 7)) (bi fLen (clC (key (loc 1) 0 Lj) clN)))))
abbrev nq:C1:=(aF 11 (lst (clC (ao 75 (clC (loc 1) (clC (loc 6) (clC (loc 4) clN)))) (clC (ao 75 (clC (loc 1) (clC (loc 7) (clC (loc 4) clN)))) clN))))
abbrev g6:C1:=(sIf (tor (bH (aJ cIs (sub (loc 11) (ah 0)) eH) (bH (aJ cIs (sub (loc 11) (ah 1)) eH) eA))) (sC (aR (dz true)) sN) sN)
abbrev gf:C1:=(aF 12 (bin oMul (bin oMul (loc 10) (sub (sub (loc 11) (ah 0)) (ah 0))) (sub (sub (loc 11) (ah 1)) (ah 1))))
abbrev gd:C1:=(aF 12 (bin oDiv (loc 12) (bin oMul (sub (sub (loc 11) (ah 0)) (ah 1)) (sub (sub (loc 11) (ah 1)) (ah 0)))))
abbrev eb:C1:=(sIf (tor (bH (aJ cEq (loc 12) (ah 0)) (bH (aJ cGe (loc 12) (bin oPow (ah 10) (ah 30))) eA))) (sC (aR (dz true)) sN) sN)
abbrev d_:C1:=(aF 13 (lst (clC (tup (clC (loc 8) (clC (loc 6) (clC (bin cD (ah 0) (loc 10)) clN)))) (clC (tup (clC (aU Lo) (clC (loc 6) (clC (loc 10) clN)))) clN))))
abbrev d9:C1:=(aF 13 (bin oAdd (loc 13) (lst (clC (tup (clC (aU Lo) (clC (loc 7) (clC (bin cD (ah 0) (loc 12)) clN)))) (clC (tup (clC (loc 9) (clC (loc 7) (clC (loc 12) clN)))) clN)))))
abbrev d8:C1:=(aF 15 (ao 73 (clC (loc 1) (clC (loc 4) (clC (loc 14) (clC (loc 13) (clC (ah 0) clN)))))))
abbrev d7:C1:=(aM (bm aH (key (loc 1) 7 Lm) (clC (tup (clC (aU Lw) (clC (loc 4) (clC (loc 8) (clC (loc 6) (clC (loc 10) (clC (loc 9) (clC (loc 7) (clC (loc 14) clN))))))))) clN)))
abbrev d6:C1:=(aR (cmp cEq (meth (loc 0) 17 (clC (loc 4) (clC (loc 14) (clC (loc 8) (clC (loc 6) (clC (loc 10) (clC (loc 9) (clC (loc 7) clN)))))))) (loc 15)))
def lw_convert:CS:=(sC (aF 4 (ao 71 (clC (loc 1) (clC (loc 2) clN)))) (sC ny (sC nx (sC nv (sC nu (sC nt (sC (aF 10 (ao 76 (clC (bin oDiv (loc 2) (ah 5)) clN))) (sC nq (sC g6 (sC gf (sC gd (sC eb (sC d_ (sC d9 (sC (aF 14 (ao 56 (clC (bin oDiv (loc 3) (ah 2)) clN))) (sC d8 (sC d7 (sC d6 sN))))))))))))))))))
abbrev rp:C1:=(sIf (tor (bH (aJ cIn (loc 3) (key (loc 1) 0 Lj)) (bH (aJ cGt (bi fLen (clC (key (loc 1) 0 Lj) clN)) (ah 6)) eA))) (sC (aR (dz true)) sN) sN)
abbrev rn:C1:=(aM (bm aH (key (loc 1) 0 Lj) (clC (loc 3) clN)))
abbrev rm:C1:=(aM (bm aH (key (loc 1) 7 Lm) (clC (tup (clC (aU [97,99,99,111,117,110,116]) (clC (loc 3) clN))) clN)))
def lw_admit:CS:=(sC (aF 3 (ao 43 (clC (loc 2) clN))) (sC rp (sC rn (sC rm (sC (aR (cmp cIs (meth (loc 0) 37 (clC (loc 3) clN)) eH)) sN)))))
def fn_balanced:CS:=(sC (aF 1 hW) (sC (cN 2 (loc 0) (sC (lT (loc 1) (sub (loc 2) (ah 1)) (bin oAdd (bm wM (loc 1) (clC (sub (loc 2) (ah 1)) (clC (ah 0) clN))) (sub (loc 2) (ah 2)))) sN)) (s0 1 (sC (aR (bi fAll (clC (ofF false (comp 3 (loc 1) noIf (cmp cEq (sub (loc 1) (loc 3)) (ah 0)))) clN))) sN))))
def bk_need_line:CS:=(sC (aM (meth (loc 0) 15 (clC (sub (loc 1) (ah 0)) clN))) (sC (aM (ao 5 (clC (sub (loc 1) (ah 1)) clN))) (sC (sIf (eU (tof (ao 12 (clC (sub (loc 1) (ah 2)) clN)))) (sC (bZ 3 [110,111,32,97,109,111,117,110,116]) sN) sN) sN)))
def bk_post:CS:=(sC (aM (meth (loc 0) 4 (clC (loc 1) clN))) (sC (aM (ao 16 (clC (loc 2) clN))) (sC (sIf (tor (bH (aJ cLt (bi fLen (clC (loc 3) clN)) (ah 2)) (bH (aJ cGt (bi fLen (clC (loc 3) clN)) (ah 60)) eA))) (sC (bZ 7 [116,111,111,32,102,101,119,32,111,114,32,116,111,111,32,109,97,110,121,32,108,105,110,101,115]) sN) sN) (sC (cN 4 (loc 3) (sC (aM (meth (loc 0) 19 (clC (loc 4) clN))) sN)) (sC (sIf (eU (tof (ao 18 (clC (loc 3) clN)))) (sC (bZ 7 [108,105,110,101,115,32,116,104,97,116,32,100,111,32,110,111,116,32,99,111,109,101,32,116,111,32,110,111,117,103,104,116]) sN) sN) (sC (aF 5 (bi fTuple (clC (ofF false (comp 6 (loc 3) noIf (tup (clC (sub (loc 6) (ah 0)) (clC (sub (loc 6) (ah 1)) (clC (sub (loc 6) (ah 2)) clN)))))) clN))) (sC (aM (bm aH (bC (loc 0) 6) (clC (tup (clC (aU [101,110,116,114,121]) (clC (loc 1) (clC (loc 2) (clC (loc 5) clN))))) clN))) (sC (aR (meth (loc 0) 7 (clC (loc 1) (clC (loc 2) (clC (loc 5) (clC (ah 0) clN)))))) sN))))))))
abbrev lw_lines_f1:CS:=(sC (aF 7 (bin oAdd (bin oDiv (loc 2) (ah 3)) (bin oMul (ah 5) (loc 6)))) (sC (aF 8 (sub (key (loc 0) 2 Ll) (bin oMod (loc 7) (bi fLen (clC (key (loc 0) 2 Ll) clN))))) (sC (aF 9 (ao 76 (clC (bin oAdd (loc 1) (bin oMul (ah 77) (loc 6))) clN))) (sC (aF 10 (bin oMul (ao 76 (clC (bin oAdd (bin oDiv (loc 1) (ah 3)) (loc 6)) clN)) (bin cD (bin oMod (bin oDiv (loc 7) (ah 3)) (ah 3)) (ah 1)))) (sC (aM (bm aH (loc 4) (clC (tup (clC (sub (loc 3) (bin oMod (bin oDiv (loc 7) (ah 9)) (bi fLen (clC (loc 3) clN)))) (clC (loc 8) (clC (loc 9) clN)))) clN))) (sC (aM (bm aH (loc 4) (clC (tup (clC (sub (loc 3) (bin oMod (bin oDiv (loc 7) (ah 5)) (bi fLen (clC (loc 3) clN)))) (clC (loc 8) (clC (bin cD (bin cD (ah 0) (loc 9)) (loc 10)) clN)))) clN))) (sC (aM (bm aH (loc 4) (clC (tup (clC (sub (loc 3) (bin oMod (bin oDiv (loc 7) (ah 7)) (bi fLen (clC (loc 3) clN)))) (clC (loc 8) (clC (loc 10) clN)))) clN))) sN)))))))
abbrev ri:C1:=(aF 5 (pH (aJ cEq (bin oMod (loc 2) (ah 16)) (ah 7)) (bin oAdd (ah 1) (bin oMod (bin oDiv (loc 2) (ah 16)) (ah 20))) (bin oAdd (ah 1) (bin oMod (loc 2) (ah 3)))))
abbrev rh:C1:=(aR (ofF false (comp 11 (loc 4) (iE (aJ cNe (sub (loc 11) (ah 2)) (ah 0))) (loc 11))))
def lw_lines:CS:=(sC (aF 3 (key (loc 0) 0 Lj)) (sC (aF 4 (eJ clN)) (sC ri (sC (cN 6 (bi fRange (clC (loc 5) clN)) lw_lines_f1) (sC rh sN)))))
abbrev tH:C1:=(aF 6 (ao 80 (clC (loc 1) (clC (bin oDiv (loc 2) (ah 5)) (clC (loc 3) clN)))))
abbrev tG:C1:=(aF 7 (ao 73 (clC (loc 1) (clC (loc 4) (clC (loc 5) (clC (loc 6) (clC (ah 0) clN)))))))
abbrev tF:C1:=(aM (bm aH (key (loc 1) 7 Lm) (clC (tup (clC (aU [101,110,116,114,121]) (clC (loc 4) (clC (loc 5) (clC (bi fTuple (clC (loc 6) clN)) clN))))) clN)))
abbrev tE:C1:=(aR (cmp cEq (meth (loc 0) 20 (clC (loc 4) (clC (loc 5) (clC (loc 6) clN)))) (loc 7)))
def lw_post:CS:=(sC (aF 4 (ao 71 (clC (loc 1) (clC (loc 2) clN)))) (sC (aF 5 (ao 56 (clC (loc 3) clN))) (sC tH (sC tG (sC tF (sC tE sN))))))
abbrev lw_step_s1:C1:=(sIf (tor (bH (aJ cGe (ao 70 (clC (loc 1) clN)) (ah 99999)) (bH (aJ cGt (bi fLen (clC (key (loc 1) 3 Lk) clN)) (key (loc 1) 8 [109,111,115,116])) eA))) (sC (aR (dz true)) sN) sN)
abbrev lw_step_s2:C1:=(sIf (aJ cLt (bin oMod (loc 2) (ah 8)) (ah 3)) (sC (aR (ao 81 (clC (loc 0) (clC (loc 1) (clC (loc 3) (clC (loc 4) clN)))))) sN) sN)
abbrev lw_step_s3:C1:=(sIf (lH (cB (aJ cEq (bin oMod (loc 2) (ah 8)) (ah 3)) (cB (aJ cEq (bin oMod (bin oDiv (loc 2) (ah 8)) (ah 3)) (ah 0)) gY))) (sC (aR (ao 79 (clC (loc 0) (clC (loc 1) (clC (loc 3) clN))))) sN) sN)
abbrev lw_step_s4:C1:=(sIf (aJ cEq (bin oMod (loc 2) (ah 8)) (ah 3)) (sC (aR (ao 78 (clC (loc 0) (clC (loc 1) (clC (loc 3) (clC (loc 4) clN)))))) sN) sN)
abbrev lw_step_s5:C1:=(sIf (aJ cLt (bin oMod (loc 2) (ah 8)) (ah 6)) (sC (aR (ao 77 (clC (loc 0) (clC (loc 1) (clC (loc 3) (clC (loc 4) clN)))))) sN) sN)
abbrev tC:C1:=(sIf (aJ cEq (bin oMod (loc 2) (ah 8)) (ah 6)) (sC (aR (ao 74 (clC (loc 0) (clC (loc 1) (clC (loc 3) (clC (loc 4) clN)))))) sN) sN)
abbrev tB:C1:=(aR (ao 72 (clC (loc 0) (clC (loc 1) (clC (loc 3) clN)))))
def lw_step:CS:=(sC lw_step_s1 (sC lw_step_s2 (sC lw_step_s3 (sC lw_step_s4 (sC lw_step_s5 (sC tC (sC tB sN)))))))
abbrev lw_deeds_f1:CS:=(sC (sIf (eU (tof (ao 82 (clC (loc 0) (clC (loc 1) (clC (sub (loc 2) (loc 5)) (clC (sub (loc 2) (bin oAdd (loc 5) (ah 1))) (clC (sub (loc 2) (bin oAdd (loc 5) (ah 2))) clN)))))))) (sC (aR (dz false)) sN) sN) sN)
abbrev rj:C1:=(cN 5 (bi vN (clC (loc 3) (clC (bi vO (clC (bin cD (bi fLen (clC (loc 2) clN)) (ah 2)) (clC (loc 4) clN))) (clC (ah 3) clN)))) lw_deeds_f1)
def lw_deeds:CS:=(sC rj (sC (aR (dz true)) sN))
abbrev lw_whole_told_f1:CS:=(sC (sIf (tor (bH (eU (tof (isi qi (loc 3)))) (bH (aJ cGt (sub (loc 3) (ah 1)) (loc 1)) (bH (aJ cNe (bi fLen (clC (loc 3) clN)) (ah 3)) eA)))) (sC (aR (dz false)) sN) sN) sN)
abbrev lw_whole_told_f2:CS:=(sC (sIf (aJ cNe (sub (sub (sub (loc 0) (ah 2)) (loc 4)) (ah 2)) (sub (sub (loc 0) (ah 3)) (loc 4))) (sC (aR (dz false)) sN) sN) sN)
abbrev jw:C1:=(cN 4 (bi fRange (clC (bi fLen (clC (sub (loc 0) (ah 2)) clN)) clN)) lw_whole_told_f2)
abbrev jv:C1:=(aR (cmp cEq (bi fLen (clC (sub (loc 0) (ah 0)) clN)) (key (loc 2) 9 Lr)))
def lw_whole_told:CS:=(sC (cN 3 (sub (loc 0) (ah 0)) lw_whole_told_f1) (sC jw (sC jv sN)))
def bk_init:CS:=(sC (aM (ao 5 (clC (loc 1) clN))) (sC (gZ (loc 0) 0 (loc 1)) (sC (gZ (loc 0) 1 (eJ (clC (aU Lo) clN))) (sC (gZ (loc 0) 2 hW) (sC (gZ (loc 0) 3 (eJ clN)) (sC (gZ (loc 0) 4 hW) (sC (gZ (loc 0) 5 (eJ clN)) (sC (gZ (loc 0) 6 (eJ clN)) sN))))))))
abbrev lw_book_f1:CS:=(sC (aM (meth (loc 1) 37 (clC (loc 2) clN))) sN)
abbrev tP:C1:=(aF 1 (Fx (clC (sub (key (loc 0) 2 Ll) (ah 0)) clN)))
abbrev tO:C1:=(cN 2 (slc (key (loc 0) 0 Lj) (atP (ah 1)) noP) lw_book_f1)
def lw_book:CS:=(sC tP (sC tO (sC (aR (loc 1)) sN)))
def lw_twin:CS:=(sC (aF 3 (bin oMod (loc 1) (bi fLen (clC (loc 0) clN)))) (sC (aR (bin oAdd (bin oAdd (slc (loc 0) noP (atP (loc 3))) (sub (loc 2) (bin oMod (bin oDiv (loc 1) (ah 13)) (ah 26)))) (slc (loc 0) (atP (bin oAdd (loc 3) (ah 1))) noP))) sN))
def lw_currency:CS:=(sC (aF 1 (aU Lu)) (sC (aF 2 (sub (loc 1) (bin oMod (loc 0) (ah 26)))) (sC (aF 2 (bin oAdd (loc 2) (sub (loc 1) (bin oMod (bin oDiv (loc 0) (ah 26)) (ah 26))))) (sC (aR (bin oAdd (loc 2) (sub (loc 1) (bin oMod (bin oDiv (loc 0) (ah 676)) (ah 26))))) sN))))
def lw_currencies:CS:=(sC (aF 1 (eJ clN)) (sC (aF 2 (eJ (clC (ao 41 (clC (sub (loc 0) (ah 0)) clN)) (clC (ao 41 (clC (sub (loc 0) (ah 1)) clN)) (clC (aU [69,85,82]) (clC (aU [74,80,89]) (clC (aU [85,83,68]) clN))))))) (sC (aF 2 (ofF true (FB (loc 2) (lst (clC (aU [75,87,68]) (clC (aU [67,72,70]) (clC (aU [71,66,80]) (clC (aU [83,69,75]) (clC (aU [69,85,83]) clN))))))))) (sC (aF 3 (pH (aJ cEq (bin oMod (bin oDiv (sub (loc 0) (ah 0)) (ah 3)) (ah 8)) (ah 3)) (ah 8) (ah 4))) (sC (sIf (aJ cEq (bin oMod (sub (loc 0) (ah 1)) (ah 2)) (ah 1)) (sC (lT (loc 2) (ah 1) (ao 40 (clC (sub (loc 2) (ah 0)) (clC (bin oDiv (sub (loc 0) (ah 1)) (ah 2)) (clC (aU Lu) clN))))) sN) sN) (sC (cN 4 (loc 2) (sC (sIf (lH (cB (aJ cNotIn (loc 4) (loc 1)) (cB (aJ cLt (bi fLen (clC (loc 1) clN)) (loc 3)) gY))) (sC (aM (bm aH (loc 1) (clC (loc 4) clN))) sN) sN) sN)) (sC (aR (loc 1)) sN)))))))
abbrev pq:CS:=(sC (sIf (aJ cNotIn (loc 3) (loc 2)) (sC (aM (bm aH (loc 2) (clC (loc 3) clN))) sN) sN) sN)
abbrev pj:C1:=(aF 1 (eJ (clC (ao 43 (clC (sub (loc 0) (ah 0)) clN)) (clC (ao 43 (clC (sub (loc 0) (ah 1)) clN)) (clC (aU [97]) (clC (aU [122,57]) clN))))))
abbrev pi:C1:=(sIf (aJ cEq (bin oMod (sub (loc 0) (ah 1)) (ah 2)) (ah 1)) (sC (lT (loc 1) (ah 1) (ao 40 (clC (sub (loc 1) (ah 0)) (clC (bin oDiv (sub (loc 0) (ah 1)) (ah 2)) (clC (aU Lv) clN))))) sN) sN)
abbrev ph:C1:=(aF 2 (eJ (clC (aU Lo) clN)))
def lw_names2:CS:=(sC pj (sC pi (sC ph (sC (cN 3 (loc 1) pq) (sC (aR (loc 2)) sN)))))
abbrev lw_plain6_f1:CS:=(sC (Ca dm (loc 1) (loc 2) (eJ clN)) sN)
abbrev pg:C1:=(aF 1 (yF Lj (ao 87 (clC (lst (clC (ao 33 (clC (loc 0) (clC (ah 0) clN))) (clC (ao 33 (clC (loc 0) (clC (ah 1) clN))) clN))) clN))))
abbrev pd:C1:=(cN 2 (lst (clC (aU Lk) (clC (aU Lp) (clC (aU Ln) (clC (aU Lq) (clC (aU Lm) clN)))))) lw_plain6_f1)
def lw_plain6:CS:=(sC pg (sC (jn dm 1 (loc 1) (aU [102,105,114,115,116]) (bi fLen (clC (key (loc 1) 0 Lj) clN))) (sC (jn dm 2 (loc 1) (aU Ll) (ao 42 (clC (lst (clC (ao 33 (clC (loc 0) (clC (ah 2) clN))) (clC (ao 33 (clC (loc 0) (clC (ah 3) clN))) clN))) clN))) (sC pd (sC (jn dm 8 (loc 1) (aU [109,111,115,116]) (ah 2)) (sC (aR (loc 1)) sN))))))
abbrev fn_law9_s3:C1:=(aF 3 (bin oAdd (ah 8) (bin oMul (ah 3) (bin oMod (ao 33 (clC (loc 0) (clC (ah 4) clN))) (bin oAdd (ah 1) (bin oDiv (bi fLen (clC (loc 0) clN)) (ah 3)))))))
abbrev uw:C1:=(sIf (eU (tof (ao 83 (clC (loc 2) (clC (loc 1) (clC (loc 0) (clC (ah 8) (clC (loc 3) clN)))))))) (sC (aR (dz false)) sN) sN)
abbrev fn_law9_s5:C1:=(sIf (aJ cLt (ao 70 (clC (loc 1) clN)) (ah 99999)) (sC (sIf (eU (tof (ao 72 (clC (loc 2) (clC (loc 1) (clC (ao 33 (clC (loc 0) (clC (ah 5) clN))) clN)))))) (sC (aR (dz false)) sN) sN) sN) sN)
abbrev mE:C1:=(aF 5 (bi fLen (clC (key (loc 1) 3 Lk) clN)))
abbrev j9:C1:=(aF 6 (bin oMod (ao 33 (clC (loc 0) (clC (ah 6) clN))) (bin oAdd (loc 4) (ah 1))))
abbrev j8:C1:=(aF 7 (sub (key (loc 1) 2 Ll) (bin oMod (ao 33 (clC (loc 0) (clC (ah 7) clN))) (ah 3))))
abbrev j7:C1:=(aF 8 (ao 173 (clC (loc 2) (clC (loc 1) (clC (loc 4) (clC (loc 5) (clC (loc 6) (clC (loc 7) clN))))))))
abbrev j6:C1:=(sIf (tor (bH (eU (tof (ao 175 (clC (loc 8) (clC (loc 4) (clC (loc 1) clN)))))) (bH (eU (tof (ao 83 (clC (loc 2) (clC (loc 1) (clC (loc 0) (clC (loc 3) (clC (ah 63) clN)))))))) eA))) (sC (aR (dz false)) sN) sN)
abbrev fn_law9_s15:C1:=(aF 9 (ao 43 (clC (bin oDiv (ao 33 (clC (loc 0) (clC (ah 7) clN))) (ah 3)) clN)))
abbrev j5:C1:=(sIf (aJ cNotIn (loc 9) (key (loc 1) 0 Lj)) (sC (aM (meth (loc 2) 37 (clC (loc 9) clN))) sN) sN)
abbrev fn_law9_s17:C1:=(sIf (aJ cLt (ao 70 (clC (loc 1) clN)) (ah 99999)) (sC (sIf (eU (tof (ao 78 (clC (loc 2) (clC (loc 1) (clC (bin oMul (ah 3) (ao 33 (clC (loc 0) (clC (ah 6) clN)))) (clC (ao 33 (clC (loc 0) (clC (ah 7) clN))) clN))))))) (sC (aR (dz false)) sN) sN) sN) sN)
abbrev j4:C1:=(sIf (tor (bH (aJ cNe (ao 128 (clC (loc 2) (clC (loc 4) clN))) (ao 174 (clC (loc 1) (clC (loc 4) clN)))) (bH (aJ cNe (ao 128 (clC (loc 2) (clC (loc 6) clN))) (ao 174 (clC (loc 1) (clC (loc 6) clN)))) eA))) (sC (aR (dz false)) sN) sN)
abbrev j3:C1:=(aR (cmp cEq (ao 173 (clC (loc 2) (clC (loc 1) (clC (loc 4) (clC (loc 5) (clC (loc 6) (clC (loc 7) clN))))))) (loc 8)))
def fn_law9:CS:=(sC (aF 1 (ao 176 (clC (loc 0) clN))) (sC (aF 2 (ao 86 (clC (loc 1) clN))) (sC fn_law9_s3 (sC uw (sC fn_law9_s5 (sC (aF 4 (ao 70 (clC (loc 1) clN))) (sC mE (sC (jn dm 9 (loc 1) (aU Lr) (bi fLen (clC (key (loc 1) 5 Ln) clN))) (sC (jn dm 10 (loc 1) (aU Ls) (bi fLen (clC (key (loc 1) 0 Lj) clN))) (sC j9 (sC j8 (sC j7 (sC (jn dm 8 (loc 1) (aU [109,111,115,116]) (ah 4)) (sC j6 (sC fn_law9_s15 (sC j5 (sC fn_law9_s17 (sC j4 (sC j3 sN)))))))))))))))))))
def AN:Row:=⟨0,"__init__",true,[("self",0),("home",1)],2,2,false,bk_init⟩
def u9:List Row:=[
 AN,
 ⟨2,"closed",true,[("self",0)],1,1,false,bk_closed⟩,
 ⟨3,"need_day",false,[("day",0)],1,1,false,fn_need_day⟩,
 ⟨4,"need_open",true,[("self",0),("day",1)],2,2,false,bk_need_open⟩,
 ⟨5,"need_currency",false,[("text",0)],1,2,false,fn_need_currency⟩,
 ⟨6,"tell_rate",true,[("self",0),("currency",1),("day",2),("top",3),("bottom",4),("days",5)],5,6,false,bk_tell_rate⟩,
 ⟨7,"enter",true,[("self",0),("day",1),("note",2),("lines",3),("back",4),("number",5)],5,6,false,bk_enter⟩,
 ⟨8,"entry",true,[("self",0),("number",1)],2,2,false,bk_entry⟩,
 ⟨9,"contrary",true,[("self",0),("number",1),("day",2),("old",3),("lines",4)],3,6,false,bk_contrary⟩,
 ⟨11,"close",true,[("self",0),("day",1)],2,2,false,bk_close⟩,
 ⟨12,"is_amount",false,[("amount",0)],1,1,false,fn_is_amount⟩,
 ⟨13,"changed",false,[("amount",0),("one",1),("other",2)],3,3,false,fn_changed⟩,
 ⟨14,"rate",true,[("self",0),("currency",1),("day",2),("days",3),("known",4)],3,6,false,bk_rate⟩,
 ⟨15,"need_account",true,[("self",0),("account",1)],2,2,false,bk_need_account⟩,
 ⟨16,"need_note",false,[("text",0)],1,2,false,fn_need_note⟩,
 ⟨17,"convert",true,[("self",0),("day",1),("note",2),("giver",3),("one",4),("amount",5),("taker",6),("other",7),("got",8),("lines",9)],8,10,false,bk_convert⟩,
 ⟨18,"balanced",false,[("lines",0),("totals",1),("line",2)],1,4,false,fn_balanced⟩,
 ⟨19,"need_line",true,[("self",0),("line",1)],2,2,false,bk_need_line⟩,
 ⟨20,"post",true,[("self",0),("day",1),("note",2),("lines",3),("line",4),("kept",5)],4,7,false,bk_post⟩,
 ⟨22,"periods",true,[("self",0)],1,1,false,bk_periods⟩,
 ⟨26,"added_up",true,[("self",0),("account",1),("currency",2),("last",3),("total",4),("old",5),("line",6)],4,7,false,bk_added_up⟩,
 ⟨33,"_law_cell",false,[("_law_script",0),("_law_k",1)],2,2,false,lw_cell⟩,
 ⟨36,"is_name",false,[("text",0)],1,2,false,fn_is_name⟩,
 ⟨37,"admit",true,[("self",0),("account",1)],2,2,false,bk_admit⟩,
 ⟨40,"_law_twin",false,[("_law_text",0),("_law_cell_here",1),("_law_signs",2),("_law_at",3)],3,4,false,lw_twin⟩,
 ⟨41,"_law_currency",false,[("_law_cell_here",0),("_law_signs",1),("_law_found",2)],1,3,false,lw_currency⟩,
 ⟨42,"_law_currencies",false,[("_law_cells",0),("_law_found",1),("_law_some",2),("_law_limit",3),("_law_currency_here",4)],1,5,false,lw_currencies⟩,
 ⟨43,"_law_name",false,[("_law_cell_here",0),("_law_signs",1),("_law_found",2),("_law_left",3),("_law_k",4)],1,5,false,lw_name⟩,
 ⟨56,"_law_note",false,[("_law_cell_here",0),("_law_some",1),("_law_found",2),("_law_k",3)],1,4,false,lw_note⟩,
 ⟨61,"balance_on",true,[("self",0),("account",1),("currency",2),("day",3)],4,4,false,bk_balance_on⟩,
 ⟨70,"_law_closed",false,[("_law_plain_here",0)],1,1,false,lw_closed⟩,
 ⟨71,"_law_day",false,[("_law_plain_here",0),("_law_cell_here",1),("_law_closed_here",2)],2,3,false,lw_day⟩,
 ⟨72,"_law_shut",false,[("_law_book_here",0),("_law_plain_here",1),("_law_big",2),("_law_day_here",3)],3,4,false,lw_shut2⟩,
 ⟨73,"_law_put",false,[("_law_plain_here",0),("_law_day_here",1),("_law_note_here",2),("_law_lines_here",3),("_law_back",4),("_law_number",5)],5,6,false,lw_put⟩,
 ⟨74,"_law_contrary",false,[("_law_book_here",0),("_law_plain_here",1),("_law_big",2),("_law_pick",3),("_law_number",4),("_law_entry",5),("_law_day_here",6),("_law_lines_here",7),("_law_due",8)],4,10,false,lw_contrary⟩,
 ⟨75,"_law_rate",false,[("_law_plain_here",0),("_law_currency_here",1),("_law_day_here",2),("_law_found",3),("_law_row",4)],3,5,false,lw_rate2⟩,
 ⟨76,"_law_amount",false,[("_law_cell_here",0)],1,1,false,lw_amount⟩,
 ⟨77,"_law_convert",false,[("_law_book_here",0),("_law_plain_here",1),("_law_big",2),("_law_pick",3),("_law_day_here",4),("_law_many",5),("_law_one",6),("_law_other",7),("_law_giver",8),("_law_taker",9),("_law_amount_here",10),("_law_rates",11),("_law_found",12),("_law_lines_here",13),("_law_note_here",14),("_law_due",15)],4,16,false,lw_convert⟩,
 ⟨78,"_law_tell",false,[("_law_book_here",0),("_law_plain_here",1),("_law_big",2),("_law_pick",3),("_law_day_here",4),("_law_currency_here",5),("_law_row",6)],4,7,false,lw_tell⟩,
 ⟨79,"_law_admit",false,[("_law_book_here",0),("_law_plain_here",1),("_law_big",2),("_law_name_here",3)],3,4,false,lw_admit⟩,
 ⟨80,"_law_lines",false,[("_law_plain_here",0),("_law_big",1),("_law_pick",2),("_law_names_here",3),("_law_found",4),("_law_many",5),("_law_k",6),("_law_left",7),("_law_currency_here",8),("_law_one",9),("_law_two",10)],3,12,false,lw_lines⟩,
 ⟨81,"_law_post",false,[("_law_book_here",0),("_law_plain_here",1),("_law_big",2),("_law_pick",3),("_law_day_here",4),("_law_note_here",5),("_law_lines_here",6),("_law_due",7)],4,8,false,lw_post⟩,
 ⟨82,"_law_step",false,[("_law_book_here",0),("_law_plain_here",1),("_law_way",2),("_law_big",3),("_law_pick",4)],5,5,false,lw_step⟩,
 ⟨83,"_law_deeds",false,[("_law_book_here",0),("_law_plain_here",1),("_law_script",2),("_law_first",3),("_law_last",4),("_law_k",5)],5,6,false,lw_deeds⟩,
 ⟨86,"_law_book",false,[("_law_plain_here",0),("_law_book_here",1),("_law_name_here",2)],1,3,false,lw_book⟩,
 ⟨87,"_law_names",false,[("_law_cells",0),("_law_some",1),("_law_found",2),("_law_name_here",3)],1,4,true,lw_names2⟩,
 ⟨126,"by_day",false,[("book",0),("first",1),("last",2),("found",3)],3,5,false,fn_by_day⟩,
 ⟨127,"pairs_to",false,[("book",0),("last",1),("found",2),("old",3),("line",4)],2,5,false,fn_pairs_to⟩,
 ⟨128,"sheet",false,[("book",0),("day",1),("found",2),("pair",3),("total",4)],2,5,false,fn_sheet⟩,
 ⟨131,"common",false,[("one",0),("other",1),("rest",2)],2,3,false,fn_common⟩,
 ⟨132,"lowest",false,[("top",0),("bottom",1),("part",2)],2,3,false,fn_lowest⟩,
 ⟨133,"worth",false,[("book",0),("account",1),("day",2),("top",3),("bottom",4),("row",5),("rate",6)],3,7,false,fn_worth⟩,
 ⟨146,"moved",false,[("book",0),("pair",1),("first",2),("last",3),("came",4),("went",5),("old",6),("line",7)],4,8,false,fn_moved⟩,
 ⟨147,"period",false,[("book",0),("number",1),("last",2),("first",3),("rows",4),("pair",5),("opening",6),("both",7)],2,8,false,fn_period⟩,
 ⟨163,"need_days",false,[("first",0),("last",1)],2,2,false,fn_need_days⟩,
 ⟨164,"statement",false,[("book",0),("account",1),("currency",2),("first",3),("last",4),("opening",5),("closing",6),("rows",7),("old",8),("line",9)],5,10,false,fn_statement⟩,
 ⟨165,"_law_worth_told",false,[("_law_book_here",0),("_law_account",1),("_law_day_here",2)],3,3,false,lw_worth_told⟩,
 ⟨166,"journal",false,[("book",0),("first",1),("last",2)],3,3,false,fn_journal⟩,
 ⟨170,"_law_copy",false,[("_law_told_here",0)],1,2,false,lw_copy⟩,
 ⟨171,"_law_rate_told",false,[("_law_book_here",0),("_law_currency_here",1),("_law_day_here",2)],3,3,false,lw_rate_told⟩,
 ⟨172,"_law_days_told",false,[("_law_book_here",0),("_law_plain_here",1),("_law_days",2),("_law_found",3),("_law_day_here",4),("_law_currency_here",5),("_law_account",6)],3,7,false,lw_days_told⟩,
 ⟨173,"_law_told",false,[("_law_book_here",0),("_law_plain_here",1),("_law_closed_here",2),("_law_many",3),("_law_drawn",4),("_law_currency_here",5),("_law_periods",6),("_law_entries",7),("_law_statements",8),("_law_name_here",9),("_law_balances",10),("_law_ended",11),("_law_days",12),("_law_some",13)],6,18,false,lw_told4⟩,
 ⟨174,"_law_sheet",false,[("_law_plain_here",0),("_law_day_here",1),("_law_sums",2),("_law_entry",3),("_law_line",4),("_law_pair",5)],2,7,false,lw_sheet⟩,
 ⟨175,"_law_whole_told",false,[("_law_told_here",0),("_law_closed_here",1),("_law_plain_here",2),("_law_found",3),("_law_k",4)],3,5,false,lw_whole_told⟩,
 ⟨176,"_law_plain",false,[("_law_script",0),("_law_plain_here",1),("_law_part",2)],1,3,true,lw_plain6⟩,
 ⟨177,"law",false,[("_law_script",0),("_law_plain_here",1),("_law_book_here",2),("_law_place",3),("_law_closed_here",4),("_law_many",5),("_law_drawn",6),("_law_currency_here",7),("_law_told_here",8),("_law_name_here",9)],1,10,false,fn_law9⟩]
noncomputable def lawN:Nat:=177
noncomputable def DS:List (Str×(Option Int×List Nat)):=[("SMALL",(none,Lv)),("GREAT",(none,Lu)),("FIGURES",(none,[48,49,50,51,52,53,54,55,56,57])),("LAST_DAY",(some 99999,[])),("BOUND",(some 1000000000000000000000000000000,[])),("GREATEST",(some 1000000000,[]))]
abbrev TT:Nat→Option PF:=uV u9
theorem t0:TT 0=some ⟨2,2,false,bk_init.ex⟩:=rfl
theorem t2:TT 2=some ⟨1,1,false,bk_closed.ex⟩:=rfl
theorem t3:TT 3=some ⟨1,1,false,fn_need_day.ex⟩:=rfl
theorem t4:TT 4=some ⟨2,2,false,bk_need_open.ex⟩:=rfl
theorem t5:TT 5=some ⟨1,2,false,fn_need_currency.ex⟩:=rfl
theorem t6:TT 6=some ⟨5,6,false,bk_tell_rate.ex⟩:=rfl
theorem t7:TT 7=some ⟨5,6,false,bk_enter.ex⟩:=rfl
theorem t8:TT 8=some ⟨2,2,false,bk_entry.ex⟩:=rfl
theorem t9:TT 9=some ⟨3,6,false,bk_contrary.ex⟩:=rfl
theorem t11:TT 11=some ⟨2,2,false,bk_close.ex⟩:=rfl
theorem t12:TT 12=some ⟨1,1,false,fn_is_amount.ex⟩:=rfl
theorem t13:TT 13=some ⟨3,3,false,fn_changed.ex⟩:=rfl
theorem t14:TT 14=some ⟨3,6,false,bk_rate.ex⟩:=rfl
theorem t15:TT 15=some ⟨2,2,false,bk_need_account.ex⟩:=rfl
theorem t16:TT 16=some ⟨1,2,false,fn_need_note.ex⟩:=rfl
theorem t17:TT 17=some ⟨8,10,false,bk_convert.ex⟩:=rfl
theorem t18:TT 18=some ⟨1,4,false,fn_balanced.ex⟩:=rfl
theorem t19:TT 19=some ⟨2,2,false,bk_need_line.ex⟩:=rfl
theorem t20:TT 20=some ⟨4,7,false,bk_post.ex⟩:=rfl
theorem t22:TT 22=some ⟨1,1,false,bk_periods.ex⟩:=rfl
theorem t26:TT 26=some ⟨4,7,false,bk_added_up.ex⟩:=rfl
theorem t33:TT 33=some ⟨2,2,false,lw_cell.ex⟩:=rfl
theorem t36:TT 36=some ⟨1,2,false,fn_is_name.ex⟩:=rfl
theorem t37:TT 37=some ⟨2,2,false,bk_admit.ex⟩:=rfl
theorem t40:TT 40=some ⟨3,4,false,lw_twin.ex⟩:=rfl
theorem t41:TT 41=some ⟨1,3,false,lw_currency.ex⟩:=rfl
theorem t42:TT 42=some ⟨1,5,false,lw_currencies.ex⟩:=rfl
theorem t43:TT 43=some ⟨1,5,false,lw_name.ex⟩:=rfl
theorem t56:TT 56=some ⟨1,4,false,lw_note.ex⟩:=rfl
theorem t61:TT 61=some ⟨4,4,false,bk_balance_on.ex⟩:=rfl
theorem t70:TT 70=some ⟨1,1,false,lw_closed.ex⟩:=rfl
theorem t71:TT 71=some ⟨2,3,false,lw_day.ex⟩:=rfl
theorem t72:TT 72=some ⟨3,4,false,lw_shut2.ex⟩:=rfl
theorem t73:TT 73=some ⟨5,6,false,lw_put.ex⟩:=rfl
theorem t74:TT 74=some ⟨4,10,false,lw_contrary.ex⟩:=rfl
theorem t75:TT 75=some ⟨3,5,false,lw_rate2.ex⟩:=rfl
theorem t76:TT 76=some ⟨1,1,false,lw_amount.ex⟩:=rfl
theorem t77:TT 77=some ⟨4,16,false,lw_convert.ex⟩:=rfl
theorem t78:TT 78=some ⟨4,7,false,lw_tell.ex⟩:=rfl
theorem t79:TT 79=some ⟨3,4,false,lw_admit.ex⟩:=rfl
theorem t80:TT 80=some ⟨3,12,false,lw_lines.ex⟩:=rfl
theorem t81:TT 81=some ⟨4,8,false,lw_post.ex⟩:=rfl
theorem t82:TT 82=some ⟨5,5,false,lw_step.ex⟩:=rfl
theorem t83:TT 83=some ⟨5,6,false,lw_deeds.ex⟩:=rfl
theorem t86:TT 86=some ⟨1,3,false,lw_book.ex⟩:=rfl
theorem t87:TT 87=some ⟨1,4,true,lw_names2.ex⟩:=rfl
theorem Gv:TT 126=some ⟨3,5,false,fn_by_day.ex⟩:=rfl
theorem Gu:TT 127=some ⟨2,5,false,fn_pairs_to.ex⟩:=rfl
theorem Gs:TT 128=some ⟨2,5,false,fn_sheet.ex⟩:=rfl
theorem Gq:TT 131=some ⟨2,3,false,fn_common.ex⟩:=rfl
theorem Gp:TT 132=some ⟨2,3,false,fn_lowest.ex⟩:=rfl
theorem Ez:TT 133=some ⟨3,7,false,fn_worth.ex⟩:=rfl
theorem Go:TT 146=some ⟨4,8,false,fn_moved.ex⟩:=rfl
theorem Gn:TT 147=some ⟨2,8,false,fn_period.ex⟩:=rfl
theorem Gm:TT 163=some ⟨2,2,false,fn_need_days.ex⟩:=rfl
theorem Gl:TT 164=some ⟨5,10,false,fn_statement.ex⟩:=rfl
theorem Ey:TT 165=some ⟨3,3,false,lw_worth_told.ex⟩:=rfl
theorem Gk:TT 166=some ⟨3,3,false,fn_journal.ex⟩:=rfl
theorem Gj:TT 170=some ⟨1,2,false,lw_copy.ex⟩:=rfl
theorem Ex:TT 171=some ⟨3,3,false,lw_rate_told.ex⟩:=rfl
theorem Gi:TT 172=some ⟨3,7,false,lw_days_told.ex⟩:=rfl
theorem Gh:TT 173=some ⟨6,18,false,lw_told4.ex⟩:=rfl
theorem Gg:TT 174=some ⟨2,7,false,lw_sheet.ex⟩:=rfl
theorem Gf:TT 175=some ⟨3,5,false,lw_whole_told.ex⟩:=rfl
theorem Ge:TT 176=some ⟨1,3,true,lw_plain6.ex⟩:=rfl
theorem Gc:TT 177=some ⟨1,10,false,fn_law9.ex⟩:=rfl
end
open PySem PySem.W PySem.Calls PyProof.Rows
set_option Elab.async false
set_option maxRecDepth 100000
set_option maxHeartbeats 8000000
noncomputable def keyN (i:Nat):Str:=(dm[i]?).elim ⟨#[0,i]⟩ fun l=>⟨l.toArray⟩
noncomputable def spN:Option (Str×Pos):=some ("by_day",⟨83,29,83,57⟩)
def KP (h:Heap):Prop:=∃ K:Frag,K.In h∧okK spN AN u9 DS keyN K=true∧oE spN K h
def yN (s:Shared):Prop:=KP s.heap
theorem KP.keeps {h h':Heap} (x:KP h) (k:∀ b o,h.get? b=some o→h'.get? b=some o):KP h':=x.elim fun K y=>⟨K,y.1.keeps k,y.2.1,fun l e=>k _ _ (y.2.2 l e)⟩
theorem tabsAt {h:Heap} {K:Frag} (X:K.In h) (ok:okK spN AN u9 DS keyN K=true) (TK:oE spN K h):TabsAt ((fy spN K).toList.map fun l=>(l.c,l.P)) h:=fun q hq=>by
 obtain ⟨l,hl,rfl⟩:=Kt.mp hq;have e:=Option.mem_toList.mp hl;have o7:=aj ok;rw[e] at o7;exact ⟨codeHd_of_K X o7,TK l e⟩
theorem grown_of {h:Heap} {K:Frag} (x:∀ l,fy spN K=some l→∃ ps,h.get? l.P=some (oI ps)):GrownAll ((fy spN K).toList.map fun l=>(l.c,l.P)) h:=by
 cases e:fy spN K with
 |none=>exact trivial
 |some l=>exact ⟨x l e,trivial⟩
theorem ghost_keep {h h':Heap} {K:Frag} (x:∀ b o,b∉(fy spN K).toList.map (·.P)→h.get? b=some o→h'.get? b=some o) (b:Addr) (o:Obj) (e:(ghostOf h ((fy spN K).toList.map fun l=>(l.c,l.P))).get? b=some o):h'.get? b=some o:=
 x b o (fun hb=>by
  rw[hideAll_none _ (by rw[List.map_map];exact hb)] at e;cases e) (of_hideAll _ e)
theorem z6b:∀ (w:World) (os:OsState),(dh pN w 11 (some (.ref 6)) 40178 ⟨dW (boot_heap w.params).objs.toList,11,{},Array.mk [],boot_drawn,boot_toks,os⟩ (topStub pN)).map (fun s=>okK spN AN u9 DS keyN (uv s.tree s.n)&&sL spN (uv s.tree s.n) s.tree s.n)=some true:=fun w os=>by kernel_rfl
noncomputable abbrev iV (x:Int):Option PV:=some (.d (.int x))
noncomputable abbrev sV (x:List Nat):Option PV:=some (.d (.str x))
noncomputable abbrev dV (x:D):Option PV:=some (.d x)
noncomputable abbrev qV (n:Nat):Option PV:=some (.p n 0)
noncomputable abbrev CC (d:Nat) (hd:Bool) (f:Nat) (args:List PV) (σ:Sto):Option (R PV×Sto):=gi TT d hd f args σ
noncomputable abbrev KK (d:Nat) (hd:Bool):Ker:=⟨gi TT d,hd⟩
abbrev Ev (K:Ker) (e:CE) (ρ:Rho) (σ:Sto) (v:PV):Prop:=e.ev K ρ σ=some (.ok v,σ)
abbrev Ts (K:Ker) (t:CT) (ρ:Rho) (σ:Sto) (b:Bool):Prop:=t.ts K ρ σ=some (.ok b,σ)
section
variable {α β:Type} {K:Ker} {ρ ρ':Rho} {σ σ' σ'':Sto} {c d f:Nat} {hd:Bool}
theorem av {m:PM α} {g:α→PM β} {a:α} {z:Option (R β×Sto)} (h:m σ=some (.ok a,σ')) (k:g a σ'=z):bnd m g σ=z:=by
 unfold bnd;rw[h];exact k
theorem bf {m:PM α} {k:α→Sto→Option (Out×Sto)} {a:α} {z:Option (Out×Sto)} (h:m σ=some (.ok a,σ')) (h2:k a σ'=z):br ρ m k σ=z:=by
 unfold br;rw[h];exact h2
theorem yw {m:PM α} {k:α→Sto→Option (Out×Sto)} (h:m σ=some (.ex c,σ')):br ρ m k σ=some (.ex c ρ,σ'):=by
 unfold br;rw[h]
theorem aa {a:C1} {l:CS} {z:Option (Out×Sto)} (h:a.ex K ρ σ=some (.next ρ',σ')) (k:l.ex K ρ' σ'=z):(sC a l).ex K ρ σ=z:=by
 show lG (a.ex K ρ σ) (l.ex K)=z;rw[h];exact k
theorem az {a:C1} {l:CS} {v:PV} (h:a.ex K ρ σ=some (.ret v,σ')):(sC a l).ex K ρ σ=some (.ret v,σ'):=by
 show lG (a.ex K ρ σ) (l.ex K)=_;rw[h];rfl
theorem sZ {a:C1} {l:CS} (h:a.ex K ρ σ=some (.ex c ρ',σ')):(sC a l).ex K ρ σ=some (.ex c ρ',σ'):=by
 show lG (a.ex K ρ σ) (l.ex K)=_;rw[h];rfl
theorem aq {e:CE} {v:PV} (h:e.ev K ρ σ=some (.ok v,σ')):(aR e).ex K ρ σ=some (.ret v,σ'):=bf h rfl
theorem an {i:Nat} {e:CE} {v:PV} (h:e.ev K ρ σ=some (.ok v,σ')) (k:ρ.set i (some v)=ρ'):(aF i e).ex K ρ σ=some (.next ρ',σ'):=by
 subst k;exact bf h rfl
theorem Ei {i:Nat} {e:CE} (h:e.ev K ρ σ=some (.ex c,σ')):(aF i e).ex K ρ σ=some (.ex c ρ,σ'):=yw h
theorem au {e:CE} {v:PV} (h:e.ev K ρ σ=some (.ok v,σ')):(aM e).ex K ρ σ=some (.next ρ,σ'):=bf h rfl
theorem yb {e:CE} (h:e.ev K ρ σ=some (.ex c,σ')):(aR e).ex K ρ σ=some (.ex c ρ,σ'):=yw h
theorem bW {t:CT} {a b:CS} {z:Option (Out×Sto)} (h:Ts K t ρ σ true) (k:a.ex K ρ σ=z):(sIf t a b).ex K ρ σ=z:=bf h k
theorem a_ {t:CT} {a b:CS} {z:Option (Out×Sto)} (h:Ts K t ρ σ false) (k:b.ex K ρ σ=z):(sIf t a b).ex K ρ σ=z:=bf h k
theorem gz {o i a:CE} {x:PV} {k v:D} (h1:Ev K a ρ σ (.d v)) (h2:Ev K o ρ σ x) (h3:Ev K i ρ σ (.d k)) (h4:wx x k v σ=some σ'):(lT o i a).ex K ρ σ=some (.next ρ,σ'):=by
 refine bf h1 (bf h2 (bf h3 ?_));show (wx x k v σ).bind _=_;rw[h4];rfl
theorem aT {i:Nat} {it:CE} {b:CS} {v:PV} {x:D} {xs:List D} {z:Option (Out×Sto)} (h:Ev K it ρ σ v) (h1:itV v σ=some (x,xs)) (h2:cx v x i (fun ρ=>b.ex K ρ) xs ρ σ=z) (hK:K.hd=false:=by rfl):(cN i it b).ex K ρ σ=z:=by
 show (match K.hd with|true=>none|false=>_)=z
 rw[hK];refine bf h ?_;show (itV v σ).bind _=z;rw[h1];exact h2
theorem aN {v:PV} {x y:D} {i:Nat} {b:Rho→Sto→Option (Out×Sto)} {l:List D} {z:Option (Out×Sto)} (h:b (ρ.set i (dV y)) σ=some (.next ρ',σ')) (hs:bp σ' x v=true) (k:cx v x i b l ρ' σ'=z):cx v x i b (y::l) ρ σ=z:=by
 show (match b (ρ.set i (dV y)) σ with
  |some (.next ρ',σ')=>if bp σ' x v then cx v x i b l ρ' σ' else none
  |z=>z)=z
 rw[h];show (if bp σ' x v then _ else none)=z;rw[if_pos hs];exact k
theorem iX {v:PV} {x:D} {i:Nat} {b:Rho→Sto→Option (Out×Sto)} (N:Nat) (Pr:List D→Rho→Sto→Prop):∀ (xs pre:List D) (ρ:Rho) (σ:Sto),pre.length+xs.length≤N→Pr pre ρ σ→(∀ pre y ρ σ,y∈xs→pre.length<N→Pr pre ρ σ→∃ ρ' σ',b (ρ.set i (dV y)) σ=some (.next ρ',σ')∧bp σ' x v=true∧Pr (pre++[y]) ρ' σ')→∃ ρ' σ',cx v x i b xs ρ σ=some (.next ρ',σ')∧Pr (pre++xs) ρ' σ'
 |[],pre,ρ,σ,_,h,_=>⟨ρ,σ,rfl,by rw[List.append_nil];exact h⟩
 |y::xs,pre,ρ,σ,hl,h,st=>by
  rw[Kk] at hl;obtain ⟨ρ1,σ1,e1,s1,p1⟩:=st pre y ρ σ (.head _) (by exact Nat.lt_of_add_right_lt hl) h;obtain ⟨ρ2,σ2,e2,p2⟩:=iX N Pr xs (pre++[y]) ρ1 σ1 (by rw[Kd,Kn];exact Hm hl) p1 fun pre z ρ σ hz=>st pre z ρ σ (.tail _ hz);exact ⟨ρ2,σ2,aN e1 s1 e2,by rw[List.append_cons];exact p2⟩
theorem k7 {α β γ:Type} {v:PV} {x:D} {i:Nat} {b:Rho→Sto→Option (Out×Sto)} (f:α→D) (mk:β→γ→Rho) (g:β→α→β) (hs:bp σ x v=true):∀ (ys:List α),(∀ s c y,y∈ys→∃ c',b ((mk s c).set i (dV (f y))) σ=some (.next (mk (g s y) c'),σ))→∀ s c,∃ c',cx v x i b (ys.map f) (mk s c) σ=some (.next (mk (ys.foldl g s) c'),σ)
 |[],_,s,c=>⟨c,rfl⟩
 |y::ys,h,s,c=>by
  obtain ⟨c1,e1⟩:=h s c y (.head _);obtain ⟨c2,e2⟩:=k7 f mk g hs ys (fun s c z hz=>h s c z (.tail _ hz)) (g s y) c1;exact ⟨c2,aN e1 hs e2⟩
theorem fo {n j:Nat} {x:D} (h:rd σ (.p n j)=some x):bp σ x (.p n j)=true:=@Kr _ (_) h
theorem oq {p s:Nat} {kp:Bool} {b:CS} {args:List PV} {o:Out} {z:Option (R PV×Sto)} (hT:TT f=some ⟨p,s,kp,b.ex⟩) (hl:args.length=p) (hr:args.map some++List.replicate (s - p) none=ρ) (h:b.ex (KK d hd) ρ σ=some (o,σ')) (k:zJ kp σ.length (some (o,σ'))=z):CC (d+1) hd f args σ=z:=by
 show gi TT (d+1) hd f args σ=z;rw[gi,hT];show (if args.length=p then zJ kp σ.length (b.ex (KK d hd) (args.map some++List.replicate (s - p) none) σ) else none)=z;rw[if_pos hl,hr,h];exact k
theorem aO {p s:Nat} {kp:Bool} {b:CS} {args:List PV} {v:D} (hT:TT f=some ⟨p,s,kp,b.ex⟩) (hl:args.length=p) (hr:args.map some++List.replicate (s - p) none=ρ) (h:b.ex (KK d hd) ρ σ=some (.ret (.d v),σ')) (k:σ'.take σ.length=σ''):CC (d+1) hd f args σ=some (.ok (.d v),σ''):=
 oq hT hl hr h (by show some (R.ok (PV.d v),σ'.take σ.length)=_;rw[k])
theorem eS {p s:Nat} {kp:Bool} {b:CS} {args:List PV} (hT:TT f=some ⟨p,s,kp,b.ex⟩) (hl:args.length=p) (hr:args.map some++List.replicate (s - p) none=ρ) (h:b.ex (KK d hd) ρ σ=some (.next ρ',σ')) (k:σ'.take σ.length=σ''):CC (d+1) hd f args σ=some (.ok (.d .none),σ''):=
 oq hT hl hr h (by show some (R.ok (PV.d .none),σ'.take σ.length)=_;rw[k])
theorem FU {p s:Nat} {kp:Bool} {b:CS} {args:List PV} (hT:TT f=some ⟨p,s,kp,b.ex⟩) (hl:args.length=p) (hr:args.map some++List.replicate (s - p) none=ρ) (h:b.ex (KK d hd) ρ σ=some (.ex c ρ',σ')) (k:σ'.take σ.length=σ''):CC (d+1) hd f args σ=some (.ex c,σ''):=
 oq hT hl hr h (by show some (R.ex c,σ'.take σ.length)=_;rw[k])
theorem zZ {p s m:Nat} {b:CS} {args:List PV} {f':Fld} (hT:TT f=some ⟨p,s,false,b.ex⟩) (hl:args.length=p) (hr:args.map some++List.replicate (s - p) none=ρ) (h:b.ex (KK d hd) ρ σ=some (.ret (.p m 0),σ')) (hm:σ.length≤m) (ho:σ'[m]? =some (.fld f')) (k:σ'.take σ.length=σ''):CC (d+1) hd f args σ=some (.ok (.d f'.toD),σ''):=
 oq hT hl hr h (by
  show (if m<σ.length then _ else yc false σ.length σ' 0 σ'[m]?)=_;rw[if_neg (Lf.mpr hm),ho,←k];rfl)
theorem tk (σ:Sto):σ.take σ.length=σ:=List.take_length
theorem tkl (σ l:Sto):(σ++l).take σ.length=σ:=List.take_left
theorem ax {o:BO} {a b:CE} {x y:PV} {u w z:D} (h1:Ev K a ρ σ x) (h2:Ev K b ρ σ y) (r1:rd σ x=some u) (r2:rd σ y=some w) (h:o.g u w=some z):Ev K (bin o a b) ρ σ (.d z):=by
 refine av h1 (av h2 ?_);show (rd σ x).bind _=_;rw[r1,Ka,r2,Ka,h];rfl
theorem mM {o:CO} {x y:PV} {u w:D} {q:Bool} (h:o.g u w=some q) (r1:rd σ x=some u) (r2:rd σ y=some w):cm2 o.g x y σ=some (.ok q,σ):=by
 unfold cm2;rw[r1,Ka,r2,Ka,h];rfl
theorem jD {o:CO} {a b:CE} {x y:PV} {u w:D} {q:Bool} (h1:Ev K a ρ σ x) (h2:Ev K b ρ σ y) (r1:rd σ x=some u) (r2:rd σ y=some w) (h:o.g u w=some q):Ev K (cmp o a b) ρ σ (.d (.bool q)):=
 av h1 (av h2 (av (mM h r1 r2) rfl))
theorem ai {o:CO} {a b:CE} {x y:PV} {u w:D} {q:Bool} (h1:Ev K a ρ σ x) (h2:Ev K b ρ σ y) (r1:rd σ x=some u) (r2:rd σ y=some w) (h:o.g u w=some q):Ts K (aJ o a b) ρ σ q:=
 av h1 (av h2 (mM h r1 r2))
theorem bE {l:CTs .Or} {q:Bool} (h:l.ts K ρ σ=some (.ok q,σ)):Ts K (tor l) ρ σ q:=h
theorem bO {l:CTs .And} {q:Bool} (h:l.ts K ρ σ=some (.ok q,σ)):Ts K (lH l) ρ σ q:=h
theorem BE {l:CA} {z:Option (R PV×Sto)} (h:l.ev K ρ σ=z):(F5 l).ev K ρ σ=z:=h
theorem BD {a:CE} {z:Option (R PV×Sto)} (h:a.ev K ρ σ=z):(F4 a).ev K ρ σ=z:=h
theorem nN {a:CT} (h:Ts K a ρ σ true):Ts K (eU a) ρ σ false:=av h rfl
theorem sI {t:CT} {z:Option (R Bool×Sto)} (h:t.ts K ρ σ=z):(iE t).ts K ρ σ=z:=h
theorem lE {a:CT} {q:Bool} (h:Ts K a ρ σ q):Ts K (eU a) ρ σ (!q):=av h rfl
theorem fS {a:CE} {q:Bool} (h:Ev K a ρ σ (.d (.bool q))):Ts K (tof a) ρ σ q:=av h rfl
theorem bI {q:Bool} {a:CT} {l:CTs .Or} (h:Ts K a ρ σ false) (k:l.ts K ρ σ=some (.ok q,σ)):(bH a l).ts K ρ σ=some (.ok q,σ):=av h k
theorem f_ {a:CT} {l:CTs .Or} (h:Ts K a ρ σ true):(bH a l).ts K ρ σ=some (.ok true,σ):=av h rfl
theorem cb {q:Bool} {a:CT} {l:CTs .And} (h:Ts K a ρ σ true) (k:l.ts K ρ σ=some (.ok q,σ)):(cB a l).ts K ρ σ=some (.ok q,σ):=av h k
theorem eu {a:CT} {l:CTs .And} (h:Ts K a ρ σ false):(cB a l).ts K ρ σ=some (.ok false,σ):=av h rfl
theorem D7 {a:CE} {l:CA} {z:Option (R PV×Sto)} (h:Ev K a ρ σ (.d (.bool true))) (k:l.ev K ρ σ=z):(El a l).ev K ρ σ=z:=av h (av (a:=true) (σ':=σ) rfl k)
theorem BC {a:CE} {l:CA} (h:Ev K a ρ σ (.d (.bool false))):(El a l).ev K ρ σ=some (.ok (.d (.bool false)),σ):=av h (av (a:=false) (σ':=σ) rfl rfl)
theorem FT {o q:CO} {c:CE} {x y w:PV} {u v t:D} {p r:Bool} (h3:Ev K c ρ σ w) (r1:rd σ x=some u) (r2:rd σ y=some v) (r3:rd σ w=some t) (e1:o.g u v=some p) (e2:q.g v t=some r):ch2 (c.ev K ρ) o.g q.g x y σ=some (.ok (.d (.bool (p&&r))),σ):=by
 refine av (mM e1 r1 r2) ?_;cases p with
 |true=>exact av h3 (av (mM e2 r2 r3) rfl)
 |false=>rfl
theorem vS {o q:CO} {a b c:CE} {x y w:PV} {u v t:D} {p r:Bool} (h1:Ev K a ρ σ x) (h2:Ev K b ρ σ y) (h3:Ev K c ρ σ w) (r1:rd σ x=some u) (r2:rd σ y=some v) (r3:rd σ w=some t) (e1:o.g u v=some p) (e2:q.g v t=some r):Ev K (BP o q a b c) ρ σ (.d (.bool (p&&r))):=av h1 (av h2 (FT h3 r1 r2 r3 e1 e2))
theorem oH {o q:CO} {a b c:CE} {x y w:PV} {u v t:D} {p r:Bool} (h1:Ev K a ρ σ x) (h2:Ev K b ρ σ y) (h3:Ev K c ρ σ w) (r1:rd σ x=some u) (r2:rd σ y=some v) (r3:rd σ w=some t) (e1:o.g u v=some p) (e2:q.g v t=some r):Ts K (qn o q a b c) ρ σ (p&&r):=by
 refine av h1 (av h2 (av (mM e1 r1 r2) ?_));cases p with
 |true=>exact av h3 (mM e2 r2 r3)
 |false=>rfl
theorem uA {a:CE} {i:Int} (h:Ev K a ρ σ (.d (.int i))):Ev K (neg a) ρ σ (.d (.int (-i))):=av h rfl
theorem k_ {t:CT} {a b:CE} {z:Option (R PV×Sto)} (h:Ts K t ρ σ true) (k:a.ev K ρ σ=z):(pH t a b).ev K ρ σ=z:=av h k
theorem lc {t:CT} {a b:CE} {z:Option (R PV×Sto)} (h:Ts K t ρ σ false) (k:b.ev K ρ σ=z):(pH t a b).ev K ρ σ=z:=av h k
theorem cl1 {a:CE} {x:PV} (h:Ev K a ρ σ x):(clC a clN).ev K ρ σ=some (.ok [x],σ):=av h (av (a:=[]) (σ':=σ) rfl rfl)
theorem clc {a:CE} {l:CL} {x:PV} {xs:List PV} (h:Ev K a ρ σ x) (k:l.ev K ρ σ=some (.ok xs,σ)):(clC a l).ev K ρ σ=some (.ok (x::xs),σ):=av h (av k rfl)
theorem bx {f:BF} {l:CL} {xs:List PV} {z:Option (R PV×Sto)} (h:l.ev K ρ σ=some (.ok xs,σ)) (k:f.g K.hd xs σ=z):(bi f l).ev K ρ σ=z:=av h k
theorem ak {n:Nat} {l:CL} {xs:List PV} {z:Option (R PV×Sto)} (h:l.ev (KK d hd) ρ σ=some (.ok xs,σ)) (k:CC d hd n xs σ=z):(ao n l).ev (KK d hd) ρ σ=z:=av h k
theorem BA {n:Nat} {o:CE} {l:CL} {x:PV} {xs:List PV} {z:Option (R PV×Sto)} (h0:Ev (KK d hd) o ρ σ x) (hx:isO x σ=some (.ok (),σ)) (h:l.ev (KK d hd) ρ σ=some (.ok xs,σ)) (k:CC d hd n (x::xs) σ=z):(meth o n l).ev (KK d hd) ρ σ=z:=av h0 (av hx (av h k))
theorem aB {q:Prop} [Decidable q] {a:α} (h:q):al q a=some a:=if_pos h
theorem dO {l:CL} {xs:List PV} {ds:List D} (h:l.ev K ρ σ=some (.ok xs,σ)) (k:nG xs=some ds:=by rfl) (hl:ds.length≤1000:=by exact Kj rfl):Ev K (lst l) ρ σ (.d (.lst ds)):=by
 refine av h ?_;show ((nG xs).bind fun ds=>al (ds.length≤1000) (PV.d (.lst ds))).map _=_;rw[k,Ka,aB hl];rfl
theorem aP {l:CL} {xs:List PV} {ds:List D} (h:l.ev K ρ σ=some (.ok xs,σ)) (k:nG xs=some ds:=by rfl) (hl:ds.length≤1000:=by exact Kj rfl):Ev K (tup l) ρ σ (.d (.tup ds)):=by
 refine av h ?_;show ((nG xs).bind fun ds=>al (ds.length≤1000) (PV.d (.tup ds))).map _=_;rw[k,Ka,aB hl];rfl
theorem co {l:CL} {xs:List PV} {ds:List D} (h:l.ev K ρ σ=some (.ok xs,σ)) (k:nG xs=some ds:=by rfl) (hl:ds.length≤1000:=by exact Kj rfl):(eJ l).ev K ρ σ=some (.ok (.p σ.length 0),σ++[.fld (.list ds)]):=by
 refine av h (av (a:=ds) (σ':=σ) ?_ rfl);show ((nG xs).bind fun ds=>al (ds.length≤1000) ds).map _=_;rw[k,Ka,aB hl];rfl
theorem g7 {x:PV} {l:List D} (h:rd σ x=some (.lst l)) (hl:l.length≤lim):fLen.g hd [x] σ=some (.ok (.d (.int l.length)),σ):=by
 show ((rd σ x).bind fun u=>(A6 u).map fun z=>(R.ok (PV.d z),σ))=_;rw[h,Ka];show (Option.map _ (al (l.length≤lim) (D.int l.length)))=_;rw[aB hl];rfl
theorem FD {x:PV} {l:List D} (h:rd σ x=some (.tup l)) (hl:l.length≤lim):fLen.g hd [x] σ=some (.ok (.d (.int l.length)),σ):=by
 show ((rd σ x).bind fun u=>(A6 u).map fun z=>(R.ok (PV.d z),σ))=_;rw[h,Ka];show (Option.map _ (al (l.length≤lim) (D.int l.length)))=_;rw[aB hl];rfl
theorem vB {l:List Nat} (hl:l.length≤lim):fLen.g hd [.d (.str l)] σ=some (.ok (.d (.int l.length)),σ):=by
 show (Option.map _ (al (l.length≤lim) (D.int l.length)))=_;rw[aB hl];rfl
theorem cC {i:Int} (h0: -1000≤i) (h:i≤100000000):small i=true:=by rw[small,Kr (by exact KO (by decide) h0),Kr (by exact KQ h (by decide))];rfl
theorem aA {a i:CE} {x y:PV} {u w z:D} (h1:Ev K a ρ σ x) (h2:Ev K i ρ σ y) (r1:rd σ x=some u) (r2:dOf y=some w) (h:getD u w=some z):Ev K (sub a i) ρ σ (.d z):=by
 refine av h1 (av h2 ?_);show (rd σ x).bind _=_;rw[r1,Ka,r2,Ka,h];rfl
theorem qI {k n:Nat} (h:k<n):cR k n=some k:=by
 unfold cR;rw[if_pos (o9),if_pos (o60 h),Int.toNat_natCast]
theorem zl (l:List D) (i:Int):getD (.lst l) (.int i)=(al (small i=true) ()).bind fun _=>(cR i l.length).bind fun k=>l[k]? :=rfl
theorem DX (l:List D) (i:Int):getD (.tup l) (.int i)=getD (.lst l) (.int i):=rfl
theorem DY (l:List Nat) (i:Int):getD (.str l) (.int i)=(al (small i=true) ()).bind fun _=>(cR i l.length).bind fun k=>(l[k]?).map fun c=>D.str [c]:=rfl
theorem ba {l:List D} {k:Nat} {z:D} (h:l[k]? =some z) (hk:k≤100000:=by decide):getD (.lst l) (.int k)=some z:=by
 rw[zl,aB (cC (o17) (E0 hk)),Ka,qI (Kg.mp h).1];exact h
theorem ci {l:List D} {k:Nat} {z:D} (h:l[k]? =some z) (hk:k≤100000:=by decide):getD (.tup l) (.int k)=some z:=by rw[DX];exact ba h hk
theorem aL {a:CE} {l:List D} {z:D} (k:Nat) (h:Ev K a ρ σ (.d (.tup l))) (hz:l[k]? =some z) (hk:k≤100000:=by decide):Ev K (sub a (ah (k:Nat))) ρ σ (.d z):=aA h rfl rfl rfl (ci hz hk)
theorem Co {l:List Nat} {k c:Nat} (h:l[k]? =some c) (hk:k≤100000:=by decide):getD (.str l) (.int k)=some (.str [c]):=by
 rw[DY,aB (cC (o17) (E0 hk)),Ka,qI (Kg.mp h).1,Ka,h];rfl
theorem bG {o a:CE} {n j:Nat} {l:List D} {y:D} (h0:Ev K o ρ σ (.p n j)) (h1:Ev K a ρ σ (.d y)) (h:a8 σ n j=some (.list l)) (hl:l.length<lim):(bm aH o (clC a clN)).ev K ρ σ=some (.ok (.d .none),putAt σ n j (.list (l++[y]))):=by
 refine av h0 ?_;have r:rd σ (.p n j)=some (.lst l):=by show (a8 σ n j).bind _=_;rw[h];rfl
 show (match (rd σ (.p n j)).any (DP (.p n j)) with|true=>_|false=>none)=_
 rw[r];refine av (cl1 h1) ?_;show ((a8 σ n j).bind fun f=>(F3 y f).map _)=_;rw[h,Ka];show Option.map _ (al (l.length<lim) _)=_;rw[aB hl];rfl
theorem r9 {b:Int} (h1:0<b) (h2:b<2^250):gg b=true:=by
 simp only [gg,Bool.and_eq_true,bne_iff_ne,ne_eq,decide_eq_true_eq];refine ⟨o27 h1,KF (m:=2^250) ?_ (Nat.pow_le_pow_right (by decide) (by decide))⟩;have:((2^250:Nat):Int)=2^250:=by norm_cast
 exact Hl h1 h2
theorem aG {a b:Int} (hb:0<b):0≤a.fmod b∧a.fmod b<b:=by
 rw[Int.fmod_eq_emod_of_nonneg a (o42 hb)];exact ⟨Int.emod_nonneg a (o28 hb),Int.emod_lt_of_pos a hb⟩
theorem dL {a b:Int} (h1:0<b) (h2:b<2^250):oMod.g (.int a) (.int b)=some (.int (a.fmod b)):=by
 show (al (gg b=true) (a.fmod b)).map _=_;rw[aB (r9 h1 h2)];rfl
theorem vJ {a b:Int} (h1:0<b) (h2:b<2^250):oDiv.g (.int a) (.int b)=some (.int (a.fdiv b)):=by
 show (al (gg b=true) (a.fdiv b)).map _=_;rw[aB (r9 h1 h2)];rfl
theorem iK {a b:Int} (h:a.natAbs<2^64):eY a b=true:=by rw[eY,Kr h];rfl
theorem dI {a b:Int} (h:b.natAbs<2^64):eY a b=true:=by rw[eY,Kr h,Bool.or_true];rfl
theorem dw {a b:Int} (h:eY a b=true):oMul.g (.int a) (.int b)=some (.int (a*b)):=by
 show (al (eY a b=true) (a*b)).map _=_;rw[aB h];rfl
theorem iW {a b:List Nat} (h:a.length+b.length≤lim):oAdd.g (.str a) (.str b)=some (.str (a++b)):=if_pos h
theorem zq {a b:Nat} (h:a≤1000∧b≤1000):oPow.g (.int a) (.int b)=some (.int ((a:Int)^b)):=by
 show (al _ _).map _=_;rw[aB ⟨o9,by exact KS.mpr h.2,o9,by exact KS.mpr h.1⟩];rfl
section
variable {a b:Int} {s t:List Nat}
theorem tQ (h:a<b):cLt.g (.int a) (.int b)=some true:=congrArg some (Kr h)
theorem iL (h:¬a<b):cLt.g (.int a) (.int b)=some false:=congrArg some (K7 h)
theorem zi (h:b<a):cGt.g (.int a) (.int b)=some true:=congrArg some (Kr h)
theorem kA (h:¬b<a):cGt.g (.int a) (.int b)=some false:=congrArg some (K7 h)
theorem pA (h:a≤b):cLe.g (.int a) (.int b)=some true:=congrArg some (Kr h)
theorem A8 (h:¬a≤b):cLe.g (.int a) (.int b)=some false:=congrArg some (K7 h)
theorem fh (h:a=b):cEq.g (.int a) (.int b)=some true:=congrArg some (Kr h)
theorem ii (h:a≠b):cEq.g (.int a) (.int b)=some false:=congrArg some (K7 h)
theorem pc (h:a≠b):cNe.g (.int a) (.int b)=some true:=congrArg (fun c=>some !c) (K7 h)
theorem nn (h:a=b):cNe.g (.int a) (.int b)=some false:=congrArg (fun c=>some !c) (Kr h)
theorem fg (h:s=t):cEq.g (.str s) (.str t)=some true:=congrArg some (Kr h)
theorem g_ (h:s≠t):cEq.g (.str s) (.str t)=some false:=congrArg some (K7 h)
end
theorem de {i:Nat} {it elt:CE} {t:CI} {v:PV} {x:D} {xs l:List D} (h:Ev K it ρ σ v) (h1:itV v σ=some (x,xs)) (h2:cX v x i (t.ts K) (elt.ev K) ρ xs [] σ=some (.ok l,σ')) (hK:K.hd=false):i_ i it t elt K ρ σ=some (.ok l,σ'):=by
 unfold i_;rw[hK];refine av h ?_;show (itV v σ).bind _=_;rw[h1];exact h2
theorem eq {i:Nat} {it elt:CE} {t:CI} {v:PV} {x:D} {xs l:List D} (h:Ev K it ρ σ v) (h1:itV v σ=some (x,xs)) (h2:cX v x i (t.ts K) (elt.ev K) ρ xs [] σ=some (.ok l,σ')) (hK:K.hd=false:=by rfl):(comp i it t elt).ev K ρ σ=some (.ok l,σ'):=de h h1 h2 hK
theorem dY {j i:Nat} {it elt:CE} {t:CI} {l:List D} (h:i_ i it t elt K ρ σ=some (.ok l,σ')) (k:ρ.set j (dV (.lst l))=ρ'):(iy false j i it t elt).ex K ρ σ=some (.next ρ',σ'):=by
 subst k;exact bf (av h rfl) rfl
theorem mI {f:CF} {l:List D} (h:f.ev K ρ σ=some (.ok l,σ')):(ofF false f).ev K ρ σ=some (.ok (.d (.lst l)),σ'):=av h rfl
theorem cW {i:Nat} {elt:CE} {y:D} (f g:α→D):∀ (xs:List α) (acc:List D),(∀ x∈xs,Ev K elt (ρ.set i (dV (f x))) σ (.d (g x)))→acc.length+xs.length≤1000000→cX (.d y) y i (noIf.ts K) (elt.ev K) ρ (xs.map f) acc σ=some (.ok (acc++xs.map g),σ)
 |[],acc,_,_=>by rw[List.map_nil,List.map_nil,List.append_nil];rfl
 |x::xs,acc,h,hl=>by
  have e:=h x (.head _);rw[Kk] at hl;have ih:=cW (y:=y) f g xs (acc++[g x]) (fun z hz=>h z (.tail _ hz)) (by rw[Kd,Kn];exact o65 hl);rw[List.map_cons,List.map_cons,List.append_cons,←ih];show (match elt.ev K (ρ.set i (dV (f x))) σ with
   |some (.ok (.d z),σ'')=>if bp σ'' y (.d y)∧acc.length<lim then cX (.d y) y i (noIf.ts K) (elt.ev K) ρ (xs.map f) (acc++[z]) σ'' else none
   |_=>none)=_
  rw[e];exact if_pos ⟨rfl,KE (Km (K9 _ _) hl) (by decide)⟩
theorem ov (p:α→Bool):∀ xs:List α,im (xs.map fun x=>.bool (p x))=some (xs.map p)
 |[]=>rfl
 |x::xs=>by
  show (im (xs.map fun x=>.bool (p x))).map (p x::·)=_;rw[ov p xs];rfl
theorem Cv (p:α→Bool) (xs:List α):fAll.g false [.d (.lst (xs.map fun x=>.bool (p x)))] σ=some (.ok (.d (.bool (xs.all p))),σ):=by
 show (Option.map _ (Option.map _ (im (xs.map fun x=>.bool (p x)))))=_;rw[ov];show some (R.ok (PV.d (.bool ((xs.map p).all id))),σ)=_;rw[List.all_map];rfl
theorem cp {x:D} {xs:List D} (h:items x=some xs):itV (.d x) σ=some (x,xs):=by
 show (Option.map _ (items x))=_;rw[h];rfl
theorem jO {i:Nat} {it elt:CE} {t:List Nat} {p:Nat→Bool} (h:Ev K it ρ σ (.d (.str t))) (hl:t.length≤1000) (k:∀ c∈t,Ev K elt (ρ.set i (sV [c])) σ (.d (.bool (p c)))) (hK:K.hd=false:=by rfl):Ev K (bi fAll (clC (ofF false (comp i it noIf elt)) clN)) ρ σ (.d (.bool (t.all p))):=by
 have e:items (.str t)=some (t.map fun c=>.str [c]):=if_pos (Km hl (by decide));refine bx (cl1 (mI (eq h (cp e) (cW (fun c=>.str [c]) (fun c=>.bool (p c)) t [] k (by rw[K6];exact o76 hl)) hK))) ?_;rw[hK];exact Cv p t
end
noncomputable def great:List Nat:=Lu
noncomputable def lQ:List Nat:=Lv
noncomputable def aX (t:List Nat):Bool:=decide (t.length=3)&&t.all fun c=>decide (c∈great)
def bc (n:Int):Prop:=0≤n∧n≤99999
def fu (t:List Nat):Prop:=t.length≤40∧∀ c∈t,32≤c∧c≤126
noncomputable def cA (a:Int):Bool:=decide (a≠0)&&(decide (-(10^30)<a)&&decide (a<10^30))
section
variable {σ:Sto} {d:Nat} {hd:Bool}
theorem Ck {a b:Nat} (h:a≤b):cLeS.g (.str [a]) (.str [b])=some true:=by
 show some (if a<b then true else if a=b then true else false)=_;rcases Nat.lt_or_eq_of_le h with q|q
 ·rw[if_pos q]
 ·rw[if_neg (Hk q),if_pos q]
theorem cg {n:Int} (h:bc n):CC (d+1) hd 3 [.d (.int n)] σ=some (.ok (.d .none),σ):=
 eS t3 rfl rfl (aa (a_ (bE (bI (ai rfl rfl rfl rfl (iL (Lg.mpr h.1))) (bI (ai rfl rfl rfl rfl (kA (Lg.mpr h.2))) rfl))) rfl) rfl) (tk σ)
theorem D9 {t:List Nat} (hl:t.length≤1000):Ts (KK d false) (tor (bH (aJ cNe (bi fLen (clC (loc 0) clN)) (ah 3)) (bH (eU (tof (bi fAll (clC (ofF false (comp 1 (loc 0) noIf (cmp z_ (loc 1) (glb "GREAT" (none,Lu))))) clN)))) eA))) [sV t,none] σ (!aX t):=by
 refine bE ?_;have e:=jO (K:=KK d false) (ρ:=[sV t,none]) (σ:=σ) (i:=1) (it:=loc 0) (p:=fun c=>decide (c∈great)) (elt:=cmp z_ (loc 1) (glb "GREAT" (none,Lu))) rfl hl fun c _=>rfl;have l:Ev (KK d false) (bi fLen (clC (loc 0) clN)) [sV t,none] σ (.d (.int t.length)):=bx (cl1 rfl) (vB (Km hl (by decide)));by_cases q:t.length=3
 ·unfold aX;rw[Kr q,Bool.true_and];refine bI (ai l rfl rfl rfl (nn (by rw[q];rfl))) ?_;cases z:t.all fun c=>decide (c∈great) with
  |true=>rw[z] at e;exact bI (lE (fS e)) rfl
  |false=>rw[z] at e;exact f_ (lE (fS e))
 ·unfold aX;rw[K7 q];exact f_ (ai l rfl rfl rfl (pc (by exact Nat.ToInt.of_diseq rfl rfl q)))
theorem pU {t:List Nat} (h:aX t=true):t.length=3:=KX (ag h)
theorem bU {t:List Nat} (h:aX t=true):CC (d+1) false 5 [.d (.str t)] σ=some (.ok (.d .none),σ):=by
 have e:=D9 (d:=d) (σ:=σ) (t:=t) (by rw[pU h];decide);rw[h] at e;exact eS t5 rfl rfl (aa (a_ e rfl) rfl) (tk σ)
theorem iH {t:List Nat} (h:fu t):CC (d+1) false 16 [.d (.str t)] σ=some (.ok (.d .none),σ):=by
 have hl:t.length≤1000:=Km h.1 (by decide);have e:=jO (K:=KK d false) (ρ:=[sV t,none]) (σ:=σ) (i:=1) (it:=loc 0) (p:=fun _=>true) (elt:=BP cLeS cLeS (aU [32]) (loc 1) (aU [126])) rfl hl fun c hc=> ?_
 ·rw[show (t.all fun _=>true)=true from List.all_eq_true.mpr fun _ _=>rfl] at e;exact eS t16 rfl rfl (aa (a_ (bE (bI (ai (bx (cl1 rfl) (vB (Km hl (by decide)))) rfl rfl rfl (kA (by have:=h.1;exact Lg.mpr (KS.mpr this)))) (bI (lE (fS e)) rfl))) rfl) rfl) (tk σ)
 ·exact vS rfl rfl rfl rfl rfl rfl (Ck (h.2 c hc).1) (Ck (h.2 c hc).2)
theorem nD {a:Int}:CC (d+1) hd 12 [.d (.int a)] σ=some (.ok (.d (.bool (cA a))),σ):=by
 refine aO t12 rfl rfl (az (aq (BE ?_))) (tk σ);by_cases q:a=0
 ·rw[q];exact BC (jD rfl rfl rfl rfl (nn rfl))
 ·refine D7 (jD rfl rfl rfl rfl (pc q)) ?_;unfold cA;rw[Kr q,Bool.true_and];exact BD (vS rfl rfl rfl rfl rfl rfl rfl rfl)
end
section
theorem aQ {n:Nat} (h:n≤1000):n≤lim:=Km h (by decide)
theorem cn {n:Nat} (h:n≤1000):n<lim:=KE h (by decide)
variable {r:Sto} {d:Nat} {hd:Bool} {K:Ker} {ρ:Rho}
end
section
variable {r:Sto} {d:Nat} {hd:Bool} {K:Ker} {ρ:Rho} {σ:Sto}
theorem str_mem {a:List Nat} {ns:List (List Nat)}:D.str a∈ns.map D.str↔a∈ns:=by
 constructor
 ·intro h;obtain ⟨b,hb,e⟩:=Kt.mp h;cases e;exact hb
 ·exact fun h=>List.mem_map_of_mem h
theorem inL_str {a:List Nat} {ns:List (List Nat)}:inL (.str a) (.lst (ns.map .str))=some (@decide (D.str a∈ns.map D.str) (Classical.propDecidable _)):=by
 have h:(pl 8 (.str a)&&(ns.map D.str).all (pl 8))=true:=Bool.and_eq_true_iff.mpr ⟨rfl,List.all_eq_true.mpr fun x hx=>by
  obtain ⟨b,_,e⟩:=Kt.mp hx;rw[←e];rfl⟩
 unfold inL;show al _ _=_;unfold al;rw[if_pos h];congr
theorem FI {a:List Nat} {ns:List (List Nat)} (h:a∈ns):cIn.g (.str a) (.lst (ns.map .str))=some true:=inL_str.trans (congrArg some (@Kr _ (_) (str_mem.mpr h)))
theorem Bj {a:List Nat} {ns:List (List Nat)} (h:a∉ns):cIn.g (.str a) (.lst (ns.map .str))=some false:=inL_str.trans (congrArg some (@K7 _ (_) fun q=>h (str_mem.mp q)))
theorem vp {a:List Nat} {ns:List (List Nat)} (h:a∈ns):cNotIn.g (.str a) (.lst (ns.map .str))=some false:=congrArg (Option.map fun c=> !c) (FI h)
theorem vo {a:List Nat} {ns:List (List Nat)} (h:a∉ns):cNotIn.g (.str a) (.lst (ns.map .str))=some true:=congrArg (Option.map fun c=> !c) (Bj h)
end
section
variable {r:Sto} {d:Nat} {hd:Bool} {K:Ker} {ρ ρ':Rho} {σ σ':Sto}
theorem bL {l:Sto} {f:Fld}:a8 (l++[.fld f]) l.length 0=some f:=by
 unfold a8;rw[dG];rfl
theorem kL {l:Sto} {o o':PO}:(l++[o]).set l.length o'=l++[o']:=by
 rw[List.set_append_right _ _ (Ko _),Nat.sub_self];rfl
theorem cz {l:Sto} {f f':Fld}:putAt (l++[.fld f]) l.length 0 f'=l++[.fld f']:=by
 unfold putAt;rw[dG];exact kL
theorem dC {l:Sto} {f:Fld} {x:D} (h:f.rd=some x):rd (l++[.fld f]) (.p l.length 0)=some x:=by
 show (a8 (l++[.fld f]) l.length 0).bind Fld.rd=_;rw[bL];exact h
theorem oS {k v:D} {ks vs:List D} (h:gU k ks=true) (hl:ks.length<100000):sW k v (.dict ks vs)=some (.dict (cQ k ks) (cP k v ks vs)):=aB ⟨h,hl⟩
theorem gB {n j:Nat} {k v:D} {f f':Fld} (h:a8 σ n j=some f) (h2:sW k v f=some f'):wx (.p n j) k v σ=some (putAt σ n j f'):=by
 show (a8 σ n j).bind _=_;rw[h,Ka,h2];rfl
theorem uB {o a b:CE} {x:PV} {ks vs:List D} {k z:D} (h:Ev K o ρ σ x) (r1:rd σ x=some (.dct ks vs)) (h1:Ev K a ρ σ (.d k)) (h2:Ev K b ρ σ (.d z)) (hf:gU k ks=true):Ev K (bm wM o (clC a (clC b clN))) ρ σ (.d ((cU k ks vs).getD z)):=by
 refine av h ?_;show (match (rd σ x).any w9 with|true=>_|false=>none)=_
 rw[r1];refine av (clc h1 (cl1 h2)) ?_;show ((rd σ x).bind fun u=>(zk u k z).map _)=_;rw[r1,Ka];show (al (gU k ks=true) _).map _=_;rw[aB hf];rfl
theorem iS {i:Nat} {l:CS} {v:PV} {x:D} {z:Option (Out×Sto)} (h:ρ[i]? =some (some v)) (h1:uj v σ=some (.d x,σ')) (k:l.ex K (ρ.set i (dV x)) σ'=z):(s0 i l).ex K ρ σ=z:=by
 show ((ρ[i]?).join).bind _=z;rw[h];show (uj v σ).bind _=z;rw[h1];exact k
theorem iT {l:Sto} {f:Fld} {x:D} (h:f.rd=some x):uj (.p l.length 0) (l++[.fld f])=some (.d x,l++[.dead]):=by
 show ((a8 (l++[.fld f]) l.length 0).bind fun g=>g.rd.map fun x=>(PV.d x,(l++[PO.fld f]).set l.length .dead))=_;rw[bL,Ka,h];show some (PV.d x,_)=_;rw[kL]
end
section
variable {r:Sto} {d:Nat} {hd:Bool} {K:Ker} {ρ ρ':Rho} {σ σ':Sto}
noncomputable def chg (a t1 b1 t2 b2:Int):Int:=(a*t1*b2).fdiv (b1*t2)
theorem so {a t1 b1 t2 b2:Int} (h1:1≤t1∧t1≤10^9) (h2:1≤b1∧b1≤10^9) (h3:1≤t2∧t2≤10^9) (h4:1≤b2∧b2≤10^9):CC (d+1) hd 13 [.d (.int a),.d (.tup [.int t1,.int b1]),.d (.tup [.int t2,.int b2])] σ=some (.ok (.d (.int (chg a t1 b1 t2 b2))),σ):=by
 have p1:0<b1*t2:=Int.mul_pos (o32 h2) (o32 h3);have p2:b1*t2≤10^9*10^9:=Int.mul_le_mul h2.2 h3.2 (by exact KO (by decide) h3.1) (by decide);exact aO t13 rfl rfl (az (aq (ax (ax (ax rfl (aA rfl rfl rfl rfl (ci rfl)) rfl rfl (dw (dI (o22 h1)))) (aA rfl rfl rfl rfl (ci rfl)) rfl rfl (dw (dI (o22 h4)))) (ax (aA rfl rfl rfl rfl (ci rfl)) (aA rfl rfl rfl rfl (ci rfl)) rfl rfl (dw (dI (o22 h3)))) rfl rfl (vJ p1 (o56 p2))))) (tk _)
noncomputable def cy:List Nat:=Lo
end
section
noncomputable def signs:List Nat:=Lx
def kz (c:List Nat):Prop:=∃ x r,c=x::r∧r.length≤11∧x∈lQ∧∀ y∈r,y∈signs
variable {r:Sto} {d:Nat} {hd:Bool} {K:Ker} {ρ ρ':Rho} {σ σ':Sto}
theorem ub {t:List Nat} (h:kz t):CC (d+1) false 36 [.d (.str t)] σ=some (.ok (.d (.bool true)),σ):=by
 refine aK fun G9 k9=> ?_;obtain ⟨x,q,rfl,h1,h2,h3⟩:=h;refine k9 ?_;have hs:∀ y∈lQ,y∈signs:=by decide
 have hl:(x::q).length≤1000:=by rw[Kk];exact KE h1 (Kj rfl)
 have e:=jO (K:=KK d false) (ρ:=[sV (x::q),none]) (σ:=σ) (i:=1) (it:=loc 0) (t:=x::q) (p:=fun _=>true) (elt:=cmp z_ (loc 1) (bin oAdd (glb "SMALL" (none,Lv)) (glb "FIGURES" (none,[48,49,50,51,52,53,54,55,56,57])))) rfl hl fun c hc=> ?_
 ·rw[show ((x::q).all fun _=>true)=true from List.all_eq_true.mpr fun _ _=>rfl] at e;have l:Ev (KK d false) (bi fLen (clC (loc 0) clN)) [sV (x::q),none] σ (.d (.int (x::q).length)):=bx (cl1 rfl) (vB (aQ hl));refine aO t36 rfl (ρ:=[sV (x::q),none]) rfl (aa (a_ (bE (bI (ai l rfl rfl rfl (iL ?_)) (bI (ai l rfl rfl rfl (kA ?_)) (bI (ai (aA rfl rfl rfl rfl (Co (k:=0) rfl)) rfl rfl rfl ?_) rfl)))) rfl) (az (aq e))) (tk _)
  ·rw[Kk];exact JY
  ·rw[Kk];exact Lg.mpr (KS.mpr (Lc h1))
  ·exact congrArg (fun c=>some !c) (Kr h2)
 ·refine jD rfl (ax rfl rfl rfl rfl (iW (Kj rfl))) rfl rfl ?_;refine congrArg some (Kr ?_);rcases Kb.mp hc with z|z
  ·rw[z];exact hs x h2
  ·exact h3 c z
theorem sw {o a:CE} {k:Nat} {x v:PV} {σ'':Sto} (h1:a.ev K ρ σ=some (.ok v,σ')) (h2:Ev K o ρ σ' x) (h3:xN k x v σ'=some σ''):(gZ o k a).ex K ρ σ=some (.next ρ,σ''):=by
 refine bf h1 (bf h2 ?_);show (xN k x v σ').bind _=_;rw[h3];rfl
end
section
variable {r:Sto} {d:Nat} {hd:Bool} {K:Ker} {ρ ρ':Rho} {σ σ':Sto} {n m:Int}
theorem Bx {l:Sto} {i j:Nat} {f:Fld} (h:a8 σ i j=some f):a8 (σ++l) i j=some f:=by
 obtain ⟨o,e1,e2⟩:=bind_some h;unfold a8;rw[K1 (Kg.mp e1).1,e1];exact e2
theorem yd {l:Sto} {i j:Nat} {x:D} (h:rd σ (.p i j)=some x):rd (σ++l) (.p i j)=some x:=by
 obtain ⟨f,e1,e2⟩:=bind_some h;show (a8 (σ++l) i j).bind Fld.rd=_;rw[Bx e1];exact e2
theorem tk2 (σ:Sto) (a b:PO):((σ++[a])++[b]).take σ.length=σ:=by rw[List.append_assoc];exact List.take_left
noncomputable def cell (sc:List Int) (k:Nat):Int:=sc.getD k 0
theorem zW {sc:List Int} {k:Nat} (hs:sc.length≤63) (hk:k≤1000):CC (d+1) hd 33 [.d (.lst (sc.map .int)),.d (.int k)] σ=some (.ok (.d (.int (cell sc k))),σ):=by
 have hl:(sc.map D.int).length=sc.length:=J' ..;have l:Ev (KK d hd) (bi fLen (clC (loc 0) clN)) [dV (.lst (sc.map .int)),iV k] σ (.d (.int sc.length)):=by
  have e:=g7 (hd:=hd) (σ:=σ) (x:=.d (.lst (sc.map .int))) rfl (by rw[hl];exact aQ (o33 hs));rw[hl] at e;exact bx (cl1 rfl) e
 by_cases q:k<sc.length
 ·refine aO t33 rfl (ρ:=[dV (.lst (sc.map .int)),iV k]) rfl (az (bW (ai rfl l rfl rfl (tQ (by exact KT.mpr q))) (az (aq (aA rfl rfl rfl rfl (ba ?_ (o57 hk))))))) (tk _);rw[Ku,Kh q,cell,Kw,Kh q];rfl
 ·rw[show cell sc k=0 by rw[cell,Kw,List.getElem?_eq_none (Nat.le_of_not_lt q)];rfl];exact aO t33 rfl (ρ:=[dV (.lst (sc.map .int)),iV k]) rfl (aa (a_ (ai rfl l rfl rfl (iL (JX q))) rfl) (az (aq rfl))) (tk _)
theorem fB {t e:CE} {l:List Nat} {a k:Int} (h1:Ev K t ρ σ (.d (.str l))) (h2:Ev K e ρ σ (.d (.int a))) (h3:0<k) (h4:k≤l.length) (h5:l.length≤1000):Ev K (sub t (bin oMod e (ah k))) ρ σ (.d (.str [l.getD (a.fmod k).toNat 0])):=by
 have q:=aG (a:=a) (b:=k) h3;have hk:(a.fmod k).toNat<l.length:=o8 h4 q;refine aA h1 (ax h2 rfl rfl rfl (dL h3 (o14 h4 h5))) rfl rfl ?_;have e:a.fmod k=(((a.fmod k).toNat:Nat):Int):=o15 q;rw[e];refine Co ?_ (o16 h5 hk);rw[Int.toNat_natCast,Kw,Kh hk];rfl
theorem fT {l:List Nat} {a k:Int} (h1:0<k) (h2:k≤l.length):l.getD (a.fmod k).toNat 0∈l.take k.toNat:=by
 have r:=aG (a:=a) (b:=k) h1;rw[Kw,Kh (o8 h2 r),Option.getD_some];exact List.mem_take_iff_getElem.mpr ⟨(a.fmod k).toNat,JW h2 r,rfl⟩
theorem bw {e:CE} {a k:Int} (h:Ev K e ρ σ (.d (.int a))) (h1:0<k) (h2:k<2^250):Ev K (bin oDiv e (ah k)) ρ σ (.d (.int (a.fdiv k))):=ax h rfl rfl rfl (vJ h1 h2)
theorem ck {e:CE} {a k:Int} (h:Ev K e ρ σ (.d (.int a))) (h1:0<k) (h2:k<2^250):Ev K (bin oMod e (ah k)) ρ σ (.d (.int (a.fmod k))):=ax h rfl rfl rfl (dL h1 h2)
theorem i9:∃ t,aX t=true∧CC (d+1) hd 41 [.d (.int n)] σ=some (.ok (.d (.str t)),σ):=by
 have g:=fun a:Int=>List.mem_of_mem_take (fT (l:=great) (a:=a) (k:=26) (by decide) (by decide));refine ⟨[great.getD (n.fmod 26).toNat 0]++[great.getD ((n.fdiv 26).fmod 26).toNat 0]++[great.getD ((n.fdiv 676).fmod 26).toNat 0],?_,?_⟩
 ·show (true&&(decide _&&(decide _&&(decide _&&true))))=true;rw[Kr (g _),Kr (g _),Kr (g _)];rfl
 ·refine aO t41 rfl (ρ:=[iV n,none,none]) rfl ?_ (tk _);refine aa (an rfl rfl) ?_;refine aa (an (fB (l:=great) rfl rfl (by decide) (by decide) (by decide)) rfl) ?_;refine aa (an (ax rfl (fB (l:=great) rfl (bw rfl (by decide) (by decide)) (by decide) (by decide) (by decide)) rfl rfl (iW (Kj rfl))) rfl) ?_;exact az (aq (ax rfl (fB (l:=great) rfl (bw rfl (by decide) (by decide)) (by decide) (by decide) (by decide)) rfl rfl (iW (Kj rfl))))
theorem mt (a b c:Int):items (.rng a b c)=al ((small a&&small b&&decide (0<c)&&decide (c<1000)&&decide (bS a b c≤100000))=true) ((List.range (bS a b c)).map fun (i:Nat)=>.int (a+(i:Int)*c)):=rfl
theorem EC (b:Int):fRange.g hd [.d (.int b)] σ=(al (small b=true) (D.rng 0 b 1)).map fun z=>(R.ok (PV.d z),σ):=rfl
theorem dS {k:Nat} (h:k≤1000):items (.rng 0 k 1)=some ((List.range k).map fun (i:Nat)=>.int i):=by
 have e:bS 0 k 1=k:=by
  unfold bS;split
  ·rw[Int.ediv_one];exact JV
  ·exact JU (by assumption)
 rw[mt,aB]
 ·rw[e];refine congrArg some (List.map_congr_left fun i _=> ?_);rw[Int.mul_one,Int.zero_add]
 ·rw[e,cC (by decide) (by decide),cC (o17) (o58 h),Kr (by decide),Kr (by decide),Kr (o57 h)];rfl
theorem jC {e:CE} {k:Nat} (h:Ev K e ρ σ (.d (.int k))) (hk:k≤1000):Ev K (bi fRange (clC e clN)) ρ σ (.d (.rng 0 k 1)):=by
 refine bx (cl1 h) ?_;rw[EC,aB (cC (o17) (o58 hk))];rfl
end
section
variable {r:Sto} {d:Nat} {hd:Bool} {K:Ker} {ρ ρ':Rho} {σ σ':Sto} {n m:Int}
theorem ix {a:CE} {lo hi:CP} {x l h:PV} {u u1 u2 z:D} (h1:Ev K a ρ σ x) (h2:lo.ev K ρ σ=some (.ok l,σ)) (h3:hi.ev K ρ σ=some (.ok h,σ)) (r1:rd σ x=some u) (r2:dOf l=some u1) (r3:dOf h=some u2) (e:dj u u1 u2=some z):Ev K (slc a lo hi) ρ σ (.d z):=by
 refine av h1 (av h2 (av h3 ?_));show (rd σ x).bind _=_;rw[r1,Ka,r2,Ka,r3,Ka,e];rfl
theorem sA {a:CE} {z:Option (R PV×Sto)} (h:a.ev K ρ σ=z):(atP a).ev K ρ σ=z:=h
theorem EF {s:List Nat} {i:Int} (h0:0≤i) (h1:i≤s.length):dj (.str s) .none (.int i)=some (.str (s.take i.toNat)):=by
 show ((al (0≤i) i.toNat).bind fun h=>al (0≤h∧h≤s.length) (D.str (bY s 0 h)))=_;rw[aB h0,Ka,aB ⟨KI _,o59 h1⟩,bY,List.drop_zero,Nat.sub_zero]
theorem C9 {s:List Nat} {i:Int} (h0:0≤i) (h1:i≤s.length):dj (.str s) (.int i) .none=some (.str (s.drop i.toNat)):=by
 show ((al (0≤i) i.toNat).bind fun l=>al (l≤s.length∧s.length≤s.length) (D.str (bY s l s.length)))=_;rw[aB h0,Ka,aB ⟨o59 h1,Ko _⟩,bY,List.take_of_length_le (by rw[List.length_drop];exact Ko _)]
theorem qj {t sg:List Nat} (h1:1≤t.length) (h2:t.length≤50) (hs:sg.length=26):∃ k y,k<t.length∧y∈sg∧CC (d+1) hd 40 [.d (.str t),.d (.int n),.d (.str sg)] σ=some (.ok (.d (.str (t.set k y))),σ):=by
 have r:=aG (a:=n) (b:=t.length) (o23 h1);have q:n.fmod t.length=(((n.fmod t.length).toNat:Nat):Int):=o34 r;have hk:(n.fmod t.length).toNat<t.length:=o18 r;generalize (n.fmod t.length).toNat=k at q hk;have g:=List.mem_of_mem_take (fT (l:=sg) (a:=n.fdiv 13) (k:=26) (by decide) (by rw[hs];decide));refine ⟨k,_,hk,g,?_⟩;have e1:Ev (KK d hd) (bin oMod (loc 1) (bi fLen (clC (loc 0) clN))) [sV t,iV n,sV sg,none] σ (.d (.int k)):=by
  rw[←q];exact ax rfl (bx (cl1 rfl) (vB (aQ (by exact Km h2 (Kj rfl))))) rfl rfl (dL (o23 h1) (by exact KT.mpr (KE h2 (Kj rfl))))
 have e2:=fB (K:=KK d hd) (ρ:=[sV t,iV n,sV sg,iV k]) (σ:=σ) (t:=loc 2) (l:=sg) (e:=bin oDiv (loc 1) (ah 13)) (a:=n.fdiv 13) (k:=26) rfl (bw rfl (by decide) (by decide)) (by decide) (by rw[hs];decide) (by exact Km (K5 hs) (Kj rfl));rw[List.set_eq_take_append_cons_drop,if_pos hk,List.append_cons];have p1:=EF (s:=t) (i:=k) (o9) (JT r q);have p2:=C9 (s:=t) (i:=(k:Int)+1) (JS) (JR r q);rw[Int.toNat_natCast] at p1;rw[show ((k:Int)+1).toNat=k+1 by exact JQ] at p2;refine aO t40 rfl (ρ:=[sV t,iV n,sV sg,none]) rfl (aa (an e1 rfl) (az (aq (ax (ax (ix rfl rfl (sA rfl) rfl rfl rfl p1) e2 rfl rfl (iW ?_)) (ix rfl (sA (ax rfl rfl rfl rfl rfl)) rfl rfl rfl rfl p2) rfl rfl (iW ?_))))) (tk _)
 ·rw[List.length_take,Kn];exact aQ (by exact Nat.succ_le_of_lt (KE (Km (Nat.min_le_right _ _) h2) (by decide)))
 ·rw[Kd,List.length_take,Kn,List.length_drop];exact aQ (by exact Km (Nat.add_le_add (Lc (Km (Nat.min_le_right _ _) h2)) (Km (Nat.sub_le _ _) h2)) (by decide))
theorem Dj {t:List Nat} {k y:Nat} (h:kz t) (hy:y∈lQ):kz (t.set k y):=by
 refine aK fun G9 k9=> ?_;obtain ⟨x,r,rfl,h1,h2,h3⟩:=h;refine k9 ?_;have hs:∀ y∈lQ,y∈signs:=by decide
 cases k with
 |zero=>exact ⟨y,r,rfl,h1,hy,h3⟩
 |succ k=>
  refine ⟨x,r.set k y,rfl,by rw[KG];exact h1,h2,fun z hz=> ?_⟩;rcases List.mem_or_eq_of_mem_set hz with hz|rfl
  ·exact h3 z hz
  ·exact hs _ hy
theorem BK {t:List Nat} {k y:Nat} (h:aX t=true) (hy:y∈great):aX (t.set k y)=true:=by
 rw[aX,Bool.and_eq_true,decide_eq_true_eq,List.all_eq_true] at h ⊢;refine ⟨by rw[KG];exact h.1,fun z hz=> ?_⟩;rcases List.mem_or_eq_of_mem_set hz with hz|rfl
 ·exact h.2 z hz
 ·exact Kr hy
theorem yE {t:List Nat} (h:kz t):1≤t.length∧t.length≤12:=by
 refine aK fun G9 k9=> ?_;obtain ⟨x,r,rfl,h1,_⟩:=h;refine k9 ?_;rw[Kk];exact JP h1
theorem xM {l:List D} {k:Nat} {v:D} (h:k<l.length) (hl:l.length≤1000):sW (.int k) v (.list l)=some (.list (l.set k v)):=by
 have e:∀ i:Int,sW (.int i) v (.list l)=al ((small i&&decide (0≤i)&&decide (i<l.length))=true) (Fld.list (l.set i.toNat v)):=fun i=>rfl;rw[e,aB,Int.toNat_natCast];rw[cC (o17) (by exact KS.mpr (Km (KU h) (Km hl (by decide)))),Kr (o9),Kr (o60 h)];rfl
theorem ua {i j:Nat} {l:List D} (h:rd σ (.p i j)=some (.lst l)) (hl:l.length≤1000):itV (.p i j) σ=some (.lst l,l):=by
 unfold itV;rw[h];show (Option.map _ (al (l.length≤lim) l))=_;rw[aB (aQ hl)];rfl
end
section
theorem wj {F:List (List Nat)} {a b c:List Nat} (ha:a∈F) (hb:b∈F) (hc:c∈F) (h1:a≠b) (h2:a≠c) (h3:b≠c):3≤F.length:=by
 refine aK fun G9 k9=> ?_;obtain ⟨i,hi,rfl⟩:=List.mem_iff_getElem.mp ha;obtain ⟨j,hj,rfl⟩:=List.mem_iff_getElem.mp hb;obtain ⟨k,hk,rfl⟩:=List.mem_iff_getElem.mp hc;refine k9 ?_;have q1:i≠j:=fun q=>h1 (by subst q;rfl);have q2:i≠k:=fun q=>h2 (by subst q;rfl);have q3:j≠k:=fun q=>h3 (by subst q;rfl);exact JO hi hj hk q1 q2 q3
noncomputable def curs:List (List Nat):=[[69,85,82],[74,80,89],[85,83,68],[75,87,68],[67,72,70],[71,66,80],[83,69,75],[69,85,83]]
theorem BJ:∀ x∈curs,aX x=true:=by decide
variable {r:Sto} {d:Nat} {hd:Bool} {K:Ker} {ρ ρ':Rho} {σ σ':Sto} {n m:Int}
theorem vK {l:Sto} {f:Fld}:a8 (σ++(.fld f::l)) σ.length 0=some f:=by
 unfold a8;rw[KA (Ko _),Nat.sub_self];rfl
theorem AP {l:Sto} {f f':Fld}:putAt (σ++(.fld f::l)) σ.length 0 f'=σ++(.fld f'::l):=by
 unfold putAt;rw[KA (Ko _),Nat.sub_self];show (σ++(PO.fld f::l)).set σ.length _=_;rw[List.set_append_right _ _ (Ko _),Nat.sub_self];rfl
theorem oV {l:Sto} {f:Fld} {x:D} (h:f.rd=some x):rd (σ++(.fld f::l)) (.p σ.length 0)=some x:=by
 show (a8 (σ++(.fld f::l)) σ.length 0).bind Fld.rd=_;rw[vK];exact h
theorem Cp {a b:PO} {f:Fld}:a8 (σ++[a,b,.fld f]) (σ.length+2) 0=some f:=by
 unfold a8;rw[KA (K9 _ _),Nat.add_sub_cancel_left];rfl
theorem EE {a b:PO} {f f':Fld}:putAt (σ++[a,b,.fld f]) (σ.length+2) 0 f'=σ++[a,b,.fld f']:=by
 unfold putAt;rw[KA (K9 _ _),Nat.add_sub_cancel_left];show (σ++[a,b,PO.fld f]).set (σ.length+2) _=_;rw[List.set_append_right _ _ (K9 _ _),Nat.add_sub_cancel_left];rfl
theorem C7 {a b:PO} {f:Fld} {x:D} (h:f.rd=some x):rd (σ++[a,b,.fld f]) (.p (σ.length+2) 0)=some x:=by
 show (a8 (σ++[a,b,.fld f]) (σ.length+2) 0).bind Fld.rd=_;rw[Cp];exact h
theorem Eb {a b:CE} {x y:PV} {l m:List D} (h1:Ev K a ρ σ x) (h2:Ev K b ρ σ y) (r1:rd σ x=some (.lst l)) (r2:rd σ y=some (.lst m)) (hl:l.length+m.length≤1000):(ofF true (FB a b)).ev K ρ σ=some (.ok (.p σ.length 0),σ++[.fld (.list (l++m))]):=by
 refine av (a:=l++m) (σ':=σ) (av h1 (av h2 ?_)) rfl;show ((((rd σ x).bind lD).bind fun l=>((rd σ y).bind lD).bind fun m=>al (l.length+m.length≤lim) (l++m)).map fun z=>(R.ok z,σ))=_;rw[r1,r2];show (al (l.length+m.length≤lim) (l++m)).map _=_;rw[aB (aQ hl)];rfl
theorem mK {c0 c1:Int}:∃ F:List (List Nat),F.Nodup∧(∀ x∈F,aX x=true)∧3≤F.length∧F.length≤8∧CC (d+2) false 42 [.d (.lst [.int c0,.int c1])] σ=some (.ok (.d (.lst (F.map .str))),σ):=by
 refine aK fun G9 k9=> ?_;obtain ⟨n0,h0,e0⟩:=i9 (d:=d) (hd:=false) (σ:=σ++[.fld (.list [])]) (n:=c0);obtain ⟨n1,h1,e1⟩:=i9 (d:=d) (hd:=false) (σ:=σ++[.fld (.list [])]) (n:=c1);refine k9 ?_;generalize hB:PO.fld (.list [.str n0,.str n1,.str [69,85,82],.str [74,80,89],.str [85,83,68]])=B;refine aK fun G9 k9=> ?_;obtain ⟨L,hL,x4⟩:∃ L:Int,(4≤L∧L≤8)∧(aF 3 (pH (aJ cEq (bin oMod (bin oDiv (sub (loc 0) (ah 0)) (ah 3)) (ah 8)) (ah 3)) (ah 8) (ah 4))).ex (KK (d+1) false) [dV (.lst [.int c0,.int c1]),qV σ.length,qV (σ.length+2),none,none] (σ++[.fld (.list []),B,.fld (.list (.str n0:: .str n1::curs.map .str))])=some (.next [dV (.lst [.int c0,.int c1]),qV σ.length,qV (σ.length+2),iV L,none],σ++[.fld (.list []),B,.fld (.list (.str n0:: .str n1::curs.map .str))]):=by
  by_cases q:(c0.fdiv 3).fmod 8=3
  ·exact ⟨8,by decide,an (k_ (ai (ck (bw (aA rfl rfl rfl rfl (ba (k:=0) rfl)) (by decide) (by decide)) (by decide) (by decide)) rfl rfl rfl (fh q)) rfl) rfl⟩
  ·exact ⟨4,by decide,an (lc (ai (ck (bw (aA rfl rfl rfl rfl (ba (k:=0) rfl)) (by decide) (by decide)) (by decide) (by decide)) rfl rfl rfl (ii q)) rfl) rfl⟩
 obtain ⟨v,hv,x5⟩:∃ v,aX v=true∧(sIf (aJ cEq (bin oMod (sub (loc 0) (ah 1)) (ah 2)) (ah 1)) (sC (lT (loc 2) (ah 1) (ao 40 (clC (sub (loc 2) (ah 0)) (clC (bin oDiv (sub (loc 0) (ah 1)) (ah 2)) (clC (aU Lu) clN))))) sN) sN).ex (KK (d+1) false) [dV (.lst [.int c0,.int c1]),qV σ.length,qV (σ.length+2),iV L,none] (σ++[.fld (.list []),B,.fld (.list (.str n0:: .str n1::curs.map .str))])=some (.next [dV (.lst [.int c0,.int c1]),qV σ.length,qV (σ.length+2),iV L,none],σ++[.fld (.list []),B,.fld (.list (.str n0:: .str v::curs.map .str))]):=by
  by_cases q:c1.fmod 2=1
  ·obtain ⟨k,y,hk,hy,e2⟩:=qj (d:=d) (hd:=false) (σ:=σ++[.fld (.list []),B,.fld (.list (.str n0:: .str n1::curs.map .str))]) (n:=c1.fdiv 2) (t:=n0) (sg:=great) (by rw[pU h0];decide) (by rw[pU h0];decide) rfl;have s1:=gB (σ:=σ++[.fld (.list []),B,.fld (.list (.str n0:: .str n1::curs.map .str))]) (n:=σ.length+2) (j:=0) (k:=.int (1:Nat)) (v:=.str (n0.set k y)) Cp (xM (Kj rfl) (Kj rfl));rw[EE] at s1;exact ⟨n0.set k y,BK h0 hy,bW (ai (ck (aA rfl rfl rfl rfl (ba (k:=1) rfl)) (by decide) (by decide)) rfl rfl rfl (fh q)) (aa (gz (ak (clc (aA rfl rfl (C7 rfl) rfl (ba (k:=0) rfl)) (clc (bw (aA rfl rfl rfl rfl (ba (k:=1) rfl)) (by decide) (by decide)) (cl1 rfl))) e2) rfl rfl s1) rfl)⟩
  ·exact ⟨n1,h1,a_ (ai (ck (aA rfl rfl rfl rfl (ba (k:=1) rfl)) (by decide) (by decide)) rfl rfl rfl (ii q)) rfl⟩
 obtain ⟨ρ3,s3,lp,F,x3,rfl,rfl,hN,hC,hl1,hl2⟩:=iX (v:=.p (σ.length+2) 0) (x:=.lst (.str n0:: .str v::curs.map .str)) (i:=4) (b:=fun ρ=>(sC (sIf (lH (cB (aJ cNotIn (loc 4) (loc 1)) (cB (aJ cLt (bi fLen (clC (loc 1) clN)) (loc 3)) gY))) (sC (aM (bm aH (loc 1) (clC (loc 4) clN))) sN) sN) sN).ex (KK (d+1) false) ρ) 10
  (fun pre ρ s=>∃ (F:List (List Nat)) (x3:Option PV),ρ=[dV (.lst [.int c0,.int c1]),qV σ.length,qV (σ.length+2),iV L,x3]∧s=σ++[.fld (.list (F.map .str)),B,.fld (.list (.str n0:: .str v::curs.map .str))]∧F.Nodup∧(∀ x∈F,aX x=true)∧(F.length≤pre.length∧F.length≤8)∧((∀ x,D.str x∈pre→x∈F)∨4≤F.length))
  (.str n0:: .str v::curs.map .str) [] [dV (.lst [.int c0,.int c1]),qV σ.length,qV (σ.length+2),iV L,none] (σ++[.fld (.list []),B,.fld (.list (.str n0:: .str v::curs.map .str))]) (Kj rfl) ⟨[],none,rfl,rfl,K3,cY,⟨Ko _,KI _⟩,.inl fun x h=>absurd h Ky⟩ fun pre x ρ s hx hp H9=>by
   obtain ⟨F,x3,r1,r2,r3,r4,r5,r6⟩:=H9;subst r1 r2;obtain ⟨w,rfl,hw⟩:∃ w,x= .str w∧aX w=true:=by
    rcases Kb.mp hx with rfl|hx
    ·exact ⟨_,rfl,h0⟩
    rcases Kb.mp hx with rfl|hx
    ·exact ⟨_,rfl,hv⟩
    obtain ⟨w,hw,rfl⟩:=Kt.mp hx;exact ⟨w,rfl,BJ w hw⟩
   have hst:∀ o:PO,bp (σ++[o,B,.fld (.list (.str n0:: .str v::curs.map .str))]) (.lst (.str n0:: .str v::curs.map .str)) (.p (σ.length+2) 0)=true:=fun o=>fo (C7 rfl);have len:Ev (KK (d+1) false) (bi fLen (clC (loc 1) clN)) [dV (.lst [.int c0,.int c1]),qV σ.length,qV (σ.length+2),iV L,sV w] (σ++[.fld (.list (F.map .str)),B,.fld (.list (.str n0:: .str v::curs.map .str))]) (.d (.int F.length)):=by
    have e:=g7 (hd:=false) (σ:=σ++[.fld (.list (F.map .str)),B,.fld (.list (.str n0:: .str v::curs.map .str))]) (x:=.p σ.length 0) (oV rfl) (by rw[J'];exact aQ (o61 r5));rw[J'] at e;exact bx (cl1 rfl) e
   by_cases q:w∈F
   ·refine ⟨_,_,aa (a_ (bO (eu (ai rfl rfl rfl (oV rfl) (vp q)))) rfl) rfl,hst _,⟨F,_,rfl,rfl,r3,r4,⟨by rw[Kd];exact o62 r5,r5.2⟩,?_⟩⟩;rcases r6 with r6|r6
    ·refine .inl fun y hy=> ?_;rcases Kv.mp hy with hy|hy
     ·exact r6 y hy
     ·cases Ki.mp hy;exact q
    ·exact .inr r6
   ·by_cases q2:(F.length:Int)<L
    ·have e:=bG (K:=KK (d+1) false) (ρ:=[dV (.lst [.int c0,.int c1]),qV σ.length,qV (σ.length+2),iV L,sV w]) (o:=loc 1) (a:=loc 4) (y:=.str w) (l:=F.map .str) (σ:=σ++[.fld (.list (F.map .str)),B,.fld (.list (.str n0:: .str v::curs.map .str))]) rfl rfl vK (by rw[J'];exact cn (o61 r5));rw[AP] at e;refine ⟨_,_,aa (bW (bO (cb (ai rfl rfl rfl (oV rfl) (vo q)) (cb (ai len rfl rfl rfl (tQ q2)) rfl))) (aa (au e) rfl)) rfl,hst _,⟨F++[w],_,rfl,?_,?_,fun y hy=> ?_,⟨by rw[Kd,Kd];exact Nat.add_le_add_right r5.1 1,by rw[Kd,Kn];exact Nat.succ_le_of_lt (KT.mp (KR q2 hL.2))⟩,?_⟩⟩
     ·rw[List.map_append];rfl
     ·exact List.nodup_append.mpr ⟨r3,K0.mpr ⟨Ky,K3⟩,fun a ha c hc=>by rw[Ki.mp hc];rintro rfl;exact q ha⟩
     ·rcases Kv.mp hy with hy|hy
      ·exact r4 y hy
      ·rw[Ki.mp hy];exact hw
     ·rcases r6 with r6|r6
      ·refine .inl fun y hy=> ?_;rcases Kv.mp hy with hy|hy
       ·exact List.mem_append_left _ (r6 y hy)
       ·cases Ki.mp hy;exact List.mem_append_right _ (.head _)
      ·exact .inr (by rw[Kd];exact JN r6)
    ·exact ⟨_,_,aa (a_ (bO (cb (ai rfl rfl rfl (oV rfl) (vo q)) (eu (ai len rfl rfl rfl (iL q2))))) rfl) rfl,hst _,⟨F,_,rfl,rfl,r3,r4,⟨by rw[Kd];exact o62 r5,r5.2⟩,.inr (by exact KS.mp (KO hL.1 (Lg.mp q2)))⟩⟩
 refine k9 ?_;refine ⟨F,hN,hC,?_,hl1.2,?_⟩
 ·rcases hl2 with h|h
  ·exact wj (h [69,85,82] (.tail _ (.tail _ (.head _)))) (h [74,80,89] (.tail _ (.tail _ (.tail _ (.head _))))) (h [85,83,68] (.tail _ (.tail _ (.tail _ (.tail _ (.head _)))))) (by decide) (by decide) (by decide)
  ·exact Nat.le_of_add_left_le h
 refine zZ (f':=.list (F.map .str)) (m:=σ.length) (σ':=σ++[.fld (.list (F.map .str)),B,.fld (.list (.str n0:: .str v::curs.map .str))]) t42 rfl (ρ:=[dV (.lst [.int c0,.int c1]),none,none,none,none]) rfl ?_ (Ko _) (by rw[KA (Ko _),Nat.sub_self];rfl) List.take_left;have a0:∀ s,Ev (KK (d+1) false) (sub (loc 0) (ah 0)) [dV (.lst [.int c0,.int c1]),qV σ.length,none,none,none] s (.d (.int c0)):=fun s=>aA rfl rfl rfl rfl (ba (k:=0) rfl);have a1:∀ s,Ev (KK (d+1) false) (sub (loc 0) (ah 1)) [dV (.lst [.int c0,.int c1]),qV σ.length,none,none,none] s (.d (.int c1)):=fun s=>aA rfl rfl rfl rfl (ba (k:=1) rfl);refine aa (an (co rfl) rfl) ?_;refine aa (an (co (clc (ak (cl1 (a0 _)) e0) (clc (ak (cl1 (a1 _)) e1) (clc rfl (clc rfl (cl1 rfl)))))) rfl) ?_;refine aa (an (Eb rfl (dO rfl) (dC rfl) rfl (Kj rfl)) rfl) ?_;rw[hB,List.append_assoc,List.append_assoc];rw[show (σ++([PO.fld (Fld.list [])]++[B])).length=σ.length+2 by rw[Kd];rfl];refine aa x4 (aa x5 ?_);refine aa (aT rfl (ua (C7 rfl) (Kj rfl)) lp) ?_;exact az (aq rfl)
theorem bB {a b:CE} {x y:Int} (h1:Ev K a ρ σ (.d (.int x))) (h2:Ev K b ρ σ (.d (.int y))):Ev K (bin oAdd a b) ρ σ (.d (.int (x+y))):=ax h1 h2 rfl rfl rfl
end
section
variable {r:Sto} {d:Nat} {hd:Bool} {K:Ker} {ρ ρ':Rho} {σ σ':Sto} {n m:Int}
end
section
variable {r:Sto} {d:Nat} {hd:Bool} {K:Ker} {ρ ρ':Rho} {σ σ':Sto} {n m:Int}
end
section
variable {r:Sto} {d:Nat} {hd:Bool} {K:Ker} {ρ ρ':Rho} {σ σ':Sto} {n m:Int}
theorem zt {a b:List D} (h:a.length+b.length≤1000):oAdd.g (.lst a) (.lst b)=some (.lst (a++b)):=if_pos (aQ h)
end
section
variable {α:Type} [DecidableEq α]
noncomputable def cG (a:α) (v:D):List (α×D)→List (α×D)
 |[]=>[(a,v)]
 |x::l=>if x.1=a then (x.1,v)::l else x::cG a v l
noncomputable def ch (a:α):List (α×D)→Option D
 |[]=>none
 |x::l=>if x.1=a then some x.2 else ch a l
variable {mk:α→D}
theorem gN (hk:∀ a b,dP (mk a) (mk b)=decide (a=b)) (a:α):∀ l:List (α×D),cU (mk a) (l.map fun x=>mk x.1) (l.map (·.2))=ch a l
 |[]=>rfl
 |x::l=>by
  show (if dP (mk x.1) (mk a)=true then some x.2 else cU (mk a) (l.map fun x=>mk x.1) (l.map (·.2)))=if x.1=a then some x.2 else ch a l;rw[hk,gN hk a l];by_cases h:x.1=a
  ·rw[if_pos h,if_pos (Kr h)]
  ·rw[if_neg h,if_neg (by rw[K7 h];exact KC)]
theorem oZ (hk:∀ a b,dP (mk a) (mk b)=decide (a=b)) (a:α) (v:D):∀ l:List (α×D),cQ (mk a) (l.map fun x=>mk x.1)=(cG a v l).map fun x=>mk x.1
 |[]=>rfl
 |x::l=>by
  show (if dP (mk x.1) (mk a)=true then mk x.1::l.map (fun x=>mk x.1) else mk x.1::cQ (mk a) (l.map fun x=>mk x.1))=(if x.1=a then (x.1,v)::l else x::cG a v l).map fun x=>mk x.1;rw[hk,oZ hk a v l];by_cases h:x.1=a
  ·rw[if_pos h,if_pos (Kr h)];rfl
  ·rw[if_neg h,if_neg (by rw[K7 h];exact KC)];rfl
theorem oY (hk:∀ a b,dP (mk a) (mk b)=decide (a=b)) (a:α) (v:D):∀ l:List (α×D),cP (mk a) v (l.map fun x=>mk x.1) (l.map (·.2))=(cG a v l).map (·.2)
 |[]=>rfl
 |x::l=>by
  show (if dP (mk x.1) (mk a)=true then v::l.map (·.2) else x.2::cP (mk a) v (l.map fun x=>mk x.1) (l.map (·.2)))=(if x.1=a then (x.1,v)::l else x::cG a v l).map (·.2);rw[hk,oY hk a v l];by_cases h:x.1=a
  ·rw[if_pos h,if_pos (Kr h)];rfl
  ·rw[if_neg h,if_neg (by rw[K7 h];exact KC)];rfl
theorem eZ {a b:α} {v:D}:∀ l:List (α×D),ch b (cG a v l)=if b=a then some v else ch b l
 |[]=>by
  show (if a=b then some v else none)=if b=a then some v else none;by_cases h:b=a
  ·rw[if_pos h,if_pos h.symm]
  ·rw[if_neg h,if_neg fun e=>h e.symm]
 |x::l=>by
  show ch b (if x.1=a then (x.1,v)::l else x::cG a v l)=if b=a then some v else if x.1=b then some x.2 else ch b l;by_cases h:x.1=a
  ·rw[if_pos h];show (if x.1=b then some v else ch b l)=_;by_cases k:b=a
   ·rw[if_pos k,if_pos (h.trans k.symm)]
   ·rw[if_neg k,if_neg fun e=>k (e.symm.trans h),if_neg fun e=>k (e.symm.trans h)]
  ·rw[if_neg h];show (if x.1=b then some x.2 else ch b (cG a v l))=_;rw[eZ l];by_cases k:b=a
   ·rw[if_pos k,if_neg fun e=>h (e.trans k),if_pos k]
   ·rw[if_neg k,if_neg k]
theorem gI {a b:α} {v:D}:∀ l:List (α×D),b∈(cG a v l).map (·.1)↔b=a∨b∈l.map (·.1)
 |[]=>by simp [cG]
 |x::l=>by
  show b∈(if x.1=a then (x.1,v)::l else x::cG a v l).map (·.1)↔b=a∨b∈x.1::l.map (·.1);by_cases h:x.1=a
  ·rw[if_pos h];show b∈x.1::l.map (·.1)↔_;rw[Kb,←h];constructor
   ·intro q;exact .inr q
   ·rintro (q|q)
    ·exact .inl q
    ·exact q
  ·rw[if_neg h];show b∈x.1::(cG a v l).map (·.1)↔_;rw[Kb,Kb,gI l];constructor
   ·rintro (q|q|q)
    ·exact .inr (.inl q)
    ·exact .inl q
    ·exact .inr (.inr q)
   ·rintro (q|q|q)
    ·exact .inr (.inl q)
    ·exact .inl q
    ·exact .inr (.inr q)
theorem gO {a:α} {v:D}:∀ l:List (α×D),(cG a v l).length≤l.length+1
 |[]=>Ko _
 |x::l=>by
  show (if x.1=a then (x.1,v)::l else x::cG a v l).length≤_;by_cases h:x.1=a
  ·rw[if_pos h];exact KZ _
  ·rw[if_neg h];exact Lc (gO l)
end
noncomputable abbrev Rw:=List Nat×Int×Int×Int
noncomputable def rwD (x:Rw):D:=.tup [.str x.1,.int x.2.1,.int x.2.2.1,.int x.2.2.2]
noncomputable def tbD (x:Rw):D:=.tup [.int x.2.2.1,.int x.2.2.2]
open Classical in
noncomputable def nk (c:List Nat) (n:Int) (o:Option Rw) (x:Rw):Option Rw:=if x.1=c∧x.2.1≤n∧(∀ y,o=some y→y.2.1≤x.2.1) then some x else o
noncomputable def gV (c:List Nat) (n:Int) (rs:List Rw):Option Rw:=rs.foldl (nk c n) none
theorem best_snoc {c:List Nat} {n:Int} {rs:List Rw} {x:Rw}:gV c n (rs++[x])=nk c n (gV c n rs) x:=by
 unfold gV;rw[List.foldl_append];rfl
structure Day1 (c:List Nat) (l:List (Int×D)) (n:Int) (y:Rw):Prop where
 c:y.1=c
 m:y.2.1∈l.map (·.1)
 le:y.2.1≤n
 mx:∀ k∈l.map (·.1),k≤n→k≤y.2.1
 at_:ch y.2.1 l=some (tbD y)
structure Days (c:List Nat) (rs:List Rw) (l:List (Int×D)):Prop where
 no:∀ n,gV c n rs=none→∀ k∈l.map (·.1),n<k
 yes:∀ n y,gV c n rs=some y→Day1 c l n y
theorem zN {c:List Nat}:Days c [] []:=⟨fun _ _ k h=>(by cases h),fun _ _ h=>(by cases h)⟩
theorem uE {c:List Nat} {rs:List Rw} {l:List (Int×D)} {x:Rw} (h:Days c rs l) (hx:x.1≠c):Days c (rs++[x]) l:=by
 have e:∀ n,gV c n (rs++[x])=gV c n rs:=fun n=>best_snoc.trans (if_neg fun q=>hx q.1);exact ⟨fun n=>by rw[e];exact h.no n,fun n y=>by rw[e];exact h.yes n y⟩
theorem xf {c:List Nat} {rs:List Rw} {l:List (Int×D)} {x:Rw} (h:Days c rs l) (hx:x.1=c):Days c (rs++[x]) (cG x.2.1 (tbD x) l):=by
 refine ⟨fun n e k hk=> ?_,fun n y e=> ?_⟩
 ·rw[best_snoc] at e;unfold nk at e;split at e
  ·cases e
  ·next q=>
   rcases (gI l).mp hk with z|z
   ·subst z;exact Int.not_le.mp fun z=>q ⟨hx,z,fun y hy=>by rw[e] at hy;cases hy⟩
   ·exact h.no n e k z
 ·rw[best_snoc] at e;unfold nk at e;split at e
  ·next q=>
   cases e;refine ⟨hx,(gI l).mpr (.inl rfl),q.2.1,fun k hk hn=> ?_,(eZ l).trans (if_pos rfl)⟩;rcases (gI l).mp hk with z|z
   ·exact Int.le_of_eq z
   ·cases b:gV c n rs with
    |none=>exact absurd hn (Int.not_le.mpr (h.no n b k z))
    |some y=>exact KO ((h.yes n y b).mx k z hn) (q.2.2 y b)
  ·next q=>
   have d:=h.yes n y e;have lt:x.2.1≤n→x.2.1<y.2.1:=fun z=>Int.not_le.mp fun z2=>q ⟨hx,z,fun y' hy=>by rw[e] at hy;cases hy;exact z2⟩;have ne:y.2.1≠x.2.1:=fun z=>absurd (lt (z ▸ d.le)) (JM z);refine ⟨d.c,(gI l).mpr (.inr d.m),d.le,fun k hk hn=> ?_,(eZ l).trans ((if_neg ne).trans d.at_)⟩;rcases (gI l).mp hk with z|z
   ·subst z;exact Lb (lt hn)
   ·exact d.mx k z hn
section
theorem DZ {a b:Int} (h:b≤a):cGe.g (.int a) (.int b)=some true:=congrArg some (Kr h)
theorem Bq {a b:Int} (h:¬b≤a):cGe.g (.int a) (.int b)=some false:=congrArg some (K7 h)
theorem jX (a b:List Nat):dP (.str a) (.str b)=decide (a=b):=rfl
theorem yX (a b:Int):dP (.int a) (.int b)=decide (a=b):=rfl
theorem jB {c:List Nat} {α:Type} (f:α→List Nat) (g:List α):gU (.str c) (g.map fun x=>.str (f x))=true:=by
 have:(g.map fun x=>D.str (f x)).all isS=true:=List.all_eq_true.mpr fun x hx=>by
  obtain ⟨y,_,e⟩:=Kt.mp hx;rw[←e];rfl
 show (_||(true&&(g.map fun x=>D.str (f x)).all isS))=true;rw[this];exact Bool.or_true _
theorem mF {c:Int} {α:Type} (f:α→Int) (g:List α):gU (.int c) (g.map fun x=>.int (f x))=true:=by
 have:(g.map fun x=>D.int (f x)).all isI=true:=List.all_eq_true.mpr fun x hx=>by
  obtain ⟨y,_,e⟩:=Kt.mp hx;rw[←e];rfl
 show ((true&&(g.map fun x=>D.int (f x)).all isI)||_)=true;rw[this];rfl
noncomputable def xg (l:List (Int×D)):D:=.dct (l.map fun x=>.int x.1) (l.map (·.2))
variable {r:Sto} {d:Nat} {hd:Bool} {K:Ker} {ρ ρ':Rho} {σ σ':Sto} {n t b:Int} {c:List Nat} {rs:List Rw} {m:List (List Nat×D)}
theorem db {α:Type} {i:Nat} {elt:CE} {t:CI} {v:PV} {y:D} (hs:bp σ y v=true) (f g:α→D) (p:α→Bool):∀ (xs:List α) (acc:List D),(∀ x∈xs,t.ts K (ρ.set i (dV (f x))) σ=some (.ok (p x),σ))→(∀ x∈xs,p x=true→Ev K elt (ρ.set i (dV (f x))) σ (.d (g x)))→acc.length+xs.length≤1000000→cX v y i (t.ts K) (elt.ev K) ρ (xs.map f) acc σ=some (.ok (acc++(xs.filter p).map g),σ)
 |[],acc,_,_,_=>by rw[List.map_nil,List.filter_nil,List.map_nil,List.append_nil];rfl
 |x::xs,acc,h1,h2,hl=>by
  rw[Kk] at hl;rw[List.map_cons];show (match t.ts K (ρ.set i (dV (f x))) σ with
   |some (.ok false,σ')=>if bp σ' y v then cX v y i (t.ts K) (elt.ev K) ρ (xs.map f) acc σ' else none
   |some (.ok true,σ')=>(match elt.ev K (ρ.set i (dV (f x))) σ' with
    |some (.ok (.d z),σ'')=>if bp σ'' y v∧acc.length<lim then cX v y i (t.ts K) (elt.ev K) ρ (xs.map f) (acc++[z]) σ'' else none
    |_=>none)
   |_=>none)=_
  rw[h1 x (.head _)];cases q:p x with
  |false=>
   rw[List.filter_cons_of_neg (by rw[q];exact KC)];show (if bp σ y v then _ else none)=_;rw[if_pos hs];exact db hs f g p xs acc (fun z hz=>h1 z (.tail _ hz)) (fun z hz=>h2 z (.tail _ hz)) (by exact Nat.le_of_succ_le hl)
  |true=>
   rw[KM q,List.map_cons,List.append_cons];show (match elt.ev K (ρ.set i (dV (f x))) σ with
    |some (.ok (.d z),σ'')=>if bp σ'' y v∧acc.length<lim then cX v y i (t.ts K) (elt.ev K) ρ (xs.map f) (acc++[z]) σ'' else none
    |_=>none)=_
   rw[h2 x (.head _) q];show (if bp σ y v∧acc.length<lim then _ else none)=_;rw[if_pos ⟨hs,KE (Km (K9 _ _) hl) (by decide)⟩];exact db hs f g p xs (acc++[g x]) (fun z hz=>h1 z (.tail _ hz)) (fun z hz=>h2 z (.tail _ hz)) (by rw[Kd,Kn];exact o65 hl)
theorem rI:∀ l:List Int,mz (l.map .int)=some l
 |[]=>rfl
 |x::l=>by
  show (mz (l.map .int)).map (x::·)=_;rw[rI l];rfl
theorem Du {l:List Int} {x:Int} (h1:x∈l) (h2:∀ a∈l,a≤x):fMax1.g false [.d (.lst (l.map .int))] σ=some (.ok (.d (.int x)),σ):=by
 show Option.map (fun z=>(R.ok (PV.d z),σ)) ((mz (l.map D.int)).bind fun is=>(wL is).map D.int)=_;rw[rI,Ka];cases e:wL l with
 |none=>cases l with
  |nil=>cases h1
  |cons a l=>cases e
 |some y=>rw[vw e h1 h2];rfl
noncomputable def Ce (o:Option Rw):R PV:=o.elim (.ex 13) fun y=>.ok (.d (tbD y))
noncomputable def aZ (h:List Nat) (rs:List Rw) (c:List Nat) (n:Int):Option Rw:=if c=h then some (c,0,1,1) else gV c n rs
noncomputable def C3 (o:Option Rw):D:=o.elim .none rwD
end
section
variable {r:Sto} {d:Nat} {hd:Bool} {K:Ker} {ρ ρ':Rho} {σ σ':Sto} {n t b:Int} {c:List Nat} {rs:List Rw} {m:List (List Nat×D)}
theorem Ae {y:Rw}:∀ {rs:List Rw},gV c n rs=some y→y∈rs:=by
 have key:∀ (rs:List Rw) (o:Option Rw),rs.foldl (nk c n) o=some y→y∈rs∨o=some y:=by
  intro rs
  induction rs with
  |nil=>exact fun o h=>.inr h
  |cons x rs ih=>
   intro o h;rcases ih _ h with z|z
   ·exact .inl (.tail _ z)
   ·unfold nk at z;split at z
    ·cases z;exact .inl (.head _)
    ·exact .inr z
 exact fun {rs} h=>(key rs none h).resolve_right nofun
def uN (x:Rw):Prop:=(1≤x.2.2.1∧x.2.2.1≤10^9)∧(1≤x.2.2.2∧x.2.2.2≤10^9)
theorem jp {h:List Nat} {y:Rw} (hr:∀ x∈rs,uN x) (e:aZ h rs c n=some y):uN y:=by
 unfold aZ at e;split at e
 ·cases e;exact ⟨⟨Int.le_refl 1,(by decide:(1:Int)≤10^9)⟩,Int.le_refl 1,(by decide:(1:Int)≤10^9)⟩
 ·exact hr y (Ae e)
theorem v8 {g:Int} (h:1≤g):cA g=decide (g<10^30):=by
 unfold cA;rw[Kr (show g≠0 by exact o66 h),Kr (show -(10^30)<g by exact KO (by decide) h),Bool.true_and,Bool.true_and]
end
section
variable {r:Sto} {d:Nat} {hd:Bool} {K:Ker} {ρ ρ':Rho} {σ σ':Sto} {rs:List Rw} {m:List (List Nat×D)} {k:Nat} {N G:List (List Nat)} {h s:List Nat} {i j:Nat}
theorem Er {b:CS} {h:CH} {c:Nat} {z:Option (Out×Sto)} (h1:b.ex (KK d false) ρ σ=some (.ex c ρ',σ')) (hc:c<nX) (k:h.ex (KK d false) c ρ' σ'=z):(AH b h).ex (KK d false) ρ σ=z:=by
 show At h (KK d false) (b.ex (KK d false) ρ σ)=z;rw[h1];show (if c<nX then h.ex (KK d false) c ρ' σ' else none)=z;rw[if_pos hc];exact k
noncomputable def prt:List Nat:=(Ly++Lz)++LA
theorem C8:∀ c∈prt,32≤c∧c≤126:=by decide
theorem qO {n:Int}:∃ t:List Nat,fu t∧∀ d σ,CC (d+1) false 56 [.d (.int n)] σ=some (.ok (.d (.str t)),σ):=by
 have q:=aG (a:=n) (b:=41) (by decide);have e:n.fmod 41=(((n.fmod 41).toNat:Nat):Int):=by exact (KV q.1).symm
 generalize hk:(n.fmod 41).toNat=k at e;have key:∀ (is:List Nat) (t:List Nat),(∀ c∈t,32≤c∧c≤126)→t.length+is.length≤40→(∀ i∈is,i<100)→∃ t',fu t'∧∀ d σ x3,∃ y3,cx (.d (.rng 0 k 1)) (.rng 0 k 1) 3 (fun ρ=>lw_note_f1.ex (KK d false) ρ) (is.map fun (i:Nat)=>.int i) [iV n,sV prt,sV t,x3] σ=some (.next [iV n,sV prt,sV t',y3],σ):=by
  intro is
  induction is with
  |nil=>exact fun t h hl _=>⟨t,⟨hl,h⟩,fun d σ x3=>⟨x3,rfl⟩⟩
  |cons i is ih=>
   intro t h hl hi;rw[Kk] at hl;have g1:=fT (l:=prt) (a:=n.fdiv 41+n.fdiv 3854*i) (k:=94) (by decide) (by decide);obtain ⟨t',h',lp⟩:=ih (t++[prt.getD ((n.fdiv 41+n.fdiv 3854*i).fmod 94).toNat 0]) (fun c hc=>by
    rcases Kv.mp hc with hc|hc
    ·exact h c hc
    ·rw[Ki.mp hc];exact C8 _ (List.mem_of_mem_take g1)) (by rw[Kd,Kn];exact JL hl) (fun j hj=>hi j (.tail _ hj))
   have hi':=hi i (.head _);refine ⟨t',h',fun d σ x3=> ?_⟩;obtain ⟨y3,lp⟩:=lp d σ (iV i);exact ⟨y3,aN (aa (an (ax rfl (fB (l:=prt) rfl (ax (bw rfl (by decide) (by decide)) (ax (bw rfl (by decide) (by decide)) rfl rfl rfl (dw (dI (by exact La hi' (by decide))))) rfl rfl rfl) (by decide) (by decide) (by decide)) rfl rfl (iW (aQ (by rw[Kn];exact JK hl)))) rfl) rfl) rfl lp⟩
 obtain ⟨t,ht,lp⟩:=key (List.range k) [] cY (by rw[List.length_range,K6];exact JJ q e) (fun i hi=>JI q e (List.mem_range.mp hi));refine ⟨t,ht,fun d σ=> ?_⟩;obtain ⟨y3,lp⟩:=lp d σ none;have m0:=ck (K:=KK d false) (ρ:=[iV n,sV prt,sV [],none]) (σ:=σ) (e:=loc 0) (a:=n) (k:=41) rfl (by decide) (by decide);rw[e] at m0;refine aO t56 rfl (ρ:=[iV n,none,none,none]) rfl ?_ (tk _);refine aa (an rfl rfl) ?_;refine aa (an (ax rfl rfl rfl rfl (iW (Kj rfl))) rfl) ?_;refine aa (an (ax rfl rfl rfl rfl (iW (Kj rfl))) rfl) ?_;refine aa (an rfl rfl) ?_;refine aa (aT (jC m0 (o67 q e)) (cp (dS (o67 q e))) lp) ?_;exact az (aq rfl)
end
section
variable {r:Sto} {d:Nat} {hd:Bool} {K:Ker} {ρ ρ':Rho} {σ σ':Sto} {N F:List (List Nat)} {sc:List Int} {B C:PO}
theorem zD {e ke:CE} {k:Nat} (hs:sc.length≤63) (h0:Ev (KK (d+1) hd) e ρ σ (.d (.lst (sc.map .int)))) (h1:Ev (KK (d+1) hd) ke ρ σ (.d (.int k))) (hk:k≤1000):Ev (KK (d+1) hd) (ao 33 (clC e (clC ke clN))) ρ σ (.d (.int (cell sc k))):=ak (clc h0 (cl1 h1)) (zW hs hk)
variable {p q:Int} {x:Option PV}
theorem len_str {e:CE} {T:List (List Nat)} (h:Ev K e ρ σ (.d (.lst (T.map .str)))) (hl:T.length≤1000):Ev K (bi fLen (clC e clN)) ρ σ (.d (.int T.length)):=by
 have q:=g7 (hd:=K.hd) (σ:=σ) (x:=.d (.lst (T.map .str))) rfl (by rw[J'];exact aQ hl);rw[J'] at q;exact bx (cl1 h) q
end
section
theorem Ec {d p s m f:Nat} {hd:Bool} {ρ:Rho} {σ σ' σ'':Sto} {b:CS} {args:List PV} {f':Fld} (hT:TT f=some ⟨p,s,true,b.ex⟩) (hl:args.length=p) (hr:args.map some++List.replicate (s - p) none=ρ) (h:b.ex (KK d hd) ρ σ=some (.ret (.p m 0),σ')) (hm:σ.length≤m) (ho:σ'[m]? =some (.fld f')) (k:σ'.take σ.length++[.fld f']=σ''):CC (d+1) hd f args σ=some (.ok (.p σ.length 0),σ''):=
 oq hT hl hr h (by
  show (if m<σ.length then _ else yc true σ.length σ' 0 σ'[m]?)=_;rw[if_neg (Lf.mpr hm),ho,←k];rfl)
variable {r:Sto} {d:Nat} {hd:Bool} {K:Ker} {ρ ρ':Rho} {σ σ':Sto} {rs:List Rw} {sc:List Int} {n t b:Int} {c:List Nat}
variable {h a c2:List Nat} {G:List (List Nat)} {i:Nat} {fw:Int}
theorem p9:Ev K (bin oPow (ah 10) (ah 9)) ρ σ (.d (.int (10^9))):=ax rfl rfl rfl rfl (zq (a:=10) (b:=9) ⟨by decide,by decide⟩)
end
section
variable {r:Sto} {d:Nat} {hd:Bool} {K:Ker} {ρ ρ':Rho} {σ σ':Sto} {N F:List (List Nat)} {u w:Rw} {g:Int} {rs:List Rw}
open Classical in
theorem zF {u v:D} (p1:pl 8 u=true) (p2:pl 8 v=true) (hf:eqF u v=none):cEq.g u v=some (decide (u=v)):=by
 show eqD u v=_;unfold eqD;rw[hf];show eqS u v=_;unfold eqS al;rw[if_pos (by rw[p1,p2];rfl)]
theorem vV {u v:D} (h:u=v) (p:pl 8 u=true) (hf:eqF u v=none):cEq.g u v=some true:=(zF p (h ▸ p) hf).trans (congrArg some (@Kr _ (_) h))
theorem Cr {u v:D} (h:u≠v) (p1:pl 8 u=true) (p2:pl 8 v=true) (hf:eqF u v=none):cEq.g u v=some false:=(zF p1 p2 hf).trans (congrArg some (@K7 _ (_) h))
theorem Ci {u v:D} (h:u=v) (p:pl 8 u=true) (hf:eqF u v=none):cNe.g u v=some false:=congrArg (Option.map fun c=> !c) (vV h p hf)
end
section
theorem CV {l:List D} (h:1≤l.length) (hl:l.length≤1000):dj (.lst l) (.int 1) .none=some (.lst (l.drop 1)):=by
 have e:∀ i:Int,dj (.lst l) (.int i) .none=(al (l.length≤lim) ()).bind fun _=>(al (small i=true) i).bind fun a=>some (.lst (bY l (cut a l.length) (cut l.length l.length))):=fun _=>rfl;rw[e,aB (aQ hl),Ka,aB (by decide),Ka];have c1:cut 1 l.length=1:=by
  unfold cut;rw[if_neg (by decide)];show min 1 l.length=1;exact Nat.min_eq_left h
 have c2:cut l.length l.length=l.length:=by
  unfold cut;rw[if_neg (o10),Int.toNat_natCast,Nat.min_self]
 rw[c1,c2,bY,List.take_of_length_le (by rw[List.length_drop];exact Ko _)]
variable {r:Sto} {d:Nat} {hd:Bool} {K:Ker} {ρ ρ':Rho} {σ σ':Sto} {N F G T:List (List Nat)} {u w:Rw} {g:Int} {rs:List Rw} {h n1 s:List Nat} {k:Nat} {sc:List Int}
end
noncomputable abbrev bj:=List Nat×List Nat×Int
structure Ent where
 no:Int
 day:Int
 note:List Nat
 lines:List bj
 back:Int
structure St where
 home:List Nat
 names:List (List Nat)
 tk:List D
 tv:List D
 made:List Ent
 gone:List Int
 ends:List Int
 deeds:List D
noncomputable def lnD (l:bj):D:=.tup [.str l.1,.str l.2.1,.int l.2.2]
noncomputable def enD (e:Ent):D:=.tup [.int e.no,.int e.day,.str e.note,.tup (e.lines.map lnD),.int e.back]
noncomputable def kE (S:St):List Fld:=[.d (.str S.home),.list (S.names.map .str),.dict S.tk S.tv,.list (S.made.map enD),.dict (S.gone.map .int) (S.gone.map fun _=>.bool true),.list (S.ends.map .int),.list S.deeds]
noncomputable def bk (S:St):PO:=.rcd true (kE S)
noncomputable def cl (l:List Int):Int:=if l.length=0 then -1 else l.getD (l.length - 1) 0
structure Sh (S:St):Prop where
 n:S.names.length≤1000
 t:S.tk.length≤1000
 m:S.made.length≤1000
 g:S.gone.length≤1000
 e:S.ends.length≤1000
 d:S.deeds.length≤1000
abbrev Bk (σ:Sto) (n:Nat) (S:St):Prop:=σ[n]? =some (bk S)
section
variable {r:Sto} {d n i:Nat} {hd:Bool} {S S':St} {K:Ker} {ρ:Rho} {σ:Sto} {e:CE} {f:Fld} {o:PO} {l:Sto}
theorem Bk.lt (h:Bk σ n S):n<σ.length:=(Kg.mp h).1
theorem dB (h:n<σ.length):Bk (σ.set n (bk S)) n S:=List.getElem?_set_self h
theorem Bk.app (h:Bk σ n S):Bk (σ++l) n S:=by
 show (σ++l)[n]? =_;rw[K1 h.lt];exact h
theorem AD (h:n<σ.length):(σ++l).set n o=σ.set n o++l:=List.set_append_left _ _ h
theorem sK:(σ.set n o).take σ.length=σ.set n o:=by
 have:=List.take_length (l:=σ.set n o);rw[KG] at this;exact this
theorem sJ:(σ.set n o++l).take σ.length=σ.set n o:=by
 have:=List.take_left (l₁:=σ.set n o) (l₂:=l);rw[KG] at this;exact this
theorem Bk.same (h:Bk σ n S):σ.set n (bk S)=σ:=by
 obtain ⟨hl,e⟩:=Kg.mp h;rw[←e];exact List.set_getElem_self hl
theorem DO (h:Bk σ n S):isO (.p n 0) σ=some (.ok (),σ):=by
 show (bJ true σ n).map _=_;unfold bJ;rw[h];rfl
theorem fC {k:Nat} (h:Bk σ n S) (he:Ev K e ρ σ (.p n 0)) (hf:(kE S)[k]? =some f):Ev K (bC e k) ρ σ (ux n k f):=by
 refine av he ?_;show (bJ true σ n).bind _=_;unfold bJ;rw[h];show ((kE S)[k]?).map _=_;rw[hf];rfl
theorem ie {j:Nat} (h:Bk σ n S) (hf:(kE S)[j]? =some f):a8 σ n (j+2)=some f:=by
 unfold a8;rw[h];exact hf
theorem qE {j:Nat} {x:D} (h:Bk σ n S) (hf:(kE S)[j]? =some f) (hx:f.rd=some x):rd σ (.p n (j+2))=some x:=by
 show (a8 σ n (j+2)).bind _=_;rw[ie h hf];exact hx
theorem js {j:Nat} (h:Bk σ n S) (hf:(kE S).set j f=kE S'):putAt σ n (j+2) f=σ.set n (bk S'):=by
 unfold putAt;rw[h];show σ.set n (.rcd true ((kE S).set (j+2 - 2) f))=_;rw[Nat.add_sub_cancel,hf];rfl
theorem pZ (h:Bk σ n S) (he:Ev K e ρ σ (.p n 0)):Ev K (bC e 0) ρ σ (.d (.str S.home)):=fC (f:=.d (.str S.home)) h he rfl
theorem m6 (h:Bk σ n S) (he:Ev K e ρ σ (.p n 0)):Ev K (bC e 1) ρ σ (.p n 3):=fC (f:=.list (S.names.map .str)) h he rfl
theorem pY (h:Bk σ n S) (he:Ev K e ρ σ (.p n 0)):Ev K (bC e 2) ρ σ (.p n 4):=fC (f:=.dict S.tk S.tv) h he rfl
theorem jc (h:Bk σ n S) (he:Ev K e ρ σ (.p n 0)):Ev K (bC e 3) ρ σ (.p n 5):=fC (f:=.list (S.made.map enD)) h he rfl
theorem v7 (h:Bk σ n S) (he:Ev K e ρ σ (.p n 0)):Ev K (bC e 4) ρ σ (.p n 6):=fC (f:=.dict (S.gone.map .int) (S.gone.map fun _=>.bool true)) h he rfl
theorem jd (h:Bk σ n S) (he:Ev K e ρ σ (.p n 0)):Ev K (bC e 5) ρ σ (.p n 7):=fC (f:=.list (S.ends.map .int)) h he rfl
theorem Ah (h:Bk σ n S) (he:Ev K e ρ σ (.p n 0)):Ev K (bC e 6) ρ σ (.p n 8):=fC (f:=.list S.deeds) h he rfl
theorem qC (h:Bk σ n S):rd σ (.p n 3)=some (.lst (S.names.map .str)):=qE (f:=.list (S.names.map .str)) h rfl rfl
theorem u_ (h:Bk σ n S):rd σ (.p n 4)=some (.dct S.tk S.tv):=qE (f:=.dict S.tk S.tv) h rfl rfl
theorem gC (h:Bk σ n S):rd σ (.p n 5)=some (.lst (S.made.map enD)):=qE (f:=.list (S.made.map enD)) h rfl rfl
theorem AO (h:Bk σ n S):rd σ (.p n 6)=some (.dct (S.gone.map .int) (S.gone.map fun _=>.bool true)):=qE (f:=.dict (S.gone.map .int) (S.gone.map fun _=>.bool true)) h rfl rfl
theorem kO (h:Bk σ n S):rd σ (.p n 7)=some (.lst (S.ends.map .int)):=qE (f:=.list (S.ends.map .int)) h rfl rfl
theorem bq {f:Nat} {l:CL} {xs:List PV} {z:Option (R PV×Sto)} (b:Bk σ n S) (h0:Ev (KK d hd) e ρ σ (.p n 0)) (h:l.ev (KK d hd) ρ σ=some (.ok xs,σ)) (k:CC d hd f (.p n 0::xs) σ=z):(meth e f l).ev (KK d hd) ρ σ=z:=BA h0 (DO b) h k
theorem eM {x:PV} {l:List D} (h:Ev K e ρ σ x) (r:rd σ x=some (.lst l)) (hl:l.length≤1000):Ev K (bi fLen (clC e clN)) ρ σ (.d (.int l.length)):=bx (cl1 h) (g7 r (aQ hl))
theorem n5 (b:Bk σ n S) (sh:S.made.length≤1000) (h:Ev K e ρ σ (.p n 0)):Ev K (bi fLen (clC (bC e 3) clN)) ρ σ (.d (.int S.made.length)):=by
 have q:=eM (jc b h) (gC b) (by rw[J'];exact sh);rw[J'] at q;exact q
theorem yP (b:Bk σ n S) (sh:Sh S) (h:Ev K e ρ σ (.p n 0)):Ev K (bi fLen (clC (bC e 3) clN)) ρ σ (.d (.int S.made.length)):=n5 b sh.m h
theorem rA (b:Bk σ n S) (sh:Sh S) (h:Ev K e ρ σ (.p n 0)):Ev K (bi fLen (clC (bC e 5) clN)) ρ σ (.d (.int S.ends.length)):=by
 have q:=eM (jd b h) (kO b) (by rw[J'];exact sh.e);rw[J'] at q;exact q
theorem uJ (b:Bk σ n S) (sh:Sh S):CC (d+1) hd 2 [.p n 0] σ=some (.ok (.d (.int (cl S.ends))),σ):=by
 have e:Ev (KK d hd) (bi fLen (clC (bC (loc 0) 5) clN)) [qV n] σ (.d (.int S.ends.length)):=rA b sh rfl;unfold cl;by_cases q:S.ends.length=0
 ·rw[if_pos q];exact aO t2 rfl rfl (az (bW (ai e rfl rfl rfl (fh (by rw[q];rfl))) (az (aq rfl)))) (tk _)
 ·rw[if_neg q];refine aO t2 rfl rfl (aa (a_ (ai e rfl rfl rfl (ii (by exact Int.ofNat_ne_zero.mpr q))) rfl) (az (aq (aA (jd b rfl) (ax e rfl rfl rfl rfl) (kO b) rfl (w:=.int (S.ends.length - 1)) ?_)))) (tk _);have hk:S.ends.length - 1<S.ends.length:=EZ q;have:=ba (l:=S.ends.map D.int) (k:=S.ends.length - 1) (z:=.int (S.ends.getD (S.ends.length - 1) 0)) (by rw[Ku,Kh hk,Kw,Kh hk];rfl) (JH sh.e);rw[show ((S.ends.length:Int) - 1)=((S.ends.length - 1:Nat):Int) by exact (Int.ofNat_sub (Nat.one_le_of_lt hk)).symm];exact this
theorem iC {t:Int} (b:Bk σ n S) (sh:Sh S) (h:bc t) (hc:cl S.ends<t):CC (d+2) hd 4 [.p n 0,.d (.int t)] σ=some (.ok (.d .none),σ):=
 eS t4 rfl rfl (aa (au (ak (cl1 rfl) (cg h))) (aa (a_ (ai rfl (bq b rfl rfl (uJ b sh)) rfl rfl (A8 (by exact Int.not_le.mpr hc))) rfl) rfl)) (tk _)
theorem dF {a:List Nat} (b:Bk σ n S) (h:a∈S.names):CC (d+1) hd 15 [.p n 0,.d (.str a)] σ=some (.ok (.d .none),σ):=
 eS t15 rfl rfl (aa (a_ (ai rfl (m6 b rfl) rfl (qC b) (vp h)) rfl) rfl) (tk _)
theorem n_ {k:Nat} {t:Ent} (b:Bk σ n S) (sh:Sh S) (h:S.made[k]? =some t):CC (d+1) hd 8 [.p n 0,.d (.int (k+1))] σ=some (.ok (.d (enD t)),σ):=by
 have hk:=(Kg.mp h).1;have sm:=sh.m;refine aO t8 rfl rfl (aa (a_ (bE (bI (ai rfl rfl rfl rfl (iL (EY))) (bI (ai rfl (yP b sh rfl) rfl rfl (kA (EX hk))) rfl))) rfl) (az (aq (aA (jc b rfl) (ax rfl rfl rfl rfl rfl) (gC b) rfl (w:=.int ((k:Int)+1 - 1)) ?_)))) (tk _);rw[Int.add_sub_cancel];exact ba (by rw[Ku,h];rfl) (EW hk sm)
theorem yI {a:CE} {t:Ent} (b:Bk σ n S) (sh:S.made.length≤1000) (he:Ev K e ρ σ (.p n 0)) (h:Ev K a ρ σ (.d (enD t))):(bm aH (bC e 3) (clC a clN)).ev K ρ σ=some (.ok (.d .none),σ.set n (bk {S with made:=S.made++[t]})):=by
 have q:=bG (jc b he) h (ie (j:=3) b rfl) (by rw[J'];exact cn sh);rw[js b (S':={S with made:=S.made++[t]}) (by simp only [kE,List.map_append];rfl)] at q;exact q
theorem wI {a:CE} {t:List Nat} (b:Bk σ n S) (sh:S.names.length≤1000) (he:Ev K e ρ σ (.p n 0)) (h:Ev K a ρ σ (.d (.str t))):(bm aH (bC e 1) (clC a clN)).ev K ρ σ=some (.ok (.d .none),σ.set n (bk {S with names:=S.names++[t]})):=by
 have q:=bG (m6 b he) h (ie (j:=1) b rfl) (by rw[J'];exact cn sh);rw[js b (S':={S with names:=S.names++[t]}) (by simp only [kE,List.map_append];rfl)] at q;exact q
theorem zI {a:CE} {t:Int} (b:Bk σ n S) (sh:S.ends.length≤1000) (he:Ev K e ρ σ (.p n 0)) (h:Ev K a ρ σ (.d (.int t))):(bm aH (bC e 5) (clC a clN)).ev K ρ σ=some (.ok (.d .none),σ.set n (bk {S with ends:=S.ends++[t]})):=by
 have q:=bG (jd b he) h (ie (j:=5) b rfl) (by rw[J'];exact cn sh);rw[js b (S':={S with ends:=S.ends++[t]}) (by simp only [kE,List.map_append];rfl)] at q;exact q
theorem fi {a:CE} {x:D} (b:Bk σ n S) (sh:S.deeds.length≤1000) (he:Ev K e ρ σ (.p n 0)) (h:Ev K a ρ σ (.d x)):(bm aH (bC e 6) (clC a clN)).ev K ρ σ=some (.ok (.d .none),σ.set n (bk {S with deeds:=S.deeds++[x]})):=by
 have q:=bG (Ah b he) h (ie (j:=6) b rfl) (cn sh);rw[js b (S':={S with deeds:=S.deeds++[x]}) rfl] at q;exact q
theorem jF {day back:Int} {note:List Nat} {ls:List bj} (b:Bk σ n S) (sh:S.made.length≤1000):CC (d+1) hd 7 [.p n 0,.d (.int day),.d (.str note),.d (.tup (ls.map lnD)),.d (.int back)] σ=some (.ok (.d (.int (S.made.length+1))),σ.set n (bk {S with made:=S.made++[⟨S.made.length+1,day,note,ls,back⟩]})):=
 aO t7 rfl rfl (aa (an (ax (n5 b sh rfl) rfl rfl rfl rfl) rfl) (aa (au (yI (t:=⟨S.made.length+1,day,note,ls,back⟩) b sh rfl (aP rfl))) (az (aq rfl)))) sK
end
noncomputable def ng (a:List Nat):D:=.tup [.str [97,99,99,111,117,110,116],.str a]
noncomputable def eQ (n:Int):D:=.tup [.str [99,108,111,115,101],.int n]
noncomputable def qG (c:List Nat) (n t b:Int):D:=.tup [.str [114,97,116,101],.str c,.int n,.int t,.int b]
noncomputable def ij (n:Int) (note:List Nat) (ls:List bj):D:=.tup [.str [101,110,116,114,121],.int n,.str note,.tup (ls.map lnD)]
noncomputable def lh (n:Int) (note g one:List Nat) (a:Int) (t other:List Nat):D:=.tup [.str Lw,.int n,.str note,.str g,.str one,.int a,.str t,.str other]
noncomputable def told (S:St) (c:List Nat) (n t b:Int) (ks vs:List D):St:={S with tk:=cQ (.str c) S.tk,tv:=cP (.str c) (.dct (cQ (.int n) ks) (cP (.int n) (.tup [.int t,.int b]) ks vs)) S.tk S.tv,deeds:=S.deeds++[qG c n t b]}
noncomputable def qe (S:St) (a:List Nat):St:={S with names:=S.names++[a],deeds:=S.deeds++[ng a]}
noncomputable def ym (S:St) (t:Int) (note:List Nat) (ls:List bj):St:={S with made:=S.made++[⟨S.made.length+1,t,note,ls,0⟩],deeds:=S.deeds++[ij t note ls]}
noncomputable def vW (S:St) (t:Int):St:={S with ends:=S.ends++[t],deeds:=S.deeds++[eQ t]}
section
variable {r:Sto} {d n i:Nat} {hd:Bool} {S S':St} {K:Ker} {ρ:Rho} {σ:Sto} {e:CE} {o:PO} {l:Sto} {t:Int}
theorem qm {o o':PO}:((σ.set n o').set n o).take σ.length=σ.set n o:=by rw[List.set_set];exact sK
theorem nf {a:List Nat} (b:Bk σ n S) (sh:Sh S) (h:kz a) (hn:a∉S.names):CC (d+2) false 37 [.p n 0,.d (.str a)] σ=some (.ok (.d .none),σ.set n (bk (qe S a))):=
 eS t37 rfl (ρ:=[qV n,sV a]) rfl (aa (a_ (nN (fS (ak (cl1 rfl) (ub h)))) rfl) (aa (a_ (ai rfl (m6 b rfl) rfl (qC b) (Bj hn)) rfl) (aa (au (wI b sh.n rfl rfl)) (aa (au (fi (S:={S with names:=S.names++[a]}) (dB b.lt) sh.d rfl (aP rfl))) rfl)))) qm
theorem zT (b:Bk σ n S) (sh:Sh S) (h:bc t) (hc:cl S.ends<t) (hl:S.ends.length≤900):CC (d+3) false 11 [.p n 0,.d (.int t)] σ=some (.ok (.d (.int (S.ends.length+1))),σ.set n (bk (vW S t))):=by
 have q:=eM (K:=KK (d+2) false) (ρ:=[qV n,iV t]) (σ:=(σ.set n (bk {S with ends:=S.ends++[t]})).set n (bk {S with ends:=S.ends++[t],deeds:=S.deeds++[eQ t]})) (e:=bC (loc 0) 5) (x:=.p n 7) (l:=(S.ends++[t]).map .int) (jd (S:={S with ends:=S.ends++[t],deeds:=S.deeds++[eQ t]}) (dB (by rw[KG];exact b.lt)) rfl) (kO (S:={S with ends:=S.ends++[t],deeds:=S.deeds++[eQ t]}) (dB (by rw[KG];exact b.lt))) (by rw[J',Kd,Kn];exact Km (Lc hl) (Kj rfl));rw[J',Kd] at q;exact aO t11 rfl (ρ:=[qV n,iV t]) rfl (aa (au (bq b rfl (cl1 rfl) (iC b sh h hc))) (aa (au (zI b sh.e rfl rfl)) (aa (au (fi (S:={S with ends:=S.ends++[t]}) (dB b.lt) sh.d rfl (aP rfl))) (az (aq q))))) qm
theorem jA {k:D} {ks:List D} (h:gU k ks=true):ks.all rU=true:=by
 have h:((isI k&&ks.all isI)||(isS k&&ks.all isS))=true:=h;refine List.all_eq_true.mpr fun x hx=> ?_;rcases (Bool.or_eq_true _ _).mp h with z|z
 ·have:=List.all_eq_true.mp (aj z) x hx;cases x<;>first|rfl|cases this
 ·have:=List.all_eq_true.mp (aj z) x hx;cases x<;>first|rfl|cases this
theorem BG {a:CE} {ks vs:List D} (h:Ev K a ρ σ (.d (.dct ks vs))) (hl:ks.length≤100000) (hf:ks.all rU=true):(bi vQ (clC a clN)).ev K ρ σ=some (.ok (.p σ.length 0),σ++[.fld (.dict ks vs)]):=by
 refine bx (cl1 h) ?_;show ((al (ks.length≤100000∧ks.all rU=true) ()).bind fun _=>fN (.fld (.dict ks vs)) σ)=_;rw[aB ⟨hl,hf⟩];rfl
theorem Aw {c:List Nat} {u v:Int} {ks vs:List D} (b:Bk σ n S) (sh:Sh S) (hc:aX c=true) (hn:bc t) (hk:cl S.ends<t) (hh:c≠S.home) (ht:1≤u∧u≤10^9) (hb:1≤v∧v≤10^9) (e:(cU (.str c) S.tk S.tv).getD (.dct [] [])= .dct ks vs) (f1:gU (.str c) S.tk=true) (f2:gU (.int t) ks=true) (l1:ks.length<1000):
  CC (d+3) false 6 [.p n 0,.d (.str c),.d (.int t),.d (.int u),.d (.int v)] σ=some (.ok (.d .none),σ.set n (bk (told S c t u v ks vs))):=by
 have g:=uB (K:=KK (d+2) false) (ρ:=[qV n,sV c,iV t,iV u,iV v,none]) (σ:=σ) (o:=bC (loc 0) 2) (x:=.p n 4) (a:=loc 1) (b:=v0) (ks:=S.tk) (vs:=S.tv) (k:=.str c) (z:=.dct [] []) (pY b rfl) (u_ b) rfl rfl f1;rw[e] at g;have s1:=gB (σ:=σ++[.fld (.dict ks vs)]) (n:=σ.length) (j:=0) (k:=.int t) (v:=.tup [.int u,.int v]) bL (oS (vs:=vs) f2 (by exact Km l1 (Kj rfl)));rw[cz] at s1;have b':Bk (σ++[.dead]) n S:=b.app;have s2:=gB (σ:=σ++[.dead]) (n:=n) (j:=4) (k:=.str c) (v:=.dct (cQ (.int t) ks) (cP (.int t) (.tup [.int u,.int v]) ks vs)) (ie (j:=2) b' rfl) (oS (vs:=S.tv) f1 (o68 sh.t));rw[js (j:=2) b' (S':={S with tk:=cQ (.str c) S.tk,tv:=cP (.str c) (.dct (cQ (.int t) ks) (cP (.int t) (.tup [.int u,.int v]) ks vs)) S.tk S.tv}) rfl] at s2;refine eS t6 rfl (ρ:=[qV n,sV c,iV t,iV u,iV v,none]) rfl (aa (au (ak (cl1 rfl) (bU hc))) (aa (au (bq b rfl (cl1 rfl) (iC b sh hn hk))) (aa (a_ (bE (bI (ai rfl (pZ b rfl) rfl rfl (g_ hh)) (bI (lE (oH rfl rfl rfl rfl rfl rfl (pA ht.1) (pA ht.2))) (bI (lE (oH rfl rfl rfl rfl rfl rfl (pA hb.1) (pA hb.2))) rfl)))) rfl) (aa (an (BG g (by exact Km (KU l1) (Kj rfl)) (jA f2)) rfl)
  (aa (gz (aP rfl) rfl rfl s1) (iS rfl (iT rfl) (aa (gz rfl (pY b' rfl) rfl s2) (aa (au (fi (S:={S with tk:=cQ (.str c) S.tk,tv:=cP (.str c) (.dct (cQ (.int t) ks) (cP (.int t) (.tup [.int u,.int v]) ks vs)) S.tk S.tv}) (dB b'.lt) sh.d rfl (aP rfl))) rfl)))))))) ?_
 rw[List.set_set,AD b.lt];exact sJ
theorem uk {a:Int} {b:Bool} (h:cA a=b):CC (d+1) hd 12 [.d (.int a)] σ=some (.ok (.d (.bool b)),σ):=h ▸ nD
structure LineOk (S:St) (l:bj):Prop where
 n:l.1∈S.names
 c:aX l.2.1=true
 a:cA l.2.2=true
theorem A5 {x:bj} (b:Bk σ n S) (h:LineOk S x):CC (d+2) false 19 [.p n 0,.d (lnD x)] σ=some (.ok (.d .none),σ):=
 eS t19 rfl (ρ:=[qV n,dV (lnD x)]) rfl (aa (au (bq b rfl (cl1 (aA rfl rfl rfl rfl (ci rfl))) (dF b h.n))) (aa (au (ak (cl1 (aA rfl rfl rfl rfl (ci rfl))) (bU h.c))) (aa (a_ (nN (fS (ak (cl1 (aA rfl rfl rfl rfl (ci rfl))) (uk h.a)))) rfl) rfl))) (tk _)
theorem tX {v:D} {ls:List bj} (b:Bk σ n S) (h:∀ l∈ls,LineOk S l):∀ {m note o4:PV} {o:Option PV},∃ o',cx (.d v) v 4 (fun ρ=>(sC (aM (meth (loc 0) 19 (clC (loc 4) clN))) sN).ex (KK (d+2) false) ρ) (ls.map lnD) [qV n,some m,some note,some o4,o,none,none] σ=some (.next [qV n,some m,some note,some o4,o',none,none],σ):=by
 induction ls with
 |nil=>exact ⟨_,rfl⟩
 |cons l ls ih=>
  intro m note o4 o;obtain ⟨o',e⟩:=ih (fun x hx=>h x (.tail _ hx)) (m:=m) (note:=note) (o4:=o4) (o:=dV (lnD l));exact ⟨o',aN (aa (au (bq b rfl (cl1 rfl) (A5 b (h l (.head _))))) rfl) rfl e⟩
theorem AQ {note:List Nat} {ls:List bj} (b:Bk σ n S) (sh:Sh S) (hn:bc t) (hk:cl S.ends<t) (ht:fu note) (hl:2≤ls.length∧ls.length≤60) (h:∀ l∈ls,LineOk S l) (hb:CC (d+2) false 18 [.d (.lst (ls.map lnD))] σ=some (.ok (.d (.bool true)),σ)):
  CC (d+3) false 20 [.p n 0,.d (.int t),.d (.str note),.d (.lst (ls.map lnD))] σ=some (.ok (.d (.int (S.made.length+1))),σ.set n (bk (ym S t note ls))):=by
 obtain ⟨o',lp⟩:=tX (d:=d) (v:=.lst (ls.map lnD)) b h (m:=.d (.int t)) (note:=.d (.str note)) (o4:=.d (.lst (ls.map lnD))) (o:=none);have hlen:(ls.map lnD).length=ls.length:=J' ..;have ll:Ev (KK (d+2) false) (bi fLen (clC (loc 3) clN)) [qV n,iV t,sV note,dV (.lst (ls.map lnD)),none,none,none] σ (.d (.int ls.length)):=by
  have e:=g7 (hd:=false) (σ:=σ) (x:=.d (.lst (ls.map lnD))) rfl (by rw[hlen];exact aQ (o35 hl));rw[hlen] at e;exact bx (cl1 rfl) e
 have it:items (.lst (ls.map lnD))=some (ls.map lnD):=if_pos (by rw[hlen];exact aQ (o35 hl));refine aO t20 rfl (ρ:=[qV n,iV t,sV note,dV (.lst (ls.map lnD)),none,none,none]) rfl ?_ (qm (o':=bk {S with deeds:=S.deeds++[ij t note ls]}));refine aa (au (bq b rfl (cl1 rfl) (iC b sh hn hk))) ?_;refine aa (au (ak (cl1 rfl) (iH ht))) ?_;refine aa (a_ (bE (bI (ai ll rfl rfl rfl (iL (by exact Lg.mpr (KS.mpr hl.1)))) (bI (ai ll rfl rfl rfl (kA (by exact Lg.mpr (KS.mpr hl.2)))) rfl))) rfl) ?_;refine aa (aT rfl (cp it) lp) ?_;refine aa (a_ (nN (fS (ak (cl1 rfl) hb))) rfl) ?_;have kept:Ev (KK (d+2) false) (bi fTuple (clC (ofF false (comp 6 (loc 3) noIf (tup (clC (sub (loc 6) (ah 0)) (clC (sub (loc 6) (ah 1)) (clC (sub (loc 6) (ah 2)) clN)))))) clN)) [qV n,iV t,sV note,dV (.lst (ls.map lnD)),o',none,none] σ (.d (.tup (ls.map lnD))):=by
  refine bx (cl1 (mI (eq rfl (cp it) (cW lnD lnD ls [] (fun l hl=>aP (clc (aA rfl rfl rfl rfl (ci rfl)) (clc (aA rfl rfl rfl rfl (ci rfl)) (cl1 (aA rfl rfl rfl rfl (ci rfl)))))) (by rw[K6];exact JG hl))))) ?_;show (al ((ls.map lnD).length≤lim) (D.tup (ls.map lnD))).map _=_;rw[aB (by rw[hlen];exact aQ (o35 hl))];rfl
 refine aa (an kept rfl) ?_;refine aa (au (fi b sh.d rfl (aP rfl))) ?_;exact az (aq (bq (S:={S with deeds:=S.deeds++[ij t note ls]}) (dB b.lt) rfl (clc rfl (clc rfl (clc rfl (cl1 rfl)))) (jF (S:={S with deeds:=S.deeds++[ij t note ls]}) (dB b.lt) sh.m)))
end
structure Tell (S:St) (rs:List Rw) (m:List (List Nat×D)):Prop where
 k:S.tk=m.map fun x=>.str x.1
 v:S.tv=m.map (·.2)
 d:∀ c,∃ l:List (Int×D),(ch c m).getD (.dct [] [])=xg l∧Days c rs l∧l.length≤rs.length
 ml:m.length≤rs.length
section
variable {d i:Nat} {hd:Bool} {S:St} {K:Ker} {ρ:Rho} {σ:Sto} {n t b:Int} {c:List Nat} {rs:List Rw} {m:List (List Nat×D)}
theorem xz (T:Tell S rs m) (sh:Sh S) (hc:aX c=true) (hn:bc n) (hk:cl S.ends<n) (hh:c≠S.home) (ht:1≤t∧t≤10^9) (hb:1≤b∧b≤10^9) (hr:rs.length≤900):
  ∃ ks vs m',Tell (told S c n t b ks vs) (rs++[(c,n,t,b)]) m'∧∀ d σ i,Bk σ i S→CC (d+3) false 6 [.p i 0,.d (.str c),.d (.int n),.d (.int t),.d (.int b)] σ=some (.ok (.d .none),σ.set i (bk (told S c n t b ks vs))):=by
 obtain ⟨l,e,W,hl⟩:=T.d c;have e':(cU (.str c) S.tk S.tv).getD (.dct [] [])= .dct (l.map fun x=>.int x.1) (l.map (·.2)):=by rw[T.k,T.v,gN jX];exact e
 refine ⟨l.map fun x=>.int x.1,l.map (·.2),cG c (xg (cG n (tbD (c,n,t,b)) l)) m,⟨?_,?_,fun c'=> ?_,?_⟩,fun d σ i q=>Aw q sh hc hn hk hh ht hb e' (by rw[T.k];exact jB (·.1) m) (mF (·.1) l) (by rw[J'];exact KE hl (KE hr (Kj rfl)))⟩
 ·show cQ (.str c) S.tk=_;rw[T.k];exact oZ jX c _ m
 ·show cP (.str c) (.dct (cQ (.int n) (l.map fun x=>.int x.1)) (cP (.int n) (.tup [.int t,.int b]) (l.map fun x=>.int x.1) (l.map (·.2)))) S.tk S.tv=_;rw[T.k,T.v,oZ yX n (.tup [.int t,.int b]) l,oY yX n (.tup [.int t,.int b]) l];exact oY jX c _ m
 ·rw[eZ];by_cases q:c'=c
  ·rw[if_pos q,q];exact ⟨_,rfl,xf (x:=(c,n,t,b)) W rfl,by rw[Kd];exact Km (gO l) (Nat.add_le_add_right hl 1)⟩
  ·rw[if_neg q];obtain ⟨l',e1,D1,h1⟩:=T.d c';exact ⟨l',e1,uE D1 fun z=>q z.symm,by rw[Kd];exact o69 h1⟩
 ·rw[Kd];exact Km (gO m) (Nat.add_le_add_right T.ml 1)
theorem yf (B:Bk σ i S) (T:Tell S rs m) (hc:aX c=true) (hn:bc n) (hh:c≠S.home) (hr:rs.length≤900):CC (d+2) false 14 [.p i 0,.d (.str c),.d (.int n)] σ=some (Ce (gV c n rs),σ):=by
 obtain ⟨l,e,W,hl⟩:=T.d c;have g:=uB (K:=KK (d+1) false) (ρ:=[qV i,sV c,iV n,none,none,none]) (σ:=σ) (o:=bC (loc 0) 2) (x:=.p i 4) (a:=loc 1) (b:=v0) (ks:=S.tk) (vs:=S.tv) (k:=.str c) (z:=.dct [] []) (pY B rfl) (u_ B) rfl rfl (by rw[T.k];exact jB (·.1) m);rw[T.k,T.v,gN jX,e] at g;have it:items (xg l)=some (l.map fun x=>.int x.1):=if_pos ⟨by rw[J'];exact o70 hr hl,jA (mF (c:=0) (·.1) l)⟩;have cm:(iy false 4 5 (loc 3) (iE (aJ cLe (loc 5) (loc 2))) (loc 5)).ex (KK (d+1) false) [qV i,sV c,iV n,dV (xg l),none,none] σ=some (.next [qV i,sV c,iV n,dV (xg l),dV (.lst (((l.filter fun x=>decide (x.1≤n)).map (·.1)).map .int)),none],σ):=by
  refine dY (de rfl (cp it) (db rfl (fun x:Int×D=>D.int x.1) (fun x=>.int x.1) (fun x=>decide (x.1≤n)) l [] (fun x _=>rfl) (fun x _ _=>rfl) (by rw[K6];exact o71 hr hl)) rfl) ?_;rw[List.map_map];rfl
 have ll:∀ k:List Int,k.length≤1000→fLen.g false [.d (.lst (k.map D.int))] σ=some (.ok (.d (.int k.length)),σ):=fun k hk=>by
  have:=g7 (hd:=false) (σ:=σ) (x:=.d (.lst (k.map D.int))) rfl (by rw[J'];exact aQ hk);rw[J'] at this;exact this
 have kl:((l.filter fun x=>decide (x.1≤n)).map (·.1)).length≤1000:=by
  rw[J'];have:=List.length_filter_le (fun x:Int×D=>decide (x.1≤n)) l;exact o72 hr hl this
 have mem:∀ k,k∈(l.filter fun x=>decide (x.1≤n)).map (·.1)↔k∈l.map (·.1)∧k≤n:=fun k=>by
  constructor
  ·intro h;obtain ⟨x,hx,e⟩:=Kt.mp h;obtain ⟨h1,h2⟩:=List.mem_filter.mp hx;subst e;exact ⟨List.mem_map_of_mem h1,KX h2⟩
  ·rintro ⟨h1,h2⟩;obtain ⟨x,hx,e⟩:=Kt.mp h1;subst e;exact Kt.mpr ⟨x,List.mem_filter.mpr ⟨hx,Kr h2⟩,rfl⟩
 generalize (l.filter fun x=>decide (x.1≤n)).map (·.1)=kn at cm kl mem;have pre:∀ z,(sC (sIf (aJ cEq (bi fLen (clC (loc 4) clN)) (ah 0)) (sC (bZ 13 [110,111,32,114,97,116,101,32,102,111,114,32,116,104,105,115,32,100,97,121]) sN) sN) (sC (aR (sub (loc 3) (bi fMax1 (clC (loc 4) clN)))) sN)).ex (KK (d+1) false) [qV i,sV c,iV n,dV (xg l),dV (.lst (kn.map .int)),none] σ=z→bk_rate.ex (KK (d+1) false) [qV i,sV c,iV n,none,none,none] σ=z:=fun z h=>
  aa (au (ak (cl1 rfl) (bU hc))) (aa (au (ak (cl1 rfl) (cg hn))) (aa (a_ (ai rfl (pZ B rfl) rfl rfl (g_ hh)) rfl) (aa (an g rfl) (aa cm h))))
 cases q:gV c n rs with
 |none=>
  have:kn=[]:=List.eq_nil_iff_forall_not_mem.mpr fun k hk=>by
   have:=W.no n q k ((mem k).mp hk).1;have:=((mem k).mp hk).2;exact JF (by assumption) this
  subst this;exact FU t14 rfl rfl (pre _ (sZ (bW (ai (bx (cl1 rfl) (ll [] (by decide))) rfl rfl rfl (fh rfl)) (sZ rfl)))) (tk _)
 |some y=>
  have Y:=W.yes n y q;have hm:y.2.1∈kn:=(mem _).mpr ⟨Y.m,Y.le⟩;have hp:0<kn.length:=List.length_pos_of_mem hm;refine aO t14 rfl rfl (pre _ (aa (a_ (ai (bx (cl1 rfl) (ll kn kl)) rfl rfl rfl (ii (by exact Int.natCast_ne_zero_iff_pos.mpr hp))) rfl) (az (aq (aA rfl (bx (cl1 rfl) (Du hm fun a ha=>Y.mx a ((mem a).mp ha).1 ((mem a).mp ha).2)) rfl rfl ?_))))) (tk _);show (al (gU (.int y.2.1) (l.map fun x=>.int x.1)=true) ()).bind (fun _=>cU (.int y.2.1) (l.map fun x=>.int x.1) (l.map (·.2)))=_;rw[aB (mF (·.1) l),gN yX];exact Y.at_
theorem wA (B:Bk σ i S) (hc:aX S.home=true) (hn:bc n):CC (d+2) false 14 [.p i 0,.d (.str S.home),.d (.int n)] σ=some (.ok (.d (.tup [.int 1,.int 1])),σ):=
 aO t14 rfl rfl (aa (au (ak (cl1 rfl) (bU hc))) (aa (au (ak (cl1 rfl) (cg hn))) (az (bW (ai rfl (pZ B rfl) rfl rfl (fg rfl)) (az (aq (aP rfl))))))) (tk _)
theorem iz (B:Bk σ i S) (T:Tell S rs m) (hh:aX S.home=true) (hc:aX c=true) (hn:bc n) (hr:rs.length≤900):CC (d+2) false 14 [.p i 0,.d (.str c),.d (.int n)] σ=some (Ce (aZ S.home rs c n),σ):=by
 unfold aZ;by_cases q:c=S.home
 ·rw[if_pos q,q];exact wA B hh hn
 ·rw[if_neg q];exact yf B T hc hn q hr
noncomputable def Cs (S:St) (n:Int) (note gv one:List Nat) (a:Int) (tk' other:List Nat) (g:Int):St:={S with made:=S.made++[⟨S.made.length+1,n,note,[(gv,one,-a),(cy,one,a),(cy,other,-g),(tk',other,g)],0⟩],deeds:=S.deeds++[lh n note gv one a tk' other]}
theorem uG {a g t1 b1 t2 b2:Int} {note gv one tk' other:List Nat} (B:Bk σ i S) (sh:Sh S) (hn:bc n) (hk:cl S.ends<n) (ht:fu note) (h1:gv∈S.names) (h2:tk'∈S.names) (c1:aX one=true) (c2:aX other=true) (ne:one≠other) (ha:1≤a) (ha2:cA a=true)
  (r1:CC (d+2) false 14 [.p i 0,.d (.str one),.d (.int n)] σ=some (.ok (.d (.tup [.int t1,.int b1])),σ)) (r2:CC (d+2) false 14 [.p i 0,.d (.str other),.d (.int n)] σ=some (.ok (.d (.tup [.int t2,.int b2])),σ))
  (q1:1≤t1∧t1≤10^9) (q2:1≤b1∧b1≤10^9) (q3:1≤t2∧t2≤10^9) (q4:1≤b2∧b2≤10^9) (eg:chg a t1 b1 t2 b2=g) (hg:g≠0) (hg2:cA g=true):
  CC (d+3) false 17 [.p i 0,.d (.int n),.d (.str note),.d (.str gv),.d (.str one),.d (.int a),.d (.str tk'),.d (.str other)] σ=some (.ok (.d (.int (S.made.length+1))),σ.set i (bk (Cs S n note gv one a tk' other g))):=by
 have hc:=so (d:=d+1) (hd:=false) (σ:=σ) (a:=a) q1 q2 q3 q4;rw[eg] at hc;refine aO t17 rfl (ρ:=[qV i,iV n,sV note,sV gv,sV one,iV a,sV tk',sV other,none,none]) rfl ?_ (qm (o':=bk {S with deeds:=S.deeds++[lh n note gv one a tk' other]}));refine aa (au (bq B rfl (cl1 rfl) (iC B sh hn hk))) ?_;refine aa (au (ak (cl1 rfl) (iH ht))) ?_;refine aa (au (bq B rfl (cl1 rfl) (dF B h1))) ?_;refine aa (au (bq B rfl (cl1 rfl) (dF B h2))) ?_;refine aa (au (ak (cl1 rfl) (bU c1))) ?_;refine aa (au (ak (cl1 rfl) (bU c2))) ?_;refine aa (a_ (ai rfl rfl rfl rfl (g_ ne)) rfl) ?_;refine aa (a_ (bE (bI (ai rfl rfl rfl rfl (iL (Lg.mpr ha))) (bI (nN (fS (ak (cl1 rfl) (uk ha2)))) rfl))) rfl) ?_;refine aa (an (ak (clc rfl (clc (bq B rfl (clc rfl (cl1 rfl)) r1) (cl1 (bq B rfl (clc rfl (cl1 rfl)) r2)))) hc) rfl) ?_;refine aa (a_ (ai rfl rfl rfl rfl (ii hg)) rfl) ?_;refine aa (a_ (nN (fS (ak (cl1 rfl) (uk hg2)))) rfl) ?_;refine aa (an (aP (clc (aP rfl) (clc (aP rfl) (clc (aP rfl) (cl1 (aP rfl)))))) rfl) ?_;refine aa (au (fi B sh.d rfl (aP rfl))) ?_;exact az (aq (bq (S:={S with deeds:=S.deeds++[lh n note gv one a tk' other]}) (dB B.lt) rfl (clc rfl (clc rfl (clc rfl (cl1 rfl)))) (jF (S:={S with deeds:=S.deeds++[lh n note gv one a tk' other]}) (ls:=[(gv,one,-a),(cy,one,a),(cy,other,-g),(tk',other,g)]) (dB B.lt) sh.m)))
end
noncomputable def bA (c:List Nat) (ls:List bj):Int:=((ls.filter fun l=>decide (l.2.1=c)).map fun l=>l.2.2).sum
theorem sf {c:List Nat} {ls:List bj} {l:bj}:bA c (ls++[l])=bA c ls+(if l.2.1=c then l.2.2 else 0):=by
 unfold bA;rw[List.filter_append,List.map_append,List.sum_append];by_cases q:l.2.1=c
 ·rw[if_pos q,KM (p:=fun l:bj=>decide (l.2.1=c)) (Kr q)];show _+(l.2.2+0)=_;rw[Int.add_zero]
 ·rw[if_neg q,List.filter_cons_of_neg (p:=fun l:bj=>decide (l.2.1=c)) (by rw[decide_eq_true_eq];exact q)];rfl
structure Tots (ls:List bj) (m:List (List Nat×D)):Prop where
 v:∀ c,(ch c m).getD (.int 0)= .int (bA c ls)
 l:m.length≤ls.length
section
variable {d i:Nat} {hd:Bool} {S:St} {K:Ker} {ρ:Rho} {σ:Sto} {ls:List bj} {l:bj} {m:List (List Nat×D)} {v:D} {o:Option PV}
theorem n4 {α:Type} [DecidableEq α] {x:α×D}:∀ {m:List (α×D)},x∈m→∃ w,ch x.1 m=some w
 |[],h=>absurd h Ky
 |y::m,h=>by
  show ∃ w,(if y.1=x.1 then some y.2 else ch x.1 m)=some w;by_cases q:y.1=x.1
  ·exact ⟨_,if_pos q⟩
  ·rcases Kb.mp h with z|z
   ·exact absurd (by rw[z]) q
   ·obtain ⟨w,e⟩:=n4 z;exact ⟨w,(if_neg q).trans e⟩
theorem Af (T:Tots ls m) (hl:ls.length≤1000):∃ m',Tots (ls++[l]) m'∧(sC (lT (loc 1) (sub (loc 2) (ah 1)) (bin oAdd (bm wM (loc 1) (clC (sub (loc 2) (ah 1)) (clC (ah 0) clN))) (sub (loc 2) (ah 2)))) sN).ex K [dV v,qV σ.length,dV (lnD l),o] (σ++[.fld (.dict (m.map fun x=>.str x.1) (m.map (·.2)))])=some (.next [dV v,qV σ.length,dV (lnD l),o],σ++[.fld (.dict (m'.map fun x=>.str x.1) (m'.map (·.2)))]):=by
 have e1:Ev K (sub (loc 2) (ah 1)) [dV v,qV σ.length,dV (lnD l),o] (σ++[.fld (.dict (m.map fun x=>.str x.1) (m.map (·.2)))]) (.d (.str l.2.1)):=aA rfl rfl rfl rfl (ci rfl);have g:=uB (K:=K) (ρ:=[dV v,qV σ.length,dV (lnD l),o]) (σ:=σ++[.fld (.dict (m.map fun x=>.str x.1) (m.map (·.2)))]) (o:=loc 1) (a:=sub (loc 2) (ah 1)) (b:=ah 0) (z:=.int 0) rfl (dC rfl) e1 rfl (jB (·.1) m);rw[gN jX,T.v] at g;have s1:=gB (σ:=σ++[.fld (.dict (m.map fun x=>.str x.1) (m.map (·.2)))]) (n:=σ.length) (j:=0) (k:=.str l.2.1) (v:=.int (bA l.2.1 ls+l.2.2)) bL (oS (vs:=m.map (·.2)) (jB (·.1) m) (by rw[J'];have:=T.l;exact KE this (KE hl (Kj rfl))));rw[cz,oZ jX l.2.1 (.int (bA l.2.1 ls+l.2.2)) m,oY jX l.2.1 (.int (bA l.2.1 ls+l.2.2)) m] at s1;refine ⟨cG l.2.1 (.int (bA l.2.1 ls+l.2.2)) m,⟨fun c=> ?_,?_⟩,aa (gz (ax g (aA rfl rfl rfl rfl (ci rfl)) rfl rfl rfl) rfl e1 s1) rfl⟩
 ·rw[eZ,sf];by_cases q:c=l.2.1
  ·rw[if_pos q,if_pos q.symm,q];rfl
  ·rw[if_neg q,if_neg fun z=>q z.symm,Int.add_zero];exact T.v c
 ·rw[Kd];exact Km (gO m) (Nat.add_le_add_right T.l 1)
theorem sv:∀ (ms ls:List bj) (m:List (List Nat×D)) (o2:Option PV),Tots ls m→ls.length+ms.length≤1000→∃ m' o2',Tots (ls++ms) m'∧cx (.d v) v 2 (fun ρ=>(sC (lT (loc 1) (sub (loc 2) (ah 1)) (bin oAdd (bm wM (loc 1) (clC (sub (loc 2) (ah 1)) (clC (ah 0) clN))) (sub (loc 2) (ah 2)))) sN).ex K ρ) (ms.map lnD) [dV v,qV σ.length,o2,none] (σ++[.fld (.dict (m.map fun x=>.str x.1) (m.map (·.2)))])=some (.next [dV v,qV σ.length,o2',none],σ++[.fld (.dict (m'.map fun x=>.str x.1) (m'.map (·.2)))])
 |[],ls,m,o2,T,_=>⟨m,o2,by rw[List.append_nil];exact T,rfl⟩
 |l::ms,ls,m,o2,T,h=>by
  rw[Kk] at h;obtain ⟨m1,T1,e1⟩:=Af (K:=K) (σ:=σ) (v:=v) (o:=none) (l:=l) T (o73 h);obtain ⟨m2,o2',T2,e2⟩:=sv ms (ls++[l]) m1 (dV (lnD l)) T1 (by rw[Kd,Kn];exact o74 h);exact ⟨m2,o2',by rw[List.append_cons];exact T2,aN e1 rfl e2⟩
theorem Ef (h:∀ c,bA c ls=0) (hl:ls.length≤900):CC (d+1) false 18 [.d (.lst (ls.map lnD))] σ=some (.ok (.d (.bool true)),σ):=by
 obtain ⟨m,o2,T,lp⟩:=sv (K:=KK d false) (σ:=σ) (v:=.lst (ls.map lnD)) ls [] [] none ⟨fun c=>rfl,Ko _⟩ (by rw[K6];exact JE hl);rw[List.nil_append] at T;refine aO t18 rfl (ρ:=[dV (.lst (ls.map lnD)),none,none,none]) rfl ?_ (tkl σ [.dead]);refine aa (an (σ':=σ++[.fld (.dict [] [])]) rfl rfl) ?_;refine aa (aT rfl (cp (if_pos (by rw[J'];exact aQ (o75 hl)))) lp) ?_;refine iS rfl (iT rfl) (az (aq ?_));have e:=Cv (σ:=σ++[.dead]) (fun _:List Nat×D=>true) m;rw[show (m.all fun _=>true)=true from List.all_eq_true.mpr fun _ _=>rfl] at e;refine bx (cl1 (mI (eq rfl (cp (if_pos ⟨by rw[J'];have:=T.l;exact o70 hl this,jA (jB (c:=[]) (·.1) m)⟩)) (cW (fun x:List Nat×D=>.str x.1) (fun _=>.bool true) m [] (fun x hx=> ?_) (by rw[K6];have:=T.l;exact o71 hl this))))) e;obtain ⟨w,hw⟩:=n4 hx;have tv:=T.v x.1;rw[hw,h] at tv;refine jD (aA rfl rfl rfl rfl (z:=.int 0) ?_) rfl rfl rfl (fh rfl);show (al (gU (.str x.1) (m.map fun x=>.str x.1)=true) ()).bind (fun _=>cU (.str x.1) (m.map fun x=>.str x.1) (m.map (·.2)))=_;rw[aB (jB (·.1) m),Ka,gN jX,hw];exact congrArg some tv
theorem rz {n:Int}:∀ g:List Int,(cU (.int n) (g.map .int) (g.map fun _=>.bool true)).isSome=decide (n∈g)
 |[]=>rfl
 |a::g=>by
  show (if dP (.int a) (.int n)=true then some (D.bool true) else cU (.int n) (g.map .int) (g.map fun _=>.bool true)).isSome=_;rw[yX];by_cases q:a=n
  ·rw[if_pos (Kr q),Kr (by rw[q];exact .head _)];rfl
  ·rw[if_neg (by rw[K7 q];exact KC),rz g,Bool.eq_iff_iff,decide_eq_true_eq,decide_eq_true_eq,Kb];exact ⟨.inr,fun h=>h.resolve_left fun e=>q e.symm⟩
theorem vb {n:Int}:∀ g:List Int,n∉g→cQ (.int n) (g.map .int)=(g++[n]).map .int∧cP (.int n) (.bool true) (g.map .int) (g.map fun _=>.bool true)=(g++[n]).map fun _=>.bool true
 |[],_=>⟨rfl,rfl⟩
 |a::g,h=>by
  have q:¬dP (.int a) (.int n)=true:=by rw[yX,decide_eq_true_eq];exact fun e=>h (by rw[e];exact .head _)
  obtain ⟨h1,h2⟩:=vb g fun z=>h (.tail _ z);refine ⟨?_,?_⟩
  ·show (if dP (.int a) (.int n)=true then _ else D.int a::cQ (.int n) (g.map .int))=_;rw[if_neg q,h1];rfl
  ·show (if dP (.int a) (.int n)=true then _ else D.bool true::cP (.int n) (.bool true) (g.map .int) (g.map fun _=>.bool true))=_;rw[if_neg q,h2];rfl
theorem Bm {e a:CE} {t:Int} (B:Bk σ i S) (h0:Ev K e ρ σ (.p i 0)) (h:Ev K a ρ σ (.d (.int t))):Ts K (aJ FV a (bC e 4)) ρ σ (decide (t∈S.gone)):=by
 refine ai h (v7 B h0) rfl (AO B) ?_;show al (gU (.int t) (S.gone.map .int)=true) _=_;rw[aB (mF (fun x=>x) _),rz]
noncomputable def mX (n day:Int):D:=.tup [.str [98,97,99,107],.int n,.int day]
noncomputable def dN (l:bj):bj:=(l.1,l.2.1,-l.2.2)
noncomputable def Ag (S:St) (k:Nat) (e:Ent) (t:Int):St:={S with made:=S.made++[⟨S.made.length+1,t,e.note,e.lines.map dN,k+1⟩],gone:=S.gone++[(k:Int)+1],deeds:=S.deeds++[mX (k+1) t]}
theorem sj {k:Nat} {e:Ent} {t:Int} (B:Bk σ i S) (sh:Sh S) (h:S.made[k]? =some e) (h2:e.back=0) (hl:e.lines.length≤1000) (hg:((k:Int)+1)∉S.gone) (hn:bc t) (hk:cl S.ends<t):
  CC (d+3) false 9 [.p i 0,.d (.int (k+1)),.d (.int t)] σ=some (.ok (.d (.int (S.made.length+1))),σ.set i (bk (Ag S k e t))):=by
 have g:=Bm (K:=KK (d+2) false) (ρ:=[qV i,iV (k+1),iV t,dV (enD e),none,none]) (e:=loc 0) (a:=loc 1) B rfl rfl;rw[K7 hg] at g;have lines:Ev (KK (d+2) false) (bi fTuple (clC (ofF false (comp 5 (sub (loc 3) (ah 3)) noIf (tup (clC (sub (loc 5) (ah 0)) (clC (sub (loc 5) (ah 1)) (clC (neg (sub (loc 5) (ah 2))) clN)))))) clN)) [qV i,iV (k+1),iV t,dV (enD e),none,none] σ (.d (.tup ((e.lines.map dN).map lnD))):=by
  rw[List.map_map];refine bx (cl1 (mI (eq (aA rfl rfl rfl rfl (ci rfl)) (cp rfl) (cW lnD (lnD ∘ dN) e.lines [] (fun l hl=>aP (clc (aA rfl rfl rfl rfl (ci rfl)) (clc (aA rfl rfl rfl rfl (ci rfl)) (cl1 (uA (aA rfl rfl rfl rfl (ci rfl))))))) (by rw[K6];exact o76 hl))))) ?_;show (al ((e.lines.map (lnD ∘ dN)).length≤lim) (D.tup (e.lines.map (lnD ∘ dN)))).map _=_;rw[aB (by rw[J'];exact aQ hl)];rfl
 obtain ⟨p1,p2⟩:=vb S.gone hg;have s1:=gB (σ:=σ) (n:=i) (j:=6) (k:=.int (k+1)) (v:=.bool true) (ie (j:=4) B rfl) (oS (mF (fun x=>x) S.gone) (by rw[J'];have:=sh.g;exact o68 this));rw[p1,p2,js (j:=4) B (S':={S with gone:=S.gone++[(k:Int)+1]}) rfl] at s1;have B1:Bk (σ.set i (bk {S with gone:=S.gone++[(k:Int)+1]})) i {S with gone:=S.gone++[(k:Int)+1]}:=dB B.lt;refine aO t9 rfl (ρ:=[qV i,iV (k+1),iV t,none,none,none]) rfl ?_ (σ':=((σ.set i (bk {S with gone:=S.gone++[(k:Int)+1]})).set i (bk {S with gone:=S.gone++[(k:Int)+1],deeds:=S.deeds++[mX (k+1) t]})).set i (bk (Ag S k e t))) (by rw[List.set_set];exact qm);refine aa (an (bq B rfl (cl1 rfl) (n_ B sh h)) rfl) ?_;refine aa (a_ (bE (bI (ai (aA rfl rfl rfl rfl (ci rfl)) rfl rfl rfl (nn h2)) (bI g rfl))) rfl) ?_;refine aa (au (bq B rfl (cl1 rfl) (iC B sh hn hk))) ?_;refine aa (an lines rfl) ?_;refine aa (gz rfl (v7 B rfl) rfl s1) ?_;refine aa (au (fi B1 sh.d rfl (aP rfl))) ?_;exact az (aq (bq (S:={S with gone:=S.gone++[(k:Int)+1],deeds:=S.deeds++[mX (k+1) t]}) (dB B1.lt) rfl (clc rfl (clc (aA rfl rfl rfl rfl (ci rfl)) (clc rfl (cl1 rfl)))) (jF (S:={S with gone:=S.gone++[(k:Int)+1],deeds:=S.deeds++[mX (k+1) t]}) (ls:=e.lines.map dN) (dB B1.lt) sh.m)))
noncomputable def jQ (a c:List Nat) (t:Int) (l:bj):Int:=if l.1=a∧l.2.1=c then t+l.2.2 else t
noncomputable def jZ (q:Option Int) (n:Int):Bool:=q.elim true fun x=>decide (n≤x)
noncomputable def gW (a c:List Nat) (q:Option Int) (t:Int) (e:Ent):Int:=if jZ q e.day=true then e.lines.foldl (jQ a c) t else t
noncomputable def total (S:St) (a c:List Nat) (q:Option Int):Int:=S.made.foldl (gW a c q) 0
noncomputable def rB (q:Option Int):D:=q.elim .none .int
theorem gS {a c:List Nat} {q:Option Int} (B:Bk σ i S) (sh:Sh S):CC (d+1) false 26 [.p i 0,.d (.str a),.d (.str c),.d (rB q)] σ=some (.ok (.d (.int (total S a c q))),σ):=by
 obtain ⟨c',lp⟩:=k7 (σ:=σ) (v:=.p i 5) (x:=.lst (S.made.map enD)) (i:=5) (b:=fun ρ=>(sC (sIf (tor (bH (aJ cIs (loc 3) eH) (bH (aJ cLe (sub (loc 5) (ah 1)) (loc 3)) eA))) (sC (cN 6 (sub (loc 5) (ah 3)) (sC (sIf (lH (cB (aJ cEq (sub (loc 6) (ah 0)) (loc 1)) (cB (aJ cEq (sub (loc 6) (ah 1)) (loc 2)) gY))) (sC (aF 4 (bin oAdd (loc 4) (sub (loc 6) (ah 2)))) sN) sN) sN)) sN) sN) sN).ex (KK d false) ρ)
  enD (fun (t:Int) (o:Option PV×Option PV)=>[qV i,sV a,sV c,dV (rB q),iV t,o.1,o.2]) (gW a c q) (fo (gC B)) S.made (fun t o e _=>by
   obtain ⟨c',lp⟩:=k7 (σ:=σ) (v:=.d (.tup (e.lines.map lnD))) (x:=.tup (e.lines.map lnD)) (i:=6) (b:=fun ρ=>(sC (sIf (lH (cB (aJ cEq (sub (loc 6) (ah 0)) (loc 1)) (cB (aJ cEq (sub (loc 6) (ah 1)) (loc 2)) gY))) (sC (aF 4 (bin oAdd (loc 4) (sub (loc 6) (ah 2)))) sN) sN) sN).ex (KK d false) ρ)
    lnD (fun (t:Int) (o:Option PV)=>[qV i,sV a,sV c,dV (rB q),iV t,dV (enD e),o]) (jQ a c) rfl e.lines (fun t o l _=>by
     refine ⟨dV (lnD l),?_⟩;unfold jQ;by_cases q1:l.1=a
     ·by_cases q2:l.2.1=c
      ·rw[if_pos ⟨q1,q2⟩];exact aa (bW (bO (cb (ai (aL 0 rfl rfl) rfl rfl rfl (fg q1)) (cb (ai (aL 1 rfl rfl) rfl rfl rfl (fg q2)) rfl))) (aa (an (bB rfl (aL 2 rfl rfl)) rfl) rfl)) rfl
      ·rw[if_neg fun h=>q2 h.2];exact aa (a_ (bO (cb (ai (aL 0 rfl rfl) rfl rfl rfl (fg q1)) (eu (ai (aL 1 rfl rfl) rfl rfl rfl (g_ q2))))) rfl) rfl
     ·rw[if_neg fun h=>q1 h.1];exact aa (a_ (bO (eu (ai (aL 0 rfl rfl) rfl rfl rfl (g_ q1)))) rfl) rfl) t o.2
   have d1:Ev (KK d false) (sub (loc 5) (ah 1)) [qV i,sV a,sV c,dV (rB q),iV t,dV (enD e),o.2] σ (.d (.int e.day)):=aL 1 rfl rfl;unfold gW;cases q with
   |none=>
    rw[if_pos (show jZ none e.day=true from rfl)];exact ⟨(dV (enD e),c'),aa (bW (bE (f_ (ai rfl rfl rfl rfl rfl))) (aa (aT (aL 3 rfl rfl) (cp rfl) lp) rfl)) rfl⟩
   |some x=>
    by_cases z:e.day≤x
    ·rw[if_pos (show jZ (some x) e.day=true from Kr z)];exact ⟨(dV (enD e),c'),aa (bW (bE (bI (ai rfl rfl rfl rfl rfl) (f_ (ai d1 rfl rfl rfl (pA z))))) (aa (aT (aL 3 rfl rfl) (cp rfl) lp) rfl)) rfl⟩
    ·rw[if_neg (show¬jZ (some x) e.day=true by show¬decide (e.day≤x)=true;rw[decide_eq_true_eq];exact z)];exact ⟨(dV (enD e),o.2),aa (a_ (bE (bI (ai rfl rfl rfl rfl rfl) (bI (ai d1 rfl rfl rfl (A8 z)) rfl))) rfl) rfl⟩) 0 (none,none)
 exact aO t26 rfl (ρ:=[qV i,sV a,sV c,dV (rB q),none,none,none]) rfl (aa (an rfl rfl) (aa (aT (jc B rfl) (ua (gC B) (by rw[J'];exact sh.m)) lp) (az (aq rfl)))) (tk _)
end
noncomputable def wn:List Nat:=[115,116,114,97,110,103,101,114]
def far (t:List Nat):Prop:=∀ k y,t.set k y≠wn
theorem uz {t:List Nat} (h:far t):t≠wn:=fun e=>h t.length 0 (by rw[List.set_eq_of_length_le (Ko _)];exact e)
structure Nms (T:List (List Nat)):Prop where
 nd:T.Nodup
 ne:cy∉T
 nm:∀ x∈T,kz x
 st:wn∉T
noncomputable def apS (q s:Int) (i:Nat):Nat:=signs.getD ((q+s*(i:Int)).fmod 36).toNat 0
theorem jN {q s:Int} {i v c:Nat} (hv:∀ j,j<36→signs.getD j 0=c→j=v) (h:apS q s i=c):(q+s*(i:Int)) % 36=v:=by
 have r:=aG (a:=q+s*(i:Int)) (b:=36) (by decide);have e:=hv _ (by exact (Int.toNat_lt r.1).mpr r.2) h;rw[Int.fmod_eq_emod_of_nonneg _ (by decide)] at e r;exact JD e
theorem Ek {x m:Nat} {q s:Int}:far (x::(List.range m).map (apS q s)):=by
 intro k y h;have hl:=congrArg List.length h;rw[KG,Kk,J',List.length_range] at hl;have hm:m=7:=Nat.succ.inj hl;subst hm;have g:∀ i c,i<7→wn[i+1]? =some c→k≠i+1→apS q s i=c:=fun i c hi hc hk=>by
  rw[←h,KL hk,List.getElem?_cons_succ,Ku,List.getElem?_range hi] at hc;exact K4 hc
 by_cases z:k≤3
 ·have e1:=jN (v:=13) (by decide) (g 3 110 (by decide) rfl (by exact Nat.ne_of_lt (KE z (Kj rfl))));have e2:=jN (v:=6) (by decide) (g 4 103 (by decide) rfl (by exact Nat.ne_of_lt (KE z (Kj rfl))));have e3:=jN (v:=4) (by decide) (g 5 101 (by decide) rfl (by exact Nat.ne_of_lt (KE z (Kj rfl))));exact JC e1 e3
 ·have e1:=jN (v:=19) (by decide) (g 0 116 (by decide) rfl (JB z));have e2:=jN (v:=17) (by decide) (g 1 114 (by decide) rfl (JA z));have e3:=jN (v:=0) (by decide) (g 2 97 (by decide) rfl (Jz z));exact Jy e1 e3
theorem pP {v:PV} {x:D} {i:Nat} {b:Rho→Sto→Option (Out×Sto)} (Pr:Nat→Rho→Sto→Prop):∀ (n k:Nat) (ρ:Rho) (σ:Sto),Pr k ρ σ→(∀ j ρ σ,j<k+n→Pr j ρ σ→∃ ρ' σ',b (ρ.set i (iV (j:Nat))) σ=some (.next ρ',σ')∧bp σ' x v=true∧Pr (j+1) ρ' σ')→∃ ρ' σ',cx v x i b ((List.range' k n).map fun (j:Nat)=>.int j) ρ σ=some (.next ρ',σ')∧Pr (k+n) ρ' σ'
 |0,k,ρ,σ,h,_=>⟨ρ,σ,rfl,h⟩
 |n+1,k,ρ,σ,h,st=>by
  obtain ⟨ρ1,σ1,e1,s1,p1⟩:=st k ρ σ (Jx) h;obtain ⟨ρ2,σ2,e2,p2⟩:=pP Pr n (k+1) ρ1 σ1 p1 fun j ρ σ hj=>st j ρ σ (o77 hj);exact ⟨ρ2,σ2,aN e1 s1 e2,by rw[show k+(n+1)=k+1+n by exact o36];exact p2⟩
section
variable {d:Nat} {hd:Bool} {K:Ker} {ρ ρ':Rho} {σ σ':Sto} {n:Int}
theorem iJ:∃ t,kz t∧far t∧CC (d+1) false 43 [.d (.int n)] σ=some (.ok (.d (.str t)),σ):=by
 have g0:=fT (l:=signs) (a:=n) (k:=26) (by decide) (by decide);have q:=aG (a:=n.fdiv 26) (b:=12) (by decide);have e:(n.fdiv 26).fmod 12=((((n.fdiv 26).fmod 12).toNat:Nat):Int):=Jw q;generalize hk:((n.fdiv 26).fmod 12).toNat=k at e;have m0:=ck (K:=KK d false) (ρ:=[iV n,sV signs,sV [signs.getD (n.fmod 26).toNat 0],iV (n.fdiv 26),none]) (σ:=σ) (e:=loc 3) (a:=n.fdiv 26) (k:=12) rfl (by decide) (by decide);rw[e] at m0;generalize hq:(n.fdiv 26).fdiv 12=a;generalize hs:(n.fdiv 26).fdiv 432=b;obtain ⟨ρ2,s2,lp,y4,rfl,rfl⟩:=pP (v:=.d (.rng 0 k 1)) (x:=.rng 0 k 1) (i:=4) (b:=fun ρ=>(sC (aF 2 (bin oAdd (loc 2) (sub (loc 1) (bin oMod (bin oAdd (bin oDiv (loc 3) (ah 12)) (bin oMul (bin oDiv (loc 3) (ah 432)) (loc 4))) (ah 36))))) sN).ex (KK d false) ρ)
  (fun j ρ s=>∃ x4,ρ=[iV n,sV signs,sV (signs.getD (n.fmod 26).toNat 0::(List.range j).map (apS a b)),iV (n.fdiv 26),x4]∧s=σ) k 0 [iV n,sV signs,sV [signs.getD (n.fmod 26).toNat 0],iV (n.fdiv 26),none] σ ⟨none,rfl,rfl⟩ fun j ρ s hj ⟨x4,h1,h2⟩=>by
   subst h1 h2;have ct:=iW (a:=signs.getD (n.fmod 26).toNat 0::(List.range j).map (apS a b)) (b:=[apS a b j]) (by rw[Kk,J',List.length_range,Kn];exact aQ (Jv q e hj));rw[List.cons_append,show (List.range j).map (apS a b)++[apS a b j]=(List.range (j+1)).map (apS a b) by rw[List.range_succ,List.map_append];rfl] at ct;have ad:Ev (KK d false) (bin oAdd (bin oDiv (loc 3) (ah 12)) (bin oMul (bin oDiv (loc 3) (ah 432)) (loc 4))) [iV n,sV signs,sV (signs.getD (n.fmod 26).toNat 0::(List.range j).map (apS a b)),iV (n.fdiv 26),iV (j:Nat)] s (.d (.int (a+b*(j:Int)))):=by
    rw[←hq,←hs];exact ax (bw rfl (by decide) (by decide)) (ax (bw rfl (by decide) (by decide)) rfl rfl rfl (dw (dI (Ju q e hj)))) rfl rfl rfl
   exact ⟨_,_,aa (an (ax rfl (fB (l:=signs) rfl ad (by decide) (by decide) (by decide)) rfl rfl ct) rfl) rfl,rfl,⟨_,rfl,rfl⟩⟩
 rw[K8] at lp;rw[←List.range_eq_range'] at lp;refine ⟨_,⟨_,(List.range k).map (apS a b),rfl,?_,g0,fun y hy=> ?_⟩,Ek,?_⟩
 ·rw[J',List.length_range];exact Jt q e
 ·obtain ⟨i,_,rfl⟩:=Kt.mp hy;exact List.mem_of_mem_take (fT (l:=signs) (a:=a+b*(i:Int)) (k:=36) (by decide) (by decide))
 ·refine aO t43 rfl (ρ:=[iV n,none,none,none,none]) rfl ?_ (tk _);refine aa (an rfl rfl) ?_;refine aa (an (fB (l:=signs) rfl rfl (by decide) (by decide) (by decide)) rfl) ?_;refine aa (an (bw rfl (by decide) (by decide)) rfl) ?_;refine aa (aT (jC m0 (o78 q e)) (cp (dS (o78 q e))) lp) ?_;exact az (aq rfl)
end
structure Pl where
 names:List (List Nat)
 first:Int
 curs:List (List Nat)
 ents:List Ent
 told:List Rw
 ends:List Int
 backs:List Int
 deeds:List D
 most:Int
 ex:List Fld
noncomputable def pfl (p:Pl):List Fld:=.list (p.names.map .str):: .d (.int p.first):: .d (.lst (p.curs.map .str)):: .list (p.ents.map enD):: .list (p.told.map rwD):: .list (p.ends.map .int):: .list (p.backs.map .int):: .list p.deeds:: .d (.int p.most)::p.ex
noncomputable def pk (p:Pl):PO:=.rcd false (pfl p)
abbrev Rk (σ:Sto) (m:Nat) (p:Pl):Prop:=σ[m]? =some (pk p)
section
variable {d m n i:Nat} {hd:Bool} {p p':Pl} {S S':St} {K:Ker} {ρ:Rho} {σ:Sto} {e a:CE} {f:Fld} {l:Sto} {s:List Nat}
theorem Rk.lt (h:Rk σ m p):m<σ.length:=(Kg.mp h).1
theorem Rk.app (h:Rk σ m p):Rk (σ++l) m p:=by
 show (σ++l)[m]? =_;rw[K1 h.lt];exact h
theorem ef {k:Nat} (h:Rk σ m p) (he:Ev K e ρ σ (.p m 0)) (hf:(pfl p)[k]? =some f):Ev K (key e k s) ρ σ (ux m k f):=by
 refine av he (av (a:=.d (.str s)) (σ':=σ) rfl ?_);show (al (dX (.d (.str s))=some s) ()).bind (fun _=>kg false k (.p m 0) σ)=_;rw[aB (show dX (.d (.str s))=some s from rfl),Ka];show (bJ false σ m).bind _=_;unfold bJ;rw[h];show ((pfl p)[k]?).map _=_;rw[hf];rfl
theorem ib {j:Nat} (h:Rk σ m p) (hf:(pfl p)[j]? =some f):a8 σ m (j+2)=some f:=by
 unfold a8;rw[h];exact hf
theorem qA {j:Nat} {x:D} (h:Rk σ m p) (hf:(pfl p)[j]? =some f) (hx:f.rd=some x):rd σ (.p m (j+2))=some x:=by
 show (a8 σ m (j+2)).bind _=_;rw[ib h hf];exact hx
theorem jr {j:Nat} (h:Rk σ m p) (hf:(pfl p).set j f=pfl p'):putAt σ m (j+2) f=σ.set m (pk p'):=by
 unfold putAt;rw[h];show σ.set m (.rcd false ((pfl p).set (j+2 - 2) f))=_;rw[Nat.add_sub_cancel,hf];rfl
theorem cJ (h:Rk σ m p) (he:Ev K e ρ σ (.p m 0)):Ev K (key e 0 s) ρ σ (.p m 2):=ef (f:=.list (p.names.map .str)) h he rfl
theorem h_ (h:Rk σ m p) (he:Ev K e ρ σ (.p m 0)):Ev K (key e 2 s) ρ σ (.d (.lst (p.curs.map .str))):=ef (f:=.d (.lst (p.curs.map .str))) h he rfl
theorem jy (h:Rk σ m p) (he:Ev K e ρ σ (.p m 0)):Ev K (key e 3 s) ρ σ (.p m 5):=ef (f:=.list (p.ents.map enD)) h he rfl
theorem y0 (h:Rk σ m p) (he:Ev K e ρ σ (.p m 0)):Ev K (key e 4 s) ρ σ (.p m 6):=ef (f:=.list (p.told.map rwD)) h he rfl
theorem pG (h:Rk σ m p) (he:Ev K e ρ σ (.p m 0)):Ev K (key e 5 s) ρ σ (.p m 7):=ef (f:=.list (p.ends.map .int)) h he rfl
theorem kY (h:Rk σ m p) (he:Ev K e ρ σ (.p m 0)):Ev K (key e 6 s) ρ σ (.p m 8):=ef (f:=.list (p.backs.map .int)) h he rfl
theorem Bb (h:Rk σ m p) (he:Ev K e ρ σ (.p m 0)):Ev K (key e 7 s) ρ σ (.p m 9):=ef (f:=.list p.deeds) h he rfl
theorem y_ (h:Rk σ m p) (he:Ev K e ρ σ (.p m 0)):Ev K (key e 8 s) ρ σ (.d (.int p.most)):=ef (f:=.d (.int p.most)) h he rfl
theorem cI (h:Rk σ m p):rd σ (.p m 2)=some (.lst (p.names.map .str)):=qA (f:=.list (p.names.map .str)) h rfl rfl
theorem jq (h:Rk σ m p):rd σ (.p m 5)=some (.lst (p.ents.map enD)):=qA (f:=.list (p.ents.map enD)) h rfl rfl
theorem yj (h:Rk σ m p):rd σ (.p m 6)=some (.lst (p.told.map rwD)):=qA (f:=.list (p.told.map rwD)) h rfl rfl
theorem tc (h:Rk σ m p):rd σ (.p m 7)=some (.lst (p.ends.map .int)):=qA (f:=.list (p.ends.map .int)) h rfl rfl
theorem oW (h:Rk σ m p):rd σ (.p m 8)=some (.lst (p.backs.map .int)):=qA (f:=.list (p.backs.map .int)) h rfl rfl
theorem AT {t:List Nat} (h:Rk σ m p) (hl:p.names.length≤1000) (he:Ev K e ρ σ (.p m 0)) (ha:Ev K a ρ σ (.d (.str t))):(bm aH (key e 0 s) (clC a clN)).ev K ρ σ=some (.ok (.d .none),σ.set m (pk {p with names:=p.names++[t]})):=by
 have q:=bG (cJ (s:=s) h he) ha (ib (j:=0) h rfl) (by rw[J'];exact cn hl);rw[jr h (p':={p with names:=p.names++[t]}) (by simp only [pfl,List.map_append];rfl)] at q;exact q
theorem Db {t:Ent} (h:Rk σ m p) (hl:p.ents.length≤1000) (he:Ev K e ρ σ (.p m 0)) (ha:Ev K a ρ σ (.d (enD t))):(bm aH (key e 3 s) (clC a clN)).ev K ρ σ=some (.ok (.d .none),σ.set m (pk {p with ents:=p.ents++[t]})):=by
 have q:=bG (jy (s:=s) h he) ha (ib (j:=3) h rfl) (by rw[J'];exact cn hl);rw[jr h (p':={p with ents:=p.ents++[t]}) (by simp only [pfl,List.map_append];rfl)] at q;exact q
theorem Da {t:Rw} (h:Rk σ m p) (hl:p.told.length≤1000) (he:Ev K e ρ σ (.p m 0)) (ha:Ev K a ρ σ (.d (rwD t))):(bm aH (key e 4 s) (clC a clN)).ev K ρ σ=some (.ok (.d .none),σ.set m (pk {p with told:=p.told++[t]})):=by
 have q:=bG (y0 (s:=s) h he) ha (ib (j:=4) h rfl) (by rw[J'];exact cn hl);rw[jr h (p':={p with told:=p.told++[t]}) (by simp only [pfl,List.map_append];rfl)] at q;exact q
theorem Dc {t:Int} (h:Rk σ m p) (hl:p.ends.length≤1000) (he:Ev K e ρ σ (.p m 0)) (ha:Ev K a ρ σ (.d (.int t))):(bm aH (key e 5 s) (clC a clN)).ev K ρ σ=some (.ok (.d .none),σ.set m (pk {p with ends:=p.ends++[t]})):=by
 have q:=bG (pG (s:=s) h he) ha (ib (j:=5) h rfl) (by rw[J'];exact cn hl);rw[jr h (p':={p with ends:=p.ends++[t]}) (by simp only [pfl,List.map_append];rfl)] at q;exact q
theorem AU {t:Int} (h:Rk σ m p) (hl:p.backs.length≤1000) (he:Ev K e ρ σ (.p m 0)) (ha:Ev K a ρ σ (.d (.int t))):(bm aH (key e 6 s) (clC a clN)).ev K ρ σ=some (.ok (.d .none),σ.set m (pk {p with backs:=p.backs++[t]})):=by
 have q:=bG (kY (s:=s) h he) ha (ib (j:=6) h rfl) (by rw[J'];exact cn hl);rw[jr h (p':={p with backs:=p.backs++[t]}) (by simp only [pfl,List.map_append];rfl)] at q;exact q
theorem gF {t:D} (h:Rk σ m p) (hl:p.deeds.length≤1000) (he:Ev K e ρ σ (.p m 0)) (ha:Ev K a ρ σ (.d t)):(bm aH (key e 7 s) (clC a clN)).ev K ρ σ=some (.ok (.d .none),σ.set m (pk {p with deeds:=p.deeds++[t]})):=by
 have q:=bG (Bb (s:=s) h he) ha (ib (j:=7) h rfl) (cn hl);rw[jr h (p':={p with deeds:=p.deeds++[t]}) rfl] at q;exact q
theorem fU (h:m<σ.length):Rk (σ.set m (pk p)) m p:=List.getElem?_set_self h
structure Both (σ:Sto) (m n:Nat) (p:Pl) (S:St):Prop where
 r:Rk σ m p
 b:Bk σ n S
 ne:m≠n
noncomputable def bb (σ:Sto) (m n:Nat) (p:Pl) (S:St):Sto:=(σ.set m (pk p)).set n (bk S)
theorem Both.to (h:Both σ m n p S) (p':Pl) (S':St):Both (Mine.Internal.bb σ m n p' S') m n p' S':=by
 refine ⟨?_,?_,h.ne⟩
 ·show ((σ.set m (pk p')).set n (bk S'))[m]? =_;rw[KL (Ne.symm h.ne)];exact fU h.r.lt
 ·exact dB (by rw[KG];exact h.b.lt)
theorem FZ {p1 p2:Pl} {S1 S2:St} (ne:m≠n):bb (bb σ m n p1 S1) m n p2 S2=bb σ m n p2 S2:=by
 unfold bb;rw[List.set_comm _ _ (Ne.symm ne),List.set_set,List.set_set]
theorem Both.same (h:Both σ m n p S):bb σ m n p S=σ:=by
 unfold bb;obtain ⟨hl,e⟩:=Kg.mp h.r;have:σ.set m (pk p)=σ:=by rw[←e];exact List.set_getElem_self hl
 rw[this];exact h.b.same
theorem Ee:(bb σ m n p S).length=σ.length:=by unfold bb;rw[KG,KG]
theorem jR:(bb σ m n p S).take σ.length=bb σ m n p S:=by
 have:=List.take_length (l:=bb σ m n p S);rw[Ee] at this;exact this
theorem BQ {l:List Int}:cR (-1) (l.length+1)=some l.length∧((D.int (-1))::l.map D.int)[l.length]? =some (.int (cl l)):=by
 constructor
 ·unfold cR;rw[if_neg (by decide),if_pos (Js)];congr 1;exact Jr
 ·unfold cl;cases l with
  |nil=>rfl
  |cons a l=>
   rw[if_neg (by rw[Kk];exact o79),Kk,List.getElem?_cons_succ,Ku,Nat.add_sub_cancel,Kw,Kh (by rw[Kk];exact Jq)];rfl
theorem c8 (h:Rk σ m p) (hl:p.ends.length≤900):CC (d+1) hd 70 [.p m 0] σ=some (.ok (.d (.int (cl p.ends))),σ):=by
 refine aO t70 rfl (ρ:=[qV m]) rfl (az (aq (aA (ax (dO (cl1 (uA rfl))) (pG h rfl) rfl (tc h) (zt (by rw[J'];show 1+_≤_;exact Km (KW hl 1) (Kj rfl)))) (uA rfl) rfl rfl ?_))) (tk _);have q:=BQ (l:=p.ends);have e:([D.int (-1)]++p.ends.map D.int).length=p.ends.length+1:=by rw[Kd,J'];show 1+_=_;exact Jp
 rw[zl,aB (by decide),Ka,e,q.1,Ka];exact q.2
theorem i8 {c:Int} (h:Rk σ m p) (hl:p.ends.length≤900) (h1: -1≤cl p.ends) (h2:cl p.ends<99999):∃ t,bc t∧cl p.ends<t∧∀ d σ,Rk σ m p→CC (d+2) false 71 [.p m 0,.d (.int c)] σ=some (.ok (.d (.int t)),σ):=by
 have q1:=aG (a:=c.fdiv 3) (b:=99999 - cl p.ends) (o80 h2);have q2:=aG (a:=c.fdiv 3) (b:=7) (by decide);by_cases z:c.fmod 3=0
 ·exact ⟨cl p.ends+1+(c.fdiv 3).fmod (99999 - cl p.ends),⟨by exact Int.add_nonneg (Int.add_le_add_right h1 1) q1.1,Jo q1⟩,Jn q1,fun d σ h=>aO t71 rfl (ρ:=[qV m,iV c,none]) rfl (aa (an (ak (cl1 rfl) (c8 h hl)) rfl) (az (bW (ai (ck rfl (by decide) (by decide)) rfl rfl rfl (fh z)) (az (aq (bB (bB rfl rfl) (ax (bw rfl (by decide) (by decide)) (ax rfl rfl rfl rfl rfl) rfl rfl (dL (o80 h2) (by exact KQ (Int.sub_le_sub_left h1 99999) (by decide)))))))))) (tk _)⟩
 ·exact ⟨min 99999 (cl p.ends+1+(c.fdiv 3).fmod 7),⟨by exact Int.le_min.mpr ⟨by decide,Int.add_nonneg (Int.add_le_add_right h1 1) q2.1⟩,Jm⟩,Jl h2 q2,fun d σ h=>aO t71 rfl (ρ:=[qV m,iV c,none]) rfl (aa (an (ak (cl1 rfl) (c8 h hl)) rfl) (aa (a_ (ai (ck rfl (by decide) (by decide)) rfl rfl rfl (ii z)) rfl) (az (aq (bx (clc rfl (cl1 (bB (bB rfl rfl) (ck (bw rfl (by decide) (by decide)) (by decide) (by decide))))) rfl))))) (tk _)⟩
theorem ip {c:Int}:∃ t,(1≤t∧t≤4*10^29)∧∀ d hd σ,CC (d+1) hd 76 [.d (.int c)] σ=some (.ok (.d (.int t)),σ):=by
 have q1:=aG (a:=c.fdiv 4) (b:=4*10^29) (by decide);have q2:=aG (a:=c.fdiv 4) (b:=500) (by decide);by_cases z:c.fmod 4=0
 ·exact ⟨1+(c.fdiv 4).fmod (4*10^29),⟨by exact K_ q1.1,Jk q1⟩,fun d hd σ=>aO t76 rfl rfl (az (aq (bB rfl (ax (bw rfl (by decide) (by decide)) (k_ (ai (ck rfl (by decide) (by decide)) rfl rfl rfl (fh z)) (ax rfl (ax rfl rfl rfl rfl (zq (a:=10) (b:=29) ⟨by decide,by decide⟩)) rfl rfl (dw (iK (by decide))))) rfl rfl (dL (b:=4*10^29) (by decide) (by decide)))))) (tk _)⟩
 ·exact ⟨1+(c.fdiv 4).fmod 500,⟨by exact K_ q2.1,by exact KO (Int.add_le_add_left (Lb q2.2) 1) (by decide)⟩,fun d hd σ=>aO t76 rfl rfl (az (aq (bB rfl (ax (bw rfl (by decide) (by decide)) (lc (ai (ck rfl (by decide) (by decide)) rfl rfl rfl (ii z)) rfl) rfl rfl (dL (b:=500) (by decide) (by decide)))))) (tk _)⟩
theorem iM (h:Rk σ m p) (hl:p.ents.length≤1000) (he:Ev K e ρ σ (.p m 0)):Ev K (bi fLen (clC (key e 3 s) clN)) ρ σ (.d (.int p.ents.length)):=by
 have q:=eM (jy (s:=s) h he) (jq h) (by rw[J'];exact hl);rw[J'] at q;exact q
theorem oX {t b:Int} {note:List Nat} {ls:List bj} (h:Rk σ m p) (hl:p.ents.length≤1000) (hs:ls.length≤1000):CC (d+1) false 73 [.p m 0,.d (.int t),.d (.str note),.d (.lst (ls.map lnD)),.d (.int b)] σ=some (.ok (.d (.int (p.ents.length+1))),σ.set m (pk {p with ents:=p.ents++[⟨p.ents.length+1,t,note,ls,b⟩]})):=by
 have tp:fTuple.g false [.d (.lst (ls.map lnD))] σ=some (.ok (.d (.tup (ls.map lnD))),σ):=by
  show (al ((ls.map lnD).length≤lim) (D.tup (ls.map lnD))).map _=_;rw[aB (by rw[J'];exact aQ hs)];rfl
 exact aO t73 rfl (ρ:=[qV m,iV t,sV note,dV (.lst (ls.map lnD)),iV b,none]) rfl (aa (an (bB (iM h hl rfl) rfl) rfl) (aa (au (Db (t:=⟨p.ents.length+1,t,note,ls,b⟩) h hl rfl (aP (clc rfl (clc rfl (clc rfl (clc (bx (cl1 rfl) tp) (cl1 rfl)))))))) (az (aq rfl)))) sK
end
structure EntOk (N:List (List Nat)) (e:Ent):Prop where
 l:∀ x∈e.lines,x.1∈N∧aX x.2.1=true∧cA x.2.2=true
 n:e.lines.length≤60
 z:∀ c,bA c e.lines=0
 t:fu e.note
 d:bc e.day
def Nos (l:List Ent):Prop:=l.map (·.no)=(List.range l.length).map fun i=>((i:Nat):Int)+1
theorem Nos.snoc {l:List Ent} {x:Ent} (h:Nos l) (hx:x.no=l.length+1):Nos (l++[x]):=by
 unfold Nos at*;rw[List.map_append,h,Kd,Kn,List.range_succ,List.map_append];show _++[x.no]=_++[_];rw[hx]
def Inc (l:List Int):Prop:=(-1::l).Pairwise (· <·)∧∀ x∈l,x≤99999
theorem Inc.cl {l:List Int} (h:Inc l):∀ x∈ -1::l,x≤cl l:=by
 rcases List.eq_nil_or_concat l with rfl|⟨r,y,rfl⟩
 ·intro x hx;rw[Ki.mp hx];exact Int.le_refl _
 ·rw[List.concat_eq_append] at h ⊢;intro x hx;have e:Mine.Internal.cl (r++[y])=y:=by
   unfold Mine.Internal.cl;rw[Kd,Kn,if_neg (o79),Nat.add_sub_cancel,Kw,KA (Ko _),Nat.sub_self];rfl
  rw[e];have h1:=h.1;rw[←List.cons_append,List.pairwise_append] at h1;rw[←List.cons_append] at hx;rcases Kv.mp hx with q|q
  ·exact Lb (h1.2.2 x q y (.head _))
  ·rw[Ki.mp q];exact Int.le_refl _
theorem Inc.snoc {l:List Int} {t:Int} (h:Inc l) (h1:Mine.Internal.cl l<t) (h2:t≤99999):Inc (l++[t]):=by
 refine ⟨?_,fun x hx=> ?_⟩
 ·rw[←List.cons_append,List.pairwise_append];exact ⟨h.1,List.pairwise_singleton _ _,fun a ha b hb=>by rw[Ki.mp hb];exact KQ (h.cl a ha) h1⟩
 ·rcases Kv.mp hx with q|q
  ·exact h.2 x q
  ·rw[Ki.mp q];exact h2
structure Gd (N:Nat) (p:Pl) (S:St):Prop where
 names:S.names=p.names
 nm:∃ T,p.names=cy::T∧Nms T∧1≤T.length
 nl:p.names.length≤7
 nd:p.curs.Nodup
 ic:∀ c∈p.curs,aX c=true
 c3:3≤p.curs.length
 c10:p.curs.length≤8
 home:p.curs[0]? =some S.home
 made:S.made=p.ents
 ends:S.ends=p.ends
 gone:S.gone=p.backs
 tell:∃ m,Tell S p.told m
 rw:∀ x∈p.told,uN x
 ent:∀ e∈p.ents,EntOk p.names e
 cl1: -1≤cl p.ends
 cl2:cl p.ends≤99999
 l1:p.ents.length≤N
 l2:p.told.length≤N
 l3:p.ends.length≤N
 l4:p.backs.length≤N
 l5:p.deeds.length≤N
 l6:S.deeds.length≤N
 cu:∀ e∈p.ents,∀ x∈e.lines,x.2.1∈p.curs
 nos:Nos p.ents
 inc:Inc p.ends
noncomputable abbrev St.w (S:St) (ns:List (List Nat)) (ds:List D):St:={S with names:=ns,deeds:=ds}
structure Gr (p p':Pl):Prop where
 e:∃ xs,p'.ents=p.ents++xs∧∀ x∈xs,cl p.ends<x.day
 t:∃ ys,p'.told=p.told++ys∧∀ y∈ys,cl p.ends<y.2.1
 k:∃ zs,p'.ends=p.ends++zs
 n:∃ ns,p'.names=p.names++ns
 x:p'.ex=p.ex
section
variable {p p' p'':Pl} {x:Ent} {y:Rw} {bs:List Int} {ds:List D}
theorem vn {α:Type} {q:α→Prop}:∀ x∈([]:List α),q x:=fun _ h=>absurd h Ky
theorem yx {α:Type} {q:α→Prop} {a:α} (h:q a):∀ x∈[a],q x:=fun x hx=>by rw[Ki.mp hx];exact h
theorem Gr.refl:Gr p p:=⟨⟨[],(List.append_nil _).symm,vn⟩,⟨[],(List.append_nil _).symm,vn⟩,⟨[],(List.append_nil _).symm⟩,⟨[],(List.append_nil _).symm⟩,rfl⟩
theorem Gr.ends {t:Int}:Gr p {p with ends:=p.ends++[t],deeds:=ds}:=have r:=Gr.refl (p:=p);⟨r.e,r.t,⟨_,rfl⟩,r.n,rfl⟩
theorem Gr.names {t:List Nat}:Gr p {p with names:=p.names++[t],deeds:=ds}:=have r:=Gr.refl (p:=p);⟨r.e,r.t,r.k,⟨_,rfl⟩,rfl⟩
theorem Gr.told (h:cl p.ends<y.2.1):Gr p {p with told:=p.told++[y],deeds:=ds}:=have r:=Gr.refl (p:=p);⟨r.e,⟨_,rfl,yx h⟩,r.k,r.n,rfl⟩
theorem Gr.ents (h:cl p.ends<x.day):Gr p {p with ents:=p.ents++[x],backs:=bs,deeds:=ds}:=have r:=Gr.refl (p:=p);⟨⟨_,rfl,yx h⟩,r.t,r.k,r.n,rfl⟩
theorem FR:∀ l:List Int,cl l∈ -1::l:=fun l=>by
 unfold cl;by_cases q:l.length=0
 ·rw[if_pos q];exact .head _
 ·rw[if_neg q,Kw,Kh (EZ q)];exact .tail _ (List.getElem_mem _)
theorem Gr.cl (h:Gr p p') (i:Inc p'.ends):Mine.Internal.cl p.ends≤Mine.Internal.cl p'.ends:=by
 obtain ⟨zs,e⟩:=h.k;refine i.cl _ ?_;rw[e,←List.cons_append];exact List.mem_append_left _ (FR _)
theorem Gr.trans (h:Gr p p') (k:Gr p' p'') (i:Mine.Internal.cl p.ends≤Mine.Internal.cl p'.ends):Gr p p'':=by
 obtain ⟨⟨a1,b1,c1⟩,⟨a2,b2,c2⟩,⟨a3,b3⟩,⟨a4,b4⟩,a5⟩:=h;obtain ⟨⟨d1,e1,f1⟩,⟨d2,e2,f2⟩,⟨d3,e3⟩,⟨d4,e4⟩,d5⟩:=k;refine ⟨⟨a1++d1,by rw[e1,b1,List.append_assoc],fun x hx=> ?_⟩,⟨a2++d2,by rw[e2,b2,List.append_assoc],fun x hx=> ?_⟩,⟨a3++d3,by rw[e3,b3,List.append_assoc]⟩,⟨a4++d4,by rw[e4,b4,List.append_assoc]⟩,d5.trans a5⟩
 ·exact (Kv.mp hx).elim (c1 x) fun q=>KQ i (f1 x q)
 ·exact (Kv.mp hx).elim (c2 x) fun q=>KQ i (f2 x q)
end
structure Ke (p p':Pl):Prop where
 c:p'.curs=p.curs
 m:p'.most=p.most
 e:p'.ents.length≤p.ents.length+1
 g:Gr p p'
section
variable {d m n i N:Nat} {hd:Bool} {p p':Pl} {S S':St} {K:Ker} {ρ:Rho} {σ σ':Sto} {e a:CE} {t:Int}
theorem gQ {o:CO} {a b:CE} {x y:PV} {u w:D} {q:Bool} (h1:a.ev K ρ σ=some (.ok x,σ')) (h2:Ev K b ρ σ' y) (r1:rd σ' x=some u) (r2:rd σ' y=some w) (h:o.g u w=some q):(cmp o a b).ev K ρ σ=some (.ok (.d (.bool q)),σ'):=av h1 (av h2 (av (mM h r1 r2) rfl))
theorem Gd.sh (g:Gd N p S) (hN:N≤900):Sh S:=by
 obtain ⟨mm,T⟩:=g.tell;have:=g.nl;have:=g.l1;have:=g.l2;have:=g.l3;have:=g.l4;have:=g.l6;exact ⟨by rw[g.names];exact o3 (by assumption),by rw[T.k,J'];have:=T.ml;exact o72 hN (by assumption) this,by rw[g.made];exact o24 hN (by assumption),by rw[g.gone];exact o24 hN (by assumption),by rw[g.ends];exact o24 hN (by assumption),o24 hN this⟩
theorem Gd.mono (g:Gd N p S) {M:Nat} (h:N≤M):Gd M p S:={g with l1:=Km g.l1 h,l2:=Km g.l2 h,l3:=Km g.l3 h,l4:=Km g.l4 h,l5:=Km g.l5 h,l6:=Km g.l6 h}
theorem Both.bm (h:Both σ m n p S):Bk (σ.set m (pk p')) n S:=by
 show (σ.set m (pk p'))[n]? =_;rw[KL h.ne];exact h.b
theorem bo {α:Type} {l:List α} {x:α} (h:l.length≤N):(l++[x]).length≤N+1:=by rw[Kd];exact Lc h
theorem pV {l:List Int} {x:Int}:cl (l++[x])=x:=by
 unfold cl;rw[Kd,Kn,if_neg (o79),Nat.add_sub_cancel,Kw,KA (Ko _),Nat.sub_self];rfl
theorem Tell.of {S S':St} {rs:List Rw} {mm:List (List Nat×D)} (T:Tell S rs mm) (h1:S'.tk=S.tk) (h2:S'.tv=S.tv):Tell S' rs mm:=⟨by rw[h1];exact T.k,by rw[h2];exact T.v,T.d,T.ml⟩
theorem qv {c:Int} (h:Both σ m n p S) (g:Gd N p S) (hN:N≤800) (ho:cl p.ends<99999):∃ p' S',Gd (N+1) p' S'∧Ke p p'∧(p'.ents=p.ents∧∃ t,p'.ends=p.ends++[t])∧CC (d+4) false 72 [.p n 0,.p m 0,.d (.int c)] σ=some (.ok (.d (.bool true)),bb σ m n p' S'):=by
 obtain ⟨t,h1,h2,dr⟩:=i8 (c:=c) h.r (o1 hN g.l3) g.cl1 ho;have sh:=g.sh (o6 hN);refine ⟨{p with ends:=p.ends++[t],deeds:=p.deeds++[eQ t]},vW S t,?_,⟨rfl,rfl,KZ _,.ends⟩,⟨rfl,t,rfl⟩,?_⟩
 ·exact {names:=g.names,nm:=g.nm,nl:=g.nl,nd:=g.nd,ic:=g.ic,c3:=g.c3,c10:=g.c10,home:=g.home,made:=g.made,ends:=by show S.ends++[t]=p.ends++[t];rw[g.ends],gone:=g.gone,tell:=⟨g.tell.choose,g.tell.choose_spec.of rfl rfl⟩,rw:=g.rw,ent:=g.ent,cl1:=by show -1≤cl (p.ends++[t]);rw[pV];have:=h1.1;exact Lb this,cl2:=by show cl (p.ends++[t])≤99999;rw[pV];exact h1.2,l1:=KH g.l1,l2:=KH g.l2,l3:=bo g.l3,l4:=KH g.l4,l5:=bo g.l5,l6:=bo g.l6,cu:=g.cu,nos:=g.nos,inc:=g.inc.snoc h2 h1.2}
 ·have a1:=Dc (K:=KK (d+3) false) (ρ:=[qV n,qV m,iV c,iV t]) (e:=loc 1) (a:=loc 3) (s:=Ln) (t:=t) h.r (o0 hN g.l3) rfl rfl;have r1:Rk (σ.set m (pk {p with ends:=p.ends++[t]})) m {p with ends:=p.ends++[t]}:=fU h.r.lt;have a2:=gF (K:=KK (d+3) false) (ρ:=[qV n,qV m,iV c,iV t]) (e:=loc 1) (a:=tup (clC (aU [99,108,111,115,101]) (clC (loc 3) clN))) (s:=Lm) (t:=eQ t) r1 (by have:=g.l5;show p.deeds.length≤_;exact o0 hN this) rfl (aP rfl);rw[List.set_set] at a2;have b2:Bk (σ.set m (pk {p with ends:=p.ends++[t],deeds:=p.deeds++[eQ t]})) n S:=h.bm;have cr:=zT (d:=d) b2 sh h1 (by rw[g.ends];exact h2) (by rw[g.ends];have:=g.l3;exact o1 hN this);have r3:Rk (bb σ m n {p with ends:=p.ends++[t],deeds:=p.deeds++[eQ t]} (vW S t)) m {p with ends:=p.ends++[t],deeds:=p.deeds++[eQ t]}:=(h.to _ _).r;have ln:Ev (KK (d+3) false) (bi fLen (clC (key (loc 1) 5 Ln) clN)) [qV n,qV m,iV c,iV t] (bb σ m n {p with ends:=p.ends++[t],deeds:=p.deeds++[eQ t]} (vW S t)) (.d (.int (S.ends.length+1))):=by
   have q:=eM (K:=KK (d+3) false) (ρ:=[qV n,qV m,iV c,iV t]) (pG (e:=loc 1) (s:=Ln) r3 rfl) (tc r3) (by rw[J'];show (p.ends++[t]).length≤_;rw[Kd,Kn];have:=g.l3;exact KE this (KE hN (Kj rfl)));rw[J'] at q;rw[g.ends];have e:(((p.ends++[t]).length:Nat):Int)=(p.ends.length:Int)+1:=by rw[Kd,Kn];rfl
   rw[←e];exact q
  exact aO t72 rfl (ρ:=[qV n,qV m,iV c,none]) rfl (aa (an (ak (clc rfl (cl1 rfl)) (dr (d+1) _ h.r)) rfl) (aa (au a1) (aa (au a2) (az (aq (gQ (bq b2 rfl (cl1 rfl) cr) ln rfl rfl (fh rfl))))))) jR
theorem tY {c:Int} (h:Both σ m n p S) (g:Gd N p S) (hN:N≤800):∃ p' S',Gd (N+1) p' S'∧Ke p p'∧CC (d+3) false 79 [.p n 0,.p m 0,.d (.int c)] σ=some (.ok (.d (.bool true)),bb σ m n p' S'):=by
 obtain ⟨t,ht,hf,nr⟩:=iJ (d:=d+1) (σ:=σ) (n:=c);have sh:=g.sh (o6 hN);have ln:Ev (KK (d+2) false) (bi fLen (clC (key (loc 1) 0 Lj) clN)) [qV n,qV m,iV c,sV t] σ (.d (.int p.names.length)):=by
  have q:=eM (K:=KK (d+2) false) (ρ:=[qV n,qV m,iV c,sV t]) (cJ (e:=loc 1) (s:=Lj) h.r rfl) (cI h.r) (by rw[J'];have:=g.nl;exact o3 this);rw[J'] at q;exact q
 by_cases z1:t∈p.names
 ·refine ⟨p,S,g.mono (KZ _),⟨rfl,rfl,KZ _,.refl⟩,?_⟩;rw[h.same];exact aO t79 rfl (ρ:=[qV n,qV m,iV c,none]) rfl (aa (an (ak (cl1 rfl) nr) rfl) (az (bW (bE (f_ (ai rfl (cJ h.r rfl) rfl (cI h.r) (FI z1)))) (az (aq rfl))))) (tk _)
 by_cases z2:(6:Int)<p.names.length
 ·refine ⟨p,S,g.mono (KZ _),⟨rfl,rfl,KZ _,.refl⟩,?_⟩;rw[h.same];exact aO t79 rfl (ρ:=[qV n,qV m,iV c,none]) rfl (aa (an (ak (cl1 rfl) nr) rfl) (az (bW (bE (bI (ai rfl (cJ h.r rfl) rfl (cI h.r) (Bj z1)) (f_ (ai ln rfl rfl rfl (zi z2))))) (az (aq rfl))))) (tk _)
 refine ⟨{p with names:=p.names++[t],deeds:=p.deeds++[ng t]},qe S t,?_,⟨rfl,rfl,KZ _,.names⟩,?_⟩
 ·obtain ⟨T,e1,e2,e3⟩:=g.nm;refine {names:=by show S.names++[t]=p.names++[t];rw[g.names],nm:=⟨T++[t],by show p.names++[t]=_;rw[e1];rfl,⟨?_,?_,fun x hx=> ?_,fun q=> ?_⟩,by rw[Kd];exact Nat.le_add_right_of_le e3⟩,nl:=by show (p.names++[t]).length≤7;rw[Kd,Kn];exact Lc (KS.mp (Lg.mp z2)),nd:=g.nd,ic:=g.ic,c3:=g.c3,c10:=g.c10,home:=g.home,made:=g.made,ends:=g.ends,gone:=g.gone,tell:=⟨g.tell.choose,g.tell.choose_spec.of rfl rfl⟩,rw:=g.rw,ent:=fun e he=> ?_,cl1:=g.cl1,cl2:=g.cl2,l1:=KH g.l1,l2:=KH g.l2,l3:=KH g.l3,l4:=KH g.l4,l5:=bo g.l5,l6:=bo g.l6,cu:=g.cu,nos:=g.nos,inc:=g.inc}
  ·exact List.nodup_append.mpr ⟨e2.nd,K0.mpr ⟨Ky,K3⟩,fun a ha c hc=>by rw[Ki.mp hc];rintro rfl;exact z1 (by rw[e1];exact .tail _ ha)⟩
  ·intro q;rcases Kv.mp q with q|q
   ·exact e2.ne q
   ·exact z1 (by rw[←Ki.mp q,e1];exact .head _)
  ·rcases Kv.mp hx with q|q
   ·exact e2.nm x q
   ·rw[Ki.mp q];exact ht
  ·rcases Kv.mp q with q|q
   ·exact e2.st q
   ·exact uz hf (Ki.mp q).symm
  ·have q:=g.ent e he;exact ⟨fun x hx=>⟨List.mem_append_left _ (q.l x hx).1,(q.l x hx).2⟩,q.n,q.z,q.t,q.d⟩
 ·have a1:=AT (K:=KK (d+2) false) (ρ:=[qV n,qV m,iV c,sV t]) (e:=loc 1) (a:=loc 3) (s:=Lj) (t:=t) h.r (by have:=g.nl;exact Km (KS.mp (Lg.mp z2)) (by decide)) rfl rfl;have r1:Rk (σ.set m (pk {p with names:=p.names++[t]})) m {p with names:=p.names++[t]}:=fU h.r.lt;have a2:=gF (K:=KK (d+2) false) (ρ:=[qV n,qV m,iV c,sV t]) (e:=loc 1) (a:=tup (clC (aU [97,99,99,111,117,110,116]) (clC (loc 3) clN))) (s:=Lm) (t:=ng t) r1 (by have:=g.l5;show p.deeds.length≤_;exact o0 hN this) rfl (aP rfl);rw[List.set_set] at a2;have b2:Bk (σ.set m (pk {p with names:=p.names++[t],deeds:=p.deeds++[ng t]})) n S:=h.bm;have ar:=nf (d:=d) b2 sh ht (by rw[g.names];exact z1);exact aO t79 rfl (ρ:=[qV n,qV m,iV c,none]) rfl (aa (an (ak (cl1 rfl) nr) rfl) (aa (a_ (bE (bI (ai rfl (cJ h.r rfl) rfl (cI h.r) (Bj z1)) (bI (ai ln rfl rfl rfl (kA z2)) rfl))) rfl) (aa (au a1) (aa (au a2) (az (aq (gQ (bq b2 rfl (cl1 rfl) ar) rfl rfl rfl rfl))))))) jR
end
section
variable {d m n i N:Nat} {hd:Bool} {p p':Pl} {S S':St} {K:Ker} {ρ:Rho} {σ σ':Sto} {e a:CE} {t:Int} {s:List Nat}
theorem mj (h:Rk σ m p) (hl:p.curs.length≤1000) (he:Ev K e ρ σ (.p m 0)):Ev K (bi fLen (clC (key e 2 s) clN)) ρ σ (.d (.int p.curs.length)):=len_str (h_ h he) hl
theorem jx (h:Rk σ m p) (hl:p.names.length≤1000) (he:Ev K e ρ σ (.p m 0)):Ev K (bi fLen (clC (key e 0 s) clN)) ρ σ (.d (.int p.names.length)):=by
 have q:=eM (cJ (s:=s) h he) (cI h) (by rw[J'];exact hl);rw[J'] at q;exact q
theorem vA {c k:Int} {ns:List (List Nat)} {ds:List D} (h:Both σ m n p (S.w ns ds)) (g:Gd N p S) (sh:Sh (S.w ns ds)) (hN:N≤800) (ho:cl p.ends<99999):∃ p' S' r,Gd (N+1) p' S'∧Ke p p'∧S'.names=S.names∧S'.deeds=S.deeds++[r]∧CC (d+4) false 78 [.p n 0,.p m 0,.d (.int c),.d (.int k)] σ=some (.ok (.d (.bool true)),bb σ m n p' (S'.w ns (ds++[r]))):=by
 refine aK fun G9 k9=> ?_;obtain ⟨t,h1,h2,dr⟩:=i8 (c:=c) h.r (o1 hN g.l3) g.cl1 ho;refine k9 ?_;have c3:=g.c3;have c10:=g.c10;have q:=aG (a:=k) (b:=p.curs.length - 1) (o25 c3);have hk:1+(k.fmod (p.curs.length - 1)).toNat<p.curs.length:=Jj q;generalize hu:p.curs[1+(k.fmod (p.curs.length - 1)).toNat]=u;have um:u∈p.curs:=hu ▸ List.getElem_mem hk;have un:u≠S.home:=fun z=>by
  have h0:=g.home;obtain ⟨l0,e0⟩:=Kg.mp h0;have:=(List.getElem_inj g.nd (h₀:=l0) (h₁:=hk)).mp (by rw[e0,hu,z]);exact Ji this
 have e5:Ev (KK (d+3) false) (sub (key (loc 1) 2 Ll) (bin oAdd (ah 1) (bin oMod (loc 3) (bin cD (bi fLen (clC (key (loc 1) 2 Ll) clN)) (ah 1))))) [qV n,qV m,iV c,iV k,iV t,none,none] σ (.d (.str u)):=by
  refine aA (h_ h.r rfl) (bB rfl (ax rfl (ax (mj h.r (o11 c10) rfl) rfl rfl rfl rfl) rfl rfl (dL (o25 c3) (o81 c10)))) rfl rfl ?_;rw[show (1:Int)+k.fmod (p.curs.length - 1)=((1+(k.fmod (p.curs.length - 1)).toNat:Nat):Int) by exact Jh q];exact ba (by rw[Ku,Kh hk,hu];rfl) (by exact Km (KU hk) (Km c10 (by decide)))
 have f1:=aG (a:=k.fdiv 2) (b:=10^9) (by decide);have f2:=aG (a:=c.fdiv 7) (b:=10^9) (by decide);have f3:=aG (a:=k.fdiv 2) (b:=40) (by decide);have f4:=aG (a:=c.fdiv 7) (b:=40) (by decide);refine aK fun G9 k9=> ?_;obtain ⟨x,y,hx,hy,s4⟩:∃ x y,(1≤x∧x≤10^9)∧(1≤y∧y≤10^9)∧lw_tell_s4.ex (KK (d+3) false) [qV n,qV m,iV c,iV k,iV t,sV u,dV (rwD (u,t,1+(k.fdiv 2).fmod (10^9),1+(c.fdiv 7).fmod (10^9)))] σ=some (.next [qV n,qV m,iV c,iV k,iV t,sV u,dV (rwD (u,t,x,y))],σ):=by
  by_cases z:0<(k.fdiv 3).fmod 3
  ·exact ⟨1+(k.fdiv 2).fmod 40,1+(c.fdiv 7).fmod 40,o82 f3,o82 f4,bW (ai (ck (bw rfl (by decide) (by decide)) (by decide) (by decide)) rfl rfl rfl (zi z)) (aa (an (aP (clc (aL 0 rfl rfl) (clc rfl (clc (bB rfl (ck (bw rfl (by decide) (by decide)) (by decide) (by decide))) (cl1 (bB rfl (ck (bw rfl (by decide) (by decide)) (by decide) (by decide)))))))) rfl) rfl)⟩
  ·exact ⟨_,_,o83 f1,o83 f2,a_ (ai (ck (bw rfl (by decide) (by decide)) (by decide) (by decide)) rfl rfl rfl (kA z)) rfl⟩
 obtain ⟨mm,T⟩:=g.tell;obtain ⟨ks,vs,m',T',run⟩:=xz (S:=S.w ns ds) (T.of rfl rfl) sh (g.ic u um) h1 (by show cl S.ends<t;rw[g.ends];exact h2) un hx hy (o1 hN g.l2);refine k9 ?_;refine ⟨{p with told:=p.told++[(u,t,x,y)],deeds:=p.deeds++[qG u t x y]},told S u t x y ks vs,qG u t x y,?_,⟨rfl,rfl,KZ _,.told h2⟩,rfl,rfl,?_⟩
 ·have rw':∀ x'∈p.told++[(u,t,x,y)],uN x':=fun z hz=>by
   rcases Kv.mp hz with hz|hz
   ·exact g.rw z hz
   ·rw[Ki.mp hz];exact ⟨hx,hy⟩
  exact {names:=g.names,nm:=g.nm,nl:=g.nl,nd:=g.nd,ic:=g.ic,c3:=g.c3,c10:=g.c10,home:=g.home,made:=g.made,ends:=g.ends,gone:=g.gone,tell:=⟨m',T'.of rfl rfl⟩,rw:=rw',ent:=g.ent,cl1:=g.cl1,cl2:=g.cl2,l1:=KH g.l1,l2:=bo g.l2,l3:=KH g.l3,l4:=KH g.l4,l5:=bo g.l5,l6:=bo g.l6,cu:=g.cu,nos:=g.nos,inc:=g.inc}
 ·have a1:=Da (K:=KK (d+3) false) (ρ:=[qV n,qV m,iV c,iV k,iV t,sV u,dV (rwD (u,t,x,y))]) (e:=loc 1) (a:=loc 6) (s:=Lp) (t:=(u,t,x,y)) h.r (o0 hN g.l2) rfl rfl;have r1:Rk (σ.set m (pk {p with told:=p.told++[(u,t,x,y)]})) m {p with told:=p.told++[(u,t,x,y)]}:=fU h.r.lt;have a2:=gF (K:=KK (d+3) false) (ρ:=[qV n,qV m,iV c,iV k,iV t,sV u,dV (rwD (u,t,x,y))]) (e:=loc 1) (a:=tup (clC (aU [114,97,116,101]) (clC (sub (loc 6) (ah 0)) (clC (loc 4) (clC (sub (loc 6) (ah 2)) (clC (sub (loc 6) (ah 3)) clN)))))) (s:=Lm) (t:=qG u t x y) r1 (by have:=g.l5;show p.deeds.length≤_;exact o0 hN this) rfl (aP (clc rfl (clc (aL 0 rfl rfl) (clc rfl (clc (aL 2 rfl rfl) (cl1 (aL 3 rfl rfl)))))));rw[List.set_set] at a2;have b2:Bk (σ.set m (pk {p with told:=p.told++[(u,t,x,y)],deeds:=p.deeds++[qG u t x y]})) n (S.w ns ds):=h.bm;have tr:=run d _ n b2;exact aO t78 rfl (ρ:=[qV n,qV m,iV c,iV k,none,none,none]) rfl (aa (an (ak (clc rfl (cl1 rfl)) (dr (d+1) _ h.r)) rfl) (aa (an e5 rfl) (aa (an (aP (clc rfl (clc rfl (clc (bB rfl (ax (bw rfl (by decide) (by decide)) p9 rfl rfl (dL (by decide) (by decide)))) (cl1 (bB rfl (ax (bw rfl (by decide) (by decide)) p9 rfl rfl (dL (by decide) (by decide))))))))) rfl) (aa s4 (aa (au a1) (aa (au a2) (az (aq (gQ (bq b2 rfl (clc (aL 0 rfl rfl) (clc rfl (clc (aL 2 rfl rfl) (cl1 (aL 3 rfl rfl))))) tr) rfl rfl rfl rfl))))))))) jR
theorem wS {c k:Int} (h:Both σ m n p S) (g:Gd N p S) (hN:N≤800) (ho:cl p.ends<99999):∃ p' S',Gd (N+1) p' S'∧Ke p p'∧CC (d+4) false 78 [.p n 0,.p m 0,.d (.int c),.d (.int k)] σ=some (.ok (.d (.bool true)),bb σ m n p' S'):=by
 refine aK fun G9 k9=> ?_;obtain ⟨p',S',r,g',ke,e1,e2,e⟩:=vA (d:=d) (c:=c) (k:=k) (S:=S) (ns:=S.names) (ds:=S.deeds) h g (g.sh (o6 hN)) hN ho;refine k9 ?_;rw[←e1,←e2] at e;exact ⟨p',S',g',ke,e⟩
theorem mL {c:List Nat}:∀ ls:List bj,bA c (ls.map dN)= - bA c ls
 |[]=>rfl
 |l::ls=>by
  have ih:=mL (c:=c) ls;unfold bA at ih ⊢;rw[List.map_cons];by_cases q:l.2.1=c
  ·rw[KM (p:=fun l:bj=>decide (l.2.1=c)) (a:=dN l) (Kr q),KM (p:=fun l:bj=>decide (l.2.1=c)) (Kr q),List.map_cons,List.map_cons,List.sum_cons,List.sum_cons,ih,Int.neg_add];rfl
  ·rw[List.filter_cons_of_neg (p:=fun l:bj=>decide (l.2.1=c)) (a:=dN l) (by rw[decide_eq_true_eq];exact q),List.filter_cons_of_neg (p:=fun l:bj=>decide (l.2.1=c)) (by rw[decide_eq_true_eq];exact q),ih]
theorem qd {a:Int} (h:cA a=true):cA (-a)=true:=by
 unfold cA at h ⊢;have h1:=KX (ag h);have h2:=KX (ag (aj h));have h3:=KX (aj (aj h));rw[Kr (show -a≠0 by exact Int.neg_ne_zero.mpr h1),Kr (show -(10^30)< -a by exact Int.neg_lt_neg h3),Kr (show -a<10^30 by exact Int.neg_lt_of_neg_lt h2)];rfl
theorem int_mem {a:Int} {ns:List Int}:D.int a∈ns.map D.int↔a∈ns:=by
 constructor
 ·intro h;obtain ⟨b,hb,e⟩:=Kt.mp h;cases e;exact hb
 ·exact fun h=>List.mem_map_of_mem h
theorem inL_int {a:Int} {ns:List Int}:inL (.int a) (.lst (ns.map .int))=some (@decide (D.int a∈ns.map D.int) (Classical.propDecidable _)):=by
 have h:(pl 8 (.int a)&&(ns.map D.int).all (pl 8))=true:=Bool.and_eq_true_iff.mpr ⟨rfl,List.all_eq_true.mpr fun x hx=>by
  obtain ⟨b,_,e⟩:=Kt.mp hx;rw[←e];rfl⟩
 unfold inL;show al _ _=_;unfold al;rw[if_pos h];congr
theorem FH {a:Int} {ns:List Int} (h:a∈ns):cIn.g (.int a) (.lst (ns.map .int))=some true:=inL_int.trans (congrArg some (@Kr _ (_) (int_mem.mpr h)))
theorem Cn {a:Int} {ns:List Int} (h:a∉ns):cIn.g (.int a) (.lst (ns.map .int))=some false:=inL_int.trans (congrArg some (@K7 _ (_) fun q=>h (int_mem.mp q)))
theorem EG (e:Ent):pl 7 (enD e)=true:=by
 have:(e.lines.map lnD).all (pl 5)=true:=List.all_eq_true.mpr fun x hx=>by
  obtain ⟨l,_,q⟩:=Kt.mp hx;rw[←q];rfl
 show (true&&(true&&(true&&((e.lines.map lnD).all (pl 5)&&(true&&true)))))=true;rw[this];rfl
theorem C_ (l:List Ent):pl 8 (.lst (l.map enD))=true:=List.all_eq_true.mpr fun x hx=>by
 obtain ⟨y,_,e⟩:=Kt.mp hx;rw[←e];exact EG y
theorem zH {l:List Ent} (h:l≠[]):cEq.g (.lst (l.map enD)) (.lst [])=some false:=Cr (fun z=>h (by injection z with z;exact List.map_eq_nil_iff.mp z)) (C_ l) rfl rfl
theorem nB {c k:Int} (h:Both σ m n p S) (g:Gd N p S) (hN:N≤800) (ho:cl p.ends<99999):∃ p' S',Gd (N+1) p' S'∧Ke p p'∧CC (d+4) false 74 [.p n 0,.p m 0,.d (.int c),.d (.int k)] σ=some (.ok (.d (.bool true)),bb σ m n p' S'):=by
 have sh:=g.sh (o6 hN);have el:=g.l1;have le:∀ x4,Ev (KK (d+3) false) (bi fLen (clC (key (loc 1) 3 Lk) clN)) [qV n,qV m,iV c,iV k,x4,none,none,none,none,none] σ (.d (.int p.ents.length)):=fun x4=>iM h.r (o0 hN el) rfl;by_cases z0:p.ents=[]
 ·refine ⟨p,S,g.mono (KZ _),⟨rfl,rfl,KZ _,.refl⟩,?_⟩;rw[h.same];have e4:Ev (KK (d+3) false) (bin oAdd (ah 1) (bin oMod (loc 3) (bi vP (clC (ah 1) (clC (bi fLen (clC (key (loc 1) 3 Lk) clN)) clN))))) [qV n,qV m,iV c,iV k,none,none,none,none,none,none] σ (.d (.int (1+k.fmod (max 1 p.ents.length)))):=bB rfl (ax rfl (bx (clc rfl (cl1 (le none))) rfl) rfl rfl (dL (o84) (o85 hN el)));exact aO t74 rfl (ρ:=[qV n,qV m,iV c,iV k,none,none,none,none,none,none]) rfl (aa (an e4 rfl) (az (bW (bE (f_ (ai (jy h.r rfl) (dO rfl) (jq h.r) rfl (by rw[z0];exact vV rfl rfl rfl)))) (az (aq rfl))))) (tk _)
 have ep:0<p.ents.length:=List.length_pos_iff.mpr z0;have q:=aG (a:=k) (b:=p.ents.length) (o26 ep);have hk:(k.fmod p.ents.length).toNat<p.ents.length:=o18 q;generalize hj:(k.fmod p.ents.length).toNat=j at hk;have kj:(1:Int)+k.fmod (max 1 p.ents.length)=(j:Int)+1:=by
  rw[show max (1:Int) p.ents.length=p.ents.length by exact Int.max_eq_right (KS.mpr ep)];exact Jg q hj
 have e4:Ev (KK (d+3) false) (bin oAdd (ah 1) (bin oMod (loc 3) (bi vP (clC (ah 1) (clC (bi fLen (clC (key (loc 1) 3 Lk) clN)) clN))))) [qV n,qV m,iV c,iV k,none,none,none,none,none,none] σ (.d (.int (j+1))):=by
  have e:=bB (K:=KK (d+3) false) (ρ:=[qV n,qV m,iV c,iV k,none,none,none,none,none,none]) (σ:=σ) (a:=ah 1) (x:=1) (b:=bin oMod (loc 3) (bi vP (clC (ah 1) (clC (bi fLen (clC (key (loc 1) 3 Lk) clN)) clN)))) (y:=k.fmod (max 1 p.ents.length)) rfl (ax rfl (bx (clc rfl (cl1 (le none))) rfl) rfl rfl (dL (o84) (o85 hN el)));rw[kj] at e;exact e
 have ej:p.ents[j]? =some p.ents[j]:=Kh hk;generalize p.ents[j]=E at ej;have Em:E∈p.ents:=KJ ej;have eE:∀ x5 x6 x7 x8,Ev (KK (d+3) false) (sub (key (loc 1) 3 Lk) (bin cD (loc 4) (ah 1))) [qV n,qV m,iV c,iV k,iV (j+1),x5,x6,x7,x8,none] σ (.d (enD E)):=fun x5 x6 x7 x8=>by
  refine aA (jy h.r rfl) (ax rfl rfl rfl rfl rfl) (jq h.r) rfl (w:=.int ((j:Int)+1 - 1)) ?_;rw[Int.add_sub_cancel];exact ba (by rw[Ku,ej];rfl) (by exact Km (KU hk) (Km el (Km hN (by decide))))
 have ne:Ts (KK (d+3) false) (aJ cEq (key (loc 1) 3 Lk) (lst clN)) [qV n,qV m,iV c,iV k,iV (j+1),none,none,none,none,none] σ false:=ai (jy h.r rfl) (dO rfl) (jq h.r) rfl (zH z0);by_cases z1:((j:Int)+1)∈p.backs
 ·refine ⟨p,S,g.mono (KZ _),⟨rfl,rfl,KZ _,.refl⟩,?_⟩;rw[h.same];exact aO t74 rfl (ρ:=[qV n,qV m,iV c,iV k,none,none,none,none,none,none]) rfl (aa (an e4 rfl) (az (bW (bE (bI ne (f_ (ai rfl (kY h.r rfl) rfl (oW h.r) (FH z1))))) (az (aq rfl))))) (tk _)
 by_cases z2:E.back=0
 case neg=>
  refine ⟨p,S,g.mono (KZ _),⟨rfl,rfl,KZ _,.refl⟩,?_⟩;rw[h.same];exact aO t74 rfl (ρ:=[qV n,qV m,iV c,iV k,none,none,none,none,none,none]) rfl (aa (an e4 rfl) (az (bW (bE (bI ne (bI (ai rfl (kY h.r rfl) rfl (oW h.r) (Cn z1)) (f_ (ai (aA (eE _ _ _ _) rfl rfl rfl (ci (k:=4) rfl)) rfl rfl rfl (pc z2)))))) (az (aq rfl))))) (tk _)
 refine aK fun G9 k9=> ?_;obtain ⟨t,h1,h2,dr⟩:=i8 (c:=c) h.r (o1 hN g.l3) g.cl1 ho;refine k9 ?_;have Eo:=g.ent E Em;have E6:=Eo.n;refine ⟨{p with ents:=p.ents++[⟨p.ents.length+1,t,E.note,E.lines.map dN,j+1⟩],backs:=p.backs++[(j:Int)+1],deeds:=p.deeds++[mX (j+1) t]},Ag S j E t,?_,⟨rfl,rfl,K5 Kd,.ents h2⟩,?_⟩
 ·have en:∀ e∈p.ents++[⟨p.ents.length+1,t,E.note,E.lines.map dN,j+1⟩],EntOk p.names e:=fun e he=>by
   rcases Kv.mp he with he|he
   ·exact g.ent e he
   ·rw[Ki.mp he];refine ⟨fun x hx=> ?_,by show (E.lines.map dN).length≤60;rw[J'];exact E6,fun c=>by show bA c (E.lines.map dN)=0;rw[mL,Eo.z];rfl,Eo.t,h1⟩;obtain ⟨y,hy,rfl⟩:=Kt.mp hx;have:=Eo.l y hy;exact ⟨this.1,this.2.1,qd this.2.2⟩
  have cu:∀ e∈p.ents++[⟨p.ents.length+1,t,E.note,E.lines.map dN,j+1⟩],∀ x∈e.lines,x.2.1∈p.curs:=fun e he x hx=>by
   rcases Kv.mp he with he|he
   ·exact g.cu e he x hx
   ·rw[Ki.mp he] at hx;obtain ⟨y,hy,rfl⟩:=Kt.mp hx;exact g.cu E Em y hy
  exact {names:=g.names,nm:=g.nm,nl:=g.nl,nd:=g.nd,ic:=g.ic,c3:=g.c3,c10:=g.c10,home:=g.home,made:=by show S.made++[⟨S.made.length+1,t,E.note,E.lines.map dN,j+1⟩]=_;rw[g.made],ends:=g.ends,gone:=by show S.gone++[(j:Int)+1]=_;rw[g.gone],tell:=⟨g.tell.choose,g.tell.choose_spec.of rfl rfl⟩,rw:=g.rw,ent:=en,cl1:=g.cl1,cl2:=g.cl2,l1:=bo g.l1,l2:=KH g.l2,l3:=KH g.l3,l4:=bo g.l4,l5:=bo g.l5,l6:=bo g.l6,cu:=cu,nos:=g.nos.snoc rfl,inc:=g.inc}
 ·have cm:lw_contrary_s5.ex (KK (d+3) false) [qV n,qV m,iV c,iV k,iV (j+1),dV (enD E),iV t,none,none,none] σ=some (.next [qV n,qV m,iV c,iV k,iV (j+1),dV (enD E),iV t,dV (.lst ((E.lines.map dN).map lnD)),none,none],σ):=by
   refine dY (de (aL 3 rfl rfl) (cp rfl) (cW lnD (fun l=>.tup [.str l.1,.str l.2.1,.int (0 - l.2.2)]) E.lines [] (fun l hl=>aP (clc (aL 0 rfl rfl) (clc (aL 1 rfl rfl) (cl1 (ax rfl (aL 2 rfl rfl) rfl rfl rfl))))) (by rw[K6];exact Jf E6)) rfl) ?_;rw[List.nil_append,List.map_map];have:(E.lines.map fun l=>D.tup [.str l.1,.str l.2.1,.int (0 - l.2.2)])=E.lines.map (lnD ∘ dN):=List.map_congr_left fun l _=>by rw[Int.zero_sub];rfl
   rw[this];rfl
  have pr:=oX (d:=d+2) (t:=t) (b:=j+1) (note:=E.note) (ls:=E.lines.map dN) h.r (o0 hN el) (by rw[J'];exact o12 E6);have r1:Rk (σ.set m (pk {p with ents:=p.ents++[⟨p.ents.length+1,t,E.note,E.lines.map dN,j+1⟩]})) m {p with ents:=p.ents++[⟨p.ents.length+1,t,E.note,E.lines.map dN,j+1⟩]}:=fU h.r.lt;have a1:=AU (K:=KK (d+3) false) (ρ:=[qV n,qV m,iV c,iV k,iV (j+1),dV (enD E),iV t,dV (.lst ((E.lines.map dN).map lnD)),iV (p.ents.length+1),none]) (e:=loc 1) (a:=loc 4) (s:=Lq) (t:=(j:Int)+1) r1 (by have:=g.l4;show p.backs.length≤_;exact o0 hN this) rfl rfl;rw[List.set_set] at a1;have r2:Rk (σ.set m (pk {p with ents:=p.ents++[⟨p.ents.length+1,t,E.note,E.lines.map dN,j+1⟩],backs:=p.backs++[(j:Int)+1]})) m {p with ents:=p.ents++[⟨p.ents.length+1,t,E.note,E.lines.map dN,j+1⟩],backs:=p.backs++[(j:Int)+1]}:=fU h.r.lt;have a2:=gF (K:=KK (d+3) false) (ρ:=[qV n,qV m,iV c,iV k,iV (j+1),dV (enD E),iV t,dV (.lst ((E.lines.map dN).map lnD)),iV (p.ents.length+1),none]) (e:=loc 1) (a:=tup (clC (aU [98,97,99,107]) (clC (loc 4) (clC (loc 6) clN)))) (s:=Lm) (t:=mX (j+1) t) r2 (by have:=g.l5;show p.deeds.length≤_;exact o0 hN this) rfl (aP rfl);rw[List.set_set] at a2;have b2:Bk (σ.set m (pk {p with ents:=p.ents++[⟨p.ents.length+1,t,E.note,E.lines.map dN,j+1⟩],backs:=p.backs++[(j:Int)+1],deeds:=p.deeds++[mX (j+1) t]})) n S:=h.bm;have cr:=sj (d:=d) (k:=j) (e:=E) b2 sh (by rw[g.made];exact ej) z2 (o12 E6) (by rw[g.gone];exact z1) h1 (by rw[g.ends];exact h2);exact aO t74 rfl (ρ:=[qV n,qV m,iV c,iV k,none,none,none,none,none,none]) rfl (aa (an e4 rfl) (aa (a_ (bE (bI ne (bI (ai rfl (kY h.r rfl) rfl (oW h.r) (Cn z1)) (bI (ai (aA (eE _ _ _ _) rfl rfl rfl (ci (k:=4) rfl)) rfl rfl rfl (nn z2)) rfl)))) rfl) (aa (an (eE _ _ _ _) rfl) (aa (an (ak (clc rfl (cl1 rfl)) (dr (d+1) _ h.r)) rfl) (aa cm (aa (an (ak (clc rfl (clc rfl (clc (aL 2 rfl rfl) (clc rfl (cl1 rfl))))) pr) rfl) (aa (au a1) (aa (au a2) (az (aq (gQ (bq b2 rfl (clc rfl (cl1 rfl)) cr) rfl rfl rfl (fh (by rw[g.made]))))))))))))) jR
end
noncomputable def tbO (o:Option Rw):D:=o.elim .none tbD
theorem bX {c:List Nat} {ls:List bj} {l:bj}:bA c (l::ls)=(if l.2.1=c then l.2.2 else 0)+bA c ls:=by
 unfold bA;by_cases q:l.2.1=c
 ·rw[if_pos q,KM (p:=fun l:bj=>decide (l.2.1=c)) (Kr q),List.map_cons,List.sum_cons]
 ·rw[if_neg q,List.filter_cons_of_neg (p:=fun l:bj=>decide (l.2.1=c)) (by rw[decide_eq_true_eq];exact q),Int.zero_add]
theorem Ds {a k M:Int} (h1:0<k) (h2:k<M):a.fmod M≠(a+k).fmod M:=by
 have hM:0≤M:=by exact KO (by decide) (KQ h1 h2)
 rw[Int.fmod_eq_emod_of_nonneg a hM,Int.fmod_eq_emod_of_nonneg (a+k) hM];intro h;have e1:=Int.emod_add_mul_ediv a M;have e2:=Int.emod_add_mul_ediv (a+k) M;generalize a / M=x at e1;generalize (a+k) / M=y at e2;rw[h] at e1;have e3:M*(y - x)=k:=by rw[Int.mul_sub];exact Je e1 e2
 rcases Int.lt_or_le (y - x) 1 with q|q
 ·have:M*(y - x)≤M*0:=Int.mul_le_mul_of_nonneg_left (by exact Int.le_iff_lt_add_one.mpr q) hM;rw[Int.mul_zero] at this;exact Jd h1 e3 this
 ·have:M*1≤M*(y - x):=Int.mul_le_mul_of_nonneg_left q hM;rw[Int.mul_one] at this;exact Jc h2 e3 this
section
variable {d m n i N:Nat} {hd:Bool} {p p':Pl} {S S':St} {K:Ker} {ρ:Rho} {σ σ':Sto} {e a:CE} {t:Int} {s h c:List Nat}
theorem nZ (R:Rk σ m p) (hh:p.curs[0]? =some h) (hr:p.told.length≤900):CC (d+1) false 75 [.p m 0,.d (.str c),.d (.int t)] σ=some (.ok (.d (tbO (aZ h p.told c t))),σ):=by
 unfold aZ;have e0:Ev (KK d false) (sub (key (loc 0) 2 Ll) (ah 0)) [qV m,sV c,iV t,none,none] σ (.d (.str h)):=aA (h_ R rfl) rfl rfl rfl (ba (k:=0) (by rw[Ku,hh];rfl));by_cases q:c=h
 ·rw[if_pos q];exact aO t75 rfl (ρ:=[qV m,sV c,iV t,none,none]) rfl (az (bW (ai rfl e0 rfl rfl (fg q)) (az (aq (aP rfl))))) (tk _)
 ·rw[if_neg q];obtain ⟨c',lp⟩:=k7 (σ:=σ) (v:=.p m 6) (x:=.lst (p.told.map rwD)) (i:=4) (b:=fun ρ=>lw_rate2_f1.ex (KK d false) ρ) rwD (fun (o:Option Rw) (x4:Option PV)=>[qV m,sV c,iV t,dV (C3 o),x4]) (nk c t) (fo (yj R)) p.told (fun o x4 x _=>by
   refine ⟨dV (rwD x),?_⟩;have a0:∀ o,Ev (KK d false) (sub (loc 4) (ah 0)) [qV m,sV c,iV t,o,dV (rwD x)] σ (.d (.str x.1)):=fun o=>aL 0 rfl rfl;have a1:∀ o,Ev (KK d false) (sub (loc 4) (ah 1)) [qV m,sV c,iV t,o,dV (rwD x)] σ (.d (.int x.2.1)):=fun o=>aL 1 rfl rfl;unfold nk;by_cases q1:x.1=c
   ·by_cases q2:x.2.1≤t
    ·cases o with
     |none=>
      rw[if_pos ⟨q1,q2,fun y h=>by cases h⟩];exact aa (bW (bO (cb (ai (a0 _) rfl rfl rfl (fg q1)) (cb (ai (a1 _) rfl rfl rfl (pA q2)) (cb (bE (f_ (ai rfl rfl rfl rfl rfl))) rfl)))) (aa (an rfl rfl) rfl)) rfl
     |some y=>
      by_cases q3:y.2.1≤x.2.1
      ·rw[if_pos ⟨q1,q2,fun z h=>by cases h;exact q3⟩];exact aa (bW (bO (cb (ai (a0 _) rfl rfl rfl (fg q1)) (cb (ai (a1 _) rfl rfl rfl (pA q2)) (cb (bE (bI (ai rfl rfl rfl rfl rfl) (f_ (ai (a1 _) (aL 1 rfl rfl) rfl rfl (DZ q3))))) rfl)))) (aa (an rfl rfl) rfl)) rfl
      ·rw[if_neg fun z=>q3 (z.2.2 y rfl)];exact aa (a_ (bO (cb (ai (a0 _) rfl rfl rfl (fg q1)) (cb (ai (a1 _) rfl rfl rfl (pA q2)) (eu (bE (bI (ai rfl rfl rfl rfl rfl) (bI (ai (a1 _) (aL 1 rfl rfl) rfl rfl (Bq q3)) rfl))))))) rfl) rfl
    ·rw[if_neg fun z=>q2 z.2.1];exact aa (a_ (bO (cb (ai (a0 _) rfl rfl rfl (fg q1)) (eu (ai (a1 _) rfl rfl rfl (A8 q2))))) rfl) rfl
   ·rw[if_neg fun z=>q1 z.1];exact aa (a_ (bO (eu (ai (a0 _) rfl rfl rfl (g_ q1)))) rfl) rfl) none none
  have lp:cx (.p m 6) (.lst (p.told.map rwD)) 4 (fun ρ=>lw_rate2_f1.ex (KK d false) ρ) (p.told.map rwD) [qV m,sV c,iV t,dV .none,none] σ=some (.next [qV m,sV c,iV t,dV (C3 (gV c t p.told)),c'],σ):=lp;have pre:∀ z,(sC (sIf (aJ cIs (loc 3) eH) (sC (aR eH) sN) sN) (sC jW sN)).ex (KK d false) [qV m,sV c,iV t,dV (C3 (gV c t p.told)),c'] σ=z→lw_rate2.ex (KK d false) [qV m,sV c,iV t,none,none] σ=z:=fun z hz=>aa (a_ (ai rfl e0 rfl rfl (g_ q)) rfl) (aa (an rfl rfl) (aa (aT (y0 R rfl) (ua (yj R) (by rw[J'];exact o75 hr)) lp) hz));cases z:gV c t p.told with
  |none=>
   rw[z] at pre;exact aO t75 rfl rfl (pre _ (az (bW (ai rfl rfl rfl rfl rfl) (az (aq rfl))))) (tk _)
  |some y=>
   rw[z] at pre;exact aO t75 rfl rfl (pre _ (aa (a_ (ai rfl rfl rfl rfl rfl) rfl) (az (aq (aP (clc (aL 2 rfl rfl) (cl1 (aL 3 rfl rfl)))))))) (tk _)
theorem lV {x ke:CE} {k M:Int} (R:Rk σ m p) (he:Ev K e ρ σ (.p m 0)) (hx:Ev K x ρ σ (.d (.int k))) (hm:Ev K ke ρ σ (.d (.int M))) (h1:0<M) (h2:M≤p.names.length) (h3:p.names.length≤1000):∃ z∈p.names,Ev K (sub (key e 0 s) (bin oMod x ke)) ρ σ (.d (.str z)):=by
 have q:=aG (a:=k) (b:=M) h1;have hk:(k.fmod M).toNat<p.names.length:=o8 h2 q;have g:=dL (a:=k) h1 (show M<2^250 by exact o14 h2 h3);rw[show k.fmod M=(((k.fmod M).toNat:Nat):Int) by exact o15 q] at g;exact ⟨_,List.getElem_mem hk,aA (cJ R he) (ax hx hm rfl rfl g) (cI R) rfl (ba (by rw[Ku,Kh hk];rfl) (o16 h3 hk))⟩
theorem lW {x ke:CE} {k M:Int} (R:Rk σ m p) (he:Ev K e ρ σ (.p m 0)) (hx:Ev K x ρ σ (.d (.int k))) (hm:Ev K ke ρ σ (.d (.int M))) (h1:0<M) (h2:M≤p.curs.length) (h3:p.curs.length≤1000):∃ z,p.curs[(k.fmod M).toNat]? =some z∧Ev K (sub (key e 2 s) (bin oMod x ke)) ρ σ (.d (.str z)):=by
 have q:=aG (a:=k) (b:=M) h1;have hk:(k.fmod M).toNat<p.curs.length:=o8 h2 q;have g:=dL (a:=k) h1 (show M<2^250 by exact o14 h2 h3);rw[show k.fmod M=(((k.fmod M).toNat:Nat):Int) by exact o15 q] at g;exact ⟨_,Kh hk,aA (h_ R he) (ax hx hm rfl rfl g) rfl rfl (ba (by rw[Ku,Kh hk];rfl) (o16 h3 hk))⟩
end
section
variable {d m n i N:Nat} {hd:Bool} {p p':Pl} {S S':St} {K:Ker} {ρ:Rho} {σ σ':Sto} {e a:CE} {t:Int} {s h c:List Nat}
noncomputable def dq (gv one tk' other:List Nat) (a g:Int):List bj:=[(gv,one,-a),(cy,one,a),(cy,other,-g),(tk',other,g)]
theorem D8 {gv one tk' other:List Nat} {a g:Int} (c:List Nat):bA c (dq gv one tk' other a g)=0:=by
 unfold dq;rw[bX,bX,bX,bX];show (if one=c then -a else 0)+((if one=c then a else 0)+((if other=c then -g else 0)+((if other=c then g else 0)+0)))=0;split<;>split<;>omega
noncomputable abbrev vR (n m:Nat) (c k:Int) (x4 x5 x6 x7 x8 x9 x10 x11 x12 x13 x14 x15:Option PV):Rho:=[qV n,qV m,iV c,iV k,x4,x5,x6,x7,x8,x9,x10,x11,x12,x13,x14,x15]
theorem Gd.conv {t g am:Int} {note gv one tk' other:List Nat} (G:Gd N p S) (h1:bc t) (ht:fu note) (v1:gv∈p.names) (v2:tk'∈p.names) (m1:one∈p.curs) (m2:other∈p.curs) (ha:cA am=true) (hg:cA g=true) {dd:D}:
  Gd (N+1) {p with ents:=p.ents++[⟨p.ents.length+1,t,note,dq gv one tk' other am g,0⟩],deeds:=p.deeds++[dd]} (Cs S t note gv one am tk' other g):=by
 have c1:=G.ic one m1;have c2:=G.ic other m2;have cu:∀ e∈p.ents++[⟨p.ents.length+1,t,note,dq gv one tk' other am g,0⟩],∀ x∈e.lines,x.2.1∈p.curs:=fun e he x hx=>by
  rcases Kv.mp he with he|he
  ·exact G.cu e he x hx
  ·rw[Ki.mp he] at hx;rcases Kb.mp hx with z|hx
   ·rw[z];exact m1
   rcases Kb.mp hx with z|hx
   ·rw[z];exact m1
   rcases Kb.mp hx with z|hx
   ·rw[z];exact m2
   ·rw[Ki.mp hx];exact m2
 have en:∀ e∈p.ents++[⟨p.ents.length+1,t,note,dq gv one tk' other am g,0⟩],EntOk p.names e:=fun e he=>by
  rcases Kv.mp he with he|he
  ·exact G.ent e he
  ·rw[Ki.mp he];have ex:cy∈p.names:=by obtain ⟨T,e,_⟩:=G.nm;rw[e];exact .head _
   refine ⟨fun x hx=> ?_,Kj rfl,D8,ht,h1⟩;rcases Kb.mp hx with z|hx
   ·rw[z];exact ⟨v1,c1,qd ha⟩
   rcases Kb.mp hx with z|hx
   ·rw[z];exact ⟨ex,c1,ha⟩
   rcases Kb.mp hx with z|hx
   ·rw[z];exact ⟨ex,c2,qd hg⟩
   ·rw[Ki.mp hx];exact ⟨v2,c2,hg⟩
 exact {names:=G.names,nm:=G.nm,nl:=G.nl,nd:=G.nd,ic:=G.ic,c3:=G.c3,c10:=G.c10,home:=G.home,made:=by show S.made++[⟨S.made.length+1,t,note,dq gv one tk' other am g,0⟩]=_;rw[G.made],ends:=G.ends,gone:=G.gone,tell:=⟨G.tell.choose,G.tell.choose_spec.of rfl rfl⟩,rw:=G.rw,ent:=en,cl1:=G.cl1,cl2:=G.cl2,l1:=bo G.l1,l2:=KH G.l2,l3:=KH G.l3,l4:=KH G.l4,l5:=bo G.l5,l6:=bo G.l6,cu:=cu,nos:=G.nos.snoc rfl,inc:=G.inc}
theorem pB {c k:Int} (h:Both σ m n p S) (G:Gd N p S) (hN:N≤800) (ho:cl p.ends<99999):∃ p' S',Gd (N+1) p' S'∧Ke p p'∧CC (d+4) false 77 [.p n 0,.p m 0,.d (.int c),.d (.int k)] σ=some (.ok (.d (.bool true)),bb σ m n p' S'):=by
 refine aK fun G9 k9=> ?_;obtain ⟨t,h1,h2,dr⟩:=i8 (c:=c) h.r (o1 hN G.l3) G.cl1 ho;have sh:=G.sh (o6 hN);have c3:=G.c3;have c10:=G.c10;have nl:=G.nl;have n0:0<p.names.length:=by obtain ⟨T,e,_⟩:=G.nm;rw[e,Kk];omega
 have r0:=aG (a:=k.fdiv p.curs.length) (b:=p.curs.length - 1) (o25 c3);obtain ⟨one,i1,e6⟩:=lW (K:=KK (d+3) false) (ρ:=vR n m c k (iV t) (iV p.curs.length) none none none none none none none none none none) (e:=loc 1) (s:=Ll) (x:=loc 3) (ke:=loc 5) (k:=k) (M:=p.curs.length) h.r rfl rfl rfl (o13 c3) (o37) (o11 c10);obtain ⟨other,i2,e7⟩:=lW (K:=KK (d+3) false) (ρ:=vR n m c k (iV t) (iV p.curs.length) (sV one) none none none none none none none none none) (e:=loc 1) (s:=Ll) (x:=bin oAdd (bin oAdd (loc 3) (ah 1)) (bin oMod (bin oDiv (loc 3) (loc 5)) (bin cD (loc 5) (ah 1)))) (ke:=loc 5) (k:=k+1+(k.fdiv p.curs.length).fmod (p.curs.length - 1)) (M:=p.curs.length) h.r rfl (bB (bB rfl rfl) (ax (ax rfl rfl rfl rfl (vJ (o13 c3) (by exact KT.mpr (KE c10 (Kj rfl))))) (ax rfl rfl rfl rfl rfl) rfl rfl (dL (o25 c3) (o81 c10)))) rfl (o13 c3) (o37) (o11 c10);obtain ⟨gv,v1,e8⟩:=lV (K:=KK (d+3) false) (ρ:=vR n m c k (iV t) (iV p.curs.length) (sV one) (sV other) none none none none none none none none) (e:=loc 1) (s:=Lj) (x:=bin oDiv (loc 3) (ah 6)) (ke:=bi fLen (clC (key (loc 1) 0 Lj) clN)) h.r rfl (bw rfl (by decide) (by decide)) (jx h.r (o3 nl) rfl) (o26 n0) (Int.le_refl _) (o3 nl);obtain ⟨tk',v2,e9⟩:=lV (K:=KK (d+3) false) (ρ:=vR n m c k (iV t) (iV p.curs.length) (sV one) (sV other) (sV gv) none none none none none none none) (e:=loc 1) (s:=Lj) (x:=bin oDiv (loc 3) (ah 7)) (ke:=bi fLen (clC (key (loc 1) 0 Lj) clN)) h.r rfl (bw rfl (by decide) (by decide)) (jx h.r (o3 nl) rfl) (o26 n0) (Int.le_refl _) (o3 nl);have ne:one≠other:=fun z=>by
  have q1:=aG (a:=k) (b:=p.curs.length) (o13 c3);have q2:=aG (a:=k+1+(k.fdiv p.curs.length).fmod (p.curs.length - 1)) (b:=p.curs.length) (o13 c3);have:=(List.getElem?_inj (o18 q1) G.nd).mp (i1.trans ((congrArg some z).trans i2.symm));have mn:=Ds (a:=k) (k:=1+(k.fdiv p.curs.length).fmod (p.curs.length - 1)) (M:=p.curs.length) (by exact KR (by decide) (K_ r0.1)) (Jb r0);rw[←Int.add_assoc] at mn;exact Ja q1 q2 this mn
 have c1:=G.ic one (KJ i1);have c2:=G.ic other (KJ i2);obtain ⟨am,ham,ea⟩:=ip (c:=c.fdiv 5);refine k9 ?_;have a2:cA am=true:=by rw[v8 ham.1];exact Kr (o86 ham)
 have l1:=nZ (d:=d+2) (σ:=σ) (c:=one) (t:=t) h.r G.home (o1 hN G.l2);have l2:=nZ (d:=d+2) (σ:=σ) (c:=other) (t:=t) h.r G.home (o1 hN G.l2);have pre:∀ z,(sC g6 (sC gf (sC gd (sC eb (sC d_ (sC d9 (sC (aF 14 (ao 56 (clC (bin oDiv (loc 3) (ah 2)) clN))) (sC d8 (sC d7 (sC d6 sN)))))))))).ex (KK (d+3) false) (vR n m c k (iV t) (iV p.curs.length) (sV one) (sV other) (sV gv) (sV tk') (iV am) (dV (.lst [tbO (aZ S.home p.told one t),tbO (aZ S.home p.told other t)])) none none none none) σ=z→lw_convert.ex (KK (d+3) false) (vR n m c k none none none none none none none none none none none none) σ=z:=fun z hz=>
  aa (an (ak (clc rfl (cl1 rfl)) (dr (d+1) _ h.r)) rfl) (aa (an (mj h.r (o11 c10) rfl) rfl) (aa (an e6 rfl) (aa (an e7 rfl) (aa (an e8 rfl) (aa (an e9 rfl) (aa (an (ak (cl1 (bw rfl (by decide) (by decide))) (ea _ _ _)) rfl) (aa (an (dO (clc (ak (clc rfl (clc rfl (cl1 rfl))) l1) (cl1 (ak (clc rfl (clc rfl (cl1 rfl))) l2)))) rfl) hz)))))))
 have same:∀ (hz:lw_convert.ex (KK (d+3) false) (vR n m c k none none none none none none none none none none none none) σ=some (.ret (.d (.bool true)),σ)),∃ p' S',Gd (N+1) p' S'∧Ke p p'∧CC (d+4) false 77 [.p n 0,.p m 0,.d (.int c),.d (.int k)] σ=some (.ok (.d (.bool true)),bb σ m n p' S'):=fun hz=>⟨p,S,G.mono (KZ _),⟨rfl,rfl,KZ _,.refl⟩,by rw[h.same];exact aO t77 rfl rfl hz (tk _)⟩;cases zu:aZ S.home p.told one t with
 |none=>
  rw[zu] at pre;exact same (pre _ (az (bW (bE (f_ (ai (aA rfl rfl rfl rfl (ba (k:=0) rfl)) rfl rfl rfl rfl))) (az (aq rfl)))))
 |some u=>
 cases zw:aZ S.home p.told other t with
 |none=>
  rw[zu,zw] at pre;exact same (pre _ (az (bW (bE (bI (ai (aA rfl rfl rfl rfl (ba (k:=0) rfl)) rfl rfl rfl rfl) (f_ (ai (aA rfl rfl rfl rfl (ba (k:=1) rfl)) rfl rfl rfl rfl)))) (az (aq rfl)))))
 |some w=>
 rw[zu,zw] at pre;have uo:=jp G.rw zu;have wo:=jp G.rw zw;refine aK fun G9 k9=> ?_;obtain ⟨⟨u1,u2⟩,u3,u4⟩:=uo;obtain ⟨⟨w1,w2⟩,w3,w4⟩:=wo;refine k9 ?_;have p1:0<u.2.2.2*w.2.2.1:=Int.mul_pos (o2 u3) (o2 w1);have p2:u.2.2.2*w.2.2.1≤10^9*10^9:=Int.mul_le_mul u4 w2 (o87 w1) (by decide);have p3:0<am*u.2.2.1*w.2.2.2:=Int.mul_pos (Int.mul_pos (by exact ham.1) (o2 u1)) (o2 w3);have g0:0≤chg am u.2.2.1 u.2.2.2 w.2.2.1 w.2.2.2:=by
  unfold chg;rw[Int.fdiv_eq_ediv_of_nonneg _ (Lb p1)];exact Int.ediv_nonneg (Lb p3) (Lb p1)
 have pre2:∀ z,(sC eb (sC d_ (sC d9 (sC (aF 14 (ao 56 (clC (bin oDiv (loc 3) (ah 2)) clN))) (sC d8 (sC d7 (sC d6 sN))))))).ex (KK (d+3) false) (vR n m c k (iV t) (iV p.curs.length) (sV one) (sV other) (sV gv) (sV tk') (iV am) (dV (.lst [tbD u,tbD w])) (iV (chg am u.2.2.1 u.2.2.2 w.2.2.1 w.2.2.2)) none none none) σ=z→lw_convert.ex (KK (d+3) false) (vR n m c k none none none none none none none none none none none none) σ=z:=fun z hz=>
  pre z (aa (a_ (bE (bI (ai (aA rfl rfl rfl rfl (ba (k:=0) rfl)) rfl rfl rfl rfl) (bI (ai (aA rfl rfl rfl rfl (ba (k:=1) rfl)) rfl rfl rfl rfl) rfl))) rfl) (aa (an (ax (ax rfl (aA (aA rfl rfl rfl rfl (ba (k:=0) rfl)) rfl rfl rfl (ci (k:=0) rfl)) rfl rfl (dw (dI (o38 u1 u2)))) (aA (aA rfl rfl rfl rfl (ba (k:=1) rfl)) rfl rfl rfl (ci (k:=1) rfl)) rfl rfl (dw (dI (o38 w3 w4)))) rfl) (aa (an (ax rfl (ax (aA (aA rfl rfl rfl rfl (ba (k:=0) rfl)) rfl rfl rfl (ci (k:=1) rfl)) (aA (aA rfl rfl rfl rfl (ba (k:=1) rfl)) rfl rfl rfl (ci (k:=0) rfl)) rfl rfl (dw (dI (o38 w1 w2)))) rfl rfl (vJ p1 (o56 p2))) rfl) hz)))
 generalize hg:chg am u.2.2.1 u.2.2.2 w.2.2.1 w.2.2.2=g at pre2 g0;have p30:∀ ρ,Ev (KK (d+3) false) (bin oPow (ah 10) (ah 30)) ρ σ (.d (.int (10^30))):=fun ρ=>ax rfl rfl rfl rfl (zq (a:=10) (b:=30) ⟨by decide,by decide⟩);by_cases z1:g=0
 ·exact same (pre2 _ (az (bW (bE (f_ (ai rfl rfl rfl rfl (fh z1)))) (az (aq rfl)))))
 by_cases z2:10^30≤g
 ·exact same (pre2 _ (az (bW (bE (bI (ai rfl rfl rfl rfl (ii z1)) (f_ (ai rfl (p30 _) rfl rfl (DZ z2))))) (az (aq rfl)))))
 obtain ⟨note,hn,en⟩:=qO (n:=k.fdiv 2);have hg2:cA g=true:=by rw[v8 (I_ g0 z1)];exact Kr (by exact Int.lt_of_not_ge z2)
 refine ⟨_,_,G.conv (dd:=.tup [.str Lw,.int t,.str gv,.str one,.int am,.str tk',.str other,.str note]) h1 hn v1 v2 (KJ i1) (KJ i2) a2 hg2,⟨rfl,rfl,K5 Kd,.ents h2⟩,?_⟩
 have pr:=oX (d:=d+2) (t:=t) (b:=0) (note:=note) (ls:=dq gv one tk' other am g) h.r (o0 hN G.l1) (Kj rfl);have r1:Rk (σ.set m (pk {p with ents:=p.ents++[⟨p.ents.length+1,t,note,dq gv one tk' other am g,0⟩]})) m {p with ents:=p.ents++[⟨p.ents.length+1,t,note,dq gv one tk' other am g,0⟩]}:=fU h.r.lt;have a1:=gF (K:=KK (d+3) false) (ρ:=vR n m c k (iV t) (iV p.curs.length) (sV one) (sV other) (sV gv) (sV tk') (iV am) (dV (.lst [tbD u,tbD w])) (iV g) (dV (.lst ((dq gv one tk' other am g).map lnD))) (sV note) (iV (p.ents.length+1))) (e:=loc 1) (a:=tup (clC (aU Lw) (clC (loc 4) (clC (loc 8) (clC (loc 6) (clC (loc 10) (clC (loc 9) (clC (loc 7) (clC (loc 14) clN))))))))) (s:=Lm) (t:=.tup [.str Lw,.int t,.str gv,.str one,.int am,.str tk',.str other,.str note]) r1 (by have:=G.l5;show p.deeds.length≤_;exact o0 hN this) rfl (aP rfl);rw[List.set_set] at a1;have b2:Bk (σ.set m (pk {p with ents:=p.ents++[⟨p.ents.length+1,t,note,dq gv one tk' other am g,0⟩],deeds:=p.deeds++[.tup [.str Lw,.int t,.str gv,.str one,.int am,.str tk',.str other,.str note]]})) n S:=h.bm;obtain ⟨mm,T⟩:=G.tell;have hh:aX S.home=true:=G.ic _ (KJ G.home);have x1:=iz (d:=d) b2 T hh c1 h1 (o1 hN G.l2);have x2:=iz (d:=d) b2 T hh c2 h1 (o1 hN G.l2);rw[zu] at x1;rw[zw] at x2;have cv:=uG (d:=d) (note:=note) (gv:=gv) (tk':=tk') b2 sh h1 (by rw[G.ends];exact h2) hn (by rw[G.names];exact v1) (by rw[G.names];exact v2) c1 c2 ne ham.1 a2 x1 x2 ⟨u1,u2⟩ ⟨u3,u4⟩ ⟨w1,w2⟩ ⟨w3,w4⟩ hg z1 hg2;refine aO t77 rfl rfl (pre2 _ ?_) jR;refine aa (a_ (bE (bI (ai rfl rfl rfl rfl (ii z1)) (bI (ai rfl (p30 _) rfl rfl (Bq z2)) rfl))) rfl) ?_;refine aa (an (dO (ds:=[lnD (gv,one,-am),lnD (cy,one,am)]) (clc (aP (clc rfl (clc rfl (cl1 (ax rfl rfl rfl rfl rfl))))) (cl1 (aP rfl))) (by rw[Int.zero_sub];rfl)) rfl) ?_;refine aa (an (ax rfl (dO (ds:=[lnD (cy,other,-g),lnD (tk',other,g)]) (clc (aP (clc rfl (clc rfl (cl1 (ax rfl rfl rfl rfl rfl))))) (cl1 (aP rfl))) (by rw[Int.zero_sub];rfl)) rfl rfl (zt (Kj rfl))) rfl) ?_;refine aa (an (ak (cl1 (bw rfl (by decide) (by decide))) (en (d+2) _)) rfl) ?_;refine aa (an (ak (clc rfl (clc rfl (clc rfl (clc rfl (cl1 rfl))))) pr) rfl) ?_;refine aa (au a1) ?_;exact az (aq (gQ (bq b2 rfl (clc rfl (clc rfl (clc rfl (clc rfl (clc rfl (clc rfl (cl1 rfl))))))) cv) rfl rfl rfl (fh (by rw[G.made]))))
end
noncomputable def nz (l:bj):Bool:=decide (l.2.2≠0)
theorem jH {c:List Nat}:∀ ls:List bj,bA c (ls.filter nz)=bA c ls
 |[]=>rfl
 |l::ls=>by
  rw[bX];by_cases q:l.2.2=0
  ·rw[List.filter_cons_of_neg (by show¬decide (l.2.2≠0)=true;rw[decide_eq_true_eq];exact fun z=>z q),jH ls,q];split<;>omega
  ·rw[KM (by show decide (l.2.2≠0)=true;exact Kr q),bX,jH ls]
theorem uF {c:List Nat} {l1 l2:List bj}:bA c (l1++l2)=bA c l1+bA c l2:=by
 unfold bA;rw[List.filter_append,List.map_append,List.sum_append]
section
variable {d m n i N:Nat} {hd:Bool} {p p':Pl} {S S':St} {K:Ker} {ρ:Rho} {σ σ':Sto} {e a:CE} {t:Int} {s h c:List Nat}
theorem AS {T:List (List Nat)} {x ke:CE} {k M:Int} {v:PV} (he:Ev K e ρ σ v) (hr:rd σ v=some (.lst (T.map .str))) (hx:Ev K x ρ σ (.d (.int k))) (hm:Ev K ke ρ σ (.d (.int M))) (h1:0<M) (h2:M≤T.length) (h3:T.length≤1000):∃ z∈T,Ev K (sub e (bin oMod x ke)) ρ σ (.d (.str z)):=by
 have q:=aG (a:=k) (b:=M) h1;have hk:(k.fmod M).toNat<T.length:=o8 h2 q;have g:=dL (a:=k) h1 (show M<2^250 by exact o14 h2 h3);rw[show k.fmod M=(((k.fmod M).toNat:Nat):Int) by exact o15 q] at g;exact ⟨_,List.getElem_mem hk,aA he (ax hx hm rfl rfl g) hr rfl (ba (by rw[Ku,Kh hk];rfl) (o16 h3 hk))⟩
theorem Dy {T:List (List Nat)} {v:PV} (he:Ev K e ρ σ v) (hr:rd σ v=some (.lst (T.map .str))) (hl:T.length≤1000):Ev K (bi fLen (clC e clN)) ρ σ (.d (.int T.length)):=by
 have q:=eM he hr (by rw[J'];exact hl);rw[J'] at q;exact q
structure LsOk (N C:List (List Nat)) (k:Nat) (fs:List bj):Prop where
 l:∀ x∈fs,x.1∈N∧aX x.2.1=true∧(x.2.2≠0→cA x.2.2=true)
 n:fs.length=3*k
 z:∀ c,bA c fs=0
 m:2*k≤(fs.filter nz).length
 u:∀ x∈fs,x.2.1∈C
noncomputable abbrev nR (m:Nat) (b k M:Int) (n:Nat) (x6 x7 x8 x9 x10:Option PV):Rho:=[qV m,iV b,iV k,some (.p m 2),qV n,iV M,x6,x7,x8,x9,x10,none]
theorem tW {b k M:Int} {fs:List bj} {i j:Nat} {x7 x8 x9 x10:Option PV} (R:Rk σ m p) (G:Gd N p S) (q:LsOk p.names p.curs j fs) (hj:j≤30) (hi:i<100):∃ fs' y7 y8 y9 y10,LsOk p.names p.curs (j+1) fs'∧lw_lines_f1.ex (KK (d+1) false) (nR m b k M σ.length (iV i) x7 x8 x9 x10) (σ++[.fld (.list (fs.map lnD))])=some (.next (nR m b k M σ.length (iV i) y7 y8 y9 y10),σ++[.fld (.list (fs'.map lnD))]):=by
 have c3:=G.c3;have c10:=G.c10;have nl:=G.nl;have n0:0<p.names.length:=by obtain ⟨T,e,_⟩:=G.nm;rw[e,Kk];omega
 have R':∀ o,Rk (σ++[o]) m p:=fun o=>R.app;generalize hL:k.fdiv 3+5*(i:Int)=L;have e7:Ev (KK (d+1) false) (bin oAdd (bin oDiv (loc 2) (ah 3)) (bin oMul (ah 5) (loc 6))) (nR m b k M σ.length (iV i) x7 x8 x9 x10) (σ++[.fld (.list (fs.map lnD))]) (.d (.int L)):=by
  rw[←hL];exact bB (bw rfl (by decide) (by decide)) (ax rfl rfl rfl rfl (dw (iK (by decide))))
 refine aK fun G9 k9=> ?_;obtain ⟨u,i1,e8⟩:=lW (K:=KK (d+1) false) (ρ:=nR m b k M σ.length (iV i) (iV L) x8 x9 x10) (e:=loc 0) (s:=Ll) (x:=loc 7) (ke:=bi fLen (clC (key (loc 0) 2 Ll) clN)) (k:=L) (M:=p.curs.length) (R' (.fld (.list (fs.map lnD)))) rfl rfl (mj (R' _) (o11 c10) rfl) (o13 c3) (o37) (o11 c10);have uc:=G.ic u (KJ i1);obtain ⟨a1,h1,ea1⟩:=ip (c:=b+77*(i:Int));obtain ⟨a2,h2,ea2⟩:=ip (c:=b.fdiv 3+(i:Int));refine k9 ?_;have q3:=aG (a:=L.fdiv 3) (b:=3) (by decide);have hy:(L.fdiv 3).fmod 3 - 1= -1∨(L.fdiv 3).fmod 3 - 1=0∨(L.fdiv 3).fmod 3 - 1=1:=I9 q3;have e10:∀ x10,Ev (KK (d+1) false) (bin oMul (ao 76 (clC (bin oAdd (bin oDiv (loc 1) (ah 3)) (loc 6)) clN)) (bin cD (bin oMod (bin oDiv (loc 7) (ah 3)) (ah 3)) (ah 1))) (nR m b k M σ.length (iV i) (iV L) (sV u) (iV a1) x10) (σ++[.fld (.list (fs.map lnD))]) (.d (.int (a2*((L.fdiv 3).fmod 3 - 1)))):=fun x10=>ax (ak (cl1 (bB (bw rfl (by decide) (by decide)) rfl)) (ea2 _ _ _)) (ax (ck (bw rfl (by decide) (by decide)) (by decide) (by decide)) rfl rfl rfl rfl) rfl rfl (dw (dI (I8 q3)));generalize (L.fdiv 3).fmod 3 - 1=y at e10 hy;have hw:(-(4*10^29)≤a2*y∧a2*y≤4*10^29):=by
  rcases hy with rfl|rfl|rfl<;>omega
 generalize a2*y=w at e10 hw;have pk:∀ (o:Sto) (D':Int) x,0<D'→D'<100→∃ z∈p.names,Ev (KK (d+1) false) (sub (loc 3) (bin oMod (bin oDiv (loc 7) (ah D')) (bi fLen (clC (loc 3) clN)))) (nR m b k M σ.length (iV i) (iV L) (sV u) (iV a1) (iV w)) (σ++[x]) (.d (.str z)):=fun o D' x h0 h9=>AS (T:=p.names) (v:=.p m 2) rfl (cI (R' x)) (bw rfl h0 (by exact KO h9 (by decide))) (Dy (T:=p.names) (v:=.p m 2) rfl (cI (R' x)) (o3 nl)) (o26 n0) (Int.le_refl _) (o3 nl);have r4:∀ o,Ev (KK (d+1) false) (loc 4) (nR m b k M σ.length (iV i) (iV L) (sV u) (iV a1) (iV w)) (σ++[o]) (.p σ.length 0):=fun o=>rfl;obtain ⟨z1,m1,f1⟩:=pk [] 9 (.fld (.list (fs.map lnD))) (by decide) (by decide);have g1:=clc f1 (l:=clC (loc 8) (clC (loc 9) clN)) (xs:=[.d (.str u),.d (.int a1)]) (clc rfl (cl1 rfl));have v1:Ev (KK (d+1) false) (tup (clC (sub (loc 3) (bin oMod (bin oDiv (loc 7) (ah 9)) (bi fLen (clC (loc 3) clN)))) (clC (loc 8) (clC (loc 9) clN)))) (nR m b k M σ.length (iV i) (iV L) (sV u) (iV a1) (iV w)) (σ++[.fld (.list (fs.map lnD))]) (.d (lnD (z1,u,a1))):=aP g1;have ap1:=bG (r4 _) v1 bL (by rw[J',q.n];exact cn (by exact Km (Lh 3 hj) (by decide)));rw[cz] at ap1;obtain ⟨z2,m2,f2⟩:=pk [] 5 (.fld (.list (fs.map lnD++[lnD (z1,u,a1)]))) (by decide) (by decide);have g2:=clc f2 (l:=clC (loc 8) (clC (bin cD (bin cD (ah 0) (loc 9)) (loc 10)) clN)) (xs:=[.d (.str u),.d (.int (0 - a1 - w))]) (clc rfl (cl1 (ax (ax rfl rfl rfl rfl rfl) rfl rfl rfl rfl)));have v2:Ev (KK (d+1) false) (tup (clC (sub (loc 3) (bin oMod (bin oDiv (loc 7) (ah 5)) (bi fLen (clC (loc 3) clN)))) (clC (loc 8) (clC (bin cD (bin cD (ah 0) (loc 9)) (loc 10)) clN)))) (nR m b k M σ.length (iV i) (iV L) (sV u) (iV a1) (iV w)) (σ++[.fld (.list (fs.map lnD++[lnD (z1,u,a1)]))]) (.d (lnD (z2,u,0 - a1 - w))):=aP g2;have ap2:=bG (r4 _) v2 bL (by rw[Kd,J',q.n,Kn];exact cn (by exact Km (Lc (Lh 3 hj)) (Kj rfl)));rw[cz] at ap2;obtain ⟨z3,m3,f3⟩:=pk [] 7 (.fld (.list ((fs.map lnD++[lnD (z1,u,a1)])++[lnD (z2,u,0 - a1 - w)]))) (by decide) (by decide);have g3:=clc f3 (l:=clC (loc 8) (clC (loc 10) clN)) (xs:=[.d (.str u),.d (.int w)]) (clc rfl (cl1 rfl));have v3:Ev (KK (d+1) false) (tup (clC (sub (loc 3) (bin oMod (bin oDiv (loc 7) (ah 7)) (bi fLen (clC (loc 3) clN)))) (clC (loc 8) (clC (loc 10) clN)))) (nR m b k M σ.length (iV i) (iV L) (sV u) (iV a1) (iV w)) (σ++[.fld (.list ((fs.map lnD++[lnD (z1,u,a1)])++[lnD (z2,u,0 - a1 - w)]))]) (.d (lnD (z3,u,w))):=aP g3;have ap3:=bG (r4 _) v3 bL (by rw[Kd,Kd,J',q.n,Kn,Kn];exact cn (by exact Km (Nat.add_le_add_right (Lh 3 hj) 2) (by decide)));rw[cz] at ap3;have e9:Ev (KK (d+1) false) (ao 76 (clC (bin oAdd (loc 1) (bin oMul (ah 77) (loc 6))) clN)) (nR m b k M σ.length (iV i) (iV L) (sV u) x9 x10) (σ++[.fld (.list (fs.map lnD))]) (.d (.int a1)):=ak (cl1 (bB (y:=77*(i:Int)) rfl (ax rfl rfl rfl rfl (dw (iK (by decide)))))) (ea1 _ _ _);refine ⟨fs++[(z1,u,a1),(z2,u,0 - a1 - w),(z3,u,w)],iV L,sV u,iV a1,iV w,⟨fun x hx=> ?_,by rw[Kd,q.n];show 3*j+3=_;exact I7,fun c=> ?_,?_,fun x hx=> ?_⟩,aa (an e7 rfl) (aa (an e8 rfl) (aa (an e9 rfl) (aa (an (e10 _) rfl) (aa (au ap1) (aa (au ap2) (aa (au ap3) ?_))))))⟩
 ·rcases Kv.mp hx with hx|hx
  ·exact q.l x hx
  have am:∀ v:Int,-(10^30)<v→v<10^30→v≠0→cA v=true:=fun v y1 y2 y3=>by unfold cA;rw[Kr y3,Kr y1,Kr y2];rfl
  rcases Kb.mp hx with z|hx
  ·rw[z];exact ⟨m1,uc,am a1 (by exact KO (by decide) h1.1) (o86 h1)⟩
  rcases Kb.mp hx with z|hx
  ·rw[z];exact ⟨m2,uc,am (0 - a1 - w) (by exact KR (by decide:(-10^30:Int)<0 - 4*10^29 - 4*10^29) (Int.sub_le_sub (Int.sub_le_sub_left h1.2 0) hw.2)) (by exact KQ (Int.sub_le_sub (Int.sub_le_sub_left h1.1 0) hw.1) (by decide))⟩
  ·rw[Ki.mp hx];exact ⟨m3,uc,am w (by exact KR (by decide) hw.1) (by exact KQ hw.2 (by decide))⟩
 ·rw[uF,q.z c,bX,bX,bX];show 0+((if u=c then a1 else 0)+((if u=c then 0 - a1 - w else 0)+((if u=c then w else 0)+0)))=0;split<;>omega
 ·rw[List.filter_append,Kd];have:2≤([(z1,u,a1),(z2,u,0 - a1 - w),(z3,u,w)].filter nz).length:=by
   rw[KM (by show decide (a1≠0)=true;exact Kr (by exact Int.ne_of_gt (KR (by decide) h1.1))),Kk];by_cases y:w=0
   ·rw[KM (by show decide (0 - a1 - w≠0)=true;exact Kr (I6 h1 y)),Kk];exact o39
   ·by_cases y2:0 - a1 - w=0
    ·rw[List.filter_cons_of_neg (by show¬decide (0 - a1 - w≠0)=true;rw[decide_eq_true_eq];exact fun z=>z y2),KM (by show decide (w≠0)=true;exact Kr y),Kk];exact o39
    ·rw[KM (by show decide (0 - a1 - w≠0)=true;exact Kr y2),Kk];exact o39
  have:=q.m;exact I5 (by assumption) this
 ·rcases Kv.mp hx with hx|hx
  ·exact q.u x hx
  have um:=KJ i1;rcases Kb.mp hx with z|hx
  ·rw[z];exact um
  rcases Kb.mp hx with z|hx
  ·rw[z];exact um
  ·rw[Ki.mp hx];exact um
 ·rw[List.map_append];simp only [List.append_assoc];rfl
structure LnOk (N C:List (List Nat)) (ls:List bj):Prop where
 l:∀ x∈ls,x.1∈N∧aX x.2.1=true∧cA x.2.2=true
 lo:2≤ls.length
 hi:ls.length≤60
 z:∀ c,bA c ls=0
 u:∀ x∈ls,x.2.1∈C
theorem tV {b k:Int} (R:Rk σ m p) (G:Gd N p S):∃ ls,LnOk p.names p.curs ls∧CC (d+2) false 80 [.p m 0,.d (.int b),.d (.int k)] σ=some (.ok (.d (.lst (ls.map lnD))),σ):=by
 refine aK fun G9 k9=> ?_;obtain ⟨M,hM1,hM2,e5⟩:∃ M:Nat,1≤M∧M≤20∧∀ s,Ev (KK (d+1) false) (pH (aJ cEq (bin oMod (loc 2) (ah 16)) (ah 7)) (bin oAdd (ah 1) (bin oMod (bin oDiv (loc 2) (ah 16)) (ah 20))) (bin oAdd (ah 1) (bin oMod (loc 2) (ah 3)))) [qV m,iV b,iV k,some (.p m 2),qV σ.length,none,none,none,none,none,none,none] s (.d (.int M)):=by
  have q1:=aG (a:=k.fdiv 16) (b:=20) (by decide);have q2:=aG (a:=k) (b:=3) (by decide);by_cases z:k.fmod 16=7
  ·refine ⟨(1+(k.fdiv 16).fmod 20).toNat,by exact KS.mp (KO (K_ q1.1) (Int.self_le_toNat _)),I0 q1,fun s=> ?_⟩;rw[KV (by exact Int.add_nonneg (by decide) q1.1)];exact k_ (ai (ck rfl (by decide) (by decide)) rfl rfl rfl (fh z)) (bB rfl (ck (bw rfl (by decide) (by decide)) (by decide) (by decide)))
  ·refine ⟨(1+k.fmod 3).toNat,by exact KS.mp (KO (K_ q2.1) (Int.self_le_toNat _)),by exact Int.toNat_le.mpr (KO (Int.add_le_add_left (Lb q2.2) 1) (by decide)),fun s=> ?_⟩;rw[KV (by exact Int.add_nonneg (by decide) q2.1)];exact lc (ai (ck rfl (by decide) (by decide)) rfl rfl rfl (ii z)) (bB rfl (ck rfl (by decide) (by decide)))
 obtain ⟨ρ2,s2,lp,fs,x6,x7,x8,x9,x10,rfl,rfl,q⟩:=iX (v:=.d (.rng 0 M 1)) (x:=.rng 0 M 1) (i:=6) (b:=fun ρ=>lw_lines_f1.ex (KK (d+1) false) ρ) M
  (fun pre ρ s=>∃ fs x6 x7 x8 x9 x10,ρ=nR m b k M σ.length x6 x7 x8 x9 x10∧s=σ++[.fld (.list (fs.map lnD))]∧LsOk p.names p.curs pre.length fs) ((List.range M).map fun (i:Nat)=>.int i) [] (nR m b k M σ.length none none none none none) (σ++[.fld (.list [])]) (by rw[J',List.length_range,K6];exact IZ) ⟨[],none,none,none,none,none,rfl,rfl,cY,rfl,fun _=>rfl,Ko _,cY⟩ fun pre x ρ s hx hp H9=>by
   obtain ⟨fs,x6,x7,x8,x9,x10,h1,h2,q⟩:=H9;obtain ⟨i,hi,rfl⟩:=Kt.mp hx;have hi':=List.mem_range.mp hi;subst h1 h2;obtain ⟨fs',y7,y8,y9,y10,q',e⟩:=tW (d:=d) (b:=b) (k:=k) (M:=M) (i:=i) (x7:=x7) (x8:=x8) (x9:=x9) (x10:=x10) R G q (by exact Km (KU hp) (Km hM2 (by decide))) (by exact Km hi' (Km hM2 (Kj rfl)));exact ⟨_,_,e,rfl,⟨fs',_,y7,y8,y9,y10,rfl,rfl,by rw[Kd];exact q'⟩⟩
 refine k9 ?_;rw[List.nil_append,J',List.length_range] at q;have hl:(fs.filter nz).length≤60:=by have:=List.length_filter_le nz fs;rw[q.n] at this;exact Km this (Lh 3 hM2)
 refine ⟨fs.filter nz,⟨fun x hx=> ?_,by have:=q.m;exact Km (Lh 2 hM1) this,hl,fun c=>by rw[jH];exact q.z c,fun x hx=>q.u x (List.mem_filter.mp hx).1⟩,?_⟩
 ·obtain ⟨h1,h2⟩:=List.mem_filter.mp hx;have:=q.l x h1;exact ⟨this.1,this.2.1,this.2.2 (KX h2)⟩
 ·refine aO t80 rfl (ρ:=[qV m,iV b,iV k,none,none,none,none,none,none,none,none,none]) rfl ?_ (tkl σ [.fld (.list (fs.map lnD))]);refine aa (an (cJ R rfl) rfl) (aa (an (co rfl) rfl) (aa (an (e5 _) rfl) ?_));refine aa (aT (jC rfl (o88 hM2)) (cp (dS (o88 hM2))) lp) ?_;refine az (aq (mI (eq rfl (ua (dC rfl) (by rw[J',q.n];exact Km (Lh 3 hM2) (by decide))) ?_)));have cf:=db (K:=KK (d+1) false) (ρ:=nR m b k M σ.length x6 x7 x8 x9 x10) (σ:=σ++[.fld (.list (fs.map lnD))]) (i:=11) (elt:=loc 11) (t:=iE (aJ cNe (sub (loc 11) (ah 2)) (ah 0))) (v:=.p σ.length 0) (y:=.lst (fs.map lnD)) (fo (dC rfl)) lnD lnD nz fs [] (fun l _=> ?_) (fun l _ _=>rfl) (by rw[K6,q.n];exact Km (K5 (K8 _)) (Km (Lh 3 hM2) (by decide)))
  ·exact cf
  ·refine sI (ai (aL 2 rfl rfl) rfl rfl rfl ?_);by_cases z:l.2.2=0
   ·rw[show nz l=false from K7 (fun y=>y z)];exact nn z
   ·rw[show nz l=true from Kr z];exact pc z
theorem LnOk.ent {N C:List (List Nat)} {ls:List bj} {t:Int} {note:List Nat} {no:Int} (q:LnOk N C ls) (h1:bc t) (h2:fu note):EntOk N ⟨no,t,note,ls,0⟩:=⟨q.l,q.hi,q.z,h2,h1⟩
theorem Gd.post {t:Int} {note:List Nat} {ls:List bj} (G:Gd N p S) (h1:bc t) (ht:fu note) (q:LnOk p.names p.curs ls) {dd:List D} (hdd:(p.deeds++dd).length≤N+1):
  Gd (N+1) {p with ents:=p.ents++[⟨p.ents.length+1,t,note,ls,0⟩],deeds:=p.deeds++dd} (ym S t note ls):=by
 have en:∀ e∈p.ents++[⟨p.ents.length+1,t,note,ls,0⟩],EntOk p.names e:=fun e he=>by
  rcases Kv.mp he with he|he
  ·exact G.ent e he
  ·rw[Ki.mp he];exact q.ent h1 ht
 have cu:∀ e∈p.ents++[⟨p.ents.length+1,t,note,ls,0⟩],∀ x∈e.lines,x.2.1∈p.curs:=fun e he x hx=>by
  rcases Kv.mp he with he|he
  ·exact G.cu e he x hx
  ·rw[Ki.mp he] at hx;exact q.u x hx
 exact {names:=G.names,nm:=G.nm,nl:=G.nl,nd:=G.nd,ic:=G.ic,c3:=G.c3,c10:=G.c10,home:=G.home,made:=by show S.made++[⟨S.made.length+1,t,note,ls,0⟩]=_;rw[G.made],ends:=G.ends,gone:=G.gone,tell:=⟨G.tell.choose,G.tell.choose_spec.of rfl rfl⟩,rw:=G.rw,ent:=en,cl1:=G.cl1,cl2:=G.cl2,l1:=bo G.l1,l2:=KH G.l2,l3:=KH G.l3,l4:=KH G.l4,l5:=hdd,l6:=bo G.l6,cu:=cu,nos:=G.nos.snoc rfl,inc:=G.inc}
theorem wT {c k:Int} (h:Both σ m n p S) (G:Gd N p S) (hN:N≤800) (ho:cl p.ends<99999):∃ p' S',Gd (N+1) p' S'∧Ke p p'∧CC (d+4) false 81 [.p n 0,.p m 0,.d (.int c),.d (.int k)] σ=some (.ok (.d (.bool true)),bb σ m n p' S'):=by
 refine aK fun G9 k9=> ?_;obtain ⟨t,h1,h2,dr⟩:=i8 (c:=c) h.r (o1 hN G.l3) G.cl1 ho;obtain ⟨note,hn,en⟩:=qO (n:=k);obtain ⟨ls,q,er⟩:=tV (d:=d+1) (b:=c.fdiv 5) (k:=k) h.r G;refine k9 ?_;have sh:=G.sh (o6 hN);have qh:=q.hi;refine ⟨_,_,G.post (dd:=[ij t note ls]) h1 hn q (bo G.l5),⟨rfl,rfl,K5 Kd,.ents h2⟩,?_⟩;have pr:=oX (d:=d+2) (t:=t) (b:=0) (note:=note) (ls:=ls) h.r (o0 hN G.l1) (o12 qh);have r1:Rk (σ.set m (pk {p with ents:=p.ents++[⟨p.ents.length+1,t,note,ls,0⟩]})) m {p with ents:=p.ents++[⟨p.ents.length+1,t,note,ls,0⟩]}:=fU h.r.lt;have tp:∀ s:Sto,fTuple.g false [.d (.lst (ls.map lnD))] s=some (.ok (.d (.tup (ls.map lnD))),s):=fun s=>by
  show (al ((ls.map lnD).length≤lim) (D.tup (ls.map lnD))).map _=_;rw[aB (by rw[J'];exact aQ (o12 qh))];rfl
 have a1:=gF (K:=KK (d+3) false) (ρ:=[qV n,qV m,iV c,iV k,iV t,sV note,dV (.lst (ls.map lnD)),iV (p.ents.length+1)]) (e:=loc 1) (a:=tup (clC (aU [101,110,116,114,121]) (clC (loc 4) (clC (loc 5) (clC (bi fTuple (clC (loc 6) clN)) clN))))) (s:=Lm) (t:=ij t note ls) r1 (by have:=G.l5;show p.deeds.length≤_;exact o0 hN this) rfl (aP (clc rfl (clc rfl (clc rfl (cl1 (bx (cl1 rfl) (tp _)))))));rw[List.set_set] at a1;have b2:Bk (σ.set m (pk {p with ents:=p.ents++[⟨p.ents.length+1,t,note,ls,0⟩],deeds:=p.deeds++[ij t note ls]})) n S:=h.bm;have po:=AQ (d:=d) (note:=note) (ls:=ls) b2 sh h1 (by rw[G.ends];exact h2) hn ⟨q.lo,q.hi⟩ (fun l hl=>⟨by rw[G.names];exact (q.l l hl).1,(q.l l hl).2.1,(q.l l hl).2.2⟩) (Ef q.z (o89 qh));exact aO t81 rfl (ρ:=[qV n,qV m,iV c,iV k,none,none,none,none]) rfl (aa (an (ak (clc rfl (cl1 rfl)) (dr (d+1) _ h.r)) rfl) (aa (an (ak (cl1 rfl) (en (d+2) _)) rfl) (aa (an (ak (clc rfl (clc (bw rfl (by decide) (by decide)) (cl1 rfl))) er) rfl) (aa (an (ak (clc rfl (clc rfl (clc rfl (clc rfl (cl1 rfl))))) pr) rfl) (aa (au a1) (az (aq (gQ (bq b2 rfl (clc rfl (clc rfl (cl1 rfl))) po) rfl rfl rfl (fh (by rw[G.made])))))))))) jR
end
section
variable {d m n i N:Nat} {hd:Bool} {p p':Pl} {S S':St} {K:Ker} {ρ:Rho} {σ σ':Sto} {e a:CE} {t:Int} {s h c:List Nat}
noncomputable abbrev qS (n m:Nat) (w b k:Int):Rho:=[qV n,qV m,iV w,iV b,iV k]
noncomputable abbrev qD (n m:Nat) (sc:List Int) (f l:Int) (x:Option PV):Rho:=[qV n,qV m,dV (.lst (sc.map .int)),iV f,iV l,x]
def Cap (p:Pl):Prop:=(p.ents.length:Int)≤p.most+1
structure Kf (p p':Pl):Prop where
 c:p'.curs=p.curs
 m:p'.most=p.most
 k:Cap p→Cap p'
 g:Gr p p'
theorem xC {w b k:Int} (h:Both σ m n p S) (G:Gd N p S) (hN:N≤800):∃ p' S',Gd (N+1) p' S'∧Ke p p'∧(Cap p→Cap p')∧CC (d+5) false 82 [.p n 0,.p m 0,.d (.int w),.d (.int b),.d (.int k)] σ=some (.ok (.d (.bool true)),bb σ m n p' S'):=by
 have cr:=c8 (d:=d+3) (hd:=false) h.r (o1 hN G.l3);have le:Ev (KK (d+4) false) (bi fLen (clC (key (loc 1) 3 Lk) clN)) (qS n m w b k) σ (.d (.int p.ents.length)):=iM h.r (o0 hN G.l1) rfl;have same:∀ (hz:lw_step.ex (KK (d+4) false) (qS n m w b k) σ=some (.ret (.d (.bool true)),σ)),∃ p' S',Gd (N+1) p' S'∧Ke p p'∧(Cap p→Cap p')∧CC (d+5) false 82 [.p n 0,.p m 0,.d (.int w),.d (.int b),.d (.int k)] σ=some (.ok (.d (.bool true)),bb σ m n p' S'):=fun hz=>⟨p,S,G.mono (KZ _),⟨rfl,rfl,KZ _,.refl⟩,id,by rw[h.same];exact aO t82 rfl rfl hz (tk _)⟩;by_cases z1:99999≤cl p.ends
 ·exact same (az (bW (bE (f_ (ai (ak (cl1 rfl) cr) rfl rfl rfl (DZ z1)))) (az (aq rfl))))
 by_cases z2:p.most<p.ents.length
 ·exact same (az (bW (bE (bI (ai (ak (cl1 rfl) cr) rfl rfl rfl (Bq z1)) (f_ (ai le (y_ h.r rfl) rfl rfl (zi z2))))) (az (aq rfl))))
 have ho:cl p.ends<99999:=by exact Int.lt_of_not_ge z1
 have s1:lw_step_s1.ex (KK (d+4) false) (qS n m w b k) σ=some (.next (qS n m w b k),σ):=a_ (bE (bI (ai (ak (cl1 rfl) cr) rfl rfl rfl (Bq z1)) (bI (ai le (y_ h.r rfl) rfl rfl (kA z2)) rfl))) rfl;have w8:Ev (KK (d+4) false) (bin oMod (loc 2) (ah 8)) (qS n m w b k) σ (.d (.int (w.fmod 8))):=ck rfl (by decide) (by decide);have fin:∀ (hx:∃ p' S',Gd (N+1) p' S'∧Ke p p'∧lw_step.ex (KK (d+4) false) (qS n m w b k) σ=some (.ret (.d (.bool true)),bb σ m n p' S')),∃ p' S',Gd (N+1) p' S'∧Ke p p'∧(Cap p→Cap p')∧CC (d+5) false 82 [.p n 0,.p m 0,.d (.int w),.d (.int b),.d (.int k)] σ=some (.ok (.d (.bool true)),bb σ m n p' S'):=fun ⟨p',S',g,ke,e⟩=>⟨p',S',g,ke,fun _=>by unfold Cap;rw[ke.m];have:=ke.e;exact KO (KS.mpr this) (Int.add_le_add_right (Lg.mp z2) 1),aO t82 rfl rfl e jR⟩;refine fin ?_;by_cases y1:w.fmod 8<3
 ·obtain ⟨p',S',g,ke,e⟩:=wT (d:=d) (c:=b) (k:=k) h G hN ho;exact ⟨p',S',g,ke,aa s1 (az (bW (ai w8 rfl rfl rfl (tQ y1)) (az (aq (ak (clc rfl (clc rfl (clc rfl (cl1 rfl)))) e)))))⟩
 have s2:lw_step_s2.ex (KK (d+4) false) (qS n m w b k) σ=some (.next (qS n m w b k),σ):=a_ (ai w8 rfl rfl rfl (iL y1)) rfl;by_cases y2:w.fmod 8=3
 ·by_cases y3:(w.fdiv 8).fmod 3=0
  ·obtain ⟨p',S',g,ke,e⟩:=tY (d:=d+1) (c:=b) h G hN;exact ⟨p',S',g,ke,aa s1 (aa s2 (az (bW (bO (cb (ai w8 rfl rfl rfl (fh y2)) (cb (ai (ck (bw rfl (by decide) (by decide)) (by decide) (by decide)) rfl rfl rfl (fh y3)) rfl))) (az (aq (ak (clc rfl (clc rfl (cl1 rfl))) e))))))⟩
  ·obtain ⟨p',S',g,ke,e⟩:=wS (d:=d) (c:=b) (k:=k) h G hN ho;exact ⟨p',S',g,ke,aa s1 (aa s2 (aa (a_ (bO (cb (ai w8 rfl rfl rfl (fh y2)) (eu (ai (ck (bw rfl (by decide) (by decide)) (by decide) (by decide)) rfl rfl rfl (ii y3))))) rfl) (az (bW (ai w8 rfl rfl rfl (fh y2)) (az (aq (ak (clc rfl (clc rfl (clc rfl (cl1 rfl)))) e)))))))⟩
 have s3:lw_step_s3.ex (KK (d+4) false) (qS n m w b k) σ=some (.next (qS n m w b k),σ):=a_ (bO (eu (ai w8 rfl rfl rfl (ii y2)))) rfl;have s4:lw_step_s4.ex (KK (d+4) false) (qS n m w b k) σ=some (.next (qS n m w b k),σ):=a_ (ai w8 rfl rfl rfl (ii y2)) rfl;by_cases y4:w.fmod 8<6
 ·obtain ⟨p',S',g,ke,e⟩:=pB (d:=d) (c:=b) (k:=k) h G hN ho;exact ⟨p',S',g,ke,aa s1 (aa s2 (aa s3 (aa s4 (az (bW (ai w8 rfl rfl rfl (tQ y4)) (az (aq (ak (clc rfl (clc rfl (clc rfl (cl1 rfl)))) e))))))))⟩
 have s5:lw_step_s5.ex (KK (d+4) false) (qS n m w b k) σ=some (.next (qS n m w b k),σ):=a_ (ai w8 rfl rfl rfl (iL y4)) rfl;by_cases y5:w.fmod 8=6
 ·obtain ⟨p',S',g,ke,e⟩:=nB (d:=d) (c:=b) (k:=k) h G hN ho;exact ⟨p',S',g,ke,aa s1 (aa s2 (aa s3 (aa s4 (aa s5 (az (bW (ai w8 rfl rfl rfl (fh y5)) (az (aq (ak (clc rfl (clc rfl (clc rfl (cl1 rfl)))) e)))))))))⟩
 refine aK fun G9 k9=> ?_;obtain ⟨p',S',g,ke,_,e⟩:=qv (d:=d) (c:=b) h G hN ho;refine k9 ?_;exact ⟨p',S',g,ke,aa s1 (aa s2 (aa s3 (aa s4 (aa s5 (aa (a_ (ai w8 rfl rfl rfl (ii y5)) rfl) (az (aq (ak (clc rfl (clc rfl (cl1 rfl))) e))))))))⟩
theorem nM {a:CT} {q:Bool} (h:a.ts K ρ σ=some (.ok q,σ')):(eU a).ts K ρ σ=some (.ok (!q),σ'):=av h rfl
theorem jj {q:Bool} (h:a.ev K ρ σ=some (.ok (.d (.bool q)),σ')):(tof a).ts K ρ σ=some (.ok q,σ'):=av h rfl
theorem rL {t:CT} {a b:CS} {z:Option (Out×Sto)} (h:t.ts K ρ σ=some (.ok false,σ')) (k:b.ex K ρ σ'=z):(sIf t a b).ex K ρ σ=z:=bf h k
theorem ut {sc:List Int} {k:Nat} {x:CE} (hs:sc.length≤63) (he:Ev K e ρ σ (.d (.lst (sc.map .int)))) (hx:Ev K x ρ σ (.d (.int k))) (hk:k<sc.length):Ev K (sub e x) ρ σ (.d (.int (cell sc k))):=aA he hx rfl rfl (ba (by rw[Ku,Kh hk,cell,Kw,Kh hk];rfl) (by exact Km (KU (KF hk hs)) (Kj rfl)))
theorem DF {a b:Int} (h1:0≤a∧a≤1000) (h2: -1000≤b∧b≤1000):items (.rng a b 3)=some ((List.range (bS a b 3)).map fun (i:Nat)=>.int (a+(i:Int)*3))∧(∀ i,i<bS a b 3→a+(i:Int)*3<b)∧bS a b 3≤1000:=by
 have hr:bS a b 3≤1000∧∀ i:Nat,i<bS a b 3→a+(i:Int)*3<b:=by
  unfold bS;by_cases q:a<b
  ·rw[if_pos q];exact ⟨by exact Int.toNat_le.mpr (KO (Int.add_le_add_right (Int.ediv_le_ediv (by decide) (Int.sub_le_sub (Int.sub_le_sub h2.2 h1.1) (Int.le_refl 1))) 1) (by decide)),fun i hi=>by exact Int.add_lt_of_lt_sub_left (Int.lt_of_le_sub_one (Int.mul_le_of_le_ediv (by decide) (Int.le_of_lt_add_one (Int.lt_toNat.mp hi))))⟩
  ·rw[if_neg q];exact ⟨by decide,fun i hi=>IY hi⟩
 refine ⟨?_,hr.2,hr.1⟩;rw[mt,aB];rw[cC (by exact KO (by decide) h1.1) (by exact KO h1.2 (by decide)),cC (by exact h2.1) (by exact KO h2.2 (by decide)),Kr (by decide),Kr (by decide),Kr (by omega)];rfl
theorem GH {f m:Int} (h:0≤f) (k:m≤61):bS f m 3≤70:=by
 unfold bS;split<;>omega
theorem og {sc:List Int} {f l:Int} (hs:sc.length≤63) (hf:0≤f∧f≤500) (hl:0≤l∧l≤500) (h:Both σ m n p S) (G:Gd N p S) (hN:N≤700):∃ p' S',Gd (N+70) p' S'∧Kf p p'∧CC (d+6) false 83 [.p n 0,.p m 0,.d (.lst (sc.map .int)),.d (.int f),.d (.int l)] σ=some (.ok (.d (.bool true)),bb σ m n p' S'):=by
 have i3:=DF (a:=f) (b:=min (sc.length - 2) l) ⟨by exact hf.1,by exact KO hf.2 (by decide)⟩ ⟨o90 hl,by exact KO (Ld _ _) (KO (Int.sub_le_self _ (by decide)) (KO (KS.mpr hs) (by decide)))⟩;have r63:bS f (min (sc.length - 2) l) 3≤70:=by
  exact GH hf.1 (KO (Ld _ _) (by exact Int.sub_le_sub_right (KS.mpr hs) 2))
 refine aK fun G9 k9=> ?_;obtain ⟨ρ2,s2,lp,p',S',x5,rfl,rfl,g,ke⟩:=iX (v:=.d (.rng f (min (sc.length - 2) l) 3)) (x:=.rng f (min (sc.length - 2) l) 3) (i:=5) (b:=fun ρ=>lw_deeds_f1.ex (KK (d+5) false) ρ) 70
  (fun pre ρ s=>∃ p' S' x5,ρ=(qD n m sc f l x5)∧s=bb σ m n p' S'∧Gd (N+pre.length) p' S'∧Kf p p') ((List.range (bS f (min (sc.length - 2) l) 3)).map fun (i:Nat)=>.int (f+(i:Int)*3)) [] (qD n m sc f l none) σ (by rw[J',List.length_range,K6];omega) ⟨p,S,none,rfl,h.same.symm,G,rfl,rfl,id,.refl⟩ fun pre x ρ s hx hp H9=>by
   obtain ⟨p',S',x5,h1,h2,g,ke⟩:=H9;obtain ⟨i,hi,rfl⟩:=Kt.mp hx;have hi':=i3.2.1 i (List.mem_range.mp hi);subst h1 h2;have kk:f+(i:Int)*3=((f.toNat+i*3:Nat):Int):=IX hf;rw[kk];obtain ⟨p2,S2,g2,ke2,kc,e⟩:=xC (d:=d) (w:=cell sc (f.toNat+i*3)) (b:=cell sc (f.toNat+i*3+1)) (k:=cell sc (f.toNat+i*3+2)) (h.to p' S') g (by exact Km (Nat.add_le_add hN (KU hp)) (by decide));rw[FZ h.ne] at e;have e1:∀ (o:PV) s,Ev (KK (d+5) false) (bin oAdd (loc 5) (ah 1)) (qD n m sc f l (iV ((f.toNat+i*3:Nat):Int))) s (.d (.int ((f.toNat+i*3+1:Nat):Int))):=fun o s=>by rw[Int.natCast_add (f.toNat+i*3) 1];exact bB rfl rfl
   have e2:∀ (o:PV) s,Ev (KK (d+5) false) (bin oAdd (loc 5) (ah 2)) (qD n m sc f l (iV ((f.toNat+i*3:Nat):Int))) s (.d (.int ((f.toNat+i*3+2:Nat):Int))):=fun o s=>by rw[Int.natCast_add (f.toNat+i*3) 2];exact bB rfl rfl
   have g0:Ev (KK (d+5) false) (sub (loc 2) (loc 5)) (qD n m sc f l (iV ((f.toNat+i*3:Nat):Int))) (bb σ m n p' S') (.d (.int (cell sc (f.toNat+i*3)))):=ut hs rfl rfl (by exact Nat.lt_of_succ_lt (IW hf hi'));have g1:Ev (KK (d+5) false) (sub (loc 2) (bin oAdd (loc 5) (ah 1))) (qD n m sc f l (iV ((f.toNat+i*3:Nat):Int))) (bb σ m n p' S') (.d (.int (cell sc (f.toNat+i*3+1)))):=ut hs rfl (e1 (.p 0 0) _) (by exact Nat.lt_of_succ_lt (Dg hf hi'));have g2':Ev (KK (d+5) false) (sub (loc 2) (bin oAdd (loc 5) (ah 2))) (qD n m sc f l (iV ((f.toNat+i*3:Nat):Int))) (bb σ m n p' S') (.d (.int (cell sc (f.toNat+i*3+2)))):=ut hs rfl (e2 (.p 0 0) _) (Dg hf hi');have ar:=clc (K:=KK (d+5) false) (ρ:=(qD n m sc f l (iV ((f.toNat+i*3:Nat):Int)))) (σ:=bb σ m n p' S') (a:=loc 0) (x:=.p n 0) rfl (clc (a:=loc 1) (x:=.p m 0) rfl (clc g0 (clc g1 (cl1 g2'))));exact ⟨_,_,aa (rL (nM (jj (ak ar e))) rfl) rfl,rfl,⟨p2,S2,_,rfl,rfl,by rw[Kd];exact g2,ke2.c.trans ke.c,ke2.m.trans ke.m,fun q=>kc (ke.k q),ke.g.trans ke2.g (ke.g.cl g.inc)⟩⟩
 refine k9 ?_;rw[List.nil_append,J',List.length_range] at g;refine ⟨p',S',g.mono (by omega),ke,aO t83 rfl (ρ:=(qD n m sc f l none)) rfl ?_ jR⟩;have ln:Ev (KK (d+5) false) (bi fLen (clC (loc 2) clN)) (qD n m sc f l none) σ (.d (.int sc.length)):=by
  have q:=g7 (hd:=false) (σ:=σ) (x:=.d (.lst (sc.map .int))) rfl (by rw[J'];exact aQ (o33 hs));rw[J'] at q;exact bx (cl1 rfl) q
 have mn:Ev (KK (d+5) false) (bi vO (clC (bin cD (bi fLen (clC (loc 2) clN)) (ah 2)) (clC (loc 4) clN))) (qD n m sc f l none) σ (.d (.int (min (sc.length - 2) l))):=bx (clc (ax ln rfl rfl rfl rfl) (cl1 rfl)) rfl;have rg:Ev (KK (d+5) false) (bi vN (clC (loc 3) (clC (bi vO (clC (bin cD (bi fLen (clC (loc 2) clN)) (ah 2)) (clC (loc 4) clN))) (clC (ah 3) clN)))) (qD n m sc f l none) σ (.d (.rng f (min (sc.length - 2) l) 3)):=by
  refine bx (clc rfl (clc mn (cl1 rfl))) ?_;show (al ((small f&&small (min (sc.length - 2) l)&&decide ((0:Int)<3)&&decide ((3:Int)<1000))=true) (PV.d (.rng f (min (sc.length - 2) l) 3))).map _=_;rw[aB (by rw[cC (by exact KO (by decide) hf.1) (by exact KO hf.2 (by decide)),cC (o90 hl) (by exact KO (Ld _ _) (KO (Int.sub_le_self _ (by decide)) (KO (KS.mpr hs) (by decide))))];rfl)];rfl
 exact aa (aT rg (cp i3.1) lp) (az (aq rfl))
end
section
variable {r:Sto} {d:Nat} {hd:Bool} {K:Ker} {ρ ρ':Rho} {σ σ':Sto}
theorem wH {c0 c1:Int}:∃ T,Nms T∧1≤T.length∧T.length≤4∧CC (d+2) false 87 [.d (.lst [.int c0,.int c1])] σ=some (.ok (.p σ.length 0),σ++[.fld (.list ((cy::T).map .str))]):=by
 refine aK fun G9 k9=> ?_;obtain ⟨n0,h0,f0,e0⟩:=iJ (d:=d) (σ:=σ) (n:=c0);obtain ⟨n1,h1,f1,e1⟩:=iJ (d:=d) (σ:=σ) (n:=c1);have ha:kz [97]:=⟨97,[],rfl,by decide,by decide,cY⟩;have hz:kz [122,57]:=⟨122,[57],rfl,by decide,by decide,by decide⟩;obtain ⟨v,hv,fv,x2⟩:∃ v,kz v∧v≠wn∧(sIf (aJ cEq (bin oMod (sub (loc 0) (ah 1)) (ah 2)) (ah 1)) (sC (lT (loc 1) (ah 1) (ao 40 (clC (sub (loc 1) (ah 0)) (clC (bin oDiv (sub (loc 0) (ah 1)) (ah 2)) (clC (aU Lv) clN))))) sN) sN).ex (KK (d+1) false) [dV (.lst [.int c0,.int c1]),qV σ.length,none,none] (σ++[.fld (.list [.str n0,.str n1,.str [97],.str [122,57]])])=some (.next [dV (.lst [.int c0,.int c1]),qV σ.length,none,none],σ++[.fld (.list [.str n0,.str v,.str [97],.str [122,57]])]):=by
  by_cases q:c1.fmod 2=1
  ·obtain ⟨k,y,hk,hy,e2⟩:=qj (d:=d) (hd:=false) (σ:=σ++[.fld (.list [.str n0,.str n1,.str [97],.str [122,57]])]) (n:=c1.fdiv 2) (t:=n0) (sg:=lQ) (yE h0).1 (by have:=(yE h0).2;exact Km this (Kj rfl)) rfl;have s1:=gB (σ:=σ++[.fld (.list [.str n0,.str n1,.str [97],.str [122,57]])]) (n:=σ.length) (j:=0) (k:=.int (1:Nat)) (v:=.str (n0.set k y)) bL (xM (Kj rfl) (Kj rfl));rw[cz] at s1;exact ⟨n0.set k y,Dj h0 hy,f0 k y,bW (ai (ck (aA rfl rfl rfl rfl (ba rfl)) (by decide) (by decide)) rfl rfl rfl (fh q)) (aa (gz (ak (clc (aA rfl rfl (dC rfl) rfl (ba rfl)) (clc (bw (aA rfl rfl rfl rfl (ba rfl)) (by decide) (by decide)) (cl1 rfl))) e2) rfl rfl s1) rfl)⟩
  ·exact ⟨n1,h1,uz f1,a_ (ai (ck (aA rfl rfl rfl rfl (ba rfl)) (by decide) (by decide)) rfl rfl rfl (ii q)) rfl⟩
 obtain ⟨ρ3,s3,lp,T,x3,rfl,rfl,hT,hl1,hl2⟩:=iX (v:=.p σ.length 0) (x:=.lst [.str n0,.str v,.str [97],.str [122,57]]) (i:=3) (b:=fun ρ=>(sC (sIf (aJ cNotIn (loc 3) (loc 2)) (sC (aM (bm aH (loc 2) (clC (loc 3) clN))) sN) sN) sN).ex (KK (d+1) false) ρ) 4
  (fun pre ρ s=>∃ T x3,ρ=[dV (.lst [.int c0,.int c1]),qV σ.length,some (.p (σ++[PO.fld (.list [.str n0,.str v,.str [97],.str [122,57]])]).length 0),x3]∧s=(σ++[.fld (.list [.str n0,.str v,.str [97],.str [122,57]])])++[.fld (.list ((cy::T).map .str))]∧Nms T∧T.length≤pre.length∧(D.str [97]∈pre→1≤T.length))
  [.str n0,.str v,.str [97],.str [122,57]] [] [dV (.lst [.int c0,.int c1]),qV σ.length,some (.p (σ++[PO.fld (.list [.str n0,.str v,.str [97],.str [122,57]])]).length 0),none] ((σ++[.fld (.list [.str n0,.str v,.str [97],.str [122,57]])])++[.fld (.list [.str cy])]) (Kj rfl) ⟨[],none,rfl,rfl,⟨K3,fun h=>Ky h,cY,fun h=>Ky h⟩,Ko _,fun h=>absurd h Ky⟩ fun pre x ρ s hx hp H9=>by
   obtain ⟨T,x3,r1,r2,r3,r4,r5⟩:=H9;subst r1 r2;obtain ⟨w,rfl,hw,fw⟩:∃ w,x= .str w∧kz w∧w≠wn:=by
    rcases Kb.mp hx with rfl|hx
    ·exact ⟨_,rfl,h0,uz f0⟩
    rcases Kb.mp hx with rfl|hx
    ·exact ⟨_,rfl,hv,fv⟩
    rcases Kb.mp hx with rfl|hx
    ·exact ⟨_,rfl,ha,by decide⟩
    ·rw[Ki.mp hx];exact ⟨_,rfl,hz,by decide⟩
   have hst:∀ o:PO,bp ((σ++[.fld (.list [.str n0,.str v,.str [97],.str [122,57]])])++[o]) (.lst [.str n0,.str v,.str [97],.str [122,57]]) (.p σ.length 0)=true:=fun o=>fo (yd (dC rfl));by_cases q:w∈cy::T
   ·refine ⟨_,_,aa (a_ (ai rfl rfl rfl (dC rfl) (vp q)) rfl) rfl,hst _,⟨T,_,rfl,rfl,r3,by rw[Kd];exact o69 r4,fun h=> ?_⟩⟩;rcases Kv.mp h with h|h
    ·exact r5 h
    ·cases Ki.mp h;rcases Kb.mp q with q|q
     ·cases q
     ·exact List.length_pos_of_mem q
   ·have e:=bG (K:=KK (d+1) false) (ρ:=[dV (.lst [.int c0,.int c1]),qV σ.length,some (.p (σ++[PO.fld (.list [.str n0,.str v,.str [97],.str [122,57]])]).length 0),sV w]) (o:=loc 2) (a:=loc 3) (y:=.str w) (l:=(cy::T).map .str) (σ:=(σ++[.fld (.list [.str n0,.str v,.str [97],.str [122,57]])])++[.fld (.list ((cy::T).map .str))]) rfl rfl bL (by rw[J',Kk];exact cn (by exact Km (Nat.succ_le_of_lt (KE r4 hp)) (by decide)));rw[cz] at e;refine ⟨_,_,aa (bW (ai rfl rfl rfl (dC rfl) (vo q)) (aa (au e) rfl)) rfl,hst _,⟨T++[w],_,rfl,?_,⟨?_,fun h=> ?_,fun y hy=> ?_,fun h=> ?_⟩,by rw[Kd,Kd];exact Nat.add_le_add_right r4 1,fun _=>by rw[Kd,Kn];exact o19⟩⟩
    ·rw[←List.cons_append,List.map_append];rfl
    ·exact List.nodup_append.mpr ⟨r3.nd,K0.mpr ⟨Ky,K3⟩,fun a ha c hc=>by rw[Ki.mp hc];rintro rfl;exact q (.tail _ ha)⟩
    ·rcases Kv.mp h with h|h
     ·exact r3.ne h
     ·exact q (by rw[←Ki.mp h];exact .head _)
    ·rcases Kv.mp hy with hy|hy
     ·exact r3.nm y hy
     ·rw[Ki.mp hy];exact hw
    ·rcases Kv.mp h with h|h
     ·exact r3.st h
     ·exact fw (Ki.mp h).symm
 refine k9 ?_;refine ⟨T,hT,hl2 (.tail _ (.tail _ (.head _))),hl1,?_⟩;refine Ec (f':=.list ((cy::T).map .str)) t87 rfl (ρ:=[dV (.lst [.int c0,.int c1]),none,none,none]) rfl ?_ (by rw[Kd];exact K9 _ _) dG (congrArg (· ++[PO.fld (.list ((cy::T).map .str))]) (tk2 σ (.fld (.list [.str n0,.str v,.str [97],.str [122,57]])) (.fld (.list ((cy::T).map .str)))));have a0:Ev (KK (d+1) false) (sub (loc 0) (ah 0)) [dV (.lst [.int c0,.int c1]),none,none,none] σ (.d (.int c0)):=aA rfl rfl rfl rfl (ba (k:=0) rfl);have a1:Ev (KK (d+1) false) (sub (loc 0) (ah 1)) [dV (.lst [.int c0,.int c1]),none,none,none] σ (.d (.int c1)):=aA rfl rfl rfl rfl (ba (k:=1) rfl);refine aa (an (co (clc (ak (cl1 a0) e0) (clc (ak (cl1 a1) e1) (clc rfl (cl1 rfl))))) rfl) ?_;refine aa x2 ?_;refine aa (an (co (cl1 rfl)) rfl) ?_;refine aa (aT rfl (ua (yd (dC rfl)) (Kj rfl)) lp) ?_;exact az (aq rfl)
theorem pO {ds:Sto} {o:PO}:(σ++(o::ds))[σ.length]? =some o:=by rw[KA (Ko _),Nat.sub_self];rfl
theorem oR {ds:Sto} {o o':PO}:(σ++(o::ds)).set σ.length o'=σ++(o'::ds):=by rw[List.set_append_right _ _ (Ko _),Nat.sub_self];rfl
theorem kP {ds:Sto} {b:Bool} {l:List Fld}:bJ b (σ++(.rcd b l::ds)) σ.length=some l:=by
 unfold bJ;rw[pO];exact if_pos rfl
theorem fY {ds ds':Sto} {b:Bool} {l:List Fld}:bJ b ((σ++(.rcd b l::ds))++ds') σ.length=some l:=by
 rw[List.append_assoc,List.cons_append];exact kP
theorem jP {ds:Sto} {o o':PO} {f:Fld}:(((σ++(o::ds))++[PO.fld f]).set (σ++(o::ds)).length PO.dead).set σ.length o'=σ++(o'::(ds++[.dead])):=by
 rw[kL,List.append_assoc,List.cons_append,oR]
theorem fj {o a:CE} {k:Nat} {l:List Fld} {ds:Sto} {f:Fld} {x:D} (ha:a.ev K ρ (σ++(.rcd true l::ds))=some (.ok (.p (σ++(.rcd true l::ds)).length 0),(σ++(.rcd true l::ds))++[.fld f])) (he:Ev K o ρ ((σ++(.rcd true l::ds))++[.fld f]) (.p σ.length 0)) (hk:k=l.length) (hr:f.rd=some x):(gZ o k a).ex K ρ (σ++(.rcd true l::ds))=some (.next ρ,σ++(.rcd true (l++[f])::(ds++[.dead]))):=by
 refine sw ha he ?_;show (bJ true ((σ++(.rcd true l::ds))++[.fld f]) σ.length).bind _=_;rw[fY,Ka,aB hk,Ka];show (al ((σ++(.rcd true l::ds)).length≠σ.length) ()).bind _=_;rw[aB (by rw[Kd,Kk];exact o40),Ka,bL,Ka,hr];exact congrArg some jP
noncomputable def st0 (h:List Nat):St:=⟨h,[cy],[],[],[],[],[],[]⟩
theorem ze {h:List Nat} (hc:aX h=true):CC (d+2) false 0 [.p σ.length 0,.d (.str h)] (σ++[.rcd true []])=some (.ok (.d .none),σ++[bk (st0 h)]):=by
 have l0:∀ s,Ev (KK (d+1) false) (loc 0) [qV σ.length,sV h] s (.p σ.length 0):=fun s=>rfl;have a1:(gZ (loc 0) 0 (loc 1)).ex (KK (d+1) false) [qV σ.length,sV h] (σ++[.rcd true []])=some (.next [qV σ.length,sV h],σ++[.rcd true [.d (.str h)]]):=by
  refine sw (v:=.d (.str h)) rfl (l0 _) ?_;show (bJ true (σ++[.rcd true []]) σ.length).bind _=_;rw[kP,Ka,aB (show 0=([]:List Fld).length from rfl),Ka];exact congrArg some oR
 have a2:=fj (K:=KK (d+1) false) (ρ:=[qV σ.length,sV h]) (σ:=σ) (o:=loc 0) (a:=eJ (clC (aU Lo) clN)) (k:=1) (l:=[.d (.str h)]) (ds:=[]) (f:=.list [.str cy]) (co (cl1 rfl)) (l0 _) rfl rfl;have a3:=fj (K:=KK (d+1) false) (ρ:=[qV σ.length,sV h]) (σ:=σ) (o:=loc 0) (a:=hW) (k:=2) (l:=[.d (.str h),.list [.str cy]]) (ds:=[.dead]) (f:=.dict [] []) rfl (l0 _) rfl rfl;have a4:=fj (K:=KK (d+1) false) (ρ:=[qV σ.length,sV h]) (σ:=σ) (o:=loc 0) (a:=eJ clN) (k:=3) (l:=[.d (.str h),.list [.str cy],.dict [] []]) (ds:=[.dead,.dead]) (f:=.list []) (co rfl) (l0 _) rfl rfl;have a5:=fj (K:=KK (d+1) false) (ρ:=[qV σ.length,sV h]) (σ:=σ) (o:=loc 0) (a:=hW) (k:=4) (l:=[.d (.str h),.list [.str cy],.dict [] [],.list []]) (ds:=[.dead,.dead,.dead]) (f:=.dict [] []) rfl (l0 _) rfl rfl;have a6:=fj (K:=KK (d+1) false) (ρ:=[qV σ.length,sV h]) (σ:=σ) (o:=loc 0) (a:=eJ clN) (k:=5) (l:=[.d (.str h),.list [.str cy],.dict [] [],.list [],.dict [] []]) (ds:=[.dead,.dead,.dead,.dead]) (f:=.list []) (co rfl) (l0 _) rfl rfl;have a7:=fj (K:=KK (d+1) false) (ρ:=[qV σ.length,sV h]) (σ:=σ) (o:=loc 0) (a:=eJ clN) (k:=6) (l:=[.d (.str h),.list [.str cy],.dict [] [],.list [],.dict [] [],.list []]) (ds:=[.dead,.dead,.dead,.dead,.dead]) (f:=.list []) (co rfl) (l0 _) rfl rfl;refine eS t0 rfl (ρ:=[qV σ.length,sV h]) rfl (aa (au (ak (cl1 rfl) (bU hc))) (aa a1 (aa a2 (aa a3 (aa a4 (aa a5 (aa a6 (aa a7 rfl)))))))) ?_;have e:σ++(bk (st0 h)::[.dead,.dead,.dead,.dead,.dead,.dead])=(σ++[bk (st0 h)])++[.dead,.dead,.dead,.dead,.dead,.dead]:=by rw[List.append_assoc];rfl
 show (σ++(bk (st0 h)::[.dead,.dead,.dead,.dead,.dead,.dead])).take (σ++[PO.rcd true []]).length=_;rw[e,show (σ++[PO.rcd true []]).length=(σ++[bk (st0 h)]).length by rw[Kd,Kd];rfl];exact List.take_left
theorem Cu {p s f:Nat} {kp:Bool} {b:CS} {args:List PV} {o:PO} {ds σ'':Sto} (hT:TT f=some ⟨p,s,kp,b.ex⟩) (hl:args.length=p) (hr:args.map some++List.replicate (s - p) none=ρ) (h:b.ex (KK d hd) ρ σ=some (.ret (.p σ.length 0),σ++(o::ds))) (ho:∀ f,o≠ .fld f) (k:σ++[o]=σ''):CC (d+1) hd f args σ=some (.ok (.p σ.length 0),σ''):=
 oq hT hl hr h (by
  show (if σ.length<σ.length then _ else yc kp σ.length (σ++(o::ds)) 0 (σ++(o::ds))[σ.length]?)=_;rw[if_neg (KY _),pO,←k];cases o with
  |fld f=>exact absurd rfl (ho f)
  |rcd i l=>show some (R.ok (PV.p σ.length 0),(σ++(PO.rcd i l::ds)).take σ.length++[.rcd i l])=_;rw[List.take_left]
  |dead=>show some (R.ok (PV.p σ.length 0),(σ++(PO.dead::ds)).take σ.length++[.dead])=_;rw[List.take_left]
  |wrp f=>show some (R.ok (PV.p σ.length 0),(σ++(PO.wrp f::ds)).take σ.length++[.wrp f])=_;rw[List.take_left])
theorem pD {tb:List (List Nat)} {k:Nat} {o a:CE} {s:List Nat} {y:D} {l:List Fld} {ds:Sto} (ha:Ev K a ρ (σ++(.rcd false l::ds)) (.d y)) (ho:Ev K o ρ (σ++(.rcd false l::ds)) (.p σ.length 0)) (ht:tb[k]? =some s) (hk:k=l.length) (h9:k<100):(jn tb k o (aU s) a).ex K ρ (σ++(.rcd false l::ds))=some (.next ρ,σ++(.rcd false (l++[.d y])::ds)):=by
 refine bf ha (bf ho (bf (a:=.d (.str s)) (σ':=σ++(.rcd false l::ds)) rfl ?_));show (fZ tb k (.d y) (.p σ.length 0) (.d (.str s)) (σ++(.rcd false l::ds))).bind _=_;unfold fZ;rw[ht,Ka,aB (show dX (.d (.str s))=some s from rfl),Ka];show ((bJ false (σ++(.rcd false l::ds)) σ.length).bind _).bind _=_;rw[kP,Ka];show (if k=l.length then al (k<100) _ else _).bind _=_;rw[if_pos hk,aB h9,oR];rfl
theorem A' {tb:List (List Nat)} {o i a:CE} {s:List Nat} {l:List Fld} {ds:Sto} {f:Fld} {x:D} (ha:a.ev K ρ (σ++(.rcd false l::ds))=some (.ok (.p (σ++(.rcd false l::ds)).length 0),(σ++(.rcd false l::ds))++[.fld f])) (ho:Ev K o ρ ((σ++(.rcd false l::ds))++[.fld f]) (.p σ.length 0)) (hi:Ev K i ρ ((σ++(.rcd false l::ds))++[.fld f]) (.d (.str s))) (ht:tb[l.length]? =some s) (h9:l.length<100) (hr:f.rd=some x):(Ca tb o i a).ex K ρ (σ++(.rcd false l::ds))=some (.next ρ,σ++(.rcd false (l++[f])::(ds++[.dead]))):=by
 refine bf ha (bf ho (bf hi ?_));show (fZ tb (eI (.p σ.length 0) ((σ++(.rcd false l::ds))++[.fld f])) (.p (σ++(.rcd false l::ds)).length 0) (.p σ.length 0) (.d (.str s)) ((σ++(.rcd false l::ds))++[.fld f])).bind _=_;have rl:eI (.p σ.length 0) ((σ++(.rcd false l::ds))++[.fld f])=l.length:=by
  show ((bJ false ((σ++(.rcd false l::ds))++[.fld f]) σ.length).getD []).length=_;rw[fY];rfl
 unfold fZ;rw[rl,ht,Ka,aB (show dX (.d (.str s))=some s from rfl),Ka];show ((bJ false ((σ++(.rcd false l::ds))++[.fld f]) σ.length).bind _).bind _=_;rw[fY,Ka];show ((al (l.length=l.length∧l.length<100∧(σ++(.rcd false l::ds)).length≠σ.length) ()).bind _).bind _=_;rw[aB ⟨rfl,h9,by rw[Kd,Kk];omega⟩,Ka,bL,Ka,hr];show some (Out.next ρ,(((σ++(.rcd false l::ds))++[PO.fld f]).set (σ++(.rcd false l::ds)).length .dead).set σ.length (.rcd false (l++[f])))=_;rw[jP]
end
section
variable {d m n N:Nat} {hd:Bool} {K:Ker} {ρ ρ':Rho} {σ σ':Sto} {p p':Pl} {S S':St} {sc:List Int} {e:CE}
theorem xe {s:List Nat} {a:CE} {f:Fld} {x:D} (ha:a.ev K ρ (σ++[.rcd false []])=some (.ok (.p (σ++[PO.rcd false []]).length 0),(σ++[.rcd false []])++[.fld f])) (hr:f.rd=some x):(yF s a).ev K ρ σ=some (.ok (.p σ.length 0),σ++(.rcd false [f]::[.dead])):=by
 show bnd (fN (.rcd false [])) (fun x=>bnd ((aU s).ev K ρ) fun y=>bnd (a.ev K ρ) fun v=>xL s x y v) σ=_;refine av (m:=fN (.rcd false [])) (a:=PV.p σ.length 0) (σ':=σ++[PO.rcd false []]) rfl ?_;refine av (m:=(aU s).ev K ρ) (a:=PV.d (.str s)) (σ':=σ++[PO.rcd false []]) rfl (av ha ?_);have rl:eI (.p σ.length 0) ((σ++[.rcd false []])++[.fld f])=0:=by
  show ((bJ false ((σ++[.rcd false []])++[.fld f]) σ.length).getD []).length=_;rw[fY];rfl
 show (al (eI (.p σ.length 0) ((σ++[.rcd false []])++[.fld f])=0) ()).bind _=_;rw[aB rl,Ka];show (fZ [s] 0 (.p (σ++[PO.rcd false []]).length 0) (.p σ.length 0) (.d (.str s)) ((σ++[.rcd false []])++[.fld f])).map _=_;unfold fZ;show ((al (dX (.d (.str s))=some s) ()).bind fun _=>AE 0 (.p σ.length 0) (.p (σ++[PO.rcd false []]).length 0) ((σ++[.rcd false []])++[.fld f])).map _=_;rw[aB (show dX (.d (.str s))=some s from rfl),Ka];show ((bJ false ((σ++[.rcd false []])++[.fld f]) σ.length).bind _).map _=_;rw[fY,Ka];show ((al (0=([]:List Fld).length∧0<100∧(σ++[PO.rcd false []]).length≠σ.length) ()).bind _).map _=_;rw[aB ⟨rfl,by decide,by rw[Kd,Kk];exact o40⟩,Ka,bL,Ka,hr];show some (R.ok (PV.p σ.length 0),(((σ++(PO.rcd false []::[]))++[PO.fld f]).set (σ++(PO.rcd false []::[])).length .dead).set σ.length (.rcd false [f]))=_;rw[jP];rfl
theorem Ba {l:List Fld} {ds:Sto} {k:Nat} {s:List Nat} {f:Fld} (he:Ev K e ρ (σ++(.rcd false l::ds)) (.p σ.length 0)) (hf:l[k]? =some f):Ev K (key e k s) ρ (σ++(.rcd false l::ds)) (ux σ.length k f):=by
 refine av he (av (a:=.d (.str s)) (σ':=σ++(.rcd false l::ds)) rfl ?_);show (al (dX (.d (.str s))=some s) ()).bind (fun _=>kg false k (.p σ.length 0) (σ++(.rcd false l::ds)))=_;rw[aB (show dX (.d (.str s))=some s from rfl),Ka];show (bJ false (σ++(.rcd false l::ds)) σ.length).bind _=_;rw[kP,Ka,hf];rfl
noncomputable def pl0 (T F:List (List Nat)) (mo:Int):Pl:=⟨cy::T,(T.length:Int)+1,F,[],[],[],[],[],mo,[]⟩
theorem wC (hs:sc.length≤63):∃ T F,Nms T∧1≤T.length∧T.length≤4∧F.Nodup∧(∀ x∈F,aX x=true)∧3≤F.length∧F.length≤8∧CC (d+3) false 176 [.d (.lst (sc.map .int))] σ=some (.ok (.p σ.length 0),σ++[pk (pl0 T F 2)]):=by
 obtain ⟨T,hT,hT1,hT4,eN⟩:=wH (d:=d) (σ:=σ++[.rcd false []]) (c0:=cell sc 0) (c1:=cell sc 1);generalize hnm:(cy::T).map D.str=nm at eN;have nml:nm.length=T.length+1:=by rw[←hnm,J'];rfl
 obtain ⟨F,hF,hC,hF3,hF10,eF⟩:=mK (d:=d) (σ:=σ++(.rcd false [.list nm,.d (.int ((T.length:Int)+1))]::[.dead])) (c0:=cell sc 2) (c1:=cell sc 3);refine ⟨T,F,hT,hT1,hT4,hF,hC,hF3,hF10,?_⟩;have l1:∀ x s,Ev (KK (d+2) false) (loc 1) [dV (.lst (sc.map .int)),qV σ.length,x] s (.p σ.length 0):=fun _ _=>rfl;have cells:∀ i j x s,i≤100→j≤100→Ev (KK (d+2) false) (lst (clC (ao 33 (clC (loc 0) (clC (ah (i:Nat)) clN))) (clC (ao 33 (clC (loc 0) (clC (ah (j:Nat)) clN))) clN))) [dV (.lst (sc.map .int)),x,none] s (.d (.lst [.int (cell sc i),.int (cell sc j)])):=fun i j x s hi hj=>dO (clc (zD (d:=d+1) hs rfl rfl (o41 hi)) (cl1 (zD (d:=d+1) hs rfl rfl (o41 hj))));have ln:Ev (KK (d+2) false) (bi fLen (clC (key (loc 1) 0 Lj) clN)) [dV (.lst (sc.map .int)),qV σ.length,none] (σ++(.rcd false [.list nm]::[.dead])) (.d (.int ((T.length:Int)+1))):=by
  have q:=eM (K:=KK (d+2) false) (ρ:=[dV (.lst (sc.map .int)),qV σ.length,none]) (σ:=σ++(.rcd false [.list nm]::[.dead])) (Ba (k:=0) (s:=Lj) (f:=.list nm) (l1 _ _) rfl) (x:=.p σ.length 2) (l:=nm) (by show (a8 _ _ _).bind _=_;unfold a8;rw[pO];rfl) (IV hT4 nml);rw[nml] at q;exact q
 have k1:=pD (K:=KK (d+2) false) (ρ:=[dV (.lst (sc.map .int)),qV σ.length,none]) (σ:=σ) (tb:=dm) (k:=1) (o:=loc 1) (a:=bi fLen (clC (key (loc 1) 0 Lj) clN)) (l:=[.list nm]) (ds:=[.dead]) ln (l1 _ _) rfl rfl (by decide);have k2:=pD (K:=KK (d+2) false) (ρ:=[dV (.lst (sc.map .int)),qV σ.length,none]) (σ:=σ) (tb:=dm) (k:=2) (o:=loc 1) (a:=ao 42 (clC (lst (clC (ao 33 (clC (loc 0) (clC (ah 2) clN))) (clC (ao 33 (clC (loc 0) (clC (ah 3) clN))) clN))) clN)) (l:=[.list nm,.d (.int ((T.length:Int)+1))]) (ds:=[.dead]) (y:=.lst (F.map .str)) (ak (cl1 (cells 2 3 _ _ (by decide) (by decide))) eF) (l1 _ _) rfl rfl (by decide);have kn:∀ (l:List Fld) (ds:Sto) (s:List Nat),dm[l.length]? =some s→l.length<100→lw_plain6_f1.ex (KK (d+2) false) [dV (.lst (sc.map .int)),qV σ.length,sV s] (σ++(.rcd false l::ds))=some (.next [dV (.lst (sc.map .int)),qV σ.length,sV s],σ++(.rcd false (l++[.list []])::(ds++[.dead]))):=fun l ds s ht h9=>aa (A' (f:=.list []) (co rfl) (l1 _ _) rfl ht h9 rfl) rfl;have lp:cx (.d (.lst [.str Lk,.str Lp,.str Ln,.str Lq,.str Lm])) (.lst [.str Lk,.str Lp,.str Ln,.str Lq,.str Lm]) 2 (fun ρ=>lw_plain6_f1.ex (KK (d+2) false) ρ) [.str Lk,.str Lp,.str Ln,.str Lq,.str Lm] [dV (.lst (sc.map .int)),qV σ.length,none] (σ++(.rcd false [.list nm,.d (.int ((T.length:Int)+1)),.d (.lst (F.map .str))]::[.dead]))=some (.next [dV (.lst (sc.map .int)),qV σ.length,sV Lm],σ++(.rcd false [.list nm,.d (.int ((T.length:Int)+1)),.d (.lst (F.map .str)),.list [],.list [],.list [],.list [],.list []]::[.dead,.dead,.dead,.dead,.dead,.dead])):=
  aN (kn _ _ _ rfl (Kj rfl)) rfl (aN (kn _ _ _ rfl (Kj rfl)) rfl (aN (kn _ _ _ rfl (Kj rfl)) rfl (aN (kn _ _ _ rfl (Kj rfl)) rfl (aN (kn _ _ _ rfl (Kj rfl)) rfl rfl))))
 have k8:=pD (K:=KK (d+2) false) (ρ:=[dV (.lst (sc.map .int)),qV σ.length,sV Lm]) (σ:=σ) (tb:=dm) (k:=8) (o:=loc 1) (a:=ah 2) (l:=[.list nm,.d (.int ((T.length:Int)+1)),.d (.lst (F.map .str)),.list [],.list [],.list [],.list [],.list []]) (ds:=[.dead,.dead,.dead,.dead,.dead,.dead]) (y:=.int 2) rfl (l1 _ _) rfl rfl (by decide);refine Cu (o:=.rcd false [.list nm,.d (.int ((T.length:Int)+1)),.d (.lst (F.map .str)),.list [],.list [],.list [],.list [],.list [],.d (.int 2)]) (ds:=[.dead,.dead,.dead,.dead,.dead,.dead]) Ge rfl (ρ:=[dV (.lst (sc.map .int)),none,none]) rfl ?_ (fun _=>PO.noConfusion) (by rw[←hnm];rfl);exact aa (an (xe (ak (cl1 (cells 0 1 none _ (by decide) (by decide))) eN) rfl) rfl) (aa k1 (aa k2 (aa (aT (dO rfl) (cp rfl) lp) (aa k8 (az (aq rfl))))))
theorem nh {v:D}:∀ (T:List (List Nat)) (S:St) (x2:Option PV),Sh S→(∀ x∈T,kz x∧x∉S.names)→T.Nodup→S.names.length+T.length≤100→S.deeds.length+T.length≤100→∃ y2,cx (.d v) v 2 (fun ρ=>lw_book_f1.ex (KK (d+2) false) ρ) (T.map .str) [qV m,qV σ.length,x2] (σ++[bk S])=some (.next [qV m,qV σ.length,y2],σ++[bk {S with names:=S.names++T,deeds:=S.deeds++T.map ng}])
 |[],S,x2,_,_,_,_,_=>⟨x2,by simp only [List.map_nil,List.append_nil];rfl⟩
 |b::T,S,x2,sh,h,nd,l1,l2=>by
  rw[Kk] at l1 l2;have B:Bk (σ++[bk S]) σ.length S:=dG;have ar:=nf (d:=d) B sh (h b (.head _)).1 (h b (.head _)).2;rw[kL] at ar;obtain ⟨y2,e⟩:=nh T (qe S b) (sV b) ⟨by show (S.names++[b]).length≤_;rw[Kd,Kn];exact IU l1,sh.t,sh.m,sh.g,sh.e,by show (S.deeds++[ng b]).length≤_;rw[Kd,Kn];exact IT l2⟩ (fun x hx=>⟨(h x (.tail _ hx)).1,fun z=>by
   rcases Kv.mp z with z|z
   ·exact (h x (.tail _ hx)).2 z
   ·rw[Ki.mp z] at hx;exact (K0.mp nd).1 hx⟩) (K0.mp nd).2 (by show (S.names++[b]).length+_≤_;rw[Kd,Kn];exact o91 l1) (by show (S.deeds++[ng b]).length+_≤_;rw[Kd,Kn];exact o91 l2)
  refine ⟨y2,aN (aa (au (bq B rfl (cl1 rfl) ar)) rfl) rfl (e.trans ?_)⟩;simp only [qe,List.append_assoc,List.map_cons];rfl
noncomputable def bk0 (h:List Nat) (T:List (List Nat)):St:=⟨h,cy::T,[],[],[],[],[],T.map ng⟩
theorem AX {h:List Nat} {l:CL} (hl:l.ev (KK (d+2) false) ρ σ=some (.ok [.d (.str h)],σ)) (hh:aX h=true):(Fx l).ev (KK (d+2) false) ρ σ=some (.ok (.p σ.length 0),σ++[bk (st0 h)]):=by
 refine av hl ?_;refine av (m:=Fw) (a:=PV.p σ.length 0) (σ':=σ++[PO.rcd true []]) rfl ?_;refine av (ze (d:=d) hh) ?_;rfl
theorem Ab {h:List Nat} {T G:List (List Nat)} (R:Rk σ m p) (hn:p.names=cy::T) (hc:p.curs=h::G) (hh:aX h=true) (hT:Nms T) (ht:T.length≤10):CC (d+3) false 86 [.p m 0] σ=some (.ok (.p σ.length 0),σ++[bk (bk0 h T)]):=by
 have sh0:Sh (st0 h):=⟨Kj rfl,Kj rfl,Kj rfl,Kj rfl,Kj rfl,Kj rfl⟩;obtain ⟨y2,lp⟩:=nh (d:=d) (m:=m) (σ:=σ) (v:=.lst (T.map .str)) T (st0 h) none sh0 (fun x hx=>⟨hT.nm x hx,fun z=>by rw[Ki.mp z] at hx;exact hT.ne hx⟩) hT.nd (by show 1+_≤_;exact Km (KW ht 1) (Kj rfl)) (by show 0+_≤_;exact Km (KW ht 0) (Kj rfl));refine Cu (o:=bk (bk0 h T)) (ds:=[]) t86 rfl (ρ:=[qV m,none,none]) rfl ?_ (fun f h=>nomatch (show PO.rcd true (kE _)= .fld f from h)) rfl;have e0:Ev (KK (d+2) false) (sub (key (loc 0) 2 Ll) (ah 0)) [qV m,none,none] σ (.d (.str h)):=aA (h_ R rfl) rfl rfl rfl (ba (k:=0) (by rw[hc];rfl));have R':Rk (σ++[bk (st0 h)]) m p:=R.app;have sl:=CV (l:=p.names.map D.str) (by rw[J',hn,Kk];exact o19) (by rw[J',hn,Kk];exact IS ht);rw[show (p.names.map D.str).drop 1=T.map .str by rw[hn];rfl] at sl;refine aa (an (AX (cl1 e0) hh) rfl) ?_;refine aa (aT (ix (cJ R' rfl) (sA rfl) rfl (cI R') rfl rfl sl) (cp (if_pos (by rw[J'];exact aQ (o92 ht)))) lp) ?_;exact az (aq rfl)
theorem gd0 {h:List Nat} {T G:List (List Nat)} {mo:Int} (hT:Nms T) (h1:1≤T.length) (h4:T.length≤4) (hF:(h::G).Nodup) (hC:∀ x∈h::G,aX x=true) (h3:3≤(h::G).length) (h10:(h::G).length≤8):Gd 10 (pl0 T (h::G) mo) (bk0 h T):=by
 exact {names:=rfl,nm:=⟨T,rfl,hT,h1⟩,nl:=by show (cy::T).length≤7;rw[Kk];exact KE h4 (Kj rfl),nd:=hF,ic:=hC,c3:=h3,c10:=h10,home:=rfl,made:=rfl,ends:=rfl,gone:=rfl,tell:=⟨[],rfl,rfl,fun c=>⟨[],rfl,zN,Ko _⟩,Ko _⟩,rw:=cY,ent:=cY,cl1:=Int.le_refl _,cl2:=(by decide:cl []≤99999),l1:=KI _,l2:=KI _,l3:=KI _,l4:=KI _,l5:=KI _,l6:=by show (T.map ng).length≤10;rw[J'];exact o93 h4,cu:=cY,nos:=rfl,inc:=⟨List.pairwise_singleton _ _,fun _ h=>absurd h Ky⟩}
end
noncomputable abbrev Pr2:=List Nat×List Nat
noncomputable def mkp (x:Pr2):D:=.tup [.str x.1,.str x.2]
theorem mkp_inj {a b:Pr2}:mkp a=mkp b↔a=b:=by
 constructor
 ·intro h;injection h with h;injection h with h1 h2;injection h1 with h1;injection h2 with h2 _;injection h2 with h2;exact Prod.ext h1 h2
 ·intro h;rw[h]
open Classical in
theorem pw (a:Pr2):∀ l:List (Pr2×D),fM (mkp a) (l.map fun x=>mkp x.1) (l.map (·.2))=ch a l
 |[]=>rfl
 |x::l=>by
  show (if mkp x.1=mkp a then some x.2 else fM (mkp a) (l.map fun x=>mkp x.1) (l.map (·.2)))=if x.1=a then some x.2 else ch a l;rw[pw a l];by_cases h:x.1=a
  ·rw[if_pos h,if_pos (mkp_inj.mpr h)]
  ·rw[if_neg h,if_neg fun z=>h (mkp_inj.mp z)]
open Classical in
theorem vg (a:Pr2) (v:D):∀ l:List (Pr2×D),iB (mkp a) (l.map fun x=>mkp x.1)=(cG a v l).map fun x=>mkp x.1
 |[]=>rfl
 |x::l=>by
  show (if mkp x.1=mkp a then mkp x.1::l.map (fun x=>mkp x.1) else mkp x.1::iB (mkp a) (l.map fun x=>mkp x.1))=(if x.1=a then (x.1,v)::l else x::cG a v l).map fun x=>mkp x.1;rw[vg a v l];by_cases h:x.1=a
  ·rw[if_pos h,if_pos (mkp_inj.mpr h)];rfl
  ·rw[if_neg h,if_neg fun z=>h (mkp_inj.mp z)];rfl
open Classical in
theorem vd (a:Pr2) (v:D):∀ l:List (Pr2×D),iA (mkp a) v (l.map fun x=>mkp x.1) (l.map (·.2))=(cG a v l).map (·.2)
 |[]=>rfl
 |x::l=>by
  show (if mkp x.1=mkp a then v::l.map (·.2) else x.2::iA (mkp a) v (l.map fun x=>mkp x.1) (l.map (·.2)))=(if x.1=a then (x.1,v)::l else x::cG a v l).map (·.2);rw[vd a v l];by_cases h:x.1=a
  ·rw[if_pos h,if_pos (mkp_inj.mpr h)];rfl
  ·rw[if_neg h,if_neg fun z=>h (mkp_inj.mp z)];rfl
theorem pT {a:Pr2} {l:List (Pr2×D)}:mG (mkp a) (l.map fun x=>mkp x.1)=true:=by
 have:(l.map fun x=>mkp x.1).all iQ=true:=List.all_eq_true.mpr fun x hx=>by
  obtain ⟨y,_,e⟩:=Kt.mp hx;rw[←e];rfl
 show (true&&(l.map fun x=>mkp x.1).all iQ)=true;rw[this];rfl
section
variable {d m n N:Nat} {hd:Bool} {K:Ker} {ρ ρ':Rho} {σ σ':Sto} {p p':Pl} {S S':St} {e:CE}
theorem BB {o a b:CE} {x:PV} {l:List (Pr2×D)} {k:Pr2} {z:D} (h:Ev K o ρ σ x) (r1:rd σ x=some (.dct (l.map fun x=>mkp x.1) (l.map (·.2)))) (h1:Ev K a ρ σ (.d (mkp k))) (h2:Ev K b ρ σ (.d z)):Ev K (Ad o (clC a (clC b clN))) ρ σ (.d ((ch k l).getD z)):=by
 refine av h ?_;show (match (rd σ x).any w9 with|true=>_|false=>none)=_
 rw[r1];refine av (clc h1 (cl1 h2)) ?_;show ((rd σ x).bind fun u=>(mC u (mkp k) z).map _)=_;rw[r1,Ka];show (al (mG (mkp k) (l.map fun x=>mkp x.1)=true) _).map _=_;rw[aB pT,pw];rfl
theorem qo {o i a:CE} {n j:Nat} {l:List (Pr2×D)} {k:Pr2} {v:D} (h1:Ev K a ρ σ (.d v)) (h2:Ev K o ρ σ (.p n j)) (h3:Ev K i ρ σ (.d (mkp k))) (hf:a8 σ n j=some (.dict (l.map fun x=>mkp x.1) (l.map (·.2)))) (hl:l.length<100000):(xQ o i a).ex K ρ σ=some (.next ρ,putAt σ n j (.dict ((cG k v l).map fun x=>mkp x.1) ((cG k v l).map (·.2)))):=by
 refine bf h1 (bf h2 (bf h3 ?_));show (u6 (.p n j) (mkp k) v σ).bind _=_;show ((a8 σ n j).bind fun f=>(u7 (mkp k) v f).map fun f'=>putAt σ n j f').bind _=_;rw[hf,Ka];show ((al (mG (mkp k) (l.map fun x=>mkp x.1)=true∧(l.map fun x=>mkp x.1).length<100000) _).map _).bind _=_;rw[aB ⟨pT,by rw[J'];exact hl⟩,vg k v,vd k v];rfl
noncomputable def dpD (l:List (Pr2×D)):Fld:=.dict (l.map fun x=>mkp x.1) (l.map (·.2))
end
section
variable {d m n N:Nat} {hd:Bool} {K:Ker} {ρ ρ':Rho} {σ σ':Sto} {p p':Pl} {S S':St} {e:CE}
theorem Bc {e:CE} {l:List D} (h:Ev K e ρ σ (.d (.tup l))):Ev K (isi qi e) ρ σ (.d (.bool true)):=by
 refine av h ?_;rfl
theorem Be {x:PV} {l:List D} (h:Ev K e ρ σ x) (r:rd σ x=some (.lst l)):Ev K (isi kI e) ρ σ (.d (.bool true)):=by
 refine av h ?_;show (rd σ x).bind _=_;rw[r];rfl
theorem yW {tb:List (List Nat)} {k:Nat} {o a:CE} {s:List Nat} {y z:D} {l:List Fld} (hr:σ[m]? =some (.rcd false l)) (ha:Ev K a ρ σ (.d y)) (ho:Ev K o ρ σ (.p m 0)) (ht:tb[k]? =some s) (hk:l[k]? =some (.d z)):(jn tb k o (aU s) a).ex K ρ σ=some (.next ρ,σ.set m (.rcd false (l.set k (.d y)))):=by
 have hl:k<l.length:=(Kg.mp hk).1;refine bf ha (bf ho (bf (a:=.d (.str s)) (σ':=σ) rfl ?_));show (fZ tb k (.d y) (.p m 0) (.d (.str s)) σ).bind _=_;unfold fZ;rw[ht,Ka,aB (show dX (.d (.str s))=some s from rfl),Ka];show ((bJ false σ m).bind _).bind _=_;unfold bJ;rw[hr];show (if k=l.length then al (k<100) _ else (l[k]?).bind fun f=>al (Bh f=true) _).bind _=_;rw[if_neg (by exact Nat.ne_of_lt hl),hk];rfl
end
section
variable {α β:Type} {p:β→β→Bool} {q:α→α→Bool}
theorem rK {f:α→β} (h:∀ x y,p (f x) (f y)=q x y) (a:α):∀ l:List α,mB p (f a) (l.map f)=(mB q a l).map f
 |[]=>rfl
 |b::l=>by
  show (if p (f a) (f b)=true then _ else f b::mB p (f a) (l.map f))=(if q a b=true then _ else b::mB q a l).map f;rw[h,rK h a l];split<;>rfl
theorem jl {f:α→β} (h:∀ x y,p (f x) (f y)=q x y):∀ l:List α,bz p (l.map f)=(bz q l).map f
 |[]=>rfl
 |a::l=>by
  show mB p (f a) (bz p (l.map f))=_;rw[jl h l,rK h];rfl
end
noncomputable abbrev fO (x y:Ent):Bool:=wX x.day x.no y.day y.no
noncomputable abbrev a9 (f t:Int) (e:Ent):Bool:=decide (f≤e.day)&&decide (e.day≤t)
theorem Nos.nd {l:List Ent} (h:Nos l):l.Pairwise fun a b=>a.no≠b.no:=by
 refine List.pairwise_map.mp ?_;rw[show l.map (fun a=>a.no)=_ from h,List.pairwise_map];exact List.Pairwise.imp (fun ne e=>ne (IR e)) List.nodup_range
section
variable {d m n N:Nat} {hd:Bool} {K:Ker} {ρ ρ':Rho} {σ σ':Sto} {p p':Pl} {S S':St} {e:CE}
theorem fE {f t:Int} (B:Bk σ n S) (nos:Nos S.made) (h6:S.made.length<64):CC (d+1) false 126 [.p n 0,.d (.int f),.d (.int t)] σ=some (.ok (.d (.lst ((bz fO (S.made.filter (a9 f t))).map enD))),σ):=by
 have cf:=db (K:=KK d false) (ρ:=[qV n,iV f,iV t,none,none]) (σ:=σ) (i:=4) (elt:=loc 4) (t:=iE (qn cLe cLe (loc 1) (sub (loc 4) (ah 1)) (loc 2))) (v:=.p n 5) (y:=.lst (S.made.map enD)) (fo (gC B)) enD enD (a9 f t) S.made [] (fun l _=>sI (oH rfl (aL 1 rfl rfl) rfl rfl rfl rfl rfl rfl)) (fun l _ _=>rfl) (by rw[K6];exact o95 h6);rw[List.nil_append] at cf;have nd:(((S.made.filter (a9 f t)).map enD).map dK).Nodup:=by
  rw[List.map_map];exact List.pairwise_map.mpr (List.Pairwise.imp (fun ne e=>ne (Prod.mk.inj e).2) (nos.nd.filter _))
 have ln:((S.made.filter (a9 f t)).map enD).length<64:=by
  rw[J'];exact KE (List.length_filter_le _ _) h6
 have sk:lP ((S.made.filter (a9 f t)).map enD)=some (.lst ((bz fO (S.made.filter (a9 f t))).map enD)):=by
  unfold lP;rw[aB ⟨fun y hy=>by obtain ⟨x,_,rfl⟩:=Kt.mp hy;rfl,nd,ln⟩,jl (f:=enD) (p:=e_) (q:=fO) fun x y=>rfl]
 refine aO Gv rfl (ρ:=[qV n,iV f,iV t,none,none]) rfl (aa (dY (de (jc B rfl) (ua (gC B) (by rw[J'];exact o4 h6)) cf rfl) rfl) (az (bf (av (a:=.d (.lst ((S.made.filter (a9 f t)).map enD))) (σ':=σ) rfl ?_) rfl))) (tk _);show (Option.map _ (Option.bind (some ((S.made.filter (a9 f t)).map enD)) lP))=_;rw[Ka,sk];rfl
end
noncomputable def ft (es:List Ent):List Pr2:=es.flatMap fun e=>e.lines.map fun x=>(x.1,x.2.1)
structure Dk (l:List (Pr2×D)) (s:List Pr2):Prop where
 nd:(l.map (·.1)).Nodup
 mem:∀ a,a∈l.map (·.1)↔a∈s
theorem oG {a b:Pr2} {v:D}:∀ l:List (Pr2×D),b∈(cG a v l).map (·.1)↔b=a∨b∈l.map (·.1)
 |[]=>by show b∈[a]↔b=a∨b∈[];rw[Ki];exact ⟨.inl,fun h=>h.resolve_right Ky⟩
 |x::l=>by
  show b∈((if x.1=a then (x.1,v)::l else x::cG a v l).map (·.1))↔b=a∨b∈x.1::l.map (·.1);by_cases h:x.1=a
  ·rw[if_pos h];show b∈x.1::l.map (·.1)↔_;rw[Kb,h];exact ⟨.inr,fun q=>q.elim .inl id⟩
  ·rw[if_neg h];show b∈x.1::(cG a v l).map (·.1)↔_;rw[Kb,Kb,oG l];exact ⟨fun q=>q.elim (.inr ∘ .inl) fun q=>q.elim .inl (.inr ∘ .inr),fun q=>q.elim (.inr ∘ .inl) fun q=>q.elim .inl (.inr ∘ .inr)⟩
theorem xv {a:Pr2} {v:D}:∀ {l:List (Pr2×D)},(l.map (·.1)).Nodup→((cG a v l).map (·.1)).Nodup
 |[],_=>K0.mpr ⟨Ky,K3⟩
 |x::l,h=>by
  obtain ⟨h1,h2⟩:=K0.mp h;show ((if x.1=a then (x.1,v)::l else x::cG a v l).map (·.1)).Nodup;by_cases q:x.1=a
  ·rw[if_pos q];exact h
  ·rw[if_neg q];exact K0.mpr ⟨fun z=>((oG l).mp z).elim q h1,xv h2⟩
theorem Dk.put {l:List (Pr2×D)} {s:List Pr2} (h:Dk l s) (a:Pr2) (v:D):Dk (cG a v l) (s++[a]):=
 ⟨xv h.nd,fun b=>by rw[oG,h.mem,Kv,Ki];exact Or.comm⟩
theorem Dk.of {l:List (Pr2×D)} {s s':List Pr2} (h:Dk l s) (e:∀ a,a∈s↔a∈s'):Dk l s':=⟨h.nd,fun a=>(h.mem a).trans (e a)⟩
section
variable {d m n N:Nat} {hd:Bool} {K:Ker} {ρ ρ':Rho} {σ σ':Sto} {p p':Pl} {S S':St} {e:CE}
noncomputable abbrev qR (n:Nat) (t:Int) (k:Nat) (x3 x4:Option PV):Rho:=[qV n,iV t,qV k,x3,x4]
theorem jT {t:Int} {v:D} {x3:Option PV}:∀ (ls:List bj) (l:List (Pr2×D)) (s:List Pr2) (x4:Option PV),Dk l s→l.length+ls.length<100000→∃ l' y4,Dk l' (s++ls.map fun x=>(x.1,x.2.1))∧l'.length≤l.length+ls.length∧cx (.d v) v 4 (fun ρ=>fn_pairs_to_f1.ex K ρ) (ls.map lnD) (qR n t σ.length x3 x4) (σ++[.fld (dpD l)])=some (.next (qR n t σ.length x3 y4),σ++[.fld (dpD l')])
 |[],l,s,x4,h,_=>⟨l,x4,by rw[List.map_nil,List.append_nil];exact h,Ko _,rfl⟩
 |a::ls,l,s,x4,h,hl=>by
  rw[Kk] at hl;have e6:Ev K (tup (clC (sub (loc 4) (ah 0)) (clC (sub (loc 4) (ah 1)) clN))) (qR n t σ.length x3 (dV (lnD a))) (σ++[.fld (dpD l)]) (.d (mkp (a.1,a.2.1))):=aP (clc (aL 0 rfl rfl) (cl1 (aL 1 rfl rfl)));have st:=qo (K:=K) (ρ:=qR n t σ.length x3 (dV (lnD a))) (σ:=σ++[.fld (dpD l)]) (o:=loc 2) (i:=tup (clC (sub (loc 4) (ah 0)) (clC (sub (loc 4) (ah 1)) clN))) (a:=dz true) (n:=σ.length) (j:=0) (l:=l) (k:=(a.1,a.2.1)) (v:=.bool true) rfl rfl e6 bL (o96 hl);rw[cz] at st;have lu:=gO (a:=(a.1,a.2.1)) (v:=D.bool true) l;refine aK fun G9 k9=> ?_;obtain ⟨l',y4,h',hl',e⟩:=jT ls (cG (a.1,a.2.1) (.bool true) l) (s++[(a.1,a.2.1)]) (dV (lnD a)) (h.put _ _) (o97 hl lu);refine k9 ?_;rw[List.append_assoc] at h';exact ⟨l',y4,h',by rw[Kk];exact o98 lu hl',aN (aa st rfl) rfl e⟩
theorem lX {t:Int} {v:D}:∀ (es:List Ent) (l:List (Pr2×D)) (s:List Pr2) (x3 x4:Option PV),Dk l s→(∀ e∈es,e.lines.length≤60)→l.length+60*es.length<100000→∃ l' y3 y4,Dk l' (s++ft es)∧cx (.d v) v 3 (fun ρ=>fn_pairs_to_f2.ex (KK d false) ρ) (es.map enD) (qR n t σ.length x3 x4) (σ++[.fld (dpD l)])=some (.next (qR n t σ.length y3 y4),σ++[.fld (dpD l')])
 |[],l,s,x3,x4,h,_,_=>⟨l,x3,x4,by show Dk l (s++[]);rw[List.append_nil];exact h,rfl⟩
 |E::es,l,s,x3,x4,h,h6,hl=>by
  rw[Kk] at hl;have E6:=h6 E (.head _);refine aK fun G9 k9=> ?_;obtain ⟨l1,y4,h1,hl1,e1⟩:=jT (K:=KK d false) (n:=n) (σ:=σ) (t:=t) (v:=.tup (E.lines.map lnD)) (x3:=dV (enD E)) E.lines l s x4 h (o99 hl E6);obtain ⟨l2,z3,z4,h2,e2⟩:=lX es l1 (s++E.lines.map fun x=>(x.1,x.2.1)) (dV (enD E)) y4 h1 (fun e he=>h6 e (.tail _ he)) (Fu hl E6 hl1);refine k9 ?_;rw[List.append_assoc] at h2;exact ⟨l2,z3,z4,h2,aN (aa (aT (aL 3 rfl rfl) (cp rfl) e1) rfl) rfl e2⟩
theorem lN {x:PV} {l:List (Pr2×D)} {s:List Pr2} {D':D} (h:rd σ x=some D') (hs:AF D'=some (l.map fun x=>mkp x.1)) (k:Dk l s) (h6:l.length<64):fSorted.g false [x] σ=some (.ok (.d (.lst ((bz pz (l.map (·.1))).map mkp))),σ):=by
 show ((rd σ x).bind fun u=>((AF u).bind uZ).map fun z=>(R.ok (PV.d z),σ))=_;rw[h,Ka,hs,Ka];have e1:(l.map fun x=>mkp x.1)=(l.map (·.1)).map mkp:=by rw[List.map_map];rfl
 have e2:((l.map (·.1)).map mkp).map unP=l.map (·.1):=by rw[List.map_map];exact List.map_id _
 have sg:uZ ((l.map (·.1)).map mkp)=some (.lst ((bz pz (l.map (·.1))).map mkp)):=by
  unfold uZ;rw[aB ⟨List.all_eq_true.mpr fun x hx=>by obtain ⟨y,_,rfl⟩:=Kt.mp hx;rfl,by rw[e2];exact k.nd,by rw[J',J'];exact h6⟩,jl (f:=mkp) (p:=jt) (q:=pz) fun x y=>rfl]
 rw[e1,sg];rfl
theorem C0 {l:List (Pr2×D)} (h6:l.length<64):AF (.dct (l.map fun x=>mkp x.1) (l.map (·.2)))=some (l.map fun x=>mkp x.1):=by
 show al _ _=_;rw[aB ⟨List.all_eq_true.mpr fun x hx=>by obtain ⟨y,_,rfl⟩:=Kt.mp hx;rfl,by rw[J'];exact Ft h6⟩]
theorem kQ {l:List (Pr2×D)} {s:List Pr2} {A C:List (List Nat)} (k:Dk l s) (h:∀ a∈s,a.1∈A∧a.2∈C) (hA:A.length≤7) (hC:C.length≤8):l.length<64:=by
 have sb:l.map (·.1) ⊆ A.flatMap fun a=>C.map fun c=>(a,c):=fun x hx=>by
  have:=h x ((k.mem x).mp hx);exact List.mem_flatMap.mpr ⟨x.1,this.1,Kt.mpr ⟨x.2,this.2,rfl⟩⟩
 have:=k.nd.length_le_of_subset sb;rw[J',List.length_flatMap] at this;have e:(A.map fun a=>(C.map fun c=>((a,c):Pr2)).length).sum=A.length*C.length:=by
  clear this sb h hA
  induction A with
  |nil=>rw[K6,Nat.zero_mul];rfl
  |cons a A ih=>rw[List.map_cons,List.sum_cons,ih,J',Kk,Nat.add_mul,Nat.one_mul,Nat.add_comm]
 rw[e] at this;have:=Nat.mul_le_mul hA hC;exact IQ (by assumption) this
structure Few (es:List Ent) (A C:List (List Nat)):Prop where
 n:∀ e∈es,∀ x∈e.lines,x.1∈A∧x.2.1∈C
 l:∀ e∈es,e.lines.length≤60
 a:A.length≤7
 c:C.length≤8
 e:es.length<64
 no:Nos es
 d:∀ e∈es,bc e.day
 am:∀ e∈es,∀ x∈e.lines,cA x.2.2=true
theorem Few.prs {es:List Ent} {A C:List (List Nat)} (f:Few es A C) {q:Ent→Bool}:∀ a∈ft (es.filter q),a.1∈A∧a.2∈C:=fun a ha=>by
 refine aK fun G9 k9=> ?_;obtain ⟨e,he,ha⟩:=List.mem_flatMap.mp ha;obtain ⟨x,hx,rfl⟩:=Kt.mp ha;refine k9 ?_;exact f.n e (List.mem_filter.mp he).1 x hx
theorem nY {t:Int} {A C:List (List Nat)} (B:Bk σ n S) (F:Few S.made A C):∃ l:List (Pr2×D),Dk l (ft (S.made.filter (a9 0 t)))∧l.length<64∧CC (d+2) false 127 [.p n 0,.d (.int t)] σ=some (.ok (.d (.lst ((bz pz (l.map (·.1))).map mkp))),σ):=by
 have pm:(bz fO (S.made.filter (a9 0 t))).Perm (S.made.filter (a9 0 t)):=bF _;have ln:(bz fO (S.made.filter (a9 0 t))).length<64:=by
  rw[pm.length_eq];exact KE (List.length_filter_le _ _) F.e
 have B':Bk (σ++[.fld (.dict [] [])]) n S:=B.app;have bd:=fE (d:=d) (f:=0) (t:=t) B' F.no F.e;refine aK fun G9 k9=> ?_;obtain ⟨l,y3,y4,dk,lp⟩:=lX (d:=d+1) (n:=n) (σ:=σ) (t:=t) (v:=.lst ((bz fO (S.made.filter (a9 0 t))).map enD)) (bz fO (S.made.filter (a9 0 t))) [] [] none none ⟨K3,fun a=>Iff.rfl⟩ (fun e he=>F.l e (List.mem_filter.mp (pm.mem_iff.mp he)).1) (by show 0+_<_;exact Fs ln);refine k9 ?_;have dk':=dk.of (s':=ft (S.made.filter (a9 0 t))) fun a=>by rw[List.nil_append];exact (pm.flatMap_right _).mem_iff
 have l6:=kQ dk' F.prs F.a F.c;refine ⟨l,dk',l6,aO Gu rfl (ρ:=[qV n,iV t,none,none,none]) rfl ?_ (tkl σ [.fld (dpD l)])⟩;refine aa (an (v:=.p σ.length 0) (σ':=σ++[PO.fld (.dict [] [])]) (ρ':=qR n t σ.length none none) rfl rfl) ?_;refine aa (aT (ak (clc rfl (clc rfl (cl1 rfl))) bd) (cp (if_pos (by rw[J'];exact aQ (o4 ln)))) lp) ?_;exact az (aq (bx (cl1 rfl) (lN (dC rfl) (C0 l6) dk' l6)))
end
noncomputable def SmL (f:bj→Int) (ls:List bj):Int:=(ls.map f).sum
noncomputable def SmE (f:bj→Int) (es:List Ent):Int:=(es.map fun e=>SmL f e.lines).sum
section
variable {f g k:bj→Int} {x:bj} {ls:List bj} {e:Ent} {es l l':List Ent} {a:Pr2}
theorem iw:SmL f (x::ls)=f x+SmL f ls:=List.sum_cons
theorem bT:SmE f (e::es)=SmL f e.lines+SmE f es:=List.sum_cons
theorem lR (h:l.Perm l'):SmE f l=SmE f l':=by
 induction h with
 |nil=>rfl
 |cons x _ ih=>rw[bT,bT,ih]
 |swap x y l=>rw[bT,bT,bT,bT,←Int.add_assoc,←Int.add_assoc,Int.add_comm (SmL f y.lines)]
 |trans _ _ a b=>exact a.trans b
noncomputable def upL (a:Pr2) (x:bj):Int:=if (x.1,x.2.1)=a∧0<x.2.2 then x.2.2 else 0
noncomputable def dnL (a:Pr2) (x:bj):Int:=if (x.1,x.2.1)=a∧x.2.2<0 then -x.2.2 else 0
noncomputable def sgL (a:Pr2) (s:Int) (x:bj):Int:=if (x.1,x.2.1)=a∧0≤x.2.2*s then x.2.2 else 0
theorem sd {f t:Int} (h:f≤e.day) (k:e.day≤t):a9 f t e=true:=by rw[Bool.and_eq_true,decide_eq_true_eq,decide_eq_true_eq];exact ⟨h,k⟩
theorem kd {f t:Int} (h:a9 f t e=true):f≤e.day∧e.day≤t:=by rw[Bool.and_eq_true,decide_eq_true_eq,decide_eq_true_eq] at h;exact h
theorem u0 {s t:Int} (h0:0≤s) (h1:s≤t+1):∀ es:List Ent,SmE g (es.filter (a9 0 (s - 1)))+SmE g (es.filter (a9 s t))=SmE g (es.filter (a9 0 t))
 |[]=>rfl
 |e::es=>by
  have ih:=u0 h0 h1 es;by_cases a:a9 0 (s - 1) e=true
  ·have y:=kd a;have z:e.day<s:=Int.lt_of_le_sub_one y.2;rw[KM a,List.filter_cons_of_neg fun b=>Int.not_le.mpr z (kd b).1,KM (sd y.1 (Int.le_of_lt_add_one (KR z h1))),bT,bT,Int.add_assoc,ih]
  ·rw[List.filter_cons_of_neg a];by_cases b:a9 s t e=true
   ·rw[KM b,KM (sd (KO h0 (kd b).1) (kd b).2),bT,bT,Int.add_left_comm,ih]
   ·rw[List.filter_cons_of_neg b,List.filter_cons_of_neg fun c=>b (sd (Lg.mp fun d=>a (sd (kd c).1 (Int.le_sub_one_of_lt d))) (kd c).2),ih]
theorem v_:∀ (ls:List bj) (z:Int),ls.foldl (jQ a.1 a.2) z=z+SmL (sgL a 0) ls
 |[],z=>(Int.add_zero z).symm
 |x::ls,z=>by
  rw[List.foldl_cons,v_ ls,iw,←Int.add_assoc];congr 1;unfold jQ sgL;rw[Int.mul_zero];by_cases q:x.1=a.1∧x.2.1=a.2
  ·rw[if_pos q,if_pos ⟨Prod.ext q.1 q.2,Int.le_refl _⟩]
  ·rw[if_neg q,if_neg fun h=>q ⟨congrArg Prod.fst h.1,congrArg Prod.snd h.1⟩,Int.add_zero]
theorem gT {t:Int}:∀ (es:List Ent) (z:Int),(∀ e∈es,0≤e.day)→es.foldl (gW a.1 a.2 (some t)) z=z+SmE (sgL a 0) (es.filter (a9 0 t))
 |[],z,_=>(Int.add_zero z).symm
 |e::es,z,h=>by
  rw[List.foldl_cons,gT es _ fun e he=>h e (.tail _ he)];have h0:=h e (.head _);unfold gW;by_cases q:e.day≤t
  ·rw[if_pos (show jZ (some t) e.day=true from Kr q),v_,KM (sd h0 q),bT,Int.add_assoc]
  ·rw[if_neg (show¬jZ (some t) e.day=true by show¬decide (e.day≤t)=true;rw[decide_eq_true_eq];exact q),List.filter_cons_of_neg fun h=>q (kd h).2]
end
noncomputable def dkl (s:List Pr2):List (Pr2×D):=s.foldl (fun l a=>cG a (.bool true) l) []
theorem zL:∀ (s:List Pr2) (l:List (Pr2×D)) (r:List Pr2),Dk l r→Dk (s.foldl (fun l a=>cG a (D.bool true) l) l) (r++s)
 |[],l,r,h=>by rw[List.append_nil];exact h
 |a::s,l,r,h=>by
  have:=zL s _ _ (h.put a (.bool true));rw[List.append_assoc] at this;exact this
theorem jG (s:List Pr2):Dk (dkl s) s:=zL s [] [] ⟨K3,fun a=>Iff.rfl⟩
noncomputable def bQ (es:List Ent) (t:Int):List Pr2:=bz pz ((dkl (ft (es.filter (a9 0 t)))).map (·.1))
section
variable {es:List Ent} {t:Int} {l:List (Pr2×D)} {A C:List (List Nat)}
theorem pC (k:Dk l (ft (es.filter (a9 0 t)))):bz pz (l.map (·.1))=bQ es t:=
 AC strictS.irr strictS.tr (strictS.cmp k.nd) ((List.perm_ext_iff_of_nodup k.nd (jG _).nd).mpr fun a=>(k.mem a).trans ((jG _).mem a).symm)
theorem keys_mem {a:Pr2}:a∈bQ es t↔a∈ft (es.filter (a9 0 t)):=(bF _).mem_iff.trans ((jG _).mem a)
theorem iN (F:Few es A C):(bQ es t).length<64:=by
 unfold bQ;rw[(bF _).length_eq,J'];exact kQ (jG _) F.prs F.a F.c
end
section
variable {d m n N:Nat} {hd:Bool} {K:Ker} {ρ ρ':Rho} {σ σ':Sto} {p p':Pl} {S S':St} {e:CE} {f t:Int} {a b:Pr2} {A C:List (List Nat)}
theorem vU (h:b=a):cEq.g (mkp b) (mkp a)=some true:=vV (by rw[h]) rfl rfl
theorem Cq (h:b≠a):cEq.g (mkp b) (mkp a)=some false:=Cr (fun q=>h (mkp_inj.mp q)) rfl rfl rfl
noncomputable abbrev mR (n:Nat) (a:Pr2) (f t c w:Int) (x6 x7:Option PV):Rho:=[qV n,dV (mkp a),iV f,iV t,iV c,iV w,x6,x7]
theorem tj {c w:Int} {x:bj} {x6:Option PV}:fn_moved_f1.ex K (mR n a f t c w x6 (dV (lnD x))) σ=some (.next (mR n a f t (c+upL a x) (w+dnL a x) x6 (dV (lnD x))),σ):=by
 have e1:∀ c w,Ev K (tup (clC (sub (loc 7) (ah 0)) (clC (sub (loc 7) (ah 1)) clN))) (mR n a f t c w x6 (dV (lnD x))) σ (.d (mkp (x.1,x.2.1))):=fun _ _=>aP (clc (aL 0 rfl rfl) (cl1 (aL 1 rfl rfl)));have e2:∀ c w,Ev K (sub (loc 7) (ah 2)) (mR n a f t c w x6 (dV (lnD x))) σ (.d (.int x.2.2)):=fun _ _=>aL 2 rfl rfl;refine aa (ρ':=mR n a f t (c+upL a x) w x6 (dV (lnD x))) (σ':=σ) ?_ (aa (ρ':=mR n a f t (c+upL a x) (w+dnL a x) x6 (dV (lnD x))) (σ':=σ) ?_ rfl)
 ·unfold upL;by_cases q:(x.1,x.2.1)=a
  ·by_cases z:0<x.2.2
   ·rw[if_pos ⟨q,z⟩];exact bW (bO (cb (ai (e1 _ _) rfl rfl rfl (vU q)) (cb (ai (e2 _ _) rfl rfl rfl (zi z)) rfl))) (aa (an (bB rfl (e2 _ _)) rfl) rfl)
   ·rw[if_neg fun h=>z h.2,Int.add_zero];exact a_ (bO (cb (ai (e1 _ _) rfl rfl rfl (vU q)) (eu (ai (e2 _ _) rfl rfl rfl (kA z))))) rfl
  ·rw[if_neg fun h=>q h.1,Int.add_zero];exact a_ (bO (eu (ai (e1 _ _) rfl rfl rfl (Cq q)))) rfl
 ·unfold dnL;by_cases q:(x.1,x.2.1)=a
  ·by_cases z:x.2.2<0
   ·rw[if_pos ⟨q,z⟩,←Int.sub_eq_add_neg];exact bW (bO (cb (ai (e1 _ _) rfl rfl rfl (vU q)) (cb (ai (e2 _ _) rfl rfl rfl (tQ z)) rfl))) (aa (an (ax rfl (e2 _ _) rfl rfl rfl) rfl) rfl)
   ·rw[if_neg fun h=>z h.2,Int.add_zero];exact a_ (bO (cb (ai (e1 _ _) rfl rfl rfl (vU q)) (eu (ai (e2 _ _) rfl rfl rfl (iL z))))) rfl
  ·rw[if_neg fun h=>q h.1,Int.add_zero];exact a_ (bO (eu (ai (e1 _ _) rfl rfl rfl (Cq q)))) rfl
theorem jU {v:D} {x6:Option PV}:∀ (ls:List bj) (c w:Int) (x7:Option PV),∃ y7,cx (.d v) v 7 (fun ρ=>fn_moved_f1.ex K ρ) (ls.map lnD) (mR n a f t c w x6 x7) σ=some (.next (mR n a f t (c+SmL (upL a) ls) (w+SmL (dnL a) ls) x6 y7),σ)
 |[],c,w,x7=>⟨x7,by show _=some (Out.next (mR n a f t (c+0) (w+0) x6 x7),σ);rw[Int.add_zero,Int.add_zero];rfl⟩
 |x::ls,c,w,x7=>by
  obtain ⟨y7,e⟩:=jU ls (c+upL a x) (w+dnL a x) (dV (lnD x));rw[Int.add_assoc,Int.add_assoc,←iw,←iw] at e;exact ⟨y7,aN tj rfl e⟩
theorem l8 {v:D}:∀ (es:List Ent) (c w:Int) (x6 x7:Option PV),∃ y6 y7,cx (.d v) v 6 (fun ρ=>fn_moved_f2.ex (KK d false) ρ) (es.map enD) (mR n a f t c w x6 x7) σ=some (.next (mR n a f t (c+SmE (upL a) es) (w+SmE (dnL a) es) y6 y7),σ)
 |[],c,w,x6,x7=>⟨x6,x7,by show _=some (Out.next (mR n a f t (c+0) (w+0) x6 x7),σ);rw[Int.add_zero,Int.add_zero];rfl⟩
 |E::es,c,w,x6,x7=>by
  obtain ⟨y7,e1⟩:=jU (K:=KK d false) (n:=n) (a:=a) (f:=f) (t:=t) (σ:=σ) (v:=.tup (E.lines.map lnD)) (x6:=dV (enD E)) E.lines c w x7;obtain ⟨z6,z7,e⟩:=l8 es (c+SmL (upL a) E.lines) (w+SmL (dnL a) E.lines) (dV (enD E)) y7;rw[Int.add_assoc,Int.add_assoc,←bT,←bT] at e;exact ⟨z6,z7,aN (aa (aT (aL 3 rfl rfl) (cp rfl) e1) rfl) rfl e⟩
theorem wJ (B:Bk σ n S) (F:Few S.made A C):CC (d+2) false 146 [.p n 0,.d (mkp a),.d (.int f),.d (.int t)] σ=some (.ok (.d (.tup [.int (SmE (upL a) (S.made.filter (a9 f t))),.int (SmE (dnL a) (S.made.filter (a9 f t)))])),σ):=by
 have pm:(bz fO (S.made.filter (a9 f t))).Perm (S.made.filter (a9 f t)):=bF _;have ln:(bz fO (S.made.filter (a9 f t))).length<64:=by
  rw[pm.length_eq];exact KE (List.length_filter_le _ _) F.e
 have bd:=fE (d:=d) (f:=f) (t:=t) B F.no F.e;obtain ⟨y6,y7,lp⟩:=l8 (d:=d+1) (n:=n) (a:=a) (f:=f) (t:=t) (σ:=σ) (v:=.lst ((bz fO (S.made.filter (a9 f t))).map enD)) (bz fO (S.made.filter (a9 f t))) 0 0 none none;rw[lR pm,lR pm,Int.zero_add,Int.zero_add] at lp;exact aO Go rfl (ρ:=[qV n,dV (mkp a),iV f,iV t,none,none,none,none]) rfl (aa (an rfl rfl) (aa (an rfl rfl) (aa (aT (ak (clc rfl (clc rfl (cl1 rfl))) bd) (cp (if_pos (by rw[J'];exact aQ (o4 ln)))) lp) (az (aq (aP (clc rfl (cl1 rfl)))))))) (tk _)
noncomputable abbrev opn (es:List Ent) (f:Int) (a:Pr2):Int:=SmE (sgL a 0) (es.filter (a9 0 (f - 1)))
noncomputable abbrev cam (es:List Ent) (f t:Int) (a:Pr2):Int:=SmE (upL a) (es.filter (a9 f t))
noncomputable abbrev wnt (es:List Ent) (f t:Int) (a:Pr2):Int:=SmE (dnL a) (es.filter (a9 f t))
noncomputable def lU (es:List Ent) (f t:Int) (a:Pr2):D:=.tup [.str a.1,.str a.2,.int (opn es f a),.int (cam es f t a),.int (wnt es f t a),.int (opn es f a+cam es f t a - wnt es f t a)]
noncomputable abbrev dR (n:Nat) (k t f:Int) (r:Nat) (x5 x6 x7:Option PV):Rho:=[qV n,iV k,iV t,iV f,qV r,x5,x6,x7]
theorem jS {v:D} {k:Int} (B:Bk σ n S) (sh:Sh S) (F:Few S.made A C):∀ (Ks:List Pr2) (rs:List D) (x5 x6 x7:Option PV),rs.length+Ks.length≤1000→∃ y5 y6 y7,cx (.d v) v 5 (fun ρ=>fn_period_f1.ex (KK (d+2) false) ρ) (Ks.map mkp) (dR n k t f σ.length x5 x6 x7) (σ++[.fld (.list rs)])=some (.next (dR n k t f σ.length y5 y6 y7),σ++[.fld (.list (rs++Ks.map (lU S.made f t)))])
 |[],rs,x5,x6,x7,_=>⟨x5,x6,x7,by rw[List.map_nil,List.map_nil,List.append_nil];rfl⟩
 |a::Ks,rs,x5,x6,x7,hl=>by
  rw[Kk] at hl;have B':Bk (σ++[.fld (.list rs)]) n S:=B.app;have ar:=gS (d:=d+1) (a:=a.1) (c:=a.2) (q:=some (f - 1)) B' sh;rw[show total S a.1 a.2 (some (f - 1))=opn S.made f a from (gT S.made 0 fun e he=>(F.d e he).1).trans (Int.zero_add _)] at ar;have mv:=wJ (d:=d) (f:=f) (t:=t) (a:=a) B' F;generalize ho:opn S.made f a=o at ar;generalize hu:SmE (upL a) (S.made.filter (a9 f t))=u at mv;generalize hw:SmE (dnL a) (S.made.filter (a9 f t))=w at mv;have hr:lU S.made f t a= .tup [.str a.1,.str a.2,.int o,.int u,.int w,.int (o+u - w)]:=by rw[←ho,←hu,←hw];rfl
  have g0:Ev (KK (d+2) false) (sub (loc 7) (ah 0)) (dR n k t f σ.length (dV (mkp a)) (iV o) (dV (.tup [.int u,.int w]))) (σ++[.fld (.list rs)]) (.d (.int u)):=aL 0 rfl rfl;have g1:Ev (KK (d+2) false) (sub (loc 7) (ah 1)) (dR n k t f σ.length (dV (mkp a)) (iV o) (dV (.tup [.int u,.int w]))) (σ++[.fld (.list rs)]) (.d (.int w)):=aL 1 rfl rfl;have ap:=bG (K:=KK (d+2) false) (ρ:=dR n k t f σ.length (dV (mkp a)) (iV o) (dV (.tup [.int u,.int w]))) (o:=loc 4) (a:=tup (clC (sub (loc 5) (ah 0)) (clC (sub (loc 5) (ah 1)) (clC (loc 6) (clC (sub (loc 7) (ah 0)) (clC (sub (loc 7) (ah 1)) (clC (bin cD (bin oAdd (loc 6) (sub (loc 7) (ah 0))) (sub (loc 7) (ah 1))) clN))))))) (y:=lU S.made f t a) (l:=rs) (σ:=σ++[.fld (.list rs)]) rfl (by rw[hr];exact aP (clc (aL 0 rfl rfl) (clc (aL 1 rfl rfl) (clc rfl (clc g0 (clc g1 (cl1 (ax (bB rfl g0) g1 rfl rfl rfl)))))))) bL (cn (o73 hl));rw[cz] at ap;obtain ⟨y5,y6,y7,ih⟩:=jS B sh F Ks (rs++[lU S.made f t a]) (dV (mkp a)) (iV o) (dV (.tup [.int u,.int w])) (by rw[Kd,Kn];exact o74 hl);rw[List.append_assoc] at ih;exact ⟨y5,y6,y7,aN (aa (an (bq B' rfl (clc (aL 0 rfl rfl) (clc (aL 1 rfl rfl) (cl1 (ax rfl rfl rfl rfl rfl)))) ar) rfl) (aa (an (ak (clc rfl (clc rfl (clc rfl (cl1 rfl)))) mv) rfl) (aa (au ap) rfl))) rfl ih⟩
theorem qJ (B:Bk σ n S) (sh:Sh S):CC (d+1) hd 22 [.p n 0] σ=some (.ok (.d (.int S.ends.length)),σ):=aO t22 rfl rfl (az (aq (rA B sh rfl))) (tk _)
theorem vX {x ke:CE} {k:Nat} {t:Int} (B:Bk σ n S) (sh:Sh S) (h:Ev K x ρ σ (.p n 0)) (hk:Ev K ke ρ σ (.d (.int k))) (ht:S.ends[k]? =some t):Ev K (sub (bC x 5) ke) ρ σ (.d (.int t)):=
 aA (jd B h) hk (kO B) rfl (ba (by rw[Ku,ht];rfl) (by have:=(Kg.mp ht).1;have:=sh.e;exact EW (by assumption) this))
theorem tg {k:Nat} {b:Int} (B:Bk σ n S) (sh:Sh S) (F:Few S.made A C) (hb:(-1::S.ends)[k]? =some b) (ht:S.ends[k]? =some t) (hf:f=b+1):∃ y5 y6 y7,∀ (rest:CS) z,rest.ex (KK (d+2) false) (dR n ((k:Int)+1) t f σ.length y5 y6 y7) (σ++[.fld (.list ((bQ S.made t).map (lU S.made f t)))])=z→(sC i0 (sC (aF 2 (sub (bC (loc 0) 5) (bin cD (loc 1) (ah 1)))) (sC (aF 3 (ah 0)) (sC iZ (sC (aF 4 (eJ clN)) (sC iY rest)))))).ex (KK (d+2) false) [qV n,iV ((k:Int)+1),none,none,none,none,none,none] σ=z:=by
 have lk:=(Kg.mp ht).1;have B':Bk (σ++[.fld (.list [])]) n S:=B.app;have pr:=qJ (d:=d+1) (hd:=false) B sh;obtain ⟨l,dk,l6,er⟩:=nY (d:=d) (t:=t) B' F;rw[pC dk] at er;have kl:=iN (t:=t) F;obtain ⟨y5,y6,y7,lp⟩:=jS (d:=d) (t:=t) (f:=f) (k:=(k:Int)+1) (v:=.lst ((bQ S.made t).map mkp)) B sh F (bQ S.made t) [] none none none (by rw[K6];exact EV kl);rw[List.nil_append] at lp;refine ⟨y5,y6,y7,fun rest z hz=> ?_⟩;have m1:∀ x2,Ev (KK (d+2) false) (bin cD (loc 1) (ah 1)) [qV n,iV ((k:Int)+1),x2,none,none,none,none,none] σ (.d (.int k)):=fun x2=>by
  have:=ax (K:=KK (d+2) false) (ρ:=[qV n,iV ((k:Int)+1),x2,none,none,none,none,none]) (σ:=σ) (o:=cD) (a:=loc 1) (b:=ah 1) (x:=.d (.int ((k:Int)+1))) (y:=.d (.int 1)) rfl rfl rfl rfl rfl;rw[show D.int ((k:Int)+1 - 1)= .int k by rw[Int.add_sub_cancel]] at this;exact this
 refine aa (a_ (bE (bI (ai rfl rfl rfl rfl (iL (EY))) (bI (ai rfl (bq B rfl rfl pr) rfl rfl (kA (EX lk))) rfl))) rfl) (aa (an (vX B sh rfl (m1 none) ht) rfl) (aa (an rfl rfl) ?_));refine aa (ρ':=[qV n,iV ((k:Int)+1),iV t,iV f,none,none,none,none]) (σ':=σ) ?_ (aa (an (co rfl) rfl) (aa (aT (ak (clc rfl (cl1 rfl)) er) (cp (if_pos (by rw[J'];exact aQ (o4 kl)))) lp) hz));cases k with
 |zero=>
  cases hb;rw[show f=0 from hf];exact a_ (ai rfl rfl rfl rfl (kA (by decide))) rfl
 |succ j=>
  have m2:=ax (K:=KK (d+2) false) (ρ:=[qV n,iV (((j+1:Nat):Int)+1),iV t,iV 0,none,none,none,none]) (σ:=σ) (o:=cD) (a:=loc 1) (b:=ah 2) (x:=.d (.int (((j+1:Nat):Int)+1))) (y:=.d (.int 2)) rfl rfl rfl rfl rfl;rw[show D.int (((j+1:Nat):Int)+1 - 2)= .int j from congrArg D.int (Hj)] at m2;rw[hf];exact bW (ai rfl rfl rfl rfl (zi (Hi))) (aa (an (bB (vX B sh rfl m2 hb) rfl) rfl) rfl)
theorem tf {k:Nat} {b:Int} (B:Bk σ n S) (sh:Sh S) (F:Few S.made A C) (hb:(-1::S.ends)[k]? =some b) (ht:S.ends[k]? =some t) (hf:f=b+1):CC (d+3) false 147 [.p n 0,.d (.int ((k:Int)+1))] σ=some (.ok (.d (.tup [.int f,.int t,.lst ((bQ S.made t).map (lU S.made f t))])),σ):=by
 obtain ⟨y5,y6,y7,h⟩:=tg (d:=d) B sh F hb ht hf;exact aO Gn rfl (ρ:=[qV n,iV ((k:Int)+1),none,none,none,none,none,none]) rfl (h (s0 4 (sC (aR (tup (clC (loc 3) (clC (loc 2) (clC (loc 4) clN))))) sN)) _ (iS rfl (iT rfl) (az (aq (aP (clc rfl (clc rfl (cl1 rfl)))))))) (tkl σ _)
end
noncomputable def cO (x:Pr2×Int):D:=.tup [.str x.1.1,.str x.1.2,.int x.2]
noncomputable abbrev nzr (f:Pr2→Int) (a:Pr2):Bool:=decide (f a≠0)
noncomputable def fV (f:Pr2→Int) (K:List Pr2):List (Pr2×Int):=(K.filter (nzr f)).map fun a=>(a,f a)
noncomputable def fQ (es:List Ent) (t:Int) (a:Pr2):Int:=es.foldl (gW a.1 a.2 (some t)) 0
noncomputable abbrev tot (S:St) (t:Int) (a:Pr2):Int:=fQ S.made t a
noncomputable def shE (es:List Ent) (t:Int):List (Pr2×Int):=fV (fQ es t) (bQ es t)
section
variable {d m n N:Nat} {hd:Bool} {K:Ker} {ρ ρ':Rho} {σ σ':Sto} {p p':Pl} {S S':St} {e:CE} {t:Int} {A C:List (List Nat)}
noncomputable abbrev hR (n:Nat) (t:Int) (k:Nat) (x3 x4:Option PV):Rho:=[qV n,iV t,qV k,x3,x4]
theorem hU {v:D} (B:Bk σ n S) (sh:Sh S):∀ (Ks:List Pr2) (rs:List D) (x3 x4:Option PV),rs.length+Ks.length≤1000→∃ y3 y4,cx (.d v) v 3 (fun ρ=>fn_sheet_f1.ex (KK (d+1) false) ρ) (Ks.map mkp) (hR n t σ.length x3 x4) (σ++[.fld (.list rs)])=some (.next (hR n t σ.length y3 y4),σ++[.fld (.list (rs++(fV (tot S t) Ks).map cO))])
 |[],rs,x3,x4,_=>⟨x3,x4,by show _=some (Out.next _,σ++[.fld (.list (rs++[]))]);rw[List.append_nil];rfl⟩
 |a::Ks,rs,x3,x4,hl=>by
  rw[Kk] at hl;have B':Bk (σ++[.fld (.list rs)]) n S:=B.app;have ar:=gS (d:=d) (a:=a.1) (c:=a.2) (q:=some t) B' sh;have e4:Ev (KK (d+1) false) (meth (loc 0) 26 (clC (sub (loc 3) (ah 0)) (clC (sub (loc 3) (ah 1)) (clC (loc 1) clN)))) (hR n t σ.length (dV (mkp a)) x4) (σ++[.fld (.list rs)]) (.d (.int (tot S t a))):=bq B' rfl (clc (aL 0 rfl rfl) (clc (aL 1 rfl rfl) (cl1 rfl))) ar;by_cases z:tot S t a=0
  ·obtain ⟨y3,y4,ih⟩:=hU B sh Ks rs (dV (mkp a)) (iV (tot S t a)) (IP hl);refine ⟨y3,y4,aN (aa (an e4 rfl) (aa (a_ (ai rfl rfl rfl rfl (nn z)) rfl) rfl)) rfl (ih.trans ?_)⟩;unfold fV;rw[List.filter_cons_of_neg (show¬nzr (tot S t) a=true by rw[decide_eq_true_eq];exact fun q=>q z)]
  ·have ap:=bG (K:=KK (d+1) false) (ρ:=hR n t σ.length (dV (mkp a)) (iV (tot S t a))) (o:=loc 2) (a:=tup (clC (sub (loc 3) (ah 0)) (clC (sub (loc 3) (ah 1)) (clC (loc 4) clN)))) (y:=cO (a,tot S t a)) (l:=rs) (σ:=σ++[.fld (.list rs)]) rfl (aP (clc (aL 0 rfl rfl) (clc (aL 1 rfl rfl) (cl1 rfl)))) bL (cn (o73 hl));rw[cz] at ap;obtain ⟨y3,y4,ih⟩:=hU B sh Ks (rs++[cO (a,tot S t a)]) (dV (mkp a)) (iV (tot S t a)) (by rw[Kd,Kn];exact o74 hl);refine ⟨y3,y4,aN (aa (an e4 rfl) (aa (bW (ai rfl rfl rfl rfl (pc z)) (aa (au ap) rfl)) rfl)) rfl (ih.trans ?_)⟩;unfold fV;rw[KM (show nzr (tot S t) a=true from Kr z),List.map_cons,List.map_cons,List.append_assoc];rfl
theorem jm (B:Bk σ n S) (sh:Sh S) (F:Few S.made A C) (ht:bc t):CC (d+3) false 128 [.p n 0,.d (.int t)] σ=some (.ok (.d (.lst ((shE S.made t).map cO))),σ):=by
 have B':Bk (σ++[.fld (.list [])]) n S:=B.app;obtain ⟨l,dk,l6,er⟩:=nY (d:=d) (t:=t) B' F;rw[pC dk] at er;have ll:=iN (t:=t) F;obtain ⟨y3,y4,lp⟩:=hU (d:=d+1) (t:=t) (v:=.lst ((bQ S.made t).map mkp)) B sh (bQ S.made t) [] none none (by rw[K6];exact EV ll);rw[List.nil_append] at lp;exact zZ (f':=.list _) (m:=σ.length) Gs rfl (ρ:=[qV n,iV t,none,none,none]) rfl (aa (au (ak (cl1 rfl) (cg ht))) (aa (an (co rfl) rfl) (aa (aT (ak (clc rfl (cl1 rfl)) er) (cp (if_pos (by rw[J'];exact aQ (o4 ll)))) lp) (az (aq rfl))))) (Ko _) dG (tkl σ _)
noncomputable abbrev uR (m:Nat) (t:Int) (k:Nat) (x3 x4 x5:Option PV):Rho:=[qV m,iV t,qV k,x3,x4,x5,none]
theorem lI {v:D} {x3:Option PV}:∀ (ls:List bj) (l:List (Pr2×D)) (s:List Pr2) (f:Pr2→Int) (x4 x5:Option PV),Dk l s→(∀ a,(ch a l).getD (.int 0)= .int (f a))→l.length+ls.length<100000→∃ l' y4 y5,Dk l' (s++ls.map fun x=>(x.1,x.2.1))∧(∀ a,(ch a l').getD (.int 0)= .int (ls.foldl (jQ a.1 a.2) (f a)))∧l'.length≤l.length+ls.length∧cx (.d v) v 4 (fun ρ=>lw_sheet_f1.ex K ρ) (ls.map lnD) (uR m t σ.length x3 x4 x5) (σ++[.fld (dpD l)])=some (.next (uR m t σ.length x3 y4 y5),σ++[.fld (dpD l')])
 |[],l,s,f,x4,x5,k,h,_=>⟨l,x4,x5,by rw[List.map_nil,List.append_nil];exact k,h,Ko _,rfl⟩
 |b::ls,l,s,f,x4,x5,k,h,hl=>by
  rw[Kk] at hl;have e6:Ev K (tup (clC (sub (loc 4) (ah 0)) (clC (sub (loc 4) (ah 1)) clN))) (uR m t σ.length x3 (dV (lnD b)) x5) (σ++[.fld (dpD l)]) (.d (mkp (b.1,b.2.1))):=aP (clc (aL 0 rfl rfl) (cl1 (aL 1 rfl rfl)));have g:=BB (K:=K) (ρ:=uR m t σ.length x3 (dV (lnD b)) (dV (mkp (b.1,b.2.1)))) (σ:=σ++[.fld (dpD l)]) (o:=loc 2) (a:=loc 5) (b:=ah 0) (x:=.p σ.length 0) (l:=l) (k:=(b.1,b.2.1)) (z:=.int 0) rfl (dC rfl) rfl rfl;rw[h] at g;have st:=qo (K:=K) (ρ:=uR m t σ.length x3 (dV (lnD b)) (dV (mkp (b.1,b.2.1)))) (σ:=σ++[.fld (dpD l)]) (o:=loc 2) (i:=loc 5) (a:=bin oAdd (Ad (loc 2) (clC (loc 5) (clC (ah 0) clN))) (sub (loc 4) (ah 2))) (n:=σ.length) (j:=0) (l:=l) (k:=(b.1,b.2.1)) (v:=.int (f (b.1,b.2.1)+b.2.2)) (bB g (aL 2 rfl rfl)) rfl rfl bL (o96 hl);rw[cz] at st;have lu:=gO (a:=(b.1,b.2.1)) (v:=D.int (f (b.1,b.2.1)+b.2.2)) l;refine aK fun G9 k9=> ?_;obtain ⟨l',y4,y5,k',h',hl',e⟩:=lI ls (cG (b.1,b.2.1) (.int (f (b.1,b.2.1)+b.2.2)) l) (s++[(b.1,b.2.1)]) (fun a=>jQ a.1 a.2 (f a) b) (dV (lnD b)) (dV (mkp (b.1,b.2.1))) (k.put _ _) (fun a=>by
   rw[eZ];unfold jQ;by_cases z:a=(b.1,b.2.1)
   ·rw[if_pos z,z,if_pos ⟨rfl,rfl⟩];rfl
   ·rw[if_neg z,if_neg fun y=>z (Prod.ext y.1.symm y.2.symm)];exact h a) (o97 hl lu)
  refine k9 ?_;rw[List.append_assoc] at k';exact ⟨l',y4,y5,k',h',by rw[Kk];exact o98 lu hl',aN (aa (an e6 rfl) (aa st rfl)) rfl e⟩
theorem jk {v:PV} {x:D} (hs:∀ o,bp (σ++[o]) x v=true):∀ (es:List Ent) (l:List (Pr2×D)) (s:List Pr2) (f:Pr2→Int) (x3 x4 x5:Option PV),Dk l s→(∀ a,(ch a l).getD (.int 0)= .int (f a))→(∀ e∈es,e.lines.length≤60)→l.length+60*es.length<100000→∃ l' y3 y4 y5,Dk l' (s++ft (es.filter fun e=>decide (e.day≤t)))∧(∀ a,(ch a l').getD (.int 0)= .int (es.foldl (gW a.1 a.2 (some t)) (f a)))∧cx v x 3 (fun ρ=>lw_sheet_f2.ex (KK d false) ρ) (es.map enD) (uR m t σ.length x3 x4 x5) (σ++[.fld (dpD l)])=some (.next (uR m t σ.length y3 y4 y5),σ++[.fld (dpD l')])
 |[],l,s,f,x3,x4,x5,k,h,_,_=>⟨l,x3,x4,x5,by show Dk l (s++[]);rw[List.append_nil];exact k,h,rfl⟩
 |E::es,l,s,f,x3,x4,x5,k,h,h6,hl=>by
  rw[Kk] at hl;have E6:=h6 E (.head _);by_cases z:E.day≤t
  ·obtain ⟨l1,y4,y5,k1,h1,hl1,e1⟩:=lI (K:=KK d false) (m:=m) (σ:=σ) (t:=t) (v:=.tup (E.lines.map lnD)) (x3:=dV (enD E)) E.lines l s f x4 x5 k h (o99 hl E6);refine aK fun G9 k9=> ?_;obtain ⟨l2,z3,z4,z5,k2,h2,e2⟩:=jk hs es l1 (s++E.lines.map fun x=>(x.1,x.2.1)) (fun a=>E.lines.foldl (jQ a.1 a.2) (f a)) (dV (enD E)) y4 y5 k1 h1 (fun e he=>h6 e (.tail _ he)) (Fu hl E6 hl1);refine k9 ?_;rw[List.append_assoc] at k2;refine ⟨l2,z3,z4,z5,?_,fun a=> ?_,aN (aa (bW (ai (aL 1 rfl rfl) rfl rfl rfl (pA z)) (aa (aT (aL 3 rfl rfl) (cp rfl) e1) rfl)) rfl) (hs _) e2⟩
   ·rw[KM (p:=fun e:Ent=>decide (e.day≤t)) (Kr z)];exact k2
   ·rw[h2,List.foldl_cons];show _=D.int (es.foldl _ (gW a.1 a.2 (some t) (f a) E));unfold gW;rw[if_pos (show jZ (some t) E.day=true from Kr z)]
  ·obtain ⟨l2,z3,z4,z5,k2,h2,e2⟩:=jk hs es l s f (dV (enD E)) x4 x5 k h (fun e he=>h6 e (.tail _ he)) (IN hl);refine ⟨l2,z3,z4,z5,?_,fun a=> ?_,aN (aa (a_ (ai (aL 1 rfl rfl) rfl rfl rfl (A8 z)) rfl) rfl) (hs _) e2⟩
   ·rw[List.filter_cons_of_neg (p:=fun e:Ent=>decide (e.day≤t)) (by rw[decide_eq_true_eq];exact z)];exact k2
   ·rw[h2,List.foldl_cons];show _=D.int (es.foldl _ (gW a.1 a.2 (some t) (f a) E));unfold gW;rw[if_neg (show¬jZ (some t) E.day=true by show¬decide (E.day≤t)=true;rw[decide_eq_true_eq];exact z)]
theorem n3 {a:Pr2}:∀ {l:List (Pr2×D)},a∈l.map (·.1)→∃ z,ch a l=some z
 |[],h=>absurd h Ky
 |x::l,h=>by
  show ∃ z,(if x.1=a then some x.2 else ch a l)=some z;by_cases q:x.1=a
  ·rw[if_pos q];exact ⟨_,rfl⟩
  ·rw[if_neg q];exact n3 ((Kb.mp h).resolve_left fun z=>q z.symm)
theorem wU {a:Pr2} {l:List (Pr2×D)} {f:Pr2→Int} (h:∀ a,(ch a l).getD (.int 0)= .int (f a)) (hm:a∈l.map (·.1)):ch a l=some (.int (f a)):=by
 obtain ⟨z,e⟩:=n3 hm;have:=h a;rw[e] at this;rw[e];exact congrArg some this
theorem Bz {a i:CE} {x:PV} {l:List (Pr2×D)} {b:Pr2} {z:D} (h1:Ev K a ρ σ x) (r1:rd σ x=some (.dct (l.map fun x=>mkp x.1) (l.map (·.2)))) (h2:Ev K i ρ σ (.d (mkp b))) (h:ch b l=some z):Ev K (wm a i) ρ σ (.d z):=by
 refine av h1 (av h2 ?_);show ((rd σ x).bind fun u=>_)=_;rw[r1,Ka];show (((al (mG (mkp b) (l.map fun x=>mkp x.1)=true) ()).bind fun _=>fM (mkp b) (l.map fun x=>mkp x.1) (l.map (·.2))).map fun z=>(R.ok (PV.d z),σ))=_;rw[aB pT,Ka,pw,h];rfl
theorem tS (R:Rk σ m p) (F:Few p.ents A C):CC (d+1) false 174 [.p m 0,.d (.int t)] σ=some (.ok (.d (.lst ((shE p.ents t).map cO))),σ):=by
 have R':∀ o,Rk (σ++[o]) m p:=fun o=>R.app;have Fe:=F.e;refine aK fun G9 k9=> ?_;obtain ⟨l,y3,y4,y5,k,h,lp⟩:=jk (d:=d) (m:=m) (σ:=σ) (t:=t) (v:=.p m 5) (x:=.lst (p.ents.map enD)) (fun o=>fo (jq (R' o))) p.ents [] [] (fun _=>0) none none none ⟨K3,fun a=>Iff.rfl⟩ (fun _=>rfl) F.l (by show 0+_<_;exact Fs Fe);refine k9 ?_;rw[List.nil_append,←List.filter_congr (p:=a9 0 t) (fun x hx=>by
  show (decide (0≤x.day)&&decide (x.day≤t))=_;rw[Kr (F.d x hx).1,Bool.true_and])] at k
 have l6:=kQ k F.prs F.a F.c;have kl:=iN (t:=t) F;have kk:∀ a∈bQ p.ents t,a∈l.map (·.1):=fun a ha=>(k.mem a).mpr (keys_mem.mp ha);generalize hf:fQ p.ents t=f;have srt:Ev (KK d false) (bi fSorted (clC (bi zA (clC (loc 2) clN)) clN)) (uR m t σ.length y3 y4 y5) (σ++[.fld (dpD l)]) (.d (.lst ((bQ p.ents t).map mkp))):=by
  rw[←pC k];refine bx (cl1 (x:=.d (.lst (l.map fun x=>mkp x.1))) (bx (cl1 rfl) ?_)) (lN (D':=.lst (l.map fun x=>mkp x.1)) rfl rfl k l6);show ((rd (σ++[.fld (dpD l)]) (.p σ.length 0)).bind fun u=>_)=_;rw[dC rfl,Ka];show (al _ _).map _=_;rw[aB ⟨List.all_eq_true.mpr fun x hx=>by obtain ⟨y,_,rfl⟩:=Kt.mp hx;rfl,by rw[J'];exact Ft l6⟩];rfl
 have sp:∀ a∈bQ p.ents t,Ev (KK d false) (wm (loc 2) (loc 6)) ((uR m t σ.length y3 y4 y5).set 6 (dV (mkp a))) (σ++[.fld (dpD l)]) (.d (.int (f a))):=fun a ha=>Bz rfl (dC rfl) rfl (wU (hf ▸ h) (kk a ha));have cf:=db (K:=KK d false) (ρ:=uR m t σ.length y3 y4 y5) (σ:=σ++[.fld (dpD l)]) (i:=6) (elt:=tup (clC (sub (loc 6) (ah 0)) (clC (sub (loc 6) (ah 1)) (clC (wm (loc 2) (loc 6)) clN)))) (t:=iE (aJ cNe (wm (loc 2) (loc 6)) (ah 0))) (v:=.d (.lst ((bQ p.ents t).map mkp))) (y:=.lst ((bQ p.ents t).map mkp)) rfl mkp (fun a=>cO (a,f a)) (nzr f) (bQ p.ents t) [] (fun a ha=>sI (by
   by_cases z:f a=0
   ·rw[show nzr f a=false from K7 fun q=>q z];exact ai (sp a ha) rfl rfl rfl (nn z)
   ·rw[show nzr f a=true from Kr z];exact ai (sp a ha) rfl rfl rfl (pc z))) (fun a ha _=>aP (clc (aL 0 rfl rfl) (clc (aL 1 rfl rfl) (cl1 (sp a ha))))) (by rw[K6];exact o95 kl)
 rw[List.nil_append,show ((bQ p.ents t).filter (nzr f)).map (fun a=>cO (a,f a))=(shE p.ents t).map cO by rw[shE,hf,fV,List.map_map];rfl] at cf;exact aO Gg rfl (ρ:=[qV m,iV t,none,none,none,none,none]) rfl (aa (an (v:=.p σ.length 0) (σ':=σ++[PO.fld (.dict [] [])]) (ρ':=uR m t σ.length none none none) rfl rfl) (aa (aT (jy (R' _) rfl) (ua (jq (R' _)) (by rw[J'];exact o4 Fe)) lp) (az (aq (mI (eq srt (cp (if_pos (by rw[J'];exact aQ (o4 kl)))) cf)))))) (tkl σ _)
end
section
variable {d m n N:Nat} {hd:Bool} {K:Ker} {ρ ρ':Rho} {σ σ':Sto} {e:CE}
theorem sH {t:CT} {b:CS} {z:Option (Out×Sto)} (h:Ts K t ρ σ true) (hb:b.ex K ρ σ=some (.next ρ',σ)) (k:fR t b K N ρ' σ=z):fR t b K (N+1) ρ σ=z:=by
 refine bf h ?_;show lG (b.ex K ρ σ) (fR t b K N)=z;rw[hb];exact k
theorem CK {t:CT} {b:CS} (h:Ts K t ρ σ false):fR t b K (N+1) ρ σ=some (.next ρ,σ):=bf h rfl
theorem vZ {b:Int} {k:Nat} (h1:0<b) (h2:b.toNat<2^k) (hk:k≤8000):gg b=true:=by
 have h3:(2:Nat)^k≤2^9000:=Nat.pow_le_pow_right (by decide) (Km hk (by decide));have h4:b.natAbs<2^9000:=KE (K5 (IM h1)) (KF h2 h3);show (b !=0&&decide (b.natAbs<2^9000))=true;rw[Kr h4,Bool.and_true];exact bne_iff_ne.mpr (Int.ne_of_gt h1)
theorem D2 {a b:Int} {k:Nat} (h1:0<b) (h2:b.toNat<2^k) (hk:k≤8000):oMod.g (.int a) (.int b)=some (.int (a.fmod b)):=by
 show (al (gg b=true) (a.fmod b)).map _=_;rw[aB (vZ h1 h2 hk)];rfl
theorem zp {a b:Int} {k:Nat} (h1:0<b) (h2:b.toNat<2^k) (hk:k≤8000):oDiv.g (.int a) (.int b)=some (.int (a.fdiv b)):=by
 show (al (gg b=true) (a.fdiv b)).map _=_;rw[aB (vZ h1 h2 hk)];rfl
noncomputable def gcI (a b:Int):Int:=if b=0 then a else (Int.gcd a b:Int)
theorem D0 {a b:Int}:Int.gcd b (a.fmod b)=Int.gcd a b:=by
 rw[Int.gcd_comm,Int.fmod_def,Int.gcd_sub_mul_left_left]
theorem rP {a b:Int} (h:0<b):gcI b (a.fmod b)=gcI a b:=by
 unfold gcI;rw[if_neg (show¬b=0 by exact o27 h),←D0 (a:=a)];by_cases q:a.fmod b=0
 ·rw[if_pos q,q,Int.gcd_zero_right];exact IL h
 ·rw[if_neg q]
noncomputable abbrev cmT:CT:=aJ cNe (loc 1) (ah 0)
theorem vT {a b:Int} {k:Nat} {x:Option PV} (h1:0<b) (h2:b.toNat<2^k) (hk:k≤8000):fn_common_f1.ex K [iV a,iV b,x] σ=some (.next [iV b,iV (a.fmod b),iV (a.fmod b)],σ):=
 aa (an (ax rfl rfl rfl rfl (D2 h1 h2 hk)) rfl) (aa (an rfl rfl) (aa (an rfl rfl) rfl))
theorem zE {a:Int} {x:Option PV} {N:Nat} (h:1≤N):fR cmT fn_common_f1 K N [iV a,iV 0,x] σ=some (.next [iV (gcI a 0),iV 0,x],σ):=by
 obtain ⟨M,rfl⟩:∃ M,N=M+1:=⟨N - 1,IK h⟩;exact CK (ai rfl rfl rfl rfl (nn rfl))
theorem uC:∀ (k:Nat) (a b:Int) (x:Option PV) (N:Nat),0≤b→b.toNat<2^k→k≤8000→2*k+1≤N→∃ x',fR cmT fn_common_f1 K N [iV a,iV b,x] σ=some (.next [iV (gcI a b),iV 0,x'],σ)
 |0,a,b,x,N,h0,h1,_,hN=>by
  obtain rfl:b=0:=by have:b.toNat<1:=h1;exact IJ h0 h1
  exact ⟨x,zE (II hN)⟩
 |k+1,a,b,x,N,h0,h1,hk,hN=>by
  by_cases z:b=0
  ·subst z;exact ⟨x,zE (IH hN)⟩
  have b0:0<b:=IG h0 z;obtain ⟨M,rfl⟩:∃ M,N=M+1:=⟨N - 1,IF hN⟩;have r:=aG (a:=a) b0;have st:=vT (K:=K) (σ:=σ) (a:=a) (x:=x) b0 h1 hk;rw[←rP (a:=a) b0];have e2:(2:Nat)^(k+1)=2^k*2:=Nat.pow_succ ..;rw[e2] at h1;by_cases z1:(a.fmod b).toNat<2^k
  ·obtain ⟨x',ih⟩:=uC k b (a.fmod b) (iV (a.fmod b)) M r.1 z1 (Fr hk) (IE hN);exact ⟨x',sH (ai rfl rfl rfl rfl (pc z)) st ih⟩
  ·generalize a.fmod b=q at r z1 st;have p0:0<2^k:=Nat.pow_pos (by decide:0<2);have q0:0<q:=ID z1 p0;obtain ⟨M,rfl⟩:∃ M',M=M'+1:=⟨M - 1,IC hN⟩;have st2:=vT (K:=K) (σ:=σ) (a:=b) (k:=k+1) (x:=iV q) q0 (by omega) hk;have fm:b.fmod q=b - q:=by
    rw[Int.fmod_eq_emod_of_nonneg b (o42 q0)];have:=Int.emod_emod_of_dvd b (Int.dvd_refl q);have e3:(b - q) % q=b % q:=by rw[Int.sub_emod,Int.emod_self,Int.sub_zero,Int.emod_emod_of_dvd b (Int.dvd_refl q)]
    rw[←e3,Int.emod_eq_of_lt (Fq r) (IB h1 z1)]
   rw[←rP (a:=b) q0];rw[fm] at st2 ⊢;obtain ⟨x',ih⟩:=uC k q (b - q) (iV (b - q)) M (Fq r) (IA h1 z1) (Fr hk) (Iz hN);exact ⟨x',sH (ai rfl rfl rfl rfl (pc z)) st (sH (ai rfl rfl rfl rfl (pc (o28 q0))) st2 ih)⟩
theorem uI {a b:Int} {k:Nat} (h0:0≤b) (h1:b.toNat<2^k) (hk:k≤8000):CC (d+1) hd 131 [.d (.int a),.d (.int b)] σ=some (.ok (.d (.int (gcI a b))),σ):=by
 obtain ⟨x',e⟩:=uC (K:=KK d hd) (σ:=σ) k a b none 100000 h0 h1 hk (Iy hk);exact aO Gq rfl rfl (aa e (az (aq rfl))) (tk _)
theorem Br {a b:Int}:Int.gcd (if a<0 then -a else a) b=Int.gcd a b:=by
 split
 ·exact Int.neg_gcd
 ·rfl
theorem tT {a b:Int} {k:Nat} (h0:0<b) (h1:b.toNat<2^k) (hk:k≤8000):CC (d+2) hd 132 [.d (.int a),.d (.int b)] σ=some (.ok (.d (.tup [.int (a / Int.gcd a b),.int (b / Int.gcd a b)])),σ):=by
 have g0:0<Int.gcd a b:=Int.gcd_pos_of_ne_zero_right a (o28 h0);have gb:(Int.gcd a b:Int)≤b:=Int.le_of_dvd h0 (Int.gcd_dvd_right a b);have cr:=(uI (d:=d) (hd:=hd) (σ:=σ) (a:=if a<0 then -a else a) (Lb h0) h1 hk);have eg:gcI (if a<0 then -a else a) b=(Int.gcd a b:Int):=by
  unfold gcI;rw[if_neg (show¬b=0 by exact o27 h0),Br]
 rw[eg] at cr;generalize hg:(Int.gcd a b:Int)=g at cr gb;have g0':0<g:=J0 g0 hg;have d1:a.fdiv g=a / g:=Int.fdiv_eq_ediv_of_nonneg _ (Lb g0');have d2:b.fdiv g=b / g:=Int.fdiv_eq_ediv_of_nonneg _ (Lb g0');rw[←d1,←d2];exact aO Gp rfl (ρ:=[iV a,iV b,none]) rfl (aa (an (ak (clc (bx (cl1 rfl) rfl) (cl1 rfl)) cr) rfl) (az (aq (aP (clc (ax rfl rfl rfl rfl (zp g0' (Fo h1 gb) hk)) (cl1 (ax rfl rfl rfl rfl (zp g0' (Fo h1 gb) hk)))))))) (tk _)
end
noncomputable def wv (a:List Nat) (r:List Nat→Option Rw):List (Pr2×Int)→Int×Int→Option (Int×Int)
 |[],s=>some s
 |x::rs,s=>if x.1.1=a then (r x.1.2).bind fun w=>wv a r rs (s.1*w.2.2.2+x.2*w.2.2.1*s.2,s.2*w.2.2.2) else wv a r rs s
structure Bd (M:Nat) (s:Int×Int):Prop where
 p:1≤s.2
 b:s.2.natAbs≤M
 t:s.1.natAbs≤2^121*M
theorem Bd.step {M:Nat} {s:Int×Int} {v x y:Int} (h:Bd M s) (hv:v.natAbs≤2^120) (hx:1≤x∧x≤10^9) (hy:1≤y∧y≤10^9):Bd (M*2^31) (s.1*y+v*x*s.2,s.2*y):=by
 have xa:x.natAbs≤2^30:=o43 hx;have ya:y.natAbs≤2^30:=o43 hy;have e1:(s.2*y).natAbs≤M*2^30:=by rw[Int.natAbs_mul];exact Nat.mul_le_mul h.b ya
 have e2:(s.1*y).natAbs≤2^121*M*2^30:=by rw[Int.natAbs_mul];exact Nat.mul_le_mul h.t ya
 have e3:(v*x*s.2).natAbs≤2^120*2^30*M:=by rw[Int.natAbs_mul,Int.natAbs_mul];exact Nat.mul_le_mul (Nat.mul_le_mul hv xa) h.b
 have e4:=Int.natAbs_add_le (s.1*y) (v*x*s.2);refine ⟨?_,?_,?_⟩
 ·have:=Int.mul_pos (show 0<s.2 by have:=h.p;exact o2 this) (show 0<y by exact o32 hy);show 1≤s.2*y;exact Ix this
 ·exact Km e1 (Lh M (Nat.pow_le_pow_right (by decide) (by decide)))
 ·have q1:2^121*M*2^30=2*(2^150*M):=by rw[Nat.mul_right_comm,←Nat.pow_add,Nat.pow_succ (n:=2) (m:=150),Nat.mul_comm (2^150) 2,Nat.mul_assoc]
  have q2:2^120*2^30*M=2^150*M:=by rw[←Nat.pow_add]
  have q3:2^121*(M*2^31)=4*(2^150*M):=by rw[Nat.mul_comm M,←Nat.mul_assoc,←Nat.pow_add,Nat.pow_add (a:=2) (m:=150) (n:=2),Nat.mul_comm (2^150) (2^2),Nat.mul_assoc]
  rw[q1] at e2;rw[q2] at e3;rw[q3];show (s.1*y+v*x*s.2).natAbs≤_;generalize 2^150*M=X at e2 e3 ⊢;generalize (s.1*y+v*x*s.2).natAbs=X1 at e4 ⊢;generalize (s.1*y).natAbs=X2 at e2 e4;generalize (v*x*s.2).natAbs=X3 at e3 e4;clear q1 q2 q3 e1 hv xa ya hx hy h;exact Iw e2 e3 e4
theorem AZ {a b:Int} {k:Nat} (hk:k≤8000) (ha:a.natAbs<2^k) (hb:b.natAbs<2^k):eY a b=true:=by
 have lg:∀ n:Nat,n<2^k→n.log2≤k:=fun n h=>by
  by_cases z:n=0
  ·rw[z];exact KI _
  ·exact KU ((Nat.log2_lt z).mpr h)
 have h1:=lg _ ha;have h2:=lg _ hb;have h3:a.natAbs.log2+b.natAbs.log2+2≤2^27:=by
  clear ha hb;have:(2:Nat)^27=134217728:=by decide
  exact Iv hk h1 h2
 rw[eY,Kr h3,Bool.or_true]
noncomputable abbrev wR (n:Nat) (a:List Nat) (t:Int) (s:Int×Int) (x5 x6:Option PV):Rho:=[qV n,sV a,iV t,iV s.1,iV s.2,x5,x6]
def wa (x:Pr2×Int):Prop:=aX x.1.2=true∧x.2.natAbs≤2^120
structure ZOk (Z:Nat):Prop where
 h:Z<2^2001
theorem qH {M k Z:Nat} (h:M*2^(31*(k+1))≤Z):M*2^31*2^(31*k)≤Z:=by
 rw[Nat.mul_assoc,←Nat.pow_add,show 31+31*k=31*(k+1) by exact Iu];exact h
theorem yl {M k Z:Nat} (h:M*2^(31*k)≤Z):M≤Z:=Km (Nat.le_mul_of_pos_right M (Nat.pow_pos (by decide))) h
section
variable {d m n N:Nat} {hd:Bool} {K:Ker} {ρ ρ':Rho} {σ σ':Sto} {p p':Pl} {S S':St} {t:Int} {a:List Nat}
theorem J5 {M Z:Nat} {s:Int×Int} {v x:Int} (h:Bd M s) (hZ:ZOk Z) (hM:M≤Z) (hv:v.natAbs≤2^120) (hx:1≤x∧x≤10^9):eY (v*x) s.2=true:=by
 refine AZ (k:=2001) (by decide) ?_ (KE h.b (KE hM hZ.h));rw[Int.natAbs_mul];have xa:x.natAbs≤2^30:=o43 hx;exact KE (Nat.mul_le_mul hv xa) (by rw[←Nat.pow_add];exact Nat.pow_lt_pow_right (by decide) (by decide))
theorem FN {v:PV} {x y:D} {i c:Nat} {b:Rho→Sto→Option (Out×Sto)} {l:List D} (h:b (ρ.set i (dV y)) σ=some (.ex c ρ',σ')):cx v x i b (y::l) ρ σ=some (.ex c ρ',σ'):=by
 show (match b (ρ.set i (dV y)) σ with
  |some (.next ρ',σ')=>if bp σ' x v then cx v x i b l ρ' σ' else none
  |z=>z)=_
 rw[h]
theorem Dr {y x:Int} (hx:1≤x∧x≤10^9):eY y x=true:=dI (o22 hx)
theorem sG {Z:Nat} (hZ:ZOk Z) {v:D} {rs:List Rw} {mm:List (List Nat×D)} (B:Bk σ n S) (T:Tell S rs mm) (hh:aX S.home=true) (hn:bc t) (hr:rs.length≤900) (hw:∀ x∈rs,uN x):∀ (xs:List (Pr2×Int)) (s:Int×Int) (M:Nat) (x5 x6:Option PV),Bd M s→M*2^(31*xs.length)≤Z→(∀ x∈xs,wa x)→
  (∀ z,wv a (fun c=>aZ S.home rs c t) xs s=some z→(∃ M',Bd M' z∧M'≤Z)∧∃ y5 y6,cx (.d v) v 5 (fun ρ=>fn_worth_f1.ex (KK (d+2) false) ρ) (xs.map cO) (wR n a t s x5 x6) σ=some (.next (wR n a t z y5 y6),σ))∧
  (wv a (fun c=>aZ S.home rs c t) xs s=none→∃ ρ',cx (.d v) v 5 (fun ρ=>fn_worth_f1.ex (KK (d+2) false) ρ) (xs.map cO) (wR n a t s x5 x6) σ=some (.ex 13 ρ',σ))
 :=by
 intro xs
 induction xs with
 |nil=>
  intro s M x5 x6 bd hM _;exact ⟨fun z h=>by cases h;exact ⟨⟨M,bd,yl hM⟩,x5,x6,rfl⟩,fun h=>by cases h⟩
 |cons x xs ih=>
  intro s M x5 x6 bd hM ok;rw[Kk] at hM;have ox:=ok x (.head _);by_cases z:x.1.1=a
  ·have ra:=iz (d:=d) (c:=x.1.2) (n:=t) B T hh ox.1 hn hr;have ts:Ts (KK (d+2) false) (aJ cEq (sub (loc 5) (ah 0)) (loc 1)) (wR n a t s (dV (cO x)) x6) σ true:=ai (aL 0 rfl rfl) rfl rfl rfl (fg z);have ew:wv a (fun c=>aZ S.home rs c t) (x::xs) s=(aZ S.home rs x.1.2 t).bind (fun w=>wv a (fun c=>aZ S.home rs c t) xs (s.1*w.2.2.2+x.2*w.2.2.1*s.2,s.2*w.2.2.2)):=if_pos z;cases zr:aZ S.home rs x.1.2 t with
   |none=>
    rw[zr] at ra;refine ⟨(fun q h=>by rw[ew,zr] at h;cases h),fun _=>⟨wR n a t s (dV (cO x)) x6,?_⟩⟩;exact FN (sZ (bW ts (sZ (Ei (bq B rfl (clc (aL 1 rfl rfl) (cl1 rfl)) ra)))))
   |some w=>
    rw[zr] at ra;have wo:=jp hw zr;have bd':=bd.step ox.2 wo.1 wo.2;obtain ⟨i1,i2⟩:=ih (s.1*w.2.2.2+x.2*w.2.2.1*s.2,s.2*w.2.2.2) (M*2^31) (dV (cO x)) (dV (tbD w)) bd' (qH hM) fun y hy=>ok y (.tail _ hy);have st:fn_worth_f1.ex (KK (d+2) false) (wR n a t s (dV (cO x)) x6) σ=some (.next (wR n a t (s.1*w.2.2.2+x.2*w.2.2.1*s.2,s.2*w.2.2.2) (dV (cO x)) (dV (tbD w))),σ):=by
     refine aa (bW ts (aa (an (bq B rfl (clc (aL 1 rfl rfl) (cl1 rfl)) ra) rfl) (aa (an (bB (ax rfl (aL 1 rfl rfl) rfl rfl (dw (Dr wo.2))) (ax (ax (aL 2 rfl rfl) (aL 0 rfl rfl) rfl rfl (dw (Dr wo.1))) rfl rfl rfl (dw (J5 bd hZ (yl hM) ox.2 wo.1)))) rfl) (aa (an (ax rfl (aL 1 rfl rfl) rfl rfl (dw (Dr wo.2))) rfl) rfl)))) rfl
    refine ⟨fun q h=> ?_,fun h=> ?_⟩
    ·rw[ew,zr,Ka] at h;obtain ⟨h1,y5,y6,e⟩:=i1 q h;exact ⟨h1,y5,y6,aN st rfl e⟩
    ·rw[ew,zr,Ka] at h;obtain ⟨ρ',e⟩:=i2 h;exact ⟨ρ',aN st rfl e⟩
  ·obtain ⟨i1,i2⟩:=ih s (M*2^31) (dV (cO x)) x6 ⟨bd.p,Km bd.b (Nat.le_mul_of_pos_right M (by decide)),Km bd.t (Lh _ (Nat.le_mul_of_pos_right M (by decide)))⟩ (qH hM) fun y hy=>ok y (.tail _ hy);have ew:wv a (fun c=>aZ S.home rs c t) (x::xs) s=wv a (fun c=>aZ S.home rs c t) xs s:=if_neg z;have st:fn_worth_f1.ex (KK (d+2) false) (wR n a t s (dV (cO x)) x6) σ=some (.next (wR n a t s (dV (cO x)) x6),σ):=aa (a_ (ai (aL 0 rfl rfl) rfl rfl rfl (g_ z)) rfl) rfl;rw[ew];refine ⟨fun q h=> ?_,fun h=> ?_⟩
   ·obtain ⟨h1,y5,y6,e⟩:=i1 q h;exact ⟨h1,y5,y6,aN st rfl e⟩
   ·obtain ⟨ρ',e⟩:=i2 h;exact ⟨ρ',aN st rfl e⟩
end
theorem J4 {i:Int} (u: -10^30<i) (v:i<10^30):i.natAbs≤10^30:=It u v
theorem B6 {a c:List Nat} {t:Int} {l:bj} (h:cA l.2.2=true):(jQ a c t l).natAbs≤t.natAbs+10^30:=by
 have h1:=KX (ag (aj h));have h2:=KX (aj (aj h));unfold jQ;split
 ·exact Km (Int.natAbs_add_le _ _) (KW (J4 h1 h2) _)
 ·exact K9 _ _
theorem rQ {a c:List Nat}:∀ (ls:List bj) (t:Int),(∀ l∈ls,cA l.2.2=true)→(ls.foldl (jQ a c) t).natAbs≤t.natAbs+ls.length*10^30
 |[],t,_=>K9 _ _
 |l::ls,t,h=>by
  have h1:=B6 (a:=a) (c:=c) (t:=t) (h l (.head _));have h2:=rQ (a:=a) (c:=c) ls (jQ a c t l) fun x hx=>h x (.tail _ hx);rw[List.foldl_cons,Kk];exact Ir h1 h2
theorem rR {a c:List Nat} {q:Option Int}:∀ (es:List Ent) (t:Int),(∀ e∈es,e.lines.length≤60)→(∀ e∈es,∀ l∈e.lines,cA l.2.2=true)→(es.foldl (gW a c q) t).natAbs≤t.natAbs+es.length*(60*10^30)
 |[],t,_,_=>K9 _ _
 |e::es,t,h,h'=>by
  have h0:=h e (.head _);have h1:(gW a c q t e).natAbs≤t.natAbs+60*10^30:=by
   unfold gW;split
   ·exact Km (rQ (a:=a) (c:=c) e.lines t (h' e (.head _))) (KW (Nat.mul_le_mul_right _ h0) _)
   ·exact K9 _ _
  have h2:=rR (a:=a) (c:=c) (q:=q) es (gW a c q t e) (fun x hx=>h x (.tail _ hx)) fun x hx=>h' x (.tail _ hx);rw[List.foldl_cons,Kk];exact Iq h1 h2
theorem CR {S:St} {A C:List (List Nat)} {t:Int} {a:Pr2} (F:Few S.made A C):(tot S t a).natAbs≤2^120:=by
 have h:=rR (a:=a.1) (c:=a.2) (q:=some t) S.made 0 F.l F.am;have e:=F.e;show (S.made.foldl (gW a.1 a.2 (some t)) 0).natAbs≤_;exact Ip h e
theorem AM {S:St} {A C:List (List Nat)} {t:Int} {l:List (Pr2×D)} (F:Few S.made A C) (hC:∀ c∈C,aX c=true) (k:Dk l (ft (S.made.filter (a9 0 t)))):∀ x∈fV (tot S t) (bz pz (l.map (·.1))),wa x:=fun x hx=>by
 obtain ⟨a,ha,rfl⟩:=Kt.mp hx;have h1:=(bF _).mem_iff.mp (List.mem_filter.mp ha).1;exact ⟨hC _ (F.prs a ((k.mem a).mp h1)).2,CR F⟩
theorem xX {f:Pr2→Int} {l:List (Pr2×D)} (h:l.length<64):(fV f (bz pz (l.map (·.1)))).length<64:=by
 unfold fV;rw[J'];refine KE (List.length_filter_le _ _) ?_;rw[(bF _).length_eq,J'];exact h
theorem bd0:Bd 1 (0,1):=⟨Int.le_refl _,Ko _,KI _⟩
theorem z0:ZOk (2^(31*64)):=⟨Nat.pow_lt_pow_right (by decide) (by decide)⟩
theorem EB {k:Nat} (h:k<64):1*2^(31*k)≤2^(31*64):=by
 rw[Nat.one_mul];exact Nat.pow_le_pow_right (by decide) (Io h)
section
variable {d m n N:Nat} {hd:Bool} {K:Ker} {ρ ρ':Rho} {σ σ':Sto} {p p':Pl} {S S':St} {t:Int} {a:List Nat} {xs:List (Pr2×Int)}
noncomputable def FC (z:Int×Int):D:=.tup [.int (z.1 / Int.gcd z.1 z.2),.int (z.2 / Int.gcd z.1 z.2)]
theorem we {rs:List Rw} {mm:List (List Nat×D)} (B:Bk σ n S) (T:Tell S rs mm) (hh:aX S.home=true) (hn:bc t) (hr:rs.length≤900) (hw:∀ x∈rs,uN x) (ha:a∈S.names) (ok:∀ x∈xs,wa x) (hl:xs.length<64) (hs:CC (d+3) false 128 [.p n 0,.d (.int t)] σ=some (.ok (.d (.lst (xs.map cO))),σ)):
  (∀ z,wv a (fun c=>aZ S.home rs c t) xs (0,1)=some z→(∃ M',Bd M' z∧M'≤2^(31*64))∧CC (d+4) false 133 [.p n 0,.d (.str a),.d (.int t)] σ=some (.ok (.d (FC z)),σ))∧
  (wv a (fun c=>aZ S.home rs c t) xs (0,1)=none→CC (d+4) false 133 [.p n 0,.d (.str a),.d (.int t)] σ=some (.ex 13,σ)):=by
 obtain ⟨i1,i2⟩:=sG (d:=d+1) (a:=a) z0 (v:=.lst (xs.map cO)) B T hh hn hr hw xs (0,1) 1 none none bd0 (EB hl) ok;have it:itV (.d (.lst (xs.map cO))) σ=some (.lst (xs.map cO),xs.map cO):=cp (if_pos (by rw[J'];exact aQ (o4 hl)));have pre:∀ z,(sC j2 (sC (aR (ao 132 (clC (loc 3) (clC (loc 4) clN)))) sN)).ex (KK (d+3) false) (wR n a t (0,1) none none) σ=z→fn_worth.ex (KK (d+3) false) [qV n,sV a,iV t,none,none,none,none] σ=z:=fun z hz=>
  aa (au (bq B rfl (cl1 rfl) (dF B ha))) (aa (au (ak (cl1 rfl) (cg hn))) (aa (an rfl rfl) (aa (an rfl rfl) hz)))
 refine ⟨fun z h=> ?_,fun h=> ?_⟩
 ·obtain ⟨⟨M',bd,hM⟩,y5,y6,e⟩:=i1 z h;refine ⟨⟨M',bd,hM⟩,aO Ez rfl rfl (pre _ (aa (aT (ak (clc rfl (cl1 rfl)) hs) it e) (az (aq (ak (clc rfl (cl1 rfl)) (tT (k:=2001) (o2 bd.p) ?_ (by decide))))))) (tk _)⟩;have:=bd.b;exact KE (Km (Im this) hM) z0.h
 ·obtain ⟨ρ',e⟩:=i2 h;exact FU Ez rfl rfl (pre _ (sZ (aT (ak (clc rfl (cl1 rfl)) hs) it e))) (tk _)
end
noncomputable def stL (a:Pr2) (e:Ent) (s:Int×List D) (x:bj):Int×List D:=if x.1=a.1∧x.2.1=a.2 then (s.1+x.2.2,s.2++[.tup [.int e.day,.int e.no,.int x.2.2,.int (s.1+x.2.2)]]) else s
noncomputable def stE (a:Pr2) (s:Int×List D) (e:Ent):Int×List D:=e.lines.foldl (stL a e) s
noncomputable def jE (es:List Ent) (f t:Int):List Ent:=bz fO (es.filter (a9 f t))
noncomputable def iv (es:List Ent) (a:Pr2) (f t:Int):Int×List D:=(jE es f t).foldl (stE a) (opn es f a,[])
noncomputable def dJ (es:List Ent) (a:Pr2) (f t:Int):D:=.tup [.int (opn es f a),.lst (iv es a f t).2,.int (iv es a f t).1]
noncomputable def rtD (o:Option Rw):D:=o.elim .none tbD
noncomputable def Cy (o:Option (Int×Int)):D:=o.elim .none FC
section
variable {a:Pr2} {e:Ent}
theorem oM:∀ (ls:List bj) (s:Int×List D),(ls.foldl (stL a e) s).2.length≤s.2.length+ls.length
 |[],s=>Ko _
 |x::ls,s=>by
  rw[List.foldl_cons,Kk];have h:=oM ls (stL a e s x);have k:(stL a e s x).2.length≤s.2.length+1:=by
   unfold stL;split
   ·rw[Kd,Kn];exact Ko _
   ·exact KZ _
  exact Hf h k
theorem uW:∀ (ls:List bj) (s:Int×List D),(ls.foldl (stL a e) s).1=s.1+SmL (sgL a 0) ls
 |[],s=>(Int.add_zero _).symm
 |x::ls,s=>by
  rw[List.foldl_cons,uW ls,iw,←Int.add_assoc];congr 1;unfold stL sgL;rw[Int.mul_zero];by_cases q:x.1=a.1∧x.2.1=a.2
  ·rw[if_pos q,if_pos ⟨Prod.ext q.1 q.2,Int.le_refl _⟩]
  ·rw[if_neg q,if_neg fun h=>q ⟨congrArg Prod.fst h.1,congrArg Prod.snd h.1⟩,Int.add_zero]
theorem uX:∀ (es:List Ent) (s:Int×List D),(es.foldl (stE a) s).1=s.1+SmE (sgL a 0) es
 |[],s=>(Int.add_zero _).symm
 |e::es,s=>by rw[List.foldl_cons,uX es,bT,←Int.add_assoc];exact congrArg (· +_) (uW _ _)
theorem xD {es:List Ent} {t:Int} (h:∀ e∈es,0≤e.day) (ht:0≤t):(iv es a 0 t).1=fQ es t a:=by
 unfold iv fQ jE;rw[uX,lR (bF _),gT es 0 h,Int.zero_add];exact u0 (Int.le_refl 0) (by exact KO ht (K_ (by decide))) es
end
section
variable {d m n N:Nat} {hd:Bool} {K:Ker} {ρ ρ':Rho} {σ σ':Sto} {p p':Pl} {S S':St} {f t:Int} {a:Pr2} {A C:List (List Nat)}
theorem iI (h1:bc f) (h2:bc t) (h:f≤t):CC (d+2) false 163 [.d (.int f),.d (.int t)] σ=some (.ok (.d .none),σ):=
 eS Gm rfl rfl (aa (au (ak (cl1 rfl) (cg h1))) (aa (au (ak (cl1 rfl) (cg h2))) (aa (a_ (ai rfl rfl rfl rfl (iL (ES h))) rfl) rfl))) (tk _)
theorem jY (B:Bk σ n S) (F:Few S.made A C) (h1:bc f) (h2:bc t) (h:f≤t):CC (d+3) false 166 [.p n 0,.d (.int f),.d (.int t)] σ=some (.ok (.d (.lst ((jE S.made f t).map enD))),σ):=
 aO Gk rfl rfl (aa (au (ak (clc rfl (cl1 rfl)) (iI h1 h2 h))) (az (aq (ak (clc rfl (clc rfl (cl1 rfl))) (fE B F.no F.e))))) (tk _)
noncomputable abbrev tR (n:Nat) (a:Pr2) (f t o c:Int) (r:Nat) (x8 x9:Option PV):Rho:=[qV n,sV a.1,sV a.2,iV f,iV t,iV o,iV c,qV r,x8,x9]
theorem fp {v:D} {o:Int} {E:Ent}:∀ (ls:List bj) (s:Int×List D) (x9:Option PV),s.2.length+ls.length≤100000→∃ y9,cx (.d v) v 9 (fun ρ=>fn_statement_f1.ex K ρ) (ls.map lnD) (tR n a f t o s.1 σ.length (dV (enD E)) x9) (σ++[.fld (.list s.2)])=some (.next (tR n a f t o (ls.foldl (stL a E) s).1 σ.length (dV (enD E)) y9),σ++[.fld (.list (ls.foldl (stL a E) s).2)])
 |[],s,x9,_=>⟨x9,rfl⟩
 |x::ls,s,x9,hl=>by
  rw[Kk] at hl;have e1:Ev K (sub (loc 9) (ah 0)) (tR n a f t o s.1 σ.length (dV (enD E)) (dV (lnD x))) (σ++[.fld (.list s.2)]) (.d (.str x.1)):=aL 0 rfl rfl;have e2:Ev K (sub (loc 9) (ah 1)) (tR n a f t o s.1 σ.length (dV (enD E)) (dV (lnD x))) (σ++[.fld (.list s.2)]) (.d (.str x.2.1)):=aL 1 rfl rfl;rw[List.foldl_cons];unfold stL;by_cases q1:x.1=a.1
  ·by_cases q2:x.2.1=a.2
   ·rw[if_pos ⟨q1,q2⟩];have ap:=bG (K:=K) (ρ:=tR n a f t o (s.1+x.2.2) σ.length (dV (enD E)) (dV (lnD x))) (o:=loc 7) (a:=tup (clC (sub (loc 8) (ah 1)) (clC (sub (loc 8) (ah 0)) (clC (sub (loc 9) (ah 2)) (clC (loc 6) clN))))) (y:=.tup [.int E.day,.int E.no,.int x.2.2,.int (s.1+x.2.2)]) (l:=s.2) (σ:=σ++[.fld (.list s.2)]) rfl (aP (clc (aL 1 rfl rfl) (clc (aL 0 rfl rfl) (clc (aL 2 rfl rfl) (cl1 rfl))))) bL (KE (m:=100000) (He hl) (by decide));rw[cz] at ap;obtain ⟨y9,e⟩:=fp (v:=v) (o:=o) ls (s.1+x.2.2,s.2++[.tup [.int E.day,.int E.no,.int x.2.2,.int (s.1+x.2.2)]]) (dV (lnD x)) (by show (s.2++[_]).length+_≤_;rw[Kd,Kn];exact Hc hl);exact ⟨y9,aN (aa (bW (bO (cb (ai e1 rfl rfl rfl (fg q1)) (cb (ai e2 rfl rfl rfl (fg q2)) rfl))) (aa (an (bB rfl (aL 2 rfl rfl)) rfl) (aa (au ap) rfl))) rfl) rfl e⟩
   ·rw[if_neg fun h=>q2 h.2];obtain ⟨y9,e⟩:=fp (v:=v) (o:=o) ls s (dV (lnD x)) (ER hl);exact ⟨y9,aN (aa (a_ (bO (cb (ai e1 rfl rfl rfl (fg q1)) (eu (ai e2 rfl rfl rfl (g_ q2))))) rfl) rfl) rfl e⟩
  ·rw[if_neg fun h=>q1 h.1];obtain ⟨y9,e⟩:=fp (v:=v) (o:=o) ls s (dV (lnD x)) (ER hl);exact ⟨y9,aN (aa (a_ (bO (eu (ai e1 rfl rfl rfl (g_ q1)))) rfl) rfl) rfl e⟩
theorem nP {v:D} {o:Int}:∀ (es:List Ent) (s:Int×List D) (x8 x9:Option PV),(∀ e∈es,e.lines.length≤60)→s.2.length+60*es.length≤100000→∃ y8 y9,cx (.d v) v 8 (fun ρ=>fn_statement_f2.ex (KK d false) ρ) (es.map enD) (tR n a f t o s.1 σ.length x8 x9) (σ++[.fld (.list s.2)])=some (.next (tR n a f t o (es.foldl (stE a) s).1 σ.length y8 y9),σ++[.fld (.list (es.foldl (stE a) s).2)])
 |[],s,x8,x9,_,_=>⟨x8,x9,rfl⟩
 |E::es,s,x8,x9,h6,hl=>by
  rw[Kk] at hl;have E6:=h6 E (.head _);have sl:=oM (a:=a) (e:=E) E.lines s;obtain ⟨y9,e1⟩:=fp (K:=KK d false) (n:=n) (a:=a) (f:=f) (t:=t) (σ:=σ) (v:=.tup (E.lines.map lnD)) (o:=o) (E:=E) E.lines s x9 (Hb hl E6);obtain ⟨z8,z9,e⟩:=nP (v:=v) (o:=o) es (stE a s E) (dV (enD E)) y9 (fun e he=>h6 e (.tail _ he)) (by show (E.lines.foldl (stL a E) s).2.length+_≤_;exact Ha hl E6 sl);exact ⟨z8,z9,aN (aa (aT (aL 3 rfl rfl) (cp rfl) e1) rfl) rfl e⟩
theorem qr (B:Bk σ n S) (sh:Sh S) (F:Few S.made A C) (ha:a.1∈S.names) (hc:aX a.2=true) (h1:bc f) (h2:bc t) (h:f≤t):CC (d+3) false 164 [.p n 0,.d (.str a.1),.d (.str a.2),.d (.int f),.d (.int t)] σ=some (.ok (.d (dJ S.made a f t)),σ):=by
 have pm:(jE S.made f t).Perm (S.made.filter (a9 f t)):=bF _;have ln:(jE S.made f t).length<64:=by
  rw[pm.length_eq];exact KE (List.length_filter_le _ _) F.e
 have bd:CC (d+2) false 126 [.p n 0,.d (.int f),.d (.int t)] (σ++[.fld (.list [])])=some (.ok (.d (.lst ((jE S.made f t).map enD))),σ++[.fld (.list [])]):=fE (B.app) F.no F.e;have ar:=gS (d:=d+1) (a:=a.1) (c:=a.2) (q:=some (f - 1)) B sh;rw[show total S a.1 a.2 (some (f - 1))=opn S.made f a from (gT S.made 0 fun e he=>(F.d e he).1).trans (Int.zero_add _)] at ar;obtain ⟨y8,y9,lp⟩:=nP (d:=d+2) (n:=n) (a:=a) (f:=f) (t:=t) (σ:=σ) (v:=.lst ((jE S.made f t).map enD)) (o:=opn S.made f a) (jE S.made f t) (opn S.made f a,[]) none none (fun e he=>F.l e (List.mem_filter.mp (pm.mem_iff.mp he)).1) (by show 0+_≤_;exact G_ ln);unfold dJ iv;generalize (jE S.made f t).foldl (stE a) (opn S.made f a,[])=r at lp ⊢;generalize opn S.made f a=o at ar lp ⊢;exact aO Gl rfl (ρ:=[qV n,sV a.1,sV a.2,iV f,iV t,none,none,none,none,none]) rfl (aa (au (bq B rfl (cl1 rfl) (dF B ha))) (aa (au (ak (cl1 rfl) (bU hc))) (aa (au (ak (clc rfl (cl1 rfl)) (iI h1 h2 h))) (aa (an (bq B rfl (clc rfl (clc rfl (cl1 (ax rfl rfl rfl rfl rfl)))) ar) rfl) (aa (an rfl rfl) (aa (an (co rfl) rfl) (aa (aT (ak (clc rfl (clc rfl (cl1 rfl))) bd) (cp (if_pos (by rw[J'];exact aQ (o4 ln)))) lp) (iS rfl (iT rfl) (az (aq (aP (clc rfl (clc rfl (cl1 rfl)))))))))))))) (tkl σ _)
theorem BV {u c:List Nat} (B:Bk σ n S) (sh:Sh S) (ha:u∈S.names) (hc:aX c=true) (h1:bc t):CC (d+2) false 61 [.p n 0,.d (.str u),.d (.str c),.d (.int t)] σ=some (.ok (.d (.int (fQ S.made t (u,c)))),σ):=
 aO t61 rfl rfl (aa (au (bq B rfl (cl1 rfl) (dF B ha))) (aa (au (ak (cl1 rfl) (bU hc))) (aa (au (ak (cl1 rfl) (cg h1))) (az (aq (bq B rfl (clc rfl (clc rfl (cl1 rfl))) (gS (d:=d) (q:=some t) B sh))))))) (tk _)
theorem Es {b:CS} {h:CH} {v:PV} (h1:b.ex (KK d false) ρ σ=some (.ret v,σ')):(AH b h).ex (KK d false) ρ σ=some (.ret v,σ'):=by
 show At h (KK d false) (b.ex (KK d false) ρ σ)=_;rw[h1];rfl
theorem nj {rs:List Rw} {mm:List (List Nat×D)} {c:List Nat} (B:Bk σ n S) (T:Tell S rs mm) (hh:aX S.home=true) (hc:aX c=true) (hn:bc t) (hr:rs.length≤900):CC (d+3) false 171 [.p n 0,.d (.str c),.d (.int t)] σ=some (.ok (.d (rtD (aZ S.home rs c t))),σ):=by
 have ra:=iz (d:=d) B T hh hc hn hr;cases z:aZ S.home rs c t with
 |none=>
  rw[z] at ra;exact aO Ex rfl rfl (az (Er (c:=13) (sZ (yb (bq B rfl (clc rfl (cl1 rfl)) ra))) (by decide) rfl)) (tk _)
 |some w=>
  rw[z] at ra;exact aO Ex rfl rfl (az (Es (az (aq (bq B rfl (clc rfl (cl1 rfl)) ra))))) (tk _)
theorem B_ (F:Few S.made A C) (hC:∀ c∈C,aX c=true):(∀ x∈shE S.made t,wa x)∧(shE S.made t).length<64:=⟨AM F hC (jG _),xX (kQ (jG _) F.prs F.a F.c)⟩
theorem lA {rs:List Rw} {mm:List (List Nat×D)} {u:List Nat} (B:Bk σ n S) (sh:Sh S) (F:Few S.made A C) (hC:∀ c∈C,aX c=true) (T:Tell S rs mm) (hh:aX S.home=true) (hn:bc t) (hr:rs.length≤900) (hw:∀ x∈rs,uN x) (ha:u∈S.names):CC (d+5) false 165 [.p n 0,.d (.str u),.d (.int t)] σ=some (.ok (.d (Cy (wv u (fun c=>aZ S.home rs c t) (shE S.made t) (0,1)))),σ):=by
 obtain ⟨ok,hl⟩:=B_ (t:=t) F hC;obtain ⟨i1,i2⟩:=we (d:=d) (a:=u) (xs:=shE S.made t) B T hh hn hr hw ha ok hl (jm B sh F hn);cases z:wv u (fun c=>aZ S.home rs c t) (shE S.made t) (0,1) with
 |none=>exact aO Ey rfl rfl (az (Er (c:=13) (sZ (yb (ak (clc rfl (clc rfl (cl1 rfl))) (i2 z)))) (by decide) rfl)) (tk _)
 |some w=>exact aO Ey rfl rfl (az (Es (az (aq (ak (clc rfl (clc rfl (cl1 rfl))) (i1 w z).2))))) (tk _)
end
section
variable {d m n N:Nat} {hd:Bool} {K:Ker} {ρ ρ':Rho} {σ σ':Sto} {p p':Pl} {S S':St} {f t:Int} {A C:List (List Nat)}
theorem vL {l:List D} {e:CE} (h:Ev K e ρ σ (.d (.lst l))) (hl:l.length≤lim):Ev K (bi mH (clC e clN)) ρ σ (.d (.lst l)):=bx (cl1 h) (by
 show (al (l.length≤lim) (D.lst l)).map _=_;rw[aB hl];rfl)
theorem DN {e:CE} {i:Int} (h:Ev K e ρ σ (.d (.int i))):Ev K (isi kI e) ρ σ (.d (.bool false)):=by
 refine av h ?_;rfl
def Cpy (x:D):Prop:=(∃ i,x= .int i)∨∃ l:List D,x= .lst l∧l.length≤lim
theorem si {ps:List D} (h:∀ x∈ps,Cpy x) (hl:ps.length≤1000):CC (d+1) false 170 [.d (.tup ps)] σ=some (.ok (.d (.tup ps)),σ):=by
 have cm:=cW (K:=KK d false) (ρ:=[dV (.tup ps),none]) (σ:=σ) (i:=1) (elt:=pH (tof (isi kI (loc 1))) (bi mH (clC (loc 1) clN)) (loc 1)) (y:=.tup ps) id id ps [] (fun x hx=>by
  rcases h x hx with ⟨i,rfl⟩|⟨l,rfl,hl⟩
  ·exact lc (fS (DN (i:=i) rfl)) rfl
  ·exact k_ (fS (Be rfl rfl)) (vL rfl hl)) (by rw[K6];exact o76 hl)
 rw[List.map_id,List.nil_append] at cm;refine aO Gj rfl (ρ:=[dV (.tup ps),none]) rfl (az (aq (bx (cl1 (mI (eq rfl (cp rfl) cm))) ?_))) (tk _);show (al (ps.length≤lim) (D.tup ps)).map _=_;rw[aB (aQ hl)];rfl
theorem Cg {l:List D} {i:Int} (h0:0≤i) (h1:i≤1000) (hl:l.length≤1000):dj (.lst l) .none (.int i)=some (.lst (l.take i.toNat)):=by
 have e:dj (.lst l) .none (.int i)=(al (l.length≤lim) ()).bind fun _=>(al (small i=true) i).map fun h=>.lst (bY l (cut 0 l.length) (cut h l.length)):=rfl;rw[e,aB (aQ hl),Ka,aB (cC (i:=i) (by exact KO (by decide) h0) (by exact KO h1 (by decide)))];show some (D.lst (bY l (cut 0 l.length) (cut i l.length)))=_;have c0:cut 0 l.length=0:=Nat.zero_min l.length;have c1:cut i l.length=min i.toNat l.length:=if_neg (Lg.mpr h0);rw[c0,c1,bY,List.drop_zero,Nat.sub_zero,List.take_eq_take_min.symm]
noncomputable def fD (es:List Ent) (rs:List Rw) (h:List Nat) (cs ns:List (List Nat)) (t:Int):List D:=(.lst ((shE es t).map cO)::cs.map fun c=>rtD (aZ h rs c t))++(ns.take 2).map fun u=>Cy (wv u (fun c=>aZ h rs c t) (shE es t) (0,1))
noncomputable abbrev eR (n m:Nat) (v:D) (r:Nat) (x4 x5 x6:Option PV):Rho:=[qV n,qV m,dV v,qV r,x4,x5,x6]
theorem gy {v w:D} {i:Nat} {b:CS} {ρ0:Option PV→Rho} {α:Type} {f g:α→D} (hi:∀ x y,(ρ0 x).set i (dV y)=ρ0 (dV y)):∀ (xs:List α) (rs:List D) (x:Option PV),(∀ a∈xs,∀ rs:List D,rs.length≤900→b.ex K (ρ0 (dV (f a))) (σ++[.fld (.list rs)])=some (.next (ρ0 (dV (f a))),σ++[.fld (.list (rs++[g a]))]))→rs.length+xs.length≤900→∃ y,cx (.d v) v i (fun ρ=>b.ex K ρ) (xs.map f) (ρ0 x) (σ++[.fld (.list rs)])=some (.next (ρ0 y),σ++[.fld (.list (rs++xs.map g))])
 |[],rs,x,_,_=>⟨x,by rw[List.map_nil,List.map_nil,List.append_nil];rfl⟩
 |a::xs,rs,x,h,hl=>by
  rw[Kk] at hl;obtain ⟨y,e⟩:=gy (v:=v) (w:=w) hi xs (rs++[g a]) (dV (f a)) (fun a ha=>h a (.tail _ ha)) (by rw[Kd,Kn];exact G8 hl);rw[List.append_assoc] at e;exact ⟨y,aN (by rw[hi];exact h a (.head _) rs (G7 hl)) rfl e⟩
theorem sa {v:D} {rs:List D} {x5 x6:Option PV} {ns:List (List Nat)} {ds:List D} (B:Bk σ n (S.w ns ds)) (sh:Sh (S.w ns ds)) (hw:∀ x∈p.names,x∈ns) (R:Rk σ m p) (G:Gd N p S) (hN:N≤500) (F:Few S.made p.names p.curs) (ht:bc t) (hl:rs.length≤500):∃ y5 y6,lw_days_told_f3.ex (KK (d+5) false) (eR n m v σ.length (iV t) x5 x6) (σ++[.fld (.list rs)])=some (.next (eR n m v σ.length (iV t) y5 y6),σ++[.fld (.list (rs++fD S.made p.told S.home p.curs p.names t))]):=by
 obtain ⟨mm,T⟩:=G.tell;have T:Tell (S.w ns ds) p.told mm:=T.of rfl rfl;have l2:=G.l2;have c10:=G.c10;have nl:=G.nl;have hh:=G.ic _ (KJ G.home);have B':∀ o,Bk (σ++[o]) n (S.w ns ds):=fun o=>B.app;have R':∀ o,Rk (σ++[o]) m p:=fun o=>R.app;obtain ⟨_,sl⟩:=B_ (t:=t) F G.ic;have ap:∀ {o a:CE} {ρ:Rho} {rs:List D} {y:D},Ev (KK (d+5) false) o ρ (σ++[.fld (.list rs)]) (.p σ.length 0)→Ev (KK (d+5) false) a ρ (σ++[.fld (.list rs)]) (.d y)→rs.length≤900→(bm aH o (clC a clN)).ev (KK (d+5) false) ρ (σ++[.fld (.list rs)])=some (.ok (.d .none),σ++[.fld (.list (rs++[y]))]):=fun ho ha hl=>by
  have q:=bG ho ha bL (cn (o75 hl));rw[cz] at q;exact q
 have s1:=ap (o:=loc 3) (a:=bi mH (clC (ao 128 (clC (loc 0) (clC (loc 4) clN))) clN)) (ρ:=eR n m v σ.length (iV t) x5 x6) (rs:=rs) (y:=.lst ((shE S.made t).map cO)) rfl (vL (ak (clc rfl (cl1 rfl)) (jm (S:=S.w ns ds) (d:=d+2) (B' _) sh F ht)) (by rw[J'];exact aQ (o4 sl))) (Hh hl);obtain ⟨y5,e5⟩:=gy (K:=KK (d+5) false) (σ:=σ) (v:=.lst (p.curs.map .str)) (w:=v) (i:=5) (b:=fJ) (ρ0:=fun x=>eR n m v σ.length (iV t) x x6) (f:=D.str) (g:=fun c=>rtD (aZ S.home p.told c t)) (fun _ _=>rfl) p.curs (rs++[.lst ((shE S.made t).map cO)]) x5 (fun c hc rs hr=>aa (au (ap rfl (ak (clc rfl (clc rfl (cl1 rfl))) (nj (S:=S.w ns ds) (d:=d+2) (B' _) T hh (G.ic c hc) ht (EQ hN l2))) hr)) rfl) (by rw[Kd,Kn];exact Km (Nat.add_le_add (Lc hl) c10) (Kj rfl));obtain ⟨y6,e6⟩:=gy (K:=KK (d+5) false) (σ:=σ) (v:=.lst ((p.names.take 2).map .str)) (w:=v) (i:=6) (b:=fI) (ρ0:=fun x=>eR n m v σ.length (iV t) y5 x) (f:=D.str) (g:=fun u=>Cy (wv u (fun c=>aZ S.home p.told c t) (shE S.made t) (0,1))) (fun _ _=>rfl) (p.names.take 2) (rs++[.lst ((shE S.made t).map cO)]++p.curs.map fun c=>rtD (aZ S.home p.told c t)) x6 (fun u hu rs hr=>aa (au (ap rfl (ak (clc rfl (clc rfl (cl1 rfl))) (lA (S:=S.w ns ds) (d:=d) (B' _) sh F G.ic T hh ht (EQ hN l2) G.rw (hw u (List.mem_of_mem_take hu)))) hr)) rfl) (by rw[Kd,Kd,Kn,J',List.length_take];exact G6 hl c10);have sl2:∀ x5 x6 o,Ev (KK (d+5) false) (slc (key (loc 1) 0 Lj) noP (atP (ah 2))) (eR n m v σ.length (iV t) x5 x6) (σ++[o]) (.d (.lst ((p.names.take 2).map .str))):=fun x5 x6 o=>by
  rw[List.map_take];exact ix (cJ (R' o) rfl) rfl (sA rfl) (cI (R' o)) rfl rfl (Cg (by decide) (by decide) (by rw[J'];exact o3 nl))
 refine ⟨y5,y6,aa (au s1) (aa (aT (h_ (R' _) rfl) (cp (if_pos (by rw[J'];exact aQ (o11 c10)))) e5) (aa (aT (sl2 _ _ _) (cp (if_pos (by rw[J',List.length_take];exact aQ (G4)))) e6) ?_))⟩;show some (Out.next _,σ++[PO.fld (.list _)])=_;rw[fD,List.append_assoc,List.append_assoc];rfl
theorem zM {t':Int} {ns:List (List Nat)} {ds:List D} (B:Bk σ n (S.w ns ds)) (sh:Sh (S.w ns ds)) (hw:∀ x∈p.names,x∈ns) (R:Rk σ m p) (G:Gd N p S) (hN:N≤500) (F:Few S.made p.names p.curs) (h1:bc t) (h2:bc t'):CC (d+6) false 172 [.p n 0,.p m 0,.d (.lst [.int t,.int t'])] σ=some (.ok (.d (.lst (fD S.made p.told S.home p.curs p.names t++fD S.made p.told S.home p.curs p.names t'))),σ):=by
 have c10:=G.c10;obtain ⟨y5,y6,e1⟩:=sa (d:=d) (v:=.lst [.int t,.int t']) (rs:=[]) (x5:=none) (x6:=none) B sh hw R G hN F h1 (KI _);obtain ⟨z5,z6,e2⟩:=sa (d:=d) (v:=.lst [.int t,.int t']) (rs:=fD S.made p.told S.home p.curs p.names t) (x5:=y5) (x6:=y6) B sh hw R G hN F h2 (by rw[fD,Kd,Kk,J',J',List.length_take];exact G0 c10);rw[List.nil_append] at e1;exact zZ (f':=.list _) (m:=σ.length) Gi rfl (ρ:=[qV n,qV m,dV (.lst [.int t,.int t']),none,none,none,none]) rfl (aa (an (co rfl) rfl) (aa (aT rfl (cp rfl) (aN e1 rfl (aN e2 rfl rfl))) (az (aq rfl)))) (Ko _) dG (tkl σ _)
end
noncomputable abbrev bfr (l:List Int) (i:Nat):Int:=(-1::l).getD i 0
noncomputable abbrev hH (l:List Int) (i:Nat):Int:=l.getD i 0
noncomputable def o_ (es:List Ent) (l:List Int) (i:Nat):D:=.tup [.int (bfr l i+1),.int (hH l i),.lst ((bQ es (hH l i)).map (lU es (bfr l i+1) (hH l i)))]
noncomputable def gX (es:List Ent) (rs:List Rw) (h:List Nat) (cs ns:List (List Nat)) (l:List Int) (kept known many:Nat) (c dr:Int) (u:List Nat):D:=.lst [.lst ((List.range kept).map (o_ es l)),.lst ((List.range many).map fun i=>((es.map enD)[i]?).getD .none),.lst ((ns.take known).map fun a=>dJ es (a,u) 0 c),.lst ((ns.take known).map fun a=>.int (fQ es c (a,u))),.lst ((ns.take known).map fun a=>.int (fQ es dr (a,u))),.lst (fD es rs h cs ns dr++fD es rs h cs ns c),.lst ((jE es 0 c).map enD),.lst [dJ es (cy,u) dr c,.lst ((jE es dr c).map enD)]]
theorem iU {l:List Int} {i:Nat} (h:i<l.length):l[i]? =some (l.getD i 0):=by rw[Kw,Kh h];rfl
theorem uY {a:Pr2}:∀ (es:List Ent) (s:Int×List D),(∀ e∈es,e.lines.length≤60)→(es.foldl (stE a) s).2.length≤s.2.length+60*es.length
 |[],s,_=>Ko _
 |e::es,s,h=>by
  rw[List.foldl_cons,Kk];have h1:=uY (a:=a) es (stE a s e) fun e he=>h e (.tail _ he);have h2:(stE a s e).2.length≤s.2.length+e.lines.length:=oM e.lines s;have:=h e (.head _);exact GZ h1 h2 this
section
variable {d m n N:Nat} {hd:Bool} {K:Ker} {ρ ρ':Rho} {σ σ':Sto} {p p':Pl} {S S':St} {c dr:Int} {u:List Nat} {A C:List (List Nat)} {kept known many:Nat}
theorem t_ {es:List Ent} {f t:Int} (F:Few es A C):(jE es f t).length<64∧∀ e∈jE es f t,e.lines.length≤60:=by
 have pm:(jE es f t).Perm (es.filter (a9 f t)):=bF _;refine ⟨?_,fun e he=>F.l e (List.mem_filter.mp (pm.mem_iff.mp he)).1⟩;rw[pm.length_eq];exact KE (List.length_filter_le _ _) F.e
theorem qt {es:List Ent} {a:Pr2} {f t:Int} (F:Few es A C):CC (d+1) false 170 [.d (dJ es a f t)] σ=some (.ok (.d (dJ es a f t)),σ):=by
 obtain ⟨l1,l2⟩:=t_ (f:=f) (t:=t) F;have l3:(iv es a f t).2.length≤0+60*_:=uY (a:=a) (jE es f t) (opn es f a,[]) l2;refine si (fun x hx=> ?_) (Kj rfl);rcases Kb.mp hx with rfl|hx
 ·exact .inl ⟨_,rfl⟩
 rcases Kb.mp hx with rfl|hx
 ·exact .inr ⟨_,rfl,Km (m:=100000) (GY l1 l3) (by decide)⟩
 ·rw[Ki.mp hx];exact .inl ⟨_,rfl⟩
noncomputable abbrev oT (n m:Nat) (c:Int) (many:Nat) (dr:Int) (u:List Nat) (x6 x7 x8 x9 x10 x11 x12 x13:Option PV):Rho:=[qV n,qV m,iV c,iV many,iV dr,sV u,x6,x7,x8,x9,x10,x11,x12,x13,none,none,none,none]
theorem ql {ns:List (List Nat)} {ds:List D} (B:Bk σ n (S.w ns ds)) (sh:Sh (S.w ns ds)) (hw:∀ x∈p.names,x∈ns) (R:Rk σ m p) (G:Gd N p S) (hN:N≤500) (F:Few S.made p.names p.curs) (ex:p.ex=[.d (.int kept),.d (.int known)]) (hk:kept≤p.ends.length) (hm:many≤p.ents.length) (hn:known≤p.names.length) (h1:bc c) (h2:bc dr) (h3:dr≤c) (hu:aX u=true):CC (d+7) false 173 [.p n 0,.p m 0,.d (.int c),.d (.int many),.d (.int dr),.d (.str u)] σ=some (.ok (.d (gX S.made p.told S.home p.curs p.names p.ends kept known many c dr u)),σ):=by
 unfold gX;have ee:=G.ends;have l3:=G.l3;have nl:=G.nl;have Fe:=F.e;have d0:bc 0:=⟨by decide,by decide⟩;have R':∀ o,Rk (σ++[o]) m p:=fun o=>R.app;have B':∀ o,Bk (σ++[o]) n (S.w ns ds):=fun o=>B.app;have kk:Ev (KK (d+6) false) (key (loc 1) 9 Lr) (oT n m c many dr u none none none none none none none none) σ (.d (.int kept)):=ef (f:=.d (.int kept)) R rfl (by show p.ex[0]? =_;rw[ex];rfl);have kn:∀ {ρ:Rho} {s:Sto},Rk s m p→Ev (KK (d+6) false) (loc 1) ρ s (.p m 0)→Ev (KK (d+6) false) (slc (key (loc 1) 0 Lj) noP (atP (key (loc 1) 10 Ls))) ρ s (.d (.lst ((p.names.take known).map .str))):=fun r h=>by
  rw[List.map_take];exact ix (cJ r h) rfl (sA (ef (f:=.d (.int known)) r h (by show p.ex[1]? =_;rw[ex];rfl))) (cI r) rfl rfl (Cg (i:=known) (o9) (by exact KS.mpr (Km hn (Km nl (Kj rfl)))) (by rw[J'];exact o3 nl))
 have il:items (.lst ((p.names.take known).map D.str))=some ((p.names.take known).map D.str):=if_pos (by rw[J',List.length_take];exact aQ (GX nl));have nm:∀ a∈p.names.take known,a∈ns:=fun a ha=>hw a (List.mem_of_mem_take ha);have c1:=cW (K:=KK (d+6) false) (ρ:=oT n m c many dr u none none none none none none none none) (σ:=σ) (i:=17) (elt:=ao 170 (clC (ao 147 (clC (loc 0) (clC (bin oAdd (loc 17) (ah 1)) clN))) clN)) (y:=.rng 0 kept 1) (fun (i:Nat)=>D.int i) (o_ S.made p.ends) (List.range kept) [] (fun i hi=>by
  have hi:=List.mem_range.mp hi;have pe:=tf (S:=S.w ns ds) (d:=d+3) (k:=i) (b:=bfr p.ends i) (t:=hH p.ends i) B sh F (by show (-1::S.ends)[i]? =_;rw[ee];exact iU (by rw[Kk];exact De hk hi)) (by show S.ends[i]? =_;rw[ee];exact iU (yD hk hi)) rfl;have kl:=iN (t:=hH p.ends i) F;refine ak (cl1 (ak (clc rfl (cl1 (bB rfl rfl))) pe)) (si (fun x hx=> ?_) (Kj rfl));rcases Kb.mp hx with rfl|hx
  ·exact .inl ⟨_,rfl⟩
  rcases Kb.mp hx with rfl|hx
  ·exact .inl ⟨_,rfl⟩
  ·rw[Ki.mp hx];exact .inr ⟨_,rfl,by rw[J'];exact aQ (Km (KU kl) (by decide))⟩) (by rw[List.length_range,K6];exact GW hN hk l3)
 rw[List.nil_append] at c1;generalize (List.range kept).map (o_ S.made p.ends)=X1 at c1 ⊢;have c2:=cW (K:=KK (d+6) false) (ρ:=oT n m c many dr u (dV (.lst X1)) none none none none none none none) (σ:=σ) (i:=16) (elt:=meth (loc 0) 8 (clC (bin oAdd (loc 16) (ah 1)) clN)) (y:=.rng 0 many 1) (fun (i:Nat)=>D.int i) (fun i=>((S.made.map enD)[i]?).getD .none) (List.range many) [] (fun i hi=>by
  have hi:=List.mem_range.mp hi;have g:=Kh (show i<S.made.length by rw[G.made];exact yD hm hi);rw[Ku,g];exact bq B rfl (cl1 (bB rfl rfl)) (n_ (S:=S.w ns ds) B sh g)) (by rw[List.length_range,K6];rw[G.made] at Fe;exact GV hm Fe)
 rw[List.nil_append] at c2;generalize (List.range many).map (fun i=>((S.made.map enD)[i]?).getD .none)=X2 at c2 ⊢;obtain ⟨y9,e4⟩:=gy (K:=KK (d+6) false) (σ:=σ) (v:=.lst ((p.names.take known).map .str)) (w:=.none) (i:=9) (b:=jV) (ρ0:=fun x=>oT n m c many dr u (dV (.lst X1)) (dV (.lst X2)) (qV σ.length) x none none none none) (f:=D.str) (g:=fun a=>dJ S.made (a,u) 0 c) (fun _ _=>rfl) (p.names.take known) [] none (fun a ha rs hr=>by
  have q:=bG (K:=KK (d+6) false) (ρ:=oT n m c many dr u (dV (.lst X1)) (dV (.lst X2)) (qV σ.length) (sV a) none none none none) (σ:=σ++[.fld (.list rs)]) (o:=loc 8) (a:=ao 170 (clC (ao 164 (clC (loc 0) (clC (loc 9) (clC (loc 5) (clC (ah 0) (clC (loc 2) clN)))))) clN)) (n:=σ.length) (j:=0) (l:=rs) (y:=dJ S.made (a,u) 0 c) rfl (ak (cl1 (ak (clc rfl (clc rfl (clc rfl (clc rfl (cl1 rfl))))) (qr (S:=S.w ns ds) (d:=d+3) (a:=(a,u)) (B' _) sh F (nm a ha) hu d0 h1 h1.1))) (qt F)) bL (cn (o75 hr));rw[cz] at q;exact aa (au q) rfl) (by rw[List.length_take,K6];exact GU nl)
 rw[List.nil_append] at e4;generalize (p.names.take known).map (fun a=>dJ S.made (a,u) 0 c)=X3 at e4 ⊢;have bl:∀ (t:Int) (ρ:Rho) (i:Nat) (ke:CE),bc t→(∀ x,Ev (KK (d+6) false) ke (ρ.set i (dV x)) (σ++[.fld (.list X3)]) (.d (.int t)))→(∀ x,Ev (KK (d+6) false) (loc i) (ρ.set i (dV x)) (σ++[.fld (.list X3)]) (.d x)∧Ev (KK (d+6) false) (loc 0) (ρ.set i (dV x)) (σ++[.fld (.list X3)]) (.p n 0)∧Ev (KK (d+6) false) (loc 5) (ρ.set i (dV x)) (σ++[.fld (.list X3)]) (.d (.str u)))→cX (.d (.lst ((p.names.take known).map .str))) (.lst ((p.names.take known).map .str)) i (noIf.ts (KK (d+6) false)) ((meth (loc 0) 61 (clC (loc i) (clC (loc 5) (clC ke clN)))).ev (KK (d+6) false)) ρ ((p.names.take known).map .str) [] (σ++[.fld (.list X3)])=some (.ok ((p.names.take known).map fun a=>.int (fQ S.made t (a,u))),σ++[.fld (.list X3)]):=fun t ρ i ke ht h1 h2=>by
  have q:=cW (K:=KK (d+6) false) (ρ:=ρ) (σ:=σ++[.fld (.list X3)]) (i:=i) (elt:=meth (loc 0) 61 (clC (loc i) (clC (loc 5) (clC ke clN)))) (y:=.lst ((p.names.take known).map .str)) D.str (fun a=>.int (fQ S.made t (a,u))) (p.names.take known) [] (fun a ha=>bq (B' _) (h2 _).2.1 (clc (h2 _).1 (clc (h2 _).2.2 (cl1 (h1 _)))) (BV (S:=S.w ns ds) (d:=d+4) (B' _) sh (nm a ha) hu ht)) (by rw[List.length_take,K6];exact GT nl);rw[List.nil_append] at q;exact q
 have s7:=zM (d:=d) (B' (.fld (.list X3))) sh hw (R' _) G hN F h2 h1;generalize fD S.made p.told S.home p.curs p.names dr++fD S.made p.told S.home p.curs p.names c=X6 at s7 ⊢;have xm:cy∈ns:=hw _ (by
  obtain ⟨T,e,_⟩:=G.nm;rw[e];exact .head _)
 have j1:=jY (S:=S.w ns ds) (d:=d+3) (B' (.fld (.list X3))) F h2 h1 h3;have j0:=jY (S:=S.w ns ds) (d:=d+3) (B' .dead) F d0 h1 h1.1;have jl1:=(t_ (f:=dr) (t:=c) F).1;have jl0:=(t_ (f:=0) (t:=c) F).1;refine aO Gh rfl (ρ:=oT n m c many dr u none none none none none none none none) rfl (aa (dY (de (jC kk (EP hN hk l3)) (cp (dS (EP hN hk l3))) c1 rfl) rfl) (aa (dY (de (jC rfl (by rw[G.made] at Fe;exact EO hm Fe)) (cp (dS (by rw[G.made] at Fe;exact EO hm Fe))) c2 rfl) rfl) (aa (an (co rfl) rfl) (aa (aT (kn (R' _) rfl) (cp il) e4) (aa (dY (de (kn (R' _) rfl) (cp il) (bl c _ 15 (loc 2) h1 (fun _=>rfl) fun _=>⟨rfl,rfl,rfl⟩) rfl) rfl) (aa (dY (de (kn (R' _) rfl) (cp il) (bl dr _ 14 (loc 4) h2 (fun _=>rfl) fun _=>⟨rfl,rfl,rfl⟩) rfl) rfl) (aa (an (ak (clc rfl (clc rfl (cl1 (dO (clc rfl (cl1 rfl)))))) s7) rfl) (aa (an (dO (clc (ak (cl1 (ak (clc rfl (clc rfl (clc rfl (clc rfl (cl1 rfl))))) (qr (S:=S.w ns ds) (d:=d+3) (a:=(cy,u)) (B' _) sh F xm hu h2 h1 h3))) (qt F)) (cl1 (vL (ak (clc rfl (clc rfl (cl1 rfl))) j1) (by rw[J'];exact aQ (Km (KU jl1) (by decide))))))) rfl) (iS rfl (iT rfl) (az (aq (dO (clc rfl (clc rfl (clc rfl (clc rfl (clc rfl (clc rfl (clc (vL (ak (clc rfl (clc rfl (cl1 rfl))) j0) (by rw[J'];exact aQ (Km (KU jl0) (by decide)))) (cl1 rfl)))))))))))))))))))) (tkl σ [.dead])
end
section
variable {es xs:List Ent} {rs ys:List Rw} {c t f:Int} {a:Pr2} {u h:List Nat}
theorem zy (hx:∀ x∈xs,c<x.day) (ht:t≤c):(es++xs).filter (a9 f t)=es.filter (a9 f t):=by
 rw[List.filter_append,List.filter_eq_nil_iff.mpr fun x hx' q=>Lg.mpr (KO (kd q).2 ht) (hx x hx'),List.append_nil]
theorem nT (hx:∀ x∈xs,c<x.day) (ht:t≤c):bQ (es++xs) t=bQ es t:=by unfold bQ;rw[zy hx ht]
theorem qy (hx:∀ x∈xs,c<x.day) (ht:f - 1≤c):opn (es++xs) f a=opn es f a:=by unfold opn;rw[zy hx ht]
theorem xO (hx:∀ x∈xs,c<x.day) (h1:f - 1≤c) (ht:t≤c):lU (es++xs) f t=lU es f t:=funext fun a=>by unfold lU cam wnt;rw[qy hx h1,zy hx ht]
theorem sY (hx:∀ x∈xs,c<x.day) (ht:t≤c):jE (es++xs) f t=jE es f t:=by unfold jE;rw[zy hx ht]
theorem nS (hx:∀ x∈xs,c<x.day) (h1:f - 1≤c) (ht:t≤c):dJ (es++xs) a f t=dJ es a f t:=by unfold dJ iv;rw[sY hx ht,qy hx h1]
theorem lS (hx:∀ x∈xs,c<x.day) (h0:∀ e∈es++xs,0≤e.day) (ht:t≤c):fQ (es++xs) t=fQ es t:=funext fun a=>by
 unfold fQ;rw[gT _ _ h0,gT _ _ fun e he=>h0 e (List.mem_append_left _ he),zy hx ht]
theorem AG (hx:∀ x∈xs,c<x.day) (h0:∀ e∈es++xs,0≤e.day) (ht:t≤c):shE (es++xs) t=shE es t:=by unfold shE;rw[lS hx h0 ht,nT hx ht]
theorem nU (ht:t≤c):∀ (ys:List Rw) (o:Option Rw),(∀ y∈ys,c<y.2.1)→ys.foldl (nk u t) o=o
 |[],o,_=>rfl
 |y::ys,o,hy=>by
  have:=hy y (.head _);rw[List.foldl_cons,show nk u t o y=o from if_neg fun q=>by have:=q.2.1;omega];exact nU ht ys o fun y h=>hy y (.tail _ h)
theorem wy (hy:∀ y∈ys,c<y.2.1) (ht:t≤c):aZ h (rs++ys) u t=aZ h rs u t:=by
 unfold aZ gV;rw[List.foldl_append,nU ht ys _ hy]
theorem qz {cs ns ms:List (List Nat)} (hx:∀ x∈xs,c<x.day) (hy:∀ y∈ys,c<y.2.1) (h0:∀ e∈es++xs,0≤e.day) (ht:t≤c) (hn:2≤ns.length):fD (es++xs) (rs++ys) h cs (ns++ms) t=fD es rs h cs ns t:=by
 unfold fD;rw[AG hx h0 ht,List.take_append_of_le_length hn];simp only [wy hy ht]
theorem wi {cs ns ms:List (List Nat)} {l zs:List Int} {kept known many:Nat} {dr:Int} (hx:∀ x∈xs,c<x.day) (hy:∀ y∈ys,c<y.2.1) (h0:∀ e∈es++xs,0≤e.day) (hd:0≤dr∧dr≤c) (h2:2≤ns.length) (hk:kept≤l.length) (hn:known≤ns.length) (hm:many≤es.length) (hl:∀ x∈ -1::l,x≤c):gX (es++xs) (rs++ys) h cs (ns++ms) (l++zs) kept known many c dr u=gX es rs h cs ns l kept known many c dr u:=by
 have p1:(List.range kept).map (o_ (es++xs) (l++zs))=(List.range kept).map (o_ es l):=List.map_congr_left fun i hi=>by
  have hi:=List.mem_range.mp hi;have e1:hH (l++zs) i=hH l i:=by
   show (l++zs).getD i 0=l.getD i 0;rw[Kw,Kw,K1 (yD hk hi)]
  have e2:bfr (l++zs) i=bfr l i:=by
   show (-1::(l++zs)).getD i 0=(-1::l).getD i 0;rw[←List.cons_append,Kw,Kw,K1 (by rw[Kk];exact De hk hi)]
  have l1:hH l i≤c:=hl _ (.tail _ (KJ (iU (yD hk hi))));have l2:bfr l i≤c:=hl _ (KJ (iU (by rw[Kk];exact De hk hi)));unfold o_;rw[e1,e2,nT hx l1,xO hx (GS l2) l1]
 have p2:(List.range many).map (fun i=>(((es++xs).map enD)[i]?).getD .none)=(List.range many).map fun i=>((es.map enD)[i]?).getD .none:=List.map_congr_left fun i hi=>by
  have hi:=List.mem_range.mp hi;rw[List.map_append,K1 (by rw[J'];exact yD hm hi)]
 unfold gX;rw[p1,p2,List.take_append_of_le_length hn,lS hx h0 (Int.le_refl c),lS hx h0 hd.2,qz hx hy h0 hd.2 h2,qz hx hy h0 (Int.le_refl c) h2,sY hx (Int.le_refl c),sY hx (Int.le_refl c),nS (a:=(cy,u)) hx (GR hd) (Int.le_refl c)];simp only [nS (f:=0) hx (show (0:Int) - 1≤c by exact KO (by decide) (KO hd.1 hd.2)) (Int.le_refl c)]
end
section
variable {d m n N:Nat} {hd:Bool} {K:Ker} {ρ ρ':Rho} {σ σ':Sto} {p p':Pl} {S S':St} {c dr:Int} {u:List Nat} {kept known many:Nat}
theorem lB {v w:D} {x4:Option PV} {g:Nat→D} (hg:∀ i,i<kept→∃ x y z,g i= .tup [.int x,.int y,z]∧y≤c):∀ (is:List Nat) (x3:Option PV),(∀ i∈is,i<kept)→∃ y3,cx (.d v) v 3 (fun ρ=>lw_whole_told_f1.ex K ρ) (is.map g) [dV w,iV c,qV m,x3,x4] σ=some (.next [dV w,iV c,qV m,y3,x4],σ)
 |[],x3,_=>⟨x3,rfl⟩
 |i::is,x3,h=>by
  refine aK fun G9 k9=> ?_;obtain ⟨x,y,z,e,hy⟩:=hg i (h i (.head _));obtain ⟨y3,ih⟩:=lB (v:=v) (w:=w) (x4:=x4) hg is (dV (g i)) fun j hj=>h j (.tail _ hj);refine k9 ?_;refine ⟨y3,aN ?_ rfl ih⟩;rw[e];exact aa (a_ (bE (bI (nN (fS (Bc rfl))) (bI (ai (aL 1 rfl rfl) rfl rfl rfl (kA (ES hy))) (bI (ai (bx (cl1 rfl) (FD rfl (Kj rfl))) rfl rfl rfl (nn rfl)) rfl)))) rfl) rfl
theorem wf {X2:D} {Q Z:List D} {xs:List D} {g:Nat→D} (R:Rk σ m p) (ex:p.ex=[.d (.int kept),.d (.int known)]) (hg:∀ i,i<kept→∃ x y z,g i= .tup [.int x,.int y,z]∧y≤c) (hk:kept≤900) (hq:Q.length≤900) (hz:∀ i,i<Q.length→∃ x y z,Q[i]? =some (.tup [x,y,.int z])∧Z[i]? =some (.int z)):CC (d+1) false 175 [.d (.lst (.lst ((List.range kept).map g)::X2:: .lst Q:: .lst Z::xs)),.d (.int c),.p m 0] σ=some (.ok (.d (.bool true)),σ):=by
 generalize hT:D.lst (.lst ((List.range kept).map g)::X2:: .lst Q:: .lst Z::xs)=T;refine aK fun G9 k9=> ?_;obtain ⟨y3,e1⟩:=lB (K:=KK d false) (σ:=σ) (m:=m) (c:=c) (v:=.lst ((List.range kept).map g)) (w:=T) (x4:=none) hg (List.range kept) none fun i hi=>List.mem_range.mp hi;have t0:∀ x3 x4,Ev (KK d false) (sub (loc 0) (ah 0)) [dV T,iV c,qV m,x3,x4] σ (.d (.lst ((List.range kept).map g))):=fun _ _=>by rw[←hT];exact aA rfl rfl rfl rfl (ba (k:=0) rfl)
 have t2:∀ x3 x4,Ev (KK d false) (sub (loc 0) (ah 2)) [dV T,iV c,qV m,x3,x4] σ (.d (.lst Q)):=fun _ _=>by rw[←hT];exact aA rfl rfl rfl rfl (ba (k:=2) rfl)
 have t3:∀ x3 x4,Ev (KK d false) (sub (loc 0) (ah 3)) [dV T,iV c,qV m,x3,x4] σ (.d (.lst Z)):=fun _ _=>by rw[←hT];exact aA rfl rfl rfl rfl (ba (k:=3) rfl)
 obtain ⟨ρ2,s2,e2,x4,rfl,rfl⟩:=pP (v:=.d (.rng 0 Q.length 1)) (x:=.rng 0 Q.length 1) (i:=4) (b:=fun ρ=>lw_whole_told_f2.ex (KK d false) ρ) (fun j ρ s=>∃ x4,ρ=[dV T,iV c,qV m,y3,x4]∧σ=s) Q.length 0 [dV T,iV c,qV m,y3,none] σ ⟨none,rfl,rfl⟩ fun j ρ s hj H9=>by
  obtain ⟨x4,q1,q2⟩:=H9;subst q1 q2;obtain ⟨x,y,z,h1,h2⟩:=hz j (GQ hj);exact ⟨_,_,aa (a_ (ai (aA (aA (t2 _ _) rfl rfl rfl (ba h1 (EN hq hj))) rfl rfl rfl (ci (k:=2) rfl)) (aA (t3 _ _) rfl rfl rfl (ba h2 (EN hq hj))) rfl rfl (nn rfl)) rfl) rfl,rfl,⟨_,rfl,rfl⟩⟩
 refine k9 ?_;rw[←List.range_eq_range'] at e2;have ln:=g7 (hd:=false) (σ:=σ) (x:=.d (.lst ((List.range kept).map g))) rfl (by rw[J',List.length_range];exact aQ (o75 hk));rw[J',List.length_range] at ln;exact aO Gf rfl (ρ:=[dV T,iV c,qV m,none,none]) rfl (aa (aT (t0 _ _) (cp (if_pos (by rw[J',List.length_range];exact aQ (o75 hk)))) e1) (aa (aT (jC (bx (cl1 (t2 _ _)) (g7 rfl (aQ (o75 hq)))) (o75 hq)) (cp (dS (o75 hq))) e2) (az (aq (jD (bx (cl1 (t0 _ _)) ln) (ef (f:=.d (.int kept)) R rfl (by show p.ex[0]? =_;rw[ex];rfl)) rfl rfl (fh rfl)))))) (tk _)
end
section
variable {a:Pr2} {e:Ent} {es:List Ent}
theorem all_map {α:Type} {f:α→D} {q:D→Bool} {l:List α} (h:∀ a,q (f a)=true):(l.map f).all q=true:=List.all_eq_true.mpr fun x hx=>by
 obtain ⟨y,_,rfl⟩:=Kt.mp hx;exact h y
theorem yq:pl 6 (enD e)=true:=by
 show (true&&(true&&(true&&((e.lines.map lnD).all (pl 4)&&(true&&true)))))=true;rw[all_map fun _=>rfl];rfl
theorem C':pl 5 (enD e)=true:=by
 show (true&&(true&&(true&&((e.lines.map lnD).all (pl 3)&&(true&&true)))))=true;rw[all_map fun _=>rfl];rfl
theorem yo:∀ (ls:List bj) (s:Int×List D),s.2.all (pl 4)=true→(ls.foldl (stL a e) s).2.all (pl 4)=true
 |[],s,h=>h
 |x::ls,s,h=>by
  rw[List.foldl_cons];refine yo ls _ ?_;unfold stL;split
  ·rw[List.all_append,h];rfl
  ·exact h
theorem yp:∀ (es:List Ent) (s:Int×List D),s.2.all (pl 4)=true→(es.foldl (stE a) s).2.all (pl 4)=true
 |[],s,h=>h
 |e::es,s,h=>by
  rw[List.foldl_cons];exact yp es _ (yo e.lines s h)
theorem vh {f t:Int}:pl 6 (dJ es a f t)=true:=by
 show (true&&((iv es a f t).2.all (pl 4)&&(true&&true)))=true;rw[show (iv es a f t).2.all (pl 4)=true from yp _ _ rfl];rfl
theorem yr {rs:List Rw} {h:List Nat} {cs ns:List (List Nat)} {t:Int}:(fD es rs h cs ns t).all (pl 6)=true:=by
 unfold fD;rw[List.all_append,List.all_cons,all_map fun c=>by cases aZ h rs c t<;>rfl,all_map fun u=>by cases wv u (fun c=>aZ h rs c t) (shE es t) (0,1)<;>rfl,show pl 6 (.lst ((shE es t).map cO))=((shE es t).map cO).all (pl 5) from rfl,all_map fun _=>rfl];rfl
theorem AR {rs:List Rw} {h u:List Nat} {cs ns:List (List Nat)} {l:List Int} {kept known many:Nat} {c dr:Int}:pl 8 (gX es rs h cs ns l kept known many c dr u)=true:=by
 have h1:((List.range kept).map (o_ es l)).all (pl 6)=true:=all_map fun i=>by
  show (true&&(true&&(((bQ es (hH l i)).map (lU es (bfr l i+1) (hH l i))).all (pl 4)&&true)))=true;rw[all_map fun _=>rfl];rfl
 have h2:((List.range many).map fun i=>((es.map enD)[i]?).getD .none).all (pl 6)=true:=all_map fun i=>by
  rw[Ku];cases es[i]? with
  |none=>rfl
  |some e=>exact yq
 have h3:((ns.take known).map fun a=>dJ es (a,u) 0 c).all (pl 6)=true:=all_map fun _=>vh;have h4:∀ t,((ns.take known).map fun a=>D.int (fQ es t (a,u))).all (pl 6)=true:=fun t=>all_map fun _=>rfl;have h6:(fD es rs h cs ns dr++fD es rs h cs ns c).all (pl 6)=true:=by rw[List.all_append,yr,yr];rfl
 have h7:((jE es 0 c).map enD).all (pl 6)=true:=all_map fun _=>yq;have h8:((jE es dr c).map enD).all (pl 5)=true:=all_map fun _=>C';show (((List.range kept).map (o_ es l)).all (pl 6)&&(((List.range many).map fun i=>((es.map enD)[i]?).getD .none).all (pl 6)&&(((ns.take known).map fun a=>dJ es (a,u) 0 c).all (pl 6)&&(((ns.take known).map fun a=>D.int (fQ es c (a,u))).all (pl 6)&&(((ns.take known).map fun a=>D.int (fQ es dr (a,u))).all (pl 6)&&((fD es rs h cs ns dr++fD es rs h cs ns c).all (pl 6)&&(((jE es 0 c).map enD).all (pl 6)&&((pl 6 (dJ es (cy,u) dr c)&&(((jE es dr c).map enD).all (pl 5)&&true))&&true))))))))=true;rw[h1,h2,h3,h4,h4,h6,h7,h8,vh];rfl
end
section
variable {d m n i N M:Nat} {hd:Bool} {K:Ker} {ρ ρ':Rho} {σ σ' σ'':Sto} {p p':Pl} {S S':St} {t f c:Int} {sc:List Int} {e ke:CE}
theorem Ch {q:Bool} {a:CT} {l:CTs .Or} (h:a.ts K ρ σ=some (.ok false,σ')) (k:l.ts K ρ σ'=some (.ok q,σ'')):(bH a l).ts K ρ σ=some (.ok q,σ''):=av h k
theorem CN {l:CTs .Or} {q:Bool} (h:l.ts K ρ σ=some (.ok q,σ')):(tor l).ts K ρ σ=some (.ok q,σ'):=h
theorem vC {tb:List (List Nat)} {k:Nat} {o a:CE} {s:List Nat} {y:D} {l:List Fld} (hr:σ[m]? =some (.rcd false l)) (ha:Ev K a ρ σ (.d y)) (ho:Ev K o ρ σ (.p m 0)) (ht:tb[k]? =some s) (hk:k=l.length) (h9:k<100):(jn tb k o (aU s) a).ex K ρ σ=some (.next ρ,σ.set m (.rcd false (l++[.d y]))):=by
 refine bf ha (bf ho (bf (a:=.d (.str s)) (σ':=σ) rfl ?_));show (fZ tb k (.d y) (.p m 0) (.d (.str s)) σ).bind _=_;unfold fZ;rw[ht,Ka,aB (show dX (.d (.str s))=some s from rfl),Ka];show ((bJ false σ m).bind _).bind _=_;unfold bJ;rw[hr];show (if k=l.length then al (k<100) _ else (l[k]?).bind fun f=>al (Bh f=true) _).bind _=_;rw[if_pos hk,aB h9];rfl
theorem Gd.mx (g:Gd N p S) (mo:Int) (ex:List Fld):Gd N {p with most:=mo,ex:=ex} S:={names:=g.names,nm:=g.nm,nl:=g.nl,nd:=g.nd,ic:=g.ic,c3:=g.c3,c10:=g.c10,home:=g.home,made:=g.made,ends:=g.ends,gone:=g.gone,tell:=g.tell,rw:=g.rw,ent:=g.ent,cl1:=g.cl1,cl2:=g.cl2,l1:=g.l1,l2:=g.l2,l3:=g.l3,l4:=g.l4,l5:=g.l5,l6:=g.l6,cu:=g.cu,nos:=g.nos,inc:=g.inc}
theorem Gd.few (G:Gd N p S) (h6:p.ents.length<64):Few S.made p.names p.curs:=by
 rw[G.made];exact ⟨fun e he x hx=>⟨((G.ent e he).l x hx).1,G.cu e he x hx⟩,fun e he=>(G.ent e he).n,G.nl,G.c10,h6,G.nos,fun e he=>(G.ent e he).d,fun e he x hx=>((G.ent e he).l x hx).2.2⟩
theorem xJ {l:List Int} {t:Int} (h:Inc (l++[t])):0≤t:=List.rel_of_pairwise_cons h.1 (List.mem_append_right _ (.head _))
noncomputable abbrev LR (sc:List Int) (x3 x4 x5 x6 x7 x8 x9:Option PV):Rho:=[dV (.lst (sc.map .int)),qV 0,qV 1,x3,x4,x5,x6,x7,x8,x9]
theorem mJ {x3 x4 x5 x6 x7 x8 x9:Option PV} {k:Nat} (hs:sc.length≤63) (hk:k≤100):Ev (KK 7 false) (ao 33 (clC (loc 0) (clC (ah (k:Nat)) clN))) (LR sc x3 x4 x5 x6 x7 x8 x9) σ (.d (.int (cell sc k))):=zD (d:=6) hs rfl rfl (o41 hk)
def Nx (f:CS→CS) (ρ:Rho) (σ:Sto) (ρ':Rho) (σ':Sto):Prop:=∀ (k:CS) z,k.ex (KK 7 false) ρ' σ'=z→(f k).ex (KK 7 false) ρ σ=z
theorem wZ {x3:Option PV} (G:Gd N p S) (hN:N≤400) (hs:sc.length≤63):∃ p' S',fn_law9_s5.ex (KK 7 false) (LR sc x3 none none none none none none) [pk p,bk S]=some (.next (LR sc x3 none none none none none none),[pk p',bk S'])∧Gd (N+1) p' S'∧(p'.ents=p.ents∧p'.most=p.most∧p'.ex=p.ex)∧bc (cl p'.ends):=by
 have H:Both [pk p,bk S] 0 1 p S:=⟨rfl,rfl,by decide⟩;have l3:=G.l3;have cr:=c8 (d:=6) (hd:=false) H.r (Df hN l3);by_cases y:cl p.ends<99999
 ·obtain ⟨p',S',g,ke,kk,e⟩:=qv (d:=3) (c:=cell sc 5) H G (EU hN) y;refine ⟨p',S',bW (ai (ak (cl1 rfl) cr) rfl rfl rfl (tQ y)) (aa (rL (nM (jj (ak (clc rfl (clc rfl (cl1 (mJ (k:=5) hs (by decide))))) e))) rfl) rfl),g,⟨kk.1,ke.m,ke.g.x⟩,⟨?_,g.cl2⟩⟩;obtain ⟨u,hu⟩:=kk.2;have:=g.inc;rw[hu] at this ⊢;rw[pV];exact xJ this
 ·exact ⟨p,S,a_ (ai (ak (cl1 rfl) cr) rfl rfl rfl (iL y)) rfl,G.mono (KZ _),⟨rfl,rfl,rfl⟩,⟨by have:=G.cl2;exact KO (by decide) (Lg.mp y),G.cl2⟩⟩
theorem yR {x3 x4 x5 x6 x7 x8:Option PV} (G:Gd N p S) (hN:N≤400) (hs:sc.length≤63):∃ ns ds x9,Nx (fun k=>sC fn_law9_s15 (sC j5 k)) (LR sc x3 x4 x5 x6 x7 x8 none) [pk p,bk S] (LR sc x3 x4 x5 x6 x7 x8 x9) [pk p,bk (S.w ns ds)]∧Sh (S.w ns ds)∧(∀ x∈p.names,x∈ns)∧ds.length≤N+1∧ns.length≤8:=by
 obtain ⟨t,ht,_,nr⟩:=iJ (d:=6) (σ:=[pk p,bk S]) (n:=(cell sc 7).fdiv 3);have sh:=G.sh (by exact Km hN (Kj rfl));have nl:=G.nl;have l6:=G.l6;have R:Rk [pk p,bk S] 0 p:=rfl;have B:Bk [pk p,bk S] 1 S:=rfl;have s15:fn_law9_s15.ex (KK 7 false) (LR sc x3 x4 x5 x6 x7 x8 none) [pk p,bk S]=some (.next (LR sc x3 x4 x5 x6 x7 x8 (sV t)),[pk p,bk S]):=an (ak (cl1 (bw (mJ (k:=7) hs (by decide)) (by decide) (by decide))) nr) rfl;by_cases z:t∈p.names
 ·exact ⟨S.names,S.deeds,_,fun k r h=>aa s15 (aa (a_ (ai rfl (cJ R rfl) rfl (cI R) (vp z)) rfl) h),sh,fun x hx=>by rw[G.names];exact hx,KH l6,by rw[G.names];exact Km nl (Kj rfl)⟩
 ·have ar:=nf (d:=5) B sh ht (by rw[G.names];exact z);refine ⟨S.names++[t],S.deeds++[ng t],_,fun k r h=>aa s15 (aa (bW (ai rfl (cJ R rfl) rfl (cI R) (vo z)) (aa (au (bq B rfl (cl1 rfl) ar)) rfl)) h),⟨?_,sh.t,sh.m,sh.g,sh.e,?_⟩,fun x hx=>by rw[G.names];exact List.mem_append_left _ hx,bo l6,by rw[G.names,Kd,Kn];exact Lc nl⟩
  ·show (S.names++[t]).length≤1000;rw[G.names,Kd,Kn];exact Km (Lc nl) (Kj rfl)
  ·show (S.deeds++[ng t]).length≤1000;rw[Kd,Kn];exact Km (Lc (Km l6 hN)) (Kj rfl)
end
section
variable {d m n i N M:Nat} {hd:Bool} {K:Ker} {ρ ρ':Rho} {σ σ' σ'':Sto} {p p':Pl} {S S':St} {t f c dr:Int} {sc:List Int} {e ke:CE} {u:List Nat} {kept known many:Nat}
theorem wY (R:Rk σ m p) (G:Gd N p S) (hN:N≤400) (F:Few S.made p.names p.curs) (ex:p.ex=[.d (.int kept),.d (.int known)]) (hk:kept=p.ends.length) (hc:c=cl p.ends) (h0:0≤c):CC (d+1) false 175 [.d (gX S.made p.told S.home p.curs p.names p.ends kept known many c dr u),.d (.int c),.p m 0] σ=some (.ok (.d (.bool true)),σ):=by
 have l3:=G.l3;have nl:=G.nl;refine wf (kept:=kept) (known:=known) (g:=o_ S.made p.ends) (Q:=(p.names.take known).map fun a=>dJ S.made (a,u) 0 c) (Z:=(p.names.take known).map fun a=>.int (fQ S.made c (a,u))) R ex (fun i hi=>⟨_,_,_,rfl,?_⟩) (by exact Km (K5 hk) (Km l3 (Km hN (Kj rfl)))) (by rw[J',List.length_take];exact GP nl) fun i hi=> ?_
 ·rw[hc];exact G.inc.cl _ (.tail _ (KJ (iU (Dh hk hi))))
 ·rw[J'] at hi;have g:=Kh hi;exact ⟨_,_,fQ S.made c ((p.names.take known)[i],u),by rw[Ku,g,←xD (fun e he=>(F.d e he).1) h0];rfl,by rw[Ku,g];rfl⟩
theorem A_ {x3 x9:Option PV} {ns:List (List Nat)} {ds:List D} {T0:D} (hs:sc.length≤63) (G:Gd N p S) (hN:N≤400) (sh:Sh (S.w ns ds)) (hw:∀ x∈p.names,x∈ns) (hd:ds.length≤N+1) (hn:ns.length≤8) (he:p.ents.length≤50) (ex:p.ex=[.d (.int kept),.d (.int known)]) (hk:kept≤p.ends.length) (hm:many≤p.ents.length) (hn':known≤p.names.length) (h1:bc c) (h2:bc dr) (h3:dr≤c) (hu:aX u=true)
  (hT:∀ p' S',Gd (N+1) p' S'→Gr p p'→p'.curs=p.curs→gX S'.made p'.told S'.home p'.curs p'.names p'.ends kept known many c dr u=T0) (hp:pl 8 T0=true) (hq:eqF T0 T0=none):∃ σ',(sC fn_law9_s17 (sC j4 (sC j3 sN))).ex (KK 7 false) (LR sc x3 (iV c) (iV many) (iV dr) (sV u) (dV T0) x9) [pk p,bk (S.w ns ds)]=some (.ret (.d (.bool true)),σ'):=by
 have H:Both [pk p,bk (S.w ns ds)] 0 1 p (S.w ns ds):=⟨rfl,rfl,by decide⟩;have l3:=G.l3;have cr:=c8 (d:=6) (hd:=false) H.r (Df hN l3);refine aK fun G9 k9=> ?_;obtain ⟨p',S',ds',s17,G',gr,ec,sh',hw',he'⟩:∃ p' S' ds',fn_law9_s17.ex (KK 7 false) (LR sc x3 (iV c) (iV many) (iV dr) (sV u) (dV T0) x9) [pk p,bk (S.w ns ds)]=some (.next (LR sc x3 (iV c) (iV many) (iV dr) (sV u) (dV T0) x9),[pk p',bk (S'.w ns ds')])∧Gd (N+1) p' S'∧Gr p p'∧p'.curs=p.curs∧Sh (S'.w ns ds')∧(∀ x∈p'.names,x∈ns)∧p'.ents.length≤51:=by
  by_cases y:cl p.ends<99999
  ·obtain ⟨p',S',r,g,kk,e1,e2,e⟩:=vA (d:=3) (c:=3*cell sc 6) (k:=cell sc 7) H G sh (EU hN) y;have s':=g.sh (by exact Km (Lc hN) (Kj rfl));have kke:=kk.e;refine ⟨p',S',ds++[r],bW (ai (ak (cl1 rfl) cr) rfl rfl rfl (tQ y)) (aa (rL (nM (jj (ak (clc rfl (clc rfl (clc (ax rfl (mJ (k:=6) hs (by decide)) rfl rfl (dw (iK (by decide)))) (cl1 (mJ (k:=7) hs (by decide)))))) e))) rfl) rfl),g,kk.g,kk.c,⟨?_,s'.t,s'.m,s'.g,s'.e,?_⟩,fun x hx=>hw x ?_,by exact Km kke (Lc he)⟩
   ·show ns.length≤1000;exact o11 hn
   ·show (ds++[r]).length≤1000;rw[Kd,Kn];exact Km (Lc (Km hd (Lc hN))) (Kj rfl)
   ·rw[←G.names,←e1,g.names];exact hx
  ·exact ⟨p,S,ds,a_ (ai (ak (cl1 rfl) cr) rfl rfl rfl (iL y)) rfl,G.mono (KZ _),.refl,rfl,sh,hw,by exact Km he (Kj rfl)⟩
 have F':=G'.few (by exact KE he' (Kj rfl));have B':Bk [pk p',bk (S'.w ns ds')] 1 (S'.w ns ds'):=rfl;have R':Rk [pk p',bk (S'.w ns ds')] 0 p':=rfl;obtain ⟨zs,ez⟩:=gr.k;obtain ⟨xs,ee,_⟩:=gr.e;obtain ⟨ms,em⟩:=gr.n;refine k9 ?_;have Fp:Few p'.ents p'.names p'.curs:=by rw[←G'.made];exact F'
 have sr:∀ t,bc t→CC 7 false 128 [.p 1 0,.d (.int t)] [pk p',bk (S'.w ns ds')]=some (.ok (.d (.lst ((shE p'.ents t).map cO))),[pk p',bk (S'.w ns ds')]):=fun t ht=>by
  rw[←G'.made];exact jm (S:=S'.w ns ds') (d:=4) B' sh' F' ht
 have lr:∀ t,CC 7 false 174 [.p 0 0,.d (.int t)] [pk p',bk (S'.w ns ds')]=some (.ok (.d (.lst ((shE p'.ents t).map cO))),[pk p',bk (S'.w ns ds')]):=fun t=>tS (d:=6) R' Fp;have pr:∀ t,pl 8 (.lst ((shE p'.ents t).map cO))=true:=fun t=>all_map fun _=>rfl;have tr:=ql (d:=0) (S:=S') (ns:=ns) (ds:=ds') (kept:=kept) (known:=known) (many:=many) (c:=c) (dr:=dr) (u:=u) B' sh' hw' R' G' (Hg hN) F' (gr.x.trans ex) (by rw[ez,Kd];exact o69 hk) (by rw[ee,Kd];exact o69 hm) (by rw[em,Kd];exact o69 hn') h1 h2 h3 hu;rw[hT p' S' G' gr ec] at tr;exact ⟨_,aa s17 (aa (a_ (bE (bI (ai (ak (clc rfl (cl1 rfl)) (sr c h1)) (ak (clc rfl (cl1 rfl)) (lr c)) rfl rfl (Ci rfl (pr c) rfl)) (bI (ai (ak (clc rfl (cl1 rfl)) (sr dr h2)) (ak (clc rfl (cl1 rfl)) (lr dr)) rfl rfl (Ci rfl (pr dr) rfl)) rfl))) rfl) (az (aq (jD (ak (clc rfl (clc rfl (clc rfl (clc rfl (clc rfl (cl1 rfl)))))) tr) rfl rfl rfl (vV rfl hp hq)))))⟩
structure Sm (p p':Pl):Prop where
 e:p'.ents=p.ents
 t:p'.told=p.told
 k:p'.ends=p.ends
 n:p'.names=p.names
 c:p'.curs=p.curs
theorem yS {x3:Option PV} (G:Gd N p S) (hN:N≤400) (hx:p.ex=[]):∃ p',Nx (fun k=>sC (aF 4 (ao 70 (clC (loc 1) clN))) (sC mE (sC (jn dm 9 (loc 1) (aU Lr) (bi fLen (clC (key (loc 1) 5 Ln) clN))) (sC (jn dm 10 (loc 1) (aU Ls) (bi fLen (clC (key (loc 1) 0 Lj) clN))) k)))) (LR sc x3 none none none none none none) [pk p,bk S] (LR sc x3 (iV (cl p'.ends)) (iV p'.ents.length) none none none none) [pk p',bk S]∧p'.ex=[.d (.int p'.ends.length),.d (.int p'.names.length)]∧Gd N p' S∧cl p'.ends=cl p.ends∧p'.ents.length=p.ents.length:=by
 have R:Rk [pk p,bk S] 0 p:=rfl;have l1:=G.l1;have l3:=G.l3;have nl:=G.nl;have lm:=iM (K:=KK 7 false) (ρ:=LR sc x3 (iV (cl p.ends)) none none none none none) (e:=loc 1) (s:=Lk) R (ET hN l1) rfl;have le:=eM (K:=KK 7 false) (ρ:=LR sc x3 (iV (cl p.ends)) (iV p.ents.length) none none none none) (pG (e:=loc 1) (s:=Ln) R rfl) (tc R) (by rw[J'];exact ET hN l3);rw[J'] at le;have g1:=G.mx p.most (p.ex++[.d (.int p.ends.length)]);have s8:=vC (K:=KK 7 false) (tb:=dm) (k:=9) (s:=Lr) (o:=loc 1) R le rfl rfl (by show 9=p.ex.length+9;rw[hx];rfl) (by decide);generalize hq:({p with most:=p.most,ex:=p.ex++[.d (.int p.ends.length)]}:Pl)=q at g1;have s8:(jn dm 9 (loc 1) (aU Lr) (bi fLen (clC (key (loc 1) 5 Ln) clN))).ex (KK 7 false) (LR sc x3 (iV (cl p.ends)) (iV p.ents.length) none none none none) [pk p,bk S]=some (.next (LR sc x3 (iV (cl p.ends)) (iV p.ents.length) none none none none),[pk q,bk S]):=hq ▸ s8;have sq:Sm p q:=hq ▸ ⟨rfl,rfl,rfl,rfl,rfl⟩;have qx:q.ex=[.d (.int p.ends.length)]:=hq ▸ (by show p.ex++_=_;rw[hx];rfl);have Rq:Rk [pk q,bk S] 0 q:=rfl;have lk:=jx (K:=KK 7 false) (ρ:=LR sc x3 (iV (cl p.ends)) (iV p.ents.length) none none none none) (e:=loc 1) (s:=Lj) Rq (by rw[sq.n];exact o3 nl) rfl;rw[sq.n] at lk;have s9:=vC (K:=KK 7 false) (tb:=dm) (k:=10) (s:=Ls) (o:=loc 1) Rq lk rfl rfl (by show 10=q.ex.length+9;rw[qx];rfl) (by decide);refine ⟨{q with most:=q.most,ex:=q.ex++[.d (.int p.names.length)]},fun k z hz=>aa (an (ak (cl1 rfl) (c8 (d:=6) (hd:=false) R (Df hN l3))) rfl) (aa (an lm rfl) (aa s8 (aa s9 (by rw[←sq.k,←sq.e];exact hz)))),by show q.ex++_=[.d (.int q.ends.length),.d (.int q.names.length)];rw[qx,sq.k,sq.n];rfl,g1.mx _ _,by show cl q.ends=_;rw[sq.k],by show q.ents.length=_;rw[sq.e]⟩
theorem yT {x3 x5:Option PV} (hs:sc.length≤63) (G:Gd N p S) (hc:bc c):∃ dr u,Nx (fun k=>sC j9 (sC j8 k)) (LR sc x3 (iV c) x5 none none none none) [pk p,bk S] (LR sc x3 (iV c) x5 (iV dr) (sV u) none none) [pk p,bk S]∧(0≤dr∧dr≤c)∧u∈p.curs:=by
 have c3:=G.c3;have r6:=aG (a:=cell sc 6) (b:=c+1) (EM hc.1);have r7:=aG (a:=cell sc 7) (b:=3) (by decide);obtain ⟨j,hj⟩:∃ j:Nat,(cell sc 7).fmod 3=j:=⟨_,(KV r7.1).symm⟩;rw[hj] at r7;obtain ⟨u,hu⟩:∃ u,p.curs[j]? =some u:=⟨_,Kh (by exact KF (KT.mp r7.2) c3)⟩;have R:Rk [pk p,bk S] 0 p:=rfl;have m7:∀ x6,Ev (KK 7 false) (bin oMod (ao 33 (clC (loc 0) (clC (ah 7) clN))) (ah 3)) (LR sc x3 (iV c) x5 x6 none none none) [pk p,bk S] (.d (.int j)):=fun x6=>by
  rw[←hj];exact ck (mJ (k:=7) hs (by decide)) (by decide) (by decide)
 exact ⟨_,u,fun k z hz=>aa (an (ax (mJ (k:=6) hs (by decide)) (bB rfl rfl) rfl rfl (dL (EM hc.1) (by have:=hc.2;exact KQ (Int.add_le_add_right this 1) (by decide)))) rfl) (aa (an (aA (h_ R rfl) (m7 _) rfl rfl (ba (by rw[Ku,hu];rfl) (by exact Km (KU (KT.mp r7.2)) (Kj rfl)))) rfl) hz),⟨r6.1,by exact Int.le_of_lt_add_one r6.2⟩,KJ hu⟩
theorem A9 {q:Int} {T0:D} (hs:sc.length≤63) (hq:0≤q∧q≤500) (G:Gd N p S) (hN:N≤300) (he:p.ents.length≤3) (ex:p.ex=[.d (.int p.ends.length),.d (.int p.names.length)]) (h1:bc (cl p.ends)) (h2:0≤dr∧dr≤cl p.ends) (uc:aX u=true) (hT0:T0=gX S.made p.told S.home p.curs p.names p.ends p.ends.length p.names.length p.ents.length (cl p.ends) dr u):∃ p' S',Nx (fun k=>sC j7 (sC (jn dm 8 (loc 1) (aU [109,111,115,116]) (ah 4)) (sC j6 k))) (LR sc (iV q) (iV (cl p.ends)) (iV p.ents.length) (iV dr) (sV u) none none) [pk p,bk S] (LR sc (iV q) (iV (cl p.ends)) (iV p.ents.length) (iV dr) (sV u) (dV T0) none) [pk p',bk S']∧Gd (N+70) p' S'∧Gr p p'∧p'.curs=p.curs∧p'.ents.length≤5:=by
 have R:Rk [pk p,bk S] 0 p:=rfl;have B:Bk [pk p,bk S] 1 S:=rfl;have F:=G.few (by exact KE he (Kj rfl));have tr:=ql (d:=0) (S:=S) (ns:=S.names) (ds:=S.deeds) (kept:=p.ends.length) (known:=p.names.length) (many:=p.ents.length) (c:=cl p.ends) (dr:=dr) (u:=u) B (G.sh (GM hN)) (fun x hx=>by rw[G.names];exact hx) R G (GL hN) F ex (Ko _) (Ko _) (Ko _) h1 ⟨h2.1,KO h2.2 h1.2⟩ h2.2 uc;have g4:=G.mx 4 p.ex;have ko:=yW (K:=KK 7 false) (ρ:=LR sc (iV q) (iV (cl p.ends)) (iV p.ents.length) (iV dr) (sV u) (dV T0) none) (tb:=dm) (k:=8) (o:=loc 1) (a:=ah 4) (s:=[109,111,115,116]) (y:=.int 4) (z:=.int p.most) (l:=pfl p) R rfl rfl rfl rfl;have wh:∀ s:Sto,Rk s 0 {p with most:=4,ex:=p.ex}→CC 7 false 175 [.d T0,.d (.int (cl p.ends)),.p 0 0] s=some (.ok (.d (.bool true)),s):=fun s r=>by
  rw[hT0];exact wY (p:={p with most:=4,ex:=p.ex}) (d:=6) r g4 (GK hN) F ex rfl rfl h1.1
 rw[←hT0] at tr;obtain ⟨p',S',g,k5,e5⟩:=og (d:=1) (sc:=sc) (f:=q) (l:=63) hs hq ⟨by decide,by decide⟩ (show Both [pk {p with most:=4,ex:=p.ex},bk S] 0 1 {p with most:=4,ex:=p.ex} S from ⟨rfl,rfl,by decide⟩) g4 (by exact Km hN (Kj rfl));refine ⟨p',S',fun k z hz=>aa (an (ak (clc rfl (clc rfl (clc rfl (clc rfl (clc rfl (cl1 rfl)))))) tr) rfl) (aa ko (aa (rL (CN (Ch (nM (jj (ak (clc rfl (clc rfl (cl1 rfl))) (wh _ rfl)))) (Ch (nM (jj (ak (clc rfl (clc rfl (clc rfl (clc rfl (cl1 rfl))))) e5))) rfl))) rfl) hz)),g,⟨k5.g.e,k5.g.t,k5.g.k,k5.g.n,k5.g.x⟩,k5.c,?_⟩;have:=k5.k (show (p.ents.length:Int)≤4+1 by exact KS.mpr (Km he (Kj rfl)));have m5:p'.most=4:=k5.m;unfold Cap at this;exact GJ this m5
theorem pure14 (sc:List Int) (hs:sc.length≤63):∃ σ',CC 8 false 177 [.d (.lst (sc.map .int))] []=some (.ok (.d (.bool true)),σ'):=by
 refine aK fun G9 k9=> ?_;obtain ⟨T,F,hT,hT1,hT4,hF,hC,hF3,hF10,eP⟩:=wC (d:=4) (σ:=[]) hs;obtain ⟨h,G,rfl⟩:∃ h G,F=h::G:=by
  cases F with
  |nil=>exact absurd hF3 (by decide)
  |cons a l=>exact ⟨a,l,rfl⟩
 refine k9 ?_;have eB:=Ab (d:=4) (σ:=[pk (pl0 T (h::G) 2)]) (m:=0) (p:=pl0 T (h::G) 2) rfl rfl rfl (hC h (.head _)) hT (o93 hT4);have g0:=gd0 (mo:=2) hT hT1 hT4 hF hC hF3 hF10;have H:Both [pk (pl0 T (h::G) 2),bk (bk0 h T)] 0 1 (pl0 T (h::G) 2) (bk0 h T):=⟨rfl,rfl,by decide⟩;have ln:=g7 (hd:=false) (σ:=[pk (pl0 T (h::G) 2),bk (bk0 h T)]) (x:=.d (.lst (sc.map .int))) rfl (by rw[J'];exact aQ (o33 hs));rw[J'] at ln;have q0:(sc.length:Int).fdiv 3=(sc.length:Int) / 3:=Int.fdiv_eq_ediv_of_nonneg _ (by decide);have q1:=aG (a:=cell sc 4) (b:=1+(sc.length:Int).fdiv 3) (Fn q0);generalize hq:8+3*(cell sc 4).fmod (1+(sc.length:Int).fdiv 3)=q;have hq':0≤q∧q≤500:=GO hs q0 q1 hq;have s3:fn_law9_s3.ex (KK 7 false) (LR sc none none none none none none none) [pk (pl0 T (h::G) 2),bk (bk0 h T)]=some (.next (LR sc (iV q) none none none none none none),[pk (pl0 T (h::G) 2),bk (bk0 h T)]):=by
  rw[←hq];exact an (bB rfl (ax rfl (ax (mJ (k:=4) hs (by decide)) (bB rfl (bw (bx (cl1 rfl) ln) (by decide) (by decide))) rfl rfl (dL (Fn q0) (Ik hs q0))) rfl rfl (dw (iK (by decide))))) rfl
 refine aK fun G9 k9=> ?_;obtain ⟨p1,S1,G1,k1,e1⟩:=og (d:=1) (sc:=sc) (f:=8) (l:=q) hs ⟨by decide,by decide⟩ hq' H g0 (by decide);have cp1:Cap p1:=k1.k (by show ((0:Nat):Int)≤2+1;decide);obtain ⟨p2,S2,s5,G2,⟨a1,a2,a3⟩,dc⟩:=wZ (sc:=sc) (x3:=iV q) G1 (by decide) hs;have en:p2.ents.length≤3:=by
  have m1:p1.most=2:=k1.m;unfold Cap at cp1;rw[a1];exact GN cp1 m1
 obtain ⟨p3,s6,x3,G3,ek,el⟩:=yS (sc:=sc) (x3:=iV q) G2 (by decide) (a3.trans k1.g.x);refine k9 ?_;rw[←ek] at dc;rw[←el] at en;refine aK fun G9 k9=> ?_;obtain ⟨dr,u,s10,hd,um⟩:=yT (sc:=sc) (x3:=iV q) (x5:=iV p3.ents.length) hs G3 dc;have uc:=G3.ic u um;obtain ⟨T0,hT0⟩:∃ T,T=gX S2.made p3.told S2.home p3.curs p3.names p3.ends p3.ends.length p3.names.length p3.ents.length (cl p3.ends) dr u:=⟨_,rfl⟩;obtain ⟨p5,S5,s12,G5,g5,c5,e5⟩:=A9 hs hq' G3 (by decide) en x3 dc hd uc hT0;obtain ⟨ns,ds,x9,s15,sh5,hw,hd5,hn5⟩:=yR (sc:=sc) (x3:=iV q) (x4:=iV (cl p3.ends)) (x5:=iV p3.ents.length) (x6:=iV dr) (x7:=sV u) (x8:=dV T0) G5 (by decide) hs;obtain ⟨zs,ez⟩:=g5.k;obtain ⟨xs,ee,_⟩:=g5.e;obtain ⟨ms,em⟩:=g5.n;obtain ⟨σ',e9⟩:=A_ (x3:=iV q) (x9:=x9) (T0:=T0) (kept:=p3.ends.length) (known:=p3.names.length) (many:=p3.ents.length) (c:=cl p3.ends) (dr:=dr) (u:=u) hs G5 (by decide) sh5 hw hd5 hn5 (by exact Km e5 (Kj rfl)) (g5.x.trans x3) (by rw[ez,Kd];exact Dd) (by rw[ee,Kd];exact Dd) (by rw[em,Kd];exact Dd) dc ⟨hd.1,KO hd.2 dc.2⟩ hd.2 uc (fun p' S' g' gr ec=>by
  obtain ⟨⟨xs,ex,hx⟩,⟨ys,ey,hy⟩,⟨zs,ez⟩,⟨ms,em⟩,_⟩:=g5.trans gr (g5.cl G5.inc);have hm':S'.home=S2.home:=by
   have h1:=g'.home;rw[ec,c5,G3.home] at h1;exact (K4 h1).symm
  rw[hT0,hm',g'.made,G3.made,ex,ey,ez,em,ec,c5];have n2:2≤p3.names.length:=by
   obtain ⟨T,e,_,e2⟩:=G3.nm;rw[e,Kk];exact Il e2
  exact wi hx hy (fun e he=>by rw[←ex] at he;exact (g'.ent e he).d.1) hd n2 (Ko _) (Ko _) (Ko _) fun x hx=>G3.inc.cl x hx) (hT0 ▸ AR) (by rw[hT0];rfl)
 refine k9 ?_;exact ⟨_,aO Gc rfl (ρ:=[dV (.lst (sc.map .int)),none,none,none,none,none,none,none,none,none]) rfl (aa (an (ak (cl1 rfl) eP) rfl) (aa (an (ak (cl1 rfl) eB) rfl) (aa s3 (aa (rL (nM (jj (ak (clc rfl (clc rfl (clc rfl (clc rfl (cl1 rfl))))) e1))) rfl) (aa s5 (s6 _ _ (s10 _ _ (s12 _ _ (s15 _ _ e9))))))))) rfl⟩
end
open PySem PySem.W PySem.Calls PyProof.Rows
set_option Elab.async false
set_option maxRecDepth 100000
set_option maxHeartbeats 8000000
theorem leftN:LeftO pN qN ["BOUND","GREATEST"] (fun _=>true) yN (fun _=>True) 40178:=A7 z1 (by decide) z2 z3 z4 (fun s e=>⟨_,Bu s.tree s.n s.life,ag e,Ay s.life (aj e)⟩) (fun w os=>AL (z6a w os) (z6b w os)) (fun w os=>AK (z7a w os) (z7b w os) (z7c w os) (z7d w os))
theorem w0:∀ i,i<100→∀ j,j<100→keyN i=keyN j→i=j:=by decide+kernel
theorem keyN_inj:∀ i j,i<100→j<100→keyN i=keyN j→i=j:=fun i j hi hj h=>w0 i hi j hj h
end Mine.Internal
open PySem PySem.W PyProof.Rows
set_option Elab.async false
set_option maxRecDepth 100000 in
set_option maxHeartbeats 8000000 in
theorem PySem.Challenge.cw_uf010015_14_holds : PySem.Challenge.rw_uf010015_14.Holds := by
 w_on
 refine holds_law Mine.Internal.saidN fun said=> ?_;refine holds_open (q:=Mine.Internal.qN) (loose:=["BOUND","GREATEST"]) (Xt:=fun _=>true) (XP:=fun _ _=>True) (Yf:=Mine.Internal.yN) (Ya:=fun _=>True) (YP:=fun _ h=>Mine.Internal.KP h) (N:=40178) Mine.Internal.leftN
  (fun w s e=>of_eq_true e) (fun w h h' a k=>Mine.Internal.KP.keeps a k) (fun _ _=>trivial) (fun _ _ _ _ _=>trivial) (by rfl) (by rfl) (by rfl) (fun s _=>recFacts_of (by rfl)) (by rfl) (by first|assumption|decide+kernel) (by decide+kernel) ⟨rfl,rfl,rfl,rfl,rfl,by decide+kernel⟩ ?hw ?hc
 (case hw=>w_witness2)
 intro w s₀ s₁ mg mb G Y fa o pm cd doc dV kV ho hd hcd hD hmg hg args vals as hpre hlay hrd hwl hlo;obtain ⟨K,X,ok,TK⟩:=Y;refine Ground.open G ?_;intro T B D TE TW
 wrow_args hpre hlay hrd hwl hlo
 refine enter_call ?_;refine kn_post (Mine.Internal.tabsAt X ok TK) (fun _ _=>rfl) ?_
 rename IntsAre _ _=>hI
 rename Heap.IsList _ _ _=>hL
 rename¬(_<_)=>hle
 obtain ⟨σ',hrun⟩:=Mine.Internal.pure14 _ (Int.ofNat_le.mp (Int.not_lt.mp hle));refine Mine.Internal.law_run (sp:=Mine.Internal.spN) (key:=Mine.Internal.keyN) Mine.Internal.keyN_inj T X ok TK hL hI (f:=Mine.Internal.lawN) (by kernel_rfl) (by exact hmg) (d:=7) (by decide) hrun ?_;intro s' sm keep gro;obtain ⟨h',tk,rfl⟩:=sm;refine ⟨⟨.inl ⟨_,.bool true,[],rfl,raisesW_false (by wrow_none_raised),ReadsW.bool true,?_,unshared_nil⟩,Mine.Internal.ghost_keep keep,rfl,hg⟩,Mine.Internal.grown_of gro⟩
 wrow_post