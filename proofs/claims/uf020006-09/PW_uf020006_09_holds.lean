import PyProof.Rows.All
import Wide.All
import OpenK.AllK
import PySem.Challenge.RW_uf020006_09
set_option Elab.async false
set_option linter.all false
set_option autoImplicit false
set_option genInjectivity false
set_option genSizeOf false
open PySem.Str (ofString)
namespace Mine
noncomputable section
open PySem PySem.W PyProof.Rows
noncomputable def iM (tb:String→Option Builtin)(p:Program)(w:World)(n₀:Nat)(ann:Option Value):Nat→SharedT→Thread→Option SharedT
 | 0,_,_=>none
 |n+1,s,t=>match through t with
  |true=>some s
  |false=>match stepOk n₀ ann t with
   |false=>none
   |true=>match stepT (denote tb) p w s t with
    |some (s',t')=>iM tb p w n₀ ann n s' t'
    |none=>none
theorem ng {tb:String→Option Builtin}{p:Program}{w:World}{n₀:Nat}{ann:Option Value}:∀{n:Nat} {s s':SharedT} {t:Thread},iM tb p w n₀ ann n s t=some s'→topRun tb p w n₀ ann n s.abs t=some s'.abs
 | 0,_,_,_,h=>by cases h
 |n+1,s,s',t,h=>by
  unfold iM at h
  unfold topRun
  cases he:through t with
  |true=>rw [he] at h;cases h;rfl
  |false=>
   rw [he] at h
   cases hk:stepOk n₀ ann t with
   |false=>rw [hk] at h;cases h
   |true=>
    rw [hk] at h
    cases hs:stepT (denote tb) p w s t with
    |none=>rw [hs] at h;cases h
    |some r=>obtain ⟨s₂,t₂⟩:=r;rw [hs] at h;rw [stepT_spec hs];exact ng h
noncomputable def Ek {α:Type}:List α→List α
 | []=>[]
 |a::r=>match r with
  | []=>[a]
  |_::r=>a::Ek r
noncomputable def ry:Nat→List Obj→BT
 | 0,_=>.nil
 |n+1,l=>match l with
  | []=>.nil
  |a::r=>.node a (ry n (Ek r)) (ry n (Ek r.tail))
noncomputable def jd (P:Params):BT:=ry 14 (boot_heap P).objs.toList
theorem yO {p q:Program}{loose:List Str}{Xt:Shared→Bool}{α:Type}{Yf:Shared→α}{Ya:World→α}{N:Nat}{g0:Bool}{m₀:Nat}{ann:Option Value}{life:Life}
  (e:opening p=plainProg p.main.scope.names)(hN:Nat.ble 600 N=true)(f:∀s,fenceModules? p s=some s)
  (h0:∀P,absHeap (jd P) m₀ life=boot_heap P)
  (size:∀P,((boot_heap P).isNs mainGlobals,(boot_heap P).objs.size,(boot_heap P).nsMap mainGlobals "__annotations__")=(true,m₀,ann))
  (run:∀(w:World) (os:OsState),(iM treeTable p w m₀ ann N ⟨jd w.params,m₀,life,Array.mk [],boot_drawn,boot_toks,os⟩ (topStub p)).map (fun s=>
   (staticsOk (importedModules p.main.body) (boot_heap w.params) s.abs.heap&&namesBound p s.abs.heap&&gensDone s.abs&&laidKept (boot_heap w.params) s.abs.heap,openSeen q loose (importedModules p.main.body) Xt g0 s.abs,Yf s.abs))=some (true,openGood q loose,Ya w)):LeftO p q loose Xt Yf Ya N g0:=fun w=>by
 obtain ⟨⟨h,gs,d,k,os⟩,e1,e2⟩:=Option.map_eq_some_iff.mp (boot_open e hN f w)
 obtain ⟨rfl,rfl,rfl,rfl⟩:h=boot_heap w.params∧gs=Array.mk []∧d=boot_drawn∧k=boot_toks:=by simpa using e2
 obtain ⟨s,e3,e4⟩:=Option.map_eq_some_iff.mp (run w os)
 obtain ⟨l1,l2⟩:=Prod.mk.inj e4
 obtain ⟨z1,z2,z3⟩:_∧_∧_:=by simpa only [Prod.mk.injEq] using size w.params
 have r:=ng e3
 rw [SharedT.abs,h0 w.params] at r
 have t:topFrom treeTable p w N ⟨boot_heap w.params,Array.mk [],boot_drawn,boot_toks,os⟩=some s.abs:=by
  unfold topFrom
  dsimp only
  rw [z1,z2,z3,r]
  show (match staticsOk (importedModules p.main.body) (boot_heap w.params) s.abs.heap&&namesBound p s.abs.heap&&gensDone s.abs&&laidKept (boot_heap w.params) s.abs.heap with |true=>_ |false=>_)=_
  rw [l1]
 unfold openEnds
 rw [e1]
 show Option.map _ (topFrom treeTable p w N _)=_
 rw [t]
 exact congrArg some l2
end
end Mine
section
namespace Mine.L09
end Mine.L09
open PySem PySem.W PyProof.Rows Mine Mine.L09
set_option maxRecDepth 100000
set_option maxHeartbeats 8000000
namespace Mine.L09
noncomputable section
noncomputable def q:Program:=PySem.W.view PySem.Challenge.pw_uf020006_09 [1,2,3,4,6,7,8,9,10,11,12,13,14,15,16,17,19,20,21,22,23,24,25,27,29,30,31,32,33,34,35,36,37,38,40,41,42,43,45,46,47,48,50,51,52,53,54,55,56,57,58,59,60,61,62,63,64,65]
noncomputable def Xt (s:Shared):Bool:=xlAt q [] s&&recOk [] s
theorem l1:opening PySem.Challenge.pw_uf020006_09=plainProg PySem.Challenge.pw_uf020006_09.main.scope.names:=by kernel_rfl
theorem l2 (s:Shared):fenceModules? PySem.Challenge.pw_uf020006_09 s=some s:=by kernel_rfl
theorem l3 (P:Params):absHeap (jd P) 11 {}=boot_heap P:=by kernel_rfl
theorem l4 (P:Params):((boot_heap P).isNs mainGlobals,(boot_heap P).objs.size,(boot_heap P).nsMap mainGlobals "__annotations__")=(true,11,some (.ref 6)):=by kernel_rfl
theorem l5 (w:World)(os:OsState):(iM treeTable PySem.Challenge.pw_uf020006_09 w 11 (some (.ref 6)) 4000 ⟨jd w.params,11,{},Array.mk [],boot_drawn,boot_toks,os⟩ (topStub PySem.Challenge.pw_uf020006_09)).map (fun s=>
   (staticsOk (importedModules PySem.Challenge.pw_uf020006_09.main.body) (boot_heap w.params) s.abs.heap&&namesBound PySem.Challenge.pw_uf020006_09 s.abs.heap&&gensDone s.abs&&laidKept (boot_heap w.params) s.abs.heap,openSeen q [] (importedModules PySem.Challenge.pw_uf020006_09.main.body) Xt true s.abs,Hook.obs Hook.none s.abs))=some (true,openGood q [],Hook.val Hook.none w):=by kernel_rfl
theorem left:LeftO PySem.Challenge.pw_uf020006_09 q [] Xt (Hook.obs Hook.none) (Hook.val Hook.none) 4000:=yO l1 rfl l2 l3 l4 l5
end
end Mine.L09
end
section
set_option genInjectivity true
namespace Mine
noncomputable section
open PySem PySem.W
inductive Ky where
 |int (i:Int)
 |str (x:Str)
 |tup (ks:List Ky)
noncomputable instance:DecidableEq Ky:=fun a b=>Classical.propDecidable (a=b)
noncomputable def tC (b:Bool):Int:=if b then 1 else 0
inductive Kx where
 |int (i:Int)
 |bool (b:Bool)
 |str (x:Str)
 |tup (ks:List Kx)
mutual
noncomputable def Ky.hash (w:World):Ky→Int
 |.int i=>hashInt i
 |.str x=>hashStr w x
 |.tup ks=>reduceHash (Builtin.Tuple.tupleHashOf (Ky.hashes w ks))
termination_by structural k=>k
noncomputable def Ky.hashes (w:World):List Ky→List Int
 | []=>[]
 |k::r=>k.hash w::Ky.hashes w r
termination_by structural k=>k
end
mutual
noncomputable def Ky.draws:Ky→Nat
 |.int _=>1
 |.str _=>1
 |.tup ks=>Ky.drawsL ks+1
termination_by structural k=>k
noncomputable def Ky.drawsL:List Ky→Nat
 | []=>0
 |k::r=>k.draws+Ky.drawsL r
termination_by structural k=>k
end
mutual
noncomputable def Kx.norm:Kx→Ky
 |.int i=>.int i
 |.bool b=>.int (tC b)
 |.str x=>.str x
 |.tup ks=>.tup (Kx.norms ks)
termination_by structural k=>k
noncomputable def Kx.norms:List Kx→List Ky
 | []=>[]
 |k::r=>k.norm::Kx.norms r
termination_by structural k=>k
end
mutual
noncomputable def Kx.dat:Kx→PyData
 |.int i=>.int i
 |.bool b=>.bool b
 |.str x=>.str x
 |.tup ks=>.tuple (Kx.dats ks)
termination_by structural k=>k
noncomputable def Kx.dats:List Kx→List PyData
 | []=>[]
 |k::r=>k.dat::Kx.dats r
termination_by structural k=>k
end
mutual
noncomputable def cW (h:Heap):Kx→Nat→Value→Prop
 |.int i,_,v=>∃t,v=.int i t
 |.bool b,_,v=>v=.bool b
 |.str x,_,v=>PyData.strOk x=true∧∃t,v=.str x t
 |.tup ks,n,v=>∃a vs k m,v=.ref a∧n=m+1∧h.get? a=some ⟨.type "tuple",none,.seq vs k,#[]⟩∧eP h ks m vs.toList
termination_by structural k=>k
noncomputable def eP (h:Heap):List Kx→Nat→List Value→Prop
 | [],_,vs=>vs=[]
 |k::ks,n,vs=>∃v vs',vs=v::vs'∧cW h k n v∧eP h ks n vs'
termination_by structural k=>k
end
section
variable {h h':Heap}
theorem cW.keeps (hk:∀a vs k,h.get? a=some ⟨.type "tuple",none,.seq vs k,#[]⟩→h'.get? a=some ⟨.type "tuple",none,.seq vs k,#[]⟩)(x:Kx):∀n v,cW h x n v→cW h' x n v:=
 Kx.rec (motive_1:=fun x=>∀n v,cW h x n v→cW h' x n v) (motive_2:=fun x=>∀n v,eP h x n v→eP h' x n v)
  (fun _ _ _ q=>q) (fun _ _ _ q=>q) (fun _ _ _ q=>q) (fun _ ih _ _ ⟨a,vs,k,m,e,e',g,r⟩=>⟨a,vs,k,m,e,e',hk a vs k g,ih m _ r⟩) (fun _ _ q=>q) (fun _ _ i1 i2 n _ ⟨v,vs,e,r,r'⟩=>⟨v,vs,e,i1 n v r,i2 n vs r'⟩) x
theorem cW.inj (x:Kx):∀y n m v,cW h x n v→cW h y m v→x=y:=
 Kx.rec (motive_1:=fun x=>∀y n m v,cW h x n v→cW h y m v→x=y) (motive_2:=fun x=>∀y n m v,eP h x n v→eP h y m v→x=y)
  (fun i y n m v ⟨t,e⟩ q=>by subst e;cases y with
   |int j=>obtain ⟨_,e⟩:=q;cases e;rfl
   |bool=>cases q
   |str=>obtain ⟨_,_,e⟩:=q;cases e
   |tup=>obtain ⟨_,_,_,_,e,_⟩:=q;cases e)
  (fun b y n m v e q=>by rw [show v=_ from e] at q;cases y with
   |int j=>obtain ⟨_,e⟩:=q;cases e
   |bool=>cases q;rfl
   |str=>obtain ⟨_,_,e⟩:=q;cases e
   |tup=>obtain ⟨_,_,_,_,e,_⟩:=q;cases e)
  (fun s y n m v ⟨_,t,e⟩ q=>by subst e;cases y with
   |int j=>obtain ⟨_,e⟩:=q;cases e
   |bool=>cases q
   |str=>obtain ⟨_,_,e⟩:=q;cases e;rfl
   |tup=>obtain ⟨_,_,_,_,e,_⟩:=q;cases e)
  (fun ks ih y n m v ⟨a,vs,k,j,e,_,g,r⟩ q=>by subst e;cases y with
   |int j=>obtain ⟨_,e⟩:=q;cases e
   |bool=>cases q
   |str=>obtain ⟨_,_,e⟩:=q;cases e
   |tup=>obtain ⟨_,_,_,j',e,_,g',r'⟩:=q;cases e;rw [g] at g';cases g';rw [ih _ j j' _ r r'])
  (fun y n m v e q=>by rw [show v=_ from e] at q;cases y with
   |nil=>rfl
   |cons=>obtain ⟨_,_,e,_⟩:=q;cases e)
  (fun x xs i1 i2 y n m v ⟨u,us,e,r,r'⟩ q=>by subst e;cases y with
   |nil=>cases q
   |cons=>obtain ⟨_,_,e,q,q'⟩:=q;cases e;rw [i1 _ n m _ r q,i2 _ n m _ r' q']) x
theorem cW.reads (x:Kx):∀n v,cW h x n v→(∃as,Reads h v x.dat as)∧x.dat.canLay0=true∧x.dat.depth≤n:=
 Kx.rec (motive_1:=fun x=>∀n v,cW h x n v→(∃as,Reads h v x.dat as)∧x.dat.canLay0=true∧x.dat.depth≤n) (motive_2:=fun x=>∀n v,eP h x n v→(∃as,ReadsAll h v (Kx.dats x) as)∧PyData.canLayAll0 (Kx.dats x)=true∧PyData.depthAll (Kx.dats x)≤n)
  (fun i _ _ ⟨t,e⟩=>e▸⟨⟨_,.int i t⟩,rfl,Nat.zero_le _⟩) (fun b _ v e=>(show v=_ from e)▸⟨⟨_,.bool b⟩,rfl,Nat.zero_le _⟩) (fun x _ _ ⟨g,t,e⟩=>e▸⟨⟨_,.str _ t⟩,g,Nat.zero_le _⟩)
  (fun _ ih _ _ ⟨a,vs,k,m,e,e',g,r⟩=>let ⟨⟨as,q⟩,c,l⟩:=ih m _ r;e▸e'▸⟨⟨as,.tuple g rfl rfl q⟩,c,Nat.succ_le_succ l⟩)
  (fun _ v e=>(show v=_ from e)▸⟨⟨_,.nil⟩,rfl,Nat.zero_le _⟩)
  (fun _ _ i1 i2 n _ ⟨v,vs,e,r,r'⟩=>let ⟨⟨as,q⟩,c,l⟩:=i1 n v r;let ⟨⟨bs,q'⟩,c',l'⟩:=i2 n vs r';e▸⟨⟨_,.cons q q'⟩,Bool.and_eq_true_iff.mpr ⟨c,c'⟩,Nat.max_le.mpr ⟨l,l'⟩⟩) x
theorem tn {α β:Type}{a b:α}{f:α→β} [DecidableEq α] [DecidableEq β] (hf:∀x y,f x=f y→x=y):decide (f a=f b)=decide (a=b):=by
 by_cases q:a=b
 ·rw [decide_eq_true q,decide_eq_true (congrArg f q)]
 ·rw [decide_eq_false q,decide_eq_false fun e=>q (hf _ _ e)]
theorem kJ {α:Type} [BEq α] [LawfulBEq α] [DecidableEq α] (a b:α):(a==b)=decide (a=b):=by
 by_cases q:a=b
 ·rw [decide_eq_true q,beq_iff_eq.mpr q]
 ·rw [decide_eq_false q,beq_eq_false_iff_ne.mpr q]
theorem rS (i j:Int):decide (Ky.int i=Ky.int j)=decide (i=j):=tn fun _ _ e=>Ky.int.inj e
theorem Kx.eqv (x:Kx):∀y:Kx,PyData.eqv x.dat y.dat=decide (x.norm=y.norm):=
 have no:∀{a b:Ky},a≠b→false=decide (a=b):=fun h=>(decide_eq_false h).symm
 Kx.rec (motive_1:=fun x=>∀y:Kx,PyData.eqv x.dat y.dat=decide (x.norm=y.norm)) (motive_2:=fun x=>∀y:List Kx,PyData.eqvAll (Kx.dats x) (Kx.dats y)=decide (Ky.tup (Kx.norms x)=Ky.tup (Kx.norms y)))
  (fun i y=>match y with
   |.int j=>(kJ i j).trans (rS i j).symm
   |.bool b=>(kJ i (tC b)).trans (rS i _).symm
   |.str _=>no nofun
   |.tup _=>no nofun)
  (fun b y=>match y with
   |.int j=>(kJ (tC b) j).trans (rS _ j).symm
   |.bool c=>by cases b<;>cases c<;>first |exact (decide_eq_true rfl).symm |exact no fun e=>absurd (Ky.int.inj e) (by decide)
   |.str _=>no nofun
   |.tup _=>no nofun)
  (fun s y=>match y with
   |.int _=>no nofun
   |.bool _=>no nofun
   |.str t=>(kJ s t).trans (tn fun _ _ e=>Ky.str.inj e).symm
   |.tup _=>no nofun)
  (fun ks ih y=>match y with
   |.int _=>no nofun
   |.bool _=>no nofun
   |.str _=>no nofun
   |.tup ls=>ih ls)
  (fun y=>match y with
   | []=>(decide_eq_true rfl).symm
   |_::_=>no nofun)
  (fun x xs i1 i2 y=>match y with
   | []=>no nofun
   |z::zs=>by
    show (PyData.eqv x.dat z.dat&&PyData.eqvAll (Kx.dats xs) (Kx.dats zs))=decide (Ky.tup (x.norm::Kx.norms xs)=Ky.tup (z.norm::Kx.norms zs))
    rw [i1 z,i2 zs]
    by_cases h:x.norm=z.norm
    ·rw [decide_eq_true h,h,Bool.true_and]
     exact decide_eq_decide.mpr ⟨fun e=>by rw [Ky.tup.inj e],fun e=>by rw [(List.cons.inj (Ky.tup.inj e)).2]⟩
    ·rw [decide_eq_false h,Bool.false_and]
     exact no fun e=>h (List.cons.inj (Ky.tup.inj e)).1) x
end
section
variable {prog:Program} {w:World} {E:Value→Shared→Prop}
theorem cW.pyHash (x:Kx):∀(n:Nat) (v:Value) (A:Around) (s:Shared) (Q:Int→Shared→Prop),cW s.heap x n v→A.units+n < cLine→Q (x.norm.hash w) {s with toks:=s.toks+x.norm.draws}→wpAny (model prog w) A (PySem.pyHash v) Q E s:=
 Kx.rec (motive_1:=fun x=>∀(n:Nat) (v:Value) (A:Around) (s:Shared) (Q:Int→Shared→Prop),cW s.heap x n v→A.units+n < cLine→Q (x.norm.hash w) {s with toks:=s.toks+x.norm.draws}→wpAny (model prog w) A (PySem.pyHash v) Q E s)
  (motive_2:=fun x=>∀(n:Nat) (vs:List Value) (A:Around) (s:Shared) (b:Array Int) (Q:Array Int→Shared→Prop),eP s.heap x n vs→A.units+n < cLine→(∀b':Array Int,b'.toList=b.toList++Ky.hashes w (Kx.norms x)→Q b' {s with toks:=s.toks+Ky.drawsL (Kx.norms x)})→
   wpAny (model prog w) A (forIn vs b fun x r=>do let h ←PySem.pyHash x;pure PUnit.unit;pure (ForInStep.yield (r.push h))) Q E s)
  (fun i n v A s Q ⟨t,e⟩ _ h=>e▸wpAny_pyHash_int h)
  (fun b n v A s Q e hu h=>by
   rw [show v=_ from e]
   refine pyHash_slot (T:="bool") rfl F.slot_bool_hash entry_int_hash (args_int_hash _) (beq_builtin_none _) (.inl rfl) ?_
   cases b
   ·exact (show wpAny _ _ (do ret (←mkInt 0)) _ _ s from wpAny_bind (wpAny_mkInt (wpAny_pure ⟨_,_,rfl,h⟩)))
   ·exact (show wpAny _ _ (do ret (←mkInt 1)) _ _ s from wpAny_bind (wpAny_mkInt (wpAny_pure ⟨_,_,rfl,h⟩))))
  (fun x n v A s Q ⟨_,t,e⟩ _ h=>e▸wpAny_pyHash_str h)
  (fun ks ih n v A s Q ⟨a,vs,k,m,e,e',hg,r⟩ hu h=>by
   subst e e'
   refine pyHash_slot (T:="tuple") ⟨_,hg,rfl⟩ F.slot_tuple_hash F.entry_tuple_hash (F.args_tuple_hash_1 _) (beq_builtin_none _) (.inr (Nat.lt_of_le_of_lt (Nat.le_add_right _ _) hu)) ?_
   show wpAny _ _ (Builtin.Tuple.tupleItemsOf (.ref a) >>=_) _ _ s
   refine wpAny_bind (wpAny_tupleItemsOf hg rfl ?_)
   refine wpAny_bind ?_
   rw [←Array.forIn_toList]
   refine ih m _ _ _ _ _ r (by simp only [Around.in1_units];lia -abstractProof) fun b hb=>?_
   show wpAny _ _ (retInt (Builtin.Tuple.tupleHashOf b.toList)) _ _ _
   rw [hb]
   exact wpAny_bind (wpAny_mkInt (wpAny_pure ⟨_,_,rfl,h⟩)))
  (fun n vs A s b Q e _ h=>by rw [show vs=_ from e];exact wpAny_pure (h b (by rw [Kx.norms,Ky.hashes,List.append_nil])))
  (fun x xs i1 i2 n vs A s b Q ⟨v,vs',e,r,r'⟩ hu h=>by
   rw [e,List.forIn_cons]
   refine wpAny_bind (wpAny_bind (i1 n _ _ _ _ r hu ?_))
   refine wpAny_bind (wpAny_pure (wpAny_pure ?_))
   refine i2 n _ _ _ _ _ r' hu fun b' hb=>?_
   have:=h b' (by rw [hb,Kx.norms,Ky.hashes,Array.toList_push,List.append_assoc];rfl)
   rw [Kx.norms,Ky.drawsL,←Nat.add_assoc] at this
   exact this) x
theorem cW.quiet (x:Kx):∀(n:Nat) (v:Value) (m:Nat) (A:Around) (s:Shared) (Q:Bool→Shared→Prop),cW s.heap x n v→n≤m→Q true s→wpAny (model prog w) A (eqIsQuiet m v) Q E s:=
 Kx.rec (motive_1:=fun x=>∀(n:Nat) (v:Value) (m:Nat) (A:Around) (s:Shared) (Q:Bool→Shared→Prop),cW s.heap x n v→n≤m→Q true s→wpAny (model prog w) A (eqIsQuiet m v) Q E s)
  (motive_2:=fun x=>∀(n:Nat) (vs:List Value) (m:Nat) (A:Around) (s:Shared) (Q:Option Bool×PUnit→Shared→Prop),eP s.heap x n vs→n≤m→Q (none,⟨⟩) s→
   wpAny (model prog w) A (forIn vs ((none:Option Bool),PUnit.unit) fun y r=>do
    let c ←eqIsQuiet m y
    if (!c)=true then pure (ForInStep.done (some false,PUnit.unit)) else pure (ForInStep.yield (none,PUnit.unit))) Q E s)
  (fun i n v m A s Q ⟨t,e⟩ _ h=>by rw [e,eqIsQuiet_byValue m rfl];exact wpAny_pure h)
  (fun b n v m A s Q e _ h=>by rw [show v=_ from e,eqIsQuiet_byValue m rfl];exact wpAny_pure h)
  (fun x n v m A s Q ⟨_,t,e⟩ _ h=>by rw [e,eqIsQuiet_byValue m rfl];exact wpAny_pure h)
  (fun ks ih n v m A s Q ⟨a,vs,k,j,e,e',hg,r⟩ hu h=>by
   subst e e'
   cases m with
   |zero=>exact absurd hu (Nat.not_succ_le_zero _)
   |succ m=>
    have hT:s.TypeIs (.ref a) "tuple":=⟨_,hg,rfl⟩
    unfold eqIsQuiet
    refine wpAny_bind (wpAny_specialOf hT F.slot_tuple_eq.lookup ?_)
    show wpAny _ _ (isInstance (.ref a) (.type "tuple") >>=_) _ _ s
    refine wpAny_bind (wpAny_isInstance hT isSubtype_tuple_tuple ?_)
    simp only [Bool.not_true,Bool.false_eq_true,if_false]
    refine wpAny_bind (wpAny_seqItems hg rfl ?_)
    refine wpAny_bind ?_
    show wpAny _ _ (forIn vs _ _) _ _ s
    rw [←Array.forIn_toList]
    exact ih j _ m _ _ _ r (Nat.le_of_succ_le_succ hu) (wpAny_pure h))
  (fun n vs m A s Q e _ h=>by rw [show vs=_ from e];exact wpAny_pure h)
  (fun x xs i1 i2 n vs m A s Q ⟨v,vs',e,r,r'⟩ hu h=>by
   rw [e,List.forIn_cons]
   refine wpAny_bind (wpAny_bind (i1 n _ m _ _ _ r hu ?_))
   exact wpAny_pure (i2 n _ m _ _ _ r' hu h)) x
end
noncomputable def zF (h:Heap)(n:Nat)(k:Ky)(v:Value):Prop:=∃x:Kx,x.norm=k∧cW h x n v
noncomputable def BC (h:Heap)(n:Nat)(k:List Ky)(v:List Value):Prop:=∃x:List Kx,Kx.norms x=k∧eP h x n v
noncomputable def bH (prog:Program)(w:World):HeapKind prog w Ky where
 is:=fun h k a=>zF h 6 k (.ref a)
 hash:=Ky.hash w
 draws:=Ky.draws
 room:=fun A=>A.units+6 < cLine
 inj:=fun hx hy=>let ⟨x,e,q⟩:=hx;let ⟨y,e',q'⟩:=hy;by rw [←e,←e',cW.inj x y 6 6 _ q q']
 keeps:=fun {h h' k a d o es ep} hx ho hd hs=>let ⟨x,e,q⟩:=hx;⟨x,e,cW.keeps (fun b vs j e=>(hs.2 b fun q=>by rw [q,ho] at e;cases e;cases hd).trans e) x 6 _ q⟩
 pyHash:=fun hu hk h=>by obtain ⟨x,rfl,q⟩:=hk;exact cW.pyHash x 6 _ _ _ _ q hu h
 eqBool:=fun {A E s x y a b Q} hu hx hy h=>by
  obtain ⟨x,rfl,q1⟩:=hx
  obtain ⟨y,rfl,q2⟩:=hy
  by_cases q:a=b
  ·subst q
   rw [cW.inj x y 6 6 _ q1 q2,decide_eq_true rfl] at h
   exact SeqAt.EqAt.same (.ref a) prog w E Q h
  ·obtain ⟨⟨as,r1⟩,c1,l1⟩:=cW.reads x 6 _ q1
   obtain ⟨⟨bs,r2⟩,c2,l2⟩:=cW.reads y 6 _ q2
   rw [←x.eqv y] at h
   exact SeqAt.EqAt.of_refs q (SeqAt.rcAt_reads r1 r2 c1 c2 (Nat.lt_of_le_of_lt (Nat.add_le_add_left (Nat.le_trans (Nat.min_le_left _ _) l1) _) hu)) prog w E Q h
 quiet:=fun hk h=>by obtain ⟨x,rfl,q⟩:=hk;exact cW.quiet x 6 _ _ _ _ _ q (by decide) h
end
end Mine
end
section
set_option backward.eqns.nonrecursive false
namespace Mine
noncomputable section
open PySem PyProof.Rows
noncomputable def lim:Nat:=1000000
noncomputable def cL:Nat:=50
noncomputable def cut {α:Type}(lo hi:Option Int)(xs:List α):List α:=
 (xs.drop (lo.elim 0 (clipAt xs.length))).take (hi.elim xs.length (clipAt xs.length) - lo.elim 0 (clipAt xs.length))
theorem mf (n k:Nat):clipAt n (k:Int)=min k n:=by
 unfold clipAt
 rw [if_neg (Int.not_lt.mpr (Int.natCast_nonneg k))]
 rcases Nat.le_total k n with h |h
 ·rw [Nat.min_eq_left h,Int.min_eq_left (Int.ofNat_le.mpr h),Int.max_eq_right (Int.natCast_nonneg k)];rfl
 ·rw [Nat.min_eq_right h,Int.min_eq_right (Int.ofNat_le.mpr h),Int.max_eq_right (Int.natCast_nonneg n)];rfl
theorem tx (n:Nat):clipAt n (-1)=n - 1:=by
 unfold clipAt
 rw [if_pos (by decide)]
 cases n with
 |zero=>rfl
 |succ n=>
  rw [show (-1:Int)+((n+1:Nat):Int)=n from (Int.add_comm _ _).trans (Int.add_sub_cancel (n:Int) 1),Int.min_eq_left (Int.ofNat_le.mpr (Nat.le_succ n)),Int.max_eq_right (Int.natCast_nonneg n)];rfl
noncomputable def eS (lo hi:Option Int)(x:Str):Str:=⟨(cut lo hi x.cps.toList).toArray⟩
inductive T where
 |none
 |bool (b:Bool)
 |int (i:Int)
 |str (s:Str)
 |tup (ts:List T)
 |lst (ts:List T)
 |dct (ks vs:List T)
 |obj (c:Nat) (fs:List T)
 |scr (ns:List Int)
 |spot
 |self
 deriving Inhabited
structure Sg where
 spot:Int
 self:Option (Nat×List T)
@[reducible] noncomputable def S1:Type:=Sg
@[reducible] noncomputable def S2:Type:=S1
@[reducible] noncomputable def S3:Type:=S2
@[reducible] noncomputable def S4:Type:=S3
@[reducible] noncomputable def S5:Type:=S4
@[reducible] noncomputable def B1:Type:=Bool
@[reducible] noncomputable def B2:Type:=B1
@[reducible] noncomputable def B3:Type:=B2
@[reducible] noncomputable def B4:Type:=B3
@[reducible] noncomputable def B5:Type:=B4
noncomputable abbrev aH:=List (Option T)
inductive cz where
 |ret (t:T) (σ:Sg)
 |fall (ρ:aH) (σ:Sg)
 |exc (c:Nat) (σ:Sg)
 |bad
@[reducible] noncomputable def gd (b:B5)(o:cz):cz:=Bool.rec (motive:=fun _=>cz) .bad o b
structure fT where
 call:Nat→List T→Sg→cz
noncomputable abbrev PK (α:Type):=α→Sg→cz
noncomputable abbrev PG (α:Type):=fT→aH→Sg→PK α→cz
noncomputable abbrev PE:=PG T
noncomputable abbrev PT:=PG Bool
noncomputable abbrev PL:=PG (List T)
noncomputable abbrev PO:=PG (Option Int)
noncomputable abbrev PS:=PG aH
noncomputable def bz:aH→Nat→Option T
 | [],_=>none
 |x::_,0=>x
 |_::r,n+1=>bz r n
noncomputable def up {α:Type}(o:Option α)(σ:S3)(k:PK α):cz:=match o with
 |some a=>k a σ
 |none=>.bad
@[irreducible] noncomputable def sW (o:cz)(k:PK T):cz:=match o with
 |.ret t σ=>k t σ
 |_=>.bad
theorem zS {t:T}{σ:Sg}{k:PK T}:sW (.ret t σ) k=k t σ:=by with_unfolding_all rfl
noncomputable def bU (n:Nat):Bool:=Nat.ble n lim
noncomputable def eW (f:T→Option PyData):List T→Option (List PyData)
 | []=>some []
 |x::r=>match f x with
  |none=>none
  |some d=>(eW f r).map (d::·)
noncomputable def cT:Nat→T→Option PyData
 |_,.none=>some .none
 |_,.bool b=>some (.bool b)
 |_,.int i=>some (.int i)
 |_,.str s=>some (.str s)
 |n+1,.tup xs=>(eW (cT n) xs).map .tuple
 |n+1,.lst xs=>(eW (cT n) xs).map .list
 |_,_=>none
@[reducible] noncomputable def pV (i:Nat):PE:=fun _ ρ σ k=>up (bz ρ i) σ k
@[reducible] noncomputable def pC (t:T):PE:=fun _ _ (σ:S5) k=>k t σ
@[reducible] noncomputable def p1 {α β:Type}(f:α→Option β)(e:PG α):PG β:=fun c ρ σ k=>e c ρ σ fun a σ=>up (f a) σ k
@[reducible] noncomputable def p2 {α β γ:Type}(f:α→β→Option γ)(l:PG α)(r:PG β):PG γ:=fun c ρ σ k=>l c ρ σ fun a σ=>r c ρ σ fun b σ=>up (f a b) σ k
@[reducible] noncomputable def p3 {α β γ δ:Type}(f:α→β→γ→Option δ)(l:PG α)(m:PG β)(r:PG γ):PG δ:=fun c ρ σ k=>l c ρ σ fun a σ=>m c ρ σ fun b σ=>r c ρ σ fun x σ=>up (f a b x) σ k
@[reducible] noncomputable def pB (t:PT):PE:=fun c ρ (σ:S5) k=>t c ρ σ fun b σ=>k (.bool b) σ
@[reducible] noncomputable def ah:PL:=fun _ _ (σ:S5) k=>k [] σ
@[reducible] noncomputable def aa (e:PE)(r:PL):PL:=fun c ρ (σ:S5) k=>e c ρ σ fun v σ=>r c ρ σ fun vs σ=>k (v::vs) σ
@[reducible] noncomputable def ax (r:PL):PE:=fun c ρ (σ:S5) k=>r c ρ σ fun vs σ=>bif bU vs.length then k (.tup vs) σ else .bad
@[reducible] noncomputable def bu (r:PL):PE:=fun c ρ (σ:S5) k=>r c ρ σ fun vs σ=>bif bU vs.length then k (.lst vs) σ else .bad
noncomputable def di:T→Option Bool
 |.none=>some false
 |.bool b=>some b
 |.int i=>some (i !=0)
 |_=>none
@[reducible] noncomputable def qE (e:PE):PT:=p1 di e
@[reducible] noncomputable def dE (t:PT):PT:=fun c ρ (σ:S5) k=>t c ρ σ fun b σ=>k (!b) σ
@[reducible] noncomputable def j7 (t u:PT):PT:=fun c ρ (σ:S5) k=>t c ρ σ fun b σ=>bif b then u c ρ σ k else k false σ
@[reducible] noncomputable def eY (t u:PT):PT:=fun c ρ (σ:S5) k=>t c ρ σ fun b σ=>bif b then k true σ else u c ρ σ k
@[reducible] noncomputable def ay:PT:=fun _ _ (σ:S5) k=>k true σ
@[reducible] noncomputable def bJ:PT:=fun _ _ (σ:S5) k=>k false σ
@[reducible] noncomputable def ix (e:PE):PE:=p1 (fun t=>(di t).map fun b=>.bool (!b)) e
@[reducible] noncomputable def iy (d e:PE):PE:=fun c ρ (σ:S5) k=>d c ρ σ fun v σ=>match di v with
 |some true=>e c ρ σ k
 |some false=>k v σ
 |none=>.bad
@[reducible] noncomputable def vz (d e:PE):PE:=fun c ρ (σ:S5) k=>d c ρ σ fun v σ=>match di v with
 |some true=>k v σ
 |some false=>e c ρ σ k
 |none=>.bad
@[reducible] noncomputable def Cc (t:PT)(d e:PE):PE:=fun c ρ (σ:S5) k=>t c ρ σ fun b σ=>bif b then d c ρ σ k else e c ρ σ k
@[reducible] noncomputable def ak (f:Nat)(args:PL):PE:=fun c ρ (σ:S5) k=>args c ρ σ fun vs σ=>sW (c.call f vs σ) k
noncomputable def Dq:T→Option Bool
 |.bool b=>some b
 |_=>none
noncomputable def iH:T→Option Int
 |.int i=>some i
 |_=>none
noncomputable def qV:T→Option Str
 |.str s=>some s
 |_=>none
noncomputable def pf:T→Option (List T)
 |.tup xs=>some xs
 |_=>none
noncomputable def fR:T→Option (List T)
 |.lst xs=>some xs
 |_=>none
noncomputable def BN:T→Option (List Int)
 |.scr ns=>some ns
 |_=>none
noncomputable def el {α:Type}(x:Option α)(y:Option α):Option α:=match x with
 |some a=>some a
 |none=>y
noncomputable def o2 {α β γ:Type}(x:Option α)(y:Option β)(f:α→β→Option γ):Option γ:=match x with
 |some a=>match y with
  |some b=>f a b
  |none=>none
 |none=>none
noncomputable def o1 {α β:Type}(x:Option α)(f:α→Option β):Option β:=match x with
 |some a=>f a
 |none=>none
noncomputable def bI (a b:T):Option Bool:=o2 (cT cL a) (cT cL b) fun d e=>some (PyData.eqv d e)
noncomputable def jW (a b:T):Option Bool:=(bI a b).map (!·)
noncomputable def nV {α:Type}(n:Nat)(x:α):Option α:=bif bU n then some x else none
noncomputable def bf (a b:T):Option T:=match iH a with
 |some i=>o1 (iH b) fun j=>some (.int (i+j))
 |none=>match qV a with
  |some x=>o1 (qV b) fun y=>nV (x++y).length (.str (x++y))
  |none=>match pf a with
   |some x=>o1 (pf b) fun y=>nV (x++y).length (.tup (x++y))
   |none=>o2 (fR a) (fR b) fun x y=>nV (x++y).length (.lst (x++y))
noncomputable def yY (f:Int→Int→Option T)(a b:T):Option T:=o2 (iH a) (iH b) f
noncomputable def dj:T→T→Option T:=yY fun a b=>some (.int (a - b))
noncomputable def sm (i:Int):Bool:=Nat.ble i.natAbs 1000000000
@[irreducible] noncomputable def jA:T→T→Option T:=yY fun a b=>bif sm a||sm b then some (.int (a * b)) else none
@[irreducible] noncomputable def cJ:T→T→Option T:=yY fun a b=>bif b==0||Nat.ble 1073741824 b.natAbs then none else some (.int (a.fdiv b))
@[irreducible] noncomputable def bG:T→T→Option T:=yY fun a b=>bif b==0 then none else some (.int (a.fmod b))
noncomputable def j8 (a:T):Option T:=o1 (iH a) fun i=>some (.int (-i))
noncomputable def zo (f:Int→Int→Bool)(a b:T):Option Bool:=o2 (iH a) (iH b) fun i j=>some (f i j)
noncomputable def uS:T→T→Option Bool:=zo fun a b=>decide (a < b)
noncomputable def BJ:T→T→Option Bool:=zo fun a b=>decide (a≤b)
noncomputable def Ad:T→T→Option Bool:=zo fun a b=>decide (a > b)
noncomputable def EG:T→T→Option Bool:=zo fun a b=>decide (a ≥ b)
noncomputable def fZ (a:T):Option (List T):=el (pf a) (fR a)
noncomputable def l8 (xs:List T):Option (List PyData):=eW (cT cL) xs
noncomputable def i5 (a b:T):Option Bool:=o1 (fZ b) fun xs=>o2 (cT cL a) (l8 xs) fun d es=>some (es.any fun y=>PyData.eqv y d)
noncomputable def fP (a b:T):Option Bool:=(i5 a b).map (!·)
noncomputable def xP (i:Int)(xs:List T):Option T:=bif sm i then o1 (seqIndex? i xs.length) fun j=>xs[j]? else none
noncomputable def sG (i:Int)(x:Str):Option T:=bif sm i then ((seqIndex? i x.length).bind (x.cps[·]?)).map fun c=>T.str ⟨#[c]⟩ else none
noncomputable def aj (a b:T):Option T:=o1 (iH b) fun i=>match fZ a with
 |some xs=>xP i xs
 |none=>match BN a with
  |some ns=>xP i (ns.map T.int)
  |none=>o1 (qV a) (sG i)
@[irreducible] noncomputable def bE (a:T)(lo hi:Option Int):Option T:=match pf a with
 |some xs=>some (.tup (cut lo hi xs))
 |none=>match fR a with
  |some xs=>some (.lst (cut lo hi xs))
  |none=>o1 (qV a) fun x=>some (.str (eS lo hi x))
noncomputable def aO (a:T):Option T:=match fZ a with
 |some xs=>some (.int xs.length)
 |none=>match BN a with
  |some xs=>some (.int xs.length)
  |none=>o1 (qV a) fun x=>some (.int x.length)
noncomputable def ia (a:T):Option T:=o1 (fZ a) fun xs=>some (.lst xs)
noncomputable def DB (a:T):Option T:=o1 (fR a) fun xs=>some (.tup xs)
noncomputable def lR (a v:T):Option T:=o1 (fR a) fun xs=>o2 (cT cL v) (l8 xs) fun d es=>o1 (es.findIdx? fun y=>PyData.eqv y d) fun i=>some (.int i)
@[reducible] noncomputable def af:PS:=fun _ ρ (σ:S5) k=>k ρ σ
@[reducible] noncomputable def ae (a b:PS):PS:=fun c ρ (σ:S5) k=>a c ρ σ fun ρ σ=>b c ρ σ k
@[reducible] noncomputable def av (i:Nat)(e:PE):PS:=fun c ρ (σ:S5) k=>e c ρ σ fun v σ=>k (ρ.set i (some v)) σ
@[reducible] noncomputable def be (t:PT)(a b:PS):PS:=fun c ρ (σ:S5) k=>t c ρ σ fun q σ=>bif q then a c ρ σ k else b c ρ σ k
@[reducible] noncomputable def au (e:PE):PS:=fun c ρ (σ:S5) _=>e c ρ σ fun v σ=>.ret v σ
@[reducible] noncomputable def kN (e:PE):PS:=fun c ρ (σ:S5) k=>e c ρ σ fun _ σ=>k ρ σ
@[reducible] noncomputable def gZ:PS:=fun _ _ _ _=>.bad
@[reducible] noncomputable def Dx (x:Nat)(r:PL):PS:=fun c ρ σ _=>r c ρ σ fun vs σ=>bif bU vs.length then .exc x σ else .bad
noncomputable def dD:List Nat→List T→aH→Option aH
 | [],[],ρ=>some ρ
 |i::is,v::vs,ρ=>dD is vs (ρ.set i (some v))
 |_,_,_=>none
@[reducible] noncomputable def EN (is:List Nat)(e:PE):PS:=fun c ρ σ k=>e c ρ σ fun v σ=>match v with
 |.tup ts=>up (dD is ts ρ) σ k
 |_=>.bad
noncomputable abbrev PB:=T→aH→Option aH
@[reducible] noncomputable def aJ (i:Nat):PB:=fun v ρ=>some (ρ.set i (some v))
@[reducible] noncomputable def xV (i j:Nat):PB:=fun v ρ=>match v with
 |.tup [a,b]=>some ((ρ.set i (some a)).set j (some b))
 |_=>none
noncomputable def cn (bd:PB)(body:PS)(c:fT):List T→aH→Sg→PK aH→cz
 | [],ρ,σ,k=>k ρ σ
 |v::r,ρ,σ,k=>match bd v ρ with
  |none=>.bad
  |some ρ'=>body c ρ' σ fun ρ σ=>cn bd body c r ρ σ k
theorem wL {bd:PB}{body:PS}{c:fT}{v:T}{r:List T}{ρ:aH}{σ:Sg}{k:PK aH}:cn bd body c (v::r) ρ σ k=(match bd v ρ with
  |none=>.bad
  |some ρ'=>body c ρ' σ fun ρ σ=>cn bd body c r ρ σ k):=rfl
@[reducible] noncomputable def bP (it:PL)(bd:PB)(body:PS):PS:=fun c ρ (σ:S5) k=>it c ρ σ fun xs σ=>cn bd body c xs ρ σ k
@[irreducible] noncomputable def fU (t:PT)(body:PS)(c:fT):Nat→aH→Sg→PK aH→cz
 | 0,_,_,_=>.bad
 |n+1,ρ,σ,k=>t c ρ σ fun b σ=>bif b then body c ρ σ fun ρ σ=>fU t body c n ρ σ k else k ρ σ
theorem kO {t:PT}{body:PS}{c:fT}{n:Nat}{ρ:aH}{σ:Sg}{k:PK aH}:fU t body c (n+1) ρ σ k=t c ρ σ fun b σ=>bif b then body c ρ σ fun ρ σ=>fU t body c n ρ σ k else k ρ σ:=by with_unfolding_all rfl
theorem uU {t:PT}{body:PS}{c:fT}{ρ:aH}{σ:Sg}{k:PK aH}:fU t body c 0 ρ σ k=.bad:=by with_unfolding_all rfl
@[reducible] noncomputable def eZ (n:Nat)(t:PT)(body:PS):PS:=fun c ρ (σ:S5) k=>fU t body c n ρ σ k
@[irreducible] noncomputable def aY (bd:PB)(cond:PT)(elt:PE)(c:fT)(ρ:aH):List T→Sg→List T→PK (List T)→cz
 | [],σ,acc,k=>k acc σ
 |v::r,σ,acc,k=>match bd v ρ with
  |none=>.bad
  |some ρ'=>cond c ρ' σ fun b σ=>bif b then elt c ρ' σ fun x σ=>aY bd cond elt c ρ r σ (acc++[x]) k else aY bd cond elt c ρ r σ acc k
theorem tq {bd:PB}{cond:PT}{elt:PE}{c:fT}{ρ:aH}{σ:Sg}{acc:List T}{k:PK (List T)}:aY bd cond elt c ρ [] σ acc k=k acc σ:=by with_unfolding_all rfl
theorem tr {bd:PB}{cond:PT}{elt:PE}{c:fT}{ρ:aH}{v:T}{r:List T}{σ:Sg}{acc:List T}{k:PK (List T)}:aY bd cond elt c ρ (v::r) σ acc k=(match bd v ρ with
  |none=>.bad
  |some ρ'=>cond c ρ' σ fun b σ=>bif b then elt c ρ' σ fun x σ=>aY bd cond elt c ρ r σ (acc++[x]) k else aY bd cond elt c ρ r σ acc k):=by with_unfolding_all rfl
@[reducible] noncomputable def aB (it:PL)(bd:PB)(cond:PT)(elt:PE):PE:=fun c ρ (σ:S5) k=>it c ρ σ fun xs σ=>aY bd cond elt c ρ xs σ [] fun ys σ=>k (.lst ys) σ
@[reducible] noncomputable def aG (e:PE):PL:=p1 fZ e
noncomputable def cf (a b c:Int):List T:=(List.range (Builtin.Range.rangeSize a b c).toNat).map fun k=>T.int (a+(k:Nat) * c)
noncomputable def rg (a n:Int):Option (List T):=bif (sm a&&sm n)&&bU (cf a n 1).length then some (cf a n 1) else none
@[irreducible] noncomputable def tT:List T→Option (List T)
 | []=>none
 |m::r=>match r with
  | []=>o1 (iH m) (rg 0)
  |n::r=>match r with
   | []=>o2 (iH m) (iH n) rg
   |_::_=>none
@[reducible] noncomputable def cj (r:PL):PL:=p1 tT r
noncomputable def j0:Nat→List T→List T
 |_,[]=>[]
 |n,x::r=>.tup [.int n,x]::j0 (n+1) r
noncomputable def E5 (t:T):Option (List T):=o1 (fR t) fun xs=>some (j0 0 xs)
@[reducible] noncomputable def qo (e:PE):PL:=p1 E5 e
noncomputable def dK (x v:T):Option T:=o1 (fR x) fun xs=>nV (xs.length+1) (.lst (xs++[v]))
noncomputable def hE (x v:T):Option T:=o2 (fR x) (fR v) fun xs ys=>nV (xs.length+ys.length) (.lst (xs++ys))
noncomputable def rh (f:Nat):Bool:=Nat.ble 1000 f
noncomputable def kh (f:Nat):Bool:=Nat.ble 500 f&&Nat.ble f 599
structure fN where
 np:Nat
 ns:Nat
 body:PS
noncomputable def frame (ts:List T)(n:Nat):aH:=ts.map some++List.replicate n none
noncomputable def ai (Φ:Nat→Option fN):Nat→Nat→List T→Sg→cz
 | 0,_,_,_=>.bad
 |n+1,f,args,σ=>match Φ f with
  |none=>.bad
  |some F=>bif Nat.beq args.length F.np then
    match F.body ⟨ai Φ n⟩ (frame args F.ns) σ fun _ σ=>bif kh f then .bad else .ret .none σ with
    |.ret t σ=>.ret t σ
    |.exc c σ=>.exc c σ
    |_=>.bad
   else .bad
theorem tA {Φ:Nat→Option fN}{n f:Nat}{args:List T}{σ:Sg}:ai Φ (n+1) f args σ=(match Φ f with
  |none=>.bad
  |some F=>bif Nat.beq args.length F.np then
    match F.body ⟨ai Φ n⟩ (frame args F.ns) σ fun _ σ=>bif kh f then .bad else .ret .none σ with
    |.ret t σ=>.ret t σ
    |.exc c σ=>.exc c σ
    |_=>.bad
   else .bad):=rfl
inductive BT where
 |list |bool |int |str |tuple
noncomputable def BT.id:BT→String
 |.list=>"list" |.bool=>"bool" |.int=>"int" |.str=>"str" |.tuple=>"tuple"
noncomputable def BT.nm (T:BT):Str:=ofString T.id
inductive MK where
 |list |str |tuple
noncomputable def MK.id:MK→String
 |.list=>"list" |.str=>"str" |.tuple=>"tuple"
noncomputable def oM (κs:List Ky)(κ:Ky):Option Nat:=κs.findIdx? fun x=>decide (x=κ)
noncomputable def lu {α:Type}(i:Option Nat)(k v:α)(ks vs:List α):List α×List α:=match i with
 |some i=>(ks,vs.set i v)
 |none=>(ks++[k],vs++[v])
noncomputable def isN:T→Bool
 |.none=>true
 |_=>false
noncomputable def ur (a b:T):Option Bool:=bif isN b then some (isN a) else none
noncomputable def ck (t:T):Option (Option Int):=o1 (iH t) fun i=>some (some i)
noncomputable def er:List T→Option (List Bool)
 | []=>some []
 |t::r=>o2 (di t) (er r) fun b bs=>some (b::bs)
noncomputable def C4 (f:List Bool→Bool)(t:T):Option T:=o1 (fR t) fun ts=>o1 (er ts) fun bs=>some (.bool (f bs))
noncomputable def sB:T→Option T:=C4 (·.any id)
noncomputable def jl:T→Option T:=C4 (·.all id)
noncomputable def td (t:T):Option T:=o1 (Dq t) fun b=>some (.int (if b then 1 else 0))
noncomputable def DU (X:BT):T→Option Bool
 |.bool _=>some (match X with |.bool |.int=>true |_=>false)
 |.int _=>some (match X with |.int=>true |_=>false)
 |.str _=>some (match X with |.str=>true |_=>false)
 |.tup _=>some (match X with |.tuple=>true |_=>false)
 |.lst _=>some (match X with |.list=>true |_=>false)
 |_=>none
noncomputable def gF (X:BT)(t:T):Option T:=o1 (DU X t) fun b=>some (.bool b)
noncomputable def kT (K:MK)(t:T):Bool:=match K with
 |.list=>(fR t).isSome
 |.str=>(qV t).isSome
 |.tuple=>(pf t).isSome
@[reducible] noncomputable def yn (K:MK)(F:T→T→Option T)(l r:PE):PE:=fun c ρ σ k=>l c ρ σ fun a σ=>gd (kT K a) (r c ρ σ fun b σ=>up (F a b) σ k)
noncomputable def Eh (a v:T):Option T:=o1 (fR a) fun xs=>o2 (cT cL v) (l8 xs) fun d es=>some (.int ((es.countP fun y=>PyData.eqv y d:Nat):Int))
noncomputable def u0:List T→Option (List Str)
 | []=>some []
 |t::r=>o2 (qV t) (u0 r) fun x xs=>some (x::xs)
noncomputable def ta (a b:T):Option T:=o2 (qV a) (fR b) fun sep ts=>o1 (u0 ts) fun xs=>bif JoinOk sep xs&&PyData.strOk (Txt.join sep xs)&&bU (Txt.join sep xs).length then some (.str (Txt.join sep xs)) else none
noncomputable def od (a b:T):Option T:=o2 (qV a) (qV b) fun x y=>bif !(y.length==0)&&bU (Txt.split x y).length&&(Txt.split x y).all (fun t=>PyData.strOk t&&decide (t.length≤lim)) then some (.lst ((Txt.split x y).map T.str)) else none
@[irreducible] noncomputable def j6 (a b:T):Option T:=o2 (fR a) (iH b) fun xs k=>bif decide (0≤k)&&(decide (k≤1000)&&Nat.ble xs.length 1000) then some (.lst (List.replicate k.toNat xs).flatten) else none
noncomputable def zq (t:T):Option (List T):=o1 (qV t) fun x=>bif x.cps.all (· < 128) then some (x.cps.toList.map fun c=>T.str ⟨#[c]⟩) else none
noncomputable def Dk (a b:T):Option Bool:=o2 (qV a) (qV b) fun y x=>some (Txt.contains x y)
@[reducible] noncomputable def gY (i:Nat)(F:T→T→Option T)(e:PE):PS:=fun c ρ (σ:S5) k=>match bz ρ i with
 |some x=>gd (kT .list x) (e c ρ σ fun v σ=>up (F x v) σ fun y σ=>k (ρ.set i (some y)) σ)
 |none=>.bad
noncomputable def kA:Nat→T→Option Ky
 |_,.int i=>some (.int i)
 |_,.bool b=>some (.int (tC b))
 |_,.str s=>some (.str s)
 |n+1,.tup xs=>o1 (go (kA n) xs) fun ks=>some (.tup ks)
 |_,_=>none
where go (f:T→Option Ky):List T→Option (List Ky)
 | []=>some []
 |x::r=>o2 (f x) (go f r) fun k ks=>some (k::ks)
theorem z8 {n:Nat}{xs:List T}:kA (n+1) (.tup xs)=o1 (kA.go (kA n) xs) fun ks=>some (.tup ks):=rfl
theorem uw {f:T→Option Ky}{x:T}{r:List T}:kA.go f (x::r)=o2 (f x) (kA.go f r) fun k ks=>some (k::ks):=rfl
noncomputable def wk (t:T):Option Ky:=o1 (pf t) fun xs=>kA 6 (.tup xs)
noncomputable def eR (us:List T):Option (List Ky):=kA.go wk us
noncomputable def BO:T→Option (List T×List T)
 |.dct us ts=>some (us,ts)
 |_=>none
noncomputable def kj (us:List T)(k:T):Option (Option Nat):=o2 (eR us) (wk k) fun κs κ=>some (oM κs κ)
noncomputable def Ab (a b:T):Option Bool:=o1 (BO b) fun p=>o1 (kj p.1 a) fun i=>some i.isSome
noncomputable def idxD (a k:T):Option T:=o1 (BO a) fun p=>o1 (kj p.1 k) fun i=>o1 i fun j=>p.2[j]?
noncomputable def EH (a:T):Option T:=o1 (BO a) fun p=>some (.int p.1.length)
noncomputable def l6:List T→List T→List T→Option (List T×List T)
 | [],us,ts=>some (us,ts)
 |x::r,us,ts=>o1 (pf x) fun ps=>match ps with
  | [k,v]=>o1 (kj us k) fun i=>l6 r (lu i k v us ts).1 (lu i k v us ts).2
  |_=>none
noncomputable def qy (a:T):Option T:=o1 (fR a) fun xs=>o1 (l6 xs [] []) fun p=>some (.dct p.1 p.2)
@[reducible] noncomputable def sD (i:Nat)(F:T→T→T→Option T)(j e:PE):PS:=fun c ρ (σ:S5) k=>e c ρ σ fun v σ=>match bz ρ i with
 |some x=>j c ρ σ fun κ σ=>up (F x κ v) σ fun y σ=>k (ρ.set i (some y)) σ
 |none=>.bad
noncomputable def rK (x κ v:T):Option T:=o2 (fR x) (iH κ) fun xs i=>bif decide (0≤i)&&decide (i < xs.length) then some (.lst (xs.set i.toNat v)) else none
noncomputable def dP (x κ v:T):Option T:=o1 (BO x) fun p=>o1 (kj p.1 κ) fun i=>nV (p.1.length+1) (.dct (lu i κ v p.1 p.2).1 (lu i κ v p.1 p.2).2)
noncomputable def bQ:Nat→List Str
 | 0=>[ofString "names",ofString "roads",ofString "firsts"]
 | 10=>[ofString "bonds",ofString "promises",ofString "machine",ofString "known",ofString "knots",ofString "begun",ofString "threads"]
 |_=>[]
noncomputable def gz:Nat→Nat→Bool
 | 10,3=>true
 | 10,4=>true
 | 10,6=>true
 |_,_=>false
@[reducible] noncomputable def vq (j:Nat)(is:List Nat):PS:=fun _ ρ σ k=>up (o1 (bz ρ j) fun x=>o1 (fR x) fun xs=>o1 xs.getLast? fun t=>o1 (pf t) fun ts=>dD is ts (ρ.set j (some (.lst xs.dropLast)))) σ k
@[reducible] noncomputable def nE (j i:Nat):PS:=fun _ ρ σ k=>up (o1 (bz ρ j) fun x=>o1 (fR x) fun xs=>o1 xs.head? fun y=>some ((ρ.set j (some (.lst xs.tail))).set i (some y))) σ k
noncomputable def Dp (c:Nat):T→Option (List T)
 |.obj c' ts=>bif Nat.beq c' c then some ts else none
 |_=>none
noncomputable def mD (c i:Nat)(t:T):Option T:=o1 (Dp c t) fun ts=>ts[i]?
noncomputable def EU (c i:Nat)(σ:Sg):T→Option T
 |.self=>o1 σ.self fun p=>bif Nat.beq p.1 c&&!gz c i then p.2[i]? else none
 |t=>mD c i t
@[reducible] noncomputable def eH (c i:Nat):PE:=fun _ ρ σ k=>up (o1 (bz ρ 0) (EU c i σ)) σ k
@[reducible] noncomputable def sV (c f:Nat)(o:PE)(args:PL):PE:=fun cx ρ (σ:S5) k=>o cx ρ σ fun t σ=>gd (Dp c t).isSome (args cx ρ σ fun ts σ=>sW (cx.call f (t::ts) σ) k)
noncomputable def ut (c:Nat)(ρ:aH)(σ:Sg):Bool:=match bz ρ 0 with
 |some .self=>match σ.self with
  |some p=>Nat.beq p.1 c
  |none=>false
 |_=>false
@[reducible] noncomputable def rO (c f:Nat)(args:PL):PE:=fun cx ρ (σ:S5) k=>gd (ut c ρ σ) (args cx ρ σ fun ts σ=>sW (cx.call f (.self::ts) σ) k)
noncomputable def Sg.fld (σ:Sg)(i:Nat)(y:T):Sg:=⟨σ.spot,σ.self.map fun p=>(p.1,p.2.set i y)⟩
noncomputable def dy (c i:Nat)(ρ:aH)(σ:Sg):Option T:=bif ut c ρ σ&&gz c i then o1 σ.self fun p=>p.2[i]? else none
noncomputable def Sg.push (σ:Sg)(y:T):Sg:=⟨σ.spot,σ.self.map fun p=>(p.1,p.2++[y])⟩
noncomputable def Am (c i:Nat)(ρ:aH)(σ:Sg):Bool:=ut c ρ σ&&(match σ.self with
 |some p=>Nat.beq p.2.length i
 |none=>false)
@[reducible] noncomputable def rN (c i:Nat)(e:PE):PS:=fun cx ρ σ k=>e cx ρ σ fun v σ=>gd (Am c i ρ σ) (k ρ (σ.push v))
@[irreducible] noncomputable def uc (c:Nat)(o:cz)(k:PK T):cz:=match o with
 |.ret t σ=>bif isN t then (match σ.self with
   |some p=>bif Nat.beq p.1 c then k (.obj c p.2) ⟨σ.spot,none⟩ else .bad
   |none=>.bad) else .bad
 |_=>.bad
@[reducible] noncomputable def qd (c f:Nat)(args:PL):PE:=fun cx ρ (σ:S5) k=>args cx ρ σ fun ts σ=>match σ.self with
 |some _=>.bad
 |none=>uc c (cx.call f (.self::ts) ⟨σ.spot,some (c,[])⟩) k
noncomputable def oN (ρ:aH)(i:Nat):Bool:=match bz ρ i with
 |some .spot=>true
 |_=>false
@[reducible] noncomputable def nG (i:Nat):PE:=fun _ ρ σ k=>gd (oN ρ i) (k (.int σ.spot) σ)
@[reducible] noncomputable def iV (i:Nat)(e:PE):PS:=fun cx ρ σ k=>e cx ρ σ fun v σ=>gd (oN ρ i) (match iH v with
 |some n=>k ρ ⟨n,σ.self⟩
 |none=>.bad)
@[reducible] noncomputable def lG (F G:T→T→Option Bool)(l m r:PE):PT:=fun c ρ σ k=>l c ρ σ fun a σ=>m c ρ σ fun b σ=>match F a b with
 |some true=>r c ρ σ fun x σ=>up (G b x) σ k
 |some false=>k false σ
 |none=>.bad
noncomputable def dW (a b:T):Option Bool:=(Ab a b).map (!·)
noncomputable def Cz (a b:T):Option Bool:=(ur a b).map (!·)
noncomputable def rG (a:T):Option T:=o1 (fR a) fun xs=>some (.lst xs.reverse)
noncomputable def gK:List T→Option (List Bool)
 | []=>some []
 |t::r=>o2 (Dq t) (gK r) fun b bs=>some (b::bs)
noncomputable def jn (f:Bool→Bool→Bool)(a b:T):Option T:=o2 (fR a) (fR b) fun xs ys=>o2 (gK xs) (gK ys) fun bs cs=>some (.lst ((List.zipWith f bs cs).map T.bool))
noncomputable def dn (a n c:Int):Option (List T):=bif (sm a&&sm n&&decide (c=-1))&&bU (cf a n (-1)).length then some (cf a n (-1)) else none
@[irreducible] noncomputable def BK:List T→Option (List T)
 | []=>none
 |m::r=>match r with
  | []=>none
  |n::r=>match r with
   | []=>none
   |l::r=>match r with
    | []=>o2 (iH m) (iH n) fun a b=>o1 (iH l) (dn a b)
    |_::_=>none
@[reducible] noncomputable def Cy (r:PL):PL:=p1 BK r
noncomputable def jC (ks:List T)(kn:T):List T→List (List T)→Option (List (List T))
 | [],ds=>some ds
 |o::r,ds=>o1 (kj ks o) fun i=>o1 i fun j=>o1 ds[j]? fun l=>bif bU (l.length+1) then jC ks kn r (ds.set j (l++[kn])) else none
noncomputable def qk (ks:List T)(th:T):List T→List (List T)→Option (List (List T))
 | [],ds=>some ds
 |kn::r,ds=>o1 (idxD th kn) fun l=>o1 (fR l) fun os=>o1 (jC ks kn os ds) fun ds=>qk ks th r ds
noncomputable def dY:List T→List T→Bool
 | [],_=>true
 |k::r,us=>match kj us k with
  |some none=>dY r (us++[k])
  |_=>false
theorem AZ {ks:List T}{kn o:T}{r:List T}{ds:List (List T)}:jC ks kn (o::r) ds=o1 (kj ks o) fun i=>o1 i fun j=>o1 ds[j]? fun l=>bif bU (l.length+1) then jC ks kn r (ds.set j (l++[kn])) else none:=rfl
theorem AY {ks:List T}{th kn:T}{r:List T}{ds:List (List T)}:qk ks th (kn::r) ds=o1 (idxD th kn) fun l=>o1 (fR l) fun os=>o1 (jC ks kn os ds) fun ds=>qk ks th r ds:=rfl
theorem lU {k:T}{r us:List T}:dY (k::r) us=(match kj us k with
  |some none=>dY r (us++[k])
  |_=>false):=rfl
noncomputable def wb (w:T):Option T:=o1 (mD 10 4 w) fun kl=>o1 (fR kl) fun ks=>o1 (mD 10 6 w) fun th=>bif bU ks.length&&dY ks [] then o1 (qk ks th ks (ks.map fun _=>[])) fun ds=>some (.dct ks (ds.map .lst)) else none
@[reducible] noncomputable def tL:PS:=fun _ ρ σ _=>match bz ρ 0 with
 |some w=>match wb w with
  |some t=>.ret t σ
  |none=>.bad
 |none=>.bad
@[reducible] noncomputable def iw:PO:=fun _ _ (σ:S5) k=>k none σ
@[reducible] noncomputable def zI (is:List Nat)(e:PE):PS:=fun c ρ (σ:S5) k=>e c ρ σ fun v σ=>up (o1 (pf v) fun ts=>dD is ts ρ) σ k
@[reducible] noncomputable def t8:PE:=fun _ _ (σ:S5) k=>k (.dct [] []) σ
@[reducible] noncomputable def oA (c i:Nat):PE:=fun _ ρ σ k=>up (dy c i ρ σ) σ k
@[reducible] noncomputable def AG (c i:Nat)(F:T→T→Option T)(q:PE):PE:=fun cx ρ σ k=>match dy c i ρ σ with
 |some t=>q cx ρ ⟨σ.spot,none⟩ fun s σ'=>up (F t s) ⟨σ'.spot,σ.self⟩ k
 |none=>.bad
@[reducible] noncomputable def qf (c i:Nat)(q:PE):PS:=fun cx ρ σ k=>match dy c i ρ σ with
 |some t=>gd (kT .list t) (q cx ρ ⟨σ.spot,none⟩ fun v σ'=>up (dK t v) ⟨σ'.spot,σ.self⟩ fun y σ=>k ρ (σ.fld i y))
 |none=>.bad
@[reducible] noncomputable def qe (c i:Nat)(q e:PE):PS:=fun cx ρ σ k=>e cx ρ σ fun v σ=>match dy c i ρ σ with
 |some t=>q cx ρ ⟨σ.spot,none⟩ fun κ σ'=>up (dP t κ v) ⟨σ'.spot,σ.self⟩ fun y σ=>k ρ (σ.fld i y)
 |none=>.bad
@[reducible] noncomputable def oB (c i:Nat)(zb:PB)(elt:PE):PE:=fun cx ρ σ k=>match o1 (dy c i ρ σ) fR with
 |some xs=>aY zb ay elt cx ρ xs ⟨σ.spot,none⟩ [] fun ys σ'=>k (.lst ys) ⟨σ'.spot,σ.self⟩
 |none=>.bad
end
end Mine
end
section
set_option tactic.hygienic false
set_option backward.eqns.nonrecursive false
namespace Mine
noncomputable section
open PySem
structure Pg where
 prog:Program
 w:World
 h₀:Heap
 cls:Nat→Addr
 Ψ:Nat→Option fN
 fnA:Nat→Addr
 fd:Nat→FuncData
 gl:Nat→Bool
 mg:Str→Option Value
 mb:Str→Option Value
noncomputable abbrev Pg.M (P:Pg):Model:=model P.prog P.w
noncomputable abbrev Pg.cx (P:Pg)(n:Nat):fT:=⟨ai P.Ψ n⟩
structure Gh where
 F:Addr→Prop
 Z:Addr→Prop
 o:Nat→Option Addr
 sp:Addr
 sa:Addr
noncomputable def Gh.O (g:Gh)(a:Addr):Prop:=∃i,g.o i=some a
noncomputable abbrev g8 (vs:Array Value)(n:Nat):Obj:=⟨.type "tuple",none,.seq vs n,#[]⟩
noncomputable abbrev bn (vs:Array Value)(n:Nat):Obj:=⟨.type "list",none,.seq vs n,#[]⟩
structure Db (P:Pg) (c:Nat) (dx:Addr) (o:Obj):Prop where
 cls:o.cls=.ref (P.cls c)
 dict:o.dict=some dx
 no:∀k,o.data≠.cls k
structure q6 (c:Nat) (m:Str→Option Value) (us:List Value):Prop where
 no:∀x,x∉bQ c→m x=none
 at_:∀(i:Nat) (x:Str) (u:Value),us[i]?=some u→(bQ c)[i]?=some x→m x=some u
structure EM (w:World) (ks:List T) (o:Obj) (es:List DictEntry):Prop where
 x:o.ExactDict
 d:∃ep,o.data=.dict es.toArray ep
 k:∃κ,eR ks=some κ∧es.map (·.hash)=κ.map (Ky.hash w)∧κ.Nodup
 l:ks.length≤lim
noncomputable def n5:List Int→List Value→Prop
 | [],vs=>vs=[]
 |i::is,vs=>∃t vs',vs=.int i t::vs'∧n5 is vs'
theorem an {h:Heap}{a:Addr}{o:Obj}(e:h.get? a=some o):h.get? a≠none:=fun q=>by rw [e] at q;cases q
inductive Fz (g:Gh) (O:Addr→Prop) (x:Value):Prop
 |mk (a:Addr) (e:x=.ref a) (f:g.F a) (o:O a)
inductive xG (h:Heap) (ob:Array Value→Nat→Obj) (R:List Value→Prop) (k:Nat) (a:Addr):Prop
 |mk (vs:Array Value) (n:Nat) (e:h.get? a=some (ob vs n)) (l:k≤lim) (r:R vs.toList)
inductive xT (P:Pg) (h:Heap) (us:List T) (R R':List Value→Prop) (a:Addr):Prop
 |mk (q:(a==sysModules)=false) (o:Obj) (es:List DictEntry) (e:h.get? a=some o) (d:EM P.w us o es) (r:R (es.map (·.key))) (r':R' (es.map (·.val)))
inductive dB (P:Pg) (h:Heap) (c:Nat) (m:Str→Option Value) (dx a:Addr):Prop
 |mk (o:Obj) (e:h.get? a=some o) (k:Db P c dx o) (n:h.Ns1 dx m) (ne:dx≠a)
inductive Dt (P:Pg) (g:Gh) (h:Heap) (c:Nat) (R:List Value→Prop) (a:Addr):Prop
 |mk (dx:Addr) (m:Str→Option Value) (us:List Value) (f:g.F dx) (i:dB P h c m dx a) (k:q6 c m us) (r:R us)
inductive EJ (P:Pg) (ns:List Int) (x:Value):Prop
 |mk (a:Addr) (items:Array Value) (e:x=.ref a) (l:P.h₀.IsList a items) (b:items.size≤lim) (r:n5 ns items.toList)
mutual
noncomputable def Rp (P:Pg)(g:Gh)(h:Heap):T→Value→Prop
 |.none,x=>x=.none
 |.bool b,x=>x=.bool b
 |.int i,x=>∃t,x=.int i t
 |.str s,x=>(PyData.strOk s=true∧s.length≤lim)∧∃t,x=.str s t
 |.scr ns,x=>EJ P ns x
 |.tup ts,x=>Fz g (xG h g8 (aP P g h ts) ts.length) x
 |.lst ts,x=>Fz g (xG h bn (aP P g h ts) ts.length) x
 |.dct us ts,x=>Fz g (xT P h us (aP P g h us) (aP P g h ts)) x
 |.obj c ts,x=>Fz g (Dt P g h c (aP P g h ts)) x
 |.spot,x=>x=.ref g.sp
 |.self,_=>False
termination_by structural t=>t
noncomputable def aP (P:Pg)(g:Gh)(h:Heap):List T→List Value→Prop
 | [],vs=>vs=[]
 |t::ts,vs=>∃v vs',vs=v::vs'∧Rp P g h t v∧aP P g h ts vs'
termination_by structural t=>t
end
noncomputable def gN (P:Pg)(g:Gh)(h:Heap)(a:Addr):T→Prop
 |.lst ts=>xG h bn (aP P g h ts) ts.length a
 |.dct us ts=>xT P h us (aP P g h us) (aP P g h ts) a
 |_=>False
section
variable {P:Pg} {g g':Gh} {h h':Heap}
structure aL (g:Gh) (h:Heap) (g':Gh) (h':Heap):Prop where
 F:∀a,g.F a→g'.F a∧∀o,h.get? a=some o→h'.get? a=some o
 sp:g'.sp=g.sp
theorem xG.mono {ob:Array Value→Nat→Obj}{R R':List Value→Prop}{k:Nat}{a:Addr}(r:xG h ob R k a)(ha:∀o,h.get? a=some o→h'.get? a=some o)(q:∀v,R v→R' v):xG h' ob R' k a:=let ⟨vs,n,e,l,r⟩:=r;⟨vs,n,ha _ e,l,q _ r⟩
theorem xT.mono {us:List T}{R R' S S':List Value→Prop}{a:Addr}(r:xT P h us R S a)(ha:∀o,h.get? a=some o→h'.get? a=some o)(q:∀v,R v→R' v)(q':∀v,S v→S' v):xT P h' us R' S' a:=let ⟨n,o,es,e,d,r,r'⟩:=r;⟨n,o,es,ha _ e,d,q _ r,q' _ r'⟩
theorem Fz.mono {O O':Addr→Prop}{x:Value}(k:aL g h g' h')(r:Fz g O x)(q:∀a,(∀o,h.get? a=some o→h'.get? a=some o)→O a→O' a):Fz g' O' x:=let ⟨a,e,f,o⟩:=r;⟨a,e,(k.F a f).1,q a (k.F a f).2 o⟩
theorem dB.mono {c:Nat}{m:Str→Option Value}{dx a:Addr}(i:dB P h c m dx a)(ha:∀o,h.get? a=some o→h'.get? a=some o)(hd:∀o,h.get? dx=some o→h'.get? dx=some o):dB P h' c m dx a:=let ⟨o,e,k,n,ne⟩:=i;⟨o,ha _ e,k,n.at hd,ne⟩
theorem Dt.mono {c:Nat}{R R':List Value→Prop}{a:Addr}(k:aL g h g' h')(r:Dt P g h c R a)(ha:∀o,h.get? a=some o→h'.get? a=some o)(q:∀v,R v→R' v):Dt P g' h' c R' a:=let ⟨dx,m,us,f,i,i',r⟩:=r;⟨dx,m,us,(k.F dx f).1,i.mono ha (k.F dx f).2,i',q _ r⟩
theorem Rp.both (k:aL g h g' h'):(∀t v,Rp P g h t v→Rp P g' h' t v)∧∀t v,aP P g h t v→aP P g' h' t v:=
 have n:∀v,aP P g h [] v→aP P g' h' [] v:=fun _ h=>h
 have c:∀(t:T) (ts:List T),(∀v,Rp P g h t v→Rp P g' h' t v)→(∀v,aP P g h ts v→aP P g' h' ts v)→∀v,aP P g h (t::ts) v→aP P g' h' (t::ts) v:=fun _ _ h h' _ ⟨v,vs,e,r,r'⟩=>⟨v,vs,e,h v r,h' vs r'⟩
 have a:∀t v,Rp P g h t v→Rp P g' h' t v:=fun t=>T.rec (motive_1:=fun t=>∀v,Rp P g h t v→Rp P g' h' t v) (motive_2:=fun t=>∀v,aP P g h t v→aP P g' h' t v)
  (fun _ h=>h) (fun _ _ h=>h) (fun _ _ h=>h) (fun _ _ h=>h) (fun _ ih _ r=>Fz.mono k r fun _ ha r=>r.mono ha ih) (fun _ ih _ r=>Fz.mono k r fun _ ha r=>r.mono ha ih)
  (fun _ _ i1 i2 _ r=>Fz.mono k r fun _ ha r=>r.mono ha i1 i2) (fun _ _ ih _ r=>Fz.mono k r fun _ ha r=>r.mono k ha ih)
  (fun _ _ h=>h) (fun v h=>(show v=_ from h).trans (congrArg Value.ref k.sp.symm)) (fun _ h=>h) n c t
 ⟨a,fun t=>List.rec n (fun t ts h=>c t ts (a t) h) t⟩
theorem Rp.mono (k:aL g h g' h'){t:T}{x:Value}(r:Rp P g h t x):Rp P g' h' t x:=(Rp.both k).1 t x r
theorem aP.mono (k:aL g h g' h'){t:List T}{x:List Value}(r:aP P g h t x):aP P g' h' t x:=(Rp.both k).2 t x r
theorem gN.case {a:Addr}{p:T→Prop}(h1:∀ts,gN P g h a (.lst ts)→p (.lst ts))(h2:∀us ts,gN P g h a (.dct us ts)→p (.dct us ts)):∀{t:T},gN P g h a t→p t
 |.lst ts,h=>h1 ts h
 |.dct us ts,h=>h2 us ts h
theorem gN.mono (k:aL g h g' h'){a:Addr}(ha:∀o,h.get? a=some o→h'.get? a=some o){t:T}(r:gN P g h a t):gN P g' h' a t:=
 r.case (p:=gN P g' h' a) (fun _ r=>xG.mono r ha fun _=>aP.mono k) fun _ _ r=>xT.mono r ha (fun _=>aP.mono k) fun _=>aP.mono k
theorem gN.rp {a:Addr}{t:T}(f:g.F a)(r:gN P g h a t):Rp P g h t (.ref a):=
 r.case (p:=fun t=>Rp P g h t (.ref a)) (fun _ h=>⟨a,rfl,f,h⟩) fun _ _ h=>⟨a,rfl,f,h⟩
theorem gN.live {a:Addr}{t:T}(r:gN P g h a t):h.get? a≠none:=
 r.case (p:=fun _=>h.get? a≠none) (fun _ r=>let ⟨_,_,e,_,_⟩:=r;an e) fun _ _ r=>let ⟨_,_,_,e,_,_,_⟩:=r;an e
theorem aP.nil:aP P g h [] []:=rfl
theorem aP.cons {v:Value}{t:T}{vs:List Value}{ts:List T}(q:Rp P g h t v)(r:aP P g h ts vs):aP P g h (t::ts) (v::vs):=⟨v,vs,rfl,q,r⟩
theorem aP.length {ts:List T}:∀{vs:List Value},aP P g h ts vs→vs.length=ts.length:=by
 induction ts with
 |nil=>exact fun h=>congrArg List.length h
 |cons t ts ih=>exact fun ⟨v,vs,e,_,r⟩=>e▸congrArg (·+1) (ih r)
theorem aP.append {ts':List T}{vs':List Value}(r':aP P g h ts' vs'){ts:List T}:∀{vs:List Value},aP P g h ts vs→aP P g h (ts++ts') (vs++vs'):=by
 induction ts with
 |nil=>exact fun h=>(show _=[] from h)▸r'
 |cons t ts ih=>exact fun ⟨v,vs,e,h,r⟩=>e▸aP.cons h (ih r)
theorem aP.get {ts:List T}:∀{vs:List Value},aP P g h ts vs→∀{i:Nat} {t:T},ts[i]?=some t→∃v,vs[i]?=some v∧Rp P g h t v:=by
 induction ts with
 |nil=>exact fun _ _ _ e=>nomatch e
 |cons t ts ih=>
  rintro _ ⟨v,vs,rfl,q,r⟩ i u e
  cases i with
  |zero=>exact ⟨v,rfl,Option.some.inj e▸q⟩
  |succ i=>exact ih r (i:=i) e
theorem aP.drop (n:Nat){ts:List T}:∀{vs:List Value},aP P g h ts vs→aP P g h (ts.drop n) (vs.drop n):=by
 induction n generalizing ts with
 |zero=>exact fun h=>h
 |succ n ih=>cases ts with
  |nil=>exact fun h=>(show _=[] from h)▸rfl
  |cons t ts=>exact fun ⟨v,vs,e,h,r⟩=>e▸ih r
theorem aP.take (n:Nat){ts:List T}:∀{vs:List Value},aP P g h ts vs→aP P g h (ts.take n) (vs.take n):=by
 induction n generalizing ts with
 |zero=>exact fun _=>rfl
 |succ n ih=>cases ts with
  |nil=>exact fun h=>(show _=[] from h)▸rfl
  |cons t ts=>exact fun ⟨v,vs,e,h,r⟩=>e▸aP.cons h (ih r)
theorem aP.set {v:Value}{t:T}(q:Rp P g h t v)(n:Nat){ts:List T}:∀{vs:List Value},aP P g h ts vs→aP P g h (ts.set n t) (vs.set n v):=by
 induction n generalizing ts with
 |zero=>cases ts with
  |nil=>exact fun h=>(show _=[] from h)▸rfl
  |cons t ts=>exact fun ⟨v,vs,e,h,r⟩=>e▸aP.cons q r
 |succ n ih=>cases ts with
  |nil=>exact fun h=>(show _=[] from h)▸rfl
  |cons t ts=>exact fun ⟨v,vs,e,h,r⟩=>e▸aP.cons h (ih r)
end
inductive iF (P:Pg) (g:Gh) (h:Heap) (c:Nat) (ts:List T):Prop
 |mk (dx:Addr) (m:Str→Option Value) (us:List Value) (i:dB P h c m dx g.sa) (z:g.Z g.sa) (z':g.Z dx) (ne:dx≠g.sp∧g.sa≠g.sp) (f:q6 c m us) (l:us.length=ts.length)
  (sh:∀(i:Nat) (u:Value) (t:T),us[i]?=some u→ts[i]?=some t→gz c i=false→Rp P g h t u)
  (ow:∀(i:Nat) (u:Value) (t:T),us[i]?=some u→ts[i]?=some t→gz c i=true→∃a,u=.ref a∧g.Z a∧(a≠dx∧a≠g.sa∧a≠g.sp)∧gN P g h a t)
  (nn:∀(i j:Nat) (a:Addr),us[i]?=some (.ref a)→us[j]?=some (.ref a)→gz c i=true→gz c j=true→i=j)
structure bp (P:Pg) (g:Gh) (h:Heap) (σ:Sg):Prop where
 base:∀a o,P.h₀.get? a=some o→g.F a∧h.get? a=some o
 F:∀a,g.F a→h.get? a≠none
 Z:∀a,g.Z a→h.get? a≠none∧¬g.F a
 O:∀a,g.O a→h.get? a≠none∧¬g.F a∧¬g.Z a
 oo:∀i j a,g.o i=some a→g.o j=some a→i=j
 spot:(∃t n,h.get? g.sp=some (bn #[.int σ.spot t] n))∧g.Z g.sp∧(σ.self=none→∀a,g.Z a→a=g.sp)
 self:∀c ts,σ.self=some (c,ts)→iF P g h c ts
structure aC (g:Gh) (s:Shared) (g':Gh) (s':Shared):Prop where
 st:∃h' tk,s'={s with heap:=h',toks:=tk}
 keep:∀a o,s.heap.get? a=some o→¬g.Z a→s'.heap.get? a=some o
 back:∀a,s'.heap.get? a=none→s.heap.get? a=none
 F:∀a,g.F a→g'.F a
 Fn:∀a,g'.F a→g.F a∨s.heap.get? a=none
 Zn:∀a,g'.Z a→g.Z a∨s.heap.get? a=none
 o:g'.o=g.o
 sp:g'.sp=g.sp
 sa:g'.sa=g.sa
theorem St.trans {s s₁ s₂:Shared}(p:∃h' tk,s₁={s with heap:=h',toks:=tk})(q:∃h' tk,s₂={s₁ with heap:=h',toks:=tk}):∃h' tk,s₂={s with heap:=h',toks:=tk}:=
 let ⟨_,_,e⟩:=p;let ⟨h,t,e'⟩:=q;⟨h,t,by rw [e',e]⟩
theorem aC.refl (g:Gh)(s:Shared):aC g s g s:=⟨⟨s.heap,s.toks,rfl⟩,fun _ _ e _=>e,fun _ e=>e,fun _ h=>h,fun _ h=>.inl h,fun _ h=>.inl h,rfl,rfl,rfl⟩
theorem aC.trans {g g₁ g₂:Gh}{s s₁ s₂:Shared}(p:aC g s g₁ s₁)(q:aC g₁ s₁ g₂ s₂):aC g s g₂ s₂:=
 ⟨St.trans p.st q.st,fun a o e n=>q.keep a o (p.keep a o e n) fun z=>(p.Zn a z).elim n fun z=>(an e z).elim,fun a e=>p.back a (q.back a e),fun a f=>q.F a (p.F a f),
  fun a f=>(q.Fn a f).elim (p.Fn a) fun e=>.inr (p.back a e),fun a f=>(q.Zn a f).elim (p.Zn a) fun e=>.inr (p.back a e),q.o.trans p.o,q.sp.trans p.sp,q.sa.trans p.sa⟩
theorem aC.toks (g:Gh)(s:Shared)(t:Nat):aC g s g {s with toks:=t}:=⟨⟨s.heap,t,rfl⟩,fun _ _ e _=>e,fun _ e=>e,fun _ h=>h,fun _ h=>.inl h,fun _ h=>.inl h,rfl,rfl,rfl⟩
theorem aC.k {P:Pg}{g g':Gh}{s s':Shared}{σ:Sg}(p:aC g s g' s')(w:bp P g s.heap σ):aL g s.heap g' s'.heap:=
 ⟨fun a f=>⟨p.F a f,fun o e=>p.keep a o e fun z=>(w.Z a z).2 f⟩,p.sp⟩
theorem iF.mono' {P:Pg}{g g':Gh}{h h':Heap}{c:Nat}{ts:List T}(k:aL g h g' h')(z:∀a,a≠g.sp→g.Z a→g'.Z a∧∀o,h.get? a=some o→h'.get? a=some o)(hs:g'.sa=g.sa)(s:iF P g h c ts):iF P g' h' c ts:=by
 obtain ⟨dx,m,us,i,z1,z2,ne,f,l,sh,ow,nn⟩:=s
 have hp:=k.sp
 have a1:=z _ ne.2 z1
 have a2:=z _ ne.1 z2
 refine ⟨dx,m,us,hs▸i.mono a1.2 a2.2,hs▸a1.1,a2.1,hs▸hp▸ne,f,l,fun j u t h1 h2 h3=>(sh j u t h1 h2 h3).mono k,fun j u t h1 h2 h3=>?_,nn⟩
 obtain ⟨a,h4,h5,h6,h7⟩:=ow j u t h1 h2 h3
 have a3:=z _ h6.2.2 h5
 exact ⟨a,h4,a3.1,hs▸hp▸h6,h7.mono k a3.2⟩
theorem iF.mono {P:Pg}{g g':Gh}{h h':Heap}{c:Nat}{ts:List T}(k:aL g h g' h')(z:∀a,g.Z a→g'.Z a∧∀o,h.get? a=some o→h'.get? a=some o)(hs:g'.sa=g.sa)(s:iF P g h c ts):iF P g' h' c ts:=s.mono' k (fun a _=>z a) hs
theorem bp.grow {P:Pg}{g:Gh}{h h':Heap}{σ:Sg}(w:bp P g h σ)(k:∀a o,h.get? a=some o→h'.get? a=some o)(F:Addr→Prop)(hF:∀a,g.F a→F a)(hn:∀a,F a→g.F a∨(h.get? a=none∧h'.get? a≠none)):bp P {g with F:=F} h' σ:=by
 have lv:∀a,h.get? a≠none→h'.get? a≠none:=fun a n q=>by
  cases e:h.get? a with
  |none=>exact n e
  |some o=>rw [k a o e] at q;cases q
 have kf:aL g h {g with F:=F} h':=⟨fun a f=>⟨hF a f,k a⟩,rfl⟩
 have nf:∀a,h.get? a≠none→¬g.F a→¬F a:=fun a l n q=>(hn a q).elim n fun q=>l q.1
 exact ⟨fun a o e=>⟨hF a (w.base a o e).1,k a o (w.base a o e).2⟩,fun a f=>(hn a f).elim (fun f=>lv a (w.F a f)) (·.2),fun a z=>⟨lv a (w.Z a z).1,nf a (w.Z a z).1 (w.Z a z).2⟩,
  fun a z=>⟨lv a (w.O a z).1,nf a (w.O a z).1 (w.O a z).2.1,(w.O a z).2.2⟩,w.oo,⟨let ⟨t,n,e⟩:=w.spot.1;⟨t,n,k _ _ e⟩,w.spot.2⟩,fun c ts e=>(w.self c ts e).mono kf (fun a z=>⟨z,k a⟩) rfl⟩
theorem aC.grow {g:Gh}{s:Shared}{h':Heap}(t:Nat)(k:∀a o,s.heap.get? a=some o→h'.get? a=some o)(F:Addr→Prop)(hF:∀a,g.F a→F a)(hn:∀a,F a→g.F a∨s.heap.get? a=none):aC g s {g with F:=F} {s with heap:=h',toks:=t}:=
 ⟨⟨h',t,rfl⟩,fun a o e _=>k a o e,fun a e=>by
  cases q:s.heap.get? a with
  |none=>rfl
  |some o=>exact (an (k a o q) e).elim,hF,hn,fun _ h=>.inl h,rfl,rfl,rfl⟩
theorem bp.toks {P:Pg}{g:Gh}{s:Shared}{σ:Sg}(w:bp P g s.heap σ)(t:Nat):bp P g ({s with toks:=t}:Shared).heap σ:=w
theorem aD (h:Heap):h.get? h.objs.size=none:=by
 cases e:h.get? h.objs.size with
 |none=>rfl
 |some o=>exact absurd (Heap.lt_size e) (Nat.lt_irrefl _)
end
end Mine
namespace Mine
noncomputable section
open PySem PyProof.Rows
noncomputable def iC:List Str:=["len","isinstance","list","tuple","str","int","bool","range","zip","enumerate","any","all","max","sorted","dict","set","ValueError"]
structure q7 (P:Pg):Prop where
 g:P.h₀.Ns mainGlobals P.mg
 b:P.h₀.Ns builtinsNs P.mb
 nolimit:P.h₀.NoLimit
 fn:∀f F,P.Ψ f=some F→∃o,P.h₀.get? (P.fnA f)=some o∧o.data=.func (P.fd f)∧(P.gl f=true→P.mg (P.fd f).name=some (.ref (P.fnA f)))∧P.h₀.CodeRec (P.fd f).code (P.fd f).qualname∧
  (P.fd f).closure=[]∧(P.fd f).globals=mainGlobals∧(P.fd f).builtins=builtinsNs
 blt:∀x∈iC,P.mg x=none∧P.mb x=bootBuiltins x
structure bx where
 sc:Scope
 tab:List (Option (Str×NameKind))
noncomputable def bx.ok (B:bx):Bool:=B.sc.kind==.function&&(B.tab.all fun
  |some (x,k)=>B.sc.names.lookup x==some k&&(k==.local||k==.cell||k==.free)&&!(x==("__debug__":Str))&&!(x==("__classdict__":Str))
  |none=>true)&&decide ((B.tab.filterMap (·.map (·.1))).Nodup)
structure Ct where
 O:List Nat
 U:List Nat
 m:Bool
noncomputable def bj (C:Ct)(i:Nat):Bool:=C.O.any (Nat.beq i)
inductive Fc (P:Pg) (g:Gh) (h:Heap) (i:Nat) (t:T) (u:Value):Prop
 |mk (a:Addr) (e:u=.ref a) (o:g.o i=some a) (r:gN P g h a t)
noncomputable def br (P:Pg)(C:Ct)(g:Gh)(h:Heap)(i:Nat)(t:T)(u:Value):Prop:=match bj C i with
 |true=>Fc P g h i t u
 |false=>Rp P g h t u∨(C.m=true∧i=0∧t=.self∧u=.ref g.sa)
inductive cH (B:bx) (env:Env) (h:Heap) (i:Nat) (u:Value):Prop
 |loc (x:Str) (m:Str→Option Value) (t:B.tab[i]?=some (some (x,.local))) (n:h.Ns env.locals m) (e:m x=some u)
 |cel (x:Str) (k:NameKind) (c:Addr) (t:B.tab[i]?=some (some (x,k))) (hk:k=.cell∨k=.free) (l:env.cells.lookup x=some c) (n:h.IsCell c (some u))
noncomputable def own (env:Env):List Addr:=env.locals::env.cells.map (·.2)
structure bV (P:Pg) (B:bx) (C:Ct) (env:Env) (g:Gh) (ρ:aH) (h:Heap):Prop where
 ok:B.ok=true
 sc:env.scope=B.sc
 glob:env.globals=mainGlobals
 blt:env.builtins=builtinsNs
 ns:∃m,h.Ns env.locals m
 cell:∀(i:Nat) (x:Str) (k:NameKind),B.tab[i]?=some (some (x,k))→k=.cell∨k=.free→∃c u,env.cells.lookup x=some c∧h.IsCell c u
 apart:∀x y c,env.cells.lookup x=some c→env.cells.lookup y=some c→x=y
 own:∀a∈own env,h.get? a≠none∧¬g.F a∧¬g.Z a∧¬g.O a
 var:∀i y t,B.tab[i]?=some (some y)→bz ρ i=some t→∃u,cH B env h i u∧br P C g h i t u
 un:∀i∈C.U,bz ρ i=none
noncomputable def zC (A:Around)(n:Nat):Prop:=A.depth+2 * n+10 < recursionLimit∧A.units+20 * n+200 < cLine∧A.handled=none
noncomputable def mP (A:Around)(n:Nat):Prop:=A.depth+2 * n+9 < recursionLimit∧A.units+20 * n+190 < cLine∧A.handled=none
theorem zC.c {A:Around}{n:Nat}(h:zC A n):mP A n:=⟨Nat.lt_of_succ_lt h.1,Nat.lt_of_le_of_lt (Nat.add_le_add_left (by decide) _) h.2.1,h.2.2⟩
inductive zE (P:Pg) (h:Heap) (g':Gh) (h':Heap) (t:T) (x:Value):Prop
 |mk (a:Addr) (e:x=.ref a) (n:h.get? a=none) (f:¬g'.F a) (z:¬g'.Z a) (o:¬g'.O a) (r:gN P g' h' a t)
noncomputable def Aq (P:Pg)(fr:Bool)(h:Heap)(g':Gh)(h':Heap)(t:T)(x:Value):Prop:=match fr with
 |false=>Rp P g' h' t x
 |true=>zE P h g' h' t x
noncomputable def Args (P:Pg)(m:Bool)(g:Gh)(h:Heap)(ts:List T)(vs:List Value):Prop:=match m with
 |false=>aP P g h ts vs
 |true=>∃v vs' t ts',vs=v::vs'∧ts=t::ts'∧(Rp P g h t v∨(t=.self∧v=.ref g.sa))∧aP P g h ts' vs'
noncomputable def py (P:Pg)(n:Nat):Prop:=
 ∀f A ts vs g σ s t σ' (Q:Value→Shared→Prop) (E:Value→Shared→Prop),mP A n→bp P g s.heap σ→Args P (rh f) g s.heap ts vs→ai P.Ψ n f ts σ=.ret t σ'→
  (∀x s' g',aC g s g' s'→bp P g' s'.heap σ'→Aq P (kh f) s.heap g' s'.heap t x→Q x s')→
  codeAny P.M A (.call (.ref (P.fnA f)) ⟨vs,[]⟩) (fun r s'=>match r with
   |.ok (.ret x)=>Q x s'
   |.ok _=>False
   |.error x=>E x s') s
structure At (P:Pg) (B:bx) (C:Ct) (n:Nat) (A:Around) (env:Env) (g:Gh) (ρ:aH) (σ:Sg) (s:Shared):Prop where
 good:q7 P
 call:∀k,k≤n→py P k
 room:zC A n
 env:bV P B C env g ρ s.heap
 g:bp P g s.heap σ
noncomputable abbrev WP (α:Type):=Around→Env→(α→Shared→Prop)→(Value→Shared→Prop)→Shared→Prop
noncomputable abbrev RR (α β:Type):=Heap→Gh→Heap→β→α→Prop
noncomputable def cX (P:Pg)(B:bx)(C:Ct){α β:Type}(W:WP α)(p:PG β)(R:RR α β):Prop:=
 ∀n A env g ρ σ s (k:PK β) (Q:α→Shared→Prop) (E:Value→Shared→Prop),At P B C n A env g ρ σ s→p (P.cx n) ρ σ k≠.bad→
  (∀x s' g' t σ',p (P.cx n) ρ σ k=k t σ'→aC g s g' s'→bp P g' s'.heap σ'→R s.heap g' s'.heap t x→Q x s')→W A env Q E s
noncomputable abbrev Pg.W (P:Pg){α:Type}(c:Env→Sem α):WP α:=fun A env Q E s=>wpAny P.M A (c env) Q E s
noncomputable abbrev RV (P:Pg):RR Value T:=fun _ g h t x=>Rp P g h t x
noncomputable abbrev RN (P:Pg):RR Value T:=fun h₀ g h t x=>zE P h₀ g h t x
noncomputable def jQ (P:Pg)(g:Gh)(h:Heap)(t:T)(x:Value):Prop:=Rp P g h t x∨∃a,x=.ref a∧(g.O a∨¬g.Z a)∧gN P g h a t
noncomputable abbrev RX (P:Pg):RR Value T:=fun _ g h t x=>jQ P g h t x
noncomputable abbrev RL (P:Pg):RR (List Value) (List T):=fun _ g h t x=>aP P g h t x
noncomputable abbrev RQ {α:Type}:RR α α:=fun _ _ _ t x=>t=x
noncomputable abbrev am (P:Pg)(B:bx)(C:Ct)(e:Expr)(p:PE)(R:RR Value T):Prop:=cX P B C (P.W fun env=>eval e env) p R
noncomputable abbrev cb (P:Pg)(B:bx)(C:Ct)(e:Expr)(p:PT):Prop:=cX P B C (P.W fun env=>isTrue e env (eval e env)) p RQ
structure fS (P:Pg) (B:bx) (C:Ct) (es:List Expr) (p:PL):Prop where
 pl:∀env,∀q∈starEach es env,q.1=false
 sim:∀pos,cX P B C (P.W fun env=>spliced (backTo pos (starEach es env))) p (RL P)
section
variable {P:Pg} {B:bx} {C:Ct} {n:Nat} {A:Around} {env:Env} {g g':Gh} {ρ:aH} {σ σ':Sg} {s s':Shared} {h h':Heap} {t:T} {x:Value}
theorem bh {l:List (Str×Addr)}{x:Str}{c:Addr}(h:l.lookup x=some c):c∈l.map (·.2):=by
 induction l with
 |nil=>cases h
 |cons p r ih=>
  obtain ⟨y,d⟩:=p
  rw [List.lookup_cons] at h
  split at h
  ·cases h;exact List.mem_cons_self
  ·exact List.mem_cons_of_mem _ (ih h)
theorem cH.move {i:Nat}{u:Value}(k:∀a∈Mine.own env,∀o,h.get? a=some o→h'.get? a=some o)(v:cH B env h i u):cH B env h' i u:=by
 cases v with
 |loc x m t n e=>exact .loc x m t (n.at (k _ List.mem_cons_self)) e
 |cel x kk c t hk l n=>
  obtain ⟨o,e,d⟩:=n
  exact .cel x kk c t hk l ⟨o,k c (List.mem_cons_of_mem _ (bh l)) o e,d⟩
theorem br.move {i:Nat}{u:Value}(k:aL g h g' h')(eo:g'.o=g.o)(es:g'.sa=g.sa)(ko:∀a,g.O a→∀o,h.get? a=some o→h'.get? a=some o)(v:br P C g h i t u):br P C g' h' i t u:=by
 unfold br at *
 cases q:bj C i with
 |true=>rw [q] at v;exact let ⟨a,e,o,r⟩:=v;⟨a,e,eo▸o,r.mono k (ko a ⟨i,o⟩)⟩
 |false=>rw [q] at v;exact v.imp (·.mono k) fun ⟨a,b,c,d⟩=>⟨a,b,c,es▸d⟩
theorem bV.move (x:bV P B C env g ρ h)(k:aL g h g' h')(eo:g'.o=g.o)(es:g'.sa=g.sa)(ko:∀a,g.O a∨a∈Mine.own env→∀o,h.get? a=some o→h'.get? a=some o)(lv:∀a∈Mine.own env,h'.get? a≠none∧¬g'.F a∧¬g'.Z a):bV P B C env g' ρ h':=
 {x with
  ns:=let ⟨m,n⟩:=x.ns;⟨m,n.at (ko _ (.inr List.mem_cons_self))⟩
  cell:=fun i y kk ht hk=>let ⟨c,u,l,o,e,d⟩:=x.cell i y kk ht hk;⟨c,u,l,o,ko c (.inr (List.mem_cons_of_mem _ (bh l))) o e,d⟩
  own:=fun a ha=>⟨(lv a ha).1,(lv a ha).2.1,(lv a ha).2.2,fun ⟨i,q⟩=>(x.own a ha).2.2.2 ⟨i,eo▸q⟩⟩
  var:=fun i y t ht hv=>let ⟨u,v,w⟩:=x.var i y t ht hv;⟨u,v.move fun a ha=>ko a (.inr ha),w.move k eo es fun a ha=>ko a (.inl ha)⟩}
theorem aC.live (p:aC g s g' s'){a:Addr}(l:s.heap.get? a≠none):s'.heap.get? a≠none:=fun q=>l (p.back a q)
theorem bV.post (x:bV P B C env g ρ s.heap)(w:bp P g s.heap σ)(p:aC g s g' s'):bV P B C env g' ρ s'.heap:=
 x.move (p.k w) p.o p.sa (fun a ha o e=>p.keep a o e (ha.elim (fun q=>(w.O a q).2.2) fun q=>(x.own a q).2.2.1)) fun a ha=>let ⟨l,f,z,_⟩:=x.own a ha;⟨p.live l,fun q=>(p.Fn a q).elim f l,fun q=>(p.Zn a q).elim z l⟩
theorem At.post (X:At P B C n A env g ρ σ s)(p:aC g s g' s')(w:bp P g' s'.heap σ'):At P B C n A env g' ρ σ' s':=⟨X.good,X.call,X.room,X.env.post X.g p,w⟩
theorem At.units (X:At P B C n A env g ρ σ s):A.units+200 < cLine:=Nat.lt_of_le_of_lt (Nat.add_le_add_right (Nat.le_add_right _ _) _) X.room.2.1
theorem At.depth (X:At P B C n A env g ρ σ s):A.depth+10 < recursionLimit:=Nat.lt_of_le_of_lt (Nat.add_le_add_right (Nat.le_add_right _ _) _) X.room.1
theorem jQ.post (w:bp P g s.heap σ)(p:aC g s g' s')(r:jQ P g s.heap t x):jQ P g' s'.heap t x:=
 r.imp (·.mono (p.k w)) fun ⟨a,e,q,r⟩=>⟨a,e,q.imp (fun ⟨i,q⟩=>⟨i,p.o▸q⟩) fun z q=>(p.Zn a q).elim z r.live,r.mono (p.k w) fun o e=>p.keep a o e (q.elim (fun q=>(w.O a q).2.2) id)⟩
theorem cX.map {α β:Type}{W W':WP α}{p:PG β}{R:RR α β}(h:cX P B C W p R)(hW:∀A env Q E s,W A env Q E s→W' A env Q E s):cX P B C W' p R:=fun n A env g ρ σ s k Q E X hb hq=>hW A env Q E s (h n A env g ρ σ s k Q E X hb hq)
theorem cX.weak {α β:Type}{W:WP α}{p:PG β}{R R':RR α β}(h:cX P B C W p R)(hR:∀h g h' t x,R h g h' t x→R' h g h' t x):cX P B C W p R':=fun n A env g ρ σ s k Q E X hb hq=>h n A env g ρ σ s k Q E X hb fun x s' g' t σ' e p w r=>hq x s' g' t σ' e p w (hR _ _ _ _ _ r)
theorem cX.vx {W:WP Value}{p:PE}(h:cX P B C W p (RV P)):cX P B C W p (RX P):=h.weak fun _ _ _ _ _ r=>.inl r
theorem cX.nx {W:WP Value}{p:PE}(h:cX P B C W p (RN P)):cX P B C W p (RX P):=h.weak fun _ _ _ _ _ r=>let ⟨a,e,_,_,z,_,r⟩:=r;.inr ⟨a,e,.inr z,r⟩
theorem bp.freeze {a:Addr}(w:bp P g h σ)(l:h.get? a≠none)(z:¬g.Z a)(o:¬g.O a):bp P {g with F:=fun y=>g.F y∨y=a} h σ:=by
 have kf:aL g h {g with F:=fun y=>g.F y∨y=a} h:=⟨fun b f=>⟨.inl f,fun _ e=>e⟩,rfl⟩
 exact ⟨fun b o e=>⟨.inl (w.base b o e).1,(w.base b o e).2⟩,fun b f=>f.elim (w.F b) fun q=>q▸l,fun b q=>⟨(w.Z b q).1,fun f=>f.elim (w.Z b q).2 fun e=>z (e▸q)⟩,
  fun b q=>⟨(w.O b q).1,fun f=>f.elim (w.O b q).2.1 fun e=>o (e▸q),(w.O b q).2.2⟩,w.oo,w.spot,fun c ts e=>(w.self c ts e).mono kf (fun _ q=>⟨q,fun _ e=>e⟩) rfl⟩
theorem cX.nv {W:WP Value}{p:PE}(h:cX P B C W p (RN P)):cX P B C W p (RV P):=fun n A env g ρ σ s k Q E X hb hq=>h n A env g ρ σ s k Q E X hb fun x s' g' t σ' e p w r=>by
 obtain ⟨a,rfl,n,f,z,o,r⟩:=r
 have kf:aL g' s'.heap {g' with F:=fun y=>g'.F y∨y=a} s'.heap:=⟨fun b f=>⟨.inl f,fun _ e=>e⟩,rfl⟩
 exact hq _ s' {g' with F:=fun y=>g'.F y∨y=a} t σ' e ⟨p.st,p.keep,p.back,fun b f=>.inl (p.F b f),fun b f=>f.elim (p.Fn b) fun e=>.inr (e▸n),p.Zn,p.o,p.sp,p.sa⟩ (w.freeze r.live z o) ((r.mono kf fun _ e=>e).rp (.inr rfl))
theorem cX.now {α β:Type}{W:WP α}{p:PG β}{R:RR α β}(h:∀n A env g ρ σ s (k:PK β) (Q:α→Shared→Prop) (E:Value→Shared→Prop),At P B C n A env g ρ σ s→p (P.cx n) ρ σ k≠.bad→(∀x t tk,p (P.cx n) ρ σ k=k t σ→R s.heap g s.heap t x→Q x {s with toks:=tk})→W A env Q E s):cX P B C W p R:=
 fun n A env g ρ σ s k Q E X hb hq=>h n A env g ρ σ s k Q E X hb fun x t tk e r=>hq x _ g t σ e (.toks g s tk) X.g r
end
noncomputable def Dn {α β:Type}(R:RR α β):Prop:=∀h h₁ g h' t x,(∀a,h₁.get? a=none→h.get? a=none)→R h₁ g h' t x→R h g h' t x
section
variable {P:Pg} {B:bx} {C:Ct}
theorem j2:Dn (RV P):=fun _ _ _ _ _ _ _ r=>r
theorem Fh:Dn (RX P):=fun _ _ _ _ _ _ _ r=>r
theorem E9:Dn (RL P):=fun _ _ _ _ _ _ _ r=>r
theorem BL {α:Type}:Dn (RQ (α:=α)):=fun _ _ _ _ _ _ _ r=>r
theorem CO:Dn (RN P):=fun _ _ _ _ _ _ b r=>let ⟨a,e,n,f,z,o,r⟩:=r;⟨a,e,b a n,f,z,o,r⟩
theorem cX.bind {α β γ δ:Type}{W:WP α}{p:PG β}{R:RR α β}{N:Around→Env→α→(γ→Shared→Prop)→(Value→Shared→Prop)→Shared→Prop}{F:fT→aH→PK δ→PK β}{R':RR γ δ}(h:cX P B C W p R)(hd:Dn R')
  (hf:∀n A env g g₁ ρ σ s s₁ x t (k:PK δ) Q E,aC g s g₁ s₁→At P B C n A env g₁ ρ σ s₁→R s.heap g₁ s₁.heap t x→F (P.cx n) ρ k t σ≠.bad→
   (∀y s' g' u σ',F (P.cx n) ρ k t σ=k u σ'→aC g₁ s₁ g' s'→bp P g' s'.heap σ'→R' s₁.heap g' s'.heap u y→Q y s')→N A env x Q E s₁):
  cX P B C (fun A env Q E s=>W A env (fun x s₁=>N A env x Q E s₁) E s) (fun c ρ σ k=>p c ρ σ (F c ρ k)) R':=fun n A env g ρ σ s k Q E X hb hq=>
 h n A env g ρ σ s (F _ ρ k) _ E X hb fun x s₁ g₁ t σ₁ e p w r=>hf n A env g g₁ ρ σ₁ s s₁ x t k Q E p (X.post p w) r (fun q=>hb (e.trans q)) fun y s' g' u σ' e' p' w' r'=>hq y s' g' u σ' (e.trans e') (p.trans p') w' (hd _ _ _ _ _ _ p.back r')
theorem bS {α:Type}{o:Option α}{σ:Sg}{k:PK α}(h:up o σ k≠.bad):∃a,o=some a:=by
 cases o with
 |none=>exact absurd rfl h
 |some a=>exact ⟨a,rfl⟩
noncomputable def eO (P:Pg)(g:Gh)(h:Heap)(t:T)(x:Value):Prop:=Rp P g h t x∨∃a,x=.ref a∧gN P g h a t
theorem jQ.y {g:Gh}{h:Heap}{t:T}{x:Value}(r:jQ P g h t x):eO P g h t x:=r.imp id fun ⟨a,e,_,r⟩=>⟨a,e,r⟩
noncomputable abbrev RY (P:Pg):RR Value T:=fun _ g h t x=>eO P g h t x
theorem cX.xy {W:WP Value}{p:PE}(h:cX P B C W p (RX P)):cX P B C W p (RY P):=h.weak fun _ _ _ _ _=>jQ.y
structure Rm (A:Around):Prop where
 units:A.units+200 < cLine
 handled:A.handled=none
 depth:A.depth+10 < recursionLimit
theorem At.rm {n:Nat}{A:Around}{env:Env}{g:Gh}{ρ:aH}{σ:Sg}{s:Shared}(X:At P B C n A env g ρ σ s):Rm A:=⟨X.units,X.room.2.2,X.depth⟩
noncomputable abbrev W1 (γ:Type):=Around→Env→Value→(γ→Shared→Prop)→(Value→Shared→Prop)→Shared→Prop
noncomputable abbrev W2 (γ:Type):=Around→Env→Value→Value→(γ→Shared→Prop)→(Value→Shared→Prop)→Shared→Prop
noncomputable def xR (P:Pg){γ δ:Type}(N:W1 γ)(F:T→Option δ)(R:RR γ δ):Prop:=
 ∀A env g σ s x t y Q E,Rm A→bp P g s.heap σ→eO P g s.heap t x→F t=some y→(∀u s' g',aC g s g' s'→bp P g' s'.heap σ→R s.heap g' s'.heap y u→Q u s')→N A env x Q E s
noncomputable def pE (P:Pg){γ δ:Type}(N:W2 γ)(F:T→T→Option δ)(R:RR γ δ):Prop:=
 ∀A env g σ s x x' t t' y Q E,Rm A→bp P g s.heap σ→eO P g s.heap t x→eO P g s.heap t' x'→F t t'=some y→(∀u s' g',aC g s g' s'→bp P g' s'.heap σ→R s.heap g' s'.heap y u→Q u s')→N A env x x' Q E s
theorem cX.op1 {γ δ:Type}{W:WP Value}{p:PE}{N:W1 γ}{F:T→Option δ}{R:RR γ δ}(h:cX P B C W p (RY P))(hd:Dn R)(o:xR P N F R):cX P B C (fun A env Q E s=>W A env (fun x s₁=>N A env x Q E s₁) E s) (p1 F p) R:=
 h.bind (F:=fun _ _ k t σ=>up (F t) σ k) hd fun n A env g g₁ ρ σ s s₁ x t k Q E p X r hb hq=>by
  obtain ⟨y,e⟩:=bS hb
  exact o A env g₁ σ s₁ x t y Q E X.rm X.g r e fun u s' g' p w r=>hq u s' g' y σ (by rw [e];rfl) p w r
theorem cX.op2 {γ δ:Type}{W W':WP Value}{p p':PE}{N:W2 γ}{F:T→T→Option δ}{R:RR γ δ}(h:cX P B C W p (RX P))(h':cX P B C W' p' (RY P))(hd:Dn R)(o:pE P N F R):
  cX P B C (fun A env Q E s=>W A env (fun x s₁=>W' A env (fun y s₂=>N A env x y Q E s₂) E s₁) E s) (p2 F p p') R:=
 h.bind (N:=fun A env x Q E s₁=>W' A env (fun y s₂=>N A env x y Q E s₂) E s₁) (F:=fun c ρ k a σ=>p' c ρ σ fun b σ=>up (F a b) σ k) hd fun n A env g g₁ ρ σ s s₁ x t k Q E p X r hb hq=>
  h' n A env g₁ ρ σ s₁ _ _ E X hb fun x' s₂ g₂ t' σ₂ e p₂ w₂ r₂=>by
   obtain ⟨y,e'⟩:=bS fun q=>hb (e.trans q)
   exact o A env g₂ σ₂ s₂ x x' t t' y Q E X.rm w₂ (jQ.post X.g p₂ r).y r₂ e' fun u s' g' p w r=>hq u s' g' y σ₂ (e.trans (by rw [e'];rfl)) (p₂.trans p) w (hd _ _ _ _ _ _ p₂.back r)
theorem am.none {k pos}:am P B C (.Constant .none k pos) (pC .none) (RV P):=.now fun _ _ _ _ _ _ _ _ _ _ _ _ hq=>wpAny_Constant_none (hq _ _ _ rfl rfl)
theorem am.bool {b k pos}:am P B C (.Constant (.bool b) k pos) (pC (.bool b)) (RV P):=.now fun _ _ _ _ _ _ _ _ _ _ _ _ hq=>wpAny_Constant_bool (hq _ _ _ rfl rfl)
theorem am.int {i k pos}:am P B C (.Constant (.int i) k pos) (pC (.int i)) (RV P):=.now fun _ _ _ _ _ _ _ _ _ _ _ _ hq=>wpAny_Constant_int (hq _ _ _ rfl ⟨_,rfl⟩)
theorem am.str {y k pos}(h:(PyData.strOk y&&decide (y.length≤lim))=true):am P B C (.Constant (.str y) k pos) (pC (.str y)) (RV P):=.now fun _ _ _ _ _ _ _ _ _ _ _ _ hq=>
 have h':=Bool.and_eq_true_iff.mp h
 wpAny_Constant_str (hq _ _ _ rfl ⟨⟨h'.1,of_decide_eq_true h'.2⟩,_,rfl⟩)
theorem bx.look {B:bx}(h:B.ok=true){i:Nat}{x:Str}{k:NameKind}(ht:B.tab[i]?=some (some (x,k))):
  B.sc.kind=.function∧B.sc.names.lookup x=some k∧(k=.local∨k=.cell∨k=.free)∧(x==("__debug__":Str))=false∧(x==("__classdict__":Str))=false:=by
 simp only [bx.ok,Bool.and_eq_true,beq_iff_eq] at h
 have:=List.all_eq_true.mp h.1.2 _ (List.mem_of_getElem? ht)
 simp only [Bool.and_eq_true,beq_iff_eq,Bool.or_eq_true,Bool.not_eq_true'] at this
 exact ⟨h.1.1,this.1.1.1,this.1.1.2.elim (fun q=>q.imp_right .inl) fun q=>.inr (.inr q),this.1.2,this.2⟩
theorem bi {n:Nat}{A:Around}{env:Env}{g:Gh}{ρ:aH}{σ:Sg}{s:Shared}{i:Nat}{y:Str}{u:Value}{k:NameKind}{pos:Pos}{Q:Value→Shared→Prop}{E:Value→Shared→Prop}(X:At P B C n A env g ρ σ s)(ht:B.tab[i]?=some (some (y,k)))(v:cH B env s.heap i u)(hq:Q u s):
  wpAny P.M A (eval (.Name y pos) env) Q E s:=by
 obtain ⟨h1,h2,h3,h4,h5⟩:=bx.look X.env.ok ht
 have hk:env.scope.kind=.function:=X.env.sc▸h1
 cases v with
 |loc x m t n e=>
  rw [t] at ht;cases ht
  exact wpAny_Name (wpAny_loadName_local hk (show env.scope.names.lookup y=_ from X.env.sc▸h2) n e hq) h4
 |cel x k c t hk' l n=>
  rw [t] at ht;cases ht
  rcases hk' with rfl |rfl
  ·exact wpAny_Name (wpAny_loadName_cell hk (show env.scope.names.lookup y=_ from X.env.sc▸h2) l n hq) h4
  ·exact wpAny_Name (wpAny_loadName_free hk (show env.scope.names.lookup y=_ from X.env.sc▸h2) l n hq h5) h4
theorem am.name {i:Nat}{y:Str}{k:NameKind}{pos:Pos}{R:RR Value T}(ht:B.tab[i]?=some (some (y,k)))(h:∀g h t u,br P C g h i t u→R h g h t u):am P B C (.Name y pos) (pV i) R:=.now fun n A env g ρ σ s k Q E X hb hq=>by
 obtain ⟨t,e⟩:=bS hb
 obtain ⟨u,v,w⟩:=X.env.var i _ t ht e
 exact bi X ht v (hq u t s.toks (by rw [pV,e];rfl) (h _ _ _ _ w))
noncomputable def jr (C:Ct)(i:Nat):Bool:=!bj C i&&(!C.m||!Nat.beq i 0)
theorem iK {g:Gh}{h:Heap}{i:Nat}{t:T}{u:Value}(hv:jr C i=true)(v:br P C g h i t u):Rp P g h t u:=by
 obtain ⟨h1,h2⟩:=Bool.and_eq_true_iff.mp hv
 unfold br at v
 cases q:bj C i with
 |true=>rw [q] at h1;cases h1
 |false=>
  rw [q] at v
  refine v.elim id fun ⟨a,b,_⟩=>?_
  subst b;rw [a] at h2;cases h2
theorem am.var {i:Nat}{y:Str}{k:NameKind}{pos:Pos}(hv:jr C i=true)(ht:B.tab[i]?=some (some (y,k))):am P B C (.Name y pos) (pV i) (RV P):=.name ht fun _ _ _ _=>iK hv
theorem am.own {i:Nat}{y:Str}{k:NameKind}{pos:Pos}(hv:bj C i=true)(ht:B.tab[i]?=some (some (y,k))):am P B C (.Name y pos) (pV i) (RX P):=.name ht fun _ _ _ _ v=>by
 unfold br at v
 rw [hv] at v
 exact let ⟨a,e,o,r⟩:=v;.inr ⟨a,e,.inl ⟨i,o⟩,r⟩
theorem At.fn {n:Nat}{A:Around}{env:Env}{g:Gh}{ρ:aH}{σ:Sg}{s:Shared}(X:At P B C n A env g ρ σ s):env.scope.kind=.function:=by
 have:=X.env.ok
 simp only [bx.ok,Bool.and_eq_true,beq_iff_eq] at this
 exact X.env.sc▸this.1.1
theorem At.glob {n:Nat}{A:Around}{env:Env}{g:Gh}{ρ:aH}{σ:Sg}{s:Shared}(X:At P B C n A env g ρ σ s){x:Str}{pos:Pos}{v:Value}{Q:Value→Shared→Prop}{E:Value→Shared→Prop}(hx:B.sc.names.lookup x=some .globalImplicit)(hd:(x==("__debug__":Str))=false)
  (hv:P.mg x=some v)(h:Q v s):wpAny P.M A (eval (.Name x pos) env) Q E s:=
 Calls.Name_function_global X.fn (show env.scope.names.lookup x=_ from X.env.sc▸hx) (Calls.loadGlobal_global (mg:=P.mg) (X.env.glob▸X.good.g.keeps fun a o e=>(X.g.base a o e).2) hv h) hd
theorem am.gconst {y:Str}{t:T}{pos:Pos}(hx:B.sc.names.lookup y=some .globalImplicit)(hd:(y==("__debug__":Str))=false)(hv:∃u,P.mg y=some u∧∀g h,Rp P g h t u):am P B C (.Name y pos) (pC t) (RV P):=.now fun n A env g ρ σ s k Q E X hb hq=>
 let ⟨u,h1,h2⟩:=hv;X.glob hx hd h1 (hq u t s.toks rfl (h2 _ _))
noncomputable abbrev zA (P:Pg)(op:Value→Value→Sem Value):W2 Value:=fun A _ x y Q E s=>wpAny P.M A (op x y) Q E s
noncomputable abbrev BA (P:Pg)(op:Value→Sem Value):W1 Value:=fun A _ x Q E s=>wpAny P.M A (op x) Q E s
theorem am.bin {l r:Expr}{op:Operator}{pos:Pos}{pl pr:PE}{F:T→T→Option T}{R:RR Value T}(hd:Dn R)(o:pE P (zA P (binaryOp op)) F R)(hl:am P B C l pl (RX P))(hr:am P B C r pr (RX P)):am P B C (.BinOp l op r pos) (p2 F pl pr) R:=
 (hl.op2 hr.xy hd o).map fun _ _ _ _ _=>wpAny_BinOp
noncomputable def jm (P:Pg)(op:CmpOp)(F:T→T→Option Bool):Prop:=
 ∀A g σ s x x' t t' b Q E,Rm A→bp P g s.heap σ→eO P g s.heap t x→eO P g s.heap t' x'→F t t'=some b→(∀tk,Q (.bool b) {s with toks:=tk})→wpAny P.M A (compareOp op x x') Q E s
theorem jm.e {op:CmpOp}{F:T→T→Option Bool}(o:jm P op F):pE P (zA P (compareOp op)) (fun a b=>(F a b).map T.bool) (RV P):=fun A env g σ s x x' t t' y Q E rm w r r' e hq=>by
 obtain ⟨b,e1,rfl⟩:=Option.map_eq_some_iff.mp e
 exact o A g σ s x x' t t' b Q E rm w r r' e1 fun tk=>hq _ _ g (.toks g s tk) w rfl
theorem jm.t {op:CmpOp}{F:T→T→Option Bool}(o:jm P op F):pE P (fun A _ x y Q E s=>wpAny P.M A (compareOp op x y) (fun v s₁=>wpAny P.M A (truthy v) Q E s₁) E s) F RQ:=fun A env g σ s x x' t t' b Q E rm w r r' e hq=>
 o A g σ s x x' t t' b _ E rm w r r' e fun tk=>wpAny_truthy_bool (hq b _ g (.toks g s tk) w rfl)
theorem Aw {α β:Type}(o:Option α)(f:α→β)(σ:Sg)(k:PK β):up (o.map f) σ k=up o σ fun a σ=>k (f a) σ:=by cases o<;>rfl
theorem cX.eq {α β:Type}{W:WP α}{p p':PG β}{R:RR α β}(h:cX P B C W p R)(e:p=p'):cX P B C W p' R:=e▸h
theorem am.cmp {l r:Expr}{op:CmpOp}{pos:Pos}{pl pr:PE}{F:T→T→Option Bool}(o:jm P op F)(hm:behindInMarks op r=false)(hl:am P B C l pl (RX P))(hr:am P B C r pr (RX P)):am P B C (.Compare l [op] [r] pos) (pB (p2 F pl pr)) (RV P):=
 ((hl.op2 hr.xy j2 o.e).map fun _ _ _ _ _ h=>wpAny_Compare1 h hm).eq (by unfold p2 pB;simp only [Aw])
theorem cb.cmpY {l r:Expr}{op:CmpOp}{pos:Pos}{pl pr:PE}{F:T→T→Option Bool}(o:jm P op F)(hm:behindInMarks op r=false)(hl:am P B C l pl (RX P))(hr:am P B C r pr (RY P)):cb P B C (.Compare l [op] [r] pos) (p2 F pl pr):=
 (hl.op2 hr BL o.t).map fun _ _ _ _ _ h=>wpAny_isTrue_Compare1 h hm
theorem cb.cmp {l r:Expr}{op:CmpOp}{pos:Pos}{pl pr:PE}{F:T→T→Option Bool}(o:jm P op F)(hm:behindInMarks op r=false)(hl:am P B C l pl (RX P))(hr:am P B C r pr (RX P)):cb P B C (.Compare l [op] [r] pos) (p2 F pl pr):=.cmpY o hm hl hr.xy
theorem fX {A:Around}{g:Gh}{h:Heap}{s:Shared}{t:T}{x:Value}{b:Bool}{Q:Bool→Shared→Prop}{E:Value→Shared→Prop}(r:eO P g h t x)(ht:di t=some b)(k:Q b s):wpAny P.M A (truthy x) Q E s:=by
 cases t with
 |none=>cases ht;exact r.elim (fun r=>(show x=_ from r)▸fun _ _ _=>k) fun ⟨_,_,r⟩=>r.elim
 |bool c=>cases ht;exact r.elim (fun r=>(show x=_ from r)▸wpAny_truthy_bool k) fun ⟨_,_,r⟩=>r.elim
 |int i=>cases ht;exact r.elim (fun ⟨_,r⟩=>r▸PySem.P.truthy_int k) fun ⟨_,_,r⟩=>r.elim
 |_=>cases ht
theorem cb.val {e:Expr}{p:PE}(h:am P B C e p (RX P))(he:∀env whole,isTrue e env whole=(do let v ←whole;standAt e.pos;holding [v] (truthy v))):cb P B C e (qE p):=
 (h.xy.op1 (N:=fun A _ x Q E s=>wpAny P.M A (truthy x) Q E s) BL fun A env g σ s x t b Q E rm w r e hq=>fX r e (hq b s g (.refl g s) w rfl)).map fun A env Q E s h=>wpAny_isTrue_value h (he env _)
theorem cb.not {e:Expr}{p:PT}{pos:Pos}(h:cb P B C e p):cb P B C (.UnaryOp .Not e pos) (dE p):=
 (h.bind (N:=fun A _ b Q E s=>Q (!b) s) (F:=fun _ _ k b σ=>k (!b) σ) (R':=RQ) BL fun n A env g g₁ ρ σ s s₁ x t k Q E p X r hb hq=>hq _ s₁ g₁ _ σ rfl (.refl _ _) X.g (congrArg Bool.not r)).map fun _ _ _ _ _=>wpAny_isTrue_Not
noncomputable abbrev hH (P:Pg)(B:bx)(C:Ct)(op:BoolOp)(es:List Expr)(p:PT):Prop:=cX P B C (P.W fun env=>allTrue op es env) p RQ
theorem hH.andNil:hH P B C .And [] ay:=.now fun _ _ _ _ _ _ _ _ _ _ _ _ hq=>wpAny_allTrue_And_nil (hq _ _ _ rfl rfl)
theorem hH.orNil:hH P B C .Or [] bJ:=.now fun _ _ _ _ _ _ _ _ _ _ _ _ hq=>wpAny_allTrue_Or_nil (hq _ _ _ rfl rfl)
theorem cX.ite {α β:Type}{W:WP Bool}{p:PT}{W1 W2:WP α}{p1 p2:PG β}{R:RR α β}(h:cX P B C W p RQ)(hd:Dn R)(h1:cX P B C W1 p1 R)(h2:cX P B C W2 p2 R):
  cX P B C (fun A env Q E s=>W A env (fun b s₁=>match b with |true=>W1 A env Q E s₁ |false=>W2 A env Q E s₁) E s) (fun c ρ σ k=>p c ρ σ fun b σ=>bif b then p1 c ρ σ k else p2 c ρ σ k) R:=
 h.bind (N:=fun A env b Q E s₁=>match b with |true=>W1 A env Q E s₁ |false=>W2 A env Q E s₁) (F:=fun c ρ k b σ=>bif b then p1 c ρ σ k else p2 c ρ σ k) hd fun n A env g g₁ ρ σ s s₁ x t k Q E p X r hb hq=>by
  cases r
  cases x with
  |true=>exact h1 n A env g₁ ρ σ s₁ k Q E X hb hq
  |false=>exact h2 n A env g₁ ρ σ s₁ k Q E X hb hq
theorem cX.yes {β:Type}{t:β}:cX P B C (fun A env Q E s=>Q t s) (fun _ _ σ k=>k t σ) RQ:=.now fun _ _ _ _ _ _ _ _ _ _ _ _ hq=>hq _ _ _ rfl rfl
theorem hH.and {e:Expr}{es:List Expr}{p ps:PT}(h:cb P B C e p)(hs:hH P B C .And es ps):hH P B C .And (e::es) (j7 p ps):=
 (h.ite BL hs (.yes (t:=false))).map fun A env Q E s h=>wpAny_allTrue_And_cons (wpAny_mono h (fun b s h=>by cases b<;>exact h) fun _ _ h=>h)
theorem hH.or {e:Expr}{es:List Expr}{p ps:PT}(h:cb P B C e p)(hs:hH P B C .Or es ps):hH P B C .Or (e::es) (eY p ps):=
 (h.ite BL (.yes (t:=true)) hs).map fun A env Q E s h=>wpAny_allTrue_Or_cons (wpAny_mono h (fun b s h=>by cases b<;>exact h) fun _ _ h=>h)
theorem cb.boolOp {op:BoolOp}{es:List Expr}{p:PT}{pos:Pos}(h:hH P B C op es p):cb P B C (.BoolOp op es pos) p:=h.map fun _ _ _ _ _=>wpAny_isTrue_BoolOp
theorem am.ifExp {t b o:Expr}{pt:PT}{pb po:PE}{pos:Pos}{R:RR Value T}(hd:Dn R)(ht:cb P B C t pt)(h1:am P B C b pb R)(h2:am P B C o po R):am P B C (.IfExp t b o pos) (Cc pt pb po) R:=
 (ht.ite hd h1 h2).map fun A env Q E s h=>wpAny_IfExp (wpAny_mono h (fun b s h=>by cases b<;>exact h) fun _ _ h=>h)
theorem am.not {e:Expr}{p:PE}{pos:Pos}(h:am P B C e p (RX P)):am P B C (.UnaryOp .Not e pos) (ix p) (RV P):=
 (h.xy.op1 (N:=BA P (unaryOp .Not)) j2 fun A env g σ s x t y Q E rm w r e hq=>by
  obtain ⟨b,e1,rfl⟩:=Option.map_eq_some_iff.mp e
  exact not_value (fX r e1 (hq _ s g (.refl g s) w rfl))).map fun _ _ _ _ _=>wpAny_UnaryOp
noncomputable abbrev iE (P:Pg)(B:bx)(C:Ct)(op:BoolOp)(es:List Expr)(p:PE):Prop:=∀pos,cX P B C (P.W fun env=>boolOp pos op (evalEach es env)) p (RV P)
theorem iE.one {op:BoolOp}{e:Expr}{p:PE}(h:am P B C e p (RV P)):iE P B C op [e] p:=fun _=>h
theorem iE.and {e e':Expr}{es:List Expr}{p ps:PE}(h:am P B C e p (RV P))(hs:iE P B C .And (e'::es) ps):iE P B C .And (e::e'::es) (iy p ps):=fun pos=>
 (h.bind (N:=fun A env v Q E s=>wpAny P.M A (do standAt pos;let t ←holding [v] (truthy v);match BoolOp.And,t with |.And,false |.Or,true=>pure v |_,_=>boolOp pos .And (evalEach (e'::es) env)) Q E s)
  (F:=fun cx ρ k v σ=>match di v with |some true=>ps cx ρ σ k |some false=>k v σ |none=>.bad) (R':=RV P) j2 fun n A env g g₁ ρ σ s s₁ x t k Q E p X r hb hq=>by
   cases e:di t with
   |none=>rw [e] at hb;exact absurd rfl hb
   |some b=>
    rw [e] at hb hq
    refine wpAny_bind (wpAny_standAt (wpAny_bind (wpAny_holding (fX (.inl r) e ?_))))
    cases b with
    |true=>exact hs pos n A env g₁ ρ σ s₁ k Q E X hb hq
    |false=>exact wpAny_pure (hq x s₁ g₁ t σ rfl (.refl _ _) X.g r)).map fun _ _ _ _ _=>wpAny_bind
theorem iE.or {e e':Expr}{es:List Expr}{p ps:PE}(h:am P B C e p (RV P))(hs:iE P B C .Or (e'::es) ps):iE P B C .Or (e::e'::es) (vz p ps):=fun pos=>
 (h.bind (N:=fun A env v Q E s=>wpAny P.M A (do standAt pos;let t ←holding [v] (truthy v);match BoolOp.Or,t with |.And,false |.Or,true=>pure v |_,_=>boolOp pos .Or (evalEach (e'::es) env)) Q E s)
  (F:=fun cx ρ k v σ=>match di v with |some true=>k v σ |some false=>ps cx ρ σ k |none=>.bad) (R':=RV P) j2 fun n A env g g₁ ρ σ s s₁ x t k Q E p X r hb hq=>by
   cases e:di t with
   |none=>rw [e] at hb;exact absurd rfl hb
   |some b=>
    rw [e] at hb hq
    refine wpAny_bind (wpAny_standAt (wpAny_bind (wpAny_holding (fX (.inl r) e ?_))))
    cases b with
    |false=>exact hs pos n A env g₁ ρ σ s₁ k Q E X hb hq
    |true=>exact wpAny_pure (hq x s₁ g₁ t σ rfl (.refl _ _) X.g r)).map fun _ _ _ _ _=>wpAny_bind
theorem am.boolOp {op:BoolOp}{es:List Expr}{p:PE}{pos:Pos}(h:iE P B C op es p):am P B C (.BoolOp op es pos) p (RV P):=h pos
theorem fS.nil:fS P B C [] ah:=⟨(fun _ _ q=>nomatch q),fun pos=>cX.now fun _ _ _ _ _ _ _ _ _ _ _ _ hq=>wpAny_items_nil (hq _ _ _ rfl rfl)⟩
theorem fS.cons {e:Expr}{es:List Expr}{p:PE}{ps:PL}(hn:∀env,starEach (e::es) env=(false,eval e env)::starEach es env)(h:am P B C e p (RV P))(hs:fS P B C es ps):fS P B C (e::es) (aa p ps):=⟨fun env q hq=>by
 rw [hn] at hq
 cases hq with
 |head=>rfl
 |tail _ hq=>exact hs.pl env q hq,fun pos=>
 (h.bind (N:=fun A env v Q E s=>wpAny P.M A (spliced (backTo pos (starEach es env))) (fun vs s₁=>Q (v::vs) s₁) E s) (F:=fun c ρ k v σ=>ps c ρ σ fun vs σ=>k (v::vs) σ) (R':=RL P) E9 fun n A env g g₁ ρ σ s s₁ x t k Q E p X r hb hq=>
  hs.sim pos n A env g₁ ρ σ s₁ _ _ E X hb fun xs s₂ g₂ ts σ₂ e p₂ w₂ r₂=>hq _ s₂ g₂ _ σ₂ e p₂ w₂ (aP.cons (Rp.mono (p₂.k X.g) r) r₂)).map fun _ env _ _ _ h=>wpAny_items_cons h (hn env)⟩
theorem ba {k:Nat}(h:k≤lim):k≤sizeLine:=Nat.le_trans h (by decide)
theorem fC {n:Nat}(h:bU n=true):n≤lim:=Nat.le_of_ble_eq_true h
theorem jZ {c:Bool}{o:cz}(h:gd c o≠.bad):c=true:=by cases c with
 |true=>rfl
 |false=>exact absurd rfl h
theorem jL {c:Bool}{o:cz}(h:(bif c then o else .bad)≠.bad):c=true:=by cases c with
 |true=>rfl
 |false=>exact absurd rfl h
theorem bN (s:Shared)(ob:Obj):∀a o,s.heap.get? a=some o→(s.heap.push ob).get? a=some o:=fun _ _ e=>Heap.get?_push_of_some _ e
theorem c9 {g:Gh}{s:Shared}{σ:Sg}(w:bp P g s.heap σ):¬g.F s.heap.objs.size∧¬g.Z s.heap.objs.size∧¬g.O s.heap.objs.size:=⟨fun q=>w.F _ q (aD _),fun q=>(w.Z _ q).1 (aD _),fun q=>(w.O _ q).1 (aD _)⟩
theorem bp.push {g:Gh}{s:Shared}{σ:Sg}(w:bp P g s.heap σ)(ob:Obj):bp P g (s.heap.push ob) σ:=w.grow (bN s ob) g.F (fun _ h=>h) fun _ h=>.inl h
theorem aC.push {g:Gh}{s:Shared}(ob:Obj)(t:Nat):aC g s g {s with heap:=s.heap.push ob,toks:=t}:=.grow t (bN s ob) g.F (fun _ h=>h) fun _ h=>.inl h
theorem bD {h:Heap}(ob:Obj)(hf:ob.isFreed=false:=by rfl):(h.push ob).get? h.objs.size=some ob:=Heap.get?_push_size _ hf
theorem bp.pushF {g:Gh}{s:Shared}{σ:Sg}(w:bp P g s.heap σ)(ob:Obj)(hf:ob.isFreed=false:=by rfl):bp P {g with F:=fun y=>g.F y∨y=s.heap.objs.size} (s.heap.push ob) σ:=w.grow (bN s ob) _ (fun _ h=>.inl h) fun a h=>h.elim .inl fun e=>.inr (e▸⟨aD _,an (bD ob hf)⟩)
theorem aC.pushF {g:Gh}{s:Shared}(ob:Obj)(t:Nat):aC g s {g with F:=fun y=>g.F y∨y=s.heap.objs.size} {s with heap:=s.heap.push ob,toks:=t}:=.grow t (bN s ob) _ (fun _ h=>.inl h) fun a h=>h.elim .inl fun e=>.inr (e▸aD _)
theorem rt {g:Gh}{s:Shared}{σ:Sg}{ts:List T}{xs:List Value}{tk:Nat}(w:bp P g s.heap σ)(r:aP P g s.heap ts xs)(hl:ts.length≤lim){Q:Value→Shared→Prop}(hq:∀u s' g',aC g s g' s'→bp P g' s'.heap σ→Rp P g' s'.heap (.tup ts) u→Q u s'):
  Q (.ref s.heap.objs.size) {s with heap:=s.heap.push (g8 xs.toArray 0),toks:=tk}:=
 hq _ _ _ (.pushF _ tk) (w.pushF _) ⟨_,rfl,.inr rfl,_,_,bD _,hl,r.mono ((aC.pushF _ 0).k w)⟩
theorem s4 {g:Gh}{s:Shared}{σ:Sg}{ts:List T}{xs:List Value}{tk:Nat}(w:bp P g s.heap σ)(r:aP P g s.heap ts xs)(hl:ts.length≤lim){Q:Value→Shared→Prop}(hq:∀u s' g',aC g s g' s'→bp P g' s'.heap σ→zE P s.heap g' s'.heap (.lst ts) u→Q u s'):
  Q (.ref s.heap.objs.size) {s with heap:=s.heap.push (bn xs.toArray 0),toks:=tk}:=
 hq _ _ _ (.push _ tk) (w.push _) ⟨_,rfl,aD _,(c9 w).1,(c9 w).2.1,(c9 w).2.2,_,_,bD _,hl,r.mono ((aC.push (bn xs.toArray 0) 0).k w)⟩
theorem am.tup {es:List Expr}{ps:PL}{k:Nat}{pos:Pos}(h:fS P B C es ps):am P B C (.Tuple es k pos) (ax ps) (RV P):=
 ((h.sim pos).bind (N:=fun A env xs Q E s=>xs.length≤sizeLine∧Q (.ref s.heap.objs.size) {s with heap:=s.heap.push (g8 xs.toArray 0)}) (F:=fun c ρ k vs σ=>bif bU vs.length then k (.tup vs) σ else .bad) (R':=RV P) j2 fun n A env g g₁ ρ σ s s₁ x t k Q E p X r hb hq=>by
  have hl:=fC (jL hb)
  exact ⟨ba (r.length▸hl),rt (tk:=s₁.toks) X.g r hl fun u s' g' p w r=>hq u s' g' _ σ (by rw [jL hb];rfl) p w r⟩).map fun _ _ _ _ _=>wpAny_Tuple
theorem am.list {es:List Expr}{ps:PL}{pos:Pos}(h:fS P B C es ps):am P B C (.List es pos) (bu ps) (RN P):=
 ((h.sim pos).bind (N:=fun A env xs Q E s=>xs.length≤sizeLine∧Q (.ref s.heap.objs.size) {s with heap:=s.heap.push (bn xs.toArray 0)}) (F:=fun c ρ k vs σ=>bif bU vs.length then k (.lst vs) σ else .bad) (R':=RN P) CO fun n A env g g₁ ρ σ s s₁ x t k Q E p X r hb hq=>by
  have hl:=fC (jL hb)
  exact ⟨ba (r.length▸hl),s4 (tk:=s₁.toks) X.g r hl fun u s' g' p w r=>hq u s' g' _ σ (by rw [jL hb];rfl) p w r⟩).map fun _ _ _ _ _=>wpAny_List
end
end
end Mine
namespace Mine
noncomputable section
open PySem PyProof.Rows PySem.SeqAt
section
variable {P:Pg} {B:bx} {C:Ct} {g:Gh} {h:Heap} {t:T} {x:Value}
theorem Bw {b:Bool}(e:Dq t=some b):t=.bool b:=by cases t<;>cases e;rfl
theorem mE {i:Int}(e:iH t=some i):t=.int i:=by cases t<;>cases e;rfl
theorem xr {i:Str}(e:qV t=some i):t=.str i:=by cases t<;>cases e;rfl
theorem jN {i:List T}(e:pf t=some i):t=.tup i:=by cases t<;>cases e;rfl
theorem d9 {i:List T}(e:fR t=some i):t=.lst i:=by cases t<;>cases e;rfl
theorem Bv {i:List Int}(e:BN t=some i):t=.scr i:=by cases t<;>cases e;rfl
theorem eO.v (q:eO P g h t x)(h1:∀a,gN P g h a t→False):Rp P g h t x:=q.elim id fun ⟨a,_,r⟩=>(h1 a r).elim
theorem eO.b {b:Bool}(q:eO P g h t x)(e:Dq t=some b):x=.bool b:=by cases Bw e;exact q.v fun _ h=>h
theorem eO.i {i:Int}(q:eO P g h t x)(e:iH t=some i):∃p,x=.int i p:=by cases mE e;exact q.v fun _ h=>h
theorem eO.s {s:Str}(q:eO P g h t x)(e:qV t=some s):(PyData.strOk s=true∧s.length≤lim)∧∃p,x=.str s p:=by cases xr e;exact q.v fun _ h=>h
theorem eO.n {s:List Int}(q:eO P g h t x)(e:BN t=some s):EJ P s x:=by cases Bv e;exact q.v fun _ h=>h
theorem eO.tu {ts:List T}(q:eO P g h t x)(e:pf t=some ts):Fz g (xG h g8 (aP P g h ts) ts.length) x:=by cases jN e;exact q.v fun _ h=>h
theorem eO.ls {ts:List T}(q:eO P g h t x)(e:fR t=some ts):∃a,x=.ref a∧xG h bn (aP P g h ts) ts.length a:=by cases d9 e;exact q.elim (fun r=>let ⟨a,e,_,o⟩:=r;⟨a,e,o⟩) id
theorem ar {α β:Type}{a:Option α}{f:α→Option β}{y:β}(h:o1 a f=some y):∃x,a=some x∧f x=some y:=by
 cases a with
 |none=>cases h
 |some x=>exact ⟨x,rfl,h⟩
theorem aV {α β γ:Type}{a:Option α}{b:Option β}{f:α→β→Option γ}{y:γ}(h:o2 a b f=some y):∃x z,a=some x∧b=some z∧f x z=some y:=by
 cases a with
 |none=>cases h
 |some x=>cases b with
  |none=>cases h
  |some z=>exact ⟨x,z,rfl,rfl,h⟩
structure Rd (h:Heap) (x:Value) (d:PyData) (n:Nat):Prop where
 r:∃as,Reads h x d as
 c:d.canLay0=true
 l:d.depth≤n
structure Fb (h:Heap) (x:List Value) (d:List PyData) (n:Nat):Prop where
 r:∃as,ReadsAll h x d as
 c:PyData.canLayAll0 d=true
 l:PyData.depthAll d≤n
theorem eQ {f:T→Option PyData}{n:Nat}(ih:∀t x d,f t=some d→Rp P g h t x→Rd h x d n):∀(ts:List T) (xs:List Value) (ds:List PyData),eW f ts=some ds→aP P g h ts xs→Fb h xs ds n
 | [],_,_,e,r=>by cases r;cases e;exact ⟨⟨[],.nil⟩,rfl,Nat.zero_le _⟩
 |t::ts,_,_,e,⟨x,xs,e',r,rs⟩=>by
  subst e'
  unfold eW at e
  cases hd:f t with
  |none=>rw [hd] at e;cases e
  |some d=>
   rw [hd] at e
   obtain ⟨ds,hds,rfl⟩:=Option.map_eq_some_iff.mp e
   obtain ⟨⟨as,h1⟩,h2,h3⟩:=ih t x d hd r
   obtain ⟨⟨bs,h4⟩,h5,h6⟩:=eQ ih ts xs ds hds rs
   exact ⟨⟨as++bs,.cons h1 h4⟩,Bool.and_eq_true_iff.mpr ⟨h2,h5⟩,Nat.max_le.mpr ⟨h3,h6⟩⟩
theorem df:∀n t x d,cT n t=some d→eO P g h t x→Rd h x d n:=by
 have base:∀n t x d,(match t with |.tup _=>False |.lst _=>False |_=>True)→cT n t=some d→eO P g h t x→Rd h x d n:=fun n t x d ht e q=>by
  cases t with
  |none=>cases n<;>cases e<;>(rw [show x=_ from q.v fun _ h=>h];exact ⟨⟨[],.none⟩,rfl,Nat.zero_le _⟩)
  |bool b=>cases n<;>cases e<;>(rw [q.b rfl];exact ⟨⟨[],.bool _⟩,rfl,Nat.zero_le _⟩)
  |int i=>obtain ⟨p,rfl⟩:=q.i rfl;cases n<;>cases e<;>exact ⟨⟨[],.int _ _⟩,rfl,Nat.zero_le _⟩
  |str s=>obtain ⟨⟨h1,_⟩,p,rfl⟩:=q.s rfl;cases n<;>cases e<;>exact ⟨⟨[],.str _ _⟩,h1,Nat.zero_le _⟩
  |tup=>exact ht.elim
  |lst=>exact ht.elim
  |_=>cases n<;>cases e
 intro n
 induction n with
 |zero=>
  intro t x d e q
  cases t with
  |tup=>cases e
  |lst=>cases e
  |_=>exact base 0 _ x d trivial e q
 |succ n ih=>
  intro t x d e q
  cases t with
  |tup ts=>
   obtain ⟨ds,hd,rfl⟩:=Option.map_eq_some_iff.mp e
   obtain ⟨a,rfl,_,vs,m,e1,_,r⟩:=q.tu rfl
   obtain ⟨⟨as,q1⟩,q2,q3⟩:=eQ (fun t x d e r=>ih t x d e (.inl r)) ts _ ds hd r
   exact ⟨⟨as,.tuple e1 rfl rfl q1⟩,q2,Nat.succ_le_succ q3⟩
  |lst ts=>
   obtain ⟨ds,hd,rfl⟩:=Option.map_eq_some_iff.mp e
   obtain ⟨a,rfl,vs,m,e1,_,r⟩:=q.ls rfl
   obtain ⟨⟨as,q1⟩,q2,q3⟩:=eQ (fun t x d e r=>ih t x d e (.inl r)) ts _ ds hd r
   exact ⟨⟨a::as,.list e1 rfl rfl q1⟩,q2,Nat.succ_le_succ q3⟩
  |_=>exact base (n+1) _ x d trivial e q
theorem kH {A:Around}{a b:Nat}(rm:Rm A)(h:a≤cL):A.units+1+min a b < cLine:=by
 have:=rm.units
 have:min a b≤50:=Nat.le_trans (Nat.min_le_left _ _) h
 lia -abstractProof
theorem C0:jm P .Eq bI:=fun A g σ s x x' t t' b Q E rm w q q' e k=>by
 obtain ⟨d,d',h1,h2,h3⟩:=aV e
 obtain ⟨⟨_,r1⟩,c1,l1⟩:=df cL t x d h1 q
 obtain ⟨⟨_,r2⟩,c2,l2⟩:=df cL t' x' d' h2 q'
 cases h3
 exact compareEq_reads r1 r2 c1 c2 (Nat.lt_of_le_of_lt (by lia) (kH (b:=d'.depth) rm l1)) (k s.toks)
theorem CS:jm P .NotEq jW:=fun A g σ s x x' t t' b Q E rm w q q' e k=>by
 obtain ⟨c,e1,rfl⟩:=Option.map_eq_some_iff.mp e
 obtain ⟨d,d',h1,h2,h3⟩:=aV e1
 obtain ⟨⟨_,r1⟩,c1,l1⟩:=df cL t x d h1 q
 obtain ⟨⟨_,r2⟩,c2,l2⟩:=df cL t' x' d' h2 q'
 cases h3
 exact compareNe_reads r1 r2 c1 c2 (Nat.lt_of_le_of_lt (by lia) (kH (b:=d'.depth) rm l1)) (k s.toks)
theorem de {α:Type}{t':T}{x':Value}{f:Int→Int→Option α}{y:α}(q:eO P g h t x)(q':eO P g h t' x')(e:o2 (iH t) (iH t') f=some y):∃i j p p',x=.int i p∧x'=.int j p'∧f i j=some y:=by
 obtain ⟨i,j,h1,h2,h3⟩:=aV e
 obtain ⟨p,e1⟩:=q.i h1
 obtain ⟨p',e2⟩:=q'.i h2
 exact ⟨i,j,p,p',e1,e2,h3⟩
theorem CT:jm P .Lt uS:=fun A g σ s x x' t t' b Q E rm w q q' e k=>by
 obtain ⟨i,j,p,p',rfl,rfl,e⟩:=de q q' e
 cases e;exact PySem.P.lt_int (k s.toks)
theorem CU:jm P .LtE BJ:=fun A g σ s x x' t t' b Q E rm w q q' e k=>by
 obtain ⟨i,j,p,p',rfl,rfl,e⟩:=de q q' e
 cases e;exact PySem.P.le_int (k s.toks)
theorem CY:jm P .Gt Ad:=fun A g σ s x x' t t' b Q E rm w q q' e k=>by
 obtain ⟨i,j,p,p',rfl,rfl,e⟩:=de q q' e
 cases e;exact PySem.P.gt_int (k s.toks)
theorem CZ:jm P .GtE EG:=fun A g σ s x x' t t' b Q E rm w q q' e k=>by
 obtain ⟨i,j,p,p',rfl,rfl,e⟩:=de q q' e
 cases e;exact PySem.P.ge_int (k s.toks)
inductive El (P:Pg) (g:Gh) (h:Heap) (ts:List T) (x:Value):Prop
 |tup (a:Addr) (vs:Array Value) (n:Nat) (e:x=.ref a) (e':h.get? a=some (g8 vs n)) (l:ts.length≤lim) (r:aP P g h ts vs.toList)
 |lst (a:Addr) (vs:Array Value) (n:Nat) (e:x=.ref a) (e':h.get? a=some (bn vs n)) (l:ts.length≤lim) (r:aP P g h ts vs.toList)
theorem eO.sq {ts:List T}(q:eO P g h t x)(e:fZ t=some ts):El P g h ts x:=by
 unfold fZ el at e
 cases e1:pf t with
 |some us=>rw [e1] at e;cases e;obtain ⟨a,e,_,vs,n,e',l,r⟩:=q.tu e1;exact .tup a vs n e e' l r
 |none=>rw [e1] at e;obtain ⟨a,e,vs,n,e',l,r⟩:=q.ls e;exact .lst a vs n e e' l r
inductive Fd (h:Heap) (A:Around) (x x':Value) (b:Bool):Prop
 |mk (d:PyData) (ds:List PyData) (as bs:List Addr) (e:b=ds.any fun y=>PyData.eqv y d) (r:Reads h x' (.list ds) as∨Reads h x' (.tuple ds) as) (r':Reads h x d bs) (c:PyData.canLayAll0 ds=true) (c':d.canLay0=true) (l:A.units+1+min (PyData.depthAll ds) d.depth < cLine)
theorem qr {A:Around}{x':Value}{t':T}{b:Bool}(rm:Rm A)(q:eO P g h t x)(q':eO P g h t' x')(e:i5 t t'=some b):Fd h A x x' b:=by
 obtain ⟨ts,e1,e⟩:=ar e
 obtain ⟨d,ds,h1,h2,e⟩:=aV e
 obtain ⟨⟨_,r1⟩,c1,l1⟩:=df cL t x d h1 q
 have ra:=fun xs r=>eQ (fun t x d e r=>df cL t x d e (.inl r)) ts xs ds h2 (P:=P) (g:=g) (h:=h) r
 cases e
 rcases q'.sq e1 with ⟨a,vs,n,rfl,e',l,r⟩ | ⟨a,vs,n,rfl,e',l,r⟩
 ·obtain ⟨⟨_,r2⟩,c2,l2⟩:=ra _ r
  exact ⟨d,ds,_,_,rfl,.inr (.tuple e' rfl rfl r2),r1,c2,c1,kH rm l2⟩
 ·obtain ⟨⟨_,r2⟩,c2,l2⟩:=ra _ r
  exact ⟨d,ds,_,_,rfl,.inl (.list e' rfl rfl r2),r1,c2,c1,kH rm l2⟩
theorem CV:jm P .In i5:=fun A g σ s x x' t t' b Q E rm w q q' e k=>by
 obtain ⟨d,ds,as,bs,rfl,r |r,h1,h2,h3,h4⟩:=qr rm q q' e
 ·exact in_list_reads r h1 h2 h3 h4 (k s.toks)
 ·exact in_tuple_reads r h1 h2 h3 h4 (k s.toks)
theorem xa:jm P .NotIn fP:=fun A g σ s x x' t t' b Q E rm w q q' e k=>by
 obtain ⟨c,e1,rfl⟩:=Option.map_eq_some_iff.mp e
 obtain ⟨d,ds,as,bs,rfl,r |r,h1,h2,h3,h4⟩:=qr rm q q' e1
 ·exact notIn_list_reads r h1 h2 h3 h4 (k s.toks)
 ·exact notIn_tuple_reads r h1 h2 h3 h4 (k s.toks)
theorem oa {a b:Str}(ha:PyData.strOk a=true)(hb:PyData.strOk b=true):PyData.strOk (a++b)=true:=by
 have:(a++b).cps=a.cps++b.cps:=rfl
 simp only [PyData.strOk,this,Array.all_append,Bool.and_eq_true] at *
 exact ⟨ha,hb⟩
theorem eU {α:Type}{n:Nat}{x y:α}(h:nV n x=some y):n≤lim∧x=y:=by
 unfold nV at h
 cases q:bU n with
 |true=>rw [q] at h;exact ⟨fC q,Option.some.inj h⟩
 |false=>rw [q] at h;cases h
theorem cQ {σ:Sg}{s:Shared}{i:Int}{tk p:Nat}(w:bp P g s.heap σ){Q:Value→Shared→Prop}(hq:∀u s' g',aC g s g' s'→bp P g' s'.heap σ→Rp P g' s'.heap (.int i) u→Q u s'):Q (.int i p) {s with toks:=tk}:=hq _ _ g (.toks g s tk) w ⟨_,rfl⟩
theorem qx {ts:List T}{vs:Array Value}(r:aP P g h ts vs.toList)(e:vs.isEmpty=true):ts=[]:=by
 have z:vs.toList=[]:=Array.toList_eq_nil_iff.mpr (Array.isEmpty_iff.mp e)
 rw [z] at r
 have:=r.length
 exact List.length_eq_zero_iff.mp this.symm
theorem qW {ts us:List T}{vs vs':Array Value}(r:aP P g h ts vs.toList)(r':aP P g h us vs'.toList)(hl:(ts++us).length≤lim):vs.size+vs'.size≤lim:=by
 rw [List.length_append,←r.length,←r'.length] at hl;exact hl
theorem i4 {σ:Sg}{s:Shared}{ts:List T}{xs:List Value}{tk:Nat}(w:bp P g s.heap σ)(r:aP P g s.heap ts xs)(hl:ts.length≤lim){Q:Value→Shared→Prop}(hq:∀u s' g',aC g s g' s'→bp P g' s'.heap σ→Rp P g' s'.heap (.lst ts) u→Q u s'):
  Q (.ref s.heap.objs.size) {s with heap:=s.heap.push (bn xs.toArray 0),toks:=tk}:=
 hq _ _ _ (.pushF _ tk) (w.pushF _) ⟨_,rfl,.inr rfl,_,_,bD _,hl,r.mono ((aC.pushF (bn xs.toArray 0) 0).k w)⟩
theorem tF (vs vs':Array Value):vs++vs'=(vs.toList++vs'.toList).toArray:=by simp
theorem Cm:pE P (zA P (binaryOp .Add)) bf (RV P):=fun A env g σ s x x' t t' y Q E rm w q q' e hq=>by
 unfold bf at e
 cases e1:iH t with
 |some i=>
  rw [e1] at e
  obtain ⟨j,e2,e⟩:=ar e
  obtain ⟨p,rfl⟩:=q.i e1
  obtain ⟨p',rfl⟩:=q'.i e2
  cases e;exact PySem.P.add_int (cQ w hq)
 |none=>cases e2:qV t with
  |some a=>
   rw [e1,e2] at e
   obtain ⟨b,e3,e⟩:=ar e
   obtain ⟨⟨h1,_⟩,p,rfl⟩:=q.s e2
   obtain ⟨⟨h3,_⟩,p',rfl⟩:=q'.s e3
   obtain ⟨hl,rfl⟩:=eU e
   exact add_str (fun t' tk=>hq _ _ g (.toks g s tk) w ⟨⟨oa h1 h3,hl⟩,_,rfl⟩) (Nat.le_trans (by have:(a++b).length=a.length+b.length:=Array.size_append;lia -abstractProof) (ba hl))
  |none=>cases e3:pf t with
   |some ts=>
    rw [e1,e2,e3] at e
    obtain ⟨us,e4,e⟩:=ar e
    obtain ⟨hl,rfl⟩:=eU e
    have qt:=q.tu e3
    have qu:=q'.tu e4
    obtain ⟨a,rfl,f,vs,n,g1,l1,r1⟩:=id qt
    obtain ⟨a',rfl,f',vs',n',g2,l2,r2⟩:=id qu
    by_cases z1:vs.isEmpty=true
    ·obtain rfl:=qx r1 z1
     exact concat_meets ⟨_,g1,rfl⟩ ⟨_,g2,rfl⟩ noFill_tuple_add seq_tuple_add F.slot_tuple_add F.entry_tuple_add (F.args_tuple_add_2 _ _) (tuple_addW0 a a' vs vs' n n' none none #[] #[] z1) ⟨g1,g2,hq _ s g (.refl g s) w qu⟩
    ·by_cases z2:vs'.isEmpty=true
     ·obtain rfl:=qx r2 z2
      rw [List.append_nil] at hq
      exact concat_meets ⟨_,g1,rfl⟩ ⟨_,g2,rfl⟩ noFill_tuple_add seq_tuple_add F.slot_tuple_add F.entry_tuple_add (F.args_tuple_add_2 _ _) (tuple_addW1 a a' vs vs' n n' none none #[] #[] z1 z2) ⟨g1,g2,hq _ s g (.refl g s) w qt⟩
     ·refine PySem.P.add_tuple g1 g2 z1 z2 ?_ (ba (qW r1 r2 hl))
      rw [tF]
      exact rt (tk:=s.toks) w (aP.append r2 r1) hl hq
   |none=>
    rw [e1,e2,e3] at e
    obtain ⟨ts,us,e4,e5,e⟩:=aV e
    obtain ⟨hl,rfl⟩:=eU e
    obtain ⟨a,rfl,vs,n,g1,l1,r1⟩:=q.ls e4
    obtain ⟨a',rfl,vs',n',g2,l2,r2⟩:=q'.ls e5
    refine PySem.P.add_list g1 g2 ?_ (ba (qW r1 r2 hl))
    rw [tF]
    exact i4 (tk:=s.toks) w (aP.append r2 r1) hl hq
theorem Cg:pE P (zA P (binaryOp .Sub)) dj (RV P):=fun A env g σ s x x' t t' y Q E rm w q q' e hq=>by
 obtain ⟨i,j,p,p',rfl,rfl,e⟩:=de q q' e
 cases e;exact PySem.P.sub_int (cQ w hq)
theorem qR {α:Type}{c:Bool}{x y:α}(h:(bif c then none else some x)=some y):c=false∧x=y:=by
 cases c with
 |true=>cases h
 |false=>exact ⟨rfl,Option.some.inj h⟩
theorem cr {α:Type}{c:Bool}{x y:α}(h:(bif c then some x else none)=some y):c=true∧x=y:=by
 cases c with
 |true=>exact ⟨rfl,Option.some.inj h⟩
 |false=>cases h
theorem Cl:pE P (zA P (binaryOp .FloorDiv)) cJ (RV P):=fun A env g σ s x x' t t' y Q E rm w q q' e hq=>by
 unfold cJ at e
 obtain ⟨i,j,p,p',rfl,rfl,e1⟩:=de q q' e
 obtain ⟨c,rfl⟩:=qR e1
 obtain ⟨c1,c2⟩:=Bool.or_eq_false_iff.mp c
 exact floordiv_int (beq_eq_false_iff_ne.mp c1) (cQ w hq) (.inl (PyProof.noPylong_small (Nat.lt_of_not_le fun q=>by rw [Nat.ble_eq_true_of_le q] at c2;cases c2)))
theorem Ck:pE P (zA P (binaryOp .Mod)) bG (RV P):=fun A env g σ s x x' t t' y Q E rm w q q' e hq=>by
 unfold bG at e
 obtain ⟨i,j,p,p',rfl,rfl,e1⟩:=de q q' e
 obtain ⟨c,rfl⟩:=qR e1
 exact mod_int' (beq_eq_false_iff_ne.mp c) (cQ w hq)
theorem u8 {i:Int}(h:sm i=true):i.natAbs≤1000000000:=Nat.le_of_ble_eq_true h
theorem sI {i:Int}(h:sm i=true):Builtin.Int.intBits i≤64:=by
 have q:(i.natAbs:Int)≤1000000000:=Int.ofNat_le.mpr (u8 h)
 exact intBits_le_64 (Int.neg_lt_of_neg_lt (Int.lt_of_le_of_lt (Int.le_trans (Int.natAbs_neg i▸Int.le_natAbs) q) (by decide))) (Int.lt_of_le_of_lt (Int.le_trans Int.le_natAbs q) (by decide))
theorem Cj:pE P (zA P (binaryOp .Mult)) jA (RV P):=fun A env g σ s x x' t t' y Q E rm w q q' e hq=>by
 unfold jA at e
 obtain ⟨i,j,p,p',rfl,rfl,e1⟩:=de q q' e
 obtain ⟨c,rfl⟩:=cr e1
 exact PySem.P.mul_int (cQ w hq) ((Bool.or_eq_true_iff.mp c).elim (fun q=>.of_left (sI q)) fun q=>.of_right (sI q))
theorem am.neg {e:Expr}{p:PE}{pos:Pos}(h:am P B C e p (RX P)):am P B C (.UnaryOp .USub e pos) (p1 j8 p) (RV P):=
 (h.xy.op1 (N:=BA P (unaryOp .USub)) j2 fun A env g σ s x t y Q E rm w r e hq=>by
  obtain ⟨i,e1,e2⟩:=ar e
  obtain ⟨p,rfl⟩:=r.i e1
  cases e2;exact PySem.P.neg_int (cQ w hq)).map fun _ _ _ _ _=>wpAny_UnaryOp
end
section
variable {P:Pg} {B:bx} {C:Ct}
theorem kZ {i:Int}{n k:Nat}(h:seqIndex? i n=some k):(0≤i∧k=i.toNat∧i < n)∨(i < 0∧-(n:Int)≤i∧k=(i+n).toNat):=by
 have h:(if (decide (0≤(if i < 0 then i+n else i))&&decide ((if i < 0 then i+n else i) < (n:Int)))=true then some (if i < 0 then i+n else i).toNat else none)=some k:=h
 by_cases q:i < 0
 ·rw [if_pos q] at h
  cases c:decide (0≤i+(n:Int))&&decide (i+(n:Int) < (n:Int)) with
  |false=>rw [c] at h;cases h
  |true=>
   rw [c] at h;cases h
   exact .inr ⟨q,by have:=of_decide_eq_true (Bool.and_eq_true_iff.mp c).1;lia -abstractProof,rfl⟩
 ·rw [if_neg q] at h
  cases c:decide (0≤i)&&decide (i < (n:Int)) with
  |false=>rw [c] at h;cases h
  |true=>
   rw [c] at h;cases h
   exact .inl ⟨of_decide_eq_true (Bool.and_eq_true_iff.mp c).1,rfl,of_decide_eq_true (Bool.and_eq_true_iff.mp c).2⟩
theorem yg {p:Str}{c:Nat}{k:Option Nat}(g:PyData.strOk p=true)(hv:k.bind (p.cps[·]?)=some c):PyData.strOk ⟨#[c]⟩=true:=by
 obtain ⟨k,_,hk⟩:=Option.bind_eq_some_iff.mp hv
 simp only [PyData.strOk,Array.all_eq_true,decide_eq_true_eq] at g ⊢
 intro j hj
 obtain ⟨hk1,hk2⟩:=Array.getElem?_eq_some_iff.mp hk
 have:=g k hk1
 simp at hj;subst hj
 simpa [hk2] using this
theorem aP.size {g:Gh}{h:Heap}{ts:List T}{vs:Array Value}(r:aP P g h ts vs.toList):vs.size=ts.length:=r.length
theorem pP {i:Int}(h:sm i=true):-(2 ^ 63:Int)≤i∧i < 2 ^ 63:=
 have q:(i.natAbs:Int)≤1000000000:=Int.ofNat_le.mpr (u8 h)
 ⟨Int.neg_le_of_neg_le (Int.le_trans (Int.le_trans (Int.natAbs_neg i▸Int.le_natAbs) q) (by decide)),Int.lt_of_le_of_lt (Int.le_trans Int.le_natAbs q) (by decide)⟩
inductive Ff (i:Int) (ts:List T) (y:T):Prop
 |mk (k:Nat) (s:sm i=true) (hk:seqIndex? i ts.length=some k) (hx:ts[k]?=some y)
theorem qU {i:Int}{ts:List T}{y:T}(h:xP i ts=some y):Ff i ts y:=by
 unfold xP at h
 cases q:sm i with
 |false=>rw [q] at h;cases h
 |true=>rw [q] at h;obtain ⟨k,h1,h2⟩:=ar h;exact ⟨k,q,h1,h2⟩
theorem n5.rp {g:Gh}{h:Heap}:∀{ns:List Int} {vs:List Value},n5 ns vs→aP P g h (ns.map T.int) vs
 | [],_,r=>r
 |_::_,_,⟨t,vs',e,r⟩=>⟨_,vs',e,⟨t,rfl⟩,n5.rp r⟩
theorem qp {A:Around}{g:Gh}{σ:Sg}{s:Shared}{ts:List T}{l:Addr}{items:Array Value}{i:Int}{p:Tok}{y:T}{Q:Value→Shared→Prop}{E:Value→Shared→Prop}(w:bp P g s.heap σ)(hl:s.heap.IsList l items)(r:aP P g s.heap ts items.toList)(e:xP i ts=some y)
  (hq:∀u s' g',aC g s g' s'→bp P g' s'.heap σ→Rp P g' s'.heap y u→Q u s'):wpAny P.M A (getItem (.ref l) (.int i p)) Q E s:=by
 obtain ⟨k,hs,hk,hx⟩:=qU e
 obtain ⟨u,hu,hR⟩:=r.get hx
 rw [Array.getElem?_toList] at hu
 have hlen:items.size=ts.length:=r.length
 rcases kZ hk with ⟨h0,rfl,h1⟩ | ⟨h0,h1,rfl⟩
 ·exact wpAny_getItem_list hl h0 (pP hs).2 hu (hq u s g (.refl g s) w hR)
 ·rw [←hlen] at h1 hu
  exact wpAny_getItem_list_neg hl h0 h1 (pP hs).1 (x:=u) hu (hq u s g (.refl g s) w hR)
noncomputable abbrev xE (P:Pg)(value slice:Expr):W2 Value:=fun A _ x y Q E s=>wpAny P.M A (subscriptTail value slice x y) Q E s
theorem vF {value slice:Expr}(hs:∀x y,subscripted slice false x y=operate [x,y] (getItem x y)):pE P (xE P value slice) aj (RV P):=fun A env g σ s x x' t t' y Q E rm w q q' e hq=>by
 obtain ⟨i,e1,e2⟩:=ar e
 obtain ⟨p,rfl⟩:=q'.i e1
 cases e3:fZ t with
 |some ts=>
  rw [e3] at e2
  rcases q.sq e3 with ⟨a,vs,n,rfl,h1,l,r⟩ | ⟨a,vs,n,rfl,h1,l,r⟩
  ·obtain ⟨k,h2,hk,hx⟩:=qU e2
   obtain ⟨u,hu,hR⟩:=r.get hx
   rw [Array.getElem?_toList] at hu
   rw [show ts.length=vs.size from r.length.symm] at hk
   exact tail_any ⟨_,h1,rfl⟩ slot_tuple_getitem.lookup (PySem.P.getItem_tuple h1 (pP h2).1 (pP h2).2 hk hu (hq u s g (.refl g s) w hR)) (hs _ _)
  ·have hl:s.heap.IsList a vs:=⟨_,h1,rfl,n,rfl⟩
   exact tail_any hl.typeIs slot_list_getitem.lookup (qp w hl r e2 hq) (hs _ _)
 |none=>cases e4:BN t with
  |some ns=>
   rw [e3,e4] at e2
   obtain ⟨a,items,rfl,⟨o,g1,g2⟩,_,r⟩:=q.n e4
   have hl:s.heap.IsList a items:=⟨o,(w.base _ _ g1).2,g2⟩
   exact tail_any hl.typeIs slot_list_getitem.lookup (qp w hl r.rp e2 hq) (hs _ _)
  |none=>
   rw [e3,e4] at e2
   obtain ⟨z,e5,e6⟩:=ar e2
   obtain ⟨⟨g1,g2⟩,p',rfl⟩:=q.s e5
   unfold sG at e6
   cases h2:sm i with
   |false=>rw [h2] at e6;cases e6
   |true=>
    rw [h2] at e6
    obtain ⟨c,hv,rfl⟩:=Option.map_eq_some_iff.mp e6
    have hlo:=pP h2
    exact tail_any (typeIs_str s z p') slot_str_getitem.lookup (getItem_str (by simp;lia -abstractProof) hv (hq _ _ g (.toks g s _) w ⟨⟨yg g1 hv,show (1:Nat)≤lim by decide⟩,_,rfl⟩)) (hs _ _)
theorem am.idx {a i:Expr}{pa pi:PE}{pos:Pos}(hs:∀x y,subscripted i false x y=operate [x,y] (getItem x y))(ha:am P B C a pa (RX P))(hi:am P B C i pi (RX P)):am P B C (.Subscript a i pos) (p2 aj pa pi) (RV P):=
 (ha.op2 hi.xy j2 (vF hs)).map fun _ _ _ _ _=>Subscript_
theorem aP.cut {g:Gh}{h:Heap}{ts:List T}{xs:List Value}(r:aP P g h ts xs)(lo hi:Option Int):aP P g h (Mine.cut lo hi ts) (Mine.cut lo hi xs):=by
 unfold Mine.cut
 rw [r.length]
 exact (r.drop _).take _
theorem d5 {α:Type}(lo hi:Option Int)(xs:List α):(cut lo hi xs).length≤xs.length:=Nat.le_trans (List.length_take_le' _ _) (by rw [List.length_drop];exact Nat.sub_le _ _)
theorem zj {α:Type}{lo hi:Option Int}{xs:List α}{a:α}(h:a∈cut lo hi xs):a∈xs:=List.mem_of_mem_drop (List.mem_of_mem_take h)
theorem vv (items:Array Value)(lo hi:Option Int):slicePick items lo hi none=(cut lo hi items.toList).toArray:=by
 rw [slicePick_plain];simp [cut]
theorem zp (n:Nat)(i:Int):clipAt n i≤n:=Int.toNat_le.mpr (Int.max_le.mpr ⟨Int.natCast_nonneg n,Int.min_le_right _ _⟩)
theorem sC (lo hi:Option Int)(n:Nat):Builtin.Slice.sliceAdjust lo hi 1 (n:Int)=(((lo.elim 0 (clipAt n):Nat):Int),((hi.elim n (clipAt n):Nat):Int)):=by
 unfold Builtin.Slice.sliceAdjust
 have h1:¬((1:Int) < 0):=by lia -abstractProof
 simp only [h1,if_false]
 have one:∀i:Int,(if i < 0 then max (i+(n:Int)) 0 else min i (n:Int))=((clipAt n i:Nat):Int):=fun i=>by
  rw [clipAt_cast]
  by_cases q:i < 0
  ·rw [if_pos q,if_pos q,Int.min_eq_left (Int.add_le_of_le_sub_right (by rw [Int.sub_self];exact Int.le_of_lt q)),Int.max_comm]
  ·rw [if_neg q,if_neg q,Int.max_eq_right (Int.le_min.mpr ⟨Int.not_lt.mp q,Int.natCast_nonneg n⟩)]
 cases lo<;>cases hi<;>simp [one]
theorem rL (a b:Nat):Builtin.Slice.slicePlaces (a:Int) (b:Int) 1=b - a:=by
 unfold Builtin.Slice.slicePlaces
 rw [if_pos (show (1:Int) > 0 by decide)]
 by_cases q:(a:Int) < b
 ·rw [if_pos q,Int.ediv_one];lia
 ·rw [if_neg q,Nat.sub_eq_zero_of_le (Int.ofNat_le.mp (Int.not_lt.mp q))];rfl
theorem t6 (xs:Array Value)(a m:Nat):((List.range m).filterMap fun (k:Nat)=>xs[((a:Int)+(k:Int) * 1).toNat]?)=(xs.toList.drop a).take m:=by
 have e:(fun (k:Nat)=>xs[((a:Int)+(k:Int) * 1).toNat]?)=fun k=>xs[a+k]?:=by
  funext k
  have:((a:Int)+(k:Int) * 1).toNat=a+k:=by lia -abstractProof
  rw [this]
 rw [e]
 have:=pick_run xs a m
 rw [List.filterMap_map] at this
 exact this
theorem iQ {prog:Program}{w:World}{A:Around}{E:Value→Shared→Prop}{s:Shared}{v:Value}{i:Option Int}{Q:Option Int→Shared→Prop}(p:IsPart v i)(h:Q i s):wpAny (model prog w) A (Builtin.Slice.slicePartIndex v) Q E s:=by
 cases p with
 |none=>exact slicePart_none h
 |int i t=>exact slicePart_int h
theorem i7 {prog:Program}{w:World}{A:Around}{E:Value→Shared→Prop}{s:Shared}{t sl:Addr}{items:Array Value}{n:Nat}{vl vu:Value}{lo hi:Option Int}{Q:Value→Shared→Prop}(ht:IsT s.heap t items n)(hs:s.heap.IsSliceOf sl vl vu .none)(pl:IsPart vl lo)(pu:IsPart vu hi)
  (h1:cut lo hi items.toList=items.toList→Q (.ref t) s)
  (h:Q (.ref s.heap.objs.size) {s with heap:=s.heap.push {cls:=.type "tuple",data:=.seq (cut lo hi items.toList).toArray}})
  (hsz:items.size≤sizeLine):wpAny (model prog w) A (getItem (.ref t) (.ref sl)) Q E s:=by
 have hT:s.TypeIs (.ref t) "tuple":=⟨_,ht,rfl⟩
 have hI:IsTup s.heap t items:=⟨_,ht,rfl,n,rfl⟩
 have hdrop:sizeOk (.seq (cut lo hi items.toList).toArray):=by
  show (cut lo hi items.toList).toArray.size≤sizeLine
  rw [List.size_toArray]
  have:=d5 lo hi items.toList
  simp at this;lia -abstractProof
 obtain ⟨os,hos,hcs,hds⟩:=id hs
 have hTs:s.TypeIs (.ref sl) "slice":=⟨os,hos,hcs⟩
 unfold getItem
 try with_reducible refine wpAny_holding ?_
 first |refine wpAny_bind (wpAny_pure ?_) |skip
 refine wpAny_bind (wpAny_sequenceKey hT (by decide) ?_)
 refine wpAny_bind (wpAny_callSpecial?_slot (name:=ofString "__getitem__") hT slot_tuple_getitem
  (wpAny_call_entry slot_tuple_getitem hT entry_tuple_getitem ?_ (args_tuple_getitem _ _)))
 show wpAny _ _ (Builtin.Tuple.tupleItemsOf (.ref t) >>=_) _ _ s
 refine wpAny_bind (tupleItemsOf_ hI ?_)
 refine wpAny_bind (wpAny_typeOf hTs ?_)
 rw [if_pos (by decide)]
 have app:∀(Q':Int×Int×Nat→Shared→Prop) (E':Value→Shared→Prop) (A':Around),Q' (((lo.elim 0 (clipAt items.size):Nat):Int),1,hi.elim items.size (clipAt items.size) - lo.elim 0 (clipAt items.size)) s→wpAny (model prog w) A' (Builtin.Slice.sliceApplied (.ref sl) (pure (items.size:Int))) Q' E' s:=fun Q' E' A' hq=>by
  unfold Builtin.Slice.sliceApplied Builtin.Slice.sliceFields
  refine wpAny_bind (wpAny_bind (wpAny_field hos hds (x:=vl) rfl (wpAny_bind (wpAny_field hos hds (x:=vu) rfl (wpAny_bind (wpAny_field hos hds (x:=.none) rfl (wpAny_pure ?_)))))))
  refine wpAny_bind (slicePart_none ?_)
  show wpAny _ _ (if ((1:Int)==0)=true then _ else _) _ _ s
  rw [if_neg (by decide)]
  refine wpAny_bind (iQ pl (wpAny_bind (iQ pu (wpAny_bind (wpAny_pure ?_)))))
  show wpAny _ _ (match Builtin.Slice.sliceAdjust lo hi 1 (items.size:Int) with | (lo,hi)=>pure (lo,(1:Int),Builtin.Slice.slicePlaces lo hi 1)) _ _ s
  rw [sC]
  show wpAny _ _ (pure (_,(1:Int),Builtin.Slice.slicePlaces _ _ 1)) _ _ s
  rw [rL]
  exact wpAny_pure hq
 refine wpAny_bind (app _ _ _ ?_)
 dsimp only
 have ecut:cut lo hi items.toList=(items.toList.drop (lo.elim 0 (clipAt items.size))).take (hi.elim items.size (clipAt items.size) - lo.elim 0 (clipAt items.size)):=by simp [cut]
 by_cases hw:(((lo.elim 0 (clipAt items.size):Nat):Int)==0&&(1:Int)==1&&(hi.elim items.size (clipAt items.size) - lo.elim 0 (clipAt items.size))==items.size)=true
 ·have hq:Q (.ref t) s:=h1 (by
   simp only [Bool.and_eq_true,beq_iff_eq] at hw
   have z:lo.elim 0 (clipAt items.size)=0:=by lia -abstractProof
   rw [ecut,hw.2,z,List.drop_zero,List.take_of_length_le (by simp)])
  rw [if_pos hw]
  refine wpAny_bind ?_
  unfold Builtin.Tuple.tupleIsExact
  refine wpAny_bind (wpAny_typeOf hT (wpAny_pure ?_))
  rw [if_pos (by decide)]
  first
   |exact wpAny_bind (wpAny_rule (wpAny_pure ⟨_,rfl,wpAny_pure hq⟩))
   |exact wpAny_bind (wpAny_rule (wpAny_bind (wpAny_pure (wpAny_pure ⟨_,rfl,wpAny_pure hq⟩))))
   |exact wpAny_bind (wpAny_rule (wpAny_bind (wpAny_pure (wpAny_pure ⟨_,rfl,hq⟩))))
   |exact wpAny_bind (wpAny_rule (wpAny_pure ⟨_,rfl,hq⟩))
 ·rw [if_neg hw,t6,←ecut]
  first
   |exact wpAny_bind (m:=Builtin.Tuple.tupleExact _) (wpAny_newObj_type (wpAny_pure ⟨_,rfl,wpAny_pure h⟩) hdrop)
   |exact wpAny_bind (m:=Builtin.Tuple.tupleExact _) (wpAny_newObj_type (wpAny_bind (wpAny_pure (wpAny_pure ⟨_,rfl,wpAny_pure h⟩))) hdrop)
   |exact wpAny_bind (wpAny_bind (m:=Builtin.Tuple.tupleExact _) (wpAny_newObj_type (wpAny_pure (wpAny_pure ⟨_,rfl,wpAny_pure h⟩)) hdrop))
   |exact wpAny_bind (wpAny_bind (m:=Builtin.Tuple.tupleExact _) (wpAny_newObj_type (wpAny_pure ⟨_,rfl,wpAny_pure h⟩) hdrop))
theorem tf (lo hi:Option Int)(n:Nat):Builtin.Str.strSliceIndices lo hi 1 n=(List.range (hi.elim n (clipAt n) - lo.elim 0 (clipAt n))).map (lo.elim 0 (clipAt n)+·):=by
 have:Builtin.Str.strSliceIndices lo hi 1 n=sliceRange (sliceBounds lo hi none n).1 (sliceBounds lo hi none n).2.1 (sliceBounds lo hi none n).2.2:=rfl
 rw [this,sliceBounds_plain,sliceRange_one]
theorem t5 (x:Str)(lo hi:Option Int):(Builtin.Str.strSliceIndices lo hi 1 x.length).filterMap (x.cps[·]?)=cut lo hi x.cps.toList:=by
 rw [tf,pick_run];simp [cut,Str.length]
theorem r6 (x:Str)(lo hi:Option Int)(h:(Builtin.Str.strSliceIndices lo hi 1 x.length).length=x.length):eS lo hi x=x:=by
 have hl:=h
 rw [tf] at hl
 simp only [List.length_map,List.length_range] at hl
 have hle:hi.elim x.length (clipAt x.length)≤x.length:=by
  cases hi with
  |none=>exact Nat.le_refl _
  |some i=>exact zp _ i
 have e:cut lo hi x.cps.toList=x.cps.toList:=by
  unfold cut
  simp only [Array.length_toList]
  change _=_
  by_cases hx:x.length=0
  ·have:x.cps.toList=[]:=by have:x.cps.size=0:=hx;simpa using this
   rw [this];simp
  ·have z:lo.elim 0 (clipAt x.cps.size)=0:=by show lo.elim 0 (clipAt x.length)=0;lia
   have z':hi.elim x.cps.size (clipAt x.cps.size)=x.cps.size:=by show hi.elim x.length (clipAt x.length)=x.length;lia
   rw [z,z',List.drop_zero,List.take_of_length_le (by simp)]
 unfold eS
 rw [e]
theorem tP {x:Str}(h:PyData.strOk x=true)(lo hi:Option Int):PyData.strOk (eS lo hi x)=true:=by
 simp only [PyData.strOk,Array.all_eq_true',decide_eq_true_eq] at h ⊢
 intro c hc
 exact h c (Array.mem_toList_iff.mp (zj (by simpa [eS] using hc)))
set_option tactic.hygienic true in
theorem kg {prog:Program}{w:World}{A:Around}{E:Value→Shared→Prop}{s:Shared}{x:Str}{t:Tok}{sl:Addr}{vl vu:Value}{lo hi:Option Int}{Q:Value→Shared→Prop}(hs:s.heap.IsSliceOf sl vl vu .none)(pl:IsPart vl lo)(pu:IsPart vu hi)
  (h:∀t' tk,Q (.str (eS lo hi x) t') {s with toks:=tk})(hsz:x.length≤lim):wpAny (model prog w) A (getItem (.str x t) (.ref sl)) Q E s:=by
 have part:∀{v:Value} {i:Option Int},IsPart v i→∃p:Option (Int×Tok),v=partValue p∧p.map (·.1)=i:=fun p=>by
  cases p with
  |none=>exact ⟨none,rfl,rfl⟩
  |int i t=>exact ⟨some (i,t),rfl,rfl⟩
 obtain ⟨l,rfl,rfl⟩:=part pl
 obtain ⟨u,rfl,rfl⟩:=part pu
 refine wpAny_getItem_str_slice (l:=l) (u:=u) (st:=none) ?_ rfl ?_
 ·obtain ⟨o,e1,e2,e3⟩:=hs
  exact ⟨o,e1,e2,e3⟩
 ·unfold sliceMade
  have e:slicePicked x l u none=Builtin.Str.strSliceIndices (l.map (·.1)) (u.map (·.1)) 1 x.length:=rfl
  split
  ·rename_i hw
   simp only [e,Bool.and_eq_true,beq_iff_eq] at hw
   have:=h t s.toks
   rw [r6 x _ _ hw.2] at this
   exact this
  ·rw [e,t5]
   exact ⟨by
    have:=d5 (l.map (·.1)) (u.map (·.1)) x.cps.toList
    show (cut (l.map (·.1)) (u.map (·.1)) x.cps.toList).toArray.size≤sizeLine
    simp at this ⊢
    have h2:x.cps.size≤lim:=hsz
    simp only [lim,sizeLine] at *
    lia -abstractProof,h s.toks (s.toks+1)⟩
noncomputable abbrev qY (P:Pg)(B:bx)(C:Ct)(e:Option Expr)(p:PO):Prop:=cX P B C (P.W fun env=>valueOrNone (evalOpt e env)) p fun _ _ _ i x=>IsPart x i
theorem qY.none:qY P B C Option.none iw:=.now fun _ _ _ _ _ _ _ _ _ _ _ _ hq=>wpAny_pure (hq _ _ _ rfl .none)
theorem qY.some {e:Expr}{p:PE}(h:am P B C e p (RX P)):qY P B C (Option.some e) (p1 ck p):=
 (h.xy.op1 (N:=fun A _ x Q E s=>Q x s) (fun _ _ _ _ _ _ _ r=>r) fun A env g σ s x t y Q E rm w q e hq=>by
  obtain ⟨i,e1,e2⟩:=ar e
  obtain ⟨p,rfl⟩:=q.i e1
  cases e2;exact hq _ s g (.refl g s) w (.int i p)).map fun _ _ _ _ _ h=>h
theorem wW {lo hi:Option Int}{xs:List T}{ys:List Value}(hl:ys.length=xs.length)(h:cut lo hi ys=ys):cut lo hi xs=xs:=by
 have e:=congrArg List.length h
 unfold cut at e ⊢
 rw [List.length_take,List.length_drop,hl] at e
 cases xs with
 |nil=>simp
 |cons y ys=>
  generalize lo.elim 0 (clipAt (y::ys).length)=a at *
  generalize hi.elim (y::ys).length (clipAt (y::ys).length)=b at *
  have hp:0 < (y::ys).length:=Nat.succ_pos _
  have z:a=0:=Nat.eq_zero_of_not_pos fun q=>Nat.not_le.mpr (Nat.sub_lt hp q) (Nat.le_trans (Nat.le_of_eq e.symm) (Nat.min_le_right _ _))
  subst z
  exact List.take_of_length_le (Nat.le_trans (Nat.le_of_eq e.symm) (Nat.min_le_left _ _))
noncomputable abbrev Dg (vl vu:Value):Obj:={cls:=.type "slice",data:=.fields #[vl,vu,.none]}
theorem uA {z:Str}(lo hi:Option Int)(h:z.length≤lim):(eS lo hi z).length≤lim:=Nat.le_trans (by
 show (cut lo hi z.cps.toList).toArray.size≤_
 rw [List.size_toArray];exact d5 lo hi _) h
theorem AB {A:Around}{g:Gh}{σ:Sg}{s:Shared}{t y:T}{x vl vu:Value}{lo hi:Option Int}{value slice:Expr}{Q:Value→Shared→Prop}{E:Value→Shared→Prop}(w:bp P g s.heap σ)(q:jQ P g s.heap t x)(pl:IsPart vl lo)(pu:IsPart vu hi)(e:bE t lo hi=some y)
  (hs:∀x i,subscripted slice false x i=operate [i,x] (getItem x i))(hq:∀u s' g',aC g s g' s'→bp P g' s'.heap σ→Rp P g' s'.heap y u→Q u s'):
  wpAny P.M A (subscriptTail value slice x (.ref s.heap.objs.size)) Q E {s with heap:=s.heap.push (Dg vl vu)}:=by
 have p:aC g s g {s with heap:=s.heap.push (Dg vl vu),toks:=s.toks}:=.push _ _
 have w':bp P g (s.heap.push (Dg vl vu)) σ:=w.push _
 have hsl:=Heap.IsSliceOf.new s.heap vl vu .none
 have q':=(jQ.post w p q).y
 have hq':∀u s' g',aC g {s with heap:=s.heap.push (Dg vl vu)} g' s'→bp P g' s'.heap σ→Rp P g' s'.heap y u→Q u s':=fun u s' g' p'=>hq u s' g' (p.trans p')
 unfold bE at e
 cases e1:pf t with
 |some ts=>
  rw [e1] at e;cases e
  have qt:=q'.tu e1
  obtain ⟨l,rfl,f,vs,n,g1,g3,g2⟩:=id qt
  have hl:=Nat.le_trans (d5 lo hi ts) g3
  refine tail_any ⟨_,g1,rfl⟩ slot_tuple_getitem.lookup (i7 (lo:=lo) (hi:=hi) g1 hsl pl pu (fun e=>?_) (rt (tk:=s.toks) w' (g2.cut lo hi) hl hq') (ba (g2.size▸g3))) (hs _ _)
  exact hq' _ _ g (.refl _ _) w' (by rw [wW g2.length e];exact qt)
 |none=>cases e2:fR t with
  |some ts=>
   rw [e1,e2] at e;cases e
   obtain ⟨l,rfl,vs,n,g1,g3,g2⟩:=q'.ls e2
   have hl:=Nat.le_trans (d5 lo hi ts) g3
   refine tail_any ⟨_,g1,rfl⟩ slot_list_getitem.lookup (wpAny_getItem_list_slice (lo:=lo) (hi:=hi) (st:=none) ⟨_,g1,rfl,n,rfl⟩ hsl pl pu .none (by simp) ?_ (ba (g2.size▸g3))) (hs _ _)
   rw [vv]
   exact i4 (tk:=s.toks) w' (g2.cut lo hi) hl hq'
  |none=>
   rw [e1,e2] at e
   obtain ⟨z,e3,e4⟩:=ar e
   obtain ⟨⟨g1,g2⟩,p',rfl⟩:=q'.s e3
   cases e4
   exact tail_any (typeIs_str _ z p') slot_str_getitem.lookup (kg hsl pl pu (fun t' tk=>hq' _ _ g (.toks _ _ tk) w' ⟨⟨tP g1 lo hi,uA lo hi g2⟩,_,rfl⟩) g2) (hs _ _)
theorem am.slc {a:Expr}{lo hi:Option Expr}{pa:PE}{pl ph:PO}{p pos:Pos}(ha:am P B C a pa (RX P))(hl:qY P B C lo pl)(hh:qY P B C hi ph):am P B C (.Subscript a (.Slice lo hi Option.none p) pos) (p3 bE pa pl ph) (RV P):=
 (ha.bind (N:=fun A env x Q E s=>wpAny P.M A (eval (.Slice lo hi Option.none p) env) (fun y s₂=>wpAny P.M A (subscriptTail a (.Slice lo hi Option.none p) x y) Q E s₂) E s) (F:=fun c ρ k t σ=>pl c ρ σ fun b σ=>ph c ρ σ fun x σ=>up (bE t b x) σ k) (R':=RV P) j2
  fun n A env g g₁ ρ σ s s₁ x t k Q E p X r hb hq=>by
   rw [arm_eval_Slice]
   refine wpAny_bind (hl n A env g₁ ρ σ s₁ _ _ _ X hb fun vl s₂ g₂ l σ₂ e₂ p₂ w₂ k₂=>?_)
   refine wpAny_bind (wpAny_holding (hh n A env g₂ ρ σ₂ s₂ _ _ _ (X.post p₂ w₂) (fun q=>hb (e₂.trans q)) fun vu s₃ g₃ h σ₃ e₃ p₃ w₃ k₃=>?_))
   refine wpAny_bind (wpAny_holding (wpAny_pure (wpAny_newObj_type ?_ (by show (3:Nat)≤sizeLine+2;decide))))
   obtain ⟨y,e⟩:=bS fun q=>hb (e₂.trans (e₃.trans q))
   exact AB w₃ (jQ.post w₂ p₃ (jQ.post X.g p₂ r)) k₂ k₃ e (fun _ _=>rfl) fun u s' g' p w r=>hq u s' g' y σ₃ (e₂.trans (e₃.trans (by rw [e];rfl))) ((p₂.trans p₃).trans p) w r).map fun _ _ _ _ _=>Subscript_
end
structure aM (V W:List Addr) (g:Gh) (s:Shared) (g':Gh) (s':Shared):Prop where
 st:∃h' tk,s'={s with heap:=h',toks:=tk}
 keep:∀a o,s.heap.get? a=some o→¬g.Z a→¬g.O a→a∉W→s'.heap.get? a=some o
 back:∀a,a∉V→s'.heap.get? a=none→s.heap.get? a=none
 F:∀a,g.F a→g'.F a
 Fn:∀a,g'.F a→g.F a∨g.O a∨s.heap.get? a=none
 Zn:∀a,g'.Z a→g.Z a∨s.heap.get? a=none
 On:∀a,g'.O a→g.O a∨s.heap.get? a=none
 sp:g'.sp=g.sp
 sa:g'.sa=g.sa
structure bC (V W:List Addr) (g:Gh) (s:Shared) (g':Gh) (s':Shared):Prop where
 st:∃h' tk,s'={s with heap:=h',toks:=tk}
 keep:∀a o,s.heap.get? a=some o→¬g.Z a→a∉W→s'.heap.get? a=some o
 back:∀a,a∉V→s'.heap.get? a=none→s.heap.get? a=none
 F:∀a,g.F a→g'.F a
 Fn:∀a,g'.F a→g.F a∨s.heap.get? a=none
 Zn:∀a,g'.Z a→g.Z a∨s.heap.get? a=none
 o:g'.o=g.o
 sp:g'.sp=g.sp
 sa:g'.sa=g.sa
inductive Em (P:Pg) (g:Gh) (h:Heap) (g':Gh) (h':Heap) (t:T) (x:Value):Prop
 |mk (a:Addr) (e:x=.ref a) (n:g.O a∨h.get? a=none) (f:¬g'.F a) (z:¬g'.Z a) (r:gN P g' h' a t)
noncomputable def qZ (P:Pg)(fr:Bool)(g:Gh)(h:Heap)(g':Gh)(h':Heap)(t:T)(x:Value):Prop:=match fr with
 |false=>Rp P g' h' t x
 |true=>Em P g h g' h' t x
noncomputable def c7 (P:Pg)(B:bx)(C:Ct)(fr:Bool)(C':Ct)(W:WP Flow)(p:PS):Prop:=
 ∀n A env g ρ σ s (k:PK aH) (Q:Flow→Shared→Prop) (E:Value→Shared→Prop),At P B C n A env g ρ σ s→p (P.cx n) ρ σ k≠.bad→
  (∀s' g' ρ' σ',p (P.cx n) ρ σ k=k ρ' σ'→aM [] (own env) g s g' s'→At P B C' n A env g' ρ' σ' s'→Q .next s')→
  (∀x s' g' t σ',p (P.cx n) ρ σ k=.ret t σ'→aM [] (own env) g s g' s'→bp P g' s'.heap σ'→qZ P fr g s.heap g' s'.heap t x→Q (.ret x) s')→W A env Q E s
noncomputable abbrev aF (P:Pg)(B:bx)(C:Ct)(fr:Bool)(C':Ct)(st:Stmt)(p:PS):Prop:=c7 P B C fr C' (P.W fun env=>exec st env) p
noncomputable abbrev gM (P:Pg)(B:bx)(C:Ct)(fr:Bool)(C':Ct)(ss:List Stmt)(p:PS):Prop:=c7 P B C fr C' (P.W fun env=>execs ss env) p
section
variable {P:Pg} {B:bx} {C C' C'':Ct} {fr:Bool} {n:Nat} {A:Around} {env:Env} {g g' g₁ g₂:Gh} {ρ:aH} {σ:Sg} {s s' s₁ s₂:Shared} {h h':Heap}
theorem aC.toS {W:List Addr}(p:aC g s g' s'):aM [] W g s g' s':=⟨p.st,fun a o e z _ _=>p.keep a o e z,fun a _=>p.back a,p.F,fun a f=>(p.Fn a f).imp_right .inr,p.Zn,fun a ⟨i,q⟩=>.inl ⟨i,p.o▸q⟩,p.sp,p.sa⟩
theorem aM.b {W:List Addr}(p:aM [] W g s g₁ s₁)(a:Addr):s₁.heap.get? a=none→s.heap.get? a=none:=p.back a (fun q=>nomatch q)
theorem aM.trans {V W:List Addr}(p:aM [] W g s g₁ s₁)(q:aM V W g₁ s₁ g₂ s₂):aM V W g s g₂ s₂ where
 st:=St.trans p.st q.st
 keep a o e z o' w:=q.keep a o (p.keep a o e z o' w) (fun x=>(p.Zn a x).elim z (an e)) (fun x=>(p.On a x).elim o' (an e)) w
 back a v e:=p.b a (q.back a v e)
 F a f:=q.F a (p.F a f)
 Fn a f:=(q.Fn a f).elim (p.Fn a) fun x=>.inr (x.elim (p.On a) fun x=>.inr (p.b a x))
 Zn a f:=(q.Zn a f).elim (p.Zn a) fun x=>.inr (p.b a x)
 On a f:=(q.On a f).elim (p.On a) fun x=>.inr (p.b a x)
 sp:=q.sp.trans p.sp
 sa:=q.sa.trans p.sa
theorem aC.toE {W:List Addr}(p:aC g s g' s'):bC [] W g s g' s':=⟨p.st,fun a o e z _=>p.keep a o e z,fun a _=>p.back a,p.F,p.Fn,p.Zn,p.o,p.sp,p.sa⟩
theorem bC.toS {V W:List Addr}(p:bC V W g s g' s'):aM V W g s g' s':=⟨p.st,fun a o e z _=>p.keep a o e z,p.back,p.F,fun a f=>(p.Fn a f).imp_right .inr,p.Zn,fun a ⟨i,q⟩=>.inl ⟨i,p.o▸q⟩,p.sp,p.sa⟩
theorem bC.weak {V V' W W':List Addr}(p:bC V W g s g' s')(hv:∀a∈V,a∈V')(hw:∀a∈W,a∈W'):bC V' W' g s g' s':={p with keep:=fun a o e z n=>p.keep a o e z fun x=>n (hw a x),back:=fun a n=>p.back a fun x=>n (hv a x)}
theorem aM.weak {W W':List Addr}(p:aM [] W g s g' s')(hw:∀a∈W,a∈W'):aM [] W' g s g' s':={p with keep:=fun a o e z q n=>p.keep a o e z q fun x=>n (hw a x)}
theorem bC.trans {V W:List Addr}(p:bC [] W g s g₁ s₁)(q:bC V W g₁ s₁ g₂ s₂):bC V W g s g₂ s₂:=
 have b:∀a,s₁.heap.get? a=none→s.heap.get? a=none:=fun a=>p.back a (fun q=>nomatch q)
 ⟨St.trans p.st q.st,fun a o e z w=>q.keep a o (p.keep a o e z w) (fun x=>(p.Zn a x).elim z (an e)) w,fun a v e=>b a (q.back a v e),fun a f=>q.F a (p.F a f),fun a f=>(q.Fn a f).elim (p.Fn a) fun x=>.inr (b a x),fun a f=>(q.Zn a f).elim (p.Zn a) fun x=>.inr (b a x),q.o.trans p.o,q.sp.trans p.sp,q.sa.trans p.sa⟩
theorem bC.toP {V W:List Addr}(p:bC V W g s g' s')(hw:∀a∈W,s.heap.get? a=none)(hv:∀a∈V,s.heap.get? a=none):aC g s g' s':=
 ⟨p.st,fun a o e z=>p.keep a o e z fun x=>an e (hw a x),fun a e=>by
  by_cases x:a∈V
  ·exact hv a x
  ·exact p.back a x e,p.F,p.Fn,p.Zn,p.o,p.sp,p.sa⟩
theorem qZ.after {W:List Addr}{t:T}{x:Value}(p:aM [] W g s g₁ s₁)(r:qZ P fr g₁ s₁.heap g' h' t x):qZ P fr g s.heap g' h' t x:=by
 cases fr with
 |false=>exact r
 |true=>exact let ⟨a,e,n,f,z,r⟩:=r;⟨a,e,n.elim (p.On a) fun x=>.inr (p.b a x),f,z,r⟩
theorem c7.map {W W':WP Flow}{p:PS}(h:c7 P B C fr C' W p)(hW:∀A env Q E s,W A env Q E s→W' A env Q E s):c7 P B C fr C' W' p:=fun n A env g ρ σ s k Q E X hb hq hr=>hW A env Q E s (h n A env g ρ σ s k Q E X hb hq hr)
theorem cX.then {α β:Type}{W:WP α}{p:PG β}{R:RR α β}{N:Around→Env→α→(Flow→Shared→Prop)→(Value→Shared→Prop)→Shared→Prop}{F:fT→aH→PK aH→PK β}(h:cX P B C W p R)
  (hf:∀n A env g g₁ ρ σ s s₁ x t (k:PK aH) Q E,aC g s g₁ s₁→At P B C n A env g₁ ρ σ s₁→R s.heap g₁ s₁.heap t x→F (P.cx n) ρ k t σ≠.bad→
   (∀s' g' ρ' σ',F (P.cx n) ρ k t σ=k ρ' σ'→aM [] (own env) g₁ s₁ g' s'→At P B C' n A env g' ρ' σ' s'→Q .next s')→
   (∀x s' g' u σ',F (P.cx n) ρ k t σ=.ret u σ'→aM [] (own env) g₁ s₁ g' s'→bp P g' s'.heap σ'→qZ P fr g₁ s₁.heap g' s'.heap u x→Q (.ret x) s')→N A env x Q E s₁):
  c7 P B C fr C' (fun A env Q E s=>W A env (fun x s₁=>N A env x Q E s₁) E s) (fun c ρ σ k=>p c ρ σ (F c ρ k)):=fun n A env g ρ σ s k Q E X hb hq hr=>
 h n A env g ρ σ s (F _ ρ k) _ E X hb fun x s₁ g₁ t σ₁ e p w r=>hf n A env g g₁ ρ σ₁ s s₁ x t k Q E p (X.post p w) r (fun q=>hb (e.trans q)) (fun s' g' ρ' σ' e' p' X'=>hq s' g' ρ' σ' (e.trans e') (p.toS.trans p') X')
  fun x s' g' u σ' e' p' w' r'=>hr x s' g' u σ' (e.trans e') (p.toS.trans p') w' (qZ.after (W:=own env) p.toS r')
theorem c7.nil:gM P B C fr C [] af:=fun n A env g ρ σ s k Q E X hb hq hr=>wpAny_execs_nil (hq s g ρ σ rfl (aC.refl g s).toS X)
theorem c7.cons {st:Stmt}{ss:List Stmt}{p ps:PS}(h:aF P B C fr C' st p)(hs:gM P B C' fr C'' ss ps):gM P B C fr C'' (st::ss) (ae p ps):=fun n A env g ρ σ s k Q E X hb hq hr=>by
 refine wpAny_execs_cons (h n A env g ρ σ s (fun ρ σ=>ps _ ρ σ k) _ E X hb (fun s₁ g₁ ρ₁ σ₁ e p X₁=>?_) fun x s₁ g₁ t σ₁ e p w r=>hr x s₁ g₁ t σ₁ e p w r)
 exact hs n A env g₁ ρ₁ σ₁ s₁ k Q E X₁ (fun q=>hb (e.trans q)) (fun s' g' ρ' σ' e' p' X'=>hq s' g' ρ' σ' (e.trans e') (p.trans p') X') fun x s' g' t σ' e' p' w' r'=>hr x s' g' t σ' (e.trans e') (p.trans p') w' (qZ.after p r')
theorem aF.if {t:Expr}{a b:List Stmt}{pt:PT}{pa pb:PS}{pos:Pos}(ht:cb P B C t pt)(h1:gM P B C fr C' a pa)(h2:gM P B C fr C' b pb):aF P B C fr C' (.If t a b pos) (be pt pa pb):=
 (ht.then (N:=fun A env q Q E s=>wpAny P.M A (if q=true then execs a env else execs b env) Q E s) (F:=fun c ρ k q σ=>bif q then pa c ρ σ k else pb c ρ σ k) fun n A env g g₁ ρ σ s s₁ x t k Q E p X r hb hq hr=>by
  cases r
  cases x with
  |true=>exact h1 n A env g₁ ρ σ s₁ k Q E X hb hq hr
  |false=>exact h2 n A env g₁ ρ σ s₁ k Q E X hb hq hr).map fun A env Q E s h=>wpAny_If (wpAny_mono h (fun q s₁ h=>by cases q<;>exact h) fun _ _ h=>h)
theorem aF.ret {e:Expr}{p:PE}{pos:Pos}(h:am P B C e p (RV P)):aF P B C false C' (.Return (some e) pos) (au p):=
 (h.then (fr:=false) (N:=fun A env x Q E s=>Q (.ret x) s) (F:=fun c ρ k t σ=>.ret t σ) fun n A env g g₁ ρ σ s s₁ x t k Q E p X r hb hq hr=>hr x s₁ g₁ t σ rfl (aC.refl g₁ s₁).toS X.g r).map fun _ _ _ _ _=>wpAny_Return_some
theorem aF.retN {e:Expr}{p:PE}{pos:Pos}(h:am P B C e p (RN P)):aF P B C true C' (.Return (some e) pos) (au p):=fun n A env g ρ σ s k Q E X hb hq hr=>
 wpAny_Return_some (h n A env g ρ σ s (fun t σ=>.ret t σ) _ E X hb fun x s₁ g₁ t σ₁ e p w r=>hr x s₁ g₁ t σ₁ e p.toS w (let ⟨a,e,n,f,z,o,r⟩:=r;⟨a,e,.inr n,f,z,r⟩))
theorem aF.retO {i:Nat}{y:Str}{k:NameKind}{ep pos:Pos}(hv:bj C i=true)(ht:B.tab[i]?=some (some (y,k))):aF P B C true C' (.Return (some (.Name y ep)) pos) (au (pV i)):=fun n A env g ρ σ s k Q E X hb hq hr=>by
 obtain ⟨t,e⟩:=bS hb
 obtain ⟨u,v,w⟩:=X.env.var i _ t ht e
 refine wpAny_Return_some (bi X ht v (hr u s g t σ (by show up (bz ρ i) σ _=_;rw [e];rfl) (aC.refl g s).toS X.g ?_))
 unfold br at w
 rw [hv] at w
 obtain ⟨a,rfl,o,r⟩:=w
 exact ⟨a,rfl,.inl ⟨i,o⟩,(X.g.O a ⟨i,o⟩).2.1,(X.g.O a ⟨i,o⟩).2.2,r⟩
theorem aF.expr {e:Expr}{p:PE}{pos:Pos}(hw:∀env,swapsWith e none pos.line env=pure false)(h:am P B C e p (RX P)):aF P B C fr C (.Expr e pos) (kN p):=fun n A env g ρ σ s k Q E X hb hq hr=>by
 show wpAny P.M A (exec (.Expr e pos) env) Q E s
 rw [exec_Expr env e pos (by simp [interactive,X.fn]) (hw env)]
 exact wpAny_bind (wpAny_standAt (wpAny_bind (h n A env g ρ σ s (fun _ σ=>k ρ σ) _ _ X hb fun x s₁ g₁ t σ₁ e p w r=>wpAny_dropValue (hq s₁ g₁ ρ σ₁ e p.toS (X.post p w)))))
theorem aF.bad {st:Stmt}:aF P B C fr C' st gZ:=fun n A env g ρ σ s k Q E X hb hq hr=>absurd rfl hb
theorem gR {i j:Nat}{u:T}{v:Option T}:∀{r:aH},bz (r.set i v) j=some u→(j=i∧v=some u)∨(j≠i∧bz r j=some u):=by
 induction i generalizing j with
 |zero=>
  intro r h
  cases r with
  |nil=>cases h
  |cons x r=>
   cases j with
   |zero=>exact .inl ⟨rfl,h⟩
   |succ j=>exact .inr ⟨Nat.succ_ne_zero _,h⟩
 |succ i ih=>
  intro r h
  cases r with
  |nil=>cases h
  |cons x r=>
   cases j with
   |zero=>exact .inr ⟨(Nat.succ_ne_zero _).symm,h⟩
   |succ j=>exact (ih (r:=r) h).imp (fun q=>⟨congrArg Nat.succ q.1,q.2⟩) fun q=>⟨fun e=>q.1 (Nat.succ.inj e),q.2⟩
theorem cN {i j:Nat}{v:Option T}(hn:j≠i):∀{r:aH},bz r j=none→bz (r.set i v) j=none:=fun {r} h=>by
 cases e:bz (r.set i v) j with
 |none=>rfl
 |some u=>exact (gR e).elim (fun q=>(hn q.1).elim) fun q=>by rw [q.2] at h;cases h
theorem fY:∀{tab:List (Option (Str×NameKind))},(tab.filterMap (·.map (·.1))).Nodup→∀{i j:Nat} {x:Str} {k k':NameKind},tab[i]?=some (some (x,k))→tab[j]?=some (some (x,k'))→i=j
 | [],_,i,j,x,k,k',h,_=>nomatch h
 |none::r,hn,i,j,x,k,k',hi,hj=>match i,j,hi,hj with
  |i+1,j+1,hi,hj=>congrArg (·+1) (fY (tab:=r) hn hi hj)
 |some (y,q)::r,hn,i,j,x,k,k',hi,hj=>by
  have hn':(y::r.filterMap (·.map (·.1))).Nodup:=hn
  have out:∀{m:Nat} {q':NameKind},r[m]?=some (some (y,q'))→False:=fun {m q'} h=>(List.nodup_cons.mp hn').1 (List.mem_filterMap.mpr ⟨_,List.mem_of_getElem? h,rfl⟩)
  cases i with
  |zero=>cases j with
   |zero=>rfl
   |succ j=>cases hi;exact (out hj).elim
  |succ i=>cases j with
   |zero=>cases hj;exact (out hi).elim
   |succ j=>exact congrArg (·+1) (fY (tab:=r) (List.nodup_cons.mp hn').2 hi hj)
theorem bx.inj {B:bx}(h:B.ok=true){i j:Nat}{x:Str}{k k':NameKind}(hi:B.tab[i]?=some (some (x,k)))(hj:B.tab[j]?=some (some (x,k'))):i=j:=by
 simp only [bx.ok,Bool.and_eq_true] at h
 exact fY (of_decide_eq_true h.2) hi hj
structure mM (C:Ct) (i:Nat) (C':Ct):Prop where
 m:C'.m=C.m
 o:∀j,j≠i→bj C' j=bj C j
 un:∀j∈C'.U,j≠i∧j∈C.U
noncomputable def bY (C:Ct)(i:Nat)(o:Bool)(C':Ct):Bool:=(C'.m==C.m)&&C.O.all (fun j=>Nat.beq j i||bj C' j)&&C'.O.all (fun j=>Nat.beq j i||bj C j)&&(o==bj C' i)&&C'.U.all (fun j=>!Nat.beq j i&&C.U.any (Nat.beq j))
theorem jj {l:List Nat}{i:Nat}(h:l.any (Nat.beq i)=true):i∈l:=by
 obtain ⟨j,h1,h2⟩:=List.any_eq_true.mp h
 exact Nat.eq_of_beq_eq_true h2▸h1
theorem xo {i j:Nat}(h:i≠j):Nat.beq i j=false:=by
 cases e:Nat.beq i j with
 |false=>rfl
 |true=>exact (h (Nat.eq_of_beq_eq_true e)).elim
theorem dC {i:Nat}{o:Bool}(h:bY C i o C'=true):mM C i C'∧bj C' i=o:=by
 simp only [bY,Bool.and_eq_true,List.all_eq_true,beq_iff_eq,Bool.not_eq_true'] at h
 obtain ⟨⟨⟨⟨h1,h2⟩,h3⟩,h4⟩,h5⟩:=h
 have key:∀{D D':Ct},(∀j∈D.O,(Nat.beq j i||bj D' j)=true)→∀j,j≠i→bj D j=true→bj D' j=true:=fun h j n q=>by
  have:=h j (jj q)
  rw [xo n] at this;exact this
 refine ⟨⟨h1,fun j n=>?_,fun j hj=>⟨fun q=>?_,jj (h5 j hj).2⟩⟩,h4.symm⟩
 ·cases e:bj C j with
  |true=>exact key h2 j n e
  |false=>cases e':bj C' j with
   |false=>rfl
   |true=>rw [key h3 j n e'] at e;cases e
 ·have:=(h5 j hj).1
  rw [q,Nat.beq_refl] at this;cases this
structure Ao (P:Pg) (env:Env) (g:Gh) (s:Shared) (h':Heap) (W:Addr):Prop where
 k:aL g s.heap g h'
 p:∀tk,bC [] [W] g s g {s with heap:=h',toks:=tk}
 lv:∀a,s.heap.get? a≠none→h'.get? a≠none
theorem zN {W:Addr}(x:bV P B C env g ρ s.heap)(w:bp P g s.heap σ)(hW:W∈own env)(ho:∀b,b≠W→h'.get? b=s.heap.get? b)(hl:h'.get? W≠none):Ao P env g s h' W∧bp P g h' σ:=by
 have nf:∀a,g.F a∨g.Z a∨g.O a→h'.get? a=s.heap.get? a:=fun a q=>ho a fun e=>by
  obtain ⟨_,f,z,o⟩:=x.own W hW
  subst e;exact q.elim f fun q=>q.elim z o
 have kf:aL g s.heap g h':=⟨fun a f=>⟨f,fun o e=>(nf a (.inl f)).trans e⟩,rfl⟩
 have lv:∀a,s.heap.get? a≠none→h'.get? a≠none:=fun a l=>by
  by_cases q:a=W
  ·exact q▸hl
  ·rw [ho a q];exact l
 refine ⟨⟨kf,fun tk=>⟨⟨h',tk,rfl⟩,fun a o e _ n=>(ho a fun q=>n (q▸List.mem_singleton.mpr rfl)).trans e,fun a _ e=>?_,fun _ f=>f,fun _ f=>.inl f,fun _ f=>.inl f,rfl,rfl,rfl⟩,lv⟩,
  fun a o e=>⟨(w.base a o e).1,(nf a (.inl (w.base a o e).1)).trans (w.base a o e).2⟩,fun a f=>lv a (w.F a f),fun a z=>⟨lv a (w.Z a z).1,(w.Z a z).2⟩,fun a z=>⟨lv a (w.O a z).1,(w.O a z).2⟩,w.oo,
  ⟨let ⟨t,n,e⟩:=w.spot.1;⟨t,n,(nf _ (.inr (.inl w.spot.2.1))).trans e⟩,w.spot.2⟩,fun c ts e=>(w.self c ts e).mono kf (fun a z=>⟨z,fun o e=>(nf a (.inr (.inl z))).trans e⟩) rfl⟩
 by_cases q:s.heap.get? a=none
 ·exact q
 ·exact (lv a q e).elim
structure Gx (g g':Gh) (i:Nat):Prop where
 F:g'.F=g.F
 Z:g'.Z=g.Z
 sp:g'.sp=g.sp
 sa:g'.sa=g.sa
 o:∀j,j≠i→g'.o j=g.o j
theorem Gx.refl (g:Gh)(i:Nat):Gx g g i:=⟨rfl,rfl,rfl,rfl,fun _ _=>rfl⟩
theorem Gx.k {i:Nat}(x:Gx g g' i)(h:Heap):aL g h g' h:=⟨fun a f=>⟨x.F▸f,fun _ e=>e⟩,x.sp⟩
theorem bV.forget {i:Nat}(x:bV P B C env g ρ h)(hc:mM C i C')(q:Gx g g' i)(hno:∀a∈Mine.own env,¬g'.O a):bV P B C' env g' (ρ.set i none) h:=
 {x with
  own:=fun a ha=>⟨(x.own a ha).1,q.F▸(x.own a ha).2.1,q.Z▸(x.own a ha).2.2.1,hno a ha⟩
  var:=fun j z v hj hv=>by
   rcases gR hv with ⟨_,e⟩ | ⟨n,e⟩
   ·cases e
   ·obtain ⟨u,h1,h2⟩:=x.var j z v hj e
    refine ⟨u,h1,?_⟩
    unfold br at h2 ⊢
    rw [hc.o j n]
    cases e:bj C j with
    |true=>rw [e] at h2;exact let ⟨a,h3,h4,h5⟩:=h2;⟨a,h3,(q.o j n).trans h4,h5.mono (q.k h) fun _ e=>e⟩
    |false=>rw [e] at h2;exact h2.imp (·.mono (q.k h)) fun ⟨a,b,c,d⟩=>⟨hc.m.trans a,b,c,q.sa▸d⟩
  un:=fun j hj=>cN (hc.un j hj).1 (x.un j (hc.un j hj).2)}
theorem bV.put {W:Addr}{i:Nat}{o:Option T}{u:Value}(x:bV P B C env g ρ s.heap)(hi:i∉C.U)(hW:W∈Mine.own env)(T:Ao P env g s h' W)(ho:∀b,b≠W→h'.get? b=s.heap.get? b)
  (hv:cH B env h' i u)(hns:∃m,h'.Ns env.locals m)(hcl:∀c u,s.heap.IsCell c u→∃u',h'.IsCell c u')(hot:∀j v,j≠i→cH B env s.heap j v→cH B env h' j v)(q:∀t,o=some t→br P C g s.heap i t u):bV P B C env g (ρ.set i o) h':=
 have mv:∀{j t u},br P C g s.heap j t u→br P C g h' j t u:=fun v=>v.move T.k rfl rfl fun a ha o e=>(ho a fun q=>(x.own W hW).2.2.2 (q▸ha)).trans e
 {x with
  ns:=hns
  cell:=fun j z kk hj hk=>let ⟨c,u,l,n⟩:=x.cell j z kk hj hk;let ⟨u',n'⟩:=hcl c u n;⟨c,u',l,n'⟩
  own:=fun a ha=>⟨T.lv a (x.own a ha).1,(x.own a ha).2⟩
  var:=fun j z v hj hv'=>(gR hv').elim (fun ⟨e,e'⟩=>by subst e;exact ⟨u,hv,mv (q v e')⟩) fun ⟨n,e⟩=>let ⟨u',h1,h2⟩:=x.var j z v hj e;⟨u',hot j u' n h1,mv h2⟩
  un:=fun j hj=>cN (fun q:j=i=>hi (q▸hj)) (x.un j hj)}
theorem vK {h:Heap}{L c:Addr}{m:Str→Option Value}{u:Option Value}(n:h.Ns L m)(k:h.IsCell c u):c≠L:=fun q=>by
 obtain ⟨o,es,ep,e,d,_⟩:=n
 obtain ⟨o',e',d'⟩:=k
 rw [q,e] at e';cases e';rw [d] at d';cases d'
theorem sX {h:Heap}{L:Addr}{m m':Str→Option Value}(n:h.Ns L m)(n':h.Ns L m'){x:Str}:m x=m' x:=by
 obtain ⟨o,es,ep,e,d,_,f⟩:=n
 obtain ⟨o',es',ep',e',d',_,f'⟩:=n'
 rw [e] at e';cases e';rw [d] at d';cases d'
 exact (f x).symm.trans (f' x)
noncomputable def zO (k:NameKind)(x:Str)(env:Env):List Addr:=match k with
 |.local=>[env.locals]
 |_=>(env.cells.lookup x).toList
theorem cM {k:NameKind}{x:Str}{env:Env}:∀a∈zO k x env,a∈Mine.own env:=fun a ha=>by
 have hc:a∈(env.cells.lookup x).toList→a∈Mine.own env:=fun h=>List.mem_cons_of_mem _ (bh (Option.mem_toList.mp h))
 cases k<;>first |exact hc ha |exact List.mem_cons.mpr (.inl (List.mem_singleton.mp ha))
theorem nq {i:Nat}{y:Str}{k:NameKind}{o:Option T}{u:Value}{Q:Unit→Shared→Prop}{E:Value→Shared→Prop}(X:At P B C n A env g ρ σ s)(hi:i∉C.U)(ht:B.tab[i]?=some (some (y,k)))(hk:k=.local∨k=.cell)(q:∀t,o=some t→br P C g s.heap i t u)
  (hq:∀s',bC [] (zO k y env) g s g s'→At P B C n A env g (ρ.set i o) σ s'→cH B env s'.heap i u→(∀j v,j≠i→cH B env s.heap j v→cH B env s'.heap j v)→Q () s'):wpAny P.M A (storeName env y u) Q E s:=by
 obtain ⟨h1,h2,_,_,_⟩:=bx.look X.env.ok ht
 have hl:env.kindOf y=some k:=show env.scope.names.lookup y=_ from X.env.sc▸h2
 have tab:∀{j z kk},j≠i→B.tab[j]?=some (some (z,kk))→z≠y:=fun n hj e=>n (bx.inj X.env.ok (e▸hj) ht)
 rcases hk with rfl |rfl
 ·obtain ⟨m,hn⟩:=X.env.ns
  refine wpAny_storeName_local hl hn (fun h' hn' hs=>?_) (by rw [X.fn];rfl)
  obtain ⟨T,w⟩:=zN X.env X.g (W:=env.locals) List.mem_cons_self hs.2 (let ⟨o,_,_,e,_⟩:=hn';an e)
  have hot:∀j v,j≠i→cH B env s.heap j v→cH B env h' j v:=fun j v nj hv=>by
   cases hv with
   |loc z m' tz nz ez=>exact .loc z _ tz hn' (by rw [if_neg (tab nj tz),sX hn nz];exact ez)
   |cel z kk c tz hk' l nz=>
    obtain ⟨o,e,d⟩:=id nz
    exact .cel z kk c tz hk' l ⟨o,(hs.2 c (vK hn nz)).trans e,d⟩
  refine hq _ ((T.p _).weak (fun _ h=>h) fun a ha=>ha) ⟨X.good,X.call,X.room,X.env.put hi List.mem_cons_self T hs.2 (.loc y _ ht hn' (if_pos rfl)) ⟨_,hn'⟩ (fun c v hc=>?_) hot q,w⟩ (.loc y _ ht hn' (if_pos rfl)) hot
  obtain ⟨o,e,d⟩:=id hc
  exact ⟨v,o,(hs.2 c (vK hn hc)).trans e,d⟩
 ·obtain ⟨c,u₀,c1,c4⟩:=X.env.cell i y _ ht (.inl rfl)
  refine wpAny_storeName_cell X.fn hl c1 c4 fun h' hv' hs=>?_
  have hc:c∈own env:=List.mem_cons_of_mem _ (bh c1)
  obtain ⟨T,w⟩:=zN X.env X.g hc hs.2 (let ⟨o,e,_⟩:=hv';an e)
  have nl:∀{m},s.heap.Ns env.locals m→h'.Ns env.locals m:=fun hn=>hn.at fun o e=>(hs.2 _ fun q=>vK hn c4 q.symm).trans e
  have hot:∀j v,j≠i→cH B env s.heap j v→cH B env h' j v:=fun j v nj hv=>by
   cases hv with
   |loc z m' tz nz ez=>exact .loc z m' tz (nl nz) ez
   |cel z kk d tz hk' l nz=>exact .cel z kk d tz hk' l (let ⟨o,e1,e2⟩:=nz;⟨o,(hs.2 d fun e=>tab nj tz (X.env.apart z y d l (e▸c1))).trans e1,e2⟩)
  refine hq _ ((T.p s.toks).weak (fun _ h=>h) fun a ha=>by rw [List.mem_singleton.mp ha];exact Option.mem_toList.mpr c1) ⟨X.good,X.call,X.room,X.env.put hi hc T hs.2 (.cel y _ c ht (.inl rfl) c1 hv') (let ⟨m,hn⟩:=X.env.ns;⟨m,nl hn⟩) (fun d v hd=>?_) hot q,w⟩ (.cel y _ c ht (.inl rfl) c1 hv') hot
  by_cases e:d=c
  ·exact ⟨_,e▸hv'⟩
  ·exact let ⟨o,e1,e2⟩:=hd;⟨v,o,(hs.2 d e).trans e1,e2⟩
theorem iO {i:Nat}{y:Str}{k:NameKind}{t:T}{u:Value}{Q:Unit→Shared→Prop}{E:Value→Shared→Prop}(X:At P B C n A env g ρ σ s)(hi:i∉C.U)(ht:B.tab[i]?=some (some (y,k)))(hk:k=.local∨k=.cell)(q:br P C g s.heap i t u)
  (hq:∀s',bC [] (zO k y env) g s g s'→At P B C n A env g (ρ.set i (some t)) σ s'→(∀j v,j≠i→cH B env s.heap j v→cH B env s'.heap j v)→Q () s'):wpAny P.M A (storeName env y u) Q E s:=
 nq (o:=some t) X hi ht hk (fun _ e=>Option.some.inj e▸q) fun s' p X' _ hot=>hq s' p X' hot
end
noncomputable def uQ (e:Expr)(x:Str)(p:Pos)(l:Nat)(sc:Scope):Bool:=match e with
 |.ListComp _ _ s _ |.SetComp _ _ s _ |.DictComp _ _ _ s _=>(if sc.kind.isAnnotationScope then ScopeKind.function else sc.kind)==.function&&sc.names.lookup x==some .local&&p.line==e.pos.line
   &&!(s.names.any fun (n,k)=>n==x&&(k==.local||k==.cell))
 |_=>false
theorem js {e:Expr}{x:Str}{p:Pos}{l:Nat}{env:Env}{sc:Scope}(h:env.scope=sc):swapsWith e (some (.Name x p)) l env=pure (uQ e x p l sc):=by
 subst h
 cases e<;>first |rfl
section
variable {P:Pg} {B:bx} {C C' C'':Ct} {fr:Bool} {n:Nat} {A:Around} {env:Env} {g g' g₁ g₂:Gh} {ρ:aH} {σ:Sg} {s s' s₁ s₂:Shared} {h h':Heap}
theorem mM.nu {i:Nat}(hc:mM C i C'):i∉C'.U:=fun q=>(hc.un i q).1 rfl
theorem set_set (ρ:aH)(i:Nat)(a b:Option T):(ρ.set i a).set i b=ρ.set i b:=List.set_set ..
theorem gQ {i:Nat}{y:Str}{k:NameKind}{t:T}{u:Value}{Q:Unit→Shared→Prop}{E:Value→Shared→Prop}(X:At P B C n A env g ρ σ s)(hc:bY C i false C'=true)(ht:B.tab[i]?=some (some (y,k)))(hk:k=.local∨k=.cell)(r:Rp P g s.heap t u)
  (hq:∀s',bC [] (zO k y env) g s g s'→At P B C' n A env g (ρ.set i (some t)) σ s'→Q () s'):wpAny P.M A (storeName env y u) Q E s:=by
 obtain ⟨hs,ho⟩:=dC hc
 have X₂:At P B C' n A env g (ρ.set i none) σ s:=⟨X.good,X.call,X.room,X.env.forget hs (.refl g i) fun a ha=>(X.env.own a ha).2.2.2,X.g⟩
 refine iO X₂ hs.nu ht hk (by unfold br;rw [ho];exact .inl r) fun s' p X' _=>hq s' p ?_
 rw [set_set] at X';exact X'
theorem aF.set {i:Nat}{y:Str}{k:NameKind}{e:Expr}{p:PE}{ps pos:Pos}(hc:bY C i false C'=true)(ht:B.tab[i]?=some (some (y,k)))(hk:k=.local∨k=.cell)(hw:uQ e y ps pos.line B.sc=false)(h:am P B C e p (RV P)):
  aF P B C fr C' (.Assign [.Name y ps] e pos) (av i p):=fun n A env g ρ σ s k Q E X hb hq hr=>
 wpAny_Assign_Name (h n A env g ρ σ s (fun v σ=>k (ρ.set i (some v)) σ) _ E X hb fun x s₁ g₁ t σ₁ e p w r=>gQ (X.post p w) hc ht hk r fun s' p' X'=>hq s' g₁ _ σ₁ e (p.toS.trans (p'.toS.weak cM)) X') (by rw [js X.env.sc,hw])
noncomputable def Gh.put (g:Gh)(i:Nat)(a:Option Addr):Gh:={g with o:=fun j=>bif Nat.beq j i then a else g.o j}
theorem gc (g:Gh)(i:Nat)(a:Option Addr):(g.put i a).o i=a:=by show (bif Nat.beq i i then a else _)=_;rw [Nat.beq_refl];rfl
theorem lr (g:Gh){i j:Nat}(a:Option Addr)(h:j≠i):(g.put i a).o j=g.o j:=by show (bif Nat.beq j i then a else _)=_;rw [xo h];rfl
theorem ii (g:Gh)(i:Nat)(a:Option Addr):Gx g (g.put i a) i:=⟨rfl,rfl,rfl,rfl,fun j h=>lr g a h⟩
theorem iU {i:Nat}{a:Option Addr}{b:Addr}(h:(g.put i a).O b):a=some b∨∃j,j≠i∧g.o j=some b:=by
 obtain ⟨j,e⟩:=h
 by_cases q:j=i
 ·subst q;rw [gc] at e;exact .inl e
 ·rw [lr g a q] at e;exact .inr ⟨j,q,e⟩
theorem bp.put {i:Nat}{a:Option Addr}(w:bp P g h σ)(ha:∀b,a=some b→h.get? b≠none∧¬g.F b∧¬g.Z b∧¬g.O b):bp P (g.put i a) h σ:=
 ⟨w.base,w.F,w.Z,fun b q=>(iU q).elim (fun e=>let ⟨h1,h2,h3,_⟩:=ha b e;⟨h1,h2,h3⟩) fun ⟨j,_,e⟩=>w.O b ⟨j,e⟩,fun j k b h1 h2=>by
  by_cases q:j=i
  ·by_cases q':k=i
   ·rw [q,q']
   ·subst q;rw [gc] at h1;rw [lr g a q'] at h2;exact ((ha b h1).2.2.2 ⟨k,h2⟩).elim
  ·rw [lr g a q] at h1
   by_cases q':k=i
   ·subst q';rw [gc] at h2;exact ((ha b h2).2.2.2 ⟨j,h1⟩).elim
   ·rw [lr g a q'] at h2;exact w.oo j k b h1 h2,w.spot,fun c ts e=>(w.self c ts e).mono ((ii g i a).k h) (fun _ z=>⟨z,fun _ e=>e⟩) rfl⟩
theorem aF.setN {i:Nat}{y:Str}{k:NameKind}{e:Expr}{p:PE}{ps pos:Pos}(hc:bY C i true C'=true)(ht:B.tab[i]?=some (some (y,k)))(hk:k=.local∨k=.cell)(hw:uQ e y ps pos.line B.sc=false)(h:am P B C e p (RN P)):
  aF P B C fr C' (.Assign [.Name y ps] e pos) (av i p):=fun n A env g ρ σ s k Q E X hb hq hr=>by
 refine wpAny_Assign_Name (h n A env g ρ σ s (fun v σ=>k (ρ.set i (some v)) σ) _ E X hb fun x s₁ g₁ t σ₁ e p w r=>?_) (by rw [js X.env.sc,hw])
 obtain ⟨hs,ho⟩:=dC hc
 obtain ⟨a,rfl,nw,f,z,o,r⟩:=r
 have X₁:=X.post p w
 have ow:∀b∈own env,¬(g₁.put i (some a)).O b:=fun b hb q=>(iU q).elim (fun q=>(X.env.own b hb).1 (Option.some.inj q▸nw)) fun ⟨j,_,q⟩=>(X₁.env.own b hb).2.2.2 ⟨j,q⟩
 have pa:aM [] (own env) g s (g₁.put i (some a)) s₁:={(p.toS:aM [] (own env) g s g₁ s₁) with On:=fun b q=>(iU q).elim (fun q=>.inr (Option.some.inj q▸nw)) fun ⟨j,_,q⟩=>.inl ⟨j,p.o▸q⟩}
 have X₂:At P B C' n A env (g₁.put i (some a)) (ρ.set i none) σ₁ s₁:=⟨X.good,X.call,X.room,X₁.env.forget hs (ii g₁ i _) ow,w.put fun b q=>Option.some.inj q▸⟨r.live,f,z,o⟩⟩
 refine wpAny_mono (iO (E:=E) X₂ hs.nu ht hk (by unfold br;rw [ho];exact ⟨a,rfl,gc ..,r.mono ((ii g₁ i _).k _) fun _ e=>e⟩) fun s' p' X' _=>hq s' _ _ σ₁ e (pa.trans (p'.toS.weak cM)) ?_) (fun _ _ h=>h) fun _ _ h=>h
 rw [set_set] at X';exact X'
theorem bV.add {i:Nat}{t:T}{u:Value}(x:bV P B C env g ρ h)(hi:i∉C.U)(hv:cH B env h i u)(q:br P C g h i t u):bV P B C env g (ρ.set i (some t)) h:=
 {x with
  var:=fun j z v hj hv'=>(gR hv').elim (fun ⟨e,e'⟩=>by cases e';subst e;exact ⟨u,hv,q⟩) fun ⟨n,e⟩=>x.var j z v hj e
  un:=fun j hj=>cN (fun q:j=i=>hi (q▸hj)) (x.un j hj)}
theorem vf {i:Nat}{t:T}:∀{ρ:aH},bz ρ i=some t→ρ.set i (some t)=ρ:=by
 induction i with
 |zero=>intro ρ h;cases ρ with
  |nil=>cases h
  |cons x r=>rw [show x=_ from h];rfl
 |succ i ih=>intro ρ h;cases ρ with
  |nil=>cases h
  |cons x r=>exact congrArg (x::·) (ih (ρ:=r) h)
theorem hU {i:Nat}:∀{ρ:aH},bz ρ i=none→ρ.set i none=ρ:=by
 induction i with
 |zero=>intro ρ h;cases ρ with
  |nil=>rfl
  |cons x r=>rw [show x=_ from h];rfl
 |succ i ih=>intro ρ h;cases ρ with
  |nil=>rfl
  |cons x r=>exact congrArg (x::·) (ih (ρ:=r) h)
theorem CB {i:Nat}{y:Str×NameKind}(X:At P B C n A env g ρ σ s)(hv:bj C i=true)(hc:bY C i false C'=true)(ht:B.tab[i]?=some (some y)):∃g',aM [] (own env) g s g' s∧At P B C' n A env g' ρ σ s:=by
 obtain ⟨hs,ho⟩:=dC hc
 have w1:bp P (g.put i none) s.heap σ:=X.g.put fun _ q=>nomatch q
 have no:∀b∈own env,¬(g.put i none).O b:=fun b hb q=>(iU q).elim (fun q=>nomatch q) fun ⟨j,_,q⟩=>(X.env.own b hb).2.2.2 ⟨j,q⟩
 have x1:=X.env.forget hs (ii g i none) no
 have on:∀b,(g.put i none).O b→g.O b:=fun b q=>(iU q).elim (fun q=>nomatch q) fun ⟨j,_,q⟩=>⟨j,q⟩
 have p0:=(aC.refl g s).toS (W:=own env)
 cases e:bz ρ i with
 |none=>
  rw [hU e] at x1
  exact ⟨g.put i none,{p0 with On:=fun b q=>.inl (on b q)},X.good,X.call,X.room,x1,w1⟩
 |some t=>
  obtain ⟨u,v,q⟩:=X.env.var i y t ht e
  unfold br at q
  rw [hv] at q
  obtain ⟨a,rfl,o,r⟩:=q
  have hO:=X.g.O a ⟨i,o⟩
  have na:¬(g.put i none).O a:=fun q=>(iU q).elim (fun q=>nomatch q) fun ⟨j,n,q⟩=>n (X.g.oo j i a q o)
  have w2:=w1.freeze (a:=a) hO.1 hO.2.2 na
  have kf:aL (g.put i none) s.heap {g.put i none with F:=fun y=>g.F y∨y=a} s.heap:=⟨fun b f=>⟨.inl f,fun _ e=>e⟩,rfl⟩
  have x2:=x1.move (g':={g.put i none with F:=fun y=>g.F y∨y=a}) kf rfl rfl (fun _ _ _ e=>e) fun b hb=>⟨(X.env.own b hb).1,fun f=>f.elim (X.env.own b hb).2.1 fun e=>(X.env.own b hb).2.2.2 (e▸⟨i,o⟩),(X.env.own b hb).2.2.1⟩
  have x3:=x2.add hs.nu v (t:=t) (by unfold br;rw [ho];exact .inl ((r.mono (((ii g i none).k _)) fun _ e=>e).mono kf (fun _ e=>e) |>.rp (.inr rfl)))
  rw [set_set,vf e] at x3
  exact ⟨{g.put i none with F:=fun y=>g.F y∨y=a},{p0 with F:=fun b f=>.inl f,Fn:=fun b f=>f.elim .inl fun q=>.inr (.inl (q▸⟨i,o⟩)),On:=fun b q=>.inl (on b q)},X.good,X.call,X.room,x3,w2⟩
theorem c7.fz {i:Nat}{y:Str×NameKind}{W:WP Flow}{p:PS}(hv:bj C i=true)(hc:bY C i false C'=true)(ht:B.tab[i]?=some (some y))(h:c7 P B C' fr C'' W p):c7 P B C fr C'' W p:=fun n A env g ρ σ s k Q E X hb hq hr=>by
 obtain ⟨g',pz,X'⟩:=CB X hv hc ht
 exact h n A env g' ρ σ s k Q E X' hb (fun s' g' ρ' σ' e p X=>hq s' g' ρ' σ' e (pz.trans p) X) fun x s' g' t σ' e p w r=>hr x s' g' t σ' e (pz.trans p) w (r.after pz)
theorem aF.while {test:Expr}{body:List Stmt}{t:PT}{pb:PS}{pos:Pos}(m:Nat)(ht:cb P B C test t)(hb:gM P B C fr C body pb):aF P B C fr C (.While test body [] pos) (eZ m t pb):=fun n A env g ρ σ s k Q E X hbad hq hr=>by
 refine wpAny_While ?_
 refine codeAny_whileLoop (fun m' s₁=>∃g₁ ρ₁ σ₁,At P B C n A env g₁ ρ₁ σ₁ s₁∧aM [] (own env) g s g₁ s₁∧eZ m t pb (P.cx n) ρ σ k=fU t pb (P.cx n) m' ρ₁ σ₁ k) ?_ m ⟨g,ρ,σ,X,(aC.refl g s).toS,rfl⟩
 rintro m' s₁ ⟨g₁,ρ₁,σ₁,X₁,p₁,e₁⟩
 cases m' with
 |zero=>exact absurd (e₁.trans uU) hbad
 |succ m'=>
  rw [kO] at e₁
  refine ht n A env g₁ ρ₁ σ₁ s₁ _ _ _ X₁ (fun q=>hbad (e₁.trans q)) fun b s₂ g₂ b' σ₂ e₂ p₂ w₂ r₂=>?_
  cases r₂
  have X₂:=X₁.post p₂ w₂
  have p₁₂:=p₁.trans p₂.toS
  cases b with
  |true=>
   refine hb n A env g₂ ρ₁ σ₂ s₂ _ _ _ X₂ (fun q=>hbad (e₁.trans (e₂.trans q))) (fun s₃ g₃ ρ₃ σ₃ e₃ p₃ X₃=>?_) fun x s₃ g₃ t σ₃ e₃ p₃ w₃ r₃=>?_
   ·exact ⟨m',Nat.lt_succ_self m',g₃,ρ₃,σ₃,X₃,p₁₂.trans p₃,e₁.trans (e₂.trans e₃)⟩
   ·exact hr x s₃ g₃ t σ₃ (e₁.trans (e₂.trans e₃)) (p₁₂.trans p₃) w₃ (r₃.after p₁₂)
  |false=>exact wpAny_execs_nil (hq s₂ g₂ ρ₁ σ₂ (e₁.trans e₂) p₁₂ X₂)
end
noncomputable def ku (g:Gh)(env:Env)(vol:List Addr):Prop:=∀a∈vol,¬g.F a∧¬g.Z a∧¬g.O a∧a∉own env
structure mQ (P:Pg) (A:Around) (I:Addr) (ts:List T) (vol fx:List Addr) (St:Nat→Gh→Heap→Prop):Prop where
 self:∀i g s (Q:Value→Shared→Prop) (E:Value→Shared→Prop),St i g s.heap→Q (.ref I) s→wpAny P.M A (pyIter (.ref I)) Q E s
 stay:∀i g h g' h',St i g h→aL g h g' h'→(∀a∈vol++fx,∀o,h.get? a=some o→h'.get? a=some o)→St i g' h'
 here:∀i g h,St i g h→∀a∈vol++fx,h.get? a≠none
 item:∀i t g s (Q:Option Value→Shared→Prop) (E:Value→Shared→Prop),ts[i]?=some t→St i g s.heap→(∀a∈vol,¬g.F a)→
  (∀u h' tk,(∀a o,s.heap.get? a=some o→a∉vol→h'.get? a=some o)→Rp P g h' t u→St (i+1) g h'→Q (some u) {s with heap:=h',toks:=tk})→wpAny P.M A (pyNext (.ref I)) Q E s
 done:∀g s (Q:Option Value→Shared→Prop) (E:Value→Shared→Prop),St ts.length g s.heap→(∀h' tk,(∀a o,s.heap.get? a=some o→a∉vol→h'.get? a=some o)→Q none {s with heap:=h',toks:=tk})→wpAny P.M A (pyNext (.ref I)) Q E s
structure j4 (P:Pg) (A:Around) (B:bx) (C C':Ct) (target:Expr) (zb:PB) (tw:Env→List Addr) (I:Addr) (ts:List T) (vol fx:List Addr) (St:Nat→Gh→Heap→Prop):Prop where
 sub:∀env,∀a∈tw env,a∈own env
 self:∀i g s (Q:Value→Shared→Prop) (E:Value→Shared→Prop),St i g s.heap→Q (.ref I) s→wpAny P.M A (pyIter (.ref I)) Q E s
 stay:∀i g h g' h',St i g h→aL g h g' h'→(∀a∈vol++fx,∀o,h.get? a=some o→h'.get? a=some o)→St i g' h'
 here:∀i g h,St i g h→∀a∈vol++fx,h.get? a≠none
 item:∀i t n env g ρ ρ' σ s (Q:Shared→Prop) (E:Value→Shared→Prop),ts[i]?=some t→At P B C n A env g ρ σ s→ku g env (vol++fx)→St i g s.heap→zb t ρ=some ρ'→
  (∀s',bC [] (vol++tw env) g s g s'→At P B C' n A env g ρ' σ s'→St (i+1) g s'.heap→Q s')→
  wpAny P.M A (pyNext (.ref I)) (fun r s₁=>match r with
   |none=>False
   |some u=>wpAny P.M A (letOwnedTupleGo target (.ref I) u) (fun _ s₂=>wpAny P.M A (assign target env u) (fun _ s₃=>Q s₃) E s₂) E s₁) E s
 done:∀n env g ρ σ s (Q:Shared→Prop) (E:Value→Shared→Prop),At P B C n A env g ρ σ s→ku g env (vol++fx)→St ts.length g s.heap→(∀s',bC vol vol g s g s'→At P B C n A env g ρ σ s'→Q s')→
  wpAny P.M A (pyNext (.ref I)) (fun r s₁=>match r with |none=>Q s₁ |some _=>False) E s
section
variable {P:Pg} {B:bx} {C C' C'':Ct} {fr:Bool} {n:Nat} {A:Around} {env:Env} {g g' g₁ g₂:Gh} {ρ:aH} {σ:Sg} {s s' s₁ s₂:Shared} {h h':Heap}
theorem ku.post {vol:List Addr}(v:ku g env vol)(l:∀a∈vol,s.heap.get? a≠none)(p:aM [] (own env) g s g' s'):ku g' env vol∧∀a∈vol,∀o,s.heap.get? a=some o→s'.heap.get? a=some o:=
 ⟨fun a ha=>let ⟨f,z,o,w⟩:=v a ha;⟨fun q=>(p.Fn a q).elim f fun q=>q.elim o (l a ha),fun q=>(p.Zn a q).elim z (l a ha),fun q=>(p.On a q).elim o (l a ha),w⟩,fun a ha o e=>let ⟨_,z,q,w⟩:=v a ha;p.keep a o e z q w⟩
theorem aM.k {V W:List Addr}(p:aM V W g s g' s')(w:bp P g s.heap σ)(hW:∀a∈W,¬g.F a):aL g s.heap g' s'.heap:=⟨fun a f=>⟨p.F a f,fun o e=>p.keep a o e (fun z=>(w.Z a z).2 f) (fun q=>(w.O a q).2.1 f) fun q=>hW a q f⟩,p.sp⟩
theorem wK {target:Expr}{body:List Stmt}{zb:PB}{tw:Env→List Addr}{pb:PS}{I:Addr}{ts:List T}{vol fx:List Addr}{St:Nat→Gh→Heap→Prop}{k:PK aH}{R:Result→Shared→Prop}(T:j4 P A B C C' target zb tw I ts vol fx St)(hbody:gM P B C' fr C body pb):
  ∀(rest:List Mine.T) (i:Nat) (g:Gh) (ρ:aH) (σ:Sg) (s:Shared),i≤ts.length→ts.drop i=rest→At P B C n A env g ρ σ s→ku g env (vol++fx)→St i g s.heap→cn zb pb (P.cx n) rest ρ σ k≠.bad→
   (∀s' g' ρ' σ',cn zb pb (P.cx n) rest ρ σ k=k ρ' σ'→aM vol (vol++own env) g s g' s'→At P B C n A env g' ρ' σ' s'→R (.ok .next) s')→
   (∀x s' g' t σ',cn zb pb (P.cx n) rest ρ σ k=.ret t σ'→aM [] (vol++own env) g s g' s'→bp P g' s'.heap σ'→qZ P fr g s.heap g' s'.heap t x→R (.ok (.ret x)) s')→
   codeAny P.M A (.forLoop target (.ref I) body [] env) R s:=by
 intro rest
 induction rest with
 |nil=>
  intro i g ρ σ s hle hd X hv st hb hq hr
  obtain rfl:i=ts.length:=Nat.le_antisymm hle (List.drop_eq_nil_iff.mp hd)
  refine codeAny_of_tree ?_
  show wpAny P.M A ((forTurn target (.ref I) body [] env).onRaise (fun x=>do noteFrame x env;theTreesLotGoes x)) _ _ s
  refine wpAny_noted ?_
  simp only [forTurn]
  refine wpAny_bind (wpAny_standAt (wpAny_bind (wpAny_onRaise (wpAny_mono (T.done n env g ρ σ s (fun s'=>R (.ok .next) s') (notedBy P.M A env fun e s'=>R (.error e) s') X hv st fun s' p X'=>hq s' g ρ σ rfl (p.weak (fun _ h=>h) fun a=>List.mem_append_left _).toS X') (fun r s₁ h₁=>?_) fun _ _ h'=>wpAny_standAt h'))))
  cases r with
  |none=>exact wpAny_pure ⟨rfl,codeAny_block (wpAny_execs_nil h₁)⟩
  |some u=>exact h₁.elim
 |cons v rest ih=>
  intro i g ρ σ s hle hd X hv st hb hq hr
  have hiv:ts[i]?=some v:=by rw [←List.head?_drop,hd];rfl
  have hi:i < ts.length:=(List.getElem?_eq_some_iff.mp hiv).1
  have hd':ts.drop (i+1)=rest:=by rw [←List.tail_drop,hd];rfl
  cases hρ:zb v ρ with
  |none=>rw [wL,hρ] at hb;exact absurd rfl hb
  |some ρ'=>
   have e1:cn zb pb (P.cx n) (v::rest) ρ σ k=pb (P.cx n) ρ' σ fun ρ σ=>cn zb pb (P.cx n) rest ρ σ k:=by rw [wL,hρ]
   rw [e1] at hb hq hr
   refine codeAny_of_tree ?_
   show wpAny P.M A ((forTurn target (.ref I) body [] env).onRaise (fun x=>do noteFrame x env;theTreesLotGoes x)) _ _ s
   refine wpAny_noted ?_
   simp only [forTurn]
   refine wpAny_bind (wpAny_standAt (wpAny_bind (wpAny_onRaise (wpAny_mono (T.item i v n env g ρ ρ' σ s (fun s₃=>wpAny P.M A (execs body env) (fun f s₄=>match f with
     |.next |.cont=>codeAny P.M A (.forLoop target (.ref I) body [] env) R s₄
     |.brk=>R (.ok .next) s₄
     |.ret v=>R (.ok (.ret v)) s₄) (notedBy P.M A env fun e s'=>R (.error e) s') s₃) (notedBy P.M A env fun e s'=>R (.error e) s') hiv X hv st hρ fun s₃ p₃ X₃ st₃=>?_) (fun r s₁ h₁=>?_) fun _ _ h'=>wpAny_standAt h'))))
   ·have lv₃:=T.here _ _ _ st₃
    replace p₃:=(p₃.weak (fun _ h=>h) fun a h=>(List.mem_append.mp h).elim (List.mem_append_left _) fun h=>List.mem_append_right vol (T.sub env a h)).toS
    refine hbody n A env g ρ' σ s₃ _ _ _ X₃ hb (fun s₄ g₄ ρ₄ σ₄ e₄ p₄ X₄=>?_) fun x s₄ g₄ t σ₄ e₄ p₄ w₄ r₄=>?_
    ·rw [e₄] at hb hq hr
     have p₃₄:=p₃.trans (p₄.weak fun a=>List.mem_append_right vol)
     obtain ⟨hv₄,kp⟩:=hv.post lv₃ p₄
     exact ih (i+1) g₄ ρ₄ σ₄ s₄ hi hd' X₄ hv₄ (T.stay _ _ _ _ _ st₃ (p₄.k X₃.g fun a ha=>(X₃.env.own a ha).2.1) kp) hb (fun s' g' ρ' σ' e p X=>hq s' g' ρ' σ' e (p₃₄.trans p) X) fun x s' g' t σ' e p w r=>hr x s' g' t σ' e (p₃₄.trans p) w (r.after p₃₄)
    ·exact hr x s₄ g₄ t σ₄ e₄ (p₃.trans (p₄.weak fun a=>List.mem_append_right vol)) w₄ (r₄.after p₃)
   ·cases r with
    |none=>exact h₁.elim
    |some u=>
     refine wpAny_bind (wpAny_mono h₁ (fun _ s₂ h₂=>wpAny_bind (wpAny_mono h₂ (fun _ s₃ h₃=>wpAny_bind (wpAny_mono h₃ (fun f s₄ h₄=>?_) fun _ _ h'=>h')) fun _ _ h'=>h')) fun _ _ h'=>h')
     cases f with
     |next=>exact wpAny_pure ⟨rfl,h₄⟩
     |cont=>exact wpAny_pure ⟨rfl,h₄⟩
     |brk=>exact wpAny_pure h₄
     |ret v=>exact wpAny_pure h₄
noncomputable def Ap (P:Pg)(B:bx)(C:Ct)(n:Nat)(A:Around)(env:Env)(g:Gh)(ρ:aH)(σ:Sg)(s:Shared)(iter:Expr)(mk:Around→Addr→List T→List Addr→List Addr→(Nat→Gh→Heap→Prop)→Prop)(p:PL):Prop:=
 ∀(k:PK (List T)) (Q:Value→Shared→Prop) (E:Value→Shared→Prop),At P B C n A env g ρ σ s→p (P.cx n) ρ σ k≠.bad→
  (∀s' g' ts σ' I vol fx St,p (P.cx n) ρ σ k=k ts σ'→aC g s g' s'→bp P g' s'.heap σ'→mk A I ts vol fx St→St 0 g' s'.heap→(∀a∈vol,s.heap.get? a=none∧¬g'.F a∧¬g'.Z a)→ku g' env fx→ts.length≤lim→Q (.ref I) s')→
  wpAny P.M A (eval iter env) (fun x s₁=>wpAny P.M A (pyIter x) Q E s₁) E s
noncomputable def eN (P:Pg)(B:bx)(C:Ct)(iter:Expr)(mk:Around→Addr→List T→List Addr→List Addr→(Nat→Gh→Heap→Prop)→Prop)(p:PL):Prop:=
 ∀n A env g ρ σ s,Ap P B C n A env g ρ σ s iter mk p
theorem aF.for {iter target:Expr}{zb:PB}{tw:Env→List Addr}{pi:PL}{body:List Stmt}{pb:PS}{pos:Pos}(hs:∀env x,foldedSetIterable iter env x=pure x)(hi:eN P B C iter (fun A I ts vol fx St=>j4 P A B C C' target zb tw I ts vol fx St) pi)(hb:gM P B C' fr C body pb):
  aF P B C fr C (.For target iter body [] pos) (bP pi zb pb):=fun n A env g ρ σ s k Q E X hbad hq hr=>by
 refine wpAny_For (hi n A env g ρ σ s (fun xs σ=>cn zb pb _ xs ρ σ k) _ _ X hbad fun s₁ g₁ ts σ₁ I vol fx St e p w T st hv hx hl=>?_) (hs env)
 have X₁:=X.post p w
 have dr:∀{V s' g'},(∀a∈V,a∈vol)→aM V (vol++own env) g₁ s₁ g' s'→aM [] (own env) g s g' s':=fun {V s' g'} hV q=>
  have qb:∀a,s'.heap.get? a=none→s.heap.get? a=none:=fun a e=>by
   by_cases x:a∈vol
   ·exact (hv a x).1
   ·exact p.back a (q.back a (fun y=>x (hV a y)) e)
  ⟨Mine.St.trans p.st q.st,fun a o e z o' w=>q.keep a o (p.keep a o e z) (fun x=>(p.Zn a x).elim z (an e)) (fun ⟨i,x⟩=>o' ⟨i,p.o▸x⟩) fun x=>(List.mem_append.mp x).elim (fun x=>an e (hv a x).1) w,fun a _ e=>qb a e,fun a f=>q.F a (p.F a f),
   fun a f=>(q.Fn a f).elim (fun f=>(p.Fn a f).imp_right .inr) fun x=>.inr (x.imp (fun ⟨i,x⟩=>⟨i,p.o▸x⟩) (p.back a)),fun a f=>(q.Zn a f).elim (p.Zn a) fun x=>.inr (p.back a x),fun a f=>(q.On a f).imp (fun ⟨i,x⟩=>⟨i,p.o▸x⟩) (p.back a),q.sp.trans p.sp,q.sa.trans p.sa⟩
 exact wK T hb ts 0 g₁ ρ σ₁ s₁ (Nat.zero_le _) rfl X₁ (fun a ha=>(List.mem_append.mp ha).elim (fun ha=>⟨(hv a ha).2.1,(hv a ha).2.2,fun ⟨i,q⟩=>(X.g.O a ⟨i,p.o▸q⟩).1 (hv a ha).1,fun q=>(X.env.own a q).1 (hv a ha).1⟩) (hx a)) st (fun q=>hbad (e.trans q))
  (fun s' g' ρ' σ' e' p' X'=>hq s' g' ρ' σ' (e.trans e') (dr (fun _ q=>q) p') X') fun x s' g' t σ' e' p' w' r'=>hr x s' g' t σ' (e.trans e') (dr (V:=[]) (fun _ (q:_∈[])=>nomatch q) p') w' (r'.after (p.toS (W:=[])))
theorem dc {vol:List Addr}(X:At P B C n A env g ρ σ s)(hv:ku g env vol)(k:∀a o,s.heap.get? a=some o→a∉vol→h'.get? a=some o)(tk:Nat):bC vol vol g s g {s with heap:=h',toks:=tk}∧At P B C n A env g ρ σ {s with heap:=h',toks:=tk}:=by
 have kk:∀a,g.F a∨g.Z a∨g.O a∨a∈own env→∀o,s.heap.get? a=some o→h'.get? a=some o:=fun a q o e=>k a o e fun x=>let ⟨f,z,o,w⟩:=hv a x;q.elim f fun q=>q.elim z fun q=>q.elim o w
 have kf:aL g s.heap g h':=⟨fun a f=>⟨f,kk a (.inl f)⟩,rfl⟩
 have lo:∀a,g.F a∨g.Z a∨g.O a∨a∈own env→s.heap.get? a≠none→h'.get? a≠none:=fun a q l=>by
  cases e:s.heap.get? a with
  |none=>exact (l e).elim
  |some o=>exact an (kk a q o e)
 refine ⟨⟨⟨h',tk,rfl⟩,fun a o e _ n=>k a o e n,fun a v e=>?_,fun _ f=>f,fun _ f=>.inl f,fun _ f=>.inl f,rfl,rfl,rfl⟩,X.good,X.call,X.room,
  X.env.move kf rfl rfl (fun a q=>kk a (.inr (.inr q))) fun a ha=>⟨lo a (.inr (.inr (.inr ha))) (X.env.own a ha).1,(X.env.own a ha).2.1,(X.env.own a ha).2.2.1⟩,
  fun a o e=>⟨(X.g.base a o e).1,kk a (.inl (X.g.base a o e).1) o (X.g.base a o e).2⟩,fun a f=>lo a (.inl f) (X.g.F a f),fun a z=>⟨lo a (.inr (.inl z)) (X.g.Z a z).1,(X.g.Z a z).2⟩,fun a z=>⟨lo a (.inr (.inr (.inl z))) (X.g.O a z).1,(X.g.O a z).2⟩,X.g.oo,
  ⟨let ⟨t,n,e⟩:=X.g.spot.1;⟨t,n,kk _ (.inr (.inl X.g.spot.2.1)) _ e⟩,X.g.spot.2⟩,fun c ts e=>(X.g.self c ts e).mono kf (fun a z=>⟨z,kk a (.inr (.inl z))⟩) rfl⟩
 cases q:s.heap.get? a with
 |none=>rfl
 |some o=>exact (an (k a o q v) e).elim
theorem dM {vol W:List Addr}(p:bC vol W g s g' s')(lv:∀a∈vol,s'.heap.get? a≠none):bC [] W g s g' s':={p with back:=fun a _ e=>p.back a (fun q=>lv a q e) e}
theorem mQ.one {I:Addr}{ts:List T}{vol fx:List Addr}{St:Nat→Gh→Heap→Prop}(T:mQ P A I ts vol fx St){i:Nat}{y:Str}{k:NameKind}{p:Pos}(hc:bY C i false C'=true)(ht:B.tab[i]?=some (some (y,k)))(hk:k=.local∨k=.cell):j4 P A B C C' (.Name y p) (aJ i) (zO k y) I ts vol fx St where
 sub env:=cM
 self:=T.self
 stay:=T.stay
 here:=T.here
 item j t n env g ρ ρ' σ s Q E hj X hv st hρ hq:=by
  cases hρ
  have hvv:ku g env vol:=fun a ha=>hv a (List.mem_append_left _ ha)
  refine T.item j t g s _ _ hj st (fun a ha=>(hvv a ha).1) fun u h' tk hkp r st'=>?_
  obtain ⟨pV,X₁⟩:=dc X hvv hkp tk
  have pV:=dM pV fun a ha=>T.here _ _ _ st' a (List.mem_append_left _ ha)
  show wpAny P.M A (pure ()) _ _ _
  refine wpAny_pure (wpAny_assign_Name (gQ X₁ hc ht hk r fun s' p' X'=>hq s' ((pV.weak (fun _ h=>h) fun a=>List.mem_append_left _).trans (p'.weak (fun _ h=>h) fun a=>List.mem_append_right vol)) X' ?_))
  have pS:=p'.toS.weak cM
  exact T.stay _ _ _ _ _ st' (pS.k X₁.g fun a ha=>(X₁.env.own a ha).2.1) (hv.post (s:={s with heap:=h',toks:=tk}) (T.here _ _ _ st') pS).2
 done n env g ρ σ s Q E X hv st hq:=T.done g s _ _ st fun h' tk hkp=>let ⟨pV,X₁⟩:=dc X (fun a ha=>hv a (List.mem_append_left _ ha)) hkp tk;hq _ pV X₁
end
section
variable {P:Pg} {B:bx} {C C' C'':Ct} {fr:Bool} {n:Nat} {A:Around} {env:Env} {g g' g₁ g₂:Gh} {ρ:aH} {σ:Sg} {s s' s₁ s₂:Shared} {h h':Heap}
theorem bA {pos:Pos}{l:List (Bool×Sem Value)}(h:∀q∈l,q.1=false):∀q∈backTo pos l,q.1=false:=fun q hq=>by
 obtain ⟨p,h1,rfl⟩:=List.mem_map.mp (show q∈List.map _ l from hq)
 exact h p h1
theorem gI {M:Model}{E:Value→Shared→Prop}{f:Value}{trees:List (Bool×Sem Value)}{Q:PySem.Args→Shared→Prop}(hp:∀p∈trees,p.1=false)
  (h:wpAny M A (spliced trees) (fun vs s'=>Q ⟨vs,[]⟩ s') E s):wpAny M A (evalArgs f true trees []) Q E s:=by
 cases trees with
 |nil=>
  unfold evalArgs
  show wpAny M A (spliced [] >>=_) Q E s
  refine wpAny_bind (wpAny_mono h (fun vs s' h'=>?_) fun _ _ x=>x)
  exact wpAny_holding (wpAny_bind (wpAny_pure (wpAny_bind (wpAny_pure (wpAny_pure h')))))
 |cons t r=>
  obtain ⟨b,x⟩:=t
  obtain rfl:b=false:=hp (b,x) List.mem_cons_self
  exact Calls.evalArgs_plain h
theorem At.base (X:At P B C n A env g ρ σ s):∀a o,P.h₀.get? a=some o→s.heap.get? a=some o:=fun a o e=>(X.g.base a o e).2
theorem At.blt (X:At P B C n A env g ρ σ s){x:Str}{pos:Pos}{v:Value}{Q:Value→Shared→Prop}{E:Value→Shared→Prop}(hx:B.sc.names.lookup x=some .globalImplicit)(hd:(x==("__debug__":Str))=false)
  (hm:x∈iC)(hv:bootBuiltins x=some v)(h:Q v s):wpAny P.M A (eval (.Name x pos) env) Q E s:=
 have ⟨g1,g2⟩:=X.good.blt x hm
 Calls.Name_function_global X.fn (show env.scope.names.lookup x=_ from X.env.sc▸hx) (Calls.loadGlobal_builtin (mg:=P.mg) (mb:=P.mb) (X.env.glob▸X.good.g.keeps X.base) g1 (X.env.blt▸X.good.b.keeps X.base) (g2.trans hv) h) hd
theorem vG {o:cz}{k:PK T}(h:sW o k≠.bad):∃t σ,o=.ret t σ:=by
 cases o with
 |ret t σ=>exact ⟨t,σ,rfl⟩
 |_=>exact absurd (by with_unfolding_all rfl) h
theorem Aq.after {fr:Bool}{t:T}{x:Value}{h₁:Heap}(b:∀a,h₁.get? a=none→h.get? a=none)(r:Aq P fr h₁ g' h' t x):Aq P fr h g' h' t x:=by
 cases fr with
 |false=>exact r
 |true=>exact CO _ _ _ _ _ _ b r
noncomputable abbrev RF (P:Pg)(f:Nat):RR Value T:=fun h g' h' t x=>Aq P (kh f) h g' h' t x
theorem qF {f:Nat}{ts:List T}{vs:List Value}{t:T}{σ':Sg}{Q:Value→Shared→Prop}{E:Value→Shared→Prop}(X:At P B C n A env g ρ σ s)(r:Args P (rh f) g s.heap ts vs)(e:ai P.Ψ n f ts σ=.ret t σ')(hq:∀x s' g',aC g s g' s'→bp P g' s'.heap σ'→Aq P (kh f) s.heap g' s'.heap t x→Q x s'):
  wpAny P.M A (PySem.call (.ref (P.fnA f)) vs) Q E s:=
 wpAny_call (codeAny_mono (X.call n (Nat.le_refl n) f A ts vs g σ s t σ' Q E X.room.c X.g r e hq) fun r s' q=>by
  match r,q with
  |.ok (.ret u),q=>exact q
  |.ok .next,q=>exact q.elim
  |.ok .brk,q=>exact q.elim
  |.ok .cont,q=>exact q.elim
  |.error u,q=>exact q)
theorem am.callF {y:Str}{f:Nat}{F:fN}{es:List Expr}{ps:PL}{p pos:Pos}(hf:P.Ψ f=some F)(hn:P.gl f=true∧(P.fd f).name=y)(hm:rh f=false)(hx:B.sc.names.lookup y=some .globalImplicit)(hd:(y==("__debug__":Str))=false)(h:fS P B C es ps):
  am P B C (.Call (.Name y p) es [] pos) (ak f ps) (RF P f):=fun n A env g ρ σ s k Q E X hb hq=>by
 obtain ⟨o,g1,g2,g3,g4⟩:=X.good.fn f F hf
 refine Call_Name rfl (X.glob hx hd (hn.2▸g3 hn.1) ?_)
 refine Calls.callWith_function (fd:=P.fd f) (o:=o) (gI (bA (h.pl env)) (h.sim pos n A env g ρ σ s _ _ E X hb fun xs s₁ g₁ ts σ₁ e p w r=>?_))
 have X₁:=X.post p w
 obtain ⟨t,σ₂,e₂⟩:=vG fun q=>hb (e.trans q)
 exact ⟨⟨X₁.base _ _ g1,g2⟩,qF X₁ (by rw [hm];exact r) e₂ fun x s' g' p' w' r'=>hq x s' g' t σ₂ (e.trans (by rw [e₂,zS])) (p.trans p') w' (r'.after p.back)⟩
theorem am.call {y:Str}{f:Nat}{F:fN}{es:List Expr}{ps:PL}{p pos:Pos}(hf:P.Ψ f=some F)(hn:P.gl f=true∧(P.fd f).name=y)(hm:rh f=false)(hfr:kh f=false)(hx:B.sc.names.lookup y=some .globalImplicit)(hd:(y==("__debug__":Str))=false)(h:fS P B C es ps):
  am P B C (.Call (.Name y p) es [] pos) (ak f ps) (RV P):=(am.callF hf hn hm hx hd h).weak fun _ _ _ _ _ r=>by unfold RF Aq at r;rw [hfr] at r;exact r
theorem am.callN {y:Str}{f:Nat}{F:fN}{es:List Expr}{ps:PL}{p pos:Pos}(hf:P.Ψ f=some F)(hn:P.gl f=true∧(P.fd f).name=y)(hm:rh f=false)(hfr:kh f=true)(hx:B.sc.names.lookup y=some .globalImplicit)(hd:(y==("__debug__":Str))=false)(h:fS P B C es ps):
  am P B C (.Call (.Name y p) es [] pos) (ak f ps) (RN P):=(am.callF hf hn hm hx hd h).weak fun _ _ _ _ _ r=>by unfold RF Aq at r;rw [hfr] at r;exact r
theorem bq {M:Model}{E:Value→Shared→Prop}{pos:Pos}{f:Value}{first:List Value}{args:List (Bool×Sem Value)}{Q:Value→Shared→Prop}(hf:∀a,f≠.ref a)(hp:∀p∈args,p.1=false)
  (h:wpAny M A (spliced args) (fun vs s₁=>wpAny M A (PySem.call f (first++vs) []) Q E s₁) E s):wpAny M A (callWith pos f first args []) Q E s:=by
 have hany:args.any (·.1)=false:=List.any_eq_false.mpr fun p hp'=>by rw [hp p hp'];decide
 have h':=gI (f:=f) (Q:=fun a s₁=>wpAny M A (PySem.call f (first++a.pos) a.kw) Q E s₁) hp h
 have hkp:keeperOf f=pure .machine:=by
  cases f<;>first |rfl |exact absurd rfl (hf _)
 unfold callWith
 refine wpAny_bind (wpAny_holding (wpAny_mono h' (fun a s₁ h₁=>wpAny_bind (wpAny_standAt ?_)) fun _ _ x=>x))
 simp only [hany,List.any_nil,Bool.or_false,hkp]
 refine wpAny_bind (wpAny_pure ?_)
 exact wpAny_bind (wpAny_mono h₁ (fun r s₂ hr=>wpAny_bind (wpAny_holding (wpAny_point (wpAny_pure hr)))) fun _ _ x=>x)
theorem am.b1Y {y:Str}{id:Value}{F:T→Option T}{e:Expr}{p:PE}{pn pos:Pos}{R:RR Value T}(hd:Dn R)(o:xR P (BA P fun x=>PySem.call id [x]) F R)(hid:∀a,id≠.ref a)(hx:B.sc.names.lookup y=some .globalImplicit)(hdb:(y==("__debug__":Str))=false)(hm:y∈iC)(hv:bootBuiltins y=some id)
  (hn:∀env,starEach [e] env=[(false,eval e env)])(h:am P B C e p (RY P)):am P B C (.Call (.Name y pn) [e] [] pos) (p1 F p) R:=fun n A env g ρ σ s k Q E X hb hq=>
 Call_Name rfl (X.blt hx hdb hm hv (bq hid (bA (by rw [hn env];exact fun q hq=>by cases hq with |head=>rfl |tail _ h=>cases h))
  (wpAny_items_cons (wpAny_mono (h.op1 hd o n A env g ρ σ s k Q E X hb hq) (fun _ _ q=>wpAny_items_nil q) fun _ _ q=>q) (hn env))))
theorem am.b1 {y:Str}{id:Value}{F:T→Option T}{e:Expr}{p:PE}{pn pos:Pos}{R:RR Value T}(hd:Dn R)(o:xR P (BA P fun x=>PySem.call id [x]) F R)(hid:∀a,id≠.ref a)(hx:B.sc.names.lookup y=some .globalImplicit)(hdb:(y==("__debug__":Str))=false)(hm:y∈iC)(hv:bootBuiltins y=some id)
  (hn:∀env,starEach [e] env=[(false,eval e env)])(h:am P B C e p (RX P)):am P B C (.Call (.Name y pn) [e] [] pos) (p1 F p) R:=.b1Y hd o hid hx hdb hm hv hn h.xy
theorem gE {I:Addr}{h h':Heap}(hs:∀b,b≠I→h'.get? b=h.get? b):∀a o,h.get? a=some o→a∉[I]→h'.get? a=some o:=fun a o e q=>(hs a fun x=>q (x▸List.mem_singleton.mpr rfl)).trans e
theorem rT {I:Addr}{h h':Heap}(hs:∀b,b≠I→h'.get? b=h.get? b)(hI:¬g.F I):aL g h g h':=⟨fun a f=>⟨f,fun o e=>(hs a fun q=>hI (q▸f)).trans e⟩,rfl⟩
theorem mQ.list (hh:A.handled=none){I l:Addr}{ts:List T}{vs:Array Value}{m:Nat}:mQ P A I ts [I] [] (fun i g h=>h.IsListIter I l i∧g.F l∧h.get? l=some (bn vs m)∧aP P g h ts vs.toList) where
 self i g s Q E st:=wpAny_pyIter_listiter st.1
 stay i g h g' h' st k ki:=by
  obtain ⟨⟨o,e,r⟩,f,e',q⟩:=st
  exact ⟨⟨o,ki I (List.mem_singleton.mpr rfl) o e,r⟩,(k.F l f).1,(k.F l f).2 _ e',q.mono k⟩
 here i g h st a ha:=by
  obtain ⟨⟨o,e,_⟩,_⟩:=st
  rw [List.mem_singleton.mp ha];exact an e
 item i t g s Q E hi st hF hq:=by
  obtain ⟨it,f,e',q⟩:=st
  obtain ⟨u,hu,r⟩:=q.get hi
  refine wpAny_pyNext_list_item it ⟨_,e',rfl,m,rfl⟩ (by rw [←Array.getElem?_toList];exact hu) fun h' it' hs=>?_
  have kf:=rT hs.2 (hF I (List.mem_singleton.mpr rfl))
  exact hq u h' s.toks (gE hs.2) (r.mono kf) ⟨it',f,(kf.F l f).2 _ e',q.mono kf⟩
 done g s Q E st hq:=by
  obtain ⟨it,f,e',q⟩:=st
  refine wpAny_pyNext_list_end hh it ⟨_,e',rfl,m,rfl⟩ (Array.getElem?_eq_none (Nat.le_of_eq q.size)) fun h' hs=>hq h' s.toks fun b o e hb=>hs b o (fun q=>hb (List.mem_singleton.mpr q)) e
theorem mQ.tuple (hh:A.handled=none){I l:Addr}{ts:List T}{vs:Array Value}{m:Nat}:mQ P A I ts [I] [] (fun i g h=>h.IsTupleIter I l i∧g.F l∧h.get? l=some (g8 vs m)∧aP P g h ts vs.toList) where
 self i g s Q E st:=wpAny_pyIter_tupleiter st.1
 stay i g h g' h' st k ki:=by
  obtain ⟨⟨o,e,r⟩,f,e',q⟩:=st
  exact ⟨⟨o,ki I (List.mem_singleton.mpr rfl) o e,r⟩,(k.F l f).1,(k.F l f).2 _ e',q.mono k⟩
 here i g h st a ha:=by
  obtain ⟨⟨o,e,_⟩,_⟩:=st
  rw [List.mem_singleton.mp ha];exact an e
 item i t g s Q E hi st hF hq:=by
  obtain ⟨it,f,e',q⟩:=st
  obtain ⟨u,hu,r⟩:=q.get hi
  refine wpAny_pyNext_tuple_item it ⟨_,e',rfl,m,rfl⟩ (by rw [←Array.getElem?_toList];exact hu) fun h' it' hs=>?_
  have kf:=rT hs.2 (hF I (List.mem_singleton.mpr rfl))
  exact hq u h' s.toks (gE hs.2) (r.mono kf) ⟨it',f,(kf.F l f).2 _ e',q.mono kf⟩
 done g s Q E st hq:=by
  obtain ⟨it,f,e',q⟩:=st
  exact wpAny_pyNext_tuple_end hh it ⟨_,e',rfl,m,rfl⟩ (Array.getElem?_eq_none (Nat.le_of_eq q.size)) fun h' hs=>hq h' s.toks fun b o e hb=>hs b o (fun q=>hb (List.mem_singleton.mpr q)) e
noncomputable abbrev uo (c:String)(l:Addr):Obj:={cls:=.type c,data:=.fields #[.ref l,.int 0 0]}
noncomputable abbrev xI (P:Pg)(B:bx)(C C':Ct)(target:Expr)(zb:PB)(tw:Env→List Addr):Around→Addr→List T→List Addr→List Addr→(Nat→Gh→Heap→Prop)→Prop:=fun A I ts vol fx St=>j4 P A B C C' target zb tw I ts vol fx St
structure iG (P:Pg) (mk:Around→Addr→List T→List Addr→List Addr→(Nat→Gh→Heap→Prop)→Prop):Prop where
 make:∀{A I ts vol fx St},mQ P A I ts vol fx St→mk A I ts vol fx St
theorem iG.one {i:Nat}{y:Str}{k:NameKind}{p:Pos}(hc:bY C i false C'=true)(ht:B.tab[i]?=some (some (y,k)))(hk:k=.local∨k=.cell):iG P (xI P B C C' (.Name y p) (aJ i) (zO k y)):=⟨fun T=>T.one hc ht hk⟩
theorem oK {X:Obj}{tk:Nat}(w:bp P g₁ s₁.heap σ)(p:aC g s g₁ s₁):aC g s g₁ {s₁ with heap:=s₁.heap.push X,toks:=tk}∧bp P g₁ (s₁.heap.push X) σ∧∀a∈[s₁.heap.objs.size],s.heap.get? a=none∧¬g₁.F a∧¬g₁.Z a:=
 ⟨p.trans (.push X tk),w.push X,fun a ha=>by rw [List.mem_singleton.mp ha];exact ⟨p.back _ (aD _),(c9 w).1,(c9 w).2.1⟩⟩
theorem eN.seq {e:Expr}{p:PE}{mk:Around→Addr→List T→List Addr→List Addr→(Nat→Gh→Heap→Prop)→Prop}(hb:iG P mk)(h:am P B C e p (RV P)):eN P B C e mk (aG p):=fun n A env g ρ σ s k Q E X hbad hq=>
 h n A env g ρ σ s (fun t σ=>up (fZ t) σ k) _ E X hbad fun x s₁ g₁ t σ₁ e p w r=>by
  obtain ⟨ts,e'⟩:=bS fun q=>hbad (e.trans q)
  have ek:aG _ (P.cx n) ρ σ k=k ts σ₁:=e.trans (by rw [e'];rfl)
  unfold fZ el at e'
  cases e1:pf t with
  |some us=>
   rw [e1] at e';cases e';cases jN e1
   obtain ⟨l,rfl,f,vs,m,g1,g3,g2⟩:=r
   refine wpAny_pyIter_tuple ⟨_,g1,rfl,m,rfl⟩ ?_
   obtain ⟨p',w',v⟩:=oK (X:=uo "tuple_iterator" l) (tk:=s₁.toks) w p
   exact hq _ g₁ ts σ₁ _ _ [] _ ek p' w' (hb.make (mQ.tuple X.room.2.2)) ⟨⟨_,bD _,rfl,rfl⟩,f,bN s₁ _ _ _ g1,g2.mono ((aC.push (uo "tuple_iterator" l) 0).k w)⟩ v (fun _ q=>nomatch q) g3
  |none=>
   rw [e1] at e';cases d9 e'
   obtain ⟨l,rfl,f,vs,m,g1,g3,g2⟩:=r
   refine wpAny_pyIter_list ⟨_,g1,rfl,m,rfl⟩ ?_
   obtain ⟨p',w',v⟩:=oK (X:=uo "list_iterator" l) (tk:=s₁.toks) w p
   exact hq _ g₁ ts σ₁ _ _ [] _ ek p' w' (hb.make (mQ.list X.room.2.2)) ⟨⟨_,bD _,rfl,rfl⟩,f,bN s₁ _ _ _ g1,g2.mono ((aC.push (uo "list_iterator" l) 0).k w)⟩ v (fun _ q=>nomatch q) g3
theorem mQ.range (hh:A.handled=none){I:Addr}{a b c:Int}(n:Nat)(hn:n=(Builtin.Range.rangeSize a b c).toNat):mQ P A I (cf a b c) [I] [] (fun i _ h=>i≤n∧IsRangeIter h I (a+(i:Nat) * c) ((n:Int) - (i:Nat)) c) where
 self i g s Q E st:=wpAny_pyIter_rangeiter st.2
 stay i g h g' h' st k ki:=⟨st.1,ki I (List.mem_singleton.mpr rfl) _ st.2⟩
 here i g h st a ha:=by rw [List.mem_singleton.mp ha];exact an st.2
 item i t g s Q E hi st hF hq:=by
  have hl:i < n:=by
   have:=(List.getElem?_eq_some_iff.mp hi).1
   rw [cf,List.length_map,List.length_range,←hn] at this;exact this
  have ht:t=.int (a+(i:Nat) * c):=by
   rw [cf,List.getElem?_map,List.getElem?_range (by rw [←hn];exact hl)] at hi
   exact (Option.some.inj hi).symm
  refine wpAny_pyNext_range_item st.2 (by lia -abstractProof) fun h' hit hs=>hq _ h' _ (gE hs.2) (ht▸⟨_,rfl⟩) ⟨hl,?_⟩
  have e1:a+((i+1:Nat):Int) * c=a+(i:Int) * c+c:=by rw [Int.natCast_succ,Int.add_mul,Int.one_mul,Int.add_assoc]
  have e2:(n:Int) - ((i+1:Nat):Int)=(n:Int) - (i:Int) - 1:=by lia -abstractProof
  rw [e1,e2];exact hit
 done g s Q E st hq:=by
  have hl:(cf a b c).length=n:=by rw [cf,List.length_map,List.length_range,hn]
  exact wpAny_pyNext_range_end hh st.2 (by rw [hl];lia -abstractProof) fun h' hs=>hq h' s.toks fun b o e hb=>hs b o (fun q=>hb (List.mem_singleton.mpr q)) e
theorem Af {i:Int}(h1:-4000000000≤i)(h2:i≤4000000000):Builtin.Range.rangeFitsLong i=true:=Bool.and_eq_true_iff.mpr ⟨decide_eq_true (Int.le_trans (by decide) h1),decide_eq_true (Int.lt_of_le_of_lt h2 (by decide))⟩
theorem sJ {i:Int}(h:sm i=true):-1000000000≤i∧i≤1000000000:=
 have q:(i.natAbs:Int)≤1000000000:=Int.ofNat_le.mpr (u8 h)
 ⟨Int.neg_le_of_neg_le (Int.le_trans (Int.natAbs_neg i▸Int.le_natAbs) q),Int.le_trans Int.le_natAbs q⟩
theorem zP {a b:Int}(ha:sm a=true)(hb:sm b=true):0≤(if a < b then (b - a - 1) / 1+1 else 0:Int)∧(if a < b then (b - a - 1) / 1+1 else 0:Int)≤4000000000:=by
 by_cases h:a < b
 ·rw [if_pos h,Int.ediv_one,Int.sub_add_cancel];exact ⟨Int.sub_nonneg.mpr (Int.le_of_lt h),Int.le_trans (Int.sub_le_sub (sJ hb).2 (sJ ha).1) (by decide)⟩
 ·rw [if_neg h];decide
theorem Ae {a:Int}(h:sm a=true):Builtin.Range.rangeFitsLong a=true:=Af (Int.le_trans (by decide) (sJ h).1) (Int.le_trans (sJ h).2 (by decide))
theorem EA {a b c n d:Int}(ha:sm a=true)(hb:sm b=true)(hc:Builtin.Range.rangeFitsLong c=true)(hn:0≤n∧n≤4000000000)(hd:d=b):(Builtin.Range.rangeFitsLong a&&Builtin.Range.rangeFitsLong b&&Builtin.Range.rangeFitsLong c&&Builtin.Range.rangeFitsLong n&&(n==0||Builtin.Range.rangeFitsLong d))=true:=by
 rw [Ae ha,hd,Ae hb,hc,Af (Int.le_trans (by decide) hn.1) hn.2,Bool.or_true];rfl
theorem yd {a b:Int}(ha:sm a=true)(hb:sm b=true):0≤Builtin.Range.rangeSize a b 1∧Builtin.Range.small a b 1=true:=by
 have e:Builtin.Range.rangeSize a b 1=if a < b then (b - a - 1) / 1+1 else 0:=if_pos (by decide)
 have h:=zP ha hb
 rw [←e] at h
 exact ⟨h.1,EA ha hb (by decide) h (Int.add_zero b)⟩
inductive Fa (ts:List T) (vs:List Value) (l:List T):Prop
 |one (n:Int) (t:Tok) (e:vs=[.int n t]) (h:rg 0 n=some l)
 |two (m n:Int) (t u:Tok) (e:vs=[.int m t,.int n u]) (h:rg m n=some l)
theorem rH {ts l:List T}{vs:List Value}(r:aP P g h ts vs)(e:tT ts=some l):Fa ts vs l:=by
 unfold tT at e
 cases ts with
 |nil=>cases e
 |cons m r1=>
  obtain ⟨x,xs,e1,q1,q2⟩:=r
  cases r1 with
  |nil=>
   obtain ⟨i,h1,h2⟩:=ar (show o1 (iH m) (rg 0)=some l from e)
   cases mE h1
   obtain ⟨t,rfl⟩:=q1
   cases q2
   exact .one i t e1 h2
  |cons m' r2=>
   obtain ⟨x',xs',e2,q3,q4⟩:=q2
   cases r2 with
   |nil=>
    obtain ⟨i,j,h1,h2,h3⟩:=aV (show o2 (iH m) (iH m') rg=some l from e)
    cases mE h1;cases mE h2
    obtain ⟨t,rfl⟩:=q1
    obtain ⟨u,rfl⟩:=q3
    cases q4
    exact .two i j t u (e2▸e1) h3
   |cons=>cases e
noncomputable abbrev DN (a b:Int)(t u v:Tok):Obj:={cls:=.type "range",data:=.fields #[.int a t,.int b u,.int 1 v]}
theorem eN.range {es:List Expr}{ps:PL}{p pos:Pos}{mk:Around→Addr→List T→List Addr→List Addr→(Nat→Gh→Heap→Prop)→Prop}(hb:iG P mk)(hx:B.sc.names.lookup (ofString "range")=some .globalImplicit)(h:fS P B C es ps):
  eN P B C (.Call (.Name (ofString "range") p) es [] pos) mk (cj ps):=fun n A env g ρ σ s k Q E X hbad hq=>by
 refine Call_Name rfl (X.blt hx (by decide) (by decide) (v:=.type "range") (by decide) ?_)
 refine bq (fun _ q=>by cases q) (bA (h.pl env)) (h.sim pos n A env g ρ σ s (fun t σ=>up (tT t) σ k) _ E X hbad fun xs s₁ g₁ ts σ₁ e p w r=>?_)
 obtain ⟨l,e'⟩:=bS fun q=>hbad (e.trans q)
 have ek:cj ps (P.cx n) ρ σ k=k l σ₁:=e.trans (by rw [e'];rfl)
 have fin:∀(a b:Int) (t u v:Tok) (tk:Nat),rg a b=some l→wpAny P.M A (pyIter (.ref s₁.heap.objs.size)) Q E {s₁ with heap:=s₁.heap.push (DN a b t u v),toks:=tk}:=fun a b t u v tk hr=>by
  obtain ⟨c,rfl⟩:=cr hr
  obtain ⟨c1,c2⟩:=Bool.and_eq_true_iff.mp c
  obtain ⟨c3,c4⟩:=Bool.and_eq_true_iff.mp c1
  obtain ⟨hsz,hsm⟩:=yd c3 c4
  refine wpAny_pyIter_range (IsRange.new s₁.heap a b 1 t u v) hsm ?_
  obtain ⟨p',w',_⟩:=oK (X:=DN a b t u v) (tk:=tk) w p
  obtain ⟨p'',w'',v''⟩:=oK (s₁:={s₁ with heap:=s₁.heap.push (DN a b t u v),toks:=tk}) (X:={cls:=.type "range_iterator",data:=.fields #[rawInt a,rawInt (Builtin.Range.rangeSize a b 1),rawInt 1]}) (tk:=tk) w' p'
  refine hq _ g₁ _ σ₁ _ _ [] _ ek p'' w'' (hb.make (mQ.range X.room.2.2 (Builtin.Range.rangeSize a b 1).toNat rfl)) ⟨Nat.zero_le _,?_⟩ v'' (fun _ q=>nomatch q) (fC c2)
  have e1:a+((0:Nat):Int) * 1=a:=by simp
  have e2:(((Builtin.Range.rangeSize a b 1).toNat:Int) - ((0:Nat):Int))=Builtin.Range.rangeSize a b 1:=by lia -abstractProof
  show IsRangeIter _ _ _ _ _
  rw [e1,e2];exact bD _
 rcases rH r e' with ⟨m,t,rfl,hr⟩ | ⟨m,m',t,u,rfl,hr⟩
 ·exact call_range_1 (fin 0 m _ t _ _ hr)
 ·exact call_range_2 (fin m m' t u _ _ hr)
end
theorem nY {kind:Str→Option NameKind}{x:Str}:∀(l:List (Str×Value)) (m:Str→Option Value),(∀p∈l,p.1≠x)→bindL kind l m x=m x
 | [],_,_=>rfl
 | (y,v)::r,m,h=>by
  rw [bindL,nY r _ fun p hp=>h p (List.mem_cons_of_mem _ hp)]
  have hy:¬x=y:=fun e=>h (y,v) List.mem_cons_self e.symm
  split
  ·simp [hy]
  ·rfl
theorem nZ {kind:Str→Option NameKind}{x:Str}:∀(l:List (Str×Value)) (m:Str→Option Value),(∀p∈l,p.1≠x)→bindC kind l m x=m x
 | [],_,_=>rfl
 | (y,v)::r,m,h=>by
  rw [bindC,nZ r _ fun p hp=>h p (List.mem_cons_of_mem _ hp)]
  have hy:¬x=y:=fun e=>h (y,v) List.mem_cons_self e.symm
  split
  ·rfl
  ·simp [hy]
theorem kM {x:Str}{ps:List Str}{vs:List Value}(h:x∉ps):∀p∈ps.zip vs,p.1≠x:=fun p hp e=>h (e▸(List.of_mem_zip (a:=p.1) (b:=p.2) hp).1)
theorem qP {kind:Str→Option NameKind}:∀(ps:List Str) (vs:List Value) (m:Str→Option Value),ps.Nodup→∀(i:Nat) (x:Str) (v:Value),ps[i]?=some x→vs[i]?=some v→kind x=some .local→bindL kind (ps.zip vs) m x=some v
 | [],_,_,_,i,x,v,h,_,_=>by simp at h
 |_::_,[],_,_,i,x,v,_,h,_=>by simp at h
 |y::ps,u::vs,m,hn,0,x,v,hx,hv,hk=>by
  simp at hx hv;subst hx hv
  rw [List.zip_cons_cons,bindL,nY _ _ (kM (List.nodup_cons.mp hn).1),if_pos hk];simp
 |y::ps,u::vs,m,hn,i+1,x,v,hx,hv,hk=>by
  rw [List.zip_cons_cons,bindL]
  exact qP ps vs _ (List.nodup_cons.mp hn).2 i x v (by simpa using hx) (by simpa using hv) hk
theorem qQ {kind:Str→Option NameKind}:∀(ps:List Str) (vs:List Value) (m:Str→Option Value),ps.Nodup→∀(i:Nat) (x:Str) (v:Value),ps[i]?=some x→vs[i]?=some v→kind x≠some .local→bindC kind (ps.zip vs) m x=some v
 | [],_,_,_,i,x,v,h,_,_=>by simp at h
 |_::_,[],_,_,i,x,v,_,h,_=>by simp at h
 |y::ps,u::vs,m,hn,0,x,v,hx,hv,hk=>by
  simp at hx hv;subst hx hv
  rw [List.zip_cons_cons,bindC,nZ _ _ (kM (List.nodup_cons.mp hn).1),if_neg hk];simp
 |y::ps,u::vs,m,hn,i+1,x,v,hx,hv,hk=>by
  rw [List.zip_cons_cons,bindC]
  exact qQ ps vs _ (List.nodup_cons.mp hn).2 i x v (by simpa using hx) (by simpa using hv) hk
theorem oL {cs:List (Str×Addr)}(h:cs.Pairwise fun x y=>x.2≠y.2):∀{x y:Str} {c:Addr},cs.lookup x=some c→cs.lookup y=some c→x=y:=by
 induction cs with
 |nil=>intro x y c hx;cases hx
 |cons p r ih=>
  intro x y c hx hy
  obtain ⟨z,d⟩:=p
  have h1:=(List.pairwise_cons.mp h).1
  rw [List.lookup_cons] at hx hy
  have out:∀{w:Str},r.lookup w=some d→False:=fun {w} e=>by
   obtain ⟨q,hq,e'⟩:=List.mem_map.mp (bh e)
   exact h1 q hq e'.symm
  cases hx':(x==z) with
  |true=>
   simp only [hx'] at hx;cases hx
   cases hy':(y==z) with
   |true=>exact (beq_iff_eq.mp hx').trans (beq_iff_eq.mp hy').symm
   |false=>simp only [hy'] at hy;exact (out hy).elim
  |false=>
   simp only [hx'] at hx
   cases hy':(y==z) with
   |true=>simp only [hy'] at hy;cases hy;exact (out hx).elim
   |false=>simp only [hy'] at hy;exact ih (List.pairwise_cons.mp h).2 hx hy
structure Dc (P:Pg) (f np:Nat) (tab:List (Option (Str×NameKind))) (ps:List Str) (bd:List Stmt) (U:List Nat):Prop where
 body:(P.fd f).body=.stmts bd
 ok:bx.ok ⟨(P.fd f).scope,tab⟩=true
 len:ps.length=np
 par:∀(i:Nat) (x:Str),ps[i]?=some x→∃k:NameKind,tab[i]?=some (some (x,k))∧(k=.local∨k=.cell)
 nof:∀(i:Nat) (x:Str),tab[i]?≠some (some (x,.free))
 bind:∀vals:List Value,vals.length=np→bindArgs (P.fd f) ⟨vals,[]⟩=pure (ps.zip vals)
 nd:((cellsFrom 0 (P.fd f).scope.names []).map (·.1)).Nodup
 co:(P.fd f).scope.isCoroutine=false∧(P.fd f).scope.isGenerator=false
 un:∀i∈U,np≤i
inductive uO (P:Pg) (f:Nat) (F:fN):Prop
 |mk (tab:List (Option (Str×NameKind))) (ps:List Str) (bd:List Stmt) (U:List Nat) (C':Ct) (K:Dc P f F.np tab ps bd U) (sim:gM P ⟨(P.fd f).scope,tab⟩ ⟨[],U,rh f⟩ (kh f) C' bd F.body)
theorem mP.deeper {A:Around}{n:Nat}(env:Env)(h:mP A (n+1)):zC (A.deeper env) n:=by
 obtain ⟨h1,h2,h3⟩:=h
 refine ⟨?_,?_,h3⟩
 ·show A.depth+1+2 * n+10 < recursionLimit;lia -abstractProof
 ·show A.units+3+20 * n+200 < cLine;lia -abstractProof
theorem gS {n i:Nat}{t:T}:∀{ts:List T},bz (frame ts n) i=some t→ts[i]?=some t:=by
 intro ts
 induction ts generalizing i with
 |nil=>
  intro h
  have:∀n i,bz (List.replicate n none) i=none:=fun n=>by
   induction n with
   |zero=>exact fun _=>rfl
   |succ n ih=>intro i;cases i with
    |zero=>rfl
    |succ i=>exact ih i
  rw [show frame [] n=List.replicate n none from rfl,this] at h;cases h
 |cons x ts ih=>
  intro h
  cases i with
  |zero=>exact h
  |succ i=>exact ih h
theorem vJ {n i:Nat}{ts:List T}(h:ts.length≤i):bz (frame ts n) i=none:=by
 cases e:bz (frame ts n) i with
 |none=>rfl
 |some t=>exact absurd (List.getElem?_eq_some_iff.mp (gS e)).1 (Nat.not_lt.mpr h)
theorem Args.get {P:Pg}{m:Bool}{g:Gh}{h:Heap}{ts:List T}{vs:List Value}(a:Args P m g h ts vs):vs.length=ts.length∧∀(i:Nat) (t:T),ts[i]?=some t→∃v,vs[i]?=some v∧(Rp P g h t v∨(m=true∧i=0∧t=.self∧v=.ref g.sa)):=by
 cases m with
 |false=>exact ⟨aP.length a,fun i t e=>let ⟨v,e',r⟩:=aP.get a e;⟨v,e',.inl r⟩⟩
 |true=>
  obtain ⟨v,vs,t,ts,rfl,rfl,h1,h2⟩:=a
  refine ⟨congrArg (·+1) (aP.length h2),fun i u e=>?_⟩
  cases i with
  |zero=>cases e;exact ⟨v,rfl,h1.imp id fun q=>⟨rfl,rfl,q⟩⟩
  |succ i=>exact let ⟨v,e',r⟩:=aP.get h2 (i:=i) e;⟨v,e',.inl r⟩
theorem Args.mono {P:Pg}{m:Bool}{g g':Gh}{h h':Heap}{ts:List T}{vs:List Value}(k:aL g h g' h')(es:g'.sa=g.sa)(a:Args P m g h ts vs):Args P m g' h' ts vs:=by
 cases m with
 |false=>exact aP.mono k a
 |true=>exact let ⟨v,vs,t,ts,e,e',h1,h2⟩:=a;⟨v,vs,t,ts,e,e',h1.imp (·.mono k) fun q=>⟨q.1,es▸q.2⟩,h2.mono k⟩
theorem A5 (g:Gh)(o:Nat→Option Addr)(h:Heap):aL g h {g with o:=o} h:=⟨fun _ f=>⟨f,fun _ e=>e⟩,rfl⟩
theorem bp.callee {P:Pg}{g:Gh}{h h':Heap}{σ:Sg}(w:bp P g h σ)(k:∀a o,h.get? a=some o→h'.get? a=some o):bp P {g with o:=fun _=>none} h' σ:=by
 have w1:=w.grow k g.F (fun _ f=>f) fun _ f=>.inl f
 exact ⟨w1.base,w1.F,w1.Z,(fun a ⟨_,q⟩=>nomatch q),(fun _ _ _ q=>nomatch q),w1.spot,fun c ts e=>(w1.self c ts e).mono (A5 g _ h') (fun _ z=>⟨z,fun _ e=>e⟩) rfl⟩
theorem qG {P:Pg}{g g':Gh}{s s₁ s':Shared}{σ σ':Sg}{W:List Addr}(hs:∃h tk,s₁={s with heap:=h,toks:=tk})(hk:∀a o,s.heap.get? a=some o→s₁.heap.get? a=some o)(w:bp P g s.heap σ)(hW:∀a∈W,s.heap.get? a=none)(q:aM [] W {g with o:=fun _=>none} s₁ g' s')(w':bp P g' s'.heap σ'):
  aC g s {g' with o:=g.o} s'∧bp P {g' with o:=g.o} s'.heap σ':=by
 have bk:∀a,s₁.heap.get? a=none→s.heap.get? a=none:=fun a e=>by
  cases x:s.heap.get? a with
  |none=>rfl
  |some o=>exact (an (hk a o x) e).elim
 have fn:∀a,g'.F a→g.F a∨s.heap.get? a=none:=fun a f=>(q.Fn a f).imp id fun x=>x.elim (fun ⟨_,x⟩=>nomatch x) (bk a)
 have zn:∀a,g'.Z a→g.Z a∨s.heap.get? a=none:=fun a f=>(q.Zn a f).imp id (bk a)
 have kp:∀a o,s.heap.get? a=some o→¬g.Z a→s'.heap.get? a=some o:=fun a o e z=>q.keep a o (hk a o e) z (fun ⟨_,x⟩=>nomatch x) fun x=>an e (hW a x)
 refine ⟨⟨St.trans hs q.st,kp,fun a e=>bk a (q.b a e),q.F,fn,zn,rfl,q.sp,q.sa⟩,w'.base,w'.F,w'.Z,fun a x=>?_,w.oo,w'.spot,fun c ts e=>(w'.self c ts e).mono (A5 g' _ s'.heap) (fun _ z=>⟨z,fun _ e=>e⟩) rfl⟩
 obtain ⟨l,f,z⟩:=w.O a x
 refine ⟨?_,fun y=>(fn a y).elim f l,fun y=>(zn a y).elim z l⟩
 cases e:s.heap.get? a with
 |none=>exact (l e).elim
 |some o=>exact an (kp a o e z)
theorem Ag {P:Pg}(G:q7 P){f np ns:Nat}{F:fN}{m:Bool}{tab:List (Option (Str×NameKind))}{ps:List Str}{bd:List Stmt}{U:List Nat}(hf:P.Ψ f=some F)(K:Dc P f np tab ps bd U){A:Around}{ts:List T}{vs:List Value}{g:Gh}{s:Shared}{R:Result→Shared→Prop}(hd:A.depth < recursionLimit)(bs:∀a o,P.h₀.get? a=some o→s.heap.get? a=some o)
  (lF:∀a,g.F a→s.heap.get? a≠none)(lZ:∀a,g.Z a→s.heap.get? a≠none)(r:Args P m g s.heap ts vs)(hlen:ts.length=np)
  (k:∀s₁ env E,(∃h tk,s₁={s with heap:=h,toks:=tk})→(∀a o,s.heap.get? a=some o→s₁.heap.get? a=some o)→(∀a∈own env,s.heap.get? a=none)→bV P ⟨(P.fd f).scope,tab⟩ ⟨[],U,m⟩ env {g with o:=fun _=>none} (frame ts ns) s₁.heap→wpAny P.M (A.deeper env) (execs bd env) (fun f s'=>R (.ok (.ret (match f with |.ret v=>v |_=>.none))) s') E s₁):
  codeAny P.M A (.call (.ref (P.fnA f)) ⟨vs,[]⟩) R s:=by
 obtain ⟨o,g1,g2,g3,g4,g5,g6,g7⟩:=G.fn f F hf
 obtain ⟨K1,K2,K3,K4,K5,K6,K7,K8,K9⟩:=K
 obtain ⟨al,ag⟩:=r.get
 have hvl:vs.length=np:=al.trans hlen
 have look:∀i x k,tab[i]?=some (some (x,k))→(P.fd f).scope.names.lookup x=some k:=fun i x k h=>(bx.look (B:=⟨(P.fd f).scope,tab⟩) K2 h).2.1
 have hkind:(P.fd f).scope.kind=.function:=by
  have:=K2
  simp only [bx.ok,Bool.and_eq_true,beq_iff_eq] at this
  exact this.1.1
 have hnd:ps.Nodup:=by
  rw [List.nodup_iff_pairwise_ne,List.pairwise_iff_getElem]
  intro i j hi hj hij e
  obtain ⟨k,q,_⟩:=K4 i ps[i] (List.getElem?_eq_getElem hi)
  obtain ⟨k',q',_⟩:=K4 j ps[j] (List.getElem?_eq_getElem hj)
  exact absurd (bx.inj K2 (B:=⟨(P.fd f).scope,tab⟩) q (e▸q')) (Nat.ne_of_lt hij)
 refine codeAny_call_cells (binds:=ps.zip vs) hd (bs _ _ g1) g2 (G.nolimit.keeps bs) (g4.keeps bs) K1 (K6 vs hvl) g5 (fun x hx=>?_) (fun s₁ x=>?_) K8.1 K8.2 hkind
 ·obtain ⟨i,hi,e⟩:=List.getElem_of_mem (List.of_mem_zip (a:=x.1) (b:=x.2) hx).1
  obtain ⟨k,q,hk⟩:=K4 i x.1 (by rw [List.getElem?_eq_getElem hi,e])
  have:=look i x.1 k q
  rcases hk with rfl |rfl
  ·exact .inl this
  ·exact .inr ⟨this,PySem.W.cellsFrom_some _ _ _ (.inl this)⟩
 ·have dead:∀a:Addr,s.heap.objs.size≤a→s.heap.get? a=none:=fun a ha=>by
   cases e:s.heap.get? a with
   |none=>rfl
   |some o'=>exact absurd (Heap.lt_size e) (Nat.not_lt.mpr ha)
  have hW:∀a∈own (callEnvC (P.fd f) s.heap.objs.size (P.fnA f)),s.heap.get? a=none:=fun a ha=>by
   rcases List.mem_cons.mp ha with rfl |ha
   ·exact dead _ (Nat.le_refl _)
   ·obtain ⟨q,hq,rfl⟩:=List.mem_map.mp ha
    exact dead _ (Nat.le_of_lt (x.above q.1 q.2 hq))
  have r1:=r.mono (g':={g with o:=fun _=>none}) (h':=s₁.heap) (show aL g s.heap _ _ from ⟨fun a f=>⟨f,x.toInCall.keep a⟩,rfl⟩) rfl
  obtain ⟨_,ag⟩:=r1.get
  have par:∀{i y k t},tab[i]?=some (some (y,k))→ts[i]?=some t→ps[i]?=some y:=fun {i y k t} ht hv=>by
   have hi:i < ps.length:=by rw [K3,←hlen];exact (List.getElem?_eq_some_iff.mp hv).1
   obtain ⟨k,q,_⟩:=K4 i ps[i] (List.getElem?_eq_getElem hi)
   rw [ht] at q;cases q
   exact List.getElem?_eq_getElem hi
  have cl:∀{i:Nat} {y:Str} {k:NameKind},tab[i]?=some (some (y,k))→k≠.local→∃c,(cellsFrom (s.heap.objs.size+1) (P.fd f).scope.names []).lookup y=some c:=fun {i y k} ht hk=>by
   have hk':k=.cell:=by
    rcases (bx.look (B:=⟨(P.fd f).scope,tab⟩) K2 ht).2.2.1 with h |h |h
    ·exact (hk h).elim
    ·exact h
    ·exact (K5 i y (h▸ht)).elim
   exact Option.isSome_iff_exists.mp (PySem.W.cellsFrom_some (x:=y) (P.fd f).scope.names (s.heap.objs.size+1) [] (.inl (hk'▸look i y k ht)))
  refine k s₁ _ _ x.toInCall.same x.toInCall.keep hW {
   ok:=K2
   sc:=rfl
   glob:=g6
   blt:=g7
   ns:=⟨_,x.toInCall.ns⟩
   cell:=fun i y k ht hk=>let ⟨c,hc⟩:=cl ht (by rcases hk with rfl |rfl<;>decide);⟨c,_,hc,x.cell y c hc⟩
   apart:=fun y z c hy hz=>oL x.apart hy hz
   own:=fun a ha=>⟨by
    rcases List.mem_cons.mp ha with rfl |ha
    ·obtain ⟨o',_,_,e',_⟩:=x.toInCall.ns;exact an e'
    ·obtain ⟨q,hq,rfl⟩:=List.mem_map.mp ha
     obtain ⟨o',e',hd⟩:=x.cell q.1 q.2 (lookup_of_mem_nodup (cellsFrom_names (P.fd f).scope.names 0 (s.heap.objs.size+1) [] [] rfl▸K7) hq)
     exact an e',fun q=>lF a q (hW a ha),fun q=>lZ a q (hW a ha),fun ⟨_,q⟩=>nomatch q⟩
   var:=fun i y t ht hv=>by
    obtain ⟨y,k⟩:=y
    have hv:=gS hv
    obtain ⟨u,hu,hr⟩:=ag i t hv
    have hp:=par ht hv
    refine ⟨u,?_,hr⟩
    by_cases hk:k=.local
    ·subst hk;exact .loc y _ ht x.toInCall.ns (qP ps vs _ hnd i y u hp hu (look i y _ ht))
    ·obtain ⟨c,hc⟩:=cl ht hk
     have xc:=x.cell y c hc
     rw [qQ ps vs _ hnd i y u hp hu (by show (P.fd f).scope.names.lookup y≠_;rw [look i y k ht];exact fun q=>hk (Option.some.inj q))] at xc
     exact .cel y k c ht ((bx.look (B:=⟨(P.fd f).scope,tab⟩) K2 ht).2.2.1.resolve_left hk) hc xc
   un:=fun i hi=>vJ (hlen▸K9 i hi)}
theorem qH {P:Pg}(G:q7 P)(n:Nat)(ih:∀k,k≤n→py P k)(hF:∀f F,P.Ψ f=some F→uO P f F):py P (n+1):=fun f A ts vs g σ s t σ' Q E room w r hc hq=>by
 rw [tA] at hc
 cases hf:P.Ψ f with
 |none=>rw [hf] at hc;cases hc
 |some F=>
  rw [hf] at hc
  obtain ⟨tab,ps,body,U,C',K,sim⟩:=hF f F hf
  cases hl:Nat.beq ts.length F.np with
  |false=>simp only [hl] at hc;cases hc
  |true=>
   simp only [hl,cond_true] at hc
   refine Ag (ns:=F.ns) G hf K (Nat.lt_of_le_of_lt (Nat.le_trans (Nat.le_add_right _ _) (Nat.le_add_right _ _)) room.1) (fun a o e=>(w.base a o e).2) w.F (fun a z=>(w.Z a z).1) r (Nat.eq_of_beq_eq_true hl) fun s₁ env E' same keep hW E1=>?_
   have X:At P ⟨(P.fd f).scope,tab⟩ ⟨[],U,rh f⟩ n (A.deeper env) env {g with o:=fun _=>none} (frame ts F.ns) σ s₁:=⟨G,ih,room.deeper _,E1,w.callee keep⟩
   cases hb:F.body (P.cx n) (frame ts F.ns) σ fun _ σ=>bif kh f then .bad else .ret .none σ with
   |ret t' σ₁=>
    rw [show F.body ⟨ai P.Ψ n⟩ (frame ts F.ns) σ (fun _ σ=>bif kh f then .bad else .ret .none σ)=_ from hb] at hc
    cases hc
    refine sim n _ _ _ (frame ts F.ns) σ s₁ (fun _ σ=>bif kh f then .bad else .ret .none σ) _ _ X (by rw [hb];exact fun q=>by cases q) (fun s' g' ρ' σ₂ e p X'=>?_) fun y s' g' t₂ σ₂ e p w' r'=>?_
    ·rw [hb] at e
     cases hfr:kh f with
     |true=>rw [hfr] at e;cases e
     |false=>
      rw [hfr] at e hq;cases e
      obtain ⟨pe,we⟩:=qG same keep w hW p X'.g
      exact hq .none s' _ pe we rfl
    ·rw [hb] at e;cases e
     obtain ⟨pe,we⟩:=qG same keep w hW p w'
     refine hq y s' _ pe we ?_
     have kf:=A5 g' g.o s'.heap
     cases hfr:kh f with
     |false=>rw [hfr] at r';exact Rp.mono kf r'
     |true=>
      rw [hfr] at r'
      obtain ⟨a,e,nw,f1,z1,r2⟩:=r'
      have nw:s.heap.get? a=none:=nw.elim (fun ⟨_,q⟩=>nomatch q) fun q=>by
       cases z:s.heap.get? a with
       |none=>rfl
       |some o=>exact (an (keep a o z) q).elim
      exact ⟨a,e,nw,f1,z1,fun q=>(w.O a q).1 nw,r2.mono kf fun _ e=>e⟩
   |_=>rw [show F.body ⟨ai P.Ψ n⟩ (frame ts F.ns) σ (fun _ σ=>bif kh f then .bad else .ret .none σ)=_ from hb] at hc;cases hc
theorem sf {P:Pg}(G:q7 P)(hF:∀f F,P.Ψ f=some F→uO P f F):∀n,∀k,k≤n→py P k
 | 0,k,hk=>by
  obtain rfl:=Nat.le_zero.mp hk
  exact fun f A ts vs g σ s t σ' Q E _ _ _ hc _=>by cases hc
 |n+1,k,hk=>(Nat.lt_or_eq_of_le hk).elim (fun h=>sf G hF n k (Nat.le_of_lt_succ h)) fun h=>h▸qH G n (sf G hF n) hF
noncomputable def ei (env:Env):List (Str×NameKind)→List (Str×Addr)→List (Str×Addr)
 | [],acc=>acc
 | (n,k)::r,acc=>ei env r (if k==.free then (n,(env.cells.lookup n).getD 0)::acc else acc)
theorem o3 (env:Env)(f:Str×NameKind→List (Str×Addr)→Sem (ForInStep (List (Str×Addr))))(h1:∀n cs c,env.cells.lookup n=some c→f (n,.free) cs=pure (.yield ((n,c)::cs)))(h2:∀n k cs,(k==NameKind.free)=false→f (n,k) cs=pure (.yield cs)):
  ∀(names:List (Str×NameKind)) (acc:List (Str×Addr)),(∀x,(x,NameKind.free)∈names→∃c,env.cells.lookup x=some c)→forIn names acc f=pure (ei env names acc)
 | [],acc,_=>rfl
 | (n,k)::r,acc,h=>by
  rw [List.forIn_cons]
  cases hk:(k==NameKind.free) with
  |true=>
   have hk':k=.free:=by simpa using hk
   subst hk'
   obtain ⟨c,hc⟩:=h n List.mem_cons_self
   rw [h1 n acc c hc]
   show (forIn r ((n,c)::acc) f:Sem _)=_
   rw [o3 env f h1 h2 r _ fun x hx=>h x (List.mem_cons_of_mem _ hx)]
   simp only [ei,hk,if_true,hc];rfl
  |false=>
   rw [h2 n k acc hk]
   show (forIn r acc f:Sem _)=_
   rw [o3 env f h1 h2 r _ fun x hx=>h x (List.mem_cons_of_mem _ hx)]
   simp only [ei,hk];rfl
theorem iz {scope:Scope}{env:Env}(h:∀x,(x,NameKind.free)∈scope.names→∃c,env.cells.lookup x=some c):closureFor scope env=pure (ei env scope.names []):=by
 simp only [closureFor]
 rw [o3 env _ ?_ ?_ scope.names [] h]
 ·rfl
 ·intro n cs c hc
  simp only [cellOf,hc];rfl
 ·intro n k cs hk
  simp only [hk];rfl
set_option tactic.hygienic true in
theorem jc {env:Env}:∀(names:List (Str×NameKind)) (acc:List (Str×Addr)),(∀x,(x,NameKind.free)∈names→∃c,env.cells.lookup x=some c)→(∀p∈acc,env.cells.lookup p.1=some p.2)→∀p∈ei env names acc,env.cells.lookup p.1=some p.2
 | [],_,_,ha,p,hp=>ha p hp
 | (n,k)::r,acc,h,ha,p,hp=>by
  refine jc r _ (fun x hx=>h x (List.mem_cons_of_mem _ hx)) (fun q hq=>?_) p hp
  split at hq
  ·rename_i hk
   have hk':k=.free:=by simpa using hk
   subst hk'
   rcases List.mem_cons.mp hq with rfl |hq
   ·obtain ⟨c,hc⟩:=h n List.mem_cons_self
    rw [hc];rfl
   ·exact ha q hq
  ·exact ha q hq
theorem mh {env:Env}{x:Str}:∀(names:List (Str×NameKind)) (acc:List (Str×Addr)),(acc.lookup x).isSome=true∨(x,NameKind.free)∈names→((ei env names acc).lookup x).isSome=true
 | [],_,h=>h.elim id fun q=>by cases q
 | (n,k)::r,acc,h=>by
  refine mh r _ ?_
  rcases h with h |h
  ·refine .inl ?_
   split
   ·rw [List.lookup_cons];split
    ·rfl
    ·exact h
   ·exact h
  ·rcases List.mem_cons.mp h with q |q
   ·cases q
    refine .inl ?_
    rw [if_pos (by decide),List.lookup_cons];simp
   ·exact .inr q
set_option tactic.hygienic true in
theorem j9 {l:List (Str×Addr)}{x:Str}{c:Addr}(h:l.lookup x=some c):(x,c)∈l:=by
 induction l with
 |nil=>cases h
 |cons p r ih=>
  obtain ⟨y,d⟩:=p
  rw [List.lookup_cons] at h
  split at h
  ·rename_i hy
   cases h
   rw [beq_iff_eq.mp hy];exact List.mem_cons_self
  ·exact List.mem_cons_of_mem _ (ih h)
noncomputable def f8 (scope outer:Scope):Scope:=
 {scope with names:=scope.names.map fun (n,k)=>if (k==.free&&outer.kind==.function&&outer.names.lookup n==some .cell) then (n,.cell) else (n,k)}
noncomputable def pD (xc:Option Str)(c:Addr):List (Str×Addr):=match xc with
 |none=>[]
 |some y=>[(y,c)]
theorem lH {xc:Option Str}{c d:Addr}{r:List (Str×Addr)}{y:Str}(h:(pD xc c++r).lookup y=some d):(xc=some y∧d=c)∨r.lookup y=some d:=by
 cases xc with
 |none=>exact .inr h
 |some z=>
  rw [show pD (some z) c++r=(z,c)::r from rfl,List.lookup_cons] at h
  cases q:y==z with
  |true=>rw [q] at h;cases h;exact .inl ⟨by rw [beq_iff_eq.mp q],rfl⟩
  |false=>rw [q] at h;exact .inr h
theorem sY {y:Str}{c:Addr}{r:List (Str×Addr)}:(pD (some y) c++r).lookup y=some c:=by
 rw [show pD (some y) c++r=(y,c)::r from rfl,List.lookup_cons,beq_self_eq_true]
theorem ud {xc:Option Str}{c:Addr}{r:List (Str×Addr)}{y:Str}(h:xc≠some y):(pD xc c++r).lookup y=r.lookup y:=by
 cases xc with
 |none=>rfl
 |some z=>
  rw [show pD (some z) c++r=(z,c)::r from rfl,List.lookup_cons]
  cases q:y==z with
  |true=>exact absurd (congrArg some (beq_iff_eq.mp q).symm) h
  |false=>rfl
theorem sZ {xc:Option Str}{c:Addr}{q:Str×Addr}(h:q∈pD xc c):∃y,xc=some y∧q=(y,c):=by
 cases xc with
 |none=>cases h
 |some z=>exact ⟨z,rfl,List.mem_singleton.mp h⟩
theorem dJ {prog:Program}{w:World}{A:Around}{E:Value→Shared→Prop}{s:Shared}{l:Addr}{items:Array Value}{n:Nat}{x:Value}{Q:Value→Shared→Prop}(hl:IsL s.heap l items n)
  (h:Q .none {s with heap:=s.heap.update l (Obj.mapSeq fun a=>a.push x)})(hsz:items.size≤sizeLine):wpAny (model prog w) A (call (.builtin "list.append") [.ref l,x]) Q E s:=by
 refine wpAny_call_entry slot_list_append ⟨_,hl,rfl⟩ entry_list_append ?_ (args_list_append _ _)
 show wpAny _ _ (updateSeq l (·.push x) >>=fun _=>ret .none) _ _ s
 refine wpAny_bind ?_
 exact wpAny_updateSeq hl rfl (wpAny_pure ⟨.none,rfl,h⟩)
theorem oF {M:Model}{A:Around}{E:Value→Shared→Prop}{s:Shared}{scope:Scope}{g:Addr}{cl:List (Str×Addr)}{qual:Str}{env:Env}{Q:Env→Shared→Prop}
  (h:Q (newEnv scope s.heap.objs.size g (cellsFrom (s.heap.objs.size+1) scope.names cl) qual none .none (some env) builtinsNs) {s with heap:=pushCells (s.heap.push {cls:=.type "dict",data:=.dict #[]}) scope.names}):
  wpAny M A (newFunctionEnv scope g cl [] qual none .none (some env)) Q E s:=by
 simp only [newFunctionEnv,Option.isSome_some,if_true]
 refine wpAny_bind (wpAny_alloc ?_)
 refine wpAny_bind (wpAny_layCells _ (fun name kind cells=>by cases hkc:kind==NameKind.cell<;>simp [hkc]) _ _ _ _ ?_)
 rw [show ({s with heap:=s.heap.push {cls:=.type "dict",data:=.dict #[]}}:Shared).heap.objs.size=s.heap.objs.size+1 from Heap.size_push ..]
 simp only [List.forIn_nil]
 exact wpAny_bind (wpAny_pure (wpAny_pure h))
noncomputable def mj (xc:Option Str):List (Str×NameKind)→Bool
 | []=>xc.isNone
 | (n,k)::r=>if k==.cell then xc==some n&&mj none r else mj xc r
theorem mi:∀{names:List (Str×NameKind)} {xc:Option Str},mj xc names=true→(∀n acc,cellsFrom n names acc=pD xc n++acc)∧∀h:Heap,(∀a o,h.get? a=some o→(pushCells h names).get? a=some o)∧∀y,xc=some y→(pushCells h names).IsCell h.objs.size none
 | [],xc,hr=>by
  cases xc with
  |none=>exact ⟨fun _ _=>rfl,fun _=>⟨fun _ _ e=>e,fun _ q=>by cases q⟩⟩
  |some _=>cases hr
 | (x,k)::r,xc,hr=>by
  unfold mj at hr
  unfold cellsFrom pushCells
  by_cases hk:(k==NameKind.cell)=true
  ·rw [if_pos hk,Bool.and_eq_true] at hr
   obtain ⟨i1,i2⟩:=mi hr.2
   obtain rfl:=beq_iff_eq.mp hr.1
   simp only [hk,if_true]
   exact ⟨fun n acc=>i1 _ _,fun h=>⟨fun a o e=>(i2 _).1 a o (Heap.get?_push_of_some _ e),fun _ _=>⟨_,(i2 _).1 _ _ (Heap.get?_push_size _ rfl),rfl⟩⟩⟩
  ·rw [if_neg hk] at hr
   simp only [hk,Bool.false_eq_true,if_false]
   exact mi hr
noncomputable def kB (x:Str):Option (Str×NameKind)→Bool
 |some (y,k)=>y==x&&(k==.cell||k==.free)
 |none=>false
theorem Aa {x:Str}{e:Option (Str×NameKind)}(h:kB x e=true):∃k:NameKind,e=some (x,k)∧(k=.cell∨k=.free):=by
 cases e with
 |none=>cases h
 |some p=>
  obtain ⟨y,k⟩:=p
  simp only [kB,Bool.and_eq_true,Bool.or_eq_true,beq_iff_eq] at h
  obtain ⟨rfl,hk⟩:=h
  exact ⟨k,rfl,hk⟩
noncomputable def w9 (B:bx)(tab:List (Option (Str×NameKind)))(scope:Scope)(i:Nat)(xc:Option Str):Bool:=
 scope.kind==.function&&scope.names.all (fun x=>!(x.2==.local)||scope.names.lookup x.1==some .local)&&mj xc scope.names&&bx.ok ⟨f8 scope B.sc,tab⟩&&
 scope.names.all (fun x=>!(x.2==.free)||(!(xc==some x.1)&&B.tab.any (kB x.1)))&&
 (List.range tab.length).all (fun j=>match tab[j]? with
  |some (some (x,k))=>if k==.cell||k==.free then (xc==some x&&Nat.beq j i)||(scope.names.contains (x,.free)&&kB x (B.tab[j]?.getD none)) else Nat.beq j i
  |_=>true)
structure dw (B Bc:bx) (scope:Scope) (i:Nat) (xc:Option Str):Prop where
 kind:scope.kind=.function
 names:∀x∈scope.names,x.2=.local→scope.names.lookup x.1=some .local
 cells:(∀n acc,cellsFrom n scope.names acc=pD xc n++acc)∧∀h:Heap,(∀a o,h.get? a=some o→(pushCells h scope.names).get? a=some o)∧∀y,xc=some y→(pushCells h scope.names).IsCell h.objs.size none
 ok:Bc.ok=true
 sc:Bc.sc=f8 scope B.sc
 free:∀x,(x,NameKind.free)∈scope.names→xc≠some x∧∃(j:Nat) (k:NameKind),B.tab[j]?=some (some (x,k))∧(k=.cell∨k=.free)
 tab:∀(j:Nat) (x:Str) (k:NameKind),Bc.tab[j]?=some (some (x,k))→k=.cell∨k=.free→(xc=some x∧j=i)∨((x,NameKind.free)∈scope.names∧∃k':NameKind,B.tab[j]?=some (some (x,k'))∧(k'=.cell∨k'=.free))
 locs:∀(j:Nat) (x:Str),Bc.tab[j]?=some (some (x,.local))→j=i
theorem dw.of {B:bx}{tab:List (Option (Str×NameKind))}{scope:Scope}{i:Nat}{xc:Option Str}(h:w9 B tab scope i xc=true):dw B ⟨f8 scope B.sc,tab⟩ scope i xc:=by
 simp only [w9,Bool.and_eq_true] at h
 obtain ⟨⟨⟨⟨⟨h1,h2⟩,h3⟩,h4⟩,h5⟩,h6⟩:=h
 have h6:∀(j:Nat) (x:Str) (k:NameKind),tab[j]?=some (some (x,k))→(if k==.cell||k==.free then (xc==some x&&Nat.beq j i)||(scope.names.contains (x,.free)&&kB x (B.tab[j]?.getD none)) else Nat.beq j i)=true:=fun j x k ht=>by
  have:=List.all_eq_true.mp h6 j (List.mem_range.mpr (List.getElem?_eq_some_iff.mp ht).1)
  rw [ht] at this
  exact this
 refine ⟨beq_iff_eq.mp h1,fun x hx hl=>?_,mi h3,h4,rfl,fun x hx=>?_,fun j x k ht hk=>?_,fun j x ht=>?_⟩
 ·have:=List.all_eq_true.mp h2 x hx
  rw [hl] at this
  exact beq_iff_eq.mp this
 ·have:=List.all_eq_true.mp h5 (x,.free) hx
  rw [show (!((x,NameKind.free).2==NameKind.free))=false from rfl,Bool.false_or,Bool.and_eq_true] at this
  refine ⟨fun q=>?_,?_⟩
  ·rw [q,beq_self_eq_true] at this;cases this.1
  ·obtain ⟨e,he,hq⟩:=List.any_eq_true.mp this.2
   obtain ⟨k,rfl,hk⟩:=Aa hq
   obtain ⟨j,hi⟩:=List.getElem?_of_mem he
   exact ⟨j,k,hi,hk⟩
 ·have:=h6 j x k ht
  rw [if_pos (by rcases hk with rfl |rfl<;>rfl),Bool.or_eq_true,Bool.and_eq_true,Bool.and_eq_true] at this
  rcases this with ⟨a,b⟩ | ⟨a,b⟩
  ·exact .inl ⟨beq_iff_eq.mp a,Nat.eq_of_beq_eq_true b⟩
  ·refine .inr ⟨List.contains_iff_mem.mp a,?_⟩
   cases e:B.tab[j]? with
   |none=>rw [e] at b;cases b
   |some e'=>rw [e] at b;obtain ⟨k',rfl,hk'⟩:=Aa b;exact ⟨k',rfl,hk'⟩
 ·have:=h6 j x .local ht
  exact Nat.eq_of_beq_eq_true this
section
variable {P:Pg} {B Bc:bx} {C Ci:Ct} {n:Nat} {A:Around} {env cenv:Env} {g g':Gh} {ρ:aH} {σ:Sg} {s s':Shared} {h h':Heap} {scope:Scope} {i:Nat} {xc:Option Str}
theorem dw.out (K:dw B Bc scope i xc)(x:bV P B C env g ρ h)(y:Str)(hy:(y,NameKind.free)∈scope.names):∃c,env.cells.lookup y=some c:=by
 obtain ⟨_,j,k,h1,h2⟩:=K.free y hy
 obtain ⟨c,_,h3,_⟩:=x.cell j y k h1 h2
 exact ⟨c,h3⟩
theorem r7 (K:dw B Bc scope i xc){L c:Addr}(x:bV P B C env g ρ h)(hi:i∈C.U)(hn:h'.Ns L fun _=>none)(hc:∀y,xc=some y→h'.IsCell c none)(hL:h.get? L=none)(hcn:h.get? c=none)(w:bp P g h σ)(hk:∀a o,h.get? a=some o→h'.get? a=some o):
  bV P Bc C (compEnvC scope (pD xc c++ei env scope.names []) L env) g ρ h':=by
 have hfree:=K.out x
 have cl:∀y c,(ei env scope.names []).lookup y=some c→env.cells.lookup y=some c:=fun y c hy=>jc scope.names [] hfree (fun _ q=>nomatch q) (y,c) (j9 hy)
 have old:∀y,env.cells.lookup y=some c→False:=fun y hy=>(x.own c (List.mem_cons_of_mem _ (bh hy))).1 hcn
 have kf:aL g h g h':=⟨fun a f=>⟨f,hk a⟩,rfl⟩
 have no:∀a,h.get? a=none→¬g.F a∧¬g.Z a∧¬g.O a:=fun a e=>⟨fun q=>w.F a q e,fun q=>(w.Z a q).1 e,fun q=>(w.O a q).1 e⟩
 have free:∀{y d},(y,NameKind.free)∈scope.names→env.cells.lookup y=some d→(pD xc c++ei env scope.names []).lookup y=some d:=fun {y d} hm e=>by
  obtain ⟨c',hc'⟩:=Option.isSome_iff_exists.mp (mh (env:=env) scope.names [] (.inr hm))
  obtain rfl:c'=d:=Option.some.inj ((cl y c' hc').symm.trans e)
  exact (ud (K.free y hm).1).trans hc'
 refine {ok:=K.ok,sc:=?_,glob:=x.glob,blt:=x.blt,ns:=⟨_,hn⟩,cell:=?_,apart:=?_,own:=?_,var:=?_,un:=x.un}
 ·rw [K.sc]
  show relabel scope env=_
  unfold relabel f8 Env.kindOf
  rw [x.sc]
 ·intro j y k ht hk'
  rcases K.tab j y k ht hk' with ⟨q,_⟩ | ⟨hm,k',h1,h2⟩
  ·exact ⟨c,none,q▸sY,hc y q⟩
  ·obtain ⟨d,u,c1,o,e,dd⟩:=x.cell j y k' h1 h2
   exact ⟨d,u,free hm c1,o,hk _ _ e,dd⟩
 ·intro y z d hy hz
  rcases lH hy with ⟨q,rfl⟩ |hy'
  ·rcases lH hz with ⟨q',_⟩ |hz'
   ·exact Option.some.inj (q.symm.trans q')
   ·exact (old z (cl z _ hz')).elim
  ·rcases lH hz with ⟨_,rfl⟩ |hz'
   ·exact (old y (cl y _ hy')).elim
   ·exact x.apart y z d (cl y d hy') (cl z d hz')
 ·intro a ha
  rcases List.mem_cons.mp ha with rfl |ha
  ·exact ⟨let ⟨_,_,_,e,_⟩:=hn;an e,no _ hL⟩
  ·obtain ⟨q,hq,rfl⟩:=List.mem_map.mp ha
   rcases List.mem_append.mp hq with hq |hq
   ·obtain ⟨y,hy,rfl⟩:=sZ hq
    exact ⟨let ⟨_,e,_⟩:=hc y hy;an e,no _ hcn⟩
   ·have o:=x.own q.2 (List.mem_cons_of_mem _ (bh (jc scope.names [] hfree (fun _ q=>nomatch q) q hq)))
    refine ⟨?_,o.2⟩
    cases e:h.get? q.2 with
    |none=>exact (o.1 e).elim
    |some ob=>exact an (hk _ _ e)
 ·intro j y t ht hv
  obtain ⟨y,k⟩:=y
  have ji:j≠i:=fun q=>by rw [q,x.un i hi] at hv;cases hv
  have hkk:k=.cell∨k=.free:=(bx.look K.ok ht).2.2.1.resolve_left fun q=>ji (K.locs j y (q▸ht))
  obtain ⟨hm,k',h1,h2⟩:=(K.tab j y k ht hkk).resolve_left fun q=>ji q.2
  obtain ⟨u,v,vo⟩:=x.var j _ t h1 hv
  refine ⟨u,?_,vo.move kf rfl rfl fun a _=>hk a⟩
  cases v with
  |loc z m tz=>rw [h1] at tz;cases tz;rcases h2 with q |q<;>cases q
  |cel z kk d tz hz l nz=>
   rw [h1] at tz;cases tz
   exact .cel y k d ht hkk (free hm l) (let ⟨o,e,dd⟩:=nz;⟨o,hk _ _ e,dd⟩)
noncomputable abbrev c8 (P:Pg)(B:bx)(C:Ct)(ifs:List Expr)(p:PT):Prop:=cX P B C (fun A env Q E s=>wpAny P.M A (forIn ifs true fun c r=>if r=true then do let ok ←isTrue c env (eval c env);pure (ForInStep.yield ok) else pure (ForInStep.yield r)) Q E s) p RQ
theorem c8.nil:c8 P B C [] ay:=.now fun _ _ _ _ _ _ _ _ _ _ _ _ hq=>wpAny_tests_nil (hq _ _ _ rfl rfl)
theorem c8.one {e:Expr}{p:PT}(h:cb P B C e p):c8 P B C [e] p:=h.map fun _ _ _ _ _=>wpAny_tests_one
theorem bV.less {t:T}(x:bV P B Ci env g (ρ.set i (some t)) h)(hc:mM C i Ci)(un:∀j∈C.U,bz ρ j=none)(hi:i∈C.U):bV P B C env g ρ h:=
 have ne:∀{j v},bz ρ j=some v→j≠i:=fun e q=>by rw [q,un i hi] at e;cases e
 have st:∀{j v},bz ρ j=some v→bz (ρ.set i (some t)) j=some v:=fun {j v} e=>by
  cases q:bz (ρ.set i (some t)) j with
  |none=>
   have:=cN (v:=none) (ne e) q
   rw [set_set,hU (un i hi),e] at this;cases this
  |some u=>exact (gR q).elim (fun q=>(ne e q.1).elim) fun q=>q.2.symm.trans e▸rfl
 {x with
  var:=fun j y v ht hv=>let ⟨u,h1,h2⟩:=x.var j y v ht (st hv);⟨u,h1,by unfold br at h2 ⊢;rw [hc.o j (ne hv),hc.m] at h2;exact h2⟩
  un:=un}
end
section
variable {P:Pg} {B Bc:bx} {C Ci C':Ct} {h₀:Heap} {fr:Bool} {n:Nat} {A:Around} {env cenv:Env} {g g':Gh} {ρ:aH} {σ:Sg} {s s':Shared} {h h':Heap} {scope:Scope} {i:Nat} {xc:Option Str} {elt target iter:Expr} {ifs:List Expr} {pos:Pos}
noncomputable abbrev mZ (P:Pg)(g:Gh)(h:Heap)(D:Addr)(acc:List T):Prop:=xG h bn (aP P g h acc) acc.length D
theorem mZ.mono {acc:List T}{D:Addr}(a:mZ P g h D acc)(k:aL g h g' h')(hD:∀o,h.get? D=some o→h'.get? D=some o):mZ P g' h' D acc:=xG.mono a hD fun _=>aP.mono k
theorem ku.p {vol:List Addr}(v:ku g env vol)(l:∀a∈vol,s.heap.get? a≠none)(p:aC g s g' s'):ku g' env vol∧∀a∈vol,∀o,s.heap.get? a=some o→s'.heap.get? a=some o:=v.post l p.toS
theorem uC {tw:Env→List Addr}{pc:PT}{pe:PE}{I D:Addr}{ts:List T}{vol fx:List Addr}{St:Nat→Gh→Heap→Prop}{k:PK (List T)}{R:Result→Shared→Prop}(T:j4 P A Bc C Ci target (aJ i) tw I ts vol fx St)(hc:mM C i Ci)(hi:i∈C.U)(hcond:c8 P Bc Ci ifs pc)(hel:am P Bc Ci elt pe (RV P))(hDv:D∉vol++fx):
  ∀(rest:List Mine.T) (j:Nat) (g:Gh) (σ:Sg) (s:Shared) (acc:List Mine.T),j≤ts.length→ts.drop j=rest→acc.length+rest.length≤lim→At P Bc C n A cenv g ρ σ s→ku g cenv (D::(vol++fx))→St j g s.heap→mZ P g s.heap D acc→aY (aJ i) pc pe (P.cx n) ρ rest σ acc k≠.bad→
   (∀s' g' xs σ',aY (aJ i) pc pe (P.cx n) ρ rest σ acc k=k xs σ'→bC vol (D::(vol++tw cenv)) g s g' s'→At P Bc C n A cenv g' ρ σ' s'→ku g' cenv [D]→mZ P g' s'.heap D xs→R (.ok .next) s')→
   codeAny P.M A (.compLoop (.ListComp elt [⟨target,iter,ifs,0⟩] scope pos) 0 (.ref I) (.ref D) cenv) R s:=by
 intro rest
 induction rest with
 |nil=>
  intro j g σ s acc hle hd hl X hv st ac hb hq
  obtain rfl:j=ts.length:=Nat.le_antisymm hle (List.drop_eq_nil_iff.mp hd)
  refine codeAny_of_tree ?_
  show wpAny P.M A ((compTurn (.ListComp elt [⟨target,iter,ifs,0⟩] scope pos) 0 (.ref I) (.ref D) cenv).onRaise (fun x=>do noteFrame x cenv;theTreesLotGoes x)) _ _ s
  refine wpAny_noted ?_
  rw [compTurn_list]
  have vD:ku g cenv [D]:=fun a ha=>hv a (List.mem_singleton.mp ha▸List.mem_cons_self)
  refine wpAny_bind (wpAny_standAt (wpAny_bind (wpAny_mono (T.done n cenv g ρ σ s (fun s'=>R (.ok .next) s') (notedBy P.M A cenv fun e s'=>R (.error e) s') X (fun a ha=>hv a (List.mem_cons_of_mem _ ha)) st fun s' p X'=>?_) (fun r s₁ h₁=>?_) fun _ _ h'=>h')))
  ·have dn:=hv D List.mem_cons_self
   exact hq s' g acc σ tq (p.weak (fun _ h=>h) fun a ha=>List.mem_cons_of_mem _ (List.mem_append_left _ ha)) X' vD (ac.mono (p.toS.k X.g fun a ha=>(hv a (List.mem_cons_of_mem _ (List.mem_append_left _ ha))).1) fun o e=>p.keep D o e dn.2.1 fun q=>hDv (List.mem_append_left _ q))
  ·cases r with
   |none=>exact wpAny_pure h₁
   |some u=>exact h₁.elim
 |cons v rest ih=>
  intro j g σ s acc hle hd hl X hv st ac hb hq
  have hiv:ts[j]?=some v:=by rw [←List.head?_drop,hd];rfl
  have hi':j < ts.length:=(List.getElem?_eq_some_iff.mp hiv).1
  have hd':ts.drop (j+1)=rest:=by rw [←List.tail_drop,hd];rfl
  have e1:aY (aJ i) pc pe (P.cx n) ρ (v::rest) σ acc k=pc (P.cx n) (ρ.set i (some v)) σ fun b σ=>bif b then pe (P.cx n) (ρ.set i (some v)) σ fun x σ=>aY (aJ i) pc pe (P.cx n) ρ rest σ (acc++[x]) k else aY (aJ i) pc pe (P.cx n) ρ rest σ acc k:=tr
  rw [e1] at hb hq
  have hvv:ku g cenv (vol++fx):=fun a ha=>hv a (List.mem_cons_of_mem _ ha)
  have dn:=hv D List.mem_cons_self
  refine codeAny_of_tree ?_
  show wpAny P.M A ((compTurn (.ListComp elt [⟨target,iter,ifs,0⟩] scope pos) 0 (.ref I) (.ref D) cenv).onRaise (fun x=>do noteFrame x cenv;theTreesLotGoes x)) _ _ s
  refine wpAny_noted ?_
  rw [compTurn_list]
  refine wpAny_bind (wpAny_standAt (wpAny_bind (wpAny_mono (T.item j v n cenv g ρ _ σ s (fun s₃=>wpAny P.M A (forIn ifs true fun c r=>if r=true then do let ok ←isTrue c cenv (eval c cenv);pure (ForInStep.yield ok) else pure (ForInStep.yield r)) (fun ok s₄=>
     if ok=true then wpAny P.M A (eval elt cenv) (fun x s₅=>wpAny P.M A (call (.builtin "list.append") [.ref D,x]) (fun _ s₆=>codeAny P.M A (.compLoop (.ListComp elt [⟨target,iter,ifs,0⟩] scope pos) 0 (.ref I) (.ref D) cenv) R s₆) (notedBy P.M A cenv fun e s'=>R (.error e) s') s₅) (notedBy P.M A cenv fun e s'=>R (.error e) s') s₄
     else codeAny P.M A (.compLoop (.ListComp elt [⟨target,iter,ifs,0⟩] scope pos) 0 (.ref I) (.ref D) cenv) R s₄) (notedBy P.M A cenv fun e s'=>R (.error e) s') s₃)
    (notedBy P.M A cenv fun e s'=>R (.error e) s') hiv X hvv st rfl fun s₃ p₃ X₃ st₃=>?_) (fun r s₁ h₁=>?_) fun _ _ h'=>h')))
  ·have nW:∀a∈vol++tw cenv,¬g.F a:=fun a ha=>(List.mem_append.mp ha).elim (fun h=>(hvv a (List.mem_append_left _ h)).1) fun h=>(X.env.own a (T.sub cenv a h)).2.1
   have ac₃:mZ P g s₃.heap D acc:=ac.mono (p₃.toS.k X.g nW) fun o e=>p₃.keep D o e dn.2.1 fun q=>(List.mem_append.mp q).elim (fun q=>hDv (List.mem_append_left _ q)) fun q=>dn.2.2.2 (T.sub cenv D q)
   have lv:∀{g s i},St i g s→mZ P g s D acc→∀a∈D::(vol++fx),s.get? a≠none:=fun st ac a ha=>(List.mem_cons.mp ha).elim (fun q=>q▸let ⟨_,_,e,_,_⟩:=ac;an e) (T.here _ _ _ st a)
   have pw:bC [] (D::(vol++tw cenv)) g s g s₃:=p₃.weak (fun _ h=>h) fun a=>List.mem_cons_of_mem _
   refine hcond n A cenv g (ρ.set i (some v)) σ s₃ _ _ _ X₃ hb fun b s₄ g₄ b' σ₄ e₄ p₄ w₄ r₄=>?_
   cases r₄
   rw [e₄] at hb hq
   have X₄:=X₃.post p₄ w₄
   obtain ⟨v₄,k₄⟩:=hv.p (lv st₃ ac₃) p₄
   have st₄:=T.stay _ _ _ _ _ st₃ (p₄.k X₃.g) fun a ha=>k₄ a (List.mem_cons_of_mem _ ha)
   have ac₄:=ac₃.mono (p₄.k X₃.g) (k₄ D List.mem_cons_self)
   have p04:=pw.trans p₄.toE
   have un:=X.env.un
   cases b with
   |false=>
    rw [if_neg (by decide)]
    exact ih (j+1) g₄ σ₄ s₄ acc hi' hd' (Nat.le_of_succ_le hl) ⟨X.good,X.call,X.room,X₄.env.less hc un hi,w₄⟩ v₄ st₄ ac₄ hb fun s' g' xs σ' q1 q2 q3 q4 q5=>hq s' g' xs σ' q1 (p04.trans q2) q3 q4 q5
   |true=>
    rw [if_pos rfl]
    refine hel n A cenv g₄ (ρ.set i (some v)) σ₄ s₄ _ _ _ X₄ hb fun x s₅ g₅ t σ₅ e₅ p₅ w₅ r₅=>?_
    rw [show (bif true then pe (P.cx n) (ρ.set i (some v)) σ₄ fun x σ=>aY (aJ i) pc pe (P.cx n) ρ rest σ (acc++[x]) k else aY (aJ i) pc pe (P.cx n) ρ rest σ₄ acc k)=_ from e₅] at hb hq
    have X₅:=X₄.post p₅ w₅
    obtain ⟨v₅,k₅⟩:=v₄.p (lv st₄ ac₄) p₅
    have st₅:=T.stay _ _ _ _ _ st₄ (p₅.k X₄.g) fun a ha=>k₅ a (List.mem_cons_of_mem _ ha)
    obtain ⟨ys,m,d1,d2,d3⟩:=ac₄.mono (p₅.k X₄.g) (k₅ D List.mem_cons_self)
    refine dJ d1 ?_ (ba (d3.size▸d2))
    have hs:=Heap.SameBut.update s₅.heap D (Obj.mapSeq fun a=>a.push x)
    have d1':=IsL.update d1 (fun a=>a.push x)
    obtain ⟨p₆,X₆⟩:=dc (vol:=[D]) (h':=s₅.heap.update D (Obj.mapSeq fun a=>a.push x)) X₅ (fun a ha=>v₅ a (List.mem_singleton.mp ha▸List.mem_cons_self)) (fun a o e q=>(hs.2 a fun z=>q (z▸List.mem_singleton.mpr rfl)).trans e) s₅.toks
    have kf:=p₆.toS.k X₅.g fun a ha=>(v₅ a (List.mem_singleton.mp ha▸List.mem_cons_self)).1
    have p06:=(p04.trans p₅.toE).trans ((dM p₆ fun a ha=>by rw [List.mem_singleton.mp ha];exact an d1').weak (fun _ h=>h) fun a ha=>List.mem_singleton.mp ha▸List.mem_cons_self)
    refine ih (j+1) g₅ σ₅ _ (acc++[t]) hi' hd' (by rw [List.length_append];exact Nat.le_trans (Nat.le_of_eq (by rw [List.length_singleton,List.length_cons,Nat.add_assoc,Nat.add_comm 1])) hl) ⟨X.good,X.call,X.room,X₆.env.less hc un hi,X₆.g⟩ v₅ (T.stay _ _ _ _ _ st₅ kf fun a ha o e=>(hs.2 a fun q=>hDv (q▸ha)).trans e) ⟨_,_,d1',?_,?_⟩ hb fun s' g' xs σ' q1 q2 q3 q4 q5=>hq s' g' xs σ' q1 (p06.trans q2) q3 q4 q5
    ·rw [List.length_append];exact Nat.le_trans (Nat.add_le_add_left (show 1≤rest.length+1 from Nat.succ_le_succ (Nat.zero_le _)) _) hl
    ·rw [Array.toList_push]
     exact aP.append (aP.cons (Rp.mono kf r₅) aP.nil) (d3.mono kf)
  ·cases r with
   |none=>exact h₁.elim
   |some u=>
    refine wpAny_bind (wpAny_mono h₁ (fun _ s₂ h₂=>wpAny_bind (wpAny_mono h₂ (fun _ s₃ h₃=>wpAny_bind (wpAny_mono h₃ (fun ok s₄ h₄=>?_) fun _ _ h'=>h')) fun _ _ h'=>h')) fun _ _ h'=>h')
    cases ok with
    |false=>exact wpAny_pure ⟨rfl,h₄⟩
    |true=>
     rw [if_pos rfl] at h₄ ⊢
     exact wpAny_bind (wpAny_bind (wpAny_mono h₄ (fun x s₅ h₅=>wpAny_bind (wpAny_mono h₅ (fun _ s₆ h₆=>wpAny_pure (wpAny_pure ⟨rfl,h₆⟩)) fun _ _ h'=>h')) fun _ _ h'=>h'))
theorem r9 (K:dw B Bc scope i xc)(H:Heap):(pushCells (H.push {cls:=.type "dict",data:=.dict #[]}) scope.names).Ns H.objs.size (fun _=>none)∧
  (∀y,xc=some y→(pushCells (H.push {cls:=.type "dict",data:=.dict #[]}) scope.names).IsCell (H.objs.size+1) none)∧H.get? (H.objs.size+1)=none∧∀a o,H.get? a=some o→(pushCells (H.push {cls:=.type "dict",data:=.dict #[]}) scope.names).get? a=some o:=by
 obtain ⟨k,c⟩:=K.cells.2 (H.push {cls:=.type "dict",data:=.dict #[]})
 have sz:(H.push {cls:=.type "dict",data:=.dict #[]}).objs.size=H.objs.size+1:=Heap.size_push ..
 rw [sz] at c
 refine ⟨(Heap.Ns.new H (.type "dict")).keeps k,c,?_,fun a o e=>k a o (Heap.get?_push_of_some _ e)⟩
 cases q:H.get? (H.objs.size+1) with
 |none=>rfl
 |some o=>
  have:=Heap.get?_push_of_some {cls:=.type "dict",data:=.dict #[]} q
  rw [←sz,aD] at this;cases this
noncomputable def kS:Option Str→Env→List Addr
 |none=>fun env=>[env.locals]
 |some x=>zO .cell x
theorem xZ {c:Addr}{r:List (Str×Addr)}{L:Addr}:∀a∈kS xc (compEnvC scope (pD xc c++r) L env),a=L∨a=c:=fun a ha=>by
 cases xc with
 |none=>exact .inl (List.mem_singleton.mp ha)
 |some x=>
  have h:a∈((pD (some x) c++r).lookup x).toList:=ha
  rw [sY] at h
  exact .inr (List.mem_singleton.mp h)
theorem mc {pos':Pos}{pi:PL}{pc:PT}{pe:PE}{use:Option (Value→Sem Unit)}{k:PK T}{Q:Value→Shared→Prop}{E:Value→Shared→Prop}(K:dw B Bc scope i xc)(hi:i∈C.U)(hc:mM C i Ci)(hI:Ap P B C n A env g ρ σ s iter (xI P Bc C Ci target (aJ i) (kS xc)) pi)(hcond:c8 P Bc Ci ifs pc)(hel:am P Bc Ci elt pe (RV P))(hs:∀env x,foldedSetIterable iter env x=pure x)
  (X:At P B C n A env g ρ σ s)(hb:aB pi (aJ i) pc pe (P.cx n) ρ σ k≠.bad)
  (ok:∀D L s' g' xs σ' m,aB pi (aJ i) pc pe (P.cx n) ρ σ k=k (.lst xs) σ'→aC g s g' s'→bp P g' s'.heap σ'→zE P s.heap g' s'.heap (.lst xs) (.ref D)→s.heap.get? L=none→(¬g'.F L∧¬g'.Z L∧¬g'.O L)→D≠L→s'.heap.Ns L m→compPost P.M A E use Q (.ref D) L (.ok .next) s'):
  wpAny P.M A (comprehension (.ListComp elt [⟨target,iter,ifs,0⟩] scope pos) scope env pos' (newList []) false (eval iter env) use) Q E s:=by
 refine wpAny_comprehension_free (use:=use) rfl (hs env) (iz (K.out X.env)) K.kind K.names ?_
 refine hI (fun xs σ=>aY (aJ i) pc pe (P.cx n) ρ xs σ [] fun ys σ=>k (.lst ys) σ) _ _ X hb fun s₁ g₁ ts σ₁ I vol fx St e₁ p₁ w₁ T st hv hx hl=>?_
 have hb₁:=fun q=>hb (e₁.trans q)
 have X₁:=X.post p₁ w₁
 refine wpAny_newList (oF ?_)
 rw [K.cells.1]
 have p₂:aC g₁ s₁ g₁ {s₁ with heap:=s₁.heap.push (bn #[] 0),toks:=s₁.toks}:=.push _ _
 have w₂:bp P g₁ (s₁.heap.push (bn #[] 0)) σ₁:=w₁.push _
 have hD₂:=bD (h:=s₁.heap) (bn #[] 0)
 have hDn:s₁.heap.get? s₁.heap.objs.size=none:=aD _
 obtain ⟨nf,nz,no⟩:=c9 w₁
 show codeAny P.M A _ _ {s₁ with heap:=pushCells ((s₁.heap.push (bn #[] 0)).push {cls:=.type "dict",data:=.dict #[]}) scope.names}
 generalize s₁.heap.objs.size=D at *
 generalize s₁.heap.push (bn #[] 0)=H2 at p₂ w₂ hD₂ ⊢
 obtain ⟨hn₃,hc₃,hcn,k₃⟩:=r9 K H2
 have hCn:H2.get? H2.objs.size=none:=aD _
 generalize pushCells (H2.push {cls:=.type "dict",data:=.dict #[]}) scope.names=h₃ at hn₃ hc₃ k₃ ⊢
 generalize H2.objs.size+1=c at *
 generalize H2.objs.size=L at *
 have x₂:=X₁.env.post w₁ p₂
 have envc:=r7 K x₂ hi hn₃ hc₃ hCn hcn w₂ k₃
 have w₃:bp P g₁ h₃ σ₁:=w₂.grow k₃ g₁.F (fun _ h=>h) fun _ h=>.inl h
 have p₃:aC g₁ s₁ g₁ {s₁ with heap:=h₃,toks:=s₁.toks}:=p₂.trans (.grow (s:={s₁ with heap:=H2,toks:=s₁.toks}) s₁.toks k₃ g₁.F (fun _ h=>h) fun _ h=>.inl h)
 have hown:∀a∈own (compEnvC scope (pD xc c++ei env scope.names []) L env),H2.get? a=none∨a∈own env:=fun a ha=>by
  rcases List.mem_cons.mp ha with rfl |h
  ·exact .inl hCn
  ·obtain ⟨q,hq,rfl⟩:=List.mem_map.mp h
   rcases List.mem_append.mp hq with hq |hq
   ·obtain ⟨_,_,rfl⟩:=sZ hq;exact .inl hcn
   ·exact .inr (List.mem_cons_of_mem _ (bh (jc scope.names [] (K.out X.env) (fun _ q=>nomatch q) q hq)))
 have hvl:=T.here _ _ _ st
 have hvol:ku g₁ (compEnvC scope (pD xc c++ei env scope.names []) L env) (D::(vol++fx)):=fun a ha=>by
  rcases List.mem_cons.mp ha with rfl |ha
  ·exact ⟨nf,nz,no,fun q=>(hown a q).elim (an hD₂) fun q=>(X₁.env.own a q).1 hDn⟩
  ·have hl:=hvl a ha
   rcases List.mem_append.mp ha with ha |ha
   ·exact ⟨(hv a ha).2.1,(hv a ha).2.2,fun q=>(X.g.O a (let ⟨i,q⟩:=q;⟨i,p₁.o▸q⟩)).1 (hv a ha).1,fun q=>(hown a q).elim (fun z=>hl (p₂.back a z)) fun q=>(X.env.own a q).1 (hv a ha).1⟩
   ·exact ⟨(hx a ha).1,(hx a ha).2.1,(hx a ha).2.2.1,fun q=>(hown a q).elim (fun z=>hl (p₂.back a z)) (hx a ha).2.2.2⟩
 have st₃:=T.stay _ _ _ _ _ st (p₃.k w₁) fun a ha o e=>p₃.keep a o e (hvol a (List.mem_cons_of_mem _ ha)).2.1
 refine (fun loop=>codeAny_compStart_list loop (T.self 0 g₁ _ _ _ st₃ loop):codeAny P.M A (.compLoop (.ListComp elt [⟨target,iter,ifs,0⟩] scope pos) 0 (.ref I) (.ref D) (compEnvC scope (pD xc c++ei env scope.names []) L env)) (compPost P.M A E use Q (.ref D) L) {s₁ with heap:=h₃,toks:=s₁.toks}→_) ?_
 have htw:=xZ (xc:=xc) (c:=c) (r:=ei env scope.names []) (scope:=scope) (L:=L) (env:=env)
 have hl':(compEnvC scope (pD xc c++ei env scope.names []) L env).locals=L:=rfl
 generalize compEnvC scope (pD xc c++ei env scope.names []) L env=cenv at *
 have X₃:At P Bc C n A cenv g₁ ρ σ₁ {s₁ with heap:=h₃,toks:=s₁.toks}:=⟨X.good,X.call,X.room,envc,w₃⟩
 refine uC T hc hi hcond hel (fun q=>hvl D q hDn) ts 0 g₁ σ₁ _ [] (Nat.zero_le _) rfl (by rw [List.length_nil,Nat.zero_add];exact hl) X₃ hvol st₃ ⟨_,_,k₃ _ _ hD₂,Nat.zero_le _,rfl⟩ hb₁ fun s' g' xs σ' q1 q2 q3 q4 q5=>?_
 have fr:∀{a},H2.get? a=none→s₁.heap.get? a=none:=fun h=>p₂.back _ h
 have pe:aC g s g' s':=(((p₁.trans p₃).toE (W:=D::(vol++kS xc cenv))).trans q2).toP (fun a ha=>by
  rcases List.mem_cons.mp ha with rfl |ha
  ·exact p₁.back _ hDn
  ·rcases List.mem_append.mp ha with ha |ha
   ·exact (hv a ha).1
   ·rcases htw a ha with rfl |rfl
    ·exact p₁.back _ (fr hCn)
    ·exact p₁.back _ (fr hcn)) fun a ha=>(hv a ha).1
 obtain ⟨m,hm⟩:=q3.env.ns
 have nD:=q4 D (List.mem_singleton.mpr rfl)
 exact ok D L s' g' xs σ' m (e₁.trans q1) pe q3.g ⟨D,rfl,p₁.back _ hDn,nD.1,nD.2.1,nD.2.2.1,q5⟩ (p₁.back _ (fr hCn)) (let o:=q3.env.own L (hl'▸List.mem_cons_self);⟨o.2.1,o.2.2.1,o.2.2.2⟩) (fun q=>an hD₂ (q▸hCn)) (hl'▸hm)
theorem aC.scrap {L:Addr}(p:aC g s g' s')(hL:s.heap.get? L=none)(hs:∀b,b≠L→h'.get? b=s'.heap.get? b):aC g s g' {s' with heap:=h'}:=
 ⟨St.trans p.st ⟨h',s'.toks,rfl⟩,fun a o e z=>(hs a fun q=>an e (q▸hL)).trans (p.keep a o e z),fun a e=>by
  by_cases q:a=L
  ·exact q▸hL
  ·exact p.back a ((hs a q).symm.trans e),p.F,p.Fn,p.Zn,p.o,p.sp,p.sa⟩
theorem bp.scrap {L:Addr}(w:bp P g h σ)(hL:¬g.F L∧¬g.Z L∧¬g.O L)(hs:∀b,b≠L→h'.get? b=h.get? b):bp P g h' σ∧aL g h g h':=by
 have k:∀a,g.F a∨g.Z a∨g.O a→h'.get? a=h.get? a:=fun a q=>hs a fun e=>q.elim (e▸hL.1) fun q=>q.elim (e▸hL.2.1) (e▸hL.2.2)
 have kf:aL g h g h':=⟨fun a f=>⟨f,fun o e=>(k a (.inl f)).trans e⟩,rfl⟩
 exact ⟨⟨fun a o e=>⟨(w.base a o e).1,(k a (.inl (w.base a o e).1)).trans (w.base a o e).2⟩,fun a f=>by rw [k a (.inl f)];exact w.F a f,fun a z=>by rw [k a (.inr (.inl z))];exact w.Z a z,fun a z=>by rw [k a (.inr (.inr z))];exact w.O a z,w.oo,
  ⟨let ⟨t,n,e⟩:=w.spot.1;⟨t,n,(k _ (.inr (.inl w.spot.2.1))).trans e⟩,w.spot.2⟩,fun c ts e=>(w.self c ts e).mono kf (fun a z=>⟨z,fun o e=>(k a (.inr (.inl z))).trans e⟩) rfl⟩,kf⟩
theorem zE.scrap {L D:Addr}{t:T}(r:zE P h₀ g h t (.ref D))(kf:aL g h g h')(hD:D≠L)(hs:∀b,b≠L→h'.get? b=h.get? b):zE P h₀ g h' t (.ref D):=by
 obtain ⟨a,e,n,f,z,o,r⟩:=r
 cases e
 exact ⟨D,rfl,n,f,z,o,r.mono kf fun o e=>(hs D hD).trans e⟩
theorem am.comp {pi:PL}{pc:PT}{pe:PE}(K:dw B Bc scope i xc)(hi:C.U.any (Nat.beq i)=true)(hc:bY C i false Ci=true)(hI:eN P B C iter (xI P Bc C Ci target (aJ i) (kS xc)) pi)(hcond:c8 P Bc Ci ifs pc)(hel:am P Bc Ci elt pe (RV P))(hs:∀env x,foldedSetIterable iter env x=pure x):
  am P B C (.ListComp elt [⟨target,iter,ifs,0⟩] scope pos) (aB pi (aJ i) pc pe) (RN P):=fun n A env g ρ σ s k Q E X hb hq=>by
 show wpAny P.M A (eval _ env) Q E s
 rw [eval_ListComp]
 refine mc K (jj hi) (dC hc).1 (hI n A env g ρ σ s) hcond hel hs X hb fun D L s' g' xs σ' m e p w r hL nL hDL hn=>⟨m,hn,fun h' hsb=>?_⟩
 obtain ⟨w',kf⟩:=w.scrap nL hsb.2
 exact hq _ _ g' _ σ' e (p.scrap hL hsb.2) w' (r.scrap kf hDL hsb.2)
end
section
variable {P:Pg} {B Bc:bx} {C Ci C':Ct} {fr:Bool} {n:Nat} {A:Around} {env:Env} {g g':Gh} {ρ:aH} {σ:Sg} {s s':Shared} {h h':Heap} {scope:Scope} {i j:Nat} {xc:Option Str} {elt target iter:Expr} {ifs:List Expr} {pos px spos:Pos} {y:Str}
theorem aM.scrap {L:Addr}{W:List Addr}(p:aM [] W g s g' s')(hL:s.heap.get? L=none)(hs:∀b,b≠L→h'.get? b=s'.heap.get? b):aM [] W g s g' {s' with heap:=h'}:=
 {p with
  st:=St.trans p.st ⟨h',s'.toks,rfl⟩
  keep:=fun a o e z q w=>(hs a fun q=>an e (q▸hL)).trans (p.keep a o e z q w)
  back:=fun a v e=>by
   by_cases q:a=L
   ·exact q▸hL
   ·exact p.back a v ((hs a q).symm.trans e)}
theorem qD {L:Addr}{m:Str→Option Value}{g₂:Gh}{ρ₂:aH}{σ':Sg}{s₂:Shared}{Q:Flow→Shared→Prop}(p:aM [] (own env) g s g₂ s₂)(X:At P B C' n A env g₂ ρ₂ σ' s₂)(hn:s₂.heap.Ns L m)(hL:s.heap.get? L=none)(nL:¬g₂.F L∧¬g₂.Z L∧¬g₂.O L)(hLo:L∉own env)
  (hq:∀s',aM [] (own env) g s g₂ s'→At P B C' n A env g₂ ρ₂ σ' s'→Q .next s'):∃m,s₂.heap.Ns L m∧∀h',Heap.SameBut L s₂.heap h'→Q .next {s₂ with heap:=h'}:=
 ⟨m,hn,fun h' hs=>hq _ (p.scrap hL hs.2) (dc (vol:=[L]) X (fun a ha=>by rw [List.mem_singleton.mp ha];exact ⟨nL.1,nL.2.1,nL.2.2,hLo⟩) (fun a o e q=>(hs.2 a fun z=>q (z▸List.mem_singleton.mpr rfl)).trans e) s₂.toks).2⟩
theorem aF.setCompG {pi:PL}{pc:PT}{pe:PE}(o:Bool)(ho:bY C j o C'=true)(ht:B.tab[j]?=some (some (y,.local)))(hw:uQ (.ListComp elt [⟨target,iter,ifs,0⟩] scope pos) y px spos.line B.sc=true)(K:dw B Bc scope i xc)(hi:C.U.any (Nat.beq i)=true)(hc:bY C i false Ci=true)(hI:eN P B C iter (xI P Bc C Ci target (aJ i) (kS xc)) pi)(hcond:c8 P Bc Ci ifs pc)(hel:am P Bc Ci elt pe (RV P))(hs:∀env x,foldedSetIterable iter env x=pure x):
  aF P B C fr C' (.Assign [.Name y px] (.ListComp elt [⟨target,iter,ifs,0⟩] scope pos) spos) (av j (aB pi (aJ i) pc pe)):=fun n A env g ρ σ s k Q E X hb hq hr=>by
 show wpAny P.M A (exec _ env) Q E s
 rw [exec_Assign_Name_used _ _ _ _ (by rw [js X.env.sc,hw])]
 refine wpAny_bind (wpAny_standAt (wpAny_bind ?_))
 show wpAny _ A (do let _ ←comprehension (.ListComp elt [⟨target,iter,ifs,0⟩] scope pos) scope env _ (newList []) false (eval iter env) (some (assign (.Name y px) env))) _ _ s
 refine wpAny_bind (wpAny_mono (mc (Q:=fun _ s'=>Q .next s') (E:=E) (k:=fun v σ=>k (ρ.set j (some v)) σ) (use:=some (assign (.Name y px) env)) K (jj hi) (dC hc).1 (hI n A env g ρ σ s) hcond hel hs X hb fun D L s' g' xs σ' m e p w r hL nL hDL hn=>?_) (fun _ s' hq=>wpAny_pure (wpAny_pure hq)) fun _ _ e=>e)
 have X₁:=X.post p w
 have hLo:L∉own env:=fun q=>(X.env.own L q).1 hL
 show wpAny _ A (assign (.Name y px) env (.ref D)) _ _ s'
 obtain ⟨D',eD,nD,f,z,o',r⟩:=r
 cases eD
 obtain ⟨hs',hO⟩:=dC ho
 have nl:∀{s₂ g₂},bC [] (zO .local y env) g₂ s' g₂ s₂→g₂.Z=g'.Z→s₂.heap.Ns L m:=fun p₂ ez=>hn.at fun o e=>p₂.keep L o e (by rw [ez];exact nL.2.1) fun q=>hLo (cM L q)
 cases o with
 |false=>
  have kf:aL g' s'.heap {g' with F:=fun y=>g'.F y∨y=D} s'.heap:=⟨fun b f=>⟨.inl f,fun _ e=>e⟩,rfl⟩
  have pz:aC g s {g' with F:=fun y=>g'.F y∨y=D} s':=⟨p.st,p.keep,p.back,fun b f=>.inl (p.F b f),fun b f=>f.elim (p.Fn b) fun e=>.inr (e▸nD),p.Zn,p.o,p.sp,p.sa⟩
  refine wpAny_assign_Name (gQ (X.post pz (w.freeze r.live z o')) ho ht (.inl rfl) (t:=.lst xs) ((r.mono kf fun _ e=>e).rp (.inr rfl)) fun s₂ p₂ X₂=>?_)
  exact qD (pz.toS.trans (p₂.toS.weak cM)) X₂ (nl p₂ rfl) hL ⟨fun q=>q.elim nL.1 (Ne.symm hDL),nL.2⟩ hLo fun s' p' X'=>hq s' _ _ σ' e p' X'
 |true=>
  have ow:∀b∈own env,¬(g'.put j (some D)).O b:=fun b hb q=>(iU q).elim (fun q=>(X.env.own b hb).1 (Option.some.inj q▸nD)) fun ⟨j,_,q⟩=>(X₁.env.own b hb).2.2.2 ⟨j,q⟩
  have pa:aM [] (own env) g s (g'.put j (some D)) s':={(p.toS:aM [] (own env) g s g' s') with On:=fun b q=>(iU q).elim (fun q=>.inr (Option.some.inj q▸nD)) fun ⟨j,_,q⟩=>.inl ⟨j,p.o▸q⟩}
  have X₂:At P B C' n A env (g'.put j (some D)) (ρ.set j none) σ' s':=⟨X.good,X.call,X.room,X₁.env.forget hs' (ii g' j _) ow,w.put fun b q=>Option.some.inj q▸⟨r.live,f,z,o'⟩⟩
  refine wpAny_assign_Name (iO X₂ hs'.nu ht (.inl rfl) (t:=.lst xs) (by unfold br;rw [hO];exact ⟨D,rfl,gc ..,r.mono ((ii g' j _).k _) fun _ e=>e⟩) fun s₂ p₂ X₃ _=>?_)
  rw [set_set] at X₃
  exact qD (pa.trans (p₂.toS.weak cM)) X₃ (nl p₂ rfl) hL ⟨nL.1,nL.2.1,fun q=>(iU q).elim (fun q=>hDL (Option.some.inj q)) fun ⟨j,_,q⟩=>nL.2.2 ⟨j,q⟩⟩ hLo fun s' p' X'=>hq s' _ _ σ' e p' X'
end
section
variable {P:Pg} {B:bx} {C:Ct}
theorem s5 {k:Nat}(h:k≤lim):(k:Int) < 2 ^ 63:=Int.lt_of_le_of_lt (Int.ofNat_le.mpr h) (by decide)
noncomputable abbrev Bf (P:Pg)(id:Value):W1 Value:=BA P fun x=>PySem.call id [x]
theorem v7:xR P (Bf P (.builtin "len")) aO (RV P):=fun A env g σ s x t y Q E rm w q e hq=>by
 have one:∀{l:Addr} {items:Array Value} {k:Nat},s.heap.IsList l items→items.size≤lim→items.size=k→y=.int k→wpAny P.M A (PySem.call (.builtin "len") [.ref l]) Q E s:=fun hl h1 h2 h3=>Calls.call_len_list hl (s5 h1) (by rw [h2];exact cQ w (h3▸hq))
 unfold aO at e
 cases e1:fZ t with
 |some ts=>
  rw [e1] at e
  rcases q.sq e1 with ⟨a,vs,n,rfl,h1,l,r⟩ | ⟨a,vs,n,rfl,h1,l,r⟩
  ·cases e
   refine PySem.P.len_tuple h1 (by have:=s5 (r.size▸l);lia -abstractProof) ?_
   rw [r.size];exact cQ w hq
  ·exact one ⟨_,h1,rfl,n,rfl⟩ (r.size▸l) r.size (Option.some.inj e).symm
 |none=>cases e2:BN t with
  |some ns=>
   rw [e1,e2] at e
   obtain ⟨a,items,rfl,⟨o,g1,g2⟩,b,r⟩:=q.n e2
   exact one ⟨o,(w.base _ _ g1).2,g2⟩ b ((r.rp (P:=P) (g:=g) (h:=s.heap)).size.trans (List.length_map ..)) (Option.some.inj e).symm
  |none=>
   rw [e1,e2] at e
   obtain ⟨z,e3,e4⟩:=ar e
   obtain ⟨⟨_,h2⟩,p,rfl⟩:=q.s e3
   cases e4
   exact PySem.P.len_str (by have:=s5 h2;lia -abstractProof) (cQ w hq)
theorem wv {A:Around}{s:Shared}{E:Value→Shared→Prop}{a:Addr}{o:Obj}(T:BT){Q:Value→Shared→Prop}(e:s.heap.get? a=some o)(hc:o.cls=.type "list")(h:∀tk,Q (.bool (match T with |.list=>true |_=>false)) {s with toks:=tk}):wpAny P.M A (PySem.call (.builtin "isinstance") [.ref a,.type T.id]) Q E s:=by
 cases T with
 |list=>exact IsiPair.list_list e hc (h s.toks)
 |bool=>exact IsiPair.list_bool e hc (h _)
 |int=>exact IsiPair.list_int e hc (h _)
 |str=>exact IsiPair.list_str e hc (h _)
 |tuple=>exact IsiPair.list_tuple e hc (h _)
theorem uq {A:Around}{s:Shared}{E:Value→Shared→Prop}{Q:Value→Shared→Prop}(T:BT){c:Bool}(h:∀tk,Q (.bool (match T with |.bool |.int=>true |_=>false)) {s with toks:=tk}):wpAny P.M A (PySem.call (.builtin "isinstance") [(.bool c),.type T.id]) Q E s:=by
 cases T with
 |list=>exact IsiPair.bool_list (h _)
 |bool=>exact IsiPair.bool_bool (h s.toks)
 |int=>exact IsiPair.bool_int (h s.toks)
 |str=>exact IsiPair.bool_str (h _)
 |tuple=>exact IsiPair.bool_tuple (h _)
theorem ww {A:Around}{s:Shared}{E:Value→Shared→Prop}{Q:Value→Shared→Prop}(T:BT){c:Int}{u:Tok}(h:∀tk,Q (.bool (match T with |.int=>true |_=>false)) {s with toks:=tk}):wpAny P.M A (PySem.call (.builtin "isinstance") [(.int c u),.type T.id]) Q E s:=by
 cases T with
 |list=>exact IsiPair.int_list (h _)
 |bool=>exact IsiPair.int_bool (h _)
 |int=>exact IsiPair.int_int (h s.toks)
 |str=>exact IsiPair.int_str (h _)
 |tuple=>exact IsiPair.int_tuple (h _)
theorem wu {A:Around}{s:Shared}{E:Value→Shared→Prop}{Q:Value→Shared→Prop}(T:BT){c:Str}{u:Tok}(h:∀tk,Q (.bool (match T with |.str=>true |_=>false)) {s with toks:=tk}):wpAny P.M A (PySem.call (.builtin "isinstance") [(.str c u),.type T.id]) Q E s:=by
 cases T with
 |list=>exact IsiPair.str_list (h _)
 |bool=>exact IsiPair.str_bool (h _)
 |int=>exact IsiPair.str_int (h _)
 |str=>exact IsiPair.str_str (h s.toks)
 |tuple=>exact IsiPair.str_tuple (h _)
theorem rV {A:Around}{s:Shared}{E:Value→Shared→Prop}{Q:Value→Shared→Prop}(T:BT){a:Addr}{o:Obj}(e:s.heap.get? a=some o)(hc:o.cls=.type "tuple")(h:∀tk,Q (.bool (match T with |.tuple=>true |_=>false)) {s with toks:=tk}):wpAny P.M A (PySem.call (.builtin "isinstance") [.ref a,.type T.id]) Q E s:=by
 cases T with
 |list=>exact IsiPair.tuple_list e hc (h _)
 |bool=>exact IsiPair.tuple_bool e hc (h _)
 |int=>exact IsiPair.tuple_int e hc (h _)
 |str=>exact IsiPair.tuple_str e hc (h _)
 |tuple=>exact IsiPair.tuple_tuple e hc (h s.toks)
theorem BT.mem (T:BT):T.nm∈iC∧bootBuiltins T.nm=some (.type T.id)∧(T.nm==("__debug__":Str))=false:=by cases T<;>refine ⟨by decide,by decide,by decide⟩
theorem xh {g:Gh}{σ:Sg}{s:Shared}{b:Bool}{tk:Nat}(w:bp P g s.heap σ){Q:Value→Shared→Prop}(hq:∀u s' g',aC g s g' s'→bp P g' s'.heap σ→Rp P g' s'.heap (.bool b) u→Q u s'):Q (.bool b) {s with toks:=tk}:=hq _ _ g (.toks g s tk) w rfl
theorem A7 (T:BT):xR P (BA P fun x=>PySem.call (.builtin "isinstance") [x,.type T.id]) (gF T) (RV P):=fun A env g σ s x t y Q E rm w q e hq=>by
 obtain ⟨b,e1,e2⟩:=ar e
 cases e2
 have k:∀tk,Q (.bool b) {s with toks:=tk}:=fun tk=>xh w hq
 cases t with
 |bool c=>cases e1;rw [q.b rfl];exact uq T k
 |int i=>cases e1;obtain ⟨p,rfl⟩:=q.i rfl;exact ww T k
 |str z=>cases e1;obtain ⟨_,p,rfl⟩:=q.s rfl;exact wu T k
 |tup ts=>cases e1;obtain ⟨a,rfl,_,vs,n,h1,_⟩:=q.tu rfl;exact rV T h1 rfl k
 |lst ts=>cases e1;obtain ⟨a,rfl,vs,n,h1,_⟩:=q.ls rfl;exact wv T h1 rfl k
 |_=>cases e1
theorem am.isi {e:Expr}{p:PE}(T:BT){pn qn pos:Pos}(hx:B.sc.names.lookup (ofString "isinstance")=some .globalImplicit)(hT:B.sc.names.lookup T.nm=some .globalImplicit)
  (hn:∀env,starEach [e,.Name T.nm qn] env=[(false,eval e env),(false,eval (.Name T.nm qn) env)])(h:am P B C e p (RX P)):am P B C (.Call (.Name (ofString "isinstance") pn) [e,.Name T.nm qn] [] pos) (p1 (gF T) p) (RV P):=fun n A env g ρ σ s k Q E X hb hq=>by
 obtain ⟨m1,m2,m3⟩:=T.mem
 refine Call_Name rfl (X.blt hx (by decide) (by decide) (v:=.builtin "isinstance") (by decide) ?_)
 refine bq (fun _ q=>by cases q) (bA (by rw [hn env];exact fun q hq=>by cases hq with |head=>rfl |tail _ h=>cases h with |head=>rfl |tail _ h=>cases h)) (wpAny_items_cons ?_ (hn env))
 refine h.bind (N:=fun A env x Q E s=>wpAny P.M A (spliced (backTo pos (starEach [.Name T.nm qn] env))) (fun vs s₁=>wpAny P.M A (PySem.call (.builtin "isinstance") (x::vs)) Q E s₁) E s) (F:=fun _ _ k t σ=>up (gF T t) σ k) (R':=RV P) j2 (fun n A env g g₁ ρ σ s s₁ x t k Q E p X r hb hq=>?_) n A env g ρ σ s k Q E X hb hq
 obtain ⟨y,e'⟩:=bS hb
 exact wpAny_items_cons (X.blt hT m3 m1 m2 (wpAny_items_nil (A7 T A env g₁ σ s₁ x t y Q E X.rm X.g (jQ.y r) e' fun u s' g' p w r=>hq u s' g' y σ (by rw [e'];rfl) p w r))) rfl
theorem jX {A:Around}{g:Gh}{σ:Sg}{s:Shared}{Q:Value→Shared→Prop}{E:Value→Shared→Prop}{it:Addr}{o:Obj}{K:String}{items:Array Value}{n:Nat}{ts:List T}(hT:K="list"∨K="tuple")(w:bp P g s.heap σ)(e:s.heap.get? it=some o)(hc:o.cls=.type K)(hd:o.data=.seq items n)(r:aP P g s.heap ts items.toList)(hx:ts.length≤lim)
  (hq:∀u s' g',aC g s g' s'→bp P g' s'.heap σ→zE P s.heap g' s'.heap (.lst ts) u→Q u s'):wpAny P.M A (PySem.call (.type "list") [.ref it]) Q E s:=by
 refine call_list_seq it hT e hc hd (fun h' c' hk hn=>?_) (ba (r.size▸hx))
 have p:aC g s g {s with heap:=h',toks:=s.toks}:=.grow s.toks hk g.F (fun _ h=>h) fun _ h=>.inl h
 obtain ⟨h1,h2,h3⟩:=c9 w
 exact hq _ _ g p (w.grow hk g.F (fun _ h=>h) fun _ h=>.inl h) ⟨_,rfl,aD _,h1,h2,h3,_,_,hn,hx,r.mono (p.k w)⟩
theorem yL:xR P (Bf P (.type "list")) ia (RN P):=fun A env g σ s x t y Q E rm w q e hq=>by
 obtain ⟨ts,e1,e2⟩:=ar e
 cases e2
 rcases q.sq e1 with ⟨a,vs,n,rfl,h1,l,r⟩ | ⟨a,vs,n,rfl,h1,l,r⟩
 ·exact jX (.inr rfl) w h1 rfl rfl r l hq
 ·exact jX (.inl rfl) w h1 rfl rfl r l hq
theorem fb:∀{ts:List T} {bs:List Bool},er ts=some bs→ts.length=bs.length∧∀(i:Nat) (t:T),ts[i]?=some t→∃b,bs[i]?=some b∧di t=some b
 | [],bs,h=>by cases h;exact ⟨rfl,fun i v e=>nomatch e⟩
 |t::r,bs,h=>by
  obtain ⟨b,bs',h1,h2,h3⟩:=aV h
  cases h3
  obtain ⟨i1,i2⟩:=fb h2
  refine ⟨congrArg (·+1) i1,fun i u e=>?_⟩
  cases i with
  |zero=>cases e;exact ⟨b,rfl,h1⟩
  |succ i=>exact i2 i u e
theorem lh (bs:List Bool):(List.range bs.length).map (fun i=>bs[i]?.getD false)=bs:=by
 apply List.ext_getElem
 ·simp
 ·intro i h1 h2
  simp [List.getElem?_eq_getElem h2]
theorem tU (bs:List Bool):(List.range bs.length).any (fun i=>bs[i]?.getD false)=bs.any _root_.id:=by
 conv=>rhs;rw [←lh bs]
 rw [List.any_map];rfl
theorem tV (bs:List Bool):(List.range bs.length).all (fun i=>bs[i]?.getD false)=bs.all _root_.id:=by
 conv=>rhs;rw [←lh bs]
 rw [List.all_map];rfl
theorem pK {g:Gh}{h:Heap}{ts:List T}{bs:List Bool}{vs:Array Value}{i:Nat}{v:Value}{A:Around}{s:Shared}{Q:Bool→Shared→Prop}{E:Value→Shared→Prop}(r:aP P g h ts vs.toList)(ht:er ts=some bs)(hv:vs[i]?=some v)(hq:Q (bs[i]?.getD false) s):wpAny P.M A (truthy v) Q E s:=by
 obtain ⟨t1,t2⟩:=fb ht
 have hi:i < ts.length:=by rw [←r.size];exact (Array.getElem?_eq_some_iff.mp hv).1
 obtain ⟨b,b1,b2⟩:=t2 i ts[i] (List.getElem?_eq_getElem hi)
 obtain ⟨u,u1,u2⟩:=r.get (List.getElem?_eq_getElem hi)
 rw [Array.getElem?_toList,hv] at u1;cases u1
 rw [b1] at hq
 exact fX (.inl u2) b2 hq
theorem pJ {g:Gh}{σ:Sg}{s:Shared}{ob:Obj}{h':Heap}{tk:Nat}{b:Bool}{Q:Value→Shared→Prop}(w:bp P g s.heap σ)(hk:∀a o,a∉[s.heap.objs.size]→(s.heap.push ob).get? a=some o→h'.get? a=some o)(hq:∀u s' g',aC g s g' s'→bp P g' s'.heap σ→Rp P g' s'.heap (.bool b) u→Q u s'):Q (.bool b) {s with heap:=h',toks:=tk}:=
 have k:∀a o,s.heap.get? a=some o→h'.get? a=some o:=fun a o e=>hk a o (fun q=>an e (List.mem_singleton.mp q▸aD _)) (bN s ob a o e)
 hq _ _ g (.grow tk k g.F (fun _ h=>h) fun _ h=>.inl h) (w.grow k g.F (fun _ h=>h) fun _ h=>.inl h) rfl
theorem Bx:xR P (Bf P (.builtin "any")) sB (RV P):=fun A env g σ s x t y Q E rm w q e hq=>by
 obtain ⟨ts,e1,e2⟩:=ar e
 obtain ⟨bs,ht,e3⟩:=ar e2
 cases e3
 obtain ⟨l,rfl,vs,n,a1,a3,a2⟩:=q.ls e1
 refine call_any_walk (wpAny_pyIter_list ⟨_,a1,rfl,n,rfl⟩ ?_)
 refine ⟨_,_,_,_,_,_,fun i=>bs[i]?.getD false,rfl,Walks.list (A:=A.in1) rm.handled s.heap.objs.size l (fun q=>an a1 (q▸aD _)) vs,⟨⟨_,Heap.get?_push_size _ rfl,rfl,rfl⟩,⟨_,Heap.get?_push_of_some _ a1,rfl,n,rfl⟩⟩,fun i v s' Q E hv hq=>pK a2 ht hv hq,fun h' tk hk=>?_⟩
 rw [show (List.range vs.size).any (fun i=>bs[i]?.getD false)=bs.any _root_.id by rw [a2.size,(fb ht).1];exact tU bs]
 exact pJ (s:=s) (ob:=uo "list_iterator" l) w hk hq
theorem zy:xR P (Bf P (.builtin "all")) jl (RV P):=fun A env g σ s x t y Q E rm w q e hq=>by
 obtain ⟨ts,e1,e2⟩:=ar e
 obtain ⟨bs,ht,e3⟩:=ar e2
 cases e3
 obtain ⟨l,rfl,vs,n,a1,a3,a2⟩:=q.ls e1
 refine call_all_walk (wpAny_pyIter_list ⟨_,a1,rfl,n,rfl⟩ ?_)
 refine ⟨_,_,_,_,_,_,fun i=>bs[i]?.getD false,rfl,Walks.list (A:=A.in1) rm.handled s.heap.objs.size l (fun q=>an a1 (q▸aD _)) vs,⟨⟨_,Heap.get?_push_size _ rfl,rfl,rfl⟩,⟨_,Heap.get?_push_of_some _ a1,rfl,n,rfl⟩⟩,fun i v s' Q E hv hq=>pK a2 ht hv hq,fun h' tk hk=>?_⟩
 rw [show (List.range vs.size).all (fun i=>bs[i]?.getD false)=bs.all _root_.id by rw [a2.size,(fb ht).1];exact tV bs]
 exact pJ (s:=s) (ob:=uo "list_iterator" l) w hk hq
theorem A9:xR P (Bf P (.type "int")) td (RV P):=fun A env g σ s x t y Q E rm w q e hq=>by
 obtain ⟨b,e1,e2⟩:=ar e
 cases e2;rw [q.b e1]
 exact call_int_bool (cQ w hq)
theorem Ai:jm P .Is ur:=fun A g σ s x x' t t' b Q E rm w q q' e k=>by
 obtain ⟨c,rfl⟩:=cr e
 cases t' with
 |none=>
  rw [show x'=_ from q'.v fun _ h=>h]
  refine is_none ?_
  rcases q with q | ⟨a,rfl,q⟩
  ·cases t with
   |none=>rw [show x=_ from q];exact k s.toks
   |bool=>rw [show x=_ from q];exact k s.toks
   |int=>obtain ⟨_,rfl⟩:=q;exact k s.toks
   |str=>obtain ⟨_,_,rfl⟩:=q;exact k s.toks
   |scr=>obtain ⟨a,_,rfl⟩:=q;exact k s.toks
   |spot=>rw [show x=_ from q];exact k s.toks
   |self=>exact q.elim
   |_=>obtain ⟨a,rfl⟩:=q;exact k s.toks
  ·cases t with
   |none=>exact q.elim
   |_=>exact k s.toks
 |_=>cases c
theorem wx {A:Around}{x y:Value}{s:Shared}{t:Bool}{Q:Value→Shared→Prop}{E:Value→Shared→Prop}(h:wpAny P.M A (compareOp .Is x y) (fun v s'=>v=.bool t∧Q (.bool (!t)) s') E s):wpAny P.M A (compareOp .IsNot x y) Q E s:=fun Γ p hΓ=>by
 have h':=h Γ p hΓ
 rw [show compareOp .Is x y=(do return .bool (←isSame x y)) from rfl,Sem.wp_bind'] at h'
 rw [show compareOp .IsNot x y=(do return .bool (!(←isSame x y))) from rfl,Sem.wp_bind']
 refine Sem.wp_mono P.M Γ _ (fun b p' s' q=>?_) (fun _ _ _ q=>q) p s h'
 obtain ⟨q1,q2⟩:=(show Value.bool b=.bool t∧_ from q)
 cases q1;exact q2
theorem xb:jm P .IsNot Cz:=fun A g σ s x x' t t' b Q E rm w q q' e k=>by
 obtain ⟨c,e1,rfl⟩:=Option.map_eq_some_iff.mp e
 exact wx (Ai A g σ s x x' t t' c _ E rm w q q' e1 fun tk=>⟨rfl,k tk⟩)
noncomputable abbrev BR (B:bx)(x:String):Prop:=B.sc.names.lookup (ofString x)=some .globalImplicit
section
variable {e:Expr} {p:PE} {pn pos:Pos}
theorem am.len (hx:BR B "len")(hn:∀env,starEach [e] env=[(false,eval e env)])(h:am P B C e p (RX P)):am P B C (.Call (.Name (ofString "len") pn) [e] [] pos) (p1 aO p) (RV P):=am.b1 j2 v7 (fun _ q=>by cases q) hx (by decide) (by decide) (by decide) hn h
theorem am.listOf (hx:BR B "list")(hn:∀env,starEach [e] env=[(false,eval e env)])(h:am P B C e p (RX P)):am P B C (.Call (.Name (ofString "list") pn) [e] [] pos) (p1 ia p) (RN P):=am.b1 CO yL (fun _ q=>by cases q) hx (by decide) (by decide) (by decide) hn h
theorem am.anyOf (hx:BR B "any")(hn:∀env,starEach [e] env=[(false,eval e env)])(h:am P B C e p (RX P)):am P B C (.Call (.Name (ofString "any") pn) [e] [] pos) (p1 sB p) (RV P):=am.b1 j2 Bx (fun _ q=>by cases q) hx (by decide) (by decide) (by decide) hn h
theorem am.allOf (hx:BR B "all")(hn:∀env,starEach [e] env=[(false,eval e env)])(h:am P B C e p (RX P)):am P B C (.Call (.Name (ofString "all") pn) [e] [] pos) (p1 jl p) (RV P):=am.b1 j2 zy (fun _ q=>by cases q) hx (by decide) (by decide) (by decide) hn h
theorem am.intOf (hx:BR B "int")(hn:∀env,starEach [e] env=[(false,eval e env)])(h:am P B C e p (RX P)):am P B C (.Call (.Name (ofString "int") pn) [e] [] pos) (p1 td p) (RV P):=am.b1 j2 A9 (fun _ q=>by cases q) hx (by decide) (by decide) (by decide) hn h
end
end
structure xS (K:MK) (name:Str) (id:String):Prop where
 slot:Slot K.id name id
 ty:typeOf (.builtin id)=pure (.type "method_descriptor")
theorem MK.plain (K:MK):PlainAttrs K.id:=by
 cases K
 ·exact F.plainAttrs_list
 ·exact F.plainAttrs_str
 ·exact F.plainAttrs_tuple
noncomputable def Du (K:MK)(s:Shared)(x:Value):Prop:=s.TypeIs x K.id∧∀a,x=.ref a→∃o,s.heap.get? a=some o∧o.dict=none
section
variable {P:Pg} {B:bx} {C C':Ct} {fr:Bool} {n:Nat} {A:Around} {env:Env} {g g':Gh} {ρ:aH} {σ:Sg} {s s':Shared} {h h':Heap} {t:T} {x:Value}
theorem rX {K:MK}{a:Addr}{o:Obj}(e:s.heap.get? a=some o)(hc:o.cls=.type K.id)(hd:o.dict=none):Du K s (.ref a):=⟨⟨o,e,hc⟩,fun b q=>⟨o,Value.ref.inj q▸e,hd⟩⟩
theorem s9 {K:MK}(q:eO P g s.heap t x)(hk:kT K t=true):Du K s x:=by
 obtain ⟨y,e⟩ | ⟨y,e⟩ | ⟨y,e⟩:(∃y,K=.list∧fR t=some y)∨(∃y,K=.str∧qV t=some y)∨∃y,K=.tuple∧pf t=some y:=by
  cases K with
  |list=>exact .inl (let ⟨y,e⟩:=Option.isSome_iff_exists.mp hk;⟨y,rfl,e⟩)
  |str=>exact .inr (.inl (let ⟨y,e⟩:=Option.isSome_iff_exists.mp hk;⟨y,rfl,e⟩))
  |tuple=>exact .inr (.inr (let ⟨y,e⟩:=Option.isSome_iff_exists.mp hk;⟨y,rfl,e⟩))
 ·obtain ⟨rfl,e⟩:=e;obtain ⟨a,rfl,vs,n,h1,_⟩:=q.ls e;exact rX h1 rfl rfl
 ·obtain ⟨rfl,e⟩:=e;obtain ⟨_,p,rfl⟩:=q.s e;exact ⟨rfl,fun a q=>by cases q⟩
 ·obtain ⟨rfl,e⟩:=e;obtain ⟨a,rfl,_,vs,n,h1,_⟩:=q.tu e;exact rX h1 rfl rfl
theorem lJ {o e:Expr}{name:Str}{apos pos:Pos}{id:String}{K:MK}{Q:Value→Shared→Prop}{E:Value→Shared→Prop}(i:xS K name id)(hbase:∀env,attributeBase o name env (eval o env)=eval o env)(hline:(apos.endLine==pos.line)=true)(htrees:∀env,backTo pos (starEach [e] env)=[(false,eval e env)])
  (h:wpAny P.M A (eval o env) (fun x s₁=>Du K s₁ x∧wpAny P.M A (eval e env) (fun y s₂=>wpAny P.M A (PySem.call (.builtin id) [x,y]) Q E s₂) E s₁) E s):wpAny P.M A (eval (.Call (.Attribute o name apos) [e] [] pos) env) Q E s:=
 wpAny_Call_method1_late (hbase env) hline (htrees env) (wpAny_mono h (fun x s₁ ⟨k,h₁⟩=>⟨K.id,id,K.plain,i.slot,i.ty,k.1,k.2,bq (fun _ q=>by cases q) (fun p hp=>by rw [List.mem_singleton.mp hp]) (Calls.spliced_cons (wpAny_mono h₁ (fun _ _ h₂=>Calls.spliced_nil h₂) fun _ _ h=>h))⟩) fun _ _ h=>h)
noncomputable abbrev De (P:Pg)(id:String):W2 Value:=zA P fun x y=>PySem.call (.builtin id) [x,y]
theorem am.m1 {o e:Expr}{name:Str}{apos pos:Pos}{po pe:PE}{id:String}{K:MK}{F:T→T→Option T}{R:RR Value T}(i:xS K name id)(hd:Dn R)(k:pE P (De P id) F R)(hbase:∀env,attributeBase o name env (eval o env)=eval o env)(hline:(apos.endLine==pos.line)=true)
  (htrees:∀env,backTo pos (starEach [e] env)=[(false,eval e env)])(h1:am P B C o po (RX P))(h2:am P B C e pe (RX P)):am P B C (.Call (.Attribute o name apos) [e] [] pos) (yn K F po pe) R:=
 (h1.bind (N:=fun A env x Q E s=>Du K s x∧wpAny P.M A (eval e env) (fun y s₂=>wpAny P.M A (PySem.call (.builtin id) [x,y]) Q E s₂) E s) (F:=fun c ρ k a σ=>gd (kT K a) (pe c ρ σ fun b σ=>up (F a b) σ k)) hd fun n A env g g₁ ρ σ s s₁ x t kk Q E p X r hb hq=>by
  have hk:=jZ hb
  rw [hk] at hb hq
  refine ⟨s9 (jQ.y r) hk,h2 n A env g₁ ρ σ s₁ _ _ E X hb fun x' s₂ g₂ t' σ₂ e₂ p₂ w₂ r₂=>?_⟩
  obtain ⟨y,e'⟩:=bS fun q=>hb (e₂.trans q)
  exact k A env g₂ σ₂ s₂ x x' t t' y Q E X.rm w₂ (jQ.post X.g p₂ r).y (jQ.y r₂) e' fun u s' g' p w r=>hq u s' g' y σ₂ (e₂.trans (by rw [e'];rfl)) (p₂.trans p) w (hd _ _ _ _ _ _ p₂.back r)).map fun A env Q E s h=>lJ i hbase hline htrees h
theorem kx {i:Nat}{a:Addr}{y:T}(X:At P B C n A env g ρ σ s)(hv:bj C i=true)(hb:bz ρ i≠none)(ho:g.o i=some a)(hva:cH B env s.heap i (.ref a))(hs:∀b,b≠a→h'.get? b=s.heap.get? b)(hy:aL g s.heap g h'→gN P g h' a y)(tk:Nat):
  aM [] (own env) g s g {s with heap:=h',toks:=tk}∧At P B C n A env g (ρ.set i (some y)) σ {s with heap:=h',toks:=tk}:=by
 obtain ⟨la,fa,za⟩:=X.g.O a ⟨i,ho⟩
 have kf:aL g s.heap g h':=⟨fun b f=>⟨f,fun o e=>(hs b fun q=>fa (q▸f)).trans e⟩,rfl⟩
 have ra:=hy kf
 have lv:∀b,s.heap.get? b≠none→h'.get? b≠none:=fun b l=>by
  by_cases q:b=a
  ·exact q▸ra.live
  ·rw [hs b q];exact l
 have zk:∀b,g.Z b→∀o,s.heap.get? b=some o→h'.get? b=some o:=fun b z o e=>(hs b fun q=>za (q▸z)).trans e
 have ok:∀b∈own env,∀o,s.heap.get? b=some o→h'.get? b=some o:=fun b m o e=>(hs b fun q=>(X.env.own b m).2.2.2 (q▸⟨i,ho⟩)).trans e
 refine ⟨⟨⟨h',tk,rfl⟩,fun b o e _ no _=>(hs b fun q=>no (q▸⟨i,ho⟩)).trans e,fun b _ e=>?_,fun _ f=>f,fun _ f=>.inl f,fun _ f=>.inl f,fun _ f=>.inl f,rfl,rfl⟩,X.good,X.call,X.room,{X.env with
   ns:=let ⟨m,nn⟩:=X.env.ns;⟨m,nn.at (ok _ List.mem_cons_self)⟩
   cell:=fun j z kk hj hk=>let ⟨c,u,l,o,e,d⟩:=X.env.cell j z kk hj hk;⟨c,u,l,o,ok c (List.mem_cons_of_mem _ (bh l)) o e,d⟩
   own:=fun b m=>⟨lv b (X.env.own b m).1,(X.env.own b m).2⟩
   var:=fun j z v hj hv'=>?_
   un:=fun j hj=>cN (fun q:j=i=>hb (q▸X.env.un j hj)) (X.env.un j hj)},
  fun b o e=>⟨(X.g.base b o e).1,(kf.F b (X.g.base b o e).1).2 o (X.g.base b o e).2⟩,fun b f=>lv b (X.g.F b f),fun b z=>⟨lv b (X.g.Z b z).1,(X.g.Z b z).2⟩,fun b z=>⟨lv b (X.g.O b z).1,(X.g.O b z).2⟩,X.g.oo,
  ⟨let ⟨t,m,e⟩:=X.g.spot.1;⟨t,m,zk _ X.g.spot.2.1 _ e⟩,X.g.spot.2⟩,fun c ts e=>(X.g.self c ts e).mono kf (fun b z=>⟨z,zk b z⟩) rfl⟩
 ·cases q:s.heap.get? b with
  |none=>rfl
  |some o=>exact (lv b (an q) e).elim
 ·rcases gR hv' with ⟨q,e⟩ | ⟨nj,e⟩
  ·subst q;cases e
   exact ⟨_,hva.move ok,by unfold br;rw [hv];exact ⟨a,rfl,ho,ra⟩⟩
  ·obtain ⟨u,v1,v2⟩:=X.env.var j z v hj e
   refine ⟨u,v1.move ok,?_⟩
   unfold br at v2 ⊢
   cases q:bj C j with
   |true=>rw [q] at v2;exact let ⟨b,e1,e2,r⟩:=v2;⟨b,e1,e2,r.mono kf fun o e=>(hs b fun z=>nj (X.g.oo j i a (z▸e2) ho)).trans e⟩
   |false=>rw [q] at v2;exact v2.imp (·.mono kf) id
noncomputable def Mu (P:Pg)(id:String)(F:T→T→Option T)(RA:Gh→Heap→T→Value→Prop):Prop:=
 ∀A g σ s a x' t v y Q E,Rm A→bp P g s.heap σ→gN P g s.heap a t→RA g s.heap v x'→F t v=some y→
  (∀h' tk,(∀b,b≠a→h'.get? b=s.heap.get? b)→(aL g s.heap g h'→gN P g h' a y)→Q .none {s with heap:=h',toks:=tk})→wpAny P.M A (PySem.call (.builtin id) [.ref a,x']) Q E s
theorem aF.mut {e:Expr}{y name:Str}{k:NameKind}{np apos cpos pos:Pos}{pe:PE}{id:String}{i:Nat}{F:T→T→Option T}{R:RR Value T}{RA:Gh→Heap→T→Value→Prop}(m:xS .list name id)(hv:bj C i=true)(ht:B.tab[i]?=some (some (y,k)))(hR:∀h g h' t x,R h g h' t x→RA g h' t x)(o:Mu P id F RA)
  (hbase:∀env,attributeBase (.Name y np) name env (eval (.Name y np) env)=eval (.Name y np) env)(hline:(apos.endLine==cpos.line)=true)(htrees:∀env,backTo cpos (starEach [e] env)=[(false,eval e env)])(hw:∀env,swapsWith (.Call (.Attribute (.Name y np) name apos) [e] [] cpos) none pos.line env=pure false)
  (h:am P B C e pe R):aF P B C fr C (.Expr (.Call (.Attribute (.Name y np) name apos) [e] [] cpos) pos) (gY i F pe):=fun n A env g ρ σ s k Q E X hb hq hr=>by
 show wpAny P.M A (exec _ env) Q E s
 rw [exec_Expr env _ pos (by simp [interactive,X.fn]) (hw env)]
 unfold gY at hb hq
 cases e0:bz ρ i with
 |none=>rw [e0] at hb;exact absurd rfl hb
 |some t=>
  rw [e0] at hb hq
  have hk:=jZ hb
  simp only [hk,cond_true] at hb hq
  obtain ⟨u,v,q⟩:=X.env.var i _ t ht e0
  unfold br at q
  rw [hv] at q
  obtain ⟨a,rfl,oi,r⟩:=q
  refine wpAny_bind (wpAny_standAt (wpAny_bind (lJ m hbase hline htrees (bi X ht v ⟨s9 (.inr ⟨a,rfl,r⟩) hk,h n A env g ρ σ s _ _ _ X hb fun x' s₂ g₂ t' σ₂ e₂ p₂ w₂ r₂=>?_⟩))))
  obtain ⟨y',e'⟩:=bS fun q=>hb (e₂.trans q)
  have X₂:=X.post p₂ w₂
  have ka:=fun o e=>p₂.keep a o e (X.g.O a ⟨i,oi⟩).2.2
  refine o A g₂ σ₂ s₂ a x' t t' y' _ _ X.rm w₂ (r.mono (p₂.k X.g) ka) (hR _ _ _ _ _ r₂) e' fun h' tk hs hy=>wpAny_dropValue ?_
  obtain ⟨pS,X'⟩:=kx X₂ hv (by rw [e0];exact fun q=>by cases q) (by rw [p₂.o];exact oi) (v.move fun b m o e=>p₂.keep b o e (X.env.own b m).2.2.1) hs hy tk
  exact hq _ _ _ σ₂ (e₂.trans (by rw [e'];rfl)) (p₂.toS.trans pS) X'
theorem jO:Mu P "list.append" dK (fun g h t x=>Rp P g h t x):=fun A g σ s a x' t v y Q E rm w r rv e hq=>by
 obtain ⟨xs,e1,e2⟩:=ar e
 obtain ⟨hl,rfl⟩:=eU e2
 cases d9 e1
 obtain ⟨vs,n,a1,a3,a2⟩:=r
 refine dJ a1 (hq _ s.toks (Heap.SameBut.update s.heap a (Obj.mapSeq fun a=>a.push x')).2 fun kf=>⟨_,_,IsL.update a1 (fun a=>a.push x'),by rw [List.length_append];exact hl,?_⟩) (ba (a2.size▸a3))
 rw [Array.toList_push]
 exact aP.append (aP.cons (rv.mono kf) aP.nil) (a2.mono kf)
theorem oS {prog:Program}{w:World}{A:Around}{E:Value→Shared→Prop}{s:Shared}{l b:Addr}{items items2:Array Value}{n n2:Nat}{Q:Value→Shared→Prop}(hl:IsL s.heap l items n)(hb:IsL s.heap b items2 n2)
  (h:Q .none {s with heap:=s.heap.update l (Obj.mapSeq fun a=>a++items2)})(hsz:items.size+items2.size≤lim):wpAny (model prog w) A (call (.builtin "list.extend") [.ref l,.ref b]) Q E s:=by
 have hlim:lim=1000000:=rfl
 have h1:=ba (k:=items.size) (by lia -abstractProof)
 have h2:=ba hsz
 refine call_meets F.slot_list_extend ⟨_,hl,rfl⟩ F.entry_list_extend (F.args_list_extend_2 _ _) (AutoSeq1.list_extend_list_list_0 l items n b items2 n2 ?_ h1 (by lia)) ⟨hl,hb,h⟩
 have:Builtin.List.listTooLong (items.size+items2.size)=false:=by
  unfold Builtin.List.listTooLong
  simp only [decide_eq_false_iff_not]
  lia
 simp [this]
theorem ux:Mu P "list.extend" hE (fun g h t x=>jQ P g h t x):=fun A g σ s a x' t v y Q E rm w r rv e hq=>by
 obtain ⟨xs,ys,e1,e3,e2⟩:=aV e
 obtain ⟨hl,rfl⟩:=eU e2
 cases d9 e1
 obtain ⟨vs,n,a1,a3,a2⟩:=r
 obtain ⟨b,rfl,vs',n',b1,b3,b2⟩:=(jQ.y rv).ls e3
 refine oS a1 b1 (hq _ s.toks (Heap.SameBut.update s.heap a (Obj.mapSeq fun a=>a++vs')).2 fun kf=>⟨_,_,IsL.update a1 (fun a=>a++vs'),by rw [List.length_append];exact hl,?_⟩) (by rw [a2.size,b2.size];exact hl)
 rw [Array.toList_append]
 exact aP.append (b2.mono kf) (a2.mono kf)
theorem wT {A:Around}{a b:Nat}(rm:Rm A)(h:a≤cL):A.units+2+min a b < cLine:=by
 have:=rm.units
 have:min a b≤50:=Nat.le_trans (Nat.min_le_left _ _) h
 lia -abstractProof
theorem wz:pE P (De P "list.index") lR (RV P):=fun A env g σ s x x' t t' y Q E rm w q q' e hq=>by
 obtain ⟨xs,e1,e2⟩:=ar e
 obtain ⟨d,ds,h1,h2,e3⟩:=aV e2
 obtain ⟨j,h3,e4⟩:=ar e3
 cases e4
 obtain ⟨l,rfl,vs,n,a1,a3,a2⟩:=q.ls e1
 obtain ⟨⟨as,r1⟩,c1,l1⟩:=df cL t' x' d h1 q'
 obtain ⟨⟨bs,r2⟩,c2,l2⟩:=eQ (fun t x d e r=>df cL t x d e (.inl r)) xs _ ds h2 a2
 have hmap:=readsAll_map ds vs.toList bs c2 r2
 obtain ⟨hj,hj1,hj2⟩:=List.findIdx?_eq_some_iff_getElem.mp h3
 have hlen:ds.length=vs.size:=by rw [←hmap,List.length_map];rfl
 have at':∀(k:Nat) (h:k < vs.size) (h':k < ds.length),readOf s.heap vs[k]=ds[k]:=fun k h h'=>by
  have:ds[k]=(vs.toList.map (readOf s.heap))[k]'(by rw [List.length_map];exact h):=by simp only [hmap]
  rw [this,List.getElem_map];rfl
 refine call_meets F.slot_list_index ⟨_,a1,rfl⟩ F.entry_list_index (F.args_list_index_2 _ _)
  (list_indexAt l vs n Option.none #[] x' (fun v=>PyData.eqv (readOf s.heap v) d) j (hlen▸hj) (by have:=a2.size;have:lim=1000000:=rfl;lia -abstractProof) (by rw [at' j (hlen▸hj) hj];exact hj1) fun k hk hkj=>?_)
  ⟨a1,items_eqAt r2 r1 c2 c1 (Nat.lt_of_le_of_lt (by lia -abstractProof) (wT (b:=d.depth) rm l2)),?_⟩
 ·rw [at' k hk (hlen▸hk)]
  simpa using hj2 k hkj
 ·exact cQ w hq
theorem ni:∀{ts:List T} {vs:List Value} {xs:List Str},aP P g h ts vs→u0 ts=some xs→∃l:List (Str×Tok),vs=strValues l∧l.map (·.1)=xs
 | [],_,_,r,hs=>by cases r;cases hs;exact ⟨[],rfl,rfl⟩
 |t::ts,_,xs,⟨v,vs,e,r,rs⟩,hs=>by
  obtain ⟨y,ys,h1,h2,h3⟩:=aV hs
  cases h3;cases xr h1
  obtain ⟨_,p,rfl⟩:=r
  obtain ⟨l,e1,e2⟩:=ni rs h2
  exact ⟨(y,p)::l,by rw [e,e1];rfl,by rw [←e2];rfl⟩
theorem wq:pE P (De P "str.join") ta (RV P):=fun A env g σ s x x' t t' y Q E rm w q q' e hq=>by
 obtain ⟨sep,ts,e1,e2,e3⟩:=aV e
 obtain ⟨xs,e4,e5⟩:=ar e3
 obtain ⟨c,rfl⟩:=cr e5
 obtain ⟨c12,c3⟩:=Bool.and_eq_true_iff.mp c
 obtain ⟨c1,c2⟩:=Bool.and_eq_true_iff.mp c12
 obtain ⟨_,p,rfl⟩:=q.s e1
 obtain ⟨l,rfl,vs,n,a1,a3,a2⟩:=q'.ls e2
 obtain ⟨lt,q1,rfl⟩:=ni a2 e4
 have c1':Builtin.Str.tooLong ((lt.map (·.1)).toArray.foldl (·+·.length+sep.length) 0)=false:=by
  unfold JoinOk at c1
  rw [Bool.not_eq_true'] at c1;exact c1
 refine call_meets F.slot_str_join (typeIs_str _ _ _) F.entry_str_join (F.args_str_join_2 _ _) (meets_str_join_list sep p l lt c1') ⟨⟨_,a1,rfl,n,by rw [←q1]⟩,post_join lt ⟨joinFit_length c1',fun t' k=>?_⟩⟩
 exact hq _ _ g (.toks g s k) w ⟨⟨c2,fC c3⟩,_,rfl⟩
theorem pM:∀(l:List (Str×Tok)),(∀p∈l,PyData.strOk p.1=true∧p.1.length≤lim)→aP P g h ((l.map (·.1)).map T.str) (strValues l)
 | [],_=>rfl
 | (x,t)::r,hl=>⟨_,_,rfl,⟨hl (x,t) List.mem_cons_self,t,rfl⟩,pM r fun p hp=>hl p (List.mem_cons_of_mem _ hp)⟩
theorem tR:pE P (De P "str.split") od (RV P):=fun A env g σ s x x' t t' y Q E rm w q q' e hq=>by
 obtain ⟨z,z',e1,e2,e3⟩:=aV e
 obtain ⟨c,rfl⟩:=cr e3
 obtain ⟨c12,c3⟩:=Bool.and_eq_true_iff.mp c
 obtain ⟨c1,c2⟩:=Bool.and_eq_true_iff.mp c12
 obtain ⟨⟨h1,h2⟩,p,rfl⟩:=q.s e1
 obtain ⟨_,u,rfl⟩:=q'.s e2
 have c1:(z'.length==0)=false:=by rw [Bool.not_eq_true'] at c1;exact c1
 have c2:=fC c2
 have fin:∀(lt:List (Str×Tok)) (tk:Nat),lt.map (·.1)=Txt.split z z'→Q (.ref s.heap.objs.size) {s with heap:=s.heap.push (bn (strValues lt).toArray 0),toks:=tk}:=fun lt tk hlt=>by
  rw [←hlt] at c2 c3 hq
  refine i4 w (pM lt fun p hp=>?_) (by rw [List.length_map];exact c2) hq
  have:=Bool.and_eq_true_iff.mp (List.all_eq_true.mp c3 p.1 (List.mem_map_of_mem hp))
  exact ⟨this.1,of_decide_eq_true this.2⟩
 have hx:z.length≤sizeLine:=ba h2
 cases q1:(decide (z.length < z'.length)||decide (Builtin.Str.strKind z < Builtin.Str.strKind z'))
 ·cases hf:(Builtin.Str.occurrences z z' 0 z.length (z.length+1)).isEmpty
  ·have hsp:Txt.split z z'=Builtin.Str.partsBetween z (Builtin.Str.occurrences z z' 0 z.length (z.length+1)) z'.length:=(if_neg (ne_true_of_eq_false q1)).trans (if_neg (ne_true_of_eq_false hf))
   refine call_meets F.slot_str_split (typeIs_str _ _ _) F.entry_str_split (F.args_str_split_2 _ _) (meets_str_split_sep z z' p u q1 c1 hf hx (by rw [←hsp];exact ba c2)) ?_
   show wants _ _ _ {s with toks:=_,heap:=s.heap.push {cls:=.type "list",data:=.seq (strsFrom s.toks (Builtin.Str.partsBetween z (Builtin.Str.occurrences z z' 0 z.length (z.length+1)) z'.length)).toArray}}
   rw [strsFrom_eq]
   exact fin _ _ ((numbered_texts _ _).trans hsp.symm)
  ·exact call_meets F.slot_str_split (typeIs_str _ _ _) F.entry_str_split (F.args_str_split_2 _ _) (meets_str_split_not_found z z' p u q1 c1 hf) (fin [(z,p)] s.toks ((if_neg (ne_true_of_eq_false q1)).trans (if_pos hf)).symm)
 ·exact call_meets F.slot_str_split (typeIs_str _ _ _) F.entry_str_split (F.args_str_split_2 _ _) (meets_str_split_cannot_occur z z' p u q1) (fin [(z,p)] s.toks (if_pos q1).symm)
theorem lS:xS .list (ofString "append") "list.append":=⟨F.slot_list_append,F.type_list_append⟩
theorem Bb:xS .str (ofString "join") "str.join":=⟨F.slot_str_join,F.type_str_join⟩
theorem y0:xS .str (ofString "split") "str.split":=⟨F.slot_str_split,F.type_str_split⟩
theorem wE:xS .list (ofString "extend") "list.extend":=⟨F.slot_list_extend,F.type_list_extend⟩
theorem y2:xS .list (ofString "index") "list.index":=⟨F.slot_list_index,F.type_list_index⟩
end
end
end Mine
namespace Mine
noncomputable section
open PySem PySem.W PyProof.Rows PySem.SeqAt
noncomputable abbrev iI:=Ky×Addr×Value
section
variable {P:Pg} {B:bx} {C:Ct} {fr:Bool} {g g':Gh} {h h':Heap} {t:T} {x:Value}
theorem z0 {f:T→Option Ky}{n:Nat}(hf:∀t κ x,f t=some κ→Rp P g h t x→zF h n κ x):∀(ts:List T) (κs:List Ky) (xs:List Value),kA.go f ts=some κs→aP P g h ts xs→BC h n κs xs
 | [],κs,xs,e,r=>by cases r;cases e;exact ⟨[],rfl,rfl⟩
 |t::ts,κs,xs,e,⟨v,vs,e',q,r⟩=>by
  subst e'
  obtain ⟨κ,κs',e1,e2,e3⟩:=aV e
  cases e3
  obtain ⟨d,g1,h1⟩:=hf t κ _ e1 q
  obtain ⟨ds,g2,h2⟩:=z0 hf ts κs' _ e2 r
  exact ⟨d::ds,by rw [Kx.norms,g1,g2],⟨_,_,rfl,h1,h2⟩⟩
theorem Cv:∀(n:Nat) (t:T) (κ:Ky) (x:Value),kA n t=some κ→Rp P g h t x→zF h n κ x:=by
 have base:∀n t κ x,(match t with |.tup _=>False |_=>True)→kA n t=some κ→Rp P g h t x→zF h n κ x:=fun n t κ x ht e r=>by
  cases t with
  |bool b=>cases n<;>cases e<;>exact ⟨.bool _,rfl,r⟩
  |int i=>cases n<;>cases e<;>exact ⟨.int _,rfl,r⟩
  |str s=>cases n<;>cases e<;>exact ⟨.str _,rfl,r.1.1,r.2⟩
  |tup=>exact ht.elim
  |_=>cases n<;>cases e
 intro n
 induction n with
 |zero=>
  intro t κ x e r
  cases t with
  |tup=>cases e
  |_=>exact base 0 _ κ x trivial e r
 |succ n ih=>
  intro t κ x e r
  cases t with
  |tup ts=>
   obtain ⟨κs,e1,e2⟩:=ar (show o1 (kA.go (kA n) ts) (fun ks=>some (Ky.tup ks))=some κ from e)
   cases e2
   obtain ⟨a,rfl,_,vs,m,hg,_,r⟩:=r
   obtain ⟨ds,g1,h1⟩:=z0 ih ts κs _ e1 r
   exact ⟨.tup ds,congrArg Ky.tup g1,_,_,_,n,rfl,rfl,hg,h1⟩
  |_=>exact base (n+1) _ κ x trivial e r
theorem lO {κ:Ky}(e:wk t=some κ)(r:eO P g h t x):∃a,x=.ref a∧(bH P.prog P.w).is h κ a∧Rp P g h t x:=by
 obtain ⟨ts,e1,e2⟩:=ar e
 cases jN e1
 have r:=r.v fun _ h=>h
 have k:=Cv 6 _ κ _ e2 r
 obtain ⟨a,rfl,_⟩:=id r
 exact ⟨a,rfl,k,r⟩
theorem oU:∀(es:List DictEntry) (us:List T) (κs:List Ky),aP P g h us (es.map (·.key))→eR us=some κs→es.map (·.hash)=κs.map (Ky.hash P.w)→
  ∃xs:List iI,es=xs.map (entryOfKey (bH P.prog P.w))∧xs.map (·.1)=κs∧(∀x∈xs,(bH P.prog P.w).is h x.1 x.2.1)
 | [],us,κs,r,e,hh=>by
  obtain rfl:us=[]:=List.length_eq_zero_iff.mp r.length.symm
  cases e;exact ⟨[],rfl,rfl,fun _ h=>nomatch h⟩
 |en::es,us,κs,r,e,hh=>by
  cases us with
  |nil=>cases r
  |cons u us=>
   obtain ⟨_,_,e0,q,r⟩:=r
   cases e0
   obtain ⟨κ,κs',e1,e2,e3⟩:=aV (show o2 (wk u) (eR us) _=some κs from e)
   cases e3
   obtain ⟨a,ha,hk,_⟩:=lO e1 (.inl q)
   rw [List.map_cons,List.map_cons] at hh
   obtain ⟨hh1,hh2⟩:=List.cons.inj hh
   obtain ⟨xs,h1,h2,h3⟩:=oU es us κs' r e2 hh2
   refine ⟨(κ,a,en.val)::xs,?_,by rw [List.map_cons,h2],fun x hx=>?_⟩
   ·rw [List.map_cons,←h1]
    congr 1
    cases en
    simp only at ha hh1
    rw [ha,hh1];rfl
   ·rcases List.mem_cons.mp hx with rfl |hx
    ·exact hk
    ·exact h3 x hx
inductive Dd (P:Pg) (g:Gh) (h:Heap) (us ts:List T) (a:Addr):Prop
 |mk (xs:List iI) (n:(a==sysModules)=false) (d:h.DictOfH (bH P.prog P.w) a xs) (k:eR us=some (xs.map (·.1))) (r:aP P g h us (xs.map fun y=>Value.ref y.2.1)) (r':aP P g h ts (xs.map (·.2.2))) (l:us.length≤lim)
theorem xT.is {us ts:List T}{a:Addr}(q:xT P h us (aP P g h us) (aP P g h ts) a):Dd P g h us ts a:=by
 obtain ⟨n,o,es,e,q,r1,r2⟩:=q
 obtain ⟨κ,k1,k2,k3⟩:=q.k
 obtain ⟨ep,d⟩:=q.d
 obtain ⟨xs,h1,h2,h3⟩:=oU es us κ r1 k1 k2
 refine ⟨xs,n,⟨o,_,ep,e,q.x,d,h1,h3,by rw [h2];exact k3⟩,by rw [h2];exact k1,?_,?_,q.l⟩
 ·rw [h1,List.map_map] at r1;exact r1
 ·rw [h1,List.map_map] at r2;exact r2
theorem Dd.back {us ts:List T}{a:Addr}{xs:List iI}(n:(a==sysModules)=false)(d:h.DictOfH (bH P.prog P.w) a xs)(k:eR us=some (xs.map (·.1)))(r:aP P g h us (xs.map fun y=>Value.ref y.2.1))(r':aP P g h ts (xs.map (·.2.2)))(l:us.length≤lim):gN P g h a (.dct us ts):=by
 obtain ⟨o,es,ep,e,x,d,h1,h3,h4⟩:=d
 refine ⟨n,o,es.toList,e,⟨x,⟨ep,d⟩,⟨_,k,?_,h4⟩,l⟩,?_,?_⟩
 ·rw [h1,List.map_map,List.map_map];rfl
 ·rw [h1,List.map_map];exact r
 ·rw [h1,List.map_map];exact r'
theorem xu {p:List T×List T}(e:BO t=some p):t=.dct p.1 p.2:=by cases t<;>cases e;rfl
theorem eO.d {p:List T×List T}(q:eO P g h t x)(e:BO t=some p):∃a,x=.ref a∧Dd P g h p.1 p.2 a:=by cases xu e;exact q.elim (fun r=>let ⟨a,e,_,o⟩:=r;⟨a,e,o.is⟩) fun ⟨a,e,o⟩=>⟨a,e,xT.is o⟩
theorem mz (κ:Ky):∀(xs:List iI),atKey xs κ=(oM (xs.map (·.1)) κ).bind fun i=>(xs[i]?).map (·.2)
 | []=>rfl
 |x::xs=>by
  have ih:=mz κ xs
  unfold atKey oM at ih ⊢
  rw [List.map_cons,List.findIdx?_cons,List.find?_cons]
  cases decide (x.1=κ) with
  |true=>rfl
  |false=>
   simp only [Bool.false_eq_true,if_false]
   rw [ih]
   cases List.findIdx? (fun y=>decide (y=κ)) (xs.map (·.1)) with
   |none=>rfl
   |some i=>rfl
theorem s7 {κs:List Ky}{κ:Ky}{i:Nat}(e:oM κs κ=some i):κs[i]?=some κ:=by
 obtain ⟨h1,h2,_⟩:=List.findIdx?_eq_some_iff_getElem.mp e
 rw [List.getElem?_eq_getElem h1,of_decide_eq_true h2]
theorem sO {A:Around}(hu:A.units+200 < cLine):(bH P.prog P.w).room A.in1:=by
 show A.in1.units+6 < cLine
 rw [Around.in1_units];lia -abstractProof
theorem vM {A:Around}{x y:Value}{s:Shared}{t:Bool}{Q:Value→Shared→Prop}{E:Value→Shared→Prop}(h:wpAny P.M A (compareOp .In x y) (fun v s'=>v=.bool t∧Q (.bool (!t)) s') E s):wpAny P.M A (compareOp .NotIn x y) Q E s:=fun Γ p hΓ=>by
 have h':=h Γ p hΓ
 rw [show compareOp .In x y=(do return .bool (←contains y x)) from rfl,Sem.wp_bind'] at h'
 rw [show compareOp .NotIn x y=(do return .bool (!(←contains y x))) from rfl,Sem.wp_bind']
 refine Sem.wp_mono P.M Γ _ (fun b p' s' q=>?_) (fun _ _ _ q=>q) p s h'
 obtain ⟨q1,q2⟩:=(show Value.bool b=.bool t∧_ from q)
 cases q1;exact q2
theorem sQ {κ:Ky}{z:Value}:∀{xs:List iI} {j:Nat},(xs.map (·.1)).Nodup→(∃x,xs[j]?=some x∧x.1=κ)→(xs.map (putAt κ z)).map (·.2.2)=(xs.map (·.2.2)).set j z∧(xs.map (putAt κ z)).map (fun y=>Value.ref y.2.1)=xs.map (fun y=>Value.ref y.2.1)
 | [],j,_,⟨_,h,_⟩=>by cases h
 |x::xs,0,nd,⟨y,h,h'⟩=>by
  cases h
  have:xs.map (putAt κ z)=xs:=map_putAt_of_not_mem xs κ z (by rw [←h'];exact (List.nodup_cons.mp nd).1)
  rw [List.map_cons,this]
  simp [putAt,h']
 |x::xs,j+1,nd,⟨y,h,h'⟩=>by
  have nd':=List.nodup_cons.mp nd
  obtain ⟨h1,h2⟩:=sQ (κ:=κ) (z:=z) (xs:=xs) (j:=j) nd'.2 ⟨y,h,h'⟩
  have hx:x.1≠κ:=fun q=>nd'.1 (by show x.1∈_;rw [q,←h'];exact List.mem_map_of_mem (List.mem_of_getElem? (i:=j) h))
  have e:putAt κ z x=x:=by unfold putAt;rw [if_neg hx]
  rw [List.map_cons,e]
  exact ⟨congrArg (x.2.2::·) h1,congrArg (Value.ref x.2.1::·) h2⟩
theorem jg {xs:List iI}{us:List T}{k:T}{κ:Ky}{i:Option Nat}(hk:eR us=some (xs.map (·.1)))(e:kj us k=some i)(e':wk k=some κ):oM (xs.map (·.1)) κ=i:=by
 unfold kj at e
 rw [hk,e'] at e
 exact Option.some.inj e
theorem kL {xs:List iI}{κ:Ky}{j:Nat}(e:oM (xs.map (·.1)) κ=some j):∃x,xs[j]?=some x∧x.1=κ:=by
 have:=s7 e
 rw [List.getElem?_map] at this
 cases hx:xs[j]? with
 |none=>rw [hx] at this;cases this
 |some x=>rw [hx] at this;exact ⟨x,rfl,Option.some.inj this⟩
theorem jD {us:List T}{i:Option Nat}(e:kj us t=some i):∃κ,wk t=some κ:=let ⟨_,κ,_,e2,_⟩:=aV e;⟨κ,e2⟩
theorem xd:jm P .In Ab:=fun A g σ s x x' t t' b Q E rm w q q' e k=>by
 obtain ⟨p,e1,e2⟩:=ar e
 obtain ⟨i,e3,e4⟩:=ar e2
 cases e4
 obtain ⟨κ,hk⟩:=jD e3
 obtain ⟨d,rfl,xs,n,dd,kk,r,r',_⟩:=q'.d e1
 obtain ⟨ad,rfl,hi,_⟩:=lO hk q
 have f:=jg kk e3 hk
 refine wpAny_in_heap (sO rm.units) hi n dd ?_
 rw [show (atKey xs κ).isSome=i.isSome by
  rw [mz,f]
  cases i with
  |none=>rfl
  |some j=>obtain ⟨x,hx,_⟩:=kL f;rw [Option.bind_some,hx];rfl]
 exact k _
theorem uD:jm P .NotIn dW:=fun A g σ s x x' t t' b Q E rm w q q' e k=>by
 obtain ⟨c,e1,rfl⟩:=Option.map_eq_some_iff.mp e
 exact vM (xd A g σ s x x' t t' c _ E rm w q q' e1 fun tk=>⟨rfl,k tk⟩)
theorem vE {value slice:Expr}(hs:∀x y,subscripted slice false x y=operate [x,y] (getItem x y)):pE P (xE P value slice) idxD (RV P):=fun A env g σ s x x' t t' y Q E rm w q q' e hq=>by
 obtain ⟨p,e1,e2⟩:=ar e
 obtain ⟨i,e3,e4⟩:=ar e2
 obtain ⟨j,rfl,hv⟩:=ar e4
 obtain ⟨κ,hk⟩:=jD e3
 obtain ⟨d,rfl,xs,n,dd,kk,r,r',_⟩:=q.d e1
 obtain ⟨ad,rfl,hi,_⟩:=lO hk q'
 have f:=jg kk e3 hk
 obtain ⟨z,hz,hz'⟩:=kL f
 obtain ⟨u,hu',hr⟩:=r'.get hv
 rw [List.getElem?_map,hz] at hu'
 cases hu'
 refine tail_any dd.typeIs slot_dict_getitem.lookup (wpAny_getItem_heap (sO rm.units) hi dd (p:=z.2) ?_ (hq _ _ g (.toks g s _) w hr)) (hs _ _)
 rw [mz,f,Option.bind_some,hz];rfl
theorem am.idxD {a i:Expr}{pa pi:PE}{pos:Pos}(hs:∀x y,subscripted i false x y=operate [x,y] (getItem x y))(ha:am P B C a pa (RX P))(hi:am P B C i pi (RX P)):am P B C (.Subscript a i pos) (p2 idxD pa pi) (RV P):=
 (ha.op2 hi.xy j2 (vE hs)).map fun _ _ _ _ _=>Subscript_
theorem rZ {f:T→Option Ky}:∀{ts:List T} {κs:List Ky} {t:T} {κ:Ky},kA.go f ts=some κs→f t=some κ→kA.go f (ts++[t])=some (κs++[κ])
 | [],_,t,κ,e,e'=>by cases e;rw [List.nil_append,uw,e'];rfl
 |x::ts,κs,t,κ,e,e'=>by
  obtain ⟨k,ks,e1,e2,e3⟩:=aV (show o2 (f x) (kA.go f ts) _=some κs from e)
  cases e3
  rw [List.cons_append,uw,e1,rZ e2 e'];rfl
theorem jT {xs:List iI}{us ts:List T}{k v:T}{κ:Ky}{i:Option Nat}{ad:Addr}{z:Value}(hk:eR us=some (xs.map (·.1)))(nd:(xs.map (·.1)).Nodup)(hd:kj us k=some i)(hky:wk k=some κ)(r:aP P g h us (xs.map fun y=>Value.ref y.2.1))(r':aP P g h ts (xs.map (·.2.2)))(q:Rp P g h k (.ref ad))(q':Rp P g h v z):
  eR (lu i k v us ts).1=some ((storedH xs κ ad z).map (·.1))∧aP P g h (lu i k v us ts).1 ((storedH xs κ ad z).map fun y=>Value.ref y.2.1)∧aP P g h (lu i k v us ts).2 ((storedH xs κ ad z).map (·.2.2)):=by
 have f:=jg hk hd hky
 have a:=mz κ xs
 rw [f] at a
 cases i with
 |none=>
  rw [storedH_new a,List.map_append,List.map_append,List.map_append]
  exact ⟨rZ hk hky,aP.append (aP.cons q aP.nil) r,aP.append (aP.cons q' aP.nil) r'⟩
 |some j=>
  obtain ⟨x,hx,hx'⟩:=kL f
  rw [Option.bind_some,hx] at a
  rw [storedH_old a,keys_map_putAt]
  obtain ⟨h1,h2⟩:=sQ (z:=z) nd ⟨x,hx,hx'⟩
  exact ⟨hk,by rw [h2];exact r,by rw [h1];exact r'.set q' j⟩
theorem vp {α:Type}{i:Option Nat}{k v:α}{ks vs:List α}(h:ks.length+1≤lim):(lu i k v ks vs).1.length≤lim:=by
 cases i with
 |none=>rw [lu,List.length_append];exact h
 |some j=>exact Nat.le_of_succ_le h
noncomputable def Pu (P:Pg)(F:T→T→T→Option T):Prop:=
 ∀A g σ s a xk xv t κ v y Q E,Rm A→bp P g s.heap σ→gN P g s.heap a t→eO P g s.heap κ xk→Rp P g s.heap v xv→F t κ v=some y→
  (∀h' tk,(∀b,b≠a→h'.get? b=s.heap.get? b)→(aL g s.heap g h'→gN P g h' a y)→Q () {s with heap:=h',toks:=tk})→wpAny P.M A (setItem (.ref a) xk xv) Q E s
theorem sR:Pu P dP:=fun A g σ s a xk xv t κ v y Q E rm w r rk rv e hq=>by
 obtain ⟨p,e1,e2⟩:=ar e
 obtain ⟨i,e3,e4⟩:=ar e2
 obtain ⟨hl,rfl⟩:=eU e4
 cases xu e1
 obtain ⟨ky,hk⟩:=jD e3
 obtain ⟨xs,n,dd,kk,r1,r2,_⟩:=xT.is r
 obtain ⟨ad,rfl,hi,rk⟩:=lO hk rk
 have nd:(xs.map (·.1)).Nodup:=let ⟨_,_,_,_,_,_,_,_,nd⟩:=dd;nd
 have hxl:xs.length≤sizeLine:=ba (by have:=r1.length;rw [List.length_map] at this;lia -abstractProof)
 refine wpAny_setItem_heap (sO rm.units) hi dd (fun h' dd' hs=>hq h' _ hs.2 fun kf=>?_) hxl
 obtain ⟨g1,g2,g3⟩:=jT (v:=v) (z:=xv) kk nd e3 hk r1 r2 rk rv
 exact Dd.back n dd' g1 (g2.mono kf) (g3.mono kf) (vp hl)
theorem m4 {prog:Program}{w:World}{A:Around}{E:Value→Shared→Prop}{s:Shared}{l:Addr}{items:Array Value}{n:Nat}{k:Int}{t:Tok}{v:Value}{Q:Unit→Shared→Prop}(hl:IsL s.heap l items n)(h0:0≤k)(hj:k < items.size)(hfit:k < 2 ^ 63)
  (hQ:Q () {s with heap:=s.heap.update l (Obj.mapSeq (·.setIfInBounds k.toNat v))}):wpAny (model prog w) A (setItem (.ref l) (.int k t) v) Q E s:=by
 have hT:s.TypeIs (.ref l) "list":=⟨_,hl,rfl⟩
 unfold setItem
 try with_reducible refine wpAny_holding ?_
 first |refine wpAny_bind (wpAny_pure ?_) |skip
 refine wpAny_bind (wpAny_sequenceKey hT (by decide) ?_)
 refine wpAny_bind (wpAny_callSpecial?_slot (name:=ofString "__setitem__") hT slot_list_setitem (wpAny_call_entry slot_list_setitem hT entry_list_setitem ?_ (args_list_setitem _ _ _)))
 show wpAny _ _ (Builtin.List.listSubscript? (.int k t) >>=_) _ _ s
 refine wpAny_bind (wpAny_listSubscript_int (fitsIndex_of h0 hfit) ?_)
 clear hfit
 obtain ⟨j,rfl⟩:=Int.eq_ofNat_of_zero_le h0
 have hj:j < items.size:=by lia -abstractProof
 show wpAny _ _ ((seqItemAt l j >>=fun r=>pure (r.map (j,·))) >>=_) _ _ s
 refine wpAny_bind (wpAny_bind (wpAny_seqItemAt hl rfl (wpAny_pure ?_)))
 rw [Array.getElem?_eq_getElem hj]
 show wpAny _ _ (setSeqItemAt l j v >>=_) _ _ s
 refine wpAny_bind (wpAny_setSeqItemAt hl rfl ?_)
 first
  |exact wpAny_bind (wpAny_pure (wpAny_pure ⟨.none,rfl,wpAny_pure hQ⟩))
  |exact wpAny_pure ⟨.none,rfl,wpAny_pure hQ⟩
theorem vn:Pu P rK:=fun A g σ s a xk xv t κ v y Q E rm w r rk rv e hq=>by
 obtain ⟨xs,i,e1,e2,e3⟩:=aV e
 obtain ⟨c,rfl⟩:=cr e3
 obtain ⟨c1,c2⟩:=Bool.and_eq_true_iff.mp c
 have c1:=of_decide_eq_true c1
 have c2:=of_decide_eq_true c2
 cases d9 e1
 obtain ⟨vs,n,a1,a3,a2⟩:=r
 obtain ⟨p,rfl⟩:=rk.i e2
 have hz:=a2.size
 refine m4 a1 c1 (by rw [hz];exact c2) (Int.lt_trans c2 (s5 a3)) (hq _ s.toks (Heap.SameBut.update s.heap a (Obj.mapSeq (·.setIfInBounds i.toNat xv))).2 fun kf=>⟨_,_,IsL.update a1 (·.setIfInBounds i.toNat xv),by rw [List.length_set];exact a3,?_⟩)
 rw [Array.toList_setIfInBounds]
 exact (a2.mono kf).set (rv.mono kf) i.toNat
theorem aF.put {i e:Expr}{y:Str}{k:NameKind}{np p pos:Pos}{pi pe:PE}{j:Nat}{F:T→T→T→Option T}(o:Pu P F)(hv:bj C j=true)(ht:B.tab[j]?=some (some (y,k)))(hw:∀env,swapsWith e (some (.Subscript (.Name y np) i p)) pos.line env=pure false)(h2:am P B C i pi (RX P))(h3:am P B C e pe (RV P)):
  aF P B C fr C (.Assign [.Subscript (.Name y np) i p] e pos) (sD j F pi pe):=fun n A env g ρ σ s kk Q E X hb hq hr=>by
 refine wpAny_Assign_Subscript (h3 n A env g ρ σ s _ _ E X hb fun z s₁ g₁ v σ₁ e₁ p₁ w₁ r₁=>?_) (hw env)
 have X₁:=X.post p₁ w₁
 have e₁:sD j F pi pe (P.cx n) ρ σ kk=(match bz ρ j with |some x=>pi (P.cx n) ρ σ₁ fun κ σ=>up (F x κ v) σ fun y σ=>kk (ρ.set j (some y)) σ |none=>.bad):=e₁
 cases e0:bz ρ j with
 |none=>rw [e0] at e₁;exact absurd e₁ hb
 |some t=>
  rw [e0] at e₁
  have hb₁:=fun q=>hb (e₁.trans q)
  obtain ⟨u,va,q⟩:=X₁.env.var j _ t ht e0
  unfold br at q
  rw [hv] at q
  obtain ⟨a,rfl,oi,r⟩:=q
  refine bi X₁ ht va (h2 n A env g₁ ρ σ₁ s₁ _ _ E X₁ hb₁ fun xk s₂ g₂ κ σ₂ e₂ p₂ w₂ r₂=>?_)
  obtain ⟨y',e'⟩:=bS fun q=>hb₁ (e₂.trans q)
  have X₂:=X₁.post p₂ w₂
  refine o A g₂ σ₂ s₂ a xk z t κ v y' _ _ X.rm w₂ (r.mono (p₂.k w₁) fun o e=>p₂.keep a o e (X₁.g.O a ⟨j,oi⟩).2.2) (jQ.y r₂) (Rp.mono (p₂.k w₁) r₁) e' fun h' tk hs hy=>?_
  obtain ⟨pS,X'⟩:=kx X₂ hv (by rw [e0];exact fun q=>by cases q) (by rw [p₂.o];exact oi) (va.move fun b m o e=>p₂.keep b o e (X₁.env.own b m).2.2.1) hs hy tk
  exact hq _ _ _ σ₂ (e₁.trans (e₂.trans (by rw [e'];rfl))) ((p₁.trans p₂).toS.trans pS) X'
theorem oe {g:Gh}{σ:Sg}{s:Shared}(G:q7 P)(w:bp P g s.heap σ):(s.heap.objs.size==sysModules)=false:=by
 obtain ⟨o,_,_,e,_⟩:=G.g
 have:=Heap.lt_size (w.base _ _ e).2
 exact beq_eq_false_iff_ne.mpr fun q=>by rw [q] at this;exact absurd this (by decide)
theorem am.dic {pos:Pos}:am P B C (.Dict [] [] pos) t8 (RN P):=fun n A env g ρ σ s k Q E X hb hq=>by
 refine wpAny_Dict_empty (hq _ _ g _ σ rfl (.push _ s.toks) (X.g.push _) ?_)
 obtain ⟨h1,h2,h3⟩:=c9 X.g
 exact ⟨_,rfl,aD _,h1,h2,h3,oe X.good X.g,_,[],bD _,⟨⟨rfl,rfl,rfl⟩,⟨_,rfl⟩,⟨[],rfl,rfl,.nil⟩,Nat.zero_le _⟩,rfl,rfl⟩
end
end
end Mine
namespace Mine
noncomputable section
open PySem PyProof.Rows PySem.SeqAt
inductive bo (P:Pg) (c:Nat) (ms:List (Str×Nat)):Prop
 |mk (N:Addr) (mN:Str→Option Value) (K:ClsAt P.h₀ (P.cls c) N mN) (g1:mN "__getattribute__"=none) (g2:mN "__getattr__"=none) (g3:mN "__setattr__"=none) (g4:∀x∈bQ c,mN x=none∧typeLookup (.type "object") x=pure none)
  (g5:∀p∈ms,mN p.1=some (.ref (P.fnA p.2))∧(∃y,typeLookup (.type "object") p.1=pure y)∧∃o,P.h₀.get? (P.fnA p.2)=some o∧o.cls=.type "function")
noncomputable abbrev BE (P:Pg)(h:Heap):Prop:=∀a o,P.h₀.get? a=some o→h.get? a=some o
section
variable {P:Pg} {B:bx} {C C':Ct} {fr:Bool} {n c i f:Nat} {A:Around} {env:Env} {g g':Gh} {ρ:aH} {σ:Sg} {s s':Shared} {h h':Heap} {t:T} {x:Value} {ms:List (Str×Nat)} {name:Str} {m:Str→Option Value} {dx a:Addr} {us:List Value} {E:Value→Shared→Prop}
theorem bp.bs (w:bp P g h σ):BE P h:=fun a o e=>(w.base a o e).2
theorem dB.inst (i:dB P h c m dx a):h.Inst a (P.cls c) m:=let ⟨o,e,k,n,ne⟩:=i;⟨o,e,k.cls,k.no,.inr ⟨dx,k.dict,ne,n⟩⟩
theorem jM {u:Value}{Q:Value→Shared→Prop}(O:bo P c ms)(hn:name∈bQ c)(bs:BE P s.heap)(i:dB P s.heap c m dx a)(hm:m name=some u)(hu:handedOut u=pure u)(hq:Q u {s with toks:=s.toks+1}):wpAny P.M A (getAttr (.ref a) name true) Q E s:=by
 obtain ⟨N,mN,K,g1,g2,g3,g4,g5⟩:=O
 obtain ⟨nm,q,bs',sn,sub,col,dd,k0,k1,k2,k3,k5,hC⟩:=(K.keeps bs).obj
 exact load_attr (h:=s.heap) hC (K.keeps bs).ns g1 (g4 name hn).1 (g4 name hn).2 i.inst hm hu hq
theorem vR {pl:Sem Bool}{Q:Value×List Value→Shared→Prop}(O:bo P c ms)(hm:(name,f)∈ms)(hn:name∉bQ c)(bs:BE P s.heap)(i:dB P s.heap c m dx a)(k:q6 c m us)(hq:Q (.ref (P.fnA f),[.ref a]) s):wpAny P.M A (getMethod (.ref a) name pl) Q E s:=by
 obtain ⟨N,mN,K,g1,g2,g3,g4,g5⟩:=O
 obtain ⟨i1,⟨y,hy⟩,oI,i2,i3⟩:=g5 _ hm
 obtain ⟨nm,q,bs',sn,sub,col,dd,k0,k1,k2,k3,k5,hC⟩:=(K.keeps bs).obj
 exact method_of (h:=s.heap) hC (K.keeps bs).ns g1 g2 i1 (bs _ _ i2) i3 hy i.inst (k.no name hn) hq
theorem Rp.handed (r:Rp P g h t x):handedOut x=pure x:=by
 have k:∀{y:Value},x=y→handedOut y=pure y→handedOut x=pure x:=fun e h=>e▸h
 cases t with
 |none=>exact k r rfl
 |bool=>exact k r rfl
 |int=>exact let ⟨_,e⟩:=r;k e rfl
 |str=>exact let ⟨_,_,e⟩:=r;k e rfl
 |scr=>exact let ⟨_,_,e,_,_,_⟩:=r;k e rfl
 |spot=>exact k r rfl
 |self=>exact (show False from r).elim
 |_=>exact let ⟨_,e,_,_⟩:=r;k e rfl
theorem o9 {α:Type}{c:Bool}{o:Option α}{y:α}(h:(bif c then o else none)=some y):c=true∧o=some y:=by
 cases c with
 |true=>exact ⟨rfl,h⟩
 |false=>cases h
theorem xt {ts:List T}(e:Dp c t=some ts):t=.obj c ts:=by
 cases t with
 |obj c' us=>obtain ⟨h,rfl⟩:=cr e;rw [Nat.eq_of_beq_eq_true h]
 |_=>cases e
theorem tE (O:bo P c ms)(hn:(bQ c)[i]?=some name):xR P (BA P fun x=>getAttr x name true) (mD c i) (RV P):=fun A env g σ s x t y Q E rm w q e hq=>by
 obtain ⟨ts,e1,e2⟩:=ar e
 cases xt e1
 obtain ⟨a,rfl,f,dx,m,us,fd,ih,k,r⟩:=q.v fun _ h=>h
 obtain ⟨u,hu,hr⟩:=r.get e2
 exact jM O (List.mem_of_getElem? hn) w.bs ih (k.at_ i name u hu hn) hr.handed (hq u _ g (.toks g s _) w hr)
theorem sx {M:Model}{o:Expr}{attr:Str}{pos:Pos}{Q:Value→Shared→Prop}(hbase:attributeBase o attr env (eval o env)=eval o env)(hlet:∀x r,letTemporaryGo o x r=pure ())
  (h:wpAny M A (eval o env) (fun o s₁=>wpAny M A (getAttr o attr true) Q E s₁) E s):wpAny M A (eval (.Attribute o attr pos) env) Q E s:=by
 rw [arm_eval_Attribute,hbase]
 refine wpAny_bind (wpAny_mono h (fun o s₁ h₁=>wpAny_bind (wpAny_standAt (wpAny_bind (wpAny_holding (wpAny_mono h₁ (fun r s₂ h₂=>?_) fun _ _ y=>y))))) fun _ _ y=>y)
 rw [hlet]
 exact wpAny_bind (wpAny_pure (wpAny_pure h₂))
theorem am.attr {o:Expr}{pos:Pos}{p:PE}(O:bo P c ms)(hn:(bQ c)[i]?=some name)(hbase:∀env,attributeBase o name env (eval o env)=eval o env)(hlet:∀x r,letTemporaryGo o x r=pure ())(h:am P B C o p (RV P)):am P B C (.Attribute o name pos) (p1 (mD c i) p) (RV P):=
 (h.vx.xy.op1 j2 (tE O hn)).map fun _ env _ _ _=>sx (hbase env) hlet
theorem br.self {i:Nat}{u:Value}(q:br P C g h i .self u):u=.ref g.sa:=by
 unfold br at q
 cases e:bj C i with
 |true=>rw [e] at q;exact let ⟨_,_,_,r⟩:=q;(show False from r).elim
 |false=>rw [e] at q;exact q.elim (fun r=>(show False from r).elim) (·.2.2.2)
theorem am.rat {y:Str}{k:NameKind}{np pos:Pos}(O:bo P c ms)(hn:(bQ c)[i]?=some name)(ho:bj C 0=false)(ht:B.tab[0]?=some (some (y,k))):am P B C (.Attribute (.Name y np) name pos) (eH c i) (RV P):=fun n A env g ρ σ s kk Q E X hb hq=>by
 obtain ⟨u,e⟩:=bS hb
 obtain ⟨t,e0,e1⟩:=ar e
 obtain ⟨v,va,q⟩:=X.env.var 0 _ t ht e0
 unfold br at q
 rw [ho] at q
 have ek:eH c i (P.cx n) ρ σ kk=kk u σ:=by unfold eH;rw [e];rfl
 refine sx rfl (fun _ _=>rfl) (bi X ht va ?_)
 rcases q with r | ⟨_,_,rfl,rfl⟩
 ·exact tE O hn A env g σ s v t u Q E X.rm X.g (.inl r) (by cases t<;>first |exact e1 |exact (show False from r).elim) fun x s' g' p w r=>hq x s' g' u σ ek p w r
 ·obtain ⟨p,e2,e3⟩:=ar e1
  obtain ⟨b,e4⟩:=o9 e3
  obtain ⟨b1,b2⟩:=Bool.and_eq_true_iff.mp b
  obtain ⟨dx,m,us,ih,z,z',ne,k,l,sh,_,_⟩:=X.g.self p.1 p.2 e2
  obtain rfl:=Nat.eq_of_beq_eq_true b1
  have hi:i < us.length:=by rw [l];exact (List.getElem?_eq_some_iff.mp e4).1
  have r:=sh i _ u (List.getElem?_eq_getElem hi) e4 ((Bool.not_eq_true' _).mp b2)
  exact jM O (List.mem_of_getElem? hn) X.g.bs ih (k.at_ i name _ (List.getElem?_eq_getElem hi) hn) r.handed (hq _ _ g u σ ek (.toks g s _) X.g r)
theorem q8 {M:Model}{o:Expr}{apos pos:Pos}{args:List Expr}{Q:Value→Shared→Prop}(hbase:attributeBase o name env (eval o env)=eval o env)
  (hfew:methodCallForm (args.length+([]:List Keyword).length) (backTo pos (starEach args env)) (backToKw pos (keywordEach [] env))=true)(hline:(apos.endLine==pos.line)=true)
  (h:wpAny M A (eval o env) (fun ov s₁=>∀pl,wpAny M A (getMethod ov name pl) (fun fv s₂=>wpAny M A (callWith pos fv.1 fv.2 (backTo pos (starEach args env)) []) Q E s₂) E s₁) E s):
  wpAny M A (eval (.Call (.Attribute o name apos) args [] pos) env) Q E s:=by
 rw [arm_eval_Call,hbase]
 refine wpAny_bind (wpAny_mono h (fun ov s₁ h₁=>?_) fun _ _ e=>e)
 refine wpAny_bind (wpAny_standAt ?_)
 have hpos:methodCallPos true o env apos pos=pure pos:=by unfold methodCallPos;simp [hline]
 unfold methodCall
 rw [hfew]
 refine wpAny_bind (wpAny_holding ?_)
 exact wpAny_mono (h₁ _) (fun fv s₂ h₂=>wpAny_bind (wpAny_of_eq hpos h₂)) fun _ _ e=>e
noncomputable def Dh (c f:Nat)(name:Str)(apos pos:Pos)(k:Nat):Bool:=!(bQ c).contains name&&(rh f&&(!kh f&&((apos.endLine==pos.line)&&Nat.ble k 20)))
structure C9 (c f:Nat) (name:Str) (apos pos:Pos) (k:Nat):Prop where
 n:name∉bQ c
 m:rh f=true
 f:kh f=false
 l:(apos.endLine==pos.line)=true
 k:k≤20
theorem vY {apos pos:Pos}{k:Nat}(h:Dh c f name apos pos k=true):C9 c f name apos pos k:=by
 obtain ⟨h1,h⟩:=Bool.and_eq_true_iff.mp h
 obtain ⟨h2,h⟩:=Bool.and_eq_true_iff.mp h
 obtain ⟨h3,h⟩:=Bool.and_eq_true_iff.mp h
 obtain ⟨h4,h⟩:=Bool.and_eq_true_iff.mp h
 exact ⟨(fun q=>by rw [List.contains_iff_mem.mpr q] at h1;cases h1),h2,(Bool.not_eq_true' _).mp h3,h4,Nat.le_of_ble_eq_true h⟩
theorem few {es:List Expr}{pos:Pos}(hp:∀q∈starEach es env,q.1=false)(hl:es.length≤20):methodCallForm (es.length+([]:List Keyword).length) (backTo pos (starEach es env)) (backToKw pos (keywordEach [] env))=true:=by
 have h1:(backTo pos (starEach es env)).all (fun x=>!x.1)=true:=List.all_eq_true.mpr fun p hp'=>by rw [bA hp p hp'];rfl
 unfold methodCallForm
 rw [h1]
 show (true&&true&&decide (es.length+0+0 < 30))=true
 simp;lia -abstractProof
theorem nJ {es:List Expr}{ps:PL}{apos pos:Pos}{F:fN}{k:PK T}{Q:Value→Shared→Prop}(O:bo P c ms)(hm:(name,f)∈ms)(hf:P.Ψ f=some F)(me:C9 c f name apos pos es.length)(h':fS P B C es ps)(X:At P B C n A env g ρ σ s)(i:dB P s.heap c m dx a)(kf:q6 c m us)(hr:Rp P g s.heap t (.ref a)∨(t=.self∧a=g.sa))
  (hb:(ps (P.cx n) ρ σ fun ts σ=>sW ((P.cx n).call f (t::ts) σ) k)≠.bad)(hq:∀x s' g' u σ',(ps (P.cx n) ρ σ fun ts σ=>sW ((P.cx n).call f (t::ts) σ) k)=k u σ'→aC g s g' s'→bp P g' s'.heap σ'→Rp P g' s'.heap u x→Q x s')(pl:Sem Bool):
  wpAny P.M A (getMethod (.ref a) name pl) (fun fv s₂=>wpAny P.M A (callWith pos fv.1 fv.2 (backTo pos (starEach es env)) []) Q E s₂) E s:=by
 obtain ⟨o,w1,w2,_⟩:=X.good.fn f F hf
 refine vR O hm me.n X.base i kf (Calls.callWith_function (fd:=P.fd f) (o:=o) (gI (bA (h'.pl env)) (h'.sim pos n A env g ρ σ s _ _ E X hb fun xs s₁ g₁ ts σ₁ e p w r=>⟨⟨(w.base _ _ w1).2,w2⟩,?_⟩)))
 obtain ⟨u,σ₂,ec⟩:=vG fun q=>hb (e.trans q)
 refine qF (X.post p w) (ts:=t::ts) (by rw [me.m];exact ⟨_,_,_,_,rfl,rfl,hr.imp (·.mono (p.k X.g)) (fun ⟨a,b⟩=>⟨a,by rw [p.sa,b]⟩),r⟩) ec fun x s' g' p' w' r'=>hq x s' g' u σ₂ (e.trans (by rw [ec,zS])) (p.trans p') w' (by rw [me.f] at r';exact r')
theorem am.meth {o:Expr}{es:List Expr}{p:PE}{ps:PL}{apos pos:Pos}{F:fN}(O:bo P c ms)(hm:(name,f)∈ms)(hf:P.Ψ f=some F)(me:Dh c f name apos pos es.length=true)(hbase:∀env,attributeBase o name env (eval o env)=eval o env)(h:am P B C o p (RV P))(h':fS P B C es ps):
  am P B C (.Call (.Attribute o name apos) es [] pos) (sV c f p ps) (RV P):=
 have me:=vY me
 (h.bind (N:=fun A env x Q E s=>∀pl,wpAny P.M A (getMethod x name pl) (fun fv s₂=>wpAny P.M A (callWith pos fv.1 fv.2 (backTo pos (starEach es env)) []) Q E s₂) E s) (F:=fun cx ρ k t σ=>gd (Dp c t).isSome (ps cx ρ σ fun ts σ=>sW (cx.call f (t::ts) σ) k)) j2 fun n A env g g₁ ρ σ s s₁ x t k Q E p X r hb hq=>by
  have hk:=jZ hb
  rw [hk] at hb hq
  obtain ⟨ts,e⟩:=Option.isSome_iff_exists.mp hk
  cases xt e
  obtain ⟨a,rfl,_,dx,m,us,_,ih,kf,_⟩:=id r
  exact nJ O hm hf me h' X ih kf (.inl r) hb hq).map fun A env Q E s h=>q8 (hbase env) (few (h'.pl env) me.k) me.l h
theorem oO (h:ut c ρ σ=true):bz ρ 0=some .self∧∃ts,σ.self=some (c,ts):=by
 unfold ut at h
 cases e:bz ρ 0 with
 |none=>rw [e] at h;cases h
 |some t=>
  rw [e] at h
  cases t with
  |self=>
   refine ⟨rfl,?_⟩
   cases e':σ.self with
   |none=>simp only [e'] at h;cases h
   |some p=>simp only [e'] at h;exact ⟨p.2,by rw [←Nat.eq_of_beq_eq_true h]⟩
  |_=>cases h
theorem am.rmeth {y:Str}{kd:NameKind}{np apos pos:Pos}{es:List Expr}{ps:PL}{F:fN}(O:bo P c ms)(hm:(name,f)∈ms)(hf:P.Ψ f=some F)(me:Dh c f name apos pos es.length=true)(ht:B.tab[0]?=some (some (y,kd)))(h':fS P B C es ps):
  am P B C (.Call (.Attribute (.Name y np) name apos) es [] pos) (rO c f ps) (RV P):=fun n A env g ρ σ s k Q E X hb hq=>by
 have me:=vY me
 unfold rO at hb hq
 have hs:=jZ hb
 rw [hs] at hb hq
 obtain ⟨e0,ts,e1⟩:=oO hs
 obtain ⟨v,va,q⟩:=X.env.var 0 _ _ ht e0
 cases q.self
 obtain ⟨dx,m,us,ih,_,_,_,kf,_⟩:=X.g.self c ts e1
 exact q8 rfl (few (h'.pl env) me.k) me.l (bi X ht va (nJ O hm hf me h' X ih kf (.inr ⟨rfl,rfl⟩) hb hq))
end
section
variable {P:Pg} {B:bx} {C C':Ct} {fr:Bool} {n c i f:Nat} {A:Around} {env:Env} {g g' g₂:Gh} {ρ:aH} {σ σ' σ₂:Sg} {s s' s₂:Shared} {h h':Heap} {t:T} {x:Value} {ms:List (Str×Nat)} {name:Str} {m:Str→Option Value} {dx a:Addr} {us:List Value} {E:Value→Shared→Prop} {ts:List T}
theorem bX (k:∀a o,h.get? a=some o→h'.get? a=some o)(a:Addr)(e:h'.get? a=none):h.get? a=none:=by
 cases q:h.get? a with
 |none=>rfl
 |some o=>exact (an (k a o q) e).elim
theorem aP.of:∀{us:List Value} {ts:List T},us.length=ts.length→(∀(i:Nat) (v:Value) (t:T),us[i]?=some v→ts[i]?=some t→Rp P g h t v)→aP P g h ts us
 | [],[],_,_=>rfl
 |v::us,t::ts,l,k=>⟨v,us,rfl,k 0 v t rfl rfl,aP.of (Nat.succ.inj l) fun i=>k (i+1)⟩
theorem bp.make {x:Addr}(w:bp P g h σ)(m:Heap.MadeObj h h' x dx (P.cls c)):bp P {g with Z:=fun y=>g.Z y∨y=x∨y=dx,sa:=x} h' ⟨σ.spot,some (c,[])⟩:=by
 obtain ⟨o,hx,hc,hnc,hd⟩:=m.inst
 have hdd:=m.dict o hx
 obtain ⟨ns,ne⟩:h'.Ns1 dx (fun _=>none)∧dx≠x:=by
  rcases hd with ⟨q,_⟩ | ⟨d',q,hne,hns⟩
  ·rw [q] at hdd;cases hdd
  ·rw [q] at hdd;cases hdd;exact ⟨hns,hne⟩
 have lv:∀a,h.get? a≠none→h'.get? a≠none:=fun a l e=>l (bX m.keeps a e)
 have nn:∀a,h.get? a≠none→a≠x∧a≠dx:=fun a l=>⟨fun q=>l (q▸m.newX),fun q=>l (q▸m.newD)⟩
 have ld:h'.get? dx≠none:=let ⟨_,_,_,e,_⟩:=ns;an e
 have sp:=nn _ (w.Z _ w.spot.2.1).1
 exact ⟨fun a o e=>⟨(w.base a o e).1,m.keeps a o (w.base a o e).2⟩,fun a f=>lv a (w.F a f),
  fun a z=>z.elim (fun z=>⟨lv a (w.Z a z).1,(w.Z a z).2⟩) fun z=>z.elim (fun e=>by rw [e];exact ⟨an hx,fun f=>w.F _ f m.newX⟩) fun e=>by rw [e];exact ⟨ld,fun f=>w.F _ f m.newD⟩,
  fun a q=>⟨lv a (w.O a q).1,(w.O a q).2.1,fun z=>z.elim (w.O a q).2.2 fun z=>z.elim (nn a (w.O a q).1).1 (nn a (w.O a q).1).2⟩,
  w.oo,⟨let ⟨t,n,e⟩:=w.spot.1;⟨t,n,m.keeps _ _ e⟩,.inl w.spot.2.1,fun q=>nomatch q⟩,
  fun c' ts e=>by cases e;exact ⟨dx,_,[],⟨o,hx,⟨hc,hdd,hnc⟩,ns,ne⟩,.inr (.inl rfl),.inr (.inr rfl),⟨fun q=>sp.2 q.symm,fun q=>sp.1 q.symm⟩,⟨fun _ _=>rfl,fun _ _ _ q=>nomatch q⟩,rfl,(fun _ _ _ q=>nomatch q),(fun _ _ _ q=>nomatch q),fun _ _ _ q=>nomatch q⟩⟩
theorem yw {x:Addr}(w:bp P g s.heap σ)(hσ:σ.self=none)(m:Heap.MadeObj s.heap h' x dx (P.cls c))(p₂:aC {g with Z:=fun y=>g.Z y∨y=x∨y=dx,sa:=x} {s with heap:=h'} g₂ s₂)(w₂:bp P g₂ s₂.heap σ₂)(hs:σ₂.self=some (c,ts)):
  ∃g',aC g s g' s₂∧bp P g' s₂.heap ⟨σ₂.spot,none⟩∧Rp P g' s₂.heap (.obj c ts) (.ref x):=by
 have mb:=bX m.keeps
 have b:∀a,s₂.heap.get? a=none→s.heap.get? a=none:=fun a e=>mb a (p₂.back a e)
 have fn:∀a,g₂.F a→g.F a∨s.heap.get? a=none:=fun a f=>(p₂.Fn a f).imp_right (mb a)
 have zn:∀a,g₂.Z a→a=g.sp∨s.heap.get? a=none:=fun a z=>(p₂.Zn a z).elim (fun z=>z.elim (fun z=>.inl (w.spot.2.2 hσ a z)) fun z=>.inr (z.elim (fun e=>e▸m.newX) fun e=>e▸m.newD)) fun e=>.inr (mb a e)
 have hsp:g₂.sp=g.sp:=p₂.sp
 refine ⟨⟨fun y=>g₂.F y∨(g₂.Z y∧s.heap.get? y=none),g.Z,g.o,g.sp,g.sa⟩,⟨St.trans ⟨h',s.toks,rfl⟩ p₂.st,fun a o e z=>p₂.keep a o (m.keeps a o e) fun q=>q.elim z fun q=>q.elim (fun q=>an e (q▸m.newX)) fun q=>an e (q▸m.newD),b,fun a f=>.inl (p₂.F a f),fun a f=>f.elim (fn a) fun q=>.inr q.2,fun a z=>.inl z,rfl,rfl,rfl⟩,
  ⟨fun a o e=>⟨.inl (w₂.base a o e).1,(w₂.base a o e).2⟩,fun a f=>f.elim (w₂.F a) fun q=>(w₂.Z a q.1).1,fun a z=>⟨fun e=>(w.Z a z).1 (b a e),fun f=>f.elim (fun f=>(fn a f).elim (w.Z a z).2 (w.Z a z).1) fun q=>(w.Z a z).1 q.2⟩,
   fun a q=>⟨fun e=>(w.O a q).1 (b a e),fun f=>f.elim (fun f=>(fn a f).elim (w.O a q).2.1 (w.O a q).1) fun z=>(w.O a q).1 z.2,(w.O a q).2.2⟩,w.oo,⟨let ⟨t,n,e⟩:=w₂.spot.1;⟨t,n,hsp▸e⟩,w.spot.2.1,fun _=>w.spot.2.2 hσ⟩,fun _ _ q=>nomatch q⟩,?_⟩
 obtain ⟨dx',m',us,ih,z,z',ne,k,l,sh,ow,_⟩:=w₂.self c ts hs
 have sa:g₂.sa=x:=p₂.sa
 have nw:∀a,g₂.Z a→a≠g₂.sp→s.heap.get? a=none:=fun a z q=>(zn a z).resolve_left (hsp▸q)
 refine ⟨x,rfl,.inr (sa▸⟨z,nw _ z ne.2⟩),dx',m',us,.inr ⟨z',nw _ z' ne.1⟩,sa▸ih,k,aP.of l fun i v t h1 h2=>?_⟩
 have kf:aL g₂ s₂.heap ⟨fun y=>g₂.F y∨(g₂.Z y∧s.heap.get? y=none),g.Z,g.o,g.sp,g.sa⟩ s₂.heap:=⟨fun a f=>⟨.inl f,fun _ e=>e⟩,hsp.symm⟩
 cases ho:gz c i with
 |false=>exact (sh i v t h1 h2 ho).mono kf
 |true=>
  obtain ⟨a,rfl,za,na,ra⟩:=ow i v t h1 h2 ho
  exact (ra.mono kf fun _ e=>e).rp (.inr ⟨za,nw a za na.2.2⟩)
theorem yx {o:cz}{k:PK T}(hb:uc c o k≠.bad):∃σ ts,o=.ret .none σ∧σ.self=some (c,ts)∧uc c o k=k (.obj c ts) ⟨σ.spot,none⟩:=by
 cases o with
 |ret t σ=>
  unfold uc at hb ⊢
  have h1:=jL hb
  obtain rfl:t=.none:=by cases t<;>first |rfl |cases h1
  cases e:σ.self with
  |none=>simp only [e] at hb;exact absurd rfl hb
  |some p=>
   simp only [e,h1,cond_true] at hb ⊢
   have h2:=jL hb
   obtain rfl:=Nat.eq_of_beq_eq_true h2
   exact ⟨σ,p.2,rfl,e,by rw [h2];rfl⟩
 |_=>exact absurd (by with_unfolding_all rfl) hb
theorem am.new {y:Str}{e:Expr}{es:List Expr}{ps:PL}{p pos:Pos}(O:bo P c ms)(hi:(ofString "__init__",f)∈ms)(hf:(rh f&&!kh f)=true)(hg:P.mg y=some (.ref (P.cls c)))(hx:B.sc.names.lookup y=some .globalImplicit)(hd:(y==("__debug__":Str))=false)
  (hs:∀env,starEach (e::es) env=(false,eval e env)::starEach es env)(h:fS P B C (e::es) ps):am P B C (.Call (.Name y p) (e::es) [] pos) (qd c f ps) (RV P):=fun n A env g ρ σ s k Q E X hb hq=>by
 obtain ⟨N,mN,K,_,_,_,_,g5⟩:=O
 obtain ⟨i1,_,oI,i2,i3⟩:=g5 _ hi
 refine Call_Name rfl (X.glob hx hd hg (callWith_cls (e:=e) (rest:=es) K (h.sim pos n A env g ρ σ s _ _ E X hb fun xs s₁ g₁ ts σ₁ e₁ p₁ w₁ r₁=>⟨w₁.bs,?_⟩) (hs env) ?_))
 ·have hb₁:=fun q=>hb (e₁.trans q)
  cases hσ:σ₁.self with
  |some q=>simp only [hσ] at hb₁;exact (hb₁ trivial).elim
  |none=>
   simp only [hσ] at hb₁ e₁
   obtain ⟨σ₂,ts',ec,h2,h3⟩:=yx hb₁
   obtain ⟨nm,q,bs,sn,sub,col,dd,k0,k1,k2,k3,k5,hC⟩:=(K.keeps w₁.bs).obj
   refine wpAny_call_obj_init (h:=s₁.heap) PySem.F.objNew hC (K.keeps w₁.bs).ns i1 (w₁.bs _ _ i2) i3 fun h' x dx m=>?_
   obtain ⟨f1,f2⟩:=Bool.and_eq_true_iff.mp hf
   have f2:=(Bool.not_eq_true' _).mp f2
   refine wpAny_call (codeAny_mono (X.call n (Nat.le_refl n) f (A.under (.builtin "type.__call__" ⟨.ref (P.cls c)::xs,[]⟩)) (.self::ts) (.ref x::xs) _ _ {s₁ with heap:=h'} .none σ₂ (fun r s'=>r=.none∧Q (.ref x) s') E ?_ (w₁.make m) ?_ ec fun u s' g' p' w' r'=>?_) fun r s' q=>?_)
   ·exact ⟨by have:=X.room.1;show A.depth+1+2 * n+9 < _;lia -abstractProof,by have:=X.room.2.1;show A.units+1+20 * n+190 < _;lia -abstractProof,X.room.2.2⟩
   ·rw [f1];exact ⟨_,_,_,_,rfl,rfl,.inr ⟨rfl,rfl⟩,aP.mono (g:=g₁) (g':={g₁ with Z:=fun y=>g₁.Z y∨y=x∨y=dx,sa:=x}) (h:=s₁.heap) (h':=h') ⟨fun a f=>⟨f,m.keeps a⟩,rfl⟩ r₁⟩
   ·rw [f2] at r'
    obtain ⟨g₂,p₂,w₂,r₂⟩:=yw w₁ hσ m p' w' h2
    exact ⟨r',hq _ _ g₂ _ _ (e₁.trans h3) (p₁.trans p₂) w₂ r₂⟩
   ·match r,q with
    |.ok (.ret u),q=>exact q
    |.ok .next,q=>exact q.elim
    |.ok .brk,q=>exact q.elim
    |.ok .cont,q=>exact q.elim
    |.error u,q=>exact q
 ·refine List.any_eq_false.mpr fun q hq'=>?_
  rw [bA (fun q hq=>h.pl env q (by rw [hs];exact List.mem_cons_of_mem _ hq)) q hq'];decide
inductive du (P:Pg) (g:Gh) (h:Heap) (c:Nat) (name:Str) (t:T) (a:Addr):Prop
 |mk (dx:Addr) (m:Str→Option Value) (ih:dB P h c m dx g.sa) (e:m name=some (.ref a)) (z:g.Z a) (ne:a≠g.sp) (z1:g.Z g.sa∧g.sa≠g.sp) (z2:g.Z dx∧dx≠g.sp) (r:gN P g h a t)
theorem du.keep (o:du P g h c name t a)(kf:aL g h g' h')(hs:g'.sa=g.sa)(z:∀a,a≠g.sp→g.Z a→g'.Z a∧∀o,h.get? a=some o→h'.get? a=some o):du P g' h' c name t a:=by
 obtain ⟨dx,m,ih,e,za,ne,⟨z1,n1⟩,⟨z2,n2⟩,r⟩:=o
 have a1:=z _ n1 z1
 have a2:=z _ n2 z2
 have a3:=z _ ne za
 have sp:=kf.sp
 exact ⟨dx,m,hs▸ih.mono a1.2 a2.2,e,a3.1,sp▸ne,hs▸sp▸⟨a1.1,n1⟩,sp▸⟨a2.1,n2⟩,r.mono kf a3.2⟩
theorem du.o (o:du P g h c name t a):gN P g h a t:=let ⟨_,_,_,_,_,_,_,_,r⟩:=o;r
theorem du.y (o:du P g h c name t a):eO P g h t (.ref a):=.inr ⟨a,rfl,o.o⟩
theorem lc (hs:dy c i ρ σ=some t):bz ρ 0=some .self∧gz c i=true∧∃ts,σ.self=some (c,ts)∧ts[i]?=some t:=by
 obtain ⟨b,e⟩:=o9 hs
 obtain ⟨b1,b2⟩:=Bool.and_eq_true_iff.mp b
 obtain ⟨e0,ts,e1⟩:=oO b1
 rw [e1] at e
 exact ⟨e0,b2,ts,e1,e⟩
theorem k9 (e:σ'.self=σ.self)(hs:dy c i ρ σ=some t):dy c i ρ σ'=some t:=by
 unfold dy ut at *
 rw [e];exact hs
theorem vg (w:bp P g h σ)(hn:(bQ c)[i]?=some name)(hs:dy c i ρ σ=some t):∃a,du P g h c name t a:=by
 obtain ⟨e0,ho,ts,e1,e2⟩:=lc hs
 obtain ⟨dx,m,us,ih,z,z',ne,k,l,_,ow,_⟩:=w.self c ts e1
 have hi:i < us.length:=by rw [l];exact (List.getElem?_eq_some_iff.mp e2).1
 obtain ⟨a,e,za,na,r⟩:=ow i _ t (List.getElem?_eq_getElem hi) e2 ho
 exact ⟨a,dx,m,ih,(k.at_ i name _ (List.getElem?_eq_getElem hi) hn).trans (by rw [e]),za,na.2.2,⟨z,ne.2⟩,⟨z',ne.1⟩,r⟩
theorem dB.uniq {m':Str→Option Value}{dx':Addr}(i:dB P h c m dx a)(i':dB P h c m' dx' a)(y:Str):m y=m' y:=by
 obtain ⟨o,e,k,n,_⟩:=i
 obtain ⟨o',e',k',n',_⟩:=i'
 rw [e] at e';cases e'
 obtain rfl:dx=dx':=Option.some.inj (k.dict.symm.trans k'.dict)
 exact sX n.ns n'.ns
theorem tm {y:T}(w:bp P g s.heap σ)(hs:dy c i ρ σ=some t)(hn:(bQ c)[i]?=some name)(o:du P g s.heap c name t a)(hh:∀b,b≠a→h'.get? b=s.heap.get? b)(hy:aL g s.heap g h'→gN P g h' a y)(tk:Nat):aC g s g {s with heap:=h',toks:=tk}∧bp P g h' (σ.fld i y):=by
 obtain ⟨e0,ho,ts,e1,e2⟩:=lc hs
 obtain ⟨dx,m,us,ih,z,z',ne,k,l,sh,ow,nn⟩:=w.self c ts e1
 obtain ⟨dx₁,m₁,ih₁,e,za,na,_,_,_⟩:=o
 have hi:i < us.length:=by rw [l];exact (List.getElem?_eq_some_iff.mp e2).1
 have hu:us[i]?=some (.ref a):=by
  have:=k.at_ i name _ (List.getElem?_eq_getElem hi) hn
  rw [ih.uniq ih₁,e] at this
  rw [List.getElem?_eq_getElem hi];exact this.symm
 obtain ⟨a',q,_,nb,_⟩:=ow i _ t hu e2 ho
 cases q
 have kf:aL g s.heap g h':=⟨fun b f=>⟨f,fun o e=>(hh b fun q=>(w.Z a za).2 (q▸f)).trans e⟩,rfl⟩
 have r:=hy kf
 have lv:∀b,s.heap.get? b≠none→h'.get? b≠none:=fun b l=>by
  by_cases q:b=a
  ·exact q▸r.live
  ·rw [hh b q];exact l
 have kp:∀b,b≠a→∀o,s.heap.get? b=some o→h'.get? b=some o:=fun b q o e=>(hh b q).trans e
 refine ⟨⟨⟨h',tk,rfl⟩,fun b o e z=>kp b (fun q=>z (q▸za)) o e,fun b e=>?_,fun _ f=>f,fun _ f=>.inl f,fun _ f=>.inl f,rfl,rfl,rfl⟩,fun b o e=>⟨(w.base b o e).1,(kf.F b (w.base b o e).1).2 o (w.base b o e).2⟩,fun b f=>lv b (w.F b f),fun b z=>⟨lv b (w.Z b z).1,(w.Z b z).2⟩,fun b z=>⟨lv b (w.O b z).1,(w.O b z).2⟩,w.oo,
  ⟨let ⟨t,m,e⟩:=w.spot.1;⟨t,m,kp _ (Ne.symm na) _ e⟩,w.spot.2.1,fun q=>?_⟩,fun c' ts' e'=>?_⟩
 ·by_cases q:s.heap.get? b=none
  ·exact q
  ·exact (lv b q e).elim
 ·rw [Sg.fld,e1] at q;cases q
 ·rw [Sg.fld,e1] at e'
  cases e'
  have set_:∀{j:Nat} {u:T},(ts.set i y)[j]?=some u→(j=i∧u=y)∨(j≠i∧ts[j]?=some u):=fun {j u} q=>by
   by_cases ji:j=i
   ·subst ji
    rw [List.getElem?_set_self (List.getElem?_eq_some_iff.mp e2).1] at q
    exact .inl ⟨rfl,(Option.some.inj q).symm⟩
   ·rw [List.getElem?_set_ne (Ne.symm ji)] at q;exact .inr ⟨ji,q⟩
  refine ⟨dx,m,us,ih.mono (kp _ (Ne.symm nb.2.1)) (kp _ (Ne.symm nb.1)),z,z',ne,k,by rw [List.length_set];exact l,fun j u t' h1 h2 h3=>?_,fun j u t' h1 h2 h3=>?_,nn⟩
  ·rcases set_ h2 with ⟨rfl,_⟩ | ⟨_,h2⟩
   ·rw [ho] at h3;cases h3
   ·exact (sh j u t' h1 h2 h3).mono kf
  ·rcases set_ h2 with ⟨rfl,rfl⟩ | ⟨ji,h2⟩
   ·rw [hu] at h1;cases h1
    exact ⟨a,rfl,za,nb,r⟩
   ·obtain ⟨b,rfl,zb,nb',rb⟩:=ow j u t' h1 h2 h3
    exact ⟨b,rfl,zb,nb',rb.mono kf (kp b fun q=>ji (nn j i a (q▸h1) hu h3 ho))⟩
end
section
variable {P:Pg} {B Bc:bx} {C C' Ci:Ct} {fr:Bool} {n c i j:Nat} {A:Around} {env:Env} {g g' g₂:Gh} {ρ:aH} {σ σ' σ₂:Sg} {s s' s₂:Shared} {h h':Heap} {t:T} {x:Value} {ms:List (Str×Nat)} {name y:Str} {kd:NameKind} {m:Str→Option Value} {dx a:Addr} {us:List Value} {E:Value→Shared→Prop} {ts:List T} {np apos pos:Pos}
noncomputable def Gh.bor (g:Gh):Gh:={g with Z:=fun a=>a=g.sp}
theorem Aj (g:Gh)(h:Heap):aL g h g.bor h:=⟨fun _ f=>⟨f,fun _ e=>e⟩,rfl⟩
theorem At.bor (X:At P B C n A env g ρ σ s):At P B C n A env g.bor ρ ⟨σ.spot,none⟩ s:=
 have hz:∀a,g.bor.Z a→g.Z a:=fun a q=>by rw [show a=g.sp from q];exact X.g.spot.2.1
 ⟨X.good,X.call,X.room,X.env.move (Aj g _) rfl rfl (fun _ _ _ e=>e) fun a ha=>⟨(X.env.own a ha).1,(X.env.own a ha).2.1,fun q=>(X.env.own a ha).2.2.1 (hz a q)⟩,
  X.g.base,X.g.F,fun a z=>X.g.Z a (hz a z),fun a q=>⟨(X.g.O a q).1,(X.g.O a q).2.1,fun z=>(X.g.O a q).2.2 (hz a z)⟩,X.g.oo,⟨X.g.spot.1,rfl,fun _ _ q=>q⟩,fun _ _ q=>nomatch q⟩
theorem qN (w:bp P g s.heap σ)(p:aC g.bor s g' s')(w':bp P g' s'.heap σ'):aC g s {g' with Z:=g.Z} s'∧bp P {g' with Z:=g.Z} s'.heap ⟨σ'.spot,σ.self⟩:=by
 have sp:g'.sp=g.sp:=p.sp
 have so:g'.o=g.o:=p.o
 have q:aC g s {g' with Z:=g.Z} s':=⟨p.st,fun a o e z=>p.keep a o e fun q=>z (by rw [show a=g.sp from q];exact w.spot.2.1),p.back,p.F,p.Fn,fun _ z=>.inl z,p.o,p.sp,p.sa⟩
 have lv:∀a,s.heap.get? a≠none→s'.heap.get? a≠none:=fun a l e=>l (p.back a e)
 have nf:∀a,s.heap.get? a≠none→¬g.F a→¬g'.F a:=fun a l f q=>(p.Fn a q).elim f l
 have oo:∀a,({g' with Z:=g.Z}:Gh).O a→g.O a:=fun a ⟨i,q⟩=>⟨i,so▸q⟩
 exact ⟨q,w'.base,w'.F,fun a z=>⟨lv a (w.Z a z).1,nf a (w.Z a z).1 (w.Z a z).2⟩,fun a o=>have o:=w.O a (oo a o);⟨lv a o.1,nf a o.1 o.2.1,o.2.2⟩,fun i j a h1 h2=>w.oo i j a (so▸h1) (so▸h2),⟨w'.spot.1,by rw [show ({g' with Z:=g.Z}:Gh).sp=g.sp from sp];exact w.spot.2.1,fun e a z=>(w.spot.2.2 e a z).trans sp.symm⟩,
  fun c ts e=>(w.self c ts e).mono' (q.k w) (fun a n z=>⟨z,fun o e=>p.keep a o e n⟩) p.sa⟩
theorem Bd {e:Expr}{pq:PE}{K:PK T}{Q:Value→Shared→Prop}(h:am P B C e pq (RV P))(X:At P B C n A env g ρ σ s)(of:du P g s.heap c name t a)(hb:pq (P.cx n) ρ ⟨σ.spot,none⟩ (fun v σ'=>K v ⟨σ'.spot,σ.self⟩)≠.bad)
  (hq:∀x s' g' v σ',pq (P.cx n) ρ ⟨σ.spot,none⟩ (fun v σ'=>K v ⟨σ'.spot,σ.self⟩)=K v σ'→aC g s g' s'→bp P g' s'.heap σ'→σ'.self=σ.self→du P g' s'.heap c name t a→Rp P g' s'.heap v x→Q x s'):wpAny P.M A (eval e env) Q E s:=
 h n A env g.bor ρ ⟨σ.spot,none⟩ s _ Q E X.bor hb fun x s' g' v σ' e p w r=>
  have ⟨p',w'⟩:=qN X.g p w
  hq x s' {g' with Z:=g.Z} v ⟨σ'.spot,σ.self⟩ e p' w' rfl (of.keep (p'.k X.g) p'.sa fun a n z=>⟨z,fun o e=>p.keep a o e n⟩) (Rp.mono (g:=g') (h:=s'.heap) (g':={g' with Z:=g.Z}) ⟨fun _ f=>⟨f,fun _ e=>e⟩,rfl⟩ r)
theorem lV {Q:Value→Shared→Prop}(O:bo P c ms)(hn:(bQ c)[i]?=some name)(ht:B.tab[0]?=some (some (y,kd)))(X:At P B C n A env g ρ σ s)(hs:dy c i ρ σ=some t)(hq:∀a,du P g s.heap c name t a→Q (.ref a) {s with toks:=s.toks+1}):wpAny P.M A (eval (.Attribute (.Name y np) name pos) env) Q E s:=by
 obtain ⟨v,va,q⟩:=X.env.var 0 _ _ ht (lc hs).1
 cases q.self
 obtain ⟨a,o⟩:=vg X.g hn hs
 obtain ⟨dx,m,ih,e,_⟩:=id o
 exact sx rfl (fun _ _=>rfl) (bi X ht va (jM O (List.mem_of_getElem? hn) X.g.bs ih e rfl (hq a o)))
theorem am.fld (O:bo P c ms)(hn:(bQ c)[i]?=some name)(ht:B.tab[0]?=some (some (y,kd))):am P B C (.Attribute (.Name y np) name pos) (oA c i) (RY P):=fun n A env g ρ σ s k Q E X hb hq=>by
 obtain ⟨t,e⟩:=bS hb
 exact lV O hn ht X e fun a o=>hq _ _ g t σ (by rw [oA,e];rfl) (.toks g s _) X.g o.y
theorem am.f2 {ie:Expr}{pq:PE}{F:T→T→Option T}(O:bo P c ms)(hn:(bQ c)[i]?=some name)(ht:B.tab[0]?=some (some (y,kd)))(o:pE P (xE P (.Attribute (.Name y np) name apos) ie) F (RV P))(h:am P B C ie pq (RV P)):am P B C (.Subscript (.Attribute (.Name y np) name apos) ie pos) (AG c i F pq) (RV P):=fun n A env g ρ σ s k Q E X hb hq=>by
 unfold AG at hb hq
 cases e0:dy c i ρ σ with
 |none=>rw [e0] at hb;exact absurd rfl hb
 |some t=>
  rw [e0] at hb hq
  refine Subscript_ (lV O hn ht X e0 fun a of=>Bd (K:=fun v σ=>up (F t v) σ k) h (X.post (.toks g s _) X.g) of hb fun x s' g' v σ' e p w hσ of' r=>?_)
  obtain ⟨u,e'⟩:=bS fun q=>hb (e.trans q)
  exact o A env g' σ' s' _ x t v u Q E X.rm w of'.y (.inl r) e' fun z s'' g'' p' w' r'=>hq z s'' g'' u σ' (e.trans (by rw [e'];rfl)) ((aC.toks g s _).trans (p.trans p')) w' r'
theorem aF.fap {e:Expr}{ap' cpos:Pos}{pe:PE}(O:bo P c ms)(hn:(bQ c)[i]?=some name)(ht:B.tab[0]?=some (some (y,kd)))(hbase:∀env,attributeBase (.Attribute (.Name y np) name ap') (ofString "append") env (eval (.Attribute (.Name y np) name ap') env)=eval (.Attribute (.Name y np) name ap') env)(hline:(apos.endLine==cpos.line)=true)
  (htrees:∀env,backTo cpos (starEach [e] env)=[(false,eval e env)])(hw:∀env,swapsWith (.Call (.Attribute (.Attribute (.Name y np) name ap') (ofString "append") apos) [e] [] cpos) none pos.line env=pure false)(h:am P B C e pe (RV P)):
  aF P B C fr C (.Expr (.Call (.Attribute (.Attribute (.Name y np) name ap') (ofString "append") apos) [e] [] cpos) pos) (qf c i pe):=fun n A env g ρ σ s k Q E X hb hq hr=>by
 show wpAny P.M A (exec _ env) Q E s
 rw [exec_Expr env _ pos (by simp [interactive,X.fn]) (hw env)]
 unfold qf at hb hq
 cases e0:dy c i ρ σ with
 |none=>rw [e0] at hb;exact absurd rfl hb
 |some t=>
  rw [e0] at hb hq
  have hk:=jZ hb
  simp only [hk,cond_true] at hb hq
  refine wpAny_bind (wpAny_standAt (wpAny_bind (lJ lS hbase hline htrees (lV O hn ht X e0 fun a of=>⟨s9 of.y hk,Bd (K:=fun v σ=>up (dK t v) σ fun y σ=>k ρ (σ.fld i y)) h (X.post (.toks g s _) X.g) of hb fun x s' g' v σ' e p w hσ of' r=>?_⟩))))
  obtain ⟨u,e'⟩:=bS fun q=>hb (e.trans q)
  refine jO A g' σ' s' a x t v u _ _ X.rm w of'.o r e' fun h' tk hs hy=>wpAny_dropValue ?_
  obtain ⟨pS,wS⟩:=tm w (k9 hσ e0) hn of' hs hy tk
  have pA:=(aC.toks g s _).trans (p.trans pS)
  exact hq _ _ ρ _ (e.trans (by rw [e'];rfl)) pA.toS (X.post pA wS)
theorem aF.fput {ie e:Expr}{ps:Pos}{pq pe:PE}(O:bo P c ms)(hn:(bQ c)[i]?=some name)(ht:B.tab[0]?=some (some (y,kd)))(hw:∀env,swapsWith e (some (.Subscript (.Attribute (.Name y np) name apos) ie ps)) pos.line env=pure false)(h2:am P B C ie pq (RV P))(h3:am P B C e pe (RV P)):
  aF P B C fr C (.Assign [.Subscript (.Attribute (.Name y np) name apos) ie ps] e pos) (qe c i pq pe):=fun n A env g ρ σ s k Q E X hb hq hr=>by
 refine wpAny_Assign_Subscript (h3 n A env g ρ σ s _ _ E X hb fun z s₁ g₁ v σ₁ e₁ p₁ w₁ r₁=>?_) (hw env)
 have X₁:=X.post p₁ w₁
 have hb₁:=fun q=>hb (e₁.trans q)
 have e₁:qe c i pq pe (P.cx n) ρ σ k=_:=e₁
 cases e0:dy c i ρ σ₁ with
 |none=>simp only [e0] at hb₁;exact (hb₁ trivial).elim
 |some t=>
  simp only [e0] at hb₁ e₁
  refine lV O hn ht X₁ e0 fun a of=>Bd (K:=fun κ σ=>up (dP t κ v) σ fun y σ=>k ρ (σ.fld i y)) h2 (X₁.post (.toks g₁ s₁ _) w₁) of hb₁ fun x s' g' κ σ' e p w hσ of' r=>?_
  obtain ⟨u,e'⟩:=bS fun q=>hb₁ (e.trans q)
  have p₂:=(aC.toks g₁ s₁ _).trans p
  refine sR A g' σ' s' a x z t κ v u _ _ X.rm w of'.o (.inl r) (Rp.mono (p₂.k w₁) r₁) e' fun h' tk hs hy=>?_
  obtain ⟨pS,wS⟩:=tm w (k9 hσ e0) hn of' hs hy tk
  have pA:=p₁.trans (p₂.trans pS)
  exact hq _ _ ρ _ (e₁.trans (e.trans (by rw [e'];rfl))) pA.toS (X.post pA wS)
end
section
variable {P:Pg} {B Bc:bx} {C C' Ci:Ct} {fr:Bool} {n c i j:Nat} {A:Around} {env:Env} {g g' g₂:Gh} {ρ:aH} {σ σ' σ₂:Sg} {s s' s₂:Shared} {h h':Heap} {t:T} {x:Value} {ms:List (Str×Nat)} {name y:Str} {kd:NameKind} {m:Str→Option Value} {dx a:Addr} {us:List Value} {E:Value→Shared→Prop} {ts:List T} {np apos pos:Pos}
theorem sw {Q:Unit→Shared→Prop}(O:bo P c ms)(hn:name∈bQ c)(w:bp P g s.heap σ)(z:g.Z a)(ih:dB P s.heap c m dx a)(k:q6 c m us)(hq:∀h' tk,dB P h' c (fun y=>if y=name then some x else m y) dx a→(∀b o,b≠dx→s.heap.get? b=some o→h'.get? b=some o)→Q () {s with heap:=h',toks:=tk}):wpAny P.M A (setAttr (.ref a) name x) Q E s:=by
 obtain ⟨N,mN,K,g1,g2,g3,g4,g5⟩:=O
 obtain ⟨nm,q,bs',sn,sub,col,dd,k0,k1,k2,k3,k5,hC⟩:=K.obj
 have hxC:a≠P.cls c:=fun q=>(w.Z a z).2 (q▸(w.base _ _ hC).1)
 obtain ⟨o,e,ko,nn,ne⟩:=id ih
 refine store_attr (h:=s.heap) (ns:=bQ c) PySem.F.store_object (w.bs _ _ hC) (K.keeps w.bs).ns g3 (g4 name hn).1 (g4 name hn).2 hxC ih.inst (fun h₃ tk' I' hk hsame=>?_) (fun y hy=>?_) ?_
 ·obtain ⟨o₁,z1,z2,z3,z4,z5⟩:=hsame o e
  have hd:=z5 dx ko.dict
  have:o₁=o:=by
   have kd:=ko.dict
   obtain ⟨c1,c2,c3,c4⟩:=o₁
   obtain ⟨d1,d2,d3,d4⟩:=o
   simp only at z2 z3 z4 hd kd
   rw [z2,z3,z4,hd,kd]
  subst this
  obtain ⟨o',y1,_,_,y4⟩:=I'
  rw [z1] at y1;cases y1
  rcases y4 with ⟨q,_⟩ | ⟨dz,q,_,n'⟩
  ·rw [hd] at q;cases q
  ·rw [hd] at q;cases q
   refine hq h₃ tk' ⟨o₁,z1,ko,n',ne⟩ fun b o' nb e'=>?_
   by_cases hba:b=a
   ·subst hba;rw [e] at e';cases e';exact z1
   ·exact hk b o' hba (fun o₀ d₀ e₀ ed=>by rw [e] at e₀;cases e₀;rw [hd] at ed;cases ed;exact nb) e'
 ·by_cases q:y∈bQ c
  ·exact q
  ·exact (hy (k.no y q)).elim
 ·unfold bQ;split<;>decide
theorem zx (c:Nat):(bQ c).Nodup:=by unfold bQ;split<;>decide
theorem pO {α β:Type}{us:List α}{ts:List β}{x u:α}{t v:β}{j:Nat}(l:us.length=ts.length)(h1:(us++[x])[j]?=some u)(h2:(ts++[t])[j]?=some v):(us[j]?=some u∧ts[j]?=some v)∨(j=ts.length∧u=x∧v=t):=by
 by_cases q:j < us.length
 ·rw [List.getElem?_append_left q] at h1
  rw [List.getElem?_append_left (l▸q)] at h2
  exact .inl ⟨h1,h2⟩
 ·have q:=Nat.not_lt.mp q
  rw [List.getElem?_append_right q] at h1
  rw [List.getElem?_append_right (l▸q)] at h2
  have e:j - us.length=0:=by
   have:=(List.getElem?_eq_some_iff.mp h1).1
   rw [List.length_singleton] at this;lia -abstractProof
  rw [e] at h1;rw [←l,e] at h2
  cases h1;cases h2
  exact .inr ⟨by lia -abstractProof,rfl,rfl⟩
theorem rB {Z':Addr→Prop}{Q:Unit→Shared→Prop}(O:bo P c ms)(hn:(bQ c)[i]?=some name)(w:bp P g s.heap σ)(es:σ.self=some (c,ts))(hl:ts.length=i)(hZ:∀a,g.Z a→Z' a)(hZ':∀a,Z' a→g.Z a∨(s.heap.get? a≠none∧¬g.F a∧¬g.Z a∧¬g.O a))
  (h0:gz c i=false→Rp P g s.heap t x)(h1:gz c i=true→∃a,x=.ref a∧Z' a∧¬g.Z a∧gN P g s.heap a t)
  (hq:∀h' tk,(∀b o,¬g.Z b→s.heap.get? b=some o→h'.get? b=some o)→(∀b,h'.get? b=none→s.heap.get? b=none)→bp P {g with Z:=Z'} h' (σ.push t)→Q () {s with heap:=h',toks:=tk}):wpAny P.M A (setAttr (.ref g.sa) name x) Q E s:=by
 obtain ⟨dx,m,us,ih,z,z',ne,k,l,sh,ow,nn⟩:=w.self c ts es
 refine sw O (List.mem_of_getElem? hn) w z ih k fun h' tk ih' kp=>?_
 have ld:h'.get? dx≠none:=let ⟨_,_,_,n,_⟩:=ih';let ⟨_,_,_,e,_⟩:=n;an e
 have bk:∀b,h'.get? b=none→s.heap.get? b=none:=fun b e=>by
  cases q:s.heap.get? b with
  |none=>rfl
  |some o=>
   by_cases hb:b=dx
   ·exact (ld (hb▸e)).elim
   ·exact (an (kp b o hb q) e).elim
 have lv:∀b,s.heap.get? b≠none→h'.get? b≠none:=fun b l e=>l (bk b e)
 have kz:∀b,¬g.Z b→∀o,s.heap.get? b=some o→h'.get? b=some o:=fun b q o e=>kp b o (fun e=>q (e▸z')) e
 have kf:aL g s.heap {g with Z:=Z'} h':=⟨fun b f=>⟨f,kz b fun q=>(w.Z b q).2 f⟩,rfl⟩
 refine hq h' tk (fun b o q e=>kz b q o e) bk ⟨fun b o e=>⟨(w.base b o e).1,(kf.F b (w.base b o e).1).2 o (w.base b o e).2⟩,fun b f=>lv b (w.F b f),fun b q=>(hZ' b q).elim (fun q=>⟨lv b (w.Z b q).1,(w.Z b q).2⟩) fun q=>⟨lv b q.1,q.2.1⟩,fun b q=>⟨lv b (w.O b q).1,(w.O b q).2.1,fun q'=>(hZ' b q').elim (w.O b q).2.2 fun e=>e.2.2.2 q⟩,w.oo,
  ⟨let ⟨t,n,e⟩:=w.spot.1;⟨t,n,kp _ _ (Ne.symm ne.1) e⟩,hZ _ w.spot.2.1,fun q=>?_⟩,fun c' ts' e'=>?_⟩
 ·rw [Sg.push,es] at q;cases q
 ·rw [Sg.push,es] at e'
  cases e'
  have new:∀a,x=.ref a→gN P g s.heap a t→¬g.Z a→a≠dx∧a≠g.sa∧a≠g.sp:=fun a _ _ q=>⟨fun e=>q (e▸z'),fun e=>q (e▸z),fun e=>q (e▸w.spot.2.1)⟩
  refine ⟨dx,_,us++[x],ih',hZ _ z,hZ _ z',ne,⟨fun y hy=>?_,fun j y u q1 q2=>?_⟩,by rw [List.length_append,List.length_append,l];rfl,fun j u v q1 q2 q3=>?_,fun j u v q1 q2 q3=>?_,fun i' j a q1 q2 q3 q4=>?_⟩
  ·rw [if_neg fun e:y=name=>hy (e▸List.mem_of_getElem? hn)];exact k.no y hy
  ·have q:j < us.length∨(j=us.length∧u=x):=by
    by_cases q:j < us.length
    ·exact .inl q
    ·rw [List.getElem?_append_right (Nat.not_lt.mp q)] at q1
     have:=(List.getElem?_eq_some_iff.mp q1).1
     rw [List.length_singleton] at this
     rw [show j - us.length=0 by lia -abstractProof] at q1
     exact .inr ⟨by lia -abstractProof,(Option.some.inj q1).symm⟩
   rcases q with q | ⟨q,rfl⟩
   ·rw [if_neg fun e:y=name=>?_]
    ·rw [List.getElem?_append_left q] at q1;exact k.at_ j y u q1 q2
    ·subst e
     have:=(List.getElem?_inj (List.getElem?_eq_some_iff.mp q2).1 (zx c)).mp (q2.trans hn.symm)
     lia -abstractProof
   ·rw [show j=i by lia,hn] at q2
    cases q2;exact if_pos rfl
  ·rcases pO l q1 q2 with ⟨q1,q2⟩ | ⟨q,rfl,rfl⟩
   ·exact (sh j u v q1 q2 q3).mono kf
   ·rw [q,hl] at q3;exact (h0 q3).mono kf
  ·rcases pO l q1 q2 with ⟨q1,q2⟩ | ⟨q,rfl,rfl⟩
   ·obtain ⟨a,e,za,na,r⟩:=ow j u v q1 q2 q3
    exact ⟨a,e,hZ a za,na,r.mono kf fun o e=>kp a o na.1 e⟩
   ·rw [q,hl] at q3
    obtain ⟨a,e,za,na,r⟩:=h1 q3
    have nb:=new a e r na
    exact ⟨a,e,za,nb,r.mono kf fun o e=>kp a o nb.1 e⟩
  ·have get:∀{j:Nat} {u:Value},(us++[x])[j]?=some u→∃v,(ts++[t])[j]?=some v:=fun {j u} q=>by
    have:=(List.getElem?_eq_some_iff.mp q).1
    rw [List.length_append,l] at this
    exact ⟨_,List.getElem?_eq_getElem (l:=ts++[t]) (by rw [List.length_append];exact this)⟩
   obtain ⟨v1,r1⟩:=get q1
   obtain ⟨v2,r2⟩:=get q2
   rcases pO l q1 r1 with ⟨p1,p2⟩ | ⟨p1,p2,p3⟩
   ·rcases pO l q2 r2 with ⟨p3,p4⟩ | ⟨p3,p4,p5⟩
    ·exact nn i' j a p1 p3 q3 q4
    ·rw [p3,hl] at q4
     obtain ⟨b,e,_,nb,_⟩:=h1 q4
     rw [e] at p4;cases p4
     obtain ⟨b',e',zb,_,_⟩:=ow i' _ v1 p1 p2 q3
     cases e';exact (nb zb).elim
   ·rcases pO l q2 r2 with ⟨p4,p5⟩ | ⟨p4,p5,p6⟩
    ·rw [p1,hl] at q3
     obtain ⟨b,e,_,nb,_⟩:=h1 q3
     rw [e] at p2;cases p2
     obtain ⟨b',e',zb,_,_⟩:=ow j _ v2 p4 p5 q4
     cases e';exact (nb zb).elim
    ·rw [p1,p4]
theorem xq (h:Am c i ρ σ=true):bz ρ 0=some .self∧∃ts,σ.self=some (c,ts)∧ts.length=i:=by
 obtain ⟨h1,h2⟩:=Bool.and_eq_true_iff.mp h
 obtain ⟨e0,ts,e1⟩:=oO h1
 rw [e1] at h2
 exact ⟨e0,ts,e1,Nat.eq_of_beq_eq_true h2⟩
theorem aF.saG {e:Expr}{pe:PE}{R:RR Value T}(O:bo P c ms)(hn:(bQ c)[i]?=some name)(ht:B.tab[0]?=some (some (y,kd)))(hw:∀env,swapsWith e (some (.Attribute (.Name y np) name apos)) pos.line env=pure false)(h:am P B C e pe R)
  (hR:∀h g h' t x,R h g h' t x→(∀b,g.Z b→True)→∃N:Addr→Prop,(∀a,N a→h.get? a=none∧h'.get? a≠none∧¬g.F a∧¬g.Z a∧¬g.O a)∧(gz c i=false→Rp P g h' t x)∧(gz c i=true→∃a,x=.ref a∧N a∧gN P g h' a t)):
  aF P B C fr C (.Assign [.Attribute (.Name y np) name apos] e pos) (rN c i pe):=fun n A env g ρ σ s k Q E X hb hq hr=>by
 refine plainObj_wpAny_Assign_Attribute (h n A env g ρ σ s _ _ E X hb fun x s₁ g₁ t σ₁ e₁ p₁ w₁ r₁=>?_) (hw env)
 have X₁:=X.post p₁ w₁
 have ha:=jZ fun q=>hb (e₁.trans q)
 obtain ⟨e0,ts,e2,e3⟩:=xq ha
 obtain ⟨v,va,q⟩:=X₁.env.var 0 _ _ ht e0
 cases q.self
 obtain ⟨N,n1,n2,n3⟩:=hR _ _ _ _ _ r₁ fun _ _=>trivial
 refine bi X₁ ht va (rB (Z':=fun b=>g₁.Z b∨N b) O hn w₁ e2 e3 (fun _=>.inl) (fun b z=>z.imp_right fun q=>(n1 b q).2) n2 (fun q=>let ⟨a,e,na,r⟩:=n3 q;⟨a,e,.inr na,(n1 a na).2.2.2.1,r⟩) fun h' tk kp bk w'=>?_)
 have p₂:aC g s {g₁ with Z:=fun b=>g₁.Z b∨N b} {s₁ with heap:=h',toks:=tk}:=⟨St.trans p₁.st ⟨h',tk,rfl⟩,fun b o e z=>kp b o (fun q=>(p₁.Zn b q).elim z (an e)) (p₁.keep b o e z),fun b e=>p₁.back b (bk b e),p₁.F,p₁.Fn,fun b z=>z.elim (p₁.Zn b) fun q=>.inr (n1 b q).1,p₁.o,p₁.sp,p₁.sa⟩
 exact hq _ _ ρ _ (e₁.trans (by rw [ha])) p₂.toS (X.post p₂ w')
theorem aF.sa {e:Expr}{pe:PE}(O:bo P c ms)(hn:(bQ c)[i]?=some name)(ho:gz c i=false)(ht:B.tab[0]?=some (some (y,kd)))(hw:∀env,swapsWith e (some (.Attribute (.Name y np) name apos)) pos.line env=pure false)(h:am P B C e pe (RV P)):
  aF P B C fr C (.Assign [.Attribute (.Name y np) name apos] e pos) (rN c i pe):=
 .saG O hn ht hw h fun _ _ _ _ _ r _=>⟨fun _=>False,fun _ q=>q.elim,fun _=>r,fun q=>by rw [ho] at q;cases q⟩
theorem aF.saN {e:Expr}{pe:PE}(O:bo P c ms)(hn:(bQ c)[i]?=some name)(ho:gz c i=true)(ht:B.tab[0]?=some (some (y,kd)))(hw:∀env,swapsWith e (some (.Attribute (.Name y np) name apos)) pos.line env=pure false)(h:am P B C e pe (RN P)):
  aF P B C fr C (.Assign [.Attribute (.Name y np) name apos] e pos) (rN c i pe):=
 .saG O hn ht hw h fun _ _ _ _ _ r _=>let ⟨a,e,n,f,z,o,r⟩:=r;⟨fun b=>b=a,fun b q=>by rw [q];exact ⟨n,r.live,f,z,o⟩,(fun q=>by rw [ho] at q;cases q),fun _=>⟨a,e,rfl,r⟩⟩
theorem mQ.own (hh:A.handled=none){I l:Addr}{vs:Array Value}{m:Nat}:mQ P A I ts [I] [l] (fun i g h=>h.IsListIter I l i∧h.get? l=some (bn vs m)∧aP P g h ts vs.toList) where
 self i g s Q E st:=wpAny_pyIter_listiter st.1
 stay i g h g' h' st k ki:=by
  obtain ⟨⟨o,e,r⟩,e',q⟩:=st
  exact ⟨⟨o,ki I List.mem_cons_self o e,r⟩,ki l (List.mem_cons_of_mem _ List.mem_cons_self) _ e',q.mono k⟩
 here i g h st a ha:=by
  obtain ⟨⟨o,e,_⟩,e',_⟩:=st
  rcases List.mem_cons.mp ha with rfl |ha
  ·exact an e
  ·rw [List.mem_singleton.mp ha];exact an e'
 item i t g s Q E hi st hF hq:=by
  obtain ⟨it,e',q⟩:=st
  obtain ⟨u,hu,r⟩:=q.get hi
  have nl:l≠I:=fun q=>by
   obtain ⟨o,e,r,_⟩:=it
   rw [←q,e'] at e;cases e;exact absurd (Value.type.inj r) (by decide)
  refine wpAny_pyNext_list_item it ⟨_,e',rfl,m,rfl⟩ (by rw [←Array.getElem?_toList];exact hu) fun h' it' hs=>?_
  have kf:=rT hs.2 (hF I (List.mem_singleton.mpr rfl))
  exact hq u h' s.toks (gE hs.2) (r.mono kf) ⟨it',(hs.2 l nl).trans e',q.mono kf⟩
 done g s Q E st hq:=by
  obtain ⟨it,e',q⟩:=st
  exact wpAny_pyNext_list_end hh it ⟨_,e',rfl,m,rfl⟩ (Array.getElem?_eq_none (Nat.le_of_eq q.size)) fun h' hs=>hq h' s.toks fun b o e hb=>hs b o (fun q=>hb (List.mem_singleton.mpr q)) e
theorem am.compF {elt target:Expr}{scope:Scope}{xc:Option Str}{pe:PE}(O:bo P c ms)(hn:(bQ c)[j]?=some name)(ht:B.tab[0]?=some (some (y,kd)))(K:dw B Bc scope i xc)(hi:C.U.any (Nat.beq i)=true)(hc:bY C i false Ci=true)(hb:iG P (xI P Bc C Ci target (aJ i) (kS xc)))(hel:am P Bc Ci elt pe (RV P))(hs:∀env x,foldedSetIterable (.Attribute (.Name y np) name apos) env x=pure x):
  am P B C (.ListComp elt [⟨target,.Attribute (.Name y np) name apos,[],0⟩] scope pos) (oB c j (aJ i) pe) (RN P):=fun n A env g ρ σ s k Q E X hbad hq=>by
 unfold oB at hbad hq
 cases e0:o1 (dy c j ρ σ) fR with
 |none=>rw [e0] at hbad;exact absurd rfl hbad
 |some xs=>
  rw [e0] at hbad hq
  obtain ⟨t,e1,e2⟩:=ar e0
  cases d9 e2
  show wpAny P.M A (eval _ env) Q E s
  rw [eval_ListComp]
  refine mc (pi:=fun _ _ σ k=>k xs σ) (g:=g.bor) (σ:=⟨σ.spot,Option.none⟩) (k:=fun v σ'=>k v ⟨σ'.spot,σ.self⟩) K (jj hi) (dC hc).1 (fun k' Q' E' Xb _ hq'=>?_) c8.nil hel hs X.bor hbad fun D L s' g' ys σ' m e p w r hL nL hDL hn=>⟨m,hn,fun h' hsb=>?_⟩
  ·refine lV O hn ht X e1 fun a of=>?_
   obtain ⟨vs,n',ea,la,ra⟩:=of.o
   refine wpAny_pyIter_list (s:={s with toks:=s.toks+1}) ⟨_,ea,rfl,n',rfl⟩ ?_
   obtain ⟨p',w',v⟩:=oK (X:=uo "list_iterator" a) (tk:=s.toks+1) (s₁:={s with toks:=s.toks+1}) Xb.g (.toks g.bor s _)
   obtain ⟨_,_,_,_,za,na,_,_,_⟩:=of
   exact hq' _ g.bor xs _ _ _ [a] _ rfl p' w' (hb.make (mQ.own X.room.2.2)) ⟨⟨_,bD _,rfl,rfl⟩,bN s _ _ _ ea,(ra.mono (Aj g _)).mono ((aC.push (uo "list_iterator" a) 0).k Xb.g)⟩ v (fun b hb=>by rw [List.mem_singleton.mp hb];exact ⟨(X.g.Z a za).2,na,fun q=>(X.g.O a q).2.2 za,fun q=>(X.env.own a q).2.2.1 za⟩) la
  ·obtain ⟨p',w'⟩:=qN X.g p w
   have nz:∀{b},s.heap.get? b=Option.none→¬g.Z b:=fun e z=>(X.g.Z _ z).1 e
   obtain ⟨w'',kf⟩:=w'.scrap ⟨nL.1,nz hL,nL.2.2⟩ hsb.2
   obtain ⟨D',eD,nD,fD,zD,oD,rD⟩:=r
   exact hq _ _ _ _ ⟨σ'.spot,σ.self⟩ e (p'.scrap hL hsb.2) w'' (zE.scrap (g:={g' with Z:=g.Z}) ⟨D',eD,nD,fD,nz nD,oD,gN.mono (g:=g') (h:=s'.heap) (g':={g' with Z:=g.Z}) ⟨fun _ f=>⟨f,fun _ e=>e⟩,rfl⟩ (fun _ e=>e) rD⟩ kf hDL hsb.2)
theorem u6 (w:bp P g h σ):gN P g h g.sp (.lst [.int σ.spot]):=let ⟨t,n,e⟩:=w.spot.1;⟨_,n,e,(show 1≤lim by decide),_,_,rfl,⟨t,rfl⟩,rfl⟩
theorem nO (h:oN ρ i=true):bz ρ i=some .spot:=by
 unfold oN at h
 cases e:bz ρ i with
 |none=>rw [e] at h;cases h
 |some t=>
  rw [e] at h
  cases t<;>first |rfl |cases h
theorem am.spot {kk:Nat}{cp:Pos}(hv:jr C i=true)(ht:B.tab[i]?=some (some (y,kd))):am P B C (.Subscript (.Name y np) (.Constant (.int 0) kk cp) pos) (nG i) (RV P):=fun n A env g ρ σ s k Q E X hb hq=>by
 have h1:=jZ hb
 obtain ⟨u,va,q⟩:=X.env.var i _ _ ht (nO h1)
 obtain rfl:u=.ref g.sp:=iK hv q
 refine Subscript_ (bi X ht va (wpAny_Constant_int (vF (fun _ _=>rfl) A env g σ _ _ _ (.lst [.int σ.spot]) (.int 0) (.int σ.spot) Q E X.rm X.g (.inr ⟨_,rfl,u6 X.g⟩) (.inl ⟨_,rfl⟩) rfl fun x s' g' p w r=>hq x s' g' _ σ (by unfold nG;rw [h1]) ((aC.toks g s _).trans p) w r)))
theorem u5 {v:Int}(w:bp P g s.heap σ)(hs:∀b,b≠g.sp→h'.get? b=s.heap.get? b)(hy:aL g s.heap g h'→gN P g h' g.sp (.lst [.int v]))(tk:Nat):aC g s g {s with heap:=h',toks:=tk}∧bp P g h' ⟨v,σ.self⟩:=by
 have zs:=w.spot.2.1
 have kf:aL g s.heap g h':=⟨fun b f=>⟨f,fun o e=>(hs b fun q=>(w.Z _ zs).2 (q▸f)).trans e⟩,rfl⟩
 obtain ⟨vs,n,e,_,_,_,e1,⟨t,rfl⟩,e2⟩:=hy kf
 obtain rfl:vs=#[.int v t]:=by rw [←Array.toArray_toList (xs:=vs),e1,e2]
 have lv:∀b,s.heap.get? b≠none→h'.get? b≠none:=fun b l=>by
  by_cases q:b=g.sp
  ·exact q▸an e
  ·rw [hs b q];exact l
 refine ⟨⟨⟨h',tk,rfl⟩,fun b o e z=>(hs b fun q=>z (q▸zs)).trans e,fun b e=>?_,fun _ f=>f,fun _ f=>.inl f,fun _ f=>.inl f,rfl,rfl,rfl⟩,fun b o e=>⟨(w.base b o e).1,(kf.F b (w.base b o e).1).2 o (w.base b o e).2⟩,fun b f=>lv b (w.F b f),fun b z=>⟨lv b (w.Z b z).1,(w.Z b z).2⟩,fun b z=>⟨lv b (w.O b z).1,(w.O b z).2⟩,w.oo,⟨⟨t,n,e⟩,w.spot.2⟩,
  fun c ts e=>(w.self c ts e).mono' kf (fun b n z=>⟨z,fun o e=>(hs b n).trans e⟩) rfl⟩
 by_cases q:s.heap.get? b=none
 ·exact q
 ·exact (lv b q e).elim
theorem aF.spot {e:Expr}{kk:Nat}{cp ps:Pos}{pe:PE}(hv:jr C i=true)(ht:B.tab[i]?=some (some (y,kd)))(hw:∀env,swapsWith e (some (.Subscript (.Name y np) (.Constant (.int 0) kk cp) ps)) pos.line env=pure false)(h:am P B C e pe (RV P)):aF P B C fr C (.Assign [.Subscript (.Name y np) (.Constant (.int 0) kk cp) ps] e pos) (iV i pe):=fun n A env g ρ σ s k Q E X hb hq hr=>by
 refine wpAny_Assign_Subscript (h n A env g ρ σ s _ _ E X hb fun z s₁ g₁ v σ₁ e₁ p₁ w₁ r₁=>?_) (hw env)
 have X₁:=X.post p₁ w₁
 have hb₁:=fun q=>hb (e₁.trans q)
 have h1:=jZ hb₁
 obtain ⟨u,va,q⟩:=X₁.env.var i _ _ ht (nO h1)
 obtain rfl:u=.ref g₁.sp:=iK hv q
 cases ev:iH v with
 |none=>simp only [h1,ev,cond_true] at hb₁;exact (hb₁ trivial).elim
 |some m=>
  cases mE ev
  refine bi X₁ ht va (wpAny_Constant_int (vn A g₁ σ₁ _ g₁.sp _ z (.lst [.int σ₁.spot]) (.int 0) (.int m) (.lst [.int m]) _ _ X.rm w₁ (u6 w₁) (.inl ⟨_,rfl⟩) r₁ rfl fun h' tk hs hy=>?_))
  obtain ⟨pS,wS⟩:=u5 (s:=s₁) w₁ hs hy tk
  exact hq _ _ ρ _ (e₁.trans (by rw [h1];rfl)) (p₁.trans pS).toS (X₁.post pS wS)
end
section
variable {P:Pg} {B:bx} {C:Ct}
theorem xK {M:Model}{A:Around}{E:Value→Shared→Prop}{s:Shared}{env:Env}{l m r:Expr}{o1 o2:CmpOp}{pos:Pos}{Q:Value→Shared→Prop}(hm:markedEach [o1,o2] [m,r] (evalEach [m,r] env)=[eval m env,eval r env])
  (h:wpAny M A (eval l env) (fun a s₁=>wpAny M A (eval m env) (fun b s₂=>wpAny M A (compareOp o1 a b) (fun c s₃=>∃t:Bool,c=.bool t∧(t=true→wpAny M A (eval r env) (fun d s₄=>wpAny M A (compareOp o2 b d) Q E s₄) E s₃)∧(t=false→Q (.bool false) s₃)) E s₂) E s₁) E s):
  wpAny M A (eval (.Compare l [o1,o2] [m,r] pos) env) Q E s:=by
 rw [arm_eval_Compare,hm]
 refine wpAny_bind (wpAny_mono h (fun a s₁ h₁=>?_) fun _ _ q=>q)
 show wpAny M A (do
  let rv ←holding [a] (eval m env)
  standAt pos
  let c ←holding [a,rv] (compareOp o1 a rv)
  release [a,rv] [c]
  if ←holding [c,rv] (truthy c) then compareChain pos rv [o2] [eval r env] else pure c) Q E s₁
 refine wpAny_bind (wpAny_holding (wpAny_mono h₁ (fun b s₂ h₂=>wpAny_bind (wpAny_standAt (wpAny_bind (wpAny_holding (wpAny_mono h₂ (fun c s₃ h₃=>?_) fun _ _ q=>q))))) fun _ _ q=>q))
 obtain ⟨t,rfl,h4,h5⟩:=h₃
 refine wpAny_bind (wpAny_release (wpAny_bind (wpAny_holding (wpAny_truthy_bool ?_))))
 cases t with
 |true=>
  rw [if_pos rfl]
  show wpAny M A (do
   let rv ←holding [b] (eval r env)
   standAt pos
   operate [b,rv] (compareOp o2 b rv)) Q E s₃
  exact wpAny_bind (wpAny_holding (wpAny_mono (h4 rfl) (fun d s₄ h₆=>wpAny_bind (wpAny_standAt (wpAny_operate' h₆))) fun _ _ q=>q))
 |false=>rw [if_neg (by simp)];exact wpAny_pure (h5 rfl)
theorem kb {M:Model}{A:Around}{E:Value→Shared→Prop}{s:Shared}{env:Env}{l m r:Expr}{o1 o2:CmpOp}{pos:Pos}{whole:Sem Value}{Q:Bool→Shared→Prop}(hm:markedEach [o1,o2] [m,r] (evalEach [m,r] env)=[eval m env,eval r env])
  (h:wpAny M A (eval l env) (fun a s₁=>wpAny M A (eval m env) (fun b s₂=>wpAny M A (compareOp o1 a b) (fun c s₃=>∃t:Bool,c=.bool t∧(t=true→wpAny M A (eval r env) (fun d s₄=>wpAny M A (compareOp o2 b d) (fun c s₅=>wpAny M A (truthy c) Q E s₅) E s₄) E s₃)∧(t=false→Q false s₃)) E s₂) E s₁) E s):
  wpAny M A (isTrue (.Compare l [o1,o2] [m,r] pos) env whole) Q E s:=by
 show wpAny M A (do testChain pos (←eval l env) [o1,o2] (markedEach [o1,o2] [m,r] (evalEach [m,r] env))) Q E s
 rw [hm]
 refine wpAny_bind (wpAny_mono h (fun a s₁ h₁=>?_) fun _ _ q=>q)
 show wpAny M A (do
  let rv ←holding [a] (eval m env)
  standAt pos
  let c ←holding [a,rv] (compareOp o1 a rv)
  release [a,rv] [c]
  if ←holding [c,rv] (truthy c) then testChain pos rv [o2] [eval r env] else pure false) Q E s₁
 refine wpAny_bind (wpAny_holding (wpAny_mono h₁ (fun b s₂ h₂=>wpAny_bind (wpAny_standAt (wpAny_bind (wpAny_holding (wpAny_mono h₂ (fun c s₃ h₃=>?_) fun _ _ q=>q))))) fun _ _ q=>q))
 obtain ⟨t,rfl,h4,h5⟩:=h₃
 refine wpAny_bind (wpAny_release (wpAny_bind (wpAny_holding (wpAny_truthy_bool ?_))))
 cases t with
 |true=>
  rw [if_pos rfl]
  show wpAny M A (do
   let rv ←holding [b] (eval r env)
   standAt pos
   let c ←operate [b,rv] (compareOp o2 b rv)
   holding [c] (truthy c)) Q E s₃
  exact wpAny_bind (wpAny_holding (wpAny_mono (h4 rfl) (fun d s₄ h₆=>wpAny_bind (wpAny_standAt (wpAny_bind (wpAny_operate' (wpAny_mono h₆ (fun c s₅ h₇=>wpAny_holding h₇) fun _ _ q=>q))))) fun _ _ q=>q))
 |false=>rw [if_neg (by simp)];exact wpAny_pure (h5 rfl)
noncomputable abbrev BB (P:Pg)(l m r:Expr)(o1 o2:CmpOp):WP Bool:=fun A env Q E s=>wpAny P.M A (eval l env) (fun a s₁=>wpAny P.M A (eval m env) (fun b s₂=>wpAny P.M A (compareOp o1 a b) (fun c s₃=>∃t:Bool,c=.bool t∧(t=true→wpAny P.M A (eval r env) (fun d s₄=>wpAny P.M A (compareOp o2 b d) (fun v s₅=>∃u:Bool,v=.bool u∧Q u s₅) E s₄) E s₃)∧(t=false→Q false s₃)) E s₂) E s₁) E s
theorem chain {l m r:Expr}{o1 o2:CmpOp}{pl pm pr:PE}{F G:T→T→Option Bool}(k1:jm P o1 F)(k2:jm P o2 G)(hl:am P B C l pl (RX P))(hm:am P B C m pm (RX P))(hr:am P B C r pr (RX P)):cX P B C (BB P l m r o1 o2) (lG F G pl pm pr) RQ:=
 hl.bind (N:=fun A env a Q E s₁=>wpAny P.M A (eval m env) (fun b s₂=>wpAny P.M A (compareOp o1 a b) (fun c s₃=>∃t:Bool,c=.bool t∧(t=true→wpAny P.M A (eval r env) (fun d s₄=>wpAny P.M A (compareOp o2 b d) (fun v s₅=>∃u:Bool,v=.bool u∧Q u s₅) E s₄) E s₃)∧(t=false→Q false s₃)) E s₂) E s₁)
  (F:=fun c ρ k a σ=>pm c ρ σ fun b σ=>match F a b with |some true=>pr c ρ σ fun x σ=>up (G b x) σ k |some false=>k false σ |none=>.bad) BL fun n A env g g₁ ρ σ s s₁ x t k Q E p X r₁ hb hq=>hm n A env g₁ ρ σ s₁ _ _ E X hb fun y s₂ g₂ u σ₂ e₂ p₂ w₂ r₂=>by
  have hb₂:=fun q=>hb (e₂.trans q)
  have rx:=jQ.post X.g p₂ r₁
  cases ht:F t u with
  |none=>simp only [ht] at hb₂;exact (hb₂ trivial).elim
  |some c=>
   refine k1 A g₂ σ₂ s₂ x y t u c _ _ X.rm w₂ rx.y (jQ.y r₂) ht fun tk=>⟨c,rfl,fun q=>?_,fun q=>?_⟩
   ·subst q
    simp only [ht] at hb₂ e₂
    have pt:=aC.toks g₂ s₂ tk
    refine hr n A env g₂ ρ σ₂ {s₂ with toks:=tk} _ _ E ((X.post p₂ w₂).post pt w₂) hb₂ fun z s₃ g₃ v σ₃ e₃ p₃ w₃ r₃=>?_
    obtain ⟨b,e'⟩:=bS fun q=>hb₂ (e₃.trans q)
    exact k2 A g₃ σ₃ s₃ y z u v b _ _ X.rm w₃ (jQ.post (s:={s₂ with toks:=tk}) w₂ p₃ r₂).y (jQ.y r₃) e' fun tk'=>⟨b,rfl,hq b _ g₃ b σ₃ (e₂.trans (e₃.trans (by rw [e'];rfl))) ((p₂.trans pt).trans (p₃.trans (.toks _ _ _))) w₃ rfl⟩
   ·subst q
    simp only [ht] at e₂
    exact hq false _ g₂ false σ₂ e₂ (p₂.trans (.toks _ _ _)) w₂ rfl
theorem cb.cmp2 {l m r:Expr}{o1 o2:CmpOp}{pos:Pos}{pl pm pr:PE}{F G:T→T→Option Bool}(k1:jm P o1 F)(k2:jm P o2 G)(hM:∀env,markedEach [o1,o2] [m,r] (evalEach [m,r] env)=[eval m env,eval r env])(hl:am P B C l pl (RX P))(hm:am P B C m pm (RX P))(hr:am P B C r pr (RX P)):cb P B C (.Compare l [o1,o2] [m,r] pos) (lG F G pl pm pr):=
 (chain k1 k2 hl hm hr).map fun A env Q E s h=>kb (hM env) (wpAny_mono h (fun a s₁ h=>wpAny_mono h (fun b s₂ h=>wpAny_mono h (fun c s₃ ⟨t,e,h1,h2⟩=>⟨t,e,fun q=>wpAny_mono (h1 q) (fun d s₄ h=>wpAny_mono h (fun v s₅ ⟨u,e,h⟩=>by rw [e];exact wpAny_truthy_bool h) fun _ _ q=>q) fun _ _ q=>q,h2⟩) fun _ _ q=>q) fun _ _ q=>q) fun _ _ q=>q)
theorem am.cmp2 {l m r:Expr}{o1 o2:CmpOp}{pos:Pos}{pl pm pr:PE}{F G:T→T→Option Bool}(k1:jm P o1 F)(k2:jm P o2 G)(hM:∀env,markedEach [o1,o2] [m,r] (evalEach [m,r] env)=[eval m env,eval r env])(hl:am P B C l pl (RX P))(hm:am P B C m pm (RX P))(hr:am P B C r pr (RX P)):am P B C (.Compare l [o1,o2] [m,r] pos) (pB (lG F G pl pm pr)) (RV P):=
 ((chain k1 k2 hl hm hr).bind (N:=fun A env b Q E s=>Q (.bool b) s) (F:=fun _ _ k b σ=>k (.bool b) σ) j2 fun n A env g g₁ ρ σ s s₁ x t k Q E p X r hb hq=>hq _ s₁ g₁ _ σ rfl (.refl _ _) X.g (by cases r;rfl)).map fun A env Q E s h=>xK (hM env) (wpAny_mono h (fun a s₁ h=>wpAny_mono h (fun b s₂ h=>wpAny_mono h (fun c s₃ ⟨t,e,h1,h2⟩=>⟨t,e,fun q=>wpAny_mono (h1 q) (fun d s₄ h=>wpAny_mono h (fun v s₅ ⟨u,e,h⟩=>by rw [e];exact h) fun _ _ q=>q) fun _ _ q=>q,h2⟩) fun _ _ q=>q) fun _ _ q=>q) fun _ _ q=>q)
end
structure gX where
 i:Nat
 x:Str
 k:NameKind
 p:Pos
noncomputable def gX.e (z:gX):Expr:=.Name z.x z.p
noncomputable def zW (B:bx)(C:Ct)(zs:List gX):Bool:=zs.all fun z=>(B.tab[z.i]?==some (some (z.x,z.k)))&&((z.k==.local||z.k==.cell)&&bY C z.i false C)
structure gX.ok (B:bx) (C:Ct) (z:gX):Prop where
 t:B.tab[z.i]?=some (some (z.x,z.k))
 k:z.k=.local∨z.k=.cell
 s:bY C z.i false C=true
theorem AO {B:bx}{C:Ct}{zs:List gX}(h:zW B C zs=true)(z:gX)(hz:z∈zs):z.ok B C:=by
 obtain ⟨h1,h2⟩:=Bool.and_eq_true_iff.mp (List.all_eq_true.mp h z hz)
 obtain ⟨h2,h3⟩:=Bool.and_eq_true_iff.mp h2
 exact ⟨eq_of_beq h1,(Bool.or_eq_true_iff.mp h2).imp eq_of_beq eq_of_beq,h3⟩
theorem eV (env:Env):∀zs:List gX,(assignEach (zs.map gX.e) env).map (·.2)=zs.map (fun z=>assign z.e env)∧(assignEach (zs.map gX.e) env).length=zs.length∧(assignEach (zs.map gX.e) env).findIdx? (·.1)=none
 | []=>⟨rfl,rfl,rfl⟩
 |z::zs=>by
  obtain ⟨h1,h2,h3⟩:=eV env zs
  have e:assignEach ((z::zs).map gX.e) env=(false,assign z.e env)::assignEach (zs.map gX.e) env:=rfl
  rw [e]
  refine ⟨by rw [List.map_cons,List.map_cons,h1],by rw [List.length_cons,h2];rfl,?_⟩
  rw [List.findIdx?_cons,h3];rfl
theorem jU:∀{is:List Nat} {ts:List T} {ρ ρ':aH},dD is ts ρ=some ρ'→is.length=ts.length
 | [],[],_,_,_=>rfl
 | [],_::_,_,_,e=>by cases e
 |_::_,[],_,_,e=>by cases e
 |_::is,_::ts,_,_,e=>congrArg (·+1) (jU (is:=is) (ts:=ts) e)
section
variable {P:Pg} {B:bx} {C C':Ct} {fr:Bool} {n:Nat} {A:Around} {env:Env} {g g':Gh} {ρ ρ':aH} {σ:Sg} {s s':Shared} {h h':Heap} {E:Value→Shared→Prop}
theorem jh {Q:Unit→Shared→Prop}:∀(zs:List gX) (ts:List T) (us:List Value) (ρ:aH) (s:Shared),dD (zs.map (·.i)) ts ρ=some ρ'→(∀z∈zs,z.ok B C)→At P B C n A env g ρ σ s→aP P g s.heap ts us→(∀s',bC [] (own env) g s g s'→At P B C n A env g ρ' σ s'→Q () s')→wpAny P.M A (assignInOrder (zs.map (fun z=>assign z.e env)) us) Q E s
 | [],[],us,ρ,s,e,hz,X,r,h=>by
  cases r;cases e
  exact assignInOrder_nil (h s (aC.refl g s).toE X)
 | [],_::_,us,ρ,s,e,hz,X,r,h=>by cases e
 |z::zs,[],us,ρ,s,e,hz,X,r,h=>by cases e
 |z::zs,t::ts,us,ρ,s,e,hz,X,r,h=>by
  obtain ⟨v,vs,rfl,r,rs⟩:=r
  have o:=hz z List.mem_cons_self
  refine assignInOrder_cons (wpAny_assign_Name (gQ X o.s o.t o.k r fun s' p X'=>?_))
  have p:bC [] (own env) g s g s':=p.weak (fun _ h=>h) cM
  exact jh zs ts vs (ρ.set z.i (some t)) s' e (fun w hw=>hz w (List.mem_cons_of_mem _ hw)) X' (rs.mono (p.toS.k X.g fun a ha=>(X.env.own a ha).2.1)) fun s'' p' X''=>h s'' (p.trans p') X''
theorem iD {Q:Unit→Shared→Prop}{zs:List gX}{ts:List T}{us:Array Value}{a:Addr}{m kt:Nat}{pt:Pos}(hz:zW B C zs=true)(e:dD (zs.map (·.i)) ts ρ=some ρ')(X:At P B C n A env g ρ σ s)(ea:s.heap.get? a=some (g8 us m))(rs:aP P g s.heap ts us.toList)
  (h:∀s',bC [] (own env) g s g s'→At P B C n A env g ρ' σ s'→Q () s'):wpAny P.M A (assign (.Tuple (zs.map gX.e) kt pt) env (.ref a)) Q E s:=by
 obtain ⟨h1,h2,h3⟩:=eV env zs
 refine wpAny_assign_Tuple X.room.2.2 ⟨_,ea,rfl,m,rfl⟩ (by rw [h2,←List.length_map (f:=(·.i)),jU e,←rs.length];rfl) h3 fun h' hk=>?_
 have k:∀b o,s.heap.get? b=some o→h'.get? b=some o:=fun b o e=>hk b o (fun q=>an e (q▸aD _)) e
 have p₁:aC g s g {s with heap:=h',toks:=s.toks}:=.grow s.toks k g.F (fun _ f=>f) fun _ f=>.inl f
 rw [h1]
 exact jh zs ts _ ρ _ e (AO hz) (X.post p₁ (X.g.grow k g.F (fun _ f=>f) fun _ f=>.inl f)) (rs.mono (p₁.k X.g)) fun s' p' X'=>h s' (p₁.toE.trans p') X'
theorem nR:∀(xs:List T) (k i:Nat),(j0 k xs)[i]?=(xs[i]?).map fun v=>T.tup [.int ((k+i:Nat):Int),v]
 | [],_,_=>rfl
 |x::xs,k,0=>rfl
 |x::xs,k,i+1=>by
  have:=nR xs (k+1) i
  rw [Nat.add_right_comm] at this
  exact this
theorem fF:∀(xs:List T) (k:Nat),(j0 k xs).length=xs.length
 | [],_=>rfl
 |_::xs,k=>congrArg (·+1) (fF xs (k+1))
noncomputable def xJ (P:Pg)(ts:List T)(e it l:Addr)(vs:Array Value)(m k:Nat)(g:Gh)(h:Heap):Prop:=(∃old,IsEnum h e it k old)∧h.IsListIter it l k∧g.F l∧h.get? l=some (bn vs m)∧aP P g h ts vs.toList
theorem xJ.stay {ts:List T}{e it l:Addr}{vs:Array Value}{m k:Nat}(st:xJ P ts e it l vs m k g h)(kf:aL g h g' h')(ki:∀a∈[e,it],∀o,h.get? a=some o→h'.get? a=some o):xJ P ts e it l vs m k g' h':=by
 obtain ⟨⟨old,h1⟩,⟨o,h2,h3⟩,f,e',q⟩:=st
 exact ⟨⟨old,ki e List.mem_cons_self _ h1⟩,⟨o,ki it (List.mem_cons_of_mem _ List.mem_cons_self) o h2,h3⟩,(kf.F l f).1,(kf.F l f).2 _ e',q.mono kf⟩
theorem j4.enum (hh:A.handled=none){e it l:Addr}{vs:Array Value}{m:Nat}{ts:List T}{z1 z2:gX}{kt:Nat}{pt:Pos}(hz:zW B C [z1,z2]=true)(hei:e≠it):
  j4 P A B C C (.Tuple [z1.e,z2.e] kt pt) (xV z1.i z2.i) own e (j0 0 ts) [e,it] [] (xJ P ts e it l vs m) where
 sub:=fun _ _ h=>h
 stay:=fun k g h g' h' st kf ki=>st.stay kf ki
 here:=fun k g h st b hb=>by
  obtain ⟨⟨old,g1⟩,⟨o,g2,_⟩,_⟩:=st
  rcases List.mem_cons.mp hb with rfl |hb
  ·exact an g1
  ·rw [List.mem_singleton.mp hb];exact an g2
 self:=fun k g s Q E st h=>by
  obtain ⟨⟨old,g1⟩,_⟩:=st
  exact wpAny_pyIter_enum g1 h
 item:=fun k v n env g ρ ρ' σ s Q E hj X hv st hρ hq=>by
  obtain ⟨⟨old,g1⟩,g2,f,b1,b2⟩:=id st
  rw [nR] at hj
  obtain ⟨x,hx,rfl⟩:=Option.map_eq_some_iff.mp hj
  obtain ⟨u,hu,r⟩:=b2.get hx
  refine wpAny_pyNext_enum_item g1 g2 ⟨_,b1,rfl,m,rfl⟩ (by rw [←Array.getElem?_toList];exact hu) hei fun h' ho hit' ht hsz hk=>?_
  refine wpAny_letOwnedTupleGo_enum ho fun h₂ he₂ hs₂=>?_
  have hel:s.heap.objs.size≠e:=fun q=>an g1 (q▸aD _)
  have hk2:∀b o,s.heap.get? b=some o→b∉[e,it]→h₂.get? b=some o:=fun b o e' hb=>(hs₂.2 b fun q=>hb (q▸List.mem_cons_self)).trans (hk b o (fun q=>hb (q▸List.mem_cons_self)) (fun q=>hb (q▸List.mem_cons_of_mem _ List.mem_cons_self)) e')
  obtain ⟨pV,X₁⟩:=dc X hv hk2 (s.toks+1)
  have lve:h₂.get? e≠none:=an he₂
  have lvi:h₂.IsListIter it l (k+1):=let ⟨o,w1,w2⟩:=hit';⟨o,(hs₂.2 it (Ne.symm hei)).trans w1,w2⟩
  have kf:aL g s.heap g h₂:=⟨fun b f=>⟨f,fun o e=>hk2 b o e fun q=>(hv b q).1 f⟩,rfl⟩
  have pV:=dM pV fun b hb=>by
   rcases List.mem_cons.mp hb with rfl |hb
   ·exact lve
   ·rw [List.mem_singleton.mp hb];exact let ⟨_,e,_⟩:=lvi;an e
  have st':xJ P ts e it l vs m (k+1) g h₂:=⟨⟨_,he₂⟩,lvi,f,(kf.F l f).2 _ b1,b2.mono kf⟩
  refine iD (zs:=[z1,z2]) (ts:=[.int ((0+k:Nat):Int),x]) hz hρ X₁ ((hs₂.2 _ hel).trans ht) ⟨_,_,rfl,⟨s.toks,by rw [Nat.zero_add]⟩,_,_,rfl,r.mono kf,rfl⟩ fun s' p' X'=>?_
  exact hq s' ((pV.weak (fun _ h=>h) fun a=>List.mem_append_left _).trans (p'.weak (fun _ h=>h) fun a=>List.mem_append_right _)) X' (st'.stay (p'.toS.k X₁.g fun a ha=>(X₁.env.own a ha).2.1) fun a ha o e=>p'.keep a o e (hv a ha).2.1 (hv a ha).2.2.2)
 done:=fun n env g ρ σ s Q E X hv st hq=>by
  obtain ⟨⟨old,g1⟩,g2,f,b1,b2⟩:=id st
  rw [fF] at g1 g2
  refine wpAny_pyNext_enum_end hh g1 g2 ⟨_,b1,rfl,m,rfl⟩ (Array.getElem?_eq_none (Nat.le_of_eq b2.size)) fun h' hk=>?_
  obtain ⟨pV,X₁⟩:=dc (h':=h') X hv (fun b o e' hb=>hk b o (fun q=>hb (q▸List.mem_cons_of_mem _ List.mem_cons_self)) e') s.toks
  exact hq _ pV X₁
theorem eN.enum {x:Expr}{d:PE}{z1 z2:gX}{kt:Nat}{pt p pos:Pos}(hz:zW B C [z1,z2]=true)(hx:B.sc.names.lookup (ofString "enumerate")=some .globalImplicit)(hn:∀env,starEach [x] env=[(false,eval x env)])(h:am P B C x d (RV P)):
  eN P B C (.Call (.Name (ofString "enumerate") p) [x] [] pos) (xI P B C C (.Tuple [z1.e,z2.e] kt pt) (xV z1.i z2.i) own) (qo d):=fun n A env g ρ σ s k Q E X hb hq=>by
 refine Call_Name rfl (X.blt hx (by decide) (by decide) (v:=.type "enumerate") (by decide) (bq (fun _ q=>by cases q) (bA (by rw [hn env];exact fun q hq=>by cases hq with |head=>rfl |tail _ h=>cases h)) (wpAny_items_cons (h n A env g ρ σ s _ _ E X hb fun x s₁ g₁ t σ₁ e₁ p₁ w₁ r₁=>wpAny_items_nil ?_) (hn env))))
 obtain ⟨ts',e'⟩:=bS fun q=>hb (e₁.trans q)
 obtain ⟨ts,e2,e3⟩:=ar e'
 cases d9 e2
 obtain ⟨l,rfl,f,vs,m,b1,b3,b2⟩:=r₁
 refine call_enumerate_1 b1 fun h' ge gi _ hk=>wpAny_pyIter_enum ge ?_
 have hne:s₁.heap.get? (s₁.heap.objs.size+1)=none:=Heap.get?_none_of_le (Nat.le_succ _)
 have p₂:aC g₁ s₁ g₁ {s₁ with heap:=h',toks:=s₁.toks}:=.grow s₁.toks hk g₁.F (fun _ f=>f) fun _ f=>.inl f
 cases e3
 refine hq _ g₁ _ σ₁ _ [_,s₁.heap.objs.size] [] _ (e₁.trans (by rw [e'];rfl)) (p₁.trans p₂) (w₁.grow hk g₁.F (fun _ f=>f) fun _ f=>.inl f) (j4.enum (l:=l) X.room.2.2 hz (Nat.ne_of_gt (Nat.lt_succ_self _))) ⟨⟨_,ge⟩,gi,f,hk _ _ b1,b2.mono (p₂.k w₁)⟩ (fun b hb=>?_) (fun _ q=>nomatch q) (by rw [fF];exact b3)
 have:s₁.heap.get? b=none:=by
  rcases List.mem_cons.mp hb with rfl |hb
  ·exact hne
  ·rw [List.mem_singleton.mp hb];exact aD _
 exact ⟨p₁.back b this,fun q=>w₁.F b q this,fun q=>(w₁.Z b q).1 this⟩
theorem mQ.str (hh:A.handled=none){I:Addr}{x:Str}{t:Tok}(ha:x.cps.all (· < 128)=true):mQ P A I (x.cps.toList.map fun c=>T.str ⟨#[c]⟩) [I] [] (fun i _ h=>h.IsStrIter I "str_ascii_iterator" x t i) where
 self i g s Q E st:=wpAny_pyIter_striter_ascii st
 stay i g h g' h' st k ki:=let ⟨o,e,r⟩:=st;⟨o,ki I (List.mem_singleton.mpr rfl) o e,r⟩
 here i g h st a ha:=by
  obtain ⟨o,e,_⟩:=st
  rw [List.mem_singleton.mp ha];exact an e
 item i t g s Q E hi st hF hq:=by
  rw [List.getElem?_map] at hi
  obtain ⟨c,hc',rfl⟩:=Option.map_eq_some_iff.mp hi
  have hcx:x.cps[i]?=some c:=by rw [←Array.getElem?_toList];exact hc'
  refine wpAny_pyNext_ascii_item st hcx fun h' hit hs=>?_
  refine hq _ h' _ (gE hs.2) ⟨⟨?_,(show 1≤lim by decide)⟩,_,rfl⟩ hit
  have hlt:c < 128:=by
   have:=Array.all_eq_true_iff_forall_mem.mp ha c (Array.mem_of_getElem? hcx)
   simpa using this
  simp [PyData.strOk]
  lia -abstractProof
 done g s Q E st hq:=wpAny_pyNext_ascii_end hh st (by rw [List.length_map];exact Array.getElem?_eq_none (Nat.le_refl _)) fun h' hs=>hq h' s.toks fun b o e hb=>hs b o (fun q=>hb (List.mem_singleton.mpr q)) e
theorem eN.str {e:Expr}{p:PE}{mk:Around→Addr→List T→List Addr→List Addr→(Nat→Gh→Heap→Prop)→Prop}(hb:iG P mk)(h:am P B C e p (RV P)):eN P B C e mk (p1 zq p):=fun n A env g ρ σ s k Q E X hbad hq=>
 h n A env g ρ σ s (fun t σ=>up (zq t) σ k) _ E X hbad fun x s₁ g₁ t σ₁ e p w r=>by
  obtain ⟨ts,e'⟩:=bS fun q=>hbad (e.trans q)
  obtain ⟨y,e1,e2⟩:=ar e'
  obtain ⟨ha,e2⟩:=cr e2
  obtain ⟨⟨_,l⟩,u,rfl⟩:=eO.s (.inl r) e1
  refine wpAny_pyIter_ascii ha ?_
  obtain ⟨p',w',v⟩:=oK (X:={cls:=.type "str_ascii_iterator",data:=.fields #[.str y u,.int 0 0]}) (tk:=s₁.toks) w p
  exact hq _ g₁ ts σ₁ _ _ [] _ (e.trans (by rw [e'];rfl)) p' w' (e2▸hb.make (mQ.str X.room.2.2 ha)) ⟨_,bD _,rfl,rfl⟩ v (fun _ q=>nomatch q) (by rw [←e2,List.length_map];exact l)
theorem Bp:jm P .In Dk:=fun A g σ s x x' t t' b Q E rm w q q' e k=>by
 obtain ⟨y,z,e1,e2,e3⟩:=aV e
 cases e3
 obtain ⟨_,u,rfl⟩:=q.s e1
 obtain ⟨_,v,rfl⟩:=q'.s e2
 exact PySem.P.in_str (k s.toks)
end
end
end Mine
namespace Mine
noncomputable section
open PySem PySem.W PyProof.Rows PySem.SeqAt
theorem fK:entryFor table "dict.update.loop"=some Builtin.«dict.update.loop»:=entryFor_of_tree (by kernel_rfl)
theorem cB:plainId "dict.update.loop"=true:=by decide+kernel
theorem uh:typeLookup (.type "list") "keys"=pure none:=by rw [typeLookup_type,builtinLookup_eq_fast];kernel_rfl
section
variable {prog:Program} {w:World} {A:Around} {E:Value→Shared→Prop} {s:Shared}
set_option maxRecDepth 100000 in
theorem uj {a:Addr}{xs:Array Value}{k:Nat}{Q:Option Value→Shared→Prop}(hx:s.heap.get? a=some {cls:=.type "list",dict:=none,data:=.seq xs k,slots:=#[]})(hA:A.handled=none)
  (h:∀h' tk,(∀b o,s.heap.get? b=some o→h'.get? b=some o)→Q none {s with heap:=h',toks:=tk}):wpAny (model prog w) A (getAttr? (.ref a) "keys") Q E s:=by
 obtain ⟨hp,g,d,tk,os⟩:=s
 have hT:∀tk',(⟨hp,g,d,tk',os⟩:Shared).TypeIs (.ref a) "list":=fun _=>⟨_,hx,rfl⟩
 have f1:=sub_AttributeError
 have f3:=F.slot_list_getattribute.lookup
 have f4:=F.slot_list_getattribute.bind (.ref a)
 have f5:=am_list_getattr_none
 unfold getAttr? getAttrBy? getAttrBy
 repeat (any_goals (first |assumption |exact hT _ | ((with_reducible show wpAny _ _ (call (Value.builtin "list.__getattribute__") _ _) _ _ _);refine call_meets F.slot_list_getattribute (hT _) am_entry_list_getattribute (F.args_list_getattribute_2 _ _) (meets_getattribute_miss_list a xs k #[] "keys" _ uh (by decide) (by size_fits)) ⟨hx,hA,fun h' tk' e hx'=>?_⟩) |wp_step))
 obtain ⟨t',u',he⟩:=hx'.there
 show wpAny _ _ (getattributeRaised _ _ _ _ _ _ _) _ _ _
 unfold getattributeRaised
 repeat (any_goals (first |assumption |wp_step))
 exact h _ _ hx'.keeps
theorem rM {a:Addr}{vs:Array Value}{n:Nat}{Q:List Value→Shared→Prop}(hx:s.heap.get? a=some {cls:=.type "tuple",dict:=none,data:=.seq vs n,slots:=#[]})(h:Q vs.toList s):wpAny (model prog w) A (Builtin.Dict.pairItems (.ref a)) Q E s:=by
 have hT:s.TypeIs (.ref a) "tuple":=⟨_,hx,rfl⟩
 unfold Builtin.Dict.pairItems
 refine wpAny_bind (wpAny_typeOf hT ?_)
 rw [if_pos (by decide)]
 refine wpAny_bind (wpAny_seqItems hx rfl (wpAny_pure ?_))
 exact h
end
noncomputable abbrev l7 (es:List iI)(xs:List iI):List iI:=es.foldl (fun xs e=>storedH xs e.1 e.2.1 e.2.2) xs
section
variable {prog:Program} {w:World} {A:Around} {s:Shared} {knd:HeapKind prog w Ky}
theorem pN (xs:List iI)(κ:Ky)(a:Addr)(v:Value):(storedH xs κ a v).length≤xs.length+1:=by
 unfold storedH;split
 ·rw [List.length_map];lia -abstractProof
 ·rw [List.length_append];exact Nat.le_refl _
theorem tc {h h':Heap}{κ:Ky}{a:Addr}(k:∀b o,h.get? b=some o→h'.get? b=some o)(i:(bH prog w).is h κ a):(bH prog w).is h' κ a:=let ⟨d,e,x⟩:=i;⟨d,e,cW.keeps (fun _ _ _ e=>k _ _ e) d 6 _ x⟩
theorem rA {xs:List iI}{e x:iI}{p:Ky→Addr→Prop}(h:∀x∈xs,p x.1 x.2.1)(he:p e.1 e.2.1)(hx:x∈storedH xs e.1 e.2.1 e.2.2):p x.1 x.2.1:=by
 unfold storedH at hx
 split at hx
 ·obtain ⟨y,hy,rfl⟩:=List.mem_map.mp hx
  unfold putAt;split<;>exact h y hy
 ·rcases List.mem_append.mp hx with hx |hx
  ·exact h x hx
  ·rw [List.mem_singleton.mp hx];exact he
theorem sF {n i k:Nat}(h:n - i=k+1):n - (i+1)=k:=by rw [Nat.sub_add_eq,h];rfl
inductive Er (prog:Program) (w:World) (h:Heap) (o:Option iI) (v:Value):Prop
 |mk (a:Addr) (e:iI) (us:Array Value) (m:Nat) (hv:v=.ref a) (he:o=some e) (hg:h.get? a=some ⟨.type "tuple",none,.seq us m,#[]⟩) (hu:us.toList=[.ref e.2.1,e.2.2]) (hk:(bH prog w).is h e.1 e.2.1)
theorem uz {R:Result→Shared→Prop}{I:Addr}{fp wr:List Addr}{G:Array GenState→Array GenState→Prop}{n:Nat}{Pp:Nat→Value→Prop}{St:Nat→Shared→Prop}(hu:A.units+50 < cLine)(W:WalksS prog w A.in1 I fp wr G n Pp St)(S:Addr)(hSf:S∉fp)(h₀:Heap)(es:List iI)(hn:es.length=n)(hnl:n≤lim)
  (hval:∀i v,Pp i v→Er prog w h₀ es[i]? v)(hS0:h₀.get? S=none)(hw0:∀b∈wr,h₀.get? b=none):
  ∀(k i:Nat) (s:Shared) (xs:List iI),n - i=k→i≤n→xs.length≤i→St i s→s.heap.DictOfH (bH prog w) S xs→(∀x∈xs,(bH prog w).is h₀ x.1 x.2.1)→(∀b o,h₀.get? b=some o→s.heap.get? b=some o)→
   (∀s',Moved (S::wr) G s s'→s'.heap.DictOfH (bH prog w) S (l7 (es.drop i) xs)→R (.ok (.ret .none)) s')→
   codeAny (model prog w) A (.builtin "dict.update.loop" ⟨[.ref S,.ref I,rawInt i,.none],[]⟩) R s:=by
 have hSw:S∉wr:=fun h=>hSf (W.sub _ h)
 have hsub:∀b∈wr,b∈S::wr:=fun b hb=>List.mem_cons_of_mem _ hb
 have kp:∀{s s':Shared},Moved wr G s s'→(∀b o,h₀.get? b=some o→s.heap.get? b=some o)→∀b o,h₀.get? b=some o→s'.heap.get? b=some o:=fun hm hkp b o e=>hm.heap b o (fun hb=>by rw [hw0 b hb] at e;cases e) (hkp b o e)
 have dm:∀{xs:List iI} {s s':Shared},Moved wr G s s'→(∀b o,h₀.get? b=some o→s.heap.get? b=some o)→(∀x∈xs,(bH prog w).is h₀ x.1 x.2.1)→s.heap.DictOfH (bH prog w) S xs→s'.heap.DictOfH (bH prog w) S xs:=fun hm hkp hx d=>by
  obtain ⟨o,es,ep,h1,h2,h3,h4,h5,h6⟩:=d
  exact ⟨o,es,ep,hm.heap S _ hSw h1,h2,h3,h4,fun x hx'=>tc (kp hm hkp) (hx x hx'),h6⟩
 intro k
 induction k with
 |zero=>
  intro i s xs hk hi hxl hst hS hxs hkp hR
  obtain rfl:i=n:=Nat.le_antisymm hi (Nat.le_of_sub_eq_zero hk)
  rw [List.drop_of_length_le (by lia -abstractProof)] at hR
  refine codeAny_builtin fK ?_
  rw [Around.under_plainId cB _]
  show wpAny _ A.in1 (pyNext (.ref I) >>=_) _ _ s
  refine wpAny_bind (W.done s _ _ hst fun s' hm=>?_)
  show wpAny _ A.in1 (Builtin.Dict.addKeywords S [] >>=fun _=>ret Value.none) _ _ s'
  refine wpAny_bind (wpAny_pure ?_)
  exact wpAny_pure (hR s' (hm.mono hsub) (dm hm hkp hxs hS))
 |succ k ih=>
  intro i s xs hk hi hxl hst hS hxs hkp hR
  have hlt:i < n:=Nat.lt_of_sub_eq_succ hk
  refine codeAny_builtin fK ?_
  rw [Around.under_plainId cB _]
  show wpAny _ A.in1 (pyNext (.ref I) >>=_) _ _ s
  refine wpAny_bind (W.item i s _ _ hlt hst fun v s' hP hst' hm=>?_)
  obtain ⟨a,e,vs,m,rfl,hes,ha,hv,his⟩:=hval i v hP
  have hkp':=kp hm hkp
  have hS':=dm hm hkp hxs hS
  have hdrop:es.drop i=e::es.drop (i+1):=by
   obtain ⟨h1,h2⟩:=List.getElem?_eq_some_iff.mp hes
   rw [List.drop_eq_getElem_cons h1,h2]
  rw [hdrop] at hR
  show wpAny _ A.in1 (holding [Value.ref a] _ >>=_) _ _ s'
  refine wpAny_bind (wpAny_holding (wpAny_bind (wpAny_tryCatch (rM (hkp' a _ ha) ?_))))
  rw [hv]
  have hl:lim≤sizeLine:=by decide
  refine wpAny_holding (wpAny_dictSet_heap (show A.in1.units+6 < cLine by rw [Around.in1_units];lia) (tc hkp' his) hS' (fun h' hS2 hsb=>?_) (by lia -abstractProof))
  refine wpAny_pure ⟨plainId_quiet cB _,?_⟩
  have e1:((i:Int)+1)=((i+1:Nat):Int):=rfl
  show codeAny _ A (.builtin "dict.update.loop" ⟨[.ref S,.ref I,rawInt ((i:Int)+1),.none],[]⟩) R _
  rw [e1]
  refine ih (i+1) _ (storedH xs e.1 e.2.1 e.2.2) (sF hk) hlt (Nat.le_trans (pN _ _ _ _) (by lia -abstractProof)) ?_ hS2 (fun x hx=>rA (p:=fun κ a=>(bH prog w).is h₀ κ a) hxs his hx) (fun b o e=>?_) fun s'' hm'' hS''=>?_
  ·refine W.frame _ s' _ _ hst' (Nat.le_add_right _ _) fun b hb o e=>?_
   rw [hsb.2 b (fun h:b=S=>hSf (by rw [←h];exact hb))];exact e
  ·rw [hsb.2 b (fun h:b=S=>by rw [h,hS0] at e;cases e)];exact hkp' b o e
  ·refine hR s'' (Moved.trans W.gtrans ((hm.mono hsub).then_heap (Nat.le_add_right _ _) fun b o hb e=>?_) hm'') hS''
   rw [hsb.2 b (fun h:b=S=>hb (by rw [h];exact List.mem_cons_self))];exact e
set_option maxRecDepth 100000 in
theorem fM {E:Value→Shared→Prop}{l:Addr}{items:Array Value}{m:Nat}{es:List iI}{Q:Value→Shared→Prop}(hu:A.units+100 < cLine)(hh:A.handled=none)(hl:s.heap.get? l=some {cls:=.type "list",dict:=none,data:=.seq items m,slots:=#[]})(hn:es.length=items.size)(hnl:items.size≤lim)
  (hval:∀(i:Nat) v,items[i]?=some v→Er prog w s.heap es[i]? v)
  (h:∀(h':Heap) (tk:Nat),h'.DictOfH (bH prog w) s.heap.objs.size (l7 es [])→(∀b o,s.heap.get? b=some o→h'.get? b=some o)→Q (.ref s.heap.objs.size) {s with heap:=h',toks:=tk}):
  wpAny (model prog w) A (call (.type "dict") [.ref l]) Q E s:=by
 refine callType_codes (Q₁:=fun obj s₁=>obj=.ref s.heap.objs.size∧s₁={s with heap:=s.heap.push {cls:=.type "dict",data:=.dict #[]}}) F.kt_called_dict (F.kt_typeCall_dict_1 _) F.entry_dict_init (kt_code_dict_new _ ⟨rfl,rfl⟩) ?_
 rintro obj s₁ ⟨rfl,rfl⟩
 have hnew:(s.heap.push {cls:=.type "dict",data:=.dict #[]}).DictOfH (bH prog w) s.heap.objs.size []:=Heap.DictOfH.new s.heap
 have hl':(s.heap.push {cls:=.type "dict",data:=.dict #[]}).get? l=some {cls:=.type "list",dict:=none,data:=.seq items m,slots:=#[]}:=Heap.get?_push_of_some _ hl
 have hlT:Shared.TypeIs {s with heap:=s.heap.push {cls:=.type "dict",data:=.dict #[]}} (.ref l) "list":=⟨_,hl',rfl⟩
 refine ⟨hnew.typeIs,F.args_dict_init_2 _ _,?_⟩
 unfold Builtin.«dict.__init__»
 refine wpAny_bind ?_
 unfold Builtin.Dict.selfAndRest
 refine wpAny_bind (wpAny_notOrdered_dict hnew.typeIs ?_)
 show wpAny _ _ (pure (s.heap.objs.size,[Value.ref l])) _ _ _
 refine wpAny_pure ?_
 show wpAny _ _ (Builtin.Dict.updateFrom "dict.__init__" s.heap.objs.size (.ref l) [] .none) _ _ _
 unfold Builtin.Dict.updateFrom
 refine wpAny_bind (wpAny_typeOf hlT ?_)
 rw [if_pos (by decide)]
 refine wpAny_bind (uj hl' (by simp [hh]) fun h1 tk1 hk1=>?_)
 simp only [Option.isNone_none,if_true]
 refine wpAny_bind (wpAny_rule ?_)
 have hl1:h1.get? l=some {cls:=.type "list",dict:=none,data:=.seq items m,slots:=#[]}:=hk1 _ _ hl'
 have isl:Heap.IsList h1 l items:=⟨_,hl1,rfl,m,rfl⟩
 refine wpAny_bind (wpAny_pyIter_list isl ?_)
 refine wpAny_pure ⟨plainId_quiet cB _,?_⟩
 have hlS:l < s.heap.objs.size:=Heap.lt_size hl
 have hD1:h1.get? s.heap.objs.size≠none:=by
  obtain ⟨o,_,_,e,_⟩:=hnew
  rw [hk1 _ _ e];exact fun q=>by cases q
 have hSs:s.heap.objs.size < h1.objs.size:=by
  cases e:h1.get? s.heap.objs.size with
  |none=>exact absurd e hD1
  |some o=>exact Heap.lt_size e
 have hS0:s.heap.get? s.heap.objs.size=none:=aD _
 have k1:∀b o,s.heap.get? b=some o→h1.get? b=some o:=fun b o e=>hk1 b o (Heap.get?_push_of_some _ e)
 have hI0:s.heap.get? h1.objs.size=none:=by
  cases q:s.heap.get? h1.objs.size with
  |none=>rfl
  |some o=>have:=k1 _ _ q;rw [aD] at this;cases this
 have hd1:h1.DictOfH (bH prog w) s.heap.objs.size []:=by
  obtain ⟨o,es,ep,g1,g2,g3,g4,g5,g6⟩:=hnew
  exact ⟨o,es,ep,hk1 _ _ g1,g2,g3,g4,fun x hx=>(by cases hx),g6⟩
 refine uz (by show A.units+1+50 < cLine;lia) ((Walks.list (by simp [hh]) _ l (Nat.ne_of_lt (Nat.lt_trans hlS hSs)) items).toS) s.heap.objs.size ?_ s.heap es hn hnl hval hS0 (fun b hb=>by rw [List.mem_singleton.mp hb];exact hI0) (items.size - 0) 0 _ [] (by lia -abstractProof) (Nat.zero_le _) (Nat.zero_le _) ?_ ?_ (fun x hx=>by cases hx) (fun b o e=>Heap.get?_push_of_some _ (k1 b o e)) fun s' hm hS'=>?_
 ·simp only [List.mem_cons,List.not_mem_nil,or_false,not_or]
  exact ⟨Nat.ne_of_lt hSs,Nat.ne_of_gt hlS⟩
 ·exact ⟨⟨_,Heap.get?_push_size _ rfl,rfl,rfl⟩,(isl.push _)⟩
 ·obtain ⟨o,es,ep,g1,g2,g3,g4,g5,g6⟩:=hd1
  exact ⟨o,es,ep,Heap.get?_push_of_some _ g1,g2,g3,g4,fun x hx=>(by cases hx),g6⟩
 ·obtain ⟨h',g',d',tk',os'⟩:=s'
  have eg:g'=s.gens:=hm.gens
  have ed:d'=s.drawn:=hm.drawn
  have eo:os'=s.os:=hm.os
  subst eg;subst ed;subst eo
  refine ⟨rfl,h h' tk' (by simpa using hS') fun b o e=>?_⟩
  refine hm.heap b o (fun hb=>?_) (Heap.get?_push_of_some _ (k1 b o e))
  rcases List.mem_cons.mp hb with rfl |hb
  ·rw [hS0] at e;cases e
  ·rw [List.mem_singleton.mp hb,hI0] at e;cases e
end
section
variable {P:Pg} {B:bx} {C:Ct} {g:Gh} {h:Heap}
theorem oc {xs:List iI}{κ:Ky}{a:Addr}{v:Value}(nd:(xs.map (·.1)).Nodup):((storedH xs κ a v).map (·.1)).Nodup:=by
 unfold storedH
 split
 ·rw [keys_map_putAt];exact nd
 ·rename_i hn
  rw [List.map_append,List.nodup_append]
  refine ⟨nd,by simp,fun x hx y hy e=>hn ?_⟩
  rw [List.map_singleton,List.mem_singleton] at hy
  subst hy;subst e
  rw [mz]
  cases q:oM (xs.map (·.1)) x with
  |none=>
   have:=List.findIdx?_eq_none_iff.mp q x hx
   rw [decide_eq_true rfl] at this;cases this
  |some i=>
   have:=s7 q
   rw [List.getElem?_map] at this
   cases hx':xs[i]? with
   |none=>rw [hx'] at this;cases this
   |some z=>rw [Option.bind_some,hx'];rfl
theorem yj {α:Type}{i:Option Nat}{k v:α}{ks vs:List α}:(lu i k v ks vs).1.length≤ks.length+1:=by
 cases i with
 |none=>rw [lu,List.length_append];exact Nat.le_refl _
 |some j=>exact Nat.le_succ _
structure EF (P:Pg) (g:Gh) (h:Heap) (nv:Nat) (xs:List Value) (nk:Nat) (zs:List iI) (p:List T×List T) (es:List iI):Prop where
 len:es.length=nv
 at_:∀(i:Nat) v,xs[i]?=some v→Er P.prog P.w h es[i]? v
 ky:eR p.1=some ((l7 es zs).map (·.1))
 rk:aP P g h p.1 ((l7 es zs).map fun y=>Value.ref y.2.1)
 rv:aP P g h p.2 ((l7 es zs).map (·.2.2))
 le:p.1.length≤nk+nv
theorem nU:∀(vs:List T) (xs:List Value) (ks ws:List T) (zs:List iI) (p:List T×List T),aP P g h vs xs→l6 vs ks ws=some p→eR ks=some (zs.map (·.1))→(zs.map (·.1)).Nodup→aP P g h ks (zs.map fun y=>Value.ref y.2.1)→aP P g h ws (zs.map (·.2.2))→
  ∃es:List iI,EF P g h vs.length xs ks.length zs p es
 | [],xs,ks,ws,zs,p,r,e,hk,nd,rk,rw'=>by
  cases r;cases e
  exact ⟨[],rfl,fun i v q=>(by cases q),hk,rk,rw',Nat.le_refl _⟩
 |x::vs,_,ks,ws,zs,p,⟨v0,xs,e0,q,r⟩,e,hk,nd,rk,rw'=>by
  subst e0
  obtain ⟨ps,e1,e2⟩:=ar (show o1 (pf x) _=some p from e)
  cases jN e1
  match ps,e2,q with
  | [k,v],e2,q=>
   obtain ⟨i,hd,e3⟩:=ar (show o1 (kj ks k) _=some p from e2)
   obtain ⟨κ,hky⟩:=jD hd
   obtain ⟨t,rfl,_,us,m,g1,_,u1,l1,hus,q1,u2,l2,e4,q2,e5⟩:=q
   cases e5;subst e4
   obtain ⟨ad,rfl,his,_⟩:=lO hky (.inl q1)
   obtain ⟨p1,p2,p3⟩:=jT (v:=v) (z:=u2) hk nd hd hky rk rw' q1 q2
   obtain ⟨es,h1,h2,h3,h4,h5,h6⟩:=nU vs _ _ _ (storedH zs κ ad u2) p r e3 p1 (oc nd) p2 p3
   refine ⟨(κ,ad,u2)::es,congrArg (·+1) h1,fun j w hw=>?_,h3,h4,h5,?_⟩
   ·cases j with
    |zero=>cases hw;exact ⟨t,_,us,m,rfl,rfl,g1,hus,his⟩
    |succ j=>exact h2 j w hw
   ·have:=yj (i:=i) (k:=k) (v:=v) (ks:=ks) (vs:=ws)
    rw [List.length_cons];lia -abstractProof
theorem am.dictOf {e:Expr}{p:PE}{np pos:Pos}(hx:B.sc.names.lookup (ofString "dict")=some .globalImplicit)(hn:∀env,starEach [e] env=[(false,eval e env)])(h:am P B C e p (RX P)):am P B C (.Call (.Name (ofString "dict") np) [e] [] pos) (p1 qy p) (RN P):=fun n A env g ρ σ s k Q E X hb hq=>
 am.b1 CO (fun A env g σ s x t y Q E rm w q e hq=>by
  obtain ⟨xs,e1,e2⟩:=ar e
  obtain ⟨p,e3,e4⟩:=ar e2
  cases e4
  obtain ⟨l,rfl,vs,n,a1,a3,a2⟩:=q.ls e1
  obtain ⟨es,h1,h2,h3,h4,h5,h6⟩:=nU xs vs.toList [] [] [] p a2 e3 rfl .nil rfl rfl
  have hz:=a2.size
  have hsn:=oe X.good w
  refine fM (es:=es) (by have:=rm.units;lia) rm.handled a1 (by rw [h1];exact hz.symm) (by rw [hz];exact a3) (fun i v hv=>h2 i v (by rw [Array.getElem?_toList];exact hv)) fun h' tk dd hk=>?_
  obtain ⟨n1,n2,n3⟩:=c9 w
  have p₁:aC g s g {s with heap:=h',toks:=tk}:=.grow tk hk g.F (fun _ f=>f) fun _ f=>.inl f
  exact hq _ _ g p₁ (w.grow hk g.F (fun _ f=>f) fun _ f=>.inl f) ⟨_,rfl,aD _,n1,n2,n3,Dd.back hsn dd h3 (h4.mono (p₁.k w)) (h5.mono (p₁.k w)) (by rw [List.length_nil] at h6;lia -abstractProof)⟩)
  (fun _ q=>by cases q) hx (by decide) (by decide) (by decide) hn h n A env g ρ σ s k Q E X hb hq
end
end
end Mine
namespace Mine
noncomputable section
open PySem PySem.W PyProof.Rows
structure Ep (h:Heap) (mg:Str→Option Value) (nm:Str) (sc:Scope) (bd:List Stmt) (ps:List Str) (a:Addr) (fd:FuncData):Prop where
 ns:mg nm=some (.ref a)
 obj:∃o,h.get? a=some o∧o.data=.func fd
 code:h.CodeRec fd.code fd.qualname
 name:fd.name=nm
 sc:fd.scope=sc
 bd:fd.body=.stmts bd
 cl:fd.closure=[]
 gl:fd.globals=mainGlobals
 bt:fd.builtins=builtinsNs
 bind:∀vals:List Value,vals.length=ps.length→bindArgs fd ⟨vals,[]⟩=pure (ps.zip vals)
noncomputable def tj (q:Program)(nm:Str):Option (Scope×List Stmt×Arguments):=((recsOf q).find? fun d=>d.name==nm).map fun d=>(d.scope,d.body,d.params)
theorem zc {q:Program}{loose:List Str}{mean:ExcName→Option Value}{mg mb:Str→Option Value}{h:Heap}(T:Top q loose mean mg mb h){nm:Str}{sc:Scope}{bd:List Stmt}{pa:Arguments}(ps:List Str)(hr:tj q nm=some (sc,bd,pa))
  (hb:∀(pm cd doc:Value) (vals:List Value),vals.length=ps.length→bindArgs (Calls.docDef nm pa bd sc pm cd doc) ⟨vals,[]⟩=pure (ps.zip vals)):∃a fd,Ep h mg nm sc bd ps a fd:=by
 unfold tj at hr
 obtain ⟨d,hd,e⟩:=Option.map_eq_some_iff.mp hr
 have hn:d.name=nm:=beq_iff_eq.mp (List.find?_some (p:=fun d:DefRec=>d.name==nm) hd)
 obtain ⟨a,o,pm,cd,doc,h1,h2,h3,h4⟩:=T.fn d (List.mem_of_find?_eq_some hd)
 simp only [Prod.mk.injEq] at e
 obtain ⟨rfl,rfl,rfl⟩:=e
 subst hn
 exact ⟨a,_,h1,⟨o,h2,h3⟩,h4,rfl,rfl,rfl,rfl,rfl,rfl,hb pm cd doc⟩
noncomputable def ti (q:Program)(loose:List Str)(x:Str):Bool:=!startupNames.contains x&&!loose.contains x&&!((recsOf q).map (·.name)).contains x&&!((litsOf q).map (·.1)).contains x&&!((clssOf q loose).map (·.name)).contains x
theorem y6 {q:Program}{loose:List Str}{mean:ExcName→Option Value}{mg mb:Str→Option Value}{h:Heap}(T:Top q loose mean mg mb h){x:Str}(hx:ti q loose x=true):mg x=none:=by
 simp only [ti,Bool.and_eq_true,Bool.not_eq_true',List.contains_eq_mem,decide_eq_false_iff_not] at hx
 obtain ⟨⟨⟨⟨h1,h2⟩,h3⟩,h4⟩,h5⟩:=hx
 exact T.free x h1 h2 h3 h4 h5
theorem wH {c:ClaimW}{cl:Str→Option Addr}{mean:ExcName→Option Value}{args:List WData}{s₁:Shared}{h:Heap}{tk:Nat}(hr:∀cls,c.raises args cls=false)(hp:c.post args (.bool true) args=true)(hb:AllBare s₁.gens)
  (hk:∀a o,s₁.heap.get? a=some o→h.get? a=some o):GoodWG c cl mean args s₁ (.ok (.ret (.bool true))) {s₁ with heap:=h,toks:=tk}:=
 ⟨.inl ⟨_,_,[],rfl,hr,ReadsW.bool true,hp,fun _=>⟨List.nodup_nil,fun _ hm=>(nomatch hm)⟩⟩,.of_keep hk,rfl,hb⟩
theorem AC {Φ:Nat→Option fN}{p:Nat→Addr→FuncData→Prop}(h:∀f F,Φ f=some F→∃a d,p f a d){f₀:Nat}{F₀:fN}(h₀:Φ f₀=some F₀):∃(A:Nat→Addr) (D:Nat→FuncData),∀f F,Φ f=some F→p f (A f) (D f):=by
 obtain ⟨a₀,d₀,_⟩:=h f₀ F₀ h₀
 have h':∀f,∃x:Addr×FuncData,∀F,Φ f=some F→p f x.1 x.2:=fun f=>by
  cases e:Φ f with
  |none=>exact ⟨(a₀,d₀),fun F q=>by cases q⟩
  |some F=>
   obtain ⟨a,d,k⟩:=h f F e
   exact ⟨(a,d),fun _ _=>k⟩
 exact ⟨fun f=>(Classical.choose (h' f)).1,fun f=>(Classical.choose (h' f)).2,fun f=>Classical.choose_spec (h' f)⟩
noncomputable def Fi (mg:Str→Option Value)(x:Str):Addr:=match mg x with
 |some (.ref a)=>a
 |_=>0
structure mY (h:Heap) (mg mN:Str→Option Value) (gl:Bool) (nm:Str) (sc:Scope) (bd:List Stmt) (ps:List Str) (a:Addr) (fd:FuncData):Prop where
 ns:gl=true→mg nm=some (.ref a)
 me:gl=false→mN nm=some (.ref a)
 obj:∃o,h.get? a=some o∧o.data=.func fd∧(gl=false→o.cls=.type "function")
 code:h.CodeRec fd.code fd.qualname
 name:fd.name=nm
 sc:fd.scope=sc
 bd:fd.body=.stmts bd
 cl:fd.closure=[]
 gs:fd.globals=mainGlobals
 bt:fd.builtins=builtinsNs
 bind:∀vals:List Value,vals.length=ps.length→bindArgs fd ⟨vals,[]⟩=pure (ps.zip vals)
theorem mY.asMeth {h:Heap}{mg mN:Str→Option Value}{gl:Bool}{nm:Str}{sc:Scope}{bd:List Stmt}{ps:List Str}{a:Addr}{fd:FuncData}(x:mY h mg mN gl nm sc bd ps a fd)(hg:gl=false):(∃o,h.get? a=some o∧o.cls=.type "function")∧mN nm=some (.ref a):=by
 obtain ⟨o,h1,_,h3⟩:=x.obj
 exact ⟨⟨o,h1,h3 hg⟩,x.me hg⟩
theorem zd {q:Program}{loose:List Str}{mean:ExcName→Option Value}{mg mb mN:Str→Option Value}{h:Heap}(T:Top q loose mean mg mb h){nm:Str}{sc:Scope}{bd:List Stmt}{pa:Arguments}(ps:List Str)(hr:tj q nm=some (sc,bd,pa))
  (hb:∀(pm cd doc:Value) (vals:List Value),vals.length=ps.length→bindArgs (Calls.docDef nm pa bd sc pm cd doc) ⟨vals,[]⟩=pure (ps.zip vals)):∃a fd,mY h mg mN true nm sc bd ps a fd:=by
 obtain ⟨a,fd,x⟩:=zc T ps hr hb
 obtain ⟨o,h1,h2⟩:=x.obj
 exact ⟨a,fd,(fun _=>x.ns),(fun e=>nomatch e),⟨o,h1,h2,(fun e=>nomatch e)⟩,x.code,x.name,x.sc,x.bd,x.cl,x.gl,x.bt,x.bind⟩
noncomputable def md (q:Program)(loose:List Str)(x:Str):Option ClsRec:=(plainsOf q loose).find? fun c=>c.name==x
noncomputable def vX (c:ClsRec)(nm:Str):Option (Scope×List Stmt×Arguments):=(c.meths.find? fun m=>m.name==nm).map fun m=>(m.scope,m.body,m.params)
theorem yF {h:Heap}{c:ClsRec}{C N:Addr}{mg mN:Str→Option Value}(A:PlainAt h c.withCmp C N mN){nm:Str}{sc:Scope}{bd:List Stmt}{pa:Arguments}(ps:List Str)(hr:vX c nm=some (sc,bd,pa))
  (hb:∀(qual:Str) (pm cd doc:Value) (vals:List Value),vals.length=ps.length→bindArgs (methDef nm qual pa bd sc pm cd doc) ⟨vals,[]⟩=pure (ps.zip vals)):∃a fd,mY h mg mN false nm sc bd ps a fd:=by
 unfold vX at hr
 obtain ⟨m,hm,e⟩:=Option.map_eq_some_iff.mp hr
 have hn:m.name=nm:=beq_iff_eq.mp (List.find?_some (p:=fun m:MethRec=>m.name==nm) hm)
 obtain ⟨f,o,pm,cd,doc,h1,h2,h3,h4,h5⟩:=A.meths m (List.mem_of_find?_eq_some hm)
 simp only [Prod.mk.injEq] at e
 obtain ⟨rfl,rfl,rfl⟩:=e
 subst hn
 exact ⟨f,_,(fun e=>by cases e),(fun _=>h1),⟨o,h2,h4,fun _=>h3⟩,h5,rfl,rfl,rfl,rfl,rfl,rfl,hb _ pm cd doc⟩
theorem Bq {q:Program}{loose:List Str}{mg:Str→Option Value}{h:Heap}{x:Str}(T:TopE q loose mg h)(hx:(md q loose x).isSome=true):∃c C N mN,md q loose x=some c∧mg x=some (.ref C)∧PlainAt h c.withCmp C N mN:=by
 obtain ⟨c,hc⟩:=Option.isSome_iff_exists.mp hx
 have hn:c.name=x:=beq_iff_eq.mp (List.find?_some (p:=fun c:ClsRec=>c.name==x) hc)
 obtain ⟨C,N,mN,h1,h2⟩:=T c (List.mem_of_find?_eq_some hc)
 exact ⟨c,C,N,mN,hc,hn▸h1,h2⟩
theorem ub {P:Pg}{c:ClsRec}{C N:Addr}{mN:Str→Option Value}{k:Nat}{ms:List (Str×Nat)}(A:PlainAt P.h₀ c.withCmp C N mN)(hC:P.cls k=C)(ha:(bQ k).all (c.statics.contains ·)=true)(ho:∀x∈bQ k,typeLookup (.type "object") x=pure none)
  (hm:∀p∈ms,(∃o,P.h₀.get? (P.fnA p.2)=some o∧o.cls=.type "function")∧mN p.1=some (.ref (P.fnA p.2)))(hy:∀p∈ms,∃y,typeLookup (.type "object") p.1=pure y):bo P k ms:=
 ⟨N,mN,hC▸A.cls,A.quiet _ (List.mem_append_left _ (.tail _ (.head _))),A.quiet _ (List.mem_append_left _ (.tail _ (.tail _ (.head _)))),A.quiet _ (List.mem_append_left _ (.head _)),fun x hx=>⟨A.quiet _ (List.mem_append_right _ (List.mem_append_left _ (List.contains_iff_mem.mp (List.all_eq_true.mp ha x hx)))),ho x hx⟩,fun p hp=>⟨(hm p hp).2,hy p hp,(hm p hp).1⟩⟩
theorem y3 {q:Program}{loose:List Str}{mean:ExcName→Option Value}{P:Pg}(T:Top q loose mean P.mg P.mb P.h₀)(hn:iC.all (ti q loose)=true)
  (hf:∀f F,P.Ψ f=some F→∃mN nm sc bd ps,mY P.h₀ P.mg mN (P.gl f) nm sc bd ps (P.fnA f) (P.fd f)):q7 P where
 g:=T.g
 b:=T.b
 nolimit:=T.nolimit
 fn:=fun f F h=>by
  obtain ⟨mN,nm,sc,bd,ps,x⟩:=hf f F h
  obtain ⟨o,e,d,_⟩:=x.obj
  exact ⟨o,e,d,fun g=>by rw [x.name];exact x.ns g,x.code,x.cl,x.gs,x.bt⟩
 blt:=fun x hx=>⟨y6 T (List.all_eq_true.mp hn x hx),T.builtins x fun q=>by rw [q] at hx;revert hx;decide⟩
noncomputable def Dl (sc:Scope)(tab:List (Option (Str×NameKind)))(ps:List Str)(U:List Nat)(np:Nat):Bool:=
 bx.ok ⟨sc,tab⟩&&((List.range ps.length).all (fun i=>match ps[i]?,tab[i]? with
  |some x,some (some (y,k))=>x==y&&(k==.local||k==.cell)
  |_,_=>false)&&(tab.all (fun e=>match e with |some (_,k)=>!(k==.free) |none=>true)&&(decide (((cellsFrom 0 sc.names []).map (·.1)).Nodup)&&(!sc.isCoroutine&&(!sc.isGenerator&&(Nat.beq ps.length np&&U.all (Nat.ble np)))))))
theorem wM {P:Pg}{f np:Nat}{mN:Str→Option Value}{gl:Bool}{nm:Str}{sc:Scope}{bd:List Stmt}{ps:List Str}{tab:List (Option (Str×NameKind))}{U:List Nat}(x:mY P.h₀ P.mg mN gl nm sc bd ps (P.fnA f) (P.fd f))(h:Dl sc tab ps U np=true):Dc P f np tab ps bd U:=by
 obtain ⟨h1,h⟩:=Bool.and_eq_true_iff.mp h
 obtain ⟨h2,h⟩:=Bool.and_eq_true_iff.mp h
 obtain ⟨h3,h⟩:=Bool.and_eq_true_iff.mp h
 obtain ⟨h4,h⟩:=Bool.and_eq_true_iff.mp h
 obtain ⟨h5,h⟩:=Bool.and_eq_true_iff.mp h
 obtain ⟨h6,h⟩:=Bool.and_eq_true_iff.mp h
 obtain ⟨h7,h8⟩:=Bool.and_eq_true_iff.mp h
 have h7:=Nat.eq_of_beq_eq_true h7
 have hs:=x.sc
 refine ⟨x.bd,hs▸h1,h7,fun i y hy=>?_,fun i y ht=>?_,fun vals hv=>x.bind vals (by rw [h7];exact hv),hs▸of_decide_eq_true h4,⟨hs▸(Bool.not_eq_true' _).mp h5,hs▸(Bool.not_eq_true' _).mp h6⟩,fun i hi=>Nat.le_of_ble_eq_true (List.all_eq_true.mp h8 i hi)⟩
 ·have:=List.all_eq_true.mp h2 i (List.mem_range.mpr (List.getElem?_eq_some_iff.mp hy).1)
  rw [hy] at this
  cases ht:tab[i]? with
  |none=>rw [ht] at this;cases this
  |some e=>
   rw [ht] at this
   cases e with
   |none=>cases this
   |some p=>
    obtain ⟨z,k⟩:=p
    simp only [Bool.and_eq_true,Bool.or_eq_true,beq_iff_eq] at this
    obtain ⟨rfl,hk⟩:=this
    exact ⟨k,rfl,hk⟩
 ·have:=List.all_eq_true.mp h3 _ (List.mem_of_getElem? ht)
  cases this
theorem y9 {P:Pg}{f:Nat}{F:fN}{mN:Str→Option Value}{gl:Bool}{nm:Str}{sc:Scope}{bd:List Stmt}{ps:List Str}{tab:List (Option (Str×NameKind))}{U:List Nat}{C':Ct}(x:mY P.h₀ P.mg mN gl nm sc bd ps (P.fnA f) (P.fd f))(h:Dl sc tab ps U F.np=true)(sim:gM P ⟨sc,tab⟩ ⟨[],U,rh f⟩ (kh f) C' bd F.body):uO P f F:=
 ⟨tab,ps,bd,U,C',wM x h,by rw [x.sc];exact sim⟩
theorem gV {q:Program}{loose:List Str}{mean:ExcName→Option Value}{mg mb:Str→Option Value}{h:Heap}{x:Str}{n:Int}{P:Pg}(T:Top q loose mean mg mb h)(hs:valOf q x=some (.int n)):∃u,mg x=some u∧∀g h,Rp P g h (.int n) u:=by
 obtain ⟨v,h1,h2⟩:=T.const x _ hs
 refine ⟨v,h1,fun g h=>?_⟩
 cases h2 h
 exact ⟨_,rfl⟩
theorem uB {q:Program}{loose:List Str}{mean:ExcName→Option Value}{mg mb:Str→Option Value}{h:Heap}{x:Str}{n:Str}{P:Pg}(T:Top q loose mean mg mb h)(hs:valOf q x=some (.str n))(hn:n.length≤lim∧PyData.strOk n=true):∃u,mg x=some u∧∀g h,Rp P g h (.str n) u:=by
 obtain ⟨v,h1,h2⟩:=T.const x _ hs
 refine ⟨v,h1,fun g h=>?_⟩
 cases h2 h
 exact ⟨⟨hn.2,hn.1⟩,_,rfl⟩
theorem wy:∀{vs:List Value} {ns:List Int},IntsAre vs ns→n5 ns vs
 |_,_,.nil=>rfl
 |_,_,.cons n t r=>⟨t,_,rfl,wy r⟩
theorem wj {P:Pg}(G:q7 P)(hF:∀f F,P.Ψ f=some F→uO P f F){A:Around}{n L m:Nat}{F:fN}{tab:List (Option (Str×NameKind))}{ps:List Str}{bd:List Stmt}{U:List Nat}{C':Ct}{y:Str}{k:NameKind}{s0:Int}{kk:Nat}{q1 q2 q3 q4:Pos}{p:PS}{l:Addr}{vs:List Value}{ns:List Int}{σ:Sg}{s:Shared}
  (hL:P.Ψ L=some F)(K:Dc P L 1 tab ps (.Assign [.Name y q1] (.List [.Constant (.int s0) kk q2] q3) q4::bd) U)(ht:tab[1]?=some (some (y,k)))(hk:k=.local∨k=.cell)(hw:uQ (.List [.Constant (.int s0) kk q2] q3) y q1 q4.line (P.fd L).scope=false)(hc:bY ⟨[],U,false⟩ 1 false ⟨[],U,false⟩=true)(sim:gM P ⟨(P.fd L).scope,tab⟩ ⟨[],U,false⟩ false C' bd p)
  (hs:P.h₀=s.heap)(room:mP A (n+1))(hl:s.heap.IsList l vs.toArray)(hi:IntsAre vs ns)(hn:ns.length≤63)(hp:p (P.cx n) (frame [.scr ns,.spot] m) ⟨s0,none⟩ (fun _ σ=>.ret .none σ)=.ret (.bool true) σ):
  wpAny P.M A (PySem.call (.ref (P.fnA L)) [.ref l]) (fun v s'=>v=.bool true∧∃h' tk,s'={s with heap:=h',toks:=tk}∧∀a o,s.heap.get? a=some o→h'.get? a=some o) (fun _ _=>False) s:=by
 have hlen:=hi.length
 refine wpAny_call (codeAny_mono (R:=fun r s'=>match r with |.ok (.ret v)=>v=.bool true∧∃h' tk,s'={s with heap:=h',toks:=tk}∧∀a o,s.heap.get? a=some o→h'.get? a=some o |_=>False) (Ag (ns:=m+1) (m:=false) (g:=⟨fun a=>s.heap.get? a≠none,fun _=>False,fun _=>none,0,0⟩) (ts:=[.scr ns]) G hL K (Nat.lt_of_le_of_lt (Nat.le_trans (Nat.le_add_right _ _) (Nat.le_add_right _ _)) room.1) (fun a o e=>hs▸e) (fun _ h=>h) (fun _ h=>h.elim)
  (show aP P (⟨fun a=>s.heap.get? a≠none,fun _=>False,fun _=>none,0,0⟩:Gh) s.heap [.scr ns] [.ref l] from ⟨_,_,rfl,⟨l,_,rfl,by rw [hs];exact hl,by rw [List.size_toArray];have:lim=1000000:=rfl;lia -abstractProof,wy hi⟩,rfl⟩) rfl fun s₁ env E' same keep hW E1=>?_) fun r s' q=>?_)
 ·refine wpAny_execs_cons (wpAny_Assign_Name (wpAny_List (wpAny_items_cons (wpAny_Constant_int (wpAny_items_nil ⟨(show 1≤sizeLine by decide),?_⟩)) rfl)) (by rw [js E1.sc,hw]))
  have w2:∀a o,s₁.heap.get? a=some o→(s₁.heap.push (bn #[.int s0 s₁.toks] 0)).get? a=some o:=bN s₁ _
  have bk:=bX keep
  have pS:=bD (h:=s₁.heap) (bn #[.int s0 s₁.toks] 0)
  have w:bp P ⟨fun a=>s.heap.get? a≠none,fun a=>a=s₁.heap.objs.size,fun _=>none,s₁.heap.objs.size,0⟩ (s₁.heap.push (bn #[.int s0 s₁.toks] 0)) ⟨s0,none⟩:=
   ⟨fun a o e=>have e:s.heap.get? a=some o:=hs▸e;⟨an e,w2 a o (keep a o e)⟩,fun a f e=>f (bk a (bX w2 a e)),fun a z=>by rw [show a=_ from z];exact ⟨an pS,fun f=>f (bk _ (aD _))⟩,(fun a q=>let ⟨_,q⟩:=q;nomatch q),(fun _ _ _ q=>nomatch q),⟨⟨s₁.toks,0,pS⟩,rfl,fun _ _ z=>z⟩,fun _ _ q=>nomatch q⟩
  have E2:bV P ⟨(P.fd L).scope,tab⟩ ⟨[],U,false⟩ env ⟨fun a=>s.heap.get? a≠none,fun a=>a=s₁.heap.objs.size,fun _=>none,s₁.heap.objs.size,0⟩ (frame [.scr ns] (m+1)) (s₁.heap.push (bn #[.int s0 s₁.toks] 0)):=
   {E1 with
    ns:=let ⟨m,n⟩:=E1.ns;⟨m,n.at (w2 _)⟩
    cell:=fun i y k ht hk=>let ⟨c,u,h1,o,e,d⟩:=E1.cell i y k ht hk;⟨c,u,h1,o,w2 _ _ e,d⟩
    own:=fun a ha=>⟨fun e=>(E1.own a ha).1 (bX w2 a e),(E1.own a ha).2.1,fun z=>(E1.own a ha).1 (by rw [show a=_ from z];exact aD _),fun ⟨_,q⟩=>nomatch q⟩
    var:=fun i y t ht hv=>by
     obtain ⟨u,v,q⟩:=E1.var i y t ht hv
     refine ⟨u,v.move fun a _=>w2 a,?_⟩
     cases i with
     |zero=>cases gS hv;exact .inl (q.elim (fun r=>r) fun r=>nomatch r.1)
     |succ i=>cases gS hv}
  have X:At P ⟨(P.fd L).scope,tab⟩ ⟨[],U,false⟩ n (A.deeper env) env _ (frame [.scr ns] (m+1)) ⟨s0,none⟩ {s₁ with heap:=s₁.heap.push (bn #[.int s0 s₁.toks] 0),toks:=s₁.toks+1}:=⟨G,sf G hF n,room.deeper _,E2,w⟩
  refine gQ (t:=.spot) X hc ht hk rfl fun s₃ p₃ X₃=>sim n _ _ _ (frame [.scr ns,.spot] m) ⟨s0,none⟩ s₃ (fun _ σ=>.ret .none σ) _ _ X₃ (by rw [hp];exact fun q=>by cases q) (fun s' g' ρ' σ' e p X'=>?_) fun x s' g' t σ' e p w' r'=>?_
  ·rw [hp] at e;cases e
  ·rw [hp] at e;cases e
   obtain rfl:x=.bool true:=r'
   obtain ⟨h₁,t₁,rfl⟩:=same
   obtain ⟨h₃,t₃,rfl⟩:=p₃.st
   obtain ⟨h₄,t₄,rfl⟩:=p.st
   exact ⟨rfl,h₄,t₄,rfl,fun a o e=>(w'.base a o (hs▸e)).2⟩
 ·match r,q with
  |.ok (.ret u),q=>exact q
  |.ok .next,q=>exact q.elim
  |.ok .brk,q=>exact q.elim
  |.ok .cont,q=>exact q.elim
  |.error u,q=>exact q.elim
end
end Mine
namespace Mine
noncomputable section
open PySem PyProof.Rows PySem.SeqAt
section
variable {P:Pg} {B Bc:bx} {C Ci:Ct} {fr:Bool} {c i:Nat} {y name:Str} {k:NameKind} {np apos cpos pos p:Pos} {e:Expr} {pe:PE} {ms:List (Str×Nat)}
theorem bindL (hc:bY C i false Ci=true)(ht:Bc.tab[i]?=some (some (y,.local))):iG P (xI P Bc C Ci (.Name y p) (aJ i) (kS none)):=iG.one hc ht (.inl rfl)
theorem bindC (hc:bY C i false Ci=true)(ht:Bc.tab[i]?=some (some (y,.cell))):iG P (xI P Bc C Ci (.Name y p) (aJ i) (kS (some y))):=iG.one hc ht (.inr rfl)
theorem aF.app (hv:bj C i=true)(ht:B.tab[i]?=some (some (y,k)))(hline:(apos.endLine==cpos.line)=true)(hbase:∀env,attributeBase (.Name y np) (ofString "append") env (eval (.Name y np) env)=eval (.Name y np) env)(htrees:∀env,backTo cpos (starEach [e] env)=[(false,eval e env)])
  (hw:∀env,swapsWith (.Call (.Attribute (.Name y np) (ofString "append") apos) [e] [] cpos) none pos.line env=pure false)(h:am P B C e pe (RV P)):aF P B C fr C (.Expr (.Call (.Attribute (.Name y np) (ofString "append") apos) [e] [] cpos) pos) (gY i dK pe):=
 aF.mut (R:=RV P) lS hv ht (fun _ _ _ _ _ r=>r) jO hbase hline htrees hw h
theorem aF.ext (hv:bj C i=true)(ht:B.tab[i]?=some (some (y,k)))(hline:(apos.endLine==cpos.line)=true)(hbase:∀env,attributeBase (.Name y np) (ofString "extend") env (eval (.Name y np) env)=eval (.Name y np) env)(htrees:∀env,backTo cpos (starEach [e] env)=[(false,eval e env)])
  (hw:∀env,swapsWith (.Call (.Attribute (.Name y np) (ofString "extend") apos) [e] [] cpos) none pos.line env=pure false)(h:am P B C e pe (RX P)):aF P B C fr C (.Expr (.Call (.Attribute (.Name y np) (ofString "extend") apos) [e] [] cpos) pos) (gY i hE pe):=
 aF.mut (R:=RX P) wE hv ht (fun _ _ _ _ _ r=>r) ux hbase hline htrees hw h
theorem am.lenF (O:bo P c ms)(hn:(bQ c)[i]?=some name)(ht:B.tab[0]?=some (some (y,k)))(hx:B.sc.names.lookup (ofString "len")=some .globalImplicit)(hn':∀env,starEach [.Attribute (.Name y np) name apos] env=[(false,eval (.Attribute (.Name y np) name apos) env)]):am P B C (.Call (.Name (ofString "len") p) [.Attribute (.Name y np) name apos] [] pos) (p1 aO (oA c i)) (RV P):=
 am.b1Y j2 v7 (fun _ q=>by cases q) hx (by decide) (by decide) (by decide) hn' (am.fld O hn ht)
end
section
variable {P:Pg} {B:bx} {C C':Ct} {fr:Bool} {n i j:Nat} {A:Around} {env:Env} {g g':Gh} {ρ:aH} {σ:Sg} {s s':Shared} {h h':Heap} {y y':Str} {k k':NameKind} {np apos cpos pos:Pos}
theorem wD:xS .list (ofString "pop") "list.pop":=⟨F.slot_list_pop,F.type_list_pop⟩
inductive En (P:Pg) (g:Gh) (h:Heap) (xs:List T) (vs:Array Value) (t:T):Prop
 |mk (u:Value) (e:vs[vs.size - 1]?=some u) (r:Rp P g h t u) (rs:aP P g h xs.dropLast (vs.eraseIdxIfInBounds (vs.size - 1)).toList) (l:xs.dropLast.length≤xs.length)
theorem tZ {xs:List T}{vs:Array Value}{t:T}(r:aP P g h xs vs.toList)(e:xs.getLast?=some t):En P g h xs vs t:=by
 have hz:=r.size
 rw [List.getLast?_eq_getElem?,←hz] at e
 obtain ⟨u,hu,q⟩:=r.get e
 rw [Array.getElem?_toList] at hu
 have h1:vs.size - 1 < vs.size:=by rw [hz];have:=(List.getElem?_eq_some_iff.mp e).1;lia
 refine ⟨u,hu,q,?_,by rw [List.length_dropLast];lia⟩
 have e1:vs.eraseIdxIfInBounds (vs.size - 1)=vs.eraseIdx (vs.size - 1) h1:=by rw [Array.eraseIdxIfInBounds,dif_pos h1]
 rw [e1,Array.toList_eraseIdx,List.eraseIdx_eq_take_drop_succ,List.dropLast_eq_take,hz,List.drop_of_length_le (by rw [Array.length_toList,hz];lia -abstractProof),List.append_nil]
 exact r.take _
theorem aF.pop {zs:List gX}{kt:Nat}{pt:Pos}(hz:zW B C zs=true)(hv:bj C j=true)(ht:B.tab[j]?=some (some (y,k)))(hs:∀env,swapsWithSole [.Tuple (zs.map gX.e) kt pt] (.Call (.Attribute (.Name y np) (ofString "pop") apos) [] [] cpos) pos.line env=pure false)(hw:∀env,swappedStores [.Tuple (zs.map gX.e) kt pt] (.Call (.Attribute (.Name y np) (ofString "pop") apos) [] [] cpos) env=pure none)
  (hbase:∀env,attributeBase (.Name y np) (ofString "pop") env (eval (.Name y np) env)=eval (.Name y np) env)(hline:(apos.endLine==cpos.line)=true):aF P B C fr C (.Assign [.Tuple (zs.map gX.e) kt pt] (.Call (.Attribute (.Name y np) (ofString "pop") apos) [] [] cpos) pos) (vq j (zs.map (·.i))):=fun n A env g ρ σ s kk Q E X hb hq hr=>by
 obtain ⟨ρ',e⟩:=bS hb
 obtain ⟨x,e0,e1⟩:=ar e
 obtain ⟨xs,e2,e3⟩:=ar e1
 obtain ⟨t,e4,e5⟩:=ar e3
 obtain ⟨ts,e6,e7⟩:=ar e5
 cases d9 e2
 cases jN e6
 obtain ⟨u,va,q⟩:=X.env.var j _ _ ht e0
 unfold br at q
 rw [hv] at q
 obtain ⟨a,rfl,oi,vs,m,a1,a3,a2⟩:=q
 obtain ⟨u,hu,ru,rs,l⟩:=tZ a2 e4
 refine Assign_Tuple (wpAny_Call_method0_late (hbase env) hline (bi X ht va ⟨_,_,MK.plain .list,wD.slot,wD.ty,⟨_,a1,rfl⟩,fun b e=>⟨_,Value.ref.inj e▸a1,rfl⟩,PySem.P.pop_list a1 hu ?_ (ba (by rw [a2.size];exact a3))⟩)) (hs env) (hw env)
 obtain ⟨pS,X'⟩:=kx (y:=.lst xs.dropLast) X hv (by rw [e0];exact fun q=>by cases q) oi va (Heap.SameBut.update s.heap a (Obj.mapSeq fun v=>v.eraseIdxIfInBounds (vs.size - 1))).2 (fun kf=>⟨_,_,IsL.update a1 (fun v=>v.eraseIdxIfInBounds (vs.size - 1)),Nat.le_trans l a3,rs.mono kf⟩) s.toks
 have kf:aL g s.heap g (s.heap.update a (Obj.mapSeq fun v=>v.eraseIdxIfInBounds (vs.size - 1))):=pS.k X.g fun b hb=>(X.env.own b hb).2.1
 obtain ⟨b,rfl,f,us,m',b1,_,rb⟩:=Rp.mono kf ru
 exact iD hz e7 X' b1 rb fun s' p' X''=>hq s' g ρ' σ (by unfold vq;rw [e];rfl) (pS.trans p'.toS) X''
theorem aF.pop0 {px cp:Pos}{kk:Nat}(hv:bj C j=true)(ht:B.tab[j]?=some (some (y,k)))(hc:bY C i false C=true)(ht':B.tab[i]?=some (some (y',k')))(hk:k'=.local∨k'=.cell)(hw:uQ (.Call (.Attribute (.Name y np) (ofString "pop") apos) [.Constant (.int 0) kk cp] [] cpos) y' px pos.line B.sc=false)
  (hbase:∀env,attributeBase (.Name y np) (ofString "pop") env (eval (.Name y np) env)=eval (.Name y np) env)(hline:(apos.endLine==cpos.line)=true)(htrees:∀env,backTo cpos (starEach [.Constant (.int 0) kk cp] env)=[(false,eval (.Constant (.int 0) kk cp) env)]):
  aF P B C fr C (.Assign [.Name y' px] (.Call (.Attribute (.Name y np) (ofString "pop") apos) [.Constant (.int 0) kk cp] [] cpos) pos) (nE j i):=fun n A env g ρ σ s kk Q E X hb hq hr=>by
 obtain ⟨ρ',e⟩:=bS hb
 obtain ⟨x,e0,e1⟩:=ar e
 obtain ⟨xs,e2,e3⟩:=ar e1
 obtain ⟨t,e4,e5⟩:=ar e3
 cases d9 e2
 cases e5
 obtain ⟨u,va,q⟩:=X.env.var j _ _ ht e0
 unfold br at q
 rw [hv] at q
 obtain ⟨a,rfl,oi,vs,m,a1,a3,a2⟩:=q
 cases xs with
 |nil=>cases e4
 |cons x xs=>
  cases e4
  obtain ⟨z,us,hus,rz,ru⟩:=id a2
  have h0:0 < vs.size:=by rw [a2.size];exact Nat.zero_lt_succ _
  have hz0:vs[0]?=some z:=by rw [←Array.getElem?_toList,hus];rfl
  have hup:(vs.eraseIdxIfInBounds 0).toList=us:=by
   have e1:vs.eraseIdxIfInBounds 0=vs.eraseIdx 0 h0:=by rw [Array.eraseIdxIfInBounds,dif_pos h0]
   rw [e1,Array.toList_eraseIdx,hus];rfl
  refine wpAny_Assign_Name (lJ wD hbase hline htrees (bi X ht va ⟨rX (K:=.list) a1 rfl rfl,wpAny_Constant_int (call_meets F.slot_list_pop ⟨_,a1,rfl⟩ F.entry_list_pop (F.args_list_pop_2 _ _) (PySem.MeetsSeq.list_pop_at a vs m 0 _ 0 z (by decide) ?_ hz0 (ba (by rw [a2.size];exact a3))) ⟨a1,?_⟩)⟩)) (by rw [js X.env.sc,hw])
  ·have h1:(0:Int) < vs.size:=Int.ofNat_lt.mpr h0
   show (if (decide ((0:Int)≤0)&&decide ((0:Int) < vs.size))=true then some (0:Int).toNat else none)=some 0
   rw [decide_eq_true h1];rfl
  ·obtain ⟨pS,X'⟩:=kx (y:=.lst xs) X hv (by rw [e0];exact fun q=>by cases q) oi va (Heap.SameBut.update s.heap a (Obj.mapSeq fun v=>v.eraseIdxIfInBounds 0)).2 (fun kf=>⟨_,_,IsL.update a1 (fun v=>v.eraseIdxIfInBounds 0),Nat.le_of_succ_le a3,by rw [hup];exact ru.mono kf⟩) (s.toks+1)
   have kf:aL g s.heap g (s.heap.update a (Obj.mapSeq fun v=>v.eraseIdxIfInBounds 0)):=pS.k X.g fun b hb=>(X.env.own b hb).2.1
   exact gQ X' hc ht' hk (Rp.mono kf rz) fun s' p' X''=>hq s' g _ σ (by unfold nE;rw [e];rfl) (pS.trans (p'.toS.weak cM)) X''
theorem aP.rep {xs:List T}{vs:List Value}(r:aP P g h xs vs):∀k:Nat,aP P g h (List.replicate k xs).flatten (List.replicate k vs).flatten
 | 0=>rfl
 |k+1=>by
  rw [List.replicate_succ,List.replicate_succ,List.flatten_cons,List.flatten_cons]
  exact aP.append (aP.rep r k) r
theorem Ch:pE P (zA P (binaryOp .Mult)) j6 (RN P):=fun A env g σ s x x' t t' y Q E rm w q q' e hq=>by
 unfold j6 at e
 obtain ⟨xs,k,e1,e2,e3⟩:=aV e
 obtain ⟨c,rfl⟩:=cr e3
 obtain ⟨c1,c23⟩:=Bool.and_eq_true_iff.mp c
 obtain ⟨c2,c3⟩:=Bool.and_eq_true_iff.mp c23
 have h0:=of_decide_eq_true c1
 have h1:=of_decide_eq_true c2
 have h2:=Nat.le_of_ble_eq_true c3
 obtain ⟨l,rfl,vs,n,a1,a3,a2⟩:=q.ls e1
 obtain ⟨u,rfl⟩:=q'.i e2
 have hz:=a2.size
 have q1:k.toNat≤1000:=by lia -abstractProof
 have hz':vs.size * k.toNat≤1000000:=Nat.mul_le_mul (hz▸h2) q1
 refine wpAny_binaryOp_repeat_ref (T:="list") (U:="int") (by decide) ⟨_,a1,rfl⟩ (fun s'=>typeIs_int s' k u) noFill_list_mul F.fills_int_mul F.slot_int_rmul repeat_list F.slot_int_index.lookup
  (call_meets F.slot_int_rmul (typeIs_int s k u) F.entry_int_rmul (F.args_int_rmul_2 _ _) (lm_int_rmul_list_any k u l vs n _ _)
   ⟨a1,rfl,⟨_,a1,rfl⟩,call_meets F.slot_list_mul ⟨_,a1,rfl⟩ F.entry_list_mul (F.args_list_mul_2 _ _)
    (lm_list_mul_any l vs n _ _ k u (by simp [Builtin.List.listFitsIndex];lia -abstractProof) (by lia) (by simp [Builtin.List.listTooLong,sizeLine];lia))
    ⟨a1,?_⟩⟩)
 rw [listMul_foldl_if]
 refine s4 w (a2.rep k.toNat) ?_ hq
 rw [←(a2.rep k.toNat).length,List.length_flatten,List.map_replicate,List.sum_replicate_nat,Array.length_toList,Nat.mul_comm]
 exact hz'
theorem zi {a b:Int}(ha:sm a=true)(hb:sm b=true):0≤Builtin.Range.rangeSize a b (-1)∧Builtin.Range.small a b (-1)=true:=by
 have e:Builtin.Range.rangeSize a b (-1)=if b < a then (a - b - 1) / 1+1 else 0:=if_neg (by decide)
 have h:=zP hb ha
 rw [←e] at h
 exact ⟨h.1,EA ha hb (by decide) h (Int.add_zero b)⟩
theorem eN.down {es:List Expr}{ps:PL}{p pos:Pos}{mk:Around→Addr→List T→List Addr→List Addr→(Nat→Gh→Heap→Prop)→Prop}(hb:iG P mk)(hx:B.sc.names.lookup (ofString "range")=some .globalImplicit)(h:fS P B C es ps):eN P B C (.Call (.Name (ofString "range") p) es [] pos) mk (Cy ps):=fun n A env g ρ σ s k Q E X hbad hq=>by
 refine Call_Name rfl (X.blt hx (by decide) (by decide) (v:=.type "range") (by decide) (bq (fun _ q=>by cases q) (bA (h.pl env)) (h.sim pos n A env g ρ σ s (fun ts σ=>up (BK ts) σ k) _ E X hbad fun xs s₁ g₁ ts σ₁ e pp w r=>?_)))
 obtain ⟨l,e'⟩:=bS fun q=>hbad (e.trans q)
 have ek:Cy ps (P.cx n) ρ σ k=k l σ₁:=e.trans (by rw [e'];rfl)
 unfold BK at e'
 match ts,e',r with
 | [m,n',l'],e',r=>
  obtain ⟨a,b,e1,e2,e3⟩:=aV (show o2 (iH m) (iH n') _=some l from e')
  obtain ⟨c,e4,e5⟩:=ar e3
  obtain ⟨q,rfl⟩:=cr (show (bif (sm a&&sm b&&decide (c=-1))&&bU (cf a b (-1)).length then some (cf a b (-1)) else none)=some l from e5)
  obtain ⟨q,c2⟩:=Bool.and_eq_true_iff.mp q
  obtain ⟨q,c5⟩:=Bool.and_eq_true_iff.mp q
  obtain ⟨c3,c4⟩:=Bool.and_eq_true_iff.mp q
  obtain rfl:=of_decide_eq_true c5
  obtain ⟨_,_,rfl,r1,_,_,e6,r2,_,_,e7,r3,e8⟩:=r
  subst e6;subst e7;cases e8
  obtain ⟨t,rfl⟩:=eO.i (.inl r1) e1
  obtain ⟨u,rfl⟩:=eO.i (.inl r2) e2
  obtain ⟨v,rfl⟩:=eO.i (.inl r3) e4
  obtain ⟨hsz,hsm⟩:=zi c3 c4
  refine call_range_3 (by decide) ?_ (.inl (PyProof.noPylong_small (by decide)))
  refine wpAny_pyIter_range (IsRange.new s₁.heap a b (-1) t u v) hsm ?_
  obtain ⟨p',w',_⟩:=oK (X:={cls:=.type "range",data:=.fields #[.int a t,.int b u,.int (-1) v]}) (tk:=s₁.toks) w pp
  obtain ⟨p'',w'',v''⟩:=oK (s₁:={s₁ with heap:=s₁.heap.push {cls:=.type "range",data:=.fields #[.int a t,.int b u,.int (-1) v]},toks:=s₁.toks}) (X:={cls:=.type "range_iterator",data:=.fields #[rawInt a,rawInt (Builtin.Range.rangeSize a b (-1)),rawInt (-1)]}) (tk:=s₁.toks) w' p'
  refine hq _ g₁ _ σ₁ _ _ [] _ ek p'' w'' (hb.make (mQ.range X.room.2.2 (Builtin.Range.rangeSize a b (-1)).toNat rfl)) ⟨Nat.zero_le _,?_⟩ v'' (fun _ q=>nomatch q) (fC c2)
  have e1:a+((0:Nat):Int) * (-1)=a:=by simp
  have e2:(((Builtin.Range.rangeSize a b (-1)).toNat:Int) - ((0:Nat):Int))=Builtin.Range.rangeSize a b (-1):=by lia -abstractProof
  show IsRangeIter _ _ _ _ _
  rw [e1,e2];exact bD _
end
noncomputable def sS {α:Type}(lo hi st:Option Int)(xs:List α):List α:=
 (sliceRange (sliceBounds lo hi st xs.length).1 (sliceBounds lo hi st xs.length).2.1 (sliceBounds lo hi st xs.length).2.2).filterMap (xs[·]?)
section
variable {P:Pg} {B:bx} {C:Ct} {A:Around} {g:Gh} {h:Heap}
theorem t7 (items:Array Value)(lo hi st:Option Int):slicePick items lo hi st=(sS lo hi st items.toList).toArray:=by
 simp [slicePick,sS]
theorem pU {α:Type}(xs:List α):∀m,m≤xs.length→(List.range m).filterMap (fun k=>xs[xs.length - 1 - k]?)=xs.reverse.take m
 | 0,_=>rfl
 |m+1,h=>by
  rw [List.range_succ,List.filterMap_append,pU xs m (Nat.le_of_succ_le h),List.take_add_one,List.getElem?_reverse (by lia -abstractProof)]
  have:∀f:Nat→Option α,List.filterMap f [m]=(f m).toList:=fun f=>by rw [List.filterMap_cons];cases f m<;>rfl
  rw [this]
theorem vt {α:Type}(xs:List α):sS none none (some (-1)) xs=xs.reverse:=by
 unfold sS
 have e:sliceRange (sliceBounds none none (some (-1)) xs.length).1 (sliceBounds none none (some (-1)) xs.length).2.1 (sliceBounds none none (some (-1)) xs.length).2.2=(List.range xs.length).map fun k=>xs.length - 1 - k:=by
  show sliceRange ((xs.length:Int) - 1) (-1) (-1)=_
  unfold sliceRange
  rw [if_neg (by decide)]
  have:((if (xs.length:Int) - 1 > -1 then ((xs.length:Int) - 1 - -1 - -1 - 1) / -(-1) else 0)).toNat=xs.length:=by
   rw [show -(-1:Int)=1 from rfl,Int.ediv_one,show (xs.length:Int) - 1 - -1 - -1 - 1=xs.length by lia]
   rcases Nat.eq_zero_or_pos xs.length with q |q
   ·rw [q];rfl
   ·rw [if_pos (show (xs.length:Int) - 1 > -1 by lia)];rfl
  simp only [this]
  refine List.map_congr_left fun k hk=>?_
  have:=List.mem_range.mp hk
  lia -abstractProof
 rw [e,List.filterMap_map]
 exact (pU xs xs.length (Nat.le_refl _)).trans (by rw [←List.length_reverse,List.take_length])
theorem aP.reverse {ts:List T}{vs:List Value}(r:aP P g h ts vs):aP P g h ts.reverse vs.reverse:=aP.of (by rw [List.length_reverse,List.length_reverse];exact r.length) fun i v t h1 h2=>by
 have l2:=(List.getElem?_eq_some_iff.mp h2).1
 rw [List.length_reverse] at l2
 rw [List.getElem?_reverse (r.length.symm▸l2),r.length] at h1
 rw [List.getElem?_reverse l2] at h2
 obtain ⟨v',e,q⟩:=r.get h2
 rw [h1] at e;cases e;exact q
theorem am.rev {a:Expr}{pa:PE}{kc:Nat}{pc pu ps pos:Pos}(ha:am P B C a pa (RX P)):am P B C (.Subscript a (.Slice Option.none Option.none (some (.UnaryOp .USub (.Constant (.int 1) kc pc) pu)) ps) pos) (p1 rG pa) (RV P):=
 (ha.bind (N:=fun A env x Q E s=>wpAny P.M A (eval (.Slice Option.none Option.none (some (.UnaryOp .USub (.Constant (.int 1) kc pc) pu)) ps) env) (fun y s₂=>wpAny P.M A (subscriptTail a (.Slice Option.none Option.none (some (.UnaryOp .USub (.Constant (.int 1) kc pc) pu)) ps) x y) Q E s₂) E s) (F:=fun _ _ k t σ=>up (rG t) σ k) (R':=RV P) j2
  fun n A env g g₁ ρ σ s s₁ x t k Q E p X r hb hq=>by
   obtain ⟨u,e⟩:=bS hb
   obtain ⟨xs,e1,e2⟩:=ar e
   cases e2
   rw [arm_eval_Slice]
   refine wpAny_bind (wpAny_pure (wpAny_bind (wpAny_holding (wpAny_pure (wpAny_bind (wpAny_holding ?_))))))
   refine am.neg (cX.vx am.int) n A env g₁ ρ σ s₁ (fun t σ=>.ret t σ) _ _ X (fun q=>by cases q) fun v s₂ g₂ t₂ σ₂ e₂ p₂ w₂ r₂=>?_
   cases e₂
   obtain ⟨tk,rfl⟩:=r₂
   refine wpAny_newObj_type ?_ (by show (3:Nat)≤sizeLine+2;decide)
   have p₃:aC g₂ s₂ g₂ {s₂ with heap:=s₂.heap.push {cls:=.type "slice",data:=.fields #[.none,.none,.int (-1) tk]},toks:=s₂.toks}:=.push _ _
   obtain ⟨l,rfl,vs,m,b1,b3,b2⟩:=(jQ.post w₂ p₃ (jQ.post X.g p₂ r)).y.ls e1
   refine tail_any ⟨_,b1,rfl⟩ slot_list_getitem.lookup (wpAny_getItem_list_slice (lo:=Option.none) (hi:=Option.none) (st:=some (-1)) ⟨_,b1,rfl,m,rfl⟩ (Heap.IsSliceOf.new s₂.heap _ _ _) .none .none (.int _ _) (by decide) ?_ (ba (b2.size▸b3))) rfl
   rw [t7,vt]
   exact i4 (tk:=s₂.toks) (s:={s₂ with heap:=s₂.heap.push {cls:=.type "slice",data:=.fields #[.none,.none,.int (-1) tk]},toks:=s₂.toks}) (w₂.push _) b2.reverse (by rw [List.length_reverse];exact b3) fun u s' g' p w r=>hq u s' g' _ σ (by rw [e];rfl) ((p₂.trans p₃).trans p) w r).map fun _ _ _ _ _=>Subscript_
theorem xU {z C D:Addr}{fp wr:List Addr}{n:Nat}{bs cs:Nat→Bool}{Pt:Nat→Array Value→Prop}{St:Nat→Heap→Prop}{Mid:Nat→Addr→Heap→Prop}{cenv:Env}{x1 x2:Str}{p1 p2 pt:Pos}{kt:Nat}{iter elt:Expr}{scope:Scope}{pos:Pos}{f:Bool→Bool→Bool}
  (W:WalksT P.prog P.w A z fp wr n Pt St Mid)(hPt:∀i v,Pt i v→v=#[.bool (bs i),.bool (cs i)])(hh:A.handled=none)(hC:cenv.locals=C)(hkd:cenv.scope.kind=.function)(hk1:cenv.kindOf x1=some .local)(hk2:cenv.kindOf x2=some .local)(hx:x1≠x2)
  (hCf:C∉fp)(hDf:D∉fp)(hDC:D≠C)(hn:n≤lim)
  (helt:∀s m b c (Q:Value→Shared→Prop) (E:Value→Shared→Prop),s.heap.Ns C m→m x1=some (.bool b)→m x2=some (.bool c)→Q (.bool (f b c)) s→wpAny P.M A (eval elt cenv) Q E s):
  ∀(k i:Nat) (s:Shared) (acc:Array Value) (cnt:Nat) (m:Str→Option Value) (R:Result→Shared→Prop),n - i=k→i≤n→St i s.heap→s.heap.Ns C m→IsL s.heap D acc cnt→acc.size=i→
   (∀h' tk acc' cnt' m',(∀b o,b∉wr→b≠C→b≠D→s.heap.get? b=some o→h'.get? b=some o)→h'.Ns C m'→IsL h' D acc' cnt'→acc'.toList=acc.toList++(List.range' i (n - i)).map (fun j=>Value.bool (f (bs j) (cs j)))→R (.ok .next) {s with heap:=h',toks:=tk})→
   codeAny P.M A (.compLoop (.ListComp elt [⟨.Tuple [.Name x1 p1,.Name x2 p2] kt pt,iter,[],0⟩] scope pos) 0 (.ref z) (.ref D) cenv) R s:=by
 have hp:(cenv.scope.kind==.class||(cenv.scope.kind==.module&&cenv.locals !=cenv.globals))=false:=by rw [hkd];rfl
 have hCw:C∉wr:=fun q=>hCf (W.sub C q)
 have hDw:D∉wr:=fun q=>hDf (W.sub D q)
 intro k
 induction k with
 |zero=>
  intro i s acc cnt m R hk hi hst hns hD hacc hR
  obtain rfl:i=n:=Nat.le_antisymm hi (Nat.le_of_sub_eq_zero hk)
  refine codeAny_of_tree ?_
  show wpAny P.M A ((compTurn (.ListComp elt [⟨.Tuple [.Name x1 p1,.Name x2 p2] kt pt,iter,[],0⟩] scope pos) 0 (.ref z) (.ref D) cenv).onRaise (fun x=>do noteFrame x cenv;theTreesLotGoes x)) _ _ s
  refine wpAny_noted ?_
  rw [compTurn_list]
  refine wpAny_bind (wpAny_standAt (wpAny_bind (W.done s _ _ hst fun h' tk hkp=>wpAny_pure ?_)))
  refine hR h' tk acc cnt m (fun b o hb _ _ e=>hkp b o hb e) (hns.at' fun o e=>hkp C o hCw e) (hkp D _ hDw hD) (by simp)
 |succ k ih=>
  intro i s acc cnt m R hk hi hst hns hD hacc hR
  have hlt:i < n:=Nat.lt_of_sub_eq_succ hk
  refine codeAny_of_tree ?_
  show wpAny P.M A ((compTurn (.ListComp elt [⟨.Tuple [.Name x1 p1,.Name x2 p2] kt pt,iter,[],0⟩] scope pos) 0 (.ref z) (.ref D) cenv).onRaise (fun x=>do noteFrame x cenv;theTreesLotGoes x)) _ _ s
  refine wpAny_noted ?_
  rw [compTurn_list]
  refine wpAny_bind (wpAny_standAt (wpAny_bind (W.item i s _ _ hlt hst fun T vals h₁ tk₁ hP hT hTup hM k₁=>?_)))
  obtain rfl:=hPt i vals hP
  refine wpAny_bind (W.go _ _ _ i T _ _ _ hM fun h₂ hst₂ k₂=>?_)
  have hTw:T∉wr:=W.apart _ _ _ hM
  have hTup₂:h₂.IsTuple T #[.bool (bs i),.bool (cs i)]:=hTup.at fun o e=>k₂ T o hTw e
  refine wpAny_bind (wpAny_assign_Tuple hh hTup₂ rfl rfl fun h₃ k₃=>?_)
  have k₃':∀b o,h₂.get? b=some o→h₃.get? b=some o:=fun b o e=>k₃ b o (fun q=>by rw [q] at e;exact absurd (Heap.lt_size e) (Nat.lt_irrefl _)) e
  have hn₃:h₃.Ns C m:=hns.at' fun o e=>k₃' C o (k₂ C o hCw (k₁ C o hCw e))
  show wpAny P.M A (holding _ (assign (.Name x1 p1) cenv (.bool (bs i))) >>=fun _=>holding _ (assign (.Name x2 p2) cenv (.bool (cs i))) >>=fun _=>pure ()) _ _ _
  subst hC
  refine wpAny_bind (wpAny_holding (wpAny_assign_Name (wpAny_storeName_local hk1 hn₃ (fun h₄ hn₄ hs₄=>?_) hp)))
  refine wpAny_bind (wpAny_holding (wpAny_assign_Name (wpAny_storeName_local hk2 hn₄ (fun h₅ hn₅ hs₅=>?_) hp)))
  have kk:∀b o,b∉wr→b≠cenv.locals→s.heap.get? b=some o→h₅.get? b=some o:=fun b o hb hbC e=>(hs₅.2 b hbC).trans ((hs₄.2 b hbC).trans (k₃' b o (k₂ b o hb (k₁ b o hb e))))
  have hD₅:IsL h₅ D acc cnt:=kk D _ hDw hDC hD
  have hst₅:St (i+1) h₅:=W.frame _ _ _ hst₂ fun b hb o e=>by
   have hbC:b≠cenv.locals:=fun q=>hCf (q▸hb)
   exact (hs₅.2 b hbC).trans ((hs₄.2 b hbC).trans (k₃' b o e))
  refine wpAny_pure (wpAny_bind (wpAny_tests_nil ?_))
  rw [if_pos rfl]
  refine wpAny_bind (wpAny_bind (helt _ _ (bs i) (cs i) _ _ hn₅ (by simp [hx]) (by simp) ?_))
  refine wpAny_bind (dJ hD₅ (wpAny_pure (wpAny_pure ⟨rfl,?_⟩)) (ba (by lia -abstractProof)))
  have hs₆:Heap.SameBut D h₅ (h₅.update D (Obj.mapSeq fun a=>a.push (.bool (f (bs i) (cs i))))):=Heap.SameBut.update ..
  refine ih (i+1) _ _ _ _ R (sF hk) hlt (W.frame _ _ _ hst₅ fun b hb o e=>(hs₆.2 b fun q=>hDf (q▸hb)).trans e) (hn₅.sameBut hs₆ (Ne.symm hDC)) (IsL.update hD₅ _) (by simp [hacc]) fun h' tk acc' cnt' m' kf hn' hD' hacc'=>?_
  refine hR h' tk acc' cnt' m' (fun b o hb hbC hbD e=>kf b o hb hbC hbD ((hs₆.2 b hbD).trans (kk b o hb hbC e))) hn' hD' ?_
  rw [hacc',Array.toList_push,List.append_assoc]
  congr 1
  have:n - i=(n - (i+1))+1:=by rw [hk,sF hk]
  rw [this,List.range'_succ];rfl
theorem tJ (f:Bool→Bool→Bool)(bs cs:List Bool):(List.range' 0 (min bs.length cs.length)).map (fun j=>Value.bool (f (bs[j]?.getD false) (cs[j]?.getD false)))=(List.zipWith f bs cs).map Value.bool:=by
 apply List.ext_getElem
 ·simp
 ·intro i h1 h2
  simp at h1 h2
  have l1:i < bs.length:=by lia
  have l2:i < cs.length:=by lia
  simp [List.getElem?_eq_getElem l1,List.getElem?_eq_getElem l2]
noncomputable def n6 (P:Pg)(scope:Scope)(x1 x2:Str)(elt:Expr)(f:Bool→Bool→Bool):Prop:=
 ∀(A:Around) (env:Env) s m b c (Q:Value→Shared→Prop) (E:Value→Shared→Prop),env.scope.kind=.function→env.kindOf x1=some .local→env.kindOf x2=some .local→s.heap.Ns env.locals m→m x1=some (.bool b)→m x2=some (.bool c)→Q (.bool (f b c)) s→wpAny P.M A (eval elt env) Q E s
theorem n6.and {scope:Scope}{x1 x2:Str}{p q r:Pos}(h1:(x1==("__debug__":Str))=false)(h2:(x2==("__debug__":Str))=false):n6 P scope x1 x2 (.BoolOp .And [.Name x1 p,.Name x2 q] r) (·&&·):=fun A env s m b c Q E hk k1 k2 hn e1 e2 h=>by
 refine wpAny_And2 (wpAny_Name (wpAny_loadName_local hk k1 hn e1 (wpAny_truthy_bool ?_)) h1)
 cases b with
 |true=>exact wpAny_Name (wpAny_loadName_local hk k2 hn e2 h) h2
 |false=>exact h
theorem n6.or {scope:Scope}{x1 x2:Str}{p q r:Pos}(h1:(x1==("__debug__":Str))=false)(h2:(x2==("__debug__":Str))=false):n6 P scope x1 x2 (.BoolOp .Or [.Name x1 p,.Name x2 q] r) (·||·):=fun A env s m b c Q E hk k1 k2 hn e1 e2 h=>by
 refine wpAny_Or2 (wpAny_Name (wpAny_loadName_local hk k1 hn e1 (wpAny_truthy_bool ?_)) h1)
 cases b with
 |true=>exact h
 |false=>exact wpAny_Name (wpAny_loadName_local hk k2 hn e2 h) h2
theorem iB:∀{xs:List T} {vs:List Value} {bs:List Bool},aP P g h xs vs→gK xs=some bs→vs=bs.map Value.bool
 | [],_,_,r,e=>by cases r;cases e;rfl
 |t::xs,_,_,⟨v,vs,e0,q,r⟩,e=>by
  obtain ⟨b,bs,e1,e2,e3⟩:=aV e
  cases e3
  rw [e0,iB r e2,eO.b (.inl q) e1];rfl
theorem nX:∀(bs:List Bool),aP P g h (bs.map T.bool) (bs.map Value.bool)
 | []=>rfl
 |b::r=>aP.cons rfl (nX r)
inductive C7 (P:Pg) (h:Heap) (f:Bool→Bool→Bool) (t:T) (u v:Value):Prop
 |mk (l1 l2:Addr) (vs ws:Array Value) (nv nw:Nat) (bs cs:List Bool) (h0:u=.ref l1) (h1:v=.ref l2) (h2:h.get? l1=some (bn vs nv)) (h3:h.get? l2=some (bn ws nw)) (h4:vs=(bs.map Value.bool).toArray) (h5:ws=(cs.map Value.bool).toArray) (h6:bs.length≤lim) (h7:t=.lst ((List.zipWith f bs cs).map T.bool))
theorem tK {a b t:T}{u v:Value}{f:Bool→Bool→Bool}(ra:eO P g h a u)(rb:eO P g h b v)(e:jn f a b=some t):C7 P h f t u v:=by
 obtain ⟨xs,ys,e1,e2,e3⟩:=aV e
 obtain ⟨bs,cs,e4,e5,e6⟩:=aV e3
 cases e6
 obtain ⟨l1,rfl,vs,nv,a1,a3,a2⟩:=ra.ls e1
 obtain ⟨l2,rfl,ws,nw,b1,b3,b2⟩:=rb.ls e2
 have hv:=iB a2 e4
 refine ⟨l1,l2,vs,ws,nv,nw,bs,cs,rfl,rfl,a1,b1,by rw [←hv],by rw [←iB b2 e5],?_,rfl⟩
 have:=a2.length
 rw [hv,List.length_map] at this
 rw [this];exact a3
theorem am.zip {e1 e2 elt:Expr}{d1 d2:PE}{x1 x2:Str}{p1 p2 pt p cp:Pos}{kt:Nat}{scope:Scope}{pos:Pos}{f:Bool→Bool→Bool}(hel:n6 P scope x1 x2 elt f)(hkind:scope.kind=.function)(hnames:∀x∈scope.names,x.2=.local→scope.names.lookup x.1=some .local)(hnocell:∀x∈scope.names,x.2≠.cell)
  (hnofree:∀x∈scope.names,x.2≠.free)(hx1:scope.names.lookup x1=some .local)(hx2:scope.names.lookup x2=some .local)(hx:x1≠x2)(hz:B.sc.names.lookup (ofString "zip")=some .globalImplicit)(hn1:∀env,starEach [e1,e2] env=(false,eval e1 env)::starEach [e2] env)(hn2:∀env,starEach [e2] env=[(false,eval e2 env)])(h1:am P B C e1 d1 (RX P))(h2:am P B C e2 d2 (RX P)):
  am P B C (.ListComp elt [⟨.Tuple [.Name x1 p1,.Name x2 p2] kt pt,.Call (.Name (ofString "zip") p) [e1,e2] [] cp,[],0⟩] scope pos) (Mine.p2 (jn f) d1 d2) (RV P):=fun n A env g ρ σ s k Q E X hb hq=>by
 show wpAny P.M A (eval _ env) Q E s
 rw [eval_ListComp]
 refine wpAny_comprehension_free (use:=Option.none) rfl (fun _=>rfl) (iz (env:=env) fun y hy=>absurd rfl (hnofree _ hy)) hkind hnames ?_
 refine Call_Name rfl (X.blt hz (by decide) (by decide) (v:=.type "zip") (by decide) ?_)
 refine bq (fun _ q=>by cases q) (bA fun q hq=>?_) (wpAny_items_cons (h1 n A env g ρ σ s _ _ E X hb fun u s₁ g₁ a σ₁ e₁ p₁ w₁ r₁=>wpAny_items_cons (h2 n A env g₁ ρ σ₁ s₁ _ _ E (X.post p₁ w₁) (fun q=>hb (e₁.trans q)) fun v s₂ g₂ b σ₂ e₂ p₂ w₂ r₂=>wpAny_items_nil ?_) (hn2 env)) (hn1 env))
 ·rw [hn1 env,hn2 env] at hq
  cases hq with
  |head=>rfl
  |tail _ h=>cases h with
   |head=>rfl
   |tail _ h=>cases h
 obtain ⟨tz,ez⟩:=bS fun q=>hb (e₁.trans (e₂.trans q))
 have p12:=p₁.trans p₂
 obtain ⟨l1,l2,vs,ws,nv,nw,bs,cs,rfl,rfl,a1,b1,hvs,hws,lz1,rfl⟩:=tK (jQ.post w₁ p₂ r₁).y (jQ.y r₂) ez
 have fin:∀s' g' x,aC g₂ s₂ g' s'→bp P g' s'.heap σ₂→Rp P g' s'.heap (.lst ((List.zipWith f bs cs).map T.bool)) x→Q x s':=fun s' g' x p w r=>hq x s' g' _ σ₂ (e₁.trans (e₂.trans (by rw [ez];rfl))) (p12.trans p) w r
 have lx:vs.size=bs.length:=by rw [hvs];simp
 have ly:ws.size=cs.length:=by rw [hws];simp
 have lt1:=Heap.lt_size a1
 have lt2:=Heap.lt_size b1
 refine call_zip_2 ⟨_,a1,rfl,nv,rfl⟩ ⟨_,b1,rfl,nw,rfl⟩ fun h₃ z1 z2 z3 z4 z5 z6 z7=>?_
 refine wpAny_pyIter_zip z1 ?_
 refine wpAny_newList ?_
 have fr:∀{a:Addr},s₂.heap.objs.size≤a→s₂.heap.get? a=Option.none:=fun {a} ha=>by
  cases e:s₂.heap.get? a with
  |none=>rfl
  |some o=>exact absurd (Heap.lt_size e) (Nat.not_lt.mpr ha)
 have hD₄:=Heap.get?_push_size h₃ (o:={cls:=.type "list",data:=.seq ([]:List Value).toArray}) rfl
 refine wpAny_newFunctionEnv hnocell (by intro y hy;simp at hy) (fun h₅ hn₅ hsb₅=>?_) hkind
 dsimp only at hn₅ hsb₅ ⊢
 generalize hH4:h₃.push {cls:=.type "list",data:=.seq ([]:List Value).toArray}=h₄ at hn₅ hsb₅ hD₄ ⊢
 have hDn:s₂.heap.get? h₃.objs.size=Option.none:=fr (by rw [z6];exact Nat.le_add_right _ _)
 have hC4:h₄.get? h₄.objs.size=Option.none:=aD _
 have k34:∀a o,h₃.get? a=some o→h₄.get? a=some o:=fun a o e=>by rw [←hH4];exact Heap.get?_push_of_some _ e
 have k45:∀a o,h₄.get? a=some o→h₅.get? a=some o:=fun a o e=>(hsb₅.2 a fun q=>by rw [q,hC4] at e;cases e).trans (Heap.get?_push_of_some _ e)
 have hCn:s₂.heap.get? h₄.objs.size=Option.none:=by
  cases e:s₂.heap.get? h₄.objs.size with
  |none=>rfl
  |some o=>rw [k34 _ _ (z7 _ _ e)] at hC4;cases hC4
 have hDC:h₃.objs.size≠h₄.objs.size:=fun q=>by rw [q] at hD₄;rw [hC4] at hD₄;cases hD₄
 have Wk:=WalksT.zip2 (prog:=P.prog) (w:=P.w) (A:=A) X.room.2.2 _ _ _ _ _ l1 l2 (zipApart_new lt1 lt2) vs ws
 have st₃:_∧_:=(⟨z1,z2,⟨_,_,z3⟩,z4,z5,⟨_,z7 _ _ a1,rfl,nv,rfl⟩,⟨_,z7 _ _ b1,rfl,nw,rfl⟩⟩:IsZip h₃ _ _ _ Value.none∧IsPair h₃ _ _ _∧(∃a b,IsPair h₃ _ a b)∧h₃.IsListIter _ l1 0∧h₃.IsListIter _ l2 0∧h₃.IsList l1 vs∧h₃.IsList l2 ws)
 have st₅:=Wk.frame 0 h₃ h₅ st₃ fun b _ o e=>k45 b o (k34 b o e)
 have live:∀b∈[s₂.heap.objs.size+4,s₂.heap.objs.size+2,s₂.heap.objs.size+3,s₂.heap.objs.size,s₂.heap.objs.size+1,l1,l2],∃o,h₃.get? b=some o:=fun b hb=>by
  simp only [List.mem_cons,List.not_mem_nil,or_false] at hb
  rcases hb with rfl |rfl |rfl |rfl |rfl |rfl |rfl
  ·exact ⟨_,z1⟩
  ·exact ⟨_,z2⟩
  ·exact ⟨_,z3⟩
  ·exact let ⟨o,e,_⟩:=z4;⟨o,e⟩
  ·exact let ⟨o,e,_⟩:=z5;⟨o,e⟩
  ·exact ⟨_,z7 _ _ a1⟩
  ·exact ⟨_,z7 _ _ b1⟩
 have ck1:(compEnvC scope (ei env scope.names []) h₄.objs.size env).kindOf x1=some .local:=lookup_relabel_local hx1
 have ck2:(compEnvC scope (ei env scope.names []) h₄.objs.size env).kindOf x2=some .local:=lookup_relabel_local hx2
 have loop:codeAny P.M A (.compLoop (.ListComp elt [⟨.Tuple [.Name x1 p1,.Name x2 p2] kt pt,.Call (.Name (ofString "zip") p) [e1,e2] [] cp,[],0⟩] scope pos) 0 (.ref (s₂.heap.objs.size+4)) (.ref h₃.objs.size) (compEnvC scope (ei env scope.names []) h₄.objs.size env))
   (compPost P.M A E Option.none Q (.ref h₃.objs.size) h₄.objs.size) {s₂ with heap:=h₅,toks:=s₂.toks+([]:List (Str×Value)).length}:=by
  refine xU (f:=f) (bs:=fun i=>bs[i]?.getD false) (cs:=fun i=>cs[i]?.getD false) Wk (fun i v hv=>?_) X.room.2.2 (C:=h₄.objs.size) rfl hkind ck1 ck2 hx (fun q=>?_) (fun q=>?_) hDC (by rw [lx,ly];lia)
   (fun s m b c Q E hns m1 m2 hq=>hel A (compEnvC scope (ei env scope.names []) h₄.objs.size env) s m b c Q E hkind ck1 ck2 hns m1 m2 hq) _ 0 _ #[] _ _ _ rfl (Nat.zero_le _) st₅ hn₅ (k45 _ _ hD₄) rfl fun h₆ tk acc' cnt' m' kf hn' hD' hacc'=>?_
  ·obtain ⟨x,y,ex,ey,rfl⟩:=hv
   rw [hvs] at ex
   rw [hws] at ey
   simp only [List.getElem?_toArray,List.getElem?_map,Option.map_eq_some_iff] at ex ey
   obtain ⟨b,eb,rfl⟩:=ex
   obtain ⟨c,ec,rfl⟩:=ey
   rw [eb,ec];rfl
  ·obtain ⟨o,e⟩:=live _ q
   rw [k34 _ _ e] at hC4;cases hC4
  ·obtain ⟨o,e⟩:=live _ q
   rw [aD] at e;cases e
  ·refine ⟨m',hn',fun h₇ hs₇=>?_⟩
   have hall:∀a o,s₂.heap.get? a=some o→h₇.get? a=some o:=fun a o e=>by
    have hlt:=Heap.lt_size e
    have haC:a≠h₄.objs.size:=fun q=>by rw [q,hCn] at e;cases e
    refine (hs₇.2 a haC).trans (kf a o (fun q=>?_) haC (fun q=>by rw [q,hDn] at e;cases e) (k45 a o (k34 a o (z7 a o e))))
    simp only [List.mem_cons,List.not_mem_nil,or_false] at q
    rcases q with rfl |rfl |rfl |rfl
    ·rw [fr (Nat.le_add_right _ _)] at e;cases e
    ·rw [fr (Nat.le_add_right _ _)] at e;cases e
    ·rw [fr (Nat.le_refl _)] at e;cases e
    ·rw [fr (Nat.le_add_right _ _)] at e;cases e
   have hzl:(List.zipWith f bs cs).length≤lim:=by rw [List.length_zipWith];lia
   have hD₇:IsL h₇ h₃.objs.size acc' cnt':=(hs₇.2 _ hDC).trans hD'
   have hacc:acc'.toList=(List.zipWith f bs cs).map Value.bool:=by
    rw [hacc',lx,ly,Nat.sub_zero]
    exact tJ f bs cs
   have p7:aC g₂ s₂ {g₂ with F:=fun y=>g₂.F y∨y=h₃.objs.size} {s₂ with heap:=h₇,toks:=tk}:=.grow tk hall _ (fun _ f=>.inl f) fun a f=>f.imp_right fun e:a=h₃.objs.size=>e▸hDn
   exact fin _ _ _ p7 (w₂.grow hall _ (fun _ f=>.inl f) fun a f=>f.imp_right fun e:a=h₃.objs.size=>e▸⟨hDn,an hD₇⟩) ⟨_,rfl,.inr rfl,acc',cnt',hD₇,by rw [List.length_map];exact hzl,by rw [hacc];exact nX _⟩
 exact codeAny_compStart_list loop (wpAny_pyIter_zip (k45 _ _ (k34 _ _ z1)) loop)
noncomputable def Dw (scope:Scope)(x1 x2:Str):Bool:=scope.kind==.function&&(scope.names.all (fun x=>!(x.2==.local)||scope.names.lookup x.1==some .local)&&(scope.names.all (fun x=>!(x.2==.cell)&&!(x.2==.free))&&((scope.names.lookup x1==some .local)&&((scope.names.lookup x2==some .local)&&!(x1==x2)))))
theorem am.zipC {e1 e2 elt:Expr}{d1 d2:PE}{x1 x2:Str}{p1 p2 pt p cp:Pos}{kt:Nat}{scope:Scope}{pos:Pos}{f:Bool→Bool→Bool}(hel:n6 P scope x1 x2 elt f)(hb:Dw scope x1 x2=true)(hz:B.sc.names.lookup (ofString "zip")=some .globalImplicit)
  (hn1:∀env,starEach [e1,e2] env=(false,eval e1 env)::starEach [e2] env)(hn2:∀env,starEach [e2] env=[(false,eval e2 env)])(h1:am P B C e1 d1 (RX P))(h2:am P B C e2 d2 (RX P)):
  am P B C (.ListComp elt [⟨.Tuple [.Name x1 p1,.Name x2 p2] kt pt,.Call (.Name (ofString "zip") p) [e1,e2] [] cp,[],0⟩] scope pos) (Mine.p2 (jn f) d1 d2) (RV P):=by
 obtain ⟨b1,hb⟩:=Bool.and_eq_true_iff.mp hb
 obtain ⟨b2,hb⟩:=Bool.and_eq_true_iff.mp hb
 obtain ⟨b3,hb⟩:=Bool.and_eq_true_iff.mp hb
 obtain ⟨b4,hb⟩:=Bool.and_eq_true_iff.mp hb
 obtain ⟨b5,b6⟩:=Bool.and_eq_true_iff.mp hb
 have b3:=fun x hx=>Bool.and_eq_true_iff.mp (List.all_eq_true.mp b3 x hx)
 refine am.zip hel (eq_of_beq b1) (fun x hx e=>?_) (fun x hx e=>?_) (fun x hx e=>?_) (eq_of_beq b4) (eq_of_beq b5) (fun e=>?_) hz hn1 hn2 h1 h2
 ·have:=List.all_eq_true.mp b2 x hx
  rw [e] at this;exact eq_of_beq this
 ·have:=(b3 x hx).1
  rw [e] at this;cases this
 ·have:=(b3 x hx).2
  rw [e] at this;cases this
 ·rw [e,beq_self_eq_true] at b6;cases b6
end
end
end Mine
namespace Mine
noncomputable section
open PySem PySem.W PyProof.Rows PySem.SeqAt
noncomputable def nQ {α β:Type}(f:α→β→Option β):List α→β→Option β
 | [],b=>some b
 |x::r,b=>o1 (f x b) (nQ f r)
noncomputable def DE (ks:List T)(kn o:T)(ds:List (List T)):Option (List (List T)):=o1 (kj ks o) fun i=>o1 i fun j=>o1 ds[j]? fun l=>bif bU (l.length+1) then some (ds.set j (l++[kn])) else none
theorem nM (ks:List T)(kn:T):∀(os:List T) (ds:List (List T)),jC ks kn os ds=nQ (DE ks kn) os ds
 | [],_=>rfl
 |o::os,ds=>by
  show o1 (kj ks o) _=o1 (o1 (kj ks o) _) _
  cases kj ks o with
  |none=>rfl
  |some i=>cases i with
   |none=>rfl
   |some j=>
    show o1 ds[j]? _=o1 (o1 ds[j]? _) _
    cases ds[j]? with
    |none=>rfl
    |some l=>
     show (bif bU (l.length+1) then _ else _)=o1 (bif bU (l.length+1) then _ else _) _
     cases bU (l.length+1) with
     |false=>rfl
     |true=>exact nM ks kn os _
noncomputable def Ez (ks:List T)(th kn:T)(ds:List (List T)):Option (List (List T)):=o1 (idxD th kn) fun l=>o1 (fR l) fun os=>jC ks kn os ds
theorem nK (ks:List T)(th:T):∀(ns:List T) (ds:List (List T)),qk ks th ns ds=nQ (Ez ks th) ns ds
 | [],_=>rfl
 |n::ns,ds=>by
  show o1 (idxD th n) _=o1 (o1 (idxD th n) _) _
  cases idxD th n with
  |none=>rfl
  |some l=>
   show o1 (fR l) _=o1 (o1 (fR l) _) _
   cases fR l with
   |none=>rfl
   |some os=>
    show o1 (jC ks n os ds) _=o1 (jC ks n os ds) _
    cases jC ks n os ds with
    |none=>rfl
    |some d=>exact nK ks th ns d
inductive uN (P:Pg) (env:Env) (g:Gh) (h:Heap) (a:Addr) (as:List Addr) (ks:List T) (ds:List (List T)):Prop
 |mk (q:(a==sysModules)=false) (o:Obj) (es:List DictEntry) (e:h.get? a=some o) (d:EM P.w ks o es) (r:aP P g h ks (es.map (·.key))) (v:es.map (·.val)=as.map Value.ref)
  (nd:as.Nodup) (na:a∉as) (lm:ku g env (a::as)) (l:as.length=ds.length) (c:∀(i:Nat) (x:Addr) (ts:List T),as[i]?=some x→ds[i]?=some ts→gN P g h x (.lst ts))
section
variable {P:Pg} {B:bx} {C:Ct} {n i:Nat} {A:Around} {env:Env} {g g':Gh} {ρ:aH} {σ:Sg} {s s':Shared} {h h':Heap} {a:Addr} {as:List Addr} {ks:List T} {ds:List (List T)} {y:Str} {k:NameKind}
theorem uN.keep (L:uN P env g h a as ks ds)(kf:aL g h g' h')(kv:∀b∈a::as,∀o,h.get? b=some o→h'.get? b=some o)(lm:ku g' env (a::as)):uN P env g' h' a as ks ds:=by
 obtain ⟨q,o,es,e,d,r,v,nd,na,_,l,c⟩:=L
 exact ⟨q,o,es,kv a List.mem_cons_self _ e,d,r.mono kf,v,nd,na,lm,l,fun i x ts h1 h2=>(c i x ts h1 h2).mono kf (kv x (List.mem_cons_of_mem _ (List.mem_of_getElem? h1)))⟩
theorem uN.vol (L:uN P env g h a as ks ds):ku g env (a::as):=let ⟨_,_,_,_,_,_,_,_,_,lm,_,_⟩:=L;lm
theorem uN.live (L:uN P env g h a as ks ds):∀b∈a::as,h.get? b≠none:=fun b hb=>by
 obtain ⟨q,o,es,e,d,r,v,nd,na,lm,l,c⟩:=L
 rcases List.mem_cons.mp hb with rfl |hb
 ·exact an e
 ·obtain ⟨i,hi⟩:=List.getElem?_of_mem hb
  have:i < ds.length:=l▸(List.getElem?_eq_some_iff.mp hi).1
  exact (c i b _ hi (List.getElem?_eq_getElem this)).live
structure cI (P:Pg) (B:bx) (C:Ct) (n:Nat) (A:Around) (env:Env) (σ:Sg) (a:Addr) (as:List Addr) (ks:List T) (g:Gh) (ρ:aH) (s:Shared) (ds:List (List T)):Prop where
 X:At P B C n A env g ρ σ s
 va:cH B env s.heap 1 (.ref a)
 L:uN P env g s.heap a as ks ds
theorem cI.post (Y:cI P B C n A env σ a as ks g ρ s ds)(p:aC g s g' s')(w:bp P g' s'.heap σ):cI P B C n A env σ a as ks g' ρ s' ds:=
 have v:=Y.L.vol.p Y.L.live p
 ⟨Y.X.post p w,Y.va.move fun b hb o e=>p.keep b o e (Y.X.env.own b hb).2.2.1,Y.L.keep (p.k Y.X.g) v.2 v.1⟩
theorem DA {W vol:List Addr}(v:ku g env vol)(l:∀a∈vol,s.heap.get? a≠none)(hW:∀a∈vol,a∉W)(p:aM [] W g s g' s'):ku g' env vol∧∀a∈vol,∀o,s.heap.get? a=some o→s'.heap.get? a=some o:=
 ⟨fun a ha=>let ⟨f,z,o,w⟩:=v a ha;⟨fun q=>(p.Fn a q).elim f fun q=>q.elim o (l a ha),fun q=>(p.Zn a q).elim z (l a ha),fun q=>(p.On a q).elim o (l a ha),w⟩,fun a ha o e=>let ⟨_,z,q,_⟩:=v a ha;p.keep a o e z q (hW a ha)⟩
theorem cI.turn {I:Addr}(Y:cI P B C n A env σ a as ks g ρ s ds)(hv:ku g env [I])(hI:I∉a::as)(hkp:∀b o,s.heap.get? b=some o→b∉[I]→h'.get? b=some o)(tk:Nat):bC [I] [I] g s g {s with heap:=h',toks:=tk}∧cI P B C n A env σ a as ks g ρ {s with heap:=h',toks:=tk} ds:=by
 obtain ⟨pV,X'⟩:=dc Y.X hv hkp tk
 have iv:=hv I (List.mem_singleton.mpr rfl)
 exact ⟨pV,X',Y.va.move fun b hb o e=>hkp b o e fun q=>iv.2.2.2 (List.mem_singleton.mp q▸hb),Y.L.keep (pV.toS.k Y.X.g fun b hb=>(hv b hb).1) (fun b hb o e=>hkp b o e fun q=>hI (List.mem_singleton.mp q▸hb)) Y.L.vol⟩
theorem cI.store {t:T}{u:Value}{Q:Unit→Shared→Prop}{E:Value→Shared→Prop}(Y:cI P B C n A env σ a as ks g ρ s ds)(hc:bY C i false C=true)(ht:B.tab[i]?=some (some (y,k)))(hk:k=.local∨k=.cell)(h1:1≠i)(r:Rp P g s.heap t u)
  (hq:∀s',bC [] (own env) g s g s'→cI P B C n A env σ a as ks g (ρ.set i (some t)) s' ds→Q () s'):wpAny P.M A (storeName env y u) Q E s:=by
 obtain ⟨hs,ho⟩:=dC hc
 have X₂:At P B C n A env g (ρ.set i none) σ s:=⟨Y.X.good,Y.X.call,Y.X.room,Y.X.env.forget hs (.refl g i) fun a ha=>(Y.X.env.own a ha).2.2.2,Y.X.g⟩
 refine iO X₂ hs.nu ht hk (by unfold br;rw [ho];exact .inl r) fun s' p X' hot=>?_
 have p:bC [] (own env) g s g s':=p.weak (fun _ h=>h) cM
 rw [set_set] at X'
 have v:=Y.L.vol.post Y.L.live p.toS
 exact hq s' p ⟨X',hot 1 _ h1 Y.va,Y.L.keep (p.toS.k Y.X.g fun a ha=>(Y.X.env.own a ha).2.1) v.2 v.1⟩
theorem aM.mono {V W W':List Addr}(p:aM V W g s g' s')(hw:∀a∈W,a∈W'):aM V W' g s g' s':={p with keep:=fun a o e z q n=>p.keep a o e z q fun x=>n (hw a x)}
theorem Bg {body:List Stmt}{p:Pos}{f:T→List (List T)→Option (List (List T))}{K:aH→Prop}{I l:Addr}{ts:List T}{vs:Array Value}{m:Nat}{R:Result→Shared→Prop}(hc:bY C i false C=true)(ht:B.tab[i]?=some (some (y,k)))(hk:k=.local∨k=.cell)(h1:1≠i)(hK:∀ρ t,K ρ→K (ρ.set i (some t))∧bz (ρ.set i (some t)) i=some t)
  (hb:∀t g ρ s ds ds₁ (Q:Flow→Shared→Prop) (E:Value→Shared→Prop),f t ds=some ds₁→cI P B C n A env σ a as ks g ρ s ds→K ρ→bz ρ i=some t→(∀s' g' ρ',aM [] (as++own env) g s g' s'→cI P B C n A env σ a as ks g' ρ' s' ds₁→K ρ'→Q .next s')→wpAny P.M A (execs body env) Q E s)(hI:I∉a::as):
  ∀(rest:List T) (j:Nat) (g:Gh) (ρ:aH) (s:Shared) (ds ds':List (List T)),j≤ts.length→ts.drop j=rest→cI P B C n A env σ a as ks g ρ s ds→K ρ→ku g env [I]→(s.heap.IsListIter I l j∧g.F l∧s.heap.get? l=some (bn vs m)∧aP P g s.heap ts vs.toList)→nQ f rest ds=some ds'→
   (∀s' g' ρ',aM [I] (I::(as++own env)) g s g' s'→cI P B C n A env σ a as ks g' ρ' s' ds'→K ρ'→R (.ok .next) s')→codeAny P.M A (.forLoop (.Name y p) (.ref I) body [] env) R s:=by
 intro rest
 induction rest with
 |nil=>
  intro j g ρ s ds ds' hle hd Y kr hv st e hq
  cases e
  obtain rfl:j=ts.length:=Nat.le_antisymm hle (List.drop_eq_nil_iff.mp hd)
  refine codeAny_of_tree ?_
  show wpAny P.M A ((forTurn (.Name y p) (.ref I) body [] env).onRaise (fun x=>do noteFrame x env;theTreesLotGoes x)) _ _ s
  refine wpAny_noted ?_
  simp only [forTurn]
  refine wpAny_bind (wpAny_standAt (wpAny_bind (wpAny_onRaise ((mQ.list (P:=P) Y.X.room.2.2).done g s _ _ st fun h' tk hkp=>wpAny_pure ⟨rfl,codeAny_block (wpAny_execs_nil ?_)⟩))))
  obtain ⟨pV,Y'⟩:=Y.turn hv hI hkp tk
  exact hq _ g ρ (pV.toS.mono fun b hb=>List.mem_cons.mpr (.inl (List.mem_singleton.mp hb))) Y' kr
 |cons t rest ih=>
  intro j g ρ s ds ds' hle hd Y kr hv st e hq
  obtain ⟨ds₁,e1,e2⟩:=ar (show o1 (f t ds) (nQ f rest)=some ds' from e)
  have hiv:ts[j]?=some t:=by rw [←List.head?_drop,hd];rfl
  have hj:j < ts.length:=(List.getElem?_eq_some_iff.mp hiv).1
  have hd':ts.drop (j+1)=rest:=by rw [←List.tail_drop,hd];rfl
  refine codeAny_of_tree ?_
  show wpAny P.M A ((forTurn (.Name y p) (.ref I) body [] env).onRaise (fun x=>do noteFrame x env;theTreesLotGoes x)) _ _ s
  refine wpAny_noted ?_
  simp only [forTurn]
  refine wpAny_bind (wpAny_standAt (wpAny_bind (wpAny_onRaise ((mQ.list (P:=P) Y.X.room.2.2).item j t g s _ _ hiv st (fun b hb=>(hv b hb).1) fun u h' tk hkp r st'=>?_))))
  obtain ⟨pV,Y'⟩:=Y.turn hv hI hkp tk
  have lI:∀b∈[I],h'.get? b≠none:=fun b hb=>by rw [List.mem_singleton.mp hb];exact let ⟨_,e,_⟩:=st'.1;an e
  have pV:=dM pV lI
  refine wpAny_bind (wpAny_pure (wpAny_bind (wpAny_assign_Name (Y'.store hc ht hk h1 r fun s₃ p₃ Y₃=>wpAny_bind (hb t g _ s₃ ds ds₁ _ _ e1 Y₃ (hK ρ t kr).1 (hK ρ t kr).2 fun s₄ g₄ ρ₄ p₄ Y₄ k₄=>wpAny_pure ⟨rfl,?_⟩)))))
  have st₃:=(mQ.list (P:=P) Y.X.room.2.2).stay _ _ _ _ _ st' (p₃.toS.k Y'.X.g fun a ha=>(Y'.X.env.own a ha).2.1) (hv.post (s:={s with heap:=h',toks:=tk}) lI p₃.toS).2
  have lI₃:∀b∈[I],s₃.heap.get? b≠none:=fun b hb=>by rw [List.mem_singleton.mp hb];exact let ⟨_,e,_⟩:=st₃.1;an e
  have iv:=hv I (List.mem_singleton.mpr rfl)
  obtain ⟨hv₄,kp₄⟩:=DA hv lI₃ (fun b hb q=>by
   rw [List.mem_singleton.mp hb] at q
   exact (List.mem_append.mp q).elim (fun q=>hI (List.mem_cons_of_mem _ q)) iv.2.2.2) p₄
  have st₄:=(mQ.list (P:=P) Y.X.room.2.2).stay _ _ _ _ _ st₃ (p₄.k Y₃.X.g fun b hb=>(List.mem_append.mp hb).elim (fun q=>(Y₃.L.vol b (List.mem_cons_of_mem _ q)).1) fun q=>(Y₃.X.env.own b q).2.1) kp₄
  have p04:aM [] (I::(as++own env)) g s g₄ s₄:=(pV.toS.mono fun b hb=>List.mem_cons.mpr (.inl (List.mem_singleton.mp hb))).trans ((p₃.toS.mono fun b hb=>List.mem_cons_of_mem _ (List.mem_append_right _ hb)).trans (p₄.mono fun b hb=>List.mem_cons_of_mem _ hb))
  exact ih (j+1) g₄ ρ₄ s₄ ds₁ ds' hj hd' Y₄ k₄ hv₄ st₄ e2 fun s' g' ρ' p' Y' k'=>hq s' g' ρ' (p04.trans p') Y' k'
end
section
variable {P:Pg} {B:bx} {C:Ct} {n i:Nat} {A:Around} {env:Env} {g g' g₁:Gh} {ρ:aH} {σ:Sg} {s s' s₁:Shared} {h h':Heap} {a:Addr} {as:List Addr} {ks:List T} {ds ds₁:List (List T)} {ms:List (Str×Nat)}
theorem oC {v:Option T}:∀{ρ:aH} {i j:Nat},j≠i→bz (ρ.set i v) j=bz ρ j
 | [],_,_,_=>rfl
 |_::_,0,0,h=>(h rfl).elim
 |_::_,0,_+1,_=>rfl
 |_::_,_+1,0,_=>rfl
 |_::ρ,i+1,j+1,h=>oC (ρ:=ρ) fun e=>h (congrArg (·+1) e)
theorem rP {v:Option T}:∀{ρ:aH} {i:Nat},i < ρ.length→bz (ρ.set i v) i=v
 | [],_,h=>(Nat.not_lt_zero _ h).elim
 |_::_,0,_=>rfl
 |_::ρ,i+1,h=>rP (ρ:=ρ) (Nat.lt_of_succ_lt_succ h)
theorem aM.drop {I:Addr}{W:List Addr}(p:aC g s g₁ s₁)(hI:s.heap.get? I=none)(q:aM [I] (I::W) g₁ s₁ g' s'):aM [] W g s g' s' where
 st:=St.trans p.st q.st
 keep a o e z o' w:=q.keep a o (p.keep a o e z) (fun x=>(p.Zn a x).elim z (an e)) (fun ⟨i,x⟩=>o' ⟨i,p.o▸x⟩) fun x=>(List.mem_cons.mp x).elim (fun x=>an e (x▸hI)) w
 back a _ e:=by
  by_cases x:a=I
  ·exact x▸hI
  ·exact p.back a (q.back a (fun y=>x (List.mem_singleton.mp y)) e)
 F a f:=q.F a (p.F a f)
 Fn a f:=(q.Fn a f).elim (fun f=>(p.Fn a f).imp_right .inr) fun x=>.inr (x.imp (fun ⟨i,x⟩=>⟨i,p.o▸x⟩) (p.back a))
 Zn a f:=(q.Zn a f).elim (p.Zn a) fun x=>.inr (p.back a x)
 On a f:=(q.On a f).imp (fun ⟨i,x⟩=>⟨i,p.o▸x⟩) (p.back a)
 sp:=q.sp.trans p.sp
 sa:=q.sa.trans p.sa
theorem v9 {fo ot kn':Str}{k1 k2 k3:NameKind}{p1 p2 p3 sp ap cp pos:Pos}{kn o:T}{Q:Flow→Shared→Prop}{E:Value→Shared→Prop}(ht1:B.tab[1]?=some (some (fo,k1)))(ht2:B.tab[2]?=some (some (kn',k2)))(ht3:B.tab[3]?=some (some (ot,k3)))(hv2:jr C 2=true)(hv3:jr C 3=true)
  (hbase:∀env,attributeBase (.Subscript (.Name fo p1) (.Name ot p2) sp) (ofString "append") env (eval (.Subscript (.Name fo p1) (.Name ot p2) sp) env)=eval (.Subscript (.Name fo p1) (.Name ot p2) sp) env)(hline:(ap.endLine==cp.line)=true)(htrees:∀env,backTo cp (starEach [.Name kn' p3] env)=[(false,eval (.Name kn' p3) env)])
  (hw:∀env,swapsWith (.Call (.Attribute (.Subscript (.Name fo p1) (.Name ot p2) sp) (ofString "append") ap) [.Name kn' p3] [] cp) none pos.line env=pure false)
  (Y:cI P B C n A env σ a as ks g ρ s ds)(e2:bz ρ 2=some kn)(e3:bz ρ 3=some o)(est:DE ks kn o ds=some ds₁)(hq:∀s',aM [] (as++own env) g s g s'→cI P B C n A env σ a as ks g ρ s' ds₁→Q .next s'):
  wpAny P.M A (exec (.Expr (.Call (.Attribute (.Subscript (.Name fo p1) (.Name ot p2) sp) (ofString "append") ap) [.Name kn' p3] [] cp) pos) env) Q E s:=by
 obtain ⟨i,f1,f2⟩:=ar est
 obtain ⟨j,rfl,f3⟩:=ar f2
 obtain ⟨l,f4,f5⟩:=ar f3
 obtain ⟨hf,rfl⟩:=cr f5
 have X:=Y.X
 obtain ⟨u3,v3,q3⟩:=X.env.var 3 _ o ht3 e3
 obtain ⟨u2,v2,q2⟩:=X.env.var 2 _ kn ht2 e2
 have r3:=iK hv3 q3
 have r2:=iK hv2 q2
 obtain ⟨κ,hk⟩:=jD f1
 obtain ⟨ad,rfl,hi,_⟩:=lO hk (.inl r3)
 obtain ⟨q,ob,es,e,d,r,v,nd,na,lm,ll,c⟩:=id Y.L
 obtain ⟨κs,c1,c2,c3⟩:=d.k
 obtain ⟨ep,dd⟩:=d.d
 obtain ⟨xs,g1,g2,g3⟩:=oU es ks κs r c1 c2
 have dh:s.heap.DictOfH (bH P.prog P.w) a xs:=⟨ob,_,ep,e,d.x,dd,g1,g3,by rw [g2];exact c3⟩
 have ff:=jg (by rw [g2];exact c1) f1 hk
 obtain ⟨z,hz,hz'⟩:=kL ff
 rw [g1,List.map_map] at v
 have vj:(as.map Value.ref)[j]?=some z.2.2:=by rw [←v,List.getElem?_map,hz];rfl
 rw [List.getElem?_map] at vj
 obtain ⟨x,hx,hxv⟩:=Option.map_eq_some_iff.mp vj
 have cl:=c j x l hx f4
 have xm:x∈as:=List.mem_of_getElem? hx
 rw [exec_Expr env _ pos (by simp [interactive,X.fn]) (hw env)]
 refine wpAny_bind (wpAny_standAt (wpAny_bind (lJ lS hbase hline htrees (Subscript_ (bi X ht1 Y.va (bi X ht3 v3 (tail_any dh.typeIs slot_dict_getitem.lookup (wpAny_getItem_heap (sO X.rm.units) hi dh (p:=z.2) (by rw [mz,ff,Option.bind_some,hz];rfl) ?_) rfl)))))))
 rw [←hxv]
 refine ⟨s9 (t:=.lst l) (.inr ⟨x,rfl,cl⟩) rfl,bi (X.post (.toks g s _) X.g:At P B C n A env g ρ σ {s with toks:=s.toks+(bH P.prog P.w).draws κ}) ht2 v2 ?_⟩
 refine jO A g σ _ x u2 (.lst l) kn (.lst (l++[kn])) _ _ X.rm X.g cl r2 (by show (bif bU (l.length+1) then some _ else Option.none)=_;rw [hf];rfl) fun h' tk hs hy=>wpAny_dropValue ?_
 have vx:ku g env [x]:=fun b hb=>List.mem_singleton.mp hb▸lm x (List.mem_cons_of_mem _ xm)
 have kk:∀b o,s.heap.get? b=some o→b∉[x]→h'.get? b=some o:=fun b o e hb=>(hs b fun q=>hb (List.mem_singleton.mpr q)).trans e
 obtain ⟨pV,X'⟩:=dc X vx kk tk
 have kf:aL g s.heap g h':=pV.toS.k X.g fun b hb=>(vx b hb).1
 have rx:=hy kf
 have pV:=dM pV fun b hb=>by rw [List.mem_singleton.mp hb];exact rx.live
 refine hq _ (pV.toS.mono fun b hb=>List.mem_append_left _ (List.mem_singleton.mp hb▸xm)) ⟨X',Y.va.move fun b hb o e=>kk b o e fun q=>(lm x (List.mem_cons_of_mem _ xm)).2.2.2 (List.mem_singleton.mp q▸hb),q,ob,es,kk a ob e fun q=>na (List.mem_singleton.mp q▸xm),d,r.mono kf,by rw [g1,List.map_map];exact v,nd,na,lm,by rw [List.length_set];exact ll,fun i b ts h1 h2=>?_⟩
 by_cases ij:i=j
 ·subst ij
  rw [hx] at h1;cases h1
  rw [List.getElem?_set_self (List.getElem?_eq_some_iff.mp f4).1] at h2;cases h2
  exact rx
 ·rw [List.getElem?_set_ne (Ne.symm ij)] at h2
  refine (c i b ts h1 h2).mono kf fun o e=>kk b o e fun q=>ij ?_
  rw [List.mem_singleton.mp q] at h1
  exact (List.getElem?_inj (List.getElem?_eq_some_iff.mp h1).1 nd).mp (h1.trans hx.symm)
theorem s6 {iter:Expr}{pi:PE}{body:List Stmt}{y:Str}{k:NameKind}{tp pos:Pos}{f:T→List (List T)→Option (List (List T))}{K:aH→Prop}{ts:List T}{Q:Flow→Shared→Prop}{E:Value→Shared→Prop}(hfs:∀env x,foldedSetIterable iter env x=pure x)(hi:am P B C iter pi (RV P))(hc:bY C i false C=true)(ht:B.tab[i]?=some (some (y,k)))(hk:k=.local∨k=.cell)(h1:1≠i)(hK:∀ρ t,K ρ→K (ρ.set i (some t))∧bz (ρ.set i (some t)) i=some t)
  (hb:∀t g ρ s ds ds₁ (Q:Flow→Shared→Prop) (E:Value→Shared→Prop),f t ds=some ds₁→cI P B C n A env σ a as ks g ρ s ds→K ρ→bz ρ i=some t→(∀s' g' ρ',aM [] (as++own env) g s g' s'→cI P B C n A env σ a as ks g' ρ' s' ds₁→K ρ'→Q .next s')→wpAny P.M A (execs body env) Q E s)
  (Y:cI P B C n A env σ a as ks g ρ s ds)(kr:K ρ)(hp:pi (P.cx n) ρ σ (fun t σ=>.ret t σ)=.ret (.lst ts) σ)(e:nQ f ts ds=some ds₁)(hq:∀s' g' ρ',aM [] (as++own env) g s g' s'→cI P B C n A env σ a as ks g' ρ' s' ds₁→K ρ'→Q .next s'):
  wpAny P.M A (exec (.For (.Name y tp) iter body [] pos) env) Q E s:=by
 refine wpAny_For (hi n A env g ρ σ s (fun t σ=>.ret t σ) _ _ Y.X (by rw [hp];exact fun q=>by cases q) fun x s₁ g₁ t σ₁ e₁ p w r=>?_) (hfs env)
 rw [hp] at e₁;cases e₁
 obtain ⟨l,rfl,fl,vs,m,b1,b3,b2⟩:=r
 refine wpAny_pyIter_list ⟨_,b1,rfl,m,rfl⟩ ?_
 obtain ⟨p',w',v⟩:=oK (X:=uo "list_iterator" l) (tk:=s₁.toks) w p
 have Y₁:=Y.post p w
 have pp:aC g₁ s₁ g₁ {s₁ with heap:=s₁.heap.push (uo "list_iterator" l),toks:=s₁.toks}:=.push _ _
 have Y₂:=Y₁.post pp w'
 have hI:=v s₁.heap.objs.size (List.mem_singleton.mpr rfl)
 refine Bg hc ht hk h1 hK hb (fun q=>Y₁.L.live _ q (aD _)) ts 0 g₁ ρ _ ds ds₁ (Nat.zero_le _) rfl Y₂ kr (fun b hb=>?_) ⟨⟨_,bD _,rfl,rfl⟩,fl,bN s₁ _ _ _ b1,b2.mono (pp.k w)⟩ e fun s' g' ρ' q Y' k'=>hq s' g' ρ' (aM.drop p' hI.1 q) Y' k'
 rw [List.mem_singleton.mp hb]
 exact ⟨hI.2.1,hI.2.2,fun ⟨j,q⟩=>(Y.X.g.O _ ⟨j,p.o▸q⟩).1 hI.1,fun q=>(Y.X.env.own _ q).1 hI.1⟩
end
structure xQ (h₀ h:Heap) (items:Array Value) (ps:List (Addr×Addr)):Prop where
 nw:∀p∈ps,h₀.get? p.1=none∧h₀.get? p.2=none
 nd:(ps.map (·.2)).Nodup
 at_:∀(i:Nat) (p:Addr×Addr),ps[i]?=some p→∃v m,items[i]?=some v∧h.get? p.1=some (g8 #[v,.ref p.2] m)∧h.get? p.2=some (bn #[] 0)
theorem xQ.keep {h₀ h h':Heap}{items:Array Value}{ps:List (Addr×Addr)}(q:xQ h₀ h items ps)(k:∀p∈ps,(∀o,h.get? p.1=some o→h'.get? p.1=some o)∧∀o,h.get? p.2=some o→h'.get? p.2=some o):xQ h₀ h' items ps:=
 ⟨q.nw,q.nd,fun i p e=>let ⟨v,m,h1,h2,h3⟩:=q.at_ i p e;⟨v,m,h1,(k p (List.mem_of_getElem? e)).1 _ h2,(k p (List.mem_of_getElem? e)).2 _ h3⟩⟩
theorem xQ.live {h₀ h:Heap}{items:Array Value}{ps:List (Addr×Addr)}(q:xQ h₀ h items ps):∀p∈ps,(∃m v,h.get? p.1=some (g8 v m))∧h.get? p.2=some (bn #[] 0):=fun p hp=>by
 obtain ⟨i,hi⟩:=List.getElem?_of_mem hp
 obtain ⟨v,m,_,h2,h3⟩:=q.at_ i p hi
 exact ⟨⟨m,_,h2⟩,h3⟩
section
variable {P:Pg} {A:Around}
theorem yS {I D l:Addr}{c:Nat}{cenv:Env}{x:Str}{px p1 p2 pt pos:Pos}{kt:Nat}{iter:Expr}{scope:Scope}{items:Array Value}{h₀:Heap}(hh:A.handled=none)(hkd:cenv.scope.kind=.function)(hkn:cenv.kindOf x=some .local)(hd:(x==("__debug__":Str))=false)(hz:items.size≤lim)
  (lI:h₀.get? I≠none)(lD:h₀.get? D≠none)(lL:h₀.get? cenv.locals≠none)(nID:I≠D)(nIL:I≠cenv.locals)(nDL:D≠cenv.locals)(hl:h₀.get? l=some (bn items c))(nl:l≠I∧l≠D∧l≠cenv.locals):
  ∀(k i:Nat) (s:Shared) (acc:Array Value) (cnt:Nat) (m:Str→Option Value) (ps:List (Addr×Addr)) (R:Result→Shared→Prop),items.size - i=k→i≤items.size→(∀b o,b≠I→b≠D→b≠cenv.locals→h₀.get? b=some o→s.heap.get? b=some o)→s.heap.IsListIter I l i→s.heap.Ns cenv.locals m→s.heap.get? D=some (bn acc cnt)→acc.toList=ps.map (fun p=>Value.ref p.1)→ps.length=i→xQ h₀ s.heap items ps→
   (∀h' tk acc' cnt' m' ps',(∀b o,b≠I→b≠D→b≠cenv.locals→h₀.get? b=some o→h'.get? b=some o)→h'.Ns cenv.locals m'→h'.get? D=some (bn acc' cnt')→acc'.toList=ps'.map (fun p=>Value.ref p.1)→ps'.length=items.size→xQ h₀ h' items ps'→R (.ok .next) {s with heap:=h',toks:=tk})→
   codeAny P.M A (.compLoop (.ListComp (.Tuple [.Name x p1,.List [] p2] kt pt) [⟨.Name x px,iter,[],0⟩] scope pos) 0 (.ref I) (.ref D) cenv) R s:=by
 have hp:(cenv.scope.kind==.class||(cenv.scope.kind==.module&&cenv.locals !=cenv.globals))=false:=by rw [hkd];rfl
 have out:∀{b:Addr},h₀.get? b=none→b≠I∧b≠D∧b≠cenv.locals:=fun e=>⟨fun q=>lI (q▸e),fun q=>lD (q▸e),fun q=>lL (q▸e)⟩
 intro k
 induction k with
 |zero=>
  intro i s acc cnt m ps R hk hi kp it hn hD' ea el pr hR
  obtain rfl:i=items.size:=Nat.le_antisymm hi (Nat.le_of_sub_eq_zero hk)
  refine codeAny_of_tree ?_
  show wpAny P.M A ((compTurn (.ListComp (.Tuple [.Name x p1,.List [] p2] kt pt) [⟨.Name x px,iter,[],0⟩] scope pos) 0 (.ref I) (.ref D) cenv).onRaise (fun x=>do noteFrame x cenv;theTreesLotGoes x)) _ _ s
  refine wpAny_noted ?_
  rw [compTurn_list]
  refine wpAny_bind (wpAny_standAt (wpAny_bind (wpAny_pyNext_list_end hh it ⟨_,kp _ _ nl.1 nl.2.1 nl.2.2 hl,rfl,c,rfl⟩ (Array.getElem?_eq_none (Nat.le_refl _)) fun h' hs=>wpAny_pure ?_)))
  exact hR h' s.toks acc cnt m ps (fun b o n1 n2 n3 e=>hs b o n1 (kp b o n1 n2 n3 e)) (hn.at fun o e=>hs _ o (Ne.symm nIL) e) (hs D _ (Ne.symm nID) hD') ea el (pr.keep fun p hp=>⟨fun o e=>hs _ o (out (pr.nw p hp).1).1 e,fun o e=>hs _ o (out (pr.nw p hp).2).1 e⟩)
 |succ k ih=>
  intro i s acc cnt m ps R hk hi kp it hn hD' ea el pr hR
  have hlt:i < items.size:=Nat.lt_of_sub_eq_succ hk
  refine codeAny_of_tree ?_
  show wpAny P.M A ((compTurn (.ListComp (.Tuple [.Name x p1,.List [] p2] kt pt) [⟨.Name x px,iter,[],0⟩] scope pos) 0 (.ref I) (.ref D) cenv).onRaise (fun x=>do noteFrame x cenv;theTreesLotGoes x)) _ _ s
  refine wpAny_noted ?_
  rw [compTurn_list]
  refine wpAny_bind (wpAny_standAt (wpAny_bind (wpAny_pyNext_list_item it ⟨_,kp _ _ nl.1 nl.2.1 nl.2.2 hl,rfl,c,rfl⟩ (Array.getElem?_eq_getElem hlt) fun h₁ it₁ hs₁=>?_)))
  have hn₁:h₁.Ns cenv.locals m:=hn.at fun o e=>(hs₁.2 _ (Ne.symm nIL)).trans e
  refine wpAny_bind (wpAny_pure (wpAny_bind (wpAny_assign_Name (wpAny_storeName_local hkn hn₁ (fun h₂ hn₂ hs₂=>wpAny_bind (wpAny_tests_nil ?_)) hp))))
  rw [if_pos rfl]
  refine wpAny_bind (wpAny_bind (wpAny_Tuple (wpAny_items_cons (wpAny_Name (wpAny_loadName_local hkd hkn hn₂ (if_pos rfl) (wpAny_items_cons (wpAny_List (wpAny_items_nil ⟨Nat.zero_le _,wpAny_items_nil ⟨(show 2≤sizeLine by decide),?_⟩⟩)) rfl)) hd) rfl)))
  have k2:∀b o,b≠I→b≠cenv.locals→s.heap.get? b=some o→h₂.get? b=some o:=fun b o n1 n2 e=>(hs₂.2 b n2).trans ((hs₁.2 b n1).trans e)
  have k4:∀b o,h₂.get? b=some o→((h₂.push (bn #[] 0)).push (g8 #[items[i],.ref h₂.objs.size] 0)).get? b=some o:=fun b o e=>Heap.get?_push_of_some _ (Heap.get?_push_of_some _ e)
  have n2:h₂.get? h₂.objs.size=none:=aD _
  have n3:(h₂.push (bn #[] 0)).get? (h₂.push (bn #[] 0)).objs.size=none:=aD _
  have d2:∀{b:Addr},h₂.get? b=none→h₀.get? b=none:=fun {b} e=>by
   cases q:h₀.get? b with
   |none=>rfl
   |some o=>
    by_cases b1:b=I
    ·exact (let ⟨_,z,_⟩:=it₁;an ((hs₂.2 I nIL).trans z) (b1▸e)).elim
    ·by_cases b2:b=cenv.locals
     ·exact (let ⟨_,_,_,z,_⟩:=hn₂;an z (b2▸e)).elim
     ·by_cases b3:b=D
      ·exact (an (k2 D _ (Ne.symm nID) nDL hD') (b3▸e)).elim
      ·exact (an (k2 b o b1 b2 (kp b o b1 b3 b2 q)) e).elim
  have d3:h₂.get? (h₂.push (bn #[] 0)).objs.size=none:=bX (fun b o e=>Heap.get?_push_of_some _ e) _ n3
  have pr₂:xQ h₀ h₂ items ps:=pr.keep fun p hp=>⟨fun o e=>k2 _ o (out (pr.nw p hp).1).1 (out (pr.nw p hp).1).2.2 e,fun o e=>k2 _ o (out (pr.nw p hp).2).1 (out (pr.nw p hp).2).2.2 e⟩
  refine wpAny_bind (dJ (k4 _ _ (k2 D _ (Ne.symm nID) nDL hD')) (wpAny_pure (wpAny_pure ⟨rfl,?_⟩)) (ba (by have:=congrArg List.length ea;rw [List.length_map,el,Array.length_toList] at this;lia -abstractProof)))
  have hs₅:=Heap.SameBut.update ((h₂.push (bn #[] 0)).push (g8 #[items[i],.ref h₂.objs.size] 0)) D (Obj.mapSeq fun a=>a.push (.ref (h₂.push (bn #[] 0)).objs.size))
  have t1:((h₂.push (bn #[] 0)).push (g8 #[items[i],.ref h₂.objs.size] 0)).get? (h₂.push (bn #[] 0)).objs.size=some (g8 #[items[i],.ref h₂.objs.size] 0):=bD _
  have t2:((h₂.push (bn #[] 0)).push (g8 #[items[i],.ref h₂.objs.size] 0)).get? h₂.objs.size=some (bn #[] 0):=Heap.get?_push_of_some _ (bD _)
  have o1:=out (d2 d3)
  have o2:=out (d2 n2)
  refine ih (i+1) _ _ _ _ (ps++[((h₂.push (bn #[] 0)).objs.size,h₂.objs.size)]) R (sF hk) hlt (fun b o n1 n2 n3 e=>(hs₅.2 b n2).trans (k4 b o (k2 b o n1 n3 (kp b o n1 n2 n3 e)))) (let ⟨o,z,r⟩:=it₁;⟨o,(hs₅.2 I nID).trans (k4 I o ((hs₂.2 I nIL).trans z)),r⟩) (hn₂.at fun o e=>(hs₅.2 _ (Ne.symm nDL)).trans (k4 _ o e)) (IsL.update (k4 _ _ (k2 D _ (Ne.symm nID) nDL hD')) _) (by rw [Array.toList_push,ea,List.map_append];rfl) (by rw [List.length_append,el];rfl) ⟨fun p hp=>?_,?_,fun j p e=>?_⟩ fun h' tk acc' cnt' m' ps'=>hR h' tk acc' cnt' m' ps'
  ·rcases List.mem_append.mp hp with hp |hp
   ·exact pr.nw p hp
   ·rw [List.mem_singleton.mp hp];exact ⟨d2 d3,d2 n2⟩
  ·rw [List.map_append,List.nodup_append]
   refine ⟨pr.nd,List.pairwise_singleton _ _,fun b hb b' hb' q=>?_⟩
   obtain ⟨p,hp,rfl⟩:=List.mem_map.mp hb
   rw [List.mem_singleton.mp (show b'∈[h₂.objs.size] from hb')] at q
   have:=(pr₂.live p hp).2
   rw [q,n2] at this;cases this
  ·by_cases q:j < ps.length
   ·rw [List.getElem?_append_left q] at e
    have hp:=List.mem_of_getElem? e
    obtain ⟨v,m,h1,h2,h3⟩:=pr₂.at_ j p e
    exact ⟨v,m,h1,(hs₅.2 _ (out (pr.nw p hp).1).2.1).trans (k4 _ _ h2),(hs₅.2 _ (out (pr.nw p hp).2).2.1).trans (k4 _ _ h3)⟩
   ·rw [List.getElem?_append_right (Nat.not_lt.mp q)] at e
    have:=(List.getElem?_eq_some_iff.mp e).1
    rw [List.length_singleton] at this
    rw [show j - ps.length=0 by lia] at e
    cases e
    exact ⟨items[i],0,by rw [show j=i by lia -abstractProof];exact Array.getElem?_eq_getElem hlt,(hs₅.2 _ o1.2.1).trans t1,(hs₅.2 _ o2.2.1).trans t2⟩
end
section
variable {P:Pg} {B:bx} {C:Ct} {n i:Nat} {A:Around} {env:Env} {g g' g₁:Gh} {ρ:aH} {σ:Sg} {s s' s₁:Shared} {h h':Heap} {a:Addr} {as:List Addr} {ks:List T} {ds ds₁:List (List T)} {ms:List (Str×Nat)}
inductive LA (P:Pg) (h:Heap) (o:Option iI) (a:Addr):Prop
 |mk (e:iI) (us:Array Value) (m:Nat) (he:o=some e) (hg:h.get? a=some (g8 us m)) (hu:us.toList=[.ref e.2.1,e.2.2]) (hk:(bH P.prog P.w).is h e.1 e.2.1)
structure LE (P:Pg) (h:Heap) (vs:List Value) (κs:List Ky) (ps:List (Addr×Addr)) (es:List iI):Prop where
 k:es.map (·.1)=κs
 v:es.map (·.2.2)=ps.map (fun p=>Value.ref p.2)
 e:vs=es.map (fun y=>Value.ref y.2.1)
 a:∀(i:Nat) p,ps[i]?=some p→LA P h es[i]? p.1
theorem qi:∀(ks:List T) (vs:List Value) (κs:List Ky) (ps:List (Addr×Addr)),aP P g h ks vs→eR ks=some κs→ps.length=vs.length→(∀(i:Nat) p v,ps[i]?=some p→vs[i]?=some v→∃m,h.get? p.1=some (g8 #[v,.ref p.2] m))→
  ∃es:List iI,LE P h vs κs ps es
 | [],vs,κs,ps,r,e,l,_=>by
  cases r;cases e
  cases List.length_eq_zero_iff.mp l
  exact ⟨[],rfl,rfl,rfl,fun i p q=>by cases q⟩
 |t::ks,_,κs,ps,⟨v,vs,e0,q,r⟩,e,l,c=>by
  subst e0
  obtain ⟨κ,κs',e1,e2,e3⟩:=aV (show o2 (wk t) (eR ks) _=some κs from e)
  cases e3
  cases ps with
  |nil=>cases l
  |cons p ps=>
   obtain ⟨ad,rfl,hi,_⟩:=lO e1 (.inl q)
   obtain ⟨m,hm⟩:=c 0 p _ rfl rfl
   obtain ⟨es,h1,h2,h3,h4⟩:=qi ks vs κs' ps r e2 (Nat.succ.inj l) fun i p v q1 q2=>c (i+1) p v q1 q2
   refine ⟨(κ,ad,.ref p.2)::es,by rw [List.map_cons,h1],by rw [List.map_cons,h2];rfl,by rw [List.map_cons,←h3],fun j p' hj=>?_⟩
   cases j with
   |zero=>cases hj;exact ⟨_,_,m,rfl,hm,rfl,hi⟩
   |succ j=>exact h4 j p' hj
theorem nP:∀{ks us:List T},dY ks us=true→∃κs,eR ks=some κs
 | [],_,_=>⟨[],rfl⟩
 |k::ks,us,e=>by
  rw [lU] at e
  match q:kj us k with
  |some none=>
   rw [q] at e
   obtain ⟨κ,hk⟩:=jD q
   obtain ⟨κs,h⟩:=nP (ks:=ks) e
   exact ⟨κ::κs,by show o2 (wk k) (eR ks) _=_;rw [hk,h];rfl⟩
  |some (some _)=>rw [q] at e;cases e
  |none=>rw [q] at e;cases e
theorem l0:∀(ks us:List T) (xs es:List iI),dY ks us=true→eR us=some (xs.map (·.1))→eR ks=some (es.map (·.1))→l7 es xs=xs++es
 | [],us,xs,es,_,_,e=>by
  cases es with
  |nil=>rw [List.append_nil];rfl
  |cons=>cases e
 |k::ks,us,xs,es,hf,hu,e=>by
  obtain ⟨κ,κs,e1,e2,e3⟩:=aV (show o2 (wk k) (eR ks) _=some (es.map (·.1)) from e)
  cases es with
  |nil=>cases e3
  |cons x es=>
   have e3:=Option.some.inj e3
   obtain ⟨rfl,e4⟩:=List.cons.inj e3
   rw [lU] at hf
   match q:kj us k with
   |some none=>
    rw [q] at hf
    have at0:atKey xs x.1=none:=by rw [mz,jg hu q e1];rfl
    have st:storedH xs x.1 x.2.1 x.2.2=xs++[x]:=storedH_new at0 _ _
    have:=l0 ks (us++[k]) (xs++[x]) es hf (by rw [List.map_append];exact rZ hu e1) (by rw [e2,e4])
    show l7 es (storedH xs x.1 x.2.1 x.2.2)=_
    rw [st,this,List.append_assoc];rfl
   |some (some _)=>rw [q] at hf;cases hf
   |none=>rw [q] at hf;cases hf
theorem uN.new {acc items:Array Value}{cnt:Nat}{D:Addr}{ps:List (Addr×Addr)}{Q:Value→Shared→Prop}{E:Value→Shared→Prop}(G:q7 P)(rm:Rm A)(w:bp P g s₁.heap σ)(r:aP P g s₁.heap ks items.toList)(hl:ks.length≤lim)(hf:dY ks []=true)(hD:s₁.heap.get? D=some (bn acc cnt))(ea:acc.toList=ps.map fun p=>Value.ref p.1)(el:ps.length=items.size)(pr:xQ h s₁.heap items ps)
  (hn:∀p∈ps,¬g.F p.2∧¬g.Z p.2)(ho:∀b,h.get? b=none→¬g.O b∧b∉own env)(hw:∀b∈own env,s₁.heap.get? b≠none)
  (hq:∀S s',aC g s₁ g s'→bp P g s'.heap σ→uN P env g s'.heap S (ps.map (·.2)) ks (ks.map fun _=>[])→s₁.heap.get? S=none→Q (.ref S) s'):wpAny P.M A (call (.type "dict") [.ref D]) Q E s₁:=by
 obtain ⟨κs,hk⟩:=nP hf
 obtain ⟨es,h1,h2,h3,h4⟩:=qi ks _ κs ps r hk (by rw [el];rfl) fun i p v q1 q2=>by
  obtain ⟨v',m,z1,z2,_⟩:=pr.at_ i p q1
  rw [Array.getElem?_toList,z1] at q2
  cases q2;exact ⟨m,z2⟩
 have hz:acc.size=ps.length:=by have:=congrArg List.length ea;rw [List.length_map] at this;exact this
 have le:es.length=ps.length:=by have:=congrArg List.length h2;rw [List.length_map,List.length_map] at this;exact this
 have li:=r.length
 refine fM (es:=es) (by have:=rm.units;lia -abstractProof) rm.handled hD (by rw [le,hz]) (by rw [hz,el];rw [Array.length_toList] at li;rw [li];exact hl) (fun i v hv=>?_) fun h' tk dd kp=>?_
 ·rw [←Array.getElem?_toList,ea,List.getElem?_map] at hv
  obtain ⟨p,hp,rfl⟩:=Option.map_eq_some_iff.mp hv
  obtain ⟨e,us,m,z1,z2,z3,z4⟩:=h4 i p hp
  exact ⟨p.1,e,us,m,rfl,z1,z2,z3,z4⟩
 have ef:=l0 ks [] [] es hf rfl (by rw [h1];exact hk)
 rw [List.nil_append] at ef
 rw [ef] at dd
 obtain ⟨o,es',ep,e,x,d,q1,q3,q4⟩:=dd
 have pp:aC g s₁ g {s₁ with heap:=h',toks:=tk}:=.grow tk kp g.F (fun _ f=>f) fun _ f=>.inl f
 have dn:=aD s₁.heap
 have lps:∀b∈ps.map (·.2),s₁.heap.get? b=some (bn #[] 0)∧h.get? b=none∧¬g.F b∧¬g.Z b:=fun b hb=>by
  obtain ⟨p,hp,rfl⟩:=List.mem_map.mp hb
  exact ⟨(pr.live p hp).2,(pr.nw p hp).2,hn p hp⟩
 refine hq _ _ pp (w.grow kp g.F (fun _ f=>f) fun _ f=>.inl f) ⟨oe G w,o,es'.toList,e,⟨x,⟨ep,d⟩,⟨κs,hk,?_,?_⟩,hl⟩,?_,?_,pr.nd,fun q=>?_,fun b hb=>?_,?_,fun i b ts b1 b2=>?_⟩ dn
 ·rw [q1,List.map_map,←h1,List.map_map];rfl
 ·rw [←h1];exact q4
 ·rw [q1,List.map_map]
  show aP P g h' ks (es.map fun y=>Value.ref y.2.1)
  rw [←h3];exact r.mono (pp.k w)
 ·rw [q1,List.map_map,List.map_map]
  exact h2
 ·have:=(lps _ q).1
  rw [dn] at this;cases this
 ·rcases List.mem_cons.mp hb with rfl |hb
  ·obtain ⟨z1,z2,z3⟩:=c9 w
   exact ⟨z1,z2,z3,fun q=>hw _ q dn⟩
  ·obtain ⟨_,z1,z2,z3⟩:=lps b hb
   exact ⟨z2,z3,(ho b z1).1,(ho b z1).2⟩
 ·rw [List.length_map,List.length_map,el];rw [Array.length_toList] at li;exact li
 ·rw [List.getElem?_map] at b2
  obtain ⟨_,_,rfl⟩:=Option.map_eq_some_iff.mp b2
  exact ⟨#[],0,kp _ _ (lps b (List.mem_of_getElem? b1)).1,Nat.zero_le _,rfl⟩
end
noncomputable def EE (scope:Scope)(x:Str):Bool:=scope.kind==.function&&(scope.names.all (fun x=>!(x.2==.local)||scope.names.lookup x.1==some .local)&&(scope.names.all (fun x=>!(x.2==.cell)&&!(x.2==.free))&&((scope.names.lookup x==some .local)&&!(x==("__debug__":Str)))))
section
variable {P:Pg} {B:bx} {C C':Ct} {n i:Nat} {A:Around} {env:Env} {g g' g₁:Gh} {ρ:aH} {σ:Sg} {s s' s₁:Shared} {h h':Heap} {a:Addr} {as:List Addr} {ks:List T} {ds ds₁:List (List T)} {ms:List (Str×Nat)}
theorem qS {c j:Nat}{w t:T}(e0:bz ρ 0=some w)(hk:mD c j w=some t):p1 (mD c j) (pV 0) (P.cx n) ρ σ (fun t σ=>.ret t σ)=.ret t σ:=by
 show up (bz ρ 0) σ (fun a σ=>up (mD c j a) σ fun t σ=>.ret t σ)=_
 rw [e0]
 show up (mD c j w) σ _=_
 rw [hk];rfl
theorem wa {x wn:Str}{k0:NameKind}{px p1 p2 pt ap np pos:Pos}{kt:Nat}{scope:Scope}{w:T}{Q:Value→Shared→Prop}{E:Value→Shared→Prop}(O:bo P 10 ms)(hB:EE scope x=true)(hv0:jr C 0=true)(ht0:B.tab[0]?=some (some (wn,k0)))(X:At P B C n A env g ρ σ s)(e0:bz ρ 0=some w)(hk:mD 10 4 w=some (.lst ks))
  (hq:∀D acc cnt items ps s' g',aC g s g' s'→bp P g' s'.heap σ→aP P g' s'.heap ks (items:Array Value).toList→ks.length≤lim→s'.heap.get? D=some (bn acc cnt)→acc.toList=ps.map (fun p:Addr×Addr=>Value.ref p.1)→ps.length=items.size→xQ s.heap s'.heap items ps→(∀p∈ps,¬g'.F p.2∧¬g'.Z p.2)→Q (.ref D) s'):
  wpAny P.M A (eval (.ListComp (.Tuple [.Name x p1,.List [] p2] kt pt) [⟨.Name x px,.Attribute (.Name wn np) (ofString "knots") ap,[],0⟩] scope pos) env) Q E s:=by
 obtain ⟨b1,hB⟩:=Bool.and_eq_true_iff.mp hB
 obtain ⟨b2,hB⟩:=Bool.and_eq_true_iff.mp hB
 obtain ⟨b3,hB⟩:=Bool.and_eq_true_iff.mp hB
 obtain ⟨b4,b5⟩:=Bool.and_eq_true_iff.mp hB
 have b3:=fun y hy=>Bool.and_eq_true_iff.mp (List.all_eq_true.mp b3 y hy)
 have hkind:scope.kind=.function:=eq_of_beq b1
 have hx:scope.names.lookup x=some .local:=eq_of_beq b4
 rw [eval_ListComp]
 refine wpAny_comprehension_free (use:=none) rfl (fun _=>rfl) (iz (env:=env) fun y hy=>?_) hkind (fun y hy e=>?_) ?_
 ·have:=(b3 _ hy).2;cases this
 ·have:=List.all_eq_true.mp b2 y hy
  rw [e] at this;exact eq_of_beq this
 have hp:=qS (P:=P) (n:=n) (σ:=σ) e0 hk
 refine am.attr O rfl (fun _=>rfl) (fun _ _=>rfl) (am.var hv0 ht0) n A env g ρ σ s (fun t σ=>.ret t σ) _ _ X (by rw [hp];exact fun q=>by cases q) fun u s₁ g₁ t σ₁ e₁ p₁ w₁ r₁=>?_
 rw [hp] at e₁;cases e₁
 obtain ⟨l,rfl,fl,items,c,c1,c3,c2⟩:=r₁
 refine wpAny_pyIter_list ⟨_,c1,rfl,c,rfl⟩ (wpAny_newList (wpAny_newFunctionEnv (fun y hy e=>?_) (fun y hy=>by cases hy) (fun h₅ hn₅ hsb₅=>?_) hkind))
 ·have:=(b3 y hy).1;rw [e] at this;cases this
 dsimp only at hn₅ hsb₅ ⊢
 have nI:s₁.heap.get? s₁.heap.objs.size=none:=aD _
 have tI:=bD (h:=s₁.heap) (uo "list_iterator" l)
 have k3:∀b o,s₁.heap.get? b=some o→(s₁.heap.push (uo "list_iterator" l)).get? b=some o:=bN s₁ _
 show codeAny _ _ _ _ _
 generalize s₁.heap.push (uo "list_iterator" l)=h₃ at *
 have nD:h₃.get? h₃.objs.size=none:=aD _
 have tD:=bD (h:=h₃) (bn #[] 0)
 have k4:∀b o,h₃.get? b=some o→(h₃.push (bn #[] 0)).get? b=some o:=fun b o e=>Heap.get?_push_of_some _ e
 have hsb₅:Heap.SameBut (h₃.push (bn #[] 0)).objs.size ((h₃.push (bn #[] 0)).push {cls:=.type "dict",data:=.dict #[]}) h₅:=hsb₅
 have hn₅:h₅.Ns (h₃.push (bn #[] 0)).objs.size (fun _=>none):=hn₅
 have nL:(h₃.push (bn #[] 0)).get? (h₃.push (bn #[] 0)).objs.size=none:=aD _
 generalize h₃.push (bn #[] 0)=h₄ at *
 have k5:∀b o,h₄.get? b=some o→h₅.get? b=some o:=fun b o e=>(hsb₅.2 b fun q=>an e (q▸nL)).trans (Heap.get?_push_of_some _ e)
 generalize h₄.objs.size=L at *
 generalize h₃.objs.size=D at *
 generalize s₁.heap.objs.size=I at *
 have eI:=k5 _ _ (k4 _ _ tI)
 have eD:=k5 _ _ tD
 have k1:∀b o,s₁.heap.get? b=some o→h₅.get? b=some o:=fun b o e=>k5 b o (k4 b o (k3 b o e))
 have nID:I≠D:=fun q=>an tI (q▸nD)
 have nIL:I≠L:=fun q=>an (k4 _ _ tI) (q▸nL)
 have nDL:D≠L:=fun q=>an tD (q▸nL)
 have nD1:s₁.heap.get? D=none:=bX k3 _ nD
 have nL1:s₁.heap.get? L=none:=bX k3 _ (bX k4 _ nL)
 have ne1:∀{b:Addr} {o:Obj},s₁.heap.get? b=some o→b≠I∧b≠D∧b≠L:=fun e=>⟨fun q=>an e (q▸nI),fun q=>an e (q▸nD1),fun q=>an e (q▸nL1)⟩
 have lL:h₅.get? L≠none:=let ⟨_,_,_,z,_⟩:=hn₅;an z
 have hkn:(compEnvC scope (ei env scope.names []) L env).kindOf x=some .local:=lookup_relabel_local hx
 have loop:codeAny P.M A (.compLoop (.ListComp (.Tuple [.Name x p1,.List [] p2] kt pt) [⟨.Name x px,.Attribute (.Name wn np) (ofString "knots") ap,[],0⟩] scope pos) 0 (.ref I) (.ref D) (compEnvC scope (ei env scope.names []) L env)) (compPost P.M A E none Q (.ref D) L) {s₁ with heap:=h₅,toks:=s₁.toks+([]:List (Str×Value)).length}:=by
  refine yS (h₀:=h₅) X.room.2.2 hkind hkn ((Bool.not_eq_true' _).mp b5) (by have:=c2.length;rw [Array.length_toList] at this;rw [this];exact c3) (an eI) (an eD) lL nID nIL nDL (k1 _ _ c1) (ne1 c1) _ 0 _ #[] 0 _ [] _ rfl (Nat.zero_le _) (fun b o _ _ _ e=>e) ⟨_,eI,rfl,rfl⟩ hn₅ eD rfl rfl ⟨(fun p hp=>by cases hp),.nil,fun i p e=>by cases e⟩ fun h' tk acc' cnt' m' ps' kp hn' hD' ea el pr=>⟨m',hn',fun h₇ hs₇=>?_⟩
  have k7:∀b o,s₁.heap.get? b=some o→h₇.get? b=some o:=fun b o e=>(hs₇.2 b (ne1 e).2.2).trans (kp b o (ne1 e).1 (ne1 e).2.1 (ne1 e).2.2 (k1 b o e))
  have p₇:aC g₁ s₁ g₁ {s₁ with heap:=h₇,toks:=tk}:=.grow tk k7 g₁.F (fun _ f=>f) fun _ f=>.inl f
  have d1:∀{b:Addr},h₅.get? b=none→s₁.heap.get? b=none:=fun e=>bX k1 _ e
  refine hq D acc' cnt' items ps' _ g₁ (p₁.trans p₇) (w₁.grow k7 g₁.F (fun _ f=>f) fun _ f=>.inl f) (c2.mono (p₇.k w₁)) c3 ((hs₇.2 D nDL).trans hD') ea el ⟨fun p hp=>⟨p₁.back _ (d1 (pr.nw p hp).1),p₁.back _ (d1 (pr.nw p hp).2)⟩,pr.nd,fun i p e=>?_⟩ fun p hp=>⟨fun f=>w₁.F _ f (d1 (pr.nw p hp).2),fun z=>(w₁.Z _ z).1 (d1 (pr.nw p hp).2)⟩
  have hp:=List.mem_of_getElem? e
  obtain ⟨v,m,q1,q2,q3⟩:=pr.at_ i p e
  exact ⟨v,m,q1,(hs₇.2 _ fun q=>lL (q▸(pr.nw p hp).1)).trans q2,(hs₇.2 _ fun q=>lL (q▸(pr.nw p hp).2)).trans q3⟩
 exact codeAny_compStart_list loop (wpAny_pyIter_listiter ⟨_,eI,rfl,rfl⟩ loop)
theorem At.one {w:T}(X:At P B C n A env g ρ σ s)(e0:bz ρ 0=some w)(h0:0∉C.U):At P B C n A env g [some w,none,none,none] σ s:=
 have k:∀{i:Nat} {t:T},bz [some w,none,none,none] i=some t→i=0∧t=w:=fun {i t} e=>by
  match i,e with
  | 0,e=>cases e;exact ⟨rfl,rfl⟩
  | 1,e=>cases e
  | 2,e=>cases e
  | 3,e=>cases e
  |_+4,e=>cases e
 ⟨X.good,X.call,X.room,{X.env with
  var:=fun i y t ht hv=>let ⟨h1,h2⟩:=k hv;X.env.var i y t ht (by rw [h1,h2];exact e0)
  un:=fun i hi=>by
   cases e:bz [some w,none,none,none] i with
   |none=>rfl
   |some t=>exact (h0 ((k e).1▸hi)).elim},X.g⟩
theorem bp.freezeL {l:List Addr}(w:bp P g h σ)(hl:∀b∈l,h.get? b≠none∧¬g.Z b∧¬g.O b):bp P {g with F:=fun y=>g.F y∨y∈l} h σ:=by
 have kf:aL g h {g with F:=fun y=>g.F y∨y∈l} h:=⟨fun b f=>⟨.inl f,fun _ e=>e⟩,rfl⟩
 exact ⟨fun b o e=>⟨.inl (w.base b o e).1,(w.base b o e).2⟩,fun b f=>f.elim (w.F b) fun q=>(hl b q).1,fun b q=>⟨(w.Z b q).1,fun f=>f.elim (w.Z b q).2 fun e=>(hl b e).2.1 q⟩,
  fun b q=>⟨(w.O b q).1,fun f=>f.elim (w.O b q).2.1 fun e=>(hl b e).2.2 q,(w.O b q).2.2⟩,w.oo,w.spot,fun c ts e=>(w.self c ts e).mono kf (fun _ q=>⟨q,fun _ e=>e⟩) rfl⟩
theorem uN.rp (L:uN P env g h a as ks ds):Rp P {g with F:=fun y=>g.F y∨y∈a::as} h (.dct ks (ds.map .lst)) (.ref a):=by
 have kf:aL g h {g with F:=fun y=>g.F y∨y∈a::as} h:=⟨fun b f=>⟨.inl f,fun _ e=>e⟩,rfl⟩
 obtain ⟨q,o,es,e,d,r,v,nd,na,lm,l,c⟩:=L
 refine ⟨a,rfl,.inr List.mem_cons_self,q,o,es,e,d,r.mono kf,?_⟩
 rw [v]
 refine aP.of (by rw [List.length_map,List.length_map];exact l) fun i u t h1 h2=>?_
 rw [List.getElem?_map] at h1 h2
 obtain ⟨x,hx,rfl⟩:=Option.map_eq_some_iff.mp h1
 obtain ⟨ts,ht,rfl⟩:=Option.map_eq_some_iff.mp h2
 exact ((c i x ts hx ht).mono kf fun _ e=>e).rp (.inr (List.mem_cons_of_mem _ (List.mem_of_getElem? hx)))
theorem AX {wn fo kn' ot x:Str}{k0 k1 k2 k3:NameKind}{q1 q2 q3 q4 px p1 p2 pt ap np cpos tp np2 ap2 fpos tp2 np3 ap3 sp3 kp3 fpos2 f1 f2 f3 fs fa fc fe rp rr:Pos}{kt:Nat}{scope:Scope}(O:bo P 10 ms)(hB:EE scope x=true)(h0:C.U.all (fun i=>Nat.ble 1 i)=true)(hv:(jr C 0&&(jr C 2&&jr C 3))=true)(hc:(bY C 1 false C&&(bY C 2 false C&&bY C 3 false C))=true)
  (ht0:B.tab[0]?=some (some (wn,k0)))(ht1:B.tab[1]?=some (some (fo,k1)))(ht2:B.tab[2]?=some (some (kn',k2)))(ht3:B.tab[3]?=some (some (ot,k3)))(hk1:k1=.local∨k1=.cell)(hk2:k2=.local∨k2=.cell)(hk3:k3=.local∨k3=.cell)
  (hx:B.sc.names.lookup (ofString "dict")=some .globalImplicit)(hw1:uQ (.Call (.Name (ofString "dict") q2) [.ListComp (.Tuple [.Name x p1,.List [] p2] kt pt) [⟨.Name x px,.Attribute (.Name wn np) (ofString "knots") ap,[],0⟩] scope cpos] [] q3) fo q1 q4.line B.sc=false)
  (hbase:∀env,attributeBase (.Subscript (.Name fo f1) (.Name ot f2) fs) (ofString "append") env (eval (.Subscript (.Name fo f1) (.Name ot f2) fs) env)=eval (.Subscript (.Name fo f1) (.Name ot f2) fs) env)(hline:(fa.endLine==fc.line)=true)
  (hw:∀env,swapsWith (.Call (.Attribute (.Subscript (.Name fo f1) (.Name ot f2) fs) (ofString "append") fa) [.Name kn' f3] [] fc) none fe.line env=pure false):
  gM P B C false C' [.Assign [.Name fo q1] (.Call (.Name (ofString "dict") q2) [.ListComp (.Tuple [.Name x p1,.List [] p2] kt pt) [⟨.Name x px,.Attribute (.Name wn np) (ofString "knots") ap,[],0⟩] scope cpos] [] q3) q4,
   .For (.Name kn' tp) (.Attribute (.Name wn np2) (ofString "knots") ap2) [.For (.Name ot tp2) (.Subscript (.Attribute (.Name wn np3) (ofString "threads") ap3) (.Name kn' kp3) sp3) [.Expr (.Call (.Attribute (.Subscript (.Name fo f1) (.Name ot f2) fs) (ofString "append") fa) [.Name kn' f3] [] fc) fe] [] fpos2] [] fpos,
   .Return (some (.Name fo rp)) rr] tL:=fun n A env g ρ σ s k Q E X hb hq hr=>by
 obtain ⟨hv0,hv⟩:=Bool.and_eq_true_iff.mp hv
 obtain ⟨hv2,hv3⟩:=Bool.and_eq_true_iff.mp hv
 obtain ⟨hc1,hc⟩:=Bool.and_eq_true_iff.mp hc
 obtain ⟨hc2,hc3⟩:=Bool.and_eq_true_iff.mp hc
 unfold tL at hb hr
 cases e0:bz ρ 0 with
 |none=>rw [e0] at hb;exact absurd rfl hb
 |some w=>
  cases el:wb w with
  |none=>simp only [e0,el] at hb;exact absurd rfl hb
  |some t=>
   simp only [e0,el] at hr
   obtain ⟨kl,a1,a2⟩:=ar el
   obtain ⟨ks,a3,a4⟩:=ar a2
   obtain ⟨th,a5,a6⟩:=ar a4
   obtain ⟨a7,a8⟩:=o9 a6
   obtain ⟨ds,a9,a10⟩:=ar a8
   cases a10
   cases d9 a3
   obtain ⟨_,hf⟩:=Bool.and_eq_true_iff.mp a7
   rw [nK] at a9
   have X:=X.one e0 fun q=>by cases Nat.le_of_ble_eq_true (List.all_eq_true.mp h0 0 q)
   refine wpAny_execs_cons (wpAny_Assign_Name (Call_Name rfl (X.blt hx (by decide) (by decide) (v:=.type "dict") (by decide) (bq (fun _ q=>by cases q) (bA fun q hq=>?_) (wpAny_items_cons (wa O hB hv0 ht0 X rfl a1 fun D acc cnt items ps s₁ g₁ p₁ w₁ r₁ l₁ hD ea eq pr hn=>wpAny_items_nil ?_) rfl)))) (by rw [js X.env.sc,hw1]))
   ·cases hq with
    |head=>rfl
    |tail _ h=>cases h
   refine uN.new (env:=env) X.good X.rm w₁ r₁ l₁ hf hD ea eq pr hn (fun b hb=>⟨fun ⟨i,q⟩=>(X.g.O b ⟨i,p₁.o▸q⟩).1 hb,fun q=>(X.env.own b q).1 hb⟩) (fun b hb=>p₁.live (X.env.own b hb).1) fun S s₂ p₂ w₂ L nS=>?_
   have p02:=p₁.trans p₂
   refine nq (o:=none) (X.post p02 w₂) (dC hc1).1.nu ht1 hk1 (fun _ e=>nomatch e) fun s₃ p₃ X₃ va _=>?_
   have p₃:bC [] (own env) g₁ s₂ g₁ s₃:=p₃.weak (fun _ h=>h) cM
   have v₃:=L.vol.post L.live p₃.toS
   have Y:cI P B C n A env σ S (ps.map (·.2)) ks g₁ [some w,none,none,none] s₃ (ks.map fun _=>[]):=⟨X₃,va,L.keep (p₃.toS.k w₂ fun b hb=>((X.post p02 w₂).env.own b hb).2.1) v₃.2 v₃.1⟩
   have p03:aM [] (own env) g s g₁ s₃:=p02.toS.trans p₃.toS
   refine wpAny_execs_cons (s6 (i:=2) (f:=Ez ks th) (K:=fun ρ=>bz ρ 0=some w∧ρ.length=4) (fun _ _=>rfl) (am.attr O rfl (fun _=>rfl) (fun _ _=>rfl) (am.var hv0 ht0)) hc2 ht2 hk2 (by decide) (fun ρ t h=>⟨⟨(oC (by decide)).trans h.1,by rw [List.length_set];exact h.2⟩,rP (by rw [h.2];decide)⟩) (fun t g ρ s ds ds₁ Q E e Y kr et hq=>?_) Y ⟨rfl,rfl⟩ (qS rfl a1) a9 fun s₅ g₅ ρ₅ q Y₅ k₅=>?_)
   ·obtain ⟨lv,f1,f2⟩:=ar e
    obtain ⟨os,f3,f4⟩:=ar f2
    cases d9 f3
    rw [nM] at f4
    refine wpAny_execs_cons (s6 (i:=3) (f:=DE ks t) (K:=fun ρ=>(bz ρ 0=some w∧ρ.length=4)∧bz ρ 2=some t) (fun _ _=>rfl) (am.idxD (fun _ _=>rfl) (cX.vx (am.attr O (i:=6) rfl (fun _=>rfl) (fun _ _=>rfl) (am.var hv0 ht0))) (cX.vx (am.var hv2 ht2))) hc3 ht3 hk3 (by decide) (fun ρ t h=>⟨⟨⟨(oC (by decide)).trans h.1.1,by rw [List.length_set];exact h.1.2⟩,(oC (by decide)).trans h.2⟩,rP (by rw [h.1.2];decide)⟩) (fun o g ρ s ds ds₁ Q E e Y kr eo hq=>?_) Y ⟨kr,et⟩ (ts:=os) ?_ f4 fun s' g' ρ' q Y' k'=>wpAny_execs_nil (hq s' g' ρ' q Y' k'.1))
    ·exact wpAny_execs_cons (v9 ht1 ht2 ht3 hv2 hv3 hbase hline (fun _=>rfl) hw Y kr.2 eo e fun s' q Y'=>wpAny_execs_nil (hq s' g ρ q Y' kr))
    ·show up (bz ρ 0) σ (fun a σ=>up (mD 10 6 a) σ fun t σ=>up (bz ρ 2) σ fun b σ=>up (idxD t b) σ fun t σ=>.ret t σ)=_
     simp only [kr.1,up,a5,et,f1]
   ·have dd:∀b∈S::ps.map (·.2),s.heap.get? b=none:=fun b hb=>by
     rcases List.mem_cons.mp hb with rfl |hb
     ·exact p₁.back _ nS
     ·obtain ⟨p,hp,rfl⟩:=List.mem_map.mp hb
      exact (pr.nw p hp).2
    have wF:=Y₅.X.g.freezeL (l:=S::ps.map (·.2)) fun b hb=>⟨Y₅.L.live b hb,(Y₅.L.vol b hb).2.1,(Y₅.L.vol b hb).2.2.1⟩
    refine wpAny_execs_cons (wpAny_Return_some (bi Y₅.X ht1 Y₅.va (hr _ s₅ _ _ σ rfl ?_ wF Y₅.L.rp)))
    exact ⟨St.trans p03.st q.st,fun b o e z o' w=>q.keep b o (p03.keep b o e z o' w) (fun x=>(p03.Zn b x).elim z (an e)) (fun x=>(p03.On b x).elim o' (an e)) fun x=>(List.mem_append.mp x).elim (fun x=>an e (dd b (List.mem_cons_of_mem _ x))) w,fun b _ e=>p03.b b (q.b b e),fun b f=>.inl (q.F b (p03.F b f)),
     fun b f=>f.elim (fun f=>(q.Fn b f).elim (p03.Fn b) fun x=>.inr (x.elim (p03.On b) fun x=>.inr (p03.b b x))) fun x=>.inr (.inr (dd b x)),fun b f=>(q.Zn b f).elim (p03.Zn b) fun x=>.inr (p03.b b x),fun b f=>(q.On b f).elim (p03.On b) fun x=>.inr (p03.b b x),q.sp.trans p03.sp,q.sa.trans p03.sa⟩
end
end
end Mine
end
section
namespace Mine
open PySem
noncomputable abbrev Tb:=List (Option (Str×NameKind))
noncomputable abbrev lo (x:String):Option (Str×NameKind):=some (ofString x,.local)
noncomputable abbrev ce (x:String):Option (Str×NameKind):=some (ofString x,.cell)
universe u v w
theorem rf {α:Sort u}{β:Sort v}{f:α→β}(a:α):f a=f a:=rfl
theorem Fg {α:Sort u}{β:Sort v}{γ:Sort w}{f:α→β→γ}(a:α)(b:β):f a b=f a b:=rfl
theorem c7.badZ {P:Pg}{B:bx}{C C':Ct}{fr:Bool}{ss:List Stmt}:gM P B C fr C' ss gZ:=fun n A env g ρ σ s k Q E X hb hq hr=>absurd rfl hb
end Mine
end
section
set_option tactic.hygienic false
namespace Mine
noncomputable section
open PySem PyProof.Rows
noncomputable abbrev Mo (α:Type):=Nat→Option (α×Nat)
section
variable {α β γ:Type}
noncomputable def mR (a:α):Mo α:=fun s=>some (a,s)
noncomputable def mF:Mo α:=fun _=>none
noncomputable def mB (x:Mo α)(f:α→Mo β):Mo β:=fun s=>Option.rec none (fun q=>Prod.rec f q) (x s)
noncomputable def mN (f:Nat→Mo α):Mo α:=fun s=>f (s % 100000) (s / 100000)
noncomputable def jH (b:Bool)(f:b=true→α)(d:α):α:=Bool.rec (motive:=fun b=>(b=true→α)→α) (fun _=>d) (fun f=>f rfl) b f
noncomputable def mG (b:Bool)(f:b=true→Mo α):Mo α:=jH b f mF
noncomputable def m2 (a b:Mo α):Mo α:=mN fun d=>bif Nat.beq d 0 then a else b
noncomputable def mU {S:β→Prop}(x:Mo {p:β // S p})(f:∀p,S p→Mo α):Mo α:=mB x fun a=>Subtype.rec f a
noncomputable def ej {α:List γ→Type}(l:List γ)(n:Mo (α []))(f:∀x r,Mo (α (x::r))):Mo (α l):=List.rec (motive:=fun l=>Mo (α l)) n (fun x r _=>f x r) l
noncomputable def iL {α:List γ→Type}(l:List γ)(n:Mo (α [])):Mo (α l):=ej l n fun _ _=>mF
noncomputable def n8 {α:List γ→Type}(l:List γ)(f:∀x,Mo (α [x])):Mo (α l):=ej l mF fun x r=>iL (α:=fun r=>α (x::r)) r (f x)
noncomputable def xX {α:List γ→Type}(l:List γ)(f:∀x y,Mo (α [x,y])):Mo (α l):=ej l mF fun x r=>n8 (α:=fun r=>α (x::r)) r (f x)
end
theorem ri {b:Bool}(h:(!b)=true):b=false:=(Bool.not_eq_true' b).mp h
theorem sb {γ:Type} [BEq γ] [LawfulBEq γ] {α:γ→Prop}{y z:γ}(h:(y==z)=true)(a:α z):α y:=(eq_of_beq h)▸a
noncomputable def uu (k:Nat)(e:Expr):Bool:=Nat.beq e.ctorIdx k
noncomputable def ik (e:Expr):Bool:=!uu 22 e&&(!uu 26 e&&!uu 7 e)
noncomputable def Et (e:Expr):Bool:=!uu 0 e&&(!uu 3 e&&(!uu 5 e&&!uu 15 e))
structure Pl (e:Expr):Prop where
 star:∀es env,starEach (e::es) env=(false,eval e env)::starEach es env
 subs:∀x y,subscripted e false x y=operate [x,y] (getItem x y)
 fold:∀env x,foldedSetIterable e env x=pure x
 beh:∀op,behindInMarks op e=false
 base:uu 16 e=false→∀name env,attributeBase e name env (eval e env)=eval e env
 tv:Et e=true→∀env whole,isTrue e env whole=(do let v ←whole;standAt e.pos;holding [v] (truthy v))
 sws:∀a i p l env,swapsWith e (some (.Subscript a i p)) l env=pure false
 swa:∀a x p l env,swapsWith e (some (.Attribute a x p)) l env=pure false
theorem pl {e:Expr}(h:ik e=true):Pl e:=by
 cases e<;>first |exact ⟨fun _ _=>rfl,fun _ _=>rfl,fun _ _=>rfl,fun _=>rfl,fun _ _ _=>rfl,fun _ _ _=>rfl,fun _ _ _ _ _=>rfl,fun _ _ _ _ _=>rfl⟩ |exact ⟨fun _ _=>rfl,fun _ _=>rfl,fun _ _=>rfl,fun _=>rfl,fun _ _ _=>rfl,(fun h=>nomatch h),fun _ _ _ _ _=>rfl,fun _ _ _ _ _=>rfl⟩ |exact ⟨fun _ _=>rfl,fun _ _=>rfl,fun _ _=>rfl,fun _=>rfl,(fun h=>nomatch h),fun _ _ _=>rfl,fun _ _ _ _ _=>rfl,fun _ _ _ _ _=>rfl⟩ |cases h
theorem bt {e:Expr}(h:ik e=true)(pos:Pos)(env:Env):backTo pos (starEach [e] env)=[(false,eval e env)]:=by rw [(pl h).star];rfl
theorem EC {o1 o2:CmpOp}{m r:Expr}(h:ik r=true)(env:Env):markedEach [o1,o2] [m,r] (evalEach [m,r] env)=[eval m env,eval r env]:=by
 show [eval m env,markedBehindIn o2 r (eval r env)]=_
 unfold markedBehindIn;rw [(pl h).beh o2]
section
variable {α:Expr→Type} (e:Expr)
noncomputable def vC {k:Nat}(d:Mo (α e))(f:e.ctorIdx=k→Mo (α e)):Mo (α e):=jH (uu k e) (fun h=>f (Nat.eq_of_beq_eq_true h)) d
noncomputable def bL (d:Mo (α e))(f:∀y p,Mo (α (.Name y p))):Mo (α e):=vC e d fun h=>Expr.Name.elim (motive_1:=fun e=>Mo (α e)) e h f
noncomputable def kP (d:Mo (α e))(f:∀o x p,Mo (α (.Attribute o x p))):Mo (α e):=vC e d fun h=>Expr.Attribute.elim (motive_1:=fun e=>Mo (α e)) e h f
noncomputable def jS (d:Mo (α e))(f:∀g es p,Mo (α (.Call g es [] p))):Mo (α e):=vC e d fun h=>Expr.Call.elim (motive_1:=fun e=>Mo (α e)) e h fun g es ks p=>iL (α:=fun ks=>α (.Call g es ks p)) ks (f g es p)
noncomputable def Au (d:Mo (α e))(f:∀es k p,Mo (α (.Tuple es k p))):Mo (α e):=vC e d fun h=>Expr.Tuple.elim (motive_1:=fun e=>Mo (α e)) e h f
noncomputable def xY (f:∀i k p,Mo (α (.Constant (.int i) k p))):Mo (α e):=vC e mF fun h=>Expr.Constant.elim (motive_1:=fun e=>Mo (α e)) e h fun c k p=>jH (Nat.beq c.ctorIdx 2) (fun h=>Const.int.elim (motive:=fun c=>Mo (α (.Constant c k p))) c (Nat.eq_of_beq_eq_true h) fun i=>f i k p) mF
noncomputable def zJ (d:Mo (α e))(f:∀elt t i fs s p,Mo (α (.ListComp elt [⟨t,i,fs,0⟩] s p))):Mo (α e):=vC e d fun h=>Expr.ListComp.elim (motive_1:=fun e=>Mo (α e)) e h fun elt gs s p=>n8 (α:=fun gs=>α (.ListComp elt gs s p)) gs fun g=>Comprehension.casesOn (motive_3:=fun g=>Mo (α (.ListComp elt [g] s p))) g fun t i fs a=>jH (a==0) (fun h=>Eq.rec (motive:=fun a _=>Mo (α (.ListComp elt [⟨t,i,fs,a⟩] s p))) (f elt t i fs s p) (eq_of_beq h).symm) mF
noncomputable def Av (d:Mo (α e))(f:∀a b c p,Mo (α (.Slice a b c p))):Mo (α e):=vC e d fun h=>Expr.Slice.elim (motive_1:=fun e=>Mo (α e)) e h f
noncomputable def EO (f:∀op e p,Mo (α (.UnaryOp op e p))):Mo (α e):=vC e mF fun h=>Expr.UnaryOp.elim (motive_1:=fun e=>Mo (α e)) e h f
end
noncomputable abbrev LT:=List (Str×Nat)×List (Str×Nat)×List (Str×Nat)×List (Str×T)
noncomputable def LT.ms (L:LT)(b:Bool):List (Str×Nat):=bif b then L.2.1 else L.2.2.1
noncomputable def rj (b:Bool):Nat:=bif b then 0 else 10
structure fJ (P:Pg) (L:LT):Prop where
 fn:∀p∈L.1,∃F,P.Ψ p.2=some F∧P.gl p.2=true∧(P.fd p.2).name=p.1
 o:∀b,bo P (rj b) (L.ms b)
 me:∀b,∀p∈L.ms b,∃F,P.Ψ p.2=some F
 g:∀b,P.mg (bif b then ofString "Machine" else ofString "Web")=some (.ref (P.cls (rj b)))
 cs:∀p∈L.2.2.2,∃u,P.mg p.1=some u∧∀g h,Rp P g h p.2 u
theorem m6 {α:Type}{y:Str}{t:α}{l:List (Str×α)}(h:l.lookup y=some t):(y,t)∈l:=let ⟨_,_,e,_⟩:=List.lookup_eq_some_iff.mp h;e▸List.mem_append_right _ List.mem_cons_self
noncomputable def mO {α β:Type}(l:List (Str×β))(y:Str)(d:Mo α)(f:∀t,(y,t)∈l→Mo α):Mo α:=Option.rec (motive:=fun o=>(∀t,o=some t→Mo α)→Mo α) (fun _=>d) (fun t f=>f t rfl) (l.lookup y) fun t h=>f t (m6 h)
noncomputable def KR (P:Pg)(k:Option Bool):RR Value T:=Option.rec (RX P) (fun b=>Bool.rec (RV P) (RN P) b) k
noncomputable abbrev RE (P:Pg)(B:bx)(C:Ct)(e:Expr):=(k:Option Bool)×{p:PE // am P B C e p (KR P k)}
noncomputable abbrev FE (P:Pg):=∀(B:bx) (C:Ct) (e:Expr),Mo (RE P B C e)
noncomputable abbrev FT (P:Pg):=∀(B:bx) (C:Ct) (e:Expr),Mo {p:PT // cb P B C e p}
noncomputable abbrev Gi (B:bx)(y:Str):Bool:=(B.sc.names.lookup y==some .globalImplicit)&&!(y==("__debug__":Str))
theorem gi {B:bx}{y:Str}(h:Gi B y=true):B.sc.names.lookup y=some .globalImplicit:=eq_of_beq (Bool.and_eq_true_iff.mp h).1
theorem DZ {B:bx}{y:Str}(h:Gi B y=true):(y==("__debug__":Str))=false:=ri (Bool.and_eq_true_iff.mp h).2
theorem xO {B:bx}{y z:Str}(q:(y==z)=true)(h:Gi B y=true):B.sc.names.lookup z=some .globalImplicit:=eq_of_beq q▸gi h
noncomputable def slot (l:Tb)(y:Str):Nat:=l.findIdx fun o=>Option.rec false (fun q=>q.1==y) o
noncomputable def knd (l:Tb)(i:Nat):NameKind:=((l[i]?.getD none).getD (ofString "",.local)).2
noncomputable def wR (C:Ct)(i:Nat):Ct:=⟨C.O.filter fun j=>!Nat.beq j i,C.U,C.m⟩
noncomputable def Bz (C:Ct)(i:Nat):Ct:=⟨C.O.filter (fun j=>Nat.blt j i)++i::C.O.filter (fun j=>Nat.blt i j),C.U,C.m⟩
noncomputable def CR (C:Ct)(i:Nat):Ct:=⟨C.O,C.U.filter fun j=>!Nat.beq j i,C.m⟩
section
variable {P:Pg} {L:LT} (D:fJ P L) (E:FE P) (Tr:FT P) (B:bx) (C:Ct) {β:Type}
section
variable {e:Expr}
noncomputable def rv (p:PE)(h:am P B C e p (RV P)):Mo (RE P B C e):=mR ⟨some false,p,h⟩
noncomputable def rn (p:PE)(h:am P B C e p (RN P)):Mo (RE P B C e):=mR ⟨some true,p,h⟩
noncomputable def rx (p:PE)(h:am P B C e p (RX P)):Mo (RE P B C e):=mR ⟨none,p,h⟩
end
section
variable (e:Expr)
noncomputable def mV (f:∀p,am P B C e p (RV P)→Mo β):Mo β:=mB (E B C e) fun r=>Option.rec (motive:=fun k=>{p:PE // am P B C e p (KR P k)}→Mo β) (fun _=>mF) (fun b=>Bool.rec (motive:=fun b=>{p:PE // am P B C e p (KR P (some b))}→Mo β) (fun a=>Subtype.rec f a) (fun a=>Subtype.rec (fun p h=>f p (cX.nv h)) a) b) r.1 r.2
noncomputable def mX (f:∀p,am P B C e p (RX P)→Mo β):Mo β:=mB (E B C e) fun r=>Option.rec (motive:=fun k=>{p:PE // am P B C e p (KR P k)}→Mo β) (fun a=>Subtype.rec f a) (fun b=>Bool.rec (motive:=fun b=>{p:PE // am P B C e p (KR P (some b))}→Mo β) (fun a=>Subtype.rec (fun p h=>f p (cX.vx h)) a) (fun a=>Subtype.rec (fun p h=>f p (cX.nx h)) a) b) r.1 r.2
noncomputable def mW (f:∀p,am P B C e p (RN P)→Mo β):Mo β:=mB (E B C e) fun r=>Option.rec (motive:=fun k=>{p:PE // am P B C e p (KR P k)}→Mo β) (fun _=>mF) (fun b=>Bool.rec (motive:=fun b=>{p:PE // am P B C e p (KR P (some b))}→Mo β) (fun _=>mF) (fun a=>Subtype.rec f a) b) r.1 r.2
end
noncomputable def vZ (y:Str)(d:Mo β)(f:∀(i:Nat) (k:NameKind),B.tab[i]?=some (some (y,k))→Mo β):Mo β:=jH (B.tab[slot B.tab y]?==some (some (y,knd B.tab (slot B.tab y)))) (fun h=>f _ _ (eq_of_beq h)) d
noncomputable def Di (y:Str)(d:Mo β)(f:∀k,B.tab[0]?=some (some (y,k))→Mo β):Mo β:=jH (C.m&&(B.tab[0]?==some (some (y,knd B.tab 0)))) (fun h=>f _ (eq_of_beq (Bool.and_eq_true_iff.mp h).2)) d
noncomputable def mA (x:Str)(f:∀(c i:Nat) ms,bo P c ms→(bQ c)[i]?=some x→Mo β):Mo β:=
 (fun b=>jH ((bQ (rj b))[(bQ (rj b)).findIdx (·==x)]?==some x) (fun h=>f (rj b) _ _ (D.o b) (eq_of_beq h)) mF) ((bQ 0).contains x)
noncomputable def tO {α:Expr→Type}(e:Expr)(d:∀e,Mo (α e))(f:∀y np x ap (c i:Nat) ms k,bo P c ms→(bQ c)[i]?=some x→B.tab[0]?=some (some (y,k))→Mo (α (.Attribute (.Name y np) x ap))):Mo (α e):=
 kP e (d e) fun o x ap=>bL (α:=fun o=>α (.Attribute o x ap)) o (d _) fun y np=>Di B C y (d _) fun k ht=>bif (bQ 10).contains x then mA D x fun c i ms O hn=>bif gz c i then f y np x ap c i ms k O hn ht else d _ else d _
noncomputable def zM (es:List Expr):Mo {p:PL // fS P B C es p}:=List.rec (motive:=fun es=>Mo {p:PL // fS P B C es p}) (mR ⟨ah,.nil⟩) (fun e es ih=>mG (ik e) fun h=>mV E B C e fun p hp=>mU ih fun r hr=>mR ⟨aa p r,.cons ((pl h).star es) hp hr⟩) es
noncomputable def Bm (c:Const)(k:Nat)(pos:Pos):Mo (RE P B C (.Constant c k pos)):=
 Const.casesOn (motive:=fun c=>Mo (RE P B C (.Constant c k pos))) c (rv B C (pC .none) .none) (fun b=>rv B C (pC (.bool b)) .bool) (fun i=>rv B C (pC (.int i)) .int) (fun _=>mF) (fun _ _=>mF) (fun y=>mG (PyData.strOk y&&decide (y.length≤lim)) fun h=>rv B C (pC (.str y)) (.str h)) (fun _=>mF) mF
noncomputable def CG (y:Str)(pos:Pos):Mo (RE P B C (.Name y pos)):=
 vZ B y (mG (Gi B y) fun hg=>mO L.2.2.2 y mF fun t h=>rv B C (pC t) (.gconst (gi hg) (DZ hg) (D.cs _ h)))
  fun i k ht=>jH (bj C i) (fun ho=>rx B C (pV i) (.own ho ht)) (mG (jr C i) fun hv=>rv B C (pV i) (.var hv ht))
noncomputable def Ed (l:Expr)(op:Operator)(r:Expr)(pos:Pos):Mo (RE P B C (.BinOp l op r pos)):=
 mX E B C l fun a ha=>mX E B C r fun b hb=>Operator.casesOn (motive:=fun op=>Mo (RE P B C (.BinOp l op r pos))) op
  (rv B C (p2 bf a b) (.bin j2 Cm ha hb)) (rv B C (p2 dj a b) (.bin j2 Cg ha hb))
  (bif uu 24 l then rn B C (p2 j6 a b) (.bin CO Ch ha hb) else rv B C (p2 jA a b) (.bin j2 Cj ha hb))
  mF mF (rv B C (p2 bG a b) (.bin j2 Ck ha hb)) mF mF mF mF mF mF (rv B C (p2 cJ a b) (.bin j2 Cl ha hb))
noncomputable def E6 (op:UnaryOp)(e:Expr)(pos:Pos):Mo (RE P B C (.UnaryOp op e pos)):=mX E B C e fun a ha=>
 UnaryOp.casesOn (motive:=fun op=>Mo (RE P B C (.UnaryOp op e pos))) op mF (rv B C (ix a) (.not ha)) mF (rv B C (p1 j8 a) (.neg ha))
noncomputable def CM (o:Expr)(name:Str)(pos:Pos):Mo (RE P B C (.Attribute o name pos)):=
 bL (α:=fun o=>RE P B C (.Attribute o name pos)) o mF fun y np=>mA D name fun c i ms O hn=>
  Di B C y (mV E B C (.Name y np) fun p h=>rv B C (p1 (mD c i) p) (.attr O hn (fun _=>rfl) (fun _ _=>rfl) h))
   fun k ht=>mG (!bj C 0) fun ho=>rv B C (eH c i) (.rat O hn (ri ho) ht)
noncomputable def tt (P:Pg)(op:CmpOp):Mo {F:T→T→Option Bool // jm P op F}:=
 CmpOp.casesOn (motive:=fun op=>Mo {F:T→T→Option Bool // jm P op F}) op (mR ⟨bI,C0⟩) (mR ⟨jW,CS⟩) (mR ⟨uS,CT⟩) (mR ⟨BJ,CU⟩) (mR ⟨Ad,CY⟩) (mR ⟨EG,CZ⟩) (mR ⟨_,Ai⟩) (mR ⟨_,xb⟩)
  (m2 (mR ⟨i5,CV⟩) (m2 (mR ⟨Ab,xd⟩) (mR ⟨Dk,Bp⟩))) (m2 (mR ⟨fP,xa⟩) (mR ⟨dW,uD⟩))
noncomputable def Ec (l:Expr)(ops:List CmpOp)(rs:List Expr)(pos:Pos):Mo (RE P B C (.Compare l ops rs pos)):=
 ej (α:=fun ops=>RE P B C (.Compare l ops rs pos)) ops mF fun op os=>ej (α:=fun rs=>RE P B C (.Compare l (op::os) rs pos)) rs mF fun r rs=>mU (tt P op) fun F hF=>mX E B C l fun a ha=>mX E B C r fun b hb=>
  ej (α:=fun os=>RE P B C (.Compare l (op::os) (r::rs) pos)) os
   (iL (α:=fun rs=>RE P B C (.Compare l [op] (r::rs) pos)) rs (mG (ik r) fun h=>rv B C (pB (p2 F a b)) (.cmp hF ((pl h).beh op) ha hb)))
   fun o2 os=>iL (α:=fun os=>RE P B C (.Compare l (op::o2::os) (r::rs) pos)) os (n8 (α:=fun rs=>RE P B C (.Compare l [op,o2] (r::rs) pos)) rs fun q=>mG (ik q) fun h=>mU (tt P o2) fun G hG=>mX E B C q fun c hc=>rv B C (pB (lG F G a b c)) (.cmp2 hF hG (EC h) ha hb hc))
noncomputable def EP (op:BoolOp)(es:List Expr):Mo {p:PE // iE P B C op es p}:=List.rec (motive:=fun es=>Mo {p:PE // iE P B C op es p}) mF
 (fun e es ih=>mV E B C e fun a ha=>List.rec (motive:=fun es=>Mo {p:PE // iE P B C op es p}→Mo {p:PE // iE P B C op (e::es) p}) (fun _=>mR ⟨a,.one ha⟩) (fun e' es _ ih=>mU ih fun r hr=>
  BoolOp.casesOn (motive:=fun op=>iE P B C op (e'::es) r→Mo {p:PE // iE P B C op (e::e'::es) p}) op (fun hr=>mR ⟨iy a r,.and ha hr⟩) (fun hr=>mR ⟨vz a r,.or ha hr⟩) hr) es ih) es
noncomputable def Eu (e:Option Expr):Mo {p:PO // qY P B C e p}:=Option.rec (motive:=fun e=>Mo {p:PO // qY P B C e p}) (mR ⟨iw,.none⟩) (fun e=>mX E B C e fun a ha=>mR ⟨p1 ck a,.some ha⟩) e
noncomputable def CH (i:Expr)(pos:Pos)(a:Expr):Mo (RE P B C (.Subscript a i pos)):=mG (ik i) fun h=>mN fun d=>mX E B C a fun x hx=>mX E B C i fun y hy=>bif Nat.beq d 0 then rv B C (p2 aj x y) (.idx (pl h).subs hx hy) else rv B C (p2 idxD x y) (.idxD (pl h).subs hx hy)
noncomputable def CF (a i:Expr)(pos:Pos):Mo (RE P B C (.Subscript a i pos)):=
 Av (α:=fun i=>RE P B C (.Subscript a i pos)) i
  (bL (α:=fun a=>RE P B C (.Subscript a i pos)) a
   (tO D B C (α:=fun a=>RE P B C (.Subscript a i pos)) a (CH E B C i pos) fun y np x ap c j ms k O hn ht=>mG (ik i) fun h=>mN fun d=>mV E B C i fun q hq=>
    bif Nat.beq d 0 then rv B C (AG c j aj q) (.f2 O hn ht (vF (pl h).subs) hq) else rv B C (AG c j idxD q) (.f2 O hn ht (vE (pl h).subs) hq))
   fun y np=>jH (y==("_law_spot":Str))
    (fun _=>xY (α:=fun i=>RE P B C (.Subscript (.Name y np) i pos)) i fun j kk cp=>mG (j==0) fun hj=>vZ B y mF fun n k ht=>mG (jr C n) fun hv=>rv B C (nG n) (sb (α:=fun j=>am P B C (.Subscript (.Name y np) (.Constant (.int j) kk cp) pos) (nG n) (RV P)) hj (.spot hv ht)))
    (CH E B C i pos (.Name y np)))
  fun lo hi st p=>mX E B C a fun x hx=>Option.rec (motive:=fun st=>Mo (RE P B C (.Subscript a (.Slice lo hi st p) pos)))
   (mU (Eu E B C lo) fun l hl=>mU (Eu E B C hi) fun h hh=>rv B C (p3 bE x l h) (.slc hx hl hh))
   (fun st=>Option.rec (motive:=fun lo=>Mo (RE P B C (.Subscript a (.Slice lo hi (some st) p) pos))) (Option.rec (motive:=fun hi=>Mo (RE P B C (.Subscript a (.Slice none hi (some st) p) pos)))
    (EO (α:=fun st=>RE P B C (.Subscript a (.Slice none none (some st) p) pos)) st fun op e pu=>xY (α:=fun e=>RE P B C (.Subscript a (.Slice none none (some (.UnaryOp op e pu)) p) pos)) e fun j kc pc=>mG (j==1) fun hj=>mG (op==.USub) fun ho=>rv B C (p1 rG x) (sb (α:=fun j=>am P B C (.Subscript a (.Slice none none (some (.UnaryOp op (.Constant (.int j) kc pc) pu)) p) pos) (p1 rG x) (RV P)) hj (sb (α:=fun op=>am P B C (.Subscript a (.Slice none none (some (.UnaryOp op (.Constant (.int 1) kc pc) pu)) p) pos) (p1 rG x) (RV P)) ho (.rev hx)))) (fun _=>mF) hi) (fun _=>mF) lo) st
end
end
end Mine
end
section
set_option tactic.hygienic false
namespace Mine
noncomputable section
open PySem PyProof.Rows
noncomputable def Br (y:Str):BT:=bif y==BT.nm .list then .list else bif y==BT.nm .bool then .bool else bif y==BT.nm .int then .int else bif y==BT.nm .str then .str else .tuple
section
variable {P:Pg} {B:bx} {C:Ct} {e o:Expr} {p pe po:PE} {y z name:Str} {pn qn apos pos np:Pos}
theorem DV (X:BT)(hy:(y==ofString "isinstance")=true)(hT:(z==X.nm)=true)(hx:Gi B y=true)(hz:Gi B z=true)(hp:ik e=true)(h:am P B C e p (RX P)):am P B C (.Call (.Name y pn) [e,.Name z qn] [] pos) (p1 (gF X) p) (RV P):=
 sb (α:=fun y=>am P B C (.Call (.Name y pn) [e,.Name z qn] [] pos) (p1 (gF X) p) (RV P)) hy (sb (α:=fun z=>am P B C (.Call (.Name (ofString "isinstance") pn) [e,.Name z qn] [] pos) (p1 (gF X) p) (RV P)) hT (.isi X (xO hy hx) (xO hT hz) (fun env=>((pl hp).star _ env).trans rfl) h))
noncomputable abbrev Fe (P:Pg)(x:String)(F:T→Option T)(R:RR Value T):Prop:=∀{B:bx} {C:Ct} {e:Expr} {p:PE} {pn pos:Pos},BR B x→(∀env,starEach [e] env=[(false,eval e env)])→am P B C e p (RX P)→am P B C (.Call (.Name (ofString x) pn) [e] [] pos) (p1 F p) R
theorem BM {x:String}{F:T→Option T}{R:RR Value T}(k:Fe P x F R)(hx:Gi B y=true)(hp:ik e=true)(h:am P B C e p (RX P))(hy:(y==ofString x)=true):am P B C (.Call (.Name y pn) [e] [] pos) (p1 F p) R:=
 sb (α:=fun y=>am P B C (.Call (.Name y pn) [e] [] pos) (p1 F p) R) hy (k (xO hy hx) ((pl hp).star []) h)
theorem DQ {x id:String}{K:MK}{F:T→T→Option T}(i:xS K (ofString x) id)(k:pE P (De P id) F (RV P))(hk:ik o=true)(ho:(!uu 16 o)=true)(hl:(apos.endLine==pos.line)=true)(hp:ik e=true)(h1:am P B C o po (RX P))(h2:am P B C e pe (RX P))(hy:(name==ofString x)=true):am P B C (.Call (.Attribute o name apos) [e] [] pos) (yn K F po pe) (RV P):=
 sb (α:=fun name=>am P B C (.Call (.Attribute o name apos) [e] [] pos) (yn K F po pe) (RV P)) hy (.m1 i j2 k ((pl hk).base (ri ho) _) hl (bt hp pos) h1 h2)
end
section
variable {P:Pg} {L:LT} (D:fJ P L) (E:FE P) (Tr:FT P) (B:bx) (C:Ct)
section
variable (y:Str) (pn:Pos) (pos:Pos)
noncomputable def E8 (e:Expr):Mo (RE P B C (.Call (.Name y pn) [e] [] pos)):=mG (Gi B y) fun hx=>mG (ik e) fun hp=>mX E B C e fun a ha=>
 jH (y==ofString "len") (fun hy=>rv B C (p1 aO a) (BM .len hx hp ha hy))
 (jH (y==ofString "list") (fun hy=>rn B C (p1 ia a) (BM .listOf hx hp ha hy))
 (jH (y==ofString "any") (fun hy=>rv B C (p1 sB a) (BM .anyOf hx hp ha hy))
 (jH (y==ofString "all") (fun hy=>rv B C (p1 jl a) (BM .allOf hx hp ha hy))
 (jH (y==ofString "int") (fun hy=>rv B C (p1 td a) (BM .intOf hx hp ha hy))
 (jH (y==ofString "dict") (fun hy=>rn B C (p1 qy a) (BM .dictOf hx hp ha hy)) mF)))))
noncomputable def Bn (es:List Expr):Mo (RE P B C (.Call (.Name y pn) es [] pos)):=mG (Gi B y) fun hx=>
 mO L.1 y
  (ej (α:=fun es=>RE P B C (.Call (.Name y pn) es [] pos)) es mF fun e es=>(fun b=>jH (y==(bif b then ofString "Machine" else ofString "Web"))
    (fun hy=>mO (L.ms b) (ofString "__init__") mF fun f hi=>mG (rh f&&!kh f) fun hf=>mG (ik e) fun hp=>mU (zM E B C (e::es)) fun r hr=>rv B C (qd (rj b) f r) (sb (α:=fun y=>am P B C (.Call (.Name y pn) (e::es) [] pos) (qd (rj b) f r) (RV P)) hy (.new (D.o b) hi hf (D.g b) (xO hy hx) (by cases b<;>decide) ((pl hp).star es) hr)))
    (ej (α:=fun es=>RE P B C (.Call (.Name y pn) (e::es) [] pos)) es
     (tO D B C (α:=fun e=>RE P B C (.Call (.Name y pn) [e] [] pos)) e (E8 E B C y pn pos) fun z np x ap c i ms k O hn ht=>mG (y==ofString "len") fun hy=>rv B C (p1 aO (oA c i)) (sb (α:=fun y=>am P B C (.Call (.Name y pn) [.Attribute (.Name z np) x ap] [] pos) (p1 aO (oA c i)) (RV P)) hy (.lenF O hn ht (xO hy hx) fun _=>rfl)))
     fun t es=>iL (α:=fun es=>RE P B C (.Call (.Name y pn) (e::t::es) [] pos)) es (bL (α:=fun t=>RE P B C (.Call (.Name y pn) [e,t] [] pos)) t mF fun z qn=>mG (y==ofString "isinstance") fun hy=>mG (z==(Br z).nm) fun hT=>mG (Gi B z) fun hz=>mG (ik e) fun hp=>mX E B C e fun a ha=>rv B C (p1 (gF (Br z)) a) (DV (Br z) hy hT hx hz hp ha))))
   (y==ofString "Machine"))
  fun f hf=>mG (!rh f) fun hm=>mU (zM E B C es) fun r hr=>
   jH (kh f) (fun h=>rn B C (ak f r) (let ⟨_,h1,h2⟩:=D.fn _ hf;am.callN h1 h2 (ri hm) h (gi hx) (DZ hx) hr)) (mG (!kh f) fun h=>rv B C (ak f r) (let ⟨_,h1,h2⟩:=D.fn _ hf;am.call h1 h2 (ri hm) (ri h) (gi hx) (DZ hx) hr))
end
section
variable (o:Expr) (name:Str) (apos:Pos) (pos:Pos)
noncomputable def E7 (e:Expr):Mo (RE P B C (.Call (.Attribute o name apos) [e] [] pos)):=
 mG (ik o) fun hk=>mG (!uu 16 o) fun ho=>mG (apos.endLine==pos.line) fun hl=>mG (ik e) fun hp=>mX E B C o fun a ha=>mX E B C e fun b hb=>
  jH (name==ofString "join") (fun hy=>rv B C (yn .str ta a b) (DQ Bb wq hk ho hl hp ha hb hy))
  (jH (name==ofString "split") (fun hy=>rv B C (yn .str od a b) (DQ y0 tR hk ho hl hp ha hb hy))
  (jH (name==ofString "index") (fun hy=>rv B C (yn .list lR a b) (DQ y2 wz hk ho hl hp ha hb hy)) mF))
noncomputable def Ah (b:Bool)(es:List Expr)(d:Mo (RE P B C (.Call (.Attribute o name apos) es [] pos))):Mo (RE P B C (.Call (.Attribute o name apos) es [] pos)):=mO (L.ms b) name d fun f hm=>
 mG (Dh (rj b) f name apos pos es.length) fun hb=>
  bL (α:=fun o=>RE P B C (.Call (.Attribute o name apos) es [] pos)) o (mG (ik o) fun hk=>mG (!uu 16 o) fun ho=>mV E B C o fun a ha=>mU (zM E B C es) fun r hr=>rv B C (sV (rj b) f a r) (let ⟨_,h⟩:=D.me b _ hm;.meth (D.o b) hm h hb ((pl hk).base (ri ho) _) ha hr))
  fun y np=>Di B C y
   (mV E B C (.Name y np) fun a ha=>mU (zM E B C es) fun r hr=>rv B C (sV (rj b) f a r) (let ⟨_,h⟩:=D.me b _ hm;.meth (D.o b) hm h hb (fun _=>rfl) ha hr))
   fun k ht=>mU (zM E B C es) fun r hr=>rv B C (rO (rj b) f r) (let ⟨_,h⟩:=D.me b _ hm;.rmeth (D.o b) hm h hb ht hr)
end
noncomputable def CL (g:Expr)(es:List Expr)(pos:Pos):Mo (RE P B C (.Call g es [] pos)):=
 bL (α:=fun g=>RE P B C (.Call g es [] pos)) g (kP (α:=fun g=>RE P B C (.Call g es [] pos)) g mF fun o name apos=>Ah D E B C o name apos pos true es (Ah D E B C o name apos pos false es (n8 (α:=fun es=>RE P B C (.Call (.Attribute o name apos) es [] pos)) es (E7 E B C o name apos pos))))
 fun y pn=>Bn D E B C y pn pos es
noncomputable def Ei (B:bx)(sc:Scope)(i:Nat)(x:Str)(k:NameKind):Tb:=(List.range i).map (fun j=>Option.rec none (fun q=>bif sc.names.contains (q.1,.free) then some (q.1,.cell) else none) (B.tab[j]?.getD none))++[some (x,k)]
noncomputable def Dz (c:Bool)(x:Str):Option Str:=bif c then some x else none
noncomputable def DT (c:Bool):NameKind:=bif c then .cell else .local
theorem C2 {P:Pg}{Bc:bx}{C Ci:Ct}{i:Nat}{x:Str}{tp:Pos}{c:Bool}(hc:bY C i false Ci=true)(ht:(Bc.tab[i]?==some (some (x,DT c)))=true):iG P (xI P Bc C Ci (.Name x tp) (aJ i) (kS (Dz c x))):=by
 cases c
 ·exact bindL hc (eq_of_beq ht)
 ·exact bindC hc (eq_of_beq ht)
noncomputable def mK {α:Expr→Type}(target:Expr)(scope:Scope)(f:∀x tp i xc Bc Ci,dw B Bc scope i xc→C.U.any (Nat.beq i)=true→bY C i false Ci=true→iG P (xI P Bc C Ci (.Name x tp) (aJ i) (kS xc))→Mo (α (.Name x tp))):Mo (α target):=
 bL target mF fun x tp=>mN fun i=>(fun c=>(fun tab=>mG (w9 B tab scope i (Dz c x)) fun hK=>mG (C.U.any (Nat.beq i)) fun hi=>mG (bY C i false (CR C i)) fun hc=>mG (tab[i]?==some (some (x,DT c))) fun ht=>f x tp i (Dz c x) ⟨f8 scope B.sc,tab⟩ (CR C i) (.of hK) hi hc (C2 hc ht)) (Ei B scope i x (DT c))) (scope.names.lookup x==some .cell)
noncomputable def BY (ifs:List Expr):Mo {p:PT // c8 P B C ifs p}:=ej (α:=fun ifs=>{p:PT // c8 P B C ifs p}) ifs (mR ⟨ay,.nil⟩) fun c r=>iL (α:=fun r=>{p:PT // c8 P B C (c::r) p}) r (mU (Tr B C c) fun a ha=>mR ⟨a,.one ha⟩)
section
variable {mk:Around→Addr→List T→List Addr→List Addr→(Nat→Gh→Heap→Prop)→Prop} (hb:iG P mk)
noncomputable def Ay (it:Expr):Mo {p:PL // eN P B C it mk p}:=mN fun d=>mV E B C it fun a ha=>bif Nat.beq d 0 then mR ⟨aG a,.seq hb ha⟩ else mR ⟨p1 zq a,.str hb ha⟩
noncomputable def Ev (it:Expr):Mo {p:PL // eN P B C it mk p}:=
 jS (α:=fun it=>{p:PL // eN P B C it mk p}) it (Ay E B C hb it) fun g es pos=>bL (α:=fun g=>{p:PL // eN P B C (.Call g es [] pos) mk p}) g (Ay E B C hb (.Call g es [] pos)) fun y p=>
  jH (y==ofString "range") (fun hy=>mG (Gi B y) fun hx=>mN fun d=>mU (zM E B C es) fun r hr=>bif Nat.beq d 0 then mR ⟨cj r,sb (α:=fun y=>eN P B C (.Call (.Name y p) es [] pos) mk (cj r)) hy (.range hb (xO hy hx) hr)⟩ else mR ⟨Cy r,sb (α:=fun y=>eN P B C (.Call (.Name y p) es [] pos) mk (Cy r)) hy (.down hb (xO hy hx) hr)⟩)
  (Ay E B C hb (.Call (.Name y p) es [] pos))
end
noncomputable def mC {α:Expr→Type}(elt target iter:Expr)(ifs:List Expr)(scope:Scope)(f:∀x tp i xc Bc Ci pi pc pe,dw B Bc scope i xc→C.U.any (Nat.beq i)=true→bY C i false Ci=true→eN P B C iter (xI P Bc C Ci (.Name x tp) (aJ i) (kS xc)) pi→c8 P Bc Ci ifs pc→am P Bc Ci elt pe (RV P)→(∀env x,foldedSetIterable iter env x=pure x)→Mo (α (.Name x tp))):Mo (α target):=
 mK (P:=P) B C target scope fun x tp i xc Bc Ci K hi hc hb=>mG (ik iter) fun hp=>mU (Ev E B C hb iter) fun pi hI=>mU (BY Tr Bc Ci ifs) fun pc hcond=>mV E Bc Ci elt fun pe hel=>f x tp i xc Bc Ci pi pc pe K hi hc hI hcond hel (pl hp).fold
noncomputable def wP (elt target:Expr)(ifs:List Expr)(scope:Scope)(pos:Pos)(iter:Expr):Mo (RE P B C (.ListComp elt [⟨target,iter,ifs,0⟩] scope pos)):=mC E Tr B C (α:=fun target=>RE P B C (.ListComp elt [⟨target,iter,ifs,0⟩] scope pos)) elt target iter ifs scope fun x tp i xc Bc Ci pi pc pe K hi hc hI hcond hel hs=>rn B C (aB pi (aJ i) pc pe) (.comp K hi hc hI hcond hel hs)
theorem Dv {e1 e2:Expr}{d1 d2:PE}{x1 x2 z1 z2 y:Str}{q1 q2 r1 r2 ep pt p cp pos:Pos}{op:BoolOp}{kt:Nat}{scope:Scope}(h1:(z1==x1)=true)(h2:(z2==x2)=true)(hd:(!(x1==("__debug__":Str))&&!(x2==("__debug__":Str)))=true)(hb:Dw scope x1 x2=true)(hz:Gi B y=true)(hy:(y==ofString "zip")=true)(hp1:ik e1=true)(hp2:ik e2=true)(k1:am P B C e1 d1 (RX P))(k2:am P B C e2 d2 (RX P)):
  am P B C (.ListComp (.BoolOp op [.Name z1 r1,.Name z2 r2] ep) [⟨.Tuple [.Name x1 q1,.Name x2 q2] kt pt,.Call (.Name y p) [e1,e2] [] cp,[],0⟩] scope pos) (p2 (jn (BoolOp.rec (·&&·) (·||·) op)) d1 d2) (RV P):=by
 have hd:=Bool.and_eq_true_iff.mp hd
 rw [eq_of_beq h1,eq_of_beq h2,eq_of_beq hy]
 cases op
 ·exact .zipC (.and (ri hd.1) (ri hd.2)) hb (xO hy hz) ((pl hp1).star _) ((pl hp2).star _) k1 k2
 ·exact .zipC (.or (ri hd.1) (ri hd.2)) hb (xO hy hz) ((pl hp1).star _) ((pl hp2).star _) k1 k2
noncomputable def Eb (elt t1 t2:Expr)(kt:Nat)(pt:Pos)(iter:Expr)(scope:Scope)(pos:Pos):Mo (RE P B C (.ListComp elt [⟨.Tuple [t1,t2] kt pt,iter,[],0⟩] scope pos)):=
 bL (α:=fun t1=>RE P B C (.ListComp elt [⟨.Tuple [t1,t2] kt pt,iter,[],0⟩] scope pos)) t1 mF fun x1 q1=>bL (α:=fun t2=>RE P B C (.ListComp elt [⟨.Tuple [.Name x1 q1,t2] kt pt,iter,[],0⟩] scope pos)) t2 mF fun x2 q2=>
 jS (α:=fun iter=>RE P B C (.ListComp elt [⟨.Tuple [.Name x1 q1,.Name x2 q2] kt pt,iter,[],0⟩] scope pos)) iter mF fun g es cp=>bL (α:=fun g=>RE P B C (.ListComp elt [⟨.Tuple [.Name x1 q1,.Name x2 q2] kt pt,.Call g es [] cp,[],0⟩] scope pos)) g mF fun y p=>xX (α:=fun es=>RE P B C (.ListComp elt [⟨.Tuple [.Name x1 q1,.Name x2 q2] kt pt,.Call (.Name y p) es [] cp,[],0⟩] scope pos)) es fun e1 e2=>
 mG (!(x1==("__debug__":Str))&&!(x2==("__debug__":Str))) fun hd=>mG (Dw scope x1 x2) fun hb=>mG (Gi B y) fun hz=>mG (y==ofString "zip") fun hy=>mG (ik e1) fun hp1=>mG (ik e2) fun hp2=>mX E B C e1 fun a ha=>mX E B C e2 fun b hb'=>
  (fun α:Expr→Type=>fun k:(∀op z1 r1 z2 r2 ep,(z1==x1)=true→(z2==x2)=true→Mo (α (.BoolOp op [.Name z1 r1,.Name z2 r2] ep)))=>(vC (α:=α) elt mF fun h=>Expr.BoolOp.elim (motive_1:=fun e=>Mo (α e)) elt h fun op es ep=>xX (α:=fun es=>α (.BoolOp op es ep)) es fun a b=>bL (α:=fun a=>α (.BoolOp op [a,b] ep)) a mF fun z1 r1=>bL (α:=fun b=>α (.BoolOp op [.Name z1 r1,b] ep)) b mF fun z2 r2=>mG (z1==x1) fun h1=>mG (z2==x2) fun h2=>k op z1 r1 z2 r2 ep h1 h2:Mo (α elt)))
   (fun elt=>RE P B C (.ListComp elt [⟨.Tuple [.Name x1 q1,.Name x2 q2] kt pt,.Call (.Name y p) [e1,e2] [] cp,[],0⟩] scope pos)) fun op z1 r1 z2 r2 ep h1 h2=>rv B C _ (Dv B C h1 h2 hd hb hz hy hp1 hp2 ha hb')
noncomputable def CJ (elt target iter:Expr)(ifs:List Expr)(scope:Scope)(pos:Pos):Mo (RE P B C (.ListComp elt [⟨target,iter,ifs,0⟩] scope pos)):=ej (α:=fun ifs=>RE P B C (.ListComp elt [⟨target,iter,ifs,0⟩] scope pos)) ifs
 (Au (α:=fun target=>RE P B C (.ListComp elt [⟨target,iter,[],0⟩] scope pos)) target
   (tO D B C (α:=fun iter=>RE P B C (.ListComp elt [⟨target,iter,[],0⟩] scope pos)) iter (wP E Tr B C elt target [] scope pos) fun y np x ap c j ms k O hn ht=>
    mK (P:=P) B C (α:=fun target=>RE P B C (.ListComp elt [⟨target,.Attribute (.Name y np) x ap,[],0⟩] scope pos)) target scope fun x tp i xc Bc Ci K hi hc hb=>mV E Bc Ci elt fun pe hel=>rn B C (oB c j (aJ i) pe) (.compF O hn ht K hi hc hb hel fun _ _=>rfl))
   fun es k p=>xX (α:=fun es=>RE P B C (.ListComp elt [⟨.Tuple es k p,iter,[],0⟩] scope pos)) es fun t1 t2=>Eb E B C elt t1 t2 k p iter scope pos)
 fun c cs=>wP E Tr B C elt target (c::cs) scope pos iter
noncomputable def Ee (e:Expr):Mo (RE P B C e):=
 bL e (vC e (kP e (jS e (vC e (vC e (vC e (vC e (vC e (vC e (vC e (vC e (zJ e (vC e mF
  fun h=>Expr.Dict.elim (motive_1:=fun e=>Mo (RE P B C e)) e h fun ks vs pos=>iL (α:=fun ks=>RE P B C (.Dict ks vs pos)) ks (iL (α:=fun vs=>RE P B C (.Dict [] vs pos)) vs (rn B C t8 .dic)))
  fun elt t i fs s pos=>CJ D E Tr B C elt t i fs s pos)
  fun h=>Expr.Subscript.elim (motive_1:=fun e=>Mo (RE P B C e)) e h fun a i pos=>CF D E B C a i pos)
  fun h=>Expr.List.elim (motive_1:=fun e=>Mo (RE P B C e)) e h fun es pos=>mU (zM E B C es) fun r hr=>rn B C (bu r) (.list hr))
  fun h=>Expr.Tuple.elim (motive_1:=fun e=>Mo (RE P B C e)) e h fun es k pos=>mU (zM E B C es) fun r hr=>rv B C (ax r) (.tup hr))
  fun h=>Expr.IfExp.elim (motive_1:=fun e=>Mo (RE P B C e)) e h fun t a b pos=>mU (Tr B C t) fun t ht=>mV E B C a fun a ha=>mV E B C b fun b hb=>rv B C (Cc t a b) (.ifExp j2 ht ha hb))
  fun h=>Expr.BoolOp.elim (motive_1:=fun e=>Mo (RE P B C e)) e h fun op es pos=>mU (EP E B C op es) fun r hr=>rv B C r (.boolOp hr))
  fun h=>Expr.Compare.elim (motive_1:=fun e=>Mo (RE P B C e)) e h fun l ops rs pos=>Ec E B C l ops rs pos)
  fun h=>Expr.UnaryOp.elim (motive_1:=fun e=>Mo (RE P B C e)) e h fun op e pos=>E6 E B C op e pos)
  fun h=>Expr.BinOp.elim (motive_1:=fun e=>Mo (RE P B C e)) e h fun l op r pos=>Ed E B C l op r pos)
  fun g es pos=>CL D E B C g es pos)
  fun o x pos=>CM D E B C o x pos)
  fun h=>Expr.Constant.elim (motive_1:=fun e=>Mo (RE P B C e)) e h fun c k pos=>Bm B C c k pos)
  fun y pos=>CG D B C y pos
noncomputable def EQ (op:BoolOp)(es:List Expr):Mo {p:PT // hH P B C op es p}:=List.rec (motive:=fun es=>Mo {p:PT // hH P B C op es p})
 (BoolOp.casesOn (motive:=fun op=>Mo {p:PT // hH P B C op [] p}) op (mR ⟨ay,.andNil⟩) (mR ⟨bJ,.orNil⟩))
 (fun e es ih=>mU (Tr B C e) fun a ha=>mU ih fun r hr=>BoolOp.casesOn (motive:=fun op=>hH P B C op es r→Mo {p:PT // hH P B C op (e::es) p}) op (fun hr=>mR ⟨j7 a r,.and ha hr⟩) (fun hr=>mR ⟨eY a r,.or ha hr⟩) hr) es
noncomputable def DC (l:Expr)(ops:List CmpOp)(rs:List Expr)(pos:Pos):Mo {p:PT // cb P B C (.Compare l ops rs pos) p}:=
 ej (α:=fun ops=>{p:PT // cb P B C (.Compare l ops rs pos) p}) ops mF fun op os=>ej (α:=fun rs=>{p:PT // cb P B C (.Compare l (op::os) rs pos) p}) rs mF fun r rs=>mU (tt P op) fun F hF=>mX E B C l fun a ha=>
  ej (α:=fun os=>{p:PT // cb P B C (.Compare l (op::os) (r::rs) pos) p}) os
   (iL (α:=fun rs=>{p:PT // cb P B C (.Compare l [op] (r::rs) pos) p}) rs (tO D B C (α:=fun r=>{p:PT // cb P B C (.Compare l [op] [r] pos) p}) r (fun r=>mG (ik r) fun h=>mX E B C r fun b hb=>mR ⟨p2 F a b,.cmp hF ((pl h).beh op) ha hb⟩)
    fun y np x ap c i ms k O hn ht=>mR ⟨p2 F a (oA c i),.cmpY hF rfl ha (.fld O hn ht)⟩))
   fun o2 os=>iL (α:=fun os=>{p:PT // cb P B C (.Compare l (op::o2::os) (r::rs) pos) p}) os (n8 (α:=fun rs=>{p:PT // cb P B C (.Compare l [op,o2] (r::rs) pos) p}) rs fun q=>mG (ik q) fun h=>mX E B C r fun b hb=>mU (tt P o2) fun G hG=>mX E B C q fun c hc=>mR ⟨lG F G a b c,.cmp2 hF hG (EC h) ha hb hc⟩)
noncomputable def DD (e:Expr):Mo {p:PT // cb P B C e p}:=
 vC (α:=fun e=>{p:PT // cb P B C e p}) e (vC (α:=fun e=>{p:PT // cb P B C e p}) e (vC (α:=fun e=>{p:PT // cb P B C e p}) e (mG (ik e) fun hp=>mG (Et e) fun h=>mX E B C e fun a ha=>mR ⟨qE a,.val ha ((pl hp).tv h)⟩)
  fun h=>Expr.Compare.elim (motive_1:=fun e=>Mo {p:PT // cb P B C e p}) e h fun l ops rs pos=>DC D E B C l ops rs pos)
  fun h=>Expr.BoolOp.elim (motive_1:=fun e=>Mo {p:PT // cb P B C e p}) e h fun op es pos=>mU (EQ Tr B C op es) fun r hr=>mR ⟨r,.boolOp hr⟩)
  fun h=>Expr.UnaryOp.elim (motive_1:=fun e=>Mo {p:PT // cb P B C e p}) e h fun op e pos=>mG (op==.Not) fun ho=>mU (Tr B C e) fun a ha=>mR ⟨dE a,sb (α:=fun op=>cb P B C (.UnaryOp op e pos) (dE a)) ho (.not ha)⟩
end
noncomputable def Ex {P:Pg}{L:LT}(D:fJ P L)(n:Nat):FE P×FT P:=Nat.rec ⟨fun _ _ _=>mF,fun _ _ _=>mF⟩ (fun _ r=>⟨fun B C=>Ee D r.1 r.2 B C,fun B C=>DD D r.1 r.2 B C⟩) n
end
end Mine
end
section
set_option tactic.hygienic false
namespace Mine
noncomputable section
open PySem PyProof.Rows
noncomputable def KS (P:Pg)(B:bx)(C:Ct)(fr:Bool)(W:WP Flow)(p:PS)(o:Option Ct):Prop:=Option.rec (∀C',c7 P B C fr C' W p) (fun C'=>c7 P B C fr C' W p) o
noncomputable abbrev RS (P:Pg)(B:bx)(C:Ct)(fr:Bool)(W:WP Flow):=(o:Option Ct)×{p:PS // KS P B C fr W p o}
noncomputable abbrev cw (P:Pg)(B:bx)(C:Ct)(fr:Bool)(st:Stmt):=RS P B C fr (P.W fun env=>exec st env)
noncomputable abbrev RZ (P:Pg)(B:bx)(C:Ct)(fr:Bool)(ss:List Stmt):=RS P B C fr (P.W fun env=>execs ss env)
noncomputable abbrev FS (P:Pg):=∀(B:bx) (C:Ct) (fr:Bool) (ss:List Stmt),Mo (RZ P B C fr ss)
noncomputable def EI (a b:Ct):Bool:=a.O==b.O&&(a.U==b.U&&a.m==b.m)
theorem Bo {a b:Ct}(h:EI a b=true):a=b:=
 have ⟨h1,h2⟩:=Bool.and_eq_true_iff.mp h
 have ⟨h2,h3⟩:=Bool.and_eq_true_iff.mp h2
 show (⟨a.O,a.U,a.m⟩:Ct)=⟨b.O,b.U,b.m⟩ by rw [eq_of_beq h1,eq_of_beq h2,eq_of_beq h3]
section
variable {P:Pg} {B:bx} {C:Ct} {fr:Bool} {W:WP Flow} {β:Type}
noncomputable def ra (C':Ct)(p:PS)(h:c7 P B C fr C' W p):Mo (RS P B C fr W):=mR ⟨some C',p,h⟩
noncomputable def rl (p:PS)(h:∀C',c7 P B C fr C' W p):Mo (RS P B C fr W):=mR ⟨none,p,h⟩
noncomputable def mS (x:Mo (RS P B C fr W))(fa:∀C' p,c7 P B C fr C' W p→Mo β)(fl:∀p,(∀C',c7 P B C fr C' W p)→Mo β):Mo β:=mB x fun r=>Option.rec (motive:=fun o=>{p:PS // KS P B C fr W p o}→Mo β) (fun a=>Subtype.rec fl a) (fun C' a=>Subtype.rec (fa C') a) r.1 r.2
noncomputable def mT (C':Ct)(x:Mo (RS P B C fr W))(f:∀p,c7 P B C fr C' W p→Mo β):Mo β:=mS x (fun C₁ p h=>mG (EI C₁ C') fun e=>f p (Bo e▸h)) fun p h=>f p (h C')
end
theorem Cx {k:NameKind}(h:(k==.local||k==.cell)=true):k=.local∨k=.cell:=(Bool.or_eq_true_iff.mp h).imp eq_of_beq eq_of_beq
theorem aF.unp {P:Pg}{B:bx}{C:Ct}{fr:Bool}{e:Expr}{p:PE}{zs:List gX}{kt:Nat}{pt pos:Pos}(hz:zW B C zs=true)(hs:∀env,swapsWithSole [.Tuple (zs.map gX.e) kt pt] e pos.line env=pure false)(hw:∀env,swappedStores [.Tuple (zs.map gX.e) kt pt] e env=pure none)(h:am P B C e p (RV P)):aF P B C fr C (.Assign [.Tuple (zs.map gX.e) kt pt] e pos) (zI (zs.map (·.i)) p):=fun n A env g ρ σ s k Q E X hb hq hr=>by
 refine Assign_Tuple (h n A env g ρ σ s _ _ E X hb fun x s₁ g₁ t σ₁ e₁ p₁ w₁ r₁=>?_) (hs env) (hw env)
 have hb₁:=fun q=>hb (e₁.trans q)
 obtain ⟨ρ',e2⟩:=bS hb₁
 obtain ⟨ts,e3,e4⟩:=ar e2
 cases jN e3
 obtain ⟨a,rfl,f,us,m,b1,_,rb⟩:=r₁
 exact iD hz e4 (X.post p₁ w₁) b1 rb fun s' p' X'=>hq s' g₁ ρ' σ₁ (e₁.trans (by rw [e2];rfl)) (p₁.toS.trans p'.toS) X'
noncomputable def EX (B:bx)(es:List Expr):Mo {zs:List gX // es=zs.map gX.e}:=List.rec (motive:=fun es=>Mo {zs:List gX // es=zs.map gX.e}) (mR ⟨[],rfl⟩)
 (fun e es ih=>bL (α:=fun e=>{zs:List gX // e::es=zs.map gX.e}) e mF fun y p=>mU ih fun r hr=>mR ⟨⟨slot B.tab y,y,knd B.tab (slot B.tab y),p⟩::r,congrArg (Expr.Name y p::·) hr⟩) es
section
variable {P:Pg} {L:LT} (D:fJ P L) (E:FE P) (Tr:FT P) (S:FS P) (B:bx) (C:Ct) (fr:Bool)
noncomputable def B7 (y:Str)(px:Pos)(e:Expr)(pos:Pos):Mo (cw P B C fr (.Assign [.Name y px] e pos)):=vZ B y mF fun i k ht=>mN fun m=>mG (k==.local||k==.cell) fun hk=>
 bif Nat.ble m 1 then mG (!uQ e y px pos.line B.sc) fun hw=>bif Nat.beq m 0 then mG (bY C i false (wR C i)) fun hc=>mV E B C e fun a ha=>ra (wR C i) (av i a) (aF.set hc ht (Cx hk) (ri hw) ha)
   else mG (bY C i true (Bz C i)) fun hc=>mW E B C e fun a ha=>ra (Bz C i) (av i a) (aF.setN hc ht (Cx hk) (ri hw) ha)
 else bif Nat.beq m 2 then zJ (α:=fun e=>cw P B C fr (.Assign [.Name y px] e pos)) e mF fun elt t it fs s p=>mN fun o=>(fun C'=>mG (bY C i (Nat.beq o 1) C') fun hc=>mG (k==.local) fun hl=>
   mC E Tr B C (α:=fun t=>cw P B C fr (.Assign [.Name y px] (.ListComp elt [⟨t,it,fs,0⟩] s p) pos)) elt t it fs s fun x tp j xc Bc Ci pi pc pe K hi hj hI hcond hel hs=>mG (uQ (.ListComp elt [⟨.Name x tp,it,fs,0⟩] s p) y px pos.line B.sc) fun hw=>
    ra C' (av i (aB pi (aJ j) pc pe)) (aF.setCompG (Nat.beq o 1) hc (eq_of_beq hl▸ht) hw K hi hj hI hcond hel hs)) (bif Nat.beq o 1 then Bz C i else wR C i)
 else jS (α:=fun e=>cw P B C fr (.Assign [.Name y px] e pos)) e mF fun g es cpos=>kP (α:=fun g=>cw P B C fr (.Assign [.Name y px] (.Call g es [] cpos) pos)) g mF fun o name apos=>bL (α:=fun o=>cw P B C fr (.Assign [.Name y px] (.Call (.Attribute o name apos) es [] cpos) pos)) o mF fun z np=>n8 (α:=fun es=>cw P B C fr (.Assign [.Name y px] (.Call (.Attribute (.Name z np) name apos) es [] cpos) pos)) es fun x=>xY (α:=fun x=>cw P B C fr (.Assign [.Name y px] (.Call (.Attribute (.Name z np) name apos) [x] [] cpos) pos)) x fun n kk cp=>
  vZ B z mF fun j k' hz=>mG (bj C j) fun hv=>mG (bY C i false C) fun hc=>mG (apos.endLine==cpos.line) fun hl=>mG (n==0) fun hn=>mG (name==ofString "pop") fun hy=>mG (!uQ (.Call (.Attribute (.Name z np) (ofString "pop") apos) [.Constant (.int 0) kk cp] [] cpos) y px pos.line B.sc) fun hw=>
   ra C (nE j i) (sb (α:=fun name=>aF P B C fr C (.Assign [.Name y px] (.Call (.Attribute (.Name z np) name apos) [.Constant (.int n) kk cp] [] cpos) pos) (nE j i)) hy (sb (α:=fun n=>aF P B C fr C (.Assign [.Name y px] (.Call (.Attribute (.Name z np) (ofString "pop") apos) [.Constant (.int n) kk cp] [] cpos) pos) (nE j i)) hn (aF.pop0 hv hz hc ht (Cx hk) (ri hw) (fun _=>rfl) hl fun _=>rfl)))
noncomputable def B8 (o:Expr)(name:Str)(apos:Pos)(e:Expr)(pos:Pos):Mo (cw P B C fr (.Assign [.Attribute o name apos] e pos)):=
 bL (α:=fun o=>cw P B C fr (.Assign [.Attribute o name apos] e pos)) o mF fun y np=>mA D name fun c i ms O hn=>Di B C y mF fun k ht=>mG (ik e) fun hp=>
  jH (gz c i) (fun ho=>mW E B C e fun a ha=>ra C (rN c i a) (aF.saN O hn ho ht ((pl hp).swa _ _ _ _) ha)) (mG (!gz c i) fun ho=>mV E B C e fun a ha=>ra C (rN c i a) (aF.sa O hn (ri ho) ht ((pl hp).swa _ _ _ _) ha))
noncomputable def DH (es:List Expr)(kt:Nat)(pt:Pos)(e:Expr)(pos:Pos):Mo (cw P B C fr (.Assign [.Tuple es kt pt] e pos)):=mU (EX B es) fun zs he=>mG (zW B C zs) fun hz=>
 m2 (jS (α:=fun e=>cw P B C fr (.Assign [.Tuple es kt pt] e pos)) e mF fun g as cpos=>kP (α:=fun g=>cw P B C fr (.Assign [.Tuple es kt pt] (.Call g as [] cpos) pos)) g mF fun o name apos=>bL (α:=fun o=>cw P B C fr (.Assign [.Tuple es kt pt] (.Call (.Attribute o name apos) as [] cpos) pos)) o mF fun y np=>iL (α:=fun as=>cw P B C fr (.Assign [.Tuple es kt pt] (.Call (.Attribute (.Name y np) name apos) as [] cpos) pos)) as
  (vZ B y mF fun j k ht=>mG (bj C j) fun hv=>mG (apos.endLine==cpos.line) fun hl=>mG (name==ofString "pop") fun hy=>ra C (vq j (zs.map (·.i))) (sb (α:=fun name=>aF P B C fr C (.Assign [.Tuple es kt pt] (.Call (.Attribute (.Name y np) name apos) [] [] cpos) pos) (vq j (zs.map (·.i)))) hy (he▸aF.pop hz hv ht (fun _=>rfl) (fun _=>rfl) (fun _=>rfl) hl))))
 ((fun k:∀e,(∀l env,swapsWithSole [.Tuple (zs.map gX.e) kt pt] e l env=pure false)→(∀env,swappedStores [.Tuple (zs.map gX.e) kt pt] e env=pure none)→Mo (cw P B C fr (.Assign [.Tuple es kt pt] e pos))=>
   bL (α:=fun e=>cw P B C fr (.Assign [.Tuple es kt pt] e pos)) e (jS (α:=fun e=>cw P B C fr (.Assign [.Tuple es kt pt] e pos)) e (vC (α:=fun e=>cw P B C fr (.Assign [.Tuple es kt pt] e pos)) e mF
    fun h=>Expr.Subscript.elim (motive_1:=fun e=>Mo (cw P B C fr (.Assign [.Tuple es kt pt] e pos))) e h fun a i p=>k (.Subscript a i p) (fun _ _=>rfl) fun _=>rfl)
    fun g es p=>k (.Call g es [] p) (fun _ _=>rfl) fun _=>rfl)
    fun y p=>k (.Name y p) (fun _ _=>rfl) fun _=>rfl)
  fun e hs hw=>mV E B C e fun a ha=>ra C (zI (zs.map (·.i)) a) (he▸aF.unp hz (hs _) hw ha))
noncomputable def DI (a i:Expr)(ps:Pos)(e:Expr)(pos:Pos):Mo (cw P B C fr (.Assign [.Subscript a i ps] e pos)):=mG (ik e) fun hp=>mV E B C e fun v hv=>
 bL (α:=fun a=>cw P B C fr (.Assign [.Subscript a i ps] e pos)) a
  (tO D B C (α:=fun a=>cw P B C fr (.Assign [.Subscript a i ps] e pos)) a (fun _=>mF) fun y np x ap c j ms k O hn ht=>mV E B C i fun q hq=>ra C (qe c j q v) (aF.fput O hn ht ((pl hp).sws _ _ _ _) hq hv))
 fun y np=>vZ B y mF fun j k ht=>jH (bj C j)
  (fun ho=>mN fun d=>mX E B C i fun q hq=>bif Nat.beq d 0 then ra C (sD j rK q v) (aF.put vn ho ht ((pl hp).sws _ _ _ _) hq hv) else ra C (sD j dP q v) (aF.put sR ho ht ((pl hp).sws _ _ _ _) hq hv))
  (xY (α:=fun i=>cw P B C fr (.Assign [.Subscript (.Name y np) i ps] e pos)) i fun n kk cp=>mG (jr C j) fun ho=>mG (n==0) fun hn=>ra C (iV j v) (sb (α:=fun n=>aF P B C fr C (.Assign [.Subscript (.Name y np) (.Constant (.int n) kk cp) ps] e pos) (iV j v)) hn (aF.spot ho ht ((pl hp).sws _ _ _ _) hv)))
noncomputable def DJ (e:Expr)(pos:Pos):Mo (cw P B C fr (.Return (some e) pos)):=Bool.rec (motive:=fun fr=>Mo (cw P B C fr (.Return (some e) pos)))
 (mV E B C e fun a ha=>rl (au a) fun _=>aF.ret ha)
 (bL (α:=fun e=>cw P B C true (.Return (some e) pos)) e (mW E B C e fun a ha=>rl (au a) fun _=>aF.retN ha) fun y p=>vZ B y mF fun i k ht=>mG (bj C i) fun hv=>rl (au (pV i)) fun _=>aF.retO hv ht) fr
noncomputable def DL (e:Expr)(pos:Pos):Mo (cw P B C fr (.Expr e pos)):=jS (α:=fun e=>cw P B C fr (.Expr e pos)) e mF fun g es cpos=>m2 (mX E B C (.Call g es [] cpos) fun a ha=>ra C (kN a) (aF.expr (fun _=>rfl) ha))
 (kP (α:=fun g=>cw P B C fr (.Expr (.Call g es [] cpos) pos)) g mF fun o name apos=>n8 (α:=fun es=>cw P B C fr (.Expr (.Call (.Attribute o name apos) es [] cpos) pos)) es fun x=>mG (apos.endLine==cpos.line) fun hl=>mG (ik x) fun hp=>
   bL (α:=fun o=>cw P B C fr (.Expr (.Call (.Attribute o name apos) [x] [] cpos) pos)) o
    (tO D B C (α:=fun o=>cw P B C fr (.Expr (.Call (.Attribute o name apos) [x] [] cpos) pos)) o (fun _=>mF) fun y np at' ap' c i ms k O hn ht=>mG (name==ofString "append") fun hy=>mV E B C x fun a ha=>ra C (qf c i a) (sb (α:=fun name=>aF P B C fr C (.Expr (.Call (.Attribute (.Attribute (.Name y np) at' ap') name apos) [x] [] cpos) pos) (qf c i a)) hy (aF.fap O hn ht (fun _=>rfl) hl (bt hp _) (fun _=>rfl) ha)))
   fun y np=>vZ B y mF fun i k ht=>mG (bj C i) fun hv=>
    jH (name==ofString "append") (fun hy=>mV E B C x fun a ha=>ra C (gY i dK a) (sb (α:=fun name=>aF P B C fr C (.Expr (.Call (.Attribute (.Name y np) name apos) [x] [] cpos) pos) (gY i dK a)) hy (aF.app hv ht hl (fun _=>rfl) (bt hp _) (fun _=>rfl) ha)))
    (mG (name==ofString "extend") fun hy=>mX E B C x fun a ha=>ra C (gY i hE a) (sb (α:=fun name=>aF P B C fr C (.Expr (.Call (.Attribute (.Name y np) name apos) [x] [] cpos) pos) (gY i hE a)) hy (aF.ext hv ht hl (fun _=>rfl) (bt hp _) (fun _=>rfl) ha))))
noncomputable def DK (target iter:Expr)(body:List Stmt)(pos:Pos):Mo (cw P B C fr (.For target iter body [] pos)):=
 bL (α:=fun target=>cw P B C fr (.For target iter body [] pos)) target
  (Au (α:=fun target=>cw P B C fr (.For target iter body [] pos)) target mF fun es kt pt=>xX (α:=fun es=>cw P B C fr (.For (.Tuple es kt pt) iter body [] pos)) es fun t1 t2=>bL (α:=fun t1=>cw P B C fr (.For (.Tuple [t1,t2] kt pt) iter body [] pos)) t1 mF fun x1 p1=>bL (α:=fun t2=>cw P B C fr (.For (.Tuple [.Name x1 p1,t2] kt pt) iter body [] pos)) t2 mF fun x2 p2=>
   jS (α:=fun iter=>cw P B C fr (.For (.Tuple [.Name x1 p1,.Name x2 p2] kt pt) iter body [] pos)) iter mF fun g as cp=>bL (α:=fun g=>cw P B C fr (.For (.Tuple [.Name x1 p1,.Name x2 p2] kt pt) (.Call g as [] cp) body [] pos)) g mF fun y p=>n8 (α:=fun as=>cw P B C fr (.For (.Tuple [.Name x1 p1,.Name x2 p2] kt pt) (.Call (.Name y p) as [] cp) body [] pos)) as fun x=>
    vZ B x1 mF fun i1 k1 _=>vZ B x2 mF fun i2 k2 _=>mG (zW B C [⟨i1,x1,k1,p1⟩,⟨i2,x2,k2,p2⟩]) fun hz=>mG (Gi B y) fun hx=>mG (y==ofString "enumerate") fun hy=>mG (ik x) fun hp=>mV E B C x fun a ha=>mT C (S B C fr body) fun b hb=>
     ra C (bP (qo a) (xV i1 i2) b) (sb (α:=fun y=>aF P B C fr C (.For (.Tuple [.Name x1 p1,.Name x2 p2] kt pt) (.Call (.Name y p) [x] [] cp) body [] pos) (bP (qo a) (xV i1 i2) b)) hy (aF.for (fun _ _=>rfl) (eN.enum (z1:=⟨i1,x1,k1,p1⟩) (z2:=⟨i2,x2,k2,p2⟩) hz (xO hy hx) ((pl hp).star []) ha) hb)))
 fun y p=>vZ B y mF fun i k ht=>mG (bY C i false C) fun hc=>mG (k==.local||k==.cell) fun hk=>mG (ik iter) fun hp=>mU (Ev E B C (iG.one hc ht (Cx hk)) iter) fun it hi=>mT C (S B C fr body) fun b hb=>
  ra C (bP it (aJ i) b) (aF.for (pl hp).fold hi hb)
noncomputable def ET (t:Expr)(a b:List Stmt)(pos:Pos):Mo (cw P B C fr (.If t a b pos)):=mU (Tr B C t) fun t ht=>mS (S B C fr a)
 (fun C₁ p h=>mT C₁ (S B C fr b) fun q k=>ra C₁ (be t p q) (aF.if ht h k))
 fun p h=>mS (S B C fr b) (fun C₁ q k=>ra C₁ (be t p q) (aF.if ht (h C₁) k)) fun q k=>rl (be t p q) fun C'=>aF.if ht (h C') (k C')
noncomputable def vS {α:Stmt→Type}{k:Nat}(st:Stmt)(d:Mo (α st))(f:st.ctorIdx=k→Mo (α st)):Mo (α st):=jH (Nat.beq st.ctorIdx k) (fun h=>f (Nat.eq_of_beq_eq_true h)) d
noncomputable def DM (st:Stmt):Mo (cw P B C fr st):=
 vS (α:=fun st=>cw P B C fr st) st (vS (α:=fun st=>cw P B C fr st) st (vS (α:=fun st=>cw P B C fr st) st (vS (α:=fun st=>cw P B C fr st) st (vS (α:=fun st=>cw P B C fr st) st (vS (α:=fun st=>cw P B C fr st) st (vS (α:=fun st=>cw P B C fr st) st mF
  fun h=>Stmt.Raise.elim (motive_2:=fun st=>Mo (cw P B C fr st)) st h fun e c pos=>rl gZ fun _=>aF.bad)
  fun h=>Stmt.Expr.elim (motive_2:=fun st=>Mo (cw P B C fr st)) st h fun e pos=>DL D E B C fr e pos)
  fun h=>Stmt.While.elim (motive_2:=fun st=>Mo (cw P B C fr st)) st h fun t b o pos=>iL (α:=fun o=>cw P B C fr (.While t b o pos)) o (mN fun m=>mU (Tr B C t) fun t ht=>mT C (S B C fr b) fun b hb=>ra C (eZ m t b) (aF.while m ht hb)))
  fun h=>Stmt.For.elim (motive_2:=fun st=>Mo (cw P B C fr st)) st h fun t i b o pos=>iL (α:=fun o=>cw P B C fr (.For t i b o pos)) o (DK E S B C fr t i b pos))
  fun h=>Stmt.If.elim (motive_2:=fun st=>Mo (cw P B C fr st)) st h fun t a b pos=>ET Tr S B C fr t a b pos)
  fun h=>Stmt.Return.elim (motive_2:=fun st=>Mo (cw P B C fr st)) st h fun e pos=>Option.rec (motive:=fun e=>Mo (cw P B C fr (.Return e pos))) mF (fun e=>DJ E B C fr e pos) e)
  fun h=>Stmt.Assign.elim (motive_2:=fun st=>Mo (cw P B C fr st)) st h fun ts e pos=>n8 (α:=fun ts=>cw P B C fr (.Assign ts e pos)) ts fun t=>
   bL (α:=fun t=>cw P B C fr (.Assign [t] e pos)) t (kP (α:=fun t=>cw P B C fr (.Assign [t] e pos)) t (Au (α:=fun t=>cw P B C fr (.Assign [t] e pos)) t (vC (α:=fun t=>cw P B C fr (.Assign [t] e pos)) t mF
    fun h=>Expr.Subscript.elim (motive_1:=fun t=>Mo (cw P B C fr (.Assign [t] e pos))) t h fun a i ps=>DI D E B C fr a i ps e pos) fun es k p=>DH E B C fr es k p e pos) fun o x p=>B8 D E B C fr o x p e pos) fun y px=>B7 E Tr B C fr y px e pos
noncomputable def Dy (ss:List Stmt):Mo (RZ P B C fr ss):=mN fun m=>Nat.rec
 (ej (α:=fun ss=>RZ P B C fr ss) ss (ra C af c7.nil) fun st ss=>mS (DM D E Tr S B C fr st)
  (fun C₁ p h=>mS (S B C₁ fr ss) (fun C₂ q k=>ra C₂ (ae p q) (c7.cons h k)) fun q k=>rl (ae p q) fun C'=>c7.cons h (k C'))
  fun p h=>iL (α:=fun ss=>RZ P B C fr (st::ss)) ss (rl (ae p af) fun C'=>c7.cons (h C') c7.nil))
 (fun i _=>mG (bj C i) fun hv=>mG (bY C i false (wR C i)) fun hc=>mG (B.tab[i]?==some (some ((B.tab[i]?.getD none).getD (ofString "",.local)))) fun ht=>
  mS (S B (wR C i) fr ss) (fun C' p h=>ra C' p (c7.fz hv hc (eq_of_beq ht) h)) fun p h=>rl p fun C'=>c7.fz hv hc (eq_of_beq ht) (h C')) m
end
noncomputable def BX {P:Pg}{L:LT}(D:fJ P L)(n:Nat):FS P:=Nat.rec (fun _ _ _ _=>mF) (fun _ r B C fr ss=>Dy D (Ex D 20).1 (Ex D 20).2 r B C fr ss) n
theorem zL {P:Pg}{L:LT}{D:fJ P L}{B:bx}{C:Ct}{fr:Bool}{ss:List Stmt}{p:PS}{n s:Nat}(h:(BX D n B C fr ss s).map (·.1.2.1)=some p):∃C',gM P B C fr C' ss p:=
 let ⟨r,_,h⟩:=Option.map_eq_some_iff.mp h
 h▸Option.rec (motive:=fun o=>∀a:{p:PS // KS P B C fr (P.W fun env=>execs ss env) p o},∃C',gM P B C fr C' ss a.1) (fun a=>⟨C,a.2 C⟩) (fun C' a=>⟨C',a.2⟩) r.1.1 r.1.2
theorem y8 {P:Pg}{f:Nat}{F:fN}{mN:Str→Option Value}{gl:Bool}{nm:Str}{sc:Scope}{bd:List Stmt}{ps:List Str}{tab:List (Option (Str×NameKind))}{U:List Nat}(x:mY P.h₀ P.mg mN gl nm sc bd ps (P.fnA f) (P.fd f))(h:Dl sc tab ps U F.np=true)(sim:∃C',gM P ⟨sc,tab⟩ ⟨[],U,rh f⟩ (kh f) C' bd F.body):uO P f F:=let ⟨_,q⟩:=sim;y9 x h q
end
end Mine
end
section
set_option tactic.hygienic false
namespace Mine
noncomputable section
open PySem PySem.W PyProof.Rows
noncomputable def r4 {γ:Type}(s:Stmt)(d:γ)(f:Arguments→List Stmt→Scope→γ):γ:=jH (Nat.beq s.ctorIdx 0) (fun h=>Stmt.FunctionDef.elim (motive_2:=fun _=>γ) s (Nat.eq_of_beq_eq_true h) fun _ a b _ _ _ sc _ _ _=>f a b sc) d
noncomputable def bv (q:Program)(k:Nat):Stmt:=(q.main.body[k]?).getD (.Pass default)
noncomputable def oJ (q:Program)(k j:Nat):Stmt:=jH (Nat.beq (bv q k).ctorIdx 2) (fun h=>Stmt.ClassDef.elim (motive_2:=fun _=>Stmt) (bv q k) (Nat.eq_of_beq_eq_true h) fun _ _ _ b _ _ _ _ _ _ _=>(b[j]?).getD (.Pass default)) (.Pass default)
noncomputable abbrev FI:=Nat×Stmt×Str×Bool×Tb×List Nat×Nat
section
variable (I:List FI) (Ψ:Nat→Option fN) (L:LT) (f:Nat)
noncomputable def gG:Stmt×Str×Bool×Tb×List Nat×Nat:=((I.find? fun r=>Nat.beq r.1 f).map (·.2)).getD (.Pass default,ofString "",true,[],[],0)
noncomputable def jz:Str:=(gG I f).2.1
noncomputable def ke:Bool:=(gG I f).2.2.1
noncomputable def hJ:Tb:=(gG I f).2.2.2.1
noncomputable def kR:List Nat:=(gG I f).2.2.2.2.1
noncomputable def DY:Nat:=(gG I f).2.2.2.2.2
noncomputable def sv:List Stmt:=r4 (gG I f).1 [] fun _ b _=>b
noncomputable def rc:Scope:=r4 (gG I f).1 default fun _ _ s=>s
noncomputable def Cb:Arguments:=r4 (gG I f).1 default fun a _ _=>a
noncomputable def vL:Nat:=((Ψ f).map fN.np).getD 0
noncomputable def g9:List Str:=((hJ I f).take (vL Ψ f)).filterMap (·.map (·.1))
noncomputable def uf:Bool:=L.2.1.any fun p=>Nat.beq p.2 f
end
noncomputable def C1 (b:Bool):Str:=bif b then ofString "Machine" else ofString "Web"
noncomputable def zR (q:Program)(I:List FI)(L:LT)(f:Nat):Option (Scope×List Stmt×Arguments):=bif ke I f then tj q (jz I f) else (md q (looseW q []) (C1 (uf L f))).bind (vX · (jz I f))
noncomputable def Al (I:List FI)(Ψ:Nat→Option fN)(qual:Str)(pm cd doc:Value)(vs:List Value)(f:Nat):Option (Sem (List (Str×Value))×Sem (List (Str×Value))):=bif Nat.beq vs.length (g9 I Ψ f).length then some (bindArgs (Calls.docDef (jz I f) (Cb I f) (sv I f) (rc I f) pm cd doc) ⟨vs,[]⟩,bindArgs (methDef (jz I f) qual (Cb I f) (sv I f) (rc I f) pm cd doc) ⟨vs,[]⟩) else none
noncomputable def Ak (I:List FI)(Ψ:Nat→Option fN)(vs:List Value)(f:Nat):Option (Sem (List (Str×Value))×Sem (List (Str×Value))):=bif Nat.beq vs.length (g9 I Ψ f).length then some (pure ((g9 I Ψ f).zip vs),pure ((g9 I Ψ f).zip vs)) else none
structure pv (q:Program) (Ψ:Nat→Option fN) (ks:List Nat) (I:List FI) (L:LT):Prop where
 r:ks.map (zR q I L)=ks.map fun f=>some (rc I f,sv I f,Cb I f)
 b1:∀u pm cd doc a,ks.map (Al I Ψ u pm cd doc [a])=ks.map (Ak I Ψ [a])
 b2:∀u pm cd doc a b,ks.map (Al I Ψ u pm cd doc [a,b])=ks.map (Ak I Ψ [a,b])
 b3:∀u pm cd doc a b c,ks.map (Al I Ψ u pm cd doc [a,b,c])=ks.map (Ak I Ψ [a,b,c])
 b4:∀u pm cd doc a b c d,ks.map (Al I Ψ u pm cd doc [a,b,c,d])=ks.map (Ak I Ψ [a,b,c,d])
 b5:∀u pm cd doc a b c d e,ks.map (Al I Ψ u pm cd doc [a,b,c,d,e])=ks.map (Ak I Ψ [a,b,c,d,e])
 p:ks.all (fun f=>(Nat.ble 1 (g9 I Ψ f).length&&Nat.ble (g9 I Ψ f).length 5)&&Dl (rc I f) (hJ I f) (g9 I Ψ f) (kR I f) (vL Ψ f))=true
 m:∀b,(L.ms b).all (fun p=>(Ψ p.2).isSome&&(!ke I p.2&&((jz I p.2==p.1)&&(uf L p.2==b))))=true
 f:L.1.all (fun p=>(Ψ p.2).isSome&&(ke I p.2&&jz I p.2==p.1))=true
 a:∀b,(md q (looseW q []) (C1 b)).map (fun c=>(bQ (rj b)).all (c.statics.contains ·))=some true
 o:∀b,(L.ms b).map (fun p=>(fastLookup "object" p.1).isSome)=(L.ms b).map fun _=>true
 n:iC.all (ti q (looseW q []))=true
theorem Bu:∀b,(bQ (rj b)).map (fastLookup "object")=(bQ (rj b)).map fun _=>some none
 |true=>by kernel_rfl
 |false=>by kernel_rfl
theorem all_cons {α:Type}{p:α→Prop}{a:α}{l:List α}(h:p a)(hl:∀r∈l,p r):∀r∈a::l,p r:=fun r hr=>(List.mem_cons.mp hr).elim (fun e=>e▸h) (hl r)
theorem ES {α:Type}{p:Bool→α→Prop}(h:∀b,∃x,p b x):∃f:Bool→α,∀b,p b (f b):=⟨fun b=>(h b).choose,fun b=>(h b).choose_spec⟩
theorem xx {a b:Bool}(h:(a&&b)=true):a=true∧b=true:=Bool.and_eq_true_iff.mp h
theorem yA {α β:Type}{f g:α→β}{l:List α}(h:l.map f=l.map g){a:α}(ha:a∈l):f a=g a:=List.map_inj_left.mp h a ha
theorem l5 {α:Type}{p:List α→Prop}(h1:∀a,p [a])(h2:∀a b,p [a,b])(h3:∀a b c,p [a,b,c])(h4:∀a b c d,p [a,b,c,d])(h5:∀a b c d e,p [a,b,c,d,e])(l:List α):Nat.ble 1 l.length=true→Nat.ble l.length 5=true→p l:=
 List.rec (motive:=fun l=>Nat.ble 1 l.length=true→Nat.ble l.length 5=true→p l) (fun h=>nomatch h) (fun a l _ _=>List.rec (motive:=fun l=>Nat.ble (a::l).length 5=true→p (a::l)) (fun _=>h1 a) (fun b l _=>List.rec (motive:=fun l=>Nat.ble (a::b::l).length 5=true→p (a::b::l)) (fun _=>h2 a b)
  (fun c l _=>List.rec (motive:=fun l=>Nat.ble (a::b::c::l).length 5=true→p (a::b::c::l)) (fun _=>h3 a b c) (fun d l _=>List.rec (motive:=fun l=>Nat.ble (a::b::c::d::l).length 5=true→p (a::b::c::d::l)) (fun _=>h4 a b c d) (fun e l _=>List.rec (motive:=fun l=>Nat.ble (a::b::c::d::e::l).length 5=true→p (a::b::c::d::e::l)) (fun _=>h5 a b c d e) (fun _ _ _ h=>nomatch h) l) l) l) l) l) l
structure zG (q:Program) (mg:Str→Option Value) (h:Heap) (b:Bool) (x:ClsRec×Addr×Addr×(Str→Option Value)):Prop where
 c:md q (looseW q []) (C1 b)=some x.1
 g:mg (C1 b)=some (.ref x.2.1)
 A:PlainAt h x.1.withCmp x.2.1 x.2.2.1 x.2.2.2
section
variable {q:Program} {Ψ:Nat→Option fN} {ks:List Nat} {I:List FI} {L:LT} (X:pv q Ψ ks I L)
include X
theorem pv.bind {f:Nat}(hf:f∈ks)(u:Str)(pm cd doc:Value)(vs:List Value)(hv:vs.length=(g9 I Ψ f).length):Al I Ψ u pm cd doc vs f=Ak I Ψ vs f:=by
 have h:=(xx (xx (List.all_eq_true.mp X.p f hf)).1)
 rw [←hv] at h
 exact l5 (p:=fun vs=>Al I Ψ u pm cd doc vs f=Ak I Ψ vs f) (fun a=>yA (X.b1 u pm cd doc a) hf) (fun a b=>yA (X.b2 u pm cd doc a b) hf) (fun a b c=>yA (X.b3 u pm cd doc a b c) hf) (fun a b c d=>yA (X.b4 u pm cd doc a b c d) hf) (fun a b c d e=>yA (X.b5 u pm cd doc a b c d e) hf) vs h.1 h.2
theorem pv.bnd {f:Nat}(hf:f∈ks)(u:Str)(pm cd doc:Value)(vs:List Value)(hv:vs.length=(g9 I Ψ f).length):bindArgs (Calls.docDef (jz I f) (Cb I f) (sv I f) (rc I f) pm cd doc) ⟨vs,[]⟩=pure ((g9 I Ψ f).zip vs)∧bindArgs (methDef (jz I f) u (Cb I f) (sv I f) (rc I f) pm cd doc) ⟨vs,[]⟩=pure ((g9 I Ψ f).zip vs):=by
 have h:=X.bind hf u pm cd doc vs hv
 unfold Al Ak at h
 rw [show Nat.beq vs.length (g9 I Ψ f).length=true from hv▸Nat.beq_refl _] at h
 exact Prod.mk.inj (Option.some.inj h)
theorem pv.fnAt {mean:ExcName→Option Value}{mg mb:Str→Option Value}{h:Heap}(T:Top q (looseW q []) mean mg mb h){κ:Bool→ClsRec×Addr×Addr×(Str→Option Value)}(K:∀b,zG q mg h b (κ b)){f:Nat}(hf:f∈ks):
  ∃a d,mY h mg (κ (uf L f)).2.2.2 (ke I f) (jz I f) (rc I f) (sv I f) (g9 I Ψ f) a d:=by
 have r:=yA X.r hf
 unfold zR at r
 cases hg:ke I f with
 |true=>rw [hg] at r;exact zd T _ r fun pm cd doc vs hv=>(X.bnd hf (ofString "") pm cd doc vs hv).1
 |false=>rw [hg] at r;exact yF (K _).A _ (by rw [(K (uf L f)).c] at r;exact r) fun u pm cd doc vs hv=>(X.bnd hf u pm cd doc vs hv).2
end
theorem vH {x:Str}{y:Option Value}(h:fastLookup "object" x=some y):typeLookup (.type "object") x=pure y:=by rw [typeLookup_type,builtinLookup_eq_fast,h]
theorem pv.laid {q:Program}{ks:List Nat}{I:List FI}{L:LT}{P:Pg}(X:pv q P.Ψ ks I L){κ:Bool→ClsRec×Addr×Addr×(Str→Option Value)}(K:∀b,zG q P.mg P.h₀ b (κ b))(hcl:∀b,P.cls (rj b)=(κ b).2.1)(hgl:P.gl=ke I)(cs:∀p∈L.2.2.2,∃u,P.mg p.1=some u∧∀g h,Rp P g h p.2 u)
  (hF:∀(f:Nat) (F:fN),P.Ψ f=some F→mY P.h₀ P.mg (κ (uf L f)).2.2.2 (ke I f) (jz I f) (rc I f) (sv I f) (g9 I P.Ψ f) (P.fnA f) (P.fd f)):fJ P L where
 fn:=fun p hp=>by
  obtain ⟨h1,h2⟩:=xx (List.all_eq_true.mp X.f p hp)
  obtain ⟨F,h1⟩:=Option.isSome_iff_exists.mp h1
  exact ⟨F,h1,by rw [hgl];exact (xx h2).1,(hF _ F h1).name.trans (eq_of_beq (xx h2).2)⟩
 o:=fun b=>ub (K b).A (hcl b) (by have:=X.a b;rw [(K b).c] at this;exact Option.some.inj this) (fun x hx=>vH (yA (Bu b) hx)) (fun p hp=>by
  obtain ⟨h1,h2⟩:=xx (List.all_eq_true.mp (X.m b) p hp)
  obtain ⟨F,h1⟩:=Option.isSome_iff_exists.mp h1
  obtain ⟨h2,h3⟩:=xx h2
  obtain ⟨h3,h4⟩:=xx h3
  have y:=(hF _ F h1).asMeth (ri h2)
  rw [eq_of_beq h3,eq_of_beq h4] at y
  exact y) fun p hp=>let ⟨y,h⟩:=Option.isSome_iff_exists.mp (yA (X.o b) hp);⟨y,vH h⟩
 me:=fun b p hp=>Option.isSome_iff_exists.mp (xx (List.all_eq_true.mp (X.m b) p hp)).1
 g:=fun b=>(hcl b)▸(K b).g
 cs:=cs
noncomputable abbrev xH (P:Pg)(I:List FI)(f:Nat)(p:PS):Prop:=∃C',gM P ⟨rc I f,hJ I f⟩ ⟨[],kR I f,rh f⟩ (kh f) C' (sv I f) p
noncomputable def BZ {P:Pg}{L:LT}(D:fJ P L)(I:List FI)(f:Nat):Option PS:=bif Nat.beq f 35||Nat.beq f 999 then none else (BX D 60 ⟨rc I f,hJ I f⟩ ⟨[],kR I f,rh f⟩ (kh f) (sv I f) (DY I f)).map (·.1.2.1)
noncomputable def Ca (Ψ:Nat→Option fN)(f:Nat):Option PS:=bif Nat.beq f 35||Nat.beq f 999 then none else (Ψ f).map fN.body
theorem DF {P:Pg}{L:LT}{D:fJ P L}{I:List FI}{ks:List Nat}(h:ks.map (BZ D I)=ks.map (Ca P.Ψ))(h35:∀F,P.Ψ 35=some F→xH P I 35 F.body)(h9:∀F,P.Ψ 999=some F→F.body=gZ){f:Nat}{F:fN}(hf:f∈ks)(e:P.Ψ f=some F):xH P I f F.body:=by
 have h:=yA h hf
 unfold BZ Ca at h
 cases q5:Nat.beq f 35 with
 |true=>cases Nat.eq_of_beq_eq_true q5;exact h35 F e
 |false=>
  cases q9:Nat.beq f 999 with
  |true=>cases Nat.eq_of_beq_eq_true q9;rw [h9 F e];exact ⟨⟨[],[],false⟩,c7.badZ⟩
  |false=>rw [q5,q9,e] at h;exact zL h
theorem A6 {rows:List (Nat×fN)}{f:Nat}{F:fN}(e:(rows.find? fun r=>Nat.beq r.1 f).map (·.2)=some F):f∈rows.map (·.1):=
 let ⟨_,h1,_⟩:=Option.map_eq_some_iff.mp e
 Nat.eq_of_beq_eq_true (List.find?_some (p:=fun r:Nat×fN=>Nat.beq r.1 f) h1)▸List.mem_map_of_mem (List.mem_of_find?_eq_some h1)
section
variable {q:Program} {mean:ExcName→Option Value} {ks:List Nat} {I:List FI} {L:LT} {A:Around} {n m:Nat} {F:fN} {bd:List Stmt} {y:Str} {k:NameKind} {s0:Int} {kk:Nat} {q1 q2 q3 q4:Pos} {p:PS} {fa l:Addr} {vs:List Value} {ns:List Int} {σ:Sg} {hint:Nat} {s:Shared}
theorem A2 {P:Pg}(X:pv q P.Ψ ks I L)(hk:∀f F,P.Ψ f=some F→f∈ks)(T:Top q (looseW q []) mean P.mg P.mb P.h₀){κ:Bool→ClsRec×Addr×Addr×(Str→Option Value)}(K:∀b,zG q P.mg P.h₀ b (κ b))(hcl:∀b,P.cls (rj b)=(κ b).2.1)(hg:P.gl=ke I)(cs:∀p∈L.2.2.2,∃u,P.mg p.1=some u∧∀g h,Rp P g h p.2 u)
  (hF:∀(f:Nat) (F:fN),P.Ψ f=some F→mY P.h₀ P.mg (κ (uf L f)).2.2.2 (ke I f) (jz I f) (rc I f) (sv I f) (g9 I P.Ψ f) (P.fnA f) (P.fd f))
  (sm:∀D:fJ P L,ks.map (BZ D I)=ks.map (Ca P.Ψ))(h35:fJ P L→∀F,P.Ψ 35=some F→xH P I 35 F.body)(hL:P.Ψ 999=some F)(h9:F.body=gZ)
  (hb:sv I 999=.Assign [.Name y q1] (.List [.Constant (.int s0) kk q2] q3) q4::bd)(ht:(hJ I 999)[1]?=some (some (y,k)))(hk':(k==.local||k==.cell)=true)(hw:uQ (.List [.Constant (.int s0) kk q2] q3) y q1 q4.line (rc I 999)=false)(hc:bY ⟨[],kR I 999,false⟩ 1 false ⟨[],kR I 999,false⟩=true)(hnp:vL P.Ψ 999=1)(hgl:ke I 999=true)
  (hlaw:∀D:fJ P L,(BX D 60 ⟨rc I 999,hJ I 999⟩ ⟨[],kR I 999,false⟩ false bd hint).map (·.1.2.1)=some p)(room:mP A (n+1))(hmg:P.mg (jz I 999)=some (.ref fa))(hs:P.h₀=s.heap)(hl:s.heap.IsList l vs.toArray)(hi:IntsAre vs ns)(hn:ns.length≤63)(hp:p (P.cx n) (frame [.scr ns,.spot] m) ⟨s0,none⟩ (fun _ σ=>.ret .none σ)=.ret (.bool true) σ):
  wpAny P.M A (PySem.call (.ref fa) [.ref l]) (fun v s'=>v=.bool true∧∃h' tk,s'={s with heap:=h',toks:=tk}∧∀a o,s.heap.get? a=some o→h'.get? a=some o) (fun _ _=>False) s:=by
 have D:fJ P L:=X.laid K hcl hg cs hF
 have xl:=hF 999 F hL
 have h9':∀F,P.Ψ 999=some F→F.body=gZ:=fun F' e=>by rw [hL] at e;cases e;exact h9
 have hok:∀f F,P.Ψ f=some F→uO P f F:=fun f F e=>y8 (hF f F e) (by have:=(xx (List.all_eq_true.mp X.p f (hk f F e))).2;unfold vL at this;rw [e] at this;exact this) (DF (sm D) (h35 D) h9' (hk f F e) e)
 obtain ⟨C',sl⟩:=zL (hlaw D)
 have kl:Dc P 999 1 (hJ I 999) (g9 I P.Ψ 999) (sv I 999) (kR I 999):=wM xl (by have:=(xx (List.all_eq_true.mp X.p 999 (hk 999 F hL))).2;rw [hnp] at this;exact this)
 rw [hb] at kl
 have hfa:P.fnA 999=fa:=Value.ref.inj (Option.some.inj ((xl.ns hgl).symm.trans hmg))
 rw [←hfa]
 exact wj (y3 T X.n fun f F e=>⟨_,_,_,_,_,hg▸hF f F e⟩) hok hL kl ht (Cx hk') (by rw [xl.sc];exact hw) hc (by rw [xl.sc];exact sl) hs room hl hi hn hp
theorem wi {pg:Program}{w:World}{mg mb:Str→Option Value}{Ψ:Nat→Option fN}
  (X:pv q Ψ ks I L)(hk:∀f F,Ψ f=some F→f∈ks)(T:Top q (looseW q []) mean mg mb s.heap)(TE:TopE q (looseW q []) mg s.heap)(cs:∀P:Pg,∀p∈L.2.2.2,∃u,mg p.1=some u∧∀g h,Rp P g h p.2 u)
  (sm:∀P:Pg,∀D:fJ P L,ks.map (BZ D I)=ks.map (Ca Ψ))(h35:∀P:Pg,fJ P L→∀F,Ψ 35=some F→xH P I 35 F.body)(hL:Ψ 999=some F)(h9:F.body=gZ)
  (hb:sv I 999=.Assign [.Name y q1] (.List [.Constant (.int s0) kk q2] q3) q4::bd)(ht:(hJ I 999)[1]?=some (some (y,k)))(hk':(k==.local||k==.cell)=true)(hw:uQ (.List [.Constant (.int s0) kk q2] q3) y q1 q4.line (rc I 999)=false)(hc:bY ⟨[],kR I 999,false⟩ 1 false ⟨[],kR I 999,false⟩=true)(hnp:vL Ψ 999=1)(hgl:ke I 999=true)
  (hlaw:∀P:Pg,∀D:fJ P L,(BX D 60 ⟨rc I 999,hJ I 999⟩ ⟨[],kR I 999,false⟩ false bd hint).map (·.1.2.1)=some p)(room:mP A (n+1))(hmg:mg (jz I 999)=some (.ref fa))(hl:s.heap.IsList l vs.toArray)(hi:IntsAre vs ns)(hn:ns.length≤63)(hp:p ⟨ai Ψ n⟩ (frame [.scr ns,.spot] m) ⟨s0,none⟩ (fun _ σ=>.ret .none σ)=.ret (.bool true) σ):
  wpAny (model pg w) A (PySem.call (.ref fa) [.ref l]) (fun v s'=>v=.bool true∧∃h' tk,s'={s with heap:=h',toks:=tk}∧∀a o,s.heap.get? a=some o→h'.get? a=some o) (fun _ _=>False) s:=by
 obtain ⟨κ,K⟩:=ES (p:=zG q mg s.heap) fun b=>by
  obtain ⟨c,C,N,mN,h1,h2,h3⟩:=Bq (x:=C1 b) TE (by have:=congrArg Option.isSome (X.a b);rw [Option.isSome_map] at this;exact this)
  exact ⟨(c,C,N,mN),h1,h2,h3⟩
 obtain ⟨fA,fD,hF⟩:=AC (fun f F e=>X.fnAt T K (hk f F e)) hL
 exact A2 (P:=⟨pg,w,s.heap,fun c=>(κ (Nat.beq c 0)).2.1,Ψ,fA,fD,ke I,mg,mb⟩) X hk T K (fun b=>by cases b<;>rfl) rfl (cs _) hF (sm _) (h35 _) hL h9 hb ht hk' hw hc hnp hgl (hlaw _) room hmg rfl hl hi hn hp
end
end
end Mine
end
section
set_option maxRecDepth 100000
namespace Mine.L09
noncomputable section
open PySem
@[reducible] noncomputable def jw:PS:=
  (ae (be (eY (dE (qE (p1 (gF .str) (pV 0)))) (eY (p2 Ad (p1 aO (pV 0)) (pC (.int 6))) bJ))
  (ae (au (pC (.bool false)))
  af)
  af)
  (ae (au (p1 jl (aB (p1 zq (pV 0)) (aJ 1) ay (pB (p2 Dk (pV 1) (pC (.str (ofString "abcdefghijklmnopqrstuvwxyz"))))))))
  af))
@[reducible] noncomputable def il:PS:=
  (ae (be (p2 bI (p2 aj (pV 0) (pC (.int 0))) (pC (.str (ofString "mark"))))
  (ae (au (bu ah))
  af)
  af)
  (ae (au (p1 ia (p3 bE (pV 0) (p1 ck (pC (.int 1))) iw)))
  af))
@[reducible] noncomputable def io:PS:=
  (ae (be (eY (dE (qE (p1 (gF .tuple) (pV 0)))) (eY (p2 bI (p1 aO (pV 0)) (pC (.int 0))) (eY (dE (qE (p1 (gF .str) (p2 aj (pV 0) (pC (.int 0)))))) bJ)))
  (ae (au (pC (.bool false)))
  af)
  af)
  (ae (be (p2 bI (p2 aj (pV 0) (pC (.int 0))) (pC (.str (ofString "mark"))))
  (ae (au (iy (pB (p2 bI (p1 aO (pV 0)) (pC (.int 2)))) (iy (ak 1 (aa (p2 aj (pV 0) (pC (.int 1))) ah)) (pB (p2 jW (p2 aj (pV 0) (pC (.int 1))) (pC (.str (ofString ""))))))))
  af)
  af)
  (ae (be (p2 bI (p2 aj (pV 0) (pC (.int 0))) (pC (.str (ofString "yes"))))
  (ae (au (pB (p2 bI (p1 aO (pV 0)) (pC (.int 1)))))
  af)
  af)
  (ae (be (p2 i5 (p2 aj (pV 0) (pC (.int 0))) (ax (aa (pC (.str (ofString "not"))) (aa (pC (.str (ofString "next"))) (aa (pC (.str (ofString "always"))) (aa (pC (.str (ofString "again"))) ah))))))
  (ae (au (pB (p2 bI (p1 aO (pV 0)) (pC (.int 2)))))
  af)
  af)
  (ae (au (iy (pB (p2 i5 (p2 aj (pV 0) (pC (.int 0))) (ax (aa (pC (.str (ofString "and"))) (aa (pC (.str (ofString "or"))) (aa (pC (.str (ofString "till"))) ah)))))) (pB (p2 bI (p1 aO (pV 0)) (pC (.int 3))))))
  af)))))
@[reducible] noncomputable def gj:PS:=
  (ae (be (eY (p2 bI (pV 1) (pC (.int 0))) (eY (dE (qE (ak 3 (aa (pV 0) ah)))) bJ))
  (ae (au (pC (.bool false)))
  af)
  af)
  (ae (au (p1 jl (aB (aG (ak 2 (aa (pV 0) ah))) (aJ 2) ay (ak 4 (aa (pV 2) (aa (p2 dj (pV 1) (pC (.int 1))) ah))))))
  af))
@[reducible] noncomputable def gk:PS:=
  (ae (au (ak 4 (aa (pV 0) (aa (pC (.int 5)) ah))))
  af)
@[reducible] noncomputable def gh:PS:=
  (ae (be (p2 i5 (p2 aj (pV 0) (pC (.int 0))) (ax (aa (pC (.str (ofString "next"))) (aa (pC (.str (ofString "till"))) (aa (pC (.str (ofString "always"))) ah)))))
  (ae (au (bu (aa (pV 0) ah)))
  af)
  af)
  (ae (be (p2 bI (p2 aj (pV 0) (pC (.int 0))) (pC (.str (ofString "again"))))
  (ae (av 1 (ax (aa (pC (.str (ofString "till"))) (aa (ax (aa (pC (.str (ofString "yes"))) ah)) (aa (p2 aj (pV 0) (pC (.int 1))) ah)))))
  (ae (au (bu (aa (pV 1) (aa (ax (aa (pC (.str (ofString "always"))) (aa (pV 1) ah))) ah))))
  af))
  af)
  (ae (au (bu ah))
  af)))
@[reducible] noncomputable def ip:PS:=
  (ae (av 1 (bu ah))
  (ae (bP (aG (ak 2 (aa (pV 0) ah))) (aJ 2)
  (ae (gY 1 hE (aB (aG (ak 500 (aa (pV 2) ah))) (aJ 3) (p2 fP (pV 3) (pV 1)) (pV 3)))
  af))
  (ae (gY 1 hE (aB (aG (ak 6 (aa (pV 0) ah))) (aJ 4) (p2 fP (pV 4) (pV 1)) (pV 4)))
  (ae (au (pV 1))
  af))))
@[reducible] noncomputable def eE:PS:=
  (ae (be (dE (qE (ak 5 (aa (pV 0) ah))))
  (ae gZ
  af)
  af)
  (ae (be (p2 Ad (p1 aO (ak 500 (aa (pV 0) ah))) (pC (.int 4)))
  (ae gZ
  af)
  af)
  (ae (au (pV 0))
  af)))
@[reducible] noncomputable def eG:PS:=
  (ae (av 1 (bu (aa (ax ah) ah)))
  (ae (bP (aG (pV 0)) (aJ 2)
  (ae (av 1 (p2 bf (aB (aG (pV 1)) (aJ 3) ay (p2 bf (pV 3) (ax (aa (pC (.bool false)) ah)))) (aB (aG (pV 1)) (aJ 4) ay (p2 bf (pV 4) (ax (aa (pC (.bool true)) ah))))))
  af))
  (ae (au (pV 1))
  af)))
@[reducible] noncomputable def jx:PS:=
  (ae (au (p2 aj (pV 2) (yn .list lR (pV 1) (pV 0))))
  af)
@[reducible] noncomputable def oy:PS:=
  (ae (av 4 (p2 aj (pV 0) (pC (.int 0))))
  (ae (be (p2 bI (pV 4) (pC (.str (ofString "mark"))))
  (ae (au (pB (p2 bI (pV 1) (p2 aj (pV 0) (pC (.int 1))))))
  af)
  af)
  (ae (be (p2 bI (pV 4) (pC (.str (ofString "yes"))))
  (ae (au (pC (.bool true)))
  af)
  af)
  (ae (be (p2 bI (pV 4) (pC (.str (ofString "not"))))
  (ae (au (ix (ak 10 (aa (p2 aj (pV 0) (pC (.int 1))) (aa (pV 1) (aa (pV 2) (aa (pV 3) ah)))))))
  af)
  af)
  (ae (be (p2 bI (pV 4) (pC (.str (ofString "and"))))
  (ae (au (iy (ak 10 (aa (p2 aj (pV 0) (pC (.int 1))) (aa (pV 1) (aa (pV 2) (aa (pV 3) ah))))) (ak 10 (aa (p2 aj (pV 0) (pC (.int 2))) (aa (pV 1) (aa (pV 2) (aa (pV 3) ah)))))))
  af)
  af)
  (ae (be (p2 bI (pV 4) (pC (.str (ofString "or"))))
  (ae (au (vz (ak 10 (aa (p2 aj (pV 0) (pC (.int 1))) (aa (pV 1) (aa (pV 2) (aa (pV 3) ah))))) (ak 10 (aa (p2 aj (pV 0) (pC (.int 2))) (aa (pV 1) (aa (pV 2) (aa (pV 3) ah)))))))
  af)
  af)
  (ae (be (p2 bI (pV 4) (pC (.str (ofString "again"))))
  (ae (au (ak 9 (aa (ax (aa (pC (.str (ofString "always"))) (aa (ax (aa (pC (.str (ofString "till"))) (aa (ax (aa (pC (.str (ofString "yes"))) ah)) (aa (p2 aj (pV 0) (pC (.int 1))) ah)))) ah))) (aa (pV 2) (aa (pV 3) ah)))))
  af)
  af)
  (ae (au (ak 9 (aa (pV 0) (aa (pV 2) (aa (pV 3) ah)))))
  af))))))))
@[reducible] noncomputable def lA:PS:=
  (ae (be (p2 bI (p2 aj (pV 0) (pC (.int 0))) (pC (.str (ofString "next"))))
  (ae (au (ak 10 (aa (p2 aj (pV 0) (pC (.int 1))) (aa (p2 aj (pV 3) (pC (.int 0))) (aa (pV 1) (aa (p2 aj (pV 3) (pC (.int 1))) ah))))))
  af)
  af)
  (ae (be (p2 bI (p2 aj (pV 0) (pC (.int 0))) (pC (.str (ofString "till"))))
  (ae (be (qE (ak 10 (aa (p2 aj (pV 0) (pC (.int 2))) (aa (p2 aj (pV 2) (pC (.int 0))) (aa (pV 1) (aa (p2 aj (pV 2) (pC (.int 1))) ah))))))
  (ae (au (pC (.bool true)))
  af)
  af)
  (ae (au (iy (ak 10 (aa (p2 aj (pV 0) (pC (.int 1))) (aa (p2 aj (pV 2) (pC (.int 0))) (aa (pV 1) (aa (p2 aj (pV 2) (pC (.int 1))) ah))))) (ak 9 (aa (pV 0) (aa (pV 1) (aa (p2 aj (pV 3) (pC (.int 1))) ah))))))
  af))
  af)
  (ae (au (iy (ak 10 (aa (p2 aj (pV 0) (pC (.int 1))) (aa (p2 aj (pV 2) (pC (.int 0))) (aa (pV 1) (aa (p2 aj (pV 2) (pC (.int 1))) ah))))) (ak 9 (aa (pV 0) (aa (pV 1) (aa (p2 aj (pV 3) (pC (.int 1))) ah))))))
  af)))
@[reducible] noncomputable def jy:PS:=
  (ae (bP (aG (pV 0)) (aJ 3)
  (ae (be (p2 jW (ak 9 (aa (pV 3) (aa (pV 0) (aa (p2 aj (pV 1) (pC (.int 1))) ah)))) (ak 11 (aa (pV 3) (aa (pV 0) (aa (pV 1) (aa (pV 2) ah))))))
  (ae (au (pC (.bool false)))
  af)
  af)
  af))
  (ae (au (pC (.bool true)))
  af))
@[reducible] noncomputable def eB:PS:=
  (ae (au (p2 bf (bu (aa (pC .none) ah)) (aB (aG (ak 500 (aa (pV 0) ah))) (aJ 1) (p2 i5 (p2 aj (pV 1) (pC (.int 0))) (ax (aa (pC (.str (ofString "till"))) (aa (pC (.str (ofString "always"))) ah)))) (pV 1))))
  af)
@[reducible] noncomputable def lE:PS:=
  (ae (be (p2 ur (pV 0) (pC .none))
  (ae (au (pC (.bool true)))
  af)
  af)
  (ae (be (p2 bI (p2 aj (pV 0) (pC (.int 0))) (pC (.str (ofString "till"))))
  (ae (au (vz (ix (ak 9 (aa (pV 0) (aa (pV 2) (aa (pV 3) ah))))) (ak 10 (aa (p2 aj (pV 0) (pC (.int 2))) (aa (pV 1) (aa (pV 2) (aa (pV 3) ah)))))))
  af)
  af)
  (ae (au (vz (ak 9 (aa (pV 0) (aa (pV 2) (aa (pV 3) ah)))) (ix (ak 10 (aa (p2 aj (pV 0) (pC (.int 1))) (aa (pV 1) (aa (pV 2) (aa (pV 3) ah))))))))
  af)))
@[reducible] noncomputable def fj:PS:=
  (ae (av 1 (bu ah))
  (ae (av 2 t8)
  (ae (bP (aG (p1 (mD 10 4) (pV 0))) (aJ 3)
  (ae (be (p2 dW (pV 3) (pV 2))
  (ae (sD 2 dP (pV 3) (pC (.bool true)))
  (ae (av 4 (bu (aa (ax (aa (pV 3) (aa (pC (.int 0)) ah))) ah)))
  (ae (eZ 20000 (p2 jW (pV 4) (bu ah))
  (ae (vq 4 [5,6])
  (ae (be (p2 bI (pV 6) (p1 aO (p2 idxD (p1 (mD 10 6) (pV 0)) (pV 5))))
  (ae (gY 1 dK (pV 5))
  af)
  (ae (gY 4 dK (ax (aa (pV 5) (aa (p2 bf (pV 6) (pC (.int 1))) ah))))
  (ae (av 7 (p2 aj (p2 idxD (p1 (mD 10 6) (pV 0)) (pV 5)) (pV 6)))
  (ae (be (p2 dW (pV 7) (pV 2))
  (ae (sD 2 dP (pV 7) (pC (.bool true)))
  (ae (gY 4 dK (ax (aa (pV 7) (aa (pC (.int 0)) ah))))
  af))
  af)
  af))))
  af)))
  af)))
  af)
  af))
  (ae (au (pV 1))
  af))))
@[reducible] noncomputable def gp:PS:=
  (ae (av 1 (ak 35 (aa (pV 0) ah)))
  (ae (av 2 t8)
  (ae (av 3 (bu ah))
  (ae (bP (aG (p1 rG (ak 34 (aa (pV 0) ah)))) (aJ 4)
  (ae (be (p2 dW (pV 4) (pV 2))
  (ae (sD 2 dP (pV 4) (pC (.bool true)))
  (ae (av 5 (bu (aa (pV 4) ah)))
  (ae (av 6 (pC (.int 0)))
  (ae (eZ 400 (p2 uS (pV 6) (p1 aO (pV 5)))
  (ae (bP (aG (p2 idxD (pV 1) (p2 aj (pV 5) (pV 6)))) (aJ 7)
  (ae (be (p2 dW (pV 7) (pV 2))
  (ae (sD 2 dP (pV 7) (pC (.bool true)))
  (ae (gY 5 dK (pV 7))
  af))
  af)
  af))
  (ae (av 6 (p2 bf (pV 6) (pC (.int 1))))
  af)))
  (ae (gY 3 dK (pV 5))
  af)))))
  af)
  af))
  (ae (au (pV 3))
  af)))))
@[reducible] noncomputable def fk:PS:=
  (ae (au (vz (pB (p2 Ad (p1 aO (pV 1)) (pC (.int 1)))) (pB (p2 i5 (p2 aj (pV 1) (pC (.int 0))) (p2 idxD (p1 (mD 10 6) (pV 0)) (p2 aj (pV 1) (pC (.int 0))))))))
  af)
@[reducible] noncomputable def ox:PS:=
  (ae (bP (cj (aa (p1 aO (p1 (mD 10 1) (pV 0))) ah)) (aJ 2)
  (ae (be (dE (qE (p1 sB (aB (aG (pV 1)) (aJ 3) ay (sV 10 1005 (pV 0) (aa (pV 3) (aa (pV 2) ah)))))))
  (ae (au (pV 2))
  af)
  af)
  af))
  (ae (au (pC .none))
  af))
@[reducible] noncomputable def jv:PS:=
  (ae (av 3 (p1 qy (aB (aG (pV 1)) (aJ 7) ay (ax (aa (pV 7) (aa (pC .none) ah))))))
  (ae (av 4 (p1 ia (pV 1)))
  (ae (eZ 400 (p2 jW (pV 4) (bu ah))
  (ae (nE 4 5)
  (ae (be (p2 i5 (pV 5) (pV 2))
  (ae (au (ak 40 (aa (pV 3) (aa (pV 5) ah))))
  af)
  af)
  (ae (bP (aG (p2 idxD (p1 (mD 10 6) (pV 0)) (pV 5))) (aJ 6)
  (ae (be (p2 dW (pV 6) (pV 3))
  (ae (sD 3 dP (pV 6) (pV 5))
  (ae (gY 4 dK (pV 6))
  af))
  af)
  af))
  af))))
  (ae (au (bu ah))
  af))))
@[reducible] noncomputable def gg:PS:=
  (ae (av 2 (bu ah))
  (ae (eZ 400 (p2 Cz (pV 1) (pC .none))
  (ae (gY 2 dK (pV 1))
  (ae (av 1 (p2 idxD (pV 0) (pV 1)))
  af)))
  (ae (au (p1 rG (pV 2)))
  af)))
@[reducible] noncomputable def ju:PS:=
  (ae (av 2 (bu (aa (p2 aj (pV 1) (pC (.int 0))) ah)))
  (ae (bP (cj (aa (p1 aO (p1 (mD 10 1) (pV 0))) ah)) (aJ 3)
  (ae (av 4 (aB (aG (pV 1)) (aJ 6) (qE (sV 10 1005 (pV 0) (aa (pV 6) (aa (pV 3) ah)))) (pV 6)))
  (ae (av 2 (p2 bf (pV 2) (p3 bE (ak 39 (aa (pV 0) (aa (p3 bE (pV 2) (p1 ck (p1 j8 (pC (.int 1)))) iw) (aa (pV 4) ah)))) (p1 ck (pC (.int 1))) iw)))
  af)))
  (ae (av 5 (aB (aG (p2 idxD (p1 (mD 10 6) (pV 0)) (p2 aj (pV 2) (p1 j8 (pC (.int 1)))))) (aJ 7) (p2 i5 (pV 7) (pV 1)) (pV 7)))
  (ae (au (p2 bf (pV 2) (p3 bE (ak 39 (aa (pV 0) (aa (pV 5) (aa (p3 bE (pV 1) iw (p1 ck (pC (.int 1)))) ah)))) iw (p1 ck (p1 j8 (pC (.int 1)))))))
  af))))
@[reducible] noncomputable def gq:PS:=
  (ae (av 2 (p3 bE (ak 39 (aa (pV 0) (aa (p3 bE (p1 (mD 10 4) (pV 0)) iw (p1 ck (p1 (mD 10 5) (pV 0)))) (aa (p3 bE (pV 1) iw (p1 ck (pC (.int 1)))) ah)))) iw (p1 ck (p1 j8 (pC (.int 1))))))
  (ae (au (ax (aa (pC (.str (ofString "breaks"))) (aa (aB (aG (pV 2)) (aJ 3) ay (p2 aj (pV 3) (pC (.int 0)))) (aa (aB (aG (ak 41 (aa (pV 0) (aa (pV 1) ah)))) (aJ 4) ay (p2 aj (pV 4) (pC (.int 0)))) ah)))))
  af))
@[reducible] noncomputable def lC:PS:=
  (ae (av 2 (qd 10 1001 (aa (pV 0) (aa (pV 1) ah))))
  (ae (av 3 (ak 36 (aa (pV 2) ah)))
  (ae (av 4 (bu ah))
  (ae (bP (qo (pV 3)) (xV 5 6)
  (ae (av 7 (pC (.int 0)))
  (ae (be (qE (ak 37 (aa (pV 2) (aa (pV 6) ah))))
  (ae (av 7 (ak 38 (aa (pV 2) (aa (pV 6) ah))))
  (ae (be (p2 ur (pV 7) (pC .none))
  (ae (au (ak 42 (aa (pV 2) (aa (pV 6) ah))))
  af)
  af)
  af))
  af)
  (ae (gY 4 hE (aB (aG (pV 6)) (aJ 8) ay (ax (aa (p2 aj (pV 8) (pC (.int 0))) (aa (p2 aj (pV 8) (pC (.int 1))) (aa (p2 dj (p2 dj (p1 aO (pV 3)) (pC (.int 1))) (pV 5)) (aa (pV 7) ah)))))))
  af))))
  (ae (au (ax (aa (pC (.str (ofString "keeps"))) (aa (pV 4) ah))))
  af)))))
@[reducible] noncomputable def im:PS:=
  (ae (au (iy (p1 (gF .int) (pV 0)) (iy (ix (p1 (gF .bool) (pV 0))) (pB (lG BJ uS (pC (.int 0)) (pV 0) (pV 1))))))
  af)
@[reducible] noncomputable def eF:PS:=
  (ae (be (eY (dE (qE (p1 (gF .list) (pV 0)))) (eY (p2 bI (p1 aO (pV 0)) (pC (.int 0))) bJ))
  (ae gZ
  af)
  af)
  (ae (bP (qo (pV 0)) (xV 2 3)
  (ae (be (eY (dE (qE (ak 15 (aa (pV 3) (aa (pV 1) ah))))) (eY (p2 i5 (pV 3) (p3 bE (pV 0) iw (p1 ck (pV 2)))) bJ))
  (ae gZ
  af)
  af)
  af))
  af))
@[reducible] noncomputable def gf:PS:=
  (ae (av 3 (p2 j6 (bu (aa (pC (.bool false)) ah)) (p1 aO (pV 0))))
  (ae (bP (cj (aa (pC (.int 2)) ah)) (aJ 4)
  (ae (bP (Cy (aa (p2 dj (p1 aO (pV 0)) (pC (.int 1))) (aa (p1 j8 (pC (.int 1))) (aa (p1 j8 (pC (.int 1))) ah)))) (aJ 5)
  (ae (av 6 (Cc (p2 bI (pV 5) (p2 dj (p1 aO (pV 0)) (pC (.int 1)))) (pV 2) (p2 bf (pV 5) (pC (.int 1)))))
  (ae (sD 3 rK (pV 5) (vz (p2 aj (pV 1) (pV 5)) (iy (p2 aj (pV 0) (pV 5)) (p2 aj (pV 3) (pV 6)))))
  af)))
  af))
  (ae (au (pV 3))
  af)))
@[reducible] noncomputable def eC:PS:=
  (ae (av 3 (p2 aj (pV 0) (pC (.int 0))))
  (ae (be (p2 bI (pV 3) (pC (.str (ofString "mark"))))
  (ae (au (aB (aG (pV 1)) (aJ 6) ay (pB (p2 bI (pV 6) (p2 aj (pV 0) (pC (.int 1)))))))
  af)
  af)
  (ae (be (p2 bI (pV 3) (pC (.str (ofString "yes"))))
  (ae (au (aB (aG (pV 1)) (aJ 7) ay (pC (.bool true))))
  af)
  af)
  (ae (av 4 (aB (aG (ak 2 (aa (pV 0) ah))) (aJ 8) ay (ak 54 (aa (pV 8) (aa (pV 1) (aa (pV 2) ah))))))
  (ae (be (p2 bI (pV 3) (pC (.str (ofString "not"))))
  (ae (au (aB (aG (p2 aj (pV 4) (pC (.int 0)))) (aJ 9) ay (ix (pV 9))))
  af)
  af)
  (ae (be (p2 bI (pV 3) (pC (.str (ofString "and"))))
  (ae (au (p2 (jn (·&&·)) (p2 aj (pV 4) (pC (.int 0))) (p2 aj (pV 4) (pC (.int 1)))))
  af)
  af)
  (ae (be (p2 bI (pV 3) (pC (.str (ofString "or"))))
  (ae (au (p2 (jn (·||·)) (p2 aj (pV 4) (pC (.int 0))) (p2 aj (pV 4) (pC (.int 1)))))
  af)
  af)
  (ae (be (p2 bI (pV 3) (pC (.str (ofString "next"))))
  (ae (au (p2 bf (p3 bE (p2 aj (pV 4) (pC (.int 0))) (p1 ck (pC (.int 1))) iw) (bu (aa (p2 aj (p2 aj (pV 4) (pC (.int 0))) (pV 2)) ah))))
  af)
  af)
  (ae (be (p2 bI (pV 3) (pC (.str (ofString "till"))))
  (ae (au (ak 53 (aa (p2 aj (pV 4) (pC (.int 0))) (aa (p2 aj (pV 4) (pC (.int 1))) (aa (pV 2) ah)))))
  af)
  af)
  (ae (be (p2 bI (pV 3) (pC (.str (ofString "always"))))
  (ae (av 5 (ak 53 (aa (p2 j6 (bu (aa (pC (.bool true)) ah)) (p1 aO (pV 1))) (aa (aB (aG (p2 aj (pV 4) (pC (.int 0)))) (aJ 10) ay (ix (pV 10))) (aa (pV 2) ah)))))
  (ae (au (aB (aG (pV 5)) (aJ 11) ay (ix (pV 11))))
  af))
  af)
  (ae (au (p2 j6 (bu (aa (p1 sB (p3 bE (p2 aj (pV 4) (pC (.int 0))) (p1 ck (pV 2)) iw)) ah)) (p1 aO (pV 1))))
  af)))))))))))
@[reducible] noncomputable def lB:PS:=
  (ae (au (ak 54 (aa (pV 0) (aa (p2 bf (pV 1) (pV 2)) (aa (p1 aO (pV 1)) ah)))))
  af)
@[reducible] noncomputable def oz:PS:=
  (ae (au (p2 aj (ak 55 (aa (pV 0) (aa (pV 1) (aa (pV 2) ah)))) (pC (.int 0))))
  af)
@[reducible] noncomputable def dS:PS:=
  (ae (be (p2 uS (pV 1) (p1 aO (pV 0)))
  (ae (au (p2 aj (pV 0) (pV 1)))
  af)
  af)
  (ae (au (pC (.int 0)))
  af))
@[reducible] noncomputable def gv:PS:=
  (ae (iV 1 (p2 bf (nG 1) (pC (.int 1))))
  (ae (av 2 (p2 dj (nG 1) (pC (.int 1))))
  (ae (be (p2 uS (pV 2) (p1 aO (pV 0)))
  (ae (au (p2 aj (pV 0) (pV 2)))
  af)
  af)
  (ae (be (j7 (p2 Ad (p1 aO (pV 0)) (pC (.int 4))) (j7 (p2 uS (pV 2) (pC (.int 50))) ay))
  (ae (au (p2 bG (p2 jA (p2 bf (p2 aj (pV 0) (p2 bG (pV 2) (p1 aO (pV 0)))) (p2 jA (pC (.int 7919)) (pV 2))) (pC (.int 48271))) (pC (.int 1000003))))
  af)
  af)
  (ae (au (pC (.int 0)))
  af)))))
@[reducible] noncomputable def fm:PS:=
  (ae (av 1 (pC (.str (ofString "abcdefghijklmnopqrstuvwxyz"))))
  (ae (av 2 (yn .str ta (pC (.str (ofString ""))) (aB (cj (aa (pC (.int 6)) ah)) (aJ 8) ay (p2 aj (pV 1) (p2 bG (p2 bf (p2 cJ (pV 0) (pC (.int 7))) (p2 jA (pC (.int 5)) (pV 8))) (pC (.int 26)))))))
  (ae (be (p2 bI (p2 bG (pV 0) (pC (.int 3))) (pC (.int 2)))
  (ae (av 3 (p2 bf (pC (.int 1)) (p2 bG (p2 cJ (pV 0) (pC (.int 3))) (pC (.int 4)))))
  (ae (au (aB (cj (aa (pC (.int 3)) ah)) (aJ 9) ay (p3 bE (pV 2) iw (p1 ck (p2 bf (pV 3) (pV 9))))))
  af))
  af)
  (ae (av 3 (p2 bG (p2 cJ (pV 0) (pC (.int 3))) (pC (.int 6))))
  (ae (av 4 (p2 bG (p2 cJ (pV 0) (pC (.int 18))) (p2 bf (pV 3) (pC (.int 1)))))
  (ae (av 5 (bu ah))
  (ae (bP (cj (aa (pC (.int 3)) ah)) (aJ 6)
  (ae (av 7 (p2 aj (pV 1) (p2 bG (p2 bf (p2 cJ (pV 0) (pC (.int 90))) (p2 jA (pC (.int 7)) (pV 6))) (pC (.int 26)))))
  (ae (gY 5 dK (p2 bf (p2 bf (p3 bE (pV 2) iw (p1 ck (pV 4))) (pV 7)) (p3 bE (pV 2) (p1 ck (pV 4)) (p1 ck (pV 3)))))
  af)))
  (ae (au (pV 5))
  af))))))))
@[reducible] noncomputable def gu:PS:=
  (ae (av 4 (ak 18 (aa (pV 0) (aa (pV 1) ah))))
  (ae (av 5 (p2 cJ (pV 4) (pC (.int 13))))
  (ae (be (eY (p2 uS (pV 3) (pC (.int 2))) (eY (p2 uS (p2 bG (pV 4) (pC (.int 13))) (pC (.int 2))) bJ))
  (ae (be (p2 bI (p2 bG (pV 5) (pC (.int 9))) (pC (.int 4)))
  (ae (au (ax (aa (pC (.str (ofString "yes"))) ah)))
  af)
  af)
  (ae (au (ax (aa (pC (.str (ofString "mark"))) (aa (p2 aj (pV 2) (p2 bG (pV 5) (pC (.int 3)))) ah))))
  af))
  af)
  (ae (av 6 (pC (.str (ofString "not and or next till always again till always next not"))))
  (ae (av 7 (p2 aj (yn .str od (pV 6) (pC (.str (ofString " ")))) (p2 dj (p2 bG (pV 4) (pC (.int 13))) (pC (.int 2)))))
  (ae (av 8 (ak 20 (aa (pV 0) (aa (pV 1) (aa (pV 2) (aa (p2 dj (pV 3) (pC (.int 1))) ah))))))
  (ae (be (p2 i5 (pV 7) (ax (aa (pC (.str (ofString "not"))) (aa (pC (.str (ofString "next"))) (aa (pC (.str (ofString "always"))) (aa (pC (.str (ofString "again"))) ah))))))
  (ae (au (ax (aa (pV 7) (aa (pV 8) ah))))
  af)
  af)
  (ae (au (ax (aa (pV 7) (aa (pV 8) (aa (ak 20 (aa (pV 0) (aa (pV 1) (aa (pV 2) (aa (p2 dj (pV 3) (pC (.int 1))) ah))))) ah)))))
  af))))))))
@[reducible] noncomputable def ir:PS:=
  (ae (av 1 (bu (aa (pV 0) ah)))
  (ae (bP (aG (p3 bE (pV 0) (p1 ck (pC (.int 1))) iw)) (aJ 2)
  (ae (be (qE (p1 (gF .tuple) (pV 2)))
  (ae (av 1 (p2 bf (pV 1) (ak 21 (aa (pV 2) ah))))
  af)
  af)
  af))
  (ae (au (pV 1))
  af)))
@[reducible] noncomputable def fq:PS:=
  (ae (av 1 (bu ah))
  (ae (bP (aG (ak 21 (aa (pV 0) ah))) (aJ 2)
  (ae (av 3 (bu ah))
  (ae (be (p2 i5 (p2 aj (pV 2) (pC (.int 0))) (ax (aa (pC (.str (ofString "next"))) (aa (pC (.str (ofString "till"))) (aa (pC (.str (ofString "always"))) ah)))))
  (ae (av 3 (bu (aa (pV 2) ah)))
  af)
  (ae (be (p2 bI (p2 aj (pV 2) (pC (.int 0))) (pC (.str (ofString "again"))))
  (ae (av 3 (bu (aa (ax (aa (pC (.str (ofString "till"))) (aa (ax (aa (pC (.str (ofString "yes"))) ah)) (aa (p2 aj (pV 2) (pC (.int 1))) ah)))) (aa (ax (aa (pC (.str (ofString "always"))) (aa (ax (aa (pC (.str (ofString "till"))) (aa (ax (aa (pC (.str (ofString "yes"))) ah)) (aa (p2 aj (pV 2) (pC (.int 1))) ah)))) ah))) ah))))
  af)
  af)
  af))
  (ae (av 1 (p2 bf (pV 1) (aB (aG (pV 3)) (aJ 4) (p2 fP (pV 4) (pV 1)) (pV 4))))
  af))))
  (ae (au (pV 1))
  af)))
@[reducible] noncomputable def iq:PS:=
  (ae (eZ 40 (p2 Ad (p1 aO (ak 22 (aa (pV 0) ah))) (pV 1))
  (ae (av 0 (p2 aj (pV 0) (p1 j8 (pC (.int 1)))))
  af))
  (ae (au (pV 0))
  af))
@[reducible] noncomputable def ft:PS:=
  (ae (av 3 (p2 bf (p1 aO (pV 0)) (p1 aO (pV 1))))
  (ae (au (p2 bf (aB (cj (aa (pV 2) (aa (pV 3) ah))) (aJ 4) ay (pV 4)) (aB (cj (aa (p1 aO (pV 0)) (aa (pV 3) ah))) (aJ 5) ay (pV 5))))
  af))
@[reducible] noncomputable def gr:PS:=
  (ae (bP (aG (pV 2)) (aJ 3)
  (ae (be (qE (p2 aj (pV 1) (pV 3)))
  (ae (au (pC (.bool true)))
  af)
  af)
  (ae (be (dE (qE (p2 aj (pV 0) (pV 3))))
  (ae (au (pC (.bool false)))
  af)
  af)
  af)))
  (ae (au (pC (.bool false)))
  af))
@[reducible] noncomputable def aU:PS:=
  (ae (av 3 (p2 aj (pV 0) (pC (.int 0))))
  (ae (av 4 (p2 bf (pV 1) (pV 2)))
  (ae (be (p2 bI (pV 3) (pC (.str (ofString "mark"))))
  (ae (au (aB (aG (pV 4)) (aJ 6) ay (pB (p2 bI (pV 6) (p2 aj (pV 0) (pC (.int 1)))))))
  af)
  af)
  (ae (be (p2 bI (pV 3) (pC (.str (ofString "yes"))))
  (ae (au (aB (aG (pV 4)) (aJ 7) ay (pC (.bool true))))
  af)
  af)
  (ae (av 5 (aB (aG (p3 bE (pV 0) (p1 ck (pC (.int 1))) iw)) (aJ 8) ay (ak 46 (aa (pV 8) (aa (pV 1) (aa (pV 2) ah))))))
  (ae (be (p2 bI (pV 3) (pC (.str (ofString "not"))))
  (ae (au (aB (aG (p2 aj (pV 5) (pC (.int 0)))) (aJ 9) ay (ix (pV 9))))
  af)
  af)
  (ae (be (p2 bI (pV 3) (pC (.str (ofString "and"))))
  (ae (au (p2 (jn (·&&·)) (p2 aj (pV 5) (pC (.int 0))) (p2 aj (pV 5) (pC (.int 1)))))
  af)
  af)
  (ae (be (p2 bI (pV 3) (pC (.str (ofString "or"))))
  (ae (au (p2 (jn (·||·)) (p2 aj (pV 5) (pC (.int 0))) (p2 aj (pV 5) (pC (.int 1)))))
  af)
  af)
  (ae (be (p2 bI (pV 3) (pC (.str (ofString "next"))))
  (ae (au (aB (cj (aa (p1 aO (pV 4)) ah)) (aJ 10) ay (p2 aj (p2 aj (pV 5) (pC (.int 0))) (p2 aj (ak 44 (aa (pV 1) (aa (pV 2) (aa (pV 10) ah)))) (pC (.int 1))))))
  af)
  af)
  (ae (be (p2 bI (pV 3) (pC (.str (ofString "always"))))
  (ae (au (aB (cj (aa (p1 aO (pV 4)) ah)) (aJ 11) ay (pB (p2 fP (pC (.bool false)) (aB (aG (ak 44 (aa (pV 1) (aa (pV 2) (aa (pV 11) ah))))) (aJ 12) ay (p2 aj (p2 aj (pV 5) (pC (.int 0))) (pV 12)))))))
  af)
  af)
  (ae (be (p2 bI (pV 3) (pC (.str (ofString "again"))))
  (ae (au (aB (aG (pV 4)) (aJ 13) ay (pB (p2 i5 (pC (.bool true)) (p3 bE (p2 aj (pV 5) (pC (.int 0))) (p1 ck (p1 aO (pV 1))) iw)))))
  af)
  af)
  (ae (au (aB (cj (aa (p1 aO (pV 4)) ah)) (aJ 14) ay (ak 45 (aa (p2 aj (pV 5) (pC (.int 0))) (aa (p2 aj (pV 5) (pC (.int 1))) (aa (ak 44 (aa (pV 1) (aa (pV 2) (aa (pV 14) ah)))) ah))))))
  af))))))))))))
@[reducible] noncomputable def gt:PS:=
  (ae (av 3 (p2 bG (p2 jA (pV 0) (pC (.int 48271))) (pC (.int 1000003))))
  (ae (av 4 (bu (aa (p2 bG (pV 2) (pV 1)) ah)))
  (ae (bP (cj (aa (pC (.int 1)) (aa (pV 1) ah))) (aJ 5)
  (ae (be (p2 bI (p2 bG (pV 3) (pC (.int 3))) (pC (.int 1)))
  (ae (gY 4 dK (p2 bG (p2 bf (pV 2) (pV 5)) (pV 1)))
  af)
  af)
  (ae (av 3 (p2 cJ (pV 3) (pC (.int 3))))
  af)))
  (ae (au (pV 4))
  af))))
@[reducible] noncomputable def dR:PS:=
  (ae (av 4 (p2 bf (pC (.int 1)) (p2 bG (ak 18 (aa (pV 0) (aa (pV 1) ah))) (pV 3))))
  (ae (av 5 (p2 bf (pV 2) (bu (aa (pC (.str (ofString ""))) (aa (p2 aj (pV 2) (pC (.int 0))) (aa (p2 aj (pV 2) (pC (.int 1))) ah))))))
  (ae (av 6 (bu ah))
  (ae (av 7 (bu ah))
  (ae (bP (cj (aa (pV 4) ah)) (aJ 8)
  (ae (av 9 (ak 18 (aa (pV 0) (aa (pV 1) ah))))
  (ae (gY 6 dK (p2 aj (pV 5) (p2 bG (pV 9) (pC (.int 6)))))
  (ae (gY 7 dK (ak 24 (aa (pV 9) (aa (pV 4) (aa (p2 cJ (pV 9) (pC (.int 6))) ah)))))
  af))))
  (ae (av 9 (ak 18 (aa (pV 0) (aa (pV 1) ah))))
  (ae (be (p2 bI (p2 bG (pV 9) (pC (.int 4))) (pC (.int 3)))
  (ae (au (ax (aa (pV 6) (aa (pV 7) (aa (ak 24 (aa (pV 9) (aa (pV 4) (aa (p2 cJ (pV 9) (pC (.int 4))) ah)))) ah)))))
  af)
  af)
  (ae (au (ax (aa (pV 6) (aa (pV 7) (aa (bu (aa (p2 bG (p2 cJ (pV 9) (pC (.int 4))) (pV 4)) ah)) ah)))))
  af))))))))
@[reducible] noncomputable def bZ:PS:=
  (ae (av 1 (p2 aj (pV 0) (pC (.int 1))))
  (ae (be (p2 bI (p2 aj (pV 1) (pC (.int 0))) (pC (.str (ofString "not"))))
  (ae (au (ax (aa (pC (.str (ofString "not"))) (aa (ax (aa (pC (.str (ofString "next"))) (aa (p2 aj (pV 1) (pC (.int 1))) ah))) ah))))
  af)
  af)
  (ae (be (p2 i5 (p2 aj (pV 1) (pC (.int 0))) (ax (aa (pC (.str (ofString "and"))) (aa (pC (.str (ofString "or"))) ah))))
  (ae (au (ax (aa (p2 aj (pV 1) (pC (.int 0))) (aa (ax (aa (pC (.str (ofString "next"))) (aa (p2 aj (pV 1) (pC (.int 1))) ah))) (aa (ax (aa (pC (.str (ofString "next"))) (aa (p2 aj (pV 1) (pC (.int 2))) ah))) ah)))))
  af)
  af)
  (ae (au (ax (aa (pC (.str (ofString "not"))) (aa (ax (aa (pC (.str (ofString "not"))) (aa (pV 0) ah))) ah))))
  af))))
@[reducible] noncomputable def cY:PS:=
  (ae (av 2 (p2 aj (pV 0) (pC (.int 0))))
  (ae (be (p2 bI (pV 2) (pC (.str (ofString "always"))))
  (ae (au (ax (aa (pC (.str (ofString "not"))) (aa (ax (aa (pC (.str (ofString "till"))) (aa (ax (aa (pC (.str (ofString "yes"))) ah)) (aa (ax (aa (pC (.str (ofString "not"))) (aa (p2 aj (pV 0) (pC (.int 1))) ah))) ah)))) ah))))
  af)
  af)
  (ae (be (p2 bI (pV 2) (pC (.str (ofString "again"))))
  (ae (au (ax (aa (pC (.str (ofString "always"))) (aa (ax (aa (pC (.str (ofString "till"))) (aa (ax (aa (pC (.str (ofString "yes"))) ah)) (aa (p2 aj (pV 0) (pC (.int 1))) ah)))) ah))))
  af)
  af)
  (ae (be (p2 bI (pV 2) (pC (.str (ofString "till"))))
  (ae (au (ax (aa (pC (.str (ofString "or"))) (aa (p2 aj (pV 0) (pC (.int 2))) (aa (ax (aa (pC (.str (ofString "and"))) (aa (p2 aj (pV 0) (pC (.int 1))) (aa (ax (aa (pC (.str (ofString "next"))) (aa (pV 0) ah))) ah)))) ah)))))
  af)
  af)
  (ae (be (p2 bI (pV 2) (pC (.str (ofString "next"))))
  (ae (au (ak 61 (aa (pV 0) ah)))
  af)
  af)
  (ae (be (j7 (p2 i5 (pV 2) (ax (aa (pC (.str (ofString "and"))) (aa (pC (.str (ofString "or"))) ah)))) (j7 (p2 bI (p2 bG (pV 1) (pC (.int 2))) (pC (.int 0))) ay))
  (ae (au (ax (aa (pV 2) (aa (p2 aj (pV 0) (pC (.int 2))) (aa (p2 aj (pV 0) (pC (.int 1))) ah)))))
  af)
  af)
  (ae (be (p2 i5 (pV 2) (ax (aa (pC (.str (ofString "and"))) (aa (pC (.str (ofString "or"))) ah))))
  (ae (au (ax (aa (pC (.str (ofString "not"))) (aa (ax (aa (p2 aj (bu (aa (pC (.str (ofString "and"))) (aa (pC (.str (ofString "or"))) ah))) (p1 td (pB (p2 bI (pV 2) (pC (.str (ofString "and"))))))) (aa (ax (aa (pC (.str (ofString "not"))) (aa (p2 aj (pV 0) (pC (.int 1))) ah))) (aa (ax (aa (pC (.str (ofString "not"))) (aa (p2 aj (pV 0) (pC (.int 2))) ah))) ah)))) ah))))
  af)
  af)
  (ae (au (ax (aa (pC (.str (ofString "not"))) (aa (ax (aa (pC (.str (ofString "not"))) (aa (pV 0) ah))) ah))))
  af))))))))
@[reducible] noncomputable def dQ:PS:=
  (ae (au (pB (p2 bI (aB (aG (p3 bE (ak 21 (aa (pV 0) ah)) (p1 ck (pC (.int 1))) iw)) (aJ 1) (p2 fP (p2 aj (pV 1) (pC (.int 0))) (ax (aa (pC (.str (ofString "mark"))) (aa (pC (.str (ofString "yes"))) ah)))) (pV 1)) (bu ah))))
  af)
@[reducible] noncomputable def vy:PS:=
  (ae (av 2 (ak 19 (aa (ak 17 (aa (pV 0) (aa (pC (.int 0)) ah))) ah)))
  (ae (av 3 (ak 25 (aa (pV 0) (aa (pV 1) (aa (pV 2) (aa (pC (.int 3)) ah))))))
  (ae (av 4 (ak 23 (aa (ak 20 (aa (pV 0) (aa (pV 1) (aa (pV 2) (aa (pC (.int 3)) ah))))) (aa (pC (.int 2)) ah))))
  (ae (av 5 (ax (aa (pC (.str (ofString "mark"))) (aa (p2 aj (pV 2) (pC (.int 0))) ah))))
  (ae (av 6 (ax (aa (pC (.str (ofString "not"))) (aa (ax (aa (pC (.str (ofString "mark"))) (aa (p2 aj (pV 2) (pC (.int 1))) ah))) ah))))
  (ae (av 7 (bu (aa (ax (aa (pC (.str (ofString "always"))) (aa (pV 5) ah))) (aa (ax (aa (pC (.str (ofString "again"))) (aa (pV 5) ah))) (aa (ax (aa (pC (.str (ofString "till"))) (aa (pV 5) (aa (ax (aa (pC (.str (ofString "mark"))) (aa (p2 aj (pV 2) (pC (.int 1))) ah))) ah)))) (aa (ax (aa (pC (.str (ofString "next"))) (aa (pV 6) ah))) (aa (ax (aa (pC (.str (ofString "again"))) (aa (pV 6) ah))) ah)))))))
  (ae (av 7 (p2 bf (pV 7) (bu (aa (ax (aa (pC (.str (ofString "always"))) (aa (pV 6) ah))) (aa (ax (aa (pC (.str (ofString "next"))) (aa (ax (aa (pC (.str (ofString "and"))) (aa (pV 5) (aa (pV 6) ah)))) ah))) (aa (ax (aa (pC (.str (ofString "next"))) (aa (ax (aa (pC (.str (ofString "or"))) (aa (pV 5) (aa (pV 6) ah)))) ah))) ah))))))
  (ae (be (eY (j7 (p2 bI (p2 aj (pV 4) (pC (.int 0))) (pC (.str (ofString "till")))) (j7 (dE (qE (ak 63 (aa (pV 4) ah)))) ay)) (eY (p2 bI (p2 bG (p2 cJ (ak 17 (aa (pV 0) (aa (pC (.int 1)) ah))) (pC (.int 2))) (pC (.int 2))) (pC (.int 1))) bJ))
  (ae (av 4 (p2 aj (pV 7) (p2 bG (p2 cJ (ak 17 (aa (pV 0) (aa (pC (.int 1)) ah))) (pC (.int 4))) (pC (.int 8)))))
  af)
  af)
  (ae (av 8 (qd 0 1006 (aa (p2 aj (pV 3) (pC (.int 0))) (aa (p2 aj (pV 3) (pC (.int 1))) (aa (p2 aj (pV 3) (pC (.int 2))) ah)))))
  (ae (av 6 (ak 62 (aa (pV 4) (aa (ak 17 (aa (pV 0) (aa (pC (.int 1)) ah))) ah))))
  (ae (av 9 (bu (aa (ak 43 (aa (pV 8) (aa (pV 4) ah))) (aa (ak 43 (aa (pV 8) (aa (pV 6) ah))) ah))))
  (ae (be (p2 jW (p1 aO (ak 500 (aa (pV 6) ah))) (p1 aO (ak 22 (aa (pV 6) ah))))
  (ae (au (pC (.bool false)))
  af)
  af)
  (ae (be (p2 jW (p2 aj (p2 aj (pV 9) (pC (.int 0))) (pC (.int 0))) (p2 aj (p2 aj (pV 9) (pC (.int 1))) (pC (.int 0))))
  (ae (au (pC (.bool false)))
  af)
  af)
  (ae (bP (aG (pV 9)) (aJ 10)
  (ae (be (p2 bI (p2 aj (pV 10) (pC (.int 0))) (pC (.str (ofString "breaks"))))
  (ae (av 11 (aB (aG (p3 bE (pV 10) (p1 ck (pC (.int 1))) iw)) (aJ 12) ay (aB (aG (pV 12)) (aJ 13) ay (p2 aj (p2 aj (pV 3) (pC (.int 0))) (pV 13)))))
  (ae (bP (aG (ax (aa (pV 4) (aa (pV 6) ah)))) (aJ 5)
  (ae (be (eY (qE (ak 56 (aa (pV 5) (aa (p2 aj (pV 11) (pC (.int 0))) (aa (p2 aj (pV 11) (pC (.int 1))) ah))))) (eY (qE (p2 aj (ak 46 (aa (pV 5) (aa (p2 aj (pV 11) (pC (.int 0))) (aa (p2 aj (pV 11) (pC (.int 1))) ah)))) (pC (.int 0)))) bJ))
  (ae (au (pC (.bool false)))
  af)
  af)
  af))
  af))
  af)
  af))
  (ae (au (pC (.bool true)))
  af)))))))))))))))
@[reducible] noncomputable def dT:PS:=
  (ae (kN (ak 7 (aa (pV 2) ah)))
  (ae (rN 10 0 (ak 500 (aa (pV 2) ah)))
  (ae (rN 10 1 (ak 13 (aa (pV 2) ah)))
  (ae (rN 10 2 (pV 1))
  (ae (rN 10 3 t8)
  (ae (rN 10 4 (bu ah))
  (ae (bP (aG (sV 0 1009 (pV 1) ah)) (aJ 3)
  (ae (bP (aG (ak 8 (aa (eH 10 0) ah))) (aJ 4)
  (ae (be (dE (qE (ak 10 (aa (pV 2) (aa (sV 0 1007 (pV 1) (aa (pV 3) ah)) (aa (eH 10 0) (aa (pV 4) ah)))))))
  (ae (qf 10 4 (ax (aa (pV 3) (aa (pV 4) ah))))
  af)
  af)
  af))
  af))
  (ae (rN 10 5 (p1 aO (oA 10 4)))
  (ae (rN 10 6 t8)
  (ae (kN (rO 10 1002 ah))
  af))))))))))
@[reducible] noncomputable def iu:PS:=
  (ae (av 1 (p1 qy (oB 10 4 (aJ 5) (ax (aa (pV 5) (aa (pC (.bool true)) ah))))))
  (ae (av 2 (pC (.int 0)))
  (ae (eZ 400 (p2 uS (pV 2) (p1 aO (oA 10 4)))
  (ae (av 3 (AG 10 4 aj (pV 2)))
  (ae (qe 10 6 (pV 3) (rO 10 1003 (aa (pV 3) ah)))
  (ae (bP (aG (AG 10 6 idxD (pV 3))) (aJ 4)
  (ae (be (p2 dW (pV 4) (pV 1))
  (ae (sD 1 dP (pV 4) (pC (.bool true)))
  (ae (qf 10 4 (pV 4))
  af))
  af)
  af))
  (ae (av 2 (p2 bf (pV 2) (pC (.int 1))))
  af)))))
  af)))
@[reducible] noncomputable def fu:PS:=
  (ae (av 2 (ax (aa (sV 0 1007 (eH 10 2) (aa (p2 aj (pV 1) (pC (.int 0))) ah)) (aa (p2 aj (pV 1) (pC (.int 1))) ah))))
  (ae (av 3 (bu ah))
  (ae (bP (aG (sV 0 1008 (eH 10 2) (aa (p2 aj (pV 1) (pC (.int 0))) ah))) (aJ 4)
  (ae (gY 3 hE (aB (aG (rO 10 1004 (aa (pV 2) (aa (sV 0 1007 (eH 10 2) (aa (pV 4) ah)) ah)))) (aJ 5) ay (ax (aa (pV 4) (aa (pV 5) ah)))))
  af))
  (ae (au (pV 3))
  af))))
@[reducible] noncomputable def ch:PS:=
  (ae (be (p2 dW (ax (aa (pV 1) (aa (pV 2) ah))) (oA 10 3))
  (ae (av 3 (aB (aG (ak 8 (aa (eH 10 0) ah))) (aJ 4) (qE (ak 12 (aa (eH 10 0) (aa (pV 1) (aa (ax (aa (pV 2) (aa (pV 4) ah))) ah))))) (pV 4)))
  (ae (qe 10 3 (ax (aa (pV 1) (aa (pV 2) ah))) (pV 3))
  af))
  af)
  (ae (au (AG 10 3 idxD (ax (aa (pV 1) (aa (pV 2) ah)))))
  af))
@[reducible] noncomputable def gw:PS:=
  (ae (au (ak 14 (aa (p2 aj (eH 10 1) (pV 2)) (aa (sV 0 1007 (eH 10 2) (aa (p2 aj (pV 1) (pC (.int 0))) ah)) (aa (eH 10 0) (aa (p2 aj (pV 1) (pC (.int 1))) ah))))))
  af)
@[reducible] noncomputable def cE:PS:=
  (ae (be (eY (dE (qE (p1 (gF .list) (pV 1)))) (eY (dE (lG BJ BJ (pC (.int 1)) (p1 aO (pV 1)) (pC (.int 12)))) bJ))
  (ae gZ
  af)
  af)
  (ae (be (dE (qE (p1 jl (aB (aG (pV 1)) (aJ 5) ay (ak 1 (aa (pV 5) ah))))))
  (ae gZ
  af)
  af)
  (ae (be (eY (dE (qE (p1 (gF .list) (pV 2)))) (eY (p2 jW (p1 aO (pV 2)) (p1 aO (pV 1))) bJ))
  (ae gZ
  af)
  af)
  (ae (bP (aG (pV 2)) (aJ 4)
  (ae (kN (ak 16 (aa (pV 4) (aa (p1 aO (pV 1)) ah))))
  af))
  (ae (kN (ak 16 (aa (pV 3) (aa (p1 aO (pV 1)) ah))))
  (ae (rN 0 0 (p1 ia (pV 1)))
  (ae (rN 0 1 (aB (aG (pV 2)) (aJ 6) ay (p1 ia (pV 6))))
  (ae (rN 0 2 (p1 ia (pV 3)))
  af))))))))
@[reducible] noncomputable def dU:PS:=
  (ae (au (p2 aj (eH 0 0) (pV 1)))
  af)
@[reducible] noncomputable def dt:PS:=
  (ae (au (p1 ia (p2 aj (eH 0 1) (pV 1))))
  af)
@[reducible] noncomputable def cZ:PS:=
  (ae (au (p1 ia (eH 0 2)))
  af)
noncomputable def rows:List (Nat×fN):=[(1,⟨1,1,jw⟩),
 (2,⟨1,0,il⟩),
 (3,⟨1,0,io⟩),
 (4,⟨2,1,gj⟩),
 (5,⟨1,0,gk⟩),
 (6,⟨1,1,gh⟩),
 (500,⟨1,4,ip⟩),
 (7,⟨1,0,eE⟩),
 (8,⟨1,4,eG⟩),
 (9,⟨3,0,jx⟩),
 (10,⟨4,1,oy⟩),
 (11,⟨4,0,lA⟩),
 (12,⟨3,1,jy⟩),
 (13,⟨1,1,eB⟩),
 (14,⟨4,0,lE⟩),
 (34,⟨1,7,fj⟩),
 (35,⟨1,4,tL⟩),
 (36,⟨1,7,gp⟩),
 (37,⟨2,0,fk⟩),
 (38,⟨2,2,ox⟩),
 (39,⟨3,5,jv⟩),
 (40,⟨2,1,gg⟩),
 (41,⟨2,6,ju⟩),
 (42,⟨2,3,gq⟩),
 (43,⟨2,7,lC⟩),
 (15,⟨2,0,im⟩),
 (16,⟨2,2,eF⟩),
 (53,⟨3,4,gf⟩),
 (54,⟨3,9,eC⟩),
 (55,⟨3,0,lB⟩),
 (56,⟨3,0,oz⟩),
 (17,⟨2,0,dS⟩),
 (18,⟨2,1,gv⟩),
 (19,⟨1,9,fm⟩),
 (20,⟨4,5,gu⟩),
 (21,⟨1,2,ir⟩),
 (22,⟨1,4,fq⟩),
 (23,⟨2,0,iq⟩),
 (44,⟨3,3,ft⟩),
 (45,⟨3,1,gr⟩),
 (46,⟨3,12,aU⟩),
 (24,⟨3,3,gt⟩),
 (25,⟨4,6,dR⟩),
 (61,⟨1,1,bZ⟩),
 (62,⟨2,1,cY⟩),
 (63,⟨1,1,dQ⟩),
 (999,⟨1,13,gZ⟩),
 (1001,⟨3,2,dT⟩),
 (1002,⟨1,5,iu⟩),
 (1003,⟨2,4,fu⟩),
 (1004,⟨3,2,ch⟩),
 (1005,⟨3,0,gw⟩),
 (1006,⟨4,3,cE⟩),
 (1007,⟨2,0,dU⟩),
 (1008,⟨2,0,dt⟩),
 (1009,⟨1,0,cZ⟩)]
noncomputable def Ψ (f:Nat):Option fN:=(rows.find? fun r=>Nat.beq r.1 f).map (·.2)
end
end Mine.L09
end
section
set_option maxRecDepth 100000
set_option maxHeartbeats 4000000
namespace Mine.L09
noncomputable section
open PySem PySem.W PyProof.Rows
noncomputable def jY:List FI:=[(1,bv PySem.Challenge.pw_uf020006_09 10,(ofString "is_mark"),true,[lo "thing"],[1],100001000010000100000000000000000000),
 (2,bv PySem.Challenge.pw_uf020006_09 11,(ofString "parts_of"),true,[lo "saying"],[],0),
 (3,bv PySem.Challenge.pw_uf020006_09 12,(ofString "has_form"),true,[lo "thing"],[],0),
 (4,bv PySem.Challenge.pw_uf020006_09 13,(ofString "is_within"),true,[lo "thing",ce "deep"],[2],200000000000000000000),
 (5,bv PySem.Challenge.pw_uf020006_09 14,(ofString "is_saying"),true,[lo "thing"],[],0),
 (6,bv PySem.Challenge.pw_uf020006_09 15,(ofString "own_bonds"),true,[lo "saying",lo "ahead"],[],0),
 (500,bv PySem.Challenge.pw_uf020006_09 16,(ofString "bonds_in"),true,[lo "saying",ce "found",lo "part"],[3,4],4000010000000000000000000000003000010000000000000000000100000),
 (7,bv PySem.Challenge.pw_uf020006_09 17,(ofString "need_saying"),true,[lo "saying"],[],0),
 (8,bv PySem.Challenge.pw_uf020006_09 19,(ofString "all_guesses"),true,[lo "bonds",lo "found",lo "bond"],[3,4],40000000003000000000000000000000000000000),
 (9,bv PySem.Challenge.pw_uf020006_09 20,(ofString "guessed"),true,[lo "bond",lo "bonds",lo "guess"],[],0),
 (10,bv PySem.Challenge.pw_uf020006_09 21,(ofString "is_so"),true,[lo "saying",lo "mark",lo "bonds",lo "guess",lo "word"],[],0),
 (11,bv PySem.Challenge.pw_uf020006_09 22,(ofString "wanted"),true,[lo "bond",lo "bonds",lo "now",lo "then"],[],0),
 (12,bv PySem.Challenge.pw_uf020006_09 23,(ofString "goes_on"),true,[lo "bonds",lo "now",lo "then",lo "bond"],[],0),
 (13,bv PySem.Challenge.pw_uf020006_09 24,(ofString "promises_of"),true,[lo "saying"],[1],100000),
 (14,bv PySem.Challenge.pw_uf020006_09 25,(ofString "is_met"),true,[lo "promise",lo "mark",lo "bonds",lo "guess"],[],0),
 (34,bv PySem.Challenge.pw_uf020006_09 29,(ofString "left_order"),true,[lo "web",lo "found",lo "met",lo "start",lo "stack",lo "knot",lo "at",lo "other"],[],20000000000000000000500000000000000000000000010000000001000000000100000000010000000000000000000100000000000000100000000010000000000000002000000000000010000000001000000000100000000000000000001000000000100000),
 (35,bv PySem.Challenge.pw_uf020006_09 30,(ofString "led_from"),true,[lo "web",lo "found",lo "knot",lo "other"],[4],0),
 (36,bv PySem.Challenge.pw_uf020006_09 31,(ofString "clumps_of"),true,[lo "web",lo "backs",lo "met",lo "found",lo "start",lo "clump",lo "at",lo "other"],[],400000000000000000001000000000600000000000000000000000000000000001000000000100000000010000000000000010000000000004000000000000000000000100000000010000000001000000000000000000010000000001000000000000000),
 (37,bv PySem.Challenge.pw_uf020006_09 32,(ofString "goes_round"),true,[lo "web",lo "clump"],[],1000000000000000),
 (38,bv PySem.Challenge.pw_uf020006_09 33,(ofString "unmet"),true,[ce "web",lo "clump",ce "number"],[3],3000000000000000),
 (39,bv PySem.Challenge.pw_uf020006_09 34,(ofString "path_to"),true,[lo "web",lo "starts",lo "goals",lo "came",lo "waiting",lo "here",lo "other"],[7],10000000001000000000100000000010000000000000000000000004000000000000003000000040000000000010000000000000070000100000),
 (40,bv PySem.Challenge.pw_uf020006_09 35,(ofString "path_back"),true,[lo "came",lo "knot",lo "found"],[],10000000000000010000000400000000000100000),
 (41,bv PySem.Challenge.pw_uf020006_09 36,(ofString "ring_in"),true,[ce "web",ce "clump",lo "found",ce "number",lo "goals",lo "behind"],[6,7],1000000000700000000020000000000000000000000000000060000000002000000000000000000000000000000),
 (42,bv PySem.Challenge.pw_uf020006_09 37,(ofString "broken_by"),true,[lo "web",lo "clump",lo "way"],[3,4],4000000000000003000000000000000),
 (43,bv PySem.Challenge.pw_uf020006_09 38,(ofString "judged"),true,[lo "machine",lo "saying",lo "web",ce "clumps",lo "rows",ce "at",lo "clump",ce "number"],[8],5000000000000000000000000800001000000000000000000000000000000000000000000000000000000000000000010000000000000000000000000),
 (15,bv PySem.Challenge.pw_uf020006_09 41,(ofString "is_place"),true,[lo "thing",lo "many"],[],0),
 (16,bv PySem.Challenge.pw_uf020006_09 42,(ofString "need_places"),true,[lo "thing",lo "many",lo "at",lo "place"],[],0),
 (53,bv PySem.Challenge.pw_uf020006_09 45,(ofString "till_over"),true,[lo "ones",lo "others",lo "begin",lo "found",lo "turn",lo "at",lo "behind"],[],4000000000000000000000000000000000000000000000000010000000000000000000100000),
 (54,bv PySem.Challenge.pw_uf020006_09 46,(ofString "over"),true,[ce "saying",ce "marks",ce "begin",lo "word",lo "rows",lo "never"],[6,7,8,9,10,11],110000000000000000001000000000000000000000000000000000000000000000000000000000000000000000000000000000000000000000000000000000000000000000000000000000000000000009000000000000000000080000000002000000000000000000070000000000000000000000000000060000000000000000000000000),
 (55,bv PySem.Challenge.pw_uf020006_09 47,(ofString "row_of"),true,[lo "saying",lo "way",lo "ring"],[],0),
 (56,bv PySem.Challenge.pw_uf020006_09 48,(ofString "holds"),true,[lo "saying",lo "way",lo "ring"],[],0),
 (17,bv PySem.Challenge.pw_uf020006_09 50,(ofString "_law_cell_at"),true,[lo "_law_script",lo "_law_k"],[],0),
 (18,bv PySem.Challenge.pw_uf020006_09 51,(ofString "_law_draw"),true,[lo "_law_script",lo "_law_spot",lo "_law_k"],[],0),
 (19,bv PySem.Challenge.pw_uf020006_09 52,(ofString "_law_names"),true,[ce "_law_cell",ce "_law_letters",ce "_law_rest",ce "_law_size",lo "_law_at",lo "_law_found",lo "_law_k",lo "_law_letter"],[8,9],600000000010000000000000000000000000000000000100000000000000000000000000000000000000090000000000000000000000000000000000800000000000000000000),
 (20,bv PySem.Challenge.pw_uf020006_09 53,(ofString "_law_made"),true,[lo "_law_script",lo "_law_spot",lo "_law_names_here",lo "_law_deep",lo "_law_cell",lo "_law_more",lo "_law_kinds",lo "_law_kind",lo "_law_one"],[],0),
 (21,bv PySem.Challenge.pw_uf020006_09 54,(ofString "_law_all"),true,[lo "_law_saying",lo "_law_found",lo "_law_part"],[],0),
 (22,bv PySem.Challenge.pw_uf020006_09 55,(ofString "_law_bonds"),true,[lo "_law_saying",ce "_law_found",lo "_law_one",lo "_law_more"],[4],40000000000000000000000000000000000000000000000000000000000000000000000000000000000000000000000000000000000000000000),
 (23,bv PySem.Challenge.pw_uf020006_09 56,(ofString "_law_fit"),true,[lo "_law_saying",lo "_law_most"],[],4000000),
 (44,bv PySem.Challenge.pw_uf020006_09 57,(ofString "_law_after"),true,[lo "_law_way",lo "_law_ring",lo "_law_at",lo "_law_size"],[4,5],50000000004000000000000000),
 (45,bv PySem.Challenge.pw_uf020006_09 58,(ofString "_law_till"),true,[lo "_law_ones",lo "_law_others",lo "_law_moments",lo "_law_k"],[],0),
 (46,bv PySem.Challenge.pw_uf020006_09 59,(ofString "_law_means"),true,[ce "_law_saying",ce "_law_way",ce "_law_ring",lo "_law_word",lo "_law_run",ce "_law_rows"],[6,7,8,9,10,11,12,13,14],140000000000000000000000000000130000000000000000000000000000000001200000000000001100000000000000000000000000000000000000100000000000000000000000000000000000000000000000000000000000000000000000000000000900000000000000000008000000000000000000000000700000000000000000000000000000600000000000000000000000000000000000),
 (24,bv PySem.Challenge.pw_uf020006_09 60,(ofString "_law_some"),true,[lo "_law_cell",lo "_law_many",lo "_law_first",lo "_law_rest",lo "_law_found",lo "_law_k"],[],50000000000000000000000000000010000000000000000000000001000000000000000),
 (25,bv PySem.Challenge.pw_uf020006_09 61,(ofString "_law_machine"),true,[lo "_law_script",lo "_law_spot",lo "_law_names_here",lo "_law_most",lo "_law_many",lo "_law_some_here",lo "_law_marks",lo "_law_ways",lo "_law_k",lo "_law_cell"],[],700008000000000000007000080000000000000000000000001000000000000001000000000000000000000000000001000000000100000000000000000000000000000000000),
 (61,bv PySem.Challenge.pw_uf020006_09 62,(ofString "_law_next_otherwise"),true,[lo "_law_saying",lo "_law_one"],[],0),
 (62,bv PySem.Challenge.pw_uf020006_09 63,(ofString "_law_otherwise"),true,[lo "_law_saying",lo "_law_way",lo "_law_word"],[],0),
 (63,bv PySem.Challenge.pw_uf020006_09 64,(ofString "_law_shallow"),true,[lo "_law_saying"],[1],100000),
 (999,bv PySem.Challenge.pw_uf020006_09 65,(ofString "law"),true,[lo "_law_script",lo "_law_spot",lo "_law_names_here",ce "_law_drawn",lo "_law_saying",lo "_law_one",lo "_law_other",lo "_law_some_here",lo "_law_machine_here",lo "_law_told",lo "_law_found",lo "_law_marks"],[12,13],0),
 (1001,oJ PySem.Challenge.pw_uf020006_09 27 0,(ofString "__init__"),false,[lo "self",lo "machine",lo "saying",lo "place",lo "guess"],[],100000000000000000000000000000000000000000000000000000000000000000),
 (1002,oJ PySem.Challenge.pw_uf020006_09 27 1,(ofString "spin"),false,[lo "self",lo "met",lo "at",lo "knot",lo "other"],[5],100000000010000000001000000000100000000000000000000000000000000400000000000000000000050000100000),
 (1003,oJ PySem.Challenge.pw_uf020006_09 27 2,(ofString "led_to"),false,[lo "self",lo "knot",lo "now",lo "found",ce "place"],[5],40000000000000050000100000000000000000000000010000000000000000000000000),
 (1004,oJ PySem.Challenge.pw_uf020006_09 27 3,(ofString "guesses_behind"),false,[ce "self",ce "now",ce "mark",lo "some"],[4],10000000000000000000000000000040000000002000000000100000),
 (1005,oJ PySem.Challenge.pw_uf020006_09 27 4,(ofString "meets"),false,[lo "self",lo "knot",lo "number"],[],0),
 (1006,oJ PySem.Challenge.pw_uf020006_09 43 0,(ofString "__init__"),false,[lo "self",lo "marks",lo "ways",lo "begins",lo "row"],[5,6],60000000000000000000000000000000000000000000000000000000000000000000000000000000500000000000000000000),
 (1007,oJ PySem.Challenge.pw_uf020006_09 43 1,(ofString "mark"),false,[lo "self",lo "place"],[],0),
 (1008,oJ PySem.Challenge.pw_uf020006_09 43 2,(ofString "leads"),false,[lo "self",lo "place"],[],0),
 (1009,oJ PySem.Challenge.pw_uf020006_09 43 3,(ofString "starts"),false,[lo "self"],[],0)]
noncomputable def uY:LT:=([((ofString "is_mark"),1),((ofString "parts_of"),2),((ofString "has_form"),3),((ofString "is_within"),4),((ofString "is_saying"),5),((ofString "own_bonds"),6),((ofString "bonds_in"),500),((ofString "need_saying"),7),((ofString "all_guesses"),8),((ofString "guessed"),9),((ofString "is_so"),10),((ofString "wanted"),11),((ofString "goes_on"),12),((ofString "promises_of"),13),((ofString "is_met"),14),((ofString "left_order"),34),((ofString "led_from"),35),((ofString "clumps_of"),36),((ofString "goes_round"),37),((ofString "unmet"),38),((ofString "path_to"),39),((ofString "path_back"),40),((ofString "ring_in"),41),((ofString "broken_by"),42),((ofString "judged"),43),((ofString "is_place"),15),((ofString "need_places"),16),((ofString "till_over"),53),((ofString "over"),54),((ofString "row_of"),55),((ofString "holds"),56),((ofString "_law_cell_at"),17),((ofString "_law_draw"),18),((ofString "_law_names"),19),((ofString "_law_made"),20),((ofString "_law_all"),21),((ofString "_law_bonds"),22),((ofString "_law_fit"),23),((ofString "_law_after"),44),((ofString "_law_till"),45),((ofString "_law_means"),46),((ofString "_law_some"),24),((ofString "_law_machine"),25),((ofString "_law_next_otherwise"),61),((ofString "_law_otherwise"),62),((ofString "_law_shallow"),63)],
 [((ofString "__init__"),1006),((ofString "mark"),1007),((ofString "leads"),1008),((ofString "starts"),1009)],[((ofString "__init__"),1001),((ofString "spin"),1002),((ofString "led_to"),1003),((ofString "guesses_behind"),1004),((ofString "meets"),1005)],
 [((ofString "LETTERS"),.str (ofString "abcdefghijklmnopqrstuvwxyz")),((ofString "MOST_BONDS"),.int 4),((ofString "MOST_DEEP"),.int 5),((ofString "MOST_LETTERS"),.int 6),((ofString "MOST_PLACES"),.int 12)])
noncomputable def ks:List Nat:=rows.map (·.1)
theorem Ea:pv q Ψ ks jY uY:=⟨by kernel_rfl,fun _ _ _ _ _=>by kernel_rfl,fun _ _ _ _ _ _=>by kernel_rfl,fun _ _ _ _ _ _ _=>by kernel_rfl,fun _ _ _ _ _ _ _ _=>by kernel_rfl,fun _ _ _ _ _ _ _ _ _=>by kernel_rfl,by kernel_rfl,fun b=>by cases b<;>kernel_rfl,by kernel_rfl,fun b=>by cases b<;>kernel_rfl,fun b=>by cases b<;>kernel_rfl,by kernel_rfl⟩
theorem yf (P:Pg)(D:fJ P uY):ks.map (BZ D jY)=ks.map (Ca Ψ):=by kernel_rfl
theorem yP (P:Pg)(D:fJ P uY)(F:fN)(e:Ψ 35=some F):xH P jY 35 F.body:=by
 have h:F.body=tL:=congrArg fN.body (Option.some.inj e.symm)
 rw [h]
 exact ⟨⟨[],[4],false⟩,AX (D.o false) (by decide+kernel) rfl rfl rfl rfl rfl rfl rfl (.inl rfl) (.inl rfl) (.inl rfl) (by decide+kernel) (by decide+kernel) rf rfl rf⟩
theorem A1 (P:Pg)(D:fJ P uY):(BX D 60 ⟨rc jY 999,hJ jY 999⟩ ⟨[],kR jY 999,false⟩ false (sv jY 999).tail 1300000000120000000002000000000000000000000000000000000000000000000000000000000000000000000000000000000000000000000000000000000000000000000000000000000000000000000000000000000000000000000000000000000000000000000000000000000000000000000000000000000000000000000000).map (·.1.2.1)=some vy:=by kernel_rfl
theorem zm {mean:ExcName→Option Value}{mg mb:Str→Option Value}{h:Heap}(T:Top q (looseW q []) mean mg mb h)(P:Pg):∀p∈uY.2.2.2,∃u,mg p.1=some u∧∀g h,Rp P g h p.2 u:=all_cons (uB T (by kernel_rfl) (by decide+kernel)) (all_cons (gV T (by kernel_rfl)) (all_cons (gV T (by kernel_rfl)) (all_cons (gV T (by kernel_rfl)) (all_cons (gV T (by kernel_rfl)) (fun _ h=>nomatch h)))))
theorem DG:PySem.Challenge.rw_uf020006_09.wellSaid=true:=by kernel_rfl
theorem EW:(chainsOk q&&opensWell PySem.Challenge.rw_uf020006_09.row.prog&&(frees PySem.Challenge.rw_uf020006_09.row.toRowW&&PySem.Challenge.rw_uf020006_09.row.within.isEmpty))=true:=by kernel_rfl
end
end Mine.L09
end
section
set_option tactic.hygienic false
namespace Mine.Ltl
noncomputable section
open PySem
inductive Sy where
 |mark (x:Str)
 |yes
 |not (a:Sy)
 |and (a c:Sy)
 |or (a c:Sy)
 |next (a:Sy)
 |till (a c:Sy)
 |always (a:Sy)
 |again (a:Sy)
noncomputable instance:DecidableEq Sy:=fun a b=>Classical.propDecidable (a=b)
noncomputable def nx (n b i:Nat):Nat:=if i+1=n then b else i+1
noncomputable def U (n b:Nat)(p q:Nat→Bool):Nat→Nat→Bool
 | 0,_=>false
 |k+1,i=>q i||(p i&&U n b p q k (nx n b i))
noncomputable def it (n b:Nat):Nat→Nat→Nat
 | 0,i=>i
 |t+1,i=>it n b t (nx n b i)
theorem qX {n b:Nat}{p q:Nat→Bool}:∀{k i:Nat},U n b p q k i=true↔∃t,t < k∧q (it n b t i)=true∧∀u,u < t→p (it n b u i)=true
 | 0,i=>by simp [U]
 |k+1,i=>by
  rw [U,Bool.or_eq_true,Bool.and_eq_true,qX]
  constructor
  ·rintro (h | ⟨h,t,h1,h2,h3⟩)
   ·exact ⟨0,by lia,h,fun u hu=>by lia⟩
   ·refine ⟨t+1,by lia,h2,fun u hu=>?_⟩
    cases u with
    |zero=>exact h
    |succ u=>exact h3 u (by lia)
  ·rintro ⟨t,h1,h2,h3⟩
   cases t with
   |zero=>exact .inl h2
   |succ t=>exact .inr ⟨h3 0 (by lia),t,by lia,h2,fun u hu=>h3 (u+1) (by lia)⟩
theorem zV {n b i:Nat}(hb:b < n)(hi:i < n):nx n b i < n:=by
 unfold nx;split<;>lia
theorem dX {n b:Nat}:∀(s t i:Nat),it n b (s+t) i=it n b t (it n b s i)
 | 0,t,i=>by simp [it]
 |s+1,t,i=>by rw [show s+1+t=(s+t)+1 by lia,it,it,dX s t]
theorem rU {n b:Nat}(hb:b < n):∀(t i:Nat),i+t≤b→it n b t i=i+t
 | 0,i,_=>rfl
 |t+1,i,h=>by
  rw [it,show nx n b i=i+1 by unfold nx;rw [if_neg (by lia)],rU hb t (i+1) (by lia)];lia
theorem dG {n b:Nat}(hb:b < n):∀(t r:Nat),r < n - b→it n b t (b+r)=b+(r+t) % (n - b)
 | 0,r,h=>by simp [it,Nat.mod_eq_of_lt h]
 |t+1,r,h=>by
  rw [it]
  by_cases e:b+r+1=n
  ·rw [show nx n b (b+r)=b+0 by unfold nx;rw [if_pos e];rfl,dG hb t 0 (Nat.sub_pos_of_lt hb)]
   have:r+(t+1)=(0+t)+(n - b):=by lia
   rw [this,Nat.add_mod_right]
  ·rw [show nx n b (b+r)=b+(r+1) by unfold nx;rw [if_neg e];rfl,dG hb t (r+1) (by lia)]
   rw [Nat.add_assoc,Nat.add_comm 1 t]
theorem uk {n b:Nat}(hb:b < n){i t:Nat}(hi:i < n)(ht:b - i≤t):it n b (t+(n - b)) i=it n b t i:=by
 by_cases h:b≤i
 ·obtain ⟨r,rfl⟩:=Nat.exists_eq_add_of_le h
  rw [dG hb _ r (by lia),dG hb _ r (by lia),←Nat.add_assoc,Nat.add_mod_right]
 ·have e:it n b (b - i) i=b+0:=by rw [rU hb _ _ (by lia)];lia
  obtain ⟨u,rfl⟩:=Nat.exists_eq_add_of_le ht
  have e1:it n b (b - i+u) i=it n b u (b+0):=by rw [dX,e]
  have e2:it n b (b - i+u+(n - b)) i=it n b (u+(n - b)) (b+0):=by rw [Nat.add_assoc,dX,e]
  rw [e1,e2,dG hb _ 0 (Nat.sub_pos_of_lt hb),dG hb _ 0 (Nat.sub_pos_of_lt hb),←Nat.add_assoc,Nat.add_mod_right]
theorem xF {n b:Nat}{p q:Nat→Bool}{k k' i:Nat}(h:k≤k')(hu:U n b p q k i=true):U n b p q k' i=true:=by
 rw [qX] at hu ⊢
 obtain ⟨t,h1,h2⟩:=hu
 exact ⟨t,by lia,h2⟩
theorem tG {n b:Nat}{p q:Nat→Bool}(hb:b < n){i:Nat}(hi:i < n):∀(t:Nat),q (it n b t i)=true→(∀u,u < t→p (it n b u i)=true)→U n b p q ((b - i)+(n - b)) i=true:=by
 intro t
 induction t using Nat.strongRecOn with
 |ind t ih=>
  intro h1 h2
  by_cases ht:t < (b - i)+(n - b)
  ·exact qX.mpr ⟨t,ht,h1,h2⟩
  ·have ht:=Nat.not_lt.mp ht
   have L:=Nat.le_trans (Nat.le_add_left _ _) ht
   have p:=Nat.sub_pos_of_lt hb
   refine ih (t - (n - b)) (Nat.sub_lt (Nat.lt_of_lt_of_le p L) p) ?_ fun u hu=>h2 u (Nat.lt_of_lt_of_le hu (Nat.sub_le _ _))
   have:=uk hb (t:=t - (n - b)) hi (Nat.le_sub_of_add_le ht)
   rw [Nat.sub_add_cancel L] at this
   rw [←this];exact h1
noncomputable def iT (p q:Nat→Bool):List Nat→Bool
 | []=>false
 |k::m=>q k||(p k&&iT p q m)
theorem nC {n b:Nat}{p q:Nat→Bool}:∀(m i:Nat),i+m=n→iT p q (List.range' i m)=U n b p q m i
 | 0,_,_=>rfl
 |m+1,i,h=>by
  rw [List.range'_succ,iT,U]
  by_cases e:i+1=n
  ·obtain rfl:m=0:=by lia
   rfl
  ·rw [nC (n:=n) (b:=b) m (i+1) (by lia)]
   unfold nx;rw [if_neg e]
theorem pR {n b:Nat}{p q:Nat→Bool}(hb:b < n):∀(m i:Nat),i+(m+1)=n→iT p q (List.range' i (m+1)++List.range' b (n - b))=U n b p q ((m+1)+(n - b)) i
 | 0,i,h=>by
  rw [List.range'_succ,List.range'_zero,List.cons_append,List.nil_append,iT,nC (b:=b) (n:=n) _ b (by lia),show 0+1+(n - b)=(n - b)+1 by lia,U]
  unfold nx;rw [if_pos (by lia)]
 |m+1,i,h=>by
  rw [List.range'_succ,List.cons_append,iT,pR hb m (i+1) (by lia),show m+1+1+(n - b)=(m+1+(n - b))+1 by lia,U]
  unfold nx;rw [if_neg (by lia)]
theorem pT {n b i:Nat}{p q:Nat→Bool}(hb:b < n)(hi:i < n):iT p q (List.range' i (n - i)++List.range' b (n - b))=U n b p q ((n - i)+(n - b)) i:=by
 obtain ⟨m,hm⟩:∃m,n - i=m+1:=⟨n - i - 1,(Nat.sub_add_cancel (Nat.sub_pos_of_lt hi)).symm⟩
 rw [hm];exact pR hb m i (by lia)
theorem nB {q:Nat→Bool}:∀m,iT (fun _=>true) (fun j=>!q j) m=!m.all q
 | []=>rfl
 |k::m=>by rw [iT,nB m,List.all_cons];cases q k<;>rfl
theorem gB {n b i:Nat}:i∈(List.range n).drop b↔b≤i∧i < n:=by
 rw [List.mem_drop_iff_getElem]
 constructor
 ·rintro ⟨j,hj,rfl⟩
  simp at hj ⊢;lia
 ·rintro ⟨h1,h2⟩
  refine ⟨i - b,by simp;lia,by simp;lia⟩
noncomputable def bB:Sy→List Sy
 |.next a=>[.next a]
 |.till a c=>[.till a c]
 |.always a=>[.always a]
 |.again a=>[.till .yes a,.always (.till .yes a)]
 |_=>[]
noncomputable def cg:Sy→List Sy
 |.mark _=>[]
 |.yes=>[]
 |.not a=>[a]
 |.and a c=>[a,c]
 |.or a c=>[a,c]
 |.next a=>[a]
 |.till a c=>[a,c]
 |.always a=>[a]
 |.again a=>[a]
noncomputable def ext (f xs:List Sy):List Sy:=f++xs.filter fun x=>!f.contains x
noncomputable def ao:Sy→List Sy
 |.mark x=>ext [] (bB (.mark x))
 |.yes=>ext [] (bB .yes)
 |.not a=>ext (ext [] (ao a)) (bB (.not a))
 |.and a c=>ext (ext (ext [] (ao a)) (ao c)) (bB (.and a c))
 |.or a c=>ext (ext (ext [] (ao a)) (ao c)) (bB (.or a c))
 |.next a=>ext (ext [] (ao a)) (bB (.next a))
 |.till a c=>ext (ext (ext [] (ao a)) (ao c)) (bB (.till a c))
 |.always a=>ext (ext [] (ao a)) (bB (.always a))
 |.again a=>ext (ext [] (ao a)) (bB (.again a))
noncomputable def all:Sy→List Sy
 |.mark x=>[.mark x]
 |.yes=>[.yes]
 |.not a=>.not a::all a
 |.and a c=>.and a c::(all a++all c)
 |.or a c=>.or a c::(all a++all c)
 |.next a=>.next a::all a
 |.till a c=>.till a c::(all a++all c)
 |.always a=>.always a::all a
 |.again a=>.again a::all a
noncomputable def lb (s:Sy):List Sy:=(all s).foldl (fun f t=>ext f (bB t)) []
theorem iY {f xs:List Sy}{x:Sy}:x∈ext f xs↔x∈f∨x∈xs:=by
 simp only [ext,List.mem_append,List.mem_filter,Bool.not_eq_true',List.contains_eq_mem,decide_eq_false_iff_not]
 constructor
 ·rintro (h |h)
  ·exact .inl h
  ·exact .inr h.1
 ·rintro (h |h)
  ·exact .inl h
  ·by_cases q:x∈f
   ·exact .inl q
   ·exact .inr ⟨h,q⟩
theorem aR {f xs:List Sy}(h1:f.Nodup)(h2:xs.Nodup):(ext f xs).Nodup:=by
 rw [ext,List.nodup_append]
 refine ⟨h1,h2.filter _,fun a ha b hb e=>?_⟩
 subst e
 simp [ha] at hb
theorem bW (s:Sy):(bB s).Nodup:=by
 cases s with
 |again a=>exact List.nodup_cons.mpr ⟨fun h=>(nomatch List.mem_singleton.mp h),List.pairwise_singleton _ _⟩
 |next |till |always=>exact List.pairwise_singleton _ _
 |_=>exact .nil
theorem dO (s:Sy):s∈all s:=by cases s<;>exact .head _
theorem bm:∀s:Sy,(ao s).Nodup
 |.mark x=>aR .nil (bW _)
 |.yes=>aR .nil (bW _)
 |.not a=>aR (aR .nil (bm a)) (bW _)
 |.and a c=>aR (aR (aR .nil (bm a)) (bm c)) (bW _)
 |.or a c=>aR (aR (aR .nil (bm a)) (bm c)) (bW _)
 |.next a=>aR (aR .nil (bm a)) (bW _)
 |.till a c=>aR (aR (aR .nil (bm a)) (bm c)) (bW _)
 |.always a=>aR (aR .nil (bm a)) (bW _)
 |.again a=>aR (aR .nil (bm a)) (bW _)
theorem yG {x s:Sy}{f l:List Sy}(ih:x∈f↔∃t∈l,x∈bB t):x∈ext f (bB s)↔∃t∈s::l,x∈bB t:=by
 rw [iY,ih]
 exact ⟨fun h=>h.elim (fun ⟨t,a,b⟩=>⟨t,.tail _ a,b⟩) fun b=>⟨s,.head _,b⟩,fun ⟨t,a,b⟩=>(List.mem_cons.mp a).elim (fun e=>.inr (e▸b)) fun a=>.inl ⟨t,a,b⟩⟩
theorem xN {x:Sy}{f g l m:List Sy}(ih:x∈f↔∃t∈l,x∈bB t)(ih':x∈g↔∃t∈m,x∈bB t):x∈ext f g↔∃t∈l++m,x∈bB t:=by
 rw [iY,ih,ih']
 exact ⟨fun h=>h.elim (fun ⟨t,a,b⟩=>⟨t,List.mem_append_left _ a,b⟩) fun ⟨t,a,b⟩=>⟨t,List.mem_append_right _ a,b⟩,fun ⟨t,a,b⟩=>(List.mem_append.mp a).elim (fun a=>.inl ⟨t,a,b⟩) fun a=>.inr ⟨t,a,b⟩⟩
theorem yH {x:Sy}:x∈([]:List Sy)↔∃t∈([]:List Sy),x∈bB t:=⟨fun h=>(nomatch h),fun ⟨_,h,_⟩=>(nomatch h)⟩
theorem aI {x:Sy}:∀{s:Sy},x∈ao s↔∃t∈all s,x∈bB t
 |.mark _=>yG yH
 |.yes=>yG yH
 |.not a=>yG (xN yH (aI (s:=a)))
 |.and a c=>yG (xN (xN yH (aI (s:=a))) (aI (s:=c)))
 |.or a c=>yG (xN (xN yH (aI (s:=a))) (aI (s:=c)))
 |.next a=>yG (xN yH (aI (s:=a)))
 |.till a c=>yG (xN (xN yH (aI (s:=a))) (aI (s:=c)))
 |.always a=>yG (xN yH (aI (s:=a)))
 |.again a=>yG (xN yH (aI (s:=a)))
theorem wg:∀(ts f:List Sy),f.Nodup→(ts.foldl (fun f t=>ext f (bB t)) f).Nodup∧∀x,x∈ts.foldl (fun f t=>ext f (bB t)) f↔x∈f∨∃t∈ts,x∈bB t
 | [],f,h=>⟨h,fun x=>by simp⟩
 |t::r,f,h=>by
  obtain ⟨h1,h2⟩:=wg r (ext f (bB t)) (aR h (bW t))
  refine ⟨h1,fun x=>?_⟩
  simp only [List.foldl_cons]
  rw [h2,iY]
  simp [or_assoc]
theorem wf (s:Sy):(lb s).length=(ao s).length:=by
 obtain ⟨h1,h2⟩:=wg (all s) [] .nil
 refine ((List.perm_ext_iff_of_nodup h1 (bm s)).mpr fun x=>?_).length_eq
 rw [h2,aI];simp
noncomputable def look (bs:List Sy)(g:List Bool)(x:Sy):Bool:=(g[bs.idxOf x]?).getD false
noncomputable def so (m:Str)(bs:List Sy)(g:List Bool):Sy→Bool
 |.mark x=>PyData.eqv (.str m) (.str x)
 |.yes=>true
 |.not a=>!so m bs g a
 |.and a c=>so m bs g a&&so m bs g c
 |.or a c=>so m bs g a||so m bs g c
 |.next a=>look bs g (.next a)
 |.till a c=>look bs g (.till a c)
 |.always a=>look bs g (.always a)
 |.again a=>look bs g (.always (.till .yes a))
noncomputable def fW (bs:List Sy)(m:Str)(g:List Bool)(m':Str)(g':List Bool):Sy→Bool
 |.next a=>so m' bs g' a
 |.till a c=>so m bs g c||(so m bs g a&&look bs g' (.till a c))
 |.always a=>so m bs g a&&look bs g' (.always a)
 |_=>false
noncomputable def oQ (bs:List Sy)(m:Str)(g:List Bool)(m':Str)(g':List Bool):Bool:=bs.all fun x=>look bs g x==fW bs m g m' g' x
noncomputable def met (bs:List Sy)(m:Str)(g:List Bool):Sy→Bool
 |.till a c=>!look bs g (.till a c)||so m bs g c
 |.always a=>look bs g (.always a)||!so m bs g a
 |_=>true
section
variable {bs:List Sy} {m m':Str} {g g':List Bool} {a c:Sy}
theorem pI:fW bs m g m' g' (.next a)=so m' bs g' a:=rfl
theorem fV:fW bs m g m' g' (.till a c)=(so m bs g c||(so m bs g a&&look bs g' (.till a c))):=rfl
theorem eA:fW bs m g m' g' (.always a)=(so m bs g a&&look bs g' (.always a)):=rfl
theorem iW:met bs m g (.till a c)=(!look bs g (.till a c)||so m bs g c):=rfl
theorem fw:met bs m g (.always a)=(look bs g (.always a)||!so m bs g a):=rfl
end
noncomputable def cU (bs:List Sy)(s:Sy):Prop:=∀t∈all s,∀x∈bB t,x∈bs
theorem mI {s p t:Sy}(hp:p∈cg s)(ht:t∈all p):t∈all s:=by
 cases s with
 |mark |yes=>cases hp
 |not |next |always |again=>cases List.mem_singleton.mp hp;exact .tail _ ht
 |and |or |till=>
  refine .tail _ ?_
  rcases List.mem_cons.mp hp with rfl |hp
  ·exact List.mem_append_left _ ht
  ·cases List.mem_singleton.mp hp;exact List.mem_append_right _ ht
theorem aA {bs:List Sy}{s p:Sy}(h:cU bs s)(hp:p∈cg s):cU bs p:=fun t ht x hx=>h t (mI hp ht) x hx
theorem bc {bs:List Sy}{s:Sy}(h:cU bs s):∀x∈bB s,x∈bs:=h s (dO s)
theorem dH (s:Sy):cU (ao s) s:=fun t ht x hx=>aI.mpr ⟨t,ht,hx⟩
theorem Do {s a t u:Sy}(h:t∈s::all a)(k:u∈all t)(e:all s=s::all a)(ih:t∈all a→u∈all a):u∈s::all a:=(List.mem_cons.mp h).elim (fun q=>e▸q▸k) fun h=>.tail _ (ih h)
theorem Ej {s a c t u:Sy}(h:t∈s::(all a++all c))(k:u∈all t)(e:all s=s::(all a++all c))(ih:t∈all a→u∈all a)(ih':t∈all c→u∈all c):u∈s::(all a++all c):=
 (List.mem_cons.mp h).elim (fun q=>e▸q▸k) fun h=>.tail _ ((List.mem_append.mp h).elim (fun h=>List.mem_append_left _ (ih h)) fun h=>List.mem_append_right _ (ih' h))
theorem bO:∀{s t u:Sy},t∈all s→u∈all t→u∈all s
 |.mark x,t,u,h,k=>List.mem_singleton.mp h▸k
 |.yes,t,u,h,k=>List.mem_singleton.mp h▸k
 |.not a,t,u,h,k=>Do h k rfl fun h=>bO h k
 |.and a c,t,u,h,k=>Ej h k rfl (fun h=>bO h k) fun h=>bO h k
 |.or a c,t,u,h,k=>Ej h k rfl (fun h=>bO h k) fun h=>bO h k
 |.next a,t,u,h,k=>Do h k rfl fun h=>bO h k
 |.till a c,t,u,h,k=>Ej h k rfl (fun h=>bO h k) fun h=>bO h k
 |.always a,t,u,h,k=>Do h k rfl fun h=>bO h k
 |.again a,t,u,h,k=>Do h k rfl fun h=>bO h k
theorem r8 {bs:List Sy}{s t:Sy}(h:cU bs s)(ht:t∈all s):cU bs t:=fun u hu x hx=>h u (bO ht hu) x hx
theorem cq {s x p:Sy}(hx:x∈ao s)(hp:p∈cg x):cU (ao s) p:=by
 obtain ⟨t,ht,hx'⟩:=aI.mp hx
 have ct:=r8 (dH s) ht
 cases t with
 |next |till |always=>cases List.mem_singleton.mp hx';exact aA ct hp
 |again a=>
  have ca:cU (ao s) a:=aA ct (.head _)
  have cy:cU (ao s) .yes:=fun u hu y hy=>by cases List.mem_singleton.mp hu;cases hy
  rcases List.mem_cons.mp hx' with rfl |hx'
  ·rcases List.mem_cons.mp hp with rfl |hp
   ·exact cy
   ·cases List.mem_singleton.mp hp;exact ca
  ·cases List.mem_singleton.mp hx'
   cases List.mem_singleton.mp hp
   intro u hu y hy
   rcases List.mem_cons.mp hu with rfl |hu
   ·cases List.mem_singleton.mp hy;exact aI.mpr ⟨_,ht,.head _⟩
   ·exact (List.mem_append.mp hu).elim (fun hu=>cy u hu y hy) fun hu=>ca u hu y hy
 |_=>cases hx'
theorem dL {s x:Sy}(hx:x∈ao s):(∃a,x=.next a)∨(∃a c,x=.till a c)∨∃a,x=.always a:=by
 obtain ⟨t,_,hx'⟩:=aI.mp hx
 cases t with
 |next=>exact .inl ⟨_,List.mem_singleton.mp hx'⟩
 |till=>exact .inr (.inl ⟨_,_,List.mem_singleton.mp hx'⟩)
 |always=>exact .inr (.inr ⟨_,List.mem_singleton.mp hx'⟩)
 |again=>
  rcases List.mem_cons.mp hx' with h |h
  ·exact .inr (.inl ⟨_,_,h⟩)
  ·exact .inr (.inr ⟨_,List.mem_singleton.mp h⟩)
 |_=>cases hx'
theorem qq {n b:Nat}(hb:b < n):∀(t i:Nat),i < n→it n b t i < n
 | 0,_,h=>h
 |t+1,i,h=>qq hb t _ (zV hb h)
theorem ig {n b i j:Nat}(hb:b < n)(hi:i < n)(h1:b≤j)(h2:j < n):∃t,it n b t i=j:=by
 obtain ⟨s,rfl⟩:=Nat.exists_eq_add_of_le h1
 have hs:s < n - b:=Nat.lt_sub_of_add_lt (by rw [Nat.add_comm];exact h2)
 by_cases h:b≤i
 ·obtain ⟨r,rfl⟩:=Nat.exists_eq_add_of_le h
  have hr:r < n - b:=Nat.lt_sub_of_add_lt (by rw [Nat.add_comm];exact hi)
  exact ⟨s+(n - b - r),by rw [dG hb _ r hr,Nat.add_left_comm,Nat.add_sub_cancel' (Nat.le_of_lt hr),Nat.add_mod_right,Nat.mod_eq_of_lt hs]⟩
 ·have h:=Nat.le_of_lt (Nat.not_le.mp h)
  exact ⟨(b - i)+s,by
   rw [dX,rU hb (b - i) i (Nat.le_of_eq (Nat.add_sub_cancel' h)),Nat.add_sub_cancel' h]
   exact (dG hb s 0 (Nat.sub_pos_of_lt hb)).trans (by rw [Nat.zero_add,Nat.mod_eq_of_lt hs])⟩
theorem tS {n b:Nat}(hb:b < n){j:Nat}(h1:b≤j)(h2:j < n)(t:Nat):b≤it n b t j:=by
 obtain ⟨r,rfl⟩:=Nat.exists_eq_add_of_le h1
 rw [dG hb _ r (by lia)];lia
end
end Mine.Ltl
end
section
set_option tactic.hygienic false
section
namespace Mine
noncomputable section
section
variable {α:Type} {th:α→List α}
inductive j5 (th:α→List α):α→α→Prop
 |refl (a:α):j5 th a a
 |step {a b c:α}:b∈th a→j5 th b c→j5 th a c
theorem j5.trans {a b c:α}(h:j5 th a b)(h':j5 th b c):j5 th a c:=by
 induction h with
 |refl=>exact h'
 |step e _ ih=>exact .step e (ih h')
theorem j5.one {a b:α}(h:b∈th a):j5 th a b:=.step h (.refl _)
inductive gO (th:α→List α) (P:α→Prop):α→α→Prop
 |refl {a:α}:P a→gO th P a a
 |step {a b c:α}:P a→b∈th a→gO th P b c→gO th P a c
theorem gO.mono {P Q:α→Prop}(h:∀a,P a→Q a){a b:α}(r:gO th P a b):gO th Q a b:=by
 induction r with
 |refl p=>exact .refl (h _ p)
 |step p e _ ih=>exact .step (h _ p) e ih
noncomputable def Dr (th:α→List α)(L:List α):Prop:=∀A x B,L=A++x::B→∀u∈A++[x],∀v∈th u,v∈A++[x]∨j5 th v x
inductive pk (th:α→List α) (P:α→Prop):Nat→α→α→Prop
 |refl {a:α}:P a→pk th P 0 a a
 |step {n:Nat} {a b c:α}:P a→b∈th a→pk th P n b c→pk th P (n+1) a c
theorem gO.n {P:α→Prop}{a b:α}(r:gO th P a b):∃n,pk th P n a b:=by
 induction r with
 |refl p=>exact ⟨0,.refl p⟩
 |step p e _ ih=>obtain ⟨n,h⟩:=ih;exact ⟨n+1,.step p e h⟩
theorem pk.head {P:α→Prop}{n:Nat}{a b:α}(r:pk th P n a b):P a:=by cases r<;>assumption
theorem ua {A:List α}{x:α}(h:∀u∈A++[x],∀v∈th u,v∈A++[x]∨j5 th v x){P:α→Prop}{s:α}:∀{n:Nat} {y:α},pk th P n y s→y∈A++[x]→s∈A++[x]∨∃v m,m < n∧j5 th v x∧pk th P m v s:=by
 intro n y r
 induction r with
 |refl _=>exact .inl
 |step p e r ih=>
  intro hy
  rcases h _ hy _ e with h1 |h1
  ·rcases ih h1 with h2 | ⟨v,m,h2,h3,h4⟩
   ·exact .inl h2
   ·exact .inr ⟨v,m,Nat.lt_succ_of_lt h2,h3,h4⟩
  ·exact .inr ⟨_,_,Nat.lt_succ_self _,h1,r⟩
theorem vB {L A B:List α}{s:α}(h:Dr th L)(hn:L.Nodup)(e:L=A++s::B):∀(n:Nat) (y:α),pk th (fun a=>a∈A++[s]) n y s→j5 th s y:=by
 intro n
 induction n using Nat.strongRecOn with
 |ind n ih=>
  intro y r
  rcases List.mem_append.mp r.head with hy |hy
  ·obtain ⟨A',A'',rfl⟩:=List.append_of_mem hy
   have sA:s∉A'++[y]:=fun q=>by
    rw [e] at hn
    refine (List.nodup_append.mp hn).2.2 s ?_ s (.head _) rfl
    rcases List.mem_append.mp q with q |q
    ·exact List.mem_append_left _ q
    ·exact List.mem_append_right _ (List.mem_singleton.mp q▸.head _)
   have h1:=h A' y (A''++s::B) (by rw [e,List.append_assoc];rfl)
   rcases ua h1 r (List.mem_append_right _ (.head _)) with h2 | ⟨v,m,h2,h3,h4⟩
   ·exact absurd h2 sA
   ·exact (ih m h2 v h4).trans h3
  ·rw [List.mem_singleton.mp hy];exact .refl _
end
section
variable {α:Type} {th:α→List α} {K:List α}
structure pG (th:α→List α) (K found:List α) (st:List (α×Nat)) (met:List α):Prop where
 sub:∀x∈met,x∈K
 same:∀x,x∈met↔x∈found∨x∈st.map Prod.fst
 nd:(found++st.map Prod.fst).Nodup
 fin:∀x∈found,∀y∈th x,y∈met
 take:∀p∈st,p.2≤(th p.1).length∧∀y∈(th p.1).take p.2,y∈met
 chain:∀A p B,st=A++p::B→∀q∈A,j5 th q.1 p.1
 ord:Dr th found
 ndm:met.Nodup
theorem pG.nil:pG th K [] [] []:=⟨fun _ h=>(nomatch h),fun x=>(by simp),.nil,fun _ h=>(nomatch h),fun _ h=>(nomatch h),fun A p B e=>(by simp at e),fun A x B e=>(by simp at e),.nil⟩
theorem dN {β:Type}{S A B:List β}{p q:β}(h:S++[p]=A++q::B):(A=S∧q=p∧B=[])∨∃B',B=B'++[p]∧S=A++q::B':=by
 rcases List.eq_nil_or_concat B with rfl | ⟨B',b,rfl⟩
 ·have:=List.append_inj' h rfl
  exact .inl ⟨this.1.symm,(List.singleton_inj.mp this.2).symm,rfl⟩
 ·rw [List.concat_eq_append] at h ⊢
  have h2:S++[p]=(A++q::B')++[b]:=by rw [h,List.append_assoc];rfl
  have:=List.append_inj' h2 rfl
  exact .inr ⟨B',by rw [List.singleton_inj.mp this.2],this.1⟩
theorem pG.start {found met:List α}{s:α}(D:pG th K found [] met)(hs:s∈K)(hm:s∉met):pG th K found [(s,0)] (met++[s]) where
 sub x hx:=(List.mem_append.mp hx).elim (D.sub x) fun h=>List.mem_singleton.mp h▸hs
 same x:=by rw [List.mem_append,D.same];simp
 nd:=by
  have:=D.nd
  rw [List.map_nil,List.append_nil] at this
  show (found++[s]).Nodup
  rw [List.nodup_append]
  exact ⟨this,by simp,fun a ha b hb q=>hm ((D.same s).mpr (.inl (by rw [←List.mem_singleton.mp hb,←q];exact ha)))⟩
 fin x hx y hy:=List.mem_append_left _ (D.fin x hx y hy)
 take p hp:=by cases List.mem_singleton.mp hp;exact ⟨Nat.zero_le _,fun y hy=>by rw [List.take_zero] at hy;cases hy⟩
 chain A p B e q hq:=by
  rcases A with _ | ⟨a,A⟩
  ·cases hq
  ·simp at e
 ord:=D.ord
 ndm:=by rw [List.nodup_append];exact ⟨D.ndm,by simp,fun a ha b hb q=>hm (by rw [←List.mem_singleton.mp hb,←q];exact ha)⟩
theorem pG.leave {found met:List α}{S:List (α×Nat)}{k:α}{n:Nat}(D:pG th K found (S++[(k,n)]) met)(hn:n=(th k).length):pG th K (found++[k]) S met where
 sub:=D.sub
 same x:=by rw [D.same];simp [or_assoc,or_comm,or_left_comm]
 nd:=by
  have:=D.nd
  rw [List.map_append,←List.append_assoc] at this
  have h1:=List.nodup_append.mp this
  rw [List.append_assoc]
  have h2:=List.nodup_append.mp h1.1
  rw [List.nodup_append]
  refine ⟨h2.1,List.nodup_cons.mpr ⟨fun q=>h1.2.2 k (List.mem_append_right _ q) k (.head _) rfl,h2.2.1⟩,fun a ha b hb q=>?_⟩
  rcases List.mem_cons.mp hb with hb |hb
  ·exact h1.2.2 a (List.mem_append_left _ ha) b (by rw [hb];exact .head _) q
  ·exact h2.2.2 a ha b hb q
 fin x hx y hy:=by
  rcases List.mem_append.mp hx with hx |hx
  ·exact D.fin x hx y hy
  ·rw [List.mem_singleton.mp hx] at hy
   refine (D.take (k,n) (List.mem_append_right _ (.head _))).2 y ?_
   rw [hn,List.take_length];exact hy
 take p hp:=D.take p (List.mem_append_left _ hp)
 chain A p B e q hq:=D.chain A p (B++[(k,n)]) (by rw [e,List.append_assoc];rfl) q hq
 ord A x B e:=by
  rcases dN e with ⟨rfl,rfl,rfl⟩ | ⟨B',rfl,e'⟩
  ·intro u hu v hv
   have hv':v∈met:=by
    rcases List.mem_append.mp hu with hu |hu
    ·exact D.fin u hu v hv
    ·rw [List.mem_singleton.mp hu] at hv
     refine (D.take (x,n) (List.mem_append_right _ (.head _))).2 v ?_
     rw [hn,List.take_length];exact hv
   rcases (D.same v).mp hv' with h |h
   ·exact .inl (List.mem_append_left _ h)
   ·rw [List.map_append] at h
    rcases List.mem_append.mp h with h |h
    ·obtain ⟨q,hq,rfl⟩:=List.mem_map.mp h
     exact .inr (D.chain S (x,n) [] rfl q hq)
    ·exact .inl (List.mem_append_right _ h)
  ·exact D.ord A x B' e'
 ndm:=D.ndm
theorem pG.on {found met:List α}{S:List (α×Nat)}{k y:α}{n:Nat}(D:pG th K found (S++[(k,n)]) met)(hn:(th k)[n]?=some y)(hy:y∈met):pG th K found (S++[(k,n+1)]) met where
 sub:=D.sub
 same x:=by have:=D.same x;rw [List.map_append] at this ⊢;exact this
 nd:=by have:=D.nd;rw [List.map_append] at this ⊢;exact this
 fin:=D.fin
 take p hp:=by
  rcases List.mem_append.mp hp with hp |hp
  ·exact D.take p (List.mem_append_left _ hp)
  ·cases List.mem_singleton.mp hp
   have h1:=D.take (k,n) (List.mem_append_right _ (.head _))
   have h2:=(List.getElem?_eq_some_iff.mp hn).1
   refine ⟨h2,fun z hz=>?_⟩
   rw [List.take_succ,hn] at hz
   rcases List.mem_append.mp hz with hz |hz
   ·exact h1.2 z hz
   ·rw [List.mem_singleton.mp hz];exact hy
 chain A p B e q hq:=by
  rcases dN e with ⟨rfl,rfl,rfl⟩ | ⟨B',rfl,e'⟩
  ·exact D.chain A (k,n) [] rfl q hq
  ·exact D.chain A p (B'++[(k,n)]) (by rw [e',List.append_assoc];rfl) q hq
 ord:=D.ord
 ndm:=D.ndm
theorem pG.push {found met:List α}{S:List (α×Nat)}{k y:α}{n:Nat}(D:pG th K found (S++[(k,n)]) met)(hn:(th k)[n]?=some y)(hk:y∈K)(hy:y∉met):pG th K found (S++[(k,n+1)]++[(y,0)]) (met++[y]) where
 sub x hx:=(List.mem_append.mp hx).elim (D.sub x) fun h=>List.mem_singleton.mp h▸hk
 same x:=by
  rw [List.mem_append,D.same,List.map_append,List.map_append,List.map_append]
  simp only [List.mem_append,List.map_cons,List.map_nil,or_assoc]
 nd:=by
  have:=D.nd
  rw [List.map_append,List.map_append,←List.append_assoc]
  rw [List.map_append] at this
  rw [List.nodup_append]
  refine ⟨this,by simp,fun a ha b hb q=>hy ((D.same y).mpr ?_)⟩
  have hb:b=y:=List.mem_singleton.mp hb
  rw [←hb,←q,List.map_append];exact List.mem_append.mp ha
 fin x hx z hz:=List.mem_append_left _ (D.fin x hx z hz)
 take p hp:=by
  rcases List.mem_append.mp hp with hp |hp
  ·rcases List.mem_append.mp hp with hp |hp
   ·exact (D.take p (List.mem_append_left _ hp)).imp id fun h z hz=>List.mem_append_left _ (h z hz)
   ·cases List.mem_singleton.mp hp
    have h1:=D.take (k,n) (List.mem_append_right _ (.head _))
    refine ⟨(List.getElem?_eq_some_iff.mp hn).1,fun z hz=>?_⟩
    rw [List.take_succ,hn] at hz
    rcases List.mem_append.mp hz with hz |hz
    ·exact List.mem_append_left _ (h1.2 z hz)
    ·exact List.mem_append_right _ hz
  ·cases List.mem_singleton.mp hp
   exact ⟨Nat.zero_le _,fun z hz=>by rw [List.take_zero] at hz;cases hz⟩
 chain A p B e q hq:=by
  rcases dN e with ⟨rfl,rfl,rfl⟩ | ⟨B',rfl,e'⟩
  ·have ky:j5 th k y:=.one (List.mem_of_getElem? hn)
   rcases List.mem_append.mp hq with hq |hq
   ·exact (D.chain S (k,n) [] rfl q hq).trans ky
   ·cases List.mem_singleton.mp hq;exact ky
  ·rcases dN e' with ⟨rfl,rfl,rfl⟩ | ⟨B',rfl,e''⟩
   ·exact D.chain A (k,n) [] rfl q hq
   ·exact D.chain A p (B'++[(k,n)]) (by rw [e'',List.append_assoc];rfl) q hq
 ord:=D.ord
 ndm:=by rw [List.nodup_append];exact ⟨D.ndm,by simp,fun a ha b hb q=>hy (by rw [←List.mem_singleton.mp hb,←q];exact ha)⟩
end
end
end Mine
end
section
namespace Mine
noncomputable section
section
variable {α:Type} [DecidableEq α] {th:α→List α} {K:List α}
noncomputable def eh (th:α→List α)(met:List α):List α→Nat
 | []=>0
 |x::r=>(if x∈met then 0 else (th x).length+2)+eh th met r
theorem jp {met:List α}{x:α}{r:List α}:eh th met (x::r)=(if x∈met then 0 else (th x).length+2)+eh th met r:=rfl
theorem sE {met:List α}{y:α}:∀K:List α,eh th (met++[y]) K≤eh th met K
 | []=>Nat.le_refl _
 |x::r=>by
  rw [jp,jp]
  refine Nat.add_le_add ?_ (sE r)
  by_cases h:x∈met
  ·rw [if_pos h,if_pos (List.mem_append_left _ h)];exact Nat.le_refl _
  ·rw [if_neg h]
   by_cases h':x∈met++[y]
   ·rw [if_pos h'];exact Nat.zero_le _
   ·rw [if_neg h'];exact Nat.le_refl _
theorem jo {met:List α}{y:α}(hy:y∉met):∀{K:List α},y∈K→eh th (met++[y]) K+((th y).length+2)≤eh th met K
 |x::r,h=>by
  rw [jp,jp]
  by_cases q:x=y
  ·subst q
   rw [if_neg hy,if_pos (List.mem_append_right _ (.head _)),Nat.zero_add,Nat.add_comm];exact Nat.add_le_add_left (sE r) _
  ·have ih:=jo (K:=r) hy ((List.mem_cons.mp h).elim (fun e=>absurd e.symm q) id)
   by_cases hx:x∈met
   ·rw [if_pos hx,if_pos (List.mem_append_left _ hx),Nat.zero_add,Nat.zero_add];exact ih
   ·rw [if_neg hx,if_neg fun h=>(List.mem_append.mp h).elim hx fun h=>q (List.mem_singleton.mp h),Nat.add_assoc];exact Nat.add_le_add_left ih _
noncomputable def fh (th:α→List α):List (α×Nat)→Nat
 | []=>0
 |p::r=>(th p.1).length - p.2+1+fh th r
omit [DecidableEq α] in
theorem u4 {p:α×Nat}{r:List (α×Nat)}:fh th (p::r)=(th p.1).length - p.2+1+fh th r:=rfl
omit [DecidableEq α] in
theorem iP:∀(a b:List (α×Nat)),fh th (a++b)=fh th a+fh th b
 | [],b=>(Nat.zero_add _).symm
 |p::a,b=>by rw [List.cons_append,u4,u4,iP a b,Nat.add_assoc (_+1)]
omit [DecidableEq α] in
theorem aQ:∀{l m:List α},l.Nodup→(∀x∈l,x∈m)→l.length≤m.length
 | [],m,_,_=>Nat.zero_le _
 |x::l,m,hn,hs=>by
  obtain ⟨a,b,rfl⟩:=List.append_of_mem (hs x (.head _))
  have:=aQ (l:=l) (m:=a++b) (List.nodup_cons.mp hn).2 fun y hy=>by
   rcases List.mem_append.mp (hs y (.tail _ hy)) with h |h
   ·exact List.mem_append_left _ h
   ·rcases List.mem_cons.mp h with h |h
    ·exact absurd (h▸hy) (List.nodup_cons.mp hn).1
    ·exact List.mem_append_right _ h
  rw [List.length_append] at this ⊢
  rw [List.length_cons,List.length_cons];lia
end
section
variable {α:Type} {th:α→List α} {K:List α}
structure Ar (th:α→List α) (K met:List α) (s:α) (C:List α):Prop where
 nd:(met++C).Nodup
 sub:∀x∈C,x∈K
 to:∀x∈C,gO th (fun a=>a∈C) x s
 hd:s∈C
theorem Ar.start {met:List α}{s:α}(hm:met.Nodup)(hs:s∈K)(h:s∉met):Ar th K met s [s] where
 nd:=by rw [List.nodup_append];exact ⟨hm,by simp,fun a ha b hb q=>h (by rw [←List.mem_singleton.mp hb,←q];exact ha)⟩
 sub x hx:=List.mem_singleton.mp hx▸hs
 to x hx:=by rw [List.mem_singleton.mp hx];exact .refl (.head _)
 hd:=.head _
theorem Ar.push {met C:List α}{s y c:α}(H:Ar th K met s C)(hy:y∉met++C)(hk:y∈K)(hc:c∈C)(e:c∈th y):Ar th K met s (C++[y]) where
 nd:=by
  rw [←List.append_assoc,List.nodup_append]
  exact ⟨H.nd,by simp,fun a ha b hb q=>hy (by rw [←List.mem_singleton.mp hb,←q];exact ha)⟩
 sub x hx:=(List.mem_append.mp hx).elim (H.sub x) fun h=>List.mem_singleton.mp h▸hk
 to x hx:=by
  have m:∀a,a∈C→a∈C++[y]:=fun a h=>List.mem_append_left _ h
  rcases List.mem_append.mp hx with h |h
  ·exact (H.to x h).mono m
  ·rw [List.mem_singleton.mp h];exact .step (List.mem_append_right _ (.head _)) e ((H.to c hc).mono m)
 hd:=List.mem_append_left _ H.hd
structure uP (th:α→List α) (K:List α) (Cs:List (List α)):Prop where
 nd:Cs.flatten.Nodup
 sub:∀x∈Cs.flatten,x∈K
 ne:∀C∈Cs,C≠[]
 scc:∀C∈Cs,∀a∈C,∀b∈C,j5 th a b
 back:∀A C B,Cs=A++C::B→∀c∈C,∀x∈K,c∈th x→x∈A.flatten++C
theorem uP.nil:uP th K []:=⟨.nil,fun _ h=>(nomatch h),fun _ h=>(nomatch h),fun _ h=>(nomatch h),fun A C B e=>(by simp at e)⟩
theorem gO.r {P:α→Prop}{a b:α}(r:gO th P a b):j5 th a b:=by
 induction r with
 |refl _=>exact .refl _
 |step _ e _ ih=>exact .step e ih
theorem cR {β:Type}(Cs:List (List β))(C:List β):(Cs++[C]).flatten=Cs.flatten++C:=by rw [List.flatten_append,List.flatten_cons,List.flatten_nil,List.append_nil]
theorem uP.add {Cs:List (List α)}{L A B C:List α}{s:α}(H:uP th K Cs)(ho:Dr th L)(hn:L.Nodup)(hL:∀x∈K,x∈L)(e:L=A++s::B)(hB:∀x∈B,x∈Cs.flatten)(c:Ar th K Cs.flatten s C)(cl:∀c∈C,∀x∈K,c∈th x→x∈Cs.flatten++C):uP th K (Cs++[C]) where
 nd:=by rw [cR];exact c.nd
 sub x hx:=by rw [cR] at hx;exact (List.mem_append.mp hx).elim (H.sub x) (c.sub x)
 ne D hD:=(List.mem_append.mp hD).elim (H.ne D) fun h=>by rw [List.mem_singleton.mp h];exact fun q=>by have:=c.hd;rw [q] at this;cases this
 scc D hD:=by
  rcases List.mem_append.mp hD with h |h
  ·exact H.scc D h
  ·rw [List.mem_singleton.mp h]
   intro a ha b hb
   refine (c.to a ha).r.trans ?_
   have inA:∀x,x∈C→x∈A++[s]:=fun x hx=>by
    have:=hL x (c.sub x hx)
    rw [e] at this
    rcases List.mem_append.mp this with h |h
    ·exact List.mem_append_left _ h
    ·rcases List.mem_cons.mp h with h |h
     ·exact List.mem_append_right _ (h▸.head _)
     ·exact absurd rfl ((List.nodup_append.mp c.nd).2.2 x (hB x h) x hx)
   obtain ⟨n,r⟩:=((c.to b hb).mono inA).n
   exact vB ho hn e n b r
 back A' D B' q:=by
  rcases dN q with ⟨rfl,rfl,rfl⟩ | ⟨B'',rfl,q'⟩
  ·exact cl
  ·exact H.back A' D B'' q'
theorem uP.within {A B:List (List α)}{C:List α}(H:uP th K (A++C::B)){u s d:α}(hu:u∈C)(e:s∈th u)(hK:∀k∈K,∀y∈th k,y∈K)(r:j5 th s d)(hd:d∈C):s∈C:=by
 have uK:u∈K:=H.sub u (by rw [List.flatten_append,List.flatten_cons];exact List.mem_append_right _ (List.mem_append_left _ hu))
 have back:∀x y,j5 th x y→x∈K→y∈A.flatten++C→x∈A.flatten++C:=fun x y r=>by
  induction r with
  |refl _=>exact fun _ h=>h
  | @step a b c e _ ih=>
   intro ha hc
   rcases List.mem_append.mp (ih (hK a ha b e) hc) with h |h
   ·obtain ⟨D,hD,hb⟩:=List.mem_flatten.mp h
    obtain ⟨A',B',rfl⟩:=List.append_of_mem hD
    have:=H.back A' D (B'++C::B) (by rw [List.append_assoc];rfl) b hb a ha e
    rw [List.flatten_append,List.flatten_cons]
    rcases List.mem_append.mp this with h |h
    ·exact List.mem_append_left _ (List.mem_append_left _ h)
    ·exact List.mem_append_left _ (List.mem_append_right _ (List.mem_append_left _ h))
   ·exact H.back A C B rfl b h a ha e
 rcases List.mem_append.mp (back s d r (hK u uK s e) (List.mem_append_right _ hd)) with h |h
 ·obtain ⟨D,hD,hb⟩:=List.mem_flatten.mp h
  obtain ⟨A',B',rfl⟩:=List.append_of_mem hD
  have:=H.back A' D (B'++C::B) (by rw [List.append_assoc];rfl) s hb u uK e
  have nd:=H.nd
  rw [List.flatten_append,List.flatten_append,List.flatten_cons] at nd
  refine absurd rfl ((List.nodup_append.mp nd).2.2 u ?_ u (by rw [List.flatten_cons];exact List.mem_append_left _ hu))
  rcases List.mem_append.mp this with h |h
  ·exact List.mem_append_left _ h
  ·exact List.mem_append_right _ (List.mem_append_left _ h)
 ·exact h
theorem ve {f:Nat→Nat}{n:Nat}(hm:∀i,f i≤f (i+1)):∀(d i:Nat),(∀j,f j≤n)→n - f i≤d→∃N,∀j,N≤j→f j=f N
 | 0,i,hb,hd=>by
  have mono:∀j k,f j≤f (j+k):=fun j k=>by
   induction k with
   |zero=>exact Nat.le_refl _
   |succ k ih=>exact Nat.le_trans ih (hm _)
  refine ⟨i,fun j hj=>?_⟩
  obtain ⟨k,rfl⟩:=Nat.exists_eq_add_of_le hj
  exact Nat.le_antisymm (Nat.le_trans (hb _) (Nat.le_of_sub_eq_zero (Nat.le_zero.mp hd))) (mono i k)
 |d+1,i,hb,hd=>by
  by_cases h:∀j,i≤j→f j=f i
  ·exact ⟨i,h⟩
  ·obtain ⟨j,h⟩:=Classical.not_forall.mp h
   obtain ⟨hij,hne⟩:=Classical.not_imp.mp h
   have mono:∀j k,f j≤f (j+k):=fun j k=>by
    induction k with
    |zero=>exact Nat.le_refl _
    |succ k ih=>exact Nat.le_trans ih (hm _)
   obtain ⟨k,rfl⟩:=Nat.exists_eq_add_of_le hij
   have l:f i < f (i+k):=Nat.lt_of_le_of_ne (mono i k) (Ne.symm hne)
   exact ve hm d (i+k) hb (Nat.le_of_lt_succ (Nat.lt_of_lt_of_le (Nat.sub_lt_sub_left (Nat.lt_of_lt_of_le l (hb _)) l) hd))
theorem qT {β:Type}{l:List β}{i:Nat}{x:β}(h:l[i]?=some x):∃A B,l=A++x::B∧A.length=i:=by
 obtain ⟨hi,rfl⟩:=List.getElem?_eq_some_iff.mp h
 exact ⟨l.take i,l.drop (i+1),by rw [List.getElem_cons_drop,List.take_append_drop],by rw [List.length_take];lia⟩
theorem uP.stay {Cs:List (List α)}(H:uP th K Cs)(hK:∀x∈K,x∈Cs.flatten){κ:Nat→α}(h0:∀i,κ i∈K)(h1:∀i,κ (i+1)∈th (κ i)):∃C∈Cs,∃N,∀i,N≤i→κ i∈C:=by
 have ex:∀i,∃p:Nat×List α,Cs[p.1]?=some p.2∧κ i∈p.2:=fun i=>by
  obtain ⟨C,h2,h3⟩:=List.mem_flatten.mp (hK _ (h0 i))
  obtain ⟨i,h4⟩:=List.getElem?_of_mem h2
  exact ⟨(i,C),h4,h3⟩
 obtain ⟨f,hf⟩:=Classical.axiomOfChoice ex
 have uniq:∀i j C D x,Cs[i]?=some C→Cs[j]?=some D→x∈C→x∈D→i≤j:=fun i j C D x hi hj hx hy=>by
  refine Nat.le_of_not_lt fun lt=>?_
  obtain ⟨A,B,e,l⟩:=qT hi
  have hD:D∈A:=by
   rw [e,List.getElem?_append_left (by lia)] at hj;exact List.mem_of_getElem? hj
  have nd:=H.nd
  rw [e,List.flatten_append] at nd
  exact (List.nodup_append.mp nd).2.2 x (List.mem_flatten.mpr ⟨D,hD,hy⟩) x (List.mem_flatten.mpr ⟨C,.head _,hx⟩) rfl
 have mono:∀i,(f i).1≤(f (i+1)).1:=fun i=>by
  obtain ⟨A,B,e,l⟩:=qT (hf (i+1)).1
  rcases List.mem_append.mp (H.back A _ B e _ (hf (i+1)).2 (κ i) (h0 i) (h1 i)) with h |h
  ·obtain ⟨D,hD,hx⟩:=List.mem_flatten.mp h
   obtain ⟨j,hj⟩:=List.getElem?_of_mem hD
   have lt:=(List.getElem?_eq_some_iff.mp hj).1
   have hj':Cs[j]?=some D:=by rw [e,List.getElem?_append_left lt];exact hj
   have:=uniq _ j _ D _ (hf i).1 hj' (hf i).2 hx
   lia
  ·exact uniq _ _ _ _ _ (hf i).1 (hf (i+1)).1 (hf i).2 h
 obtain ⟨N,hN⟩:=ve (f:=fun i=>(f i).1) (n:=Cs.length) mono _ 0 (fun j=>Nat.le_of_lt (List.getElem?_eq_some_iff.mp (hf j).1).1) (Nat.le_refl _)
 refine ⟨(f N).2,List.mem_of_getElem? (hf N).1,N,fun i hi=>?_⟩
 have e:=(hf i).1
 rw [show (f i).1=(f N).1 from hN i hi,(hf N).1] at e
 rw [Option.some.inj e];exact (hf i).2
end
end
end Mine
end
section
namespace Mine
noncomputable section
section
variable {α:Type} {th:α→List α}
noncomputable def ee (th:α→List α)(P:List α):Prop:=∀(i:Nat) (a b:α),P[i]?=some a→P[i+1]?=some b→b∈th a
theorem ee.one (a:α):ee th [a]:=fun i x y _ h=>by
 rw [List.getElem?_eq_none (by simp)] at h;cases h
theorem ee.app {P Q:List α}(hP:ee th P)(hQ:ee th Q)(h:∀a b,P.getLast?=some a→Q.head?=some b→b∈th a):ee th (P++Q):=fun i a b ha hb=>by
 by_cases h1:i+1 < P.length
 ·rw [List.getElem?_append_left (Nat.lt_of_succ_lt h1)] at ha
  rw [List.getElem?_append_left h1] at hb
  exact hP i a b ha hb
 ·by_cases h2:i < P.length
  ·have e:i+1=P.length:=Nat.le_antisymm h2 (Nat.not_lt.mp h1)
   rw [List.getElem?_append_left h2] at ha
   rw [List.getElem?_append_right (Nat.not_lt.mp h1),e,Nat.sub_self] at hb
   refine h a b ?_ ?_
   ·rw [List.getLast?_eq_getElem?,←e];exact ha
   ·rw [List.head?_eq_getElem?];exact hb
  ·rw [List.getElem?_append_right (Nat.not_lt.mp h2)] at ha
   rw [List.getElem?_append_right (Nat.not_lt.mp h1),Nat.succ_sub (Nat.not_lt.mp h2)] at hb
   exact hQ _ a b ha hb
theorem ee.drop {P:List α}(hP:ee th P)(n:Nat):ee th (P.drop n):=fun i a b ha hb=>by
 rw [List.getElem?_drop] at ha hb
 exact hP (n+i) a b ha hb
inductive jR (f:α→Option α):α→List α→Prop
 |nil {x:α}:f x=none→jR f x [x]
 |cons {x y:α} {p:List α}:f x=some y→jR f y p→jR f x (x::p)
structure ro (th:α→List α) (K starts goals done wait:List α) (f:α→Option α):Prop where
 nd:(done++wait).Nodup
 sub:∀x∈done++wait,x∈K
 st:∀x∈starts,x∈done++wait
 par:∀x∈done++wait,(f x=none→x∈starts)∧∀y,f x=some y→x∈th y
 back:∀x∈done++wait,∃p,jR f x p∧p.length≤(done++wait).length∧∀y∈p,y∈done++wait
 clo:∀x∈done,x∉goals∧∀y∈th x,y∈done++wait
theorem ro.start {K starts goals:List α}(hn:starts.Nodup)(hs:∀x∈starts,x∈K):ro th K starts goals [] starts (fun _=>none) where
 nd:=hn
 sub:=hs
 st:=fun _ h=>h
 par x hx:=⟨fun _=>hx,fun y h=>by cases h⟩
 back x hx:=⟨[x],.nil rfl,List.length_pos_of_mem hx,fun y hy=>List.mem_singleton.mp hy▸hx⟩
 clo x hx:=nomatch hx
theorem jR.mono {f f':α→Option α}{x:α}{p:List α}(h:jR f x p):(∀y∈p,f' y=f y)→jR f' x p:=by
 induction h with
 |nil e=>exact fun h=>.nil ((h _ (.head _)).trans e)
 |cons e _ ih=>exact fun h=>.cons ((h _ (.head _)).trans e) (ih fun y hy=>h y (.tail _ hy))
theorem ro.push [DecidableEq α] {K starts goals done wait:List α}{f:α→Option α}{here y:α}(B:ro th K starts goals done wait f)(hh:here∈done++wait)(e:y∈th here)(hk:y∈K)(hy:y∉done++wait):ro th K starts goals done (wait++[y]) (fun x=>if x=y then some here else f x):=by
 have ne:∀x,x∈done++wait→x≠y:=fun x hx q=>hy (q▸hx)
 have mem:∀x,x∈done++(wait++[y])↔x∈done++wait∨x=y:=fun x=>by rw [←List.append_assoc,List.mem_append,List.mem_singleton]
 refine ⟨?_,fun x hx=>?_,fun x hx=>(mem x).mpr (.inl (B.st x hx)),fun x hx=>?_,fun x hx=>?_,fun x hx=>⟨(B.clo x hx).1,fun z hz=>(mem z).mpr (.inl ((B.clo x hx).2 z hz))⟩⟩
 ·rw [←List.append_assoc,List.nodup_append]
  exact ⟨B.nd,by simp,fun a ha b hb q=>hy (by rw [←List.mem_singleton.mp hb,←q];exact ha)⟩
 ·exact ((mem x).mp hx).elim (B.sub x) fun h=>h▸hk
 ·rcases (mem x).mp hx with h |rfl
  ·simp only [if_neg (ne x h)];exact B.par x h
  ·simp only [if_true];exact ⟨fun h=>(by cases h),fun z h=>Option.some.inj h▸e⟩
 ·rw [←List.append_assoc,List.length_append]
  have old:∀x,x∈done++wait→∃p,jR (fun x=>if x=y then some here else f x) x p∧p.length≤(done++wait).length∧∀z∈p,z∈done++wait:=fun x hx=>by
   obtain ⟨p,h1,h2,h3⟩:=B.back x hx
   exact ⟨p,h1.mono fun z hz=>if_neg (ne z (h3 z hz)),h2,h3⟩
  rcases (mem x).mp hx with h |rfl
  ·obtain ⟨p,h1,h2,h3⟩:=old x h
   exact ⟨p,h1,Nat.le_trans h2 (Nat.le_add_right _ _),fun z hz=>List.mem_append_left _ (h3 z hz)⟩
  ·obtain ⟨p,h1,h2,h3⟩:=old here hh
   refine ⟨x::p,.cons (if_pos rfl) h1,Nat.succ_le_succ h2,fun z hz=>?_⟩
   rcases List.mem_cons.mp hz with rfl |hz
   ·exact List.mem_append_right _ (.head _)
   ·exact List.mem_append_left _ (h3 z hz)
theorem ro.done {K starts goals done wait:List α}{f:α→Option α}{here:α}(B:ro th K starts goals done (here::wait) f)(hg:here∉goals)(hc:∀y∈th here,y∈done++here::wait):ro th K starts goals (done++[here]) wait f:=by
 have e:(done++[here])++wait=done++here::wait:=by rw [List.append_assoc];rfl
 refine ⟨by rw [e];exact B.nd,by rw [e];exact B.sub,by rw [e];exact B.st,by rw [e];exact B.par,by rw [e];exact B.back,fun x hx=>?_⟩
 rw [e]
 rcases List.mem_append.mp hx with h |h
 ·exact B.clo x h
 ·rw [List.mem_singleton.mp h];exact ⟨hg,hc⟩
theorem ro.none {K starts goals done:List α}{f:α→Option α}(B:ro th K starts goals done [] f){s g:α}(hs:s∈starts)(hg:g∈goals)(r:j5 th s g):False:=by
 have:∀x y,j5 th x y→x∈done→y∈goals→False:=fun x y r=>by
  induction r with
  |refl a=>exact fun hx hg=>(B.clo a hx).1 hg
  |step e _ ih=>
   intro hx hg
   have:=(B.clo _ hx).2 _ e
   rw [List.append_nil] at this
   exact ih this hg
 have h:=B.st s hs
 rw [List.append_nil] at h
 exact this s g r h hg
structure zB (th:α→List α) (K starts:List α) (g:α) (P:List α):Prop where
 walk:ee th P
 hd:∃a,P.head?=some a∧a∈starts
 lst:P.getLast?=some g
 sub:∀x∈P,x∈K
 len:P.length≤K.length
theorem jR.way {K starts goals done wait:List α}{f:α→Option α}(B:ro th K starts goals done wait f){x:α}{p:List α}(h:jR f x p):(∀y∈p,y∈done++wait)→ee th p.reverse∧(∃a,p.reverse.head?=some a∧a∈starts)∧p.reverse.getLast?=some x:=by
 induction h with
 | @nil x e=>exact fun h=>⟨.one _,⟨x,rfl,(B.par x (h x (.head _))).1 e⟩,rfl⟩
 | @cons x y p e _ ih=>
  intro h
  obtain ⟨h1,⟨a,h2,h3⟩,h4⟩:=ih fun z hz=>h z (.tail _ hz)
  rw [List.reverse_cons]
  refine ⟨h1.app (.one _) fun u v hu hv=>?_,⟨a,?_,h3⟩,by rw [List.getLast?_append];rfl⟩
  ·rw [h4] at hu;cases hu;cases hv
   exact (B.par x (h x (.head _))).2 _ e
  ·rw [List.head?_append,h2];rfl
theorem ro.way {K starts goals done wait:List α}{f:α→Option α}(B:ro th K starts goals done wait f){x:α}(hx:x∈done++wait):∃p,jR f x p∧(∀y∈p,y∈done++wait)∧zB th K starts x p.reverse:=by
 obtain ⟨p,h1,h2,h3⟩:=B.back x hx
 obtain ⟨h4,h5,h6⟩:=h1.way B h3
 exact ⟨p,h1,h3,h4,h5,h6,fun y hy=>B.sub y (h3 y (List.mem_reverse.mp hy)),by rw [List.length_reverse];exact Nat.le_trans h2 (aQ B.nd B.sub)⟩
end
end
end Mine
end
namespace Mine.Ltl
noncomputable section
open PySem
noncomputable def Sem (w:Nat→Str):Sy→Nat→Prop
 |.mark x,i=>PyData.eqv (.str (w i)) (.str x)=true
 |.yes,_=>True
 |.not a,i=>¬Sem w a i
 |.and a c,i=>Sem w a i∧Sem w c i
 |.or a c,i=>Sem w a i∨Sem w c i
 |.next a,i=>Sem w a (i+1)
 |.till a c,i=>∃t,Sem w c (i+t)∧∀u,u < t→Sem w a (i+u)
 |.always a,i=>∀t,Sem w a (i+t)
 |.again a,i=>∀t,∃u,Sem w a (i+t+u)
theorem jt {w:Nat→Str}{a:Sy}{i:Nat}:Sem w (.again a) i↔Sem w (.always (.till .yes a)) i:=
 ⟨fun h t=>let ⟨u,hu⟩:=h t;⟨u,hu,fun _ _=>trivial⟩,fun h t=>let ⟨u,hu,_⟩:=h t;⟨u,hu⟩⟩
theorem f0 {w:Nat→Str}{a c:Sy}{i:Nat}:Sem w (.till a c) i↔Sem w c i∨(Sem w a i∧Sem w (.till a c) (i+1)):=by
 constructor
 ·rintro ⟨t,h1,h2⟩
  cases t with
  |zero=>exact .inl h1
  |succ t=>exact .inr ⟨h2 0 (Nat.succ_pos _),t,by rw [Nat.add_assoc,Nat.add_comm 1];exact h1,fun u hu=>by rw [Nat.add_assoc,Nat.add_comm 1];exact h2 (u+1) (Nat.succ_lt_succ hu)⟩
 ·rintro (h | ⟨h,t,h1,h2⟩)
  ·exact ⟨0,h,fun u hu=>absurd hu (Nat.not_lt_zero _)⟩
  ·refine ⟨t+1,by rw [Nat.add_assoc,Nat.add_comm 1] at h1;exact h1,fun u hu=>?_⟩
   cases u with
   |zero=>exact h
   |succ u=>have:=h2 u (Nat.lt_of_succ_lt_succ hu);rw [Nat.add_assoc,Nat.add_comm 1] at this;exact this
theorem k6 {w:Nat→Str}{a:Sy}{i:Nat}:Sem w (.always a) i↔Sem w a i∧Sem w (.always a) (i+1):=by
 constructor
 ·exact fun h=>⟨h 0,fun t=>by rw [Nat.add_assoc,Nat.add_comm 1];exact h (t+1)⟩
 ·rintro ⟨h1,h2⟩ t
  cases t with
  |zero=>exact h1
  |succ t=>have:=h2 t;rw [Nat.add_assoc,Nat.add_comm 1] at this;exact this
theorem nt {b:Bool}{p:Prop}(h:b=true↔p):(!b)=true↔¬p:=by rw [Bool.not_eq_true',←Bool.not_eq_true,h]
theorem BF {w w':Nat→Str}{i i':Nat}(h:∀j,w (i+j)=w' (i'+j))(t j:Nat):w (i+t+j)=w' (i'+t+j):=by rw [Nat.add_assoc,Nat.add_assoc];exact h (t+j)
theorem bM {w w':Nat→Str}:∀(s:Sy) (i i':Nat),(∀j,w (i+j)=w' (i'+j))→(Sem w s i↔Sem w' s i')
 |.mark x,i,i',h=>by
  show PyData.eqv (.str (w (i+0))) (.str x)=true↔PyData.eqv (.str (w' (i'+0))) (.str x)=true
  rw [h 0]
 |.yes,_,_,_=>.rfl
 |.not a,i,i',h=>not_congr (bM a i i' h)
 |.and a c,i,i',h=>and_congr (bM a i i' h) (bM c i i' h)
 |.or a c,i,i',h=>or_congr (bM a i i' h) (bM c i i' h)
 |.next a,i,i',h=>bM a (i+1) (i'+1) (BF h 1)
 |.till a c,i,i',h=>exists_congr fun t=>and_congr (bM c (i+t) (i'+t) (BF h t)) (forall_congr' fun u=>imp_congr_right fun _=>bM a (i+u) (i'+u) (BF h u))
 |.always a,i,i',h=>forall_congr' fun t=>bM a (i+t) (i'+t) (BF h t)
 |.again a,i,i',h=>forall_congr' fun t=>exists_congr fun u=>bM a (i+t+u) (i'+t+u) (BF (BF h t) u)
theorem gD {bs:List Sy}{m m':Str}{g g':List Bool}{x:Sy}(h:oQ bs m g m' g'=true)(hx:x∈bs):look bs g x=fW bs m g m' g' x:=by
 rw [oQ,List.all_eq_true] at h;exact beq_iff_eq.mp (h x hx)
section
variable {bs:List Sy} {w:Nat→Str} {γ:Nat→List Bool} (hg:∀i,oQ bs (w i) (γ i) (w (i+1)) (γ (i+1))=true) (hm:∀x∈bs,∀i,∃j,i≤j∧met bs (w j) (γ j) x=true)
include hg hm
theorem kW {a c:Sy}(hx:.till a c∈bs)(ha:∀i,so (w i) bs (γ i) a=true↔Sem w a i)(hc:∀i,so (w i) bs (γ i) c=true↔Sem w c i)(i:Nat):look bs (γ i) (.till a c)=true↔Sem w (.till a c) i:=by
 have st:∀i,look bs (γ i) (.till a c)=true↔Sem w c i∨(Sem w a i∧look bs (γ (i+1)) (.till a c)=true):=fun i=>by
  rw [gD (hg i) hx,fV,Bool.or_eq_true,Bool.and_eq_true,ha,hc]
 constructor
 ·intro h
  obtain ⟨j,h1,h2⟩:=hm _ hx i
  obtain ⟨d,rfl⟩:=Nat.exists_eq_add_of_le h1
  clear h1
  induction d generalizing i with
  |zero=>
   rw [iW,Bool.or_eq_true,Nat.add_zero,h] at h2
   exact f0.mpr (.inl ((hc i).mp (h2.resolve_left (by decide))))
  |succ d ih=>
   rcases (st i).mp h with h3 | ⟨h3,h4⟩
   ·exact f0.mpr (.inl h3)
   ·exact f0.mpr (.inr ⟨h3,ih (i+1) h4 (by rw [Nat.add_assoc,Nat.add_comm 1];exact h2)⟩)
 ·rintro ⟨t,h1,h2⟩
  induction t generalizing i with
  |zero=>exact (st i).mpr (.inl h1)
  |succ t ih=>exact (st i).mpr (.inr ⟨h2 0 (Nat.succ_pos _),ih (i+1) (by rw [Nat.add_assoc,Nat.add_comm 1];exact h1) fun u hu=>by rw [Nat.add_assoc,Nat.add_comm 1];exact h2 (u+1) (Nat.succ_lt_succ hu)⟩)
theorem jk {a:Sy}(hx:.always a∈bs)(ha:∀i,so (w i) bs (γ i) a=true↔Sem w a i)(i:Nat):look bs (γ i) (.always a)=true↔Sem w (.always a) i:=by
 have st:∀i,look bs (γ i) (.always a)=true↔Sem w a i∧look bs (γ (i+1)) (.always a)=true:=fun i=>by
  rw [gD (hg i) hx,eA,Bool.and_eq_true,ha]
 constructor
 ·intro h t
  induction t generalizing i with
  |zero=>exact ((st i).mp h).1
  |succ t ih=>have:=ih (i+1) ((st i).mp h).2;rw [Nat.add_assoc,Nat.add_comm 1] at this;exact this
 ·intro h
  cases q:look bs (γ i) (.always a) with
  |true=>rfl
  |false=>
   exfalso
   obtain ⟨j,h1,h2⟩:=hm _ hx i
   obtain ⟨d,rfl⟩:=Nat.exists_eq_add_of_le h1
   clear h1
   induction d generalizing i with
   |zero=>
    rw [fw,Nat.add_zero,q,Bool.false_or,Bool.not_eq_true'] at h2
    rw [(ha i).mpr (h 0)] at h2;cases h2
   |succ d ih=>
    refine ih (i+1) (k6.mp h).2 ?_ (by rw [Nat.add_assoc,Nat.add_comm 1];exact h2)
    cases e:look bs (γ (i+1)) (.always a) with
    |false=>rfl
    |true=>rw [(st i).mpr ⟨h 0,e⟩] at q;cases q
theorem cc:∀(s:Sy),cU bs s→∀i,so (w i) bs (γ i) s=true↔Sem w s i
 |.mark x,_,i=>.rfl
 |.yes,_,i=>⟨fun _=>trivial,fun _=>rfl⟩
 |.not a,h,i=>nt (cc a (aA h (.head _)) i)
 |.and a c,h,i=>(Bool.and_eq_true_iff).trans (and_congr (cc a (aA h (.head _)) i) (cc c (aA h (.tail _ (.head _))) i))
 |.or a c,h,i=>(Bool.or_eq_true_iff).trans (or_congr (cc a (aA h (.head _)) i) (cc c (aA h (.tail _ (.head _))) i))
 |.next a,h,i=>(Bool.eq_iff_iff.mp (gD (hg i) (bc h _ (.head _)))).trans (cc a (aA h (.head _)) (i+1))
 |.till a c,h,i=>kW hg hm (bc h _ (.head _)) (cc a (aA h (.head _))) (cc c (aA h (.tail _ (.head _)))) i
 |.always a,h,i=>jk hg hm (bc h _ (.head _)) (cc a (aA h (.head _))) i
 |.again a,h,i=>by
  rw [jt]
  exact jk (a:=.till .yes a) hg hm (bc h _ (.tail _ (.head _))) (kW (a:=.yes) (c:=a) hg hm (bc h _ (.head _)) (fun _=>⟨fun _=>trivial,fun _=>rfl⟩) (cc a (aA h (.head _)))) i
end
noncomputable def xM (w:Nat→Str)(bs:List Sy)(i:Nat):List Bool:=open Classical in bs.map fun x=>decide (Sem w x i)
theorem cP {w:Nat→Str}{bs:List Sy}{i:Nat}{x:Sy}(h:x∈bs):look bs (xM w bs i) x=true↔Sem w x i:=by
 have hi:bs.idxOf x < bs.length:=List.idxOf_lt_length_iff.mpr h
 rw [look,xM,List.getElem?_map,List.getElem?_eq_getElem hi]
 simp [List.getElem_idxOf]
theorem dk {w:Nat→Str}{bs:List Sy}(i:Nat):∀(s:Sy),cU bs s→(so (w i) bs (xM w bs i) s=true↔Sem w s i)
 |.mark x,_=>.rfl
 |.yes,_=>⟨fun _=>trivial,fun _=>rfl⟩
 |.not a,h=>nt (dk i a (aA h (.head _)))
 |.and a c,h=>(Bool.and_eq_true_iff).trans (and_congr (dk i a (aA h (.head _))) (dk i c (aA h (.tail _ (.head _)))))
 |.or a c,h=>(Bool.or_eq_true_iff).trans (or_congr (dk i a (aA h (.head _))) (dk i c (aA h (.tail _ (.head _)))))
 |.next a,h=>cP (bc h _ (.head _))
 |.till a c,h=>cP (bc h _ (.head _))
 |.always a,h=>cP (bc h _ (.head _))
 |.again a,h=>(cP (bc h _ (.tail _ (.head _)))).trans jt.symm
theorem wI {w:Nat→Str}{s:Sy}(i:Nat):oQ (ao s) (w i) (xM w (ao s) i) (w (i+1)) (xM w (ao s) (i+1))=true:=by
 rw [oQ,List.all_eq_true]
 intro x hx
 rw [beq_iff_eq,Bool.eq_iff_iff,cP hx]
 rcases dL hx with ⟨a,rfl⟩ | ⟨a,c,rfl⟩ | ⟨a,rfl⟩
 ·rw [pI,dk (i+1) a (cq hx (.head _))];rfl
 ·rw [fV,Bool.or_eq_true,Bool.and_eq_true,dk i a (cq hx (.head _)),dk i c (cq hx (.tail _ (.head _))),cP hx,f0]
 ·rw [eA,Bool.and_eq_true,dk i a (cq hx (.head _)),cP hx,k6]
theorem yz {w:Nat→Str}{s x:Sy}(hx:x∈ao s)(i:Nat):∃j,i≤j∧met (ao s) (w j) (xM w (ao s) j) x=true:=by
 rcases dL hx with ⟨a,rfl⟩ | ⟨a,c,rfl⟩ | ⟨a,rfl⟩
 ·exact ⟨i,Nat.le_refl _,rfl⟩
 ·by_cases h:Sem w (.till a c) i
  ·obtain ⟨t,h1,_⟩:=h
   refine ⟨i+t,Nat.le_add_right _ _,?_⟩
   rw [iW,(dk (i+t) c (cq hx (.tail _ (.head _)))).mpr h1,Bool.or_true]
  ·refine ⟨i,Nat.le_refl _,?_⟩
   rw [iW,Bool.or_eq_true,Bool.not_eq_true',←Bool.not_eq_true,cP hx];exact .inl h
 ·by_cases h:Sem w (.always a) i
  ·exact ⟨i,Nat.le_refl _,by rw [fw,(cP hx).mpr h,Bool.true_or]⟩
  ·obtain ⟨t,ht⟩:=Classical.not_forall.mp h
   refine ⟨i+t,Nat.le_add_right _ _,?_⟩
   rw [fw,Bool.or_eq_true,Bool.not_eq_true',←Bool.not_eq_true (so _ _ _ _),dk (i+t) a (cq hx (.head _))];exact .inr ht
end
end Mine.Ltl
namespace Mine
noncomputable section
open Ltl
section
variable {α:Type} {th:α→List α}
theorem ee.left {P Q:List α}(h:ee th (P++Q)):ee th P:=fun i a b ha hb=>
 h i a b ((List.getElem?_append_left (List.getElem?_eq_some_iff.mp ha).1).trans ha) ((List.getElem?_append_left (List.getElem?_eq_some_iff.mp hb).1).trans hb)
theorem ee.snoc {P:List α}{a b:α}(h:ee th (P++[b]))(e:P.getLast?=some a):b∈th a:=by
 obtain ⟨Q,rfl⟩:=List.getLast?_eq_some_iff.mp e
 refine h Q.length a b ?_ ?_
 ·rw [List.append_assoc,List.getElem?_append_right (Nat.le_refl _),Nat.sub_self];rfl
 ·rw [List.append_assoc,List.getElem?_append_right (Nat.le_add_right _ 1),Nat.add_sub_cancel_left];rfl
theorem ee.close {K S F P:List α}{z c:α}(h:ee th (F++[z]))(W:zB th K S c P)(hS:∀x∈S,x∈th z):ee th (F++[z]++P.dropLast)∧∃y,(F++[z]++P.dropLast).getLast?=some y∧c∈th y:=by
 obtain ⟨Q,rfl⟩:=List.getLast?_eq_some_iff.mp W.lst
 obtain ⟨a,ha,hs⟩:=W.hd
 rw [List.dropLast_concat]
 refine ⟨h.app W.walk.left fun u v hu hv=>?_,?_⟩
 ·rw [List.getLast?_concat] at hu;cases hu
  rw [List.head?_append,hv] at ha;cases ha
  exact hS _ hs
 ·rcases List.eq_nil_or_concat Q with rfl | ⟨R,y,rfl⟩
  ·cases ha
   exact ⟨z,by rw [List.append_nil,List.getLast?_concat],hS _ hs⟩
  ·rw [List.concat_eq_append] at W ⊢
   exact ⟨y,by rw [←List.append_assoc,List.getLast?_concat],W.walk.snoc List.getLast?_concat⟩
structure n4 (th:α→List α) (S:List α) (P R:List α):Prop where
 walk:ee th (P++R)
 hd:∃a,(P++R).head?=some a∧a∈S
 back:∃c y,R.head?=some c∧R.getLast?=some y∧c∈th y
theorem zB.lasso {K S P R:List α}{c:α}(W:zB th K S c P)(h:ee th R)(hc:R.head?=some c)(hb:∃y,R.getLast?=some y∧c∈th y):n4 th S P.dropLast R:=by
 obtain ⟨Q,rfl⟩:=List.getLast?_eq_some_iff.mp W.lst
 obtain ⟨a,ha,hs⟩:=W.hd
 obtain ⟨y,h1,h2⟩:=hb
 rw [List.dropLast_concat]
 refine ⟨W.walk.left.app h fun u v hu hv=>?_,⟨a,?_,hs⟩,c,y,hc,h1,h2⟩
 ·rw [hc] at hv;cases hv
  exact W.walk.snoc hu
 ·rw [List.head?_append] at ha ⊢
  rw [hc];exact ha
theorem n4.step {S P R:List α}(L:n4 th S P R){i:Nat}{a b:α}(ha:(P++R)[i]?=some a)(hb:(P++R)[nx (P++R).length P.length i]?=some b):b∈th a:=by
 unfold nx at hb
 by_cases q:i+1=(P++R).length
 ·rw [if_pos q] at hb
  obtain ⟨c,y,h1,h2,h3⟩:=L.back
  rw [List.getElem?_append_right (Nat.le_refl _),Nat.sub_self,←List.head?_eq_getElem?,h1] at hb
  have e:(P++R).getLast?=some a:=by rw [List.getLast?_eq_getElem?,←q];exact ha
  rw [List.getLast?_append,h2] at e
  cases hb;cases e;exact h3
 ·rw [if_neg q] at hb
  exact L.walk i a b ha hb
theorem n4.lt {S P R:List α}(L:n4 th S P R):P.length < (P++R).length:=by
 obtain ⟨c,y,h1,_⟩:=L.back
 cases R with
 |nil=>cases h1
 |cons=>rw [List.length_append,List.length_cons];lia -abstractProof
end
end
end Mine
namespace Mine
noncomputable section
open PySem Mine.Ltl
noncomputable def aX:Sy→T
 |.mark x=>.tup [.str (ofString "mark"),.str x]
 |.yes=>.tup [.str (ofString "yes")]
 |.not a=>.tup [.str (ofString "not"),aX a]
 |.and a c=>.tup [.str (ofString "and"),aX a,aX c]
 |.or a c=>.tup [.str (ofString "or"),aX a,aX c]
 |.next a=>.tup [.str (ofString "next"),aX a]
 |.till a c=>.tup [.str (ofString "till"),aX a,aX c]
 |.always a=>.tup [.str (ofString "always"),aX a]
 |.again a=>.tup [.str (ofString "again"),aX a]
noncomputable def fL:Sy→PyData
 |.mark x=>.tuple [.str (ofString "mark"),.str x]
 |.yes=>.tuple [.str (ofString "yes")]
 |.not a=>.tuple [.str (ofString "not"),fL a]
 |.and a c=>.tuple [.str (ofString "and"),fL a,fL c]
 |.or a c=>.tuple [.str (ofString "or"),fL a,fL c]
 |.next a=>.tuple [.str (ofString "next"),fL a]
 |.till a c=>.tuple [.str (ofString "till"),fL a,fL c]
 |.always a=>.tuple [.str (ofString "always"),fL a]
 |.again a=>.tuple [.str (ofString "again"),fL a]
noncomputable def dep:Sy→Nat
 |.mark _=>1
 |.yes=>1
 |.not a=>dep a+1
 |.and a c=>max (dep a) (dep c)+1
 |.or a c=>max (dep a) (dep c)+1
 |.next a=>dep a+1
 |.till a c=>max (dep a) (dep c)+1
 |.always a=>dep a+1
 |.again a=>dep a+1
theorem jb (n:Nat)(s:Str):cT n (.str s)=some (.str s):=by cases n<;>rfl
theorem oY (n:Nat)(i:Int):cT n (.int i)=some (.int i):=by cases n<;>rfl
theorem wU (n:Nat)(b:Bool):cT n (.bool b)=some (.bool b):=by cases n<;>rfl
theorem n0 {f:T→Option PyData}{x:T}{r:List T}{d:PyData}{ds:List PyData}(h:f x=some d)(hr:eW f r=some ds):eW f (x::r)=some (d::ds):=by
 show (match f x with |none=>none |some d=>(eW f r).map (d::·))=_
 rw [h,hr];rfl
theorem oX {n:Nat}{xs:List T}{ds:List PyData}(h:eW (cT n) xs=some ds):cT (n+1) (.tup xs)=some (.tuple ds):=congrArg (Option.map PyData.tuple) h
theorem qB {n:Nat}{w:Str}{a:T}{d:PyData}(h:cT n a=some d):cT (n+1) (.tup [.str w,a])=some (.tuple [.str w,d]):=oX (n0 (jb _ _) (n0 h rfl))
theorem wV {n:Nat}{w:Str}{a c:T}{d e:PyData}(h:cT n a=some d)(h':cT n c=some e):cT (n+1) (.tup [.str w,a,c])=some (.tuple [.str w,d,e]):=oX (n0 (jb _ _) (n0 h (n0 h' rfl)))
theorem d0:∀(s:Sy) (n:Nat),dep s≤n→cT n (aX s)=some (fL s)
 |.mark x,n+1,_=>qB (jb _ _)
 |.yes,n+1,_=>oX (n0 (jb _ _) rfl)
 |.not a,n+1,h=>qB (d0 a n (Nat.le_of_succ_le_succ h))
 |.next a,n+1,h=>qB (d0 a n (Nat.le_of_succ_le_succ h))
 |.always a,n+1,h=>qB (d0 a n (Nat.le_of_succ_le_succ h))
 |.again a,n+1,h=>qB (d0 a n (Nat.le_of_succ_le_succ h))
 |.and a c,n+1,h=>wV (d0 a n (Nat.le_trans (Nat.le_max_left _ _) (Nat.le_of_succ_le_succ h))) (d0 c n (Nat.le_trans (Nat.le_max_right _ _) (Nat.le_of_succ_le_succ h)))
 |.or a c,n+1,h=>wV (d0 a n (Nat.le_trans (Nat.le_max_left _ _) (Nat.le_of_succ_le_succ h))) (d0 c n (Nat.le_trans (Nat.le_max_right _ _) (Nat.le_of_succ_le_succ h)))
 |.till a c,n+1,h=>wV (d0 a n (Nat.le_trans (Nat.le_max_left _ _) (Nat.le_of_succ_le_succ h))) (d0 c n (Nat.le_trans (Nat.le_max_right _ _) (Nat.le_of_succ_le_succ h)))
noncomputable def idx:Sy→Nat
 |.mark _=>0
 |.yes=>1
 |.not _=>2
 |.and _ _=>3
 |.or _ _=>4
 |.next _=>5
 |.till _ _=>6
 |.always _=>7
 |.again _=>8
theorem i9 {a c:Sy}(h1:PyData.eqv (fL a) (fL c)=false)(h2:Nat.beq (idx a) (idx c)=false):PyData.eqv (fL a) (fL c)=true↔a=c:=⟨fun h=>(by rw [h1] at h;cases h),fun h=>(by rw [h,Nat.beq_refl] at h2;cases h2)⟩
theorem gJ:∀a c:Sy,PyData.eqv (fL a) (fL c)=true↔a=c
 |.mark x,c=>by
  cases c with
  |mark y=>
   show ((x==y)&&true)=true↔_
   rw [Bool.and_true,beq_iff_eq];exact ⟨fun h=>(by rw [h]),fun h=>(by cases h;rfl)⟩
  |_=>exact i9 rfl rfl
 |.yes,c=>by
  cases c with
  |yes=>exact ⟨fun _=>rfl,fun _=>rfl⟩
  |_=>exact i9 rfl rfl
 |.not a,c=>by
  cases c with
  |not c=>
   show (PyData.eqv (fL a) (fL c)&&true)=true↔_
   rw [Bool.and_true,gJ a c];exact ⟨fun h=>(by rw [h]),fun h=>(by cases h;rfl)⟩
  |_=>exact i9 rfl rfl
 |.next a,c=>by
  cases c with
  |next c=>
   show (PyData.eqv (fL a) (fL c)&&true)=true↔_
   rw [Bool.and_true,gJ a c];exact ⟨fun h=>(by rw [h]),fun h=>(by cases h;rfl)⟩
  |_=>exact i9 rfl rfl
 |.always a,c=>by
  cases c with
  |always c=>
   show (PyData.eqv (fL a) (fL c)&&true)=true↔_
   rw [Bool.and_true,gJ a c];exact ⟨fun h=>(by rw [h]),fun h=>(by cases h;rfl)⟩
  |_=>exact i9 rfl rfl
 |.again a,c=>by
  cases c with
  |again c=>
   show (PyData.eqv (fL a) (fL c)&&true)=true↔_
   rw [Bool.and_true,gJ a c];exact ⟨fun h=>(by rw [h]),fun h=>(by cases h;rfl)⟩
  |_=>exact i9 rfl rfl
 |.and a b,c=>by
  cases c with
  |and c d=>
   show (PyData.eqv (fL a) (fL c)&&(PyData.eqv (fL b) (fL d)&&true))=true↔_
   rw [Bool.and_true,Bool.and_eq_true,gJ a c,gJ b d];exact ⟨fun h=>(by rw [h.1,h.2]),fun h=>(by cases h;exact ⟨rfl,rfl⟩)⟩
  |_=>exact i9 rfl rfl
 |.or a b,c=>by
  cases c with
  |or c d=>
   show (PyData.eqv (fL a) (fL c)&&(PyData.eqv (fL b) (fL d)&&true))=true↔_
   rw [Bool.and_true,Bool.and_eq_true,gJ a c,gJ b d];exact ⟨fun h=>(by rw [h.1,h.2]),fun h=>(by cases h;exact ⟨rfl,rfl⟩)⟩
  |_=>exact i9 rfl rfl
 |.till a b,c=>by
  cases c with
  |till c d=>
   show (PyData.eqv (fL a) (fL c)&&(PyData.eqv (fL b) (fL d)&&true))=true↔_
   rw [Bool.and_true,Bool.and_eq_true,gJ a c,gJ b d];exact ⟨fun h=>(by rw [h.1,h.2]),fun h=>(by cases h;exact ⟨rfl,rfl⟩)⟩
  |_=>exact i9 rfl rfl
structure iJ {α:Type} (e:α→T) (d:α→PyData) (n:Nat) (P:α→Prop):Prop where
 dat:∀a m,P a→n≤m→cT m (e a)=some (d a)
 eq:∀a c,PyData.eqv (d a) (d c)=true↔a=c
theorem r5 (n:Nat):iJ aX fL n (fun s=>dep s≤n):=⟨fun a m h hm=>d0 a m (Nat.le_trans h hm),gJ⟩
theorem ze:iJ T.str PyData.str 0 (fun _=>True):=⟨fun a m _ _=>jb m a,fun _ _=>beq_iff_eq⟩
theorem ja:iJ T.bool PyData.bool 0 (fun _=>True):=⟨fun a m _ _=>wU m a,fun _ _=>beq_iff_eq⟩
theorem zf:iJ (fun n:Nat=>T.int n) (fun n:Nat=>PyData.int n) 0 (fun _=>True):=⟨fun a m _ _=>oY m a,fun a c=>by show (((a:Int)==(c:Int))=true)↔_;rw [beq_iff_eq];exact ⟨fun h=>Int.ofNat.inj h,fun h=>by rw [h]⟩⟩
section
variable {α:Type} {e:α→T} {d:α→PyData} {n:Nat} {P:α→Prop}
theorem iJ.all (E:iJ e d n P){m:Nat}(hm:n≤m):∀l:List α,(∀a∈l,P a)→eW (cT m) (l.map e)=some (l.map d)
 | [],_=>rfl
 |a::l,h=>by rw [List.map_cons,eW,E.dat a m (h a (.head _)) hm];simp only [E.all hm l fun b hb=>h b (.tail _ hb)];rfl
theorem iJ.eqs (E:iJ e d n P):∀l l':List α,PyData.eqvAll (l.map d) (l'.map d)=true↔l=l'
 | [],[]=>⟨fun _=>rfl,fun _=>rfl⟩
 | [],_::_=>⟨fun h=>(by cases h),fun h=>(by cases h)⟩
 |_::_,[]=>⟨fun h=>(by cases h),fun h=>(by cases h)⟩
 |a::l,c::l'=>by
  show (PyData.eqv (d a) (d c)&&PyData.eqvAll (l.map d) (l'.map d))=true↔_
  rw [Bool.and_eq_true,E.eq,E.eqs l l']
  exact ⟨fun h=>(by rw [h.1,h.2]),fun h=>(by cases h;exact ⟨rfl,rfl⟩)⟩
theorem iJ.tup (E:iJ e d n P):iJ (fun l:List α=>T.tup (l.map e)) (fun l=>PyData.tuple (l.map d)) (n+1) (fun l=>∀a∈l,P a):=
 ⟨fun l m h hm=>by
  obtain ⟨m,rfl⟩:=Nat.exists_eq_add_of_le' hm
  show (eW (cT (m+n)) (l.map e)).map PyData.tuple=_
  rw [E.all (Nat.le_add_left _ _) l h];rfl,fun a c=>E.eqs a c⟩
theorem iJ.lst (E:iJ e d n P):iJ (fun l:List α=>T.lst (l.map e)) (fun l=>PyData.list (l.map d)) (n+1) (fun l=>∀a∈l,P a):=
 ⟨fun l m h hm=>by
  obtain ⟨m,rfl⟩:=Nat.exists_eq_add_of_le' hm
  show (eW (cT (m+n)) (l.map e)).map PyData.list=_
  rw [E.all (Nat.le_add_left _ _) l h];rfl,fun a c=>E.eqs a c⟩
variable [DecidableEq α]
theorem iJ.eqb (E:iJ e d n P)(a c:α):PyData.eqv (d a) (d c)=decide (a=c):=by
 cases h:PyData.eqv (d a) (d c) with
 |true=>exact (decide_eq_true ((E.eq a c).mp h)).symm
 |false=>exact (decide_eq_false fun q=>by rw [(E.eq a c).mpr q] at h;cases h).symm
theorem iJ.is (E:iJ e d n P)(hn:n≤cL){a c:α}(ha:P a)(hc:P c):bI (e a) (e c)=some (decide (a=c)):=by
 rw [bI,E.dat a cL ha hn,E.dat c cL hc hn];exact congrArg some (E.eqb a c)
theorem iJ.isN (E:iJ e d n P)(hn:n≤cL){a c:α}(ha:P a)(hc:P c):jW (e a) (e c)=some (!decide (a=c)):=by rw [jW,E.is hn ha hc];rfl
theorem iJ.mem (E:iJ e d n P)(hn:n≤cL){a:α}{l:List α}(ha:P a)(hl:∀c∈l,P c){s:T}(hs:fZ s=some (l.map e)):i5 (e a) s=some (decide (a∈l)):=by
 rw [i5,hs]
 show o2 (cT cL (e a)) (l8 (l.map e)) _=_
 rw [E.dat a cL ha hn,l8,E.all hn l hl]
 refine congrArg some ?_
 show (l.map d).any _=_
 rw [Bool.eq_iff_iff,List.any_eq_true,decide_eq_true_eq]
 constructor
 ·rintro ⟨y,hy,h⟩
  obtain ⟨c,hc,rfl⟩:=List.mem_map.mp hy
  rw [←(E.eq c a).mp h];exact hc
 ·exact fun h=>⟨d a,List.mem_map.mpr ⟨a,h,rfl⟩,(E.eq a a).mpr rfl⟩
theorem iJ.nin (E:iJ e d n P)(hn:n≤cL){a:α}{l:List α}(ha:P a)(hl:∀c∈l,P c){s:T}(hs:fZ s=some (l.map e)):fP (e a) s=some (!decide (a∈l)):=by rw [fP,E.mem hn ha hl hs];rfl
omit [DecidableEq α] in
theorem lX {β:Type}(f:α→β)(p:β→Bool):∀l:List α,(l.map f).findIdx? p=l.findIdx? (p ∘ f)
 | []=>rfl
 |a::l=>by rw [List.map_cons,List.findIdx?_cons,List.findIdx?_cons,lX f p l];rfl
theorem lY {a:α}:∀{l:List α},a∈l→l.findIdx? (fun c=>decide (c=a))=some (l.idxOf a)
 | [],h=>by cases h
 |c::l,h=>by
  rw [List.findIdx?_cons,List.idxOf_cons]
  by_cases q:c=a
  ·rw [decide_eq_true q,beq_iff_eq.mpr q];rfl
  ·rw [decide_eq_false q,beq_eq_false_iff_ne.mpr q]
   have:a∈l:=by cases h with
    |head=>exact absurd rfl q
    |tail _ h=>exact h
   rw [lY this];rfl
theorem iJ.idx (E:iJ e d n P)(hn:n≤cL){a:α}{l:List α}(ha:P a)(hl:∀c∈l,P c)(hm:a∈l):lR (.lst (l.map e)) (e a)=some (.int (l.idxOf a)):=by
 show o2 (cT cL (e a)) (l8 (l.map e)) _=_
 rw [E.dat a cL ha hn,l8,E.all hn l hl]
 show o1 ((l.map d).findIdx? fun y=>PyData.eqv y (d a)) _=_
 rw [lX,show (fun y=>PyData.eqv y (d a)) ∘ d=fun c=>decide (c=a) from funext fun c=>E.eqb c a,lY hm];rfl
end
end
end Mine
namespace Mine
noncomputable section
open PySem
theorem aq {o r:cz}{t:T}{σ:Sg}{k:PK T}(h:o=.ret t σ)(h2:k t σ=r):sW o k=r:=by rw [h,sW];exact h2
theorem ab {α:Type}{o:Option α}{a:α}{σ:Sg}{k:PK α}{r:cz}(h:o=some a)(h2:k a σ=r):up o σ k=r:=by rw [h];exact h2
theorem mt {α:Type}{o:Option α}{a:α}{f:α→cz}{b r:cz}(h:o=some a)(h2:f a=r):(match (generalizing:=false) o with |some a=>f a |none=>b)=r:=by rw [h];exact h2
theorem dg {c:Bool}{a b r:cz}(h:c=true)(h2:a=r):(bif c then a else b)=r:=by rw [h];exact h2
theorem az {c:Bool}{a b r:cz}(h:c=false)(h2:b=r):(bif c then a else b)=r:=by rw [h];exact h2
@[reducible] noncomputable def Bs (bd:PB)(body:PS)(c:fT)(v:T)(ρ:aH)(σ:S5)(k:PK aH):cz:=match bd v ρ with
 |none=>.bad
 |some ρ'=>body c ρ' σ k
theorem nr {l:List T}{lo hi:Option Int}:bE (.lst l) lo hi=some (.lst (cut lo hi l)):=by unfold bE;rfl
theorem CC {bd:PB}{body:PS}{c:fT}{v:T}{l:List T}{ρ ρ':aH}{σ:Sg}{k:PK aH}{r:cz}(hb:bd v ρ=some ρ')(h:body c ρ' σ (fun ρ σ=>cn bd body c l ρ σ k)=r):cn bd body c (v::l) ρ σ k=r:=by
 show (match bd v ρ with |none=>.bad |some ρ'=>body c ρ' σ fun ρ σ=>cn bd body c l ρ σ k)=r
 rw [hb];exact h
noncomputable def aT (Q:T→Sg→Prop)(o:cz):Prop:=∃t σ,o=.ret t σ∧Q t σ
section
variable {Q:T→Sg→Prop}
theorem cv {t:T}{σ:Sg}(h:Q t σ):aT Q (.ret t σ):=⟨t,σ,rfl,h⟩
theorem fO {o:cz}{t:T}{σ:Sg}{k:PK T}(h:o=.ret t σ)(h2:aT Q (k t σ)):aT Q (sW o k):=by rw [h,sW];exact h2
theorem bF {P:T→Sg→Prop}{o:cz}{k:PK T}(h:aT P o)(h2:∀t σ,P t σ→aT Q (k t σ)):aT Q (sW o k):=by obtain ⟨t,σ,rfl,h⟩:=h;rw [sW];exact h2 t σ h
theorem aw {α:Type}{o:Option α}{a:α}{σ:Sg}{k:PK α}(h:o=some a)(h2:aT Q (k a σ)):aT Q (up o σ k):=by rw [h];exact h2
theorem dA {α:Type}{o:Option α}{a:α}{f:α→cz}{b:cz}(h:o=some a)(h2:aT Q (f a)):aT Q (match (generalizing:=false) o with |some a=>f a |none=>b):=by rw [h];exact h2
theorem m5 {ρ:aH}{i:Nat}{t:T}{σ:Sg}{k:PK T}(h:bz ρ i=some t)(h2:aT Q (k t σ)):aT Q (up (bz ρ i) σ k):=by rw [h];exact h2
theorem d7 {c:Bool}{a b:cz}(h1:c=true→aT Q a)(h2:c=false→aT Q b):aT Q (bif c then a else b):=by
 cases c with
 |true=>exact h1 rfl
 |false=>exact h2 rfl
theorem CD {a b:T}{x y:cz}(h:aT Q x):aT Q (bif bU [a,b].length then x else y):=h
theorem nc {x y:cz}(h:aT Q y):aT Q (bif false then x else y):=h
theorem zt {x y:cz}(h:aT Q x):aT Q (bif true then x else y):=h
theorem qw {l:List T}{x y:cz}(hl:Nat.ble l.length 100=true)(h:aT Q x):aT Q (bif bU l.length then x else y):=by
 rw [show bU l.length=true from Nat.ble_eq_true_of_le (Nat.le_trans (Nat.le_of_ble_eq_true hl) (by decide))];exact h
theorem qv {bd:PB}{body:PS}{c:fT}{v:T}{l:List T}{ρ ρ':aH}{σ:Sg}{k:PK aH}(hb:bd v ρ=some ρ')(h:aT Q (body c ρ' σ fun ρ σ=>cn bd body c l ρ σ k)):aT Q (cn bd body c (v::l) ρ σ k):=by
 show aT Q (match bd v ρ with |none=>.bad |some ρ'=>body c ρ' σ fun ρ σ=>cn bd body c l ρ σ k)
 rw [hb];exact h
theorem Be {bd:PB}{body:PS}{c:fT}{ρ:aH}{σ:Sg}{k:PK aH}(h:aT Q (k ρ σ)):aT Q (cn bd body c [] ρ σ k):=h
theorem qs {α:Type}{e:α→T}{bd:PB}{body:PS}{c:fT}{k:PK aH}(I:List α→aH→Sg→Prop){l:List α}
  (h:∀pre a suf ρ σ,l=pre++a::suf→I pre ρ σ→∀k,(∀ρ' σ',I (pre++[a]) ρ' σ'→aT Q (k ρ' σ'))→aT Q (Bs bd body c (e a) ρ σ k))(h1:∀ρ σ,I l ρ σ→aT Q (k ρ σ)):
  ∀{suf pre:List α} {ρ:aH} {σ:Sg},l=pre++suf→I pre ρ σ→aT Q (cn bd body c (suf.map e) ρ σ k)
 | [],pre,ρ,σ,hl,hi=>h1 ρ σ (by rw [hl,List.append_nil];exact hi)
 |a::suf,pre,ρ,σ,hl,hi=>h pre a suf ρ σ hl hi _ fun ρ' σ' hi'=>qs I h h1 (suf:=suf) (pre:=pre++[a]) (by rw [hl,List.append_assoc];rfl) hi'
theorem jq {t:PT}{body:PS}{c:fT}{k:PK aH}{S:Type}(I:S→aH→Sg→Prop)(go:S→Bool)(ms:S→Nat)(ht:∀s ρ σ,I s ρ σ→∀k:PK Bool,aT Q (k (go s) σ)→aT Q (t c ρ σ k))
  (hb:∀s ρ σ,I s ρ σ→go s=true→∀k,(∀s' ρ' σ',ms s' < ms s→I s' ρ' σ'→aT Q (k ρ' σ'))→aT Q (body c ρ σ k))(h1:∀s ρ σ,I s ρ σ→go s=false→aT Q (k ρ σ)):
  ∀{n:Nat} {s:S} {ρ:aH} {σ:Sg},ms s < n→I s ρ σ→aT Q (fU t body c n ρ σ k)
 | 0,s,ρ,σ,h,_=>absurd h (Nat.not_lt_zero _)
 |n+1,s,ρ,σ,h,hi=>by rw [kO];exact ht s ρ σ hi _ (d7 (fun e=>hb s ρ σ hi e _ fun s' ρ' σ' h' hi'=>jq I go ms ht hb h1 (n:=n) (Nat.lt_of_lt_of_le h' (Nat.le_of_lt_succ h)) hi') (h1 s ρ σ hi))
end
theorem eT {α:Type}{e:α→T}{bd:PB}{cond:PT}{elt:PE}{c:fT}{ρ:aH}{σ:Sg}{k:PK (List T)}{r:cz}(p:α→Bool)(f:α→T):∀{l:List α} {acc:List T},
  (∀a∈l,∃ρ',bd (e a) ρ=some ρ'∧(∀k,cond c ρ' σ k=k (p a) σ)∧(p a=true→∀k,elt c ρ' σ k=k (f a) σ))→k (acc++(l.filter p).map f) σ=r→aY bd cond elt c ρ (l.map e) σ acc k=r
 | [],acc,_,hk=>by rw [List.filter_nil,List.map_nil,List.append_nil] at hk;rw [List.map_nil,tq];exact hk
 |a::l,acc,h,hk=>by
  obtain ⟨ρ',h1,h2,h3⟩:=h a (.head _)
  have ih:=fun acc=>eT (e:=e) (bd:=bd) (cond:=cond) (elt:=elt) (c:=c) (ρ:=ρ) (σ:=σ) (k:=k) (r:=r) p f (l:=l) (acc:=acc) fun b hb=>h b (.tail _ hb)
  rw [List.map_cons,tr]
  simp only [h1,h2]
  cases e:p a with
  |false=>rw [List.filter_cons_of_neg (by rw [e];decide)] at hk;exact ih acc hk
  |true=>
   rw [cond_true,h3 e]
   rw [List.filter_cons_of_pos e,List.map_cons] at hk
   exact ih (acc++[f a]) (by rw [List.append_assoc];exact hk)
theorem bb {α:Type}{e:α→T}{bd:PB}{elt:PE}{c:fT}{ρ:aH}{σ:Sg}{k:PK (List T)}{r:cz}(f:α→T){l:List α}(h:∀a∈l,∃ρ',bd (e a) ρ=some ρ'∧∀k,elt c ρ' σ k=k (f a) σ)(hk:k (l.map f) σ=r):aY bd ay elt c ρ (l.map e) σ [] k=r:=
 eT (fun _=>true) f (fun a ha=>let ⟨ρ',h1,h2⟩:=h a ha;⟨ρ',h1,fun _=>rfl,fun _=>h2⟩) (by rw [List.filter_eq_self.mpr fun _ _=>rfl];exact hk)
theorem w8 {Q:T→Sg→Prop}{α:Type}{e:α→T}{bd:PB}{cond:PT}{elt:PE}{c:fT}{ρ:aH}{σ:Sg}{k:PK (List T)}(p:α→Bool)(f:α→T){l:List α}
  (h:∀a∈l,∃ρ',bd (e a) ρ=some ρ'∧(∀k,cond c ρ' σ k=k (p a) σ)∧(p a=true→∀k,elt c ρ' σ k=k (f a) σ))(hk:aT Q (k ((l.filter p).map f) σ)):aT Q (aY bd cond elt c ρ (l.map e) σ [] k):=by
 rw [eT p f h rfl];exact hk
theorem eL {Q:T→Sg→Prop}{α:Type}{e:α→T}{bd:PB}{elt:PE}{c:fT}{ρ:aH}{σ:Sg}{k:PK (List T)}(f:α→T){l:List α}(h:∀a∈l,∃ρ',bd (e a) ρ=some ρ'∧∀k,elt c ρ' σ k=k (f a) σ)(hk:aT Q (k (l.map f) σ)):aT Q (aY bd ay elt c ρ (l.map e) σ [] k):=by
 rw [bb f h rfl];exact hk
structure q0 {α:Type} (e:α→T) (κ:α→Ky):Prop where
 ky:∀a,wk (e a)=some (κ a)
 inj:∀a c,κ a=κ c→a=c
section
variable {α:Type} {e:α→T} {κ:α→Ky} [DecidableEq α]
omit [DecidableEq α] in
theorem q0.kys (K:q0 e κ):∀l:List α,eR (l.map e)=some (l.map κ)
 | []=>rfl
 |a::l=>by
  have:=K.kys l
  rw [eR] at this ⊢
  rw [List.map_cons,uw,K.ky a,this];rfl
theorem q0.at_ (K:q0 e κ)(l:List α)(a:α):oM (l.map κ) (κ a)=if a∈l then some (l.idxOf a) else none:=by
 unfold oM
 rw [lX]
 have:(fun x=>decide (x=κ a)) ∘ κ=fun c=>decide (c=a):=funext fun c=>by
  show decide (κ c=κ a)=_
  by_cases q:c=a
  ·rw [q,decide_eq_true rfl,decide_eq_true rfl]
  ·rw [decide_eq_false q,decide_eq_false fun h=>q (K.inj c a h)]
 rw [this]
 by_cases h:a∈l
 ·rw [if_pos h,lY h]
 ·rw [if_neg h,List.findIdx?_eq_none_iff]
  exact fun x hx=>decide_eq_false fun q=>h (q▸hx)
theorem q0.fd (K:q0 e κ)(l:List α)(a:α):kj (l.map e) (e a)=some (if a∈l then some (l.idxOf a) else none):=by
 rw [kj,K.kys,K.ky];exact congrArg some (K.at_ l a)
theorem oR {β:Type}(f:α→β):∀{l:List α} {a:α},a∈l→(l.map f)[l.idxOf a]?=some (f a)
 |c::l,a,h=>by
  rw [List.idxOf_cons]
  by_cases q:c=a
  ·rw [beq_iff_eq.mpr q,cond_true,q];rfl
  ·rw [beq_eq_false_iff_ne.mpr q,cond_false,List.map_cons,List.getElem?_cons_succ]
   exact oR f (by cases h with
    |head=>exact absurd rfl q
    |tail _ h=>exact h)
theorem q0.get (K:q0 e κ){l:List α}{f:α→T}{a:α}(h:a∈l):idxD (.dct (l.map e) (l.map f)) (e a)=some (f a):=by
 show o1 (kj (l.map e) (e a)) _=_
 rw [K.fd,if_pos h];exact oR f h
theorem q0.has (K:q0 e κ){l:List α}{vs:List T}(a:α):Ab (e a) (.dct (l.map e) vs)=some (decide (a∈l)):=by
 show o1 (kj (l.map e) (e a)) _=_
 rw [K.fd]
 by_cases h:a∈l
 ·rw [if_pos h,decide_eq_true h];rfl
 ·rw [if_neg h,decide_eq_false h];rfl
theorem q0.put (K:q0 e κ){l:List α}{vs:List T}{a:α}{v:T}(h:a∉l)(hl:l.length < lim):dP (.dct (l.map e) vs) (e a) v=some (.dct ((l++[a]).map e) (vs++[v])):=by
 show o1 (kj (l.map e) (e a)) _=_
 rw [K.fd,if_neg h]
 show nV _ _=_
 rw [nV,List.length_map,show bU (l.length+1)=true from Nat.ble_eq_true_of_le hl,List.map_append];rfl
theorem q0.fresh (K:q0 e κ):∀(l us:List α),(us++l).Nodup→dY (l.map e) (us.map e)=true
 | [],_,_=>rfl
 |a::l,us,h=>by
  have ha:a∉us:=fun q=>(List.nodup_append.mp h).2.2 a q a (.head _) rfl
  rw [List.map_cons,lU,K.fd,if_neg ha]
  show dY (l.map e) (us.map e++[e a])=true
  have:=K.fresh l (us++[a]) (by rw [List.append_assoc];exact h)
  rw [List.map_append] at this;exact this
end
structure Kn where
 p:Nat
 g:List Bool
noncomputable instance:DecidableEq Kn:=fun a b=>Classical.propDecidable (a=b)
theorem wm:∀{a c:Kn},a.p=c.p→a.g=c.g→a=c
 | ⟨_,_⟩,⟨_,_⟩,rfl,rfl=>rfl
noncomputable def aN (k:Kn):T:=.tup [.int k.p,.tup (k.g.map .bool)]
noncomputable def Dj (k:Kn):PyData:=.tuple [.int k.p,.tuple (k.g.map .bool)]
noncomputable def E4 (k:Kn):Ky:=.tup [.int k.p,.tup (k.g.map fun b=>.int (tC b))]
theorem lN (n:Nat):∀g:List Bool,kA.go (kA n) (g.map .bool)=some (g.map fun b=>.int (tC b))
 | []=>rfl
 |b::g=>by
  rw [List.map_cons,uw,lN n g,show kA n (.bool b)=some (.int (tC b)) by cases n<;>rfl];rfl
theorem zw {a b:Bool}(h:tC a=tC b):a=b:=by revert h;cases a<;>cases b<;>decide
theorem jK:∀{g g':List Bool},(g.map fun b=>Ky.int (tC b))=g'.map (fun b=>Ky.int (tC b))→g=g'
 | [],[],_=>rfl
 | [],_::_,h=>by cases h
 |_::_,[],h=>by cases h
 |a::g,b::g',h=>by
  have h1:=List.cons.inj h
  rw [zw (Ky.int.inj h1.1),jK h1.2]
theorem ci:q0 aN E4:=⟨fun a=>by
  show o1 (kA.go (kA 5) [.int a.p,.tup (a.g.map .bool)]) _=_
  rw [uw,uw,show kA 5 (.tup (a.g.map .bool))=some (.tup (a.g.map fun b=>.int (tC b))) by rw [z8,lN];rfl];rfl,
 fun a c h=>by
  have h1:=List.cons.inj (Ky.tup.inj h)
  have h2:=List.cons.inj h1.2
  exact wm (Int.ofNat.inj (Ky.int.inj h1.1)) (jK (Ky.tup.inj h2.1))⟩
theorem jE:iJ aN Dj 2 (fun _=>True):=⟨fun a m _ hm=>by
  obtain ⟨m,rfl⟩:=Nat.exists_eq_add_of_le' hm
  show (eW (cT (m+1)) [.int a.p,.tup (a.g.map .bool)]).map PyData.tuple=_
  rw [eW,oY,eW,ja.tup.dat a.g (m+1) (fun _ _=>trivial) (Nat.le_add_left _ _)];rfl,
 fun a c=>by
  show (((a.p:Int)==(c.p:Int))&&(PyData.eqvAll (a.g.map .bool) (c.g.map .bool)&&true))=true↔_
  rw [Bool.and_true,Bool.and_eq_true,beq_iff_eq,ja.eqs]
  exact ⟨fun h=>wm (Int.ofNat.inj h.1) h.2,fun h=>by rw [h];exact ⟨rfl,rfl⟩⟩⟩
noncomputable def jB (l:List Kn):T:=.dct (l.map aN) (l.map fun _=>.bool true)
noncomputable def ew (b p m kn:T)(K:List Kn)(n:Nat)(th:Kn→List Kn):T:=.obj 10 [b,p,m,kn,.lst (K.map aN),.int n,.dct (K.map aN) (K.map fun k=>.lst ((th k).map aN))]
theorem AS (l:List Kn)(k:Kn):Ab (aN k) (jB l)=some (decide (k∈l)):=ci.has k
theorem gU (l:List Kn)(k:Kn):dW (aN k) (jB l)=some (!decide (k∈l)):=by show (Ab _ _).map _=_;rw [AS];rfl
theorem iX {l:List Kn}{k:Kn}(h:k∉l)(hl:l.length < lim):dP (jB l) (aN k) (.bool true)=some (jB (l++[k])):=by
 rw [jB,ci.put h hl,jB,List.map_append (f:=fun _=>T.bool true)];rfl
theorem eK (a c:Int):bI (.int a) (.int c)=some (decide (a=c)):=congrArg some (by show (a==c)=_;by_cases h:a=c<;>simp [h])
noncomputable def zQ (s:Kn×Nat):T:=.tup [aN s.1,.int s.2]
noncomputable def ER (s:Kn×Nat):PyData:=.tuple [Dj s.1,.int s.2]
theorem Bk:iJ zQ ER 3 (fun _=>True):=⟨fun a m _ hm=>by
  obtain ⟨m,rfl⟩:=Nat.exists_eq_add_of_le' hm
  show (eW (cT (m+2)) [aN a.1,.int a.2]).map PyData.tuple=_
  rw [eW,jE.dat a.1 (m+2) trivial (Nat.le_add_left _ _),eW,oY];rfl,
 fun a c=>by
  show (PyData.eqv (Dj a.1) (Dj c.1)&&(((a.2:Int)==(c.2:Int))&&true))=true↔_
  rw [Bool.and_true,Bool.and_eq_true,beq_iff_eq,jE.eq]
  exact ⟨fun h=>Prod.ext h.1 (Int.ofNat.inj h.2),fun h=>by rw [h];exact ⟨rfl,rfl⟩⟩⟩
theorem iJ.some {α:Type}{e:α→T}{d:α→PyData}{n:Nat}(E:iJ e d n (fun _=>True))(hn:n < cL)(l:List α):jW (.lst (l.map e)) (.lst [])=Option.some (!l.isEmpty):=by
 have h1:=E.lst.dat l cL (fun _ _=>trivial) hn
 show (bI _ _).map _=_
 rw [bI,h1]
 cases l with
 |nil=>rfl
 |cons a l=>rfl
theorem xw {l:List T}{v:T}(h:l.length < lim):dK (.lst l) v=some (.lst (l++[v])):=by
 show nV _ _=_
 rw [nV,show bU (l.length+1)=true from Nat.ble_eq_true_of_le h];rfl
theorem wN {l m:List T}(h:l.length+m.length≤lim):hE (.lst l) (.lst m)=some (.lst (l++m)):=by
 show nV _ _=_
 rw [nV,show bU (l.length+m.length)=true from Nat.ble_eq_true_of_le h];rfl
theorem aZ:lim=1000000:=rfl
theorem cD {α:Type}{e:α→T}{l:List α}(a:α)(h:l.length < lim):dK (.lst (l.map e)) (e a)=some (.lst ((l++[a]).map e)):=by
 rw [xw (by rw [List.length_map];exact h),List.map_append];rfl
theorem oT {α:Type}{e:α→T}{l m:List α}(h:l.length+m.length≤lim):hE (.lst (l.map e)) (.lst (m.map e))=some (.lst ((l++m).map e)):=by
 rw [wN (by rw [List.length_map,List.length_map];exact h),List.map_append]
theorem kY {i:Nat}(h:i≤lim):sm (i:Int)=true:=Nat.ble_eq_true_of_le (Nat.le_trans (m:=i) (Nat.le_of_eq (Int.natAbs_natCast i)) (Nat.le_trans h (by decide)))
theorem iR {i n:Nat}(h:i < n):seqIndex? (i:Int) n=some i:=by
 show (if (decide (0≤(if (i:Int) < 0 then (i:Int)+n else i))&&decide ((if (i:Int) < 0 then (i:Int)+n else i) < (n:Int)))=true then some (if (i:Int) < 0 then (i:Int)+n else i).toNat else none)=some i
 rw [if_neg (Int.not_lt.mpr (Int.natCast_nonneg i)),decide_eq_true (Int.natCast_nonneg i),decide_eq_true (Int.ofNat_lt.mpr h)];rfl
theorem sy {α:Type}{e:α→T}{l:List α}{i:Nat}{a:α}(h:l[i]?=some a)(hi:i≤lim):xP i (l.map e)=some (e a):=by
 rw [xP,kY hi,cond_true,iR (by rw [List.length_map];exact (List.getElem?_eq_some_iff.mp h).1)]
 show (l.map e)[i]?=_
 rw [List.getElem?_map,h];rfl
theorem zT {α β:Type}(a:α)(f:α→Option β):o1 (some a) f=f a:=rfl
theorem te (xs:List T)(i:Int):aj (.lst xs) (.int i)=xP i xs:=by
 rw [aj,show iH (.int i)=some i from rfl,zT,show fZ (.lst xs)=some xs from rfl]
theorem bR {α:Type}{e:α→T}{l:List α}{i:Nat}{a:α}(h:l[i]?=some a)(hi:i≤lim):aj (.lst (l.map e)) (.int i)=some (e a):=(te _ _).trans (sy h hi)
theorem sM {β:Type}{f:Kn→β}{o:Kn}{v:β}:∀{K:List Kn},K.Nodup→o∈K→(K.map f).set (K.idxOf o) v=K.map fun k=>if k=o then v else f k
 |k::K,hn,ho=>by
  have h1:=List.nodup_cons.mp hn
  rw [List.idxOf_cons]
  by_cases q:k=o
  ·subst q
   rw [beq_iff_eq.mpr rfl,cond_true,List.map_cons,List.set_cons_zero,List.map_cons,if_pos rfl]
   refine congrArg _ (List.map_congr_left fun x hx=>?_)
   exact (if_neg fun (e:x=k)=>h1.1 (e▸hx)).symm
  ·rw [beq_eq_false_iff_ne.mpr q,cond_false,List.map_cons,List.set_cons_succ,List.map_cons,if_neg q,sM h1.2 (by cases ho with
    |head=>exact absurd rfl q
    |tail _ h=>exact h)]
theorem ql {K:List Kn}{kn:Kn}(hK:K.Nodup):∀(os:List Kn) (h:Kn→List Kn),(∀o∈os,o∈K)→(∀k,(h k).length+os.length≤lim)→
  ∃h':Kn→List Kn,jC (K.map aN) (aN kn) (os.map aN) (K.map fun k=>(h k).map aN)=some (K.map fun k=>(h' k).map aN)∧(∀k x,x∈h' k↔x∈h k∨(x=kn∧k∈os))∧∀k,(h' k).length≤(h k).length+os.length
 | [],h,_,_=>⟨h,rfl,fun k x=>⟨.inl,fun q=>q.elim id fun q=>nomatch q.2⟩,fun k=>Nat.le_refl _⟩
 |o::os,h,hs,hl=>by
  have ho:=hs o (.head _)
  have l1:bU ((h o).length+1)=true:=Nat.ble_eq_true_of_le (by have:=hl o;rw [List.length_cons] at this;lia -abstractProof)
  obtain ⟨h',e1,e2,e3⟩:=ql (kn:=kn) hK os (fun k=>if k=o then h k++[kn] else h k) (fun x hx=>hs x (.tail _ hx)) fun k=>by
   have:=hl k
   rw [List.length_cons] at this
   by_cases q:k=o
   ·simp only [if_pos q,List.length_append,List.length_cons,List.length_nil];lia
   ·simp only [if_neg q];lia
  refine ⟨h',?_,fun k x=>?_,fun k=>?_⟩
  ·rw [List.map_cons,AZ,ci.fd,if_pos ho]
   show (o1 (K.map fun k=>(h k).map aN)[K.idxOf o]? _)=_
   rw [oR _ ho]
   show (bif bU (((h o).map aN).length+1) then jC _ _ _ ((K.map fun k=>(h k).map aN).set (K.idxOf o) ((h o).map aN++[aN kn])) else none)=_
   rw [List.length_map,l1,cond_true,sM hK ho,←e1]
   congr 1
   refine List.map_congr_left fun k hk=>?_
   by_cases q:k=o
   ·rw [if_pos q,if_pos q,q,List.map_append];rfl
   ·rw [if_neg q,if_neg q]
  ·refine (e2 k x).trans ?_
   by_cases q:k=o
   ·rw [if_pos q,List.mem_append,List.mem_singleton]
    constructor
    ·rintro ((h |h) |h)
     ·exact .inl h
     ·exact .inr ⟨h,q▸.head _⟩
     ·exact .inr ⟨h.1,.tail _ h.2⟩
    ·rintro (h |h)
     ·exact .inl (.inl h)
     ·exact .inl (.inr h.1)
   ·rw [if_neg q,List.mem_cons]
    exact ⟨fun h=>h.imp id fun h=>⟨h.1,.inr h.2⟩,fun h=>h.imp id fun h=>⟨h.1,h.2.resolve_left q⟩⟩
  ·have:=e3 k
   rw [List.length_cons]
   by_cases q:k=o
   ·simp only [if_pos q,List.length_append,List.length_cons,List.length_nil] at this;lia
   ·simp only [if_neg q] at this;lia
theorem qj {K:List Kn}{th:Kn→List Kn}(hK:K.Nodup)(hc:∀k∈K,∀y∈th k,y∈K)(hw:∀k∈K,(th k).length≤1000):∀(ns:List Kn) (h:Kn→List Kn),(∀n∈ns,n∈K)→(∀k,(h k).length+ns.length * 1000≤lim)→
  ∃h':Kn→List Kn,qk (K.map aN) (.dct (K.map aN) (K.map fun k=>.lst ((th k).map aN))) (ns.map aN) (K.map fun k=>(h k).map aN)=some (K.map fun k=>(h' k).map aN)∧∀k x,x∈h' k↔x∈h k∨(x∈ns∧k∈th x)
 | [],h,_,_=>⟨h,rfl,fun k x=>⟨.inl,fun q=>q.elim id fun q=>nomatch q.1⟩⟩
 |n::ns,h,hs,hl=>by
  have hn:=hs n (.head _)
  have lw:=hw n hn
  obtain ⟨h₁,e1,e2,e3⟩:=ql (kn:=n) hK (th n) h (fun o ho=>hc n hn o ho) fun k=>by have:=hl k;rw [List.length_cons] at this;lia
  obtain ⟨h₂,e4,e5⟩:=qj hK hc hw ns h₁ (fun x hx=>hs x (.tail _ hx)) fun k=>by have:=hl k;have:=e3 k;rw [List.length_cons] at *;lia
  refine ⟨h₂,?_,fun k x=>?_⟩
  ·rw [List.map_cons,AY,ci.get hn]
   show (o1 (jC (K.map aN) (aN n) ((th n).map aN) _) _)=_
   rw [e1];exact e4
  ·rw [e5,e2]
   constructor
   ·rintro ((h | ⟨rfl,h⟩) | ⟨h,h'⟩)
    ·exact .inl h
    ·exact .inr ⟨.head _,h⟩
    ·exact .inr ⟨.tail _ h,h'⟩
   ·rintro (h | ⟨h,h'⟩)
    ·exact .inl (.inl h)
    ·rcases List.mem_cons.mp h with rfl |h
     ·exact .inl (.inr ⟨rfl,h'⟩)
     ·exact .inr ⟨h,h'⟩
theorem yQ {b p m kn:T}{K:List Kn}{bg:Nat}{th:Kn→List Kn}(hK:K.Nodup)(hl:K.length≤1000)(hc:∀k∈K,∀y∈th k,y∈K)(hw:∀k∈K,(th k).length≤1000):
  ∃bk:Kn→List Kn,wb (ew b p m kn K bg th)=some (.dct (K.map aN) (K.map fun k=>.lst ((bk k).map aN)))∧∀k x,x∈bk k↔x∈K∧k∈th x:=by
 obtain ⟨bk,e1,e2⟩:=qj hK hc hw K (fun _=>[]) (fun _ h=>h) fun k=>by rw [aZ,List.length_nil];lia -abstractProof
 refine ⟨bk,?_,fun k x=>⟨fun h=>((e2 k x).mp h).elim (fun h=>nomatch h) id,fun h=>(e2 k x).mpr (.inr h)⟩⟩
 show (bif bU (K.map aN).length&&dY (K.map aN) [] then o1 (qk (K.map aN) _ (K.map aN) ((K.map aN).map fun _=>[])) fun ds=>some (T.dct (K.map aN) (ds.map .lst)) else none)=_
 have f1:bU (K.map aN).length=true:=by rw [List.length_map];exact Nat.ble_eq_true_of_le (by rw [aZ];lia -abstractProof)
 have f2:dY (K.map aN) []=true:=ci.fresh K [] hK
 rw [f1,f2,List.map_map]
 show o1 (qk _ _ _ (K.map fun k=>((fun _=>[]) k:List Kn).map aN)) _=_
 rw [e1]
 show some (T.dct (K.map aN) ((K.map fun k=>(bk k).map aN).map .lst))=_
 rw [List.map_map];rfl
theorem vb (n:Nat):Builtin.Range.rangeSize 0 n 1=n:=by
 unfold Builtin.Range.rangeSize
 simp only [show (1:Int) > 0 by decide,if_true,Int.ediv_one]
 split<;>lia -abstractProof
theorem f7 {n:Nat}(h:n≤100000):tT [.int n]=some ((List.range n).map fun j:Nat=>T.int j):=by
 have e:cf 0 n 1=(List.range n).map fun j:Nat=>T.int j:=by
  rw [cf,vb]
  exact List.map_congr_left fun k _=>by rw [Int.zero_add,Int.mul_one]
 unfold tT
 show rg 0 n=_
 rw [rg,e,show sm 0=true from rfl,kY (by rw [aZ];lia),List.length_map,List.length_range,show bU n=true from Nat.ble_eq_true_of_le (by rw [aZ];lia)];rfl
theorem ic {α:Type}(q:α→Bool):∀C:List α,er (C.map fun k=>.bool (q k))=some (C.map q)
 | []=>rfl
 |a::C=>by rw [List.map_cons,er,ic q C];rfl
theorem any_map {α:Type}(C:List α)(q:α→Bool):sB (.lst (C.map fun k=>.bool (q k)))=some (.bool (C.any q)):=by
 show o1 (er _) _=_
 rw [ic]
 exact congrArg (fun b=>some (T.bool b)) (List.any_map.trans rfl)
theorem all_map {α:Type}(C:List α)(q:α→Bool):jl (.lst (C.map fun k=>.bool (q k)))=some (.bool (C.all q)):=by
 show o1 (er _) _=_
 rw [ic]
 exact congrArg (fun b=>some (T.bool b)) (List.all_map.trans rfl)
theorem l9 {α:Type}(l:List α):cut (some 1) none l=l.drop 1:=by
 cases l with
 |nil=>rfl
 |cons a l=>
  have e:clipAt (a::l).length 1=1:=(mf _ 1).trans (Nat.min_eq_left (Nat.succ_le_succ (Nat.zero_le _)))
  simp only [cut,Option.elim,e]
  rw [List.drop_one,List.tail_cons,List.length_cons,Nat.add_sub_cancel,List.take_length]
theorem jG {α:Type}(n:Nat)(l:List α):cut none (some (n:Int)) l=l.take n:=by
 have e:clipAt l.length n=min n l.length:=mf _ _
 simp only [cut,Option.elim,e,List.drop_zero,Nat.sub_zero]
 rw [←List.take_take,List.take_length]
theorem qC {α:Type}(l:List α):cut none (some (-1)) l=l.dropLast:=by
 have e:clipAt l.length (-1)=l.length - 1:=tx _
 simp only [cut,Option.elim,e,List.drop_zero,Nat.sub_zero,List.dropLast_eq_take]
theorem wX {α:Type}(l:List α)(a:α):cut (some (-1)) none (l++[a])=[a]:=by
 have e:clipAt (l++[a]).length (-1)=l.length:=by rw [tx,List.length_append];rfl
 simp only [cut,Option.elim,e]
 rw [List.drop_left,List.length_append,List.length_cons,List.length_nil,Nat.add_sub_cancel_left];rfl
theorem oZ {α β:Type}(f:α→β)(lo hi:Option Int)(l:List α):cut lo hi (l.map f)=(cut lo hi l).map f:=by
 unfold cut;rw [List.length_map,List.map_take,List.map_drop]
end
end Mine
namespace Mine.L09
noncomputable section
open PySem
noncomputable abbrev kE (f:Nat):PK aH:=fun _ σ=>bif kh f then .bad else .ret .none σ
theorem aE {n f:Nat}{args:List T}{σ:Sg}{F:fN}{o:cz}(h:Ψ f=some F)(hl:Nat.beq args.length F.np=true)(hb:F.body ⟨ai Ψ n⟩ (frame args F.ns) σ (kE f)=o)(ho:(match o with |.ret _ _=>true |.exc _ _=>true |_=>false)=true):ai Ψ (n+1) f args σ=o:=by
 rw [tA,h]
 show (bif Nat.beq args.length F.np then (match F.body ⟨ai Ψ n⟩ (frame args F.ns) σ (kE f) with
  |.ret t σ=>cz.ret t σ
  |.exc c σ=>.exc c σ
  |_=>.bad) else .bad)=o
 rw [hl,hb]
 cases o<;>first |rfl |cases ho
theorem cV {n f:Nat}{args:List T}{σ:Sg}{F:fN}{Q:T→Sg→Prop}(h:Ψ f=some F)(hl:Nat.beq args.length F.np=true)(hb:aT Q (F.body ⟨ai Ψ n⟩ (frame args F.ns) σ (kE f))):aT Q (ai Ψ (n+1) f args σ):=by
 obtain ⟨t,σ',h1,h2⟩:=hb
 exact ⟨t,σ',aE h hl h1 rfl,h2⟩
theorem uF {n:Nat}{a0:T}{σ σ':Sg}{t:T}(h:jw ⟨ai Ψ n⟩ [some a0,none] σ (kE 1)=.ret t σ'):ai Ψ (n+1) 1 [a0] σ=.ret t σ':=aE (F:=⟨1,1,jw⟩) rfl rfl h rfl
theorem sg {n:Nat}{a0:T}{σ σ':Sg}{t:T}(h:il ⟨ai Ψ n⟩ [some a0] σ (kE 2)=.ret t σ'):ai Ψ (n+1) 2 [a0] σ=.ret t σ':=aE (F:=⟨1,0,il⟩) rfl rfl h rfl
theorem mr {n:Nat}{a0:T}{σ σ':Sg}{t:T}(h:io ⟨ai Ψ n⟩ [some a0] σ (kE 3)=.ret t σ'):ai Ψ (n+1) 3 [a0] σ=.ret t σ':=aE (F:=⟨1,0,io⟩) rfl rfl h rfl
theorem qK {n:Nat}{a0 a1:T}{σ σ':Sg}{t:T}(h:gj ⟨ai Ψ n⟩ [some a0,some a1,none] σ (kE 4)=.ret t σ'):ai Ψ (n+1) 4 [a0,a1] σ=.ret t σ':=aE (F:=⟨2,1,gj⟩) rfl rfl h rfl
theorem qL {n:Nat}{a0:T}{σ σ':Sg}{t:T}(h:gk ⟨ai Ψ n⟩ [some a0] σ (kE 5)=.ret t σ'):ai Ψ (n+1) 5 [a0] σ=.ret t σ':=aE (F:=⟨1,0,gk⟩) rfl rfl h rfl
theorem qJ {n:Nat}{a0:T}{σ σ':Sg}{t:T}(h:gh ⟨ai Ψ n⟩ [some a0,none] σ (kE 6)=.ret t σ'):ai Ψ (n+1) 6 [a0] σ=.ret t σ':=aE (F:=⟨1,1,gh⟩) rfl rfl h rfl
theorem sk {n:Nat}{a0:T}{σ σ':Sg}{t:T}(h:ip ⟨ai Ψ n⟩ [some a0,none,none,none,none] σ (kE 500)=.ret t σ'):ai Ψ (n+1) 500 [a0] σ=.ret t σ':=aE (F:=⟨1,4,ip⟩) rfl rfl h rfl
theorem m8 {n:Nat}{a0:T}{σ σ':Sg}{t:T}(h:eE ⟨ai Ψ n⟩ [some a0] σ (kE 7)=.ret t σ'):ai Ψ (n+1) 7 [a0] σ=.ret t σ':=aE (F:=⟨1,0,eE⟩) rfl rfl h rfl
theorem cA {n:Nat}{a0:T}{σ σ':Sg}{t:T}(h:eG ⟨ai Ψ n⟩ [some a0,none,none,none,none] σ (kE 8)=.ret t σ'):ai Ψ (n+1) 8 [a0] σ=.ret t σ':=aE (F:=⟨1,4,eG⟩) rfl rfl h rfl
theorem uG {n:Nat}{a0 a1 a2:T}{σ σ':Sg}{t:T}(h:jx ⟨ai Ψ n⟩ [some a0,some a1,some a2] σ (kE 9)=.ret t σ'):ai Ψ (n+1) 9 [a0,a1,a2] σ=.ret t σ':=aE (F:=⟨3,0,jx⟩) rfl rfl h rfl
theorem dI {n:Nat}{a0 a1 a2 a3:T}{σ σ':Sg}{t:T}(h:oy ⟨ai Ψ n⟩ [some a0,some a1,some a2,some a3,none] σ (kE 10)=.ret t σ'):ai Ψ (n+1) 10 [a0,a1,a2,a3] σ=.ret t σ':=aE (F:=⟨4,1,oy⟩) rfl rfl h rfl
theorem mn {n:Nat}{a0 a1 a2 a3:T}{σ σ':Sg}{t:T}(h:lA ⟨ai Ψ n⟩ [some a0,some a1,some a2,some a3] σ (kE 11)=.ret t σ'):ai Ψ (n+1) 11 [a0,a1,a2,a3] σ=.ret t σ':=aE (F:=⟨4,0,lA⟩) rfl rfl h rfl
theorem uH {n:Nat}{a0 a1 a2:T}{σ σ':Sg}{t:T}(h:jy ⟨ai Ψ n⟩ [some a0,some a1,some a2,none] σ (kE 12)=.ret t σ'):ai Ψ (n+1) 12 [a0,a1,a2] σ=.ret t σ':=aE (F:=⟨3,1,jy⟩) rfl rfl h rfl
theorem m7 {n:Nat}{a0:T}{σ σ':Sg}{t:T}(h:eB ⟨ai Ψ n⟩ [some a0,none] σ (kE 13)=.ret t σ'):ai Ψ (n+1) 13 [a0] σ=.ret t σ':=aE (F:=⟨1,1,eB⟩) rfl rfl h rfl
theorem mq {n:Nat}{a0 a1 a2 a3:T}{σ σ':Sg}{t:T}(h:lE ⟨ai Ψ n⟩ [some a0,some a1,some a2,some a3] σ (kE 14)=.ret t σ'):ai Ψ (n+1) 14 [a0,a1,a2,a3] σ=.ret t σ':=aE (F:=⟨4,0,lE⟩) rfl rfl h rfl
theorem si {n:Nat}{a0:T}{σ σ':Sg}{t:T}(h:tL ⟨ai Ψ n⟩ [some a0,none,none,none,none] σ (kE 35)=.ret t σ'):ai Ψ (n+1) 35 [a0] σ=.ret t σ':=aE (F:=⟨1,4,tL⟩) rfl rfl h rfl
theorem o5 {n:Nat}{a0 a1:T}{σ σ':Sg}{t:T}(h:fk ⟨ai Ψ n⟩ [some a0,some a1] σ (kE 37)=.ret t σ'):ai Ψ (n+1) 37 [a0,a1] σ=.ret t σ':=aE (F:=⟨2,0,fk⟩) rfl rfl h rfl
theorem sj {n:Nat}{a0 a1:T}{σ σ':Sg}{t:T}(h:im ⟨ai Ψ n⟩ [some a0,some a1] σ (kE 15)=.ret t σ'):ai Ψ (n+1) 15 [a0,a1] σ=.ret t σ':=aE (F:=⟨2,0,im⟩) rfl rfl h rfl
theorem m9 {n:Nat}{a0 a1:T}{σ σ':Sg}{t:T}(h:eF ⟨ai Ψ n⟩ [some a0,some a1,none,none] σ (kE 16)=.ret t σ'):ai Ψ (n+1) 16 [a0,a1] σ=.ret t σ':=aE (F:=⟨2,2,eF⟩) rfl rfl h rfl
theorem qI {n:Nat}{a0 a1 a2:T}{σ σ':Sg}{t:T}(h:gf ⟨ai Ψ n⟩ [some a0,some a1,some a2,none,none,none,none] σ (kE 53)=.ret t σ'):ai Ψ (n+1) 53 [a0,a1,a2] σ=.ret t σ':=aE (F:=⟨3,4,gf⟩) rfl rfl h rfl
theorem fH {n:Nat}{a0 a1 a2:T}{σ σ':Sg}{t:T}(h:eC ⟨ai Ψ n⟩ [some a0,some a1,some a2,none,none,none,none,none,none,none,none,none] σ (kE 54)=.ret t σ'):ai Ψ (n+1) 54 [a0,a1,a2] σ=.ret t σ':=aE (F:=⟨3,9,eC⟩) rfl rfl h rfl
theorem xg {n:Nat}{a0 a1 a2:T}{σ σ':Sg}{t:T}(h:lB ⟨ai Ψ n⟩ [some a0,some a1,some a2] σ (kE 55)=.ret t σ'):ai Ψ (n+1) 55 [a0,a1,a2] σ=.ret t σ':=aE (F:=⟨3,0,lB⟩) rfl rfl h rfl
theorem zr {n:Nat}{a0 a1 a2:T}{σ σ':Sg}{t:T}(h:oz ⟨ai Ψ n⟩ [some a0,some a1,some a2] σ (kE 56)=.ret t σ'):ai Ψ (n+1) 56 [a0,a1,a2] σ=.ret t σ':=aE (F:=⟨3,0,oz⟩) rfl rfl h rfl
theorem mw {n:Nat}{a0:T}{σ σ':Sg}{t:T}(h:ir ⟨ai Ψ n⟩ [some a0,none,none] σ (kE 21)=.ret t σ'):ai Ψ (n+1) 21 [a0] σ=.ret t σ':=aE (F:=⟨1,2,ir⟩) rfl rfl h rfl
theorem o6 {n:Nat}{a0:T}{σ σ':Sg}{t:T}(h:fq ⟨ai Ψ n⟩ [some a0,none,none,none,none] σ (kE 22)=.ret t σ'):ai Ψ (n+1) 22 [a0] σ=.ret t σ':=aE (F:=⟨1,4,fq⟩) rfl rfl h rfl
theorem o7 {n:Nat}{a0 a1 a2:T}{σ σ':Sg}{t:T}(h:ft ⟨ai Ψ n⟩ [some a0,some a1,some a2,none,none,none] σ (kE 44)=.ret t σ'):ai Ψ (n+1) 44 [a0,a1,a2] σ=.ret t σ':=aE (F:=⟨3,3,ft⟩) rfl rfl h rfl
theorem qM {n:Nat}{a0 a1 a2:T}{σ σ':Sg}{t:T}(h:gr ⟨ai Ψ n⟩ [some a0,some a1,some a2,none] σ (kE 45)=.ret t σ'):ai Ψ (n+1) 45 [a0,a1,a2] σ=.ret t σ':=aE (F:=⟨3,1,gr⟩) rfl rfl h rfl
theorem bw {n:Nat}{a0 a1 a2:T}{σ σ':Sg}{t:T}(h:aU ⟨ai Ψ n⟩ [some a0,some a1,some a2,none,none,none,none,none,none,none,none,none,none,none,none] σ (kE 46)=.ret t σ'):ai Ψ (n+1) 46 [a0,a1,a2] σ=.ret t σ':=aE (F:=⟨3,12,aU⟩) rfl rfl h rfl
theorem fQ {n:Nat}{a0:T}{σ σ':Sg}{t:T}(h:bZ ⟨ai Ψ n⟩ [some a0,none] σ (kE 61)=.ret t σ'):ai Ψ (n+1) 61 [a0] σ=.ret t σ':=aE (F:=⟨1,1,bZ⟩) rfl rfl h rfl
theorem cu {n:Nat}{a0 a1:T}{σ σ':Sg}{t:T}(h:cY ⟨ai Ψ n⟩ [some a0,some a1,none] σ (kE 62)=.ret t σ'):ai Ψ (n+1) 62 [a0,a1] σ=.ret t σ':=aE (F:=⟨2,1,cY⟩) rfl rfl h rfl
theorem mu {n:Nat}{a0:T}{σ σ':Sg}{t:T}(h:dQ ⟨ai Ψ n⟩ [some a0,none] σ (kE 63)=.ret t σ'):ai Ψ (n+1) 63 [a0] σ=.ret t σ':=aE (F:=⟨1,1,dQ⟩) rfl rfl h rfl
theorem j3 {n:Nat}{a0 a1 a2:T}{σ σ':Sg}{t:T}(h:gw ⟨ai Ψ n⟩ [some a0,some a1,some a2] σ (kE 1005)=.ret t σ'):ai Ψ (n+1) 1005 [a0,a1,a2] σ=.ret t σ':=aE (F:=⟨3,0,gw⟩) rfl rfl h rfl
theorem iA {n:Nat}{a0 a1 a2 a3:T}{σ σ':Sg}{t:T}(h:cE ⟨ai Ψ n⟩ [some a0,some a1,some a2,some a3,none,none,none] σ (kE 1006)=.ret t σ'):ai Ψ (n+1) 1006 [a0,a1,a2,a3] σ=.ret t σ':=aE (F:=⟨4,3,cE⟩) rfl rfl h rfl
theorem my {n:Nat}{a0 a1:T}{σ σ':Sg}{t:T}(h:dU ⟨ai Ψ n⟩ [some a0,some a1] σ (kE 1007)=.ret t σ'):ai Ψ (n+1) 1007 [a0,a1] σ=.ret t σ':=aE (F:=⟨2,0,dU⟩) rfl rfl h rfl
theorem kq {n:Nat}{a0 a1:T}{σ σ':Sg}{t:T}(h:dt ⟨ai Ψ n⟩ [some a0,some a1] σ (kE 1008)=.ret t σ'):ai Ψ (n+1) 1008 [a0,a1] σ=.ret t σ':=aE (F:=⟨2,0,dt⟩) rfl rfl h rfl
theorem jJ {n:Nat}{a0:T}{σ σ':Sg}{t:T}(h:cZ ⟨ai Ψ n⟩ [some a0] σ (kE 1009)=.ret t σ'):ai Ψ (n+1) 1009 [a0] σ=.ret t σ':=aE (F:=⟨1,0,cZ⟩) rfl rfl h rfl
theorem oh {n:Nat}{a0:T}{σ:Sg}{Q:T→Sg→Prop}(h:aT Q (fj ⟨ai Ψ n⟩ [some a0,none,none,none,none,none,none,none] σ (kE 34))):aT Q (ai Ψ (n+1) 34 [a0] σ):=cV (F:=⟨1,7,fj⟩) rfl rfl h
theorem pX {n:Nat}{a0:T}{σ:Sg}{Q:T→Sg→Prop}(h:aT Q (gp ⟨ai Ψ n⟩ [some a0,none,none,none,none,none,none,none] σ (kE 36))):aT Q (ai Ψ (n+1) 36 [a0] σ):=cV (F:=⟨1,7,gp⟩) rfl rfl h
theorem yi {n:Nat}{a0 a1:T}{σ:Sg}{Q:T→Sg→Prop}(h:aT Q (ox ⟨ai Ψ n⟩ [some a0,some a1,none,none] σ (kE 38))):aT Q (ai Ψ (n+1) 38 [a0,a1] σ):=cV (F:=⟨2,2,ox⟩) rfl rfl h
theorem tX {n:Nat}{a0 a1 a2:T}{σ:Sg}{Q:T→Sg→Prop}(h:aT Q (jv ⟨ai Ψ n⟩ [some a0,some a1,some a2,none,none,none,none,none] σ (kE 39))):aT Q (ai Ψ (n+1) 39 [a0,a1,a2] σ):=cV (F:=⟨3,5,jv⟩) rfl rfl h
theorem pW {n:Nat}{a0 a1:T}{σ:Sg}{Q:T→Sg→Prop}(h:aT Q (gg ⟨ai Ψ n⟩ [some a0,some a1,none] σ (kE 40))):aT Q (ai Ψ (n+1) 40 [a0,a1] σ):=cV (F:=⟨2,1,gg⟩) rfl rfl h
theorem tW {n:Nat}{a0 a1:T}{σ:Sg}{Q:T→Sg→Prop}(h:aT Q (ju ⟨ai Ψ n⟩ [some a0,some a1,none,none,none,none,none,none] σ (kE 41))):aT Q (ai Ψ (n+1) 41 [a0,a1] σ):=cV (F:=⟨2,6,ju⟩) rfl rfl h
theorem pY {n:Nat}{a0 a1:T}{σ:Sg}{Q:T→Sg→Prop}(h:aT Q (gq ⟨ai Ψ n⟩ [some a0,some a1,none,none,none] σ (kE 42))):aT Q (ai Ψ (n+1) 42 [a0,a1] σ):=cV (F:=⟨2,3,gq⟩) rfl rfl h
theorem vm {n:Nat}{a0 a1:T}{σ:Sg}{Q:T→Sg→Prop}(h:aT Q (lC ⟨ai Ψ n⟩ [some a0,some a1,none,none,none,none,none,none,none] σ (kE 43))):aT Q (ai Ψ (n+1) 43 [a0,a1] σ):=cV (F:=⟨2,7,lC⟩) rfl rfl h
theorem lk {n:Nat}{a0 a1:T}{σ:Sg}{Q:T→Sg→Prop}(h:aT Q (dS ⟨ai Ψ n⟩ [some a0,some a1] σ (kE 17))):aT Q (ai Ψ (n+1) 17 [a0,a1] σ):=cV (F:=⟨2,0,dS⟩) rfl rfl h
theorem p9 {n:Nat}{a0 a1:T}{σ:Sg}{Q:T→Sg→Prop}(h:aT Q (gv ⟨ai Ψ n⟩ [some a0,some a1,none] σ (kE 18))):aT Q (ai Ψ (n+1) 18 [a0,a1] σ):=cV (F:=⟨2,1,gv⟩) rfl rfl h
theorem oj {n:Nat}{a0:T}{σ:Sg}{Q:T→Sg→Prop}(h:aT Q (fm ⟨ai Ψ n⟩ [some a0,none,none,none,none,none,none,none,none,none] σ (kE 19))):aT Q (ai Ψ (n+1) 19 [a0] σ):=cV (F:=⟨1,9,fm⟩) rfl rfl h
theorem p8 {n:Nat}{a0 a1 a2 a3:T}{σ:Sg}{Q:T→Sg→Prop}(h:aT Q (gu ⟨ai Ψ n⟩ [some a0,some a1,some a2,some a3,none,none,none,none,none] σ (kE 20))):aT Q (ai Ψ (n+1) 20 [a0,a1,a2,a3] σ):=cV (F:=⟨4,5,gu⟩) rfl rfl h
theorem rI {n:Nat}{a0 a1:T}{σ:Sg}{Q:T→Sg→Prop}(h:aT Q (iq ⟨ai Ψ n⟩ [some a0,some a1] σ (kE 23))):aT Q (ai Ψ (n+1) 23 [a0,a1] σ):=cV (F:=⟨2,0,iq⟩) rfl rfl h
theorem pZ {n:Nat}{a0 a1 a2:T}{σ:Sg}{Q:T→Sg→Prop}(h:aT Q (gt ⟨ai Ψ n⟩ [some a0,some a1,some a2,none,none,none] σ (kE 24))):aT Q (ai Ψ (n+1) 24 [a0,a1,a2] σ):=cV (F:=⟨3,3,gt⟩) rfl rfl h
theorem lj {n:Nat}{a0 a1 a2 a3:T}{σ:Sg}{Q:T→Sg→Prop}(h:aT Q (dR ⟨ai Ψ n⟩ [some a0,some a1,some a2,some a3,none,none,none,none,none,none] σ (kE 25))):aT Q (ai Ψ (n+1) 25 [a0,a1,a2,a3] σ):=cV (F:=⟨4,6,dR⟩) rfl rfl h
theorem lq {n:Nat}{a0 a1 a2:T}{σ:Sg}{Q:T→Sg→Prop}(h:aT Q (dT ⟨ai Ψ n⟩ [some a0,some a1,some a2,none,none] σ (kE 1001))):aT Q (ai Ψ (n+1) 1001 [a0,a1,a2] σ):=cV (F:=⟨3,2,dT⟩) rfl rfl h
theorem rJ {n:Nat}{a0:T}{σ:Sg}{Q:T→Sg→Prop}(h:aT Q (iu ⟨ai Ψ n⟩ [some a0,none,none,none,none,none] σ (kE 1002))):aT Q (ai Ψ (n+1) 1002 [a0] σ):=cV (F:=⟨1,5,iu⟩) rfl rfl h
theorem om {n:Nat}{a0 a1:T}{σ:Sg}{Q:T→Sg→Prop}(h:aT Q (fu ⟨ai Ψ n⟩ [some a0,some a1,none,none,none,none] σ (kE 1003))):aT Q (ai Ψ (n+1) 1003 [a0,a1] σ):=cV (F:=⟨2,4,fu⟩) rfl rfl h
theorem f9 {n:Nat}{a0 a1 a2:T}{σ:Sg}{Q:T→Sg→Prop}(h:aT Q (ch ⟨ai Ψ n⟩ [some a0,some a1,some a2,none,none] σ (kE 1004))):aT Q (ai Ψ (n+1) 1004 [a0,a1,a2] σ):=cV (F:=⟨3,2,ch⟩) rfl rfl h
section
variable {b p m kn:T} {K:List Kn} {bg:Nat} {th:Kn→List Kn} {σ:Sg}
noncomputable def BH (w:T)(found met:List Kn)(r:List (Option T)):aH:=some w::some (.lst (found.map aN))::some (jB met)::r
theorem qz {p:Prop} [Decidable p] (h:(!decide p)=true):¬p:=fun q=>by rw [decide_eq_true q] at h;cases h
theorem qA {p:Prop} [Decidable p] (h:(!decide p)=false):p:=by
 cases q:decide p with
 |true=>exact of_decide_eq_true q
 |false=>rw [q] at h;cases h
theorem v8 {found met:List Kn}{st:List (Kn×Nat)}(hl:K.length≤1000)(D:pG th K found st met):met.length < lim:=by
 have:=aQ D.ndm D.sub
 rw [aZ];lia -abstractProof
theorem AF {w:T}{f m:List Kn}{x3 x5 x6 x7:Option T}(S:List (Kn×Nat))(k:Kn)(n:Nat):(o1 (bz (BH w f m [x3,some (.lst ((S++[(k,n)]).map zQ)),x5,x6,x7]) 4) fun x=>o1 (fR x) fun xs=>o1 xs.getLast? fun t=>o1 (pf t) fun ts=>dD [5,6] ts (List.set (BH w f m [x3,some (.lst ((S++[(k,n)]).map zQ)),x5,x6,x7]) 4 (some (.lst xs.dropLast))))=some (BH w f m [x3,some (.lst (S.map zQ)),some (aN k),some (.int n),x7]):=by
 show (o1 ((S++[(k,n)]).map zQ).getLast? fun t=>o1 (pf t) fun ts=>dD [5,6] ts (List.set (BH w f m [x3,some (.lst ((S++[(k,n)]).map zQ)),x5,x6,x7]) 4 (some (.lst ((S++[(k,n)]).map zQ).dropLast))))=_
 rw [List.map_append,List.map_cons,List.map_nil,List.getLast?_concat,List.dropLast_concat];rfl
theorem pH (met:List Kn):∀K:List Kn,eh th met K≤eh th [] K
 | []=>Nat.le_refl _
 |x::r=>by
  rw [jp,jp,if_neg (show x∉[] from fun h=>nomatch h)]
  refine Nat.add_le_add ?_ (pH met r)
  by_cases h:x∈met
  ·rw [if_pos h];exact Nat.zero_le _
  ·rw [if_neg h];exact Nat.le_refl _
inductive LI (W:T) (th:Kn→List Kn) (K:List Kn) (σ:Sg):List Kn→aH→Sg→Prop
 |mk {pre found met:List Kn} {x3 x4 x5 x6 x7:Option T} (D:pG th K found [] met) (hm:∀x∈pre,x∈met):LI W th K σ pre (BH W found met [x3,x4,x5,x6,x7]) σ
inductive LW (W:T) (th:Kn→List Kn) (K:List Kn) (σ:Sg) (a:Kn) (pre:List Kn):List Kn×List (Kn×Nat)×List Kn→aH→Sg→Prop
 |mk {found:List Kn} {st:List (Kn×Nat)} {met:List Kn} {x5 x6 x7:Option T} (D:pG th K found st met) (hm:∀x∈pre,x∈met) (ha:a∈met):LW W th K σ a pre (found,st,met) (BH W found met [some (aN a),some (.lst (st.map zQ)),x5,x6,x7]) σ
theorem yN (hK:K.Nodup)(hK1:K.length≤1000)(hc:∀k∈K,∀y∈th k,y∈K)(hs:eh th [] K < 20000)(hw:∀k∈K,(th k).length≤1000)(n:Nat):aT (fun t σ'=>σ'=σ∧∃L:List Kn,t=.lst (L.map aN)∧L.Nodup∧(∀x,x∈L↔x∈K)∧Dr th L) (ai Ψ (n+1) 34 [ew b p m kn K bg th] σ):=by
 refine oh ?_
 repeat (refine aw rfl ?_)
 refine qs (e:=aN) (l:=K) (LI (ew b p m kn K bg th) th K σ) ?_ ?_ (pre:=[]) rfl (.mk .nil fun _ h=>nomatch h)
 ·rintro pre a suf _ _ hl @⟨found,met,x3,x4,x5,x6,x7,D,hm⟩ k hk
  refine dA (gU met a) ?_
  refine d7 (fun h=>?_) fun h=>?_
  ·have ha:=qz h
   have hk1:a∈K:=by rw [hl];exact List.mem_append_right _ (.head _)
   refine dA (iX ha (v8 hK1 D)) ?_
   repeat (refine m5 rfl ?_)
   refine jq (S:=List Kn×List (Kn×Nat)×List Kn) (LW (ew b p m kn K bg th) th K σ a pre) (fun s=>!s.2.1.isEmpty) (fun s=>eh th s.2.2 K+fh th s.2.1) ?_ ?_ ?_ (s:=(found,[(a,0)],met++[a])) ?_ ?_
   ·rintro _ _ _ @⟨found,st,met,x5,x6,x7,D,hm,ha⟩ k hk
    exact dA (Bk.some (by decide) st) hk
   ·rintro _ _ _ @⟨found,st,met,x5,x6,x7,D,hm,ha⟩ hg k hk
    rcases List.eq_nil_or_concat st with rfl | ⟨S,⟨kn,at_⟩,rfl⟩
    ·cases hg
    rw [List.concat_eq_append] at D hk ⊢
    have D:pG th K found (S++[(kn,at_)]) met:=D
    have kK:kn∈K:=D.sub kn ((D.same kn).mpr (.inr (by rw [List.map_append];exact List.mem_append_right _ (.head _))))
    refine aw (AF S kn at_) ?_
    have S1:fh th (S++[(kn,at_)])=fh th S+((th kn).length - at_+1):=iP _ _
    have tk1:at_≤(th kn).length:=(D.take (kn,at_) (List.mem_append_right _ (.head _))).1
    have fl:found.length < lim:=by
     have:=aQ (List.nodup_append.mp D.nd).1 fun x hx=>D.sub x ((D.same x).mpr (.inl hx))
     rw [aZ];lia -abstractProof
    have sl:S.length+2 < lim:=by
     have:=aQ (List.nodup_append.mp D.nd).2.1 fun x hx=>D.sub x ((D.same x).mpr (.inr hx))
     rw [List.length_map,List.length_append] at this
     rw [aZ];simp only [List.length_cons,List.length_nil] at this;lia -abstractProof
    refine dA (ci.get kK) ?_
    refine aw rfl ?_
    refine aw (eK _ _) ?_
    refine d7 (fun h=>?_) fun h=>?_
    ·have e:at_=(th kn).length:=by
      have:=of_decide_eq_true h
      rw [List.length_map] at this;lia -abstractProof
     refine dA (cD kn fl) ?_
     refine hk (found++[kn],S,met) _ _ ?_ ⟨D.leave e,hm,ha⟩
     show eh th met K+fh th S < eh th met K+fh th (S++[(kn,at_)])
     rw [S1];exact Nat.add_lt_add_left (Nat.lt_add_of_pos_right (Nat.succ_pos _)) _
    ·have e:at_ < (th kn).length:=by
      have:=of_decide_eq_false h
      rw [List.length_map] at this;lia -abstractProof
     have ty:(th kn)[at_]?=some (th kn)[at_]:=List.getElem?_eq_getElem e
     have yK:=hc kn kK _ (List.getElem_mem e)
     have tl:at_≤lim:=by rw [aZ];have:=hw kn kK;lia
     generalize (th kn)[at_]=y at ty yK
     have S2:fh th (S++[(kn,at_+1)])=fh th S+((th kn).length - (at_+1)+1):=iP _ _
     refine dA (cD (kn,at_+1) (by lia -abstractProof)) ?_
     refine dA (ci.get kK) ?_
     refine dA (bR ty tl) ?_
     refine dA (gU met y) ?_
     refine d7 (fun h=>?_) fun h=>?_
     ·have hy:=qz h
      refine dA (iX hy (v8 hK1 D)) ?_
      refine dA (cD (y,0) (by rw [List.length_append];exact Nat.lt_of_succ_lt sl)) ?_
      refine hk (found,S++[(kn,at_+1)]++[(y,0)],met++[y]) _ _ ?_ ⟨D.push ty yK hy,fun x hx=>List.mem_append_left _ (hm x hx),List.mem_append_left _ ha⟩
      show eh th (met++[y]) K+fh th (S++[(kn,at_+1)]++[(y,0)]) < eh th met K+fh th (S++[(kn,at_)])
      have:=jo (th:=th) hy yK
      have S3:fh th (S++[(kn,at_+1)]++[(y,0)])=fh th (S++[(kn,at_+1)])+((th y).length - 0+1):=iP _ _
      have q:(th kn).length - at_=(th kn).length - (at_+1)+1:=(Nat.succ_pred_eq_of_pos (Nat.sub_pos_of_lt e)).symm
      rw [S3,S2,S1,q,Nat.sub_zero]
      generalize (th kn).length - (at_+1)=c
      lia
     ·refine hk (found,S++[(kn,at_+1)],met) _ _ ?_ ⟨D.on ty (qA h),hm,ha⟩
      show eh th met K+fh th (S++[(kn,at_+1)]) < eh th met K+fh th (S++[(kn,at_)])
      have q:(th kn).length - at_=(th kn).length - (at_+1)+1:=(Nat.succ_pred_eq_of_pos (Nat.sub_pos_of_lt e)).symm
      rw [S2,S1,q];exact Nat.add_lt_add_left (Nat.add_lt_add_left (Nat.lt_succ_self _) _) _
   ·rintro _ _ _ @⟨found,st,met,x5,x6,x7,D,hm,ha⟩ hg
    cases st with
    |cons=>cases hg
    |nil=>
     refine hk _ _ (.mk D fun x hx=>?_)
     rcases List.mem_append.mp hx with hx |hx
     ·exact hm x hx
     ·rw [List.mem_singleton.mp hx];exact ha
   ·show eh th (met++[a]) K+((th a).length - 0+1+0) < 20000
    have:=jo (th:=th) ha hk1
    have:=pH (th:=th) met K
    lia -abstractProof
   ·exact ⟨D.start hk1 ha,fun x hx=>List.mem_append_left _ (hm x hx),List.mem_append_right _ (.head _)⟩
  ·have ha:=qA h
   refine hk _ _ (.mk D fun x hx=>?_)
   rcases List.mem_append.mp hx with hx |hx
   ·exact hm x hx
   ·rw [List.mem_singleton.mp hx];exact ha
 ·rintro _ _ @⟨found,met,x3,x4,x5,x6,x7,D,hm⟩
  repeat (refine m5 rfl ?_)
  refine cv ⟨rfl,found,rfl,?_,fun x=>?_,D.ord⟩
  ·have:=D.nd;rw [List.map_nil,List.append_nil] at this;exact this
  ·have:=D.same x
   simp only [List.map_nil,List.not_mem_nil,or_false] at this
   rw [←this];exact ⟨D.sub x,hm x⟩
end
section
variable {b p m kn:T} {K:List Kn} {bg:Nat} {th:Kn→List Kn} {σ:Sg}
noncomputable def xe (C:List Kn):T:=.lst (C.map aN)
theorem yR {w t:T}(h:wb w=some t)(n:Nat):ai Ψ (n+1) 35 [w] σ=.ret t σ:=by
 refine si ?_
 show (match wb w with |some t=>cz.ret t σ |none=>cz.bad)=_
 rw [h]
noncomputable abbrev cF (W:T)(bk:Kn→List Kn)(K m:List Kn)(Cs:List (List Kn))(x4 x5 x6 x7:Option T):aH:=[some W,some (.dct (K.map aN) (K.map fun k=>.lst ((bk k).map aN))),some (jB m),some (.lst (Cs.map xe)),x4,x5,x6,x7]
inductive CI (W:T) (bk th:Kn→List Kn) (K:List Kn) (σ:Sg):List Kn→aH→Sg→Prop
 |mk {pre:List Kn} {Cs:List (List Kn)} {x4 x5 x6 x7:Option T} (H:uP th K Cs) (hp:∀x∈pre,x∈Cs.flatten):CI W bk th K σ pre (cF W bk K Cs.flatten Cs x4 x5 x6 x7) σ
inductive CW (W:T) (bk th:Kn→List Kn) (K:List Kn) (σ:Sg) (a:Kn) (Cs:List (List Kn)):List Kn×Nat→aH→Sg→Prop
 |mk {C:List Kn} {i:Nat} {x7:Option T} (c:Ar th K Cs.flatten a C) (hi:i≤C.length) (hd:∀j c,j < i→C[j]?=some c→∀x∈K,c∈th x→x∈Cs.flatten++C):CW W bk th K σ a Cs (C,i) (cF W bk K (Cs.flatten++C) Cs (some (aN a)) (some (.lst (C.map aN))) (some (.int i)) x7) σ
inductive CX (W:T) (bk th:Kn→List Kn) (K:List Kn) (σ:Sg) (a y:Kn) (i:Nat) (Cs:List (List Kn)):List Kn→aH→Sg→Prop
 |mk {pre D:List Kn} {x7:Option T} (c:Ar th K Cs.flatten a D) (hy:D[i]?=some y) (hd:∀j c,j < i→D[j]?=some c→∀x∈K,c∈th x→x∈Cs.flatten++D) (hp:∀x∈pre,x∈Cs.flatten++D):CX W bk th K σ a y i Cs pre (cF W bk K (Cs.flatten++D) Cs (some (aN a)) (some (.lst (D.map aN))) (some (.int i)) x7) σ
theorem uE (hK:K.Nodup)(hK1:K.length≤300)(hc:∀k∈K,∀y∈th k,y∈K)(hs:eh th [] K < 20000)(hw:∀k∈K,(th k).length≤1000)(n:Nat):aT (fun t σ'=>σ'=σ∧∃Cs:List (List Kn),t=.lst (Cs.map xe)∧uP th K Cs∧∀x∈K,x∈Cs.flatten) (ai Ψ (n+2) 36 [ew b p m kn K bg th] σ):=by
 obtain ⟨bk,hb1,hb2⟩:=yQ (b:=b) (p:=p) (m:=m) (kn:=kn) (bg:=bg) hK (Nat.le_trans hK1 (by decide)) hc hw
 refine pX ?_
 repeat (refine m5 rfl ?_)
 refine fO (yR hb1 n) ?_
 repeat (refine m5 rfl ?_)
 refine bF (yN hK (Nat.le_trans hK1 (by decide)) hc hs hw n) ?_
 rintro _ σ ⟨rfl,L,rfl,ln,lm,lo⟩
 refine aw rfl ?_
 rw [←List.map_reverse]
 refine aw rfl ?_
 refine qs (e:=aN) (l:=L.reverse) (CI (ew b p m kn K bg th) bk th K σ) ?_ ?_ (pre:=[]) rfl (.mk (Cs:=[]) .nil fun _ h=>nomatch h)
 ·rintro pre a suf _ _ hl @⟨Cs,x4,x5,x6,x7,H,hp⟩ k hk
  have hL:L=suf.reverse++a::pre.reverse:=by
   rw [←List.reverse_reverse L,hl,List.reverse_append,List.reverse_cons,List.append_assoc];rfl
  have aK:a∈K:=(lm a).mp (by rw [hL];exact List.mem_append_right _ (.head _))
  have fl:=aQ H.nd H.sub
  have cl:∀C:List Kn,(∀x∈C,x∈Cs.flatten++C):=fun C x h=>List.mem_append_right _ h
  have nCs:Cs.length≤300:=by
   have:∀Ds:List (List Kn),(∀C∈Ds,C≠[])→Ds.length≤Ds.flatten.length:=fun Ds=>by
    induction Ds with
    |nil=>exact fun _=>Nat.le_refl _
    |cons D Ds ih=>
     intro h
     have:=ih fun C hC=>h C (.tail _ hC)
     have:=List.length_pos_iff.mpr (h D (.head _))
     rw [List.flatten_cons,List.length_append,List.length_cons];lia -abstractProof
   have:=this Cs H.ne
   lia
  refine dA (gU _ a) ?_
  refine d7 (fun h=>?_) fun h=>?_
  ·have ha:=qz h
   refine dA (iX ha (by rw [aZ];lia -abstractProof)) ?_
   repeat (refine m5 rfl ?_)
   refine jq (S:=List Kn×Nat) (CW (ew b p m kn K bg th) bk th K σ a Cs) (fun s=>decide ((s.2:Int) < ((s.1.map aN).length:Int))) (fun s=>350 - s.2) ?_ ?_ ?_ (s:=([a],0)) (show 350 - 0 < 400 by decide) (.mk (.start H.nd aK ha) (Nat.zero_le _) fun i c h=>absurd h (Nat.not_lt_zero _))
   ·rintro _ _ _ @⟨C,i,x7,c,hi,hd⟩ k hk
    repeat (refine m5 rfl ?_)
    refine aw rfl ?_
    exact aw rfl hk
   ·rintro _ _ _ @⟨C,i,x7,c,hi,hd⟩ hg k hk
    have hi:i < C.length:=by have:=of_decide_eq_true hg;rw [List.length_map] at this;exact Int.ofNat_lt.mp this
    have cK:=aQ c.nd fun x hx=>(List.mem_append.mp hx).elim (H.sub x) (c.sub x)
    rw [List.length_append] at cK
    have hC:C[i]?=some C[i]:=List.getElem?_eq_getElem hi
    have cm:C[i]∈C:=List.getElem_mem hi
    generalize C[i]=y at hC cm
    refine dA (bR hC (by rw [aZ];lia)) ?_
    refine aw (ci.get (c.sub y cm)) ?_
    refine aw rfl ?_
    refine qs (e:=aN) (l:=bk y) (CX (ew b p m kn K bg th) bk th K σ a y i Cs) ?_ ?_ (pre:=[]) rfl (.mk c hC hd fun _ h=>nomatch h)
    ·rintro pre o suf _ _ hl @⟨D,x7,c,hy,hd,hp⟩ k hk
     have ho:=(hb2 y o).mp (by rw [hl];exact List.mem_append_right _ (.head _))
     have cK:=aQ c.nd fun x hx=>(List.mem_append.mp hx).elim (H.sub x) (c.sub x)
     have dl:D.length < lim:=by rw [List.length_append] at cK;rw [aZ];lia -abstractProof
     have ml:(Cs.flatten++D).length < lim:=by rw [aZ];lia -abstractProof
     have ym:y∈D:=List.mem_of_getElem? hy
     refine dA (gU _ o) ?_
     refine d7 (fun h=>?_) fun h=>?_
     ·have no:=qz h
      refine dA (iX no ml) ?_
      refine dA (cD o dl) ?_
      rw [List.append_assoc]
      refine hk _ _ (.mk (D:=D++[o]) (c.push no ho.1 ym ho.2) ?_ (fun j z hj hz x hx e=>?_) fun x hx=>?_)
      ·rw [List.getElem?_append_left (List.getElem?_eq_some_iff.mp hy).1];exact hy
      ·rw [List.getElem?_append_left (Nat.lt_trans hj (List.getElem?_eq_some_iff.mp hy).1)] at hz
       rw [←List.append_assoc];exact List.mem_append_left _ (hd j z hj hz x hx e)
      ·rw [←List.append_assoc]
       rcases List.mem_append.mp hx with hx |hx
       ·exact List.mem_append_left _ (hp x hx)
       ·exact List.mem_append_right _ hx
     ·refine hk _ _ (.mk c hy hd fun x hx=>?_)
      rcases List.mem_append.mp hx with hx |hx
      ·exact hp x hx
      ·rw [List.mem_singleton.mp hx];exact qA h
    ·rintro _ _ @⟨D,x7,c,hy,hd,hp⟩
     have li:=(List.getElem?_eq_some_iff.mp hy).1
     repeat (refine m5 rfl ?_)
     refine aw rfl ?_
     refine hk (D,i+1) _ _ (show 350 - (i+1) < 350 - i by lia) (.mk c li fun j z hj hz x hx e=>?_)
     rcases Nat.lt_succ_iff_lt_or_eq.mp hj with hj |rfl
     ·exact hd j z hj hz x hx e
     ·rw [show D[j]?=some y from hy] at hz;cases hz
      exact hp x ((hb2 y x).mpr ⟨hx,e⟩)
   ·rintro _ _ _ @⟨C,i,x7,c,hi,hd⟩ hg
    have hi:C.length≤i:=by have:=of_decide_eq_false hg;rw [List.length_map] at this;exact Nat.le_of_not_lt fun h=>this (Int.ofNat_lt.mpr h)
    refine dA (cD (e:=xe) C (by exact Nat.lt_of_le_of_lt (by assumption) (by decide))) ?_
    refine (fun h1 h2=>by have:=CI.mk (W:=ew b p m kn K bg th) (bk:=bk) (σ:=σ) (pre:=pre++[a]) (Cs:=Cs++[C]) (x4:=some (aN a)) (x5:=some (.lst (C.map aN))) (x6:=some (.int i)) (x7:=x7) (H.add lo ln (fun x hx=>(lm x).mpr hx) hL (fun x hx=>hp x (List.mem_reverse.mp hx)) c h1) h2;rw [cR] at this;exact hk _ _ this) (fun z hz x hx e=>?_) (fun x hx=>?_)
    ·obtain ⟨j,hj⟩:=List.getElem?_of_mem hz
     exact hd j z (Nat.lt_of_lt_of_le (List.getElem?_eq_some_iff.mp hj).1 hi) hj x hx e
    ·rw [cR]
     rcases List.mem_append.mp hx with hx |hx
     ·exact List.mem_append_left _ (hp x hx)
     ·rw [List.mem_singleton.mp hx];exact List.mem_append_right _ c.hd
  ·refine hk _ _ (.mk H fun x hx=>?_)
   rcases List.mem_append.mp hx with hx |hx
   ·exact hp x hx
   ·rw [List.mem_singleton.mp hx];exact qA h
 ·rintro _ _ @⟨Cs,x4,x5,x6,x7,H,hp⟩
  repeat (refine m5 rfl ?_)
  exact cv ⟨rfl,Cs,rfl,H,fun x hx=>hp x (List.mem_reverse.mpr ((lm x).mpr hx))⟩
end
section
variable {b p m kn:T} {K:List Kn} {bg:Nat} {th:Kn→List Kn} {σ:Sg}
noncomputable def DO:Option Kn→T
 |none=>.none
 |some k=>aN k
noncomputable def ib (l:List Kn)(f:Kn→Option Kn):T:=.dct (l.map aN) (l.map fun k=>DO (f k))
inductive BI (l:List Kn) (f:Kn→Option Kn) (P:List Kn) (σ:Sg):Option Kn×List Kn×List Kn→aH→Sg→Prop
 |done:BI l f P σ (none,P,[]) [some (ib l f),some .none,some (.lst (P.map aN))] σ
 |more {y:Kn} {fo re:List Kn} (hb:jR f y re) (e:fo++re=P):BI l f P σ (some y,fo,re) [some (ib l f),some (aN y),some (.lst (fo.map aN))] σ
theorem zv {l:List Kn}{f:Kn→Option Kn}{x:Kn}{P:List Kn}(hB:jR f x P)(hs:∀y∈P,y∈l)(hl:P.length≤300)(n:Nat):aT (fun t σ'=>σ'=σ∧t=.lst (P.reverse.map aN)) (ai Ψ (n+1) 40 [ib l f,aN x] σ):=by
 refine pW ?_
 refine jq (S:=Option Kn×List Kn×List Kn) (BI l f P σ) (fun s=>s.1.isSome) (fun s=>s.2.2.length) ?_ ?_ ?_ (s:=(some x,[],P)) (show P.length < 400 by lia) (.more hB rfl)
 ·rintro _ _ _ (_ |_) k hk
  ·exact aw rfl (aw rfl hk)
  ·exact aw rfl (aw rfl hk)
 ·rintro _ _ _ (_ | @⟨y,fo,re,hb,e⟩) hg k hk
  ·cases hg
  ·have fl:fo.length < lim:=by have:=congrArg List.length e;rw [List.length_append] at this;rw [aZ];lia
   have yl:=hs y (by rw [←e];cases hb<;>exact List.mem_append_right _ (.head _))
   refine dA (cD y fl) (dA (ci.get yl) ?_)
   cases hb with
   |nil e1=>rw [e1,e];exact hk (none,P,[]) _ _ Nat.zero_lt_one .done
   | @cons _ z q e1 hb=>rw [e1];exact hk (some z,fo++[y],q) _ _ (Nat.lt_succ_self _) (.more hb (by rw [List.append_assoc];exact e))
 ·rintro _ _ _ (_ |_) hg
  ·exact aw rfl (aw rfl (cv ⟨rfl,by rw [List.map_reverse]⟩))
  ·cases hg
theorem xf {l:List Kn}{f:Kn→Option Kn}{y here:Kn}(hy:y∉l)(hl:l.length < lim):dP (ib l f) (aN y) (aN here)=some (ib (l++[y]) fun x=>if x=y then some here else f x):=by
 rw [ib,ci.put hy hl,ib,List.map_append (f:=fun k=>DO _)]
 refine congrArg some (congrArg (T.dct _) ?_)
 refine congr (congrArg _ (List.map_congr_left fun k hk=>?_)) ?_
 ·rw [if_neg fun (e:k=y)=>hy (e▸hk)]
 ·show _=[DO (if y=y then some here else f y)]
  rw [if_pos rfl];rfl
theorem jI {v:T}:∀(l us:List Kn) (vs:List T),(us++l).Nodup→l6 (l.map fun k=>.tup [aN k,v]) (us.map aN) vs=some ((us++l).map aN,vs++l.map fun _=>v)
 | [],us,vs,_=>by
  rw [List.append_nil]
  show some (us.map aN,vs)=some (us.map aN,vs++[])
  rw [List.append_nil]
 |k::l,us,vs,h=>by
  have hk:k∉us:=fun q=>(List.nodup_append.mp h).2.2 k q k (.head _) rfl
  show o1 (kj (us.map aN) (aN k)) _=_
  rw [ci.fd,if_neg hk]
  show l6 (l.map fun k=>.tup [aN k,v]) (us.map aN++[aN k]) (vs++[v])=_
  have:=jI (v:=v) l (us++[k]) (vs++[v]) (by rw [List.append_assoc];exact h)
  rw [List.map_append] at this
  rw [show us.map aN++[aN k]=us.map aN++[k].map aN from rfl,this,List.append_assoc,List.append_assoc];rfl
theorem yk {w s g c:T}{here:Kn}{ws:List Kn}{x5 x6 x7:Option T}:(o1 (bz [some w,some s,some g,some c,some (.lst ((here::ws).map aN)),x5,x6,x7] 4) fun x=>o1 (fR x) fun xs=>o1 xs.head? fun y=>some ((List.set [some w,some s,some g,some c,some (.lst ((here::ws).map aN)),x5,x6,x7] 4 (some (.lst xs.tail))).set 5 (some y)))=some [some w,some s,some g,some c,some (.lst (ws.map aN)),some (aN here),x6,x7]:=rfl
noncomputable abbrev pF (W:T)(starts goals l w:List Kn)(f:Kn→Option Kn)(x5 x6 x7:Option T):aH:=[some W,some (.lst (starts.map aN)),some (.lst (goals.map aN)),some (ib l f),some (.lst (w.map aN)),x5,x6,x7]
inductive PW (W:T) (th:Kn→List Kn) (K starts goals:List Kn) (σ:Sg):List Kn×List Kn×(Kn→Option Kn)→aH→Sg→Prop
 |mk {dn wt:List Kn} {f:Kn→Option Kn} {x5 x6 x7:Option T} (B:ro th K starts goals dn wt f):PW W th K starts goals σ (dn,wt,f) (pF W starts goals (dn++wt) wt f x5 x6 x7) σ
inductive PI (W:T) (th:Kn→List Kn) (K starts goals:List Kn) (σ:Sg) (dn:List Kn) (here:Kn):List Kn→aH→Sg→Prop
 |mk {pre w:List Kn} {f:Kn→Option Kn} {x6 x7:Option T} (B:ro th K starts goals dn (here::w) f) (hp:∀x∈pre,x∈dn++here::w):PI W th K starts goals σ dn here pre (pF W starts goals (dn++here::w) w f (some (aN here)) x6 x7) σ
theorem ou {starts goals:List Kn}(hK1:K.length≤300)(hc:∀k∈K,∀y∈th k,y∈K)(hn:starts.Nodup)(hs:∀x∈starts,x∈K)(n:Nat):aT (fun t σ'=>σ'=σ∧∃P:List Kn,t=.lst (P.map aN)∧((∃g∈goals,zB th K starts g P)∨(P=[]∧∀s∈starts,∀g∈goals,¬j5 th s g))) (ai Ψ (n+2) 39 [ew b p m kn K bg th,.lst (starts.map aN),.lst (goals.map aN)] σ):=by
 refine tX ?_
 repeat (refine m5 rfl ?_)
 refine aw rfl ?_
 refine eL (e:=aN) (l:=starts) (fun k=>.tup [aN k,.none]) (fun a _=>⟨_,rfl,fun k=>by with_unfolding_all rfl⟩) ?_
 refine aw (a:=ib starts fun _=>none) ?_ ?_
 ·show o1 (l6 (starts.map fun k=>.tup [aN k,.none]) ([].map aN) []) _=_
  rw [jI starts [] [] hn];rfl
 repeat (refine m5 rfl ?_)
 refine aw rfl ?_
 refine jq (S:=List Kn×List Kn×(Kn→Option Kn)) (PW (ew b p m kn K bg th) th K starts goals σ) (fun s=>!s.2.1.isEmpty) (fun s=>350 - s.1.length) ?_ ?_ ?_ (s:=([],starts,fun _=>none)) (show 350 - 0 < 400 by decide) (.mk (.start hn hs))
 ·rintro _ _ _ @⟨dn,wt,f,x5,x6,x7,B⟩ k hk
  exact dA (jE.some (by decide) wt) hk
 ·rintro _ _ _ @⟨dn,wt,f,x5,x6,x7,B⟩ hg k hk
  cases wt with
  |nil=>cases hg
  |cons here ws=>
   have B:ro th K starts goals dn (here::ws) f:=B
   have hm:here∈dn++here::ws:=List.mem_append_right _ (.head _)
   have hK:=B.sub here hm
   have ll:=aQ B.nd B.sub
   rw [List.length_append,List.length_cons] at ll
   refine aw yk ?_
   refine dA (jE.mem (by decide) (l:=goals) trivial (fun _ _=>trivial) rfl) ?_
   refine d7 (fun h=>?_) fun h=>?_
   ·obtain ⟨P,h1,h2,h3⟩:=B.way hm
    repeat (refine m5 rfl ?_)
    refine bF (zv h1 h2 (by have:=h3.len;rw [List.length_reverse] at this;lia -abstractProof) n) ?_
    rintro _ σ ⟨rfl,rfl⟩
    exact cv ⟨rfl,P.reverse,rfl,.inl ⟨here,of_decide_eq_true h,h3⟩⟩
   ·repeat (refine m5 rfl ?_)
    refine dA (ci.get hK) ?_
    refine aw rfl ?_
    refine qs (e:=aN) (l:=th here) (PI (ew b p m kn K bg th) th K starts goals σ dn here) ?_ ?_ (pre:=[]) rfl (.mk B fun _ h=>nomatch h)
    ·rintro pre o suf _ _ hl @⟨w,f,x6,x7,B,hp⟩ k hk
     have ho:o∈th here:=by rw [hl];exact List.mem_append_right _ (.head _)
     have ll:=aQ B.nd B.sub
     have wl:w.length < lim:=by rw [List.length_append,List.length_cons] at ll;rw [aZ];lia
     repeat (refine m5 rfl ?_)
     refine aw (a:=!decide (o∈dn++here::w)) ?_ ?_
     ·show (Ab _ _).map _=_
      rw [ib,ci.has];rfl
     refine d7 (fun h=>?_) fun h=>?_
     ·have no:=qz h
      repeat (refine m5 rfl ?_)
      refine aw (xf no (by rw [aZ];lia -abstractProof)) ?_
      refine dA (cD o wl) ?_
      have e:(dn++here::w)++[o]=dn++here::(w++[o]):=by rw [List.append_assoc];rfl
      rw [e]
      refine hk _ _ (.mk (w:=w++[o]) (B.push (List.mem_append_right _ (.head _)) ho (hc here hK o ho) no) fun x hx=>?_)
      rw [←e]
      rcases List.mem_append.mp hx with hx |hx
      ·exact List.mem_append_left _ (hp x hx)
      ·exact List.mem_append_right _ hx
     ·refine hk _ _ (.mk B fun x hx=>?_)
      rcases List.mem_append.mp hx with hx |hx
      ·exact hp x hx
      ·rw [List.mem_singleton.mp hx];exact qA h
    ·rintro _ _ @⟨w,f,x6,x7,B,hp⟩
     have e:(dn++[here])++w=dn++here::w:=by rw [List.append_assoc];rfl
     refine hk (dn++[here],w,f) _ _ ?_ (by rw [←e];exact .mk (B.done (of_decide_eq_false h) hp))
     show 350 - (dn++[here]).length < 350 - dn.length
     rw [List.length_append,List.length_cons,List.length_nil];lia
 ·rintro _ _ _ @⟨dn,wt,f,x5,x6,x7,B⟩ hg
  cases wt with
  |cons=>cases hg
  |nil=>exact cv ⟨rfl,[],rfl,.inr ⟨rfl,fun s hs g hg r=>B.none hs hg r⟩⟩
end
section
variable {b m kn:T} {ps:List T} {K:List Kn} {bg:Nat} {th:Kn→List Kn} {σ:Sg} {mt:Kn→Nat→Bool}
theorem uW {C:List Kn}(hC:∀x∈C,x∈K)(hp:ps.length≤1000){n:Nat}(hm:∀k∈K,∀j,j < ps.length→ai Ψ n 1005 [ew b (.lst ps) m kn K bg th,aN k,.int j] σ=.ret (.bool (mt k j)) σ):
  aT (fun t σ'=>σ'=σ∧((t=.none∧∀j,j < ps.length→∃k∈C,mt k j=true)∨∃j:Nat,j < ps.length∧t=.int j∧∀k∈C,mt k j=false)) (ai Ψ (n+1) 38 [ew b (.lst ps) m kn K bg th,.lst (C.map aN)] σ):=by
 refine yi ?_
 repeat (refine m5 rfl ?_)
 refine aw rfl ?_
 refine aw rfl ?_
 refine aw (f7 (Nat.le_trans hp (by decide))) ?_
 refine qs (e:=fun j:Nat=>T.int j) (l:=List.range ps.length) (fun pre ρ σ'=>σ'=σ∧(∃x2,ρ=[some (ew b (.lst ps) m kn K bg th),some (.lst (C.map aN)),x2,none])∧∀j∈pre,∃k∈C,mt k j=true) ?_ ?_ (pre:=[]) rfl ⟨rfl,⟨_,rfl⟩,fun _ h=>nomatch h⟩
 ·rintro pre j suf _ σ hl ⟨rfl,⟨x2,rfl⟩,h⟩ k hk
  have hj:j < ps.length:=List.mem_range.mp (by rw [hl];exact List.mem_append_right _ (.head _))
  repeat (refine m5 rfl ?_)
  refine aw rfl ?_
  refine eL (e:=aN) (l:=C) (fun k=>.bool (mt k j)) (fun a ha=>⟨_,rfl,fun k=>?_⟩) ?_
  ·exact ab rfl (ab rfl (ab rfl (aq (hm a (hC a ha) j hj) rfl)))
  refine aw (a:=.bool (C.any fun k=>mt k j)) ?_ ?_
  ·exact any_map C _
  refine aw rfl ?_
  refine d7 (fun q=>?_) fun q=>?_
  ·have q:(C.any fun k=>mt k j)=false:=by cases e:C.any fun k=>mt k j<;>rw [e] at q<;>first |rfl |cases q
   repeat (refine m5 rfl ?_)
   refine cv ⟨rfl,.inr ⟨j,hj,rfl,fun x hx=>?_⟩⟩
   rw [List.any_eq_false] at q
   exact Bool.eq_false_iff.mpr (q x hx)
  ·have q:(C.any fun k=>mt k j)=true:=by cases e:C.any fun k=>mt k j<;>rw [e] at q<;>first |rfl |cases q
   refine hk _ _ ⟨rfl,⟨_,rfl⟩,fun i hi=>?_⟩
   rcases List.mem_append.mp hi with hi |hi
   ·exact h i hi
   ·rw [List.mem_singleton.mp hi];exact List.any_eq_true.mp q
 ·rintro _ σ ⟨rfl,⟨x2,rfl⟩,h⟩
  exact cv ⟨rfl,.inl ⟨rfl,fun j hj=>h j (List.mem_range.mpr hj)⟩⟩
theorem vh {p:T}{c0:Kn}{r:List Kn}(h0:c0∈K)(n:Nat):ai Ψ (n+1) 37 [ew b p m kn K bg th,.lst ((c0::r).map aN)] σ=.ret (.bool (!r.isEmpty||decide (c0∈th c0))) σ:=by
 refine o5 ?_
 refine ab rfl (ab rfl (ab (a:=!r.isEmpty) ?_ ?_))
 ·show some (decide ((((c0::r).map aN).length:Int) > 1))=_
  cases r with
  |nil=>rfl
  |cons d r=>exact congrArg some (decide_eq_true (by rw [List.length_map,List.length_cons,List.length_cons];lia -abstractProof))
 ·cases r with
  |cons=>rfl
  |nil=>
   refine ab rfl (ab (bR (i:=0) rfl (Nat.zero_le _)) (ab rfl (ab rfl (ab rfl (ab (bR (i:=0) rfl (Nat.zero_le _)) (ab (ci.get h0) (ab (jE.mem (by decide) (l:=th c0) trivial (fun _ _=>trivial) rfl) rfl)))))))
end
section
variable {b m kn:T} {ps:List T} {K:List Kn} {bg:Nat} {th:Kn→List Kn} {σ:Sg} {mt:Kn→Nat→Bool}
theorem fI {α:Type}{e:α→T}{l q:List α}(h:l.length+q.length≤lim):bf (.lst (l.map e)) (.lst (q.map e))=some (.lst ((l++q).map e)):=by
 show nV _ _=_
 rw [←List.map_append,List.length_map,List.length_append,nV,show bU (l.length+q.length)=true from Nat.ble_eq_true_of_le h];rfl
theorem fi {α:Type}{e:α→T}{l q:List α}{lo hi:Option Int}(h:cut lo hi l=q):bE (.lst (l.map e)) lo hi=some (.lst (q.map e)):=by
 rw [nr]
 show some (T.lst (cut lo hi (l.map e)))=_
 rw [oZ,h]
theorem wC {α:Type}{e:α→T}(F:List α)(z:α):aj (.lst ((F++[z]).map e)) (.int (-1))=some (e z):=by
 have h:seqIndex? (-1) ((F++[z]).map e).length=some F.length:=by
  rw [List.length_map,List.length_append]
  show (if (decide (0≤(if (-1:Int) < 0 then -1+((F.length+1:Nat):Int) else -1))&&decide ((if (-1:Int) < 0 then -1+((F.length+1:Nat):Int) else -1) < ((F.length+1:Nat):Int)))=true then some (if (-1:Int) < 0 then -1+((F.length+1:Nat):Int) else -1).toNat else none)=_
  rw [if_pos (show (-1:Int) < 0 by decide),show (-1:Int)+((F.length+1:Nat):Int)=F.length from (Int.add_comm _ _).trans (Int.add_sub_cancel (F.length:Int) 1),decide_eq_true (Int.natCast_nonneg _),decide_eq_true (Int.ofNat_lt.mpr (Nat.lt_succ_self _))];rfl
 rw [te,xP,show sm (-1)=true from rfl,cond_true,h,zT,List.getElem?_map,List.getElem?_append_right (Nat.le_refl _),Nat.sub_self];rfl
noncomputable abbrev B9:PS:=ae (av 5 (aB (aG (p2 idxD (p1 (mD 10 6) (pV 0)) (p2 aj (pV 2) (p1 j8 (pC (.int 1)))))) (aJ 7) (p2 i5 (pV 7) (pV 1)) (pV 7)))
  (ae (au (p2 bf (pV 2) (p3 bE (ak 39 (aa (pV 0) (aa (pV 5) (aa (p3 bE (pV 1) iw (p1 ck (pC (.int 1)))) ah)))) iw (p1 ck (p1 j8 (pC (.int 1)))))))
  af)
theorem vi {c0 z:Kn}{r F:List Kn}{w:T}(hw:w=ew b (.lst ps) m kn K bg th)(hK1:K.length≤300)(hc:∀k∈K,∀y∈th k,y∈K)(hn:∀k∈K,(th k).Nodup)(hC:∀x∈c0::r,x∈K)(scc:∀x∈c0::r,∀y∈c0::r,j5 th x y)(hs:∀u∈c0::r,∃s∈th u,s∈c0::r)
  (hz:z∈c0::r)(hlen:(F++[z]).length≤4000){Q:T→Sg→Prop}(hQ:∀P:List Kn,zB th K ((th z).filter fun k=>decide (k∈c0::r)) c0 P→Q (.lst ((F++[z]++P.dropLast).map aN)) σ){n:Nat}{x3 x4 x5:Option T}{k:PK aH}:
  aT Q (B9 ⟨ai Ψ (n+2)⟩ [some w,some (.lst ((c0::r).map aN)),some (.lst ((F++[z]).map aN)),x3,x4,x5,none,none] σ k):=by
 have zK:=hC z hz
 repeat (refine m5 rfl ?_)
 refine aw (a:=T.dct (K.map aN) (K.map fun k=>.lst ((th k).map aN))) (by rw [hw];rfl) ?_
 refine dA (wC F z) ?_
 refine aw (ci.get zK) ?_
 refine aw rfl ?_
 refine w8 (e:=aN) (l:=th z) (fun k=>decide (k∈c0::r)) aN (fun a ha=>⟨_,rfl,fun k=>?_,fun _ k=>by with_unfolding_all rfl⟩) ?_
 ·exact ab rfl (ab rfl (ab (jE.mem (by decide) (l:=c0::r) trivial (fun _ _=>trivial) rfl) rfl))
 refine dA (fi (jG 1 (c0::r))) ?_
 rw [hw]
 refine bF (ou (starts:=(th z).filter fun k=>decide (k∈c0::r)) (goals:=[c0]) hK1 hc ((hn z zK).filter _) (fun x hx=>hC x (of_decide_eq_true (List.mem_filter.mp hx).2)) n) ?_
 rintro _ σ ⟨rfl,P,rfl,h⟩
 obtain ⟨s,s1,s2⟩:=hs z hz
 have W:zB th K ((th z).filter fun k=>decide (k∈c0::r)) c0 P:=by
  rcases h with ⟨g,h1,h2⟩ | ⟨_,h⟩
  ·cases List.mem_singleton.mp h1;exact h2
  ·exact absurd (scc s s2 c0 (.head _)) (h s (List.mem_filter.mpr ⟨s1,decide_eq_true s2⟩) c0 (.head _))
 have dl:P.dropLast.length≤300:=Nat.le_trans (by rw [List.length_dropLast];exact Nat.sub_le _ _) (Nat.le_trans W.len hK1)
 refine dA (fi (qC P)) ?_
 refine aw (fI (q:=P.dropLast) (by rw [aZ];lia -abstractProof)) ?_
 exact cv (hQ P W)
inductive EL (W:T) (th:Kn→List Kn) (K:List Kn) (mt:Kn→Nat→Bool) (c0:Kn) (r:List Kn) (σ:Sg):List Nat→aH→Sg→Prop
 |mk {pre:List Nat} {F:List Kn} {z:Kn} {x3 x4 x5:Option T} (hz:z∈c0::r) (hw:ee th (F++[z])) (hh:(F++[z]).head?=some c0) (hk1:∀x∈F++[z],x∈K) (hm1:∀j∈pre,∃x∈F++[z],mt x j=true) (hlen:(F++[z]).length≤1+pre.length * 127):
  EL W th K mt c0 r σ pre [some W,some (.lst ((c0::r).map aN)),some (.lst ((F++[z]).map aN)),x3,x4,x5,none,none] σ
structure Rg (th:Kn→List Kn) (K:List Kn) (mt:Kn→Nat→Bool) (c0:Kn) (np:Nat) (R:List Kn):Prop where
 w:ee th R
 hd:R.head?=some c0
 la:∃z,R.getLast?=some z∧c0∈th z
 sub:∀x∈R,x∈K
 met:∀j,j < np→∃x∈R,mt x j=true
 len:R.length≤800
theorem yh {c0:Kn}{r:List Kn}(hK2:K.length≤128)(hc:∀k∈K,∀y∈th k,y∈K)(hn:∀k∈K,(th k).Nodup)(hC:∀x∈c0::r,x∈K)(hp:ps.length≤5)(scc:∀x∈c0::r,∀y∈c0::r,j5 th x y)(hs:∀u∈c0::r,∃s∈th u,s∈c0::r)(hmet:∀j,j < ps.length→∃k∈c0::r,mt k j=true)
  {n:Nat}(hm:∀k∈K,∀j,j < ps.length→ai Ψ (n+2) 1005 [ew b (.lst ps) m kn K bg th,aN k,.int j] σ=.ret (.bool (mt k j)) σ):
  aT (fun t σ'=>σ'=σ∧∃R:List Kn,t=.lst (R.map aN)∧Rg th K mt c0 ps.length R) (ai Ψ (n+3) 41 [ew b (.lst ps) m kn K bg th,.lst ((c0::r).map aN)] σ):=by
 have hK1:K.length≤300:=Nat.le_trans hK2 (by decide)
 refine tW ?_
 refine dA (bR (i:=0) rfl (Nat.zero_le _)) (qw rfl ?_)
 repeat (refine m5 rfl ?_)
 refine aw rfl ?_
 refine aw rfl ?_
 refine aw (f7 (Nat.le_trans hp (by decide))) ?_
 refine qs (e:=fun j:Nat=>T.int j) (l:=List.range ps.length) (EL (ew b (.lst ps) m kn K bg th) th K mt c0 r σ) ?_ ?_ (pre:=[]) rfl (.mk (F:=[]) (z:=c0) (.head _) (.one _) rfl (fun x hx=>List.mem_singleton.mp hx▸hC c0 (.head _)) (fun _ h=>nomatch h) (Nat.le_refl _))
 ·rintro pre j suf _ _ hl @⟨F,z,x3,x4,x5,hz,hw,hh,hk1,hm1,hlen⟩ k hk
  have hj:j < ps.length:=List.mem_range.mp (by rw [hl];exact List.mem_append_right _ (.head _))
  have prl:pre.length≤5:=by have:=congrArg List.length hl;rw [List.length_range,List.length_append] at this;lia -abstractProof
  repeat (refine m5 rfl ?_)
  refine aw rfl ?_
  refine w8 (e:=aN) (l:=c0::r) (fun k=>mt k j) aN (fun a ha=>⟨_,rfl,fun k=>?_,fun _ k=>by with_unfolding_all rfl⟩) ?_
  ·exact ab rfl (ab rfl (ab rfl (aq (hm a (hC a ha) j hj) (ab rfl rfl))))
  refine dA (fi (wX F z)) ?_
  repeat (refine m5 rfl ?_)
  refine bF (ou (starts:=[z]) (goals:=(c0::r).filter fun k=>mt k j) hK1 hc (by simp) (fun x hx=>List.mem_singleton.mp hx▸hC z hz) n) ?_
  rintro _ σ ⟨rfl,P,rfl,h⟩
  obtain ⟨g,hg,W⟩:∃g∈(c0::r).filter (fun k=>mt k j),zB th K [z] g P:=by
   rcases h with h | ⟨_,h⟩
   ·exact h
   ·obtain ⟨g,h1,h2⟩:=hmet j hj
    exact absurd (scc z hz g h1) (h z (.head _) g (List.mem_filter.mpr ⟨h1,h2⟩))
  obtain ⟨a,ha,hz'⟩:=W.hd
  obtain rfl:=List.mem_singleton.mp hz'
  cases P with
  |nil=>cases ha
  |cons q P=>
   cases ha
   have gC:=List.mem_filter.mp hg
   have pl:P.length≤127:=by have:=W.len;rw [List.length_cons] at this;lia -abstractProof
   have hlen':(F++[a]).length≤1+3000:=Nat.le_trans hlen (by lia -abstractProof)
   refine dA (fi (l9 (a::P))) ?_
   refine aw (fI (q:=P) (by rw [aZ];lia -abstractProof)) ?_
   obtain ⟨F',e⟩:∃F',(F++[a])++P=F'++[g]:=by
    rcases List.eq_nil_or_concat P with rfl | ⟨P',y,rfl⟩
    ·have:=W.lst;cases this;exact ⟨F,List.append_nil _⟩
    ·rw [List.concat_eq_append] at W ⊢
     have:=W.lst
     rw [List.getLast?_cons,List.getLast?_concat] at this
     cases this
     exact ⟨F++[a]++P',(List.append_assoc _ _ _).symm⟩
   rw [e]
   refine hk _ _ (.mk gC.1 ?_ ?_ (fun x hx=>?_) (fun i hi=>?_) ?_)
   ·rw [←e]
    exact hw.app (W.walk.drop 1) fun u v hu hv=>by
     rw [List.getLast?_concat] at hu;cases hu
     exact W.walk 0 a v rfl (by rw [←List.getElem?_drop (i:=1) (j:=0),←List.head?_eq_getElem?];exact hv)
   ·rw [←e,List.head?_append,hh];rfl
   ·rw [←e] at hx
    exact (List.mem_append.mp hx).elim (hk1 x) fun h=>W.sub x (.tail _ h)
   ·rcases List.mem_append.mp hi with hi |hi
    ·obtain ⟨x,h1,h2⟩:=hm1 i hi
     exact ⟨x,by rw [←e];exact List.mem_append_left _ h1,h2⟩
    ·rw [List.mem_singleton.mp hi]
     exact ⟨g,List.mem_append_right _ (.head _),gC.2⟩
   ·rw [←e,List.length_append,List.length_append (as:=pre)]
    show _≤1+(pre.length+1) * 127
    lia -abstractProof
 ·rintro _ _ @⟨F,z,x3,x4,x5,hz,hw,hh,hk1,hm1,hlen⟩
  rw [List.length_range] at hlen
  refine vi rfl hK1 hc hn hC scc hs hz (Nat.le_trans hlen (by lia -abstractProof)) fun P W=>?_
  obtain ⟨h1,h2⟩:=hw.close W fun x hx=>(List.mem_filter.mp hx).1
  refine ⟨rfl,_,rfl,h1,?_,h2,fun x hx=>(List.mem_append.mp hx).elim (hk1 x) fun h=>W.sub x (List.dropLast_subset _ h),fun j hj=>?_,?_⟩
  ·rw [List.head?_append,hh];rfl
  ·obtain ⟨x,h3,h4⟩:=hm1 j (List.mem_range.mpr hj)
   exact ⟨x,List.mem_append_left _ h3,h4⟩
  ·have:=W.len
   rw [List.length_append,List.length_dropLast];lia -abstractProof
end
end
end Mine.L09
namespace Mine.L09
noncomputable section
open PySem Ltl
section
variable {bs:List Sy} {g g':List Bool} {m m':Str} {σ:Sg}
noncomputable abbrev gW (bs:List Sy):T:=.lst (bs.map aX)
noncomputable abbrev gT (g:List Bool):T:=.tup (g.map .bool)
structure zH (bs:List Sy) (g:List Bool):Prop where
 dep:∀x∈bs,dep x≤40
 len:g.length=bs.length
 few:bs.length≤1000
theorem kF {α:Type}{e:α→T}{l:List α}{i:Nat}{a:α}(h:l[i]?=some a)(hi:i≤lim):aj (.tup (l.map e)) (.int i)=some (e a):=sy (e:=e) h hi
theorem yJ {x:Sy}(B:zH bs g)(hx:x∈bs):g[bs.idxOf x]?=some (look bs g x):=by
 have h:bs.idxOf x < g.length:=by rw [B.len];exact List.idxOf_lt_length_iff.mpr hx
 rw [look,List.getElem?_eq_getElem h];rfl
theorem cG (B:zH bs g){x:Sy}(hx:x∈bs)(n:Nat):ai Ψ (n+1) 9 [aX x,gW bs,gT g] σ=.ret (.bool (look bs g x)) σ:=by
 refine uG ?_
 have h1:=(r5 40).idx (by decide) (B.dep x hx) B.dep hx
 have h2:=kF (e:=T.bool) (yJ B hx) (Nat.le_trans (Nat.le_of_lt (List.idxOf_lt_length_iff.mpr hx)) (Nat.le_trans B.few (by decide)))
 show up (lR (gW bs) (aX x)) σ (fun j σ=>up (aj (gT g) j) σ fun v σ=>.ret v σ)=_
 rw [h1]
 show up (aj (gT g) (.int (bs.idxOf x))) σ (fun v σ=>.ret v σ)=_
 rw [h2];rfl
theorem kX (B:zH bs g):∀(s:Sy) (n:Nat),dep s≤n→cU bs s→ai Ψ (n+2) 10 [aX s,.str m,gW bs,gT g] σ=.ret (.bool (so m bs g s)) σ:=by
 intro s
 induction s with
 |mark x=>exact fun n _ _=>dI rfl
 |yes=>exact fun n _ _=>dI rfl
 |not a ih=>
  rintro (_ |n) h cl
  ·cases h
  ·exact dI (aq (ih n (Nat.le_of_succ_le_succ h) (aA cl (.head _))) rfl)
 |and a c ih ih'=>
  rintro (_ |n) h cl
  ·cases h
  ·have h:=Nat.max_le.mp (Nat.le_of_succ_le_succ h)
   have e:=ih n h.1 (aA cl (.head _))
   have e':=ih' n h.2 (aA cl (.tail _ (.head _)))
   refine dI (aq e ?_)
   cases q:so m bs g a with
   |false=>rw [so,q];rfl
   |true=>rw [so,q];exact aq e' rfl
 |or a c ih ih'=>
  rintro (_ |n) h cl
  ·cases h
  ·have h:=Nat.max_le.mp (Nat.le_of_succ_le_succ h)
   have e:=ih n h.1 (aA cl (.head _))
   have e':=ih' n h.2 (aA cl (.tail _ (.head _)))
   refine dI (aq e ?_)
   cases q:so m bs g a with
   |true=>rw [so,q];rfl
   |false=>rw [so,q];exact aq e' rfl
 |next a=>exact fun n _ cl=>dI (aq (cG B (bc cl _ (.head _)) n) rfl)
 |till a c=>exact fun n _ cl=>dI (aq (cG B (bc cl _ (.head _)) n) rfl)
 |always a=>exact fun n _ cl=>dI (aq (cG B (bc cl _ (.head _)) n) rfl)
 |again a=>exact fun n _ cl=>dI (aq (cG B (bc cl _ (.tail _ (.head _))) n) rfl)
noncomputable abbrev uR (m:Str)(g:List Bool):T:=.tup [.str m,gT g]
theorem tN (B:zH bs g)(B':zH bs g'){x:Sy}(hx:x∈bs)(hk:(∃a,x=.next a)∨(∃a c,x=.till a c)∨∃a,x=.always a)(cl:∀p∈cg x,cU bs p){n:Nat}(hn:dep x≤n):
  ai Ψ (n+2) 11 [aX x,gW bs,uR m g,uR m' g'] σ=.ret (.bool (fW bs m g m' g' x)) σ:=by
 obtain _ |n:=n
 ·rcases hk with ⟨a,rfl⟩ | ⟨a,c,rfl⟩ | ⟨a,rfl⟩<;>cases hn
 have gd:=cG (σ:=σ) B' hx (n+1)
 rcases hk with ⟨a,rfl⟩ | ⟨a,c,rfl⟩ | ⟨a,rfl⟩
 ·exact mn (aq (kX B' a n (Nat.le_of_succ_le_succ hn) (cl a (.head _))) rfl)
 ·have h:=Nat.max_le.mp (Nat.le_of_succ_le_succ hn)
  have ea:=kX (m:=m) (σ:=σ) B a n h.1 (cl a (.head _))
  refine mn (aq (kX B c n h.2 (cl c (.tail _ (.head _)))) ?_)
  rw [fV]
  cases so m bs g c with
  |true=>rfl
  |false=>
   refine aq ea ?_
   cases so m bs g a with
   |false=>rfl
   |true=>exact aq gd rfl
 ·refine mn (aq (kX B a n (Nat.le_of_succ_le_succ hn) (cl a (.head _))) ?_)
  rw [eA]
  cases so m bs g a with
  |false=>rfl
  |true=>exact aq gd rfl
theorem AR (B:zH bs g){x:Sy}(hx:x∈bs)(hk:(∃a c,x=.till a c)∨∃a,x=.always a)(cl:∀p∈cg x,cU bs p){n:Nat}(hn:dep x≤n):
  ai Ψ (n+2) 14 [aX x,.str m,gW bs,gT g] σ=.ret (.bool (met bs m g x)) σ:=by
 obtain _ |n:=n
 ·rcases hk with ⟨a,c,rfl⟩ | ⟨a,rfl⟩<;>cases hn
 have gd:=cG (σ:=σ) B hx (n+1)
 rcases hk with ⟨a,c,rfl⟩ | ⟨a,rfl⟩
 ·have h:=Nat.max_le.mp (Nat.le_of_succ_le_succ hn)
  refine mq (aq gd ?_)
  rw [iW]
  cases look bs g (.till a c) with
  |false=>rfl
  |true=>exact aq (kX B c n h.2 (cl c (.tail _ (.head _)))) rfl
 ·refine mq (aq gd ?_)
  rw [fw]
  cases look bs g (.always a) with
  |true=>rfl
  |false=>exact aq (kX B a n (Nat.le_of_succ_le_succ hn) (cl a (.head _))) rfl
theorem vT {t:T}(n:Nat):ai Ψ (n+1) 14 [.none,.str m,t,gT g] σ=.ret (.bool true) σ:=mq rfl
end
section
variable {bs:List Sy} {g g':List Bool} {m m':Str} {σ:Sg}
theorem y5 {s:Sy}(hs:bs=ao s)(B:zH bs g)(B':zH bs g'){n:Nat}(hn:∀x∈bs,dep x≤n):
  ai Ψ (n+3) 12 [gW bs,uR m g,uR m' g'] σ=.ret (.bool (oQ bs m g m' g')) σ:=by
 have lp:∀(l:List Sy) (x3:Option T) (k:PK aH),(∀x∈l,x∈bs)→(∀x3,k [some (gW bs),some (uR m g),some (uR m' g'),x3] σ=.ret (.bool true) σ)→
   cn (aJ 3) (ae (be (p2 jW (ak 9 (aa (pV 3) (aa (pV 0) (aa (p2 aj (pV 1) (pC (.int 1))) ah)))) (ak 11 (aa (pV 3) (aa (pV 0) (aa (pV 1) (aa (pV 2) ah)))))) (ae (au (pC (.bool false))) af) af) af) ⟨ai Ψ (n+2)⟩ (l.map aX) [some (gW bs),some (uR m g),some (uR m' g'),x3] σ k=.ret (.bool (l.all fun x=>look bs g x==fW bs m g m' g' x)) σ:=by
  intro l
  induction l with
  |nil=>exact fun x3 k _ hk=>hk x3
  |cons x l ih=>
   intro x3 k hl hk
   have hx:=hl x (.head _)
   have e:=ih (some (aX x)) k (fun y hy=>hl y (.tail _ hy)) hk
   refine aq (cG B hx (n+1)) (aq (tN B B' hx (dL (hs▸hx)) (fun p hp=>hs▸cq (hs▸hx) hp) (hn x hx)) ?_)
   rw [List.all_cons]
   cases look bs g x<;>cases fW bs m g m' g' x<;>first |rfl |exact e
 exact uH (lp bs none _ (fun _ h=>h) fun _=>rfl)
theorem nH {α β:Type}{f:α→β}(inj:∀x y,f x=f y→x=y){l:List α}(h:l.Nodup):(l.map f).Nodup:=List.pairwise_map.mpr (List.Pairwise.imp (fun q e=>q (inj _ _ e)) h)
noncomputable def gL:Nat→List (List Bool)
 | 0=>[[]]
 |n+1=>(gL n).map (·++[false])++(gL n).map (·++[true])
theorem eX:∀{n:Nat} {g:List Bool},g∈gL n→g.length=n:=by
 intro n
 induction n with
 |zero=>intro g h;cases List.mem_singleton.mp h;rfl
 |succ n ih=>
  intro g h
  rcases List.mem_append.mp h with h |h<;>(obtain ⟨a,ha,rfl⟩:=List.mem_map.mp h;rw [List.length_append,ih ha];rfl)
theorem mL:∀{n:Nat} {g:List Bool},g.length=n→g∈gL n:=by
 intro n
 induction n with
 |zero=>intro g h;rw [List.length_eq_zero_iff.mp h];exact .head _
 |succ n ih=>
  intro g h
  rcases List.eq_nil_or_concat g with rfl | ⟨a,b,rfl⟩
  ·cases h
  ·rw [List.concat_eq_append] at h ⊢
   rw [List.length_append] at h
   have ha:=ih (Nat.succ.inj h)
   cases b with
   |false=>exact List.mem_append_left _ (List.mem_map.mpr ⟨a,ha,rfl⟩)
   |true=>exact List.mem_append_right _ (List.mem_map.mpr ⟨a,ha,rfl⟩)
theorem mJ:∀n:Nat,(gL n).Nodup:=by
 intro n
 induction n with
 |zero=>exact List.pairwise_singleton _ _
 |succ n ih=>
  have inj:∀b:Bool,((gL n).map (·++[b])).Nodup:=fun b=>nH (fun x y h=>List.append_inj_left' h rfl) ih
  refine List.nodup_append.mpr ⟨inj _,inj _,fun a ha b hb e=>?_⟩
  obtain ⟨x,_,rfl⟩:=List.mem_map.mp ha
  obtain ⟨y,_,rfl⟩:=List.mem_map.mp hb
  cases List.append_inj_right' e rfl
theorem lT (n:Nat):∀(l:List T),l.length≤4→ai Ψ (n+1) 8 [.lst l] σ=.ret (.lst ((gL l.length).map gT)) σ
 | [],_=>cA (by kernel_rfl)
 | [_],_=>cA (by kernel_rfl)
 | [_,_],_=>cA (by kernel_rfl)
 | [_,_,_],_=>cA (by kernel_rfl)
 | [_,_,_,_],_=>cA (by kernel_rfl)
 |_::_::_::_::_::_,h=>absurd h (by rw [List.length_cons,List.length_cons,List.length_cons,List.length_cons,List.length_cons];lia -abstractProof)
end
section
variable {σ:Sg}
theorem lz (s:Sy)(n:Nat):ai Ψ (n+1) 2 [aX s] σ=.ret (.lst ((cg s).map aX)) σ:=by cases s<;>exact sg (by kernel_rfl)
theorem AH (s:Sy)(n:Nat):ai Ψ (n+1) 6 [aX s] σ=.ret (gW (bB s)) σ:=by cases s<;>exact qJ (by kernel_rfl)
theorem cS {s p:Sy}(h:p∈cg s):dep p < dep s:=by
 cases s with
 |mark |yes=>cases h
 |not |next |always |again=>cases List.mem_singleton.mp h;exact Nat.lt_succ_self _
 |and |or |till=>
  rcases List.mem_cons.mp h with rfl |h
  ·exact Nat.lt_succ_of_le (Nat.le_max_left _ _)
  ·cases List.mem_singleton.mp h;exact Nat.lt_succ_of_le (Nat.le_max_right _ _)
theorem xj (s:Sy):ao s=ext ((cg s).foldl (fun f a=>ext f (ao a)) []) (bB s):=by cases s<;>rfl
theorem pj:∀{s t:Sy},t∈all s→dep t≤dep s:=by
 have two:∀(s a c:Sy),(∀{t},t∈all a→dep t≤dep a)→(∀{t},t∈all c→dep t≤dep c)→dep s=max (dep a) (dep c)+1→∀{t},t∈s::(all a++all c)→dep t≤dep s:=fun s a c ha hc e t h=>by
  rcases List.mem_cons.mp h with rfl |h
  ·exact Nat.le_refl _
  ·rw [e]
   rcases List.mem_append.mp h with h |h
   ·exact Nat.le_succ_of_le (Nat.le_trans (ha h) (Nat.le_max_left _ _))
   ·exact Nat.le_succ_of_le (Nat.le_trans (hc h) (Nat.le_max_right _ _))
 have one:∀(s a:Sy),(∀{t},t∈all a→dep t≤dep a)→dep s=dep a+1→∀{t},t∈s::all a→dep t≤dep s:=fun s a ha e t h=>by
  rcases List.mem_cons.mp h with rfl |h
  ·exact Nat.le_refl _
  ·rw [e];exact Nat.le_succ_of_le (ha h)
 intro s
 induction s with
 |mark |yes=>intro t h;cases List.mem_singleton.mp h;exact Nat.le_refl _
 |not a ih |next a ih |always a ih |again a ih=>exact one _ a ih rfl
 |and a c ih ih' |or a c ih ih' |till a c ih ih'=>exact two _ a c ih ih' rfl
theorem fG (s:Sy):1≤dep s:=by cases s<;>exact Nat.succ_le_succ (Nat.zero_le _)
theorem d6 {s x:Sy}(h:x∈ao s):dep x≤dep s+1:=by
 obtain ⟨t,h1,h2⟩:=aI.mp h
 refine Nat.le_trans ?_ (Nat.succ_le_succ (pj h1))
 cases t with
 |mark |yes |not |and |or=>cases h2
 |next |till |always=>cases List.mem_singleton.mp h2;exact Nat.le_succ _
 |again a=>
  have e:max 1 (dep a)=dep a:=Nat.max_eq_right (fG a)
  rcases List.mem_cons.mp h2 with rfl |h2
  ·show max 1 (dep a)+1≤dep a+1+1
   rw [e];exact Nat.le_succ _
  ·cases List.mem_singleton.mp h2
   show max 1 (dep a)+1+1≤dep a+1+1
   rw [e];exact Nat.le_refl _
theorem fE (f xs:List Sy):(ext f xs).length≤f.length+xs.length:=by
 rw [ext,List.length_append];exact Nat.add_le_add_left (List.length_filter_le _ _) _
theorem uL:∀s:Sy,(ao s).length+2≤2 ^ (dep s+1):=by
 have p0:∀n,2≤2 ^ (n+1):=fun n=>by rw [Nat.pow_succ];have:=Nat.one_le_two_pow (n:=n);lia -abstractProof
 have two:∀(s a c:Sy),(ao a).length+2≤2 ^ (dep a+1)→(ao c).length+2≤2 ^ (dep c+1)→dep s=max (dep a) (dep c)+1→ao s=ext (ext (ext [] (ao a)) (ao c)) (bB s)→(bB s).length≤1→(ao s).length+2≤2 ^ (dep s+1):=fun s a c ha hc e e2 h=>by
  have h1:=Nat.pow_le_pow_right (n:=2) (by decide) (Nat.succ_le_succ (Nat.le_max_left (dep a) (dep c)))
  have h2:=Nat.pow_le_pow_right (n:=2) (by decide) (Nat.succ_le_succ (Nat.le_max_right (dep a) (dep c)))
  rw [e,e2,Nat.pow_succ]
  have h3:=fE (ext (ext [] (ao a)) (ao c)) (bB s)
  have h4:=fE (ext [] (ao a)) (ao c)
  have h5:=fE [] (ao a)
  rw [List.length_nil] at h5
  lia -abstractProof
 have one:∀(s a:Sy),(ao a).length+2≤2 ^ (dep a+1)→dep s=dep a+1→ao s=ext (ext [] (ao a)) (bB s)→(bB s).length≤2→(ao s).length+2≤2 ^ (dep s+1):=fun s a ha e e2 h=>by
  rw [e,e2,Nat.pow_succ]
  have h3:=fE (ext [] (ao a)) (bB s)
  have h5:=fE [] (ao a)
  rw [List.length_nil] at h5
  lia -abstractProof
 intro s
 induction s with
 |mark |yes=>exact p0 _
 |not a ih |next a ih |always a ih |again a ih=>exact one _ a ih rfl rfl (Nat.le_of_ble_eq_true rfl)
 |and a c ih ih' |or a c ih ih' |till a c ih ih'=>exact two _ a c ih ih' rfl rfl (Nat.le_of_ble_eq_true rfl)
end
section
variable {σ:Sg}
theorem ma {ρ:aH}{i:Nat}{f xs:List Sy}{c:fT}{k:PK (List T)}{r:cz}(h1:∀v,bz (ρ.set i (some v)) i=some v)(h2:∀v,bz (ρ.set i (some v)) 1=some (gW f))(hf:∀x∈f,dep x≤40)(hx:∀x∈xs,dep x≤40)
  (hk:k ((xs.filter fun x=>!f.contains x).map aX) σ=r):aY (aJ i) (p2 fP (pV i) (pV 1)) (pV i) c ρ (xs.map aX) σ [] k=r:=by
 refine eT (fun x=>!f.contains x) aX (fun a ha=>⟨_,rfl,fun k=>?_,fun _ k=>?_⟩) hk
 ·show up (bz (List.set ρ i (some (aX a))) i) σ (fun v σ=>up (bz (List.set ρ i (some (aX a))) 1) σ fun w σ=>up (fP v w) σ k)=_
  rw [h1,h2,List.contains_eq_mem]
  show up (fP (aX a) (gW f)) σ k=_
  exact ab ((r5 40).nin (by decide) (hx a ha) hf rfl) rfl
 ·show up (bz (List.set ρ i (some (aX a))) i) σ k=_
  rw [h1];rfl
theorem xi {a:Sy}{d:Nat}(h:dep a≤d)(hd:d≤8):(ao a).length≤1024:=
 Nat.le_trans (Nat.le_trans (Nat.le_add_right _ 2) (uL a)) (Nat.pow_le_pow_right (j:=10) (by decide) (Nat.succ_le_succ (Nat.le_trans h (Nat.le_succ_of_le hd))))
theorem oW {x:Sy}{d:Nat}(h:dep x≤d+1)(hd:d≤8):dep x≤40:=Nat.le_trans h (Nat.le_trans (Nat.succ_le_succ hd) (by decide))
theorem oE (f xs:List Sy)(h:f.length+xs.length≤20000):f.length+(xs.filter fun x=>!f.contains x).length≤lim:=
 Nat.le_trans (Nat.add_le_add_left (List.length_filter_le _ _) _) (Nat.le_trans h (by decide))
noncomputable abbrev C3:PS:=ae (gY 1 hE (aB (aG (ak 500 (aa (pV 2) ah))) (aJ 3) (p2 fP (pV 3) (pV 1)) (pV 3))) af
theorem sr {c:fT}{t:Option T}{d:Nat}(hd:d≤8):∀(l:List Sy),(∀a∈l,dep a≤d∧c.call 500 [aX a] σ=.ret (gW (ao a)) σ)→∀(f:List Sy) (x2:Option T) {k:PK aH} {r:cz},(∀x∈f,dep x≤d+1)→f.length+l.length * 1024≤10240→
  (∀f' x2,f'=l.foldl (fun f a=>ext f (ao a)) f→(∀x∈f',dep x≤d+1)→f'.length≤10240→k [t,some (gW f'),x2,none,none] σ=r)→cn (aJ 2) C3 c (l.map aX) [t,some (gW f),x2,none,none] σ k=r:=by
 intro l
 induction l with
 |nil=>intro _ f x2 k r h1 h2 hk;exact hk f x2 rfl h1 (Nat.le_trans (Nat.le_add_right _ _) h2)
 |cons a l ih=>
  intro hl f x2 k r hf hlen hk
  obtain ⟨h1,h2⟩:=hl a (.head _)
  have d1:∀x∈ao a,dep x≤d+1:=fun x hx=>Nat.le_trans (d6 hx) (Nat.succ_le_succ h1)
  have bl:=xi h1 hd
  have el:=fE f (ao a)
  rw [List.length_cons] at hlen
  refine aq h2 (ma (fun _=>rfl) (fun _=>rfl) (fun x hx=>oW (hf x hx) hd) (fun x hx=>oW (d1 x hx) hd) (ab (oT (l:=f) (oE f _ ?_)) ?_))
  ·lia
  ·exact ih (fun b hb=>hl b (.tail _ hb)) (ext f (ao a)) _ (fun x hx=>(iY.mp hx).elim (hf x) (d1 x)) (by lia -abstractProof) hk
theorem je:∀(n:Nat) (s:Sy),dep s≤n→dep s≤8→ai Ψ (n+1) 500 [aX s] σ=.ret (gW (ao s)) σ:=by
 intro n
 induction n with
 |zero=>intro s h;exact absurd (fG s) (Nat.not_le.mpr (Nat.lt_succ_of_le h))
 |succ n ih=>
  intro s h hn
  have hp:∀a∈cg s,dep a≤7:=fun a ha=>Nat.le_of_lt_succ (Nat.lt_of_lt_of_le (cS ha) hn)
  have pl:(cg s).length≤2:=by cases s<;>exact Nat.le_of_ble_eq_true rfl
  have ol:(bB s).length≤2:=by cases s<;>exact Nat.le_of_ble_eq_true rfl
  rw [xj s]
  refine sk (aq (lz s n) (sr (d:=7) (by decide) (cg s) (fun a ha=>⟨hp a ha,ih a (Nat.le_of_lt_succ (Nat.lt_of_lt_of_le (cS ha) h)) (Nat.le_succ_of_le (hp a ha))⟩) [] none (fun _ h=>nomatch h) (by rw [List.length_nil];lia -abstractProof) ?_))
  rintro f' x2 rfl h1 h2
  exact aq (AH s n) (ma (fun _=>rfl) (fun _=>rfl) (fun x hx=>oW (h1 x hx) (by decide)) (fun x hx=>oW (d6 (aI.mpr ⟨s,dO s,hx⟩)) hn) (ab (oT (l:=(cg s).foldl (fun f a=>ext f (ao a)) []) (oE _ _ (by lia -abstractProof))) rfl))
end
noncomputable def xD:Str:=ofString "abcdefghijklmnopqrstuvwxyz"
noncomputable def DX (c:Nat):Bool:=Nat.ble 97 c&&Nat.ble c 122
noncomputable def Lw (x:Str):Prop:=∀c∈x.cps.toList,DX c=true
theorem oP {c:Nat}(h:DX c=true):97≤c∧c≤122:=⟨Nat.le_of_ble_eq_true (Bool.and_eq_true_iff.mp h).1,Nat.le_of_ble_eq_true (Bool.and_eq_true_iff.mp h).2⟩
theorem rY:∀k,k < 26→Txt.contains xD ⟨#[97+k]⟩=true:=by decide+kernel
theorem Ba {c:Nat}(h:DX c=true):Txt.contains xD ⟨#[c]⟩=true:=by
 obtain ⟨h1,h2⟩:=oP h
 obtain ⟨k,rfl⟩:=Nat.exists_eq_add_of_le h1
 exact rY k (Nat.lt_of_add_lt_add_left (n:=97) (Nat.lt_succ_of_le h2))
theorem mH {α:Type}(l:List α):jl (.lst (l.map fun _=>.bool true))=some (.bool true):=by rw [all_map l fun _=>true,List.all_eq_true.mpr fun _ _=>rfl]
theorem o4 {α:Type}{n:Nat}{x:α}(h:n≤lim):nV n x=some x:=by rw [nV,show bU n=true from Nat.ble_eq_true_of_le h];rfl
structure Mk (x:Str):Prop where
 len:x.length≤6
 lw:Lw x
section
variable {σ:Sg}
theorem lQ {x:Str}(h:Mk x)(n:Nat):ai Ψ (n+1) 1 [.str x] σ=.ret (.bool true) σ:=by
 refine uF ?_
 have e1:decide ((x.length:Int) > 6)=false:=decide_eq_false (by have:=h.len;lia -abstractProof)
 have e2:x.cps.all (· < 128)=true:=Array.all_eq_true_iff_forall_mem.mpr fun c hc=>decide_eq_true (by have:=oP (h.lw c (Array.mem_toList_iff.mpr hc));lia -abstractProof)
 show (bif decide ((x.length:Int) > 6) then cz.ret (.bool false) σ else up (bif x.cps.all (· < 128) then some (x.cps.toList.map fun c=>T.str ⟨#[c]⟩) else none) σ fun xs σ=>aY (aJ 1) ay (pB (p2 Dk (pV 1) (pC (.str xD)))) ⟨ai Ψ n⟩ [some (.str x),none] xs σ [] fun ys σ=>up (jl (.lst ys)) σ fun v σ=>.ret v σ)=_
 rw [e1,e2]
 show aY _ _ _ _ _ (x.cps.toList.map fun c=>T.str ⟨#[c]⟩) σ [] _=_
 refine bb (fun _=>.bool true) (fun c hc=>⟨_,rfl,fun k=>?_⟩) ?_
 ·show k (.bool (Txt.contains xD ⟨#[c]⟩)) σ=_
  rw [Ba (h.lw c hc)]
 ·exact ab (mH _) rfl
noncomputable def Gm (s:Sy):Prop:=∀x,.mark x∈all s→Mk x∧x≠ofString ""
theorem y7 {s:Sy}(h:Gm s)(n:Nat):ai Ψ (n+2) 3 [aX s] σ=.ret (.bool true) σ:=by
 cases s with
 |mark x=>
  obtain ⟨h1,h2⟩:=h x (.head _)
  refine mr (aq (lQ h1 n) ?_)
  show up (jW (.str x) (.str (ofString ""))) σ (fun b σ=>.ret (.bool b) σ)=_
  rw [ze.isN (by decide) trivial trivial,decide_eq_false h2];rfl
 |_=>exact mr (by kernel_rfl)
theorem tM:∀(n d:Nat) (s:Sy),dep s≤d→d≤n→Gm s→ai Ψ (n+2) 4 [aX s,.int d] σ=.ret (.bool true) σ:=by
 intro n
 induction n with
 |zero=>intro d s h h';exact absurd (fG s) (Nat.not_le.mpr (Nat.lt_succ_of_le (Nat.le_trans h h')))
 |succ n ih=>
  rintro (_ |d) s h h' hg
  ·exact absurd (fG s) (Nat.not_le.mpr (Nat.lt_succ_of_le h))
  refine qK (aq (y7 hg n) (aq (lz s _) ?_))
  refine bb (e:=aX) (fun _=>.bool true) (fun p hp=>⟨_,rfl,fun k=>?_⟩) ?_
  ·have:=ih d p (Nat.le_of_lt_succ (Nat.lt_of_lt_of_le (cS hp) h)) (Nat.le_of_succ_le_succ h') fun x hx=>hg x (mI hp hx)
   refine aq (t:=.bool true) (σ:=σ) ?_ rfl
   rw [show (((d+1:Nat):Int) - 1)=(d:Int) by lia -abstractProof];exact this
  ·exact ab (mH (cg s)) rfl
structure Gs (s:Sy):Prop where
 dep:dep s≤5
 few:(ao s).length≤4
 gm:Gm s
theorem yy {s:Sy}(h:Gs s)(n:Nat):ai Ψ (n+9) 7 [aX s] σ=.ret (aX s) σ:=by
 have e:decide (((((ao s).map aX).length:Nat):Int) > 4)=false:=decide_eq_false (by have:=h.few;rw [List.length_map];lia -abstractProof)
 refine m8 (aq (qL (aq (tM (n+5) 5 s h.dep (Nat.le_add_left _ _) h.gm) rfl)) (aq (je _ s ?_ ?_) ?_))
 ·exact Nat.le_trans h.dep (Nat.le_add_left _ (n+2))
 ·exact Nat.le_trans h.dep (by decide)
 ·show (bif decide (((((ao s).map aX).length:Nat):Int) > 4) then cz.bad else .ret (aX s) σ)=_
  rw [e];rfl
noncomputable def DW:Sy→Bool
 |.till _ _=>true
 |.always _=>true
 |_=>false
noncomputable def qa (s:Sy):List Sy:=(ao s).filter DW
noncomputable abbrev tY (s:Sy):List T:=.none::(qa s).map aX
theorem qc {s:Sy}(h:dep s≤8)(hl:(ao s).length≤1000)(n:Nat):ai Ψ (n+10) 13 [aX s] σ=.ret (.lst (tY s)) σ:=by
 refine m7 (aq (je (n+8) s (Nat.le_trans h (Nat.le_add_left _ _)) h) (eT DW aX (fun x hx=>⟨_,rfl,fun k=>?_,fun _ _=>rfl⟩) ?_))
 ·rcases dL hx with ⟨a,rfl⟩ | ⟨a,c,rfl⟩ | ⟨a,rfl⟩<;>kernel_rfl
 ·refine ab (a:=.lst (tY s)) ?_ rfl
  show nV ((T.none::(qa s).map aX).length) (T.lst (tY s))=_
  exact o4 (Nat.succ_le_of_lt (Nat.lt_of_le_of_lt (Nat.le_trans (Nat.le_of_eq (List.length_map ..)) (Nat.le_trans (List.length_filter_le ..) hl)) (by decide)))
end
noncomputable abbrev nT (p:Nat):T:=.int p
noncomputable abbrev dq (r:List Nat):T:=.lst (r.map nT)
structure Mc where
 names:List Str
 roads:List (List Nat)
 firsts:List Nat
structure uT (n:Nat) (r:List Nat):Prop where
 ne:r≠[]
 nd:r.Nodup
 lt:∀p∈r,p < n
structure Mc.Ok (M:Mc):Prop where
 pos:1≤M.names.length
 few:M.names.length≤8
 marks:∀x∈M.names,Mk x
 len:M.roads.length=M.names.length
 rows:∀r∈M.roads,uT M.names.length r
 firsts:uT M.names.length M.firsts
noncomputable abbrev Mc.fs (M:Mc):List T:=[.lst (M.names.map .str),.lst (M.roads.map dq),dq M.firsts]
noncomputable abbrev Mc.t (M:Mc):T:=.obj 0 M.fs
noncomputable def Mc.mark (M:Mc)(p:Nat):Str:=(M.names[p]?).getD default
noncomputable def Mc.road (M:Mc)(p:Nat):List Nat:=(M.roads[p]?).getD []
section
variable {σ:Sg} {M:Mc}
theorem Mc.Ok.lim (O:M.Ok){p:Nat}(h:p < M.names.length):p≤lim:=Nat.le_trans (Nat.le_of_lt h) (Nat.le_trans O.few (by decide))
theorem wJ {α:Type}{l:List α}{i:Nat}{d:α}(h:i < l.length):l[i]?=some ((l[i]?).getD d):=by rw [List.getElem?_eq_getElem h];rfl
theorem iZ (O:M.Ok){p:Nat}(h:p < M.names.length)(n:Nat):ai Ψ (n+1) 1007 [M.t,nT p] σ=.ret (.str (M.mark p)) σ:=
 my (mt (bR (e:=T.str) (wJ h) (O.lim h)) rfl)
theorem wc (O:M.Ok){p:Nat}(h:p < M.names.length)(n:Nat):ai Ψ (n+1) 1008 [M.t,nT p] σ=.ret (dq (M.road p)) σ:=
 kq (mt (bR (e:=dq) (wJ (O.len▸h)) (O.lim h)) rfl)
theorem tQ (n:Nat):ai Ψ (n+1) 1009 [M.t] σ=.ret (dq M.firsts) σ:=jJ rfl
theorem vr {p n:Nat}(h:p < n)(k:Nat):ai Ψ (k+1) 15 [nT p,nT n] σ=.ret (.bool true) σ:=
 sj (show cz.ret (.bool (decide ((p:Int) < (n:Int)))) σ=_ by rw [decide_eq_true (Int.ofNat_lt.mpr h)])
theorem nF {n:Nat}{r:List Nat}(R:uT n r)(hr:r.length≤1000)(k:Nat):ai Ψ (k+2) 16 [dq r,nT n] σ=.ret .none σ:=by
 have lp:∀(suf pre:List Nat) (x2 x3:Option T),r=pre++suf→cn (xV 2 3) (ae (be (eY (dE (qE (ak 15 (aa (pV 3) (aa (pV 1) ah))))) (eY (p2 i5 (pV 3) (p3 bE (pV 0) iw (p1 ck (pV 2)))) bJ)) (ae gZ af) af) af)
   ⟨ai Ψ (k+1)⟩ (j0 pre.length (suf.map nT)) [some (dq r),some (nT n),x2,x3] σ (fun ρ σ=>af ⟨ai Ψ (k+1)⟩ ρ σ (kE 16))=.ret .none σ:=fun suf=>by
  induction suf with
  |nil=>intro pre x2 x3 _;rfl
  |cons p suf ih=>
   intro pre x2 x3 e
   have hp:p∈r:=e▸List.mem_append_right _ (.head _)
   have e1:i5 (nT p) (.lst (cut none (some (pre.length:Int)) (r.map nT)))=some false:=by
    rw [oZ,jG,e,List.take_left]
    refine (zf.mem (by decide) (l:=pre) trivial (fun _ _=>trivial) rfl).trans (congrArg some (decide_eq_false fun q=>?_))
    have:=R.nd
    rw [e] at this
    exact (List.nodup_append.mp this).2.2 p q p (.head _) rfl
   refine aq (vr (R.lt p hp) k) ?_
   refine mt nr (mt e1 ?_)
   have:=ih (pre++[p]) (some (nT pre.length)) (some (nT p)) (by rw [e,List.append_assoc];rfl)
   rw [List.length_append] at this
   exact this
 have e:bI (.int ((r.map nT).length:Nat)) (.int 0)=some false:=by
  rw [eK];exact congrArg some (decide_eq_false fun q=>R.ne (List.length_eq_zero_iff.mp (by rw [List.length_map] at q;lia -abstractProof)))
 exact m9 (az (Option.some.inj e) (lp r [] none none rfl))
theorem EY {o:Option Bool}{x y z r:cz}(h:o=some true)(h2:x=r):(match (generalizing:=false) o with |some true=>x |some false=>y |none=>z)=r:=by rw [h];exact h2
theorem wd {a c:Nat}(h:a≤c):BJ (.int a) (.int c)=some true:=congrArg some (decide_eq_true (Int.ofNat_le.mpr h))
theorem vO {a c:Nat}(h:a=c):jW (.int a) (.int c)=some false:=by rw [jW,eK,decide_eq_true (by rw [h])];rfl
theorem yZ (O:M.Ok){sp:Int}(n:Nat):ai Ψ (n+3) 1006 [.self,.lst (M.names.map .str),.lst (M.roads.map dq),dq M.firsts] ⟨sp,some (0,[])⟩=.ret .none ⟨sp,some (0,M.fs)⟩:=by
 have l1:(M.names.map T.str).length=M.names.length:=List.length_map ..
 have rl:∀{r:List Nat},uT M.names.length r→r.length≤1000:=fun {r} R=>Nat.le_trans (aQ (m:=List.range M.names.length) R.nd fun p hp=>List.mem_range.mpr (R.lt p hp)) (by rw [List.length_range];exact Nat.le_trans O.few (by decide))
 have lp:∀(l:List (List Nat)),(∀r∈l,uT M.names.length r)→∀(x4:Option T) {k:PK aH} {r:cz},(∀x4,k [some .self,some (.lst (M.names.map .str)),some (.lst (M.roads.map dq)),some (dq M.firsts),x4,none,none] ⟨sp,some (0,[])⟩=r)→
   cn (aJ 4) (ae (kN (ak 16 (aa (pV 4) (aa (p1 aO (pV 1)) ah)))) af) ⟨ai Ψ (n+2)⟩ (l.map dq) [some .self,some (.lst (M.names.map .str)),some (.lst (M.roads.map dq)),some (dq M.firsts),x4,none,none] ⟨sp,some (0,[])⟩ k=r:=fun l=>by
  induction l with
  |nil=>exact fun _ x4 _ _ hk=>hk x4
  |cons r l ih=>
   intro hl x4 k _ hk
   have R:=hl r (.head _)
   rw [←l1] at R
   exact aq (nF R (rl (hl r (.head _))) n) (ih (fun r h=>hl r (.tail _ h)) _ hk)
 refine iA (EY (wd (a:=1) (l1▸O.pos)) (az (c:=!decide _) (congrArg not (Option.some.inj (wd (c:=12) (l1▸Nat.le_trans O.few (by decide))))) ?_))
 refine bb (e:=T.str) (fun _=>.bool true) (fun x hx=>⟨_,rfl,fun k=>aq (lQ (O.marks x hx) _) rfl⟩) (mt (mH _) (az (Option.some.inj (vO (a:=(M.roads.map dq).length) (c:=(M.names.map T.str).length) (by rw [List.length_map,List.length_map,O.len]))) ?_))
 refine lp M.roads O.rows none fun x4=>?_
 refine aq (nF (l1▸O.firsts) (rl O.firsts) n) ?_
 exact bb (e:=dq) dq (fun r _=>⟨_,rfl,fun k=>rfl⟩) rfl
end
structure Kw where
 m:Str
 g:List Bool
 b:Str
noncomputable instance:DecidableEq Kw:=fun a b=>Classical.propDecidable (a=b)
noncomputable abbrev Cw (k:Kw):T:=.tup [uR k.m k.g,.str k.b]
noncomputable def EZ (k:Kw):Ky:=.tup [.tup [.str k.m,.tup (k.g.map fun b=>.int (tC b))],.str k.b]
theorem A4 {a c:Kw}(h1:a.m=c.m)(h2:a.g=c.g)(h3:a.b=c.b):a=c:=by
 show Kw.mk a.m a.g a.b=Kw.mk c.m c.g c.b
 rw [h1,h2,h3]
theorem lP:q0 Cw EZ:=⟨fun a=>by
  have e:kA 4 (gT a.g)=some (.tup (a.g.map fun b=>.int (tC b))):=by rw [z8,lN];rfl
  show o1 (o2 (o1 (o2 (some (Ky.str a.m)) (o2 (kA 4 (gT a.g)) (some []) fun k ks=>some (k::ks)) fun k ks=>some (k::ks)) fun ks=>some (Ky.tup ks)) (some [Ky.str a.b]) fun k ks=>some (k::ks)) (fun ks=>some (Ky.tup ks))=_
  rw [e];rfl,
 fun a c h=>by
  have h1:=List.cons.inj (Ky.tup.inj h)
  have h2:=List.cons.inj (Ky.tup.inj h1.1)
  exact A4 (Ky.str.inj h2.1) (jK (Ky.tup.inj (List.cons.inj h2.2).1)) (Ky.str.inj (List.cons.inj h1.2).1)⟩
theorem s8 {α:Type}{e:α→T}{κ:α→Ky} [DecidableEq α] (K:q0 e κ){l:List α}{vs:List T}(a:α):dW (e a) (.dct (l.map e) vs)=some (!decide (a∈l)):=by
 show (Ab _ _).map _=_
 rw [K.has];rfl
section
variable {M:Mc} {s:Sy}
noncomputable def beh (s:Sy)(m:Str)(g:List Bool)(m':Str):List (List Bool):=(gL (ao s).length).filter fun g'=>oQ (ao s) m g m' g'
noncomputable def th (M:Mc)(s:Sy)(k:Kn):List Kn:=(M.road k.p).flatMap fun q=>(beh s (M.mark k.p) k.g (M.mark q)).map (Kn.mk q)
noncomputable abbrev eJ (s:Sy)(kk:List Kw):T:=.dct (kk.map Cw) (kk.map fun k=>.lst ((beh s k.m k.g k.b).map gT))
noncomputable abbrev B0 (M:Mc)(s:Sy)(D:List Kn):T:=.dct (D.map aN) (D.map fun k=>.lst ((th M s k).map aN))
noncomputable abbrev wS (M:Mc)(s:Sy)(sp:Int)(kk:List Kw)(K:List Kn)(bg:Nat)(D:List Kn):Sg:=⟨sp,some (10,[gW (ao s),.lst (tY s),M.t,eJ s kk,.lst (K.map aN),.int bg,B0 M s D])⟩
theorem Gs.bds (G:Gs s){g:List Bool}(h:g.length=(ao s).length):zH (ao s) g:=⟨fun x hx=>Nat.le_trans (d6 hx) (Nat.le_trans (Nat.succ_le_succ G.dep) (by decide)),h,Nat.le_trans G.few (by decide)⟩
variable {sp:Int} {kk:List Kw} {K:List Kn} {bg:Nat} {D:List Kn}
theorem uM (G:Gs s){m m':Str}{g:List Bool}(hg:g.length=(ao s).length)(hl:kk.length < lim)(n:Nat):
  aT (fun t σ'=>t=.lst ((beh s m g m').map gT)∧∃kk',kk'.length≤kk.length+1∧σ'=wS M s sp kk' K bg D) (ai Ψ (n+20) 1004 [.self,uR m g,.str m'] (wS M s sp kk K bg D)):=by
 refine f9 ?_
 by_cases h:(⟨m,g,m'⟩:Kw)∈kk
 ·refine dA (o:=dW (Cw ⟨m,g,m'⟩) (eJ s kk)) (a:=false) ?_ ?_
  ·rw [eJ,s8 lP,decide_eq_true h];rfl
  ·exact dA (lP.get (a:=⟨m,g,m'⟩) h) (cv ⟨rfl,kk,Nat.le_succ _,rfl⟩)
 ·refine dA (o:=dW (Cw ⟨m,g,m'⟩) (eJ s kk)) (a:=true) ?_ ?_
  ·rw [eJ,s8 lP,decide_eq_false h];rfl
  ·have gl:=lT (σ:=wS M s sp kk K bg D) (n+18) ((ao s).map aX) (by rw [List.length_map];exact G.few)
   rw [List.length_map] at gl
   refine fO gl (w8 (e:=gT) (fun g'=>oQ (ao s) m g m' g') gT (fun g' hg'=>⟨_,rfl,fun k=>aq (y5 rfl (G.bds hg) (G.bds (eX hg')) (n:=n+16) fun x hx=>?_) rfl,fun _ k=>rfl⟩) ?_)
   ·exact Nat.le_trans (d6 hx) (Nat.le_trans (Nat.succ_le_succ G.dep) (Nat.le_trans (by decide) (Nat.le_add_left 16 n)))
   ·refine dA (o:=dP (eJ s kk) (Cw ⟨m,g,m'⟩) (.lst ((beh s m g m').map gT))) (a:=eJ s (kk++[⟨m,g,m'⟩])) ?_ ?_
    ·rw [eJ,lP.put h hl,eJ,List.map_append (f:=fun k:Kw=>T.lst _)];rfl
    ·refine dA (lP.get (l:=kk++[⟨m,g,m'⟩]) (a:=⟨m,g,m'⟩) (List.mem_append_right _ (.head _))) (cv ⟨rfl,_,?_,rfl⟩)
     rw [List.length_append];exact Nat.le_refl _
theorem jP:∀n:Nat,(gL n).length=2 ^ n:=by
 intro n
 induction n with
 |zero=>rfl
 |succ n ih=>
  show ((gL n).map _++(gL n).map _).length=_
  rw [List.length_append,List.length_map,List.length_map,ih,Nat.pow_succ,Nat.mul_two]
theorem zu (G:Gs s)(m:Str)(g:List Bool)(m':Str):(beh s m g m').length≤16:=
 Nat.le_trans (List.length_filter_le _ _) (by rw [jP];exact Nat.pow_le_pow_right (j:=4) (by decide) G.few)
theorem AW (O:M.Ok)(G:Gs s){k:Kn}(hp:k.p < M.names.length)(hg:k.g.length=(ao s).length)(hr:∀q∈M.road k.p,q < M.names.length)(hl:(M.road k.p).length≤8)(hk:kk.length≤10000)(n:Nat):
  aT (fun t σ'=>t=.lst ((th M s k).map aN)∧∃kk',kk'.length≤kk.length+8∧σ'=wS M s sp kk' K bg D) (ai Ψ (n+21) 1003 [.self,aN k] (wS M s sp kk K bg D)):=by
 have lp:∀(l:List Nat),(∀q∈l,q < M.names.length)→∀(F:List Kn) (kk:List Kw) (x4:Option T) {κ:PK aH} {Q:T→Sg→Prop},F.length+l.length * 16≤10000→kk.length+l.length≤20000→
   (∀kk' x4,kk'.length≤kk.length+l.length→aT Q (κ [some .self,some (aN k),some (uR (M.mark k.p) k.g),some (.lst ((F++l.flatMap fun q=>(beh s (M.mark k.p) k.g (M.mark q)).map (Kn.mk q)).map aN)),x4,none] (wS M s sp kk' K bg D)))→
   aT Q (cn (aJ 4) (ae (gY 3 hE (aB (aG (rO 10 1004 (aa (pV 2) (aa (sV 0 1007 (eH 10 2) (aa (pV 4) ah)) ah)))) (aJ 5) ay (ax (aa (pV 4) (aa (pV 5) ah))))) af) ⟨ai Ψ (n+20)⟩ (l.map nT) [some .self,some (aN k),some (uR (M.mark k.p) k.g),some (.lst (F.map aN)),x4,none] (wS M s sp kk K bg D) κ):=fun l=>by
  induction l with
  |nil=>intro _ F kk x4 κ Q _ _ hk;rw [List.flatMap_nil,List.append_nil] at hk;exact hk kk x4 (Nat.le_refl _)
  |cons q l ih=>
   intro hq F kk x4 κ Q h1 h2 hk
   rw [List.length_cons] at h1 h2 hk
   have bl:=zu G (M.mark k.p) k.g (M.mark q)
   refine fO (iZ O (hq q (.head _)) _) (bF (uM G hg (Nat.lt_of_le_of_lt (Nat.le_trans (Nat.le_add_right _ _) h2) (by decide)) n) ?_)
   rintro _ _ ⟨rfl,kk',h3,rfl⟩
   refine eL (e:=gT) (fun g=>aN ⟨q,g⟩) (fun g _=>⟨_,rfl,fun _=>rfl⟩) (dA (o:=hE (.lst (F.map aN)) _) (a:=.lst ((F++(beh s (M.mark k.p) k.g (M.mark q)).map (Kn.mk q)).map aN)) ?_ (ih (fun q h=>hq q (.tail _ h)) _ kk' _ ?_ ?_ fun kk'' x4 h4=>?_))
   ·rw [←oT (by rw [List.length_map,aZ];lia),List.map_map];rfl
   ·rw [List.length_append,List.length_map];lia -abstractProof
   ·lia -abstractProof
   ·have:=hk kk'' x4 (by lia)
    rw [List.flatMap_cons,←List.append_assoc] at this
    exact this
 refine om (fO (iZ O hp _) (fO (wc O hp _) (lp (M.road k.p) hr [] kk none (by rw [List.length_nil];lia -abstractProof) (by lia) fun kk' x4 h=>cv ⟨rfl,kk',by lia,rfl⟩)))
end
theorem vU {S:List Kn}(h:S.Nodup):qy (.lst (S.map fun k=>.tup [aN k,.bool true]))=some (jB S):=by
 show o1 (l6 (S.map fun k=>.tup [aN k,.bool true]) ([].map aN) []) _=_
 rw [jI S [] [] h];rfl
section
variable {M:Mc} {s:Sy}
noncomputable def xL (M:Mc)(s:Sy):List Kn:=(List.range M.names.length).flatMap fun p=>(gL (ao s).length).map (Kn.mk p)
theorem fy {k:Kn}:k∈xL M s↔k.p < M.names.length∧k.g.length=(ao s).length:=by
 constructor
 ·intro h
  obtain ⟨p,h1,h2⟩:=List.mem_flatMap.mp h
  obtain ⟨g,h3,rfl⟩:=List.mem_map.mp h2
  exact ⟨List.mem_range.mp h1,eX h3⟩
 ·exact fun h=>List.mem_flatMap.mpr ⟨k.p,List.mem_range.mpr h.1,List.mem_map.mpr ⟨k.g,mL h.2,rfl⟩⟩
theorem n9 (O:M.Ok)(G:Gs s):(xL M s).length≤128:=by
 have:∀l:List Nat,(l.flatMap fun p=>(gL (ao s).length).map (Kn.mk p)).length=l.length * 2 ^ (ao s).length:=fun l=>by
  induction l with
  |nil=>exact (Nat.zero_mul _).symm
  |cons p l ih=>rw [List.flatMap_cons,List.length_append,ih,List.length_map,jP,List.length_cons,Nat.succ_mul,Nat.add_comm]
 rw [xL,this,List.length_range]
 exact Nat.mul_le_mul O.few (Nat.pow_le_pow_right (j:=4) (by decide) G.few)
theorem lg (O:M.Ok){p:Nat}(h:p < M.names.length):uT M.names.length (M.road p):=by
 have h:=O.len▸h
 refine O.rows _ ?_
 rw [Mc.road,List.getElem?_eq_getElem h];exact List.getElem_mem h
theorem Az (O:M.Ok){k y:Kn}(hp:k.p < M.names.length)(h:y∈th M s k):y∈xL M s:=by
 obtain ⟨q,h1,h2⟩:=List.mem_flatMap.mp h
 obtain ⟨g,h3,rfl⟩:=List.mem_map.mp h2
 exact fy.mpr ⟨(lg O hp).lt q h1,eX (List.mem_filter.mp h3).1⟩
structure tH (M:Mc) (s:Sy) (S D R:List Kn):Prop where
 nd:(D++R).Nodup
 sub:∀k∈D++R,k∈xL M s
 clo:∀k∈D,∀y∈th M s k,y∈D++R
 rch:∀k∈D++R,∃a∈S,j5 (th M s) a k
 pre:S <+:D++R
theorem tH.push {S D R:List Kn}{k y:Kn}(P:tH M s S D R)(hk:k∈D++R)(hy:y∈th M s k)(hu:y∈xL M s)(hn:y∉D++R):tH M s S D (R++[y]):=by
 have e:D++(R++[y])=(D++R)++[y]:=(List.append_assoc ..).symm
 refine ⟨?_,?_,?_,?_,?_⟩
 ·rw [e,List.nodup_append]
  exact ⟨P.nd,List.pairwise_singleton _ _,fun a ha b hb q=>hn (List.mem_singleton.mp hb▸q▸ha)⟩
 ·rw [e];exact fun x hx=>(List.mem_append.mp hx).elim (P.sub x) fun h=>List.mem_singleton.mp h▸hu
 ·rw [e];exact fun x hx z hz=>List.mem_append_left _ (P.clo x hx z hz)
 ·rw [e]
  intro x hx
  rcases List.mem_append.mp hx with h |h
  ·exact P.rch x h
  ·obtain ⟨a,h1,h2⟩:=P.rch k hk
   exact ⟨a,h1,List.mem_singleton.mp h▸h2.trans (.one hy)⟩
 ·rw [e];exact P.pre.trans (List.prefix_append _ _)
theorem tH.done {S D R:List Kn}{k:Kn}(P:tH M s S D (k::R))(h:∀y∈th M s k,y∈D++k::R):tH M s S (D++[k]) R:=by
 have e:(D++[k])++R=D++k::R:=by rw [List.append_assoc];rfl
 refine ⟨e▸P.nd,e▸P.sub,fun x hx=>?_,e▸P.rch,e▸P.pre⟩
 rw [e]
 rcases List.mem_append.mp hx with hx |hx
 ·exact P.clo x hx
 ·exact List.mem_singleton.mp hx▸h
inductive SW (M:Mc) (s:Sy) (S:List Kn) (sp:Int) (bg:Nat):List Kn×List Kn×List Kw→aH→Sg→Prop
 |mk {D R:List Kn} {kk:List Kw} {x3 x4:Option T} (P:tH M s S D R) (hk:kk.length≤8 * D.length):SW M s S sp bg (D,R,kk) [some .self,some (jB (D++R)),some (.int D.length),x3,x4,none] (wS M s sp kk (D++R) bg D)
inductive SF (M:Mc) (s:Sy) (S:List Kn) (sp:Int) (bg:Nat) (D:List Kn) (k:Kn) (kk:List Kw):List Kn→aH→Sg→Prop
 |mk {pre R':List Kn} {x4:Option T} (P:tH M s S D (k::R')) (hp:∀y∈pre,y∈D++k::R'):SF M s S sp bg D k kk pre [some .self,some (jB (D++k::R')),some (.int D.length),some (aN k),x4,none] (wS M s sp kk (D++k::R') bg (D++[k]))
theorem yb (O:M.Ok)(G:Gs s){S:List Kn}{sp:Int}(hS:S.Nodup)(hu:∀k∈S,k∈xL M s)(bg:Nat)(n:Nat):
  aT (fun t σ'=>t=.none∧∃kk K,σ'=wS M s sp kk K bg K∧tH M s S K []) (ai Ψ (n+22) 1002 [.self] (wS M s sp [] S bg [])):=by
 have ul:=n9 O G
 refine rJ (eL (e:=aN) (fun k=>.tup [aN k,.bool true]) (fun k _=>⟨_,rfl,fun _=>rfl⟩) (dA (vU hS) ?_))
 refine jq (S:=List Kn×List Kn×List Kw) (SW M s S sp bg)
  (fun x=>decide ((x.1.length:Int) < (((x.1++x.2.1).map aN).length:Int))) (fun x=>128 - x.1.length) ?_ ?_ ?_ (s:=([],S,[])) (show 128 - 0 < 400 by decide) (.mk ⟨hS,hu,fun _ h=>(nomatch h),fun k hk=>⟨k,hk,.refl _⟩,List.prefix_rfl⟩ (Nat.le_refl _))
 ·rintro _ _ _ ⟨⟩ k hk
  exact hk
 ·rintro _ _ _ @⟨D,R,kk,x3,x4,P,hk⟩ hg κ hκ
  have len:=Nat.le_trans (aQ P.nd P.sub) ul
  obtain _ | ⟨k,R⟩:=R
  ·have:=of_decide_eq_true hg
   rw [List.length_map,List.append_nil] at this
   exact absurd this (Int.lt_irrefl _)
  have km:k∈D++k::R:=List.mem_append_right _ (.head _)
  obtain ⟨hp,hgl⟩:=fy.mp (P.sub k km)
  have rr:=lg O hp
  have kD:k∉D:=fun h=>(List.nodup_append.mp P.nd).2.2 k h k (.head _) rfl
  rw [List.length_append,List.length_cons] at len
  have e1:(D++k::R)[D.length]?=some k:=by rw [List.getElem?_append_right (Nat.le_refl _),Nat.sub_self];rfl
  refine dA (bR (e:=aN) e1 (by rw [aZ];lia)) (bF (AW O G hp hgl rr.lt ?_ ?_ n) ?_)
  ·have:=aQ (m:=List.range M.names.length) rr.nd fun p hp=>List.mem_range.mpr (rr.lt p hp)
   rw [List.length_range] at this;exact Nat.le_trans this O.few
  ·lia
  rintro _ _ ⟨rfl,kk',h1,rfl⟩
  refine dA (o:=dP (B0 M s D) (aN k) _) (a:=B0 M s (D++[k])) ?_ ?_
  ·rw [B0,ci.put kD (by rw [aZ];lia -abstractProof),B0,List.map_append (f:=fun k=>T.lst _)];rfl
  refine dA (ci.get (l:=D++[k]) (a:=k) (List.mem_append_right _ (.head _))) ?_
  refine qs (e:=aN) (l:=th M s k) (SF M s S sp bg D k kk') ?_ ?_ (pre:=[]) rfl (.mk P fun _ h=>nomatch h)
  ·rintro pre y suf _ _ hl @⟨R',x4,P,hp'⟩ κ' hκ'
   have yt:y∈th M s k:=by rw [hl];exact List.mem_append_right _ (.head _)
   have len:=Nat.le_trans (aQ P.nd P.sub) ul
   by_cases h:y∈D++k::R'
   ·refine dA (o:=dW (aN y) (jB (D++k::R'))) (a:=false) (by rw [gU,decide_eq_true h];rfl) (hκ' _ _ (.mk P fun z hz=>?_))
    exact (List.mem_append.mp hz).elim (hp' z) fun q=>List.mem_singleton.mp q▸h
   ·have ll:(D++k::R').length < lim:=by exact Nat.lt_of_le_of_lt (by assumption) (by decide)
    refine dA (o:=dW (aN y) (jB (D++k::R'))) (a:=true) (by rw [gU,decide_eq_false h];rfl) (dA (iX h ll) (dA (cD y ll) ?_))
    have e:(D++k::R')++[y]=D++k::(R'++[y]):=List.append_assoc ..
    rw [e]
    refine hκ' _ _ (.mk (R':=R'++[y]) (P.push (List.mem_append_right _ (.head _)) yt (Az O hp yt) h) fun z hz=>?_)
    rw [←e]
    exact (List.mem_append.mp hz).elim (fun q=>List.mem_append_left _ (hp' z q)) fun q=>List.mem_append_right _ q
  ·rintro _ _ @⟨R',x4,P,hp'⟩
   have e:(D++[k])++R'=D++k::R':=by rw [List.append_assoc];rfl
   have l:(D++[k]).length=D.length+1:=List.length_append ..
   have w:=SW.mk (sp:=sp) (bg:=bg) (kk:=kk') (x3:=some (aN k)) (x4:=x4) (P.done hp') (by rw [l];lia)
   rw [e,l] at w
   exact hκ _ _ _ (show 128 - (D++[k]).length < 128 - D.length by rw [l];lia) w
 ·rintro _ _ _ @⟨D,R,kk,x3,x4,P,_⟩ hg
  obtain _ | ⟨k,R⟩:=R
  ·exact cv ⟨rfl,kk,D,by rw [List.append_nil],P⟩
  ·have:=of_decide_eq_false hg
   rw [List.length_map,List.length_append,List.length_cons] at this
   exact absurd (Int.ofNat_lt.mpr (by lia -abstractProof)) this
end
section
variable {M:Mc} {s:Sy}
theorem lW {f:Nat→List (List Bool)}(hf:∀p,(f p).Nodup):∀{l:List Nat},l.Nodup→(l.flatMap fun p=>(f p).map (Kn.mk p)).Nodup:=by
 intro l
 induction l with
 |nil=>exact fun _=>.nil
 |cons p l ih=>
  intro h
  obtain ⟨h1,h2⟩:=List.nodup_cons.mp h
  rw [List.flatMap_cons,List.nodup_append]
  refine ⟨nH (fun x y e=>congrArg Kn.g e) (hf p),ih h2,fun a ha b hb e=>?_⟩
  obtain ⟨g,_,rfl⟩:=List.mem_map.mp ha
  obtain ⟨q,h3,h4⟩:=List.mem_flatMap.mp hb
  obtain ⟨g',_,rfl⟩:=List.mem_map.mp h4
  exact h1 ((show p=q from congrArg Kn.p e)▸h3)
noncomputable def st (M:Mc)(s:Sy):List Kn:=M.firsts.flatMap fun p=>((gL (ao s).length).filter fun g=>!so (M.mark p) (ao s) g s).map (Kn.mk p)
theorem oH {k:Kn}:k∈st M s↔k.p∈M.firsts∧k.g.length=(ao s).length∧so (M.mark k.p) (ao s) k.g s=false:=by
 constructor
 ·intro h
  obtain ⟨p,h1,h2⟩:=List.mem_flatMap.mp h
  obtain ⟨g,h3,rfl⟩:=List.mem_map.mp h2
  obtain ⟨h4,h5⟩:=List.mem_filter.mp h3
  exact ⟨h1,eX h4,(Bool.not_eq_true' _).mp h5⟩
 ·exact fun h=>List.mem_flatMap.mpr ⟨k.p,h.1,List.mem_map.mpr ⟨k.g,List.mem_filter.mpr ⟨mL h.2.1,(Bool.not_eq_true' _).mpr h.2.2⟩,rfl⟩⟩
theorem pL (O:M.Ok){k:Kn}(h:k.p < M.names.length):(th M s k).Nodup:=lW (fun _=>(mJ _).filter _) (lg O h).nd
noncomputable abbrev iS (M:Mc)(s:Sy)(sp:Int)(F:List Kn):Sg:=⟨sp,some (10,[gW (ao s),.lst (tY s),M.t,.dct [] [],.lst (F.map aN)])⟩
theorem As (O:M.Ok)(G:Gs s){sp:Int}(n:Nat):
  aT (fun t σ'=>t=.none∧∃kk K,σ'=wS M s sp kk K (st M s).length K∧tH M s (st M s) K []) (ai Ψ (n+23) 1001 [.self,M.t,aX s] ⟨sp,some (10,[])⟩):=by
 have inner:∀(p:Nat),p < M.names.length→∀(l:List (List Bool)),(∀g∈l,g.length=(ao s).length)→∀(F:List Kn) (x4:Option T) {k:PK aH} {Q:T→Sg→Prop},F.length+l.length≤10000→
   (∀x4,aT Q (k [some .self,some M.t,some (aX s),some (nT p),x4] (iS M s sp (F++(l.filter fun g=>!so (M.mark p) (ao s) g s).map (Kn.mk p)))))→
   aT Q (cn (aJ 4) (ae (be (dE (qE (ak 10 (aa (pV 2) (aa (sV 0 1007 (pV 1) (aa (pV 3) ah)) (aa (eH 10 0) (aa (pV 4) ah))))))) (ae (qf 10 4 (ax (aa (pV 3) (aa (pV 4) ah)))) af) af) af) ⟨ai Ψ (n+22)⟩ (l.map gT) [some .self,some M.t,some (aX s),some (nT p),x4] (iS M s sp F) k):=fun p hp l=>by
  induction l with
  |nil=>intro _ F x4 k Q _ hk;rw [List.filter_nil,List.map_nil,List.append_nil] at hk;exact hk x4
  |cons g l ih=>
   intro hl F x4 k Q h1 hk
   rw [List.length_cons] at h1
   refine fO (iZ O hp _) (fO (kX (G.bds (hl g (.head _))) s (n+20) (Nat.le_trans G.dep (Nat.le_trans (by decide) (Nat.le_add_left 20 n))) (dH s)) ?_)
   cases e:so (M.mark p) (ao s) g s with
   |true=>
    rw [List.filter_cons_of_neg (by rw [e];decide)] at hk
    exact ih (fun g h=>hl g (.tail _ h)) F _ (by lia) hk
   |false=>
    rw [List.filter_cons_of_pos (by rw [e];rfl)] at hk
    refine dA (cD (e:=aN) (l:=F) ⟨p,g⟩ (by rw [aZ];lia)) (ih (fun g h=>hl g (.tail _ h)) (F++[⟨p,g⟩]) _ ?_ fun x4=>?_)
    ·rw [List.length_append];exact Nat.le_trans (Nat.le_of_eq (Nat.add_assoc ..)) (Nat.add_comm 1 _▸h1)
    ·rw [List.append_assoc];exact hk x4
 have outer:∀(l:List Nat),(∀p∈l,p < M.names.length)→∀(F:List Kn) (x3 x4:Option T) {k:PK aH} {Q:T→Sg→Prop},F.length+l.length * 16≤10000→
   (∀x3 x4,aT Q (k [some .self,some M.t,some (aX s),x3,x4] (iS M s sp (F++l.flatMap fun p=>((gL (ao s).length).filter fun g=>!so (M.mark p) (ao s) g s).map (Kn.mk p)))))→
   aT Q (cn (aJ 3) (ae (bP (aG (ak 8 (aa (eH 10 0) ah))) (aJ 4) (ae (be (dE (qE (ak 10 (aa (pV 2) (aa (sV 0 1007 (pV 1) (aa (pV 3) ah)) (aa (eH 10 0) (aa (pV 4) ah))))))) (ae (qf 10 4 (ax (aa (pV 3) (aa (pV 4) ah)))) af) af) af)) af) ⟨ai Ψ (n+22)⟩ (l.map nT) [some .self,some M.t,some (aX s),x3,x4] (iS M s sp F) k):=fun l=>by
  induction l with
  |nil=>intro _ F x3 x4 k Q _ hk;rw [List.flatMap_nil,List.append_nil] at hk;exact hk x3 x4
  |cons p l ih=>
   intro hl F x3 x4 k Q h1 hk
   rw [List.length_cons] at h1
   have gl:=lT (σ:=iS M s sp F) (n+21) ((ao s).map aX) (by rw [List.length_map];exact G.few)
   rw [List.length_map] at gl
   have al:(gL (ao s).length).length≤16:=by rw [jP];exact Nat.pow_le_pow_right (j:=4) (by decide) G.few
   refine fO gl (inner p (hl p (.head _)) _ (fun g h=>eX h) F _ (by lia -abstractProof) fun x4=>ih (fun q h=>hl q (.tail _ h)) _ _ _ ?_ fun x3 x4=>?_)
   ·have:=List.length_filter_le (fun g=>!so (M.mark p) (ao s) g s) (gL (ao s).length)
    rw [List.length_append,List.length_map];lia -abstractProof
   ·have:=hk x3 x4
    rw [List.flatMap_cons,←List.append_assoc] at this
    exact this
 have fl:M.firsts.length≤8:=by
  have:=aQ (m:=List.range M.names.length) O.firsts.nd fun p hp=>List.mem_range.mpr (O.firsts.lt p hp)
  rw [List.length_range] at this;exact Nat.le_trans this O.few
 have d8:dep s≤8:=Nat.le_trans G.dep (by decide)
 refine lq (fO (yy G (n+13)) (fO (je _ s (Nat.le_trans d8 (Nat.le_trans (by decide) (Nat.le_add_left 21 n))) d8) (fO (qc d8 (Nat.le_trans G.few (by decide)) (n+12)) (fO (tQ (n+21)) ?_))))
 refine outer M.firsts O.firsts.lt [] none none (by rw [List.length_nil];lia -abstractProof) fun x3 x4=>?_
 refine bF (yb O G (sp:=sp) (S:=st M s) (lW (fun _=>(mJ _).filter _) O.firsts.nd) (fun k hk=>fy.mpr ⟨O.firsts.lt _ (oH.mp hk).1,(oH.mp hk).2.1⟩) ((st M s).map aN).length n) ?_
 rintro _ _ ⟨rfl,kk,K,rfl,P⟩
 exact cv ⟨rfl,kk,K,by rw [List.length_map],P⟩
end
theorem fB {xs:List T}{j:Nat}{t:T}(h:xs[j]?=some t)(hj:j≤lim):aj (.lst xs) (.int j)=some t:=by
 have:=bR (e:=id) h hj
 rw [List.map_id] at this;exact this
theorem E0 (k:Kn):aj (aN k) (.int 0)=some (nT k.p):=rfl
theorem E3 (k:Kn):aj (aN k) (.int 1)=some (gT k.g):=rfl
section
variable {M:Mc} {s:Sy}
noncomputable def qg (M:Mc)(s:Sy)(k:Kn):Nat→Bool
 | 0=>true
 |j+1=>match (qa s)[j]? with
  |some x=>met (ao s) (M.mark k.p) k.g x
  |none=>true
noncomputable abbrev Df (M:Mc)(s:Sy)(kk:List Kw)(K:List Kn):T:=ew (gW (ao s)) (.lst (tY s)) M.t (eJ s kk) K (st M s).length (th M s)
variable {kk:List Kw} {K:List Kn} {σ:Sg}
theorem oq (G:Gs s):(qa s).length≤4:=Nat.le_trans (List.length_filter_le _ _) G.few
theorem qh (O:M.Ok)(G:Gs s)(hu:∀k∈K,k∈xL M s)(n:Nat):∀k∈K,∀j,j < (tY s).length→ai Ψ (n+20) 1005 [Df M s kk K,aN k,.int j] σ=.ret (.bool (qg M s k j)) σ:=by
 intro k hk j hj
 obtain ⟨h1,h2⟩:=fy.mp (hu k hk)
 have pl:=oq G
 obtain _ |j:=j
 ·exact j3 (mt (fB (j:=0) rfl (Nat.zero_le _)) (aq (iZ O h1 (n+18)) (aq (vT (m:=M.mark k.p) (g:=k.g) (t:=gW (ao s)) (n+18)) rfl)))
 ·have hj:j < (qa s).length:=by rw [List.length_cons,List.length_map] at hj;exact Nat.lt_of_succ_lt_succ hj
  have e1:(qa s)[j]?=some (qa s)[j]:=List.getElem?_eq_getElem hj
  have m1:=List.mem_filter.mp (List.getElem_mem hj)
  have e2:(tY s)[j+1]?=some (aX (qa s)[j]):=by
   show ((qa s).map aX)[j]?=_
   rw [List.getElem?_map,e1];rfl
  have e3:qg M s k (j+1)=met (ao s) (M.mark k.p) k.g (qa s)[j]:=by
   show (match (qa s)[j]? with |some x=>met (ao s) (M.mark k.p) k.g x |none=>true)=_
   rw [e1]
  rw [e3]
  generalize (qa s)[j]=x at m1 e2
  have hk:(∃a c,x=.till a c)∨∃a,x=.always a:=by
   rcases dL m1.1 with ⟨a,rfl⟩ |h
   ·cases m1.2
   ·exact h
  exact j3 (mt (fB e2 (Nat.le_trans (Nat.le_trans hj pl) (by decide))) (aq (iZ O h1 (n+18)) (aq (AR (G.bds h2) m1.1 hk (fun p hp=>cq m1.1 hp) (n:=n+17) (Nat.le_trans (d6 m1.1) (Nat.le_trans (Nat.succ_le_succ G.dep) (Nat.le_trans (by decide) (Nat.le_add_left 17 n))))) rfl)))
structure BQ (M:Mc) (s:Sy) (K P R:List Kn):Prop where
 lasso:n4 (th M s) (st M s) P R
 sub:∀x∈P++R,x∈K
 met:∀j,j < (tY s).length→∃x∈R,qg M s x j=true
 len:(P++R).length≤1000
noncomputable abbrev t3 (l:List Kn):T:=.lst (l.map fun k=>nT k.p)
theorem uI (O:M.Ok)(G:Gs s)(S:tH M s (st M s) K []){c0:Kn}{r:List Kn}(hC:∀x∈c0::r,x∈K)(scc:∀x∈c0::r,∀y∈c0::r,j5 (th M s) x y)(hs:∀u∈c0::r,∃v∈th M s u,v∈c0::r)(hmet:∀j,j < (tY s).length→∃k∈c0::r,qg M s k j=true)(n:Nat):
  aT (fun t σ'=>σ'=σ∧∃P R,t=.tup [.str (ofString "breaks"),t3 P,t3 R]∧BQ M s K P R) (ai Ψ (n+22) 42 [Df M s kk K,.lst ((c0::r).map aN)] σ):=by
 have hu:∀k∈K,k∈xL M s:=fun k hk=>S.sub k (by rw [List.append_nil];exact hk)
 have nd:K.Nodup:=by have:=S.nd;rw [List.append_nil] at this;exact this
 have hc:∀k∈K,∀y∈th M s k,y∈K:=fun k hk y hy=>by have:=S.clo k hk y hy;rw [List.append_nil] at this;exact this
 have k2:K.length≤128:=Nat.le_trans (aQ nd hu) (n9 O G)
 have k1:K.length≤300:=Nat.le_trans k2 (by decide)
 have pl:=oq G
 have pre:st M s <+:K:=by have:=S.pre;rw [List.append_nil] at this;exact this
 have e1:cut none (some ((st M s).length:Int)) K=st M s:=by rw [jG];exact List.prefix_iff_eq_take.mp pre |>.symm
 refine pY (dA (fi e1) (dA (fi (jG 1 (c0::r))) (bF (ou (starts:=st M s) (goals:=[c0]) k1 hc (nd.sublist pre.sublist) (fun x hx=>pre.subset hx) (n+19)) ?_)))
 rintro _ _ ⟨rfl,P,rfl,h⟩
 have W:zB (th M s) K (st M s) c0 P:=by
  rcases h with ⟨g,h1,h2⟩ | ⟨_,h⟩
  ·cases List.mem_singleton.mp h1;exact h2
  ·obtain ⟨a,h1,h2⟩:=S.rch c0 (by rw [List.append_nil];exact hC c0 (.head _))
   exact absurd h2 (h a h1 c0 (.head _))
 refine dA (fi (qC P)) (eL (e:=aN) (fun k=>nT k.p) (fun k _=>⟨_,rfl,fun _=>rfl⟩) (bF (yh (n:=n+18) k2 hc (fun k hk=>pL O (fy.mp (hu k hk)).1) hC ?_ scc hs hmet (qh O G hu n)) ?_))
 ·rw [List.length_cons,List.length_map];lia
 rintro _ _ ⟨rfl,R,rfl,w1,w2,w3,w4,w5,w6⟩
 refine eL (e:=aN) (fun k=>nT k.p) (fun k _=>⟨_,rfl,fun _=>rfl⟩) (cv ⟨rfl,P.dropLast,R,rfl,W.lasso w1 w2 w3,fun x hx=>(List.mem_append.mp hx).elim (fun h=>W.sub x (List.dropLast_subset _ h)) (w4 x),w5,?_⟩)
 rw [List.length_append,List.length_dropLast];exact Nat.le_trans (Nat.add_le_add (Nat.le_trans (Nat.sub_le _ _) (Nat.le_trans W.len k2)) w6) (by decide)
end
theorem Cn {Q:T→Sg→Prop}{o:cz}{c:Nat}{sp:Int}{fs:List T}{k:PK T}(h:o=.ret .none ⟨sp,some (c,fs)⟩)(h2:aT Q (k (.obj c fs) ⟨sp,none⟩)):aT Q (uc c o k):=by
 rw [h]
 unfold uc
 show aT Q (bif Nat.beq c c then k (.obj c fs) ⟨sp,none⟩ else .bad)
 rw [Nat.beq_refl];exact h2
section
variable {th:Kn→List Kn} {K:List Kn}
noncomputable def BG (th:Kn→List Kn):List Kn→Bool
 | []=>false
 |c::r=>!r.isEmpty||decide (c∈th c)
theorem AD {A B:List (List Kn)}{c:Kn}{r:List Kn}(H:uP th K (A++(c::r)::B))(hK:∀k∈K,∀y∈th k,y∈K)(h:BG th (c::r)=true):∀u∈c::r,∃v∈th u,v∈c::r:=by
 have mem:c::r∈A++(c::r)::B:=List.mem_append_right _ (.head _)
 have nd:(c::r).Nodup:=by
  have:=H.nd
  rw [List.flatten_append,List.flatten_cons] at this
  exact (List.nodup_append.mp (List.nodup_append.mp this).2.1).1
 have two:∀u d,u∈c::r→d∈c::r→u≠d→∃v∈th u,v∈c::r:=fun u d hu hd ne=>by
  cases H.scc _ mem u hu d hd with
  |refl=>exact absurd rfl ne
  |step e q=>exact ⟨_,e,H.within hu e hK q hd⟩
 intro u hu
 cases r with
 |nil=>
  cases List.mem_singleton.mp hu
  exact ⟨c,of_decide_eq_true (show decide (c∈th c)=true from h),.head _⟩
 |cons d r=>
  by_cases q:u=c
  ·exact two u d hu (.tail _ (.head _)) fun e=>(List.nodup_cons.mp nd).1 (q▸e▸.head _)
  ·exact two u c hu (.head _) q
theorem xW {m:Nat}:∀l:List Kn,(∀k∈l,(th k).length≤m)→eh th [] l≤l.length * (m+2):=by
 intro l
 induction l with
 |nil=>exact fun _=>Nat.zero_le _
 |cons k l ih=>
  intro h
  have h1:=ih fun x hx=>h x (.tail _ hx)
  have h2:=h k (.head _)
  show (if k∈[] then 0 else (th k).length+2)+eh th [] l≤_
  rw [if_neg (fun q=>nomatch q),List.length_cons,Nat.succ_mul];lia -abstractProof
end
section
variable {M:Mc} {s:Sy}
structure BD (M:Mc) (s:Sy):Prop where
 ex:∃K Cs,tH M s (st M s) K []∧uP (th M s) K Cs∧(∀x∈K,x∈Cs.flatten)∧∀C∈Cs,BG (th M s) C=true→∃j,j < (tY s).length∧∀k∈C,qg M s k j=false
noncomputable def Eo (M:Mc)(s:Sy)(t:T):Prop:=(∃X,t=.tup [.str (ofString "keeps"),X]∧BD M s)∨∃K P R,t=.tup [.str (ofString "breaks"),t3 P,t3 R]∧tH M s (st M s) K []∧BQ M s K P R
theorem nN (O:M.Ok)(G:Gs s){sp:Int}(n:Nat):aT (fun t σ'=>σ'=⟨sp,none⟩∧Eo M s t) (ai Ψ (n+24) 43 [M.t,aX s] ⟨sp,none⟩):=by
 obtain ⟨_,_,w1,rfl,kk,K,rfl,S⟩:=As O G (sp:=sp) n
 have hu:∀k∈K,k∈xL M s:=fun k hk=>S.sub k (by rw [List.append_nil];exact hk)
 have nd:K.Nodup:=by have:=S.nd;rw [List.append_nil] at this;exact this
 have hc:∀k∈K,∀y∈th M s k,y∈K:=fun k hk y hy=>by have:=S.clo k hk y hy;rw [List.append_nil] at this;exact this
 have k1:K.length≤128:=Nat.le_trans (aQ nd hu) (n9 O G)
 have hw:∀k∈K,(th M s k).length≤128:=fun k hk=>Nat.le_trans (aQ (pL O (fy.mp (hu k hk)).1) (hc k hk)) k1
 have ws:eh (th M s) [] K < 20000:=Nat.lt_of_le_of_lt (xW K hw) (Nat.lt_of_le_of_lt (Nat.mul_le_mul_right _ k1) (by decide))
 refine vm (Cn w1 (bF (uE nd (Nat.le_trans k1 (by decide)) hc ws (fun k hk=>Nat.le_trans (hw k hk) (by decide)) (n+21)) ?_))
 rintro _ _ ⟨rfl,Cs,rfl,H,cov⟩
 have lp:∀(suf pre:List (List Kn)) (X:List T) (x5 x6 x7:Option T),Cs=pre++suf→(∀C∈pre,BG (th M s) C=true→∃j,j < (tY s).length∧∀k∈C,qg M s k j=false)→X.length+suf.flatten.length≤1000→
   aT (fun t σ'=>σ'=⟨sp,none⟩∧Eo M s t) (cn (xV 5 6) (ae (av 7 (pC (.int 0))) (ae (be (qE (ak 37 (aa (pV 2) (aa (pV 6) ah)))) (ae (av 7 (ak 38 (aa (pV 2) (aa (pV 6) ah)))) (ae (be (p2 ur (pV 7) (pC .none)) (ae (au (ak 42 (aa (pV 2) (aa (pV 6) ah)))) af) af) af)) af)
    (ae (gY 4 hE (aB (aG (pV 6)) (aJ 8) ay (ax (aa (p2 aj (pV 8) (pC (.int 0))) (aa (p2 aj (pV 8) (pC (.int 1))) (aa (p2 dj (p2 dj (p1 aO (pV 3)) (pC (.int 1))) (pV 5)) (aa (pV 7) ah))))))) af)))
    ⟨ai Ψ (n+23)⟩ (j0 pre.length (suf.map xe)) [some M.t,some (aX s),some (Df M s kk K),some (.lst (Cs.map xe)),some (.lst X),x5,x6,x7,none] ⟨sp,none⟩ fun ρ σ=>ae (au (ax (aa (pC (.str (ofString "keeps"))) (aa (pV 4) ah)))) af ⟨ai Ψ (n+23)⟩ ρ σ (kE 43)):=fun suf=>by
  induction suf with
  |nil=>
   intro pre X x5 x6 x7 e hp _
   exact cv ⟨rfl,.inl ⟨_,rfl,⟨K,Cs,S,H,cov,fun C hC=>hp C (by rw [e,List.append_nil] at hC;exact hC)⟩⟩⟩
  |cons C suf ih=>
   intro pre X x5 x6 x7 e hp hX
   obtain _ | ⟨c,r⟩:=C
   ·exact absurd rfl (H.ne [] (by rw [e];exact List.mem_append_right _ (.head _)))
   rw [e] at H
   have CK:∀x∈c::r,x∈K:=fun x hx=>H.sub x (by rw [List.flatten_append,List.flatten_cons];exact List.mem_append_right _ (List.mem_append_left _ hx))
   have go:∀num:T,(BG (th M s) (c::r)=true→∃j,j < (tY s).length∧∀k∈c::r,qg M s k j=false)→
     aT (fun t σ'=>σ'=⟨sp,none⟩∧Eo M s t) (ae (gY 4 hE (aB (aG (pV 6)) (aJ 8) ay (ax (aa (p2 aj (pV 8) (pC (.int 0))) (aa (p2 aj (pV 8) (pC (.int 1))) (aa (p2 dj (p2 dj (p1 aO (pV 3)) (pC (.int 1))) (pV 5)) (aa (pV 7) ah))))))) af
      ⟨ai Ψ (n+23)⟩ [some M.t,some (aX s),some (Df M s kk K),some (.lst (Cs.map xe)),some (.lst X),some (nT pre.length),some (xe (c::r)),some num,none] ⟨sp,none⟩ fun ρ σ=>cn (xV 5 6) (ae (av 7 (pC (.int 0))) (ae (be (qE (ak 37 (aa (pV 2) (aa (pV 6) ah)))) (ae (av 7 (ak 38 (aa (pV 2) (aa (pV 6) ah)))) (ae (be (p2 ur (pV 7) (pC .none)) (ae (au (ak 42 (aa (pV 2) (aa (pV 6) ah)))) af) af) af)) af)
    (ae (gY 4 hE (aB (aG (pV 6)) (aJ 8) ay (ax (aa (p2 aj (pV 8) (pC (.int 0))) (aa (p2 aj (pV 8) (pC (.int 1))) (aa (p2 dj (p2 dj (p1 aO (pV 3)) (pC (.int 1))) (pV 5)) (aa (pV 7) ah))))))) af)))
    ⟨ai Ψ (n+23)⟩ (j0 (pre.length+1) (suf.map xe)) ρ σ fun ρ σ=>ae (au (ax (aa (pC (.str (ofString "keeps"))) (aa (pV 4) ah)))) af ⟨ai Ψ (n+23)⟩ ρ σ (kE 43)):=fun num hn=>by
    rw [List.flatten_cons,List.length_append] at hX
    refine eL (e:=aN) (fun k=>.tup [nT k.p,gT k.g,.int ((((Cs.map xe).length:Int) - 1) - pre.length),num]) (fun k _=>⟨_,rfl,fun _=>rfl⟩) (dA (wN (by rw [List.length_map,aZ];lia)) ?_)
    have:=ih (pre++[c::r]) (X++(c::r).map fun k=>.tup [nT k.p,gT k.g,.int ((((Cs.map xe).length:Int) - 1) - pre.length),num]) (some (nT pre.length)) (some (xe (c::r))) (some num) (by rw [e,List.append_assoc];rfl) (fun C hC=>(List.mem_append.mp hC).elim (hp C) fun q=>List.mem_singleton.mp q▸hn) (by rw [List.length_append,List.length_map];exact Nat.le_trans (Nat.le_of_eq (Nat.add_assoc ..)) hX)
    rw [List.length_append] at this
    exact this
   refine fO (vh (CK c (.head _)) (n+22)) ?_
   cases hr:BG (th M s) (c::r) with
   |false=>
    rw [show (!r.isEmpty||decide (c∈th M s c))=false from hr]
    exact go (.int 0) fun q=>absurd (hr.symm.trans q) (by decide)
   |true=>
    rw [show (!r.isEmpty||decide (c∈th M s c))=true from hr]
    refine bF (uW CK ?_ (qh O G hu (n+2))) ?_
    ·rw [List.length_cons,List.length_map];have:=oq G;lia -abstractProof
    rintro _ _ ⟨rfl,⟨rfl,h⟩ | ⟨j,h1,rfl,h2⟩⟩
    ·refine bF (uI O G S CK (H.scc _ (List.mem_append_right _ (.head _))) (AD H hc hr) h (n+1)) ?_
     rintro _ _ ⟨rfl,P,R,rfl,B⟩
     exact cv ⟨rfl,.inr ⟨K,P,R,rfl,S,B⟩⟩
    ·exact go (.int j) fun _=>⟨j,h1,h2⟩
 exact lp Cs [] [] none none none rfl (fun _ h=>nomatch h) (by rw [List.length_nil,Nat.zero_add];exact Nat.le_trans (aQ H.nd H.sub) (Nat.le_trans k1 (by decide)))
end
section
variable {M:Mc} {s:Sy}
noncomputable def lw (ms:List Str)(b:Nat)(t:Nat):Str:=(ms[it ms.length b t 0]?).getD default
structure EK (M:Mc) (p:Nat→Nat):Prop where
 fst:p 0∈M.firsts
 nxt:∀i,p (i+1)∈M.road (p i)
theorem rQ {k y:Kn}:y∈th M s k↔y.p∈M.road k.p∧y.g.length=(ao s).length∧oQ (ao s) (M.mark k.p) k.g (M.mark y.p) y.g=true:=by
 constructor
 ·intro h
  obtain ⟨q,h1,h2⟩:=List.mem_flatMap.mp h
  obtain ⟨g,h3,rfl⟩:=List.mem_map.mp h2
  obtain ⟨h4,h5⟩:=List.mem_filter.mp h3
  exact ⟨h1,eX h4,h5⟩
 ·exact fun h=>List.mem_flatMap.mpr ⟨y.p,h.1,List.mem_map.mpr ⟨y.g,List.mem_filter.mpr ⟨mL h.2.1,h.2.2⟩,rfl⟩⟩
theorem wp (H:BD M s){p:Nat→Nat}(R:EK M p):Sem (fun i=>M.mark (p i)) s 0:=by
 obtain ⟨K,Cs,S,C,cov,hC⟩:=H.ex
 refine Classical.byContradiction fun no=>?_
 let w:Nat→Str:=fun i=>M.mark (p i)
 let κ:Nat→Kn:=fun i=>⟨p i,xM w (ao s) i⟩
 have tl:∀i,(xM w (ao s) i).length=(ao s).length:=fun i=>List.length_map ..
 have h1:∀i,κ (i+1)∈th M s (κ i):=fun i=>rQ.mpr ⟨R.nxt i,tl _,wI i⟩
 have h0:∀i,κ i∈K:=fun i=>by
  induction i with
  |zero=>
   have:=S.pre.subset ((oH (k:=κ 0)).mpr ⟨R.fst,tl 0,Bool.eq_false_iff.mpr fun q=>no ((dk 0 s (dH s)).mp q)⟩)
   rw [List.append_nil] at this;exact this
  |succ i ih=>have:=S.clo _ ih _ (h1 i);rw [List.append_nil] at this;exact this
 obtain ⟨D,hD,N,hN⟩:=C.stay cov h0 h1
 have rd:BG (th M s) D=true:=by
  have a:=hN N (Nat.le_refl _)
  have b:=hN (N+1) (Nat.le_succ _)
  have e:=h1 N
  obtain _ | ⟨c,_ | ⟨d,r⟩⟩:=D
  ·cases a
  ·rw [List.mem_singleton.mp a,List.mem_singleton.mp b] at e
   show (!true||decide (c∈th M s c))=true
   rw [decide_eq_true e];rfl
  ·rfl
 obtain ⟨j,hj,hm⟩:=hC D hD rd
 obtain _ |j:=j
 ·cases hm _ (hN N (Nat.le_refl _))
 ·have hj:j < (qa s).length:=by rw [List.length_cons,List.length_map] at hj;exact Nat.lt_of_succ_lt_succ hj
  have m1:=List.mem_filter.mp (List.getElem_mem hj)
  obtain ⟨i,hi,hx⟩:=yz (w:=w) m1.1 N
  have:=hm _ (hN i hi)
  have e:qg M s (κ i) (j+1)=met (ao s) (w i) (xM w (ao s) i) (qa s)[j]:=by
   show (match (qa s)[j]? with |some x=>met (ao s) (M.mark (p i)) (xM w (ao s) i) x |none=>true)=_
   rw [List.getElem?_eq_getElem hj]
  rw [e,hx] at this
  cases this
theorem kC {n b t i:Nat}:it n b (t+1) i=nx n b (it n b t i):=dX t 1 i
theorem tB {K P R:List Kn}(B:BQ M s K P R):∃p,EK M p∧(fun i=>M.mark (p i))=lw ((P++R).map fun k=>M.mark k.p) P.length∧¬Sem (fun i=>M.mark (p i)) s 0:=by
 have hb:=B.lasso.lt
 have h0:0 < (P++R).length:=Nat.lt_of_le_of_lt (Nat.zero_le _) hb
 have lt:=fun t=>qq hb t 0 h0
 let κ:Nat→Kn:=fun t=>(P++R)[it (P++R).length P.length t 0]'(lt t)
 have hκ:∀t,(P++R)[it (P++R).length P.length t 0]?=some (κ t):=fun t=>List.getElem?_eq_getElem (lt t)
 have h1:∀i,κ (i+1)∈th M s (κ i):=fun i=>B.lasso.step (hκ i) (by rw [←kC];exact hκ (i+1))
 obtain ⟨a,ha,hs⟩:=B.lasso.hd
 have e0:κ 0=a:=Option.some.inj ((hκ 0).symm.trans (by rw [←ha,List.head?_eq_getElem?];rfl))
 obtain ⟨s1,s2,s3⟩:=oH.mp hs
 refine ⟨fun t=>(κ t).p,⟨by rw [e0];exact s1,fun i=>(rQ.mp (h1 i)).1⟩,?_,fun q=>?_⟩
 ·funext t
  rw [lw,List.length_map,List.getElem?_map,hκ t];rfl
 ·have:=(cc (w:=fun i=>M.mark (κ i).p) (γ:=fun i=>(κ i).g) (fun i=>(rQ.mp (h1 i)).2.2) (fun x hx i=>?_) s (dH s) 0).mpr q
  ·rw [e0,s3] at this;cases this
  ·have main:DW x=true→∃j,i≤j∧met (ao s) (M.mark (κ j).p) (κ j).g x=true:=fun hP=>by
    have px:x∈qa s:=List.mem_filter.mpr ⟨hx,hP⟩
    obtain ⟨j,hj,e⟩:=List.getElem_of_mem px
    obtain ⟨y,hy,hm⟩:=B.met (j+1) (by rw [List.length_cons,List.length_map];exact Nat.succ_lt_succ hj)
    have hm:(match (qa s)[j]? with |some x=>met (ao s) (M.mark y.p) y.g x |none=>true)=true:=hm
    rw [List.getElem?_eq_getElem hj,e] at hm
    obtain ⟨r,hr,ey⟩:=List.getElem_of_mem hy
    obtain ⟨t,ht⟩:=ig (i:=it (P++R).length P.length i 0) (j:=P.length+r) hb (lt i) (Nat.le_add_right _ _) (by rw [List.length_append];exact Nat.add_lt_add_left hr _)
    have:κ (i+t)=y:=by
     refine Option.some.inj ((hκ (i+t)).symm.trans ?_)
     rw [dX,ht,List.getElem?_append_right (Nat.le_add_right _ _),Nat.add_sub_cancel_left,List.getElem?_eq_getElem hr,ey]
    exact ⟨i+t,Nat.le_add_right _ _,by rw [this];exact hm⟩
   rcases dL hx with ⟨a,rfl⟩ | ⟨a,c,rfl⟩ | ⟨a,rfl⟩
   ·exact ⟨i,Nat.le_refl _,rfl⟩
   ·exact main rfl
   ·exact main rfl
end
noncomputable abbrev bT (n:Nat)(f:Nat→Bool):T:=.lst ((List.range n).map fun i=>.bool (f i))
section
variable {n:Nat} {f g:Nat→Bool}
theorem jf (h:∀i,i < n→f i=g i):bT n f=bT n g:=congrArg T.lst (List.map_congr_left fun i hi=>by rw [h i (List.mem_range.mp hi)])
theorem eM {i:Nat}(h:i < n)(hn:n≤lim):aj (bT n f) (.int i)=some (.bool (f i)):=bR (e:=fun i=>T.bool (f i)) (List.getElem?_range h) (Nat.le_trans (Nat.le_of_lt h) hn)
theorem Bt {i:Nat}{v:Bool}(h:i < n):rK (bT n f) (.int i) (.bool v)=some (bT n fun x=>if x=i then v else f x):=by
 show (bif decide ((0:Int)≤i)&&decide ((i:Int) < (((List.range n).map fun i=>T.bool (f i)).length:Nat)) then some (T.lst (((List.range n).map fun i=>T.bool (f i)).set i (.bool v))) else none)=_
 rw [List.length_map,List.length_range,decide_eq_true (Int.natCast_nonneg i),decide_eq_true (Int.ofNat_lt.mpr h)]
 refine congrArg (fun l=>some (T.lst l)) (List.ext_getElem? fun j=>?_)
 rw [List.getElem?_set,List.length_map,List.length_range,List.getElem?_map,List.getElem?_map]
 by_cases e:i=j
 ·subst e
  rw [if_pos rfl,if_pos h,List.getElem?_range h]
  show _=some (T.bool (if i=i then v else f i))
  rw [if_pos rfl]
 ·rw [if_neg e]
  by_cases hj:j < n
  ·rw [List.getElem?_range hj]
   show _=some (T.bool (if j=i then v else f j))
   rw [if_neg fun q=>e q.symm];rfl
  ·rw [List.getElem?_eq_none (by rw [List.length_range];exact Nat.le_of_not_lt hj)];rfl
noncomputable def dl:Nat→List T
 | 0=>[]
 |m+1=>nT m::dl m
theorem CN {n:Nat}(hn:n≤100000):BK [.int ((n:Int) - 1),.int (-1),.int (-1)]=some (dl n):=by
 have e:∀m:Nat,((List.range m).map fun k:Nat=>T.int (((m:Int) - 1)+(k:Nat) * (-1)))=dl m:=fun m=>by
  induction m with
  |zero=>rfl
  |succ m ih=>
   rw [List.range_succ_eq_map,List.map_cons,List.map_map,dl,←ih]
   exact congr (congrArg _ (congrArg T.int (by lia -abstractProof))) (List.map_congr_left fun k _=>congrArg T.int (by show ((m+1:Nat):Int) - 1+((k+1:Nat):Int) * (-1)=_;lia))
 have s:Builtin.Range.rangeSize ((n:Int) - 1) (-1) (-1)=n:=by
  unfold Builtin.Range.rangeSize
  simp only [show ¬((-1:Int) > 0) by decide,if_false]
  rw [show ((n:Int) - 1 - -1 - 1) / (- -1)=(n:Int) - 1 by rw [show (- -1:Int)=1 from rfl,Int.ediv_one];lia -abstractProof]
  split<;>lia -abstractProof
 unfold BK
 show dn _ _ _=_
 have r:cf ((n:Int) - 1) (-1) (-1)=dl n:=by rw [cf,s];exact e n
 have l:(dl n).length=n:=by rw [←e n,List.length_map,List.length_range]
 rw [dn,r,l,show bU n=true from Nat.ble_eq_true_of_le (Nat.le_trans hn (by decide)),show sm ((n:Int) - 1)=true from Nat.ble_eq_true_of_le (by lia -abstractProof)];rfl
variable {b:Nat} {p q h:Nat→Bool} {σ:Sg}
theorem AL {x y z:Bool}{c:fT}{ρ:aH}{l m r:PE}{k:PK T}{o:cz}(h1:∀k,l c ρ σ k=k (.bool x) σ)(h2:∀k,m c ρ σ k=k (.bool y) σ)(h3:∀k,r c ρ σ k=k (.bool z) σ)(hk:k (.bool (x||(y&&z))) σ=o):vz l (iy m r) c ρ σ k=o:=by
 show l c ρ σ _=o
 rw [h1]
 cases x with
 |true=>exact hk
 |false=>
  show m c ρ σ _=o
  rw [h2]
  cases y with
  |false=>exact hk
  |true=>exact (h3 _).trans hk
theorem sT (hb:b < n)(hn:n≤1000){k:Nat}(hh:h b=U n b p q k b){c:fT}{x4:Option T}:∀(m:Nat),m≤n→∀(x5 x6:Option T) {κ:PK aH} {o:cz},(∀x5 x6,κ [some (bT n p),some (bT n q),some (nT b),some (bT n fun i=>U n b p q (n - i+k) i),x4,x5,x6] σ=o)→
  cn (aJ 5) (ae (av 6 (Cc (p2 bI (pV 5) (p2 dj (p1 aO (pV 0)) (pC (.int 1)))) (pV 2) (p2 bf (pV 5) (pC (.int 1))))) (ae (sD 3 rK (pV 5) (vz (p2 aj (pV 1) (pV 5)) (iy (p2 aj (pV 0) (pV 5)) (p2 aj (pV 3) (pV 6))))) af))
   c (dl m) [some (bT n p),some (bT n q),some (nT b),some (bT n fun i=>if m≤i then U n b p q (n - i+k) i else h i),x4,x5,x6] σ κ=o:=by
 have nl:n≤lim:=Nat.le_trans hn (by decide)
 intro m
 induction m with
 |zero=>exact fun _ x5 x6 _ _ hk=>hk x5 x6
 |succ m ih=>
  intro hm x5 x6 κ o hk
  have step:∀z,z=U n b p q (n - (m+1)+k) (nx n b m)→(bT n fun x=>if x=m then (q m||(p m&&z)) else (if m+1≤x then U n b p q (n - x+k) x else h x))=bT n fun x=>if m≤x then U n b p q (n - x+k) x else h x:=fun z hz=>jf fun i hi=>by
   by_cases e:i=m
   ·rw [if_pos e,if_pos (Nat.le_of_eq e.symm),e,hz,show n - m+k=(n - (m+1)+k)+1 by lia];rfl
   ·rw [if_neg e]
    by_cases l:m≤i
    ·rw [if_pos l,if_pos (by lia -abstractProof)]
    ·rw [if_neg l,if_neg (by lia)]
  have go:∀(j:Nat) (z:Bool),j < n→(if m+1≤j then U n b p q (n - j+k) j else h j)=z→z=U n b p q (n - (m+1)+k) (nx n b m)→ae (sD 3 rK (pV 5) (vz (p2 aj (pV 1) (pV 5)) (iy (p2 aj (pV 0) (pV 5)) (p2 aj (pV 3) (pV 6))))) af c [some (bT n p),some (bT n q),some (nT b),some (bT n fun i=>if m+1≤i then U n b p q (n - i+k) i else h i),x4,some (nT m),some (nT j)] σ
    (fun ρ σ=>cn (aJ 5) (ae (av 6 (Cc (p2 bI (pV 5) (p2 dj (p1 aO (pV 0)) (pC (.int 1)))) (pV 2) (p2 bf (pV 5) (pC (.int 1))))) (ae (sD 3 rK (pV 5) (vz (p2 aj (pV 1) (pV 5)) (iy (p2 aj (pV 0) (pV 5)) (p2 aj (pV 3) (pV 6))))) af)) c (dl m) ρ σ κ)=o:=fun j z hj ez hz=>by
   refine AL (fun _=>mt (eM hm nl) rfl) (fun _=>mt (eM hm nl) rfl) (fun _=>mt (eM hj nl) rfl) (mt (Bt hm) ?_)
   have:=ih (Nat.le_of_lt hm) (some (nT m)) (some (nT j)) hk
   rw [←step z hz,←ez] at this
   exact this
  by_cases e:m+1=n
  ·refine dg (Option.some.inj (show bI (nT m) (.int (((((List.range n).map fun i=>T.bool (p i)).length:Nat):Int) - 1))=some true from ?_)) (go b _ hb rfl ?_)
   ·rw [eK,List.length_map,List.length_range,decide_eq_true (by lia)]
   ·rw [if_neg (by lia -abstractProof),hh,nx,if_pos e,show n - (m+1)+k=k by lia]
  ·refine az (Option.some.inj (show bI (nT m) (.int (((((List.range n).map fun i=>T.bool (p i)).length:Nat):Int) - 1))=some false from ?_)) (go (m+1) _ (by lia) rfl ?_)
   ·rw [eK,List.length_map,List.length_range,decide_eq_false (by lia)]
   ·rw [if_pos (Nat.le_refl _),nx,if_neg e]
end
theorem vk {n:Nat}(hn:n≤1000)(v:Bool):j6 (.lst [.bool v]) (.int n)=some (bT n fun _=>v):=by
 unfold j6
 show (bif decide ((0:Int)≤n)&&(decide ((n:Int)≤1000)&&true) then some (T.lst (List.replicate n [T.bool v]).flatten) else none)=_
 rw [decide_eq_true (Int.natCast_nonneg n),decide_eq_true (show (n:Int)≤1000 from Int.ofNat_le.mpr hn)]
 refine congrArg (fun l=>some (T.lst l)) ?_
 have:∀m,(List.replicate m [T.bool v]).flatten=(List.range m).map fun _=>T.bool v:=fun m=>by
  rw [List.map_const',List.length_range]
  induction m with
  |zero=>rfl
  |succ m ih=>rw [List.replicate_succ,List.flatten_cons,ih];rfl
 exact this n
theorem xp {n:Nat}{f:Nat→Bool}:(((List.range n).map fun i=>T.bool (f i)).length:Nat)=n:=by rw [List.length_map,List.length_range]
section
variable {n b:Nat} {p q:Nat→Bool} {σ:Sg}
theorem iN (hb:b < n)(hn:n≤1000)(m:Nat):ai Ψ (m+1) 53 [bT n p,bT n q,nT b] σ=.ret (bT n fun i=>U n b p q (n - i+(n - b)) i) σ:=by
 have e1:BK [.int (((((List.range n).map fun i=>T.bool (p i)).length:Nat):Int) - 1),.int (-1),.int (-1)]=some (dl n):=by rw [xp];exact CN (Nat.le_trans hn (by decide))
 have e2:j6 (.lst [.bool false]) (.int (((List.range n).map fun i=>T.bool (p i)).length:Nat))=some (bT n fun _=>false):=by rw [xp];exact vk hn false
 have f1:∀(h:Nat→Bool) (k:Nat),(bT n fun i=>if n≤i then U n b p q (n - i+k) i else h i)=bT n h:=fun h k=>jf fun i hi=>if_neg (Nat.not_le.mpr hi)
 have p1:=fun {c x4}=>sT (σ:=σ) (h:=fun _=>false) (k:=0) hb hn (p:=p) (q:=q) rfl (c:=c) (x4:=x4) n (Nat.le_refl _)
 have p2:=fun {c x4}=>sT (σ:=σ) (h:=fun i=>U n b p q (n - i+0) i) (k:=n - b) hb hn (p:=p) (q:=q) rfl (c:=c) (x4:=x4) n (Nat.le_refl _)
 rw [f1] at p1 p2
 exact qI (mt e2 (mt (f7 (n:=2) (by decide)) (mt e1 (p1 none none fun x5 x6=>mt e1 (p2 x5 x6 fun x5 x6=>rfl)))))
end
section
variable {ms:List Str} {b:Nat} {σ:Sg}
noncomputable def eu (ms:List Str)(b:Nat)(s:Sy)(i:Nat):Bool:=@decide (Sem (lw ms b) s i) (Classical.propDecidable _)
theorem aS {s:Sy}{i:Nat}:eu ms b s i=true↔Sem (lw ms b) s i:=@decide_eq_true_iff _ (Classical.propDecidable _)
theorem um {n b:Nat}(hb:b < n):∀i,i < n→it n b i 0=i:=by
 intro i
 induction i with
 |zero=>exact fun _=>rfl
 |succ i ih=>exact fun h=>by rw [kC,ih (Nat.lt_of_succ_lt h),nx,if_neg (Nat.ne_of_lt h)]
theorem rE (hb:b < ms.length)(s:Sy)(t:Nat):Sem (lw ms b) s t↔Sem (lw ms b) s (it ms.length b t 0):=by
 refine bM s _ _ fun j=>?_
 have lt:=qq hb t 0 (Nat.lt_of_le_of_lt (Nat.zero_le _) hb)
 rw [lw,lw,dX,dX,um hb _ lt]
theorem f6 (hb:b < ms.length)(s:Sy){i t:Nat}(hi:i < ms.length):Sem (lw ms b) s (i+t)↔eu ms b s (it ms.length b t i)=true:=by
 rw [aS,rE hb,dX,um hb _ hi]
theorem ny (hb:b < ms.length){a c:Sy}{i:Nat}(hi:i < ms.length):U ms.length b (eu ms b a) (eu ms b c) (ms.length - i+(ms.length - b)) i=eu ms b (.till a c) i:=by
 rw [Bool.eq_iff_iff,aS]
 constructor
 ·intro h
  obtain ⟨t,_,h1,h2⟩:=qX.mp h
  exact ⟨t,(f6 hb c hi).mpr h1,fun u hu=>(f6 hb a hi).mpr (h2 u hu)⟩
 ·rintro ⟨t,h1,h2⟩
  exact xF (Nat.add_le_add_right (Nat.sub_le_sub_right (Nat.le_of_lt hb) i) _) (tG hb hi t ((f6 hb c hi).mp h1) fun u hu=>(f6 hb a hi).mp (h2 u hu))
theorem jV (hb:b < ms.length){a:Sy}{i:Nat}(hi:i < ms.length):(!U ms.length b (fun _=>true) (fun j=>!eu ms b a j) (ms.length - i+(ms.length - b)) i)=eu ms b (.always a) i:=by
 rw [Bool.eq_iff_iff,aS,Bool.not_eq_true',←Bool.not_eq_true]
 constructor
 ·intro h t
  refine (f6 hb a hi).mpr ?_
  cases e:eu ms b a (it ms.length b t i) with
  |true=>rfl
  |false=>exact absurd (xF (Nat.add_le_add_right (Nat.sub_le_sub_right (Nat.le_of_lt hb) i) _) (tG (p:=fun _=>true) (q:=fun j=>!eu ms b a j) hb hi t (by rw [e];rfl) fun _ _=>rfl)) h
 ·intro h q
  obtain ⟨t,_,h1,_⟩:=qX.mp q
  rw [(f6 hb a hi).mp (h t)] at h1;cases h1
theorem k8 (hb:b < ms.length){a:Sy}{i:Nat}(hi:i < ms.length):((List.range ms.length).drop b).any (eu ms b a)=eu ms b (.again a) i:=by
 rw [Bool.eq_iff_iff,aS,List.any_eq_true]
 constructor
 ·rintro ⟨j,hj,h⟩ t
  obtain ⟨h1,h2⟩:=gB.mp hj
  obtain ⟨u,hu⟩:=ig hb (qq hb t i hi) h1 h2
  refine ⟨u,?_⟩
  rw [Nat.add_assoc,f6 hb a hi,dX,hu];exact h
 ·intro h
  obtain ⟨t,ht⟩:=ig hb hi (Nat.le_refl b) hb
  obtain ⟨u,hu⟩:=h t
  rw [Nat.add_assoc,f6 hb a hi,dX,ht] at hu
  exact ⟨_,gB.mpr ⟨tS hb (Nat.le_refl _) hb u,qq hb u _ hb⟩,hu⟩
end
theorem o0 {n b:Nat}(h:b≤n):clipAt n (b:Int)=b:=(mf n b).trans (Nat.min_eq_left h)
theorem wY {α:Type}{b:Nat}{l:List α}(h:b≤l.length):cut (some (b:Int)) none l=l.drop b:=by
 show (l.drop (clipAt l.length b)).take (l.length - clipAt l.length b)=_
 rw [o0 h,←List.length_drop,List.take_length]
section
variable {n b:Nat} {f g:Nat→Bool}
theorem qO (f:Nat→Bool):∀l:List Nat,gK (l.map fun i=>.bool (f i))=some (l.map f):=by
 intro l
 induction l with
 |nil=>rfl
 |cons i l ih=>show o2 (some (f i)) (gK (l.map fun i=>.bool (f i))) _=_;rw [ih];rfl
theorem n7 (op:Bool→Bool→Bool):jn op (bT n f) (bT n g)=some (bT n fun i=>op (f i) (g i)):=by
 show o2 (gK ((List.range n).map fun i=>.bool (f i))) (gK ((List.range n).map fun i=>.bool (g i))) _=_
 rw [qO,qO]
 show some (T.lst ((List.zipWith op ((List.range n).map f) ((List.range n).map g)).map T.bool))=_
 rw [List.zipWith_map,List.zipWith_self,List.map_map];rfl
theorem yv (hb:b < n)(hn:n≤1000):bf (.lst (cut (some 1) none ((List.range n).map fun i=>T.bool (f i)))) (.lst [.bool (f b)])=some (bT n fun i=>f (nx n b i)):=by
 obtain ⟨k,rfl⟩:∃k,n=k+1:=⟨n - 1,by lia⟩
 have e:(List.range (k+1)).map (fun i=>T.bool (f (nx (k+1) b i)))=cut (some 1) none ((List.range (k+1)).map fun i=>T.bool (f i))++[.bool (f b)]:=by
  rw [l9,List.range_succ,List.map_append,List.map_cons,List.map_nil,nx,if_pos rfl]
  refine congrArg (·++_) ?_
  rw [←List.range_succ,List.range_succ_eq_map,List.map_cons,List.map_map,List.drop_one,List.tail_cons]
  exact List.map_congr_left fun i hi=>by rw [nx,if_neg (by have:=List.mem_range.mp hi;lia)];rfl
 show nV _ _=_
 rw [←e]
 exact o4 (by rw [List.length_map,List.length_range];exact Nat.le_trans hn (by decide))
end
noncomputable abbrev Ew (w:Str)(x:String)(b:Bool):Prop:=bI (.str w) (.str (ofString x))=some b
section
variable {σ:Sg} {c:fT} {t0 X Y r0 r1 v o:T} {w:Str} {ts ys:List T}
noncomputable abbrev EV (t0 X Y:T)(w:Str):aH:=[some t0,some X,some Y,some (.str w),none,none,none,none,none,none,none,none]
noncomputable abbrev EB (c:fT)(t0 X Y:T)(w:Str)(ts ys:List T)(σ:Sg):Prop:=∀k:PK (List T),aY (aJ 8) ay (ak 54 (aa (pV 8) (aa (pV 1) (aa (pV 2) ah)))) c (EV t0 X Y w) ts σ [] k=k ys σ
theorem Bj {v:T}{a b r:cz}(h:a=r):(bif bU [v].length then a else b)=r:=h
theorem aW {bd:PB}{cond:PT}{elt:PE}{ρ:aH}{xs zs:List T}{k:PK (List T)}{r:cz}(h:∀k:PK (List T),aY bd cond elt c ρ xs σ [] k=k zs σ)(hk:k zs σ=r):aY bd cond elt c ρ xs σ [] k=r:=(h k).trans hk
variable (h0:aj t0 (.int 0)=some (.str w)) (e1:Ew w "mark" false) (e2:Ew w "yes" false) (hP:c.call 2 [t0] σ=.ret (.lst ts) σ) (hC:EB c t0 X Y w ts ys σ)
include h0 e1 e2 hP hC
theorem AJ {xs zs:List T}(e3:Ew w "not" true)(hr:aj (.lst ys) (.int 0)=some (.lst xs))(hN:∀(ρ:aH) (k:PK (List T)),(∀t,bz (ρ.set 9 (some t)) 9=some t)→aY (aJ 9) ay (ix (pV 9)) c ρ xs σ [] k=k zs σ){k:PK aH}:eC c [some t0,some X,some Y,none,none,none,none,none,none,none,none,none] σ k=.ret (.lst zs) σ:=
 ab rfl (ab h0 (ab rfl (ab e1 (az rfl (ab rfl (ab e2 (az rfl (ab rfl (aq hP (ab rfl (aW hC (ab rfl (ab e3 (dg rfl (ab rfl (ab hr (ab rfl (aW (fun k=>hN _ k fun _=>rfl) rfl))))))))))))))))))
theorem AK (e3:Ew w "not" false)(e4:Ew w "and" true)(hr:aj (.lst ys) (.int 0)=some r0)(hr1:aj (.lst ys) (.int 1)=some r1)(hz:jn (·&&·) r0 r1=some o){k:PK aH}:eC c [some t0,some X,some Y,none,none,none,none,none,none,none,none,none] σ k=.ret o σ:=
 ab rfl (ab h0 (ab rfl (ab e1 (az rfl (ab rfl (ab e2 (az rfl (ab rfl (aq hP (ab rfl (aW hC (ab rfl (ab e3 (az rfl (ab rfl (ab e4 (dg rfl (ab rfl (ab hr (ab rfl (ab hr1 (ab hz rfl))))))))))))))))))))))
theorem Cf (e3:Ew w "not" false)(e4:Ew w "and" false)(e5:Ew w "or" true)(hr:aj (.lst ys) (.int 0)=some r0)(hr1:aj (.lst ys) (.int 1)=some r1)(hz:jn (·||·) r0 r1=some o){k:PK aH}:eC c [some t0,some X,some Y,none,none,none,none,none,none,none,none,none] σ k=.ret o σ:=
 ab rfl (ab h0 (ab rfl (ab e1 (az rfl (ab rfl (ab e2 (az rfl (ab rfl (aq hP (ab rfl (aW hC (ab rfl (ab e3 (az rfl (ab rfl (ab e4 (az rfl (ab rfl (ab e5 (dg rfl (ab rfl (ab hr (ab rfl (ab hr1 (ab hz rfl)))))))))))))))))))))))))
theorem yq (e3:Ew w "not" false)(e4:Ew w "and" false)(e5:Ew w "or" false)(e6:Ew w "next" true)(hr:aj (.lst ys) (.int 0)=some r0)(hs:bE r0 (some 1) none=some r1)(hi:aj r0 Y=some v)(ha:bf r1 (.lst [v])=some o){k:PK aH}:eC c [some t0,some X,some Y,none,none,none,none,none,none,none,none,none] σ k=.ret o σ:=
 ab rfl (ab h0 (ab rfl (ab e1 (az rfl (ab rfl (ab e2 (az rfl (ab rfl (aq hP (ab rfl (aW hC (ab rfl (ab e3 (az rfl (ab rfl (ab e4 (az rfl (ab rfl (ab e5 (az rfl (ab rfl (ab e6 (dg rfl (ab rfl (ab hr (ab rfl (ab hs (ab rfl (ab hr (ab rfl (ab hi (Bj (ab ha rfl)))))))))))))))))))))))))))))))))
theorem yp (e3:Ew w "not" false)(e4:Ew w "and" false)(e5:Ew w "or" false)(e6:Ew w "next" false)(e7:Ew w "till" true)(hr:aj (.lst ys) (.int 0)=some r0)(hr1:aj (.lst ys) (.int 1)=some r1)(ht:c.call 53 [r0,r1,Y] σ=.ret o σ){k:PK aH}:eC c [some t0,some X,some Y,none,none,none,none,none,none,none,none,none] σ k=.ret o σ:=
 ab rfl (ab h0 (ab rfl (ab e1 (az rfl (ab rfl (ab e2 (az rfl (ab rfl (aq hP (ab rfl (aW hC (ab rfl (ab e3 (az rfl (ab rfl (ab e4 (az rfl (ab rfl (ab e5 (az rfl (ab rfl (ab e6 (az rfl (ab rfl (ab e7 (dg rfl (ab rfl (ab hr (ab rfl (ab hr1 (ab rfl (aq ht rfl))))))))))))))))))))))))))))))))
theorem t9 {xs zs us vs:List T}(e3:Ew w "not" false)(e4:Ew w "and" false)(e5:Ew w "or" false)(e6:Ew w "next" false)(e7:Ew w "till" false)(e8:Ew w "always" true)(hl:aO X=some v)(hp:j6 (.lst [.bool true]) v=some r1)(hr:aj (.lst ys) (.int 0)=some (.lst xs))(hN:∀(ρ:aH) (j:Nat) (k:PK (List T)),(∀t,bz (ρ.set j (some t)) j=some t)→aY (aJ j) ay (ix (pV j)) c ρ xs σ [] k=k zs σ)(ht:c.call 53 [r1,.lst zs,Y] σ=.ret (.lst us) σ)
  (hM:∀(ρ:aH) (j:Nat) (k:PK (List T)),(∀t,bz (ρ.set j (some t)) j=some t)→aY (aJ j) ay (ix (pV j)) c ρ us σ [] k=k vs σ){k:PK aH}:eC c [some t0,some X,some Y,none,none,none,none,none,none,none,none,none] σ k=.ret (.lst vs) σ:=
 ab rfl (ab h0 (ab rfl (ab e1 (az rfl (ab rfl (ab e2 (az rfl (ab rfl (aq hP (ab rfl (aW hC (ab rfl (ab e3 (az rfl (ab rfl (ab e4 (az rfl (ab rfl (ab e5 (az rfl (ab rfl (ab e6 (az rfl (ab rfl (ab e7 (az rfl (ab rfl (ab e8 (dg rfl (Bj (ab rfl (ab hl (ab hp (ab rfl (ab hr (ab rfl (aW (fun k=>hN _ _ k fun _=>rfl) (ab rfl (aq ht (ab rfl (ab rfl (aW (fun k=>hM _ _ k fun _=>rfl) rfl))))))))))))))))))))))))))))))))))))))))))
theorem vA {b:Int}(hY:Y=.int b)(e3:Ew w "not" false)(e4:Ew w "and" false)(e5:Ew w "or" false)(e6:Ew w "next" false)(e7:Ew w "till" false)(e8:Ew w "always" false)(hr:aj (.lst ys) (.int 0)=some r0)(hs:bE r0 (some b) none=some r1)(hn:sB r1=some v){x:T}(hl:aO X=some x)(hp:j6 (.lst [v]) x=some o){k:PK aH}:eC c [some t0,some X,some Y,none,none,none,none,none,none,none,none,none] σ k=.ret o σ:=by
 subst hY
 exact ab rfl (ab h0 (ab rfl (ab e1 (az rfl (ab rfl (ab e2 (az rfl (ab rfl (aq hP (ab rfl (aW hC (ab rfl (ab e3 (az rfl (ab rfl (ab e4 (az rfl (ab rfl (ab e5 (az rfl (ab rfl (ab e6 (az rfl (ab rfl (ab e7 (az rfl (ab rfl (ab e8 (az rfl (ab rfl (ab hr (ab rfl (ab rfl (ab hs (ab hn (Bj (ab rfl (ab hl (ab hp rfl)))))))))))))))))))))))))))))))))))))))
end
section
variable {ms:List Str} {b:Nat} {σ:Sg}
theorem sK {a:Sy}{i:Nat}:(!eu ms b a i)=eu ms b (.not a) i:=by
 rw [Bool.eq_iff_iff,Bool.not_eq_true',←Bool.not_eq_true,aS,aS];exact .rfl
theorem yo (hb:b < ms.length)(hn:ms.length≤1000):∀(m:Nat) (s:Sy),dep s≤m→ai Ψ (m+2) 54 [aX s,.lst (ms.map .str),nT b] σ=.ret (bT ms.length (eu ms b s)) σ:=by
 have ret:∀{f:Nat→Bool} {s:Sy},(∀i,i < ms.length→f i=eu ms b s i)→cz.ret (bT ms.length f) σ=.ret (bT ms.length (eu ms b s)) σ:=fun h=>by rw [jf h]
 have ml:(((ms.map T.str).length:Nat):Int)=ms.length:=by rw [List.length_map]
 have rep:∀v,j6 (.lst [.bool v]) (.int (ms.map T.str).length)=some (bT ms.length fun _=>v):=fun v=>by rw [ml];exact vk hn v
 have over:∀f:Str→Bool,ms.map (fun x=>T.bool (f x))=(List.range ms.length).map fun i=>T.bool (f ((ms[i]?).getD default)):=fun f=>by
  refine List.ext_getElem? fun i=>?_
  rw [List.getElem?_map,List.getElem?_map]
  by_cases h:i < ms.length
  ·rw [List.getElem?_range h]
   show _=some (T.bool (f ((ms[i]?).getD default)))
   rw [List.getElem?_eq_getElem h];rfl
  ·rw [List.getElem?_eq_none (Nat.le_of_not_lt h),List.getElem?_eq_none (by rw [List.length_range];exact Nat.le_of_not_lt h)];rfl
 intro m
 induction m with
 |zero=>intro s h;exact absurd (fG s) (Nat.not_le.mpr (Nat.lt_succ_of_le h))
 |succ m ih=>
  intro s hs
  have H:∀p∈cg s,ai Ψ (m+2) 54 [aX p,.lst (ms.map .str),nT b] σ=.ret (bT ms.length (eu ms b p)) σ:=fun p hp=>ih p (Nat.le_of_lt_succ (Nat.lt_of_lt_of_le (cS hp) hs))
  have P:=lz (σ:=σ) s (m+1)
  have C:∀{w:Str},EB ⟨ai Ψ (m+2)⟩ (aX s) (.lst (ms.map .str)) (nT b) w ((cg s).map aX) ((cg s).map fun p=>bT ms.length (eu ms b p)) σ:=fun k=>bb (e:=aX) (fun p=>bT ms.length (eu ms b p)) (fun p hp=>⟨_,rfl,fun κ=>aq (H p hp) rfl⟩) rfl
  have N:∀(f:Nat→Bool) (ρ:aH) (j:Nat) (k:PK (List T)),(∀t,bz (ρ.set j (some t)) j=some t)→aY (aJ j) ay (ix (pV j)) ⟨ai Ψ (m+2)⟩ ρ ((List.range ms.length).map fun i=>.bool (f i)) σ [] k=k ((List.range ms.length).map fun i=>.bool (!f i)) σ:=fun f ρ j k h=>by
   refine bb (e:=fun i=>T.bool (f i)) (fun i=>.bool (!f i)) (fun i _=>⟨_,rfl,fun κ=>?_⟩) rfl
   show up (bz (List.set ρ j (some (.bool (f i)))) j) σ (fun t σ=>up ((di t).map fun b=>T.bool (!b)) σ κ)=_
   rw [h];rfl
  cases s with
  |mark x=>
   refine fH (bb (e:=T.str) (fun y=>.bool (PyData.eqv (.str y) (.str x))) (fun y _=>⟨_,rfl,fun k=>rfl⟩) ?_)
   show cz.ret (.lst (ms.map fun y=>.bool (PyData.eqv (.str y) (.str x)))) σ=_
   rw [over]
   exact ret fun i hi=>by rw [Bool.eq_iff_iff,aS];show _↔PyData.eqv (.str (lw ms b i)) (.str x)=true;rw [lw,um hb i hi]
  |yes=>
   refine fH (bb (e:=T.str) (fun _=>.bool true) (fun y _=>⟨_,rfl,fun k=>rfl⟩) ?_)
   show cz.ret (.lst (ms.map fun _=>.bool true)) σ=_
   rw [over fun _=>true]
   exact ret fun i hi=>((aS (s:=.yes)).mpr trivial).symm
  |not a=>exact fH ((AJ rfl rfl rfl P C rfl rfl fun ρ k=>N (eu ms b a) ρ 9 k).trans (ret fun i _=>sK))
  |and a c=>exact fH ((AK rfl rfl rfl P C rfl rfl rfl rfl (n7 _)).trans (ret fun i _=>by rw [Bool.eq_iff_iff,Bool.and_eq_true,aS,aS,aS];exact .rfl))
  |or a c=>exact fH ((Cf rfl rfl rfl P C rfl rfl rfl rfl rfl (n7 _)).trans (ret fun i _=>by rw [Bool.eq_iff_iff,Bool.or_eq_true,aS,aS,aS];exact .rfl))
  |next a=>
   refine fH ((yq rfl rfl rfl P C rfl rfl rfl rfl rfl nr (eM hb (Nat.le_trans hn (by decide))) (yv hb hn)).trans (ret fun i hi=>?_))
   rw [Bool.eq_iff_iff,aS,aS]
   show _↔Sem (lw ms b) a (i+1)
   rw [rE hb a (i+1),kC,um hb i hi]
  |till a c=>exact fH ((yp rfl rfl rfl P C rfl rfl rfl rfl rfl rfl rfl (iN hb hn _)).trans (ret fun i hi=>ny hb hi))
  |always a=>exact fH ((t9 rfl rfl rfl P C rfl rfl rfl rfl rfl rfl rfl (rep true) rfl (N (eu ms b a)) (iN hb hn _) (N _)).trans (ret fun i hi=>jV hb hi))
  |again a=>
   refine fH ((vA rfl rfl rfl P C (b:=(b:Int)) rfl rfl rfl rfl rfl rfl rfl rfl nr ?_ rfl (rep (((List.range ms.length).drop b).any (eu ms b a)))).trans (ret fun i hi=>k8 hb hi))
   rw [wY (by rw [List.length_map,List.length_range];exact Nat.le_of_lt hb),←List.map_drop]
   exact any_map ((List.range ms.length).drop b) (eu ms b a)
theorem wG {w r:List Str}(hr:0 < r.length)(hn:(w++r).length≤1000){s:Sy}(hd:dep s≤20)(m:Nat):ai Ψ (m+24) 56 [aX s,.lst (w.map .str),.lst (r.map .str)] σ=.ret (.bool (eu (w++r) w.length s 0)) σ:=by
 have hb:w.length < (w++r).length:=by rw [List.length_append];lia -abstractProof
 have O:=yo (σ:=σ) hb hn (m+20) s (Nat.le_trans hd (Nat.le_add_left _ _))
 have e:bf (.lst (w.map .str)) (.lst (r.map .str))=some (.lst ((w++r).map .str)):=fI (by rw [←List.length_append];exact Nat.le_trans hn (by decide))
 have R:ai Ψ (m+23) 55 [aX s,.lst (w.map .str),.lst (r.map .str)] σ=.ret (bT (w++r).length (eu (w++r) w.length s)) σ:=by
  refine xg (ab rfl (ab rfl (ab rfl (ab e (ab rfl (ab rfl (aq (t:=bT (w++r).length (eu (w++r) w.length s)) (σ:=σ) ?_ rfl)))))))
  rw [List.length_map];exact O
 exact zr (ab rfl (ab rfl (ab rfl (aq R (ab (eM (i:=0) (Nat.lt_of_le_of_lt (Nat.zero_le _) hb) (Nat.le_trans hn (by decide))) rfl)))))
end
section
variable {σ:Sg} {c:fT} {t0 W R run r0 r1 v o:T} {w:Str} {ts ys rs zs:List T} {n:Nat}
noncomputable abbrev mF (t0 W R run:T)(w:Str)(y:Option T):aH:=[some t0,some W,some R,some (.str w),some run,y,none,none,none,none,none,none,none,none,none]
variable (h0:aj t0 (.int 0)=some (.str w)) (hA:bf W R=some run) (e1:Ew w "mark" false) (e2:Ew w "yes" false) (hS:bE t0 (some 1) none=some (.tup ts)) (hC:∀k:PK (List T),aY (aJ 8) ay (ak 46 (aa (pV 8) (aa (pV 1) (aa (pV 2) ah)))) c (mF t0 W R run w none) ts σ [] k=k ys σ)
include h0 hA e1 e2 hS hC
theorem AU (e3:Ew w "not" true){xs:List T}(hr:aj (.lst ys) (.int 0)=some (.lst xs))(hN:∀k:PK (List T),aY (aJ 9) ay (ix (pV 9)) c (mF t0 W R run w (some (.lst ys))) xs σ [] k=k zs σ){k:PK aH}:aU c [some t0,some W,some R,none,none,none,none,none,none,none,none,none,none,none,none] σ k=.ret (.lst zs) σ:=
 ab rfl (ab h0 (ab rfl (ab rfl (ab hA (ab rfl (ab e1 (az rfl (ab rfl (ab e2 (az rfl (ab rfl (ab rfl (ab hS (ab rfl (aW hC (ab rfl (ab e3 (dg rfl (ab rfl (ab hr (ab rfl (aW hN rfl))))))))))))))))))))))
theorem AV (e3:Ew w "not" false)(e4:Ew w "and" true)(hr:aj (.lst ys) (.int 0)=some r0)(hr1:aj (.lst ys) (.int 1)=some r1)(hz:jn (·&&·) r0 r1=some o){k:PK aH}:aU c [some t0,some W,some R,none,none,none,none,none,none,none,none,none,none,none,none] σ k=.ret o σ:=
 ab rfl (ab h0 (ab rfl (ab rfl (ab hA (ab rfl (ab e1 (az rfl (ab rfl (ab e2 (az rfl (ab rfl (ab rfl (ab hS (ab rfl (aW hC (ab rfl (ab e3 (az rfl (ab rfl (ab e4 (dg rfl (ab rfl (ab hr (ab rfl (ab hr1 (ab hz rfl))))))))))))))))))))))))))
theorem Cp (e3:Ew w "not" false)(e4:Ew w "and" false)(e5:Ew w "or" true)(hr:aj (.lst ys) (.int 0)=some r0)(hr1:aj (.lst ys) (.int 1)=some r1)(hz:jn (·||·) r0 r1=some o){k:PK aH}:aU c [some t0,some W,some R,none,none,none,none,none,none,none,none,none,none,none,none] σ k=.ret o σ:=
 ab rfl (ab h0 (ab rfl (ab rfl (ab hA (ab rfl (ab e1 (az rfl (ab rfl (ab e2 (az rfl (ab rfl (ab rfl (ab hS (ab rfl (aW hC (ab rfl (ab e3 (az rfl (ab rfl (ab e4 (az rfl (ab rfl (ab e5 (dg rfl (ab rfl (ab hr (ab rfl (ab hr1 (ab hz rfl)))))))))))))))))))))))))))))
theorem yD (e3:Ew w "not" false)(e4:Ew w "and" false)(e5:Ew w "or" false)(e6:Ew w "next" true)(hl:aO run=some (.int n))(hg:tT [.int n]=some rs)(hX:∀k:PK (List T),aY (aJ 10) ay (p2 aj (p2 aj (pV 5) (pC (.int 0))) (p2 aj (ak 44 (aa (pV 1) (aa (pV 2) (aa (pV 10) ah)))) (pC (.int 1)))) c (mF t0 W R run w (some (.lst ys))) rs σ [] k=k zs σ){k:PK aH}:aU c [some t0,some W,some R,none,none,none,none,none,none,none,none,none,none,none,none] σ k=.ret (.lst zs) σ:=
 ab rfl (ab h0 (ab rfl (ab rfl (ab hA (ab rfl (ab e1 (az rfl (ab rfl (ab e2 (az rfl (ab rfl (ab rfl (ab hS (ab rfl (aW hC (ab rfl (ab e3 (az rfl (ab rfl (ab e4 (az rfl (ab rfl (ab e5 (az rfl (ab rfl (ab e6 (dg rfl (ab rfl (ab hl (ab hg (aW hX rfl)))))))))))))))))))))))))))))))
theorem ue (e3:Ew w "not" false)(e4:Ew w "and" false)(e5:Ew w "or" false)(e6:Ew w "next" false)(e7:Ew w "always" true)(hl:aO run=some (.int n))(hg:tT [.int n]=some rs)(hX:∀k:PK (List T),aY (aJ 11) ay (pB (p2 fP (pC (.bool false)) (aB (aG (ak 44 (aa (pV 1) (aa (pV 2) (aa (pV 11) ah))))) (aJ 12) ay (p2 aj (p2 aj (pV 5) (pC (.int 0))) (pV 12))))) c (mF t0 W R run w (some (.lst ys))) rs σ [] k=k zs σ){k:PK aH}:aU c [some t0,some W,some R,none,none,none,none,none,none,none,none,none,none,none,none] σ k=.ret (.lst zs) σ:=
 ab rfl (ab h0 (ab rfl (ab rfl (ab hA (ab rfl (ab e1 (az rfl (ab rfl (ab e2 (az rfl (ab rfl (ab rfl (ab hS (ab rfl (aW hC (ab rfl (ab e3 (az rfl (ab rfl (ab e4 (az rfl (ab rfl (ab e5 (az rfl (ab rfl (ab e6 (az rfl (ab rfl (ab e7 (dg rfl (ab rfl (ab hl (ab hg (aW hX rfl))))))))))))))))))))))))))))))))))
theorem vW (e3:Ew w "not" false)(e4:Ew w "and" false)(e5:Ew w "or" false)(e6:Ew w "next" false)(e7:Ew w "always" false)(e8:Ew w "again" true)(hs:run=.lst rs)(hX:∀k:PK (List T),aY (aJ 13) ay (pB (p2 i5 (pC (.bool true)) (p3 bE (p2 aj (pV 5) (pC (.int 0))) (p1 ck (p1 aO (pV 1))) iw))) c (mF t0 W R run w (some (.lst ys))) rs σ [] k=k zs σ){k:PK aH}:aU c [some t0,some W,some R,none,none,none,none,none,none,none,none,none,none,none,none] σ k=.ret (.lst zs) σ:=
 ab rfl (ab h0 (ab rfl (ab rfl (ab hA (ab rfl (ab e1 (az rfl (ab rfl (ab e2 (az rfl (ab rfl (ab rfl (ab hS (ab rfl (aW hC (ab rfl (ab e3 (az rfl (ab rfl (ab e4 (az rfl (ab rfl (ab e5 (az rfl (ab rfl (ab e6 (az rfl (ab rfl (ab e7 (az rfl (ab rfl (ab e8 (dg rfl (ab rfl (ab (show fZ run=some rs by rw [hs];rfl) (aW hX rfl))))))))))))))))))))))))))))))))))))
theorem yC (e3:Ew w "not" false)(e4:Ew w "and" false)(e5:Ew w "or" false)(e6:Ew w "next" false)(e7:Ew w "always" false)(e8:Ew w "again" false)(hl:aO run=some (.int n))(hg:tT [.int n]=some rs)(hX:∀k:PK (List T),aY (aJ 14) ay (ak 45 (aa (p2 aj (pV 5) (pC (.int 0))) (aa (p2 aj (pV 5) (pC (.int 1))) (aa (ak 44 (aa (pV 1) (aa (pV 2) (aa (pV 14) ah)))) ah)))) c (mF t0 W R run w (some (.lst ys))) rs σ [] k=k zs σ){k:PK aH}:aU c [some t0,some W,some R,none,none,none,none,none,none,none,none,none,none,none,none] σ k=.ret (.lst zs) σ:=
 ab rfl (ab h0 (ab rfl (ab rfl (ab hA (ab rfl (ab e1 (az rfl (ab rfl (ab e2 (az rfl (ab rfl (ab rfl (ab hS (ab rfl (aW hC (ab rfl (ab e3 (az rfl (ab rfl (ab e4 (az rfl (ab rfl (ab e5 (az rfl (ab rfl (ab e6 (az rfl (ab rfl (ab e7 (az rfl (ab rfl (ab e8 (az rfl (ab rfl (ab hl (ab hg (aW hX rfl)))))))))))))))))))))))))))))))))))))
end
section
variable {σ:Sg} {c:fT} {ρ:aH} {κ:PK T} {t0 W R run r0 r1 v mo j x:T} {w:Str} {ys zs xs:List T} {b:Int}
theorem yE (h0:aj t0 (.int 0)=some (.str w))(hA:bf W R=some run)(e1:Ew w "mark" true)(hs:fZ run=some xs)(hX:∀k:PK (List T),aY (aJ 6) ay (pB (p2 bI (pV 6) (p2 aj (pV 0) (pC (.int 1))))) c (mF t0 W R run w none) xs σ [] k=k zs σ){k:PK aH}:aU c [some t0,some W,some R,none,none,none,none,none,none,none,none,none,none,none,none] σ k=.ret (.lst zs) σ:=ab rfl (ab h0 (ab rfl (ab rfl (ab hA (ab rfl (ab e1 (dg rfl (ab rfl (ab hs (aW hX rfl))))))))))
theorem AT (h0:aj t0 (.int 0)=some (.str w))(hA:bf W R=some run)(e1:Ew w "mark" false)(e2:Ew w "yes" true)(hs:fZ run=some xs)(hX:∀k:PK (List T),aY (aJ 7) ay (pC (.bool true)) c (mF t0 W R run w none) xs σ [] k=k zs σ){k:PK aH}:aU c [some t0,some W,some R,none,none,none,none,none,none,none,none,none,none,none,none] σ k=.ret (.lst zs) σ:=ab rfl (ab h0 (ab rfl (ab rfl (ab hA (ab rfl (ab e1 (az rfl (ab rfl (ab e2 (dg rfl (ab rfl (ab hs (aW hX rfl)))))))))))))
theorem zh (h5:bz ρ 5=some (.lst ys))(h1:bz ρ 1=some W)(h2:bz ρ 2=some R)(h10:bz ρ 10=some x)(hr:aj (.lst ys) (.int 0)=some r0)(hc:c.call 44 [W,R,x] σ=.ret mo σ)(hm:aj mo (.int 1)=some j)(hv:aj r0 j=some v):p2 aj (p2 aj (pV 5) (pC (.int 0))) (p2 aj (ak 44 (aa (pV 1) (aa (pV 2) (aa (pV 10) ah)))) (pC (.int 1))) c ρ σ κ=κ v σ:=
 ab h5 (ab hr (ab h1 (ab h2 (ab h10 (aq hc (ab hm (ab hv rfl)))))))
theorem CE (h5:bz ρ 5=some (.lst ys))(h12:bz ρ 12=some x)(hr:aj (.lst ys) (.int 0)=some r0)(hv:aj r0 x=some v):p2 aj (p2 aj (pV 5) (pC (.int 0))) (pV 12) c ρ σ κ=κ v σ:=ab h5 (ab hr (ab h12 (ab hv rfl)))
theorem uy {a:Bool}(h1:bz ρ 1=some W)(h2:bz ρ 2=some R)(h11:bz ρ 11=some x)(hc:c.call 44 [W,R,x] σ=.ret (.lst xs) σ)(hX:∀k:PK (List T),aY (aJ 12) ay (p2 aj (p2 aj (pV 5) (pC (.int 0))) (pV 12)) c ρ xs σ [] k=k zs σ)(hn:fP (.bool false) (.lst zs)=some a):pB (p2 fP (pC (.bool false)) (aB (aG (ak 44 (aa (pV 1) (aa (pV 2) (aa (pV 11) ah))))) (aJ 12) ay (p2 aj (p2 aj (pV 5) (pC (.int 0))) (pV 12)))) c ρ σ κ=κ (.bool a) σ:=
 ab h1 (ab h2 (ab h11 (aq hc (ab rfl (aW hX (ab hn rfl))))))
theorem wO {a:Bool}(h5:bz ρ 5=some (.lst ys))(hr:aj (.lst ys) (.int 0)=some r0)(h1:bz ρ 1=some W)(hl:aO W=some (.int b))(hs:bE r0 (some b) none=some r1)(hi:i5 (.bool true) r1=some a):pB (p2 i5 (pC (.bool true)) (p3 bE (p2 aj (pV 5) (pC (.int 0))) (p1 ck (p1 aO (pV 1))) iw)) c ρ σ κ=κ (.bool a) σ:=
 ab h5 (ab hr (ab h1 (ab hl (ab rfl (ab hs (ab hi rfl))))))
theorem zg (h5:bz ρ 5=some (.lst ys))(hr:aj (.lst ys) (.int 0)=some r0)(hr1:aj (.lst ys) (.int 1)=some r1)(h1:bz ρ 1=some W)(h2:bz ρ 2=some R)(h14:bz ρ 14=some x)(hc:c.call 44 [W,R,x] σ=.ret mo σ)(ht:c.call 45 [r0,r1,mo] σ=.ret v σ):ak 45 (aa (p2 aj (pV 5) (pC (.int 0))) (aa (p2 aj (pV 5) (pC (.int 1))) (aa (ak 44 (aa (pV 1) (aa (pV 2) (aa (pV 14) ah)))) ah))) c ρ σ κ=κ v σ:=
 ab h5 (ab hr (ab h5 (ab hr1 (ab h1 (ab h2 (ab h14 (aq hc (aq ht rfl))))))))
end
noncomputable abbrev AP (n b i:Nat):List Nat:=List.range' i (n - i)++List.range' b (n - b)
theorem rF {a n:Nat}(h:a≤n)(hn:n≤100000):tT [nT a,nT n]=some ((List.range' a (n - a)).map nT):=by
 have s:Builtin.Range.rangeSize a n 1=((n - a:Nat):Int):=by
  refine (if_pos (by decide)).trans ?_
  rcases Nat.lt_or_ge a n with q |q
  ·rw [if_pos (Int.ofNat_lt.mpr q),Int.ediv_one,Int.sub_add_cancel,Int.ofNat_sub h]
  ·rw [if_neg (Int.not_lt.mpr (Int.ofNat_le.mpr q)),Nat.sub_eq_zero_of_le q];rfl
 have e:cf a n 1=(List.range' a (n - a)).map nT:=by
  rw [cf,s,List.range'_eq_map_range,List.map_map]
  exact List.map_congr_left fun k _=>congrArg T.int (by rw [Int.mul_one];rfl)
 unfold tT
 show rg a n=_
 rw [rg,e,kY (by rw [aZ];lia),kY (by rw [aZ];lia),List.length_map,List.length_range',show bU (n - a)=true from Nat.ble_eq_true_of_le (by rw [aZ];lia)];rfl
section
variable {σ:Sg} {ws rs:List T} {n b i:Nat} {p q:Nat→Bool}
theorem xC (hw:ws.length=b)(hr:ws.length+rs.length=n)(hi:i≤n)(hn:n≤1000)(m:Nat):ai Ψ (m+1) 44 [.lst ws,.lst rs,nT i] σ=.ret (.lst ((AP n b i).map nT)) σ:=by
 have l1:aO (.lst ws)=some (nT b):=by rw [←hw];unfold aO;rfl
 have l2:aO (.lst rs)=some (.int rs.length):=by unfold aO;rfl
 have e:bf (nT b) (.int rs.length)=some (nT n):=by unfold bf;exact congrArg (fun z=>some (T.int z)) (by lia)
 have hb:b≤n:=by lia
 have cp:∀{c:fT} {ρ:aH} {j:Nat} {l:List Nat} {k:PK (List T)} {o:cz},(∀t,bz (ρ.set j (some t)) j=some t)→k (l.map nT) σ=o→aY (aJ j) ay (pV j) c ρ (l.map nT) σ [] k=o:=fun {c ρ j l k o} h hk=>by
  refine bb (e:=nT) nT (fun x _=>⟨_,rfl,fun κ=>?_⟩) hk
  show up (bz (List.set ρ j (some (nT x))) j) σ κ=_
  rw [h];unfold up;rfl
 refine o7 (ab rfl (ab l1 (ab rfl (ab l2 (ab e (ab rfl (ab rfl (ab (rF hi (Nat.le_trans hn (by decide))) (cp (fun _=>rfl) (ab rfl (ab l1 (ab rfl (ab (rF hb (Nat.le_trans hn (by decide))) (cp (fun _=>rfl) (ab (fI (e:=nT) (l:=List.range' i (n - i)) (q:=List.range' b (n - b)) ?_) rfl)))))))))))))))
 rw [List.length_range',List.length_range',aZ];lia
theorem qm (hn:n≤1000)(m:Nat){mo:List Nat}(hm:∀x∈mo,x < n):ai Ψ (m+1) 45 [bT n p,bT n q,.lst (mo.map nT)] σ=.ret (.bool (iT p q mo)) σ:=by
 have lp:∀(l:List Nat) (x3:Option T) (k:PK aH),(∀x∈l,x < n)→(∀x3,k [some (bT n p),some (bT n q),some (.lst (mo.map nT)),x3] σ=.ret (.bool false) σ)→
   cn (aJ 3) (ae (be (qE (p2 aj (pV 1) (pV 3))) (ae (au (pC (.bool true))) af) af) (ae (be (dE (qE (p2 aj (pV 0) (pV 3)))) (ae (au (pC (.bool false))) af) af) af)) ⟨ai Ψ m⟩ (l.map nT) [some (bT n p),some (bT n q),some (.lst (mo.map nT)),x3] σ k=.ret (.bool (iT p q l)) σ:=fun l=>by
  induction l with
  |nil=>exact fun x3 k _ hk=>hk x3
  |cons x l ih=>
   intro x3 k hl hk
   have nl:n≤lim:=Nat.le_trans hn (by decide)
   have hx:=hl x (.head _)
   have e:=ih (some (nT x)) k (fun y hy=>hl y (.tail _ hy)) hk
   refine CC (v:=nT x) (l:=l.map nT) rfl (ab rfl (ab rfl (ab (eM hx nl) (ab rfl ?_))))
   rw [show iT p q (x::l)=(q x||(p x&&iT p q l)) from rfl]
   cases q x with
   |true=>exact dg rfl rfl
   |false=>
    refine az rfl (ab rfl (ab rfl (ab (eM hx nl) (ab rfl ?_))))
    cases p x with
    |true=>exact az rfl e
    |false=>exact dg rfl rfl
 exact qM (ab rfl (ab rfl (lp mo none _ hm fun _=>rfl)))
end
section
variable {n b i:Nat}
theorem vQ (hb:b < n)(hi:i < n):∀x∈AP n b i,x < n:=fun x hx=>by
 rcases List.mem_append.mp hx with h |h
 ·have:=List.mem_range'_1.mp h;lia
 ·have:=List.mem_range'_1.mp h;lia
theorem Co (hb:b < n)(hi:i < n):(AP n b i)[1]?=some (nx n b i):=by
 unfold nx
 show (List.range' i (n - i)++List.range' b (n - b))[1]?=_
 by_cases e:i+1=n
 ·subst e;rw [if_pos rfl,Nat.add_sub_cancel_left,Nat.succ_sub (Nat.le_of_lt_succ hb),List.range'_succ,List.range'_succ];rfl
 ·obtain ⟨d,rfl⟩:=Nat.exists_eq_add_of_le (show i+2≤n from Nat.lt_of_le_of_ne hi e)
  rw [if_neg e,Nat.add_assoc,Nat.add_sub_cancel_left,Nat.add_comm 2 d,List.range'_succ,List.range'_succ];rfl
end
section
variable {w r:List Str} {σ:Sg}
theorem yB {α:Type}{f:α→Bool}{l:List α}:decide (true∈l.map f)=l.any f:=by
 rw [Bool.eq_iff_iff,decide_eq_true_iff,List.any_eq_true,List.mem_map]
theorem yu {α:Type}{f:α→Bool}{l:List α}:(!decide (false∈l.map f))=l.all f:=by
 rw [Bool.eq_iff_iff,Bool.not_eq_true',decide_eq_false_iff_not,List.all_eq_true,List.mem_map]
 exact ⟨fun h x hx=>by cases e:f x with |true=>rfl |false=>exact absurd ⟨x,hx,e⟩ h,fun h ⟨x,hx,e⟩=>by rw [h x hx] at e;cases e⟩
theorem vV (hr:0 < r.length)(hn:(w++r).length≤1000):∀(m:Nat) (s:Sy),dep s≤m→ai Ψ (m+2) 46 [aX s,.lst (w.map .str),.lst (r.map .str)] σ=.ret (bT (w++r).length (eu (w++r) w.length s)) σ:=by
 have hb:w.length < (w++r).length:=by rw [List.length_append];lia
 have nl:(w++r).length≤lim:=Nat.le_trans hn (by decide)
 have hA:bf (.lst (w.map .str)) (.lst (r.map .str))=some (.lst ((w++r).map .str)):=fI (by rw [←List.length_append];exact nl)
 have hl:aO (.lst ((w++r).map T.str))=some (.int (w++r).length):=congrArg (fun z:Nat=>some (T.int z)) (List.length_map ..)
 have hg:tT [.int (w++r).length]=some ((List.range (w++r).length).map nT):=f7 (Nat.le_trans hn (by decide))
 have ret:∀{f:Nat→Bool} {s:Sy},(∀i,i < (w++r).length→f i=eu (w++r) w.length s i)→cz.ret (bT (w++r).length f) σ=.ret (bT (w++r).length (eu (w++r) w.length s)) σ:=fun h=>by rw [jf h]
 have over:∀f:Str→Bool,(w++r).map (fun x=>T.bool (f x))=(List.range (w++r).length).map fun i=>T.bool (f (((w++r)[i]?).getD default)):=fun f=>by
  refine List.ext_getElem? fun i=>?_
  rw [List.getElem?_map,List.getElem?_map]
  by_cases h:i < (w++r).length
  ·rw [List.getElem?_range h]
   show _=some (T.bool (f (((w++r)[i]?).getD default)))
   rw [List.getElem?_eq_getElem h];rfl
  ·rw [List.getElem?_eq_none (Nat.le_of_not_lt h),List.getElem?_eq_none (by rw [List.length_range];exact Nat.le_of_not_lt h)];rfl
 have after:∀{i:Nat} (m:Nat),i < (w++r).length→ai Ψ (m+1) 44 [.lst (w.map .str),.lst (r.map .str),nT i] σ=.ret (.lst ((AP (w++r).length w.length i).map nT)) σ:=fun m hi=>xC (List.length_map ..) (by rw [List.length_map,List.length_map,List.length_append]) (Nat.le_of_lt hi) hn m
 intro m
 induction m with
 |zero=>intro s h;exact absurd (fG s) (Nat.not_le.mpr (Nat.lt_succ_of_le h))
 |succ m ih=>
  intro s hs
  have C:(∀x,s≠.mark x)→∀{v:Str} (k:PK (List T)),aY (aJ 8) ay (ak 46 (aa (pV 8) (aa (pV 1) (aa (pV 2) ah)))) ⟨ai Ψ (m+2)⟩ (mF (aX s) (.lst (w.map .str)) (.lst (r.map .str)) (.lst ((w++r).map .str)) v none) ((cg s).map aX) σ [] k=k ((cg s).map fun p=>bT (w++r).length (eu (w++r) w.length p)) σ:=fun _ {v} k=>
   bb (e:=aX) (fun p=>bT (w++r).length (eu (w++r) w.length p)) (fun p hp=>⟨_,rfl,fun κ=>aq (ih p (Nat.le_of_lt_succ (Nat.lt_of_lt_of_le (cS hp) hs))) rfl⟩) rfl
  cases s with
  |mark x=>
   refine bw ((yE rfl hA rfl rfl fun k=>bb (e:=T.str) (fun y=>.bool (PyData.eqv (.str y) (.str x))) (fun y _=>⟨_,rfl,fun k=>rfl⟩) rfl).trans ?_)
   rw [over]
   exact ret fun i hi=>by rw [Bool.eq_iff_iff,aS];show _↔PyData.eqv (.str (lw (w++r) w.length i)) (.str x)=true;rw [lw,um hb i hi]
  |yes=>
   refine bw ((AT rfl hA rfl rfl rfl fun k=>bb (e:=T.str) (fun _=>.bool true) (fun y _=>⟨_,rfl,fun k=>rfl⟩) rfl).trans ?_)
   rw [over fun _=>true]
   exact ret fun i hi=>((aS (s:=.yes)).mpr trivial).symm
  |not a=>exact bw ((AU rfl hA rfl rfl (by kernel_rfl) (C fun _ h=>nomatch h) rfl rfl fun k=>bb (e:=fun i=>T.bool (eu (w++r) w.length a i)) (fun i=>.bool (!eu (w++r) w.length a i)) (fun i _=>⟨_,rfl,fun κ=>rfl⟩) rfl).trans (ret fun i _=>sK))
  |and a c=>exact bw ((AV rfl hA rfl rfl (by kernel_rfl) (C fun _ h=>nomatch h) rfl rfl rfl rfl (n7 _)).trans (ret fun i _=>by rw [Bool.eq_iff_iff,Bool.and_eq_true,aS,aS,aS];exact .rfl))
  |or a c=>exact bw ((Cp rfl hA rfl rfl (by kernel_rfl) (C fun _ h=>nomatch h) rfl rfl rfl rfl rfl (n7 _)).trans (ret fun i _=>by rw [Bool.eq_iff_iff,Bool.or_eq_true,aS,aS,aS];exact .rfl))
  |next a=>
   refine bw ((yD rfl hA rfl rfl (by kernel_rfl) (C fun _ h=>nomatch h) rfl rfl rfl rfl hl hg (fun k=>bb (e:=nT) (fun i=>.bool (eu (w++r) w.length a (nx (w++r).length w.length i))) (fun i hi=>⟨_,rfl,fun κ=>zh rfl rfl rfl rfl rfl (after (m+1) (List.mem_range.mp hi)) (bR (Co hb (List.mem_range.mp hi)) (by decide)) (eM (zV hb (List.mem_range.mp hi)) nl)⟩) rfl)).trans (ret fun i hi=>?_))
   rw [Bool.eq_iff_iff,aS,aS]
   show _↔Sem (lw (w++r) w.length) a (i+1)
   rw [rE hb a (i+1),kC,um hb i hi]
  |always a=>
   refine bw ((ue rfl hA rfl rfl (by kernel_rfl) (C fun _ h=>nomatch h) rfl rfl rfl rfl rfl hl hg (fun k=>bb (e:=nT) (fun i=>.bool ((AP (w++r).length w.length i).all (eu (w++r) w.length a))) (fun i hi=>⟨_,rfl,fun κ=>uy rfl rfl rfl (after (m+1) (List.mem_range.mp hi)) (fun k=>bb (e:=nT) (fun x=>.bool (eu (w++r) w.length a x)) (fun x hx=>⟨_,rfl,fun κ=>CE rfl rfl rfl (eM (vQ hb (List.mem_range.mp hi) x hx) nl)⟩) rfl) ?_⟩) rfl)).trans (ret fun i hi=>?_))
   ·rw [←yu]
    exact ja.nin (by decide) (l:=(AP (w++r).length w.length i).map (eu (w++r) w.length a)) trivial (fun _ _=>trivial) (congrArg some (List.map_map ..).symm)
   ·rw [←jV hb hi,←pT hb hi,nB,Bool.not_not]
  |again a=>
   refine bw ((vW rfl hA rfl rfl (by kernel_rfl) (C fun _ h=>nomatch h) rfl rfl rfl rfl rfl rfl rfl (fun k=>bb (e:=T.str) (fun _=>.bool (((List.range (w++r).length).drop w.length).any (eu (w++r) w.length a))) (fun x _=>⟨_,rfl,fun κ=>wO (b:=(w.length:Int)) rfl rfl rfl (congrArg (fun z:Nat=>some (T.int z)) (List.length_map ..)) nr ?_⟩) rfl)).trans ?_)
   ·rw [wY (by rw [List.length_map,List.length_range];exact Nat.le_of_lt hb),←List.map_drop,←yB]
    exact ja.mem (by decide) (l:=((List.range (w++r).length).drop w.length).map (eu (w++r) w.length a)) trivial (fun _ _=>trivial) (congrArg some (List.map_map ..).symm)
   ·rw [over fun _=>((List.range (w++r).length).drop w.length).any (eu (w++r) w.length a)]
    exact ret fun i hi=>k8 hb hi
  |till a c=>
   refine bw ((yC rfl hA rfl rfl (by kernel_rfl) (C fun _ h=>nomatch h) rfl rfl rfl rfl rfl rfl hl hg (fun k=>bb (e:=nT) (fun i=>.bool (iT (eu (w++r) w.length a) (eu (w++r) w.length c) (AP (w++r).length w.length i))) (fun i hi=>⟨_,rfl,fun κ=>zg rfl rfl rfl rfl rfl rfl (after (m+1) (List.mem_range.mp hi)) (qm hn _ (vQ hb (List.mem_range.mp hi)))⟩) rfl)).trans (ret fun i hi=>?_))
   rw [pT hb hi];exact ny hb hi
end
theorem dZ (a:Int){n:Nat}(h:0 < n):∃k:Nat,a.fmod (n:Int)=(k:Int)∧k < n:=by
 have h1:0≤a.fmod (n:Int):=Int.fmod_nonneg_of_pos _ (Int.natCast_pos.mpr h)
 have h2:a.fmod (n:Int) < (n:Int):=Int.fmod_lt_of_pos _ (Int.natCast_pos.mpr h)
 exact ⟨(a.fmod (n:Int)).toNat,(Int.toNat_of_nonneg h1).symm,(Int.toNat_lt h1).mpr h2⟩
theorem Lw.append {a b:Str}(ha:Lw a)(hb:Lw b):Lw (a++b):=fun c h=>by
 have e:(a++b).cps.toList=a.cps.toList++b.cps.toList:=by
  show (a.cps++b.cps).toList=_
  rw [Array.toList_append]
 rw [e] at h
 exact (List.mem_append.mp h).elim (ha c) (hb c)
theorem Lw.cut {x:Str}{lo hi:Option Int}(h:Lw x):Lw (eS lo hi x):=fun c hc=>h c (List.mem_of_mem_drop (List.mem_of_mem_take hc))
theorem fg (a b:Str):(a++b).length=a.length+b.length:=Array.size_append ..
theorem yM:∀k,k < 26→xD.cps[k]?=some (97+k):=by decide+kernel
noncomputable def lt (x:Int):Str:=⟨#[97+(x.fmod 26).toNat]⟩
theorem v6 (x:Int):aj (.str xD) (.int (x.fmod 26))=some (.str (lt x)):=by
 obtain ⟨k,h1,h2⟩:=dZ x (n:=26) (by decide)
 have h1:x.fmod 26=(k:Int):=h1
 rw [lt,h1]
 show sG k xD=_
 rw [sG,kY (Nat.le_trans (Nat.le_of_lt h2) (by decide)),iR (show k < xD.length from h2)]
 show (xD.cps[k]?).map _=_
 rw [yM k h2];rfl
theorem lK (x:Int):Lw (lt x):=fun c h=>by
 obtain ⟨k,h1,h2⟩:=dZ x (n:=26) (by decide)
 have h1:x.fmod 26=(k:Int):=h1
 have e:c=97+(x.fmod 26).toNat:=List.mem_singleton.mp h
 rw [e,h1]
 exact Bool.and_eq_true_iff.mpr ⟨Nat.ble_eq_true_of_le (Nat.le_add_right _ _),Nat.ble_eq_true_of_le (by lia)⟩
theorem lM (x:Int):(lt x).length=1:=rfl
noncomputable def ye (f:Nat→Int):Str:=Txt.join (ofString "") [lt (f 0),lt (f 1),lt (f 2),lt (f 3),lt (f 4),lt (f 5)]
theorem vd (f:Nat→Int):ye f=lt (f 0)++ofString ""++(lt (f 1)++ofString ""++(lt (f 2)++ofString ""++(lt (f 3)++ofString ""++(lt (f 4)++ofString ""++lt (f 5))))):=by
 show Builtin.Str.glued _ _=_
 rw [StrLaws.glued_eq_join];rfl
theorem oV:(ofString "").length=0:=by decide+kernel
theorem jF:Lw (ofString ""):=fun c h=>by
 have e:(ofString "").cps.toList=[]:=by decide+kernel
 rw [e] at h;cases h
theorem sL (f:Nat→Int):(ye f).length=6:=by
 rw [vd];simp only [fg,lM,oV]
theorem vc (f:Nat→Int):Lw (ye f):=by
 rw [vd]
 exact ((lK _).append jF).append (((lK _).append jF).append (((lK _).append jF).append (((lK _).append jF).append (((lK _).append jF).append (lK _)))))
theorem yX (f:Nat→Int):ta (.str (ofString "")) (.lst [.str (lt (f 0)),.str (lt (f 1)),.str (lt (f 2)),.str (lt (f 3)),.str (lt (f 4)),.str (lt (f 5))])=some (.str (ye f)):=by
 have k:PyData.strOk (ye f)=true:=by
  have:=vc f
  exact Array.all_eq_true_iff_forall_mem.mpr fun c hc=>decide_eq_true (Nat.lt_of_le_of_lt (oP (this c (Array.mem_toList_iff.mpr hc))).2 (by decide))
 show (bif JoinOk (ofString "") [lt (f 0),lt (f 1),lt (f 2),lt (f 3),lt (f 4),lt (f 5)]&&PyData.strOk (ye f)&&bU (ye f).length then some (T.str (ye f)) else none)=_
 rw [k,sL,show JoinOk (ofString "") [lt (f 0),lt (f 1),lt (f 2),lt (f 3),lt (f 4),lt (f 5)]=true from by kernel_rfl];rfl
theorem w7 {x:Str}{lo hi:Option Int}:(eS lo hi x).length≤x.length:=by
 show ((x.cps.toList.drop _).take _).toArray.size≤x.cps.toList.length
 rw [List.size_toArray,List.length_take,List.length_drop];exact Nat.le_trans (Nat.min_le_right _ _) (Nat.sub_le _ _)
theorem wZ {x:Str}(hx:x.length=6){k:Nat}(h:1≤k):1≤(eS none (some (k:Int)) x).length:=by
 show 1≤(Mine.cut none (some (k:Int)) x.cps.toList).toArray.size
 have:x.cps.toList.length=6:=hx
 rw [jG,List.size_toArray,List.length_take,this];lia
theorem zl {x:Str}{k:Nat}:(eS none (some (k:Int)) x).length≤k:=by
 show (Mine.cut none (some (k:Int)) x.cps.toList).toArray.size≤k
 rw [jG,List.size_toArray,List.length_take];exact Nat.min_le_left _ _
theorem w0 {x:Str}(hx:x.length=6){a z:Nat}(h:a≤z)(hz:z≤6):(eS (some (a:Int)) (some (z:Int)) x).length≤z - a:=by
 have e:x.cps.toList.length=6:=hx
 show ((x.cps.toList.drop (clipAt x.cps.toList.length a)).take (clipAt x.cps.toList.length z - clipAt x.cps.toList.length a)).toArray.size≤_
 rw [e,o0 hz,o0 (Nat.le_trans h hz),List.size_toArray,List.length_take];exact Nat.min_le_left _ _
structure Nm (x:Str):Prop where
 m:Mk x
 ne:x≠ofString ""
theorem Nm.of {x:Str}(h1:x.length≤6)(h2:Lw x)(h3:1≤x.length):Nm x:=⟨⟨h1,h2⟩,fun e=>by rw [e,oV] at h3;cases h3⟩
structure C8 (x y z:Str):Prop where
 a:Nm x
 b:Nm y
 c:Nm z
noncomputable abbrev vN (x y z:Str):T:=.lst [.str x,.str y,.str z]
section
variable {σ:Sg}
theorem cC (a:Int){k:Nat}(h:(bif ((k:Int)==0)||Nat.ble 1073741824 (k:Int).natAbs then false else true)=true):cJ (.int a) (.int k)=some (.int (a.fdiv k)):=by
 unfold cJ
 show (bif ((k:Int)==0)||Nat.ble 1073741824 (k:Int).natAbs then none else some (T.int (a.fdiv k)))=_
 cases e:((k:Int)==0)||Nat.ble 1073741824 (k:Int).natAbs with
 |true=>rw [e] at h;cases h
 |false=>rfl
theorem cO (a:Int){k:Nat}(h:0 < k):bG (.int a) (.int k)=some (.int (a.fmod k)):=by
 unfold bG
 show (bif ((k:Int)==0) then none else some (T.int (a.fmod k)))=_
 rw [beq_eq_false_iff_ne.mpr (by lia)];rfl
theorem gA (a:Int){n:Nat}(h:0 < n):∃k:Nat,bG (.int a) (.int n)=some (nT k)∧k < n:=by
 obtain ⟨k,h1,h2⟩:=dZ a h
 exact ⟨k,by rw [cO a h,h1],h2⟩
theorem add_int (a b:Int):bf (.int a) (.int b)=some (.int (a+b)):=by unfold bf;rfl
theorem oG {k:Nat}(a:Int)(h:sm k=true):jA (.int k) (.int a)=some (.int (k * a)):=by
 unfold jA
 show (bif sm k||sm a then some (T.int (k * a)) else none)=_
 rw [h];rfl
theorem u9 (x:Str)(lo hi:Option Int):bE (.str x) lo hi=some (.str (eS lo hi x)):=by unfold bE;rfl
theorem An {a b:Str}(h:a.length+b.length≤100):bf (.str a) (.str b)=some (.str (a++b)):=by
 unfold bf
 exact o4 (by rw [fg];exact Nat.le_trans h (by decide))
theorem vP (cell:Int)(n:Nat):aT (fun t σ'=>σ'=σ∧∃x y z,t=vN x y z∧C8 x y z) (ai Ψ (n+1) 19 [.int cell] σ):=by
 let f:Nat→Int:=fun j=>cell.fdiv 7+5 * (j:Int)
 have hl:=sL f
 have hw:=vc f
 refine oj (aw (f7 (n:=6) (by decide)) (eL (e:=nT) (fun j=>.str (lt (f j))) (fun j _=>⟨_,rfl,fun k=>?_⟩) (aw (yX f) ?_)))
 ·exact ab rfl (ab rfl (ab (cC cell (k:=7) rfl) (ab rfl (ab (oG (k:=5) j rfl) (ab (add_int _ _) (ab (cO _ (k:=26) (by decide)) (ab (v6 _) rfl)))))))
 generalize ye f=rest at hl hw
 refine aw rfl (aw (cO cell (k:=3) (by decide)) (aw (eK _ _) ?_))
 have c6:∀{lo hi:Option Int},(eS lo hi rest).length≤6:=hl▸w7
 refine d7 (fun _=>?_) fun _=>?_
 ·obtain ⟨q,hq,q4⟩:=gA (cell.fdiv (3:Nat)) (n:=4) (by decide)
  have e:∀k:Nat,(1+(q:Int))+(k:Int)=((1+q+k:Nat):Int):=fun k=>by lia
  have nm:∀k:Nat,Nm (eS none (some ((1+q+k:Nat):Int)) rest):=fun k=>.of c6 hw.cut (wZ hl (by lia))
  refine aw rfl (aw (cC cell (k:=3) rfl) (aw hq (aw (add_int 1 _) (aw (f7 (n:=3) (by decide)) (eL (e:=nT) (fun k=>.str (eS none (some ((1+q+k:Nat):Int)) rest)) (fun k _=>⟨_,rfl,fun κ=>?_⟩) (cv ⟨rfl,_,_,_,rfl,nm 0,nm 1,nm 2⟩))))))
  rw [←e]
  exact ab rfl (ab rfl (ab rfl (ab (add_int _ _) (ab rfl (ab (u9 _ _ _) rfl)))))
 ·obtain ⟨z,hz,z6⟩:=gA (cell.fdiv (3:Nat)) (n:=6) (by decide)
  obtain ⟨a,ha,a1⟩:=gA (cell.fdiv (18:Nat)) (n:=z+1) (Nat.succ_pos _)
  let y:Nat→Str:=fun k=>eS none (some (a:Int)) rest++lt (cell.fdiv 90+7 * (k:Int))++eS (some (a:Int)) (some (z:Int)) rest
  have l1:(eS none (some (a:Int)) rest).length≤a:=zl
  have l2:(eS (some (a:Int)) (some (z:Int)) rest).length≤z - a:=w0 hl (by lia) (by lia)
  have nm:∀k,Nm (y k):=fun k=>.of (by rw [fg,fg,lM];lia) ((hw.cut.append (lK _)).append hw.cut) (by rw [fg,fg,lM];lia)
  refine aw rfl (aw (cC cell (k:=3) rfl) (aw hz (aw rfl (aw (cC cell (k:=18) rfl) (aw rfl (aw (add_int _ _) (aw ha ?_)))))))
  have turn:∀(k:Nat) (X:List T) (x7:Option T),X.length≤10→∀κ:PK aH,ae (av 7 (p2 aj (pV 1) (p2 bG (p2 bf (p2 cJ (pV 0) (pC (.int 90))) (p2 jA (pC (.int 7)) (pV 6))) (pC (.int 26))))) (ae (gY 5 dK (p2 bf (p2 bf (p3 bE (pV 2) iw (p1 ck (pV 4))) (pV 7)) (p3 bE (pV 2) (p1 ck (pV 4)) (p1 ck (pV 3))))) af)
    ⟨ai Ψ n⟩ [some (.int cell),some (.str xD),some (.str rest),some (nT z),some (nT a),some (.lst X),some (nT k),x7,none,none] σ κ=κ [some (.int cell),some (.str xD),some (.str rest),some (nT z),some (nT a),some (.lst (X++[.str (y k)])),some (nT k),some (.str (lt (cell.fdiv 90+7 * (k:Int)))),none,none] σ:=fun k X x7 hX κ=>
   ab rfl (ab rfl (ab (cC cell (k:=90) rfl) (ab rfl (ab (oG (k:=7) k rfl) (ab (add_int _ _) (ab (cO _ (k:=26) (by decide)) (ab (v6 _) (ab rfl (ab rfl (ab rfl (ab (u9 _ _ _) (ab rfl (ab (An (by rw [lM];lia)) (ab rfl (ab rfl (ab rfl (ab rfl (ab rfl (ab (u9 _ _ _) (ab (An (by rw [fg,lM];lia)) (ab (xw (Nat.lt_of_le_of_lt hX (by decide))) rfl)))))))))))))))))))))
  refine qw rfl (aw (f7 (n:=3) (by decide)) ?_)
  have t0:=turn 0 [] none (Nat.le_of_ble_eq_true rfl)
  have t1:=fun x7=>turn 1 [.str (y 0)] x7 (Nat.le_of_ble_eq_true rfl)
  have t2:=fun x7=>turn 2 [.str (y 0),.str (y 1)] x7 (Nat.le_of_ble_eq_true rfl)
  refine ⟨vN (y 0) (y 1) (y 2),σ,?_,rfl,_,_,_,rfl,nm 0,nm 1,nm 2⟩
  refine (t0 _).trans ((t1 _ _).trans ((t2 _ _).trans ?_))
  exact ab rfl rfl
end
section
variable {ns:List Int} {σ:Sg}
theorem og {k:Nat}(h:k < ns.length)(hn:ns.length≤63):aj (.scr ns) (nT k)=some (.int ns[k]):=by
 have:xP k (ns.map T.int)=some (.int ns[k]):=sy (List.getElem?_eq_getElem h) (Nat.le_trans (Nat.le_of_lt h) (Nat.le_trans hn (by decide)))
 unfold aj;exact this
theorem kI (hn:ns.length≤63)(k n:Nat):aT (fun t σ'=>σ'=σ∧∃z,t=.int z) (ai Ψ (n+1) 17 [.scr ns,nT k] σ):=by
 refine lk (aw rfl (aw rfl (aw rfl (aw rfl (d7 (fun h=>?_) fun _=>cv ⟨rfl,0,rfl⟩)))))
 have h:k < ns.length:=Int.ofNat_lt.mp (of_decide_eq_true h)
 exact aw rfl (aw rfl (aw (og h hn) (cv ⟨rfl,_,rfl⟩)))
theorem zX (a:Int){k:Nat}(h:sm k=true):jA (.int a) (.int k)=some (.int (a * k)):=by
 unfold jA
 show (bif sm a||sm k then some (T.int (a * k)) else none)=_
 rw [h,Bool.or_true];rfl
theorem B6 (j:Nat):dj (.int ((j:Int)+1)) (.int 1)=some (nT j):=by unfold dj;exact congrArg (fun z=>some (T.int z)) (Int.add_sub_cancel ..)
theorem kG (hn:ns.length≤63)(j n:Nat){se:Option (Nat×List T)}:aT (fun t σ'=>σ'=⟨((j+1:Nat):Int),se⟩∧∃z,t=.int z) (ai Ψ (n+1) 18 [.scr ns,.spot] ⟨(j:Int),se⟩):=by
 refine p9 (aw (add_int _ _) (aw (B6 j) (aw rfl (aw rfl (aw rfl (aw rfl (d7 (fun h=>?_) fun _=>?_)))))))
 ·have h:j < ns.length:=Int.ofNat_lt.mp (of_decide_eq_true h)
  exact aw rfl (aw rfl (aw (og h hn) (cv ⟨rfl,_,rfl⟩)))
 ·refine aw rfl (aw rfl (aw rfl (d7 (fun h=>?_) fun _=>?_)))
  ·have h:4 < ns.length:=by have:=of_decide_eq_true h;lia
   obtain ⟨k,hk,k1⟩:=gA (j:Int) (n:=ns.length) (Nat.lt_trans (by decide) h)
   refine aw rfl (aw rfl (d7 (fun _=>?_) fun _=>?_))
   ·exact zt (aw rfl (aw rfl (aw rfl (aw rfl (aw hk (aw (og k1 hn) (aw rfl (aw (oG (k:=7919) j rfl) (aw (add_int _ _) (aw (zX _ (k:=48271) rfl) (aw (cO _ (k:=1000003) (by decide)) (cv ⟨rfl,_,rfl⟩))))))))))))
   ·exact cv ⟨rfl,0,rfl⟩
  ·exact cv ⟨rfl,0,rfl⟩
noncomputable def vl (f:Int)(m k:Nat):Nat:=((f+(k:Int)).fmod (m:Int)).toNat
theorem BU {f:Int}{m k:Nat}(hm:0 < m):vl f m k < m:=by
 obtain ⟨x,h1,h2⟩:=dZ (f+(k:Int)) hm
 rw [vl,h1];exact h2
theorem uV {f:Int}{m k:Nat}(hm:0 < m):bG (.int (f+(k:Int))) (nT m)=some (nT (vl f m k)):=by
 obtain ⟨x,h1,h2⟩:=dZ (f+(k:Int)) hm
 rw [cO _ hm,vl,h1];rfl
theorem BS {f:Int}{m j k:Nat}(hm:0 < m)(hj:j < k)(hk:k < m):vl f m j≠vl f m k:=fun e=>by
 have e1:(f+(j:Int)).fmod m=(f+(k:Int)).fmod m:=by
  obtain ⟨x,h1,_⟩:=dZ (f+(j:Int)) hm
  obtain ⟨y,h2,_⟩:=dZ (f+(k:Int)) hm
  rw [vl,vl,h1,h2] at e
  rw [h1,h2];exact congrArg Int.ofNat e
 rw [Int.fmod_eq_emod_of_nonneg _ (by lia),Int.fmod_eq_emod_of_nonneg _ (by lia)] at e1
 have h0:=(Int.emod_eq_emod_iff_emod_sub_eq_zero).mp e1
 have h1:(f+(j:Int)) - (f+(k:Int))=-(((k - j:Nat):Int)):=by lia
 rw [h1] at h0
 have h2:((k - j:Nat):Int) % (m:Int)=0:=Int.emod_eq_zero_of_dvd (Int.dvd_neg.mp (Int.dvd_of_emod_eq_zero h0))
 rw [Int.emod_eq_of_lt (by lia) (by lia)] at h2
 lia
theorem sH {m:Nat}(hm:0 < m)(hm':m≤1000)(cell first:Int)(n:Nat):aT (fun t σ'=>σ'=σ∧∃r,t=dq r∧uT m r) (ai Ψ (n+1) 24 [.int cell,nT m,.int first] σ):=by
 have lp:∀(d k:Nat) (r:List Nat) (z:Int) (x5:Option T),k+d=m→r≠[]→r.Nodup→(∀p∈r,∃j,j < k∧p=vl first m j)→r.length≤k→
   aT (fun t σ'=>σ'=σ∧∃r,t=dq r∧uT m r) (cn (aJ 5) (ae (be (p2 bI (p2 bG (pV 3) (pC (.int 3))) (pC (.int 1))) (ae (gY 4 dK (p2 bG (p2 bf (pV 2) (pV 5)) (pV 1))) af) af) (ae (av 3 (p2 cJ (pV 3) (pC (.int 3)))) af)) ⟨ai Ψ n⟩ ((List.range' k d).map nT) [some (.int cell),some (nT m),some (.int first),some (.int z),some (dq r),x5] σ fun ρ σ=>ae (au (pV 4)) af ⟨ai Ψ n⟩ ρ σ (kE 24)):=fun d=>by
  induction d with
  |zero=>exact fun k r z x5 e h1 h2 h3 _=>aw rfl (cv ⟨rfl,r,rfl,h1,h2,fun p hp=>by obtain ⟨j,_,rfl⟩:=h3 p hp;exact BU hm⟩)
  |succ d ih=>
   intro k r z x5 e h1 h2 h3 h4
   have ih':=fun r z x5=>ih (k+1) r z x5 (by lia)
   have dv:∀(r:List Nat),r≠[]→r.Nodup→(∀p∈r,∃j,j < k+1∧p=vl first m j)→r.length≤k+1→aT (fun t σ'=>σ'=σ∧∃r,t=dq r∧uT m r) (ae (av 3 (p2 cJ (pV 3) (pC (.int 3)))) af ⟨ai Ψ n⟩ [some (.int cell),some (nT m),some (.int first),some (.int z),some (dq r),some (nT k)] σ fun ρ σ=>cn (aJ 5) (ae (be (p2 bI (p2 bG (pV 3) (pC (.int 3))) (pC (.int 1))) (ae (gY 4 dK (p2 bG (p2 bf (pV 2) (pV 5)) (pV 1))) af) af) (ae (av 3 (p2 cJ (pV 3) (pC (.int 3)))) af)) ⟨ai Ψ n⟩ ((List.range' (k+1) d).map nT) ρ σ fun ρ σ=>ae (au (pV 4)) af ⟨ai Ψ n⟩ ρ σ (kE 24)):=fun r a b c d=>aw rfl (aw (cC z (k:=3) rfl) (ih' r _ _ a b c d))
   refine qv (v:=nT k) (l:=(List.range' (k+1) d).map nT) rfl (aw rfl (aw (cO z (k:=3) (by decide)) (aw (eK _ _) (d7 (fun _=>?_) fun _=>?_))))
   ·refine aw rfl (aw rfl (aw (add_int _ _) (aw rfl (aw (uV hm) (aw (cD (e:=nT) (vl first m k) (Nat.lt_of_le_of_lt h4 (by rw [aZ];lia))) (dv (r++[vl first m k]) ?_ ?_ ?_ ?_))))))
    ·exact fun q=>by cases List.append_eq_nil_iff.mp q |>.2
    ·refine List.nodup_append.mpr ⟨h2,List.pairwise_singleton _ _,fun a ha b hb q=>?_⟩
     obtain ⟨j,j1,rfl⟩:=h3 a ha
     exact BS hm j1 (by lia) (q.trans (List.mem_singleton.mp hb))
    ·intro p hp
     rcases List.mem_append.mp hp with h |h
     ·obtain ⟨j,j1,e⟩:=h3 p h
      exact ⟨j,Nat.lt_succ_of_lt j1,e⟩
     ·exact ⟨k,Nat.lt_succ_self _,List.mem_singleton.mp h⟩
    ·rw [List.length_append];exact Nat.succ_le_succ h4
   ·exact dv r h1 h2 (fun p hp=>by obtain ⟨j,j1,e⟩:=h3 p hp;exact ⟨j,Nat.lt_succ_of_lt j1,e⟩) (Nat.le_succ_of_le h4)
 have e0:bG (.int first) (nT m)=some (nT (vl first m 0)):=by
  have:=uV (f:=first) (k:=0) hm
  rw [show first+((0:Nat):Int)=first from Int.add_zero _] at this;exact this
 exact pZ (aw rfl (aw (zX _ (k:=48271) rfl) (aw (cO _ (k:=1000003) (by decide)) (aw rfl (aw rfl (aw e0 (qw rfl (aw rfl (aw (rF (a:=1) hm (Nat.le_trans hm' (by decide))) (lp (m - 1) 1 [vl first m 0] _ none (by lia) (fun q=>nomatch q) (List.pairwise_singleton _ _) (fun p hp=>⟨0,Nat.zero_lt_one,List.mem_singleton.mp hp⟩) (Nat.le_refl _)))))))))))
end
section
variable {ns:List Int}
theorem AQ:Mk (ofString ""):=⟨by rw [oV];decide,jF⟩
theorem wB {a:T}{l:List T}:aj (.lst (a::l)) (.int 0)=some a:=fB (j:=0) rfl (Nat.zero_le _)
theorem wA {a b:T}{l:List T}:aj (.lst (a::b::l)) (.int 1)=some b:=fB (j:=1) rfl (by decide)
theorem C5 {a b:List T}(h:(a++b).length≤lim):bf (.lst a) (.lst b)=some (.lst (a++b)):=by unfold bf;exact o4 h
theorem rR (hn:ns.length≤63)(j n:Nat){x y z:Str}(N:C8 x y z){most:Nat}(h1:0 < most)(h2:most≤8):
  aT (fun t σ'=>(∃j':Nat,σ'=⟨(j':Int),none⟩)∧∃M:Mc,t=.tup M.fs∧M.Ok∧M.names.length≤most) (ai Ψ (n+2) 25 [.scr ns,.spot,vN x y z,nT most] ⟨(j:Int),none⟩):=by
 refine lj (aw rfl (aw rfl (bF (kG hn j n) ?_)))
 rintro _ _ ⟨rfl,cell,rfl⟩
 obtain ⟨m0,hm,ml⟩:=gA cell h1
 refine aw rfl (aw hm (aw (add_int 1 _) (aw rfl (aw rfl (aw wB (aw rfl (aw wA (qw rfl (aw (C5 (Nat.le_of_ble_eq_true rfl)) (qw rfl (qw rfl (aw rfl ?_))))))))))))
 obtain ⟨m,em⟩:∃m:Nat,m=1+m0:=⟨_,rfl⟩
 rw [show (1:Int)+(m0:Int)=(m:Int) by lia]
 have mp:0 < m:=by lia
 have mm:m≤most:=by lia
 let six':List Str:=[x,y,z,ofString "",x,y]
 have mk6:∀{i:Nat},i < 6→∃s,aj (.lst (six'.map .str)) (nT i)=some (.str s)∧Mk s:=fun {i} hi=>by
  have e:six'[i]?=some six'[i]:=List.getElem?_eq_getElem (show i < six'.length from hi)
  refine ⟨_,bR (e:=T.str) e (Nat.le_trans (Nat.le_of_lt hi) (by decide)),?_⟩
  have:=List.mem_of_getElem? e
  generalize six'[i]=s at this
  simp only [six',List.mem_cons,List.not_mem_nil,or_false] at this
  rcases this with rfl |rfl |rfl |rfl |rfl |rfl
  ·exact N.a.m
  ·exact N.b.m
  ·exact N.c.m
  ·exact AQ
  ·exact N.a.m
  ·exact N.b.m
 have lp:∀(d k:Nat) (L:List Str) (R:List (List Nat)) (x8 x9:Option T) (j:Nat) {κ:PK aH} {Q:T→Sg→Prop},k+d=m→L.length=k→R.length=k→(∀s∈L,Mk s)→(∀r∈R,uT m r)→
   (∀(L:List Str) (R:List (List Nat)) (x8 x9:Option T) (j:Nat),L.length=m→R.length=m→(∀s∈L,Mk s)→(∀r∈R,uT m r)→aT Q (κ [some (.scr ns),some .spot,some (vN x y z),some (nT most),some (nT m),some (.lst (six'.map .str)),some (.lst (L.map .str)),some (.lst (R.map dq)),x8,x9] ⟨(j:Int),none⟩))→
   aT Q (cn (aJ 8) (ae (av 9 (ak 18 (aa (pV 0) (aa (pV 1) ah)))) (ae (gY 6 dK (p2 aj (pV 5) (p2 bG (pV 9) (pC (.int 6))))) (ae (gY 7 dK (ak 24 (aa (pV 9) (aa (pV 4) (aa (p2 cJ (pV 9) (pC (.int 6))) ah))))) af))) ⟨ai Ψ (n+1)⟩ ((List.range' k d).map nT)
    [some (.scr ns),some .spot,some (vN x y z),some (nT most),some (nT m),some (.lst (six'.map .str)),some (.lst (L.map .str)),some (.lst (R.map dq)),x8,x9] ⟨(j:Int),none⟩ κ):=fun d=>by
  induction d with
  |zero=>exact fun k L R x8 x9 j κ Q e l1 l2 a b hk=>hk L R x8 x9 j (by lia) (by lia) a b
  |succ d ih=>
   intro k L R x8 x9 j κ Q e l1 l2 a b hk
   refine qv (v:=nT k) (l:=(List.range' (k+1) d).map nT) rfl (aw rfl (aw rfl (bF (kG hn j n) ?_)))
   rintro _ _ ⟨rfl,c,rfl⟩
   obtain ⟨i,hi,i6⟩:=gA c (n:=6) (by decide)
   obtain ⟨s,hs,ms⟩:=mk6 i6
   refine aw rfl (aw rfl (aw hi (aw hs (aw (cD (e:=T.str) s (by rw [aZ];lia)) (aw rfl (aw rfl (aw rfl (aw (cC c (k:=6) rfl) (bF (sH mp (by lia) c _ n) ?_)))))))))
   rintro _ _ ⟨rfl,r,rfl,hr⟩
   refine aw (cD (e:=dq) r (by rw [aZ];lia)) (ih (k+1) (L++[s]) (R++[r]) _ _ (j+1) (by lia) (by rw [List.length_append,l1];rfl) (by rw [List.length_append,l2];rfl) (fun s' h=>(List.mem_append.mp h).elim (a s') fun q=>List.mem_singleton.mp q▸ms) (fun r' h=>(List.mem_append.mp h).elim (b r') fun q=>List.mem_singleton.mp q▸hr) hk)
 have rg:tT [nT m]=some ((List.range' 0 m).map nT):=by rw [←List.range_eq_range'];exact f7 (by lia)
 refine aw rg (lp m 0 [] [] none _ (j+1) (Nat.zero_add _) rfl rfl (fun _ h=>nomatch h) (fun _ h=>nomatch h) ?_)
 intro L R x8 x9 j l1 l2 a b
 refine aw rfl (aw rfl (bF (kG hn j n) ?_))
 rintro _ _ ⟨rfl,c,rfl⟩
 have ok:∀r,uT m r→(⟨L,R,r⟩:Mc).Ok:=fun r hr=>⟨by rw [l1];exact mp,by rw [l1];lia,a,by rw [l1,l2],by rw [l1];exact b,by rw [l1];exact hr⟩
 refine aw rfl (aw (cO c (k:=4) (by decide)) (aw (eK _ _) (d7 (fun _=>?_) fun _=>?_)))
 ·refine aw rfl (aw rfl (aw rfl (aw rfl (aw rfl (aw (cC c (k:=4) rfl) (bF (sH mp (by lia) c _ n) ?_))))))
  rintro _ _ ⟨rfl,r,rfl,hr⟩
  exact cv ⟨⟨j+1,rfl⟩,⟨L,R,r⟩,rfl,ok r hr,by rw [show (⟨L,R,r⟩:Mc).names=L from rfl,l1];exact mm⟩
 ·obtain ⟨p,hp,pm⟩:=gA (c.fdiv (4:Nat)) mp
  refine aw rfl (aw rfl (aw rfl (aw (cC c (k:=4) rfl) (aw rfl (aw hp (cv ⟨⟨j+1,rfl⟩,⟨L,R,[p]⟩,rfl,ok [p] ⟨(fun q=>nomatch q),List.pairwise_singleton _ _,(fun q hq=>by cases List.mem_singleton.mp hq;exact pm)⟩,?_⟩))))))
  rw [show (⟨L,R,[p]⟩:Mc).names=L from rfl,l1];exact mm
end
noncomputable def z9:List Str:=["not","and","or","next","till","always","again","till","always","next","not"].map ofString
theorem u7:od (.str (ofString "not and or next till always again till always next not")) (.str (ofString " "))=some (.lst (z9.map .str)):=by kernel_rfl
noncomputable abbrev Es:T:=.tup [.str (ofString "not"),.str (ofString "next"),.str (ofString "always"),.str (ofString "again")]
structure Un (k:Str) (C:Sy→Sy):Prop where
 t:i5 (.str k) Es=some true
 to:∀a,aX (C a)=.tup [.str k,aX a]
 dep:∀a,dep (C a)=dep a+1
 all:∀a,all (C a)=C a::all a
 ne:∀a x,Sy.mark x≠C a
structure Bi (k:Str) (C:Sy→Sy→Sy):Prop where
 t:i5 (.str k) Es=some false
 to:∀a c,aX (C a c)=.tup [.str k,aX a,aX c]
 dep:∀a c,dep (C a c)=max (dep a) (dep c)+1
 all:∀a c,all (C a c)=C a c::(all a++all c)
 ne:∀a c x,Sy.mark x≠C a c
theorem rq:Un (ofString "not") .not:=⟨by kernel_rfl,fun _=>rfl,fun _=>rfl,fun _=>rfl,fun _ _ h=>nomatch h⟩
theorem e9:Un (ofString "next") .next:=⟨by kernel_rfl,fun _=>rfl,fun _=>rfl,fun _=>rfl,fun _ _ h=>nomatch h⟩
theorem gP:Un (ofString "always") .always:=⟨by kernel_rfl,fun _=>rfl,fun _=>rfl,fun _=>rfl,fun _ _ h=>nomatch h⟩
theorem kQ:Un (ofString "again") .again:=⟨by kernel_rfl,fun _=>rfl,fun _=>rfl,fun _=>rfl,fun _ _ h=>nomatch h⟩
theorem su:Bi (ofString "and") .and:=⟨by kernel_rfl,fun _ _=>rfl,fun _ _=>rfl,fun _ _=>rfl,fun _ _ _ h=>nomatch h⟩
theorem xn:Bi (ofString "or") .or:=⟨by kernel_rfl,fun _ _=>rfl,fun _ _=>rfl,fun _ _=>rfl,fun _ _ _ h=>nomatch h⟩
theorem pd:Bi (ofString "till") .till:=⟨by kernel_rfl,fun _ _=>rfl,fun _ _=>rfl,fun _ _=>rfl,fun _ _ _ h=>nomatch h⟩
theorem yW:∀i,i < 11→∃k,z9[i]?=some k∧((∃C,Un k C)∨∃C,Bi k C)
 | 0,_=>⟨_,rfl,.inl ⟨_,rq⟩⟩
 | 1,_=>⟨_,rfl,.inr ⟨_,su⟩⟩
 | 2,_=>⟨_,rfl,.inr ⟨_,xn⟩⟩
 | 3,_=>⟨_,rfl,.inl ⟨_,e9⟩⟩
 | 4,_=>⟨_,rfl,.inr ⟨_,pd⟩⟩
 | 5,_=>⟨_,rfl,.inl ⟨_,gP⟩⟩
 | 6,_=>⟨_,rfl,.inl ⟨_,kQ⟩⟩
 | 7,_=>⟨_,rfl,.inr ⟨_,pd⟩⟩
 | 8,_=>⟨_,rfl,.inl ⟨_,gP⟩⟩
 | 9,_=>⟨_,rfl,.inl ⟨_,e9⟩⟩
 | 10,_=>⟨_,rfl,.inl ⟨_,rq⟩⟩
 |_+11,h=>absurd h (by lia)
theorem Un.gm {k:Str}{C:Sy→Sy}(U:Un k C){a:Sy}(h:Gm a):Gm (C a):=fun x hx=>by
 rw [U.all] at hx
 rcases List.mem_cons.mp hx with e |hx
 ·exact absurd e (U.ne a x)
 ·exact h x hx
theorem Bi.gm {k:Str}{C:Sy→Sy→Sy}(U:Bi k C){a c:Sy}(h:Gm a)(h':Gm c):Gm (C a c):=fun x hx=>by
 rw [U.all] at hx
 rcases List.mem_cons.mp hx with e |hx
 ·exact absurd e (U.ne a c x)
 ·exact (List.mem_append.mp hx).elim (h x) (h' x)
section
variable {ns:List Int}
theorem lt_int (a b:Int):uS (.int a) (.int b)=some (decide (a < b)):=by unfold uS;rfl
theorem sub_int (a b:Int):dj (.int a) (.int b)=some (.int (a - b)):=by unfold dj;rfl
theorem yI (hn:ns.length≤63){x y z:Str}(N:C8 x y z):∀(d j n:Nat),1≤d→d≤n→aT (fun t σ'=>(∃j':Nat,σ'=⟨(j':Int),none⟩)∧∃s,t=aX s∧dep s≤d∧Gm s) (ai Ψ (n+1) 20 [.scr ns,.spot,vN x y z,nT d] ⟨(j:Int),none⟩):=by
 intro d
 induction d with
 |zero=>intro j n h;cases h
 |succ d ih=>
  intro j n _ hd
  obtain ⟨n,rfl⟩:∃k,n=k+1:=⟨n - 1,by lia⟩
  refine p8 (aw rfl (aw rfl (bF (kG hn j n) ?_)))
  rintro _ _ ⟨rfl,c,rfl⟩
  have leaf:∀{κ:PK aH},aT (fun t σ'=>(∃j':Nat,σ'=⟨(j':Int),none⟩)∧∃s,t=aX s∧dep s≤d+1∧Gm s) (ae (be (p2 bI (p2 bG (pV 5) (pC (.int 9))) (pC (.int 4))) (ae (au (ax (aa (pC (.str (ofString "yes"))) ah))) af) af) (ae (au (ax (aa (pC (.str (ofString "mark"))) (aa (p2 aj (pV 2) (p2 bG (pV 5) (pC (.int 3)))) ah)))) af)
    ⟨ai Ψ (n+1)⟩ [some (.scr ns),some .spot,some (vN x y z),some (nT (d+1)),some (.int c),some (.int (c.fdiv (13:Nat))),none,none,none] ⟨((j+1:Nat):Int),none⟩ κ):=fun {κ}=>by
   refine aw rfl (aw (cO _ (k:=9) (by decide)) (aw (eK _ _) (d7 (fun _=>?_) fun _=>?_)))
   ·exact cv ⟨⟨_,rfl⟩,.yes,rfl,Nat.succ_le_succ (Nat.zero_le _),fun x h=>by cases List.mem_singleton.mp h⟩
   ·obtain ⟨i,hi,i3⟩:=gA (c.fdiv (13:Nat)) (n:=3) (by decide)
    obtain ⟨s,hs,ms⟩:∃s,aj (vN x y z) (nT i)=some (.str s)∧Nm s:=by
     rcases Nat.lt_succ_iff_lt_or_eq.mp i3 with h |rfl
     ·rcases Nat.lt_succ_iff_lt_or_eq.mp h with h |rfl
      ·cases Nat.lt_one_iff.mp h;exact ⟨x,fB (j:=0) rfl (by decide),N.a⟩
      ·exact ⟨y,fB (j:=1) rfl (by decide),N.b⟩
     ·exact ⟨z,fB (j:=2) rfl (by decide),N.c⟩
    exact aw rfl (aw rfl (aw hi (aw hs (cv ⟨⟨_,rfl⟩,.mark s,rfl,Nat.succ_le_succ (Nat.zero_le _),fun x h=>by cases List.mem_singleton.mp h;exact ⟨ms.m,ms.ne⟩⟩))))
  obtain ⟨i,hi,i13⟩:=gA c (n:=13) (by decide)
  refine aw rfl (aw (cC c (k:=13) rfl) (aw rfl (aw (lt_int _ _) ?_)))
  by_cases h1:((d+1:Nat):Int) < 2
  ·rw [decide_eq_true h1];exact leaf
  rw [decide_eq_false h1]
  refine nc (aw rfl (aw hi (aw (lt_int _ _) ?_)))
  by_cases h2:(i:Int) < 2
  ·rw [decide_eq_true h2];exact leaf
  rw [decide_eq_false h2]
  obtain ⟨k,hk,kc⟩:=yW (i - 2) (by lia)
  have e1:dj (nT i) (.int 2)=some (nT (i - 2)):=by rw [sub_int];exact congrArg (fun z=>some (T.int z)) (by lia)
  have e2:dj (nT (d+1)) (.int 1)=some (nT d):=by rw [sub_int];exact congrArg (fun z=>some (T.int z)) (by lia)
  refine nc (nc (aw rfl (aw u7 (aw rfl (aw hi (aw e1 (aw (bR (e:=T.str) hk (by rw [aZ];lia)) (aw rfl (aw rfl (aw rfl (aw rfl (aw e2 (bF (ih (j+1) n (by lia) (by lia)) ?_)))))))))))))
  rintro _ _ ⟨⟨j',rfl⟩,a,rfl,da,ga⟩
  refine aw rfl (qw rfl ?_)
  rcases kc with ⟨C,U⟩ | ⟨C,U⟩
  ·refine aw U.t (zt ?_)
   exact aw rfl (aw rfl (cv ⟨⟨j',rfl⟩,C a,(U.to a).symm,by rw [U.dep];exact Nat.succ_le_succ da,U.gm ga⟩))
  ·refine aw U.t (nc ?_)
   refine aw rfl (aw rfl (aw rfl (aw rfl (aw rfl (aw rfl (aw e2 (bF (ih j' n (by lia) (by lia)) ?_)))))))
   rintro _ _ ⟨⟨j'',rfl⟩,b,rfl,db,gb⟩
   exact cv ⟨⟨j'',rfl⟩,C a b,(U.to a b).symm,by rw [U.dep];exact Nat.succ_le_succ (Nat.max_le.mpr ⟨da,db⟩),U.gm ga gb⟩
end
section
variable {σ:Sg}
theorem zz:∀s:Sy,(all s).length+1≤2 ^ dep s:=by
 have two:∀(s a c:Sy),(all a).length+1≤2 ^ dep a→(all c).length+1≤2 ^ dep c→dep s=max (dep a) (dep c)+1→all s=s::(all a++all c)→(all s).length+1≤2 ^ dep s:=fun s a c ha hc e e2=>by
  have h1:=Nat.pow_le_pow_right (n:=2) (by decide) (Nat.le_max_left (dep a) (dep c))
  have h2:=Nat.pow_le_pow_right (n:=2) (by decide) (Nat.le_max_right (dep a) (dep c))
  rw [e,e2,Nat.pow_succ,List.length_cons,List.length_append];lia
 have one:∀(s a:Sy),(all a).length+1≤2 ^ dep a→dep s=dep a+1→all s=s::all a→(all s).length+1≤2 ^ dep s:=fun s a ha e e2=>by
  rw [e,e2,Nat.pow_succ,List.length_cons];lia
 intro s
 induction s with
 |mark |yes=>exact Nat.le_refl 2
 |not a ih |next a ih |always a ih |again a ih=>exact one _ a ih rfl rfl
 |and a c ih ih' |or a c ih ih' |till a c ih ih'=>exact two _ a c ih ih' rfl rfl
theorem xB {s:Sy}(h:dep s≤8):(all s).length≤256:=Nat.le_trans (Nat.le_succ _) (Nat.le_trans (zz s) (Nat.pow_le_pow_right (j:=8) (by decide) h))
noncomputable abbrev C6:PS:=ae (be (qE (p1 (gF .tuple) (pV 2))) (ae (av 1 (p2 bf (pV 1) (ak 21 (aa (pV 2) ah)))) af) af) af
theorem Ax (s:Sy):∃ts,aX s=.tup ts:=by cases s<;>exact ⟨_,rfl⟩
theorem xA {c:fT}{t:Option T}:∀(l:List Sy),(∀a∈l,(all a).length≤256∧c.call 21 [aX a] σ=.ret (gW (all a)) σ)→∀(F:List Sy) (x2:Option T) {k:PK aH} {r:cz},F.length+l.length * 256≤10000→
  (∀x2,k [t,some (gW (l.foldl (fun f a=>f++all a) F)),x2] σ=r)→cn (aJ 2) C6 c (l.map aX) [t,some (gW F),x2] σ k=r:=by
 intro l
 induction l with
 |nil=>intro _ F x2 k r _ hk;exact hk x2
 |cons a l ih=>
  intro hl F x2 k r h1 hk
  obtain ⟨h2,h3⟩:=hl a (.head _)
  rw [List.length_cons] at h1
  have e:=ih (fun b hb=>hl b (.tail _ hb)) (F++all a) (some (aX a)) (by rw [List.length_append];lia) hk
  obtain ⟨ts,et⟩:=Ax a
  rw [List.map_cons,et]
  rw [et] at h3 e
  exact aq h3 (mt (fI (by rw [aZ];lia)) e)
theorem By (s:Sy):all s=(cg s).foldl (fun f a=>f++all a) [s]:=by cases s<;>rfl
theorem xz:∀(n:Nat) (s:Sy),dep s≤n→dep s≤8→ai Ψ (n+1) 21 [aX s] σ=.ret (gW (all s)) σ:=by
 intro n
 induction n with
 |zero=>intro s h;exact absurd (fG s) (Nat.not_le.mpr (Nat.lt_succ_of_le h))
 |succ n ih=>
  intro s h h8
  have pl:(cg s).length≤2:=by cases s<;>exact Nat.le_of_ble_eq_true rfl
  have L:=xA (σ:=σ) (c:=⟨ai Ψ (n+1)⟩) (t:=some (aX s)) (cg s) (fun a ha=>⟨xB (Nat.le_trans (Nat.le_of_lt (cS ha)) h8),ih a (Nat.le_of_lt_succ (Nat.lt_of_lt_of_le (cS ha) h)) (Nat.le_trans (Nat.le_of_lt (cS ha)) h8)⟩) [s] none (k:=fun ρ σ=>ae (au (pV 1)) af ⟨ai Ψ (n+1)⟩ ρ σ (kE 21)) (r:=.ret (gW (all s)) σ) (by show 1+_≤_;lia) fun x2=>by rw [By s];rfl
  cases s with
  |mark x=>exact mw (mt (a:=.tup [.str x]) (by kernel_rfl) rfl)
  |_=>exact mw (mt (a:=.tup ((cg _).map aX)) (by kernel_rfl) (ab rfl L))
end
section
variable {σ:Sg}
noncomputable abbrev wh:PS:=(ae (av 3 (bu ah))
  (ae (be (p2 i5 (p2 aj (pV 2) (pC (.int 0))) (ax (aa (pC (.str (ofString "next"))) (aa (pC (.str (ofString "till"))) (aa (pC (.str (ofString "always"))) ah)))))
  (ae (av 3 (bu (aa (pV 2) ah)))
  af)
  (ae (be (p2 bI (p2 aj (pV 2) (pC (.int 0))) (pC (.str (ofString "again"))))
  (ae (av 3 (bu (aa (ax (aa (pC (.str (ofString "till"))) (aa (ax (aa (pC (.str (ofString "yes"))) ah)) (aa (p2 aj (pV 2) (pC (.int 1))) ah)))) (aa (ax (aa (pC (.str (ofString "always"))) (aa (ax (aa (pC (.str (ofString "till"))) (aa (ax (aa (pC (.str (ofString "yes"))) ah)) (aa (p2 aj (pV 2) (pC (.int 1))) ah)))) ah))) ah))))
  af)
  af)
  af))
  (ae (av 1 (p2 bf (pV 1) (aB (aG (pV 3)) (aJ 4) (p2 fP (pV 4) (pV 1)) (pV 4))))
  af)))
theorem A0 {c:fT}{t2:Option T}{t0:Option T}{f xs:List Sy}(hf:∀x∈f,dep x≤40)(hx:∀x∈xs,dep x≤40)(hl:f.length+xs.length≤20000){k:PK aH}{r:cz}(hk:k [t0,some (gW (ext f xs)),t2,some (gW xs),none] σ=r):
  ae (av 1 (p2 bf (pV 1) (aB (aG (pV 3)) (aJ 4) (p2 fP (pV 4) (pV 1)) (pV 4)))) af c [t0,some (gW f),t2,some (gW xs),none] σ k=r:=
 ma (i:=4) (fun _=>rfl) (fun _=>rfl) hf hx (mt (fI (e:=aX) (l:=f) (q:=xs.filter fun x=>!f.contains x) (oE f xs hl)) hk)
theorem yT {c:fT}{t0 x3:Option T}{f:List Sy}{t:Sy}(hf:∀x∈f,dep x≤40)(ht:dep t≤30)(hl:f.length≤10000){k:PK aH}{r:cz}(hk:k [t0,some (gW (ext f (bB t))),some (aX t),some (gW (bB t)),none] σ=r):
  wh c [t0,some (gW f),some (aX t),x3,none] σ k=r:=by
 have hx:∀x∈bB t,dep x≤40:=fun x hx=>Nat.le_trans (d6 (aI.mpr ⟨t,dO t,hx⟩)) (Nat.le_trans (Nat.succ_le_succ ht) (by decide))
 have ol:(bB t).length≤2:=by cases t<;>exact Nat.le_of_ble_eq_true rfl
 have E:=A0 (c:=c) (t0:=t0) (t2:=some (aX t)) hf hx (by lia) hk
 cases t<;>exact E
theorem yU {c:fT}{t0:Option T}:∀(l:List Sy),(∀a∈l,dep a≤30)→∀(f:List Sy) (x2 x3:Option T) {k:PK aH} {r:cz},(∀x∈f,dep x≤40)→f.length+l.length * 2≤10000→
  (∀x2 x3,k [t0,some (gW (l.foldl (fun f t=>ext f (bB t)) f)),x2,x3,none] σ=r)→cn (aJ 2) wh c (l.map aX) [t0,some (gW f),x2,x3,none] σ k=r:=by
 intro l
 induction l with
 |nil=>intro _ f x2 x3 k r _ _ hk;exact hk x2 x3
 |cons t l ih=>
  intro hl f x2 x3 k r hf h1 hk
  rw [List.length_cons] at h1
  have ht:=hl t (.head _)
  have ol:(bB t).length≤2:=by cases t<;>exact Nat.le_of_ble_eq_true rfl
  have el:=fE f (bB t)
  exact yT hf ht (by lia) (ih (fun a ha=>hl a (.tail _ ha)) _ _ _ (fun x hx=>(iY.mp hx).elim (hf x) fun q=>Nat.le_trans (d6 (aI.mpr ⟨t,dO t,q⟩)) (Nat.le_trans (Nat.succ_le_succ ht) (by decide))) (by lia) hk)
theorem zZ {n:Nat}{s:Sy}(h:dep s≤n)(h8:dep s≤8):ai Ψ (n+2) 22 [aX s] σ=.ret (gW (lb s)) σ:=
 o6 (aq (xz n s h h8) (yU (all s) (fun a ha=>Nat.le_trans (pj ha) (Nat.le_trans h8 (by decide))) [] none none (fun _ h=>nomatch h) (by have:=xB h8;rw [List.length_nil];lia) fun _ _=>rfl))
theorem ui {s:Sy}(h:0 < (lb s).length):∃p∈cg s,aj (aX s) (.int (-1))=some (aX p):=by
 cases s with
 |mark |yes=>cases h
 |not a |next a |always a |again a=>exact ⟨a,.head _,rfl⟩
 |and a c |or a c |till a c=>exact ⟨c,.tail _ (.head _),rfl⟩
theorem Bh {s:Sy}(h8:dep s≤8)(hg:Gm s)(n:Nat):aT (fun t σ'=>σ'=σ∧∃s',t=aX s'∧dep s'≤dep s∧Gm s'∧(ao s').length≤2) (ai Ψ (n+12) 23 [aX s,.int 2] σ):=by
 have lp:∀(N:Nat) (s':Sy),dep s' < N→dep s'≤dep s→Gm s'→aT (fun t σ'=>σ'=σ∧∃s',t=aX s'∧dep s'≤dep s∧Gm s'∧(ao s').length≤2)
   (fU (p2 Ad (p1 aO (ak 22 (aa (pV 0) ah))) (pV 1)) (ae (av 0 (p2 aj (pV 0) (p1 j8 (pC (.int 1))))) af) ⟨ai Ψ (n+11)⟩ N [some (aX s'),some (.int 2)] σ fun ρ σ=>ae (au (pV 0)) af ⟨ai Ψ (n+11)⟩ ρ σ (kE 23)):=fun N=>by
  induction N with
  |zero=>intro s' h;cases h
  |succ N ih=>
   intro s' h hs g
   have L:=zZ (σ:=σ) (n:=n+9) (s:=s') (Nat.le_trans (Nat.le_trans hs h8) (by lia)) (Nat.le_trans hs h8)
   rw [kO]
   refine fO L (aw rfl (aw rfl (aw rfl (d7 (fun q=>?_) fun q=>?_))))
   ·have q:2 < (lb s').length:=by have:=of_decide_eq_true q;rw [List.length_map] at this;lia
    obtain ⟨p,hp,e⟩:=ui (Nat.lt_trans (by decide) q)
    have d:=cS hp
    exact dA e (ih p (by lia) (by lia) fun x hx=>g x (mI hp hx))
   ·have q:(lb s').length≤2:=by have:=of_decide_eq_false q;rw [List.length_map] at this;lia
    exact cv ⟨rfl,s',rfl,hs,g,wf s'▸q⟩
 exact rI (lp 40 s (by lia) (Nat.le_refl _) hg)
noncomputable def lf:Sy→Bool
 |.mark _=>true
 |.yes=>true
 |_=>false
theorem Bl {l:List Sy}(h:∀x∈l,dep x≤40):bI (.lst (l.map aX)) (.lst [])=some l.isEmpty:=by
 rw [bI,(r5 40).lst.dat l cL h (by decide)]
 cases l<;>rfl
theorem rC {s:Sy}(h8:dep s≤8)(n:Nat):ai Ψ (n+10) 63 [aX s] σ=.ret (.bool (((all s).drop 1).filter fun t=>!lf t).isEmpty) σ:=by
 have d:∀t∈(all s).drop 1,dep t≤40:=fun t ht=>Nat.le_trans (pj (List.mem_of_mem_drop ht)) (Nat.le_trans h8 (by decide))
 have e:cut (some 1) none ((all s).map aX)=((all s).drop 1).map aX:=by rw [oZ,l9]
 refine mu (aq (xz (n+8) s (Nat.le_trans h8 (by lia)) h8) ?_)
 refine mt (nr.trans (congrArg (fun l=>some (T.lst l)) e)) (ab rfl ?_)
 refine eT (fun t=>!lf t) aX (fun t ht=>⟨_,rfl,fun k=>?_,fun _ _=>rfl⟩) (mt (Bl fun x hx=>d x (List.mem_filter.mp hx).1) rfl)
 cases t<;>kernel_rfl
end
noncomputable def DP:Sy→Sy
 |.not a=>.not (.next a)
 |.and a c=>.and (.next a) (.next c)
 |.or a c=>.or (.next a) (.next c)
 |o=>.not (.not (.next o))
noncomputable def ow (b:Bool):Sy→Sy
 |.always a=>.not (.till .yes (.not a))
 |.again a=>.always (.till .yes a)
 |.till a c=>.or c (.and a (.next (.till a c)))
 |.next o=>DP o
 |.and a c=>bif b then .and c a else .not (.or (.not a) (.not c))
 |.or a c=>bif b then .or c a else .not (.and (.not a) (.not c))
 |s=>.not (.not s)
section
variable {σ:Sg}
theorem AM (o:Sy)(n:Nat):ai Ψ (n+1) 61 [aX (.next o)] σ=.ret (aX (DP o)) σ:=by cases o<;>exact fQ (by kernel_rfl)
theorem Cd (s:Sy)(z:Int)(n:Nat):∃b,ai Ψ (n+2) 62 [aX s,.int z] σ=.ret (aX (ow b s)) σ:=by
 obtain ⟨k,hk,k2⟩:=gA z (n:=2) (by decide)
 have k2:k=0∨k=1:=by lia
 cases s with
 |and a c |or a c=>
  rcases k2 with rfl |rfl
  ·exact ⟨true,cu (mt hk rfl)⟩
  ·exact ⟨false,cu (mt hk rfl)⟩
 |next o=>exact ⟨true,cu (aq (AM o n) rfl)⟩
 |_=>exact ⟨true,cu (by kernel_rfl)⟩
end
theorem yr {w:Nat→Str}{o:Sy}{i:Nat}:Sem w (DP o) i↔Sem w (.next o) i:=by
 cases o with
 |not a |and a c |or a c=>exact .rfl
 |_=>exact Classical.not_not
theorem AI {w:Nat→Str}{b:Bool}{s:Sy}{i:Nat}:Sem w (ow b s) i↔Sem w s i:=by
 cases s with
 |always a=>
  constructor
  ·exact fun h t=>Classical.byContradiction fun q=>h ⟨t,q,fun _ _=>trivial⟩
  ·rintro h ⟨t,q,_⟩;exact q (h t)
 |again a=>exact jt.symm
 |till a c=>exact f0.symm
 |next o=>exact yr
 |and a c=>
  cases b with
  |true=>exact And.comm
  |false=>exact ⟨fun h=>⟨Classical.byContradiction fun q=>h (.inl q),Classical.byContradiction fun q=>h (.inr q)⟩,fun h q=>q.elim (fun e=>e h.1) fun e=>e h.2⟩
 |or a c=>
  cases b with
  |true=>exact Or.comm
  |false=>exact ⟨fun h=>Classical.byContradiction fun q=>h ⟨fun e=>q (.inl e),fun e=>q (.inr e)⟩,fun h q=>h.elim q.1 q.2⟩
 |_=>exact Classical.not_not
theorem gH {s s':Sy}(ex:List Sy)(d:dep s'≤5)(hl:(ao s).length+ex.length≤4)(hg:Gm s)(h:∀t∈all s',t∈all s∨((∀x,t≠.mark x)∧∀x∈bB t,x∈ao s∨x∈ex)):Gs s':=by
 refine ⟨d,?_,fun x hx=>?_⟩
 ·refine Nat.le_trans (aQ (m:=ao s++ex) (bm s') fun x hx=>?_) (by rw [List.length_append];exact hl)
  obtain ⟨t,h1,h2⟩:=aI.mp hx
  rcases h t h1 with q |q
  ·exact List.mem_append_left _ (aI.mpr ⟨t,q,h2⟩)
  ·exact List.mem_append.mpr (q.2 x h2)
 ·rcases h _ hx with q |q
  ·exact hg x q
  ·exact absurd rfl (q.1 x)
theorem bK {s t:Sy}{ex:List Sy}(h1:∀x,t≠.mark x)(h2:bB t=[]):t∈all s∨((∀x,t≠.mark x)∧∀x∈bB t,x∈ao s∨x∈ex):=.inr ⟨h1,fun x hx=>by rw [h2] at hx;cases hx⟩
theorem dF {s t:Sy}{ex:List Sy}(h1:∀x,t≠.mark x)(h2:bB t=[t])(h3:t∈ao s∨t∈ex):t∈all s∨((∀x,t≠.mark x)∧∀x∈bB t,x∈ao s∨x∈ex):=.inr ⟨h1,fun x hx=>by rw [h2] at hx;cases List.mem_singleton.mp hx;exact h3⟩
theorem mx {a c n:Nat}(h:max a c≤n):max (a+1) (c+1)≤n+1:=Nat.max_le.mpr ⟨Nat.succ_le_succ (Nat.max_le.mp h).1,Nat.succ_le_succ (Nat.max_le.mp h).2⟩
theorem vI {a c:Sy}(d:max (dep a) (dep c)+1+1≤4)(hb:(ao (.next (.and a c))).length≤2)(hg:Gm (.next (.and a c))):Gs (.and (.next a) (.next c)):=by
 refine gH (s:=.next (.and a c)) [.next a,.next c] (Nat.le_trans (Nat.succ_le_succ (mx (Nat.le_of_succ_le_succ (Nat.le_of_succ_le_succ d)))) (by decide)) (Nat.add_le_add_right hb 2) hg fun t h=>?_
 rcases List.mem_cons.mp h with rfl |h
 ·exact bK (fun _ q=>nomatch q) rfl
 rcases List.mem_append.mp h with h |h<;>rcases List.mem_cons.mp h with rfl |h
 ·exact dF (fun _ q=>nomatch q) rfl (.inr (.head _))
 ·exact .inl (.tail _ (.tail _ (List.mem_append_left _ h)))
 ·exact dF (fun _ q=>nomatch q) rfl (.inr (.tail _ (.head _)))
 ·exact .inl (.tail _ (.tail _ (List.mem_append_right _ h)))
theorem zU {a c:Sy}(d:max (dep a) (dep c)+1+1≤4)(hb:(ao (.next (.or a c))).length≤2)(hg:Gm (.next (.or a c))):Gs (.or (.next a) (.next c)):=by
 refine gH (s:=.next (.or a c)) [.next a,.next c] (Nat.le_trans (Nat.succ_le_succ (mx (Nat.le_of_succ_le_succ (Nat.le_of_succ_le_succ d)))) (by decide)) (Nat.add_le_add_right hb 2) hg fun t h=>?_
 rcases List.mem_cons.mp h with rfl |h
 ·exact bK (fun _ q=>nomatch q) rfl
 rcases List.mem_append.mp h with h |h<;>rcases List.mem_cons.mp h with rfl |h
 ·exact dF (fun _ q=>nomatch q) rfl (.inr (.head _))
 ·exact .inl (.tail _ (.tail _ (List.mem_append_left _ h)))
 ·exact dF (fun _ q=>nomatch q) rfl (.inr (.tail _ (.head _)))
 ·exact .inl (.tail _ (.tail _ (List.mem_append_right _ h)))
theorem Ce {b:Bool}{s:Sy}(hd:dep s≤3)(hb:(ao s).length≤2)(hg:Gm s)(ht:∀a c,s=.till a c→dep s≤2):Gs (ow b s):=by
 have nn:∀s:Sy,dep s≤3→(ao s).length≤2→Gm s→Gs (.not (.not s)):=fun s hd hb hg=>gH [] (Nat.succ_le_succ (Nat.succ_le_succ hd)) (Nat.le_trans hb (by decide)) hg fun t h=>by
  rcases List.mem_cons.mp h with rfl |h
  ·exact bK (fun _ q=>nomatch q) rfl
  rcases List.mem_cons.mp h with rfl |h
  ·exact bK (fun _ q=>nomatch q) rfl
  ·exact .inl h
 cases s with
 |mark x=>exact nn _ hd hb hg
 |yes=>exact nn _ hd hb hg
 |not a=>exact nn _ hd hb hg
 |always a=>
  refine gH (s:=.always a) [.till .yes (.not a)] ?_ (Nat.le_trans (Nat.add_le_add_right hb 1) (by decide)) hg fun t h=>?_
  ·exact Nat.succ_le_succ (Nat.succ_le_succ (Nat.max_le.mpr ⟨by decide,hd⟩))
  ·rcases List.mem_cons.mp h with rfl |h
   ·exact bK (fun _ q=>nomatch q) rfl
   rcases List.mem_cons.mp h with rfl |h
   ·exact dF (fun _ q=>nomatch q) rfl (.inr (.head _))
   rcases List.mem_cons.mp h with rfl |h
   ·exact bK (fun _ q=>nomatch q) rfl
   rcases List.mem_cons.mp h with rfl |h
   ·exact bK (fun _ q=>nomatch q) rfl
   ·exact .inl (.tail _ h)
 |again a=>
  have own:∀x,x∈bB (.again a)→x∈ao (.again a):=fun x hx=>aI.mpr ⟨_,dO _,hx⟩
  refine gH (s:=.again a) [] ?_ (Nat.le_trans hb (by decide)) hg fun t h=>?_
  ·exact Nat.succ_le_succ (Nat.succ_le_succ (Nat.max_le.mpr ⟨by decide,Nat.le_trans (Nat.le_succ _) hd⟩))
  ·rcases List.mem_cons.mp h with rfl |h
   ·exact dF (fun _ q=>nomatch q) rfl (.inl (own _ (.tail _ (.head _))))
   rcases List.mem_cons.mp h with rfl |h
   ·exact dF (fun _ q=>nomatch q) rfl (.inl (own _ (.head _)))
   rcases List.mem_cons.mp h with rfl |h
   ·exact bK (fun _ q=>nomatch q) rfl
   ·exact .inl (.tail _ h)
 |till a c=>
  have d2:max (dep a) (dep c)+1≤2:=ht a c rfl
  refine gH (s:=.till a c) [.next (.till a c)] ?_ (Nat.le_trans (Nat.add_le_add_right hb 1) (by decide)) hg fun t h=>?_
  ·have m:=Nat.le_of_succ_le_succ d2
   exact Nat.succ_le_succ (Nat.max_le.mpr ⟨Nat.le_trans (Nat.max_le.mp m).2 (by decide),Nat.succ_le_succ (Nat.max_le.mpr ⟨Nat.le_trans (Nat.max_le.mp m).1 (by decide),Nat.succ_le_succ (Nat.succ_le_succ m)⟩)⟩)
  ·rcases List.mem_cons.mp h with rfl |h
   ·exact bK (fun _ q=>nomatch q) rfl
   rcases List.mem_append.mp h with h |h
   ·exact .inl (.tail _ (List.mem_append_right _ h))
   rcases List.mem_cons.mp h with rfl |h
   ·exact bK (fun _ q=>nomatch q) rfl
   rcases List.mem_append.mp h with h |h
   ·exact .inl (.tail _ (List.mem_append_left _ h))
   rcases List.mem_cons.mp h with rfl |h
   ·exact dF (fun _ q=>nomatch q) rfl (.inr (.head _))
   ·exact .inl h
 |and a c=>
  have d:max (dep a) (dep c)+1≤3:=hd
  cases b with
  |true=>
   refine gH (s:=.and a c) [] (Nat.succ_le_succ (Nat.le_trans (Nat.le_of_eq (Nat.max_comm _ _)) (Nat.le_trans (Nat.le_of_succ_le_succ d) (by decide)))) (Nat.le_trans hb (by decide)) hg fun t h=>?_
   rcases List.mem_cons.mp h with rfl |h
   ·exact bK (fun _ q=>nomatch q) rfl
   ·exact .inl (.tail _ (List.mem_append.mpr (List.mem_append.mp h).symm))
  |false=>
   refine gH (s:=.and a c) [] (Nat.succ_le_succ (Nat.succ_le_succ (mx (Nat.le_of_succ_le_succ d)))) (Nat.le_trans hb (by decide)) hg fun t h=>?_
   rcases List.mem_cons.mp h with rfl |h
   ·exact bK (fun _ q=>nomatch q) rfl
   rcases List.mem_cons.mp h with rfl |h
   ·exact bK (fun _ q=>nomatch q) rfl
   rcases List.mem_append.mp h with h |h<;>rcases List.mem_cons.mp h with rfl |h
   ·exact bK (fun _ q=>nomatch q) rfl
   ·exact .inl (.tail _ (List.mem_append_left _ h))
   ·exact bK (fun _ q=>nomatch q) rfl
   ·exact .inl (.tail _ (List.mem_append_right _ h))
 |or a c=>
  have d:max (dep a) (dep c)+1≤3:=hd
  cases b with
  |true=>
   refine gH (s:=.or a c) [] (Nat.succ_le_succ (Nat.le_trans (Nat.le_of_eq (Nat.max_comm _ _)) (Nat.le_trans (Nat.le_of_succ_le_succ d) (by decide)))) (Nat.le_trans hb (by decide)) hg fun t h=>?_
   rcases List.mem_cons.mp h with rfl |h
   ·exact bK (fun _ q=>nomatch q) rfl
   ·exact .inl (.tail _ (List.mem_append.mpr (List.mem_append.mp h).symm))
  |false=>
   refine gH (s:=.or a c) [] (Nat.succ_le_succ (Nat.succ_le_succ (mx (Nat.le_of_succ_le_succ d)))) (Nat.le_trans hb (by decide)) hg fun t h=>?_
   rcases List.mem_cons.mp h with rfl |h
   ·exact bK (fun _ q=>nomatch q) rfl
   rcases List.mem_cons.mp h with rfl |h
   ·exact bK (fun _ q=>nomatch q) rfl
   rcases List.mem_append.mp h with h |h<;>rcases List.mem_cons.mp h with rfl |h
   ·exact bK (fun _ q=>nomatch q) rfl
   ·exact .inl (.tail _ (List.mem_append_left _ h))
   ·exact bK (fun _ q=>nomatch q) rfl
   ·exact .inl (.tail _ (List.mem_append_right _ h))
 |next o=>
  have d:dep o+1≤3:=hd
  cases o with
  |not a=>
   refine gH (s:=.next (.not a)) [.next a] (show dep a+1+1≤5 from Nat.le_trans d (by decide)) (Nat.le_trans (Nat.add_le_add_right hb 1) (by decide)) hg fun t h=>?_
   rcases List.mem_cons.mp h with rfl |h
   ·exact bK (fun _ q=>nomatch q) rfl
   rcases List.mem_cons.mp h with rfl |h
   ·exact dF (fun _ q=>nomatch q) rfl (.inr (.head _))
   ·exact .inl (.tail _ (.tail _ h))
  |and a c=>exact vI (Nat.le_trans hd (by decide)) hb hg
  |or a c=>exact zU (Nat.le_trans hd (by decide)) hb hg
  |_=>exact nn _ hd hb hg
noncomputable abbrev Ac:PS:=ae (be (eY (qE (ak 56 (aa (pV 5) (aa (p2 aj (pV 11) (pC (.int 0))) (aa (p2 aj (pV 11) (pC (.int 1))) ah))))) (eY (qE (p2 aj (ak 46 (aa (pV 5) (aa (p2 aj (pV 11) (pC (.int 0))) (aa (p2 aj (pV 11) (pC (.int 1))) ah)))) (pC (.int 0)))) bJ))
  (ae (au (pC (.bool false)))
  af)
  af)
  af
noncomputable abbrev uZ:PS:=ae (be (p2 bI (p2 aj (pV 10) (pC (.int 0))) (pC (.str (ofString "breaks"))))
  (ae (av 11 (aB (aG (p3 bE (pV 10) (p1 ck (pC (.int 1))) iw)) (aJ 12) ay (aB (aG (pV 12)) (aJ 13) ay (p2 aj (p2 aj (pV 3) (pC (.int 0))) (pV 13)))))
  (ae (bP (aG (ax (aa (pV 4) (aa (pV 6) ah)))) (aJ 5)
  Ac)
  af))
  af)
  af
noncomputable abbrev lF (a0 a1 a2 a3 a4 a5 a6 a7 a8 a9 a10 a11:Option T):aH:=[a0,a1,a2,a3,a4,a5,a6,a7,a8,a9,a10,a11,none,none]
theorem uv {M:Mc}:aj (.tup M.fs) (.int 0)=some (.lst (M.names.map .str)):=rfl
theorem vw {a b:T}:aj (.lst [a,b]) (.int 0)=some a:=rfl
theorem sU {a b:T}:aj (.lst [a,b]) (.int 1)=some b:=rfl
theorem kU {a:T}{l:List T}:aj (.tup (a::l)) (.int 0)=some a:=kF (e:=id) (l:=a::l) (i:=0) rfl (Nat.zero_le _) |> fun h=>by rw [List.map_id] at h;exact h
theorem yc {a b c:T}:bE (.tup [a,b,c]) (some 1) none=some (.tup [b,c]):=by kernel_rfl
theorem A8:bI (.str (ofString "breaks")) (.str (ofString "breaks"))=some true:=by kernel_rfl
theorem AN:bI (.str (ofString "keeps")) (.str (ofString "breaks"))=some false:=by kernel_rfl
theorem AE {Q:T→Sg→Prop}{o o':cz}(h:o=o')(h2:aT Q o'):aT Q o:=by rw [h];exact h2
section
variable {M:Mc} {s s2:Sy} {σ:Sg} {n:Nat} {a0 a1 a2 a5 a7 a8 a9:Option T}
theorem sN {w r:List Str}(hr:0 < r.length)(hn:(w++r).length≤1000){q:Sy}(hd:dep q≤10)(no:¬Sem (lw (w++r) w.length) q 0){ρ:aH}(h5:bz ρ 5=some (aX q))(h11:bz ρ 11=some (.lst [.lst (w.map .str),.lst (r.map .str)])){k:PK aH}{o:cz}(hk:k ρ σ=o):Ac ⟨ai Ψ (n+24)⟩ ρ σ k=o:=by
 have e:eu (w++r) w.length q 0=false:=Bool.eq_false_iff.mpr fun h=>no (aS.mp h)
 have H:=wG (σ:=σ) hr hn (Nat.le_trans hd (by decide)) n
 have Z:=vV (σ:=σ) hr hn (n+22) q (Nat.le_trans hd (by lia))
 rw [e] at H
 have i0:aj (bT (w++r).length (eu (w++r) w.length q)) (.int 0)=some (.bool false):=by
  rw [←e];exact eM (i:=0) (by rw [List.length_append];lia) (Nat.le_trans hn (by decide))
 exact ab h5 (ab h11 (ab vw (ab h11 (ab sU (aq H (ab rfl (az rfl (ab h5 (ab h11 (ab vw (ab h11 (ab sU (aq Z (ab i0 (ab rfl hk)))))))))))))))
theorem uX {Q:T→Sg→Prop}(O:M.Ok){P R:List Kn}(hP:∀x∈P++R,x.p < M.names.length)(hr:0 < R.length)(hn:(P++R).length≤1000)(ds:dep s≤10)(d2:dep s2≤10)
  (no:∀q,q=s∨q=s2→¬Sem (lw ((P.map fun k=>M.mark k.p)++R.map fun k=>M.mark k.p) (P.map fun k=>M.mark k.p).length) q 0){x11:Option T}{k:PK aH}
  (hk:∀x5 x11,aT Q (k (lF a0 a1 a2 (some (.tup M.fs)) (some (aX s)) x5 (some (aX s2)) a7 a8 a9 (some (.tup [.str (ofString "breaks"),t3 P,t3 R])) x11) σ)):
  aT Q (uZ ⟨ai Ψ (n+24)⟩ (lF a0 a1 a2 (some (.tup M.fs)) (some (aX s)) a5 (some (aX s2)) a7 a8 a9 (some (.tup [.str (ofString "breaks"),t3 P,t3 R])) x11) σ k):=by
 have inner:∀(l:List Kn),(∀x∈l,x.p < M.names.length)→∀(ρ:aH) {κ:PK (List T)} {o:cz},(∀t,bz (ρ.set 13 (some t)) 13=some t)→(∀t,bz (ρ.set 13 (some t)) 3=some (.tup M.fs))→κ ((l.map fun k=>M.mark k.p).map .str) σ=o→aY (aJ 13) ay (p2 aj (p2 aj (pV 3) (pC (.int 0))) (pV 13)) ⟨ai Ψ (n+24)⟩ ρ (l.map fun k=>nT k.p) σ [] κ=o:=fun l hl ρ κ o h13 h3 hκ=>by
  refine bb (e:=fun k:Kn=>nT k.p) (fun k=>.str (M.mark k.p)) (fun x hx=>⟨_,rfl,fun κ=>ab (h3 _) (ab uv (ab (h13 _) (ab (bR (e:=T.str) (wJ (hl x hx)) (O.lim (hl x hx))) rfl)))⟩) ?_
  rw [←hκ,List.map_map];rfl
 have L:((P.map fun k=>M.mark k.p)++R.map fun k=>M.mark k.p).length≤1000:=by rw [List.length_append,List.length_map,List.length_map,←List.length_append];exact hn
 have Rl:0 < (R.map fun k=>M.mark k.p).length:=by rw [List.length_map];exact hr
 refine aw rfl (aw kU (aw A8 (d7 (fun _=>?_) fun q=>nomatch q)))
 refine aw rfl (aw rfl (aw yc (aw rfl (eL (e:=t3) (l:=[P,R]) (fun l=>.lst ((l.map fun k=>M.mark k.p).map .str)) (fun l hl=>⟨_,rfl,fun κ=>ab rfl (ab rfl (inner l (fun x hx=>hP x ?_) _ (fun _=>rfl) (fun _=>rfl) rfl))⟩) ?_))))
 ·rcases List.mem_cons.mp hl with rfl |hl
  ·exact List.mem_append_left _ hx
  ·cases List.mem_singleton.mp hl;exact List.mem_append_right _ hx
 refine aw rfl (aw rfl (qw rfl (aw rfl ?_)))
 have b:∀q,q=s∨q=s2→dep q≤10:=fun q h=>h.elim (fun e=>e▸ds) fun e=>e▸d2
 refine qv rfl (AE (sN Rl L ds (no s (.inl rfl)) rfl rfl rfl) (qv rfl (AE (sN Rl L d2 (no s2 (.inr rfl)) rfl rfl rfl) (Be ?_))))
 exact hk _ _
end
noncomputable abbrev DS:PS:=(ae (av 9 (bu (aa (ak 43 (aa (pV 8) (aa (pV 4) ah))) (aa (ak 43 (aa (pV 8) (aa (pV 6) ah))) ah))))
  (ae (be (p2 jW (p1 aO (ak 500 (aa (pV 6) ah))) (p1 aO (ak 22 (aa (pV 6) ah))))
  (ae (au (pC (.bool false)))
  af)
  af)
  (ae (be (p2 jW (p2 aj (p2 aj (pV 9) (pC (.int 0))) (pC (.int 0))) (p2 aj (p2 aj (pV 9) (pC (.int 1))) (pC (.int 0))))
  (ae (au (pC (.bool false)))
  af)
  af)
  (ae (bP (aG (pV 9)) (aJ 10)
  (ae (be (p2 bI (p2 aj (pV 10) (pC (.int 0))) (pC (.str (ofString "breaks"))))
  (ae (av 11 (aB (aG (p3 bE (pV 10) (p1 ck (pC (.int 1))) iw)) (aJ 12) ay (aB (aG (pV 12)) (aJ 13) ay (p2 aj (p2 aj (pV 3) (pC (.int 0))) (pV 13)))))
  (ae (bP (aG (ax (aa (pV 4) (aa (pV 6) ah)))) (aJ 5)
  (ae (be (eY (qE (ak 56 (aa (pV 5) (aa (p2 aj (pV 11) (pC (.int 0))) (aa (p2 aj (pV 11) (pC (.int 1))) ah))))) (eY (qE (p2 aj (ak 46 (aa (pV 5) (aa (p2 aj (pV 11) (pC (.int 0))) (aa (p2 aj (pV 11) (pC (.int 1))) ah)))) (pC (.int 0)))) bJ))
  (ae (au (pC (.bool false)))
  af)
  af)
  af))
  af))
  af)
  af))
  (ae (au (pC (.bool true)))
  af)))))
theorem o8 {M:Mc}{s q:Sy}{K P R:List Kn}(B:BQ M s K P R)(E:∀w i,Sem w q i↔Sem w s i):¬Sem (lw ((P.map fun k=>M.mark k.p)++R.map fun k=>M.mark k.p) (P.map fun k=>M.mark k.p).length) q 0:=by
 obtain ⟨p,_,e,h⟩:=tB B
 rw [←List.map_append,List.length_map,←e]
 exact fun h'=>h ((E _ _).mp h')
theorem zY {M:Mc}{s q:Sy}{K P R:List Kn}(B:BQ M s K P R)(H:BD M q)(E:∀w i,Sem w q i↔Sem w s i):False:=by
 obtain ⟨p,R,e,h⟩:=tB B
 exact h ((E _ _).mp (wp H R))
theorem wo:jW (.str (ofString "keeps")) (.str (ofString "keeps"))=some false:=by kernel_rfl
theorem uJ:jW (.str (ofString "breaks")) (.str (ofString "breaks"))=some false:=by kernel_rfl
section
variable {M:Mc} {s s2:Sy} {sp:Int} {a0 a1 a2 a5 a7:Option T}
theorem nh {X:T}{Q:T→Sg→Prop}{c:fT}{σ:Sg}{b0 b1 b2 b3 b4 b5 b6 b7 b8 b9 x11:Option T}{k:PK aH}(hk:aT Q (k (lF b0 b1 b2 b3 b4 b5 b6 b7 b8 b9 (some (.tup [.str (ofString "keeps"),X])) x11) σ)):aT Q (uZ c (lF b0 b1 b2 b3 b4 b5 b6 b7 b8 b9 (some (.tup [.str (ofString "keeps"),X])) x11) σ k):=
 aw rfl (aw kU (aw AN (nc hk)))
theorem ya (O:M.Ok)(G:Gs s)(G2:Gs s2)(E:∀w i,Sem w s2 i↔Sem w s i){k:PK aH}(n:Nat):aT (fun t _=>t=.bool true) (DS ⟨ai Ψ (n+24)⟩ (lF a0 a1 a2 (some (.tup M.fs)) (some (aX s)) a5 (some (aX s2)) a7 (some M.t) none none none) ⟨sp,none⟩ k):=by
 have d8:dep s2≤8:=Nat.le_trans G2.dep (by decide)
 refine aw rfl (aw rfl (bF (nN O G (sp:=sp) n) ?_))
 rintro t1 _ ⟨rfl,J1⟩
 refine aw rfl (aw rfl (bF (nN O G2 (sp:=sp) n) ?_))
 rintro t2 _ ⟨rfl,J2⟩
 refine CD (aw rfl (fO (je (n+23) s2 (Nat.le_trans d8 (by lia)) d8) (aw rfl (aw rfl (fO (zZ (n:=n+22) (Nat.le_trans d8 (by lia)) d8) (aw rfl (aw (vO (by rw [List.length_map,List.length_map,wf])) (nc ?_))))))))
 have E':∀w i,Sem w s i↔Sem w s2 i:=fun w i=>(E w i).symm
 have rf:∀q w i,Sem w q i↔Sem w q i:=fun _ _ _=>.rfl
 have brk:∀{q:Sy} {K P R:List Kn} {σ:Sg} {b0 b1 b2 b5 b7 b8 b9 x11:Option T} {k:PK aH},q=s∨q=s2→tH M q (st M q) K []→BQ M q K P R→(∀x5 x11,aT (fun t _=>t=.bool true) (k (lF b0 b1 b2 (some (.tup M.fs)) (some (aX s)) x5 (some (aX s2)) b7 b8 b9 (some (.tup [.str (ofString "breaks"),t3 P,t3 R])) x11) σ))→
   aT (fun t _=>t=.bool true) (uZ ⟨ai Ψ (n+24)⟩ (lF b0 b1 b2 (some (.tup M.fs)) (some (aX s)) b5 (some (aX s2)) b7 b8 b9 (some (.tup [.str (ofString "breaks"),t3 P,t3 R])) x11) σ k):=fun {q K P R σ b0 b1 b2 b5 b7 b8 b9 x11 k} hq S B hk=>
  uX (n:=n) O (fun x hx=>(fy.mp (S.sub x (by rw [List.append_nil];exact B.sub x hx))).1) (by have:=B.lasso.lt;rw [List.length_append] at this;lia) B.len (Nat.le_trans G.dep (by decide)) (Nat.le_trans G2.dep (by decide)) (fun u hu=>by
   rcases hq with rfl |rfl<;>rcases hu with rfl |rfl
   ·exact o8 B (rf _)
   ·exact o8 B E
   ·exact o8 B E'
   ·exact o8 B (rf _)) hk
 refine aw rfl (aw vw ?_)
 rcases J1 with ⟨X1,rfl,K1⟩ | ⟨K,P,R,rfl,S1,B1⟩<;>rcases J2 with ⟨X2,rfl,K2⟩ | ⟨K',P',R',rfl,S2,B2⟩
 ·refine aw kU (aw rfl (aw sU (aw kU (aw wo (nc (aw rfl (aw rfl (qv rfl ?_))))))))
  exact nh (qv rfl (nh (Be (cv rfl))))
 ·exact (zY B2 K1 E').elim
 ·exact (zY B1 K2 E).elim
 ·refine aw kU (aw rfl (aw sU (aw kU (aw uJ (nc (aw rfl (aw rfl (qv rfl ?_))))))))
  exact brk (.inl rfl) S1 B1 fun x5 x11=>qv rfl (brk (.inr rfl) S2 B2 fun x5 x11=>Be (cv rfl))
end
noncomputable abbrev yV:PS:=(ae (av 8 (qd 0 1006 (aa (p2 aj (pV 3) (pC (.int 0))) (aa (p2 aj (pV 3) (pC (.int 1))) (aa (p2 aj (pV 3) (pC (.int 2))) ah)))))
  (ae (av 6 (ak 62 (aa (pV 4) (aa (ak 17 (aa (pV 0) (aa (pC (.int 1)) ah))) ah))))
  (ae (av 9 (bu (aa (ak 43 (aa (pV 8) (aa (pV 4) ah))) (aa (ak 43 (aa (pV 8) (aa (pV 6) ah))) ah))))
  (ae (be (p2 jW (p1 aO (ak 500 (aa (pV 6) ah))) (p1 aO (ak 22 (aa (pV 6) ah))))
  (ae (au (pC (.bool false)))
  af)
  af)
  (ae (be (p2 jW (p2 aj (p2 aj (pV 9) (pC (.int 0))) (pC (.int 0))) (p2 aj (p2 aj (pV 9) (pC (.int 1))) (pC (.int 0))))
  (ae (au (pC (.bool false)))
  af)
  af)
  (ae (bP (aG (pV 9)) (aJ 10)
  (ae (be (p2 bI (p2 aj (pV 10) (pC (.int 0))) (pC (.str (ofString "breaks"))))
  (ae (av 11 (aB (aG (p3 bE (pV 10) (p1 ck (pC (.int 1))) iw)) (aJ 12) ay (aB (aG (pV 12)) (aJ 13) ay (p2 aj (p2 aj (pV 3) (pC (.int 0))) (pV 13)))))
  (ae (bP (aG (ax (aa (pV 4) (aa (pV 6) ah)))) (aJ 5)
  (ae (be (eY (qE (ak 56 (aa (pV 5) (aa (p2 aj (pV 11) (pC (.int 0))) (aa (p2 aj (pV 11) (pC (.int 1))) ah))))) (eY (qE (p2 aj (ak 46 (aa (pV 5) (aa (p2 aj (pV 11) (pC (.int 0))) (aa (p2 aj (pV 11) (pC (.int 1))) ah)))) (pC (.int 0)))) bJ))
  (ae (au (pC (.bool false)))
  af)
  af)
  af))
  af))
  af)
  af))
  (ae (au (pC (.bool true)))
  af)))))))
noncomputable abbrev Cr:PS:=(ae (be (eY (j7 (p2 bI (p2 aj (pV 4) (pC (.int 0))) (pC (.str (ofString "till")))) (j7 (dE (qE (ak 63 (aa (pV 4) ah)))) ay)) (eY (p2 bI (p2 bG (p2 cJ (ak 17 (aa (pV 0) (aa (pC (.int 1)) ah))) (pC (.int 2))) (pC (.int 2))) (pC (.int 1))) bJ))
  (ae (av 4 (p2 aj (pV 7) (p2 bG (p2 cJ (ak 17 (aa (pV 0) (aa (pC (.int 1)) ah))) (pC (.int 4))) (pC (.int 8)))))
  af)
  af)
  (ae (av 8 (qd 0 1006 (aa (p2 aj (pV 3) (pC (.int 0))) (aa (p2 aj (pV 3) (pC (.int 1))) (aa (p2 aj (pV 3) (pC (.int 2))) ah)))))
  (ae (av 6 (ak 62 (aa (pV 4) (aa (ak 17 (aa (pV 0) (aa (pC (.int 1)) ah))) ah))))
  (ae (av 9 (bu (aa (ak 43 (aa (pV 8) (aa (pV 4) ah))) (aa (ak 43 (aa (pV 8) (aa (pV 6) ah))) ah))))
  (ae (be (p2 jW (p1 aO (ak 500 (aa (pV 6) ah))) (p1 aO (ak 22 (aa (pV 6) ah))))
  (ae (au (pC (.bool false)))
  af)
  af)
  (ae (be (p2 jW (p2 aj (p2 aj (pV 9) (pC (.int 0))) (pC (.int 0))) (p2 aj (p2 aj (pV 9) (pC (.int 1))) (pC (.int 0))))
  (ae (au (pC (.bool false)))
  af)
  af)
  (ae (bP (aG (pV 9)) (aJ 10)
  (ae (be (p2 bI (p2 aj (pV 10) (pC (.int 0))) (pC (.str (ofString "breaks"))))
  (ae (av 11 (aB (aG (p3 bE (pV 10) (p1 ck (pC (.int 1))) iw)) (aJ 12) ay (aB (aG (pV 12)) (aJ 13) ay (p2 aj (p2 aj (pV 3) (pC (.int 0))) (pV 13)))))
  (ae (bP (aG (ax (aa (pV 4) (aa (pV 6) ah)))) (aJ 5)
  (ae (be (eY (qE (ak 56 (aa (pV 5) (aa (p2 aj (pV 11) (pC (.int 0))) (aa (p2 aj (pV 11) (pC (.int 1))) ah))))) (eY (qE (p2 aj (ak 46 (aa (pV 5) (aa (p2 aj (pV 11) (pC (.int 0))) (aa (p2 aj (pV 11) (pC (.int 1))) ah)))) (pC (.int 0)))) bJ))
  (ae (au (pC (.bool false)))
  af)
  af)
  af))
  af))
  af)
  af))
  (ae (au (pC (.bool true)))
  af))))))))
noncomputable abbrev Cq:PS:=(ae (av 5 (ax (aa (pC (.str (ofString "mark"))) (aa (p2 aj (pV 2) (pC (.int 0))) ah))))
  (ae (av 6 (ax (aa (pC (.str (ofString "not"))) (aa (ax (aa (pC (.str (ofString "mark"))) (aa (p2 aj (pV 2) (pC (.int 1))) ah))) ah))))
  (ae (av 7 (bu (aa (ax (aa (pC (.str (ofString "always"))) (aa (pV 5) ah))) (aa (ax (aa (pC (.str (ofString "again"))) (aa (pV 5) ah))) (aa (ax (aa (pC (.str (ofString "till"))) (aa (pV 5) (aa (ax (aa (pC (.str (ofString "mark"))) (aa (p2 aj (pV 2) (pC (.int 1))) ah))) ah)))) (aa (ax (aa (pC (.str (ofString "next"))) (aa (pV 6) ah))) (aa (ax (aa (pC (.str (ofString "again"))) (aa (pV 6) ah))) ah)))))))
  (ae (av 7 (p2 bf (pV 7) (bu (aa (ax (aa (pC (.str (ofString "always"))) (aa (pV 6) ah))) (aa (ax (aa (pC (.str (ofString "next"))) (aa (ax (aa (pC (.str (ofString "and"))) (aa (pV 5) (aa (pV 6) ah)))) ah))) (aa (ax (aa (pC (.str (ofString "next"))) (aa (ax (aa (pC (.str (ofString "or"))) (aa (pV 5) (aa (pV 6) ah)))) ah))) ah))))))
  (ae (be (eY (j7 (p2 bI (p2 aj (pV 4) (pC (.int 0))) (pC (.str (ofString "till")))) (j7 (dE (qE (ak 63 (aa (pV 4) ah)))) ay)) (eY (p2 bI (p2 bG (p2 cJ (ak 17 (aa (pV 0) (aa (pC (.int 1)) ah))) (pC (.int 2))) (pC (.int 2))) (pC (.int 1))) bJ))
  (ae (av 4 (p2 aj (pV 7) (p2 bG (p2 cJ (ak 17 (aa (pV 0) (aa (pC (.int 1)) ah))) (pC (.int 4))) (pC (.int 8)))))
  af)
  af)
  (ae (av 8 (qd 0 1006 (aa (p2 aj (pV 3) (pC (.int 0))) (aa (p2 aj (pV 3) (pC (.int 1))) (aa (p2 aj (pV 3) (pC (.int 2))) ah)))))
  (ae (av 6 (ak 62 (aa (pV 4) (aa (ak 17 (aa (pV 0) (aa (pC (.int 1)) ah))) ah))))
  (ae (av 9 (bu (aa (ak 43 (aa (pV 8) (aa (pV 4) ah))) (aa (ak 43 (aa (pV 8) (aa (pV 6) ah))) ah))))
  (ae (be (p2 jW (p1 aO (ak 500 (aa (pV 6) ah))) (p1 aO (ak 22 (aa (pV 6) ah))))
  (ae (au (pC (.bool false)))
  af)
  af)
  (ae (be (p2 jW (p2 aj (p2 aj (pV 9) (pC (.int 0))) (pC (.int 0))) (p2 aj (p2 aj (pV 9) (pC (.int 1))) (pC (.int 0))))
  (ae (au (pC (.bool false)))
  af)
  af)
  (ae (bP (aG (pV 9)) (aJ 10)
  (ae (be (p2 bI (p2 aj (pV 10) (pC (.int 0))) (pC (.str (ofString "breaks"))))
  (ae (av 11 (aB (aG (p3 bE (pV 10) (p1 ck (pC (.int 1))) iw)) (aJ 12) ay (aB (aG (pV 12)) (aJ 13) ay (p2 aj (p2 aj (pV 3) (pC (.int 0))) (pV 13)))))
  (ae (bP (aG (ax (aa (pV 4) (aa (pV 6) ah)))) (aJ 5)
  (ae (be (eY (qE (ak 56 (aa (pV 5) (aa (p2 aj (pV 11) (pC (.int 0))) (aa (p2 aj (pV 11) (pC (.int 1))) ah))))) (eY (qE (p2 aj (ak 46 (aa (pV 5) (aa (p2 aj (pV 11) (pC (.int 0))) (aa (p2 aj (pV 11) (pC (.int 1))) ah)))) (pC (.int 0)))) bJ))
  (ae (au (pC (.bool false)))
  af)
  af)
  af))
  af))
  af)
  af))
  (ae (au (pC (.bool true)))
  af))))))))))))
noncomputable abbrev Cu:PS:=(ae (av 4 (p2 aj (pV 7) (p2 bG (p2 cJ (ak 17 (aa (pV 0) (aa (pC (.int 1)) ah))) (pC (.int 4))) (pC (.int 8)))))
  af)
noncomputable abbrev DR:PT:=(eY (p2 bI (p2 bG (p2 cJ (ak 17 (aa (pV 0) (aa (pC (.int 1)) ah))) (pC (.int 2))) (pC (.int 2))) (pC (.int 1))) bJ)
structure BP (q:Sy):Prop where
 gs:Gs q
 ow:∀b,Gs (ow b q)
noncomputable def Ey:Sy→Str
 |.mark _=>ofString "mark"
 |.yes=>ofString "yes"
 |.not _=>ofString "not"
 |.and _ _=>ofString "and"
 |.or _ _=>ofString "or"
 |.next _=>ofString "next"
 |.till _ _=>ofString "till"
 |.always _=>ofString "always"
 |.again _=>ofString "again"
noncomputable def rW:Sy→Bool
 |.till _ _=>true
 |_=>false
theorem AA (s:Sy):aj (aX s) (.int 0)=some (.str (Ey s)):=by cases s<;>rfl
theorem x0 (s:Sy):bI (.str (Ey s)) (.str (ofString "till"))=some (rW s):=by cases s<;>kernel_rfl
theorem BW {a b:T}{l:List T}:aj (.tup (a::b::l)) (.int 1)=some b:=kF (e:=id) (l:=a::b::l) (i:=1) rfl (by decide) |> fun h=>by rw [List.map_id] at h;exact h
theorem BV {a b c:T}{l:List T}:aj (.tup (a::b::c::l)) (.int 2)=some c:=kF (e:=id) (l:=a::b::c::l) (i:=2) rfl (by decide) |> fun h=>by rw [List.map_id] at h;exact h
theorem v5 {s:Sy}(h:lf s=true):dep s≤1:=by cases s<;>first |exact Nat.le_refl _ |cases h
section
variable {M:Mc} {ns:List Int} {sp:Int} {a1 a2 a5 a6 a7:Option T}
theorem sP (hn:ns.length≤63)(O:M.Ok){q:Sy}(H:BP q){k:PK aH}(n:Nat):aT (fun t _=>t=.bool true) (yV ⟨ai Ψ (n+24)⟩ (lF (some (.scr ns)) a1 a2 (some (.tup M.fs)) (some (aX q)) a5 a6 a7 none none none none) ⟨sp,none⟩ k):=by
 refine aw rfl (aw kU (aw rfl (aw BW (aw rfl (aw BV (Cn (yZ O (n+21)) (aw rfl (aw rfl (bF (kI hn 1 (n+23)) ?_)))))))))
 rintro _ _ ⟨rfl,z,rfl⟩
 obtain ⟨b,hb⟩:=Cd (σ:=⟨sp,none⟩) q z (n+22)
 exact fO hb (ya O H.gs (H.ow b) (fun w i=>AI) n)
end
noncomputable def L8 (x y:Str):List Sy:=[.always (.mark x),.again (.mark x),.till (.mark x) (.mark y),.next (.not (.mark y)),.again (.not (.mark y)),.always (.not (.mark y)),.next (.and (.mark x) (.not (.mark y))),.next (.or (.mark x) (.not (.mark y)))]
theorem ED {q:Sy}(dp:dep q≤3)(few:(ao q).length≤2)(gm:Gm q)(till:∀a c,q=.till a c→dep q≤2):BP q:=⟨⟨Nat.le_trans dp (by decide),Nat.le_trans few (by decide),gm⟩,fun _=>Ce dp few gm till⟩
theorem tg {x:Str}(N:Nm x):Gm (.mark x):=fun z h=>by cases List.mem_singleton.mp h;exact ⟨N.m,N.ne⟩
theorem Da {x y z:Str}(N:C8 x y z):∀q∈L8 x y,BP q:=by
 have gx:=tg N.a
 have gy:=tg N.b
 have gn:=rq.gm gy
 have ok:∀{q:Sy},Nat.ble (dep q) 3=true→Nat.ble (ao q).length 2=true→Gm q→(∀a c,q=.till a c→dep q≤2)→BP q:=fun h1 h2 g t=>ED (Nat.le_of_ble_eq_true h1) (Nat.le_of_ble_eq_true h2) g t
 have ok2:∀{q:Sy},Nat.ble (dep q) 5=true→Nat.ble (ao q).length 4=true→Gm q→Gs q:=fun h1 h2 g=>⟨Nat.le_of_ble_eq_true h1,Nat.le_of_ble_eq_true h2,g⟩
 exact List.forall_mem_cons.mpr ⟨ok rfl rfl (gP.gm gx) (fun _ _ h=>nomatch h),List.forall_mem_cons.mpr ⟨ok rfl rfl (kQ.gm gx) (fun _ _ h=>nomatch h),
  List.forall_mem_cons.mpr ⟨ok rfl rfl (pd.gm gx gy) (fun _ _ _=>Nat.le_of_ble_eq_true rfl),List.forall_mem_cons.mpr ⟨ok rfl rfl (e9.gm gn) (fun _ _ h=>nomatch h),
  List.forall_mem_cons.mpr ⟨ok rfl rfl (kQ.gm gn) (fun _ _ h=>nomatch h),List.forall_mem_cons.mpr ⟨ok rfl rfl (gP.gm gn) (fun _ _ h=>nomatch h),
  List.forall_mem_cons.mpr ⟨⟨ok2 rfl rfl (e9.gm (su.gm gx gn)),fun _=>vI (Nat.le_of_ble_eq_true rfl) (Nat.le_of_ble_eq_true rfl) (e9.gm (su.gm gx gn))⟩,List.forall_mem_cons.mpr ⟨⟨ok2 rfl rfl (e9.gm (xn.gm gx gn)),fun _=>zU (Nat.le_of_ble_eq_true rfl) (Nat.le_of_ble_eq_true rfl) (e9.gm (xn.gm gx gn))⟩,fun _ h=>nomatch h⟩⟩⟩⟩⟩⟩⟩⟩
theorem D0 {s:Sy}(ht:rW s=true)(h:(((all s).drop 1).filter fun t=>!lf t).isEmpty=true):dep s≤2:=by
 cases s with
 |till a c=>
  have v:∀t∈all a++all c,lf t=true:=fun t ht=>by
   have:=List.filter_eq_nil_iff.mp (List.isEmpty_iff.mp h) t ht
   cases e:lf t with
   |true=>rfl
   |false=>rw [e] at this;exact absurd rfl this
  exact Nat.succ_le_succ (Nat.max_le.mpr ⟨v5 (v a (List.mem_append_left _ (dO a))),v5 (v c (List.mem_append_right _ (dO c)))⟩)
 |_=>cases ht
theorem Eg (z:Int):cJ (.int z) (.int 2)=some (.int (z.fdiv 2)):=cC z (k:=2) rfl
theorem Ef (z:Int):cJ (.int z) (.int 4)=some (.int (z.fdiv 4)):=cC z (k:=4) rfl
section
variable {M:Mc} {ns:List Int} {sp:Int} {a1 a2 a5 a6 a7:Option T}
theorem nA {Q:T→Sg→Prop}(hn:ns.length≤63){ρ:aH}(h0:bz ρ 0=some (.scr ns))(n:Nat){k:PK Bool}(h:∀b,aT Q (k b ⟨sp,none⟩)):aT Q (DR ⟨ai Ψ (n+24)⟩ ρ ⟨sp,none⟩ k):=by
 refine aw h0 (bF (kI hn 1 (n+23)) ?_)
 rintro _ _ ⟨rfl,z,rfl⟩
 exact aw (Eg z) (aw (cO _ (k:=2) (by decide)) (aw (eK _ _) (d7 (fun _=>h true) fun _=>h false)))
theorem pQ (hn:ns.length≤63)(O:M.Ok){x y:Str}{t4:Option T}(H8:∀q∈L8 x y,BP q){k:PK aH}(n:Nat):aT (fun t _=>t=.bool true) (Cu ⟨ai Ψ (n+24)⟩ (lF (some (.scr ns)) a1 a2 (some (.tup M.fs)) t4 a5 a6 (some (.lst ((L8 x y).map aX))) none none none none) ⟨sp,none⟩ fun ρ σ=>yV ⟨ai Ψ (n+24)⟩ ρ σ k):=by
 refine aw rfl (aw rfl (bF (kI hn 1 (n+23)) ?_))
 rintro _ _ ⟨rfl,z,rfl⟩
 obtain ⟨i,hi,i8⟩:=gA (z.fdiv (4:Nat)) (n:=8) (by decide)
 have e:(L8 x y)[i]?=some (L8 x y)[i]:=List.getElem?_eq_getElem (show i < (L8 x y).length from i8)
 exact aw (Ef z) (aw hi (aw (bR (e:=aX) e (Nat.le_trans (Nat.le_of_lt i8) (by decide))) (sP hn O (H8 _ (List.mem_of_getElem? e)) n)))
theorem CA (hn:ns.length≤63)(O:M.Ok){x y:Str}(H8:∀q∈L8 x y,BP q){s:Sy}(d3:dep s≤3)(b2:(ao s).length≤2)(g:Gm s){k:PK aH}(n:Nat):
  aT (fun t _=>t=.bool true) (Cr ⟨ai Ψ (n+24)⟩ (lF (some (.scr ns)) a1 a2 (some (.tup M.fs)) (some (aX s)) a5 a6 (some (.lst ((L8 x y).map aX))) none none none none) ⟨sp,none⟩ k):=by
 have both:(rW s=true→dep s≤2)→∀b,aT (fun t _=>t=.bool true) (bif b then Cu ⟨ai Ψ (n+24)⟩ (lF (some (.scr ns)) a1 a2 (some (.tup M.fs)) (some (aX s)) a5 a6 (some (.lst ((L8 x y).map aX))) none none none none) ⟨sp,none⟩ (fun ρ σ=>yV ⟨ai Ψ (n+24)⟩ ρ σ k)
   else yV ⟨ai Ψ (n+24)⟩ (lF (some (.scr ns)) a1 a2 (some (.tup M.fs)) (some (aX s)) a5 a6 (some (.lst ((L8 x y).map aX))) none none none none) ⟨sp,none⟩ k):=fun h b=>d7 (fun _=>pQ hn O H8 n) fun _=>sP hn O (ED d3 b2 g fun a c e=>h (by rw [e];rfl)) n
 refine aw rfl (aw (AA s) (aw (x0 s) (d7 (fun ht=>?_) fun ht=>?_)))
 ·refine aw rfl (fO (rC (Nat.le_trans d3 (by decide)) (n+14)) (aw rfl (d7 (fun hv=>?_) fun hv=>?_)))
  ·exact zt (zt (pQ hn O H8 n))
  ·exact nc (nA hn rfl n (both fun ht=>D0 ht (by rw [←Bool.not_not (List.isEmpty _),hv];rfl)))
 ·exact nc (nA hn rfl n (both fun h=>by rw [ht] at h;cases h))
theorem ug {c:fT}{k:PK aH}{x y z:Str}{a0 a1 a3 a4:Option T}{σ:Sg}:Cq c (lF a0 a1 (some (vN x y z)) a3 a4 none none none none none none none) σ k=Cr c (lF a0 a1 (some (vN x y z)) a3 a4 (some (aX (.mark x))) (some (aX (.not (.mark y)))) (some (.lst ((L8 x y).map aX))) none none none none) σ k:=by kernel_rfl
theorem v4 (hn:ns.length≤63)(O:M.Ok){x y z:Str}(N:C8 x y z){s:Sy}(d3:dep s≤3)(b2:(ao s).length≤2)(g:Gm s){k:PK aH}(n:Nat):
  aT (fun t _=>t=.bool true) (Cq ⟨ai Ψ (n+24)⟩ (lF (some (.scr ns)) a1 (some (vN x y z)) (some (.tup M.fs)) (some (aX s)) none none none none none none none) ⟨sp,none⟩ k):=
 AE ug (CA hn O (Da N) d3 b2 g n)
theorem A3 (hn:ns.length≤63){k:PK aH}(n:Nat):aT (fun t _=>t=.bool true) (vy ⟨ai Ψ (n+24)⟩ (lF (some (.scr ns)) (some .spot) none none none none none none none none none none) ⟨((2:Nat):Int),none⟩ k):=by
 refine aw rfl (bF (kI hn 0 (n+23)) ?_)
 rintro _ _ ⟨rfl,c,rfl⟩
 refine bF (vP c (n+23)) ?_
 rintro _ _ ⟨rfl,x,y,z,rfl,N⟩
 refine aw rfl (aw rfl (aw rfl (bF (rR hn 2 (n+22) N (most:=3) (by decide) (by decide)) ?_)))
 rintro _ _ ⟨⟨j,rfl⟩,M,rfl,O,_⟩
 refine aw rfl (aw rfl (aw rfl (bF (yI hn N 3 j (n+23) (by decide) (by lia)) ?_)))
 rintro _ _ ⟨⟨j,rfl⟩,s,rfl,d,g⟩
 refine bF (Bh (Nat.le_trans d (by decide)) g (n+12)) ?_
 rintro _ _ ⟨rfl,s',rfl,d',g',b'⟩
 exact v4 hn O N (Nat.le_trans d' d) b' g' n
end
noncomputable def depth:Nat:=16+24
theorem plain (ns:List Int)(h:ns.length≤63):∃s,vy ⟨ai Ψ depth⟩ (frame [.scr ns,.spot] 12) ⟨2,none⟩ (fun _ s=>.ret .none s)=.ret (.bool true) s:=by
 obtain ⟨t,s,e,rfl⟩:=A3 h (k:=fun _ s=>.ret .none s) 16
 exact ⟨s,e⟩
end
end Mine.L09
end
open PySem PySem.W PyProof.Rows Mine Mine.L09
set_option maxRecDepth 100000
set_option maxHeartbeats 8000000
namespace Mine.L09
theorem wQ:(defOf q PySem.Challenge.rw_uf020006_09.row.name).isSome=true:=by kernel_rfl
noncomputable def Dm:DefRec:=((defOf q PySem.Challenge.rw_uf020006_09.row.name).get wQ).1
theorem CQ:defOf q PySem.Challenge.rw_uf020006_09.row.name=some (Dm,[]):=by kernel_rfl
theorem CP:PySem.Challenge.rw_uf020006_09.row.prog.theDef PySem.Challenge.rw_uf020006_09.row.name=some (Dm.params,Dm.body,Dm.scope):=by kernel_rfl
end Mine.L09
theorem PySem.Challenge.cw_uf020006_09_holds : PySem.Challenge.rw_uf020006_09.Holds := by
 refine holds_law DG fun sd=>?_
 refine holds_open (q:=q) (loose:=[]) (Xt:=Mine.L09.Xt) (XP:=XL q []) (Yf:=Hook.obs Hook.none) (Ya:=Hook.val Hook.none) (YP:=Hook.says Hook.none) (N:=4000) left (Hook.of _) (Hook.keeps _) (fun s e=>xl_of s (Bool.and_eq_true_iff.mp e).1) (fun mg h h' x k=>XL.keeps mg h h' x k) CQ CP (by kernel_rfl) (fun s e=>recFacts_of (Bool.and_eq_true_iff.mp e).2) (by rfl) sd EW ⟨rfl,rfl,rfl,rfl,rfl,by decide+kernel⟩ ?hw ?hc
 case hw=>w_witness2
 intro w s₀ s₁ mg mb G Y fa o pm cd doc dV kV ho hd hcd hD hmg hg args vals as hpre hlay hrd hwl hlo
 clear Y ho hd hcd hD
 wrow_args hpre hlay hrd hwl hlo
 rename IntsAre _ _=>hI
 rename Heap.IsList _ _ _=>hL
 obtain ⟨σ,hc⟩:=(fun {vs:List Value} {ns:List Int} (_:IntsAre vs ns)=>Mine.L09.plain ns) hI (by omega)
 refine wpAny_mono (wi (pg:=PySem.Challenge.rw_uf020006_09.row.prog) (n:=Mine.L09.depth) (m:=12) (bd:=(sv jY 999).tail) Ea (fun f F e=>A6 e) G.T G.TE (zm G.T) yf yP rfl rfl rfl rfl rfl (by decide+kernel) rfl rfl rfl A1 ⟨by decide,by decide,rfl⟩ hmg hL hI (by omega) hc) (fun v s' q=>?_) fun _ _ q=>q.elim
 obtain ⟨rfl,h',tk,rfl,hk⟩:=q
 exact wH rf (by first |rfl |wrow_post) (.of_eq hg) hk
