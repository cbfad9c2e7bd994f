import PyProof.Rows.All
import Wide.All
import OpenK.AllK
import PySem.Challenge.RW_uf020006_10
set_option Elab.async false
set_option linter.all false
set_option autoImplicit false
set_option genInjectivity false
set_option genSizeOf false
open PySem.Str (ofString)
namespace Mine
noncomputable section
open PySem PySem.W PyProof.Rows
noncomputable def iT (tb:String→Option Builtin)(p:Program)(w:World)(n₀:Nat)(ann:Option Value):Nat→SharedT→Thread→Option SharedT
 | 0,_,_=>none
 |n+1,s,t=>match through t with
  |true=>some s
  |false=>match stepOk n₀ ann t with
   |false=>none
   |true=>match stepT (denote tb) p w s t with
    |some (s',t')=>iT tb p w n₀ ann n s' t'
    |none=>none
theorem nQ {tb:String→Option Builtin}{p:Program}{w:World}{n₀:Nat}{ann:Option Value}:∀{n:Nat} {s s':SharedT} {t:Thread},iT tb p w n₀ ann n s t=some s'→topRun tb p w n₀ ann n s.abs t=some s'.abs
 | 0,_,_,_,h=>by cases h
 |n+1,s,s',t,h=>by
  unfold iT at h
  unfold topRun
  cases he:through t with
  |true=>rw [he] at h;cases h;rfl
  |false=>
   rw [he] at h
   cases hk:stepOk n₀ ann t with
   |false=>rw [hk] at h;cases h
   |true=>
    rw [hk] at h
    cases hs:stepT (denote tb) p w s t with
    |none=>rw [hs] at h;cases h
    |some r=>obtain ⟨s₂,t₂⟩:=r;rw [hs] at h;rw [stepT_spec hs];exact nQ h
noncomputable def Go {α:Type}:List α→List α
 | []=>[]
 |a::r=>match r with
  | []=>[a]
  |_::r=>a::Go r
noncomputable def rV:Nat→List Obj→BT
 | 0,_=>.nil
 |n+1,l=>match l with
  | []=>.nil
  |a::r=>.node a (rV n (Go r)) (rV n (Go r.tail))
noncomputable def jn (P:Params):BT:=rV 14 (boot_heap P).objs.toList
theorem zv {p q:Program}{loose:List Str}{Xt:Shared→Bool}{α:Type}{Yf:Shared→α}{Ya:World→α}{N:Nat}{g0:Bool}{m₀:Nat}{ann:Option Value}{life:Life}
  (e:opening p=plainProg p.main.scope.names)(hN:Nat.ble 600 N=true)(f:∀s,fenceModules? p s=some s)
  (h0:∀P,absHeap (jn P) m₀ life=boot_heap P)
  (size:∀P,((boot_heap P).isNs mainGlobals,(boot_heap P).objs.size,(boot_heap P).nsMap mainGlobals "__annotations__")=(true,m₀,ann))
  (run:∀(w:World) (os:OsState),(iT treeTable p w m₀ ann N ⟨jn w.params,m₀,life,Array.mk [],boot_drawn,boot_toks,os⟩ (topStub p)).map (fun s=>
   (staticsOk (importedModules p.main.body) (boot_heap w.params) s.abs.heap&&namesBound p s.abs.heap&&gensDone s.abs&&laidKept (boot_heap w.params) s.abs.heap,openSeen q loose (importedModules p.main.body) Xt g0 s.abs,Yf s.abs))=some (true,openGood q loose,Ya w)):LeftO p q loose Xt Yf Ya N g0:=fun w=>by
 obtain ⟨⟨h,gs,d,k,os⟩,e1,e2⟩:=Option.map_eq_some_iff.mp (boot_open e hN f w)
 obtain ⟨rfl,rfl,rfl,rfl⟩:h=boot_heap w.params∧gs=Array.mk []∧d=boot_drawn∧k=boot_toks:=by simpa using e2
 obtain ⟨s,e3,e4⟩:=Option.map_eq_some_iff.mp (run w os)
 obtain ⟨l1,l2⟩:=Prod.mk.inj e4
 obtain ⟨z1,z2,z3⟩:_∧_∧_:=by simpa only [Prod.mk.injEq] using size w.params
 have r:=nQ e3
 rw [SharedT.abs,h0 w.params] at r
 have t:topFrom treeTable p w N ⟨boot_heap w.params,Array.mk [],boot_drawn,boot_toks,os⟩=some s.abs:=by
  unfold topFrom
  dsimp only
  rw [z1,z2,z3,r]
  show (match staticsOk (importedModules p.main.body) (boot_heap w.params) s.abs.heap&&namesBound p s.abs.heap&&gensDone s.abs&&laidKept (boot_heap w.params) s.abs.heap with |true=>_ |false=>_)=_
  rw [l1]
 unfold openEnds
 rw [e1]
 show Option.map _ (topFrom treeTable p w N _)=_
 rw [t]
 exact congrArg some l2
end
end Mine
section
namespace Mine.L10
end Mine.L10
open PySem PySem.W PyProof.Rows Mine Mine.L10
set_option maxRecDepth 100000
set_option maxHeartbeats 8000000
namespace Mine.L10
noncomputable section
noncomputable def q:Program:=PySem.W.view PySem.Challenge.pw_uf020006_10 [1,2,3,4,6,7,8,9,10,11,12,13,14,15,16,17,19,20,21,22,24,25,26,27,28,29,30,32,34,35,36,37,38,39,40,41,42,43,45,46,47,48,50,51,52,53,54,55,56,57,58,59,60,61,62,63,64,65,66,67]
noncomputable def Xt (s:Shared):Bool:=xlAt q [] s&&recOk [] s
theorem l1:opening PySem.Challenge.pw_uf020006_10=plainProg PySem.Challenge.pw_uf020006_10.main.scope.names:=by kernel_rfl
theorem l2 (s:Shared):fenceModules? PySem.Challenge.pw_uf020006_10 s=some s:=by kernel_rfl
theorem l3 (P:Params):absHeap (jn P) 11 {}=boot_heap P:=by kernel_rfl
theorem l4 (P:Params):((boot_heap P).isNs mainGlobals,(boot_heap P).objs.size,(boot_heap P).nsMap mainGlobals "__annotations__")=(true,11,some (.ref 6)):=by kernel_rfl
theorem l5 (w:World)(os:OsState):(iT treeTable PySem.Challenge.pw_uf020006_10 w 11 (some (.ref 6)) 4000 ⟨jn w.params,11,{},Array.mk [],boot_drawn,boot_toks,os⟩ (topStub PySem.Challenge.pw_uf020006_10)).map (fun s=>
   (staticsOk (importedModules PySem.Challenge.pw_uf020006_10.main.body) (boot_heap w.params) s.abs.heap&&namesBound PySem.Challenge.pw_uf020006_10 s.abs.heap&&gensDone s.abs&&laidKept (boot_heap w.params) s.abs.heap,openSeen q [] (importedModules PySem.Challenge.pw_uf020006_10.main.body) Xt true s.abs,Hook.obs Hook.none s.abs))=some (true,openGood q [],Hook.val Hook.none w):=by kernel_rfl
theorem left:LeftO PySem.Challenge.pw_uf020006_10 q [] Xt (Hook.obs Hook.none) (Hook.val Hook.none) 4000:=zv l1 rfl l2 l3 l4 l5
end
end Mine.L10
end
section
set_option genInjectivity true
namespace Mine
noncomputable section
open PySem PySem.W
inductive Ky where
 |int (i:Int)
 |str (x:Str)
 |tup (ks:List Ky)
noncomputable instance:DecidableEq Ky:=fun a b=>Classical.propDecidable (a=b)
noncomputable def t9 (b:Bool):Int:=if b then 1 else 0
inductive Kx where
 |int (i:Int)
 |bool (b:Bool)
 |str (x:Str)
 |tup (ks:List Kx)
mutual
noncomputable def Ky.hash (w:World):Ky→Int
 |.int i=>hashInt i
 |.str x=>hashStr w x
 |.tup ks=>reduceHash (Builtin.Tuple.tupleHashOf (Ky.hashes w ks))
termination_by structural k=>k
noncomputable def Ky.hashes (w:World):List Ky→List Int
 | []=>[]
 |k::r=>k.hash w::Ky.hashes w r
termination_by structural k=>k
end
mutual
noncomputable def Ky.draws:Ky→Nat
 |.int _=>1
 |.str _=>1
 |.tup ks=>Ky.drawsL ks+1
termination_by structural k=>k
noncomputable def Ky.drawsL:List Ky→Nat
 | []=>0
 |k::r=>k.draws+Ky.drawsL r
termination_by structural k=>k
end
mutual
noncomputable def Kx.norm:Kx→Ky
 |.int i=>.int i
 |.bool b=>.int (t9 b)
 |.str x=>.str x
 |.tup ks=>.tup (Kx.norms ks)
termination_by structural k=>k
noncomputable def Kx.norms:List Kx→List Ky
 | []=>[]
 |k::r=>k.norm::Kx.norms r
termination_by structural k=>k
end
mutual
noncomputable def Kx.dat:Kx→PyData
 |.int i=>.int i
 |.bool b=>.bool b
 |.str x=>.str x
 |.tup ks=>.tuple (Kx.dats ks)
termination_by structural k=>k
noncomputable def Kx.dats:List Kx→List PyData
 | []=>[]
 |k::r=>k.dat::Kx.dats r
termination_by structural k=>k
end
mutual
noncomputable def c9 (h:Heap):Kx→Nat→Value→Prop
 |.int i,_,v=>∃t,v=.int i t
 |.bool b,_,v=>v=.bool b
 |.str x,_,v=>PyData.strOk x=true∧∃t,v=.str x t
 |.tup ks,n,v=>∃a vs k m,v=.ref a∧n=m+1∧h.get? a=some ⟨.type "tuple",none,.seq vs k,#[]⟩∧eV h ks m vs.toList
termination_by structural k=>k
noncomputable def eV (h:Heap):List Kx→Nat→List Value→Prop
 | [],_,vs=>vs=[]
 |k::ks,n,vs=>∃v vs',vs=v::vs'∧c9 h k n v∧eV h ks n vs'
termination_by structural k=>k
end
section
variable {h h':Heap}
theorem c9.keeps (hk:∀a vs k,h.get? a=some ⟨.type "tuple",none,.seq vs k,#[]⟩→h'.get? a=some ⟨.type "tuple",none,.seq vs k,#[]⟩)(x:Kx):∀n v,c9 h x n v→c9 h' x n v:=
 Kx.rec (motive_1:=fun x=>∀n v,c9 h x n v→c9 h' x n v) (motive_2:=fun x=>∀n v,eV h x n v→eV h' x n v)
  (fun _ _ _ q=>q) (fun _ _ _ q=>q) (fun _ _ _ q=>q) (fun _ ih _ _ ⟨a,vs,k,m,e,e',g,r⟩=>⟨a,vs,k,m,e,e',hk a vs k g,ih m _ r⟩) (fun _ _ q=>q) (fun _ _ i1 i2 n _ ⟨v,vs,e,r,r'⟩=>⟨v,vs,e,i1 n v r,i2 n vs r'⟩) x
theorem c9.inj (x:Kx):∀y n m v,c9 h x n v→c9 h y m v→x=y:=
 Kx.rec (motive_1:=fun x=>∀y n m v,c9 h x n v→c9 h y m v→x=y) (motive_2:=fun x=>∀y n m v,eV h x n v→eV h y m v→x=y)
  (fun i y n m v ⟨t,e⟩ q=>by subst e;cases y with
   |int j=>obtain ⟨_,e⟩:=q;cases e;rfl
   |bool=>cases q
   |str=>obtain ⟨_,_,e⟩:=q;cases e
   |tup=>obtain ⟨_,_,_,_,e,_⟩:=q;cases e)
  (fun b y n m v e q=>by rw [show v=_ from e] at q;cases y with
   |int j=>obtain ⟨_,e⟩:=q;cases e
   |bool=>cases q;rfl
   |str=>obtain ⟨_,_,e⟩:=q;cases e
   |tup=>obtain ⟨_,_,_,_,e,_⟩:=q;cases e)
  (fun s y n m v ⟨_,t,e⟩ q=>by subst e;cases y with
   |int j=>obtain ⟨_,e⟩:=q;cases e
   |bool=>cases q
   |str=>obtain ⟨_,_,e⟩:=q;cases e;rfl
   |tup=>obtain ⟨_,_,_,_,e,_⟩:=q;cases e)
  (fun ks ih y n m v ⟨a,vs,k,j,e,_,g,r⟩ q=>by subst e;cases y with
   |int j=>obtain ⟨_,e⟩:=q;cases e
   |bool=>cases q
   |str=>obtain ⟨_,_,e⟩:=q;cases e
   |tup=>obtain ⟨_,_,_,j',e,_,g',r'⟩:=q;cases e;rw [g] at g';cases g';rw [ih _ j j' _ r r'])
  (fun y n m v e q=>by rw [show v=_ from e] at q;cases y with
   |nil=>rfl
   |cons=>obtain ⟨_,_,e,_⟩:=q;cases e)
  (fun x xs i1 i2 y n m v ⟨u,us,e,r,r'⟩ q=>by subst e;cases y with
   |nil=>cases q
   |cons=>obtain ⟨_,_,e,q,q'⟩:=q;cases e;rw [i1 _ n m _ r q,i2 _ n m _ r' q']) x
theorem c9.reads (x:Kx):∀n v,c9 h x n v→(∃as,Reads h v x.dat as)∧x.dat.canLay0=true∧x.dat.depth≤n:=
 Kx.rec (motive_1:=fun x=>∀n v,c9 h x n v→(∃as,Reads h v x.dat as)∧x.dat.canLay0=true∧x.dat.depth≤n) (motive_2:=fun x=>∀n v,eV h x n v→(∃as,ReadsAll h v (Kx.dats x) as)∧PyData.canLayAll0 (Kx.dats x)=true∧PyData.depthAll (Kx.dats x)≤n)
  (fun i _ _ ⟨t,e⟩=>e▸⟨⟨_,.int i t⟩,rfl,Nat.zero_le _⟩) (fun b _ v e=>(show v=_ from e)▸⟨⟨_,.bool b⟩,rfl,Nat.zero_le _⟩) (fun x _ _ ⟨g,t,e⟩=>e▸⟨⟨_,.str _ t⟩,g,Nat.zero_le _⟩)
  (fun _ ih _ _ ⟨a,vs,k,m,e,e',g,r⟩=>let ⟨⟨as,q⟩,c,l⟩:=ih m _ r;e▸e'▸⟨⟨as,.tuple g rfl rfl q⟩,c,Nat.succ_le_succ l⟩)
  (fun _ v e=>(show v=_ from e)▸⟨⟨_,.nil⟩,rfl,Nat.zero_le _⟩)
  (fun _ _ i1 i2 n _ ⟨v,vs,e,r,r'⟩=>let ⟨⟨as,q⟩,c,l⟩:=i1 n v r;let ⟨⟨bs,q'⟩,c',l'⟩:=i2 n vs r';e▸⟨⟨_,.cons q q'⟩,Bool.and_eq_true_iff.mpr ⟨c,c'⟩,Nat.max_le.mpr ⟨l,l'⟩⟩) x
theorem tV {α β:Type}{a b:α}{f:α→β} [DecidableEq α] [DecidableEq β] (hf:∀x y,f x=f y→x=y):decide (f a=f b)=decide (a=b):=by
 by_cases q:a=b
 ·rw [decide_eq_true q,decide_eq_true (congrArg f q)]
 ·rw [decide_eq_false q,decide_eq_false fun e=>q (hf _ _ e)]
theorem k9 {α:Type} [BEq α] [LawfulBEq α] [DecidableEq α] (a b:α):(a==b)=decide (a=b):=by
 by_cases q:a=b
 ·rw [decide_eq_true q,beq_iff_eq.mpr q]
 ·rw [decide_eq_false q,beq_eq_false_iff_ne.mpr q]
theorem sy (i j:Int):decide (Ky.int i=Ky.int j)=decide (i=j):=tV fun _ _ e=>Ky.int.inj e
theorem Kx.eqv (x:Kx):∀y:Kx,PyData.eqv x.dat y.dat=decide (x.norm=y.norm):=
 have no:∀{a b:Ky},a≠b→false=decide (a=b):=fun h=>(decide_eq_false h).symm
 Kx.rec (motive_1:=fun x=>∀y:Kx,PyData.eqv x.dat y.dat=decide (x.norm=y.norm)) (motive_2:=fun x=>∀y:List Kx,PyData.eqvAll (Kx.dats x) (Kx.dats y)=decide (Ky.tup (Kx.norms x)=Ky.tup (Kx.norms y)))
  (fun i y=>match y with
   |.int j=>(k9 i j).trans (sy i j).symm
   |.bool b=>(k9 i (t9 b)).trans (sy i _).symm
   |.str _=>no nofun
   |.tup _=>no nofun)
  (fun b y=>match y with
   |.int j=>(k9 (t9 b) j).trans (sy _ j).symm
   |.bool c=>by cases b<;>cases c<;>first |exact (decide_eq_true rfl).symm |exact no fun e=>absurd (Ky.int.inj e) (by decide)
   |.str _=>no nofun
   |.tup _=>no nofun)
  (fun s y=>match y with
   |.int _=>no nofun
   |.bool _=>no nofun
   |.str t=>(k9 s t).trans (tV fun _ _ e=>Ky.str.inj e).symm
   |.tup _=>no nofun)
  (fun ks ih y=>match y with
   |.int _=>no nofun
   |.bool _=>no nofun
   |.str _=>no nofun
   |.tup ls=>ih ls)
  (fun y=>match y with
   | []=>(decide_eq_true rfl).symm
   |_::_=>no nofun)
  (fun x xs i1 i2 y=>match y with
   | []=>no nofun
   |z::zs=>by
    show (PyData.eqv x.dat z.dat&&PyData.eqvAll (Kx.dats xs) (Kx.dats zs))=decide (Ky.tup (x.norm::Kx.norms xs)=Ky.tup (z.norm::Kx.norms zs))
    rw [i1 z,i2 zs]
    by_cases h:x.norm=z.norm
    ·rw [decide_eq_true h,h,Bool.true_and]
     exact decide_eq_decide.mpr ⟨fun e=>by rw [Ky.tup.inj e],fun e=>by rw [(List.cons.inj (Ky.tup.inj e)).2]⟩
    ·rw [decide_eq_false h,Bool.false_and]
     exact no fun e=>h (List.cons.inj (Ky.tup.inj e)).1) x
end
section
variable {prog:Program} {w:World} {E:Value→Shared→Prop}
theorem c9.pyHash (x:Kx):∀(n:Nat) (v:Value) (A:Around) (s:Shared) (Q:Int→Shared→Prop),c9 s.heap x n v→A.units+n < cLine→Q (x.norm.hash w) {s with toks:=s.toks+x.norm.draws}→wpAny (model prog w) A (PySem.pyHash v) Q E s:=
 Kx.rec (motive_1:=fun x=>∀(n:Nat) (v:Value) (A:Around) (s:Shared) (Q:Int→Shared→Prop),c9 s.heap x n v→A.units+n < cLine→Q (x.norm.hash w) {s with toks:=s.toks+x.norm.draws}→wpAny (model prog w) A (PySem.pyHash v) Q E s)
  (motive_2:=fun x=>∀(n:Nat) (vs:List Value) (A:Around) (s:Shared) (b:Array Int) (Q:Array Int→Shared→Prop),eV s.heap x n vs→A.units+n < cLine→(∀b':Array Int,b'.toList=b.toList++Ky.hashes w (Kx.norms x)→Q b' {s with toks:=s.toks+Ky.drawsL (Kx.norms x)})→
   wpAny (model prog w) A (forIn vs b fun x r=>do let h ←PySem.pyHash x;pure PUnit.unit;pure (ForInStep.yield (r.push h))) Q E s)
  (fun i n v A s Q ⟨t,e⟩ _ h=>e▸wpAny_pyHash_int h)
  (fun b n v A s Q e hu h=>by
   rw [show v=_ from e]
   refine pyHash_slot (T:="bool") rfl F.slot_bool_hash entry_int_hash (args_int_hash _) (beq_builtin_none _) (.inl rfl) ?_
   cases b
   ·exact (show wpAny _ _ (do ret (←mkInt 0)) _ _ s from wpAny_bind (wpAny_mkInt (wpAny_pure ⟨_,_,rfl,h⟩)))
   ·exact (show wpAny _ _ (do ret (←mkInt 1)) _ _ s from wpAny_bind (wpAny_mkInt (wpAny_pure ⟨_,_,rfl,h⟩))))
  (fun x n v A s Q ⟨_,t,e⟩ _ h=>e▸wpAny_pyHash_str h)
  (fun ks ih n v A s Q ⟨a,vs,k,m,e,e',hg,r⟩ hu h=>by
   subst e e'
   refine pyHash_slot (T:="tuple") ⟨_,hg,rfl⟩ F.slot_tuple_hash F.entry_tuple_hash (F.args_tuple_hash_1 _) (beq_builtin_none _) (.inr (Nat.lt_of_le_of_lt (Nat.le_add_right _ _) hu)) ?_
   show wpAny _ _ (Builtin.Tuple.tupleItemsOf (.ref a) >>=_) _ _ s
   refine wpAny_bind (wpAny_tupleItemsOf hg rfl ?_)
   refine wpAny_bind ?_
   rw [←Array.forIn_toList]
   refine ih m _ _ _ _ _ r (by simp only [Around.in1_units];lia -abstractProof) fun b hb=>?_
   show wpAny _ _ (retInt (Builtin.Tuple.tupleHashOf b.toList)) _ _ _
   rw [hb]
   exact wpAny_bind (wpAny_mkInt (wpAny_pure ⟨_,_,rfl,h⟩)))
  (fun n vs A s b Q e _ h=>by rw [show vs=_ from e];exact wpAny_pure (h b (by rw [Kx.norms,Ky.hashes,List.append_nil])))
  (fun x xs i1 i2 n vs A s b Q ⟨v,vs',e,r,r'⟩ hu h=>by
   rw [e,List.forIn_cons]
   refine wpAny_bind (wpAny_bind (i1 n _ _ _ _ r hu ?_))
   refine wpAny_bind (wpAny_pure (wpAny_pure ?_))
   refine i2 n _ _ _ _ _ r' hu fun b' hb=>?_
   have:=h b' (by rw [hb,Kx.norms,Ky.hashes,Array.toList_push,List.append_assoc];rfl)
   rw [Kx.norms,Ky.drawsL,←Nat.add_assoc] at this
   exact this) x
theorem c9.quiet (x:Kx):∀(n:Nat) (v:Value) (m:Nat) (A:Around) (s:Shared) (Q:Bool→Shared→Prop),c9 s.heap x n v→n≤m→Q true s→wpAny (model prog w) A (eqIsQuiet m v) Q E s:=
 Kx.rec (motive_1:=fun x=>∀(n:Nat) (v:Value) (m:Nat) (A:Around) (s:Shared) (Q:Bool→Shared→Prop),c9 s.heap x n v→n≤m→Q true s→wpAny (model prog w) A (eqIsQuiet m v) Q E s)
  (motive_2:=fun x=>∀(n:Nat) (vs:List Value) (m:Nat) (A:Around) (s:Shared) (Q:Option Bool×PUnit→Shared→Prop),eV s.heap x n vs→n≤m→Q (none,⟨⟩) s→
   wpAny (model prog w) A (forIn vs ((none:Option Bool),PUnit.unit) fun y r=>do
    let c ←eqIsQuiet m y
    if (!c)=true then pure (ForInStep.done (some false,PUnit.unit)) else pure (ForInStep.yield (none,PUnit.unit))) Q E s)
  (fun i n v m A s Q ⟨t,e⟩ _ h=>by rw [e,eqIsQuiet_byValue m rfl];exact wpAny_pure h)
  (fun b n v m A s Q e _ h=>by rw [show v=_ from e,eqIsQuiet_byValue m rfl];exact wpAny_pure h)
  (fun x n v m A s Q ⟨_,t,e⟩ _ h=>by rw [e,eqIsQuiet_byValue m rfl];exact wpAny_pure h)
  (fun ks ih n v m A s Q ⟨a,vs,k,j,e,e',hg,r⟩ hu h=>by
   subst e e'
   cases m with
   |zero=>exact absurd hu (Nat.not_succ_le_zero _)
   |succ m=>
    have hT:s.TypeIs (.ref a) "tuple":=⟨_,hg,rfl⟩
    unfold eqIsQuiet
    refine wpAny_bind (wpAny_specialOf hT F.slot_tuple_eq.lookup ?_)
    show wpAny _ _ (isInstance (.ref a) (.type "tuple") >>=_) _ _ s
    refine wpAny_bind (wpAny_isInstance hT isSubtype_tuple_tuple ?_)
    simp only [Bool.not_true,Bool.false_eq_true,if_false]
    refine wpAny_bind (wpAny_seqItems hg rfl ?_)
    refine wpAny_bind ?_
    show wpAny _ _ (forIn vs _ _) _ _ s
    rw [←Array.forIn_toList]
    exact ih j _ m _ _ _ r (Nat.le_of_succ_le_succ hu) (wpAny_pure h))
  (fun n vs m A s Q e _ h=>by rw [show vs=_ from e];exact wpAny_pure h)
  (fun x xs i1 i2 n vs m A s Q ⟨v,vs',e,r,r'⟩ hu h=>by
   rw [e,List.forIn_cons]
   refine wpAny_bind (wpAny_bind (i1 n _ m _ _ _ r hu ?_))
   exact wpAny_pure (i2 n _ m _ _ _ r' hu h)) x
end
noncomputable def Au (h:Heap)(n:Nat)(k:Ky)(v:Value):Prop:=∃x:Kx,x.norm=k∧c9 h x n v
noncomputable def CB (h:Heap)(n:Nat)(k:List Ky)(v:List Value):Prop:=∃x:List Kx,Kx.norms x=k∧eV h x n v
noncomputable def bJ (prog:Program)(w:World):HeapKind prog w Ky where
 is:=fun h k a=>Au h 6 k (.ref a)
 hash:=Ky.hash w
 draws:=Ky.draws
 room:=fun A=>A.units+6 < cLine
 inj:=fun hx hy=>let ⟨x,e,q⟩:=hx;let ⟨y,e',q'⟩:=hy;by rw [←e,←e',c9.inj x y 6 6 _ q q']
 keeps:=fun {h h' k a d o es ep} hx ho hd hs=>let ⟨x,e,q⟩:=hx;⟨x,e,c9.keeps (fun b vs j e=>(hs.2 b fun q=>by rw [q,ho] at e;cases e;cases hd).trans e) x 6 _ q⟩
 pyHash:=fun hu hk h=>by obtain ⟨x,rfl,q⟩:=hk;exact c9.pyHash x 6 _ _ _ _ q hu h
 eqBool:=fun {A E s x y a b Q} hu hx hy h=>by
  obtain ⟨x,rfl,q1⟩:=hx
  obtain ⟨y,rfl,q2⟩:=hy
  by_cases q:a=b
  ·subst q
   rw [c9.inj x y 6 6 _ q1 q2,decide_eq_true rfl] at h
   exact SeqAt.EqAt.same (.ref a) prog w E Q h
  ·obtain ⟨⟨as,r1⟩,c1,l1⟩:=c9.reads x 6 _ q1
   obtain ⟨⟨bs,r2⟩,c2,l2⟩:=c9.reads y 6 _ q2
   rw [←x.eqv y] at h
   exact SeqAt.EqAt.of_refs q (SeqAt.rcAt_reads r1 r2 c1 c2 (Nat.lt_of_le_of_lt (Nat.add_le_add_left (Nat.le_trans (Nat.min_le_left _ _) l1) _) hu)) prog w E Q h
 quiet:=fun hk h=>by obtain ⟨x,rfl,q⟩:=hk;exact c9.quiet x 6 _ _ _ _ _ q (by decide) h
end
end Mine
end
section
set_option backward.eqns.nonrecursive false
namespace Mine
noncomputable section
open PySem PyProof.Rows
noncomputable def lim:Nat:=1000000
noncomputable def cQ:Nat:=50
noncomputable def cut {α:Type}(lo hi:Option Int)(xs:List α):List α:=
 (xs.drop (lo.elim 0 (clipAt xs.length))).take (hi.elim xs.length (clipAt xs.length) - lo.elim 0 (clipAt xs.length))
theorem mJ (n k:Nat):clipAt n (k:Int)=min k n:=by
 unfold clipAt
 rw [if_neg (Int.not_lt.mpr (Int.natCast_nonneg k))]
 rcases Nat.le_total k n with h |h
 ·rw [Nat.min_eq_left h,Int.min_eq_left (Int.ofNat_le.mpr h),Int.max_eq_right (Int.natCast_nonneg k)];rfl
 ·rw [Nat.min_eq_right h,Int.min_eq_right (Int.ofNat_le.mpr h),Int.max_eq_right (Int.natCast_nonneg n)];rfl
theorem t5 (n:Nat):clipAt n (-1)=n - 1:=by
 unfold clipAt
 rw [if_pos (by decide)]
 cases n with
 |zero=>rfl
 |succ n=>
  rw [show (-1:Int)+((n+1:Nat):Int)=n from (Int.add_comm _ _).trans (Int.add_sub_cancel (n:Int) 1),Int.min_eq_left (Int.ofNat_le.mpr (Nat.le_succ n)),Int.max_eq_right (Int.natCast_nonneg n)];rfl
noncomputable def fb (lo hi:Option Int)(x:Str):Str:=⟨(cut lo hi x.cps.toList).toArray⟩
inductive T where
 |none
 |bool (b:Bool)
 |int (i:Int)
 |str (s:Str)
 |tup (ts:List T)
 |lst (ts:List T)
 |dct (ks vs:List T)
 |obj (c:Nat) (fs:List T)
 |scr (ns:List Int)
 |spot
 |self
 deriving Inhabited
structure Sg where
 spot:Int
 self:Option (Nat×List T)
@[reducible] noncomputable def S1:Type:=Sg
@[reducible] noncomputable def S2:Type:=S1
@[reducible] noncomputable def S3:Type:=S2
@[reducible] noncomputable def S4:Type:=S3
@[reducible] noncomputable def S5:Type:=S4
@[reducible] noncomputable def B1:Type:=Bool
@[reducible] noncomputable def B2:Type:=B1
@[reducible] noncomputable def B3:Type:=B2
@[reducible] noncomputable def B4:Type:=B3
@[reducible] noncomputable def B5:Type:=B4
noncomputable abbrev aH:=List (Option T)
inductive cc where
 |ret (t:T) (σ:Sg)
 |fall (ρ:aH) (σ:Sg)
 |exc (c:Nat) (σ:Sg)
 |bad
@[reducible] noncomputable def gd (b:B5)(o:cc):cc:=Bool.rec (motive:=fun _=>cc) .bad o b
structure dw where
 call:Nat→List T→Sg→cc
noncomputable abbrev PK (α:Type):=α→Sg→cc
noncomputable abbrev PG (α:Type):=dw→aH→Sg→PK α→cc
noncomputable abbrev PE:=PG T
noncomputable abbrev PT:=PG Bool
noncomputable abbrev PL:=PG (List T)
noncomputable abbrev PO:=PG (Option Int)
noncomputable abbrev PS:=PG aH
noncomputable def bC:aH→Nat→Option T
 | [],_=>none
 |x::_,0=>x
 |_::r,n+1=>bC r n
noncomputable def up {α:Type}(o:Option α)(σ:S3)(k:PK α):cc:=match o with
 |some a=>k a σ
 |none=>.bad
@[irreducible] noncomputable def nH (o:cc)(k:PK T):cc:=match o with
 |.ret t σ=>k t σ
 |_=>.bad
theorem AH {t:T}{σ:Sg}{k:PK T}:nH (.ret t σ) k=k t σ:=by with_unfolding_all rfl
noncomputable def bS (n:Nat):Bool:=Nat.ble n lim
noncomputable def eS (f:T→Option PyData):List T→Option (List PyData)
 | []=>some []
 |x::r=>match f x with
  |none=>none
  |some d=>(eS f r).map (d::·)
noncomputable def cR:Nat→T→Option PyData
 |_,.none=>some .none
 |_,.bool b=>some (.bool b)
 |_,.int i=>some (.int i)
 |_,.str s=>some (.str s)
 |n+1,.tup xs=>(eS (cR n) xs).map .tuple
 |n+1,.lst xs=>(eS (cR n) xs).map .list
 |_,_=>none
@[reducible] noncomputable def pV (i:Nat):PE:=fun _ ρ σ k=>up (bC ρ i) σ k
@[reducible] noncomputable def pC (t:T):PE:=fun _ _ (σ:S5) k=>k t σ
@[reducible] noncomputable def p1 {α β:Type}(f:α→Option β)(e:PG α):PG β:=fun c ρ σ k=>e c ρ σ fun a σ=>up (f a) σ k
@[reducible] noncomputable def p2 {α β γ:Type}(f:α→β→Option γ)(l:PG α)(r:PG β):PG γ:=fun c ρ σ k=>l c ρ σ fun a σ=>r c ρ σ fun b σ=>up (f a b) σ k
@[reducible] noncomputable def p3 {α β γ δ:Type}(f:α→β→γ→Option δ)(l:PG α)(m:PG β)(r:PG γ):PG δ:=fun c ρ σ k=>l c ρ σ fun a σ=>m c ρ σ fun b σ=>r c ρ σ fun x σ=>up (f a b x) σ k
@[reducible] noncomputable def pB (t:PT):PE:=fun c ρ (σ:S5) k=>t c ρ σ fun b σ=>k (.bool b) σ
@[reducible] noncomputable def ah:PL:=fun _ _ (σ:S5) k=>k [] σ
@[reducible] noncomputable def aa (e:PE)(r:PL):PL:=fun c ρ (σ:S5) k=>e c ρ σ fun v σ=>r c ρ σ fun vs σ=>k (v::vs) σ
@[reducible] noncomputable def az (r:PL):PE:=fun c ρ (σ:S5) k=>r c ρ σ fun vs σ=>bif bS vs.length then k (.tup vs) σ else .bad
@[reducible] noncomputable def aW (r:PL):PE:=fun c ρ (σ:S5) k=>r c ρ σ fun vs σ=>bif bS vs.length then k (.lst vs) σ else .bad
noncomputable def cN:T→Option Bool
 |.none=>some false
 |.bool b=>some b
 |.int i=>some (i !=0)
 |_=>none
@[reducible] noncomputable def qE (e:PE):PT:=p1 cN e
@[reducible] noncomputable def cB (t:PT):PT:=fun c ρ (σ:S5) k=>t c ρ σ fun b σ=>k (!b) σ
@[reducible] noncomputable def ib (t u:PT):PT:=fun c ρ (σ:S5) k=>t c ρ σ fun b σ=>bif b then u c ρ σ k else k false σ
@[reducible] noncomputable def eJ (t u:PT):PT:=fun c ρ (σ:S5) k=>t c ρ σ fun b σ=>bif b then k true σ else u c ρ σ k
@[reducible] noncomputable def av:PT:=fun _ _ (σ:S5) k=>k true σ
@[reducible] noncomputable def bL:PT:=fun _ _ (σ:S5) k=>k false σ
@[reducible] noncomputable def gF (e:PE):PE:=p1 (fun t=>(cN t).map fun b=>.bool (!b)) e
@[reducible] noncomputable def iD (d e:PE):PE:=fun c ρ (σ:S5) k=>d c ρ σ fun v σ=>match cN v with
 |some true=>e c ρ σ k
 |some false=>k v σ
 |none=>.bad
@[reducible] noncomputable def v9 (d e:PE):PE:=fun c ρ (σ:S5) k=>d c ρ σ fun v σ=>match cN v with
 |some true=>k v σ
 |some false=>e c ρ σ k
 |none=>.bad
@[reducible] noncomputable def yW (t:PT)(d e:PE):PE:=fun c ρ (σ:S5) k=>t c ρ σ fun b σ=>bif b then d c ρ σ k else e c ρ σ k
@[reducible] noncomputable def am (f:Nat)(args:PL):PE:=fun c ρ (σ:S5) k=>args c ρ σ fun vs σ=>nH (c.call f vs σ) k
noncomputable def EK:T→Option Bool
 |.bool b=>some b
 |_=>none
noncomputable def iN:T→Option Int
 |.int i=>some i
 |_=>none
noncomputable def rF:T→Option Str
 |.str s=>some s
 |_=>none
noncomputable def pP:T→Option (List T)
 |.tup xs=>some xs
 |_=>none
noncomputable def fZ:T→Option (List T)
 |.lst xs=>some xs
 |_=>none
noncomputable def CM:T→Option (List Int)
 |.scr ns=>some ns
 |_=>none
noncomputable def el {α:Type}(x:Option α)(y:Option α):Option α:=match x with
 |some a=>some a
 |none=>y
noncomputable def o2 {α β γ:Type}(x:Option α)(y:Option β)(f:α→β→Option γ):Option γ:=match x with
 |some a=>match y with
  |some b=>f a b
  |none=>none
 |none=>none
noncomputable def o1 {α β:Type}(x:Option α)(f:α→Option β):Option β:=match x with
 |some a=>f a
 |none=>none
noncomputable def bD (a b:T):Option Bool:=o2 (cR cQ a) (cR cQ b) fun d e=>some (PyData.eqv d e)
noncomputable def j8 (a b:T):Option Bool:=(bD a b).map (!·)
noncomputable def oj {α:Type}(n:Nat)(x:α):Option α:=bif bS n then some x else none
noncomputable def aC (a b:T):Option T:=match iN a with
 |some i=>o1 (iN b) fun j=>some (.int (i+j))
 |none=>match rF a with
  |some x=>o1 (rF b) fun y=>oj (x++y).length (.str (x++y))
  |none=>match pP a with
   |some x=>o1 (pP b) fun y=>oj (x++y).length (.tup (x++y))
   |none=>o2 (fZ a) (fZ b) fun x y=>oj (x++y).length (.lst (x++y))
noncomputable def zN (f:Int→Int→Option T)(a b:T):Option T:=o2 (iN a) (iN b) f
noncomputable def cA:T→T→Option T:=zN fun a b=>some (.int (a - b))
noncomputable def sm (i:Int):Bool:=Nat.ble i.natAbs 1000000000
@[irreducible] noncomputable def jK:T→T→Option T:=zN fun a b=>bif sm a||sm b then some (.int (a * b)) else none
@[irreducible] noncomputable def cb:T→T→Option T:=zN fun a b=>bif b==0||Nat.ble 1073741824 b.natAbs then none else some (.int (a.fdiv b))
@[irreducible] noncomputable def aV:T→T→Option T:=zN fun a b=>bif b==0 then none else some (.int (a.fmod b))
noncomputable def kG (a:T):Option T:=o1 (iN a) fun i=>some (.int (-i))
noncomputable def Ad (f:Int→Int→Bool)(a b:T):Option Bool:=o2 (iN a) (iN b) fun i j=>some (f i j)
noncomputable def tE:T→T→Option Bool:=Ad fun a b=>decide (a < b)
noncomputable def AO:T→T→Option Bool:=Ad fun a b=>decide (a≤b)
noncomputable def rQ:T→T→Option Bool:=Ad fun a b=>decide (a > b)
noncomputable def GL:T→T→Option Bool:=Ad fun a b=>decide (a ≥ b)
noncomputable def gj (a:T):Option (List T):=el (pP a) (fZ a)
noncomputable def my (xs:List T):Option (List PyData):=eS (cR cQ) xs
noncomputable def fT (a b:T):Option Bool:=o1 (gj b) fun xs=>o2 (cR cQ a) (my xs) fun d es=>some (es.any fun y=>PyData.eqv y d)
noncomputable def eY (a b:T):Option Bool:=(fT a b).map (!·)
noncomputable def yu (i:Int)(xs:List T):Option T:=bif sm i then o1 (seqIndex? i xs.length) fun j=>xs[j]? else none
noncomputable def ta (i:Int)(x:Str):Option T:=bif sm i then ((seqIndex? i x.length).bind (x.cps[·]?)).map fun c=>T.str ⟨#[c]⟩ else none
noncomputable def aj (a b:T):Option T:=o1 (iN b) fun i=>match gj a with
 |some xs=>yu i xs
 |none=>match CM a with
  |some ns=>yu i (ns.map T.int)
  |none=>o1 (rF a) (ta i)
@[irreducible] noncomputable def bi (a:T)(lo hi:Option Int):Option T:=match pP a with
 |some xs=>some (.tup (cut lo hi xs))
 |none=>match fZ a with
  |some xs=>some (.lst (cut lo hi xs))
  |none=>o1 (rF a) fun x=>some (.str (fb lo hi x))
noncomputable def aI (a:T):Option T:=match gj a with
 |some xs=>some (.int xs.length)
 |none=>match CM a with
  |some xs=>some (.int xs.length)
  |none=>o1 (rF a) fun x=>some (.int x.length)
noncomputable def eZ (a:T):Option T:=o1 (gj a) fun xs=>some (.lst xs)
noncomputable def Fa (a:T):Option T:=o1 (fZ a) fun xs=>some (.tup xs)
noncomputable def mc (a v:T):Option T:=o1 (fZ a) fun xs=>o2 (cR cQ v) (my xs) fun d es=>o1 (es.findIdx? fun y=>PyData.eqv y d) fun i=>some (.int i)
@[reducible] noncomputable def af:PS:=fun _ ρ (σ:S5) k=>k ρ σ
@[reducible] noncomputable def ae (a b:PS):PS:=fun c ρ (σ:S5) k=>a c ρ σ fun ρ σ=>b c ρ σ k
@[reducible] noncomputable def aw (i:Nat)(e:PE):PS:=fun c ρ (σ:S5) k=>e c ρ σ fun v σ=>k (ρ.set i (some v)) σ
@[reducible] noncomputable def bn (t:PT)(a b:PS):PS:=fun c ρ (σ:S5) k=>t c ρ σ fun q σ=>bif q then a c ρ σ k else b c ρ σ k
@[reducible] noncomputable def au (e:PE):PS:=fun c ρ (σ:S5) _=>e c ρ σ fun v σ=>.ret v σ
@[reducible] noncomputable def lg (e:PE):PS:=fun c ρ (σ:S5) k=>e c ρ σ fun _ σ=>k ρ σ
@[reducible] noncomputable def hU:PS:=fun _ _ _ _=>.bad
@[reducible] noncomputable def ES (x:Nat)(r:PL):PS:=fun c ρ σ _=>r c ρ σ fun vs σ=>bif bS vs.length then .exc x σ else .bad
noncomputable def dI:List Nat→List T→aH→Option aH
 | [],[],ρ=>some ρ
 |i::is,v::vs,ρ=>dI is vs (ρ.set i (some v))
 |_,_,_=>none
@[reducible] noncomputable def GS (is:List Nat)(e:PE):PS:=fun c ρ σ k=>e c ρ σ fun v σ=>match v with
 |.tup ts=>up (dI is ts ρ) σ k
 |_=>.bad
noncomputable abbrev PB:=T→aH→Option aH
@[reducible] noncomputable def aM (i:Nat):PB:=fun v ρ=>some (ρ.set i (some v))
@[reducible] noncomputable def vn (i j:Nat):PB:=fun v ρ=>match v with
 |.tup [a,b]=>some ((ρ.set i (some a)).set j (some b))
 |_=>none
noncomputable def cg (bd:PB)(body:PS)(c:dw):List T→aH→Sg→PK aH→cc
 | [],ρ,σ,k=>k ρ σ
 |v::r,ρ,σ,k=>match bd v ρ with
  |none=>.bad
  |some ρ'=>body c ρ' σ fun ρ σ=>cg bd body c r ρ σ k
theorem xn {bd:PB}{body:PS}{c:dw}{v:T}{r:List T}{ρ:aH}{σ:Sg}{k:PK aH}:cg bd body c (v::r) ρ σ k=(match bd v ρ with
  |none=>.bad
  |some ρ'=>body c ρ' σ fun ρ σ=>cg bd body c r ρ σ k):=rfl
@[reducible] noncomputable def b8 (it:PL)(bd:PB)(body:PS):PS:=fun c ρ (σ:S5) k=>it c ρ σ fun xs σ=>cg bd body c xs ρ σ k
@[irreducible] noncomputable def f7 (t:PT)(body:PS)(c:dw):Nat→aH→Sg→PK aH→cc
 | 0,_,_,_=>.bad
 |n+1,ρ,σ,k=>t c ρ σ fun b σ=>bif b then body c ρ σ fun ρ σ=>f7 t body c n ρ σ k else k ρ σ
theorem lh {t:PT}{body:PS}{c:dw}{n:Nat}{ρ:aH}{σ:Sg}{k:PK aH}:f7 t body c (n+1) ρ σ k=t c ρ σ fun b σ=>bif b then body c ρ σ fun ρ σ=>f7 t body c n ρ σ k else k ρ σ:=by with_unfolding_all rfl
theorem vr {t:PT}{body:PS}{c:dw}{ρ:aH}{σ:Sg}{k:PK aH}:f7 t body c 0 ρ σ k=.bad:=by with_unfolding_all rfl
@[reducible] noncomputable def fj (n:Nat)(t:PT)(body:PS):PS:=fun c ρ (σ:S5) k=>f7 t body c n ρ σ k
@[irreducible] noncomputable def aX (bd:PB)(cond:PT)(elt:PE)(c:dw)(ρ:aH):List T→Sg→List T→PK (List T)→cc
 | [],σ,acc,k=>k acc σ
 |v::r,σ,acc,k=>match bd v ρ with
  |none=>.bad
  |some ρ'=>cond c ρ' σ fun b σ=>bif b then elt c ρ' σ fun x σ=>aX bd cond elt c ρ r σ (acc++[x]) k else aX bd cond elt c ρ r σ acc k
theorem tY {bd:PB}{cond:PT}{elt:PE}{c:dw}{ρ:aH}{σ:Sg}{acc:List T}{k:PK (List T)}:aX bd cond elt c ρ [] σ acc k=k acc σ:=by with_unfolding_all rfl
theorem tZ {bd:PB}{cond:PT}{elt:PE}{c:dw}{ρ:aH}{v:T}{r:List T}{σ:Sg}{acc:List T}{k:PK (List T)}:aX bd cond elt c ρ (v::r) σ acc k=(match bd v ρ with
  |none=>.bad
  |some ρ'=>cond c ρ' σ fun b σ=>bif b then elt c ρ' σ fun x σ=>aX bd cond elt c ρ r σ (acc++[x]) k else aX bd cond elt c ρ r σ acc k):=by with_unfolding_all rfl
@[reducible] noncomputable def ax (it:PL)(bd:PB)(cond:PT)(elt:PE):PE:=fun c ρ (σ:S5) k=>it c ρ σ fun xs σ=>aX bd cond elt c ρ xs σ [] fun ys σ=>k (.lst ys) σ
@[reducible] noncomputable def aL (e:PE):PL:=p1 gj e
noncomputable def cn (a b c:Int):List T:=(List.range (Builtin.Range.rangeSize a b c).toNat).map fun k=>T.int (a+(k:Nat) * c)
noncomputable def rg (a n:Int):Option (List T):=bif (sm a&&sm n)&&bS (cn a n 1).length then some (cn a n 1) else none
@[irreducible] noncomputable def r5:List T→Option (List T)
 | []=>none
 |m::r=>match r with
  | []=>o1 (iN m) (rg 0)
  |n::r=>match r with
   | []=>o2 (iN m) (iN n) rg
   |_::_=>none
@[reducible] noncomputable def bG (r:PL):PL:=p1 r5 r
noncomputable def kj:Nat→List T→List T
 |_,[]=>[]
 |n,x::r=>.tup [.int n,x]::kj (n+1) r
noncomputable def Ha (t:T):Option (List T):=o1 (fZ t) fun xs=>some (kj 0 xs)
@[reducible] noncomputable def kb (e:PE):PL:=p1 Ha e
noncomputable def df (x v:T):Option T:=o1 (fZ x) fun xs=>oj (xs.length+1) (.lst (xs++[v]))
noncomputable def ii (x v:T):Option T:=o2 (fZ x) (fZ v) fun xs ys=>oj (xs.length+ys.length) (.lst (xs++ys))
noncomputable def rP (f:Nat):Bool:=Nat.ble 1000 f
noncomputable def kM (f:Nat):Bool:=Nat.ble 500 f&&Nat.ble f 599
structure fY where
 np:Nat
 ns:Nat
 body:PS
noncomputable def frame (ts:List T)(n:Nat):aH:=ts.map some++List.replicate n none
noncomputable def ai (Φ:Nat→Option fY):Nat→Nat→List T→Sg→cc
 | 0,_,_,_=>.bad
 |n+1,f,args,σ=>match Φ f with
  |none=>.bad
  |some F=>bif Nat.beq args.length F.np then
    match F.body ⟨ai Φ n⟩ (frame args F.ns) σ fun _ σ=>bif kM f then .bad else .ret .none σ with
    |.ret t σ=>.ret t σ
    |.exc c σ=>.exc c σ
    |_=>.bad
   else .bad
theorem t7 {Φ:Nat→Option fY}{n f:Nat}{args:List T}{σ:Sg}:ai Φ (n+1) f args σ=(match Φ f with
  |none=>.bad
  |some F=>bif Nat.beq args.length F.np then
    match F.body ⟨ai Φ n⟩ (frame args F.ns) σ fun _ σ=>bif kM f then .bad else .ret .none σ with
    |.ret t σ=>.ret t σ
    |.exc c σ=>.exc c σ
    |_=>.bad
   else .bad):=rfl
inductive BT where
 |list |bool |int |str |tuple
noncomputable def BT.id:BT→String
 |.list=>"list" |.bool=>"bool" |.int=>"int" |.str=>"str" |.tuple=>"tuple"
noncomputable def BT.nm (T:BT):Str:=ofString T.id
inductive MK where
 |list |str |tuple
noncomputable def MK.id:MK→String
 |.list=>"list" |.str=>"str" |.tuple=>"tuple"
noncomputable def o9 (κs:List Ky)(κ:Ky):Option Nat:=κs.findIdx? fun x=>decide (x=κ)
noncomputable def lO {α:Type}(i:Option Nat)(k v:α)(ks vs:List α):List α×List α:=match i with
 |some i=>(ks,vs.set i v)
 |none=>(ks++[k],vs++[v])
noncomputable def isN:T→Bool
 |.none=>true
 |_=>false
noncomputable def uV (a b:T):Option Bool:=bif isN b then some (isN a) else none
noncomputable def bN (t:T):Option (Option Int):=o1 (iN t) fun i=>some (some i)
noncomputable def eB:List T→Option (List Bool)
 | []=>some []
 |t::r=>o2 (cN t) (eB r) fun b bs=>some (b::bs)
noncomputable def Ee (f:List Bool→Bool)(t:T):Option T:=o1 (fZ t) fun ts=>o1 (eB ts) fun bs=>some (.bool (f bs))
noncomputable def s4:T→Option T:=Ee (·.any id)
noncomputable def ju:T→Option T:=Ee (·.all id)
noncomputable def ma (t:T):Option T:=o1 (EK t) fun b=>some (.int (if b then 1 else 0))
noncomputable def F1 (X:BT):T→Option Bool
 |.bool _=>some (match X with |.bool |.int=>true |_=>false)
 |.int _=>some (match X with |.int=>true |_=>false)
 |.str _=>some (match X with |.str=>true |_=>false)
 |.tup _=>some (match X with |.tuple=>true |_=>false)
 |.lst _=>some (match X with |.list=>true |_=>false)
 |_=>none
noncomputable def dK (X:BT)(t:T):Option T:=o1 (F1 X t) fun b=>some (.bool b)
noncomputable def kT (K:MK)(t:T):Bool:=match K with
 |.list=>(fZ t).isSome
 |.str=>(rF t).isSome
 |.tuple=>(pP t).isSome
@[reducible] noncomputable def yV (K:MK)(F:T→T→Option T)(l r:PE):PE:=fun c ρ σ k=>l c ρ σ fun a σ=>gd (kT K a) (r c ρ σ fun b σ=>up (F a b) σ k)
noncomputable def Gk (a v:T):Option T:=o1 (fZ a) fun xs=>o2 (cR cQ v) (my xs) fun d es=>some (.int ((es.countP fun y=>PyData.eqv y d:Nat):Int))
noncomputable def vy:List T→Option (List Str)
 | []=>some []
 |t::r=>o2 (rF t) (vy r) fun x xs=>some (x::xs)
noncomputable def tN (a b:T):Option T:=o2 (rF a) (fZ b) fun sep ts=>o1 (vy ts) fun xs=>bif JoinOk sep xs&&PyData.strOk (Txt.join sep xs)&&bS (Txt.join sep xs).length then some (.str (Txt.join sep xs)) else none
noncomputable def oH (a b:T):Option T:=o2 (rF a) (rF b) fun x y=>bif !(y.length==0)&&bS (Txt.split x y).length&&(Txt.split x y).all (fun t=>PyData.strOk t&&decide (t.length≤lim)) then some (.lst ((Txt.split x y).map T.str)) else none
@[irreducible] noncomputable def fw (a b:T):Option T:=o2 (fZ a) (iN b) fun xs k=>bif decide (0≤k)&&(decide (k≤1000)&&Nat.ble xs.length 1000) then some (.lst (List.replicate k.toNat xs).flatten) else none
noncomputable def Af (t:T):Option (List T):=o1 (rF t) fun x=>bif x.cps.all (· < 128) then some (x.cps.toList.map fun c=>T.str ⟨#[c]⟩) else none
noncomputable def EG (a b:T):Option Bool:=o2 (rF a) (rF b) fun y x=>some (Txt.contains x y)
@[reducible] noncomputable def f6 (i:Nat)(F:T→T→Option T)(e:PE):PS:=fun c ρ (σ:S5) k=>match bC ρ i with
 |some x=>gd (kT .list x) (e c ρ σ fun v σ=>up (F x v) σ fun y σ=>k (ρ.set i (some y)) σ)
 |none=>.bad
noncomputable def kU:Nat→T→Option Ky
 |_,.int i=>some (.int i)
 |_,.bool b=>some (.int (t9 b))
 |_,.str s=>some (.str s)
 |n+1,.tup xs=>o1 (go (kU n) xs) fun ks=>some (.tup ks)
 |_,_=>none
where go (f:T→Option Ky):List T→Option (List Ky)
 | []=>some []
 |x::r=>o2 (f x) (go f r) fun k ks=>some (k::ks)
theorem AQ {n:Nat}{xs:List T}:kU (n+1) (.tup xs)=o1 (kU.go (kU n) xs) fun ks=>some (.tup ks):=rfl
theorem uY {f:T→Option Ky}{x:T}{r:List T}:kU.go f (x::r)=o2 (f x) (kU.go f r) fun k ks=>some (k::ks):=rfl
noncomputable def wT (t:T):Option Ky:=o1 (pP t) fun xs=>kU 6 (.tup xs)
noncomputable def e9 (us:List T):Option (List Ky):=kU.go wT us
noncomputable def CN:T→Option (List T×List T)
 |.dct us ts=>some (us,ts)
 |_=>none
noncomputable def kN (us:List T)(k:T):Option (Option Nat):=o2 (e9 us) (wT k) fun κs κ=>some (o9 κs κ)
noncomputable def AT (a b:T):Option Bool:=o1 (CN b) fun p=>o1 (kN p.1 a) fun i=>some i.isSome
noncomputable def idxD (a k:T):Option T:=o1 (CN a) fun p=>o1 (kN p.1 k) fun i=>o1 i fun j=>p.2[j]?
noncomputable def GN (a:T):Option T:=o1 (CN a) fun p=>some (.int p.1.length)
noncomputable def mw:List T→List T→List T→Option (List T×List T)
 | [],us,ts=>some (us,ts)
 |x::r,us,ts=>o1 (pP x) fun ps=>match ps with
  | [k,v]=>o1 (kN us k) fun i=>mw r (lO i k v us ts).1 (lO i k v us ts).2
  |_=>none
noncomputable def qR (a:T):Option T:=o1 (fZ a) fun xs=>o1 (mw xs [] []) fun p=>some (.dct p.1 p.2)
@[reducible] noncomputable def s6 (i:Nat)(F:T→T→T→Option T)(j e:PE):PS:=fun c ρ (σ:S5) k=>e c ρ σ fun v σ=>match bC ρ i with
 |some x=>j c ρ σ fun κ σ=>up (F x κ v) σ fun y σ=>k (ρ.set i (some y)) σ
 |none=>.bad
noncomputable def sg (x κ v:T):Option T:=o2 (fZ x) (iN κ) fun xs i=>bif decide (0≤i)&&decide (i < xs.length) then some (.lst (xs.set i.toNat v)) else none
noncomputable def dS (x κ v:T):Option T:=o1 (CN x) fun p=>o1 (kN p.1 κ) fun i=>oj (p.1.length+1) (.dct (lO i κ v p.1 p.2).1 (lO i κ v p.1 p.2).2)
noncomputable def bV:Nat→List Str
 | 0=>[ofString "names",ofString "roads",ofString "firsts"]
 | 10=>[ofString "bonds",ofString "promises",ofString "machine",ofString "known",ofString "knots",ofString "begun",ofString "threads"]
 |_=>[]
noncomputable def gG:Nat→Nat→Bool
 | 10,3=>true
 | 10,4=>true
 | 10,6=>true
 |_,_=>false
@[reducible] noncomputable def v4 (j:Nat)(is:List Nat):PS:=fun _ ρ σ k=>up (o1 (bC ρ j) fun x=>o1 (fZ x) fun xs=>o1 xs.getLast? fun t=>o1 (pP t) fun ts=>dI is ts (ρ.set j (some (.lst xs.dropLast)))) σ k
@[reducible] noncomputable def n0 (j i:Nat):PS:=fun _ ρ σ k=>up (o1 (bC ρ j) fun x=>o1 (fZ x) fun xs=>o1 xs.head? fun y=>some ((ρ.set j (some (.lst xs.tail))).set i (some y))) σ k
noncomputable def Ed (c:Nat):T→Option (List T)
 |.obj c' ts=>bif Nat.beq c' c then some ts else none
 |_=>none
noncomputable def m9 (c i:Nat)(t:T):Option T:=o1 (Ed c t) fun ts=>ts[i]?
noncomputable def G0 (c i:Nat)(σ:Sg):T→Option T
 |.self=>o1 σ.self fun p=>bif Nat.beq p.1 c&&!gG c i then p.2[i]? else none
 |t=>m9 c i t
@[reducible] noncomputable def eP (c i:Nat):PE:=fun _ ρ σ k=>up (o1 (bC ρ 0) (G0 c i σ)) σ k
@[reducible] noncomputable def pU (c f:Nat)(o:PE)(args:PL):PE:=fun cx ρ (σ:S5) k=>o cx ρ σ fun t σ=>gd (Ed c t).isSome (args cx ρ σ fun ts σ=>nH (cx.call f (t::ts) σ) k)
noncomputable def uW (c:Nat)(ρ:aH)(σ:Sg):Bool:=match bC ρ 0 with
 |some .self=>match σ.self with
  |some p=>Nat.beq p.1 c
  |none=>false
 |_=>false
@[reducible] noncomputable def su (c f:Nat)(args:PL):PE:=fun cx ρ (σ:S5) k=>gd (uW c ρ σ) (args cx ρ σ fun ts σ=>nH (cx.call f (.self::ts) σ) k)
noncomputable def Sg.fld (σ:Sg)(i:Nat)(y:T):Sg:=⟨σ.spot,σ.self.map fun p=>(p.1,p.2.set i y)⟩
noncomputable def dD (c i:Nat)(ρ:aH)(σ:Sg):Option T:=bif uW c ρ σ&&gG c i then o1 σ.self fun p=>p.2[i]? else none
noncomputable def Sg.push (σ:Sg)(y:T):Sg:=⟨σ.spot,σ.self.map fun p=>(p.1,p.2++[y])⟩
noncomputable def A2 (c i:Nat)(ρ:aH)(σ:Sg):Bool:=uW c ρ σ&&(match σ.self with
 |some p=>Nat.beq p.2.length i
 |none=>false)
@[reducible] noncomputable def sk (c i:Nat)(e:PE):PS:=fun cx ρ σ k=>e cx ρ σ fun v σ=>gd (A2 c i ρ σ) (k ρ (σ.push v))
@[irreducible] noncomputable def qA (c:Nat)(o:cc)(k:PK T):cc:=match o with
 |.ret t σ=>bif isN t then (match σ.self with
   |some p=>bif Nat.beq p.1 c then k (.obj c p.2) ⟨σ.spot,none⟩ else .bad
   |none=>.bad) else .bad
 |_=>.bad
@[reducible] noncomputable def uE (c f:Nat)(args:PL):PE:=fun cx ρ (σ:S5) k=>args cx ρ σ fun ts σ=>match σ.self with
 |some _=>.bad
 |none=>qA c (cx.call f (.self::ts) ⟨σ.spot,some (c,[])⟩) k
noncomputable def pd (ρ:aH)(i:Nat):Bool:=match bC ρ i with
 |some .spot=>true
 |_=>false
@[reducible] noncomputable def n5 (i:Nat):PE:=fun _ ρ σ k=>gd (pd ρ i) (k (.int σ.spot) σ)
@[reducible] noncomputable def i8 (i:Nat)(e:PE):PS:=fun cx ρ σ k=>e cx ρ σ fun v σ=>gd (pd ρ i) (match iN v with
 |some n=>k ρ ⟨n,σ.self⟩
 |none=>.bad)
@[reducible] noncomputable def i9 (F G:T→T→Option Bool)(l m r:PE):PT:=fun c ρ σ k=>l c ρ σ fun a σ=>m c ρ σ fun b σ=>match F a b with
 |some true=>r c ρ σ fun x σ=>up (G b x) σ k
 |some false=>k false σ
 |none=>.bad
noncomputable def dY (a b:T):Option Bool:=(AT a b).map (!·)
noncomputable def DD (a b:T):Option Bool:=(uV a b).map (!·)
noncomputable def r6 (a:T):Option T:=o1 (fZ a) fun xs=>some (.lst xs.reverse)
noncomputable def gP:List T→Option (List Bool)
 | []=>some []
 |t::r=>o2 (EK t) (gP r) fun b bs=>some (b::bs)
noncomputable def jx (f:Bool→Bool→Bool)(a b:T):Option T:=o2 (fZ a) (fZ b) fun xs ys=>o2 (gP xs) (gP ys) fun bs cs=>some (.lst ((List.zipWith f bs cs).map T.bool))
noncomputable def dn (a n c:Int):Option (List T):=bif (sm a&&sm n&&decide (c=-1))&&bS (cn a n (-1)).length then some (cn a n (-1)) else none
@[irreducible] noncomputable def CH:List T→Option (List T)
 | []=>none
 |m::r=>match r with
  | []=>none
  |n::r=>match r with
   | []=>none
   |l::r=>match r with
    | []=>o2 (iN m) (iN n) fun a b=>o1 (iN l) (dn a b)
    |_::_=>none
@[reducible] noncomputable def DC (r:PL):PL:=p1 CH r
noncomputable def jM (ks:List T)(kn:T):List T→List (List T)→Option (List (List T))
 | [],ds=>some ds
 |o::r,ds=>o1 (kN ks o) fun i=>o1 i fun j=>o1 ds[j]? fun l=>bif bS (l.length+1) then jM ks kn r (ds.set j (l++[kn])) else none
noncomputable def qH (ks:List T)(th:T):List T→List (List T)→Option (List (List T))
 | [],ds=>some ds
 |kn::r,ds=>o1 (idxD th kn) fun l=>o1 (fZ l) fun os=>o1 (jM ks kn os ds) fun ds=>qH ks th r ds
noncomputable def d0:List T→List T→Bool
 | [],_=>true
 |k::r,us=>match kN us k with
  |some none=>d0 r (us++[k])
  |_=>false
theorem BP {ks:List T}{kn o:T}{r:List T}{ds:List (List T)}:jM ks kn (o::r) ds=o1 (kN ks o) fun i=>o1 i fun j=>o1 ds[j]? fun l=>bif bS (l.length+1) then jM ks kn r (ds.set j (l++[kn])) else none:=rfl
theorem BO {ks:List T}{th kn:T}{r:List T}{ds:List (List T)}:qH ks th (kn::r) ds=o1 (idxD th kn) fun l=>o1 (fZ l) fun os=>o1 (jM ks kn os ds) fun ds=>qH ks th r ds:=rfl
theorem mh {k:T}{r us:List T}:d0 (k::r) us=(match kN us k with
  |some none=>d0 r (us++[k])
  |_=>false):=rfl
noncomputable def wK (w:T):Option T:=o1 (m9 10 4 w) fun kl=>o1 (fZ kl) fun ks=>o1 (m9 10 6 w) fun th=>bif bS ks.length&&d0 ks [] then o1 (qH ks th ks (ks.map fun _=>[])) fun ds=>some (.dct ks (ds.map .lst)) else none
@[reducible] noncomputable def ui:PS:=fun _ ρ σ _=>match bC ρ 0 with
 |some w=>match wK w with
  |some t=>.ret t σ
  |none=>.bad
 |none=>.bad
@[reducible] noncomputable def fS:PO:=fun _ _ (σ:S5) k=>k none σ
@[reducible] noncomputable def ew (is:List Nat)(e:PE):PS:=fun c ρ (σ:S5) k=>e c ρ σ fun v σ=>up (o1 (pP v) fun ts=>dI is ts ρ) σ k
@[reducible] noncomputable def uF:PE:=fun _ _ (σ:S5) k=>k (.dct [] []) σ
@[reducible] noncomputable def oX (c i:Nat):PE:=fun _ ρ σ k=>up (dD c i ρ σ) σ k
@[reducible] noncomputable def Bs (c i:Nat)(F:T→T→Option T)(q:PE):PE:=fun cx ρ σ k=>match dD c i ρ σ with
 |some t=>q cx ρ ⟨σ.spot,none⟩ fun s σ'=>up (F t s) ⟨σ'.spot,σ.self⟩ k
 |none=>.bad
@[reducible] noncomputable def qz (c i:Nat)(q:PE):PS:=fun cx ρ σ k=>match dD c i ρ σ with
 |some t=>gd (kT .list t) (q cx ρ ⟨σ.spot,none⟩ fun v σ'=>up (df t v) ⟨σ'.spot,σ.self⟩ fun y σ=>k ρ (σ.fld i y))
 |none=>.bad
@[reducible] noncomputable def qy (c i:Nat)(q e:PE):PS:=fun cx ρ σ k=>e cx ρ σ fun v σ=>match dD c i ρ σ with
 |some t=>q cx ρ ⟨σ.spot,none⟩ fun κ σ'=>up (dS t κ v) ⟨σ'.spot,σ.self⟩ fun y σ=>k ρ (σ.fld i y)
 |none=>.bad
@[reducible] noncomputable def oY (c i:Nat)(zb:PB)(elt:PE):PE:=fun cx ρ σ k=>match o1 (dD c i ρ σ) fZ with
 |some xs=>aX zb av elt cx ρ xs ⟨σ.spot,none⟩ [] fun ys σ'=>k (.lst ys) ⟨σ'.spot,σ.self⟩
 |none=>.bad
end
end Mine
end
section
set_option tactic.hygienic false
set_option backward.eqns.nonrecursive false
namespace Mine
noncomputable section
open PySem
structure Pg where
 prog:Program
 w:World
 h₀:Heap
 cls:Nat→Addr
 Ψ:Nat→Option fY
 fnA:Nat→Addr
 fd:Nat→FuncData
 gl:Nat→Bool
 mg:Str→Option Value
 mb:Str→Option Value
noncomputable abbrev Pg.M (P:Pg):Model:=model P.prog P.w
noncomputable abbrev Pg.cx (P:Pg)(n:Nat):dw:=⟨ai P.Ψ n⟩
structure Gh where
 F:Addr→Prop
 Z:Addr→Prop
 o:Nat→Option Addr
 sp:Addr
 sa:Addr
noncomputable def Gh.O (g:Gh)(a:Addr):Prop:=∃i,g.o i=some a
noncomputable abbrev ia (vs:Array Value)(n:Nat):Obj:=⟨.type "tuple",none,.seq vs n,#[]⟩
noncomputable abbrev br (vs:Array Value)(n:Nat):Obj:=⟨.type "list",none,.seq vs n,#[]⟩
structure Ek (P:Pg) (c:Nat) (dx:Addr) (o:Obj):Prop where
 cls:o.cls=.ref (P.cls c)
 dict:o.dict=some dx
 no:∀k,o.data≠.cls k
structure rL (c:Nat) (m:Str→Option Value) (us:List Value):Prop where
 no:∀x,x∉bV c→m x=none
 at_:∀(i:Nat) (x:Str) (u:Value),us[i]?=some u→(bV c)[i]?=some x→m x=some u
structure GR (w:World) (ks:List T) (o:Obj) (es:List DictEntry):Prop where
 x:o.ExactDict
 d:∃ep,o.data=.dict es.toArray ep
 k:∃κ,e9 ks=some κ∧es.map (·.hash)=κ.map (Ky.hash w)∧κ.Nodup
 l:ks.length≤lim
noncomputable def ox:List Int→List Value→Prop
 | [],vs=>vs=[]
 |i::is,vs=>∃t vs',vs=.int i t::vs'∧ox is vs'
theorem an {h:Heap}{a:Addr}{o:Obj}(e:h.get? a=some o):h.get? a≠none:=fun q=>by rw [e] at q;cases q
inductive Fz (g:Gh) (O:Addr→Prop) (x:Value):Prop
 |mk (a:Addr) (e:x=.ref a) (f:g.F a) (o:O a)
inductive yh (h:Heap) (ob:Array Value→Nat→Obj) (R:List Value→Prop) (k:Nat) (a:Addr):Prop
 |mk (vs:Array Value) (n:Nat) (e:h.get? a=some (ob vs n)) (l:k≤lim) (r:R vs.toList)
inductive yy (P:Pg) (h:Heap) (us:List T) (R R':List Value→Prop) (a:Addr):Prop
 |mk (q:(a==sysModules)=false) (o:Obj) (es:List DictEntry) (e:h.get? a=some o) (d:GR P.w us o es) (r:R (es.map (·.key))) (r':R' (es.map (·.val)))
inductive dG (P:Pg) (h:Heap) (c:Nat) (m:Str→Option Value) (dx a:Addr):Prop
 |mk (o:Obj) (e:h.get? a=some o) (k:Ek P c dx o) (n:h.Ns1 dx m) (ne:dx≠a)
inductive EN (P:Pg) (g:Gh) (h:Heap) (c:Nat) (R:List Value→Prop) (a:Addr):Prop
 |mk (dx:Addr) (m:Str→Option Value) (us:List Value) (f:g.F dx) (i:dG P h c m dx a) (k:rL c m us) (r:R us)
inductive GP (P:Pg) (ns:List Int) (x:Value):Prop
 |mk (a:Addr) (items:Array Value) (e:x=.ref a) (l:P.h₀.IsList a items) (b:items.size≤lim) (r:ox ns items.toList)
mutual
noncomputable def Rp (P:Pg)(g:Gh)(h:Heap):T→Value→Prop
 |.none,x=>x=.none
 |.bool b,x=>x=.bool b
 |.int i,x=>∃t,x=.int i t
 |.str s,x=>(PyData.strOk s=true∧s.length≤lim)∧∃t,x=.str s t
 |.scr ns,x=>GP P ns x
 |.tup ts,x=>Fz g (yh h ia (aR P g h ts) ts.length) x
 |.lst ts,x=>Fz g (yh h br (aR P g h ts) ts.length) x
 |.dct us ts,x=>Fz g (yy P h us (aR P g h us) (aR P g h ts)) x
 |.obj c ts,x=>Fz g (EN P g h c (aR P g h ts)) x
 |.spot,x=>x=.ref g.sp
 |.self,_=>False
termination_by structural t=>t
noncomputable def aR (P:Pg)(g:Gh)(h:Heap):List T→List Value→Prop
 | [],vs=>vs=[]
 |t::ts,vs=>∃v vs',vs=v::vs'∧Rp P g h t v∧aR P g h ts vs'
termination_by structural t=>t
end
noncomputable def gS (P:Pg)(g:Gh)(h:Heap)(a:Addr):T→Prop
 |.lst ts=>yh h br (aR P g h ts) ts.length a
 |.dct us ts=>yy P h us (aR P g h us) (aR P g h ts) a
 |_=>False
section
variable {P:Pg} {g g':Gh} {h h':Heap}
structure aO (g:Gh) (h:Heap) (g':Gh) (h':Heap):Prop where
 F:∀a,g.F a→g'.F a∧∀o,h.get? a=some o→h'.get? a=some o
 sp:g'.sp=g.sp
theorem yh.mono {ob:Array Value→Nat→Obj}{R R':List Value→Prop}{k:Nat}{a:Addr}(r:yh h ob R k a)(ha:∀o,h.get? a=some o→h'.get? a=some o)(q:∀v,R v→R' v):yh h' ob R' k a:=let ⟨vs,n,e,l,r⟩:=r;⟨vs,n,ha _ e,l,q _ r⟩
theorem yy.mono {us:List T}{R R' S S':List Value→Prop}{a:Addr}(r:yy P h us R S a)(ha:∀o,h.get? a=some o→h'.get? a=some o)(q:∀v,R v→R' v)(q':∀v,S v→S' v):yy P h' us R' S' a:=let ⟨n,o,es,e,d,r,r'⟩:=r;⟨n,o,es,ha _ e,d,q _ r,q' _ r'⟩
theorem Fz.mono {O O':Addr→Prop}{x:Value}(k:aO g h g' h')(r:Fz g O x)(q:∀a,(∀o,h.get? a=some o→h'.get? a=some o)→O a→O' a):Fz g' O' x:=let ⟨a,e,f,o⟩:=r;⟨a,e,(k.F a f).1,q a (k.F a f).2 o⟩
theorem dG.mono {c:Nat}{m:Str→Option Value}{dx a:Addr}(i:dG P h c m dx a)(ha:∀o,h.get? a=some o→h'.get? a=some o)(hd:∀o,h.get? dx=some o→h'.get? dx=some o):dG P h' c m dx a:=let ⟨o,e,k,n,ne⟩:=i;⟨o,ha _ e,k,n.at hd,ne⟩
theorem EN.mono {c:Nat}{R R':List Value→Prop}{a:Addr}(k:aO g h g' h')(r:EN P g h c R a)(ha:∀o,h.get? a=some o→h'.get? a=some o)(q:∀v,R v→R' v):EN P g' h' c R' a:=let ⟨dx,m,us,f,i,i',r⟩:=r;⟨dx,m,us,(k.F dx f).1,i.mono ha (k.F dx f).2,i',q _ r⟩
theorem Rp.both (k:aO g h g' h'):(∀t v,Rp P g h t v→Rp P g' h' t v)∧∀t v,aR P g h t v→aR P g' h' t v:=
 have n:∀v,aR P g h [] v→aR P g' h' [] v:=fun _ h=>h
 have c:∀(t:T) (ts:List T),(∀v,Rp P g h t v→Rp P g' h' t v)→(∀v,aR P g h ts v→aR P g' h' ts v)→∀v,aR P g h (t::ts) v→aR P g' h' (t::ts) v:=fun _ _ h h' _ ⟨v,vs,e,r,r'⟩=>⟨v,vs,e,h v r,h' vs r'⟩
 have a:∀t v,Rp P g h t v→Rp P g' h' t v:=fun t=>T.rec (motive_1:=fun t=>∀v,Rp P g h t v→Rp P g' h' t v) (motive_2:=fun t=>∀v,aR P g h t v→aR P g' h' t v)
  (fun _ h=>h) (fun _ _ h=>h) (fun _ _ h=>h) (fun _ _ h=>h) (fun _ ih _ r=>Fz.mono k r fun _ ha r=>r.mono ha ih) (fun _ ih _ r=>Fz.mono k r fun _ ha r=>r.mono ha ih)
  (fun _ _ i1 i2 _ r=>Fz.mono k r fun _ ha r=>r.mono ha i1 i2) (fun _ _ ih _ r=>Fz.mono k r fun _ ha r=>r.mono k ha ih)
  (fun _ _ h=>h) (fun v h=>(show v=_ from h).trans (congrArg Value.ref k.sp.symm)) (fun _ h=>h) n c t
 ⟨a,fun t=>List.rec n (fun t ts h=>c t ts (a t) h) t⟩
theorem Rp.mono (k:aO g h g' h'){t:T}{x:Value}(r:Rp P g h t x):Rp P g' h' t x:=(Rp.both k).1 t x r
theorem aR.mono (k:aO g h g' h'){t:List T}{x:List Value}(r:aR P g h t x):aR P g' h' t x:=(Rp.both k).2 t x r
theorem gS.case {a:Addr}{p:T→Prop}(h1:∀ts,gS P g h a (.lst ts)→p (.lst ts))(h2:∀us ts,gS P g h a (.dct us ts)→p (.dct us ts)):∀{t:T},gS P g h a t→p t
 |.lst ts,h=>h1 ts h
 |.dct us ts,h=>h2 us ts h
theorem gS.mono (k:aO g h g' h'){a:Addr}(ha:∀o,h.get? a=some o→h'.get? a=some o){t:T}(r:gS P g h a t):gS P g' h' a t:=
 r.case (p:=gS P g' h' a) (fun _ r=>yh.mono r ha fun _=>aR.mono k) fun _ _ r=>yy.mono r ha (fun _=>aR.mono k) fun _=>aR.mono k
theorem gS.rp {a:Addr}{t:T}(f:g.F a)(r:gS P g h a t):Rp P g h t (.ref a):=
 r.case (p:=fun t=>Rp P g h t (.ref a)) (fun _ h=>⟨a,rfl,f,h⟩) fun _ _ h=>⟨a,rfl,f,h⟩
theorem gS.live {a:Addr}{t:T}(r:gS P g h a t):h.get? a≠none:=
 r.case (p:=fun _=>h.get? a≠none) (fun _ r=>let ⟨_,_,e,_,_⟩:=r;an e) fun _ _ r=>let ⟨_,_,_,e,_,_,_⟩:=r;an e
theorem aR.nil:aR P g h [] []:=rfl
theorem aR.cons {v:Value}{t:T}{vs:List Value}{ts:List T}(q:Rp P g h t v)(r:aR P g h ts vs):aR P g h (t::ts) (v::vs):=⟨v,vs,rfl,q,r⟩
theorem aR.length {ts:List T}:∀{vs:List Value},aR P g h ts vs→vs.length=ts.length:=by
 induction ts with
 |nil=>exact fun h=>congrArg List.length h
 |cons t ts ih=>exact fun ⟨v,vs,e,_,r⟩=>e▸congrArg (·+1) (ih r)
theorem aR.append {ts':List T}{vs':List Value}(r':aR P g h ts' vs'){ts:List T}:∀{vs:List Value},aR P g h ts vs→aR P g h (ts++ts') (vs++vs'):=by
 induction ts with
 |nil=>exact fun h=>(show _=[] from h)▸r'
 |cons t ts ih=>exact fun ⟨v,vs,e,h,r⟩=>e▸aR.cons h (ih r)
theorem aR.get {ts:List T}:∀{vs:List Value},aR P g h ts vs→∀{i:Nat} {t:T},ts[i]?=some t→∃v,vs[i]?=some v∧Rp P g h t v:=by
 induction ts with
 |nil=>exact fun _ _ _ e=>nomatch e
 |cons t ts ih=>
  rintro _ ⟨v,vs,rfl,q,r⟩ i u e
  cases i with
  |zero=>exact ⟨v,rfl,Option.some.inj e▸q⟩
  |succ i=>exact ih r (i:=i) e
theorem aR.drop (n:Nat){ts:List T}:∀{vs:List Value},aR P g h ts vs→aR P g h (ts.drop n) (vs.drop n):=by
 induction n generalizing ts with
 |zero=>exact fun h=>h
 |succ n ih=>cases ts with
  |nil=>exact fun h=>(show _=[] from h)▸rfl
  |cons t ts=>exact fun ⟨v,vs,e,h,r⟩=>e▸ih r
theorem aR.take (n:Nat){ts:List T}:∀{vs:List Value},aR P g h ts vs→aR P g h (ts.take n) (vs.take n):=by
 induction n generalizing ts with
 |zero=>exact fun _=>rfl
 |succ n ih=>cases ts with
  |nil=>exact fun h=>(show _=[] from h)▸rfl
  |cons t ts=>exact fun ⟨v,vs,e,h,r⟩=>e▸aR.cons h (ih r)
theorem aR.set {v:Value}{t:T}(q:Rp P g h t v)(n:Nat){ts:List T}:∀{vs:List Value},aR P g h ts vs→aR P g h (ts.set n t) (vs.set n v):=by
 induction n generalizing ts with
 |zero=>cases ts with
  |nil=>exact fun h=>(show _=[] from h)▸rfl
  |cons t ts=>exact fun ⟨v,vs,e,h,r⟩=>e▸aR.cons q r
 |succ n ih=>cases ts with
  |nil=>exact fun h=>(show _=[] from h)▸rfl
  |cons t ts=>exact fun ⟨v,vs,e,h,r⟩=>e▸aR.cons h (ih r)
end
inductive iL (P:Pg) (g:Gh) (h:Heap) (c:Nat) (ts:List T):Prop
 |mk (dx:Addr) (m:Str→Option Value) (us:List Value) (i:dG P h c m dx g.sa) (z:g.Z g.sa) (z':g.Z dx) (ne:dx≠g.sp∧g.sa≠g.sp) (f:rL c m us) (l:us.length=ts.length)
  (sh:∀(i:Nat) (u:Value) (t:T),us[i]?=some u→ts[i]?=some t→gG c i=false→Rp P g h t u)
  (ow:∀(i:Nat) (u:Value) (t:T),us[i]?=some u→ts[i]?=some t→gG c i=true→∃a,u=.ref a∧g.Z a∧(a≠dx∧a≠g.sa∧a≠g.sp)∧gS P g h a t)
  (nn:∀(i j:Nat) (a:Addr),us[i]?=some (.ref a)→us[j]?=some (.ref a)→gG c i=true→gG c j=true→i=j)
structure bv (P:Pg) (g:Gh) (h:Heap) (σ:Sg):Prop where
 base:∀a o,P.h₀.get? a=some o→g.F a∧h.get? a=some o
 F:∀a,g.F a→h.get? a≠none
 Z:∀a,g.Z a→h.get? a≠none∧¬g.F a
 O:∀a,g.O a→h.get? a≠none∧¬g.F a∧¬g.Z a
 oo:∀i j a,g.o i=some a→g.o j=some a→i=j
 spot:(∃t n,h.get? g.sp=some (br #[.int σ.spot t] n))∧g.Z g.sp∧(σ.self=none→∀a,g.Z a→a=g.sp)
 self:∀c ts,σ.self=some (c,ts)→iL P g h c ts
structure aE (g:Gh) (s:Shared) (g':Gh) (s':Shared):Prop where
 st:∃h' tk,s'={s with heap:=h',toks:=tk}
 keep:∀a o,s.heap.get? a=some o→¬g.Z a→s'.heap.get? a=some o
 back:∀a,s'.heap.get? a=none→s.heap.get? a=none
 F:∀a,g.F a→g'.F a
 Fn:∀a,g'.F a→g.F a∨s.heap.get? a=none
 Zn:∀a,g'.Z a→g.Z a∨s.heap.get? a=none
 o:g'.o=g.o
 sp:g'.sp=g.sp
 sa:g'.sa=g.sa
theorem St.trans {s s₁ s₂:Shared}(p:∃h' tk,s₁={s with heap:=h',toks:=tk})(q:∃h' tk,s₂={s₁ with heap:=h',toks:=tk}):∃h' tk,s₂={s with heap:=h',toks:=tk}:=
 let ⟨_,_,e⟩:=p;let ⟨h,t,e'⟩:=q;⟨h,t,by rw [e',e]⟩
theorem aE.refl (g:Gh)(s:Shared):aE g s g s:=⟨⟨s.heap,s.toks,rfl⟩,fun _ _ e _=>e,fun _ e=>e,fun _ h=>h,fun _ h=>.inl h,fun _ h=>.inl h,rfl,rfl,rfl⟩
theorem aE.trans {g g₁ g₂:Gh}{s s₁ s₂:Shared}(p:aE g s g₁ s₁)(q:aE g₁ s₁ g₂ s₂):aE g s g₂ s₂:=
 ⟨St.trans p.st q.st,fun a o e n=>q.keep a o (p.keep a o e n) fun z=>(p.Zn a z).elim n fun z=>(an e z).elim,fun a e=>p.back a (q.back a e),fun a f=>q.F a (p.F a f),
  fun a f=>(q.Fn a f).elim (p.Fn a) fun e=>.inr (p.back a e),fun a f=>(q.Zn a f).elim (p.Zn a) fun e=>.inr (p.back a e),q.o.trans p.o,q.sp.trans p.sp,q.sa.trans p.sa⟩
theorem aE.toks (g:Gh)(s:Shared)(t:Nat):aE g s g {s with toks:=t}:=⟨⟨s.heap,t,rfl⟩,fun _ _ e _=>e,fun _ e=>e,fun _ h=>h,fun _ h=>.inl h,fun _ h=>.inl h,rfl,rfl,rfl⟩
theorem aE.k {P:Pg}{g g':Gh}{s s':Shared}{σ:Sg}(p:aE g s g' s')(w:bv P g s.heap σ):aO g s.heap g' s'.heap:=
 ⟨fun a f=>⟨p.F a f,fun o e=>p.keep a o e fun z=>(w.Z a z).2 f⟩,p.sp⟩
theorem iL.mono' {P:Pg}{g g':Gh}{h h':Heap}{c:Nat}{ts:List T}(k:aO g h g' h')(z:∀a,a≠g.sp→g.Z a→g'.Z a∧∀o,h.get? a=some o→h'.get? a=some o)(hs:g'.sa=g.sa)(s:iL P g h c ts):iL P g' h' c ts:=by
 obtain ⟨dx,m,us,i,z1,z2,ne,f,l,sh,ow,nn⟩:=s
 have hp:=k.sp
 have a1:=z _ ne.2 z1
 have a2:=z _ ne.1 z2
 refine ⟨dx,m,us,hs▸i.mono a1.2 a2.2,hs▸a1.1,a2.1,hs▸hp▸ne,f,l,fun j u t h1 h2 h3=>(sh j u t h1 h2 h3).mono k,fun j u t h1 h2 h3=>?_,nn⟩
 obtain ⟨a,h4,h5,h6,h7⟩:=ow j u t h1 h2 h3
 have a3:=z _ h6.2.2 h5
 exact ⟨a,h4,a3.1,hs▸hp▸h6,h7.mono k a3.2⟩
theorem iL.mono {P:Pg}{g g':Gh}{h h':Heap}{c:Nat}{ts:List T}(k:aO g h g' h')(z:∀a,g.Z a→g'.Z a∧∀o,h.get? a=some o→h'.get? a=some o)(hs:g'.sa=g.sa)(s:iL P g h c ts):iL P g' h' c ts:=s.mono' k (fun a _=>z a) hs
theorem bv.grow {P:Pg}{g:Gh}{h h':Heap}{σ:Sg}(w:bv P g h σ)(k:∀a o,h.get? a=some o→h'.get? a=some o)(F:Addr→Prop)(hF:∀a,g.F a→F a)(hn:∀a,F a→g.F a∨(h.get? a=none∧h'.get? a≠none)):bv P {g with F:=F} h' σ:=by
 have lv:∀a,h.get? a≠none→h'.get? a≠none:=fun a n q=>by
  cases e:h.get? a with
  |none=>exact n e
  |some o=>rw [k a o e] at q;cases q
 have kf:aO g h {g with F:=F} h':=⟨fun a f=>⟨hF a f,k a⟩,rfl⟩
 have nf:∀a,h.get? a≠none→¬g.F a→¬F a:=fun a l n q=>(hn a q).elim n fun q=>l q.1
 exact ⟨fun a o e=>⟨hF a (w.base a o e).1,k a o (w.base a o e).2⟩,fun a f=>(hn a f).elim (fun f=>lv a (w.F a f)) (·.2),fun a z=>⟨lv a (w.Z a z).1,nf a (w.Z a z).1 (w.Z a z).2⟩,
  fun a z=>⟨lv a (w.O a z).1,nf a (w.O a z).1 (w.O a z).2.1,(w.O a z).2.2⟩,w.oo,⟨let ⟨t,n,e⟩:=w.spot.1;⟨t,n,k _ _ e⟩,w.spot.2⟩,fun c ts e=>(w.self c ts e).mono kf (fun a z=>⟨z,k a⟩) rfl⟩
theorem aE.grow {g:Gh}{s:Shared}{h':Heap}(t:Nat)(k:∀a o,s.heap.get? a=some o→h'.get? a=some o)(F:Addr→Prop)(hF:∀a,g.F a→F a)(hn:∀a,F a→g.F a∨s.heap.get? a=none):aE g s {g with F:=F} {s with heap:=h',toks:=t}:=
 ⟨⟨h',t,rfl⟩,fun a o e _=>k a o e,fun a e=>by
  cases q:s.heap.get? a with
  |none=>rfl
  |some o=>exact (an (k a o q) e).elim,hF,hn,fun _ h=>.inl h,rfl,rfl,rfl⟩
theorem bv.toks {P:Pg}{g:Gh}{s:Shared}{σ:Sg}(w:bv P g s.heap σ)(t:Nat):bv P g ({s with toks:=t}:Shared).heap σ:=w
theorem aF (h:Heap):h.get? h.objs.size=none:=by
 cases e:h.get? h.objs.size with
 |none=>rfl
 |some o=>exact absurd (Heap.lt_size e) (Nat.lt_irrefl _)
end
end Mine
namespace Mine
noncomputable section
open PySem PyProof.Rows
noncomputable def iI:List Str:=["len","isinstance","list","tuple","str","int","bool","range","zip","enumerate","any","all","max","sorted","dict","set","ValueError"]
structure rM (P:Pg):Prop where
 g:P.h₀.Ns mainGlobals P.mg
 b:P.h₀.Ns builtinsNs P.mb
 nolimit:P.h₀.NoLimit
 fn:∀f F,P.Ψ f=some F→∃o,P.h₀.get? (P.fnA f)=some o∧o.data=.func (P.fd f)∧(P.gl f=true→P.mg (P.fd f).name=some (.ref (P.fnA f)))∧P.h₀.CodeRec (P.fd f).code (P.fd f).qualname∧
  (P.fd f).closure=[]∧(P.fd f).globals=mainGlobals∧(P.fd f).builtins=builtinsNs
 blt:∀x∈iI,P.mg x=none∧P.mb x=bootBuiltins x
structure bB where
 sc:Scope
 tab:List (Option (Str×NameKind))
noncomputable def bB.ok (B:bB):Bool:=B.sc.kind==.function&&(B.tab.all fun
  |some (x,k)=>B.sc.names.lookup x==some k&&(k==.local||k==.cell||k==.free)&&!(x==("__debug__":Str))&&!(x==("__classdict__":Str))
  |none=>true)&&decide ((B.tab.filterMap (·.map (·.1))).Nodup)
structure Ct where
 O:List Nat
 U:List Nat
 m:Bool
noncomputable def bq (C:Ct)(i:Nat):Bool:=C.O.any (Nat.beq i)
inductive Hh (P:Pg) (g:Gh) (h:Heap) (i:Nat) (t:T) (u:Value):Prop
 |mk (a:Addr) (e:u=.ref a) (o:g.o i=some a) (r:gS P g h a t)
noncomputable def bz (P:Pg)(C:Ct)(g:Gh)(h:Heap)(i:Nat)(t:T)(u:Value):Prop:=match bq C i with
 |true=>Hh P g h i t u
 |false=>Rp P g h t u∨(C.m=true∧i=0∧t=.self∧u=.ref g.sa)
inductive cS (B:bB) (env:Env) (h:Heap) (i:Nat) (u:Value):Prop
 |loc (x:Str) (m:Str→Option Value) (t:B.tab[i]?=some (some (x,.local))) (n:h.Ns env.locals m) (e:m x=some u)
 |cel (x:Str) (k:NameKind) (c:Addr) (t:B.tab[i]?=some (some (x,k))) (hk:k=.cell∨k=.free) (l:env.cells.lookup x=some c) (n:h.IsCell c (some u))
noncomputable def own (env:Env):List Addr:=env.locals::env.cells.map (·.2)
structure bW (P:Pg) (B:bB) (C:Ct) (env:Env) (g:Gh) (ρ:aH) (h:Heap):Prop where
 ok:B.ok=true
 sc:env.scope=B.sc
 glob:env.globals=mainGlobals
 blt:env.builtins=builtinsNs
 ns:∃m,h.Ns env.locals m
 cell:∀(i:Nat) (x:Str) (k:NameKind),B.tab[i]?=some (some (x,k))→k=.cell∨k=.free→∃c u,env.cells.lookup x=some c∧h.IsCell c u
 apart:∀x y c,env.cells.lookup x=some c→env.cells.lookup y=some c→x=y
 own:∀a∈own env,h.get? a≠none∧¬g.F a∧¬g.Z a∧¬g.O a
 var:∀i y t,B.tab[i]?=some (some y)→bC ρ i=some t→∃u,cS B env h i u∧bz P C g h i t u
 un:∀i∈C.U,bC ρ i=none
noncomputable def Aq (A:Around)(n:Nat):Prop:=A.depth+2 * n+10 < recursionLimit∧A.units+20 * n+200 < cLine∧A.handled=none
noncomputable def nA (A:Around)(n:Nat):Prop:=A.depth+2 * n+9 < recursionLimit∧A.units+20 * n+190 < cLine∧A.handled=none
theorem Aq.c {A:Around}{n:Nat}(h:Aq A n):nA A n:=⟨Nat.lt_of_succ_lt h.1,Nat.lt_of_le_of_lt (Nat.add_le_add_left (by decide) _) h.2.1,h.2.2⟩
inductive As (P:Pg) (h:Heap) (g':Gh) (h':Heap) (t:T) (x:Value):Prop
 |mk (a:Addr) (e:x=.ref a) (n:h.get? a=none) (f:¬g'.F a) (z:¬g'.Z a) (o:¬g'.O a) (r:gS P g' h' a t)
noncomputable def A6 (P:Pg)(fr:Bool)(h:Heap)(g':Gh)(h':Heap)(t:T)(x:Value):Prop:=match fr with
 |false=>Rp P g' h' t x
 |true=>As P h g' h' t x
noncomputable def Args (P:Pg)(m:Bool)(g:Gh)(h:Heap)(ts:List T)(vs:List Value):Prop:=match m with
 |false=>aR P g h ts vs
 |true=>∃v vs' t ts',vs=v::vs'∧ts=t::ts'∧(Rp P g h t v∨(t=.self∧v=.ref g.sa))∧aR P g h ts' vs'
noncomputable def pT (P:Pg)(n:Nat):Prop:=
 ∀f A ts vs g σ s t σ' (Q:Value→Shared→Prop) (E:Value→Shared→Prop),nA A n→bv P g s.heap σ→Args P (rP f) g s.heap ts vs→ai P.Ψ n f ts σ=.ret t σ'→
  (∀x s' g',aE g s g' s'→bv P g' s'.heap σ'→A6 P (kM f) s.heap g' s'.heap t x→Q x s')→
  codeAny P.M A (.call (.ref (P.fnA f)) ⟨vs,[]⟩) (fun r s'=>match r with
   |.ok (.ret x)=>Q x s'
   |.ok _=>False
   |.error x=>E x s') s
structure At (P:Pg) (B:bB) (C:Ct) (n:Nat) (A:Around) (env:Env) (g:Gh) (ρ:aH) (σ:Sg) (s:Shared):Prop where
 good:rM P
 call:∀k,k≤n→pT P k
 room:Aq A n
 env:bW P B C env g ρ s.heap
 g:bv P g s.heap σ
noncomputable abbrev WP (α:Type):=Around→Env→(α→Shared→Prop)→(Value→Shared→Prop)→Shared→Prop
noncomputable abbrev RR (α β:Type):=Heap→Gh→Heap→β→α→Prop
noncomputable def dc (P:Pg)(B:bB)(C:Ct){α β:Type}(W:WP α)(p:PG β)(R:RR α β):Prop:=
 ∀n A env g ρ σ s (k:PK β) (Q:α→Shared→Prop) (E:Value→Shared→Prop),At P B C n A env g ρ σ s→p (P.cx n) ρ σ k≠.bad→
  (∀x s' g' t σ',p (P.cx n) ρ σ k=k t σ'→aE g s g' s'→bv P g' s'.heap σ'→R s.heap g' s'.heap t x→Q x s')→W A env Q E s
noncomputable abbrev Pg.W (P:Pg){α:Type}(c:Env→Sem α):WP α:=fun A env Q E s=>wpAny P.M A (c env) Q E s
noncomputable abbrev RV (P:Pg):RR Value T:=fun _ g h t x=>Rp P g h t x
noncomputable abbrev RN (P:Pg):RR Value T:=fun h₀ g h t x=>As P h₀ g h t x
noncomputable def j0 (P:Pg)(g:Gh)(h:Heap)(t:T)(x:Value):Prop:=Rp P g h t x∨∃a,x=.ref a∧(g.O a∨¬g.Z a)∧gS P g h a t
noncomputable abbrev RX (P:Pg):RR Value T:=fun _ g h t x=>j0 P g h t x
noncomputable abbrev RL (P:Pg):RR (List Value) (List T):=fun _ g h t x=>aR P g h t x
noncomputable abbrev RQ {α:Type}:RR α α:=fun _ _ _ t x=>t=x
noncomputable abbrev ak (P:Pg)(B:bB)(C:Ct)(e:Expr)(p:PE)(R:RR Value T):Prop:=dc P B C (P.W fun env=>eval e env) p R
noncomputable abbrev ch (P:Pg)(B:bB)(C:Ct)(e:Expr)(p:PT):Prop:=dc P B C (P.W fun env=>isTrue e env (eval e env)) p RQ
structure f0 (P:Pg) (B:bB) (C:Ct) (es:List Expr) (p:PL):Prop where
 pl:∀env,∀q∈starEach es env,q.1=false
 sim:∀pos,dc P B C (P.W fun env=>spliced (backTo pos (starEach es env))) p (RL P)
section
variable {P:Pg} {B:bB} {C:Ct} {n:Nat} {A:Around} {env:Env} {g g':Gh} {ρ:aH} {σ σ':Sg} {s s':Shared} {h h':Heap} {t:T} {x:Value}
theorem bo {l:List (Str×Addr)}{x:Str}{c:Addr}(h:l.lookup x=some c):c∈l.map (·.2):=by
 induction l with
 |nil=>cases h
 |cons p r ih=>
  obtain ⟨y,d⟩:=p
  rw [List.lookup_cons] at h
  split at h
  ·cases h;exact List.mem_cons_self
  ·exact List.mem_cons_of_mem _ (ih h)
theorem cS.move {i:Nat}{u:Value}(k:∀a∈Mine.own env,∀o,h.get? a=some o→h'.get? a=some o)(v:cS B env h i u):cS B env h' i u:=by
 cases v with
 |loc x m t n e=>exact .loc x m t (n.at (k _ List.mem_cons_self)) e
 |cel x kk c t hk l n=>
  obtain ⟨o,e,d⟩:=n
  exact .cel x kk c t hk l ⟨o,k c (List.mem_cons_of_mem _ (bo l)) o e,d⟩
theorem bz.move {i:Nat}{u:Value}(k:aO g h g' h')(eo:g'.o=g.o)(es:g'.sa=g.sa)(ko:∀a,g.O a→∀o,h.get? a=some o→h'.get? a=some o)(v:bz P C g h i t u):bz P C g' h' i t u:=by
 unfold bz at *
 cases q:bq C i with
 |true=>rw [q] at v;exact let ⟨a,e,o,r⟩:=v;⟨a,e,eo▸o,r.mono k (ko a ⟨i,o⟩)⟩
 |false=>rw [q] at v;exact v.imp (·.mono k) fun ⟨a,b,c,d⟩=>⟨a,b,c,es▸d⟩
theorem bW.move (x:bW P B C env g ρ h)(k:aO g h g' h')(eo:g'.o=g.o)(es:g'.sa=g.sa)(ko:∀a,g.O a∨a∈Mine.own env→∀o,h.get? a=some o→h'.get? a=some o)(lv:∀a∈Mine.own env,h'.get? a≠none∧¬g'.F a∧¬g'.Z a):bW P B C env g' ρ h':=
 {x with
  ns:=let ⟨m,n⟩:=x.ns;⟨m,n.at (ko _ (.inr List.mem_cons_self))⟩
  cell:=fun i y kk ht hk=>let ⟨c,u,l,o,e,d⟩:=x.cell i y kk ht hk;⟨c,u,l,o,ko c (.inr (List.mem_cons_of_mem _ (bo l))) o e,d⟩
  own:=fun a ha=>⟨(lv a ha).1,(lv a ha).2.1,(lv a ha).2.2,fun ⟨i,q⟩=>(x.own a ha).2.2.2 ⟨i,eo▸q⟩⟩
  var:=fun i y t ht hv=>let ⟨u,v,w⟩:=x.var i y t ht hv;⟨u,v.move fun a ha=>ko a (.inr ha),w.move k eo es fun a ha=>ko a (.inl ha)⟩}
theorem aE.live (p:aE g s g' s'){a:Addr}(l:s.heap.get? a≠none):s'.heap.get? a≠none:=fun q=>l (p.back a q)
theorem bW.post (x:bW P B C env g ρ s.heap)(w:bv P g s.heap σ)(p:aE g s g' s'):bW P B C env g' ρ s'.heap:=
 x.move (p.k w) p.o p.sa (fun a ha o e=>p.keep a o e (ha.elim (fun q=>(w.O a q).2.2) fun q=>(x.own a q).2.2.1)) fun a ha=>let ⟨l,f,z,_⟩:=x.own a ha;⟨p.live l,fun q=>(p.Fn a q).elim f l,fun q=>(p.Zn a q).elim z l⟩
theorem At.post (X:At P B C n A env g ρ σ s)(p:aE g s g' s')(w:bv P g' s'.heap σ'):At P B C n A env g' ρ σ' s':=⟨X.good,X.call,X.room,X.env.post X.g p,w⟩
theorem At.units (X:At P B C n A env g ρ σ s):A.units+200 < cLine:=Nat.lt_of_le_of_lt (Nat.add_le_add_right (Nat.le_add_right _ _) _) X.room.2.1
theorem At.depth (X:At P B C n A env g ρ σ s):A.depth+10 < recursionLimit:=Nat.lt_of_le_of_lt (Nat.add_le_add_right (Nat.le_add_right _ _) _) X.room.1
theorem j0.post (w:bv P g s.heap σ)(p:aE g s g' s')(r:j0 P g s.heap t x):j0 P g' s'.heap t x:=
 r.imp (·.mono (p.k w)) fun ⟨a,e,q,r⟩=>⟨a,e,q.imp (fun ⟨i,q⟩=>⟨i,p.o▸q⟩) fun z q=>(p.Zn a q).elim z r.live,r.mono (p.k w) fun o e=>p.keep a o e (q.elim (fun q=>(w.O a q).2.2) id)⟩
theorem dc.map {α β:Type}{W W':WP α}{p:PG β}{R:RR α β}(h:dc P B C W p R)(hW:∀A env Q E s,W A env Q E s→W' A env Q E s):dc P B C W' p R:=fun n A env g ρ σ s k Q E X hb hq=>hW A env Q E s (h n A env g ρ σ s k Q E X hb hq)
theorem dc.weak {α β:Type}{W:WP α}{p:PG β}{R R':RR α β}(h:dc P B C W p R)(hR:∀h g h' t x,R h g h' t x→R' h g h' t x):dc P B C W p R':=fun n A env g ρ σ s k Q E X hb hq=>h n A env g ρ σ s k Q E X hb fun x s' g' t σ' e p w r=>hq x s' g' t σ' e p w (hR _ _ _ _ _ r)
theorem dc.vx {W:WP Value}{p:PE}(h:dc P B C W p (RV P)):dc P B C W p (RX P):=h.weak fun _ _ _ _ _ r=>.inl r
theorem dc.nx {W:WP Value}{p:PE}(h:dc P B C W p (RN P)):dc P B C W p (RX P):=h.weak fun _ _ _ _ _ r=>let ⟨a,e,_,_,z,_,r⟩:=r;.inr ⟨a,e,.inr z,r⟩
theorem bv.freeze {a:Addr}(w:bv P g h σ)(l:h.get? a≠none)(z:¬g.Z a)(o:¬g.O a):bv P {g with F:=fun y=>g.F y∨y=a} h σ:=by
 have kf:aO g h {g with F:=fun y=>g.F y∨y=a} h:=⟨fun b f=>⟨.inl f,fun _ e=>e⟩,rfl⟩
 exact ⟨fun b o e=>⟨.inl (w.base b o e).1,(w.base b o e).2⟩,fun b f=>f.elim (w.F b) fun q=>q▸l,fun b q=>⟨(w.Z b q).1,fun f=>f.elim (w.Z b q).2 fun e=>z (e▸q)⟩,
  fun b q=>⟨(w.O b q).1,fun f=>f.elim (w.O b q).2.1 fun e=>o (e▸q),(w.O b q).2.2⟩,w.oo,w.spot,fun c ts e=>(w.self c ts e).mono kf (fun _ q=>⟨q,fun _ e=>e⟩) rfl⟩
theorem dc.nv {W:WP Value}{p:PE}(h:dc P B C W p (RN P)):dc P B C W p (RV P):=fun n A env g ρ σ s k Q E X hb hq=>h n A env g ρ σ s k Q E X hb fun x s' g' t σ' e p w r=>by
 obtain ⟨a,rfl,n,f,z,o,r⟩:=r
 have kf:aO g' s'.heap {g' with F:=fun y=>g'.F y∨y=a} s'.heap:=⟨fun b f=>⟨.inl f,fun _ e=>e⟩,rfl⟩
 exact hq _ s' {g' with F:=fun y=>g'.F y∨y=a} t σ' e ⟨p.st,p.keep,p.back,fun b f=>.inl (p.F b f),fun b f=>f.elim (p.Fn b) fun e=>.inr (e▸n),p.Zn,p.o,p.sp,p.sa⟩ (w.freeze r.live z o) ((r.mono kf fun _ e=>e).rp (.inr rfl))
theorem dc.now {α β:Type}{W:WP α}{p:PG β}{R:RR α β}(h:∀n A env g ρ σ s (k:PK β) (Q:α→Shared→Prop) (E:Value→Shared→Prop),At P B C n A env g ρ σ s→p (P.cx n) ρ σ k≠.bad→(∀x t tk,p (P.cx n) ρ σ k=k t σ→R s.heap g s.heap t x→Q x {s with toks:=tk})→W A env Q E s):dc P B C W p R:=
 fun n A env g ρ σ s k Q E X hb hq=>h n A env g ρ σ s k Q E X hb fun x t tk e r=>hq x _ g t σ e (.toks g s tk) X.g r
end
noncomputable def Dn {α β:Type}(R:RR α β):Prop:=∀h h₁ g h' t x,(∀a,h₁.get? a=none→h.get? a=none)→R h₁ g h' t x→R h g h' t x
section
variable {P:Pg} {B:bB} {C:Ct}
theorem kq:Dn (RV P):=fun _ _ _ _ _ _ _ r=>r
theorem Hm:Dn (RX P):=fun _ _ _ _ _ _ _ r=>r
theorem He:Dn (RL P):=fun _ _ _ _ _ _ _ r=>r
theorem CJ {α:Type}:Dn (RQ (α:=α)):=fun _ _ _ _ _ _ _ r=>r
theorem DP:Dn (RN P):=fun _ _ _ _ _ _ b r=>let ⟨a,e,n,f,z,o,r⟩:=r;⟨a,e,b a n,f,z,o,r⟩
theorem dc.bind {α β γ δ:Type}{W:WP α}{p:PG β}{R:RR α β}{N:Around→Env→α→(γ→Shared→Prop)→(Value→Shared→Prop)→Shared→Prop}{F:dw→aH→PK δ→PK β}{R':RR γ δ}(h:dc P B C W p R)(hd:Dn R')
  (hf:∀n A env g g₁ ρ σ s s₁ x t (k:PK δ) Q E,aE g s g₁ s₁→At P B C n A env g₁ ρ σ s₁→R s.heap g₁ s₁.heap t x→F (P.cx n) ρ k t σ≠.bad→
   (∀y s' g' u σ',F (P.cx n) ρ k t σ=k u σ'→aE g₁ s₁ g' s'→bv P g' s'.heap σ'→R' s₁.heap g' s'.heap u y→Q y s')→N A env x Q E s₁):
  dc P B C (fun A env Q E s=>W A env (fun x s₁=>N A env x Q E s₁) E s) (fun c ρ σ k=>p c ρ σ (F c ρ k)) R':=fun n A env g ρ σ s k Q E X hb hq=>
 h n A env g ρ σ s (F _ ρ k) _ E X hb fun x s₁ g₁ t σ₁ e p w r=>hf n A env g g₁ ρ σ₁ s s₁ x t k Q E p (X.post p w) r (fun q=>hb (e.trans q)) fun y s' g' u σ' e' p' w' r'=>hq y s' g' u σ' (e.trans e') (p.trans p') w' (hd _ _ _ _ _ _ p.back r')
theorem bY {α:Type}{o:Option α}{σ:Sg}{k:PK α}(h:up o σ k≠.bad):∃a,o=some a:=by
 cases o with
 |none=>exact absurd rfl h
 |some a=>exact ⟨a,rfl⟩
noncomputable def eU (P:Pg)(g:Gh)(h:Heap)(t:T)(x:Value):Prop:=Rp P g h t x∨∃a,x=.ref a∧gS P g h a t
theorem j0.y {g:Gh}{h:Heap}{t:T}{x:Value}(r:j0 P g h t x):eU P g h t x:=r.imp id fun ⟨a,e,_,r⟩=>⟨a,e,r⟩
noncomputable abbrev RY (P:Pg):RR Value T:=fun _ g h t x=>eU P g h t x
theorem dc.xy {W:WP Value}{p:PE}(h:dc P B C W p (RX P)):dc P B C W p (RY P):=h.weak fun _ _ _ _ _=>j0.y
structure Rm (A:Around):Prop where
 units:A.units+200 < cLine
 handled:A.handled=none
 depth:A.depth+10 < recursionLimit
theorem At.rm {n:Nat}{A:Around}{env:Env}{g:Gh}{ρ:aH}{σ:Sg}{s:Shared}(X:At P B C n A env g ρ σ s):Rm A:=⟨X.units,X.room.2.2,X.depth⟩
noncomputable abbrev W1 (γ:Type):=Around→Env→Value→(γ→Shared→Prop)→(Value→Shared→Prop)→Shared→Prop
noncomputable abbrev W2 (γ:Type):=Around→Env→Value→Value→(γ→Shared→Prop)→(Value→Shared→Prop)→Shared→Prop
noncomputable def yw (P:Pg){γ δ:Type}(N:W1 γ)(F:T→Option δ)(R:RR γ δ):Prop:=
 ∀A env g σ s x t y Q E,Rm A→bv P g s.heap σ→eU P g s.heap t x→F t=some y→(∀u s' g',aE g s g' s'→bv P g' s'.heap σ→R s.heap g' s'.heap y u→Q u s')→N A env x Q E s
noncomputable def pX (P:Pg){γ δ:Type}(N:W2 γ)(F:T→T→Option δ)(R:RR γ δ):Prop:=
 ∀A env g σ s x x' t t' y Q E,Rm A→bv P g s.heap σ→eU P g s.heap t x→eU P g s.heap t' x'→F t t'=some y→(∀u s' g',aE g s g' s'→bv P g' s'.heap σ→R s.heap g' s'.heap y u→Q u s')→N A env x x' Q E s
theorem dc.op1 {γ δ:Type}{W:WP Value}{p:PE}{N:W1 γ}{F:T→Option δ}{R:RR γ δ}(h:dc P B C W p (RY P))(hd:Dn R)(o:yw P N F R):dc P B C (fun A env Q E s=>W A env (fun x s₁=>N A env x Q E s₁) E s) (p1 F p) R:=
 h.bind (F:=fun _ _ k t σ=>up (F t) σ k) hd fun n A env g g₁ ρ σ s s₁ x t k Q E p X r hb hq=>by
  obtain ⟨y,e⟩:=bY hb
  exact o A env g₁ σ s₁ x t y Q E X.rm X.g r e fun u s' g' p w r=>hq u s' g' y σ (by rw [e];rfl) p w r
theorem dc.op2 {γ δ:Type}{W W':WP Value}{p p':PE}{N:W2 γ}{F:T→T→Option δ}{R:RR γ δ}(h:dc P B C W p (RX P))(h':dc P B C W' p' (RY P))(hd:Dn R)(o:pX P N F R):
  dc P B C (fun A env Q E s=>W A env (fun x s₁=>W' A env (fun y s₂=>N A env x y Q E s₂) E s₁) E s) (p2 F p p') R:=
 h.bind (N:=fun A env x Q E s₁=>W' A env (fun y s₂=>N A env x y Q E s₂) E s₁) (F:=fun c ρ k a σ=>p' c ρ σ fun b σ=>up (F a b) σ k) hd fun n A env g g₁ ρ σ s s₁ x t k Q E p X r hb hq=>
  h' n A env g₁ ρ σ s₁ _ _ E X hb fun x' s₂ g₂ t' σ₂ e p₂ w₂ r₂=>by
   obtain ⟨y,e'⟩:=bY fun q=>hb (e.trans q)
   exact o A env g₂ σ₂ s₂ x x' t t' y Q E X.rm w₂ (j0.post X.g p₂ r).y r₂ e' fun u s' g' p w r=>hq u s' g' y σ₂ (e.trans (by rw [e'];rfl)) (p₂.trans p) w (hd _ _ _ _ _ _ p₂.back r)
theorem ak.none {k pos}:ak P B C (.Constant .none k pos) (pC .none) (RV P):=.now fun _ _ _ _ _ _ _ _ _ _ _ _ hq=>wpAny_Constant_none (hq _ _ _ rfl rfl)
theorem ak.bool {b k pos}:ak P B C (.Constant (.bool b) k pos) (pC (.bool b)) (RV P):=.now fun _ _ _ _ _ _ _ _ _ _ _ _ hq=>wpAny_Constant_bool (hq _ _ _ rfl rfl)
theorem ak.int {i k pos}:ak P B C (.Constant (.int i) k pos) (pC (.int i)) (RV P):=.now fun _ _ _ _ _ _ _ _ _ _ _ _ hq=>wpAny_Constant_int (hq _ _ _ rfl ⟨_,rfl⟩)
theorem ak.str {y k pos}(h:(PyData.strOk y&&decide (y.length≤lim))=true):ak P B C (.Constant (.str y) k pos) (pC (.str y)) (RV P):=.now fun _ _ _ _ _ _ _ _ _ _ _ _ hq=>
 have h':=Bool.and_eq_true_iff.mp h
 wpAny_Constant_str (hq _ _ _ rfl ⟨⟨h'.1,of_decide_eq_true h'.2⟩,_,rfl⟩)
theorem bB.look {B:bB}(h:B.ok=true){i:Nat}{x:Str}{k:NameKind}(ht:B.tab[i]?=some (some (x,k))):
  B.sc.kind=.function∧B.sc.names.lookup x=some k∧(k=.local∨k=.cell∨k=.free)∧(x==("__debug__":Str))=false∧(x==("__classdict__":Str))=false:=by
 simp only [bB.ok,Bool.and_eq_true,beq_iff_eq] at h
 have:=List.all_eq_true.mp h.1.2 _ (List.mem_of_getElem? ht)
 simp only [Bool.and_eq_true,beq_iff_eq,Bool.or_eq_true,Bool.not_eq_true'] at this
 exact ⟨h.1.1,this.1.1.1,this.1.1.2.elim (fun q=>q.imp_right .inl) fun q=>.inr (.inr q),this.1.2,this.2⟩
theorem bp {n:Nat}{A:Around}{env:Env}{g:Gh}{ρ:aH}{σ:Sg}{s:Shared}{i:Nat}{y:Str}{u:Value}{k:NameKind}{pos:Pos}{Q:Value→Shared→Prop}{E:Value→Shared→Prop}(X:At P B C n A env g ρ σ s)(ht:B.tab[i]?=some (some (y,k)))(v:cS B env s.heap i u)(hq:Q u s):
  wpAny P.M A (eval (.Name y pos) env) Q E s:=by
 obtain ⟨h1,h2,h3,h4,h5⟩:=bB.look X.env.ok ht
 have hk:env.scope.kind=.function:=X.env.sc▸h1
 cases v with
 |loc x m t n e=>
  rw [t] at ht;cases ht
  exact wpAny_Name (wpAny_loadName_local hk (show env.scope.names.lookup y=_ from X.env.sc▸h2) n e hq) h4
 |cel x k c t hk' l n=>
  rw [t] at ht;cases ht
  rcases hk' with rfl |rfl
  ·exact wpAny_Name (wpAny_loadName_cell hk (show env.scope.names.lookup y=_ from X.env.sc▸h2) l n hq) h4
  ·exact wpAny_Name (wpAny_loadName_free hk (show env.scope.names.lookup y=_ from X.env.sc▸h2) l n hq h5) h4
theorem ak.name {i:Nat}{y:Str}{k:NameKind}{pos:Pos}{R:RR Value T}(ht:B.tab[i]?=some (some (y,k)))(h:∀g h t u,bz P C g h i t u→R h g h t u):ak P B C (.Name y pos) (pV i) R:=.now fun n A env g ρ σ s k Q E X hb hq=>by
 obtain ⟨t,e⟩:=bY hb
 obtain ⟨u,v,w⟩:=X.env.var i _ t ht e
 exact bp X ht v (hq u t s.toks (by rw [pV,e];rfl) (h _ _ _ _ w))
noncomputable def jC (C:Ct)(i:Nat):Bool:=!bq C i&&(!C.m||!Nat.beq i 0)
theorem iQ {g:Gh}{h:Heap}{i:Nat}{t:T}{u:Value}(hv:jC C i=true)(v:bz P C g h i t u):Rp P g h t u:=by
 obtain ⟨h1,h2⟩:=Bool.and_eq_true_iff.mp hv
 unfold bz at v
 cases q:bq C i with
 |true=>rw [q] at h1;cases h1
 |false=>
  rw [q] at v
  refine v.elim id fun ⟨a,b,_⟩=>?_
  subst b;rw [a] at h2;cases h2
theorem ak.var {i:Nat}{y:Str}{k:NameKind}{pos:Pos}(hv:jC C i=true)(ht:B.tab[i]?=some (some (y,k))):ak P B C (.Name y pos) (pV i) (RV P):=.name ht fun _ _ _ _=>iQ hv
theorem ak.own {i:Nat}{y:Str}{k:NameKind}{pos:Pos}(hv:bq C i=true)(ht:B.tab[i]?=some (some (y,k))):ak P B C (.Name y pos) (pV i) (RX P):=.name ht fun _ _ _ _ v=>by
 unfold bz at v
 rw [hv] at v
 exact let ⟨a,e,o,r⟩:=v;.inr ⟨a,e,.inl ⟨i,o⟩,r⟩
theorem At.fn {n:Nat}{A:Around}{env:Env}{g:Gh}{ρ:aH}{σ:Sg}{s:Shared}(X:At P B C n A env g ρ σ s):env.scope.kind=.function:=by
 have:=X.env.ok
 simp only [bB.ok,Bool.and_eq_true,beq_iff_eq] at this
 exact X.env.sc▸this.1.1
theorem At.glob {n:Nat}{A:Around}{env:Env}{g:Gh}{ρ:aH}{σ:Sg}{s:Shared}(X:At P B C n A env g ρ σ s){x:Str}{pos:Pos}{v:Value}{Q:Value→Shared→Prop}{E:Value→Shared→Prop}(hx:B.sc.names.lookup x=some .globalImplicit)(hd:(x==("__debug__":Str))=false)
  (hv:P.mg x=some v)(h:Q v s):wpAny P.M A (eval (.Name x pos) env) Q E s:=
 Calls.Name_function_global X.fn (show env.scope.names.lookup x=_ from X.env.sc▸hx) (Calls.loadGlobal_global (mg:=P.mg) (X.env.glob▸X.good.g.keeps fun a o e=>(X.g.base a o e).2) hv h) hd
theorem ak.gconst {y:Str}{t:T}{pos:Pos}(hx:B.sc.names.lookup y=some .globalImplicit)(hd:(y==("__debug__":Str))=false)(hv:∃u,P.mg y=some u∧∀g h,Rp P g h t u):ak P B C (.Name y pos) (pC t) (RV P):=.now fun n A env g ρ σ s k Q E X hb hq=>
 let ⟨u,h1,h2⟩:=hv;X.glob hx hd h1 (hq u t s.toks rfl (h2 _ _))
noncomputable abbrev Ao (P:Pg)(op:Value→Value→Sem Value):W2 Value:=fun A _ x y Q E s=>wpAny P.M A (op x y) Q E s
noncomputable abbrev Cz (P:Pg)(op:Value→Sem Value):W1 Value:=fun A _ x Q E s=>wpAny P.M A (op x) Q E s
theorem ak.bin {l r:Expr}{op:Operator}{pos:Pos}{pl pr:PE}{F:T→T→Option T}{R:RR Value T}(hd:Dn R)(o:pX P (Ao P (binaryOp op)) F R)(hl:ak P B C l pl (RX P))(hr:ak P B C r pr (RX P)):ak P B C (.BinOp l op r pos) (p2 F pl pr) R:=
 (hl.op2 hr.xy hd o).map fun _ _ _ _ _=>wpAny_BinOp
noncomputable def jw (P:Pg)(op:CmpOp)(F:T→T→Option Bool):Prop:=
 ∀A g σ s x x' t t' b Q E,Rm A→bv P g s.heap σ→eU P g s.heap t x→eU P g s.heap t' x'→F t t'=some b→(∀tk,Q (.bool b) {s with toks:=tk})→wpAny P.M A (compareOp op x x') Q E s
theorem jw.e {op:CmpOp}{F:T→T→Option Bool}(o:jw P op F):pX P (Ao P (compareOp op)) (fun a b=>(F a b).map T.bool) (RV P):=fun A env g σ s x x' t t' y Q E rm w r r' e hq=>by
 obtain ⟨b,e1,rfl⟩:=Option.map_eq_some_iff.mp e
 exact o A g σ s x x' t t' b Q E rm w r r' e1 fun tk=>hq _ _ g (.toks g s tk) w rfl
theorem jw.t {op:CmpOp}{F:T→T→Option Bool}(o:jw P op F):pX P (fun A _ x y Q E s=>wpAny P.M A (compareOp op x y) (fun v s₁=>wpAny P.M A (truthy v) Q E s₁) E s) F RQ:=fun A env g σ s x x' t t' b Q E rm w r r' e hq=>
 o A g σ s x x' t t' b _ E rm w r r' e fun tk=>wpAny_truthy_bool (hq b _ g (.toks g s tk) w rfl)
theorem Bd {α β:Type}(o:Option α)(f:α→β)(σ:Sg)(k:PK β):up (o.map f) σ k=up o σ fun a σ=>k (f a) σ:=by cases o<;>rfl
theorem dc.eq {α β:Type}{W:WP α}{p p':PG β}{R:RR α β}(h:dc P B C W p R)(e:p=p'):dc P B C W p' R:=e▸h
theorem ak.cmp {l r:Expr}{op:CmpOp}{pos:Pos}{pl pr:PE}{F:T→T→Option Bool}(o:jw P op F)(hm:behindInMarks op r=false)(hl:ak P B C l pl (RX P))(hr:ak P B C r pr (RX P)):ak P B C (.Compare l [op] [r] pos) (pB (p2 F pl pr)) (RV P):=
 ((hl.op2 hr.xy kq o.e).map fun _ _ _ _ _ h=>wpAny_Compare1 h hm).eq (by unfold p2 pB;simp only [Bd])
theorem ch.cmpY {l r:Expr}{op:CmpOp}{pos:Pos}{pl pr:PE}{F:T→T→Option Bool}(o:jw P op F)(hm:behindInMarks op r=false)(hl:ak P B C l pl (RX P))(hr:ak P B C r pr (RY P)):ch P B C (.Compare l [op] [r] pos) (p2 F pl pr):=
 (hl.op2 hr CJ o.t).map fun _ _ _ _ _ h=>wpAny_isTrue_Compare1 h hm
theorem ch.cmp {l r:Expr}{op:CmpOp}{pos:Pos}{pl pr:PE}{F:T→T→Option Bool}(o:jw P op F)(hm:behindInMarks op r=false)(hl:ak P B C l pl (RX P))(hr:ak P B C r pr (RX P)):ch P B C (.Compare l [op] [r] pos) (p2 F pl pr):=.cmpY o hm hl hr.xy
theorem gf {A:Around}{g:Gh}{h:Heap}{s:Shared}{t:T}{x:Value}{b:Bool}{Q:Bool→Shared→Prop}{E:Value→Shared→Prop}(r:eU P g h t x)(ht:cN t=some b)(k:Q b s):wpAny P.M A (truthy x) Q E s:=by
 cases t with
 |none=>cases ht;exact r.elim (fun r=>(show x=_ from r)▸fun _ _ _=>k) fun ⟨_,_,r⟩=>r.elim
 |bool c=>cases ht;exact r.elim (fun r=>(show x=_ from r)▸wpAny_truthy_bool k) fun ⟨_,_,r⟩=>r.elim
 |int i=>cases ht;exact r.elim (fun ⟨_,r⟩=>r▸PySem.P.truthy_int k) fun ⟨_,_,r⟩=>r.elim
 |_=>cases ht
theorem ch.val {e:Expr}{p:PE}(h:ak P B C e p (RX P))(he:∀env whole,isTrue e env whole=(do let v ←whole;standAt e.pos;holding [v] (truthy v))):ch P B C e (qE p):=
 (h.xy.op1 (N:=fun A _ x Q E s=>wpAny P.M A (truthy x) Q E s) CJ fun A env g σ s x t b Q E rm w r e hq=>gf r e (hq b s g (.refl g s) w rfl)).map fun A env Q E s h=>wpAny_isTrue_value h (he env _)
theorem ch.not {e:Expr}{p:PT}{pos:Pos}(h:ch P B C e p):ch P B C (.UnaryOp .Not e pos) (cB p):=
 (h.bind (N:=fun A _ b Q E s=>Q (!b) s) (F:=fun _ _ k b σ=>k (!b) σ) (R':=RQ) CJ fun n A env g g₁ ρ σ s s₁ x t k Q E p X r hb hq=>hq _ s₁ g₁ _ σ rfl (.refl _ _) X.g (congrArg Bool.not r)).map fun _ _ _ _ _=>wpAny_isTrue_Not
noncomputable abbrev ik (P:Pg)(B:bB)(C:Ct)(op:BoolOp)(es:List Expr)(p:PT):Prop:=dc P B C (P.W fun env=>allTrue op es env) p RQ
theorem ik.andNil:ik P B C .And [] av:=.now fun _ _ _ _ _ _ _ _ _ _ _ _ hq=>wpAny_allTrue_And_nil (hq _ _ _ rfl rfl)
theorem ik.orNil:ik P B C .Or [] bL:=.now fun _ _ _ _ _ _ _ _ _ _ _ _ hq=>wpAny_allTrue_Or_nil (hq _ _ _ rfl rfl)
theorem dc.ite {α β:Type}{W:WP Bool}{p:PT}{W1 W2:WP α}{p1 p2:PG β}{R:RR α β}(h:dc P B C W p RQ)(hd:Dn R)(h1:dc P B C W1 p1 R)(h2:dc P B C W2 p2 R):
  dc P B C (fun A env Q E s=>W A env (fun b s₁=>match b with |true=>W1 A env Q E s₁ |false=>W2 A env Q E s₁) E s) (fun c ρ σ k=>p c ρ σ fun b σ=>bif b then p1 c ρ σ k else p2 c ρ σ k) R:=
 h.bind (N:=fun A env b Q E s₁=>match b with |true=>W1 A env Q E s₁ |false=>W2 A env Q E s₁) (F:=fun c ρ k b σ=>bif b then p1 c ρ σ k else p2 c ρ σ k) hd fun n A env g g₁ ρ σ s s₁ x t k Q E p X r hb hq=>by
  cases r
  cases x with
  |true=>exact h1 n A env g₁ ρ σ s₁ k Q E X hb hq
  |false=>exact h2 n A env g₁ ρ σ s₁ k Q E X hb hq
theorem dc.yes {β:Type}{t:β}:dc P B C (fun A env Q E s=>Q t s) (fun _ _ σ k=>k t σ) RQ:=.now fun _ _ _ _ _ _ _ _ _ _ _ _ hq=>hq _ _ _ rfl rfl
theorem ik.and {e:Expr}{es:List Expr}{p ps:PT}(h:ch P B C e p)(hs:ik P B C .And es ps):ik P B C .And (e::es) (ib p ps):=
 (h.ite CJ hs (.yes (t:=false))).map fun A env Q E s h=>wpAny_allTrue_And_cons (wpAny_mono h (fun b s h=>by cases b<;>exact h) fun _ _ h=>h)
theorem ik.or {e:Expr}{es:List Expr}{p ps:PT}(h:ch P B C e p)(hs:ik P B C .Or es ps):ik P B C .Or (e::es) (eJ p ps):=
 (h.ite CJ (.yes (t:=true)) hs).map fun A env Q E s h=>wpAny_allTrue_Or_cons (wpAny_mono h (fun b s h=>by cases b<;>exact h) fun _ _ h=>h)
theorem ch.boolOp {op:BoolOp}{es:List Expr}{p:PT}{pos:Pos}(h:ik P B C op es p):ch P B C (.BoolOp op es pos) p:=h.map fun _ _ _ _ _=>wpAny_isTrue_BoolOp
theorem ak.ifExp {t b o:Expr}{pt:PT}{pb po:PE}{pos:Pos}{R:RR Value T}(hd:Dn R)(ht:ch P B C t pt)(h1:ak P B C b pb R)(h2:ak P B C o po R):ak P B C (.IfExp t b o pos) (yW pt pb po) R:=
 (ht.ite hd h1 h2).map fun A env Q E s h=>wpAny_IfExp (wpAny_mono h (fun b s h=>by cases b<;>exact h) fun _ _ h=>h)
theorem ak.not {e:Expr}{p:PE}{pos:Pos}(h:ak P B C e p (RX P)):ak P B C (.UnaryOp .Not e pos) (gF p) (RV P):=
 (h.xy.op1 (N:=Cz P (unaryOp .Not)) kq fun A env g σ s x t y Q E rm w r e hq=>by
  obtain ⟨b,e1,rfl⟩:=Option.map_eq_some_iff.mp e
  exact not_value (gf r e1 (hq _ s g (.refl g s) w rfl))).map fun _ _ _ _ _=>wpAny_UnaryOp
noncomputable abbrev iK (P:Pg)(B:bB)(C:Ct)(op:BoolOp)(es:List Expr)(p:PE):Prop:=∀pos,dc P B C (P.W fun env=>boolOp pos op (evalEach es env)) p (RV P)
theorem iK.one {op:BoolOp}{e:Expr}{p:PE}(h:ak P B C e p (RV P)):iK P B C op [e] p:=fun _=>h
theorem iK.and {e e':Expr}{es:List Expr}{p ps:PE}(h:ak P B C e p (RV P))(hs:iK P B C .And (e'::es) ps):iK P B C .And (e::e'::es) (iD p ps):=fun pos=>
 (h.bind (N:=fun A env v Q E s=>wpAny P.M A (do standAt pos;let t ←holding [v] (truthy v);match BoolOp.And,t with |.And,false |.Or,true=>pure v |_,_=>boolOp pos .And (evalEach (e'::es) env)) Q E s)
  (F:=fun cx ρ k v σ=>match cN v with |some true=>ps cx ρ σ k |some false=>k v σ |none=>.bad) (R':=RV P) kq fun n A env g g₁ ρ σ s s₁ x t k Q E p X r hb hq=>by
   cases e:cN t with
   |none=>rw [e] at hb;exact absurd rfl hb
   |some b=>
    rw [e] at hb hq
    refine wpAny_bind (wpAny_standAt (wpAny_bind (wpAny_holding (gf (.inl r) e ?_))))
    cases b with
    |true=>exact hs pos n A env g₁ ρ σ s₁ k Q E X hb hq
    |false=>exact wpAny_pure (hq x s₁ g₁ t σ rfl (.refl _ _) X.g r)).map fun _ _ _ _ _=>wpAny_bind
theorem iK.or {e e':Expr}{es:List Expr}{p ps:PE}(h:ak P B C e p (RV P))(hs:iK P B C .Or (e'::es) ps):iK P B C .Or (e::e'::es) (v9 p ps):=fun pos=>
 (h.bind (N:=fun A env v Q E s=>wpAny P.M A (do standAt pos;let t ←holding [v] (truthy v);match BoolOp.Or,t with |.And,false |.Or,true=>pure v |_,_=>boolOp pos .Or (evalEach (e'::es) env)) Q E s)
  (F:=fun cx ρ k v σ=>match cN v with |some true=>k v σ |some false=>ps cx ρ σ k |none=>.bad) (R':=RV P) kq fun n A env g g₁ ρ σ s s₁ x t k Q E p X r hb hq=>by
   cases e:cN t with
   |none=>rw [e] at hb;exact absurd rfl hb
   |some b=>
    rw [e] at hb hq
    refine wpAny_bind (wpAny_standAt (wpAny_bind (wpAny_holding (gf (.inl r) e ?_))))
    cases b with
    |false=>exact hs pos n A env g₁ ρ σ s₁ k Q E X hb hq
    |true=>exact wpAny_pure (hq x s₁ g₁ t σ rfl (.refl _ _) X.g r)).map fun _ _ _ _ _=>wpAny_bind
theorem ak.boolOp {op:BoolOp}{es:List Expr}{p:PE}{pos:Pos}(h:iK P B C op es p):ak P B C (.BoolOp op es pos) p (RV P):=h pos
theorem f0.nil:f0 P B C [] ah:=⟨(fun _ _ q=>nomatch q),fun pos=>dc.now fun _ _ _ _ _ _ _ _ _ _ _ _ hq=>wpAny_items_nil (hq _ _ _ rfl rfl)⟩
theorem f0.cons {e:Expr}{es:List Expr}{p:PE}{ps:PL}(hn:∀env,starEach (e::es) env=(false,eval e env)::starEach es env)(h:ak P B C e p (RV P))(hs:f0 P B C es ps):f0 P B C (e::es) (aa p ps):=⟨fun env q hq=>by
 rw [hn] at hq
 cases hq with
 |head=>rfl
 |tail _ hq=>exact hs.pl env q hq,fun pos=>
 (h.bind (N:=fun A env v Q E s=>wpAny P.M A (spliced (backTo pos (starEach es env))) (fun vs s₁=>Q (v::vs) s₁) E s) (F:=fun c ρ k v σ=>ps c ρ σ fun vs σ=>k (v::vs) σ) (R':=RL P) He fun n A env g g₁ ρ σ s s₁ x t k Q E p X r hb hq=>
  hs.sim pos n A env g₁ ρ σ s₁ _ _ E X hb fun xs s₂ g₂ ts σ₂ e p₂ w₂ r₂=>hq _ s₂ g₂ _ σ₂ e p₂ w₂ (aR.cons (Rp.mono (p₂.k X.g) r) r₂)).map fun _ env _ _ _ h=>wpAny_items_cons h (hn env)⟩
theorem bj {k:Nat}(h:k≤lim):k≤sizeLine:=Nat.le_trans h (by decide)
theorem fK {n:Nat}(h:bS n=true):n≤lim:=Nat.le_of_ble_eq_true h
theorem kg {c:Bool}{o:cc}(h:gd c o≠.bad):c=true:=by cases c with
 |true=>rfl
 |false=>exact absurd rfl h
theorem jU {c:Bool}{o:cc}(h:(bif c then o else .bad)≠.bad):c=true:=by cases c with
 |true=>rfl
 |false=>exact absurd rfl h
theorem bQ (s:Shared)(ob:Obj):∀a o,s.heap.get? a=some o→(s.heap.push ob).get? a=some o:=fun _ _ e=>Heap.get?_push_of_some _ e
theorem dj {g:Gh}{s:Shared}{σ:Sg}(w:bv P g s.heap σ):¬g.F s.heap.objs.size∧¬g.Z s.heap.objs.size∧¬g.O s.heap.objs.size:=⟨fun q=>w.F _ q (aF _),fun q=>(w.Z _ q).1 (aF _),fun q=>(w.O _ q).1 (aF _)⟩
theorem bv.push {g:Gh}{s:Shared}{σ:Sg}(w:bv P g s.heap σ)(ob:Obj):bv P g (s.heap.push ob) σ:=w.grow (bQ s ob) g.F (fun _ h=>h) fun _ h=>.inl h
theorem aE.push {g:Gh}{s:Shared}(ob:Obj)(t:Nat):aE g s g {s with heap:=s.heap.push ob,toks:=t}:=.grow t (bQ s ob) g.F (fun _ h=>h) fun _ h=>.inl h
theorem bI {h:Heap}(ob:Obj)(hf:ob.isFreed=false:=by rfl):(h.push ob).get? h.objs.size=some ob:=Heap.get?_push_size _ hf
theorem bv.pushF {g:Gh}{s:Shared}{σ:Sg}(w:bv P g s.heap σ)(ob:Obj)(hf:ob.isFreed=false:=by rfl):bv P {g with F:=fun y=>g.F y∨y=s.heap.objs.size} (s.heap.push ob) σ:=w.grow (bQ s ob) _ (fun _ h=>.inl h) fun a h=>h.elim .inl fun e=>.inr (e▸⟨aF _,an (bI ob hf)⟩)
theorem aE.pushF {g:Gh}{s:Shared}(ob:Obj)(t:Nat):aE g s {g with F:=fun y=>g.F y∨y=s.heap.objs.size} {s with heap:=s.heap.push ob,toks:=t}:=.grow t (bQ s ob) _ (fun _ h=>.inl h) fun a h=>h.elim .inl fun e=>.inr (e▸aF _)
theorem rU {g:Gh}{s:Shared}{σ:Sg}{ts:List T}{xs:List Value}{tk:Nat}(w:bv P g s.heap σ)(r:aR P g s.heap ts xs)(hl:ts.length≤lim){Q:Value→Shared→Prop}(hq:∀u s' g',aE g s g' s'→bv P g' s'.heap σ→Rp P g' s'.heap (.tup ts) u→Q u s'):
  Q (.ref s.heap.objs.size) {s with heap:=s.heap.push (ia xs.toArray 0),toks:=tk}:=
 hq _ _ _ (.pushF _ tk) (w.pushF _) ⟨_,rfl,.inr rfl,_,_,bI _,hl,r.mono ((aE.pushF _ 0).k w)⟩
theorem tG {g:Gh}{s:Shared}{σ:Sg}{ts:List T}{xs:List Value}{tk:Nat}(w:bv P g s.heap σ)(r:aR P g s.heap ts xs)(hl:ts.length≤lim){Q:Value→Shared→Prop}(hq:∀u s' g',aE g s g' s'→bv P g' s'.heap σ→As P s.heap g' s'.heap (.lst ts) u→Q u s'):
  Q (.ref s.heap.objs.size) {s with heap:=s.heap.push (br xs.toArray 0),toks:=tk}:=
 hq _ _ _ (.push _ tk) (w.push _) ⟨_,rfl,aF _,(dj w).1,(dj w).2.1,(dj w).2.2,_,_,bI _,hl,r.mono ((aE.push (br xs.toArray 0) 0).k w)⟩
theorem ak.tup {es:List Expr}{ps:PL}{k:Nat}{pos:Pos}(h:f0 P B C es ps):ak P B C (.Tuple es k pos) (az ps) (RV P):=
 ((h.sim pos).bind (N:=fun A env xs Q E s=>xs.length≤sizeLine∧Q (.ref s.heap.objs.size) {s with heap:=s.heap.push (ia xs.toArray 0)}) (F:=fun c ρ k vs σ=>bif bS vs.length then k (.tup vs) σ else .bad) (R':=RV P) kq fun n A env g g₁ ρ σ s s₁ x t k Q E p X r hb hq=>by
  have hl:=fK (jU hb)
  exact ⟨bj (r.length▸hl),rU (tk:=s₁.toks) X.g r hl fun u s' g' p w r=>hq u s' g' _ σ (by rw [jU hb];rfl) p w r⟩).map fun _ _ _ _ _=>wpAny_Tuple
theorem ak.list {es:List Expr}{ps:PL}{pos:Pos}(h:f0 P B C es ps):ak P B C (.List es pos) (aW ps) (RN P):=
 ((h.sim pos).bind (N:=fun A env xs Q E s=>xs.length≤sizeLine∧Q (.ref s.heap.objs.size) {s with heap:=s.heap.push (br xs.toArray 0)}) (F:=fun c ρ k vs σ=>bif bS vs.length then k (.lst vs) σ else .bad) (R':=RN P) DP fun n A env g g₁ ρ σ s s₁ x t k Q E p X r hb hq=>by
  have hl:=fK (jU hb)
  exact ⟨bj (r.length▸hl),tG (tk:=s₁.toks) X.g r hl fun u s' g' p w r=>hq u s' g' _ σ (by rw [jU hb];rfl) p w r⟩).map fun _ _ _ _ _=>wpAny_List
end
end
end Mine
namespace Mine
noncomputable section
open PySem PyProof.Rows PySem.SeqAt
section
variable {P:Pg} {B:bB} {C:Ct} {g:Gh} {h:Heap} {t:T} {x:Value}
theorem Cu {b:Bool}(e:EK t=some b):t=.bool b:=by cases t<;>cases e;rfl
theorem nc {i:Int}(e:iN t=some i):t=.int i:=by cases t<;>cases e;rfl
theorem xX {i:Str}(e:rF t=some i):t=.str i:=by cases t<;>cases e;rfl
theorem jW {i:List T}(e:pP t=some i):t=.tup i:=by cases t<;>cases e;rfl
theorem eh {i:List T}(e:fZ t=some i):t=.lst i:=by cases t<;>cases e;rfl
theorem Cr {i:List Int}(e:CM t=some i):t=.scr i:=by cases t<;>cases e;rfl
theorem eU.v (q:eU P g h t x)(h1:∀a,gS P g h a t→False):Rp P g h t x:=q.elim id fun ⟨a,_,r⟩=>(h1 a r).elim
theorem eU.b {b:Bool}(q:eU P g h t x)(e:EK t=some b):x=.bool b:=by cases Cu e;exact q.v fun _ h=>h
theorem eU.i {i:Int}(q:eU P g h t x)(e:iN t=some i):∃p,x=.int i p:=by cases nc e;exact q.v fun _ h=>h
theorem eU.s {s:Str}(q:eU P g h t x)(e:rF t=some s):(PyData.strOk s=true∧s.length≤lim)∧∃p,x=.str s p:=by cases xX e;exact q.v fun _ h=>h
theorem eU.n {s:List Int}(q:eU P g h t x)(e:CM t=some s):GP P s x:=by cases Cr e;exact q.v fun _ h=>h
theorem eU.tu {ts:List T}(q:eU P g h t x)(e:pP t=some ts):Fz g (yh h ia (aR P g h ts) ts.length) x:=by cases jW e;exact q.v fun _ h=>h
theorem eU.ls {ts:List T}(q:eU P g h t x)(e:fZ t=some ts):∃a,x=.ref a∧yh h br (aR P g h ts) ts.length a:=by cases eh e;exact q.elim (fun r=>let ⟨a,e,_,o⟩:=r;⟨a,e,o⟩) id
theorem ar {α β:Type}{a:Option α}{f:α→Option β}{y:β}(h:o1 a f=some y):∃x,a=some x∧f x=some y:=by
 cases a with
 |none=>cases h
 |some x=>exact ⟨x,rfl,h⟩
theorem bc {α β γ:Type}{a:Option α}{b:Option β}{f:α→β→Option γ}{y:γ}(h:o2 a b f=some y):∃x z,a=some x∧b=some z∧f x z=some y:=by
 cases a with
 |none=>cases h
 |some x=>cases b with
  |none=>cases h
  |some z=>exact ⟨x,z,rfl,rfl,h⟩
structure Rd (h:Heap) (x:Value) (d:PyData) (n:Nat):Prop where
 r:∃as,Reads h x d as
 c:d.canLay0=true
 l:d.depth≤n
structure Hg (h:Heap) (x:List Value) (d:List PyData) (n:Nat):Prop where
 r:∃as,ReadsAll h x d as
 c:PyData.canLayAll0 d=true
 l:PyData.depthAll d≤n
theorem eX {f:T→Option PyData}{n:Nat}(ih:∀t x d,f t=some d→Rp P g h t x→Rd h x d n):∀(ts:List T) (xs:List Value) (ds:List PyData),eS f ts=some ds→aR P g h ts xs→Hg h xs ds n
 | [],_,_,e,r=>by cases r;cases e;exact ⟨⟨[],.nil⟩,rfl,Nat.zero_le _⟩
 |t::ts,_,_,e,⟨x,xs,e',r,rs⟩=>by
  subst e'
  unfold eS at e
  cases hd:f t with
  |none=>rw [hd] at e;cases e
  |some d=>
   rw [hd] at e
   obtain ⟨ds,hds,rfl⟩:=Option.map_eq_some_iff.mp e
   obtain ⟨⟨as,h1⟩,h2,h3⟩:=ih t x d hd r
   obtain ⟨⟨bs,h4⟩,h5,h6⟩:=eX ih ts xs ds hds rs
   exact ⟨⟨as++bs,.cons h1 h4⟩,Bool.and_eq_true_iff.mpr ⟨h2,h5⟩,Nat.max_le.mpr ⟨h3,h6⟩⟩
theorem dq:∀n t x d,cR n t=some d→eU P g h t x→Rd h x d n:=by
 have base:∀n t x d,(match t with |.tup _=>False |.lst _=>False |_=>True)→cR n t=some d→eU P g h t x→Rd h x d n:=fun n t x d ht e q=>by
  cases t with
  |none=>cases n<;>cases e<;>(rw [show x=_ from q.v fun _ h=>h];exact ⟨⟨[],.none⟩,rfl,Nat.zero_le _⟩)
  |bool b=>cases n<;>cases e<;>(rw [q.b rfl];exact ⟨⟨[],.bool _⟩,rfl,Nat.zero_le _⟩)
  |int i=>obtain ⟨p,rfl⟩:=q.i rfl;cases n<;>cases e<;>exact ⟨⟨[],.int _ _⟩,rfl,Nat.zero_le _⟩
  |str s=>obtain ⟨⟨h1,_⟩,p,rfl⟩:=q.s rfl;cases n<;>cases e<;>exact ⟨⟨[],.str _ _⟩,h1,Nat.zero_le _⟩
  |tup=>exact ht.elim
  |lst=>exact ht.elim
  |_=>cases n<;>cases e
 intro n
 induction n with
 |zero=>
  intro t x d e q
  cases t with
  |tup=>cases e
  |lst=>cases e
  |_=>exact base 0 _ x d trivial e q
 |succ n ih=>
  intro t x d e q
  cases t with
  |tup ts=>
   obtain ⟨ds,hd,rfl⟩:=Option.map_eq_some_iff.mp e
   obtain ⟨a,rfl,_,vs,m,e1,_,r⟩:=q.tu rfl
   obtain ⟨⟨as,q1⟩,q2,q3⟩:=eX (fun t x d e r=>ih t x d e (.inl r)) ts _ ds hd r
   exact ⟨⟨as,.tuple e1 rfl rfl q1⟩,q2,Nat.succ_le_succ q3⟩
  |lst ts=>
   obtain ⟨ds,hd,rfl⟩:=Option.map_eq_some_iff.mp e
   obtain ⟨a,rfl,vs,m,e1,_,r⟩:=q.ls rfl
   obtain ⟨⟨as,q1⟩,q2,q3⟩:=eX (fun t x d e r=>ih t x d e (.inl r)) ts _ ds hd r
   exact ⟨⟨a::as,.list e1 rfl rfl q1⟩,q2,Nat.succ_le_succ q3⟩
  |_=>exact base (n+1) _ x d trivial e q
theorem kY {A:Around}{a b:Nat}(rm:Rm A)(h:a≤cQ):A.units+1+min a b < cLine:=by
 have:=rm.units
 have:min a b≤50:=Nat.le_trans (Nat.min_le_left _ _) h
 lia -abstractProof
theorem DZ:jw P .Eq bD:=fun A g σ s x x' t t' b Q E rm w q q' e k=>by
 obtain ⟨d,d',h1,h2,h3⟩:=bc e
 obtain ⟨⟨_,r1⟩,c1,l1⟩:=dq cQ t x d h1 q
 obtain ⟨⟨_,r2⟩,c2,l2⟩:=dq cQ t' x' d' h2 q'
 cases h3
 exact compareEq_reads r1 r2 c1 c2 (Nat.lt_of_le_of_lt (by lia) (kY (b:=d'.depth) rm l1)) (k s.toks)
theorem DT:jw P .NotEq j8:=fun A g σ s x x' t t' b Q E rm w q q' e k=>by
 obtain ⟨c,e1,rfl⟩:=Option.map_eq_some_iff.mp e
 obtain ⟨d,d',h1,h2,h3⟩:=bc e1
 obtain ⟨⟨_,r1⟩,c1,l1⟩:=dq cQ t x d h1 q
 obtain ⟨⟨_,r2⟩,c2,l2⟩:=dq cQ t' x' d' h2 q'
 cases h3
 exact compareNe_reads r1 r2 c1 c2 (Nat.lt_of_le_of_lt (by lia) (kY (b:=d'.depth) rm l1)) (k s.toks)
theorem dp {α:Type}{t':T}{x':Value}{f:Int→Int→Option α}{y:α}(q:eU P g h t x)(q':eU P g h t' x')(e:o2 (iN t) (iN t') f=some y):∃i j p p',x=.int i p∧x'=.int j p'∧f i j=some y:=by
 obtain ⟨i,j,h1,h2,h3⟩:=bc e
 obtain ⟨p,e1⟩:=q.i h1
 obtain ⟨p',e2⟩:=q'.i h2
 exact ⟨i,j,p,p',e1,e2,h3⟩
theorem DU:jw P .Lt tE:=fun A g σ s x x' t t' b Q E rm w q q' e k=>by
 obtain ⟨i,j,p,p',rfl,rfl,e⟩:=dp q q' e
 cases e;exact PySem.P.lt_int (k s.toks)
theorem DV:jw P .LtE AO:=fun A g σ s x x' t t' b Q E rm w q q' e k=>by
 obtain ⟨i,j,p,p',rfl,rfl,e⟩:=dp q q' e
 cases e;exact PySem.P.le_int (k s.toks)
theorem DX:jw P .Gt rQ:=fun A g σ s x x' t t' b Q E rm w q q' e k=>by
 obtain ⟨i,j,p,p',rfl,rfl,e⟩:=dp q q' e
 cases e;exact PySem.P.gt_int (k s.toks)
theorem DY:jw P .GtE GL:=fun A g σ s x x' t t' b Q E rm w q q' e k=>by
 obtain ⟨i,j,p,p',rfl,rfl,e⟩:=dp q q' e
 cases e;exact PySem.P.ge_int (k s.toks)
inductive Gr (P:Pg) (g:Gh) (h:Heap) (ts:List T) (x:Value):Prop
 |tup (a:Addr) (vs:Array Value) (n:Nat) (e:x=.ref a) (e':h.get? a=some (ia vs n)) (l:ts.length≤lim) (r:aR P g h ts vs.toList)
 |lst (a:Addr) (vs:Array Value) (n:Nat) (e:x=.ref a) (e':h.get? a=some (br vs n)) (l:ts.length≤lim) (r:aR P g h ts vs.toList)
theorem eU.sq {ts:List T}(q:eU P g h t x)(e:gj t=some ts):Gr P g h ts x:=by
 unfold gj el at e
 cases e1:pP t with
 |some us=>rw [e1] at e;cases e;obtain ⟨a,e,_,vs,n,e',l,r⟩:=q.tu e1;exact .tup a vs n e e' l r
 |none=>rw [e1] at e;obtain ⟨a,e,vs,n,e',l,r⟩:=q.ls e;exact .lst a vs n e e' l r
inductive Hi (h:Heap) (A:Around) (x x':Value) (b:Bool):Prop
 |mk (d:PyData) (ds:List PyData) (as bs:List Addr) (e:b=ds.any fun y=>PyData.eqv y d) (r:Reads h x' (.list ds) as∨Reads h x' (.tuple ds) as) (r':Reads h x d bs) (c:PyData.canLayAll0 ds=true) (c':d.canLay0=true) (l:A.units+1+min (PyData.depthAll ds) d.depth < cLine)
theorem qN {A:Around}{x':Value}{t':T}{b:Bool}(rm:Rm A)(q:eU P g h t x)(q':eU P g h t' x')(e:fT t t'=some b):Hi h A x x' b:=by
 obtain ⟨ts,e1,e⟩:=ar e
 obtain ⟨d,ds,h1,h2,e⟩:=bc e
 obtain ⟨⟨_,r1⟩,c1,l1⟩:=dq cQ t x d h1 q
 have ra:=fun xs r=>eX (fun t x d e r=>dq cQ t x d e (.inl r)) ts xs ds h2 (P:=P) (g:=g) (h:=h) r
 cases e
 rcases q'.sq e1 with ⟨a,vs,n,rfl,e',l,r⟩ | ⟨a,vs,n,rfl,e',l,r⟩
 ·obtain ⟨⟨_,r2⟩,c2,l2⟩:=ra _ r
  exact ⟨d,ds,_,_,rfl,.inr (.tuple e' rfl rfl r2),r1,c2,c1,kY rm l2⟩
 ·obtain ⟨⟨_,r2⟩,c2,l2⟩:=ra _ r
  exact ⟨d,ds,_,_,rfl,.inl (.list e' rfl rfl r2),r1,c2,c1,kY rm l2⟩
theorem DW:jw P .In fT:=fun A g σ s x x' t t' b Q E rm w q q' e k=>by
 obtain ⟨d,ds,as,bs,rfl,r |r,h1,h2,h3,h4⟩:=qN rm q q' e
 ·exact in_list_reads r h1 h2 h3 h4 (k s.toks)
 ·exact in_tuple_reads r h1 h2 h3 h4 (k s.toks)
theorem xI:jw P .NotIn eY:=fun A g σ s x x' t t' b Q E rm w q q' e k=>by
 obtain ⟨c,e1,rfl⟩:=Option.map_eq_some_iff.mp e
 obtain ⟨d,ds,as,bs,rfl,r |r,h1,h2,h3,h4⟩:=qN rm q q' e1
 ·exact notIn_list_reads r h1 h2 h3 h4 (k s.toks)
 ·exact notIn_tuple_reads r h1 h2 h3 h4 (k s.toks)
theorem oF {a b:Str}(ha:PyData.strOk a=true)(hb:PyData.strOk b=true):PyData.strOk (a++b)=true:=by
 have:(a++b).cps=a.cps++b.cps:=rfl
 simp only [PyData.strOk,this,Array.all_append,Bool.and_eq_true] at *
 exact ⟨ha,hb⟩
theorem fg {α:Type}{n:Nat}{x y:α}(h:oj n x=some y):n≤lim∧x=y:=by
 unfold oj at h
 cases q:bS n with
 |true=>rw [q] at h;exact ⟨fK q,Option.some.inj h⟩
 |false=>rw [q] at h;cases h
theorem cY {σ:Sg}{s:Shared}{i:Int}{tk p:Nat}(w:bv P g s.heap σ){Q:Value→Shared→Prop}(hq:∀u s' g',aE g s g' s'→bv P g' s'.heap σ→Rp P g' s'.heap (.int i) u→Q u s'):Q (.int i p) {s with toks:=tk}:=hq _ _ g (.toks g s tk) w ⟨_,rfl⟩
theorem qQ {ts:List T}{vs:Array Value}(r:aR P g h ts vs.toList)(e:vs.isEmpty=true):ts=[]:=by
 have z:vs.toList=[]:=Array.toList_eq_nil_iff.mpr (Array.isEmpty_iff.mp e)
 rw [z] at r
 have:=r.length
 exact List.length_eq_zero_iff.mp this.symm
theorem rG {ts us:List T}{vs vs':Array Value}(r:aR P g h ts vs.toList)(r':aR P g h us vs'.toList)(hl:(ts++us).length≤lim):vs.size+vs'.size≤lim:=by
 rw [List.length_append,←r.length,←r'.length] at hl;exact hl
theorem jg {σ:Sg}{s:Shared}{ts:List T}{xs:List Value}{tk:Nat}(w:bv P g s.heap σ)(r:aR P g s.heap ts xs)(hl:ts.length≤lim){Q:Value→Shared→Prop}(hq:∀u s' g',aE g s g' s'→bv P g' s'.heap σ→Rp P g' s'.heap (.lst ts) u→Q u s'):
  Q (.ref s.heap.objs.size) {s with heap:=s.heap.push (br xs.toArray 0),toks:=tk}:=
 hq _ _ _ (.pushF _ tk) (w.pushF _) ⟨_,rfl,.inr rfl,_,_,bI _,hl,r.mono ((aE.pushF (br xs.toArray 0) 0).k w)⟩
theorem ub (vs vs':Array Value):vs++vs'=(vs.toList++vs'.toList).toArray:=by simp
theorem Di:pX P (Ao P (binaryOp .Add)) aC (RV P):=fun A env g σ s x x' t t' y Q E rm w q q' e hq=>by
 unfold aC at e
 cases e1:iN t with
 |some i=>
  rw [e1] at e
  obtain ⟨j,e2,e⟩:=ar e
  obtain ⟨p,rfl⟩:=q.i e1
  obtain ⟨p',rfl⟩:=q'.i e2
  cases e;exact PySem.P.add_int (cY w hq)
 |none=>cases e2:rF t with
  |some a=>
   rw [e1,e2] at e
   obtain ⟨b,e3,e⟩:=ar e
   obtain ⟨⟨h1,_⟩,p,rfl⟩:=q.s e2
   obtain ⟨⟨h3,_⟩,p',rfl⟩:=q'.s e3
   obtain ⟨hl,rfl⟩:=fg e
   exact add_str (fun t' tk=>hq _ _ g (.toks g s tk) w ⟨⟨oF h1 h3,hl⟩,_,rfl⟩) (Nat.le_trans (by have:(a++b).length=a.length+b.length:=Array.size_append;lia -abstractProof) (bj hl))
  |none=>cases e3:pP t with
   |some ts=>
    rw [e1,e2,e3] at e
    obtain ⟨us,e4,e⟩:=ar e
    obtain ⟨hl,rfl⟩:=fg e
    have qt:=q.tu e3
    have qu:=q'.tu e4
    obtain ⟨a,rfl,f,vs,n,g1,l1,r1⟩:=id qt
    obtain ⟨a',rfl,f',vs',n',g2,l2,r2⟩:=id qu
    by_cases z1:vs.isEmpty=true
    ·obtain rfl:=qQ r1 z1
     exact concat_meets ⟨_,g1,rfl⟩ ⟨_,g2,rfl⟩ noFill_tuple_add seq_tuple_add F.slot_tuple_add F.entry_tuple_add (F.args_tuple_add_2 _ _) (tuple_addW0 a a' vs vs' n n' none none #[] #[] z1) ⟨g1,g2,hq _ s g (.refl g s) w qu⟩
    ·by_cases z2:vs'.isEmpty=true
     ·obtain rfl:=qQ r2 z2
      rw [List.append_nil] at hq
      exact concat_meets ⟨_,g1,rfl⟩ ⟨_,g2,rfl⟩ noFill_tuple_add seq_tuple_add F.slot_tuple_add F.entry_tuple_add (F.args_tuple_add_2 _ _) (tuple_addW1 a a' vs vs' n n' none none #[] #[] z1 z2) ⟨g1,g2,hq _ s g (.refl g s) w qt⟩
     ·refine PySem.P.add_tuple g1 g2 z1 z2 ?_ (bj (rG r1 r2 hl))
      rw [ub]
      exact rU (tk:=s.toks) w (aR.append r2 r1) hl hq
   |none=>
    rw [e1,e2,e3] at e
    obtain ⟨ts,us,e4,e5,e⟩:=bc e
    obtain ⟨hl,rfl⟩:=fg e
    obtain ⟨a,rfl,vs,n,g1,l1,r1⟩:=q.ls e4
    obtain ⟨a',rfl,vs',n',g2,l2,r2⟩:=q'.ls e5
    refine PySem.P.add_list g1 g2 ?_ (bj (rG r1 r2 hl))
    rw [ub]
    exact jg (tk:=s.toks) w (aR.append r2 r1) hl hq
theorem Dd:pX P (Ao P (binaryOp .Sub)) cA (RV P):=fun A env g σ s x x' t t' y Q E rm w q q' e hq=>by
 obtain ⟨i,j,p,p',rfl,rfl,e⟩:=dp q q' e
 cases e;exact PySem.P.sub_int (cY w hq)
theorem rA {α:Type}{c:Bool}{x y:α}(h:(bif c then none else some x)=some y):c=false∧x=y:=by
 cases c with
 |true=>cases h
 |false=>exact ⟨rfl,Option.some.inj h⟩
theorem cz {α:Type}{c:Bool}{x y:α}(h:(bif c then some x else none)=some y):c=true∧x=y:=by
 cases c with
 |true=>exact ⟨rfl,Option.some.inj h⟩
 |false=>cases h
theorem Dh:pX P (Ao P (binaryOp .FloorDiv)) cb (RV P):=fun A env g σ s x x' t t' y Q E rm w q q' e hq=>by
 unfold cb at e
 obtain ⟨i,j,p,p',rfl,rfl,e1⟩:=dp q q' e
 obtain ⟨c,rfl⟩:=rA e1
 obtain ⟨c1,c2⟩:=Bool.or_eq_false_iff.mp c
 exact floordiv_int (beq_eq_false_iff_ne.mp c1) (cY w hq) (.inl (PyProof.noPylong_small (Nat.lt_of_not_le fun q=>by rw [Nat.ble_eq_true_of_le q] at c2;cases c2)))
theorem Dg:pX P (Ao P (binaryOp .Mod)) aV (RV P):=fun A env g σ s x x' t t' y Q E rm w q q' e hq=>by
 unfold aV at e
 obtain ⟨i,j,p,p',rfl,rfl,e1⟩:=dp q q' e
 obtain ⟨c,rfl⟩:=rA e1
 exact mod_int' (beq_eq_false_iff_ne.mp c) (cY w hq)
theorem vF {i:Int}(h:sm i=true):i.natAbs≤1000000000:=Nat.le_of_ble_eq_true h
theorem td {i:Int}(h:sm i=true):Builtin.Int.intBits i≤64:=by
 have q:(i.natAbs:Int)≤1000000000:=Int.ofNat_le.mpr (vF h)
 exact intBits_le_64 (Int.neg_lt_of_neg_lt (Int.lt_of_le_of_lt (Int.le_trans (Int.natAbs_neg i▸Int.le_natAbs) q) (by decide))) (Int.lt_of_le_of_lt (Int.le_trans Int.le_natAbs q) (by decide))
theorem Df:pX P (Ao P (binaryOp .Mult)) jK (RV P):=fun A env g σ s x x' t t' y Q E rm w q q' e hq=>by
 unfold jK at e
 obtain ⟨i,j,p,p',rfl,rfl,e1⟩:=dp q q' e
 obtain ⟨c,rfl⟩:=cz e1
 exact PySem.P.mul_int (cY w hq) ((Bool.or_eq_true_iff.mp c).elim (fun q=>.of_left (td q)) fun q=>.of_right (td q))
theorem ak.neg {e:Expr}{p:PE}{pos:Pos}(h:ak P B C e p (RX P)):ak P B C (.UnaryOp .USub e pos) (p1 kG p) (RV P):=
 (h.xy.op1 (N:=Cz P (unaryOp .USub)) kq fun A env g σ s x t y Q E rm w r e hq=>by
  obtain ⟨i,e1,e2⟩:=ar e
  obtain ⟨p,rfl⟩:=r.i e1
  cases e2;exact PySem.P.neg_int (cY w hq)).map fun _ _ _ _ _=>wpAny_UnaryOp
end
section
variable {P:Pg} {B:bB} {C:Ct}
theorem lA {i:Int}{n k:Nat}(h:seqIndex? i n=some k):(0≤i∧k=i.toNat∧i < n)∨(i < 0∧-(n:Int)≤i∧k=(i+n).toNat):=by
 have h:(if (decide (0≤(if i < 0 then i+n else i))&&decide ((if i < 0 then i+n else i) < (n:Int)))=true then some (if i < 0 then i+n else i).toNat else none)=some k:=h
 by_cases q:i < 0
 ·rw [if_pos q] at h
  cases c:decide (0≤i+(n:Int))&&decide (i+(n:Int) < (n:Int)) with
  |false=>rw [c] at h;cases h
  |true=>
   rw [c] at h;cases h
   exact .inr ⟨q,by have:=of_decide_eq_true (Bool.and_eq_true_iff.mp c).1;lia -abstractProof,rfl⟩
 ·rw [if_neg q] at h
  cases c:decide (0≤i)&&decide (i < (n:Int)) with
  |false=>rw [c] at h;cases h
  |true=>
   rw [c] at h;cases h
   exact .inl ⟨of_decide_eq_true (Bool.and_eq_true_iff.mp c).1,rfl,of_decide_eq_true (Bool.and_eq_true_iff.mp c).2⟩
theorem yN {p:Str}{c:Nat}{k:Option Nat}(g:PyData.strOk p=true)(hv:k.bind (p.cps[·]?)=some c):PyData.strOk ⟨#[c]⟩=true:=by
 obtain ⟨k,_,hk⟩:=Option.bind_eq_some_iff.mp hv
 simp only [PyData.strOk,Array.all_eq_true,decide_eq_true_eq] at g ⊢
 intro j hj
 obtain ⟨hk1,hk2⟩:=Array.getElem?_eq_some_iff.mp hk
 have:=g k hk1
 simp at hj;subst hj
 simpa [hk2] using this
theorem aR.size {g:Gh}{h:Heap}{ts:List T}{vs:Array Value}(r:aR P g h ts vs.toList):vs.size=ts.length:=r.length
theorem qh {i:Int}(h:sm i=true):-(2 ^ 63:Int)≤i∧i < 2 ^ 63:=
 have q:(i.natAbs:Int)≤1000000000:=Int.ofNat_le.mpr (vF h)
 ⟨Int.neg_le_of_neg_le (Int.le_trans (Int.le_trans (Int.natAbs_neg i▸Int.le_natAbs) q) (by decide)),Int.lt_of_le_of_lt (Int.le_trans Int.le_natAbs q) (by decide)⟩
inductive Hk (i:Int) (ts:List T) (y:T):Prop
 |mk (k:Nat) (s:sm i=true) (hk:seqIndex? i ts.length=some k) (hx:ts[k]?=some y)
theorem rE {i:Int}{ts:List T}{y:T}(h:yu i ts=some y):Hk i ts y:=by
 unfold yu at h
 cases q:sm i with
 |false=>rw [q] at h;cases h
 |true=>rw [q] at h;obtain ⟨k,h1,h2⟩:=ar h;exact ⟨k,q,h1,h2⟩
theorem ox.rp {g:Gh}{h:Heap}:∀{ns:List Int} {vs:List Value},ox ns vs→aR P g h (ns.map T.int) vs
 | [],_,r=>r
 |_::_,_,⟨t,vs',e,r⟩=>⟨_,vs',e,⟨t,rfl⟩,ox.rp r⟩
theorem qL {A:Around}{g:Gh}{σ:Sg}{s:Shared}{ts:List T}{l:Addr}{items:Array Value}{i:Int}{p:Tok}{y:T}{Q:Value→Shared→Prop}{E:Value→Shared→Prop}(w:bv P g s.heap σ)(hl:s.heap.IsList l items)(r:aR P g s.heap ts items.toList)(e:yu i ts=some y)
  (hq:∀u s' g',aE g s g' s'→bv P g' s'.heap σ→Rp P g' s'.heap y u→Q u s'):wpAny P.M A (getItem (.ref l) (.int i p)) Q E s:=by
 obtain ⟨k,hs,hk,hx⟩:=rE e
 obtain ⟨u,hu,hR⟩:=r.get hx
 rw [Array.getElem?_toList] at hu
 have hlen:items.size=ts.length:=r.length
 rcases lA hk with ⟨h0,rfl,h1⟩ | ⟨h0,h1,rfl⟩
 ·exact wpAny_getItem_list hl h0 (qh hs).2 hu (hq u s g (.refl g s) w hR)
 ·rw [←hlen] at h1 hu
  exact wpAny_getItem_list_neg hl h0 h1 (qh hs).1 (x:=u) hu (hq u s g (.refl g s) w hR)
noncomputable abbrev yf (P:Pg)(value slice:Expr):W2 Value:=fun A _ x y Q E s=>wpAny P.M A (subscriptTail value slice x y) Q E s
theorem wd {value slice:Expr}(hs:∀x y,subscripted slice false x y=operate [x,y] (getItem x y)):pX P (yf P value slice) aj (RV P):=fun A env g σ s x x' t t' y Q E rm w q q' e hq=>by
 obtain ⟨i,e1,e2⟩:=ar e
 obtain ⟨p,rfl⟩:=q'.i e1
 cases e3:gj t with
 |some ts=>
  rw [e3] at e2
  rcases q.sq e3 with ⟨a,vs,n,rfl,h1,l,r⟩ | ⟨a,vs,n,rfl,h1,l,r⟩
  ·obtain ⟨k,h2,hk,hx⟩:=rE e2
   obtain ⟨u,hu,hR⟩:=r.get hx
   rw [Array.getElem?_toList] at hu
   rw [show ts.length=vs.size from r.length.symm] at hk
   exact tail_any ⟨_,h1,rfl⟩ slot_tuple_getitem.lookup (PySem.P.getItem_tuple h1 (qh h2).1 (qh h2).2 hk hu (hq u s g (.refl g s) w hR)) (hs _ _)
  ·have hl:s.heap.IsList a vs:=⟨_,h1,rfl,n,rfl⟩
   exact tail_any hl.typeIs slot_list_getitem.lookup (qL w hl r e2 hq) (hs _ _)
 |none=>cases e4:CM t with
  |some ns=>
   rw [e3,e4] at e2
   obtain ⟨a,items,rfl,⟨o,g1,g2⟩,_,r⟩:=q.n e4
   have hl:s.heap.IsList a items:=⟨o,(w.base _ _ g1).2,g2⟩
   exact tail_any hl.typeIs slot_list_getitem.lookup (qL w hl r.rp e2 hq) (hs _ _)
  |none=>
   rw [e3,e4] at e2
   obtain ⟨z,e5,e6⟩:=ar e2
   obtain ⟨⟨g1,g2⟩,p',rfl⟩:=q.s e5
   unfold ta at e6
   cases h2:sm i with
   |false=>rw [h2] at e6;cases e6
   |true=>
    rw [h2] at e6
    obtain ⟨c,hv,rfl⟩:=Option.map_eq_some_iff.mp e6
    have hlo:=qh h2
    exact tail_any (typeIs_str s z p') slot_str_getitem.lookup (getItem_str (by simp;lia -abstractProof) hv (hq _ _ g (.toks g s _) w ⟨⟨yN g1 hv,show (1:Nat)≤lim by decide⟩,_,rfl⟩)) (hs _ _)
theorem ak.idx {a i:Expr}{pa pi:PE}{pos:Pos}(hs:∀x y,subscripted i false x y=operate [x,y] (getItem x y))(ha:ak P B C a pa (RX P))(hi:ak P B C i pi (RX P)):ak P B C (.Subscript a i pos) (p2 aj pa pi) (RV P):=
 (ha.op2 hi.xy kq (wd hs)).map fun _ _ _ _ _=>Subscript_
theorem aR.cut {g:Gh}{h:Heap}{ts:List T}{xs:List Value}(r:aR P g h ts xs)(lo hi:Option Int):aR P g h (Mine.cut lo hi ts) (Mine.cut lo hi xs):=by
 unfold Mine.cut
 rw [r.length]
 exact (r.drop _).take _
theorem d9 {α:Type}(lo hi:Option Int)(xs:List α):(cut lo hi xs).length≤xs.length:=Nat.le_trans (List.length_take_le' _ _) (by rw [List.length_drop];exact Nat.sub_le _ _)
theorem Aa {α:Type}{lo hi:Option Int}{xs:List α}{a:α}(h:a∈cut lo hi xs):a∈xs:=List.mem_of_mem_drop (List.mem_of_mem_take h)
theorem v8 (items:Array Value)(lo hi:Option Int):slicePick items lo hi none=(cut lo hi items.toList).toArray:=by
 rw [slicePick_plain];simp [cut]
theorem Ae (n:Nat)(i:Int):clipAt n i≤n:=Int.toNat_le.mpr (Int.max_le.mpr ⟨Int.natCast_nonneg n,Int.min_le_right _ _⟩)
theorem s5 (lo hi:Option Int)(n:Nat):Builtin.Slice.sliceAdjust lo hi 1 (n:Int)=(((lo.elim 0 (clipAt n):Nat):Int),((hi.elim n (clipAt n):Nat):Int)):=by
 unfold Builtin.Slice.sliceAdjust
 have h1:¬((1:Int) < 0):=by lia -abstractProof
 simp only [h1,if_false]
 have one:∀i:Int,(if i < 0 then max (i+(n:Int)) 0 else min i (n:Int))=((clipAt n i:Nat):Int):=fun i=>by
  rw [clipAt_cast]
  by_cases q:i < 0
  ·rw [if_pos q,if_pos q,Int.min_eq_left (Int.add_le_of_le_sub_right (by rw [Int.sub_self];exact Int.le_of_lt q)),Int.max_comm]
  ·rw [if_neg q,if_neg q,Int.max_eq_right (Int.le_min.mpr ⟨Int.not_lt.mp q,Int.natCast_nonneg n⟩)]
 cases lo<;>cases hi<;>simp [one]
theorem si (a b:Nat):Builtin.Slice.slicePlaces (a:Int) (b:Int) 1=b - a:=by
 unfold Builtin.Slice.slicePlaces
 rw [if_pos (show (1:Int) > 0 by decide)]
 by_cases q:(a:Int) < b
 ·rw [if_pos q,Int.ediv_one];lia
 ·rw [if_neg q,Nat.sub_eq_zero_of_le (Int.ofNat_le.mp (Int.not_lt.mp q))];rfl
theorem uC (xs:Array Value)(a m:Nat):((List.range m).filterMap fun (k:Nat)=>xs[((a:Int)+(k:Int) * 1).toNat]?)=(xs.toList.drop a).take m:=by
 have e:(fun (k:Nat)=>xs[((a:Int)+(k:Int) * 1).toNat]?)=fun k=>xs[a+k]?:=by
  funext k
  have:((a:Int)+(k:Int) * 1).toNat=a+k:=by lia -abstractProof
  rw [this]
 rw [e]
 have:=pick_run xs a m
 rw [List.filterMap_map] at this
 exact this
theorem iX {prog:Program}{w:World}{A:Around}{E:Value→Shared→Prop}{s:Shared}{v:Value}{i:Option Int}{Q:Option Int→Shared→Prop}(p:IsPart v i)(h:Q i s):wpAny (model prog w) A (Builtin.Slice.slicePartIndex v) Q E s:=by
 cases p with
 |none=>exact slicePart_none h
 |int i t=>exact slicePart_int h
theorem jh {prog:Program}{w:World}{A:Around}{E:Value→Shared→Prop}{s:Shared}{t sl:Addr}{items:Array Value}{n:Nat}{vl vu:Value}{lo hi:Option Int}{Q:Value→Shared→Prop}(ht:IsT s.heap t items n)(hs:s.heap.IsSliceOf sl vl vu .none)(pl:IsPart vl lo)(pu:IsPart vu hi)
  (h1:cut lo hi items.toList=items.toList→Q (.ref t) s)
  (h:Q (.ref s.heap.objs.size) {s with heap:=s.heap.push {cls:=.type "tuple",data:=.seq (cut lo hi items.toList).toArray}})
  (hsz:items.size≤sizeLine):wpAny (model prog w) A (getItem (.ref t) (.ref sl)) Q E s:=by
 have hT:s.TypeIs (.ref t) "tuple":=⟨_,ht,rfl⟩
 have hI:IsTup s.heap t items:=⟨_,ht,rfl,n,rfl⟩
 have hdrop:sizeOk (.seq (cut lo hi items.toList).toArray):=by
  show (cut lo hi items.toList).toArray.size≤sizeLine
  rw [List.size_toArray]
  have:=d9 lo hi items.toList
  simp at this;lia -abstractProof
 obtain ⟨os,hos,hcs,hds⟩:=id hs
 have hTs:s.TypeIs (.ref sl) "slice":=⟨os,hos,hcs⟩
 unfold getItem
 try with_reducible refine wpAny_holding ?_
 first |refine wpAny_bind (wpAny_pure ?_) |skip
 refine wpAny_bind (wpAny_sequenceKey hT (by decide) ?_)
 refine wpAny_bind (wpAny_callSpecial?_slot (name:=ofString "__getitem__") hT slot_tuple_getitem
  (wpAny_call_entry slot_tuple_getitem hT entry_tuple_getitem ?_ (args_tuple_getitem _ _)))
 show wpAny _ _ (Builtin.Tuple.tupleItemsOf (.ref t) >>=_) _ _ s
 refine wpAny_bind (tupleItemsOf_ hI ?_)
 refine wpAny_bind (wpAny_typeOf hTs ?_)
 rw [if_pos (by decide)]
 have app:∀(Q':Int×Int×Nat→Shared→Prop) (E':Value→Shared→Prop) (A':Around),Q' (((lo.elim 0 (clipAt items.size):Nat):Int),1,hi.elim items.size (clipAt items.size) - lo.elim 0 (clipAt items.size)) s→wpAny (model prog w) A' (Builtin.Slice.sliceApplied (.ref sl) (pure (items.size:Int))) Q' E' s:=fun Q' E' A' hq=>by
  unfold Builtin.Slice.sliceApplied Builtin.Slice.sliceFields
  refine wpAny_bind (wpAny_bind (wpAny_field hos hds (x:=vl) rfl (wpAny_bind (wpAny_field hos hds (x:=vu) rfl (wpAny_bind (wpAny_field hos hds (x:=.none) rfl (wpAny_pure ?_)))))))
  refine wpAny_bind (slicePart_none ?_)
  show wpAny _ _ (if ((1:Int)==0)=true then _ else _) _ _ s
  rw [if_neg (by decide)]
  refine wpAny_bind (iX pl (wpAny_bind (iX pu (wpAny_bind (wpAny_pure ?_)))))
  show wpAny _ _ (match Builtin.Slice.sliceAdjust lo hi 1 (items.size:Int) with | (lo,hi)=>pure (lo,(1:Int),Builtin.Slice.slicePlaces lo hi 1)) _ _ s
  rw [s5]
  show wpAny _ _ (pure (_,(1:Int),Builtin.Slice.slicePlaces _ _ 1)) _ _ s
  rw [si]
  exact wpAny_pure hq
 refine wpAny_bind (app _ _ _ ?_)
 dsimp only
 have ecut:cut lo hi items.toList=(items.toList.drop (lo.elim 0 (clipAt items.size))).take (hi.elim items.size (clipAt items.size) - lo.elim 0 (clipAt items.size)):=by simp [cut]
 by_cases hw:(((lo.elim 0 (clipAt items.size):Nat):Int)==0&&(1:Int)==1&&(hi.elim items.size (clipAt items.size) - lo.elim 0 (clipAt items.size))==items.size)=true
 ·have hq:Q (.ref t) s:=h1 (by
   simp only [Bool.and_eq_true,beq_iff_eq] at hw
   have z:lo.elim 0 (clipAt items.size)=0:=by lia -abstractProof
   rw [ecut,hw.2,z,List.drop_zero,List.take_of_length_le (by simp)])
  rw [if_pos hw]
  refine wpAny_bind ?_
  unfold Builtin.Tuple.tupleIsExact
  refine wpAny_bind (wpAny_typeOf hT (wpAny_pure ?_))
  rw [if_pos (by decide)]
  first
   |exact wpAny_bind (wpAny_rule (wpAny_pure ⟨_,rfl,wpAny_pure hq⟩))
   |exact wpAny_bind (wpAny_rule (wpAny_bind (wpAny_pure (wpAny_pure ⟨_,rfl,wpAny_pure hq⟩))))
   |exact wpAny_bind (wpAny_rule (wpAny_bind (wpAny_pure (wpAny_pure ⟨_,rfl,hq⟩))))
   |exact wpAny_bind (wpAny_rule (wpAny_pure ⟨_,rfl,hq⟩))
 ·rw [if_neg hw,uC,←ecut]
  first
   |exact wpAny_bind (m:=Builtin.Tuple.tupleExact _) (wpAny_newObj_type (wpAny_pure ⟨_,rfl,wpAny_pure h⟩) hdrop)
   |exact wpAny_bind (m:=Builtin.Tuple.tupleExact _) (wpAny_newObj_type (wpAny_bind (wpAny_pure (wpAny_pure ⟨_,rfl,wpAny_pure h⟩))) hdrop)
   |exact wpAny_bind (wpAny_bind (m:=Builtin.Tuple.tupleExact _) (wpAny_newObj_type (wpAny_pure (wpAny_pure ⟨_,rfl,wpAny_pure h⟩)) hdrop))
   |exact wpAny_bind (wpAny_bind (m:=Builtin.Tuple.tupleExact _) (wpAny_newObj_type (wpAny_pure ⟨_,rfl,wpAny_pure h⟩) hdrop))
theorem tQ (lo hi:Option Int)(n:Nat):Builtin.Str.strSliceIndices lo hi 1 n=(List.range (hi.elim n (clipAt n) - lo.elim 0 (clipAt n))).map (lo.elim 0 (clipAt n)+·):=by
 have:Builtin.Str.strSliceIndices lo hi 1 n=sliceRange (sliceBounds lo hi none n).1 (sliceBounds lo hi none n).2.1 (sliceBounds lo hi none n).2.2:=rfl
 rw [this,sliceBounds_plain,sliceRange_one]
theorem uB (x:Str)(lo hi:Option Int):(Builtin.Str.strSliceIndices lo hi 1 x.length).filterMap (x.cps[·]?)=cut lo hi x.cps.toList:=by
 rw [tQ,pick_run];simp [cut,Str.length]
theorem sM (x:Str)(lo hi:Option Int)(h:(Builtin.Str.strSliceIndices lo hi 1 x.length).length=x.length):fb lo hi x=x:=by
 have hl:=h
 rw [tQ] at hl
 simp only [List.length_map,List.length_range] at hl
 have hle:hi.elim x.length (clipAt x.length)≤x.length:=by
  cases hi with
  |none=>exact Nat.le_refl _
  |some i=>exact Ae _ i
 have e:cut lo hi x.cps.toList=x.cps.toList:=by
  unfold cut
  simp only [Array.length_toList]
  change _=_
  by_cases hx:x.length=0
  ·have:x.cps.toList=[]:=by have:x.cps.size=0:=hx;simpa using this
   rw [this];simp
  ·have z:lo.elim 0 (clipAt x.cps.size)=0:=by show lo.elim 0 (clipAt x.length)=0;lia
   have z':hi.elim x.cps.size (clipAt x.cps.size)=x.cps.size:=by show hi.elim x.length (clipAt x.length)=x.length;lia
   rw [z,z',List.drop_zero,List.take_of_length_le (by simp)]
 unfold fb
 rw [e]
theorem uq {x:Str}(h:PyData.strOk x=true)(lo hi:Option Int):PyData.strOk (fb lo hi x)=true:=by
 simp only [PyData.strOk,Array.all_eq_true',decide_eq_true_eq] at h ⊢
 intro c hc
 exact h c (Array.mem_toList_iff.mp (Aa (by simpa [fb] using hc)))
set_option tactic.hygienic true in
theorem kL {prog:Program}{w:World}{A:Around}{E:Value→Shared→Prop}{s:Shared}{x:Str}{t:Tok}{sl:Addr}{vl vu:Value}{lo hi:Option Int}{Q:Value→Shared→Prop}(hs:s.heap.IsSliceOf sl vl vu .none)(pl:IsPart vl lo)(pu:IsPart vu hi)
  (h:∀t' tk,Q (.str (fb lo hi x) t') {s with toks:=tk})(hsz:x.length≤lim):wpAny (model prog w) A (getItem (.str x t) (.ref sl)) Q E s:=by
 have part:∀{v:Value} {i:Option Int},IsPart v i→∃p:Option (Int×Tok),v=partValue p∧p.map (·.1)=i:=fun p=>by
  cases p with
  |none=>exact ⟨none,rfl,rfl⟩
  |int i t=>exact ⟨some (i,t),rfl,rfl⟩
 obtain ⟨l,rfl,rfl⟩:=part pl
 obtain ⟨u,rfl,rfl⟩:=part pu
 refine wpAny_getItem_str_slice (l:=l) (u:=u) (st:=none) ?_ rfl ?_
 ·obtain ⟨o,e1,e2,e3⟩:=hs
  exact ⟨o,e1,e2,e3⟩
 ·unfold sliceMade
  have e:slicePicked x l u none=Builtin.Str.strSliceIndices (l.map (·.1)) (u.map (·.1)) 1 x.length:=rfl
  split
  ·rename_i hw
   simp only [e,Bool.and_eq_true,beq_iff_eq] at hw
   have:=h t s.toks
   rw [sM x _ _ hw.2] at this
   exact this
  ·rw [e,uB]
   exact ⟨by
    have:=d9 (l.map (·.1)) (u.map (·.1)) x.cps.toList
    show (cut (l.map (·.1)) (u.map (·.1)) x.cps.toList).toArray.size≤sizeLine
    simp at this ⊢
    have h2:x.cps.size≤lim:=hsz
    simp only [lim,sizeLine] at *
    lia -abstractProof,h s.toks (s.toks+1)⟩
noncomputable abbrev rI (P:Pg)(B:bB)(C:Ct)(e:Option Expr)(p:PO):Prop:=dc P B C (P.W fun env=>valueOrNone (evalOpt e env)) p fun _ _ _ i x=>IsPart x i
theorem rI.none:rI P B C Option.none fS:=.now fun _ _ _ _ _ _ _ _ _ _ _ _ hq=>wpAny_pure (hq _ _ _ rfl .none)
theorem rI.some {e:Expr}{p:PE}(h:ak P B C e p (RX P)):rI P B C (Option.some e) (p1 bN p):=
 (h.xy.op1 (N:=fun A _ x Q E s=>Q x s) (fun _ _ _ _ _ _ _ r=>r) fun A env g σ s x t y Q E rm w q e hq=>by
  obtain ⟨i,e1,e2⟩:=ar e
  obtain ⟨p,rfl⟩:=q.i e1
  cases e2;exact hq _ s g (.refl g s) w (.int i p)).map fun _ _ _ _ _ h=>h
theorem xB {lo hi:Option Int}{xs:List T}{ys:List Value}(hl:ys.length=xs.length)(h:cut lo hi ys=ys):cut lo hi xs=xs:=by
 have e:=congrArg List.length h
 unfold cut at e ⊢
 rw [List.length_take,List.length_drop,hl] at e
 cases xs with
 |nil=>simp
 |cons y ys=>
  generalize lo.elim 0 (clipAt (y::ys).length)=a at *
  generalize hi.elim (y::ys).length (clipAt (y::ys).length)=b at *
  have hp:0 < (y::ys).length:=Nat.succ_pos _
  have z:a=0:=Nat.eq_zero_of_not_pos fun q=>Nat.not_le.mpr (Nat.sub_lt hp q) (Nat.le_trans (Nat.le_of_eq e.symm) (Nat.min_le_right _ _))
  subst z
  exact List.take_of_length_le (Nat.le_trans (Nat.le_of_eq e.symm) (Nat.min_le_left _ _))
noncomputable abbrev Eu (vl vu:Value):Obj:={cls:=.type "slice",data:=.fields #[vl,vu,.none]}
theorem u5 {z:Str}(lo hi:Option Int)(h:z.length≤lim):(fb lo hi z).length≤lim:=Nat.le_trans (by
 show (cut lo hi z.cps.toList).toArray.size≤_
 rw [List.size_toArray];exact d9 lo hi _) h
theorem Bn {A:Around}{g:Gh}{σ:Sg}{s:Shared}{t y:T}{x vl vu:Value}{lo hi:Option Int}{value slice:Expr}{Q:Value→Shared→Prop}{E:Value→Shared→Prop}(w:bv P g s.heap σ)(q:j0 P g s.heap t x)(pl:IsPart vl lo)(pu:IsPart vu hi)(e:bi t lo hi=some y)
  (hs:∀x i,subscripted slice false x i=operate [i,x] (getItem x i))(hq:∀u s' g',aE g s g' s'→bv P g' s'.heap σ→Rp P g' s'.heap y u→Q u s'):
  wpAny P.M A (subscriptTail value slice x (.ref s.heap.objs.size)) Q E {s with heap:=s.heap.push (Eu vl vu)}:=by
 have p:aE g s g {s with heap:=s.heap.push (Eu vl vu),toks:=s.toks}:=.push _ _
 have w':bv P g (s.heap.push (Eu vl vu)) σ:=w.push _
 have hsl:=Heap.IsSliceOf.new s.heap vl vu .none
 have q':=(j0.post w p q).y
 have hq':∀u s' g',aE g {s with heap:=s.heap.push (Eu vl vu)} g' s'→bv P g' s'.heap σ→Rp P g' s'.heap y u→Q u s':=fun u s' g' p'=>hq u s' g' (p.trans p')
 unfold bi at e
 cases e1:pP t with
 |some ts=>
  rw [e1] at e;cases e
  have qt:=q'.tu e1
  obtain ⟨l,rfl,f,vs,n,g1,g3,g2⟩:=id qt
  have hl:=Nat.le_trans (d9 lo hi ts) g3
  refine tail_any ⟨_,g1,rfl⟩ slot_tuple_getitem.lookup (jh (lo:=lo) (hi:=hi) g1 hsl pl pu (fun e=>?_) (rU (tk:=s.toks) w' (g2.cut lo hi) hl hq') (bj (g2.size▸g3))) (hs _ _)
  exact hq' _ _ g (.refl _ _) w' (by rw [xB g2.length e];exact qt)
 |none=>cases e2:fZ t with
  |some ts=>
   rw [e1,e2] at e;cases e
   obtain ⟨l,rfl,vs,n,g1,g3,g2⟩:=q'.ls e2
   have hl:=Nat.le_trans (d9 lo hi ts) g3
   refine tail_any ⟨_,g1,rfl⟩ slot_list_getitem.lookup (wpAny_getItem_list_slice (lo:=lo) (hi:=hi) (st:=none) ⟨_,g1,rfl,n,rfl⟩ hsl pl pu .none (by simp) ?_ (bj (g2.size▸g3))) (hs _ _)
   rw [v8]
   exact jg (tk:=s.toks) w' (g2.cut lo hi) hl hq'
  |none=>
   rw [e1,e2] at e
   obtain ⟨z,e3,e4⟩:=ar e
   obtain ⟨⟨g1,g2⟩,p',rfl⟩:=q'.s e3
   cases e4
   exact tail_any (typeIs_str _ z p') slot_str_getitem.lookup (kL hsl pl pu (fun t' tk=>hq' _ _ g (.toks _ _ tk) w' ⟨⟨uq g1 lo hi,u5 lo hi g2⟩,_,rfl⟩) g2) (hs _ _)
theorem ak.slc {a:Expr}{lo hi:Option Expr}{pa:PE}{pl ph:PO}{p pos:Pos}(ha:ak P B C a pa (RX P))(hl:rI P B C lo pl)(hh:rI P B C hi ph):ak P B C (.Subscript a (.Slice lo hi Option.none p) pos) (p3 bi pa pl ph) (RV P):=
 (ha.bind (N:=fun A env x Q E s=>wpAny P.M A (eval (.Slice lo hi Option.none p) env) (fun y s₂=>wpAny P.M A (subscriptTail a (.Slice lo hi Option.none p) x y) Q E s₂) E s) (F:=fun c ρ k t σ=>pl c ρ σ fun b σ=>ph c ρ σ fun x σ=>up (bi t b x) σ k) (R':=RV P) kq
  fun n A env g g₁ ρ σ s s₁ x t k Q E p X r hb hq=>by
   rw [arm_eval_Slice]
   refine wpAny_bind (hl n A env g₁ ρ σ s₁ _ _ _ X hb fun vl s₂ g₂ l σ₂ e₂ p₂ w₂ k₂=>?_)
   refine wpAny_bind (wpAny_holding (hh n A env g₂ ρ σ₂ s₂ _ _ _ (X.post p₂ w₂) (fun q=>hb (e₂.trans q)) fun vu s₃ g₃ h σ₃ e₃ p₃ w₃ k₃=>?_))
   refine wpAny_bind (wpAny_holding (wpAny_pure (wpAny_newObj_type ?_ (by show (3:Nat)≤sizeLine+2;decide))))
   obtain ⟨y,e⟩:=bY fun q=>hb (e₂.trans (e₃.trans q))
   exact Bn w₃ (j0.post w₂ p₃ (j0.post X.g p₂ r)) k₂ k₃ e (fun _ _=>rfl) fun u s' g' p w r=>hq u s' g' y σ₃ (e₂.trans (e₃.trans (by rw [e];rfl))) ((p₂.trans p₃).trans p) w r).map fun _ _ _ _ _=>Subscript_
end
structure aP (V W:List Addr) (g:Gh) (s:Shared) (g':Gh) (s':Shared):Prop where
 st:∃h' tk,s'={s with heap:=h',toks:=tk}
 keep:∀a o,s.heap.get? a=some o→¬g.Z a→¬g.O a→a∉W→s'.heap.get? a=some o
 back:∀a,a∉V→s'.heap.get? a=none→s.heap.get? a=none
 F:∀a,g.F a→g'.F a
 Fn:∀a,g'.F a→g.F a∨g.O a∨s.heap.get? a=none
 Zn:∀a,g'.Z a→g.Z a∨s.heap.get? a=none
 On:∀a,g'.O a→g.O a∨s.heap.get? a=none
 sp:g'.sp=g.sp
 sa:g'.sa=g.sa
structure bH (V W:List Addr) (g:Gh) (s:Shared) (g':Gh) (s':Shared):Prop where
 st:∃h' tk,s'={s with heap:=h',toks:=tk}
 keep:∀a o,s.heap.get? a=some o→¬g.Z a→a∉W→s'.heap.get? a=some o
 back:∀a,a∉V→s'.heap.get? a=none→s.heap.get? a=none
 F:∀a,g.F a→g'.F a
 Fn:∀a,g'.F a→g.F a∨s.heap.get? a=none
 Zn:∀a,g'.Z a→g.Z a∨s.heap.get? a=none
 o:g'.o=g.o
 sp:g'.sp=g.sp
 sa:g'.sa=g.sa
inductive Gu (P:Pg) (g:Gh) (h:Heap) (g':Gh) (h':Heap) (t:T) (x:Value):Prop
 |mk (a:Addr) (e:x=.ref a) (n:g.O a∨h.get? a=none) (f:¬g'.F a) (z:¬g'.Z a) (r:gS P g' h' a t)
noncomputable def rJ (P:Pg)(fr:Bool)(g:Gh)(h:Heap)(g':Gh)(h':Heap)(t:T)(x:Value):Prop:=match fr with
 |false=>Rp P g' h' t x
 |true=>Gu P g h g' h' t x
noncomputable def dg (P:Pg)(B:bB)(C:Ct)(fr:Bool)(C':Ct)(W:WP Flow)(p:PS):Prop:=
 ∀n A env g ρ σ s (k:PK aH) (Q:Flow→Shared→Prop) (E:Value→Shared→Prop),At P B C n A env g ρ σ s→p (P.cx n) ρ σ k≠.bad→
  (∀s' g' ρ' σ',p (P.cx n) ρ σ k=k ρ' σ'→aP [] (own env) g s g' s'→At P B C' n A env g' ρ' σ' s'→Q .next s')→
  (∀x s' g' t σ',p (P.cx n) ρ σ k=.ret t σ'→aP [] (own env) g s g' s'→bv P g' s'.heap σ'→rJ P fr g s.heap g' s'.heap t x→Q (.ret x) s')→W A env Q E s
noncomputable abbrev aN (P:Pg)(B:bB)(C:Ct)(fr:Bool)(C':Ct)(st:Stmt)(p:PS):Prop:=dg P B C fr C' (P.W fun env=>exec st env) p
noncomputable abbrev gR (P:Pg)(B:bB)(C:Ct)(fr:Bool)(C':Ct)(ss:List Stmt)(p:PS):Prop:=dg P B C fr C' (P.W fun env=>execs ss env) p
section
variable {P:Pg} {B:bB} {C C' C'':Ct} {fr:Bool} {n:Nat} {A:Around} {env:Env} {g g' g₁ g₂:Gh} {ρ:aH} {σ:Sg} {s s' s₁ s₂:Shared} {h h':Heap}
theorem aE.toS {W:List Addr}(p:aE g s g' s'):aP [] W g s g' s':=⟨p.st,fun a o e z _ _=>p.keep a o e z,fun a _=>p.back a,p.F,fun a f=>(p.Fn a f).imp_right .inr,p.Zn,fun a ⟨i,q⟩=>.inl ⟨i,p.o▸q⟩,p.sp,p.sa⟩
theorem aP.b {W:List Addr}(p:aP [] W g s g₁ s₁)(a:Addr):s₁.heap.get? a=none→s.heap.get? a=none:=p.back a (fun q=>nomatch q)
theorem aP.trans {V W:List Addr}(p:aP [] W g s g₁ s₁)(q:aP V W g₁ s₁ g₂ s₂):aP V W g s g₂ s₂ where
 st:=St.trans p.st q.st
 keep a o e z o' w:=q.keep a o (p.keep a o e z o' w) (fun x=>(p.Zn a x).elim z (an e)) (fun x=>(p.On a x).elim o' (an e)) w
 back a v e:=p.b a (q.back a v e)
 F a f:=q.F a (p.F a f)
 Fn a f:=(q.Fn a f).elim (p.Fn a) fun x=>.inr (x.elim (p.On a) fun x=>.inr (p.b a x))
 Zn a f:=(q.Zn a f).elim (p.Zn a) fun x=>.inr (p.b a x)
 On a f:=(q.On a f).elim (p.On a) fun x=>.inr (p.b a x)
 sp:=q.sp.trans p.sp
 sa:=q.sa.trans p.sa
theorem aE.toE {W:List Addr}(p:aE g s g' s'):bH [] W g s g' s':=⟨p.st,fun a o e z _=>p.keep a o e z,fun a _=>p.back a,p.F,p.Fn,p.Zn,p.o,p.sp,p.sa⟩
theorem bH.toS {V W:List Addr}(p:bH V W g s g' s'):aP V W g s g' s':=⟨p.st,fun a o e z _=>p.keep a o e z,p.back,p.F,fun a f=>(p.Fn a f).imp_right .inr,p.Zn,fun a ⟨i,q⟩=>.inl ⟨i,p.o▸q⟩,p.sp,p.sa⟩
theorem bH.weak {V V' W W':List Addr}(p:bH V W g s g' s')(hv:∀a∈V,a∈V')(hw:∀a∈W,a∈W'):bH V' W' g s g' s':={p with keep:=fun a o e z n=>p.keep a o e z fun x=>n (hw a x),back:=fun a n=>p.back a fun x=>n (hv a x)}
theorem aP.weak {W W':List Addr}(p:aP [] W g s g' s')(hw:∀a∈W,a∈W'):aP [] W' g s g' s':={p with keep:=fun a o e z q n=>p.keep a o e z q fun x=>n (hw a x)}
theorem bH.trans {V W:List Addr}(p:bH [] W g s g₁ s₁)(q:bH V W g₁ s₁ g₂ s₂):bH V W g s g₂ s₂:=
 have b:∀a,s₁.heap.get? a=none→s.heap.get? a=none:=fun a=>p.back a (fun q=>nomatch q)
 ⟨St.trans p.st q.st,fun a o e z w=>q.keep a o (p.keep a o e z w) (fun x=>(p.Zn a x).elim z (an e)) w,fun a v e=>b a (q.back a v e),fun a f=>q.F a (p.F a f),fun a f=>(q.Fn a f).elim (p.Fn a) fun x=>.inr (b a x),fun a f=>(q.Zn a f).elim (p.Zn a) fun x=>.inr (b a x),q.o.trans p.o,q.sp.trans p.sp,q.sa.trans p.sa⟩
theorem bH.toP {V W:List Addr}(p:bH V W g s g' s')(hw:∀a∈W,s.heap.get? a=none)(hv:∀a∈V,s.heap.get? a=none):aE g s g' s':=
 ⟨p.st,fun a o e z=>p.keep a o e z fun x=>an e (hw a x),fun a e=>by
  by_cases x:a∈V
  ·exact hv a x
  ·exact p.back a x e,p.F,p.Fn,p.Zn,p.o,p.sp,p.sa⟩
theorem rJ.after {W:List Addr}{t:T}{x:Value}(p:aP [] W g s g₁ s₁)(r:rJ P fr g₁ s₁.heap g' h' t x):rJ P fr g s.heap g' h' t x:=by
 cases fr with
 |false=>exact r
 |true=>exact let ⟨a,e,n,f,z,r⟩:=r;⟨a,e,n.elim (p.On a) fun x=>.inr (p.b a x),f,z,r⟩
theorem dg.map {W W':WP Flow}{p:PS}(h:dg P B C fr C' W p)(hW:∀A env Q E s,W A env Q E s→W' A env Q E s):dg P B C fr C' W' p:=fun n A env g ρ σ s k Q E X hb hq hr=>hW A env Q E s (h n A env g ρ σ s k Q E X hb hq hr)
theorem dc.then {α β:Type}{W:WP α}{p:PG β}{R:RR α β}{N:Around→Env→α→(Flow→Shared→Prop)→(Value→Shared→Prop)→Shared→Prop}{F:dw→aH→PK aH→PK β}(h:dc P B C W p R)
  (hf:∀n A env g g₁ ρ σ s s₁ x t (k:PK aH) Q E,aE g s g₁ s₁→At P B C n A env g₁ ρ σ s₁→R s.heap g₁ s₁.heap t x→F (P.cx n) ρ k t σ≠.bad→
   (∀s' g' ρ' σ',F (P.cx n) ρ k t σ=k ρ' σ'→aP [] (own env) g₁ s₁ g' s'→At P B C' n A env g' ρ' σ' s'→Q .next s')→
   (∀x s' g' u σ',F (P.cx n) ρ k t σ=.ret u σ'→aP [] (own env) g₁ s₁ g' s'→bv P g' s'.heap σ'→rJ P fr g₁ s₁.heap g' s'.heap u x→Q (.ret x) s')→N A env x Q E s₁):
  dg P B C fr C' (fun A env Q E s=>W A env (fun x s₁=>N A env x Q E s₁) E s) (fun c ρ σ k=>p c ρ σ (F c ρ k)):=fun n A env g ρ σ s k Q E X hb hq hr=>
 h n A env g ρ σ s (F _ ρ k) _ E X hb fun x s₁ g₁ t σ₁ e p w r=>hf n A env g g₁ ρ σ₁ s s₁ x t k Q E p (X.post p w) r (fun q=>hb (e.trans q)) (fun s' g' ρ' σ' e' p' X'=>hq s' g' ρ' σ' (e.trans e') (p.toS.trans p') X')
  fun x s' g' u σ' e' p' w' r'=>hr x s' g' u σ' (e.trans e') (p.toS.trans p') w' (rJ.after (W:=own env) p.toS r')
theorem dg.nil:gR P B C fr C [] af:=fun n A env g ρ σ s k Q E X hb hq hr=>wpAny_execs_nil (hq s g ρ σ rfl (aE.refl g s).toS X)
theorem dg.cons {st:Stmt}{ss:List Stmt}{p ps:PS}(h:aN P B C fr C' st p)(hs:gR P B C' fr C'' ss ps):gR P B C fr C'' (st::ss) (ae p ps):=fun n A env g ρ σ s k Q E X hb hq hr=>by
 refine wpAny_execs_cons (h n A env g ρ σ s (fun ρ σ=>ps _ ρ σ k) _ E X hb (fun s₁ g₁ ρ₁ σ₁ e p X₁=>?_) fun x s₁ g₁ t σ₁ e p w r=>hr x s₁ g₁ t σ₁ e p w r)
 exact hs n A env g₁ ρ₁ σ₁ s₁ k Q E X₁ (fun q=>hb (e.trans q)) (fun s' g' ρ' σ' e' p' X'=>hq s' g' ρ' σ' (e.trans e') (p.trans p') X') fun x s' g' t σ' e' p' w' r'=>hr x s' g' t σ' (e.trans e') (p.trans p') w' (rJ.after p r')
theorem aN.if {t:Expr}{a b:List Stmt}{pt:PT}{pa pb:PS}{pos:Pos}(ht:ch P B C t pt)(h1:gR P B C fr C' a pa)(h2:gR P B C fr C' b pb):aN P B C fr C' (.If t a b pos) (bn pt pa pb):=
 (ht.then (N:=fun A env q Q E s=>wpAny P.M A (if q=true then execs a env else execs b env) Q E s) (F:=fun c ρ k q σ=>bif q then pa c ρ σ k else pb c ρ σ k) fun n A env g g₁ ρ σ s s₁ x t k Q E p X r hb hq hr=>by
  cases r
  cases x with
  |true=>exact h1 n A env g₁ ρ σ s₁ k Q E X hb hq hr
  |false=>exact h2 n A env g₁ ρ σ s₁ k Q E X hb hq hr).map fun A env Q E s h=>wpAny_If (wpAny_mono h (fun q s₁ h=>by cases q<;>exact h) fun _ _ h=>h)
theorem aN.ret {e:Expr}{p:PE}{pos:Pos}(h:ak P B C e p (RV P)):aN P B C false C' (.Return (some e) pos) (au p):=
 (h.then (fr:=false) (N:=fun A env x Q E s=>Q (.ret x) s) (F:=fun c ρ k t σ=>.ret t σ) fun n A env g g₁ ρ σ s s₁ x t k Q E p X r hb hq hr=>hr x s₁ g₁ t σ rfl (aE.refl g₁ s₁).toS X.g r).map fun _ _ _ _ _=>wpAny_Return_some
theorem aN.retN {e:Expr}{p:PE}{pos:Pos}(h:ak P B C e p (RN P)):aN P B C true C' (.Return (some e) pos) (au p):=fun n A env g ρ σ s k Q E X hb hq hr=>
 wpAny_Return_some (h n A env g ρ σ s (fun t σ=>.ret t σ) _ E X hb fun x s₁ g₁ t σ₁ e p w r=>hr x s₁ g₁ t σ₁ e p.toS w (let ⟨a,e,n,f,z,o,r⟩:=r;⟨a,e,.inr n,f,z,r⟩))
theorem aN.retO {i:Nat}{y:Str}{k:NameKind}{ep pos:Pos}(hv:bq C i=true)(ht:B.tab[i]?=some (some (y,k))):aN P B C true C' (.Return (some (.Name y ep)) pos) (au (pV i)):=fun n A env g ρ σ s k Q E X hb hq hr=>by
 obtain ⟨t,e⟩:=bY hb
 obtain ⟨u,v,w⟩:=X.env.var i _ t ht e
 refine wpAny_Return_some (bp X ht v (hr u s g t σ (by show up (bC ρ i) σ _=_;rw [e];rfl) (aE.refl g s).toS X.g ?_))
 unfold bz at w
 rw [hv] at w
 obtain ⟨a,rfl,o,r⟩:=w
 exact ⟨a,rfl,.inl ⟨i,o⟩,(X.g.O a ⟨i,o⟩).2.1,(X.g.O a ⟨i,o⟩).2.2,r⟩
theorem aN.expr {e:Expr}{p:PE}{pos:Pos}(hw:∀env,swapsWith e none pos.line env=pure false)(h:ak P B C e p (RX P)):aN P B C fr C (.Expr e pos) (lg p):=fun n A env g ρ σ s k Q E X hb hq hr=>by
 show wpAny P.M A (exec (.Expr e pos) env) Q E s
 rw [exec_Expr env e pos (by simp [interactive,X.fn]) (hw env)]
 exact wpAny_bind (wpAny_standAt (wpAny_bind (h n A env g ρ σ s (fun _ σ=>k ρ σ) _ _ X hb fun x s₁ g₁ t σ₁ e p w r=>wpAny_dropValue (hq s₁ g₁ ρ σ₁ e p.toS (X.post p w)))))
theorem aN.bad {st:Stmt}:aN P B C fr C' st hU:=fun n A env g ρ σ s k Q E X hb hq hr=>absurd rfl hb
theorem gW {i j:Nat}{u:T}{v:Option T}:∀{r:aH},bC (r.set i v) j=some u→(j=i∧v=some u)∨(j≠i∧bC r j=some u):=by
 induction i generalizing j with
 |zero=>
  intro r h
  cases r with
  |nil=>cases h
  |cons x r=>
   cases j with
   |zero=>exact .inl ⟨rfl,h⟩
   |succ j=>exact .inr ⟨Nat.succ_ne_zero _,h⟩
 |succ i ih=>
  intro r h
  cases r with
  |nil=>cases h
  |cons x r=>
   cases j with
   |zero=>exact .inr ⟨(Nat.succ_ne_zero _).symm,h⟩
   |succ j=>exact (ih (r:=r) h).imp (fun q=>⟨congrArg Nat.succ q.1,q.2⟩) fun q=>⟨fun e=>q.1 (Nat.succ.inj e),q.2⟩
theorem cW {i j:Nat}{v:Option T}(hn:j≠i):∀{r:aH},bC r j=none→bC (r.set i v) j=none:=fun {r} h=>by
 cases e:bC (r.set i v) j with
 |none=>rfl
 |some u=>exact (gW e).elim (fun q=>(hn q.1).elim) fun q=>by rw [q.2] at h;cases h
theorem gh:∀{tab:List (Option (Str×NameKind))},(tab.filterMap (·.map (·.1))).Nodup→∀{i j:Nat} {x:Str} {k k':NameKind},tab[i]?=some (some (x,k))→tab[j]?=some (some (x,k'))→i=j
 | [],_,i,j,x,k,k',h,_=>nomatch h
 |none::r,hn,i,j,x,k,k',hi,hj=>match i,j,hi,hj with
  |i+1,j+1,hi,hj=>congrArg (·+1) (gh (tab:=r) hn hi hj)
 |some (y,q)::r,hn,i,j,x,k,k',hi,hj=>by
  have hn':(y::r.filterMap (·.map (·.1))).Nodup:=hn
  have out:∀{m:Nat} {q':NameKind},r[m]?=some (some (y,q'))→False:=fun {m q'} h=>(List.nodup_cons.mp hn').1 (List.mem_filterMap.mpr ⟨_,List.mem_of_getElem? h,rfl⟩)
  cases i with
  |zero=>cases j with
   |zero=>rfl
   |succ j=>cases hi;exact (out hj).elim
  |succ i=>cases j with
   |zero=>cases hj;exact (out hi).elim
   |succ j=>exact congrArg (·+1) (gh (tab:=r) (List.nodup_cons.mp hn').2 hi hj)
theorem bB.inj {B:bB}(h:B.ok=true){i j:Nat}{x:Str}{k k':NameKind}(hi:B.tab[i]?=some (some (x,k)))(hj:B.tab[j]?=some (some (x,k'))):i=j:=by
 simp only [bB.ok,Bool.and_eq_true] at h
 exact gh (of_decide_eq_true h.2) hi hj
structure ny (C:Ct) (i:Nat) (C':Ct):Prop where
 m:C'.m=C.m
 o:∀j,j≠i→bq C' j=bq C j
 un:∀j∈C'.U,j≠i∧j∈C.U
noncomputable def b9 (C:Ct)(i:Nat)(o:Bool)(C':Ct):Bool:=(C'.m==C.m)&&C.O.all (fun j=>Nat.beq j i||bq C' j)&&C'.O.all (fun j=>Nat.beq j i||bq C j)&&(o==bq C' i)&&C'.U.all (fun j=>!Nat.beq j i&&C.U.any (Nat.beq j))
theorem js {l:List Nat}{i:Nat}(h:l.any (Nat.beq i)=true):i∈l:=by
 obtain ⟨j,h1,h2⟩:=List.any_eq_true.mp h
 exact Nat.eq_of_beq_eq_true h2▸h1
theorem xU {i j:Nat}(h:i≠j):Nat.beq i j=false:=by
 cases e:Nat.beq i j with
 |false=>rfl
 |true=>exact (h (Nat.eq_of_beq_eq_true e)).elim
theorem dH {i:Nat}{o:Bool}(h:b9 C i o C'=true):ny C i C'∧bq C' i=o:=by
 simp only [b9,Bool.and_eq_true,List.all_eq_true,beq_iff_eq,Bool.not_eq_true'] at h
 obtain ⟨⟨⟨⟨h1,h2⟩,h3⟩,h4⟩,h5⟩:=h
 have key:∀{D D':Ct},(∀j∈D.O,(Nat.beq j i||bq D' j)=true)→∀j,j≠i→bq D j=true→bq D' j=true:=fun h j n q=>by
  have:=h j (js q)
  rw [xU n] at this;exact this
 refine ⟨⟨h1,fun j n=>?_,fun j hj=>⟨fun q=>?_,js (h5 j hj).2⟩⟩,h4.symm⟩
 ·cases e:bq C j with
  |true=>exact key h2 j n e
  |false=>cases e':bq C' j with
   |false=>rfl
   |true=>rw [key h3 j n e'] at e;cases e
 ·have:=(h5 j hj).1
  rw [q,Nat.beq_refl] at this;cases this
structure A4 (P:Pg) (env:Env) (g:Gh) (s:Shared) (h':Heap) (W:Addr):Prop where
 k:aO g s.heap g h'
 p:∀tk,bH [] [W] g s g {s with heap:=h',toks:=tk}
 lv:∀a,s.heap.get? a≠none→h'.get? a≠none
theorem AC {W:Addr}(x:bW P B C env g ρ s.heap)(w:bv P g s.heap σ)(hW:W∈own env)(ho:∀b,b≠W→h'.get? b=s.heap.get? b)(hl:h'.get? W≠none):A4 P env g s h' W∧bv P g h' σ:=by
 have nf:∀a,g.F a∨g.Z a∨g.O a→h'.get? a=s.heap.get? a:=fun a q=>ho a fun e=>by
  obtain ⟨_,f,z,o⟩:=x.own W hW
  subst e;exact q.elim f fun q=>q.elim z o
 have kf:aO g s.heap g h':=⟨fun a f=>⟨f,fun o e=>(nf a (.inl f)).trans e⟩,rfl⟩
 have lv:∀a,s.heap.get? a≠none→h'.get? a≠none:=fun a l=>by
  by_cases q:a=W
  ·exact q▸hl
  ·rw [ho a q];exact l
 refine ⟨⟨kf,fun tk=>⟨⟨h',tk,rfl⟩,fun a o e _ n=>(ho a fun q=>n (q▸List.mem_singleton.mpr rfl)).trans e,fun a _ e=>?_,fun _ f=>f,fun _ f=>.inl f,fun _ f=>.inl f,rfl,rfl,rfl⟩,lv⟩,
  fun a o e=>⟨(w.base a o e).1,(nf a (.inl (w.base a o e).1)).trans (w.base a o e).2⟩,fun a f=>lv a (w.F a f),fun a z=>⟨lv a (w.Z a z).1,(w.Z a z).2⟩,fun a z=>⟨lv a (w.O a z).1,(w.O a z).2⟩,w.oo,
  ⟨let ⟨t,n,e⟩:=w.spot.1;⟨t,n,(nf _ (.inr (.inl w.spot.2.1))).trans e⟩,w.spot.2⟩,fun c ts e=>(w.self c ts e).mono kf (fun a z=>⟨z,fun o e=>(nf a (.inr (.inl z))).trans e⟩) rfl⟩
 by_cases q:s.heap.get? a=none
 ·exact q
 ·exact (lv a q e).elim
structure Gx (g g':Gh) (i:Nat):Prop where
 F:g'.F=g.F
 Z:g'.Z=g.Z
 sp:g'.sp=g.sp
 sa:g'.sa=g.sa
 o:∀j,j≠i→g'.o j=g.o j
theorem Gx.refl (g:Gh)(i:Nat):Gx g g i:=⟨rfl,rfl,rfl,rfl,fun _ _=>rfl⟩
theorem Gx.k {i:Nat}(x:Gx g g' i)(h:Heap):aO g h g' h:=⟨fun a f=>⟨x.F▸f,fun _ e=>e⟩,x.sp⟩
theorem bW.forget {i:Nat}(x:bW P B C env g ρ h)(hc:ny C i C')(q:Gx g g' i)(hno:∀a∈Mine.own env,¬g'.O a):bW P B C' env g' (ρ.set i none) h:=
 {x with
  own:=fun a ha=>⟨(x.own a ha).1,q.F▸(x.own a ha).2.1,q.Z▸(x.own a ha).2.2.1,hno a ha⟩
  var:=fun j z v hj hv=>by
   rcases gW hv with ⟨_,e⟩ | ⟨n,e⟩
   ·cases e
   ·obtain ⟨u,h1,h2⟩:=x.var j z v hj e
    refine ⟨u,h1,?_⟩
    unfold bz at h2 ⊢
    rw [hc.o j n]
    cases e:bq C j with
    |true=>rw [e] at h2;exact let ⟨a,h3,h4,h5⟩:=h2;⟨a,h3,(q.o j n).trans h4,h5.mono (q.k h) fun _ e=>e⟩
    |false=>rw [e] at h2;exact h2.imp (·.mono (q.k h)) fun ⟨a,b,c,d⟩=>⟨hc.m.trans a,b,c,q.sa▸d⟩
  un:=fun j hj=>cW (hc.un j hj).1 (x.un j (hc.un j hj).2)}
theorem bW.put {W:Addr}{i:Nat}{o:Option T}{u:Value}(x:bW P B C env g ρ s.heap)(hi:i∉C.U)(hW:W∈Mine.own env)(T:A4 P env g s h' W)(ho:∀b,b≠W→h'.get? b=s.heap.get? b)
  (hv:cS B env h' i u)(hns:∃m,h'.Ns env.locals m)(hcl:∀c u,s.heap.IsCell c u→∃u',h'.IsCell c u')(hot:∀j v,j≠i→cS B env s.heap j v→cS B env h' j v)(q:∀t,o=some t→bz P C g s.heap i t u):bW P B C env g (ρ.set i o) h':=
 have mv:∀{j t u},bz P C g s.heap j t u→bz P C g h' j t u:=fun v=>v.move T.k rfl rfl fun a ha o e=>(ho a fun q=>(x.own W hW).2.2.2 (q▸ha)).trans e
 {x with
  ns:=hns
  cell:=fun j z kk hj hk=>let ⟨c,u,l,n⟩:=x.cell j z kk hj hk;let ⟨u',n'⟩:=hcl c u n;⟨c,u',l,n'⟩
  own:=fun a ha=>⟨T.lv a (x.own a ha).1,(x.own a ha).2⟩
  var:=fun j z v hj hv'=>(gW hv').elim (fun ⟨e,e'⟩=>by subst e;exact ⟨u,hv,mv (q v e')⟩) fun ⟨n,e⟩=>let ⟨u',h1,h2⟩:=x.var j z v hj e;⟨u',hot j u' n h1,mv h2⟩
  un:=fun j hj=>cW (fun q:j=i=>hi (q▸hj)) (x.un j hj)}
theorem wj {h:Heap}{L c:Addr}{m:Str→Option Value}{u:Option Value}(n:h.Ns L m)(k:h.IsCell c u):c≠L:=fun q=>by
 obtain ⟨o,es,ep,e,d,_⟩:=n
 obtain ⟨o',e',d'⟩:=k
 rw [q,e] at e';cases e';rw [d] at d';cases d'
theorem tA {h:Heap}{L:Addr}{m m':Str→Option Value}(n:h.Ns L m)(n':h.Ns L m'){x:Str}:m x=m' x:=by
 obtain ⟨o,es,ep,e,d,_,f⟩:=n
 obtain ⟨o',es',ep',e',d',_,f'⟩:=n'
 rw [e] at e';cases e';rw [d] at d';cases d'
 exact (f x).symm.trans (f' x)
noncomputable def AD (k:NameKind)(x:Str)(env:Env):List Addr:=match k with
 |.local=>[env.locals]
 |_=>(env.cells.lookup x).toList
theorem cU {k:NameKind}{x:Str}{env:Env}:∀a∈AD k x env,a∈Mine.own env:=fun a ha=>by
 have hc:a∈(env.cells.lookup x).toList→a∈Mine.own env:=fun h=>List.mem_cons_of_mem _ (bo (Option.mem_toList.mp h))
 cases k<;>first |exact hc ha |exact List.mem_cons.mpr (.inl (List.mem_singleton.mp ha))
theorem nU {i:Nat}{y:Str}{k:NameKind}{o:Option T}{u:Value}{Q:Unit→Shared→Prop}{E:Value→Shared→Prop}(X:At P B C n A env g ρ σ s)(hi:i∉C.U)(ht:B.tab[i]?=some (some (y,k)))(hk:k=.local∨k=.cell)(q:∀t,o=some t→bz P C g s.heap i t u)
  (hq:∀s',bH [] (AD k y env) g s g s'→At P B C n A env g (ρ.set i o) σ s'→cS B env s'.heap i u→(∀j v,j≠i→cS B env s.heap j v→cS B env s'.heap j v)→Q () s'):wpAny P.M A (storeName env y u) Q E s:=by
 obtain ⟨h1,h2,_,_,_⟩:=bB.look X.env.ok ht
 have hl:env.kindOf y=some k:=show env.scope.names.lookup y=_ from X.env.sc▸h2
 have tab:∀{j z kk},j≠i→B.tab[j]?=some (some (z,kk))→z≠y:=fun n hj e=>n (bB.inj X.env.ok (e▸hj) ht)
 rcases hk with rfl |rfl
 ·obtain ⟨m,hn⟩:=X.env.ns
  refine wpAny_storeName_local hl hn (fun h' hn' hs=>?_) (by rw [X.fn];rfl)
  obtain ⟨T,w⟩:=AC X.env X.g (W:=env.locals) List.mem_cons_self hs.2 (let ⟨o,_,_,e,_⟩:=hn';an e)
  have hot:∀j v,j≠i→cS B env s.heap j v→cS B env h' j v:=fun j v nj hv=>by
   cases hv with
   |loc z m' tz nz ez=>exact .loc z _ tz hn' (by rw [if_neg (tab nj tz),tA hn nz];exact ez)
   |cel z kk c tz hk' l nz=>
    obtain ⟨o,e,d⟩:=id nz
    exact .cel z kk c tz hk' l ⟨o,(hs.2 c (wj hn nz)).trans e,d⟩
  refine hq _ ((T.p _).weak (fun _ h=>h) fun a ha=>ha) ⟨X.good,X.call,X.room,X.env.put hi List.mem_cons_self T hs.2 (.loc y _ ht hn' (if_pos rfl)) ⟨_,hn'⟩ (fun c v hc=>?_) hot q,w⟩ (.loc y _ ht hn' (if_pos rfl)) hot
  obtain ⟨o,e,d⟩:=id hc
  exact ⟨v,o,(hs.2 c (wj hn hc)).trans e,d⟩
 ·obtain ⟨c,u₀,c1,c4⟩:=X.env.cell i y _ ht (.inl rfl)
  refine wpAny_storeName_cell X.fn hl c1 c4 fun h' hv' hs=>?_
  have hc:c∈own env:=List.mem_cons_of_mem _ (bo c1)
  obtain ⟨T,w⟩:=AC X.env X.g hc hs.2 (let ⟨o,e,_⟩:=hv';an e)
  have nl:∀{m},s.heap.Ns env.locals m→h'.Ns env.locals m:=fun hn=>hn.at fun o e=>(hs.2 _ fun q=>wj hn c4 q.symm).trans e
  have hot:∀j v,j≠i→cS B env s.heap j v→cS B env h' j v:=fun j v nj hv=>by
   cases hv with
   |loc z m' tz nz ez=>exact .loc z m' tz (nl nz) ez
   |cel z kk d tz hk' l nz=>exact .cel z kk d tz hk' l (let ⟨o,e1,e2⟩:=nz;⟨o,(hs.2 d fun e=>tab nj tz (X.env.apart z y d l (e▸c1))).trans e1,e2⟩)
  refine hq _ ((T.p s.toks).weak (fun _ h=>h) fun a ha=>by rw [List.mem_singleton.mp ha];exact Option.mem_toList.mpr c1) ⟨X.good,X.call,X.room,X.env.put hi hc T hs.2 (.cel y _ c ht (.inl rfl) c1 hv') (let ⟨m,hn⟩:=X.env.ns;⟨m,nl hn⟩) (fun d v hd=>?_) hot q,w⟩ (.cel y _ c ht (.inl rfl) c1 hv') hot
  by_cases e:d=c
  ·exact ⟨_,e▸hv'⟩
  ·exact let ⟨o,e1,e2⟩:=hd;⟨v,o,(hs.2 d e).trans e1,e2⟩
theorem iV {i:Nat}{y:Str}{k:NameKind}{t:T}{u:Value}{Q:Unit→Shared→Prop}{E:Value→Shared→Prop}(X:At P B C n A env g ρ σ s)(hi:i∉C.U)(ht:B.tab[i]?=some (some (y,k)))(hk:k=.local∨k=.cell)(q:bz P C g s.heap i t u)
  (hq:∀s',bH [] (AD k y env) g s g s'→At P B C n A env g (ρ.set i (some t)) σ s'→(∀j v,j≠i→cS B env s.heap j v→cS B env s'.heap j v)→Q () s'):wpAny P.M A (storeName env y u) Q E s:=
 nU (o:=some t) X hi ht hk (fun _ e=>Option.some.inj e▸q) fun s' p X' _ hot=>hq s' p X' hot
end
noncomputable def vp (e:Expr)(x:Str)(p:Pos)(l:Nat)(sc:Scope):Bool:=match e with
 |.ListComp _ _ s _ |.SetComp _ _ s _ |.DictComp _ _ _ s _=>(if sc.kind.isAnnotationScope then ScopeKind.function else sc.kind)==.function&&sc.names.lookup x==some .local&&p.line==e.pos.line
   &&!(s.names.any fun (n,k)=>n==x&&(k==.local||k==.cell))
 |_=>false
theorem jD {e:Expr}{x:Str}{p:Pos}{l:Nat}{env:Env}{sc:Scope}(h:env.scope=sc):swapsWith e (some (.Name x p)) l env=pure (vp e x p l sc):=by
 subst h
 cases e<;>first |rfl
section
variable {P:Pg} {B:bB} {C C' C'':Ct} {fr:Bool} {n:Nat} {A:Around} {env:Env} {g g' g₁ g₂:Gh} {ρ:aH} {σ:Sg} {s s' s₁ s₂:Shared} {h h':Heap}
theorem ny.nu {i:Nat}(hc:ny C i C'):i∉C'.U:=fun q=>(hc.un i q).1 rfl
theorem set_set (ρ:aH)(i:Nat)(a b:Option T):(ρ.set i a).set i b=ρ.set i b:=List.set_set ..
theorem gV {i:Nat}{y:Str}{k:NameKind}{t:T}{u:Value}{Q:Unit→Shared→Prop}{E:Value→Shared→Prop}(X:At P B C n A env g ρ σ s)(hc:b9 C i false C'=true)(ht:B.tab[i]?=some (some (y,k)))(hk:k=.local∨k=.cell)(r:Rp P g s.heap t u)
  (hq:∀s',bH [] (AD k y env) g s g s'→At P B C' n A env g (ρ.set i (some t)) σ s'→Q () s'):wpAny P.M A (storeName env y u) Q E s:=by
 obtain ⟨hs,ho⟩:=dH hc
 have X₂:At P B C' n A env g (ρ.set i none) σ s:=⟨X.good,X.call,X.room,X.env.forget hs (.refl g i) fun a ha=>(X.env.own a ha).2.2.2,X.g⟩
 refine iV X₂ hs.nu ht hk (by unfold bz;rw [ho];exact .inl r) fun s' p X' _=>hq s' p ?_
 rw [set_set] at X';exact X'
theorem aN.set {i:Nat}{y:Str}{k:NameKind}{e:Expr}{p:PE}{ps pos:Pos}(hc:b9 C i false C'=true)(ht:B.tab[i]?=some (some (y,k)))(hk:k=.local∨k=.cell)(hw:vp e y ps pos.line B.sc=false)(h:ak P B C e p (RV P)):
  aN P B C fr C' (.Assign [.Name y ps] e pos) (aw i p):=fun n A env g ρ σ s k Q E X hb hq hr=>
 wpAny_Assign_Name (h n A env g ρ σ s (fun v σ=>k (ρ.set i (some v)) σ) _ E X hb fun x s₁ g₁ t σ₁ e p w r=>gV (X.post p w) hc ht hk r fun s' p' X'=>hq s' g₁ _ σ₁ e (p.toS.trans (p'.toS.weak cU)) X') (by rw [jD X.env.sc,hw])
noncomputable def Gh.put (g:Gh)(i:Nat)(a:Option Addr):Gh:={g with o:=fun j=>bif Nat.beq j i then a else g.o j}
theorem gq (g:Gh)(i:Nat)(a:Option Addr):(g.put i a).o i=a:=by show (bif Nat.beq i i then a else _)=_;rw [Nat.beq_refl];rfl
theorem lN (g:Gh){i j:Nat}(a:Option Addr)(h:j≠i):(g.put i a).o j=g.o j:=by show (bif Nat.beq j i then a else _)=_;rw [xU h];rfl
theorem ir (g:Gh)(i:Nat)(a:Option Addr):Gx g (g.put i a) i:=⟨rfl,rfl,rfl,rfl,fun j h=>lN g a h⟩
theorem i7 {i:Nat}{a:Option Addr}{b:Addr}(h:(g.put i a).O b):a=some b∨∃j,j≠i∧g.o j=some b:=by
 obtain ⟨j,e⟩:=h
 by_cases q:j=i
 ·subst q;rw [gq] at e;exact .inl e
 ·rw [lN g a q] at e;exact .inr ⟨j,q,e⟩
theorem bv.put {i:Nat}{a:Option Addr}(w:bv P g h σ)(ha:∀b,a=some b→h.get? b≠none∧¬g.F b∧¬g.Z b∧¬g.O b):bv P (g.put i a) h σ:=
 ⟨w.base,w.F,w.Z,fun b q=>(i7 q).elim (fun e=>let ⟨h1,h2,h3,_⟩:=ha b e;⟨h1,h2,h3⟩) fun ⟨j,_,e⟩=>w.O b ⟨j,e⟩,fun j k b h1 h2=>by
  by_cases q:j=i
  ·by_cases q':k=i
   ·rw [q,q']
   ·subst q;rw [gq] at h1;rw [lN g a q'] at h2;exact ((ha b h1).2.2.2 ⟨k,h2⟩).elim
  ·rw [lN g a q] at h1
   by_cases q':k=i
   ·subst q';rw [gq] at h2;exact ((ha b h2).2.2.2 ⟨j,h1⟩).elim
   ·rw [lN g a q'] at h2;exact w.oo j k b h1 h2,w.spot,fun c ts e=>(w.self c ts e).mono ((ir g i a).k h) (fun _ z=>⟨z,fun _ e=>e⟩) rfl⟩
theorem aN.setN {i:Nat}{y:Str}{k:NameKind}{e:Expr}{p:PE}{ps pos:Pos}(hc:b9 C i true C'=true)(ht:B.tab[i]?=some (some (y,k)))(hk:k=.local∨k=.cell)(hw:vp e y ps pos.line B.sc=false)(h:ak P B C e p (RN P)):
  aN P B C fr C' (.Assign [.Name y ps] e pos) (aw i p):=fun n A env g ρ σ s k Q E X hb hq hr=>by
 refine wpAny_Assign_Name (h n A env g ρ σ s (fun v σ=>k (ρ.set i (some v)) σ) _ E X hb fun x s₁ g₁ t σ₁ e p w r=>?_) (by rw [jD X.env.sc,hw])
 obtain ⟨hs,ho⟩:=dH hc
 obtain ⟨a,rfl,nw,f,z,o,r⟩:=r
 have X₁:=X.post p w
 have ow:∀b∈own env,¬(g₁.put i (some a)).O b:=fun b hb q=>(i7 q).elim (fun q=>(X.env.own b hb).1 (Option.some.inj q▸nw)) fun ⟨j,_,q⟩=>(X₁.env.own b hb).2.2.2 ⟨j,q⟩
 have pa:aP [] (own env) g s (g₁.put i (some a)) s₁:={(p.toS:aP [] (own env) g s g₁ s₁) with On:=fun b q=>(i7 q).elim (fun q=>.inr (Option.some.inj q▸nw)) fun ⟨j,_,q⟩=>.inl ⟨j,p.o▸q⟩}
 have X₂:At P B C' n A env (g₁.put i (some a)) (ρ.set i none) σ₁ s₁:=⟨X.good,X.call,X.room,X₁.env.forget hs (ir g₁ i _) ow,w.put fun b q=>Option.some.inj q▸⟨r.live,f,z,o⟩⟩
 refine wpAny_mono (iV (E:=E) X₂ hs.nu ht hk (by unfold bz;rw [ho];exact ⟨a,rfl,gq ..,r.mono ((ir g₁ i _).k _) fun _ e=>e⟩) fun s' p' X' _=>hq s' _ _ σ₁ e (pa.trans (p'.toS.weak cU)) ?_) (fun _ _ h=>h) fun _ _ h=>h
 rw [set_set] at X';exact X'
theorem bW.add {i:Nat}{t:T}{u:Value}(x:bW P B C env g ρ h)(hi:i∉C.U)(hv:cS B env h i u)(q:bz P C g h i t u):bW P B C env g (ρ.set i (some t)) h:=
 {x with
  var:=fun j z v hj hv'=>(gW hv').elim (fun ⟨e,e'⟩=>by cases e';subst e;exact ⟨u,hv,q⟩) fun ⟨n,e⟩=>x.var j z v hj e
  un:=fun j hj=>cW (fun q:j=i=>hi (q▸hj)) (x.un j hj)}
theorem vO {i:Nat}{t:T}:∀{ρ:aH},bC ρ i=some t→ρ.set i (some t)=ρ:=by
 induction i with
 |zero=>intro ρ h;cases ρ with
  |nil=>cases h
  |cons x r=>rw [show x=_ from h];rfl
 |succ i ih=>intro ρ h;cases ρ with
  |nil=>cases h
  |cons x r=>exact congrArg (x::·) (ih (ρ:=r) h)
theorem im {i:Nat}:∀{ρ:aH},bC ρ i=none→ρ.set i none=ρ:=by
 induction i with
 |zero=>intro ρ h;cases ρ with
  |nil=>rfl
  |cons x r=>rw [show x=_ from h];rfl
 |succ i ih=>intro ρ h;cases ρ with
  |nil=>rfl
  |cons x r=>exact congrArg (x::·) (ih (ρ:=r) h)
theorem DE {i:Nat}{y:Str×NameKind}(X:At P B C n A env g ρ σ s)(hv:bq C i=true)(hc:b9 C i false C'=true)(ht:B.tab[i]?=some (some y)):∃g',aP [] (own env) g s g' s∧At P B C' n A env g' ρ σ s:=by
 obtain ⟨hs,ho⟩:=dH hc
 have w1:bv P (g.put i none) s.heap σ:=X.g.put fun _ q=>nomatch q
 have no:∀b∈own env,¬(g.put i none).O b:=fun b hb q=>(i7 q).elim (fun q=>nomatch q) fun ⟨j,_,q⟩=>(X.env.own b hb).2.2.2 ⟨j,q⟩
 have x1:=X.env.forget hs (ir g i none) no
 have on:∀b,(g.put i none).O b→g.O b:=fun b q=>(i7 q).elim (fun q=>nomatch q) fun ⟨j,_,q⟩=>⟨j,q⟩
 have p0:=(aE.refl g s).toS (W:=own env)
 cases e:bC ρ i with
 |none=>
  rw [im e] at x1
  exact ⟨g.put i none,{p0 with On:=fun b q=>.inl (on b q)},X.good,X.call,X.room,x1,w1⟩
 |some t=>
  obtain ⟨u,v,q⟩:=X.env.var i y t ht e
  unfold bz at q
  rw [hv] at q
  obtain ⟨a,rfl,o,r⟩:=q
  have hO:=X.g.O a ⟨i,o⟩
  have na:¬(g.put i none).O a:=fun q=>(i7 q).elim (fun q=>nomatch q) fun ⟨j,n,q⟩=>n (X.g.oo j i a q o)
  have w2:=w1.freeze (a:=a) hO.1 hO.2.2 na
  have kf:aO (g.put i none) s.heap {g.put i none with F:=fun y=>g.F y∨y=a} s.heap:=⟨fun b f=>⟨.inl f,fun _ e=>e⟩,rfl⟩
  have x2:=x1.move (g':={g.put i none with F:=fun y=>g.F y∨y=a}) kf rfl rfl (fun _ _ _ e=>e) fun b hb=>⟨(X.env.own b hb).1,fun f=>f.elim (X.env.own b hb).2.1 fun e=>(X.env.own b hb).2.2.2 (e▸⟨i,o⟩),(X.env.own b hb).2.2.1⟩
  have x3:=x2.add hs.nu v (t:=t) (by unfold bz;rw [ho];exact .inl ((r.mono (((ir g i none).k _)) fun _ e=>e).mono kf (fun _ e=>e) |>.rp (.inr rfl)))
  rw [set_set,vO e] at x3
  exact ⟨{g.put i none with F:=fun y=>g.F y∨y=a},{p0 with F:=fun b f=>.inl f,Fn:=fun b f=>f.elim .inl fun q=>.inr (.inl (q▸⟨i,o⟩)),On:=fun b q=>.inl (on b q)},X.good,X.call,X.room,x3,w2⟩
theorem dg.fz {i:Nat}{y:Str×NameKind}{W:WP Flow}{p:PS}(hv:bq C i=true)(hc:b9 C i false C'=true)(ht:B.tab[i]?=some (some y))(h:dg P B C' fr C'' W p):dg P B C fr C'' W p:=fun n A env g ρ σ s k Q E X hb hq hr=>by
 obtain ⟨g',pz,X'⟩:=DE X hv hc ht
 exact h n A env g' ρ σ s k Q E X' hb (fun s' g' ρ' σ' e p X=>hq s' g' ρ' σ' e (pz.trans p) X) fun x s' g' t σ' e p w r=>hr x s' g' t σ' e (pz.trans p) w (r.after pz)
theorem aN.while {test:Expr}{body:List Stmt}{t:PT}{pb:PS}{pos:Pos}(m:Nat)(ht:ch P B C test t)(hb:gR P B C fr C body pb):aN P B C fr C (.While test body [] pos) (fj m t pb):=fun n A env g ρ σ s k Q E X hbad hq hr=>by
 refine wpAny_While ?_
 refine codeAny_whileLoop (fun m' s₁=>∃g₁ ρ₁ σ₁,At P B C n A env g₁ ρ₁ σ₁ s₁∧aP [] (own env) g s g₁ s₁∧fj m t pb (P.cx n) ρ σ k=f7 t pb (P.cx n) m' ρ₁ σ₁ k) ?_ m ⟨g,ρ,σ,X,(aE.refl g s).toS,rfl⟩
 rintro m' s₁ ⟨g₁,ρ₁,σ₁,X₁,p₁,e₁⟩
 cases m' with
 |zero=>exact absurd (e₁.trans vr) hbad
 |succ m'=>
  rw [lh] at e₁
  refine ht n A env g₁ ρ₁ σ₁ s₁ _ _ _ X₁ (fun q=>hbad (e₁.trans q)) fun b s₂ g₂ b' σ₂ e₂ p₂ w₂ r₂=>?_
  cases r₂
  have X₂:=X₁.post p₂ w₂
  have p₁₂:=p₁.trans p₂.toS
  cases b with
  |true=>
   refine hb n A env g₂ ρ₁ σ₂ s₂ _ _ _ X₂ (fun q=>hbad (e₁.trans (e₂.trans q))) (fun s₃ g₃ ρ₃ σ₃ e₃ p₃ X₃=>?_) fun x s₃ g₃ t σ₃ e₃ p₃ w₃ r₃=>?_
   ·exact ⟨m',Nat.lt_succ_self m',g₃,ρ₃,σ₃,X₃,p₁₂.trans p₃,e₁.trans (e₂.trans e₃)⟩
   ·exact hr x s₃ g₃ t σ₃ (e₁.trans (e₂.trans e₃)) (p₁₂.trans p₃) w₃ (r₃.after p₁₂)
  |false=>exact wpAny_execs_nil (hq s₂ g₂ ρ₁ σ₂ (e₁.trans e₂) p₁₂ X₂)
end
noncomputable def kP (g:Gh)(env:Env)(vol:List Addr):Prop:=∀a∈vol,¬g.F a∧¬g.Z a∧¬g.O a∧a∉own env
structure nB (P:Pg) (A:Around) (I:Addr) (ts:List T) (vol fx:List Addr) (St:Nat→Gh→Heap→Prop):Prop where
 self:∀i g s (Q:Value→Shared→Prop) (E:Value→Shared→Prop),St i g s.heap→Q (.ref I) s→wpAny P.M A (pyIter (.ref I)) Q E s
 stay:∀i g h g' h',St i g h→aO g h g' h'→(∀a∈vol++fx,∀o,h.get? a=some o→h'.get? a=some o)→St i g' h'
 here:∀i g h,St i g h→∀a∈vol++fx,h.get? a≠none
 item:∀i t g s (Q:Option Value→Shared→Prop) (E:Value→Shared→Prop),ts[i]?=some t→St i g s.heap→(∀a∈vol,¬g.F a)→
  (∀u h' tk,(∀a o,s.heap.get? a=some o→a∉vol→h'.get? a=some o)→Rp P g h' t u→St (i+1) g h'→Q (some u) {s with heap:=h',toks:=tk})→wpAny P.M A (pyNext (.ref I)) Q E s
 done:∀g s (Q:Option Value→Shared→Prop) (E:Value→Shared→Prop),St ts.length g s.heap→(∀h' tk,(∀a o,s.heap.get? a=some o→a∉vol→h'.get? a=some o)→Q none {s with heap:=h',toks:=tk})→wpAny P.M A (pyNext (.ref I)) Q E s
structure kx (P:Pg) (A:Around) (B:bB) (C C':Ct) (target:Expr) (zb:PB) (tw:Env→List Addr) (I:Addr) (ts:List T) (vol fx:List Addr) (St:Nat→Gh→Heap→Prop):Prop where
 sub:∀env,∀a∈tw env,a∈own env
 self:∀i g s (Q:Value→Shared→Prop) (E:Value→Shared→Prop),St i g s.heap→Q (.ref I) s→wpAny P.M A (pyIter (.ref I)) Q E s
 stay:∀i g h g' h',St i g h→aO g h g' h'→(∀a∈vol++fx,∀o,h.get? a=some o→h'.get? a=some o)→St i g' h'
 here:∀i g h,St i g h→∀a∈vol++fx,h.get? a≠none
 item:∀i t n env g ρ ρ' σ s (Q:Shared→Prop) (E:Value→Shared→Prop),ts[i]?=some t→At P B C n A env g ρ σ s→kP g env (vol++fx)→St i g s.heap→zb t ρ=some ρ'→
  (∀s',bH [] (vol++tw env) g s g s'→At P B C' n A env g ρ' σ s'→St (i+1) g s'.heap→Q s')→
  wpAny P.M A (pyNext (.ref I)) (fun r s₁=>match r with
   |none=>False
   |some u=>wpAny P.M A (letOwnedTupleGo target (.ref I) u) (fun _ s₂=>wpAny P.M A (assign target env u) (fun _ s₃=>Q s₃) E s₂) E s₁) E s
 done:∀n env g ρ σ s (Q:Shared→Prop) (E:Value→Shared→Prop),At P B C n A env g ρ σ s→kP g env (vol++fx)→St ts.length g s.heap→(∀s',bH vol vol g s g s'→At P B C n A env g ρ σ s'→Q s')→
  wpAny P.M A (pyNext (.ref I)) (fun r s₁=>match r with |none=>Q s₁ |some _=>False) E s
section
variable {P:Pg} {B:bB} {C C' C'':Ct} {fr:Bool} {n:Nat} {A:Around} {env:Env} {g g' g₁ g₂:Gh} {ρ:aH} {σ:Sg} {s s' s₁ s₂:Shared} {h h':Heap}
theorem kP.post {vol:List Addr}(v:kP g env vol)(l:∀a∈vol,s.heap.get? a≠none)(p:aP [] (own env) g s g' s'):kP g' env vol∧∀a∈vol,∀o,s.heap.get? a=some o→s'.heap.get? a=some o:=
 ⟨fun a ha=>let ⟨f,z,o,w⟩:=v a ha;⟨fun q=>(p.Fn a q).elim f fun q=>q.elim o (l a ha),fun q=>(p.Zn a q).elim z (l a ha),fun q=>(p.On a q).elim o (l a ha),w⟩,fun a ha o e=>let ⟨_,z,q,w⟩:=v a ha;p.keep a o e z q w⟩
theorem aP.k {V W:List Addr}(p:aP V W g s g' s')(w:bv P g s.heap σ)(hW:∀a∈W,¬g.F a):aO g s.heap g' s'.heap:=⟨fun a f=>⟨p.F a f,fun o e=>p.keep a o e (fun z=>(w.Z a z).2 f) (fun q=>(w.O a q).2.1 f) fun q=>hW a q f⟩,p.sp⟩
theorem xj {target:Expr}{body:List Stmt}{zb:PB}{tw:Env→List Addr}{pb:PS}{I:Addr}{ts:List T}{vol fx:List Addr}{St:Nat→Gh→Heap→Prop}{k:PK aH}{R:Result→Shared→Prop}(T:kx P A B C C' target zb tw I ts vol fx St)(hbody:gR P B C' fr C body pb):
  ∀(rest:List Mine.T) (i:Nat) (g:Gh) (ρ:aH) (σ:Sg) (s:Shared),i≤ts.length→ts.drop i=rest→At P B C n A env g ρ σ s→kP g env (vol++fx)→St i g s.heap→cg zb pb (P.cx n) rest ρ σ k≠.bad→
   (∀s' g' ρ' σ',cg zb pb (P.cx n) rest ρ σ k=k ρ' σ'→aP vol (vol++own env) g s g' s'→At P B C n A env g' ρ' σ' s'→R (.ok .next) s')→
   (∀x s' g' t σ',cg zb pb (P.cx n) rest ρ σ k=.ret t σ'→aP [] (vol++own env) g s g' s'→bv P g' s'.heap σ'→rJ P fr g s.heap g' s'.heap t x→R (.ok (.ret x)) s')→
   codeAny P.M A (.forLoop target (.ref I) body [] env) R s:=by
 intro rest
 induction rest with
 |nil=>
  intro i g ρ σ s hle hd X hv st hb hq hr
  obtain rfl:i=ts.length:=Nat.le_antisymm hle (List.drop_eq_nil_iff.mp hd)
  refine codeAny_of_tree ?_
  show wpAny P.M A ((forTurn target (.ref I) body [] env).onRaise (fun x=>do noteFrame x env;theTreesLotGoes x)) _ _ s
  refine wpAny_noted ?_
  simp only [forTurn]
  refine wpAny_bind (wpAny_standAt (wpAny_bind (wpAny_onRaise (wpAny_mono (T.done n env g ρ σ s (fun s'=>R (.ok .next) s') (notedBy P.M A env fun e s'=>R (.error e) s') X hv st fun s' p X'=>hq s' g ρ σ rfl (p.weak (fun _ h=>h) fun a=>List.mem_append_left _).toS X') (fun r s₁ h₁=>?_) fun _ _ h'=>wpAny_standAt h'))))
  cases r with
  |none=>exact wpAny_pure ⟨rfl,codeAny_block (wpAny_execs_nil h₁)⟩
  |some u=>exact h₁.elim
 |cons v rest ih=>
  intro i g ρ σ s hle hd X hv st hb hq hr
  have hiv:ts[i]?=some v:=by rw [←List.head?_drop,hd];rfl
  have hi:i < ts.length:=(List.getElem?_eq_some_iff.mp hiv).1
  have hd':ts.drop (i+1)=rest:=by rw [←List.tail_drop,hd];rfl
  cases hρ:zb v ρ with
  |none=>rw [xn,hρ] at hb;exact absurd rfl hb
  |some ρ'=>
   have e1:cg zb pb (P.cx n) (v::rest) ρ σ k=pb (P.cx n) ρ' σ fun ρ σ=>cg zb pb (P.cx n) rest ρ σ k:=by rw [xn,hρ]
   rw [e1] at hb hq hr
   refine codeAny_of_tree ?_
   show wpAny P.M A ((forTurn target (.ref I) body [] env).onRaise (fun x=>do noteFrame x env;theTreesLotGoes x)) _ _ s
   refine wpAny_noted ?_
   simp only [forTurn]
   refine wpAny_bind (wpAny_standAt (wpAny_bind (wpAny_onRaise (wpAny_mono (T.item i v n env g ρ ρ' σ s (fun s₃=>wpAny P.M A (execs body env) (fun f s₄=>match f with
     |.next |.cont=>codeAny P.M A (.forLoop target (.ref I) body [] env) R s₄
     |.brk=>R (.ok .next) s₄
     |.ret v=>R (.ok (.ret v)) s₄) (notedBy P.M A env fun e s'=>R (.error e) s') s₃) (notedBy P.M A env fun e s'=>R (.error e) s') hiv X hv st hρ fun s₃ p₃ X₃ st₃=>?_) (fun r s₁ h₁=>?_) fun _ _ h'=>wpAny_standAt h'))))
   ·have lv₃:=T.here _ _ _ st₃
    replace p₃:=(p₃.weak (fun _ h=>h) fun a h=>(List.mem_append.mp h).elim (List.mem_append_left _) fun h=>List.mem_append_right vol (T.sub env a h)).toS
    refine hbody n A env g ρ' σ s₃ _ _ _ X₃ hb (fun s₄ g₄ ρ₄ σ₄ e₄ p₄ X₄=>?_) fun x s₄ g₄ t σ₄ e₄ p₄ w₄ r₄=>?_
    ·rw [e₄] at hb hq hr
     have p₃₄:=p₃.trans (p₄.weak fun a=>List.mem_append_right vol)
     obtain ⟨hv₄,kp⟩:=hv.post lv₃ p₄
     exact ih (i+1) g₄ ρ₄ σ₄ s₄ hi hd' X₄ hv₄ (T.stay _ _ _ _ _ st₃ (p₄.k X₃.g fun a ha=>(X₃.env.own a ha).2.1) kp) hb (fun s' g' ρ' σ' e p X=>hq s' g' ρ' σ' e (p₃₄.trans p) X) fun x s' g' t σ' e p w r=>hr x s' g' t σ' e (p₃₄.trans p) w (r.after p₃₄)
    ·exact hr x s₄ g₄ t σ₄ e₄ (p₃.trans (p₄.weak fun a=>List.mem_append_right vol)) w₄ (r₄.after p₃)
   ·cases r with
    |none=>exact h₁.elim
    |some u=>
     refine wpAny_bind (wpAny_mono h₁ (fun _ s₂ h₂=>wpAny_bind (wpAny_mono h₂ (fun _ s₃ h₃=>wpAny_bind (wpAny_mono h₃ (fun f s₄ h₄=>?_) fun _ _ h'=>h')) fun _ _ h'=>h')) fun _ _ h'=>h')
     cases f with
     |next=>exact wpAny_pure ⟨rfl,h₄⟩
     |cont=>exact wpAny_pure ⟨rfl,h₄⟩
     |brk=>exact wpAny_pure h₄
     |ret v=>exact wpAny_pure h₄
noncomputable def A5 (P:Pg)(B:bB)(C:Ct)(n:Nat)(A:Around)(env:Env)(g:Gh)(ρ:aH)(σ:Sg)(s:Shared)(iter:Expr)(mk:Around→Addr→List T→List Addr→List Addr→(Nat→Gh→Heap→Prop)→Prop)(p:PL):Prop:=
 ∀(k:PK (List T)) (Q:Value→Shared→Prop) (E:Value→Shared→Prop),At P B C n A env g ρ σ s→p (P.cx n) ρ σ k≠.bad→
  (∀s' g' ts σ' I vol fx St,p (P.cx n) ρ σ k=k ts σ'→aE g s g' s'→bv P g' s'.heap σ'→mk A I ts vol fx St→St 0 g' s'.heap→(∀a∈vol,s.heap.get? a=none∧¬g'.F a∧¬g'.Z a)→kP g' env fx→ts.length≤lim→Q (.ref I) s')→
  wpAny P.M A (eval iter env) (fun x s₁=>wpAny P.M A (pyIter x) Q E s₁) E s
noncomputable def eT (P:Pg)(B:bB)(C:Ct)(iter:Expr)(mk:Around→Addr→List T→List Addr→List Addr→(Nat→Gh→Heap→Prop)→Prop)(p:PL):Prop:=
 ∀n A env g ρ σ s,A5 P B C n A env g ρ σ s iter mk p
theorem aN.for {iter target:Expr}{zb:PB}{tw:Env→List Addr}{pi:PL}{body:List Stmt}{pb:PS}{pos:Pos}(hs:∀env x,foldedSetIterable iter env x=pure x)(hi:eT P B C iter (fun A I ts vol fx St=>kx P A B C C' target zb tw I ts vol fx St) pi)(hb:gR P B C' fr C body pb):
  aN P B C fr C (.For target iter body [] pos) (b8 pi zb pb):=fun n A env g ρ σ s k Q E X hbad hq hr=>by
 refine wpAny_For (hi n A env g ρ σ s (fun xs σ=>cg zb pb _ xs ρ σ k) _ _ X hbad fun s₁ g₁ ts σ₁ I vol fx St e p w T st hv hx hl=>?_) (hs env)
 have X₁:=X.post p w
 have dr:∀{V s' g'},(∀a∈V,a∈vol)→aP V (vol++own env) g₁ s₁ g' s'→aP [] (own env) g s g' s':=fun {V s' g'} hV q=>
  have qb:∀a,s'.heap.get? a=none→s.heap.get? a=none:=fun a e=>by
   by_cases x:a∈vol
   ·exact (hv a x).1
   ·exact p.back a (q.back a (fun y=>x (hV a y)) e)
  ⟨Mine.St.trans p.st q.st,fun a o e z o' w=>q.keep a o (p.keep a o e z) (fun x=>(p.Zn a x).elim z (an e)) (fun ⟨i,x⟩=>o' ⟨i,p.o▸x⟩) fun x=>(List.mem_append.mp x).elim (fun x=>an e (hv a x).1) w,fun a _ e=>qb a e,fun a f=>q.F a (p.F a f),
   fun a f=>(q.Fn a f).elim (fun f=>(p.Fn a f).imp_right .inr) fun x=>.inr (x.imp (fun ⟨i,x⟩=>⟨i,p.o▸x⟩) (p.back a)),fun a f=>(q.Zn a f).elim (p.Zn a) fun x=>.inr (p.back a x),fun a f=>(q.On a f).imp (fun ⟨i,x⟩=>⟨i,p.o▸x⟩) (p.back a),q.sp.trans p.sp,q.sa.trans p.sa⟩
 exact xj T hb ts 0 g₁ ρ σ₁ s₁ (Nat.zero_le _) rfl X₁ (fun a ha=>(List.mem_append.mp ha).elim (fun ha=>⟨(hv a ha).2.1,(hv a ha).2.2,fun ⟨i,q⟩=>(X.g.O a ⟨i,p.o▸q⟩).1 (hv a ha).1,fun q=>(X.env.own a q).1 (hv a ha).1⟩) (hx a)) st (fun q=>hbad (e.trans q))
  (fun s' g' ρ' σ' e' p' X'=>hq s' g' ρ' σ' (e.trans e') (dr (fun _ q=>q) p') X') fun x s' g' t σ' e' p' w' r'=>hr x s' g' t σ' (e.trans e') (dr (V:=[]) (fun _ (q:_∈[])=>nomatch q) p') w' (r'.after (p.toS (W:=[])))
theorem dk {vol:List Addr}(X:At P B C n A env g ρ σ s)(hv:kP g env vol)(k:∀a o,s.heap.get? a=some o→a∉vol→h'.get? a=some o)(tk:Nat):bH vol vol g s g {s with heap:=h',toks:=tk}∧At P B C n A env g ρ σ {s with heap:=h',toks:=tk}:=by
 have kk:∀a,g.F a∨g.Z a∨g.O a∨a∈own env→∀o,s.heap.get? a=some o→h'.get? a=some o:=fun a q o e=>k a o e fun x=>let ⟨f,z,o,w⟩:=hv a x;q.elim f fun q=>q.elim z fun q=>q.elim o w
 have kf:aO g s.heap g h':=⟨fun a f=>⟨f,kk a (.inl f)⟩,rfl⟩
 have lo:∀a,g.F a∨g.Z a∨g.O a∨a∈own env→s.heap.get? a≠none→h'.get? a≠none:=fun a q l=>by
  cases e:s.heap.get? a with
  |none=>exact (l e).elim
  |some o=>exact an (kk a q o e)
 refine ⟨⟨⟨h',tk,rfl⟩,fun a o e _ n=>k a o e n,fun a v e=>?_,fun _ f=>f,fun _ f=>.inl f,fun _ f=>.inl f,rfl,rfl,rfl⟩,X.good,X.call,X.room,
  X.env.move kf rfl rfl (fun a q=>kk a (.inr (.inr q))) fun a ha=>⟨lo a (.inr (.inr (.inr ha))) (X.env.own a ha).1,(X.env.own a ha).2.1,(X.env.own a ha).2.2.1⟩,
  fun a o e=>⟨(X.g.base a o e).1,kk a (.inl (X.g.base a o e).1) o (X.g.base a o e).2⟩,fun a f=>lo a (.inl f) (X.g.F a f),fun a z=>⟨lo a (.inr (.inl z)) (X.g.Z a z).1,(X.g.Z a z).2⟩,fun a z=>⟨lo a (.inr (.inr (.inl z))) (X.g.O a z).1,(X.g.O a z).2⟩,X.g.oo,
  ⟨let ⟨t,n,e⟩:=X.g.spot.1;⟨t,n,kk _ (.inr (.inl X.g.spot.2.1)) _ e⟩,X.g.spot.2⟩,fun c ts e=>(X.g.self c ts e).mono kf (fun a z=>⟨z,kk a (.inr (.inl z))⟩) rfl⟩
 cases q:s.heap.get? a with
 |none=>rfl
 |some o=>exact (an (k a o q v) e).elim
theorem dP {vol W:List Addr}(p:bH vol W g s g' s')(lv:∀a∈vol,s'.heap.get? a≠none):bH [] W g s g' s':={p with back:=fun a _ e=>p.back a (fun q=>lv a q e) e}
theorem nB.one {I:Addr}{ts:List T}{vol fx:List Addr}{St:Nat→Gh→Heap→Prop}(T:nB P A I ts vol fx St){i:Nat}{y:Str}{k:NameKind}{p:Pos}(hc:b9 C i false C'=true)(ht:B.tab[i]?=some (some (y,k)))(hk:k=.local∨k=.cell):kx P A B C C' (.Name y p) (aM i) (AD k y) I ts vol fx St where
 sub env:=cU
 self:=T.self
 stay:=T.stay
 here:=T.here
 item j t n env g ρ ρ' σ s Q E hj X hv st hρ hq:=by
  cases hρ
  have hvv:kP g env vol:=fun a ha=>hv a (List.mem_append_left _ ha)
  refine T.item j t g s _ _ hj st (fun a ha=>(hvv a ha).1) fun u h' tk hkp r st'=>?_
  obtain ⟨pV,X₁⟩:=dk X hvv hkp tk
  have pV:=dP pV fun a ha=>T.here _ _ _ st' a (List.mem_append_left _ ha)
  show wpAny P.M A (pure ()) _ _ _
  refine wpAny_pure (wpAny_assign_Name (gV X₁ hc ht hk r fun s' p' X'=>hq s' ((pV.weak (fun _ h=>h) fun a=>List.mem_append_left _).trans (p'.weak (fun _ h=>h) fun a=>List.mem_append_right vol)) X' ?_))
  have pS:=p'.toS.weak cU
  exact T.stay _ _ _ _ _ st' (pS.k X₁.g fun a ha=>(X₁.env.own a ha).2.1) (hv.post (s:={s with heap:=h',toks:=tk}) (T.here _ _ _ st') pS).2
 done n env g ρ σ s Q E X hv st hq:=T.done g s _ _ st fun h' tk hkp=>let ⟨pV,X₁⟩:=dk X (fun a ha=>hv a (List.mem_append_left _ ha)) hkp tk;hq _ pV X₁
end
section
variable {P:Pg} {B:bB} {C C' C'':Ct} {fr:Bool} {n:Nat} {A:Around} {env:Env} {g g' g₁ g₂:Gh} {ρ:aH} {σ:Sg} {s s' s₁ s₂:Shared} {h h':Heap}
theorem bF {pos:Pos}{l:List (Bool×Sem Value)}(h:∀q∈l,q.1=false):∀q∈backTo pos l,q.1=false:=fun q hq=>by
 obtain ⟨p,h1,rfl⟩:=List.mem_map.mp (show q∈List.map _ l from hq)
 exact h p h1
theorem gL {M:Model}{E:Value→Shared→Prop}{f:Value}{trees:List (Bool×Sem Value)}{Q:PySem.Args→Shared→Prop}(hp:∀p∈trees,p.1=false)
  (h:wpAny M A (spliced trees) (fun vs s'=>Q ⟨vs,[]⟩ s') E s):wpAny M A (evalArgs f true trees []) Q E s:=by
 cases trees with
 |nil=>
  unfold evalArgs
  show wpAny M A (spliced [] >>=_) Q E s
  refine wpAny_bind (wpAny_mono h (fun vs s' h'=>?_) fun _ _ x=>x)
  exact wpAny_holding (wpAny_bind (wpAny_pure (wpAny_bind (wpAny_pure (wpAny_pure h')))))
 |cons t r=>
  obtain ⟨b,x⟩:=t
  obtain rfl:b=false:=hp (b,x) List.mem_cons_self
  exact Calls.evalArgs_plain h
theorem At.base (X:At P B C n A env g ρ σ s):∀a o,P.h₀.get? a=some o→s.heap.get? a=some o:=fun a o e=>(X.g.base a o e).2
theorem At.blt (X:At P B C n A env g ρ σ s){x:Str}{pos:Pos}{v:Value}{Q:Value→Shared→Prop}{E:Value→Shared→Prop}(hx:B.sc.names.lookup x=some .globalImplicit)(hd:(x==("__debug__":Str))=false)
  (hm:x∈iI)(hv:bootBuiltins x=some v)(h:Q v s):wpAny P.M A (eval (.Name x pos) env) Q E s:=
 have ⟨g1,g2⟩:=X.good.blt x hm
 Calls.Name_function_global X.fn (show env.scope.names.lookup x=_ from X.env.sc▸hx) (Calls.loadGlobal_builtin (mg:=P.mg) (mb:=P.mb) (X.env.glob▸X.good.g.keeps X.base) g1 (X.env.blt▸X.good.b.keeps X.base) (g2.trans hv) h) hd
theorem wf {o:cc}{k:PK T}(h:nH o k≠.bad):∃t σ,o=.ret t σ:=by
 cases o with
 |ret t σ=>exact ⟨t,σ,rfl⟩
 |_=>exact absurd (by with_unfolding_all rfl) h
theorem A6.after {fr:Bool}{t:T}{x:Value}{h₁:Heap}(b:∀a,h₁.get? a=none→h.get? a=none)(r:A6 P fr h₁ g' h' t x):A6 P fr h g' h' t x:=by
 cases fr with
 |false=>exact r
 |true=>exact DP _ _ _ _ _ _ b r
noncomputable abbrev RF (P:Pg)(f:Nat):RR Value T:=fun h g' h' t x=>A6 P (kM f) h g' h' t x
theorem q0 {f:Nat}{ts:List T}{vs:List Value}{t:T}{σ':Sg}{Q:Value→Shared→Prop}{E:Value→Shared→Prop}(X:At P B C n A env g ρ σ s)(r:Args P (rP f) g s.heap ts vs)(e:ai P.Ψ n f ts σ=.ret t σ')(hq:∀x s' g',aE g s g' s'→bv P g' s'.heap σ'→A6 P (kM f) s.heap g' s'.heap t x→Q x s'):
  wpAny P.M A (PySem.call (.ref (P.fnA f)) vs) Q E s:=
 wpAny_call (codeAny_mono (X.call n (Nat.le_refl n) f A ts vs g σ s t σ' Q E X.room.c X.g r e hq) fun r s' q=>by
  match r,q with
  |.ok (.ret u),q=>exact q
  |.ok .next,q=>exact q.elim
  |.ok .brk,q=>exact q.elim
  |.ok .cont,q=>exact q.elim
  |.error u,q=>exact q)
theorem ak.callF {y:Str}{f:Nat}{F:fY}{es:List Expr}{ps:PL}{p pos:Pos}(hf:P.Ψ f=some F)(hn:P.gl f=true∧(P.fd f).name=y)(hm:rP f=false)(hx:B.sc.names.lookup y=some .globalImplicit)(hd:(y==("__debug__":Str))=false)(h:f0 P B C es ps):
  ak P B C (.Call (.Name y p) es [] pos) (am f ps) (RF P f):=fun n A env g ρ σ s k Q E X hb hq=>by
 obtain ⟨o,g1,g2,g3,g4⟩:=X.good.fn f F hf
 refine Call_Name rfl (X.glob hx hd (hn.2▸g3 hn.1) ?_)
 refine Calls.callWith_function (fd:=P.fd f) (o:=o) (gL (bF (h.pl env)) (h.sim pos n A env g ρ σ s _ _ E X hb fun xs s₁ g₁ ts σ₁ e p w r=>?_))
 have X₁:=X.post p w
 obtain ⟨t,σ₂,e₂⟩:=wf fun q=>hb (e.trans q)
 exact ⟨⟨X₁.base _ _ g1,g2⟩,q0 X₁ (by rw [hm];exact r) e₂ fun x s' g' p' w' r'=>hq x s' g' t σ₂ (e.trans (by rw [e₂,AH])) (p.trans p') w' (r'.after p.back)⟩
theorem ak.call {y:Str}{f:Nat}{F:fY}{es:List Expr}{ps:PL}{p pos:Pos}(hf:P.Ψ f=some F)(hn:P.gl f=true∧(P.fd f).name=y)(hm:rP f=false)(hfr:kM f=false)(hx:B.sc.names.lookup y=some .globalImplicit)(hd:(y==("__debug__":Str))=false)(h:f0 P B C es ps):
  ak P B C (.Call (.Name y p) es [] pos) (am f ps) (RV P):=(ak.callF hf hn hm hx hd h).weak fun _ _ _ _ _ r=>by unfold RF A6 at r;rw [hfr] at r;exact r
theorem ak.callN {y:Str}{f:Nat}{F:fY}{es:List Expr}{ps:PL}{p pos:Pos}(hf:P.Ψ f=some F)(hn:P.gl f=true∧(P.fd f).name=y)(hm:rP f=false)(hfr:kM f=true)(hx:B.sc.names.lookup y=some .globalImplicit)(hd:(y==("__debug__":Str))=false)(h:f0 P B C es ps):
  ak P B C (.Call (.Name y p) es [] pos) (am f ps) (RN P):=(ak.callF hf hn hm hx hd h).weak fun _ _ _ _ _ r=>by unfold RF A6 at r;rw [hfr] at r;exact r
theorem bw {M:Model}{E:Value→Shared→Prop}{pos:Pos}{f:Value}{first:List Value}{args:List (Bool×Sem Value)}{Q:Value→Shared→Prop}(hf:∀a,f≠.ref a)(hp:∀p∈args,p.1=false)
  (h:wpAny M A (spliced args) (fun vs s₁=>wpAny M A (PySem.call f (first++vs) []) Q E s₁) E s):wpAny M A (callWith pos f first args []) Q E s:=by
 have hany:args.any (·.1)=false:=List.any_eq_false.mpr fun p hp'=>by rw [hp p hp'];decide
 have h':=gL (f:=f) (Q:=fun a s₁=>wpAny M A (PySem.call f (first++a.pos) a.kw) Q E s₁) hp h
 have hkp:keeperOf f=pure .machine:=by
  cases f<;>first |rfl |exact absurd rfl (hf _)
 unfold callWith
 refine wpAny_bind (wpAny_holding (wpAny_mono h' (fun a s₁ h₁=>wpAny_bind (wpAny_standAt ?_)) fun _ _ x=>x))
 rw [hkp,hany]
 refine wpAny_bind (wpAny_pure ?_)
 exact wpAny_bind (wpAny_mono h₁ (fun r s₂ hr=>wpAny_bind (wpAny_holding (wpAny_point (wpAny_pure hr)))) fun _ _ x=>x)
theorem ak.b1Y {y:Str}{id:Value}{F:T→Option T}{e:Expr}{p:PE}{pn pos:Pos}{R:RR Value T}(hd:Dn R)(o:yw P (Cz P fun x=>PySem.call id [x]) F R)(hid:∀a,id≠.ref a)(hx:B.sc.names.lookup y=some .globalImplicit)(hdb:(y==("__debug__":Str))=false)(hm:y∈iI)(hv:bootBuiltins y=some id)
  (hn:∀env,starEach [e] env=[(false,eval e env)])(h:ak P B C e p (RY P)):ak P B C (.Call (.Name y pn) [e] [] pos) (p1 F p) R:=fun n A env g ρ σ s k Q E X hb hq=>
 Call_Name rfl (X.blt hx hdb hm hv (bw hid (bF (by rw [hn env];exact fun q hq=>by cases hq with |head=>rfl |tail _ h=>cases h))
  (wpAny_items_cons (wpAny_mono (h.op1 hd o n A env g ρ σ s k Q E X hb hq) (fun _ _ q=>wpAny_items_nil q) fun _ _ q=>q) (hn env))))
theorem ak.b1 {y:Str}{id:Value}{F:T→Option T}{e:Expr}{p:PE}{pn pos:Pos}{R:RR Value T}(hd:Dn R)(o:yw P (Cz P fun x=>PySem.call id [x]) F R)(hid:∀a,id≠.ref a)(hx:B.sc.names.lookup y=some .globalImplicit)(hdb:(y==("__debug__":Str))=false)(hm:y∈iI)(hv:bootBuiltins y=some id)
  (hn:∀env,starEach [e] env=[(false,eval e env)])(h:ak P B C e p (RX P)):ak P B C (.Call (.Name y pn) [e] [] pos) (p1 F p) R:=.b1Y hd o hid hx hdb hm hv hn h.xy
theorem gJ {I:Addr}{h h':Heap}(hs:∀b,b≠I→h'.get? b=h.get? b):∀a o,h.get? a=some o→a∉[I]→h'.get? a=some o:=fun a o e q=>(hs a fun x=>q (x▸List.mem_singleton.mpr rfl)).trans e
theorem sB {I:Addr}{h h':Heap}(hs:∀b,b≠I→h'.get? b=h.get? b)(hI:¬g.F I):aO g h g h':=⟨fun a f=>⟨f,fun o e=>(hs a fun q=>hI (q▸f)).trans e⟩,rfl⟩
theorem nB.list (hh:A.handled=none){I l:Addr}{ts:List T}{vs:Array Value}{m:Nat}:nB P A I ts [I] [] (fun i g h=>h.IsListIter I l i∧g.F l∧h.get? l=some (br vs m)∧aR P g h ts vs.toList) where
 self i g s Q E st:=wpAny_pyIter_listiter st.1
 stay i g h g' h' st k ki:=by
  obtain ⟨⟨o,e,r⟩,f,e',q⟩:=st
  exact ⟨⟨o,ki I (List.mem_singleton.mpr rfl) o e,r⟩,(k.F l f).1,(k.F l f).2 _ e',q.mono k⟩
 here i g h st a ha:=by
  obtain ⟨⟨o,e,_⟩,_⟩:=st
  rw [List.mem_singleton.mp ha];exact an e
 item i t g s Q E hi st hF hq:=by
  obtain ⟨it,f,e',q⟩:=st
  obtain ⟨u,hu,r⟩:=q.get hi
  refine wpAny_pyNext_list_item it ⟨_,e',rfl,m,rfl⟩ (by rw [←Array.getElem?_toList];exact hu) fun h' it' hs=>?_
  have kf:=sB hs.2 (hF I (List.mem_singleton.mpr rfl))
  exact hq u h' s.toks (gJ hs.2) (r.mono kf) ⟨it',f,(kf.F l f).2 _ e',q.mono kf⟩
 done g s Q E st hq:=by
  obtain ⟨it,f,e',q⟩:=st
  refine wpAny_pyNext_list_end hh it ⟨_,e',rfl,m,rfl⟩ (Array.getElem?_eq_none (Nat.le_of_eq q.size)) fun h' hs=>hq h' s.toks fun b o e hb=>hs b o (fun q=>hb (List.mem_singleton.mpr q)) e
theorem nB.tuple (hh:A.handled=none){I l:Addr}{ts:List T}{vs:Array Value}{m:Nat}:nB P A I ts [I] [] (fun i g h=>h.IsTupleIter I l i∧g.F l∧h.get? l=some (ia vs m)∧aR P g h ts vs.toList) where
 self i g s Q E st:=wpAny_pyIter_tupleiter st.1
 stay i g h g' h' st k ki:=by
  obtain ⟨⟨o,e,r⟩,f,e',q⟩:=st
  exact ⟨⟨o,ki I (List.mem_singleton.mpr rfl) o e,r⟩,(k.F l f).1,(k.F l f).2 _ e',q.mono k⟩
 here i g h st a ha:=by
  obtain ⟨⟨o,e,_⟩,_⟩:=st
  rw [List.mem_singleton.mp ha];exact an e
 item i t g s Q E hi st hF hq:=by
  obtain ⟨it,f,e',q⟩:=st
  obtain ⟨u,hu,r⟩:=q.get hi
  refine wpAny_pyNext_tuple_item it ⟨_,e',rfl,m,rfl⟩ (by rw [←Array.getElem?_toList];exact hu) fun h' it' hs=>?_
  have kf:=sB hs.2 (hF I (List.mem_singleton.mpr rfl))
  exact hq u h' s.toks (gJ hs.2) (r.mono kf) ⟨it',f,(kf.F l f).2 _ e',q.mono kf⟩
 done g s Q E st hq:=by
  obtain ⟨it,f,e',q⟩:=st
  exact wpAny_pyNext_tuple_end hh it ⟨_,e',rfl,m,rfl⟩ (Array.getElem?_eq_none (Nat.le_of_eq q.size)) fun h' hs=>hq h' s.toks fun b o e hb=>hs b o (fun q=>hb (List.mem_singleton.mpr q)) e
noncomputable abbrev uT (c:String)(l:Addr):Obj:={cls:=.type c,data:=.fields #[.ref l,.int 0 0]}
noncomputable abbrev yj (P:Pg)(B:bB)(C C':Ct)(target:Expr)(zb:PB)(tw:Env→List Addr):Around→Addr→List T→List Addr→List Addr→(Nat→Gh→Heap→Prop)→Prop:=fun A I ts vol fx St=>kx P A B C C' target zb tw I ts vol fx St
structure iM (P:Pg) (mk:Around→Addr→List T→List Addr→List Addr→(Nat→Gh→Heap→Prop)→Prop):Prop where
 make:∀{A I ts vol fx St},nB P A I ts vol fx St→mk A I ts vol fx St
theorem iM.one {i:Nat}{y:Str}{k:NameKind}{p:Pos}(hc:b9 C i false C'=true)(ht:B.tab[i]?=some (some (y,k)))(hk:k=.local∨k=.cell):iM P (yj P B C C' (.Name y p) (aM i) (AD k y)):=⟨fun T=>T.one hc ht hk⟩
theorem o7 {X:Obj}{tk:Nat}(w:bv P g₁ s₁.heap σ)(p:aE g s g₁ s₁):aE g s g₁ {s₁ with heap:=s₁.heap.push X,toks:=tk}∧bv P g₁ (s₁.heap.push X) σ∧∀a∈[s₁.heap.objs.size],s.heap.get? a=none∧¬g₁.F a∧¬g₁.Z a:=
 ⟨p.trans (.push X tk),w.push X,fun a ha=>by rw [List.mem_singleton.mp ha];exact ⟨p.back _ (aF _),(dj w).1,(dj w).2.1⟩⟩
theorem eT.seq {e:Expr}{p:PE}{mk:Around→Addr→List T→List Addr→List Addr→(Nat→Gh→Heap→Prop)→Prop}(hb:iM P mk)(h:ak P B C e p (RV P)):eT P B C e mk (aL p):=fun n A env g ρ σ s k Q E X hbad hq=>
 h n A env g ρ σ s (fun t σ=>up (gj t) σ k) _ E X hbad fun x s₁ g₁ t σ₁ e p w r=>by
  obtain ⟨ts,e'⟩:=bY fun q=>hbad (e.trans q)
  have ek:aL _ (P.cx n) ρ σ k=k ts σ₁:=e.trans (by rw [e'];rfl)
  unfold gj el at e'
  cases e1:pP t with
  |some us=>
   rw [e1] at e';cases e';cases jW e1
   obtain ⟨l,rfl,f,vs,m,g1,g3,g2⟩:=r
   refine wpAny_pyIter_tuple ⟨_,g1,rfl,m,rfl⟩ ?_
   obtain ⟨p',w',v⟩:=o7 (X:=uT "tuple_iterator" l) (tk:=s₁.toks) w p
   exact hq _ g₁ ts σ₁ _ _ [] _ ek p' w' (hb.make (nB.tuple X.room.2.2)) ⟨⟨_,bI _,rfl,rfl⟩,f,bQ s₁ _ _ _ g1,g2.mono ((aE.push (uT "tuple_iterator" l) 0).k w)⟩ v (fun _ q=>nomatch q) g3
  |none=>
   rw [e1] at e';cases eh e'
   obtain ⟨l,rfl,f,vs,m,g1,g3,g2⟩:=r
   refine wpAny_pyIter_list ⟨_,g1,rfl,m,rfl⟩ ?_
   obtain ⟨p',w',v⟩:=o7 (X:=uT "list_iterator" l) (tk:=s₁.toks) w p
   exact hq _ g₁ ts σ₁ _ _ [] _ ek p' w' (hb.make (nB.list X.room.2.2)) ⟨⟨_,bI _,rfl,rfl⟩,f,bQ s₁ _ _ _ g1,g2.mono ((aE.push (uT "list_iterator" l) 0).k w)⟩ v (fun _ q=>nomatch q) g3
theorem nB.range (hh:A.handled=none){I:Addr}{a b c:Int}(n:Nat)(hn:n=(Builtin.Range.rangeSize a b c).toNat):nB P A I (cn a b c) [I] [] (fun i _ h=>i≤n∧IsRangeIter h I (a+(i:Nat) * c) ((n:Int) - (i:Nat)) c) where
 self i g s Q E st:=wpAny_pyIter_rangeiter st.2
 stay i g h g' h' st k ki:=⟨st.1,ki I (List.mem_singleton.mpr rfl) _ st.2⟩
 here i g h st a ha:=by rw [List.mem_singleton.mp ha];exact an st.2
 item i t g s Q E hi st hF hq:=by
  have hl:i < n:=by
   have:=(List.getElem?_eq_some_iff.mp hi).1
   rw [cn,List.length_map,List.length_range,←hn] at this;exact this
  have ht:t=.int (a+(i:Nat) * c):=by
   rw [cn,List.getElem?_map,List.getElem?_range (by rw [←hn];exact hl)] at hi
   exact (Option.some.inj hi).symm
  refine wpAny_pyNext_range_item st.2 (by lia -abstractProof) fun h' hit hs=>hq _ h' _ (gJ hs.2) (ht▸⟨_,rfl⟩) ⟨hl,?_⟩
  have e1:a+((i+1:Nat):Int) * c=a+(i:Int) * c+c:=by rw [Int.natCast_succ,Int.add_mul,Int.one_mul,Int.add_assoc]
  have e2:(n:Int) - ((i+1:Nat):Int)=(n:Int) - (i:Int) - 1:=by lia -abstractProof
  rw [e1,e2];exact hit
 done g s Q E st hq:=by
  have hl:(cn a b c).length=n:=by rw [cn,List.length_map,List.length_range,hn]
  exact wpAny_pyNext_range_end hh st.2 (by rw [hl];lia -abstractProof) fun h' hs=>hq h' s.toks fun b o e hb=>hs b o (fun q=>hb (List.mem_singleton.mpr q)) e
theorem AV {i:Int}(h1:-4000000000≤i)(h2:i≤4000000000):Builtin.Range.rangeFitsLong i=true:=Bool.and_eq_true_iff.mpr ⟨decide_eq_true (Int.le_trans (by decide) h1),decide_eq_true (Int.lt_of_le_of_lt h2 (by decide))⟩
theorem te {i:Int}(h:sm i=true):-1000000000≤i∧i≤1000000000:=
 have q:(i.natAbs:Int)≤1000000000:=Int.ofNat_le.mpr (vF h)
 ⟨Int.neg_le_of_neg_le (Int.le_trans (Int.natAbs_neg i▸Int.le_natAbs) q),Int.le_trans Int.le_natAbs q⟩
theorem AE {a b:Int}(ha:sm a=true)(hb:sm b=true):0≤(if a < b then (b - a - 1) / 1+1 else 0:Int)∧(if a < b then (b - a - 1) / 1+1 else 0:Int)≤4000000000:=by
 by_cases h:a < b
 ·rw [if_pos h,Int.ediv_one,Int.sub_add_cancel];exact ⟨Int.sub_nonneg.mpr (Int.le_of_lt h),Int.le_trans (Int.sub_le_sub (te hb).2 (te ha).1) (by decide)⟩
 ·rw [if_neg h];decide
theorem AU {a:Int}(h:sm a=true):Builtin.Range.rangeFitsLong a=true:=AV (Int.le_trans (by decide) (te h).1) (Int.le_trans (te h).2 (by decide))
theorem GF {a b c n d:Int}(ha:sm a=true)(hb:sm b=true)(hc:Builtin.Range.rangeFitsLong c=true)(hn:0≤n∧n≤4000000000)(hd:d=b):(Builtin.Range.rangeFitsLong a&&Builtin.Range.rangeFitsLong b&&Builtin.Range.rangeFitsLong c&&Builtin.Range.rangeFitsLong n&&(n==0||Builtin.Range.rangeFitsLong d))=true:=by
 rw [AU ha,hd,AU hb,hc,AV (Int.le_trans (by decide) hn.1) hn.2,Bool.or_true];rfl
theorem yJ {a b:Int}(ha:sm a=true)(hb:sm b=true):0≤Builtin.Range.rangeSize a b 1∧Builtin.Range.small a b 1=true:=by
 have e:Builtin.Range.rangeSize a b 1=if a < b then (b - a - 1) / 1+1 else 0:=if_pos (by decide)
 have h:=AE ha hb
 rw [←e] at h
 exact ⟨h.1,GF ha hb (by decide) h (Int.add_zero b)⟩
inductive Hf (ts:List T) (vs:List Value) (l:List T):Prop
 |one (n:Int) (t:Tok) (e:vs=[.int n t]) (h:rg 0 n=some l)
 |two (m n:Int) (t u:Tok) (e:vs=[.int m t,.int n u]) (h:rg m n=some l)
theorem r7 {ts l:List T}{vs:List Value}(r:aR P g h ts vs)(e:r5 ts=some l):Hf ts vs l:=by
 unfold r5 at e
 cases ts with
 |nil=>cases e
 |cons m r1=>
  obtain ⟨x,xs,e1,q1,q2⟩:=r
  cases r1 with
  |nil=>
   obtain ⟨i,h1,h2⟩:=ar (show o1 (iN m) (rg 0)=some l from e)
   cases nc h1
   obtain ⟨t,rfl⟩:=q1
   cases q2
   exact .one i t e1 h2
  |cons m' r2=>
   obtain ⟨x',xs',e2,q3,q4⟩:=q2
   cases r2 with
   |nil=>
    obtain ⟨i,j,h1,h2,h3⟩:=bc (show o2 (iN m) (iN m') rg=some l from e)
    cases nc h1;cases nc h2
    obtain ⟨t,rfl⟩:=q1
    obtain ⟨u,rfl⟩:=q3
    cases q4
    exact .two i j t u (e2▸e1) h3
   |cons=>cases e
noncomputable abbrev Fs (a b:Int)(t u v:Tok):Obj:={cls:=.type "range",data:=.fields #[.int a t,.int b u,.int 1 v]}
theorem eT.range {es:List Expr}{ps:PL}{p pos:Pos}{mk:Around→Addr→List T→List Addr→List Addr→(Nat→Gh→Heap→Prop)→Prop}(hb:iM P mk)(hx:B.sc.names.lookup (ofString "range")=some .globalImplicit)(h:f0 P B C es ps):
  eT P B C (.Call (.Name (ofString "range") p) es [] pos) mk (bG ps):=fun n A env g ρ σ s k Q E X hbad hq=>by
 refine Call_Name rfl (X.blt hx (by decide) (by decide) (v:=.type "range") (by decide) ?_)
 refine bw (fun _ q=>by cases q) (bF (h.pl env)) (h.sim pos n A env g ρ σ s (fun t σ=>up (r5 t) σ k) _ E X hbad fun xs s₁ g₁ ts σ₁ e p w r=>?_)
 obtain ⟨l,e'⟩:=bY fun q=>hbad (e.trans q)
 have ek:bG ps (P.cx n) ρ σ k=k l σ₁:=e.trans (by rw [e'];rfl)
 have fin:∀(a b:Int) (t u v:Tok) (tk:Nat),rg a b=some l→wpAny P.M A (pyIter (.ref s₁.heap.objs.size)) Q E {s₁ with heap:=s₁.heap.push (Fs a b t u v),toks:=tk}:=fun a b t u v tk hr=>by
  obtain ⟨c,rfl⟩:=cz hr
  obtain ⟨c1,c2⟩:=Bool.and_eq_true_iff.mp c
  obtain ⟨c3,c4⟩:=Bool.and_eq_true_iff.mp c1
  obtain ⟨hsz,hsm⟩:=yJ c3 c4
  refine wpAny_pyIter_range (IsRange.new s₁.heap a b 1 t u v) hsm ?_
  obtain ⟨p',w',_⟩:=o7 (X:=Fs a b t u v) (tk:=tk) w p
  obtain ⟨p'',w'',v''⟩:=o7 (s₁:={s₁ with heap:=s₁.heap.push (Fs a b t u v),toks:=tk}) (X:={cls:=.type "range_iterator",data:=.fields #[rawInt a,rawInt (Builtin.Range.rangeSize a b 1),rawInt 1]}) (tk:=tk) w' p'
  refine hq _ g₁ _ σ₁ _ _ [] _ ek p'' w'' (hb.make (nB.range X.room.2.2 (Builtin.Range.rangeSize a b 1).toNat rfl)) ⟨Nat.zero_le _,?_⟩ v'' (fun _ q=>nomatch q) (fK c2)
  have e1:a+((0:Nat):Int) * 1=a:=by simp
  have e2:(((Builtin.Range.rangeSize a b 1).toNat:Int) - ((0:Nat):Int))=Builtin.Range.rangeSize a b 1:=by lia -abstractProof
  show IsRangeIter _ _ _ _ _
  rw [e1,e2];exact bI _
 rcases r7 r e' with ⟨m,t,rfl,hr⟩ | ⟨m,m',t,u,rfl,hr⟩
 ·exact call_range_1 (fin 0 m _ t _ _ hr)
 ·exact call_range_2 (fin m m' t u _ _ hr)
end
theorem oq {kind:Str→Option NameKind}{x:Str}:∀(l:List (Str×Value)) (m:Str→Option Value),(∀p∈l,p.1≠x)→bindL kind l m x=m x
 | [],_,_=>rfl
 | (y,v)::r,m,h=>by
  rw [bindL,oq r _ fun p hp=>h p (List.mem_cons_of_mem _ hp)]
  have hy:¬x=y:=fun e=>h (y,v) List.mem_cons_self e.symm
  split
  ·simp [hy]
  ·rfl
theorem ou {kind:Str→Option NameKind}{x:Str}:∀(l:List (Str×Value)) (m:Str→Option Value),(∀p∈l,p.1≠x)→bindC kind l m x=m x
 | [],_,_=>rfl
 | (y,v)::r,m,h=>by
  rw [bindC,ou r _ fun p hp=>h p (List.mem_cons_of_mem _ hp)]
  have hy:¬x=y:=fun e=>h (y,v) List.mem_cons_self e.symm
  split
  ·rfl
  ·simp [hy]
theorem lf {x:Str}{ps:List Str}{vs:List Value}(h:x∉ps):∀p∈ps.zip vs,p.1≠x:=fun p hp e=>h (e▸(List.of_mem_zip (a:=p.1) (b:=p.2) hp).1)
theorem rt {kind:Str→Option NameKind}:∀(ps:List Str) (vs:List Value) (m:Str→Option Value),ps.Nodup→∀(i:Nat) (x:Str) (v:Value),ps[i]?=some x→vs[i]?=some v→kind x=some .local→bindL kind (ps.zip vs) m x=some v
 | [],_,_,_,i,x,v,h,_,_=>by simp at h
 |_::_,[],_,_,i,x,v,_,h,_=>by simp at h
 |y::ps,u::vs,m,hn,0,x,v,hx,hv,hk=>by
  simp at hx hv;subst hx hv
  rw [List.zip_cons_cons,bindL,oq _ _ (lf (List.nodup_cons.mp hn).1),if_pos hk];simp
 |y::ps,u::vs,m,hn,i+1,x,v,hx,hv,hk=>by
  rw [List.zip_cons_cons,bindL]
  exact rt ps vs _ (List.nodup_cons.mp hn).2 i x v (by simpa using hx) (by simpa using hv) hk
theorem ry {kind:Str→Option NameKind}:∀(ps:List Str) (vs:List Value) (m:Str→Option Value),ps.Nodup→∀(i:Nat) (x:Str) (v:Value),ps[i]?=some x→vs[i]?=some v→kind x≠some .local→bindC kind (ps.zip vs) m x=some v
 | [],_,_,_,i,x,v,h,_,_=>by simp at h
 |_::_,[],_,_,i,x,v,_,h,_=>by simp at h
 |y::ps,u::vs,m,hn,0,x,v,hx,hv,hk=>by
  simp at hx hv;subst hx hv
  rw [List.zip_cons_cons,bindC,ou _ _ (lf (List.nodup_cons.mp hn).1),if_neg hk];simp
 |y::ps,u::vs,m,hn,i+1,x,v,hx,hv,hk=>by
  rw [List.zip_cons_cons,bindC]
  exact ry ps vs _ (List.nodup_cons.mp hn).2 i x v (by simpa using hx) (by simpa using hv) hk
theorem o8 {cs:List (Str×Addr)}(h:cs.Pairwise fun x y=>x.2≠y.2):∀{x y:Str} {c:Addr},cs.lookup x=some c→cs.lookup y=some c→x=y:=by
 induction cs with
 |nil=>intro x y c hx;cases hx
 |cons p r ih=>
  intro x y c hx hy
  obtain ⟨z,d⟩:=p
  have h1:=(List.pairwise_cons.mp h).1
  rw [List.lookup_cons] at hx hy
  have out:∀{w:Str},r.lookup w=some d→False:=fun {w} e=>by
   obtain ⟨q,hq,e'⟩:=List.mem_map.mp (bo e)
   exact h1 q hq e'.symm
  cases hx':(x==z) with
  |true=>
   simp only [hx'] at hx;cases hx
   cases hy':(y==z) with
   |true=>exact (beq_iff_eq.mp hx').trans (beq_iff_eq.mp hy').symm
   |false=>simp only [hy'] at hy;exact (out hy).elim
  |false=>
   simp only [hx'] at hx
   cases hy':(y==z) with
   |true=>simp only [hy'] at hy;cases hy;exact (out hx).elim
   |false=>simp only [hy'] at hy;exact ih (List.pairwise_cons.mp h).2 hx hy
structure El (P:Pg) (f np:Nat) (tab:List (Option (Str×NameKind))) (ps:List Str) (bd:List Stmt) (U:List Nat):Prop where
 body:(P.fd f).body=.stmts bd
 ok:bB.ok ⟨(P.fd f).scope,tab⟩=true
 len:ps.length=np
 par:∀(i:Nat) (x:Str),ps[i]?=some x→∃k:NameKind,tab[i]?=some (some (x,k))∧(k=.local∨k=.cell)
 nof:∀(i:Nat) (x:Str),tab[i]?≠some (some (x,.free))
 bind:∀vals:List Value,vals.length=np→bindArgs (P.fd f) ⟨vals,[]⟩=pure (ps.zip vals)
 nd:((cellsFrom 0 (P.fd f).scope.names []).map (·.1)).Nodup
 co:(P.fd f).scope.isCoroutine=false∧(P.fd f).scope.isGenerator=false
 un:∀i∈U,np≤i
inductive vk (P:Pg) (f:Nat) (F:fY):Prop
 |mk (tab:List (Option (Str×NameKind))) (ps:List Str) (bd:List Stmt) (U:List Nat) (C':Ct) (K:El P f F.np tab ps bd U) (sim:gR P ⟨(P.fd f).scope,tab⟩ ⟨[],U,rP f⟩ (kM f) C' bd F.body)
theorem nA.deeper {A:Around}{n:Nat}(env:Env)(h:nA A (n+1)):Aq (A.deeper env) n:=by
 obtain ⟨h1,h2,h3⟩:=h
 refine ⟨?_,?_,h3⟩
 ·show A.depth+1+2 * n+10 < recursionLimit;lia -abstractProof
 ·show A.units+3+20 * n+200 < cLine;lia -abstractProof
theorem gX {n i:Nat}{t:T}:∀{ts:List T},bC (frame ts n) i=some t→ts[i]?=some t:=by
 intro ts
 induction ts generalizing i with
 |nil=>
  intro h
  have:∀n i,bC (List.replicate n none) i=none:=fun n=>by
   induction n with
   |zero=>exact fun _=>rfl
   |succ n ih=>intro i;cases i with
    |zero=>rfl
    |succ i=>exact ih i
  rw [show frame [] n=List.replicate n none from rfl,this] at h;cases h
 |cons x ts ih=>
  intro h
  cases i with
  |zero=>exact h
  |succ i=>exact ih h
theorem wi {n i:Nat}{ts:List T}(h:ts.length≤i):bC (frame ts n) i=none:=by
 cases e:bC (frame ts n) i with
 |none=>rfl
 |some t=>exact absurd (List.getElem?_eq_some_iff.mp (gX e)).1 (Nat.not_lt.mpr h)
theorem Args.get {P:Pg}{m:Bool}{g:Gh}{h:Heap}{ts:List T}{vs:List Value}(a:Args P m g h ts vs):vs.length=ts.length∧∀(i:Nat) (t:T),ts[i]?=some t→∃v,vs[i]?=some v∧(Rp P g h t v∨(m=true∧i=0∧t=.self∧v=.ref g.sa)):=by
 cases m with
 |false=>exact ⟨aR.length a,fun i t e=>let ⟨v,e',r⟩:=aR.get a e;⟨v,e',.inl r⟩⟩
 |true=>
  obtain ⟨v,vs,t,ts,rfl,rfl,h1,h2⟩:=a
  refine ⟨congrArg (·+1) (aR.length h2),fun i u e=>?_⟩
  cases i with
  |zero=>cases e;exact ⟨v,rfl,h1.imp id fun q=>⟨rfl,rfl,q⟩⟩
  |succ i=>exact let ⟨v,e',r⟩:=aR.get h2 (i:=i) e;⟨v,e',.inl r⟩
theorem Args.mono {P:Pg}{m:Bool}{g g':Gh}{h h':Heap}{ts:List T}{vs:List Value}(k:aO g h g' h')(es:g'.sa=g.sa)(a:Args P m g h ts vs):Args P m g' h' ts vs:=by
 cases m with
 |false=>exact aR.mono k a
 |true=>exact let ⟨v,vs,t,ts,e,e',h1,h2⟩:=a;⟨v,vs,t,ts,e,e',h1.imp (·.mono k) fun q=>⟨q.1,es▸q.2⟩,h2.mono k⟩
theorem BY (g:Gh)(o:Nat→Option Addr)(h:Heap):aO g h {g with o:=o} h:=⟨fun _ f=>⟨f,fun _ e=>e⟩,rfl⟩
theorem bv.callee {P:Pg}{g:Gh}{h h':Heap}{σ:Sg}(w:bv P g h σ)(k:∀a o,h.get? a=some o→h'.get? a=some o):bv P {g with o:=fun _=>none} h' σ:=by
 have w1:=w.grow k g.F (fun _ f=>f) fun _ f=>.inl f
 exact ⟨w1.base,w1.F,w1.Z,(fun a ⟨_,q⟩=>nomatch q),(fun _ _ _ q=>nomatch q),w1.spot,fun c ts e=>(w1.self c ts e).mono (BY g _ h') (fun _ z=>⟨z,fun _ e=>e⟩) rfl⟩
theorem q6 {P:Pg}{g g':Gh}{s s₁ s':Shared}{σ σ':Sg}{W:List Addr}(hs:∃h tk,s₁={s with heap:=h,toks:=tk})(hk:∀a o,s.heap.get? a=some o→s₁.heap.get? a=some o)(w:bv P g s.heap σ)(hW:∀a∈W,s.heap.get? a=none)(q:aP [] W {g with o:=fun _=>none} s₁ g' s')(w':bv P g' s'.heap σ'):
  aE g s {g' with o:=g.o} s'∧bv P {g' with o:=g.o} s'.heap σ':=by
 have bk:∀a,s₁.heap.get? a=none→s.heap.get? a=none:=fun a e=>by
  cases x:s.heap.get? a with
  |none=>rfl
  |some o=>exact (an (hk a o x) e).elim
 have fn:∀a,g'.F a→g.F a∨s.heap.get? a=none:=fun a f=>(q.Fn a f).imp id fun x=>x.elim (fun ⟨_,x⟩=>nomatch x) (bk a)
 have zn:∀a,g'.Z a→g.Z a∨s.heap.get? a=none:=fun a f=>(q.Zn a f).imp id (bk a)
 have kp:∀a o,s.heap.get? a=some o→¬g.Z a→s'.heap.get? a=some o:=fun a o e z=>q.keep a o (hk a o e) z (fun ⟨_,x⟩=>nomatch x) fun x=>an e (hW a x)
 refine ⟨⟨St.trans hs q.st,kp,fun a e=>bk a (q.b a e),q.F,fn,zn,rfl,q.sp,q.sa⟩,w'.base,w'.F,w'.Z,fun a x=>?_,w.oo,w'.spot,fun c ts e=>(w'.self c ts e).mono (BY g' _ s'.heap) (fun _ z=>⟨z,fun _ e=>e⟩) rfl⟩
 obtain ⟨l,f,z⟩:=w.O a x
 refine ⟨?_,fun y=>(fn a y).elim f l,fun y=>(zn a y).elim z l⟩
 cases e:s.heap.get? a with
 |none=>exact (l e).elim
 |some o=>exact an (kp a o e z)
theorem AW {P:Pg}(G:rM P){f np ns:Nat}{F:fY}{m:Bool}{tab:List (Option (Str×NameKind))}{ps:List Str}{bd:List Stmt}{U:List Nat}(hf:P.Ψ f=some F)(K:El P f np tab ps bd U){A:Around}{ts:List T}{vs:List Value}{g:Gh}{s:Shared}{R:Result→Shared→Prop}(hd:A.depth < recursionLimit)(bs:∀a o,P.h₀.get? a=some o→s.heap.get? a=some o)
  (lF:∀a,g.F a→s.heap.get? a≠none)(lZ:∀a,g.Z a→s.heap.get? a≠none)(r:Args P m g s.heap ts vs)(hlen:ts.length=np)
  (k:∀s₁ env E,(∃h tk,s₁={s with heap:=h,toks:=tk})→(∀a o,s.heap.get? a=some o→s₁.heap.get? a=some o)→(∀a∈own env,s.heap.get? a=none)→bW P ⟨(P.fd f).scope,tab⟩ ⟨[],U,m⟩ env {g with o:=fun _=>none} (frame ts ns) s₁.heap→wpAny P.M (A.deeper env) (execs bd env) (fun f s'=>R (.ok (.ret (match f with |.ret v=>v |_=>.none))) s') E s₁):
  codeAny P.M A (.call (.ref (P.fnA f)) ⟨vs,[]⟩) R s:=by
 obtain ⟨o,g1,g2,g3,g4,g5,g6,g7⟩:=G.fn f F hf
 obtain ⟨K1,K2,K3,K4,K5,K6,K7,K8,K9⟩:=K
 obtain ⟨al,ag⟩:=r.get
 have hvl:vs.length=np:=al.trans hlen
 have look:∀i x k,tab[i]?=some (some (x,k))→(P.fd f).scope.names.lookup x=some k:=fun i x k h=>(bB.look (B:=⟨(P.fd f).scope,tab⟩) K2 h).2.1
 have hkind:(P.fd f).scope.kind=.function:=by
  have:=K2
  simp only [bB.ok,Bool.and_eq_true,beq_iff_eq] at this
  exact this.1.1
 have hnd:ps.Nodup:=by
  rw [List.nodup_iff_pairwise_ne,List.pairwise_iff_getElem]
  intro i j hi hj hij e
  obtain ⟨k,q,_⟩:=K4 i ps[i] (List.getElem?_eq_getElem hi)
  obtain ⟨k',q',_⟩:=K4 j ps[j] (List.getElem?_eq_getElem hj)
  exact absurd (bB.inj K2 (B:=⟨(P.fd f).scope,tab⟩) q (e▸q')) (Nat.ne_of_lt hij)
 refine codeAny_call_cells (binds:=ps.zip vs) hd (bs _ _ g1) g2 (G.nolimit.keeps bs) (g4.keeps bs) K1 (K6 vs hvl) g5 (fun x hx=>?_) (fun s₁ x=>?_) K8.1 K8.2 hkind
 ·obtain ⟨i,hi,e⟩:=List.getElem_of_mem (List.of_mem_zip (a:=x.1) (b:=x.2) hx).1
  obtain ⟨k,q,hk⟩:=K4 i x.1 (by rw [List.getElem?_eq_getElem hi,e])
  have:=look i x.1 k q
  rcases hk with rfl |rfl
  ·exact .inl this
  ·exact .inr ⟨this,PySem.W.cellsFrom_some _ _ _ (.inl this)⟩
 ·have dead:∀a:Addr,s.heap.objs.size≤a→s.heap.get? a=none:=fun a ha=>by
   cases e:s.heap.get? a with
   |none=>rfl
   |some o'=>exact absurd (Heap.lt_size e) (Nat.not_lt.mpr ha)
  have hW:∀a∈own (callEnvC (P.fd f) s.heap.objs.size (P.fnA f)),s.heap.get? a=none:=fun a ha=>by
   rcases List.mem_cons.mp ha with rfl |ha
   ·exact dead _ (Nat.le_refl _)
   ·obtain ⟨q,hq,rfl⟩:=List.mem_map.mp ha
    exact dead _ (Nat.le_of_lt (x.above q.1 q.2 hq))
  have r1:=r.mono (g':={g with o:=fun _=>none}) (h':=s₁.heap) (show aO g s.heap _ _ from ⟨fun a f=>⟨f,x.toInCall.keep a⟩,rfl⟩) rfl
  obtain ⟨_,ag⟩:=r1.get
  have par:∀{i y k t},tab[i]?=some (some (y,k))→ts[i]?=some t→ps[i]?=some y:=fun {i y k t} ht hv=>by
   have hi:i < ps.length:=by rw [K3,←hlen];exact (List.getElem?_eq_some_iff.mp hv).1
   obtain ⟨k,q,_⟩:=K4 i ps[i] (List.getElem?_eq_getElem hi)
   rw [ht] at q;cases q
   exact List.getElem?_eq_getElem hi
  have cl:∀{i:Nat} {y:Str} {k:NameKind},tab[i]?=some (some (y,k))→k≠.local→∃c,(cellsFrom (s.heap.objs.size+1) (P.fd f).scope.names []).lookup y=some c:=fun {i y k} ht hk=>by
   have hk':k=.cell:=by
    rcases (bB.look (B:=⟨(P.fd f).scope,tab⟩) K2 ht).2.2.1 with h |h |h
    ·exact (hk h).elim
    ·exact h
    ·exact (K5 i y (h▸ht)).elim
   exact Option.isSome_iff_exists.mp (PySem.W.cellsFrom_some (x:=y) (P.fd f).scope.names (s.heap.objs.size+1) [] (.inl (hk'▸look i y k ht)))
  refine k s₁ _ _ x.toInCall.same x.toInCall.keep hW {
   ok:=K2
   sc:=rfl
   glob:=g6
   blt:=g7
   ns:=⟨_,x.toInCall.ns⟩
   cell:=fun i y k ht hk=>let ⟨c,hc⟩:=cl ht (by rcases hk with rfl |rfl<;>decide);⟨c,_,hc,x.cell y c hc⟩
   apart:=fun y z c hy hz=>o8 x.apart hy hz
   own:=fun a ha=>⟨by
    rcases List.mem_cons.mp ha with rfl |ha
    ·obtain ⟨o',_,_,e',_⟩:=x.toInCall.ns;exact an e'
    ·obtain ⟨q,hq,rfl⟩:=List.mem_map.mp ha
     obtain ⟨o',e',hd⟩:=x.cell q.1 q.2 (lookup_of_mem_nodup (cellsFrom_names (P.fd f).scope.names 0 (s.heap.objs.size+1) [] [] rfl▸K7) hq)
     exact an e',fun q=>lF a q (hW a ha),fun q=>lZ a q (hW a ha),fun ⟨_,q⟩=>nomatch q⟩
   var:=fun i y t ht hv=>by
    obtain ⟨y,k⟩:=y
    have hv:=gX hv
    obtain ⟨u,hu,hr⟩:=ag i t hv
    have hp:=par ht hv
    refine ⟨u,?_,hr⟩
    by_cases hk:k=.local
    ·subst hk;exact .loc y _ ht x.toInCall.ns (rt ps vs _ hnd i y u hp hu (look i y _ ht))
    ·obtain ⟨c,hc⟩:=cl ht hk
     have xc:=x.cell y c hc
     rw [ry ps vs _ hnd i y u hp hu (by show (P.fd f).scope.names.lookup y≠_;rw [look i y k ht];exact fun q=>hk (Option.some.inj q))] at xc
     exact .cel y k c ht ((bB.look (B:=⟨(P.fd f).scope,tab⟩) K2 ht).2.2.1.resolve_left hk) hc xc
   un:=fun i hi=>wi (hlen▸K9 i hi)}
theorem q7 {P:Pg}(G:rM P)(n:Nat)(ih:∀k,k≤n→pT P k)(hF:∀f F,P.Ψ f=some F→vk P f F):pT P (n+1):=fun f A ts vs g σ s t σ' Q E room w r hc hq=>by
 rw [t7] at hc
 cases hf:P.Ψ f with
 |none=>rw [hf] at hc;cases hc
 |some F=>
  rw [hf] at hc
  obtain ⟨tab,ps,body,U,C',K,sim⟩:=hF f F hf
  cases hl:Nat.beq ts.length F.np with
  |false=>simp only [hl] at hc;cases hc
  |true=>
   simp only [hl,cond_true] at hc
   refine AW (ns:=F.ns) G hf K (Nat.lt_of_le_of_lt (Nat.le_trans (Nat.le_add_right _ _) (Nat.le_add_right _ _)) room.1) (fun a o e=>(w.base a o e).2) w.F (fun a z=>(w.Z a z).1) r (Nat.eq_of_beq_eq_true hl) fun s₁ env E' same keep hW E1=>?_
   have X:At P ⟨(P.fd f).scope,tab⟩ ⟨[],U,rP f⟩ n (A.deeper env) env {g with o:=fun _=>none} (frame ts F.ns) σ s₁:=⟨G,ih,room.deeper _,E1,w.callee keep⟩
   cases hb:F.body (P.cx n) (frame ts F.ns) σ fun _ σ=>bif kM f then .bad else .ret .none σ with
   |ret t' σ₁=>
    rw [show F.body ⟨ai P.Ψ n⟩ (frame ts F.ns) σ (fun _ σ=>bif kM f then .bad else .ret .none σ)=_ from hb] at hc
    cases hc
    refine sim n _ _ _ (frame ts F.ns) σ s₁ (fun _ σ=>bif kM f then .bad else .ret .none σ) _ _ X (by rw [hb];exact fun q=>by cases q) (fun s' g' ρ' σ₂ e p X'=>?_) fun y s' g' t₂ σ₂ e p w' r'=>?_
    ·rw [hb] at e
     cases hfr:kM f with
     |true=>rw [hfr] at e;cases e
     |false=>
      rw [hfr] at e hq;cases e
      obtain ⟨pe,we⟩:=q6 same keep w hW p X'.g
      exact hq .none s' _ pe we rfl
    ·rw [hb] at e;cases e
     obtain ⟨pe,we⟩:=q6 same keep w hW p w'
     refine hq y s' _ pe we ?_
     have kf:=BY g' g.o s'.heap
     cases hfr:kM f with
     |false=>rw [hfr] at r';exact Rp.mono kf r'
     |true=>
      rw [hfr] at r'
      obtain ⟨a,e,nw,f1,z1,r2⟩:=r'
      have nw:s.heap.get? a=none:=nw.elim (fun ⟨_,q⟩=>nomatch q) fun q=>by
       cases z:s.heap.get? a with
       |none=>rfl
       |some o=>exact (an (keep a o z) q).elim
      exact ⟨a,e,nw,f1,z1,fun q=>(w.O a q).1 nw,r2.mono kf fun _ e=>e⟩
   |_=>rw [show F.body ⟨ai P.Ψ n⟩ (frame ts F.ns) σ (fun _ σ=>bif kM f then .bad else .ret .none σ)=_ from hb] at hc;cases hc
theorem sQ {P:Pg}(G:rM P)(hF:∀f F,P.Ψ f=some F→vk P f F):∀n,∀k,k≤n→pT P k
 | 0,k,hk=>by
  obtain rfl:=Nat.le_zero.mp hk
  exact fun f A ts vs g σ s t σ' Q E _ _ _ hc _=>by cases hc
 |n+1,k,hk=>(Nat.lt_or_eq_of_le hk).elim (fun h=>sQ G hF n k (Nat.le_of_lt_succ h)) fun h=>h▸q7 G n (sQ G hF n) hF
noncomputable def er (env:Env):List (Str×NameKind)→List (Str×Addr)→List (Str×Addr)
 | [],acc=>acc
 | (n,k)::r,acc=>er env r (if k==.free then (n,(env.cells.lookup n).getD 0)::acc else acc)
theorem pJ (env:Env)(f:Str×NameKind→List (Str×Addr)→Sem (ForInStep (List (Str×Addr))))(h1:∀n cs c,env.cells.lookup n=some c→f (n,.free) cs=pure (.yield ((n,c)::cs)))(h2:∀n k cs,(k==NameKind.free)=false→f (n,k) cs=pure (.yield cs)):
  ∀(names:List (Str×NameKind)) (acc:List (Str×Addr)),(∀x,(x,NameKind.free)∈names→∃c,env.cells.lookup x=some c)→forIn names acc f=pure (er env names acc)
 | [],acc,_=>rfl
 | (n,k)::r,acc,h=>by
  rw [List.forIn_cons]
  cases hk:(k==NameKind.free) with
  |true=>
   have hk':k=.free:=by simpa using hk
   subst hk'
   obtain ⟨c,hc⟩:=h n List.mem_cons_self
   rw [h1 n acc c hc]
   show (forIn r ((n,c)::acc) f:Sem _)=_
   rw [pJ env f h1 h2 r _ fun x hx=>h x (List.mem_cons_of_mem _ hx)]
   simp only [er,hk,if_true,hc];rfl
  |false=>
   rw [h2 n k acc hk]
   show (forIn r acc f:Sem _)=_
   rw [pJ env f h1 h2 r _ fun x hx=>h x (List.mem_cons_of_mem _ hx)]
   simp only [er,hk];rfl
theorem iE {scope:Scope}{env:Env}(h:∀x,(x,NameKind.free)∈scope.names→∃c,env.cells.lookup x=some c):closureFor scope env=pure (er env scope.names []):=by
 simp only [closureFor]
 rw [pJ env _ ?_ ?_ scope.names [] h]
 ·rfl
 ·intro n cs c hc
  simp only [cellOf,hc];rfl
 ·intro n k cs hk
  simp only [hk];rfl
set_option tactic.hygienic true in
theorem jm {env:Env}:∀(names:List (Str×NameKind)) (acc:List (Str×Addr)),(∀x,(x,NameKind.free)∈names→∃c,env.cells.lookup x=some c)→(∀p∈acc,env.cells.lookup p.1=some p.2)→∀p∈er env names acc,env.cells.lookup p.1=some p.2
 | [],_,_,ha,p,hp=>ha p hp
 | (n,k)::r,acc,h,ha,p,hp=>by
  refine jm r _ (fun x hx=>h x (List.mem_cons_of_mem _ hx)) (fun q hq=>?_) p hp
  split at hq
  ·rename_i hk
   have hk':k=.free:=by simpa using hk
   subst hk'
   rcases List.mem_cons.mp hq with rfl |hq
   ·obtain ⟨c,hc⟩:=h n List.mem_cons_self
    rw [hc];rfl
   ·exact ha q hq
  ·exact ha q hq
theorem mL {env:Env}{x:Str}:∀(names:List (Str×NameKind)) (acc:List (Str×Addr)),(acc.lookup x).isSome=true∨(x,NameKind.free)∈names→((er env names acc).lookup x).isSome=true
 | [],_,h=>h.elim id fun q=>by cases q
 | (n,k)::r,acc,h=>by
  refine mL r _ ?_
  rcases h with h |h
  ·refine .inl ?_
   split
   ·rw [List.lookup_cons];split
    ·rfl
    ·exact h
   ·exact h
  ·rcases List.mem_cons.mp h with q |q
   ·cases q
    refine .inl ?_
    rw [if_pos (by decide),List.lookup_cons];simp
   ·exact .inr q
set_option tactic.hygienic true in
theorem kH {l:List (Str×Addr)}{x:Str}{c:Addr}(h:l.lookup x=some c):(x,c)∈l:=by
 induction l with
 |nil=>cases h
 |cons p r ih=>
  obtain ⟨y,d⟩:=p
  rw [List.lookup_cons] at h
  split at h
  ·rename_i hy
   cases h
   rw [beq_iff_eq.mp hy];exact List.mem_cons_self
  ·exact List.mem_cons_of_mem _ (ih h)
noncomputable def gn (scope outer:Scope):Scope:=
 {scope with names:=scope.names.map fun (n,k)=>if (k==.free&&outer.kind==.function&&outer.names.lookup n==some .cell) then (n,.cell) else (n,k)}
noncomputable def pW (xc:Option Str)(c:Addr):List (Str×Addr):=match xc with
 |none=>[]
 |some y=>[(y,c)]
theorem lU {xc:Option Str}{c d:Addr}{r:List (Str×Addr)}{y:Str}(h:(pW xc c++r).lookup y=some d):(xc=some y∧d=c)∨r.lookup y=some d:=by
 cases xc with
 |none=>exact .inr h
 |some z=>
  rw [show pW (some z) c++r=(z,c)::r from rfl,List.lookup_cons] at h
  cases q:y==z with
  |true=>rw [q] at h;cases h;exact .inl ⟨by rw [beq_iff_eq.mp q],rfl⟩
  |false=>rw [q] at h;exact .inr h
theorem tB {y:Str}{c:Addr}{r:List (Str×Addr)}:(pW (some y) c++r).lookup y=some c:=by
 rw [show pW (some y) c++r=(y,c)::r from rfl,List.lookup_cons,beq_self_eq_true]
theorem uJ {xc:Option Str}{c:Addr}{r:List (Str×Addr)}{y:Str}(h:xc≠some y):(pW xc c++r).lookup y=r.lookup y:=by
 cases xc with
 |none=>rfl
 |some z=>
  rw [show pW (some z) c++r=(z,c)::r from rfl,List.lookup_cons]
  cases q:y==z with
  |true=>exact absurd (congrArg some (beq_iff_eq.mp q).symm) h
  |false=>rfl
theorem tC {xc:Option Str}{c:Addr}{q:Str×Addr}(h:q∈pW xc c):∃y,xc=some y∧q=(y,c):=by
 cases xc with
 |none=>cases h
 |some z=>exact ⟨z,rfl,List.mem_singleton.mp h⟩
theorem dN {prog:Program}{w:World}{A:Around}{E:Value→Shared→Prop}{s:Shared}{l:Addr}{items:Array Value}{n:Nat}{x:Value}{Q:Value→Shared→Prop}(hl:IsL s.heap l items n)
  (h:Q .none {s with heap:=s.heap.update l (Obj.mapSeq fun a=>a.push x)})(hsz:items.size≤sizeLine):wpAny (model prog w) A (call (.builtin "list.append") [.ref l,x]) Q E s:=by
 refine wpAny_call_entry slot_list_append ⟨_,hl,rfl⟩ entry_list_append ?_ (args_list_append _ _)
 show wpAny _ _ (updateSeq l (·.push x) >>=fun _=>ret .none) _ _ s
 refine wpAny_bind ?_
 exact wpAny_updateSeq hl rfl (wpAny_pure ⟨.none,rfl,h⟩)
theorem o3 {M:Model}{A:Around}{E:Value→Shared→Prop}{s:Shared}{scope:Scope}{g:Addr}{cl:List (Str×Addr)}{qual:Str}{env:Env}{Q:Env→Shared→Prop}
  (h:Q (newEnv scope s.heap.objs.size g (cellsFrom (s.heap.objs.size+1) scope.names cl) qual none .none (some env) builtinsNs) {s with heap:=pushCells (s.heap.push {cls:=.type "dict",data:=.dict #[]}) scope.names}):
  wpAny M A (newFunctionEnv scope g cl [] qual none .none (some env)) Q E s:=by
 simp only [newFunctionEnv,Option.isSome_some,if_true]
 refine wpAny_bind (wpAny_alloc ?_)
 refine wpAny_bind (wpAny_layCells _ (fun name kind cells=>by cases hkc:kind==NameKind.cell<;>simp [hkc]) _ _ _ _ ?_)
 rw [show ({s with heap:=s.heap.push {cls:=.type "dict",data:=.dict #[]}}:Shared).heap.objs.size=s.heap.objs.size+1 from Heap.size_push ..]
 simp only [List.forIn_nil]
 exact wpAny_bind (wpAny_pure (wpAny_pure h))
noncomputable def mP (xc:Option Str):List (Str×NameKind)→Bool
 | []=>xc.isNone
 | (n,k)::r=>if k==.cell then xc==some n&&mP none r else mP xc r
theorem mM:∀{names:List (Str×NameKind)} {xc:Option Str},mP xc names=true→(∀n acc,cellsFrom n names acc=pW xc n++acc)∧∀h:Heap,(∀a o,h.get? a=some o→(pushCells h names).get? a=some o)∧∀y,xc=some y→(pushCells h names).IsCell h.objs.size none
 | [],xc,hr=>by
  cases xc with
  |none=>exact ⟨fun _ _=>rfl,fun _=>⟨fun _ _ e=>e,fun _ q=>by cases q⟩⟩
  |some _=>cases hr
 | (x,k)::r,xc,hr=>by
  unfold mP at hr
  unfold cellsFrom pushCells
  by_cases hk:(k==NameKind.cell)=true
  ·rw [if_pos hk,Bool.and_eq_true] at hr
   obtain ⟨i1,i2⟩:=mM hr.2
   obtain rfl:=beq_iff_eq.mp hr.1
   simp only [hk,if_true]
   exact ⟨fun n acc=>i1 _ _,fun h=>⟨fun a o e=>(i2 _).1 a o (Heap.get?_push_of_some _ e),fun _ _=>⟨_,(i2 _).1 _ _ (Heap.get?_push_size _ rfl),rfl⟩⟩⟩
  ·rw [if_neg hk] at hr
   simp only [hk,Bool.false_eq_true,if_false]
   exact mM hr
noncomputable def kB (x:Str):Option (Str×NameKind)→Bool
 |some (y,k)=>y==x&&(k==.cell||k==.free)
 |none=>false
theorem AS {x:Str}{e:Option (Str×NameKind)}(h:kB x e=true):∃k:NameKind,e=some (x,k)∧(k=.cell∨k=.free):=by
 cases e with
 |none=>cases h
 |some p=>
  obtain ⟨y,k⟩:=p
  simp only [kB,Bool.and_eq_true,Bool.or_eq_true,beq_iff_eq] at h
  obtain ⟨rfl,hk⟩:=h
  exact ⟨k,rfl,hk⟩
noncomputable def xH (B:bB)(tab:List (Option (Str×NameKind)))(scope:Scope)(i:Nat)(xc:Option Str):Bool:=
 scope.kind==.function&&scope.names.all (fun x=>!(x.2==.local)||scope.names.lookup x.1==some .local)&&mP xc scope.names&&bB.ok ⟨gn scope B.sc,tab⟩&&
 scope.names.all (fun x=>!(x.2==.free)||(!(xc==some x.1)&&B.tab.any (kB x.1)))&&
 (List.range tab.length).all (fun j=>match tab[j]? with
  |some (some (x,k))=>if k==.cell||k==.free then (xc==some x&&Nat.beq j i)||(scope.names.contains (x,.free)&&kB x (B.tab[j]?.getD none)) else Nat.beq j i
  |_=>true)
structure dC (B Bc:bB) (scope:Scope) (i:Nat) (xc:Option Str):Prop where
 kind:scope.kind=.function
 names:∀x∈scope.names,x.2=.local→scope.names.lookup x.1=some .local
 cells:(∀n acc,cellsFrom n scope.names acc=pW xc n++acc)∧∀h:Heap,(∀a o,h.get? a=some o→(pushCells h scope.names).get? a=some o)∧∀y,xc=some y→(pushCells h scope.names).IsCell h.objs.size none
 ok:Bc.ok=true
 sc:Bc.sc=gn scope B.sc
 free:∀x,(x,NameKind.free)∈scope.names→xc≠some x∧∃(j:Nat) (k:NameKind),B.tab[j]?=some (some (x,k))∧(k=.cell∨k=.free)
 tab:∀(j:Nat) (x:Str) (k:NameKind),Bc.tab[j]?=some (some (x,k))→k=.cell∨k=.free→(xc=some x∧j=i)∨((x,NameKind.free)∈scope.names∧∃k':NameKind,B.tab[j]?=some (some (x,k'))∧(k'=.cell∨k'=.free))
 locs:∀(j:Nat) (x:Str),Bc.tab[j]?=some (some (x,.local))→j=i
theorem dC.of {B:bB}{tab:List (Option (Str×NameKind))}{scope:Scope}{i:Nat}{xc:Option Str}(h:xH B tab scope i xc=true):dC B ⟨gn scope B.sc,tab⟩ scope i xc:=by
 simp only [xH,Bool.and_eq_true] at h
 obtain ⟨⟨⟨⟨⟨h1,h2⟩,h3⟩,h4⟩,h5⟩,h6⟩:=h
 have h6:∀(j:Nat) (x:Str) (k:NameKind),tab[j]?=some (some (x,k))→(if k==.cell||k==.free then (xc==some x&&Nat.beq j i)||(scope.names.contains (x,.free)&&kB x (B.tab[j]?.getD none)) else Nat.beq j i)=true:=fun j x k ht=>by
  have:=List.all_eq_true.mp h6 j (List.mem_range.mpr (List.getElem?_eq_some_iff.mp ht).1)
  rw [ht] at this
  exact this
 refine ⟨beq_iff_eq.mp h1,fun x hx hl=>?_,mM h3,h4,rfl,fun x hx=>?_,fun j x k ht hk=>?_,fun j x ht=>?_⟩
 ·have:=List.all_eq_true.mp h2 x hx
  rw [hl] at this
  exact beq_iff_eq.mp this
 ·have:=List.all_eq_true.mp h5 (x,.free) hx
  rw [show (!((x,NameKind.free).2==NameKind.free))=false from rfl,Bool.false_or,Bool.and_eq_true] at this
  refine ⟨fun q=>?_,?_⟩
  ·rw [q,beq_self_eq_true] at this;cases this.1
  ·obtain ⟨e,he,hq⟩:=List.any_eq_true.mp this.2
   obtain ⟨k,rfl,hk⟩:=AS hq
   obtain ⟨j,hi⟩:=List.getElem?_of_mem he
   exact ⟨j,k,hi,hk⟩
 ·have:=h6 j x k ht
  rw [if_pos (by rcases hk with rfl |rfl<;>rfl),Bool.or_eq_true,Bool.and_eq_true,Bool.and_eq_true] at this
  rcases this with ⟨a,b⟩ | ⟨a,b⟩
  ·exact .inl ⟨beq_iff_eq.mp a,Nat.eq_of_beq_eq_true b⟩
  ·refine .inr ⟨List.contains_iff_mem.mp a,?_⟩
   cases e:B.tab[j]? with
   |none=>rw [e] at b;cases b
   |some e'=>rw [e] at b;obtain ⟨k',rfl,hk'⟩:=AS b;exact ⟨k',rfl,hk'⟩
 ·have:=h6 j x .local ht
  exact Nat.eq_of_beq_eq_true this
section
variable {P:Pg} {B Bc:bB} {C Ci:Ct} {n:Nat} {A:Around} {env cenv:Env} {g g':Gh} {ρ:aH} {σ:Sg} {s s':Shared} {h h':Heap} {scope:Scope} {i:Nat} {xc:Option Str}
theorem dC.out (K:dC B Bc scope i xc)(x:bW P B C env g ρ h)(y:Str)(hy:(y,NameKind.free)∈scope.names):∃c,env.cells.lookup y=some c:=by
 obtain ⟨_,j,k,h1,h2⟩:=K.free y hy
 obtain ⟨c,_,h3,_⟩:=x.cell j y k h1 h2
 exact ⟨c,h3⟩
theorem sN (K:dC B Bc scope i xc){L c:Addr}(x:bW P B C env g ρ h)(hi:i∈C.U)(hn:h'.Ns L fun _=>none)(hc:∀y,xc=some y→h'.IsCell c none)(hL:h.get? L=none)(hcn:h.get? c=none)(w:bv P g h σ)(hk:∀a o,h.get? a=some o→h'.get? a=some o):
  bW P Bc C (compEnvC scope (pW xc c++er env scope.names []) L env) g ρ h':=by
 have hfree:=K.out x
 have cl:∀y c,(er env scope.names []).lookup y=some c→env.cells.lookup y=some c:=fun y c hy=>jm scope.names [] hfree (fun _ q=>nomatch q) (y,c) (kH hy)
 have old:∀y,env.cells.lookup y=some c→False:=fun y hy=>(x.own c (List.mem_cons_of_mem _ (bo hy))).1 hcn
 have kf:aO g h g h':=⟨fun a f=>⟨f,hk a⟩,rfl⟩
 have no:∀a,h.get? a=none→¬g.F a∧¬g.Z a∧¬g.O a:=fun a e=>⟨fun q=>w.F a q e,fun q=>(w.Z a q).1 e,fun q=>(w.O a q).1 e⟩
 have free:∀{y d},(y,NameKind.free)∈scope.names→env.cells.lookup y=some d→(pW xc c++er env scope.names []).lookup y=some d:=fun {y d} hm e=>by
  obtain ⟨c',hc'⟩:=Option.isSome_iff_exists.mp (mL (env:=env) scope.names [] (.inr hm))
  obtain rfl:c'=d:=Option.some.inj ((cl y c' hc').symm.trans e)
  exact (uJ (K.free y hm).1).trans hc'
 refine {ok:=K.ok,sc:=?_,glob:=x.glob,blt:=x.blt,ns:=⟨_,hn⟩,cell:=?_,apart:=?_,own:=?_,var:=?_,un:=x.un}
 ·rw [K.sc]
  show relabel scope env=_
  unfold relabel gn Env.kindOf
  rw [x.sc]
 ·intro j y k ht hk'
  rcases K.tab j y k ht hk' with ⟨q,_⟩ | ⟨hm,k',h1,h2⟩
  ·exact ⟨c,none,q▸tB,hc y q⟩
  ·obtain ⟨d,u,c1,o,e,dd⟩:=x.cell j y k' h1 h2
   exact ⟨d,u,free hm c1,o,hk _ _ e,dd⟩
 ·intro y z d hy hz
  rcases lU hy with ⟨q,rfl⟩ |hy'
  ·rcases lU hz with ⟨q',_⟩ |hz'
   ·exact Option.some.inj (q.symm.trans q')
   ·exact (old z (cl z _ hz')).elim
  ·rcases lU hz with ⟨_,rfl⟩ |hz'
   ·exact (old y (cl y _ hy')).elim
   ·exact x.apart y z d (cl y d hy') (cl z d hz')
 ·intro a ha
  rcases List.mem_cons.mp ha with rfl |ha
  ·exact ⟨let ⟨_,_,_,e,_⟩:=hn;an e,no _ hL⟩
  ·obtain ⟨q,hq,rfl⟩:=List.mem_map.mp ha
   rcases List.mem_append.mp hq with hq |hq
   ·obtain ⟨y,hy,rfl⟩:=tC hq
    exact ⟨let ⟨_,e,_⟩:=hc y hy;an e,no _ hcn⟩
   ·have o:=x.own q.2 (List.mem_cons_of_mem _ (bo (jm scope.names [] hfree (fun _ q=>nomatch q) q hq)))
    refine ⟨?_,o.2⟩
    cases e:h.get? q.2 with
    |none=>exact (o.1 e).elim
    |some ob=>exact an (hk _ _ e)
 ·intro j y t ht hv
  obtain ⟨y,k⟩:=y
  have ji:j≠i:=fun q=>by rw [q,x.un i hi] at hv;cases hv
  have hkk:k=.cell∨k=.free:=(bB.look K.ok ht).2.2.1.resolve_left fun q=>ji (K.locs j y (q▸ht))
  obtain ⟨hm,k',h1,h2⟩:=(K.tab j y k ht hkk).resolve_left fun q=>ji q.2
  obtain ⟨u,v,vo⟩:=x.var j _ t h1 hv
  refine ⟨u,?_,vo.move kf rfl rfl fun a _=>hk a⟩
  cases v with
  |loc z m tz=>rw [h1] at tz;cases tz;rcases h2 with q |q<;>cases q
  |cel z kk d tz hz l nz=>
   rw [h1] at tz;cases tz
   exact .cel y k d ht hkk (free hm l) (let ⟨o,e,dd⟩:=nz;⟨o,hk _ _ e,dd⟩)
noncomputable abbrev di (P:Pg)(B:bB)(C:Ct)(ifs:List Expr)(p:PT):Prop:=dc P B C (fun A env Q E s=>wpAny P.M A (forIn ifs true fun c r=>if r=true then do let ok ←isTrue c env (eval c env);pure (ForInStep.yield ok) else pure (ForInStep.yield r)) Q E s) p RQ
theorem di.nil:di P B C [] av:=.now fun _ _ _ _ _ _ _ _ _ _ _ _ hq=>wpAny_tests_nil (hq _ _ _ rfl rfl)
theorem di.one {e:Expr}{p:PT}(h:ch P B C e p):di P B C [e] p:=h.map fun _ _ _ _ _=>wpAny_tests_one
theorem bW.less {t:T}(x:bW P B Ci env g (ρ.set i (some t)) h)(hc:ny C i Ci)(un:∀j∈C.U,bC ρ j=none)(hi:i∈C.U):bW P B C env g ρ h:=
 have ne:∀{j v},bC ρ j=some v→j≠i:=fun e q=>by rw [q,un i hi] at e;cases e
 have st:∀{j v},bC ρ j=some v→bC (ρ.set i (some t)) j=some v:=fun {j v} e=>by
  cases q:bC (ρ.set i (some t)) j with
  |none=>
   have:=cW (v:=none) (ne e) q
   rw [set_set,im (un i hi),e] at this;cases this
  |some u=>exact (gW q).elim (fun q=>(ne e q.1).elim) fun q=>q.2.symm.trans e▸rfl
 {x with
  var:=fun j y v ht hv=>let ⟨u,h1,h2⟩:=x.var j y v ht (st hv);⟨u,h1,by unfold bz at h2 ⊢;rw [hc.o j (ne hv),hc.m] at h2;exact h2⟩
  un:=un}
end
section
variable {P:Pg} {B Bc:bB} {C Ci C':Ct} {h₀:Heap} {fr:Bool} {n:Nat} {A:Around} {env cenv:Env} {g g':Gh} {ρ:aH} {σ:Sg} {s s':Shared} {h h':Heap} {scope:Scope} {i:Nat} {xc:Option Str} {elt target iter:Expr} {ifs:List Expr} {pos:Pos}
noncomputable abbrev nE (P:Pg)(g:Gh)(h:Heap)(D:Addr)(acc:List T):Prop:=yh h br (aR P g h acc) acc.length D
theorem nE.mono {acc:List T}{D:Addr}(a:nE P g h D acc)(k:aO g h g' h')(hD:∀o,h.get? D=some o→h'.get? D=some o):nE P g' h' D acc:=yh.mono a hD fun _=>aR.mono k
theorem kP.p {vol:List Addr}(v:kP g env vol)(l:∀a∈vol,s.heap.get? a≠none)(p:aE g s g' s'):kP g' env vol∧∀a∈vol,∀o,s.heap.get? a=some o→s'.heap.get? a=some o:=v.post l p.toS
theorem u7 {tw:Env→List Addr}{pc:PT}{pe:PE}{I D:Addr}{ts:List T}{vol fx:List Addr}{St:Nat→Gh→Heap→Prop}{k:PK (List T)}{R:Result→Shared→Prop}(T:kx P A Bc C Ci target (aM i) tw I ts vol fx St)(hc:ny C i Ci)(hi:i∈C.U)(hcond:di P Bc Ci ifs pc)(hel:ak P Bc Ci elt pe (RV P))(hDv:D∉vol++fx):
  ∀(rest:List Mine.T) (j:Nat) (g:Gh) (σ:Sg) (s:Shared) (acc:List Mine.T),j≤ts.length→ts.drop j=rest→acc.length+rest.length≤lim→At P Bc C n A cenv g ρ σ s→kP g cenv (D::(vol++fx))→St j g s.heap→nE P g s.heap D acc→aX (aM i) pc pe (P.cx n) ρ rest σ acc k≠.bad→
   (∀s' g' xs σ',aX (aM i) pc pe (P.cx n) ρ rest σ acc k=k xs σ'→bH vol (D::(vol++tw cenv)) g s g' s'→At P Bc C n A cenv g' ρ σ' s'→kP g' cenv [D]→nE P g' s'.heap D xs→R (.ok .next) s')→
   codeAny P.M A (.compLoop (.ListComp elt [⟨target,iter,ifs,0⟩] scope pos) 0 (.ref I) (.ref D) cenv) R s:=by
 intro rest
 induction rest with
 |nil=>
  intro j g σ s acc hle hd hl X hv st ac hb hq
  obtain rfl:j=ts.length:=Nat.le_antisymm hle (List.drop_eq_nil_iff.mp hd)
  refine codeAny_of_tree ?_
  show wpAny P.M A ((compTurn (.ListComp elt [⟨target,iter,ifs,0⟩] scope pos) 0 (.ref I) (.ref D) cenv).onRaise (fun x=>do noteFrame x cenv;theTreesLotGoes x)) _ _ s
  refine wpAny_noted ?_
  rw [compTurn_list]
  have vD:kP g cenv [D]:=fun a ha=>hv a (List.mem_singleton.mp ha▸List.mem_cons_self)
  refine wpAny_bind (wpAny_standAt (wpAny_bind (wpAny_mono (T.done n cenv g ρ σ s (fun s'=>R (.ok .next) s') (notedBy P.M A cenv fun e s'=>R (.error e) s') X (fun a ha=>hv a (List.mem_cons_of_mem _ ha)) st fun s' p X'=>?_) (fun r s₁ h₁=>?_) fun _ _ h'=>h')))
  ·have dn:=hv D List.mem_cons_self
   exact hq s' g acc σ tY (p.weak (fun _ h=>h) fun a ha=>List.mem_cons_of_mem _ (List.mem_append_left _ ha)) X' vD (ac.mono (p.toS.k X.g fun a ha=>(hv a (List.mem_cons_of_mem _ (List.mem_append_left _ ha))).1) fun o e=>p.keep D o e dn.2.1 fun q=>hDv (List.mem_append_left _ q))
  ·cases r with
   |none=>exact wpAny_pure h₁
   |some u=>exact h₁.elim
 |cons v rest ih=>
  intro j g σ s acc hle hd hl X hv st ac hb hq
  have hiv:ts[j]?=some v:=by rw [←List.head?_drop,hd];rfl
  have hi':j < ts.length:=(List.getElem?_eq_some_iff.mp hiv).1
  have hd':ts.drop (j+1)=rest:=by rw [←List.tail_drop,hd];rfl
  have e1:aX (aM i) pc pe (P.cx n) ρ (v::rest) σ acc k=pc (P.cx n) (ρ.set i (some v)) σ fun b σ=>bif b then pe (P.cx n) (ρ.set i (some v)) σ fun x σ=>aX (aM i) pc pe (P.cx n) ρ rest σ (acc++[x]) k else aX (aM i) pc pe (P.cx n) ρ rest σ acc k:=tZ
  rw [e1] at hb hq
  have hvv:kP g cenv (vol++fx):=fun a ha=>hv a (List.mem_cons_of_mem _ ha)
  have dn:=hv D List.mem_cons_self
  refine codeAny_of_tree ?_
  show wpAny P.M A ((compTurn (.ListComp elt [⟨target,iter,ifs,0⟩] scope pos) 0 (.ref I) (.ref D) cenv).onRaise (fun x=>do noteFrame x cenv;theTreesLotGoes x)) _ _ s
  refine wpAny_noted ?_
  rw [compTurn_list]
  refine wpAny_bind (wpAny_standAt (wpAny_bind (wpAny_mono (T.item j v n cenv g ρ _ σ s (fun s₃=>wpAny P.M A (forIn ifs true fun c r=>if r=true then do let ok ←isTrue c cenv (eval c cenv);pure (ForInStep.yield ok) else pure (ForInStep.yield r)) (fun ok s₄=>
     if ok=true then wpAny P.M A (eval elt cenv) (fun x s₅=>wpAny P.M A (call (.builtin "list.append") [.ref D,x]) (fun _ s₆=>codeAny P.M A (.compLoop (.ListComp elt [⟨target,iter,ifs,0⟩] scope pos) 0 (.ref I) (.ref D) cenv) R s₆) (notedBy P.M A cenv fun e s'=>R (.error e) s') s₅) (notedBy P.M A cenv fun e s'=>R (.error e) s') s₄
     else codeAny P.M A (.compLoop (.ListComp elt [⟨target,iter,ifs,0⟩] scope pos) 0 (.ref I) (.ref D) cenv) R s₄) (notedBy P.M A cenv fun e s'=>R (.error e) s') s₃)
    (notedBy P.M A cenv fun e s'=>R (.error e) s') hiv X hvv st rfl fun s₃ p₃ X₃ st₃=>?_) (fun r s₁ h₁=>?_) fun _ _ h'=>h')))
  ·have nW:∀a∈vol++tw cenv,¬g.F a:=fun a ha=>(List.mem_append.mp ha).elim (fun h=>(hvv a (List.mem_append_left _ h)).1) fun h=>(X.env.own a (T.sub cenv a h)).2.1
   have ac₃:nE P g s₃.heap D acc:=ac.mono (p₃.toS.k X.g nW) fun o e=>p₃.keep D o e dn.2.1 fun q=>(List.mem_append.mp q).elim (fun q=>hDv (List.mem_append_left _ q)) fun q=>dn.2.2.2 (T.sub cenv D q)
   have lv:∀{g s i},St i g s→nE P g s D acc→∀a∈D::(vol++fx),s.get? a≠none:=fun st ac a ha=>(List.mem_cons.mp ha).elim (fun q=>q▸let ⟨_,_,e,_,_⟩:=ac;an e) (T.here _ _ _ st a)
   have pw:bH [] (D::(vol++tw cenv)) g s g s₃:=p₃.weak (fun _ h=>h) fun a=>List.mem_cons_of_mem _
   refine hcond n A cenv g (ρ.set i (some v)) σ s₃ _ _ _ X₃ hb fun b s₄ g₄ b' σ₄ e₄ p₄ w₄ r₄=>?_
   cases r₄
   rw [e₄] at hb hq
   have X₄:=X₃.post p₄ w₄
   obtain ⟨v₄,k₄⟩:=hv.p (lv st₃ ac₃) p₄
   have st₄:=T.stay _ _ _ _ _ st₃ (p₄.k X₃.g) fun a ha=>k₄ a (List.mem_cons_of_mem _ ha)
   have ac₄:=ac₃.mono (p₄.k X₃.g) (k₄ D List.mem_cons_self)
   have p04:=pw.trans p₄.toE
   have un:=X.env.un
   cases b with
   |false=>
    rw [if_neg (by decide)]
    exact ih (j+1) g₄ σ₄ s₄ acc hi' hd' (Nat.le_of_succ_le hl) ⟨X.good,X.call,X.room,X₄.env.less hc un hi,w₄⟩ v₄ st₄ ac₄ hb fun s' g' xs σ' q1 q2 q3 q4 q5=>hq s' g' xs σ' q1 (p04.trans q2) q3 q4 q5
   |true=>
    rw [if_pos rfl]
    refine hel n A cenv g₄ (ρ.set i (some v)) σ₄ s₄ _ _ _ X₄ hb fun x s₅ g₅ t σ₅ e₅ p₅ w₅ r₅=>?_
    rw [show (bif true then pe (P.cx n) (ρ.set i (some v)) σ₄ fun x σ=>aX (aM i) pc pe (P.cx n) ρ rest σ (acc++[x]) k else aX (aM i) pc pe (P.cx n) ρ rest σ₄ acc k)=_ from e₅] at hb hq
    have X₅:=X₄.post p₅ w₅
    obtain ⟨v₅,k₅⟩:=v₄.p (lv st₄ ac₄) p₅
    have st₅:=T.stay _ _ _ _ _ st₄ (p₅.k X₄.g) fun a ha=>k₅ a (List.mem_cons_of_mem _ ha)
    obtain ⟨ys,m,d1,d2,d3⟩:=ac₄.mono (p₅.k X₄.g) (k₅ D List.mem_cons_self)
    refine dN d1 ?_ (bj (d3.size▸d2))
    have hs:=Heap.SameBut.update s₅.heap D (Obj.mapSeq fun a=>a.push x)
    have d1':=IsL.update d1 (fun a=>a.push x)
    obtain ⟨p₆,X₆⟩:=dk (vol:=[D]) (h':=s₅.heap.update D (Obj.mapSeq fun a=>a.push x)) X₅ (fun a ha=>v₅ a (List.mem_singleton.mp ha▸List.mem_cons_self)) (fun a o e q=>(hs.2 a fun z=>q (z▸List.mem_singleton.mpr rfl)).trans e) s₅.toks
    have kf:=p₆.toS.k X₅.g fun a ha=>(v₅ a (List.mem_singleton.mp ha▸List.mem_cons_self)).1
    have p06:=(p04.trans p₅.toE).trans ((dP p₆ fun a ha=>by rw [List.mem_singleton.mp ha];exact an d1').weak (fun _ h=>h) fun a ha=>List.mem_singleton.mp ha▸List.mem_cons_self)
    refine ih (j+1) g₅ σ₅ _ (acc++[t]) hi' hd' (by rw [List.length_append];exact Nat.le_trans (Nat.le_of_eq (by rw [List.length_singleton,List.length_cons,Nat.add_assoc,Nat.add_comm 1])) hl) ⟨X.good,X.call,X.room,X₆.env.less hc un hi,X₆.g⟩ v₅ (T.stay _ _ _ _ _ st₅ kf fun a ha o e=>(hs.2 a fun q=>hDv (q▸ha)).trans e) ⟨_,_,d1',?_,?_⟩ hb fun s' g' xs σ' q1 q2 q3 q4 q5=>hq s' g' xs σ' q1 (p06.trans q2) q3 q4 q5
    ·rw [List.length_append];exact Nat.le_trans (Nat.add_le_add_left (show 1≤rest.length+1 from Nat.succ_le_succ (Nat.zero_le _)) _) hl
    ·rw [Array.toList_push]
     exact aR.append (aR.cons (Rp.mono kf r₅) aR.nil) (d3.mono kf)
  ·cases r with
   |none=>exact h₁.elim
   |some u=>
    refine wpAny_bind (wpAny_mono h₁ (fun _ s₂ h₂=>wpAny_bind (wpAny_mono h₂ (fun _ s₃ h₃=>wpAny_bind (wpAny_mono h₃ (fun ok s₄ h₄=>?_) fun _ _ h'=>h')) fun _ _ h'=>h')) fun _ _ h'=>h')
    cases ok with
    |false=>exact wpAny_pure ⟨rfl,h₄⟩
    |true=>
     rw [if_pos rfl] at h₄ ⊢
     exact wpAny_bind (wpAny_bind (wpAny_mono h₄ (fun x s₅ h₅=>wpAny_bind (wpAny_mono h₅ (fun _ s₆ h₆=>wpAny_pure (wpAny_pure ⟨rfl,h₆⟩)) fun _ _ h'=>h')) fun _ _ h'=>h'))
theorem sP (K:dC B Bc scope i xc)(H:Heap):(pushCells (H.push {cls:=.type "dict",data:=.dict #[]}) scope.names).Ns H.objs.size (fun _=>none)∧
  (∀y,xc=some y→(pushCells (H.push {cls:=.type "dict",data:=.dict #[]}) scope.names).IsCell (H.objs.size+1) none)∧H.get? (H.objs.size+1)=none∧∀a o,H.get? a=some o→(pushCells (H.push {cls:=.type "dict",data:=.dict #[]}) scope.names).get? a=some o:=by
 obtain ⟨k,c⟩:=K.cells.2 (H.push {cls:=.type "dict",data:=.dict #[]})
 have sz:(H.push {cls:=.type "dict",data:=.dict #[]}).objs.size=H.objs.size+1:=Heap.size_push ..
 rw [sz] at c
 refine ⟨(Heap.Ns.new H (.type "dict")).keeps k,c,?_,fun a o e=>k a o (Heap.get?_push_of_some _ e)⟩
 cases q:H.get? (H.objs.size+1) with
 |none=>rfl
 |some o=>
  have:=Heap.get?_push_of_some {cls:=.type "dict",data:=.dict #[]} q
  rw [←sz,aF] at this;cases this
noncomputable def lq:Option Str→Env→List Addr
 |none=>fun env=>[env.locals]
 |some x=>AD .cell x
theorem yD {c:Addr}{r:List (Str×Addr)}{L:Addr}:∀a∈lq xc (compEnvC scope (pW xc c++r) L env),a=L∨a=c:=fun a ha=>by
 cases xc with
 |none=>exact .inl (List.mem_singleton.mp ha)
 |some x=>
  have h:a∈((pW (some x) c++r).lookup x).toList:=ha
  rw [tB] at h
  exact .inr (List.mem_singleton.mp h)
theorem mH {pos':Pos}{pi:PL}{pc:PT}{pe:PE}{use:Option (Value→Sem Unit)}{k:PK T}{Q:Value→Shared→Prop}{E:Value→Shared→Prop}(K:dC B Bc scope i xc)(hi:i∈C.U)(hc:ny C i Ci)(hI:A5 P B C n A env g ρ σ s iter (yj P Bc C Ci target (aM i) (lq xc)) pi)(hcond:di P Bc Ci ifs pc)(hel:ak P Bc Ci elt pe (RV P))(hs:∀env x,foldedSetIterable iter env x=pure x)
  (X:At P B C n A env g ρ σ s)(hb:ax pi (aM i) pc pe (P.cx n) ρ σ k≠.bad)
  (ok:∀D L s' g' xs σ' m,ax pi (aM i) pc pe (P.cx n) ρ σ k=k (.lst xs) σ'→aE g s g' s'→bv P g' s'.heap σ'→As P s.heap g' s'.heap (.lst xs) (.ref D)→s.heap.get? L=none→(¬g'.F L∧¬g'.Z L∧¬g'.O L)→D≠L→s'.heap.Ns L m→compPost P.M A E use Q (.ref D) L (.ok .next) s'):
  wpAny P.M A (comprehension (.ListComp elt [⟨target,iter,ifs,0⟩] scope pos) scope env pos' (newList []) false (eval iter env) use) Q E s:=by
 refine wpAny_comprehension_free (use:=use) rfl (hs env) (iE (K.out X.env)) K.kind K.names ?_
 refine hI (fun xs σ=>aX (aM i) pc pe (P.cx n) ρ xs σ [] fun ys σ=>k (.lst ys) σ) _ _ X hb fun s₁ g₁ ts σ₁ I vol fx St e₁ p₁ w₁ T st hv hx hl=>?_
 have hb₁:=fun q=>hb (e₁.trans q)
 have X₁:=X.post p₁ w₁
 refine wpAny_newList (o3 ?_)
 rw [K.cells.1]
 have p₂:aE g₁ s₁ g₁ {s₁ with heap:=s₁.heap.push (br #[] 0),toks:=s₁.toks}:=.push _ _
 have w₂:bv P g₁ (s₁.heap.push (br #[] 0)) σ₁:=w₁.push _
 have hD₂:=bI (h:=s₁.heap) (br #[] 0)
 have hDn:s₁.heap.get? s₁.heap.objs.size=none:=aF _
 obtain ⟨nf,nz,no⟩:=dj w₁
 show codeAny P.M A _ _ {s₁ with heap:=pushCells ((s₁.heap.push (br #[] 0)).push {cls:=.type "dict",data:=.dict #[]}) scope.names}
 generalize s₁.heap.objs.size=D at *
 generalize s₁.heap.push (br #[] 0)=H2 at p₂ w₂ hD₂ ⊢
 obtain ⟨hn₃,hc₃,hcn,k₃⟩:=sP K H2
 have hCn:H2.get? H2.objs.size=none:=aF _
 generalize pushCells (H2.push {cls:=.type "dict",data:=.dict #[]}) scope.names=h₃ at hn₃ hc₃ k₃ ⊢
 generalize H2.objs.size+1=c at *
 generalize H2.objs.size=L at *
 have x₂:=X₁.env.post w₁ p₂
 have envc:=sN K x₂ hi hn₃ hc₃ hCn hcn w₂ k₃
 have w₃:bv P g₁ h₃ σ₁:=w₂.grow k₃ g₁.F (fun _ h=>h) fun _ h=>.inl h
 have p₃:aE g₁ s₁ g₁ {s₁ with heap:=h₃,toks:=s₁.toks}:=p₂.trans (.grow (s:={s₁ with heap:=H2,toks:=s₁.toks}) s₁.toks k₃ g₁.F (fun _ h=>h) fun _ h=>.inl h)
 have hown:∀a∈own (compEnvC scope (pW xc c++er env scope.names []) L env),H2.get? a=none∨a∈own env:=fun a ha=>by
  rcases List.mem_cons.mp ha with rfl |h
  ·exact .inl hCn
  ·obtain ⟨q,hq,rfl⟩:=List.mem_map.mp h
   rcases List.mem_append.mp hq with hq |hq
   ·obtain ⟨_,_,rfl⟩:=tC hq;exact .inl hcn
   ·exact .inr (List.mem_cons_of_mem _ (bo (jm scope.names [] (K.out X.env) (fun _ q=>nomatch q) q hq)))
 have hvl:=T.here _ _ _ st
 have hvol:kP g₁ (compEnvC scope (pW xc c++er env scope.names []) L env) (D::(vol++fx)):=fun a ha=>by
  rcases List.mem_cons.mp ha with rfl |ha
  ·exact ⟨nf,nz,no,fun q=>(hown a q).elim (an hD₂) fun q=>(X₁.env.own a q).1 hDn⟩
  ·have hl:=hvl a ha
   rcases List.mem_append.mp ha with ha |ha
   ·exact ⟨(hv a ha).2.1,(hv a ha).2.2,fun q=>(X.g.O a (let ⟨i,q⟩:=q;⟨i,p₁.o▸q⟩)).1 (hv a ha).1,fun q=>(hown a q).elim (fun z=>hl (p₂.back a z)) fun q=>(X.env.own a q).1 (hv a ha).1⟩
   ·exact ⟨(hx a ha).1,(hx a ha).2.1,(hx a ha).2.2.1,fun q=>(hown a q).elim (fun z=>hl (p₂.back a z)) (hx a ha).2.2.2⟩
 have st₃:=T.stay _ _ _ _ _ st (p₃.k w₁) fun a ha o e=>p₃.keep a o e (hvol a (List.mem_cons_of_mem _ ha)).2.1
 refine (fun loop=>codeAny_compStart_list loop (T.self 0 g₁ _ _ _ st₃ loop):codeAny P.M A (.compLoop (.ListComp elt [⟨target,iter,ifs,0⟩] scope pos) 0 (.ref I) (.ref D) (compEnvC scope (pW xc c++er env scope.names []) L env)) (compPost P.M A E use Q (.ref D) L) {s₁ with heap:=h₃,toks:=s₁.toks}→_) ?_
 have htw:=yD (xc:=xc) (c:=c) (r:=er env scope.names []) (scope:=scope) (L:=L) (env:=env)
 have hl':(compEnvC scope (pW xc c++er env scope.names []) L env).locals=L:=rfl
 generalize compEnvC scope (pW xc c++er env scope.names []) L env=cenv at *
 have X₃:At P Bc C n A cenv g₁ ρ σ₁ {s₁ with heap:=h₃,toks:=s₁.toks}:=⟨X.good,X.call,X.room,envc,w₃⟩
 refine u7 T hc hi hcond hel (fun q=>hvl D q hDn) ts 0 g₁ σ₁ _ [] (Nat.zero_le _) rfl (by rw [List.length_nil,Nat.zero_add];exact hl) X₃ hvol st₃ ⟨_,_,k₃ _ _ hD₂,Nat.zero_le _,rfl⟩ hb₁ fun s' g' xs σ' q1 q2 q3 q4 q5=>?_
 have fr:∀{a},H2.get? a=none→s₁.heap.get? a=none:=fun h=>p₂.back _ h
 have pe:aE g s g' s':=(((p₁.trans p₃).toE (W:=D::(vol++lq xc cenv))).trans q2).toP (fun a ha=>by
  rcases List.mem_cons.mp ha with rfl |ha
  ·exact p₁.back _ hDn
  ·rcases List.mem_append.mp ha with ha |ha
   ·exact (hv a ha).1
   ·rcases htw a ha with rfl |rfl
    ·exact p₁.back _ (fr hCn)
    ·exact p₁.back _ (fr hcn)) fun a ha=>(hv a ha).1
 obtain ⟨m,hm⟩:=q3.env.ns
 have nD:=q4 D (List.mem_singleton.mpr rfl)
 exact ok D L s' g' xs σ' m (e₁.trans q1) pe q3.g ⟨D,rfl,p₁.back _ hDn,nD.1,nD.2.1,nD.2.2.1,q5⟩ (p₁.back _ (fr hCn)) (let o:=q3.env.own L (hl'▸List.mem_cons_self);⟨o.2.1,o.2.2.1,o.2.2.2⟩) (fun q=>an hD₂ (q▸hCn)) (hl'▸hm)
theorem aE.scrap {L:Addr}(p:aE g s g' s')(hL:s.heap.get? L=none)(hs:∀b,b≠L→h'.get? b=s'.heap.get? b):aE g s g' {s' with heap:=h'}:=
 ⟨St.trans p.st ⟨h',s'.toks,rfl⟩,fun a o e z=>(hs a fun q=>an e (q▸hL)).trans (p.keep a o e z),fun a e=>by
  by_cases q:a=L
  ·exact q▸hL
  ·exact p.back a ((hs a q).symm.trans e),p.F,p.Fn,p.Zn,p.o,p.sp,p.sa⟩
theorem bv.scrap {L:Addr}(w:bv P g h σ)(hL:¬g.F L∧¬g.Z L∧¬g.O L)(hs:∀b,b≠L→h'.get? b=h.get? b):bv P g h' σ∧aO g h g h':=by
 have k:∀a,g.F a∨g.Z a∨g.O a→h'.get? a=h.get? a:=fun a q=>hs a fun e=>q.elim (e▸hL.1) fun q=>q.elim (e▸hL.2.1) (e▸hL.2.2)
 have kf:aO g h g h':=⟨fun a f=>⟨f,fun o e=>(k a (.inl f)).trans e⟩,rfl⟩
 exact ⟨⟨fun a o e=>⟨(w.base a o e).1,(k a (.inl (w.base a o e).1)).trans (w.base a o e).2⟩,fun a f=>by rw [k a (.inl f)];exact w.F a f,fun a z=>by rw [k a (.inr (.inl z))];exact w.Z a z,fun a z=>by rw [k a (.inr (.inr z))];exact w.O a z,w.oo,
  ⟨let ⟨t,n,e⟩:=w.spot.1;⟨t,n,(k _ (.inr (.inl w.spot.2.1))).trans e⟩,w.spot.2⟩,fun c ts e=>(w.self c ts e).mono kf (fun a z=>⟨z,fun o e=>(k a (.inr (.inl z))).trans e⟩) rfl⟩,kf⟩
theorem As.scrap {L D:Addr}{t:T}(r:As P h₀ g h t (.ref D))(kf:aO g h g h')(hD:D≠L)(hs:∀b,b≠L→h'.get? b=h.get? b):As P h₀ g h' t (.ref D):=by
 obtain ⟨a,e,n,f,z,o,r⟩:=r
 cases e
 exact ⟨D,rfl,n,f,z,o,r.mono kf fun o e=>(hs D hD).trans e⟩
theorem ak.comp {pi:PL}{pc:PT}{pe:PE}(K:dC B Bc scope i xc)(hi:C.U.any (Nat.beq i)=true)(hc:b9 C i false Ci=true)(hI:eT P B C iter (yj P Bc C Ci target (aM i) (lq xc)) pi)(hcond:di P Bc Ci ifs pc)(hel:ak P Bc Ci elt pe (RV P))(hs:∀env x,foldedSetIterable iter env x=pure x):
  ak P B C (.ListComp elt [⟨target,iter,ifs,0⟩] scope pos) (ax pi (aM i) pc pe) (RN P):=fun n A env g ρ σ s k Q E X hb hq=>by
 show wpAny P.M A (eval _ env) Q E s
 rw [eval_ListComp]
 refine mH K (js hi) (dH hc).1 (hI n A env g ρ σ s) hcond hel hs X hb fun D L s' g' xs σ' m e p w r hL nL hDL hn=>⟨m,hn,fun h' hsb=>?_⟩
 obtain ⟨w',kf⟩:=w.scrap nL hsb.2
 exact hq _ _ g' _ σ' e (p.scrap hL hsb.2) w' (r.scrap kf hDL hsb.2)
end
section
variable {P:Pg} {B Bc:bB} {C Ci C':Ct} {fr:Bool} {n:Nat} {A:Around} {env:Env} {g g':Gh} {ρ:aH} {σ:Sg} {s s':Shared} {h h':Heap} {scope:Scope} {i j:Nat} {xc:Option Str} {elt target iter:Expr} {ifs:List Expr} {pos px spos:Pos} {y:Str}
theorem aP.scrap {L:Addr}{W:List Addr}(p:aP [] W g s g' s')(hL:s.heap.get? L=none)(hs:∀b,b≠L→h'.get? b=s'.heap.get? b):aP [] W g s g' {s' with heap:=h'}:=
 {p with
  st:=St.trans p.st ⟨h',s'.toks,rfl⟩
  keep:=fun a o e z q w=>(hs a fun q=>an e (q▸hL)).trans (p.keep a o e z q w)
  back:=fun a v e=>by
   by_cases q:a=L
   ·exact q▸hL
   ·exact p.back a v ((hs a q).symm.trans e)}
theorem qZ {L:Addr}{m:Str→Option Value}{g₂:Gh}{ρ₂:aH}{σ':Sg}{s₂:Shared}{Q:Flow→Shared→Prop}(p:aP [] (own env) g s g₂ s₂)(X:At P B C' n A env g₂ ρ₂ σ' s₂)(hn:s₂.heap.Ns L m)(hL:s.heap.get? L=none)(nL:¬g₂.F L∧¬g₂.Z L∧¬g₂.O L)(hLo:L∉own env)
  (hq:∀s',aP [] (own env) g s g₂ s'→At P B C' n A env g₂ ρ₂ σ' s'→Q .next s'):∃m,s₂.heap.Ns L m∧∀h',Heap.SameBut L s₂.heap h'→Q .next {s₂ with heap:=h'}:=
 ⟨m,hn,fun h' hs=>hq _ (p.scrap hL hs.2) (dk (vol:=[L]) X (fun a ha=>by rw [List.mem_singleton.mp ha];exact ⟨nL.1,nL.2.1,nL.2.2,hLo⟩) (fun a o e q=>(hs.2 a fun z=>q (z▸List.mem_singleton.mpr rfl)).trans e) s₂.toks).2⟩
theorem aN.setCompG {pi:PL}{pc:PT}{pe:PE}(o:Bool)(ho:b9 C j o C'=true)(ht:B.tab[j]?=some (some (y,.local)))(hw:vp (.ListComp elt [⟨target,iter,ifs,0⟩] scope pos) y px spos.line B.sc=true)(K:dC B Bc scope i xc)(hi:C.U.any (Nat.beq i)=true)(hc:b9 C i false Ci=true)(hI:eT P B C iter (yj P Bc C Ci target (aM i) (lq xc)) pi)(hcond:di P Bc Ci ifs pc)(hel:ak P Bc Ci elt pe (RV P))(hs:∀env x,foldedSetIterable iter env x=pure x):
  aN P B C fr C' (.Assign [.Name y px] (.ListComp elt [⟨target,iter,ifs,0⟩] scope pos) spos) (aw j (ax pi (aM i) pc pe)):=fun n A env g ρ σ s k Q E X hb hq hr=>by
 show wpAny P.M A (exec _ env) Q E s
 rw [exec_Assign_Name_used _ _ _ _ (by rw [jD X.env.sc,hw])]
 refine wpAny_bind (wpAny_standAt (wpAny_bind ?_))
 show wpAny _ A (do let _ ←comprehension (.ListComp elt [⟨target,iter,ifs,0⟩] scope pos) scope env _ (newList []) false (eval iter env) (some (assign (.Name y px) env))) _ _ s
 refine wpAny_bind (wpAny_mono (mH (Q:=fun _ s'=>Q .next s') (E:=E) (k:=fun v σ=>k (ρ.set j (some v)) σ) (use:=some (assign (.Name y px) env)) K (js hi) (dH hc).1 (hI n A env g ρ σ s) hcond hel hs X hb fun D L s' g' xs σ' m e p w r hL nL hDL hn=>?_) (fun _ s' hq=>wpAny_pure (wpAny_pure hq)) fun _ _ e=>e)
 have X₁:=X.post p w
 have hLo:L∉own env:=fun q=>(X.env.own L q).1 hL
 show wpAny _ A (assign (.Name y px) env (.ref D)) _ _ s'
 obtain ⟨D',eD,nD,f,z,o',r⟩:=r
 cases eD
 obtain ⟨hs',hO⟩:=dH ho
 have nl:∀{s₂ g₂},bH [] (AD .local y env) g₂ s' g₂ s₂→g₂.Z=g'.Z→s₂.heap.Ns L m:=fun p₂ ez=>hn.at fun o e=>p₂.keep L o e (by rw [ez];exact nL.2.1) fun q=>hLo (cU L q)
 cases o with
 |false=>
  have kf:aO g' s'.heap {g' with F:=fun y=>g'.F y∨y=D} s'.heap:=⟨fun b f=>⟨.inl f,fun _ e=>e⟩,rfl⟩
  have pz:aE g s {g' with F:=fun y=>g'.F y∨y=D} s':=⟨p.st,p.keep,p.back,fun b f=>.inl (p.F b f),fun b f=>f.elim (p.Fn b) fun e=>.inr (e▸nD),p.Zn,p.o,p.sp,p.sa⟩
  refine wpAny_assign_Name (gV (X.post pz (w.freeze r.live z o')) ho ht (.inl rfl) (t:=.lst xs) ((r.mono kf fun _ e=>e).rp (.inr rfl)) fun s₂ p₂ X₂=>?_)
  exact qZ (pz.toS.trans (p₂.toS.weak cU)) X₂ (nl p₂ rfl) hL ⟨fun q=>q.elim nL.1 (Ne.symm hDL),nL.2⟩ hLo fun s' p' X'=>hq s' _ _ σ' e p' X'
 |true=>
  have ow:∀b∈own env,¬(g'.put j (some D)).O b:=fun b hb q=>(i7 q).elim (fun q=>(X.env.own b hb).1 (Option.some.inj q▸nD)) fun ⟨j,_,q⟩=>(X₁.env.own b hb).2.2.2 ⟨j,q⟩
  have pa:aP [] (own env) g s (g'.put j (some D)) s':={(p.toS:aP [] (own env) g s g' s') with On:=fun b q=>(i7 q).elim (fun q=>.inr (Option.some.inj q▸nD)) fun ⟨j,_,q⟩=>.inl ⟨j,p.o▸q⟩}
  have X₂:At P B C' n A env (g'.put j (some D)) (ρ.set j none) σ' s':=⟨X.good,X.call,X.room,X₁.env.forget hs' (ir g' j _) ow,w.put fun b q=>Option.some.inj q▸⟨r.live,f,z,o'⟩⟩
  refine wpAny_assign_Name (iV X₂ hs'.nu ht (.inl rfl) (t:=.lst xs) (by unfold bz;rw [hO];exact ⟨D,rfl,gq ..,r.mono ((ir g' j _).k _) fun _ e=>e⟩) fun s₂ p₂ X₃ _=>?_)
  rw [set_set] at X₃
  exact qZ (pa.trans (p₂.toS.weak cU)) X₃ (nl p₂ rfl) hL ⟨nL.1,nL.2.1,fun q=>(i7 q).elim (fun q=>hDL (Option.some.inj q)) fun ⟨j,_,q⟩=>nL.2.2 ⟨j,q⟩⟩ hLo fun s' p' X'=>hq s' _ _ σ' e p' X'
end
section
variable {P:Pg} {B:bB} {C:Ct}
theorem tH {k:Nat}(h:k≤lim):(k:Int) < 2 ^ 63:=Int.lt_of_le_of_lt (Int.ofNat_le.mpr h) (by decide)
noncomputable abbrev Bf (P:Pg)(id:Value):W1 Value:=Cz P fun x=>PySem.call id [x]
theorem wG:yw P (Bf P (.builtin "len")) aI (RV P):=fun A env g σ s x t y Q E rm w q e hq=>by
 have one:∀{l:Addr} {items:Array Value} {k:Nat},s.heap.IsList l items→items.size≤lim→items.size=k→y=.int k→wpAny P.M A (PySem.call (.builtin "len") [.ref l]) Q E s:=fun hl h1 h2 h3=>Calls.call_len_list hl (tH h1) (by rw [h2];exact cY w (h3▸hq))
 unfold aI at e
 cases e1:gj t with
 |some ts=>
  rw [e1] at e
  rcases q.sq e1 with ⟨a,vs,n,rfl,h1,l,r⟩ | ⟨a,vs,n,rfl,h1,l,r⟩
  ·cases e
   refine PySem.P.len_tuple h1 (by have:=tH (r.size▸l);lia -abstractProof) ?_
   rw [r.size];exact cY w hq
  ·exact one ⟨_,h1,rfl,n,rfl⟩ (r.size▸l) r.size (Option.some.inj e).symm
 |none=>cases e2:CM t with
  |some ns=>
   rw [e1,e2] at e
   obtain ⟨a,items,rfl,⟨o,g1,g2⟩,b,r⟩:=q.n e2
   exact one ⟨o,(w.base _ _ g1).2,g2⟩ b ((r.rp (P:=P) (g:=g) (h:=s.heap)).size.trans (List.length_map ..)) (Option.some.inj e).symm
  |none=>
   rw [e1,e2] at e
   obtain ⟨z,e3,e4⟩:=ar e
   obtain ⟨⟨_,h2⟩,p,rfl⟩:=q.s e3
   cases e4
   exact PySem.P.len_str (by have:=tH h2;lia -abstractProof) (cY w hq)
theorem wY {A:Around}{s:Shared}{E:Value→Shared→Prop}{a:Addr}{o:Obj}(T:BT){Q:Value→Shared→Prop}(e:s.heap.get? a=some o)(hc:o.cls=.type "list")(h:∀tk,Q (.bool (match T with |.list=>true |_=>false)) {s with toks:=tk}):wpAny P.M A (PySem.call (.builtin "isinstance") [.ref a,.type T.id]) Q E s:=by
 cases T with
 |list=>exact IsiPair.list_list e hc (h s.toks)
 |bool=>exact IsiPair.list_bool e hc (h _)
 |int=>exact IsiPair.list_int e hc (h _)
 |str=>exact IsiPair.list_str e hc (h _)
 |tuple=>exact IsiPair.list_tuple e hc (h _)
theorem uU {A:Around}{s:Shared}{E:Value→Shared→Prop}{Q:Value→Shared→Prop}(T:BT){c:Bool}(h:∀tk,Q (.bool (match T with |.bool |.int=>true |_=>false)) {s with toks:=tk}):wpAny P.M A (PySem.call (.builtin "isinstance") [(.bool c),.type T.id]) Q E s:=by
 cases T with
 |list=>exact IsiPair.bool_list (h _)
 |bool=>exact IsiPair.bool_bool (h s.toks)
 |int=>exact IsiPair.bool_int (h s.toks)
 |str=>exact IsiPair.bool_str (h _)
 |tuple=>exact IsiPair.bool_tuple (h _)
theorem wZ {A:Around}{s:Shared}{E:Value→Shared→Prop}{Q:Value→Shared→Prop}(T:BT){c:Int}{u:Tok}(h:∀tk,Q (.bool (match T with |.int=>true |_=>false)) {s with toks:=tk}):wpAny P.M A (PySem.call (.builtin "isinstance") [(.int c u),.type T.id]) Q E s:=by
 cases T with
 |list=>exact IsiPair.int_list (h _)
 |bool=>exact IsiPair.int_bool (h _)
 |int=>exact IsiPair.int_int (h s.toks)
 |str=>exact IsiPair.int_str (h _)
 |tuple=>exact IsiPair.int_tuple (h _)
theorem wX {A:Around}{s:Shared}{E:Value→Shared→Prop}{Q:Value→Shared→Prop}(T:BT){c:Str}{u:Tok}(h:∀tk,Q (.bool (match T with |.str=>true |_=>false)) {s with toks:=tk}):wpAny P.M A (PySem.call (.builtin "isinstance") [(.str c u),.type T.id]) Q E s:=by
 cases T with
 |list=>exact IsiPair.str_list (h _)
 |bool=>exact IsiPair.str_bool (h _)
 |int=>exact IsiPair.str_int (h _)
 |str=>exact IsiPair.str_str (h s.toks)
 |tuple=>exact IsiPair.str_tuple (h _)
theorem sD {A:Around}{s:Shared}{E:Value→Shared→Prop}{Q:Value→Shared→Prop}(T:BT){a:Addr}{o:Obj}(e:s.heap.get? a=some o)(hc:o.cls=.type "tuple")(h:∀tk,Q (.bool (match T with |.tuple=>true |_=>false)) {s with toks:=tk}):wpAny P.M A (PySem.call (.builtin "isinstance") [.ref a,.type T.id]) Q E s:=by
 cases T with
 |list=>exact IsiPair.tuple_list e hc (h _)
 |bool=>exact IsiPair.tuple_bool e hc (h _)
 |int=>exact IsiPair.tuple_int e hc (h _)
 |str=>exact IsiPair.tuple_str e hc (h _)
 |tuple=>exact IsiPair.tuple_tuple e hc (h s.toks)
theorem BT.mem (T:BT):T.nm∈iI∧bootBuiltins T.nm=some (.type T.id)∧(T.nm==("__debug__":Str))=false:=by cases T<;>refine ⟨by decide,by decide,by decide⟩
theorem xO {g:Gh}{σ:Sg}{s:Shared}{b:Bool}{tk:Nat}(w:bv P g s.heap σ){Q:Value→Shared→Prop}(hq:∀u s' g',aE g s g' s'→bv P g' s'.heap σ→Rp P g' s'.heap (.bool b) u→Q u s'):Q (.bool b) {s with toks:=tk}:=hq _ _ g (.toks g s tk) w rfl
theorem B0 (T:BT):yw P (Cz P fun x=>PySem.call (.builtin "isinstance") [x,.type T.id]) (dK T) (RV P):=fun A env g σ s x t y Q E rm w q e hq=>by
 obtain ⟨b,e1,e2⟩:=ar e
 cases e2
 have k:∀tk,Q (.bool b) {s with toks:=tk}:=fun tk=>xO w hq
 cases t with
 |bool c=>cases e1;rw [q.b rfl];exact uU T k
 |int i=>cases e1;obtain ⟨p,rfl⟩:=q.i rfl;exact wZ T k
 |str z=>cases e1;obtain ⟨_,p,rfl⟩:=q.s rfl;exact wX T k
 |tup ts=>cases e1;obtain ⟨a,rfl,_,vs,n,h1,_⟩:=q.tu rfl;exact sD T h1 rfl k
 |lst ts=>cases e1;obtain ⟨a,rfl,vs,n,h1,_⟩:=q.ls rfl;exact wY T h1 rfl k
 |_=>cases e1
theorem ak.isi {e:Expr}{p:PE}(T:BT){pn qn pos:Pos}(hx:B.sc.names.lookup (ofString "isinstance")=some .globalImplicit)(hT:B.sc.names.lookup T.nm=some .globalImplicit)
  (hn:∀env,starEach [e,.Name T.nm qn] env=[(false,eval e env),(false,eval (.Name T.nm qn) env)])(h:ak P B C e p (RX P)):ak P B C (.Call (.Name (ofString "isinstance") pn) [e,.Name T.nm qn] [] pos) (p1 (dK T) p) (RV P):=fun n A env g ρ σ s k Q E X hb hq=>by
 obtain ⟨m1,m2,m3⟩:=T.mem
 refine Call_Name rfl (X.blt hx (by decide) (by decide) (v:=.builtin "isinstance") (by decide) ?_)
 refine bw (fun _ q=>by cases q) (bF (by rw [hn env];exact fun q hq=>by cases hq with |head=>rfl |tail _ h=>cases h with |head=>rfl |tail _ h=>cases h)) (wpAny_items_cons ?_ (hn env))
 refine h.bind (N:=fun A env x Q E s=>wpAny P.M A (spliced (backTo pos (starEach [.Name T.nm qn] env))) (fun vs s₁=>wpAny P.M A (PySem.call (.builtin "isinstance") (x::vs)) Q E s₁) E s) (F:=fun _ _ k t σ=>up (dK T t) σ k) (R':=RV P) kq (fun n A env g g₁ ρ σ s s₁ x t k Q E p X r hb hq=>?_) n A env g ρ σ s k Q E X hb hq
 obtain ⟨y,e'⟩:=bY hb
 exact wpAny_items_cons (X.blt hT m3 m1 m2 (wpAny_items_nil (B0 T A env g₁ σ s₁ x t y Q E X.rm X.g (j0.y r) e' fun u s' g' p w r=>hq u s' g' y σ (by rw [e'];rfl) p w r))) rfl
theorem j9 {A:Around}{g:Gh}{σ:Sg}{s:Shared}{Q:Value→Shared→Prop}{E:Value→Shared→Prop}{it:Addr}{o:Obj}{K:String}{items:Array Value}{n:Nat}{ts:List T}(hT:K="list"∨K="tuple")(w:bv P g s.heap σ)(e:s.heap.get? it=some o)(hc:o.cls=.type K)(hd:o.data=.seq items n)(r:aR P g s.heap ts items.toList)(hx:ts.length≤lim)
  (hq:∀u s' g',aE g s g' s'→bv P g' s'.heap σ→As P s.heap g' s'.heap (.lst ts) u→Q u s'):wpAny P.M A (PySem.call (.type "list") [.ref it]) Q E s:=by
 refine call_list_seq it hT e hc hd (fun h' c' hk hn=>?_) (bj (r.size▸hx))
 have p:aE g s g {s with heap:=h',toks:=s.toks}:=.grow s.toks hk g.F (fun _ h=>h) fun _ h=>.inl h
 obtain ⟨h1,h2,h3⟩:=dj w
 exact hq _ _ g p (w.grow hk g.F (fun _ h=>h) fun _ h=>.inl h) ⟨_,rfl,aF _,h1,h2,h3,_,_,hn,hx,r.mono (p.k w)⟩
theorem zo:yw P (Bf P (.type "list")) eZ (RN P):=fun A env g σ s x t y Q E rm w q e hq=>by
 obtain ⟨ts,e1,e2⟩:=ar e
 cases e2
 rcases q.sq e1 with ⟨a,vs,n,rfl,h1,l,r⟩ | ⟨a,vs,n,rfl,h1,l,r⟩
 ·exact j9 (.inr rfl) w h1 rfl rfl r l hq
 ·exact j9 (.inl rfl) w h1 rfl rfl r l hq
theorem fq:∀{ts:List T} {bs:List Bool},eB ts=some bs→ts.length=bs.length∧∀(i:Nat) (t:T),ts[i]?=some t→∃b,bs[i]?=some b∧cN t=some b
 | [],bs,h=>by cases h;exact ⟨rfl,fun i v e=>nomatch e⟩
 |t::r,bs,h=>by
  obtain ⟨b,bs',h1,h2,h3⟩:=bc h
  cases h3
  obtain ⟨i1,i2⟩:=fq h2
  refine ⟨congrArg (·+1) i1,fun i u e=>?_⟩
  cases i with
  |zero=>cases e;exact ⟨b,rfl,h1⟩
  |succ i=>exact i2 i u e
theorem lH (bs:List Bool):(List.range bs.length).map (fun i=>bs[i]?.getD false)=bs:=by
 apply List.ext_getElem
 ·simp
 ·intro i h1 h2
  simp [List.getElem?_eq_getElem h2]
theorem uv (bs:List Bool):(List.range bs.length).any (fun i=>bs[i]?.getD false)=bs.any _root_.id:=by
 conv=>rhs;rw [←lH bs]
 rw [List.any_map];rfl
theorem uw (bs:List Bool):(List.range bs.length).all (fun i=>bs[i]?.getD false)=bs.all _root_.id:=by
 conv=>rhs;rw [←lH bs]
 rw [List.all_map];rfl
theorem qc {g:Gh}{h:Heap}{ts:List T}{bs:List Bool}{vs:Array Value}{i:Nat}{v:Value}{A:Around}{s:Shared}{Q:Bool→Shared→Prop}{E:Value→Shared→Prop}(r:aR P g h ts vs.toList)(ht:eB ts=some bs)(hv:vs[i]?=some v)(hq:Q (bs[i]?.getD false) s):wpAny P.M A (truthy v) Q E s:=by
 obtain ⟨t1,t2⟩:=fq ht
 have hi:i < ts.length:=by rw [←r.size];exact (Array.getElem?_eq_some_iff.mp hv).1
 obtain ⟨b,b1,b2⟩:=t2 i ts[i] (List.getElem?_eq_getElem hi)
 obtain ⟨u,u1,u2⟩:=r.get (List.getElem?_eq_getElem hi)
 rw [Array.getElem?_toList,hv] at u1;cases u1
 rw [b1] at hq
 exact gf (.inl u2) b2 hq
theorem p9 {g:Gh}{σ:Sg}{s:Shared}{ob:Obj}{h':Heap}{tk:Nat}{b:Bool}{Q:Value→Shared→Prop}(w:bv P g s.heap σ)(hk:∀a o,a∉[s.heap.objs.size]→(s.heap.push ob).get? a=some o→h'.get? a=some o)(hq:∀u s' g',aE g s g' s'→bv P g' s'.heap σ→Rp P g' s'.heap (.bool b) u→Q u s'):Q (.bool b) {s with heap:=h',toks:=tk}:=
 have k:∀a o,s.heap.get? a=some o→h'.get? a=some o:=fun a o e=>hk a o (fun q=>an e (List.mem_singleton.mp q▸aF _)) (bQ s ob a o e)
 hq _ _ g (.grow tk k g.F (fun _ h=>h) fun _ h=>.inl h) (w.grow k g.F (fun _ h=>h) fun _ h=>.inl h) rfl
theorem Cv:yw P (Bf P (.builtin "any")) s4 (RV P):=fun A env g σ s x t y Q E rm w q e hq=>by
 obtain ⟨ts,e1,e2⟩:=ar e
 obtain ⟨bs,ht,e3⟩:=ar e2
 cases e3
 obtain ⟨l,rfl,vs,n,a1,a3,a2⟩:=q.ls e1
 refine call_any_walk (wpAny_pyIter_list ⟨_,a1,rfl,n,rfl⟩ ?_)
 refine ⟨_,_,_,_,_,_,fun i=>bs[i]?.getD false,rfl,Walks.list (A:=A.in1) rm.handled s.heap.objs.size l (fun q=>an a1 (q▸aF _)) vs,⟨⟨_,Heap.get?_push_size _ rfl,rfl,rfl⟩,⟨_,Heap.get?_push_of_some _ a1,rfl,n,rfl⟩⟩,fun i v s' Q E hv hq=>qc a2 ht hv hq,fun h' tk hk=>?_⟩
 rw [show (List.range vs.size).any (fun i=>bs[i]?.getD false)=bs.any _root_.id by rw [a2.size,(fq ht).1];exact uv bs]
 exact p9 (s:=s) (ob:=uT "list_iterator" l) w hk hq
theorem Am:yw P (Bf P (.builtin "all")) ju (RV P):=fun A env g σ s x t y Q E rm w q e hq=>by
 obtain ⟨ts,e1,e2⟩:=ar e
 obtain ⟨bs,ht,e3⟩:=ar e2
 cases e3
 obtain ⟨l,rfl,vs,n,a1,a3,a2⟩:=q.ls e1
 refine call_all_walk (wpAny_pyIter_list ⟨_,a1,rfl,n,rfl⟩ ?_)
 refine ⟨_,_,_,_,_,_,fun i=>bs[i]?.getD false,rfl,Walks.list (A:=A.in1) rm.handled s.heap.objs.size l (fun q=>an a1 (q▸aF _)) vs,⟨⟨_,Heap.get?_push_size _ rfl,rfl,rfl⟩,⟨_,Heap.get?_push_of_some _ a1,rfl,n,rfl⟩⟩,fun i v s' Q E hv hq=>qc a2 ht hv hq,fun h' tk hk=>?_⟩
 rw [show (List.range vs.size).all (fun i=>bs[i]?.getD false)=bs.all _root_.id by rw [a2.size,(fq ht).1];exact uw bs]
 exact p9 (s:=s) (ob:=uT "list_iterator" l) w hk hq
theorem B6:yw P (Bf P (.type "int")) ma (RV P):=fun A env g σ s x t y Q E rm w q e hq=>by
 obtain ⟨b,e1,e2⟩:=ar e
 cases e2;rw [q.b e1]
 exact call_int_bool (cY w hq)
theorem AY:jw P .Is uV:=fun A g σ s x x' t t' b Q E rm w q q' e k=>by
 obtain ⟨c,rfl⟩:=cz e
 cases t' with
 |none=>
  rw [show x'=_ from q'.v fun _ h=>h]
  refine is_none ?_
  rcases q with q | ⟨a,rfl,q⟩
  ·cases t with
   |none=>rw [show x=_ from q];exact k s.toks
   |bool=>rw [show x=_ from q];exact k s.toks
   |int=>obtain ⟨_,rfl⟩:=q;exact k s.toks
   |str=>obtain ⟨_,_,rfl⟩:=q;exact k s.toks
   |scr=>obtain ⟨a,_,rfl⟩:=q;exact k s.toks
   |spot=>rw [show x=_ from q];exact k s.toks
   |self=>exact q.elim
   |_=>obtain ⟨a,rfl⟩:=q;exact k s.toks
  ·cases t with
   |none=>exact q.elim
   |_=>exact k s.toks
 |_=>cases c
theorem w0 {A:Around}{x y:Value}{s:Shared}{t:Bool}{Q:Value→Shared→Prop}{E:Value→Shared→Prop}(h:wpAny P.M A (compareOp .Is x y) (fun v s'=>v=.bool t∧Q (.bool (!t)) s') E s):wpAny P.M A (compareOp .IsNot x y) Q E s:=fun Γ p hΓ=>by
 have h':=h Γ p hΓ
 rw [show compareOp .Is x y=(do return .bool (←isSame x y)) from rfl,Sem.wp_bind'] at h'
 rw [show compareOp .IsNot x y=(do return .bool (!(←isSame x y))) from rfl,Sem.wp_bind']
 refine Sem.wp_mono P.M Γ _ (fun b p' s' q=>?_) (fun _ _ _ q=>q) p s h'
 obtain ⟨q1,q2⟩:=(show Value.bool b=.bool t∧_ from q)
 cases q1;exact q2
theorem xJ:jw P .IsNot DD:=fun A g σ s x x' t t' b Q E rm w q q' e k=>by
 obtain ⟨c,e1,rfl⟩:=Option.map_eq_some_iff.mp e
 exact w0 (AY A g σ s x x' t t' c _ E rm w q q' e1 fun tk=>⟨rfl,k tk⟩)
noncomputable abbrev CP (B:bB)(x:String):Prop:=B.sc.names.lookup (ofString x)=some .globalImplicit
section
variable {e:Expr} {p:PE} {pn pos:Pos}
theorem ak.len (hx:CP B "len")(hn:∀env,starEach [e] env=[(false,eval e env)])(h:ak P B C e p (RX P)):ak P B C (.Call (.Name (ofString "len") pn) [e] [] pos) (p1 aI p) (RV P):=ak.b1 kq wG (fun _ q=>by cases q) hx (by decide) (by decide) (by decide) hn h
theorem ak.listOf (hx:CP B "list")(hn:∀env,starEach [e] env=[(false,eval e env)])(h:ak P B C e p (RX P)):ak P B C (.Call (.Name (ofString "list") pn) [e] [] pos) (p1 eZ p) (RN P):=ak.b1 DP zo (fun _ q=>by cases q) hx (by decide) (by decide) (by decide) hn h
theorem ak.anyOf (hx:CP B "any")(hn:∀env,starEach [e] env=[(false,eval e env)])(h:ak P B C e p (RX P)):ak P B C (.Call (.Name (ofString "any") pn) [e] [] pos) (p1 s4 p) (RV P):=ak.b1 kq Cv (fun _ q=>by cases q) hx (by decide) (by decide) (by decide) hn h
theorem ak.allOf (hx:CP B "all")(hn:∀env,starEach [e] env=[(false,eval e env)])(h:ak P B C e p (RX P)):ak P B C (.Call (.Name (ofString "all") pn) [e] [] pos) (p1 ju p) (RV P):=ak.b1 kq Am (fun _ q=>by cases q) hx (by decide) (by decide) (by decide) hn h
theorem ak.intOf (hx:CP B "int")(hn:∀env,starEach [e] env=[(false,eval e env)])(h:ak P B C e p (RX P)):ak P B C (.Call (.Name (ofString "int") pn) [e] [] pos) (p1 ma p) (RV P):=ak.b1 kq B6 (fun _ q=>by cases q) hx (by decide) (by decide) (by decide) hn h
end
end
structure yx (K:MK) (name:Str) (id:String):Prop where
 slot:Slot K.id name id
 ty:typeOf (.builtin id)=pure (.type "method_descriptor")
theorem MK.plain (K:MK):PlainAttrs K.id:=by
 cases K
 ·exact F.plainAttrs_list
 ·exact F.plainAttrs_str
 ·exact F.plainAttrs_tuple
noncomputable def EP (K:MK)(s:Shared)(x:Value):Prop:=s.TypeIs x K.id∧∀a,x=.ref a→∃o,s.heap.get? a=some o∧o.dict=none
section
variable {P:Pg} {B:bB} {C C':Ct} {fr:Bool} {n:Nat} {A:Around} {env:Env} {g g':Gh} {ρ:aH} {σ:Sg} {s s':Shared} {h h':Heap} {t:T} {x:Value}
theorem sE {K:MK}{a:Addr}{o:Obj}(e:s.heap.get? a=some o)(hc:o.cls=.type K.id)(hd:o.dict=none):EP K s (.ref a):=⟨⟨o,e,hc⟩,fun b q=>⟨o,Value.ref.inj q▸e,hd⟩⟩
theorem tM {K:MK}(q:eU P g s.heap t x)(hk:kT K t=true):EP K s x:=by
 obtain ⟨y,e⟩ | ⟨y,e⟩ | ⟨y,e⟩:(∃y,K=.list∧fZ t=some y)∨(∃y,K=.str∧rF t=some y)∨∃y,K=.tuple∧pP t=some y:=by
  cases K with
  |list=>exact .inl (let ⟨y,e⟩:=Option.isSome_iff_exists.mp hk;⟨y,rfl,e⟩)
  |str=>exact .inr (.inl (let ⟨y,e⟩:=Option.isSome_iff_exists.mp hk;⟨y,rfl,e⟩))
  |tuple=>exact .inr (.inr (let ⟨y,e⟩:=Option.isSome_iff_exists.mp hk;⟨y,rfl,e⟩))
 ·obtain ⟨rfl,e⟩:=e;obtain ⟨a,rfl,vs,n,h1,_⟩:=q.ls e;exact sE h1 rfl rfl
 ·obtain ⟨rfl,e⟩:=e;obtain ⟨_,p,rfl⟩:=q.s e;exact ⟨rfl,fun a q=>by cases q⟩
 ·obtain ⟨rfl,e⟩:=e;obtain ⟨a,rfl,_,vs,n,h1,_⟩:=q.tu e;exact sE h1 rfl rfl
theorem lW {o e:Expr}{name:Str}{apos pos:Pos}{id:String}{K:MK}{Q:Value→Shared→Prop}{E:Value→Shared→Prop}(i:yx K name id)(hbase:∀env,attributeBase o name env (eval o env)=eval o env)(hline:(apos.endLine==pos.line)=true)(htrees:∀env,backTo pos (starEach [e] env)=[(false,eval e env)])
  (h:wpAny P.M A (eval o env) (fun x s₁=>EP K s₁ x∧wpAny P.M A (eval e env) (fun y s₂=>wpAny P.M A (PySem.call (.builtin id) [x,y]) Q E s₂) E s₁) E s):wpAny P.M A (eval (.Call (.Attribute o name apos) [e] [] pos) env) Q E s:=
 wpAny_Call_method1_late (hbase env) hline (htrees env) (wpAny_mono h (fun x s₁ ⟨k,h₁⟩=>⟨K.id,id,K.plain,i.slot,i.ty,k.1,k.2,bw (fun _ q=>by cases q) (fun p hp=>by rw [List.mem_singleton.mp hp]) (Calls.spliced_cons (wpAny_mono h₁ (fun _ _ h₂=>Calls.spliced_nil h₂) fun _ _ h=>h))⟩) fun _ _ h=>h)
noncomputable abbrev En (P:Pg)(id:String):W2 Value:=Ao P fun x y=>PySem.call (.builtin id) [x,y]
theorem ak.m1 {o e:Expr}{name:Str}{apos pos:Pos}{po pe:PE}{id:String}{K:MK}{F:T→T→Option T}{R:RR Value T}(i:yx K name id)(hd:Dn R)(k:pX P (En P id) F R)(hbase:∀env,attributeBase o name env (eval o env)=eval o env)(hline:(apos.endLine==pos.line)=true)
  (htrees:∀env,backTo pos (starEach [e] env)=[(false,eval e env)])(h1:ak P B C o po (RX P))(h2:ak P B C e pe (RX P)):ak P B C (.Call (.Attribute o name apos) [e] [] pos) (yV K F po pe) R:=
 (h1.bind (N:=fun A env x Q E s=>EP K s x∧wpAny P.M A (eval e env) (fun y s₂=>wpAny P.M A (PySem.call (.builtin id) [x,y]) Q E s₂) E s) (F:=fun c ρ k a σ=>gd (kT K a) (pe c ρ σ fun b σ=>up (F a b) σ k)) hd fun n A env g g₁ ρ σ s s₁ x t kk Q E p X r hb hq=>by
  have hk:=kg hb
  rw [hk] at hb hq
  refine ⟨tM (j0.y r) hk,h2 n A env g₁ ρ σ s₁ _ _ E X hb fun x' s₂ g₂ t' σ₂ e₂ p₂ w₂ r₂=>?_⟩
  obtain ⟨y,e'⟩:=bY fun q=>hb (e₂.trans q)
  exact k A env g₂ σ₂ s₂ x x' t t' y Q E X.rm w₂ (j0.post X.g p₂ r).y (j0.y r₂) e' fun u s' g' p w r=>hq u s' g' y σ₂ (e₂.trans (by rw [e'];rfl)) (p₂.trans p) w (hd _ _ _ _ _ _ p₂.back r)).map fun A env Q E s h=>lW i hbase hline htrees h
theorem kS {i:Nat}{a:Addr}{y:T}(X:At P B C n A env g ρ σ s)(hv:bq C i=true)(hb:bC ρ i≠none)(ho:g.o i=some a)(hva:cS B env s.heap i (.ref a))(hs:∀b,b≠a→h'.get? b=s.heap.get? b)(hy:aO g s.heap g h'→gS P g h' a y)(tk:Nat):
  aP [] (own env) g s g {s with heap:=h',toks:=tk}∧At P B C n A env g (ρ.set i (some y)) σ {s with heap:=h',toks:=tk}:=by
 obtain ⟨la,fa,za⟩:=X.g.O a ⟨i,ho⟩
 have kf:aO g s.heap g h':=⟨fun b f=>⟨f,fun o e=>(hs b fun q=>fa (q▸f)).trans e⟩,rfl⟩
 have ra:=hy kf
 have lv:∀b,s.heap.get? b≠none→h'.get? b≠none:=fun b l=>by
  by_cases q:b=a
  ·exact q▸ra.live
  ·rw [hs b q];exact l
 have zk:∀b,g.Z b→∀o,s.heap.get? b=some o→h'.get? b=some o:=fun b z o e=>(hs b fun q=>za (q▸z)).trans e
 have ok:∀b∈own env,∀o,s.heap.get? b=some o→h'.get? b=some o:=fun b m o e=>(hs b fun q=>(X.env.own b m).2.2.2 (q▸⟨i,ho⟩)).trans e
 refine ⟨⟨⟨h',tk,rfl⟩,fun b o e _ no _=>(hs b fun q=>no (q▸⟨i,ho⟩)).trans e,fun b _ e=>?_,fun _ f=>f,fun _ f=>.inl f,fun _ f=>.inl f,fun _ f=>.inl f,rfl,rfl⟩,X.good,X.call,X.room,{X.env with
   ns:=let ⟨m,nn⟩:=X.env.ns;⟨m,nn.at (ok _ List.mem_cons_self)⟩
   cell:=fun j z kk hj hk=>let ⟨c,u,l,o,e,d⟩:=X.env.cell j z kk hj hk;⟨c,u,l,o,ok c (List.mem_cons_of_mem _ (bo l)) o e,d⟩
   own:=fun b m=>⟨lv b (X.env.own b m).1,(X.env.own b m).2⟩
   var:=fun j z v hj hv'=>?_
   un:=fun j hj=>cW (fun q:j=i=>hb (q▸X.env.un j hj)) (X.env.un j hj)},
  fun b o e=>⟨(X.g.base b o e).1,(kf.F b (X.g.base b o e).1).2 o (X.g.base b o e).2⟩,fun b f=>lv b (X.g.F b f),fun b z=>⟨lv b (X.g.Z b z).1,(X.g.Z b z).2⟩,fun b z=>⟨lv b (X.g.O b z).1,(X.g.O b z).2⟩,X.g.oo,
  ⟨let ⟨t,m,e⟩:=X.g.spot.1;⟨t,m,zk _ X.g.spot.2.1 _ e⟩,X.g.spot.2⟩,fun c ts e=>(X.g.self c ts e).mono kf (fun b z=>⟨z,zk b z⟩) rfl⟩
 ·cases q:s.heap.get? b with
  |none=>rfl
  |some o=>exact (lv b (an q) e).elim
 ·rcases gW hv' with ⟨q,e⟩ | ⟨nj,e⟩
  ·subst q;cases e
   exact ⟨_,hva.move ok,by unfold bz;rw [hv];exact ⟨a,rfl,ho,ra⟩⟩
  ·obtain ⟨u,v1,v2⟩:=X.env.var j z v hj e
   refine ⟨u,v1.move ok,?_⟩
   unfold bz at v2 ⊢
   cases q:bq C j with
   |true=>rw [q] at v2;exact let ⟨b,e1,e2,r⟩:=v2;⟨b,e1,e2,r.mono kf fun o e=>(hs b fun z=>nj (X.g.oo j i a (z▸e2) ho)).trans e⟩
   |false=>rw [q] at v2;exact v2.imp (·.mono kf) id
noncomputable def Mu (P:Pg)(id:String)(F:T→T→Option T)(RA:Gh→Heap→T→Value→Prop):Prop:=
 ∀A g σ s a x' t v y Q E,Rm A→bv P g s.heap σ→gS P g s.heap a t→RA g s.heap v x'→F t v=some y→
  (∀h' tk,(∀b,b≠a→h'.get? b=s.heap.get? b)→(aO g s.heap g h'→gS P g h' a y)→Q .none {s with heap:=h',toks:=tk})→wpAny P.M A (PySem.call (.builtin id) [.ref a,x']) Q E s
theorem aN.mut {e:Expr}{y name:Str}{k:NameKind}{np apos cpos pos:Pos}{pe:PE}{id:String}{i:Nat}{F:T→T→Option T}{R:RR Value T}{RA:Gh→Heap→T→Value→Prop}(m:yx .list name id)(hv:bq C i=true)(ht:B.tab[i]?=some (some (y,k)))(hR:∀h g h' t x,R h g h' t x→RA g h' t x)(o:Mu P id F RA)
  (hbase:∀env,attributeBase (.Name y np) name env (eval (.Name y np) env)=eval (.Name y np) env)(hline:(apos.endLine==cpos.line)=true)(htrees:∀env,backTo cpos (starEach [e] env)=[(false,eval e env)])(hw:∀env,swapsWith (.Call (.Attribute (.Name y np) name apos) [e] [] cpos) none pos.line env=pure false)
  (h:ak P B C e pe R):aN P B C fr C (.Expr (.Call (.Attribute (.Name y np) name apos) [e] [] cpos) pos) (f6 i F pe):=fun n A env g ρ σ s k Q E X hb hq hr=>by
 show wpAny P.M A (exec _ env) Q E s
 rw [exec_Expr env _ pos (by simp [interactive,X.fn]) (hw env)]
 unfold f6 at hb hq
 cases e0:bC ρ i with
 |none=>rw [e0] at hb;exact absurd rfl hb
 |some t=>
  rw [e0] at hb hq
  have hk:=kg hb
  simp only [hk,cond_true] at hb hq
  obtain ⟨u,v,q⟩:=X.env.var i _ t ht e0
  unfold bz at q
  rw [hv] at q
  obtain ⟨a,rfl,oi,r⟩:=q
  refine wpAny_bind (wpAny_standAt (wpAny_bind (lW m hbase hline htrees (bp X ht v ⟨tM (.inr ⟨a,rfl,r⟩) hk,h n A env g ρ σ s _ _ _ X hb fun x' s₂ g₂ t' σ₂ e₂ p₂ w₂ r₂=>?_⟩))))
  obtain ⟨y',e'⟩:=bY fun q=>hb (e₂.trans q)
  have X₂:=X.post p₂ w₂
  have ka:=fun o e=>p₂.keep a o e (X.g.O a ⟨i,oi⟩).2.2
  refine o A g₂ σ₂ s₂ a x' t t' y' _ _ X.rm w₂ (r.mono (p₂.k X.g) ka) (hR _ _ _ _ _ r₂) e' fun h' tk hs hy=>wpAny_dropValue ?_
  obtain ⟨pS,X'⟩:=kS X₂ hv (by rw [e0];exact fun q=>by cases q) (by rw [p₂.o];exact oi) (v.move fun b m o e=>p₂.keep b o e (X.env.own b m).2.2.1) hs hy tk
  exact hq _ _ _ σ₂ (e₂.trans (by rw [e'];rfl)) (p₂.toS.trans pS) X'
theorem jX:Mu P "list.append" df (fun g h t x=>Rp P g h t x):=fun A g σ s a x' t v y Q E rm w r rv e hq=>by
 obtain ⟨xs,e1,e2⟩:=ar e
 obtain ⟨hl,rfl⟩:=fg e2
 cases eh e1
 obtain ⟨vs,n,a1,a3,a2⟩:=r
 refine dN a1 (hq _ s.toks (Heap.SameBut.update s.heap a (Obj.mapSeq fun a=>a.push x')).2 fun kf=>⟨_,_,IsL.update a1 (fun a=>a.push x'),by rw [List.length_append];exact hl,?_⟩) (bj (a2.size▸a3))
 rw [Array.toList_push]
 exact aR.append (aR.cons (rv.mono kf) aR.nil) (a2.mono kf)
theorem py {prog:Program}{w:World}{A:Around}{E:Value→Shared→Prop}{s:Shared}{l b:Addr}{items items2:Array Value}{n n2:Nat}{Q:Value→Shared→Prop}(hl:IsL s.heap l items n)(hb:IsL s.heap b items2 n2)
  (h:Q .none {s with heap:=s.heap.update l (Obj.mapSeq fun a=>a++items2)})(hsz:items.size+items2.size≤lim):wpAny (model prog w) A (call (.builtin "list.extend") [.ref l,.ref b]) Q E s:=by
 have hlim:lim=1000000:=rfl
 have h1:=bj (k:=items.size) (by lia -abstractProof)
 have h2:=bj hsz
 refine call_meets F.slot_list_extend ⟨_,hl,rfl⟩ F.entry_list_extend (F.args_list_extend_2 _ _) (AutoSeq1.list_extend_list_list_0 l items n b items2 n2 ?_ h1 (by lia)) ⟨hl,hb,h⟩
 have:Builtin.List.listTooLong (items.size+items2.size)=false:=by
  unfold Builtin.List.listTooLong
  simp only [decide_eq_false_iff_not]
  lia
 simp [this]
theorem uZ:Mu P "list.extend" ii (fun g h t x=>j0 P g h t x):=fun A g σ s a x' t v y Q E rm w r rv e hq=>by
 obtain ⟨xs,ys,e1,e3,e2⟩:=bc e
 obtain ⟨hl,rfl⟩:=fg e2
 cases eh e1
 obtain ⟨vs,n,a1,a3,a2⟩:=r
 obtain ⟨b,rfl,vs',n',b1,b3,b2⟩:=(j0.y rv).ls e3
 refine py a1 b1 (hq _ s.toks (Heap.SameBut.update s.heap a (Obj.mapSeq fun a=>a++vs')).2 fun kf=>⟨_,_,IsL.update a1 (fun a=>a++vs'),by rw [List.length_append];exact hl,?_⟩) (by rw [a2.size,b2.size];exact hl)
 rw [Array.toList_append]
 exact aR.append (b2.mono kf) (a2.mono kf)
theorem xz {A:Around}{a b:Nat}(rm:Rm A)(h:a≤cQ):A.units+2+min a b < cLine:=by
 have:=rm.units
 have:min a b≤50:=Nat.le_trans (Nat.min_le_left _ _) h
 lia -abstractProof
theorem w8:pX P (En P "list.index") mc (RV P):=fun A env g σ s x x' t t' y Q E rm w q q' e hq=>by
 obtain ⟨xs,e1,e2⟩:=ar e
 obtain ⟨d,ds,h1,h2,e3⟩:=bc e2
 obtain ⟨j,h3,e4⟩:=ar e3
 cases e4
 obtain ⟨l,rfl,vs,n,a1,a3,a2⟩:=q.ls e1
 obtain ⟨⟨as,r1⟩,c1,l1⟩:=dq cQ t' x' d h1 q'
 obtain ⟨⟨bs,r2⟩,c2,l2⟩:=eX (fun t x d e r=>dq cQ t x d e (.inl r)) xs _ ds h2 a2
 have hmap:=readsAll_map ds vs.toList bs c2 r2
 obtain ⟨hj,hj1,hj2⟩:=List.findIdx?_eq_some_iff_getElem.mp h3
 have hlen:ds.length=vs.size:=by rw [←hmap,List.length_map];rfl
 have at':∀(k:Nat) (h:k < vs.size) (h':k < ds.length),readOf s.heap vs[k]=ds[k]:=fun k h h'=>by
  have:ds[k]=(vs.toList.map (readOf s.heap))[k]'(by rw [List.length_map];exact h):=by simp only [hmap]
  rw [this,List.getElem_map];rfl
 refine call_meets F.slot_list_index ⟨_,a1,rfl⟩ F.entry_list_index (F.args_list_index_2 _ _)
  (list_indexAt l vs n Option.none #[] x' (fun v=>PyData.eqv (readOf s.heap v) d) j (hlen▸hj) (by have:=a2.size;have:lim=1000000:=rfl;lia -abstractProof) (by rw [at' j (hlen▸hj) hj];exact hj1) fun k hk hkj=>?_)
  ⟨a1,items_eqAt r2 r1 c2 c1 (Nat.lt_of_le_of_lt (by lia -abstractProof) (xz (b:=d.depth) rm l2)),?_⟩
 ·rw [at' k hk (hlen▸hk)]
  simpa using hj2 k hkj
 ·exact cY w hq
theorem nR:∀{ts:List T} {vs:List Value} {xs:List Str},aR P g h ts vs→vy ts=some xs→∃l:List (Str×Tok),vs=strValues l∧l.map (·.1)=xs
 | [],_,_,r,hs=>by cases r;cases hs;exact ⟨[],rfl,rfl⟩
 |t::ts,_,xs,⟨v,vs,e,r,rs⟩,hs=>by
  obtain ⟨y,ys,h1,h2,h3⟩:=bc hs
  cases h3;cases xX h1
  obtain ⟨_,p,rfl⟩:=r
  obtain ⟨l,e1,e2⟩:=nR rs h2
  exact ⟨(y,p)::l,by rw [e,e1];rfl,by rw [←e2];rfl⟩
theorem wW:pX P (En P "str.join") tN (RV P):=fun A env g σ s x x' t t' y Q E rm w q q' e hq=>by
 obtain ⟨sep,ts,e1,e2,e3⟩:=bc e
 obtain ⟨xs,e4,e5⟩:=ar e3
 obtain ⟨c,rfl⟩:=cz e5
 obtain ⟨c12,c3⟩:=Bool.and_eq_true_iff.mp c
 obtain ⟨c1,c2⟩:=Bool.and_eq_true_iff.mp c12
 obtain ⟨_,p,rfl⟩:=q.s e1
 obtain ⟨l,rfl,vs,n,a1,a3,a2⟩:=q'.ls e2
 obtain ⟨lt,q1,rfl⟩:=nR a2 e4
 have c1':Builtin.Str.tooLong ((lt.map (·.1)).toArray.foldl (·+·.length+sep.length) 0)=false:=by
  unfold JoinOk at c1
  rw [Bool.not_eq_true'] at c1;exact c1
 refine call_meets F.slot_str_join (typeIs_str _ _ _) F.entry_str_join (F.args_str_join_2 _ _) (meets_str_join_list sep p l lt c1') ⟨⟨_,a1,rfl,n,by rw [←q1]⟩,post_join lt ⟨joinFit_length c1',fun t' k=>?_⟩⟩
 exact hq _ _ g (.toks g s k) w ⟨⟨c2,fK c3⟩,_,rfl⟩
theorem qe:∀(l:List (Str×Tok)),(∀p∈l,PyData.strOk p.1=true∧p.1.length≤lim)→aR P g h ((l.map (·.1)).map T.str) (strValues l)
 | [],_=>rfl
 | (x,t)::r,hl=>⟨_,_,rfl,⟨hl (x,t) List.mem_cons_self,t,rfl⟩,qe r fun p hp=>hl p (List.mem_cons_of_mem _ hp)⟩
theorem ut:pX P (En P "str.split") oH (RV P):=fun A env g σ s x x' t t' y Q E rm w q q' e hq=>by
 obtain ⟨z,z',e1,e2,e3⟩:=bc e
 obtain ⟨c,rfl⟩:=cz e3
 obtain ⟨c12,c3⟩:=Bool.and_eq_true_iff.mp c
 obtain ⟨c1,c2⟩:=Bool.and_eq_true_iff.mp c12
 obtain ⟨⟨h1,h2⟩,p,rfl⟩:=q.s e1
 obtain ⟨_,u,rfl⟩:=q'.s e2
 have c1:(z'.length==0)=false:=by rw [Bool.not_eq_true'] at c1;exact c1
 have c2:=fK c2
 have fin:∀(lt:List (Str×Tok)) (tk:Nat),lt.map (·.1)=Txt.split z z'→Q (.ref s.heap.objs.size) {s with heap:=s.heap.push (br (strValues lt).toArray 0),toks:=tk}:=fun lt tk hlt=>by
  rw [←hlt] at c2 c3 hq
  refine jg w (qe lt fun p hp=>?_) (by rw [List.length_map];exact c2) hq
  have:=Bool.and_eq_true_iff.mp (List.all_eq_true.mp c3 p.1 (List.mem_map_of_mem hp))
  exact ⟨this.1,of_decide_eq_true this.2⟩
 have hx:z.length≤sizeLine:=bj h2
 cases q1:(decide (z.length < z'.length)||decide (Builtin.Str.strKind z < Builtin.Str.strKind z'))
 ·cases hf:(Builtin.Str.occurrences z z' 0 z.length (z.length+1)).isEmpty
  ·have hsp:Txt.split z z'=Builtin.Str.partsBetween z (Builtin.Str.occurrences z z' 0 z.length (z.length+1)) z'.length:=(if_neg (ne_true_of_eq_false q1)).trans (if_neg (ne_true_of_eq_false hf))
   refine call_meets F.slot_str_split (typeIs_str _ _ _) F.entry_str_split (F.args_str_split_2 _ _) (meets_str_split_sep z z' p u q1 c1 hf hx (by rw [←hsp];exact bj c2)) ?_
   show wants _ _ _ {s with toks:=_,heap:=s.heap.push {cls:=.type "list",data:=.seq (strsFrom s.toks (Builtin.Str.partsBetween z (Builtin.Str.occurrences z z' 0 z.length (z.length+1)) z'.length)).toArray}}
   rw [strsFrom_eq]
   exact fin _ _ ((numbered_texts _ _).trans hsp.symm)
  ·exact call_meets F.slot_str_split (typeIs_str _ _ _) F.entry_str_split (F.args_str_split_2 _ _) (meets_str_split_not_found z z' p u q1 c1 hf) (fin [(z,p)] s.toks ((if_neg (ne_true_of_eq_false q1)).trans (if_pos hf)).symm)
 ·exact call_meets F.slot_str_split (typeIs_str _ _ _) F.entry_str_split (F.args_str_split_2 _ _) (meets_str_split_cannot_occur z z' p u q1) (fin [(z,p)] s.toks (if_pos q1).symm)
theorem md:yx .list (ofString "append") "list.append":=⟨F.slot_list_append,F.type_list_append⟩
theorem B8:yx .str (ofString "join") "str.join":=⟨F.slot_str_join,F.type_str_join⟩
theorem zP:yx .str (ofString "split") "str.split":=⟨F.slot_str_split,F.type_str_split⟩
theorem xe:yx .list (ofString "extend") "list.extend":=⟨F.slot_list_extend,F.type_list_extend⟩
theorem zQ:yx .list (ofString "index") "list.index":=⟨F.slot_list_index,F.type_list_index⟩
end
end
end Mine
namespace Mine
noncomputable section
open PySem PySem.W PyProof.Rows PySem.SeqAt
noncomputable abbrev iO:=Ky×Addr×Value
section
variable {P:Pg} {B:bB} {C:Ct} {fr:Bool} {g g':Gh} {h h':Heap} {t:T} {x:Value}
theorem AP {f:T→Option Ky}{n:Nat}(hf:∀t κ x,f t=some κ→Rp P g h t x→Au h n κ x):∀(ts:List T) (κs:List Ky) (xs:List Value),kU.go f ts=some κs→aR P g h ts xs→CB h n κs xs
 | [],κs,xs,e,r=>by cases r;cases e;exact ⟨[],rfl,rfl⟩
 |t::ts,κs,xs,e,⟨v,vs,e',q,r⟩=>by
  subst e'
  obtain ⟨κ,κs',e1,e2,e3⟩:=bc e
  cases e3
  obtain ⟨d,g1,h1⟩:=hf t κ _ e1 q
  obtain ⟨ds,g2,h2⟩:=AP hf ts κs' _ e2 r
  exact ⟨d::ds,by rw [Kx.norms,g1,g2],⟨_,_,rfl,h1,h2⟩⟩
theorem Dz:∀(n:Nat) (t:T) (κ:Ky) (x:Value),kU n t=some κ→Rp P g h t x→Au h n κ x:=by
 have base:∀n t κ x,(match t with |.tup _=>False |_=>True)→kU n t=some κ→Rp P g h t x→Au h n κ x:=fun n t κ x ht e r=>by
  cases t with
  |bool b=>cases n<;>cases e<;>exact ⟨.bool _,rfl,r⟩
  |int i=>cases n<;>cases e<;>exact ⟨.int _,rfl,r⟩
  |str s=>cases n<;>cases e<;>exact ⟨.str _,rfl,r.1.1,r.2⟩
  |tup=>exact ht.elim
  |_=>cases n<;>cases e
 intro n
 induction n with
 |zero=>
  intro t κ x e r
  cases t with
  |tup=>cases e
  |_=>exact base 0 _ κ x trivial e r
 |succ n ih=>
  intro t κ x e r
  cases t with
  |tup ts=>
   obtain ⟨κs,e1,e2⟩:=ar (show o1 (kU.go (kU n) ts) (fun ks=>some (Ky.tup ks))=some κ from e)
   cases e2
   obtain ⟨a,rfl,_,vs,m,hg,_,r⟩:=r
   obtain ⟨ds,g1,h1⟩:=AP ih ts κs _ e1 r
   exact ⟨.tup ds,congrArg Ky.tup g1,_,_,_,n,rfl,rfl,hg,h1⟩
  |_=>exact base (n+1) _ κ x trivial e r
theorem l6 {κ:Ky}(e:wT t=some κ)(r:eU P g h t x):∃a,x=.ref a∧(bJ P.prog P.w).is h κ a∧Rp P g h t x:=by
 obtain ⟨ts,e1,e2⟩:=ar e
 cases jW e1
 have r:=r.v fun _ h=>h
 have k:=Dz 6 _ κ _ e2 r
 obtain ⟨a,rfl,_⟩:=id r
 exact ⟨a,rfl,k,r⟩
theorem pE:∀(es:List DictEntry) (us:List T) (κs:List Ky),aR P g h us (es.map (·.key))→e9 us=some κs→es.map (·.hash)=κs.map (Ky.hash P.w)→
  ∃xs:List iO,es=xs.map (entryOfKey (bJ P.prog P.w))∧xs.map (·.1)=κs∧(∀x∈xs,(bJ P.prog P.w).is h x.1 x.2.1)
 | [],us,κs,r,e,hh=>by
  obtain rfl:us=[]:=List.length_eq_zero_iff.mp r.length.symm
  cases e;exact ⟨[],rfl,rfl,fun _ h=>nomatch h⟩
 |en::es,us,κs,r,e,hh=>by
  cases us with
  |nil=>cases r
  |cons u us=>
   obtain ⟨_,_,e0,q,r⟩:=r
   cases e0
   obtain ⟨κ,κs',e1,e2,e3⟩:=bc (show o2 (wT u) (e9 us) _=some κs from e)
   cases e3
   obtain ⟨a,ha,hk,_⟩:=l6 e1 (.inl q)
   rw [List.map_cons,List.map_cons] at hh
   obtain ⟨hh1,hh2⟩:=List.cons.inj hh
   obtain ⟨xs,h1,h2,h3⟩:=pE es us κs' r e2 hh2
   refine ⟨(κ,a,en.val)::xs,?_,by rw [List.map_cons,h2],fun x hx=>?_⟩
   ·rw [List.map_cons,←h1]
    congr 1
    cases en
    simp only at ha hh1
    rw [ha,hh1];rfl
   ·rcases List.mem_cons.mp hx with rfl |hx
    ·exact hk
    ·exact h3 x hx
inductive Em (P:Pg) (g:Gh) (h:Heap) (us ts:List T) (a:Addr):Prop
 |mk (xs:List iO) (n:(a==sysModules)=false) (d:h.DictOfH (bJ P.prog P.w) a xs) (k:e9 us=some (xs.map (·.1))) (r:aR P g h us (xs.map fun y=>Value.ref y.2.1)) (r':aR P g h ts (xs.map (·.2.2))) (l:us.length≤lim)
theorem yy.is {us ts:List T}{a:Addr}(q:yy P h us (aR P g h us) (aR P g h ts) a):Em P g h us ts a:=by
 obtain ⟨n,o,es,e,q,r1,r2⟩:=q
 obtain ⟨κ,k1,k2,k3⟩:=q.k
 obtain ⟨ep,d⟩:=q.d
 obtain ⟨xs,h1,h2,h3⟩:=pE es us κ r1 k1 k2
 refine ⟨xs,n,⟨o,_,ep,e,q.x,d,h1,h3,by rw [h2];exact k3⟩,by rw [h2];exact k1,?_,?_,q.l⟩
 ·rw [h1,List.map_map] at r1;exact r1
 ·rw [h1,List.map_map] at r2;exact r2
theorem Em.back {us ts:List T}{a:Addr}{xs:List iO}(n:(a==sysModules)=false)(d:h.DictOfH (bJ P.prog P.w) a xs)(k:e9 us=some (xs.map (·.1)))(r:aR P g h us (xs.map fun y=>Value.ref y.2.1))(r':aR P g h ts (xs.map (·.2.2)))(l:us.length≤lim):gS P g h a (.dct us ts):=by
 obtain ⟨o,es,ep,e,x,d,h1,h3,h4⟩:=d
 refine ⟨n,o,es.toList,e,⟨x,⟨ep,d⟩,⟨_,k,?_,h4⟩,l⟩,?_,?_⟩
 ·rw [h1,List.map_map,List.map_map];rfl
 ·rw [h1,List.map_map];exact r
 ·rw [h1,List.map_map];exact r'
theorem xZ {p:List T×List T}(e:CN t=some p):t=.dct p.1 p.2:=by cases t<;>cases e;rfl
theorem eU.d {p:List T×List T}(q:eU P g h t x)(e:CN t=some p):∃a,x=.ref a∧Em P g h p.1 p.2 a:=by cases xZ e;exact q.elim (fun r=>let ⟨a,e,_,o⟩:=r;⟨a,e,o.is⟩) fun ⟨a,e,o⟩=>⟨a,e,yy.is o⟩
theorem m8 (κ:Ky):∀(xs:List iO),atKey xs κ=(o9 (xs.map (·.1)) κ).bind fun i=>(xs[i]?).map (·.2)
 | []=>rfl
 |x::xs=>by
  have ih:=m8 κ xs
  unfold atKey o9 at ih ⊢
  rw [List.map_cons,List.findIdx?_cons,List.find?_cons]
  cases decide (x.1=κ) with
  |true=>rfl
  |false=>
   simp only [Bool.false_eq_true,if_false]
   rw [ih]
   cases List.findIdx? (fun y=>decide (y=κ)) (xs.map (·.1)) with
   |none=>rfl
   |some i=>rfl
theorem tK {κs:List Ky}{κ:Ky}{i:Nat}(e:o9 κs κ=some i):κs[i]?=some κ:=by
 obtain ⟨h1,h2,_⟩:=List.findIdx?_eq_some_iff_getElem.mp e
 rw [List.getElem?_eq_getElem h1,of_decide_eq_true h2]
theorem tm {A:Around}(hu:A.units+200 < cLine):(bJ P.prog P.w).room A.in1:=by
 show A.in1.units+6 < cLine
 rw [Around.in1_units];lia -abstractProof
theorem wo {A:Around}{x y:Value}{s:Shared}{t:Bool}{Q:Value→Shared→Prop}{E:Value→Shared→Prop}(h:wpAny P.M A (compareOp .In x y) (fun v s'=>v=.bool t∧Q (.bool (!t)) s') E s):wpAny P.M A (compareOp .NotIn x y) Q E s:=fun Γ p hΓ=>by
 have h':=h Γ p hΓ
 rw [show compareOp .In x y=(do return .bool (←contains y x)) from rfl,Sem.wp_bind'] at h'
 rw [show compareOp .NotIn x y=(do return .bool (!(←contains y x))) from rfl,Sem.wp_bind']
 refine Sem.wp_mono P.M Γ _ (fun b p' s' q=>?_) (fun _ _ _ q=>q) p s h'
 obtain ⟨q1,q2⟩:=(show Value.bool b=.bool t∧_ from q)
 cases q1;exact q2
theorem tn {κ:Ky}{z:Value}:∀{xs:List iO} {j:Nat},(xs.map (·.1)).Nodup→(∃x,xs[j]?=some x∧x.1=κ)→(xs.map (putAt κ z)).map (·.2.2)=(xs.map (·.2.2)).set j z∧(xs.map (putAt κ z)).map (fun y=>Value.ref y.2.1)=xs.map (fun y=>Value.ref y.2.1)
 | [],j,_,⟨_,h,_⟩=>by cases h
 |x::xs,0,nd,⟨y,h,h'⟩=>by
  cases h
  have:xs.map (putAt κ z)=xs:=map_putAt_of_not_mem xs κ z (by rw [←h'];exact (List.nodup_cons.mp nd).1)
  rw [List.map_cons,this]
  simp [putAt,h']
 |x::xs,j+1,nd,⟨y,h,h'⟩=>by
  have nd':=List.nodup_cons.mp nd
  obtain ⟨h1,h2⟩:=tn (κ:=κ) (z:=z) (xs:=xs) (j:=j) nd'.2 ⟨y,h,h'⟩
  have hx:x.1≠κ:=fun q=>nd'.1 (by show x.1∈_;rw [q,←h'];exact List.mem_map_of_mem (List.mem_of_getElem? (i:=j) h))
  have e:putAt κ z x=x:=by unfold putAt;rw [if_neg hx]
  rw [List.map_cons,e]
  exact ⟨congrArg (x.2.2::·) h1,congrArg (Value.ref x.2.1::·) h2⟩
theorem jq {xs:List iO}{us:List T}{k:T}{κ:Ky}{i:Option Nat}(hk:e9 us=some (xs.map (·.1)))(e:kN us k=some i)(e':wT k=some κ):o9 (xs.map (·.1)) κ=i:=by
 unfold kN at e
 rw [hk,e'] at e
 exact Option.some.inj e
theorem lc {xs:List iO}{κ:Ky}{j:Nat}(e:o9 (xs.map (·.1)) κ=some j):∃x,xs[j]?=some x∧x.1=κ:=by
 have:=tK e
 rw [List.getElem?_map] at this
 cases hx:xs[j]? with
 |none=>rw [hx] at this;cases this
 |some x=>rw [hx] at this;exact ⟨x,rfl,Option.some.inj this⟩
theorem jN {us:List T}{i:Option Nat}(e:kN us t=some i):∃κ,wT t=some κ:=let ⟨_,κ,_,e2,_⟩:=bc e;⟨κ,e2⟩
theorem xK:jw P .In AT:=fun A g σ s x x' t t' b Q E rm w q q' e k=>by
 obtain ⟨p,e1,e2⟩:=ar e
 obtain ⟨i,e3,e4⟩:=ar e2
 cases e4
 obtain ⟨κ,hk⟩:=jN e3
 obtain ⟨d,rfl,xs,n,dd,kk,r,r',_⟩:=q'.d e1
 obtain ⟨ad,rfl,hi,_⟩:=l6 hk q
 have f:=jq kk e3 hk
 refine wpAny_in_heap (tm rm.units) hi n dd ?_
 rw [show (atKey xs κ).isSome=i.isSome by
  rw [m8,f]
  cases i with
  |none=>rfl
  |some j=>obtain ⟨x,hx,_⟩:=lc f;rw [Option.bind_some,hx];rfl]
 exact k _
theorem u8:jw P .NotIn dY:=fun A g σ s x x' t t' b Q E rm w q q' e k=>by
 obtain ⟨c,e1,rfl⟩:=Option.map_eq_some_iff.mp e
 exact wo (xK A g σ s x x' t t' c _ E rm w q q' e1 fun tk=>⟨rfl,k tk⟩)
theorem wc {value slice:Expr}(hs:∀x y,subscripted slice false x y=operate [x,y] (getItem x y)):pX P (yf P value slice) idxD (RV P):=fun A env g σ s x x' t t' y Q E rm w q q' e hq=>by
 obtain ⟨p,e1,e2⟩:=ar e
 obtain ⟨i,e3,e4⟩:=ar e2
 obtain ⟨j,rfl,hv⟩:=ar e4
 obtain ⟨κ,hk⟩:=jN e3
 obtain ⟨d,rfl,xs,n,dd,kk,r,r',_⟩:=q.d e1
 obtain ⟨ad,rfl,hi,_⟩:=l6 hk q'
 have f:=jq kk e3 hk
 obtain ⟨z,hz,hz'⟩:=lc f
 obtain ⟨u,hu',hr⟩:=r'.get hv
 rw [List.getElem?_map,hz] at hu'
 cases hu'
 refine tail_any dd.typeIs slot_dict_getitem.lookup (wpAny_getItem_heap (tm rm.units) hi dd (p:=z.2) ?_ (hq _ _ g (.toks g s _) w hr)) (hs _ _)
 rw [m8,f,Option.bind_some,hz];rfl
theorem ak.idxD {a i:Expr}{pa pi:PE}{pos:Pos}(hs:∀x y,subscripted i false x y=operate [x,y] (getItem x y))(ha:ak P B C a pa (RX P))(hi:ak P B C i pi (RX P)):ak P B C (.Subscript a i pos) (p2 idxD pa pi) (RV P):=
 (ha.op2 hi.xy kq (wc hs)).map fun _ _ _ _ _=>Subscript_
theorem sH {f:T→Option Ky}:∀{ts:List T} {κs:List Ky} {t:T} {κ:Ky},kU.go f ts=some κs→f t=some κ→kU.go f (ts++[t])=some (κs++[κ])
 | [],_,t,κ,e,e'=>by cases e;rw [List.nil_append,uY,e'];rfl
 |x::ts,κs,t,κ,e,e'=>by
  obtain ⟨k,ks,e1,e2,e3⟩:=bc (show o2 (f x) (kU.go f ts) _=some κs from e)
  cases e3
  rw [List.cons_append,uY,e1,sH e2 e'];rfl
theorem j5 {xs:List iO}{us ts:List T}{k v:T}{κ:Ky}{i:Option Nat}{ad:Addr}{z:Value}(hk:e9 us=some (xs.map (·.1)))(nd:(xs.map (·.1)).Nodup)(hd:kN us k=some i)(hky:wT k=some κ)(r:aR P g h us (xs.map fun y=>Value.ref y.2.1))(r':aR P g h ts (xs.map (·.2.2)))(q:Rp P g h k (.ref ad))(q':Rp P g h v z):
  e9 (lO i k v us ts).1=some ((storedH xs κ ad z).map (·.1))∧aR P g h (lO i k v us ts).1 ((storedH xs κ ad z).map fun y=>Value.ref y.2.1)∧aR P g h (lO i k v us ts).2 ((storedH xs κ ad z).map (·.2.2)):=by
 have f:=jq hk hd hky
 have a:=m8 κ xs
 rw [f] at a
 cases i with
 |none=>
  rw [storedH_new a,List.map_append,List.map_append,List.map_append]
  exact ⟨sH hk hky,aR.append (aR.cons q aR.nil) r,aR.append (aR.cons q' aR.nil) r'⟩
 |some j=>
  obtain ⟨x,hx,hx'⟩:=lc f
  rw [Option.bind_some,hx] at a
  rw [storedH_old a,keys_map_putAt]
  obtain ⟨h1,h2⟩:=tn (z:=z) nd ⟨x,hx,hx'⟩
  exact ⟨hk,by rw [h2];exact r,by rw [h1];exact r'.set q' j⟩
theorem vZ {α:Type}{i:Option Nat}{k v:α}{ks vs:List α}(h:ks.length+1≤lim):(lO i k v ks vs).1.length≤lim:=by
 cases i with
 |none=>rw [lO,List.length_append];exact h
 |some j=>exact Nat.le_of_succ_le h
noncomputable def Pu (P:Pg)(F:T→T→T→Option T):Prop:=
 ∀A g σ s a xk xv t κ v y Q E,Rm A→bv P g s.heap σ→gS P g s.heap a t→eU P g s.heap κ xk→Rp P g s.heap v xv→F t κ v=some y→
  (∀h' tk,(∀b,b≠a→h'.get? b=s.heap.get? b)→(aO g s.heap g h'→gS P g h' a y)→Q () {s with heap:=h',toks:=tk})→wpAny P.M A (setItem (.ref a) xk xv) Q E s
theorem tq:Pu P dS:=fun A g σ s a xk xv t κ v y Q E rm w r rk rv e hq=>by
 obtain ⟨p,e1,e2⟩:=ar e
 obtain ⟨i,e3,e4⟩:=ar e2
 obtain ⟨hl,rfl⟩:=fg e4
 cases xZ e1
 obtain ⟨ky,hk⟩:=jN e3
 obtain ⟨xs,n,dd,kk,r1,r2,_⟩:=yy.is r
 obtain ⟨ad,rfl,hi,rk⟩:=l6 hk rk
 have nd:(xs.map (·.1)).Nodup:=let ⟨_,_,_,_,_,_,_,_,nd⟩:=dd;nd
 have hxl:xs.length≤sizeLine:=bj (by have:=r1.length;rw [List.length_map] at this;lia -abstractProof)
 refine wpAny_setItem_heap (tm rm.units) hi dd (fun h' dd' hs=>hq h' _ hs.2 fun kf=>?_) hxl
 obtain ⟨g1,g2,g3⟩:=j5 (v:=v) (z:=xv) kk nd e3 hk r1 r2 rk rv
 exact Em.back n dd' g1 (g2.mono kf) (g3.mono kf) (vZ hl)
theorem nF {prog:Program}{w:World}{A:Around}{E:Value→Shared→Prop}{s:Shared}{l:Addr}{items:Array Value}{n:Nat}{k:Int}{t:Tok}{v:Value}{Q:Unit→Shared→Prop}(hl:IsL s.heap l items n)(h0:0≤k)(hj:k < items.size)(hfit:k < 2 ^ 63)
  (hQ:Q () {s with heap:=s.heap.update l (Obj.mapSeq (·.setIfInBounds k.toNat v))}):wpAny (model prog w) A (setItem (.ref l) (.int k t) v) Q E s:=by
 have hT:s.TypeIs (.ref l) "list":=⟨_,hl,rfl⟩
 unfold setItem
 try with_reducible refine wpAny_holding ?_
 first |refine wpAny_bind (wpAny_pure ?_) |skip
 refine wpAny_bind (wpAny_sequenceKey hT (by decide) ?_)
 refine wpAny_bind (wpAny_callSpecial?_slot (name:=ofString "__setitem__") hT slot_list_setitem (wpAny_call_entry slot_list_setitem hT entry_list_setitem ?_ (args_list_setitem _ _ _)))
 show wpAny _ _ (Builtin.List.listSubscript? (.int k t) >>=_) _ _ s
 refine wpAny_bind (wpAny_listSubscript_int (fitsIndex_of h0 hfit) ?_)
 clear hfit
 obtain ⟨j,rfl⟩:=Int.eq_ofNat_of_zero_le h0
 have hj:j < items.size:=by lia -abstractProof
 show wpAny _ _ ((seqItemAt l j >>=fun r=>pure (r.map (j,·))) >>=_) _ _ s
 refine wpAny_bind (wpAny_bind (wpAny_seqItemAt hl rfl (wpAny_pure ?_)))
 rw [Array.getElem?_eq_getElem hj]
 show wpAny _ _ (setSeqItemAt l j v >>=_) _ _ s
 refine wpAny_bind (wpAny_setSeqItemAt hl rfl ?_)
 first
  |exact wpAny_bind (wpAny_pure (wpAny_pure ⟨.none,rfl,wpAny_pure hQ⟩))
  |exact wpAny_pure ⟨.none,rfl,wpAny_pure hQ⟩
theorem vY:Pu P sg:=fun A g σ s a xk xv t κ v y Q E rm w r rk rv e hq=>by
 obtain ⟨xs,i,e1,e2,e3⟩:=bc e
 obtain ⟨c,rfl⟩:=cz e3
 obtain ⟨c1,c2⟩:=Bool.and_eq_true_iff.mp c
 have c1:=of_decide_eq_true c1
 have c2:=of_decide_eq_true c2
 cases eh e1
 obtain ⟨vs,n,a1,a3,a2⟩:=r
 obtain ⟨p,rfl⟩:=rk.i e2
 have hz:=a2.size
 refine nF a1 c1 (by rw [hz];exact c2) (Int.lt_trans c2 (tH a3)) (hq _ s.toks (Heap.SameBut.update s.heap a (Obj.mapSeq (·.setIfInBounds i.toNat xv))).2 fun kf=>⟨_,_,IsL.update a1 (·.setIfInBounds i.toNat xv),by rw [List.length_set];exact a3,?_⟩)
 rw [Array.toList_setIfInBounds]
 exact (a2.mono kf).set (rv.mono kf) i.toNat
theorem aN.put {i e:Expr}{y:Str}{k:NameKind}{np p pos:Pos}{pi pe:PE}{j:Nat}{F:T→T→T→Option T}(o:Pu P F)(hv:bq C j=true)(ht:B.tab[j]?=some (some (y,k)))(hw:∀env,swapsWith e (some (.Subscript (.Name y np) i p)) pos.line env=pure false)(h2:ak P B C i pi (RX P))(h3:ak P B C e pe (RV P)):
  aN P B C fr C (.Assign [.Subscript (.Name y np) i p] e pos) (s6 j F pi pe):=fun n A env g ρ σ s kk Q E X hb hq hr=>by
 refine wpAny_Assign_Subscript (h3 n A env g ρ σ s _ _ E X hb fun z s₁ g₁ v σ₁ e₁ p₁ w₁ r₁=>?_) (hw env)
 have X₁:=X.post p₁ w₁
 have e₁:s6 j F pi pe (P.cx n) ρ σ kk=(match bC ρ j with |some x=>pi (P.cx n) ρ σ₁ fun κ σ=>up (F x κ v) σ fun y σ=>kk (ρ.set j (some y)) σ |none=>.bad):=e₁
 cases e0:bC ρ j with
 |none=>rw [e0] at e₁;exact absurd e₁ hb
 |some t=>
  rw [e0] at e₁
  have hb₁:=fun q=>hb (e₁.trans q)
  obtain ⟨u,va,q⟩:=X₁.env.var j _ t ht e0
  unfold bz at q
  rw [hv] at q
  obtain ⟨a,rfl,oi,r⟩:=q
  refine bp X₁ ht va (h2 n A env g₁ ρ σ₁ s₁ _ _ E X₁ hb₁ fun xk s₂ g₂ κ σ₂ e₂ p₂ w₂ r₂=>?_)
  obtain ⟨y',e'⟩:=bY fun q=>hb₁ (e₂.trans q)
  have X₂:=X₁.post p₂ w₂
  refine o A g₂ σ₂ s₂ a xk z t κ v y' _ _ X.rm w₂ (r.mono (p₂.k w₁) fun o e=>p₂.keep a o e (X₁.g.O a ⟨j,oi⟩).2.2) (j0.y r₂) (Rp.mono (p₂.k w₁) r₁) e' fun h' tk hs hy=>?_
  obtain ⟨pS,X'⟩:=kS X₂ hv (by rw [e0];exact fun q=>by cases q) (by rw [p₂.o];exact oi) (va.move fun b m o e=>p₂.keep b o e (X₁.env.own b m).2.2.1) hs hy tk
  exact hq _ _ _ σ₂ (e₁.trans (e₂.trans (by rw [e'];rfl))) ((p₁.trans p₂).toS.trans pS) X'
theorem oJ {g:Gh}{σ:Sg}{s:Shared}(G:rM P)(w:bv P g s.heap σ):(s.heap.objs.size==sysModules)=false:=by
 obtain ⟨o,_,_,e,_⟩:=G.g
 have:=Heap.lt_size (w.base _ _ e).2
 exact beq_eq_false_iff_ne.mpr fun q=>by rw [q] at this;exact absurd this (by decide)
theorem ak.dic {pos:Pos}:ak P B C (.Dict [] [] pos) uF (RN P):=fun n A env g ρ σ s k Q E X hb hq=>by
 refine wpAny_Dict_empty (hq _ _ g _ σ rfl (.push _ s.toks) (X.g.push _) ?_)
 obtain ⟨h1,h2,h3⟩:=dj X.g
 exact ⟨_,rfl,aF _,h1,h2,h3,oJ X.good X.g,_,[],bI _,⟨⟨rfl,rfl,rfl⟩,⟨_,rfl⟩,⟨[],rfl,rfl,.nil⟩,Nat.zero_le _⟩,rfl,rfl⟩
end
end
end Mine
namespace Mine
noncomputable section
open PySem PyProof.Rows PySem.SeqAt
inductive bu (P:Pg) (c:Nat) (ms:List (Str×Nat)):Prop
 |mk (N:Addr) (mN:Str→Option Value) (K:ClsAt P.h₀ (P.cls c) N mN) (g1:mN "__getattribute__"=none) (g2:mN "__getattr__"=none) (g3:mN "__setattr__"=none) (g4:∀x∈bV c,mN x=none∧typeLookup (.type "object") x=pure none)
  (g5:∀p∈ms,mN p.1=some (.ref (P.fnA p.2))∧(∃y,typeLookup (.type "object") p.1=pure y)∧∃o,P.h₀.get? (P.fnA p.2)=some o∧o.cls=.type "function")
noncomputable abbrev CC (P:Pg)(h:Heap):Prop:=∀a o,P.h₀.get? a=some o→h.get? a=some o
section
variable {P:Pg} {B:bB} {C C':Ct} {fr:Bool} {n c i f:Nat} {A:Around} {env:Env} {g g':Gh} {ρ:aH} {σ:Sg} {s s':Shared} {h h':Heap} {t:T} {x:Value} {ms:List (Str×Nat)} {name:Str} {m:Str→Option Value} {dx a:Addr} {us:List Value} {E:Value→Shared→Prop}
theorem bv.bs (w:bv P g h σ):CC P h:=fun a o e=>(w.base a o e).2
theorem dG.inst (i:dG P h c m dx a):h.Inst a (P.cls c) m:=let ⟨o,e,k,n,ne⟩:=i;⟨o,e,k.cls,k.no,.inr ⟨dx,k.dict,ne,n⟩⟩
theorem jV {u:Value}{Q:Value→Shared→Prop}(O:bu P c ms)(hn:name∈bV c)(bs:CC P s.heap)(i:dG P s.heap c m dx a)(hm:m name=some u)(hu:handedOut u=pure u)(hq:Q u {s with toks:=s.toks+1}):wpAny P.M A (getAttr (.ref a) name true) Q E s:=by
 obtain ⟨N,mN,K,g1,g2,g3,g4,g5⟩:=O
 obtain ⟨nm,q,bs',sn,sub,col,dd,k0,k1,k2,k3,k5,hC⟩:=(K.keeps bs).obj
 exact load_attr (h:=s.heap) hC (K.keeps bs).ns g1 (g4 name hn).1 (g4 name hn).2 i.inst hm hu hq
theorem wu {pl:Sem Bool}{Q:Value×List Value→Shared→Prop}(O:bu P c ms)(hm:(name,f)∈ms)(hn:name∉bV c)(bs:CC P s.heap)(i:dG P s.heap c m dx a)(k:rL c m us)(hq:Q (.ref (P.fnA f),[.ref a]) s):wpAny P.M A (getMethod (.ref a) name pl) Q E s:=by
 obtain ⟨N,mN,K,g1,g2,g3,g4,g5⟩:=O
 obtain ⟨i1,⟨y,hy⟩,oI,i2,i3⟩:=g5 _ hm
 obtain ⟨nm,q,bs',sn,sub,col,dd,k0,k1,k2,k3,k5,hC⟩:=(K.keeps bs).obj
 exact method_of (h:=s.heap) hC (K.keeps bs).ns g1 g2 i1 (bs _ _ i2) i3 hy i.inst (k.no name hn) hq
theorem Rp.handed (r:Rp P g h t x):handedOut x=pure x:=by
 have k:∀{y:Value},x=y→handedOut y=pure y→handedOut x=pure x:=fun e h=>e▸h
 cases t with
 |none=>exact k r rfl
 |bool=>exact k r rfl
 |int=>exact let ⟨_,e⟩:=r;k e rfl
 |str=>exact let ⟨_,_,e⟩:=r;k e rfl
 |scr=>exact let ⟨_,_,e,_,_,_⟩:=r;k e rfl
 |spot=>exact k r rfl
 |self=>exact (show False from r).elim
 |_=>exact let ⟨_,e,_,_⟩:=r;k e rfl
theorem pO {α:Type}{c:Bool}{o:Option α}{y:α}(h:(bif c then o else none)=some y):c=true∧o=some y:=by
 cases c with
 |true=>exact ⟨rfl,h⟩
 |false=>cases h
theorem xY {ts:List T}(e:Ed c t=some ts):t=.obj c ts:=by
 cases t with
 |obj c' us=>obtain ⟨h,rfl⟩:=cz e;rw [Nat.eq_of_beq_eq_true h]
 |_=>cases e
theorem ua (O:bu P c ms)(hn:(bV c)[i]?=some name):yw P (Cz P fun x=>getAttr x name true) (m9 c i) (RV P):=fun A env g σ s x t y Q E rm w q e hq=>by
 obtain ⟨ts,e1,e2⟩:=ar e
 cases xY e1
 obtain ⟨a,rfl,f,dx,m,us,fd,ih,k,r⟩:=q.v fun _ h=>h
 obtain ⟨u,hu,hr⟩:=r.get e2
 exact jV O (List.mem_of_getElem? hn) w.bs ih (k.at_ i name u hu hn) hr.handed (hq u _ g (.toks g s _) w hr)
theorem sY {M:Model}{o:Expr}{attr:Str}{pos:Pos}{Q:Value→Shared→Prop}(hbase:attributeBase o attr env (eval o env)=eval o env)(hlet:∀x r,letTemporaryGo o x r=pure ())
  (h:wpAny M A (eval o env) (fun o s₁=>wpAny M A (getAttr o attr true) Q E s₁) E s):wpAny M A (eval (.Attribute o attr pos) env) Q E s:=by
 rw [arm_eval_Attribute,hbase]
 refine wpAny_bind (wpAny_mono h (fun o s₁ h₁=>wpAny_bind (wpAny_standAt (wpAny_bind (wpAny_holding (wpAny_mono h₁ (fun r s₂ h₂=>?_) fun _ _ y=>y))))) fun _ _ y=>y)
 rw [hlet]
 exact wpAny_bind (wpAny_pure (wpAny_pure h₂))
theorem ak.attr {o:Expr}{pos:Pos}{p:PE}(O:bu P c ms)(hn:(bV c)[i]?=some name)(hbase:∀env,attributeBase o name env (eval o env)=eval o env)(hlet:∀x r,letTemporaryGo o x r=pure ())(h:ak P B C o p (RV P)):ak P B C (.Attribute o name pos) (p1 (m9 c i) p) (RV P):=
 (h.vx.xy.op1 kq (ua O hn)).map fun _ env _ _ _=>sY (hbase env) hlet
theorem bz.self {i:Nat}{u:Value}(q:bz P C g h i .self u):u=.ref g.sa:=by
 unfold bz at q
 cases e:bq C i with
 |true=>rw [e] at q;exact let ⟨_,_,_,r⟩:=q;(show False from r).elim
 |false=>rw [e] at q;exact q.elim (fun r=>(show False from r).elim) (·.2.2.2)
theorem ak.rat {y:Str}{k:NameKind}{np pos:Pos}(O:bu P c ms)(hn:(bV c)[i]?=some name)(ho:bq C 0=false)(ht:B.tab[0]?=some (some (y,k))):ak P B C (.Attribute (.Name y np) name pos) (eP c i) (RV P):=fun n A env g ρ σ s kk Q E X hb hq=>by
 obtain ⟨u,e⟩:=bY hb
 obtain ⟨t,e0,e1⟩:=ar e
 obtain ⟨v,va,q⟩:=X.env.var 0 _ t ht e0
 unfold bz at q
 rw [ho] at q
 have ek:eP c i (P.cx n) ρ σ kk=kk u σ:=by unfold eP;rw [e];rfl
 refine sY rfl (fun _ _=>rfl) (bp X ht va ?_)
 rcases q with r | ⟨_,_,rfl,rfl⟩
 ·exact ua O hn A env g σ s v t u Q E X.rm X.g (.inl r) (by cases t<;>first |exact e1 |exact (show False from r).elim) fun x s' g' p w r=>hq x s' g' u σ ek p w r
 ·obtain ⟨p,e2,e3⟩:=ar e1
  obtain ⟨b,e4⟩:=pO e3
  obtain ⟨b1,b2⟩:=Bool.and_eq_true_iff.mp b
  obtain ⟨dx,m,us,ih,z,z',ne,k,l,sh,_,_⟩:=X.g.self p.1 p.2 e2
  obtain rfl:=Nat.eq_of_beq_eq_true b1
  have hi:i < us.length:=by rw [l];exact (List.getElem?_eq_some_iff.mp e4).1
  have r:=sh i _ u (List.getElem?_eq_getElem hi) e4 ((Bool.not_eq_true' _).mp b2)
  exact jV O (List.mem_of_getElem? hn) X.g.bs ih (k.at_ i name _ (List.getElem?_eq_getElem hi) hn) r.handed (hq _ _ g u σ ek (.toks g s _) X.g r)
theorem rN {M:Model}{o:Expr}{apos pos:Pos}{args:List Expr}{Q:Value→Shared→Prop}(hbase:attributeBase o name env (eval o env)=eval o env)
  (hfew:methodCallForm (args.length+([]:List Keyword).length) (backTo pos (starEach args env)) (backToKw pos (keywordEach [] env))=true)(hline:(apos.endLine==pos.line)=true)
  (h:wpAny M A (eval o env) (fun ov s₁=>∀pl,wpAny M A (getMethod ov name pl) (fun fv s₂=>wpAny M A (callWith pos fv.1 fv.2 (backTo pos (starEach args env)) []) Q E s₂) E s₁) E s):
  wpAny M A (eval (.Call (.Attribute o name apos) args [] pos) env) Q E s:=by
 rw [arm_eval_Call,hbase]
 refine wpAny_bind (wpAny_mono h (fun ov s₁ h₁=>?_) fun _ _ e=>e)
 refine wpAny_bind (wpAny_standAt ?_)
 have hpos:methodCallPos true o env apos pos=pure pos:=by unfold methodCallPos;simp [hline]
 unfold methodCall
 rw [hfew]
 refine wpAny_bind (wpAny_holding ?_)
 exact wpAny_mono (h₁ _) (fun fv s₂ h₂=>wpAny_bind (wpAny_of_eq hpos h₂)) fun _ _ e=>e
noncomputable def Ev (c f:Nat)(name:Str)(apos pos:Pos)(k:Nat):Bool:=!(bV c).contains name&&(rP f&&(!kM f&&((apos.endLine==pos.line)&&Nat.ble k 20)))
structure Ej (c f:Nat) (name:Str) (apos pos:Pos) (k:Nat):Prop where
 n:name∉bV c
 m:rP f=true
 f:kM f=false
 l:(apos.endLine==pos.line)=true
 k:k≤20
theorem wA {apos pos:Pos}{k:Nat}(h:Ev c f name apos pos k=true):Ej c f name apos pos k:=by
 obtain ⟨h1,h⟩:=Bool.and_eq_true_iff.mp h
 obtain ⟨h2,h⟩:=Bool.and_eq_true_iff.mp h
 obtain ⟨h3,h⟩:=Bool.and_eq_true_iff.mp h
 obtain ⟨h4,h⟩:=Bool.and_eq_true_iff.mp h
 exact ⟨(fun q=>by rw [List.contains_iff_mem.mpr q] at h1;cases h1),h2,(Bool.not_eq_true' _).mp h3,h4,Nat.le_of_ble_eq_true h⟩
theorem few {es:List Expr}{pos:Pos}(hp:∀q∈starEach es env,q.1=false)(hl:es.length≤20):methodCallForm (es.length+([]:List Keyword).length) (backTo pos (starEach es env)) (backToKw pos (keywordEach [] env))=true:=by
 have h1:(backTo pos (starEach es env)).all (fun x=>!x.1)=true:=List.all_eq_true.mpr fun p hp'=>by rw [bF hp p hp'];rfl
 unfold methodCallForm
 rw [h1]
 show (true&&true&&decide (es.length+0+0 < 30))=true
 simp;lia -abstractProof
theorem n7 {es:List Expr}{ps:PL}{apos pos:Pos}{F:fY}{k:PK T}{Q:Value→Shared→Prop}(O:bu P c ms)(hm:(name,f)∈ms)(hf:P.Ψ f=some F)(me:Ej c f name apos pos es.length)(h':f0 P B C es ps)(X:At P B C n A env g ρ σ s)(i:dG P s.heap c m dx a)(kf:rL c m us)(hr:Rp P g s.heap t (.ref a)∨(t=.self∧a=g.sa))
  (hb:(ps (P.cx n) ρ σ fun ts σ=>nH ((P.cx n).call f (t::ts) σ) k)≠.bad)(hq:∀x s' g' u σ',(ps (P.cx n) ρ σ fun ts σ=>nH ((P.cx n).call f (t::ts) σ) k)=k u σ'→aE g s g' s'→bv P g' s'.heap σ'→Rp P g' s'.heap u x→Q x s')(pl:Sem Bool):
  wpAny P.M A (getMethod (.ref a) name pl) (fun fv s₂=>wpAny P.M A (callWith pos fv.1 fv.2 (backTo pos (starEach es env)) []) Q E s₂) E s:=by
 obtain ⟨o,w1,w2,_⟩:=X.good.fn f F hf
 refine wu O hm me.n X.base i kf (Calls.callWith_function (fd:=P.fd f) (o:=o) (gL (bF (h'.pl env)) (h'.sim pos n A env g ρ σ s _ _ E X hb fun xs s₁ g₁ ts σ₁ e p w r=>⟨⟨(w.base _ _ w1).2,w2⟩,?_⟩)))
 obtain ⟨u,σ₂,ec⟩:=wf fun q=>hb (e.trans q)
 refine q0 (X.post p w) (ts:=t::ts) (by rw [me.m];exact ⟨_,_,_,_,rfl,rfl,hr.imp (·.mono (p.k X.g)) (fun ⟨a,b⟩=>⟨a,by rw [p.sa,b]⟩),r⟩) ec fun x s' g' p' w' r'=>hq x s' g' u σ₂ (e.trans (by rw [ec,AH])) (p.trans p') w' (by rw [me.f] at r';exact r')
theorem ak.meth {o:Expr}{es:List Expr}{p:PE}{ps:PL}{apos pos:Pos}{F:fY}(O:bu P c ms)(hm:(name,f)∈ms)(hf:P.Ψ f=some F)(me:Ev c f name apos pos es.length=true)(hbase:∀env,attributeBase o name env (eval o env)=eval o env)(h:ak P B C o p (RV P))(h':f0 P B C es ps):
  ak P B C (.Call (.Attribute o name apos) es [] pos) (pU c f p ps) (RV P):=
 have me:=wA me
 (h.bind (N:=fun A env x Q E s=>∀pl,wpAny P.M A (getMethod x name pl) (fun fv s₂=>wpAny P.M A (callWith pos fv.1 fv.2 (backTo pos (starEach es env)) []) Q E s₂) E s) (F:=fun cx ρ k t σ=>gd (Ed c t).isSome (ps cx ρ σ fun ts σ=>nH (cx.call f (t::ts) σ) k)) kq fun n A env g g₁ ρ σ s s₁ x t k Q E p X r hb hq=>by
  have hk:=kg hb
  rw [hk] at hb hq
  obtain ⟨ts,e⟩:=Option.isSome_iff_exists.mp hk
  cases xY e
  obtain ⟨a,rfl,_,dx,m,us,_,ih,kf,_⟩:=id r
  exact n7 O hm hf me h' X ih kf (.inl r) hb hq).map fun A env Q E s h=>rN (hbase env) (few (h'.pl env) me.k) me.l h
theorem pf (h:uW c ρ σ=true):bC ρ 0=some .self∧∃ts,σ.self=some (c,ts):=by
 unfold uW at h
 cases e:bC ρ 0 with
 |none=>rw [e] at h;cases h
 |some t=>
  rw [e] at h
  cases t with
  |self=>
   refine ⟨rfl,?_⟩
   cases e':σ.self with
   |none=>simp only [e'] at h;cases h
   |some p=>simp only [e'] at h;exact ⟨p.2,by rw [←Nat.eq_of_beq_eq_true h]⟩
  |_=>cases h
theorem ak.rmeth {y:Str}{kd:NameKind}{np apos pos:Pos}{es:List Expr}{ps:PL}{F:fY}(O:bu P c ms)(hm:(name,f)∈ms)(hf:P.Ψ f=some F)(me:Ev c f name apos pos es.length=true)(ht:B.tab[0]?=some (some (y,kd)))(h':f0 P B C es ps):
  ak P B C (.Call (.Attribute (.Name y np) name apos) es [] pos) (su c f ps) (RV P):=fun n A env g ρ σ s k Q E X hb hq=>by
 have me:=wA me
 unfold su at hb hq
 have hs:=kg hb
 rw [hs] at hb hq
 obtain ⟨e0,ts,e1⟩:=pf hs
 obtain ⟨v,va,q⟩:=X.env.var 0 _ _ ht e0
 cases q.self
 obtain ⟨dx,m,us,ih,_,_,_,kf,_⟩:=X.g.self c ts e1
 exact rN rfl (few (h'.pl env) me.k) me.l (bp X ht va (n7 O hm hf me h' X ih kf (.inr ⟨rfl,rfl⟩) hb hq))
end
section
variable {P:Pg} {B:bB} {C C':Ct} {fr:Bool} {n c i f:Nat} {A:Around} {env:Env} {g g' g₂:Gh} {ρ:aH} {σ σ' σ₂:Sg} {s s' s₂:Shared} {h h':Heap} {t:T} {x:Value} {ms:List (Str×Nat)} {name:Str} {m:Str→Option Value} {dx a:Addr} {us:List Value} {E:Value→Shared→Prop} {ts:List T}
theorem b7 (k:∀a o,h.get? a=some o→h'.get? a=some o)(a:Addr)(e:h'.get? a=none):h.get? a=none:=by
 cases q:h.get? a with
 |none=>rfl
 |some o=>exact (an (k a o q) e).elim
theorem aR.of:∀{us:List Value} {ts:List T},us.length=ts.length→(∀(i:Nat) (v:Value) (t:T),us[i]?=some v→ts[i]?=some t→Rp P g h t v)→aR P g h ts us
 | [],[],_,_=>rfl
 |v::us,t::ts,l,k=>⟨v,us,rfl,k 0 v t rfl rfl,aR.of (Nat.succ.inj l) fun i=>k (i+1)⟩
theorem bv.make {x:Addr}(w:bv P g h σ)(m:Heap.MadeObj h h' x dx (P.cls c)):bv P {g with Z:=fun y=>g.Z y∨y=x∨y=dx,sa:=x} h' ⟨σ.spot,some (c,[])⟩:=by
 obtain ⟨o,hx,hc,hnc,hd⟩:=m.inst
 have hdd:=m.dict o hx
 obtain ⟨ns,ne⟩:h'.Ns1 dx (fun _=>none)∧dx≠x:=by
  rcases hd with ⟨q,_⟩ | ⟨d',q,hne,hns⟩
  ·rw [q] at hdd;cases hdd
  ·rw [q] at hdd;cases hdd;exact ⟨hns,hne⟩
 have lv:∀a,h.get? a≠none→h'.get? a≠none:=fun a l e=>l (b7 m.keeps a e)
 have nn:∀a,h.get? a≠none→a≠x∧a≠dx:=fun a l=>⟨fun q=>l (q▸m.newX),fun q=>l (q▸m.newD)⟩
 have ld:h'.get? dx≠none:=let ⟨_,_,_,e,_⟩:=ns;an e
 have sp:=nn _ (w.Z _ w.spot.2.1).1
 exact ⟨fun a o e=>⟨(w.base a o e).1,m.keeps a o (w.base a o e).2⟩,fun a f=>lv a (w.F a f),
  fun a z=>z.elim (fun z=>⟨lv a (w.Z a z).1,(w.Z a z).2⟩) fun z=>z.elim (fun e=>by rw [e];exact ⟨an hx,fun f=>w.F _ f m.newX⟩) fun e=>by rw [e];exact ⟨ld,fun f=>w.F _ f m.newD⟩,
  fun a q=>⟨lv a (w.O a q).1,(w.O a q).2.1,fun z=>z.elim (w.O a q).2.2 fun z=>z.elim (nn a (w.O a q).1).1 (nn a (w.O a q).1).2⟩,
  w.oo,⟨let ⟨t,n,e⟩:=w.spot.1;⟨t,n,m.keeps _ _ e⟩,.inl w.spot.2.1,fun q=>nomatch q⟩,
  fun c' ts e=>by cases e;exact ⟨dx,_,[],⟨o,hx,⟨hc,hdd,hnc⟩,ns,ne⟩,.inr (.inl rfl),.inr (.inr rfl),⟨fun q=>sp.2 q.symm,fun q=>sp.1 q.symm⟩,⟨fun _ _=>rfl,fun _ _ _ q=>nomatch q⟩,rfl,(fun _ _ _ q=>nomatch q),(fun _ _ _ q=>nomatch q),fun _ _ _ q=>nomatch q⟩⟩
theorem y5 {x:Addr}(w:bv P g s.heap σ)(hσ:σ.self=none)(m:Heap.MadeObj s.heap h' x dx (P.cls c))(p₂:aE {g with Z:=fun y=>g.Z y∨y=x∨y=dx,sa:=x} {s with heap:=h'} g₂ s₂)(w₂:bv P g₂ s₂.heap σ₂)(hs:σ₂.self=some (c,ts)):
  ∃g',aE g s g' s₂∧bv P g' s₂.heap ⟨σ₂.spot,none⟩∧Rp P g' s₂.heap (.obj c ts) (.ref x):=by
 have mb:=b7 m.keeps
 have b:∀a,s₂.heap.get? a=none→s.heap.get? a=none:=fun a e=>mb a (p₂.back a e)
 have fn:∀a,g₂.F a→g.F a∨s.heap.get? a=none:=fun a f=>(p₂.Fn a f).imp_right (mb a)
 have zn:∀a,g₂.Z a→a=g.sp∨s.heap.get? a=none:=fun a z=>(p₂.Zn a z).elim (fun z=>z.elim (fun z=>.inl (w.spot.2.2 hσ a z)) fun z=>.inr (z.elim (fun e=>e▸m.newX) fun e=>e▸m.newD)) fun e=>.inr (mb a e)
 have hsp:g₂.sp=g.sp:=p₂.sp
 refine ⟨⟨fun y=>g₂.F y∨(g₂.Z y∧s.heap.get? y=none),g.Z,g.o,g.sp,g.sa⟩,⟨St.trans ⟨h',s.toks,rfl⟩ p₂.st,fun a o e z=>p₂.keep a o (m.keeps a o e) fun q=>q.elim z fun q=>q.elim (fun q=>an e (q▸m.newX)) fun q=>an e (q▸m.newD),b,fun a f=>.inl (p₂.F a f),fun a f=>f.elim (fn a) fun q=>.inr q.2,fun a z=>.inl z,rfl,rfl,rfl⟩,
  ⟨fun a o e=>⟨.inl (w₂.base a o e).1,(w₂.base a o e).2⟩,fun a f=>f.elim (w₂.F a) fun q=>(w₂.Z a q.1).1,fun a z=>⟨fun e=>(w.Z a z).1 (b a e),fun f=>f.elim (fun f=>(fn a f).elim (w.Z a z).2 (w.Z a z).1) fun q=>(w.Z a z).1 q.2⟩,
   fun a q=>⟨fun e=>(w.O a q).1 (b a e),fun f=>f.elim (fun f=>(fn a f).elim (w.O a q).2.1 (w.O a q).1) fun z=>(w.O a q).1 z.2,(w.O a q).2.2⟩,w.oo,⟨let ⟨t,n,e⟩:=w₂.spot.1;⟨t,n,hsp▸e⟩,w.spot.2.1,fun _=>w.spot.2.2 hσ⟩,fun _ _ q=>nomatch q⟩,?_⟩
 obtain ⟨dx',m',us,ih,z,z',ne,k,l,sh,ow,_⟩:=w₂.self c ts hs
 have sa:g₂.sa=x:=p₂.sa
 have nw:∀a,g₂.Z a→a≠g₂.sp→s.heap.get? a=none:=fun a z q=>(zn a z).resolve_left (hsp▸q)
 refine ⟨x,rfl,.inr (sa▸⟨z,nw _ z ne.2⟩),dx',m',us,.inr ⟨z',nw _ z' ne.1⟩,sa▸ih,k,aR.of l fun i v t h1 h2=>?_⟩
 have kf:aO g₂ s₂.heap ⟨fun y=>g₂.F y∨(g₂.Z y∧s.heap.get? y=none),g.Z,g.o,g.sp,g.sa⟩ s₂.heap:=⟨fun a f=>⟨.inl f,fun _ e=>e⟩,hsp.symm⟩
 cases ho:gG c i with
 |false=>exact (sh i v t h1 h2 ho).mono kf
 |true=>
  obtain ⟨a,rfl,za,na,ra⟩:=ow i v t h1 h2 ho
  exact (ra.mono kf fun _ e=>e).rp (.inr ⟨za,nw a za na.2.2⟩)
theorem y6 {o:cc}{k:PK T}(hb:qA c o k≠.bad):∃σ ts,o=.ret .none σ∧σ.self=some (c,ts)∧qA c o k=k (.obj c ts) ⟨σ.spot,none⟩:=by
 cases o with
 |ret t σ=>
  unfold qA at hb ⊢
  have h1:=jU hb
  obtain rfl:t=.none:=by cases t<;>first |rfl |cases h1
  cases e:σ.self with
  |none=>simp only [e] at hb;exact absurd rfl hb
  |some p=>
   simp only [e,h1,cond_true] at hb ⊢
   have h2:=jU hb
   obtain rfl:=Nat.eq_of_beq_eq_true h2
   exact ⟨σ,p.2,rfl,e,by rw [h2];rfl⟩
 |_=>exact absurd (by with_unfolding_all rfl) hb
theorem ak.new {y:Str}{e:Expr}{es:List Expr}{ps:PL}{p pos:Pos}(O:bu P c ms)(hi:(ofString "__init__",f)∈ms)(hf:(rP f&&!kM f)=true)(hg:P.mg y=some (.ref (P.cls c)))(hx:B.sc.names.lookup y=some .globalImplicit)(hd:(y==("__debug__":Str))=false)
  (hs:∀env,starEach (e::es) env=(false,eval e env)::starEach es env)(h:f0 P B C (e::es) ps):ak P B C (.Call (.Name y p) (e::es) [] pos) (uE c f ps) (RV P):=fun n A env g ρ σ s k Q E X hb hq=>by
 obtain ⟨N,mN,K,_,_,_,_,g5⟩:=O
 obtain ⟨i1,_,oI,i2,i3⟩:=g5 _ hi
 refine Call_Name rfl (X.glob hx hd hg (callWith_cls (e:=e) (rest:=es) K (h.sim pos n A env g ρ σ s _ _ E X hb fun xs s₁ g₁ ts σ₁ e₁ p₁ w₁ r₁=>⟨w₁.bs,?_⟩) (hs env) ?_))
 ·have hb₁:=fun q=>hb (e₁.trans q)
  cases hσ:σ₁.self with
  |some q=>simp only [hσ] at hb₁;exact (hb₁ trivial).elim
  |none=>
   simp only [hσ] at hb₁ e₁
   obtain ⟨σ₂,ts',ec,h2,h3⟩:=y6 hb₁
   obtain ⟨nm,q,bs,sn,sub,col,dd,k0,k1,k2,k3,k5,hC⟩:=(K.keeps w₁.bs).obj
   refine wpAny_call_obj_init (h:=s₁.heap) PySem.F.objNew hC (K.keeps w₁.bs).ns i1 (w₁.bs _ _ i2) i3 fun h' x dx m=>?_
   obtain ⟨f1,f2⟩:=Bool.and_eq_true_iff.mp hf
   have f2:=(Bool.not_eq_true' _).mp f2
   refine wpAny_call (codeAny_mono (X.call n (Nat.le_refl n) f (A.under (.builtin "type.__call__" ⟨.ref (P.cls c)::xs,[]⟩)) (.self::ts) (.ref x::xs) _ _ {s₁ with heap:=h'} .none σ₂ (fun r s'=>r=.none∧Q (.ref x) s') E ?_ (w₁.make m) ?_ ec fun u s' g' p' w' r'=>?_) fun r s' q=>?_)
   ·exact ⟨by have:=X.room.1;show A.depth+1+2 * n+9 < _;lia -abstractProof,by have:=X.room.2.1;show A.units+1+20 * n+190 < _;lia -abstractProof,X.room.2.2⟩
   ·rw [f1];exact ⟨_,_,_,_,rfl,rfl,.inr ⟨rfl,rfl⟩,aR.mono (g:=g₁) (g':={g₁ with Z:=fun y=>g₁.Z y∨y=x∨y=dx,sa:=x}) (h:=s₁.heap) (h':=h') ⟨fun a f=>⟨f,m.keeps a⟩,rfl⟩ r₁⟩
   ·rw [f2] at r'
    obtain ⟨g₂,p₂,w₂,r₂⟩:=y5 w₁ hσ m p' w' h2
    exact ⟨r',hq _ _ g₂ _ _ (e₁.trans h3) (p₁.trans p₂) w₂ r₂⟩
   ·match r,q with
    |.ok (.ret u),q=>exact q
    |.ok .next,q=>exact q.elim
    |.ok .brk,q=>exact q.elim
    |.ok .cont,q=>exact q.elim
    |.error u,q=>exact q
 ·refine List.any_eq_false.mpr fun q hq'=>?_
  rw [bF (fun q hq=>h.pl env q (by rw [hs];exact List.mem_cons_of_mem _ hq)) q hq'];decide
inductive dB (P:Pg) (g:Gh) (h:Heap) (c:Nat) (name:Str) (t:T) (a:Addr):Prop
 |mk (dx:Addr) (m:Str→Option Value) (ih:dG P h c m dx g.sa) (e:m name=some (.ref a)) (z:g.Z a) (ne:a≠g.sp) (z1:g.Z g.sa∧g.sa≠g.sp) (z2:g.Z dx∧dx≠g.sp) (r:gS P g h a t)
theorem dB.keep (o:dB P g h c name t a)(kf:aO g h g' h')(hs:g'.sa=g.sa)(z:∀a,a≠g.sp→g.Z a→g'.Z a∧∀o,h.get? a=some o→h'.get? a=some o):dB P g' h' c name t a:=by
 obtain ⟨dx,m,ih,e,za,ne,⟨z1,n1⟩,⟨z2,n2⟩,r⟩:=o
 have a1:=z _ n1 z1
 have a2:=z _ n2 z2
 have a3:=z _ ne za
 have sp:=kf.sp
 exact ⟨dx,m,hs▸ih.mono a1.2 a2.2,e,a3.1,sp▸ne,hs▸sp▸⟨a1.1,n1⟩,sp▸⟨a2.1,n2⟩,r.mono kf a3.2⟩
theorem dB.o (o:dB P g h c name t a):gS P g h a t:=let ⟨_,_,_,_,_,_,_,_,r⟩:=o;r
theorem dB.y (o:dB P g h c name t a):eU P g h t (.ref a):=.inr ⟨a,rfl,o.o⟩
theorem lG (hs:dD c i ρ σ=some t):bC ρ 0=some .self∧gG c i=true∧∃ts,σ.self=some (c,ts)∧ts[i]?=some t:=by
 obtain ⟨b,e⟩:=pO hs
 obtain ⟨b1,b2⟩:=Bool.and_eq_true_iff.mp b
 obtain ⟨e0,ts,e1⟩:=pf b1
 rw [e1] at e
 exact ⟨e0,b2,ts,e1,e⟩
theorem lE (e:σ'.self=σ.self)(hs:dD c i ρ σ=some t):dD c i ρ σ'=some t:=by
 unfold dD uW at *
 rw [e];exact hs
theorem vP (w:bv P g h σ)(hn:(bV c)[i]?=some name)(hs:dD c i ρ σ=some t):∃a,dB P g h c name t a:=by
 obtain ⟨e0,ho,ts,e1,e2⟩:=lG hs
 obtain ⟨dx,m,us,ih,z,z',ne,k,l,_,ow,_⟩:=w.self c ts e1
 have hi:i < us.length:=by rw [l];exact (List.getElem?_eq_some_iff.mp e2).1
 obtain ⟨a,e,za,na,r⟩:=ow i _ t (List.getElem?_eq_getElem hi) e2 ho
 exact ⟨a,dx,m,ih,(k.at_ i name _ (List.getElem?_eq_getElem hi) hn).trans (by rw [e]),za,na.2.2,⟨z,ne.2⟩,⟨z',ne.1⟩,r⟩
theorem dG.uniq {m':Str→Option Value}{dx':Addr}(i:dG P h c m dx a)(i':dG P h c m' dx' a)(y:Str):m y=m' y:=by
 obtain ⟨o,e,k,n,_⟩:=i
 obtain ⟨o',e',k',n',_⟩:=i'
 rw [e] at e';cases e'
 obtain rfl:dx=dx':=Option.some.inj (k.dict.symm.trans k'.dict)
 exact tA n.ns n'.ns
theorem tU {y:T}(w:bv P g s.heap σ)(hs:dD c i ρ σ=some t)(hn:(bV c)[i]?=some name)(o:dB P g s.heap c name t a)(hh:∀b,b≠a→h'.get? b=s.heap.get? b)(hy:aO g s.heap g h'→gS P g h' a y)(tk:Nat):aE g s g {s with heap:=h',toks:=tk}∧bv P g h' (σ.fld i y):=by
 obtain ⟨e0,ho,ts,e1,e2⟩:=lG hs
 obtain ⟨dx,m,us,ih,z,z',ne,k,l,sh,ow,nn⟩:=w.self c ts e1
 obtain ⟨dx₁,m₁,ih₁,e,za,na,_,_,_⟩:=o
 have hi:i < us.length:=by rw [l];exact (List.getElem?_eq_some_iff.mp e2).1
 have hu:us[i]?=some (.ref a):=by
  have:=k.at_ i name _ (List.getElem?_eq_getElem hi) hn
  rw [ih.uniq ih₁,e] at this
  rw [List.getElem?_eq_getElem hi];exact this.symm
 obtain ⟨a',q,_,nb,_⟩:=ow i _ t hu e2 ho
 cases q
 have kf:aO g s.heap g h':=⟨fun b f=>⟨f,fun o e=>(hh b fun q=>(w.Z a za).2 (q▸f)).trans e⟩,rfl⟩
 have r:=hy kf
 have lv:∀b,s.heap.get? b≠none→h'.get? b≠none:=fun b l=>by
  by_cases q:b=a
  ·exact q▸r.live
  ·rw [hh b q];exact l
 have kp:∀b,b≠a→∀o,s.heap.get? b=some o→h'.get? b=some o:=fun b q o e=>(hh b q).trans e
 refine ⟨⟨⟨h',tk,rfl⟩,fun b o e z=>kp b (fun q=>z (q▸za)) o e,fun b e=>?_,fun _ f=>f,fun _ f=>.inl f,fun _ f=>.inl f,rfl,rfl,rfl⟩,fun b o e=>⟨(w.base b o e).1,(kf.F b (w.base b o e).1).2 o (w.base b o e).2⟩,fun b f=>lv b (w.F b f),fun b z=>⟨lv b (w.Z b z).1,(w.Z b z).2⟩,fun b z=>⟨lv b (w.O b z).1,(w.O b z).2⟩,w.oo,
  ⟨let ⟨t,m,e⟩:=w.spot.1;⟨t,m,kp _ (Ne.symm na) _ e⟩,w.spot.2.1,fun q=>?_⟩,fun c' ts' e'=>?_⟩
 ·by_cases q:s.heap.get? b=none
  ·exact q
  ·exact (lv b q e).elim
 ·rw [Sg.fld,e1] at q;cases q
 ·rw [Sg.fld,e1] at e'
  cases e'
  have set_:∀{j:Nat} {u:T},(ts.set i y)[j]?=some u→(j=i∧u=y)∨(j≠i∧ts[j]?=some u):=fun {j u} q=>by
   by_cases ji:j=i
   ·subst ji
    rw [List.getElem?_set_self (List.getElem?_eq_some_iff.mp e2).1] at q
    exact .inl ⟨rfl,(Option.some.inj q).symm⟩
   ·rw [List.getElem?_set_ne (Ne.symm ji)] at q;exact .inr ⟨ji,q⟩
  refine ⟨dx,m,us,ih.mono (kp _ (Ne.symm nb.2.1)) (kp _ (Ne.symm nb.1)),z,z',ne,k,by rw [List.length_set];exact l,fun j u t' h1 h2 h3=>?_,fun j u t' h1 h2 h3=>?_,nn⟩
  ·rcases set_ h2 with ⟨rfl,_⟩ | ⟨_,h2⟩
   ·rw [ho] at h3;cases h3
   ·exact (sh j u t' h1 h2 h3).mono kf
  ·rcases set_ h2 with ⟨rfl,rfl⟩ | ⟨ji,h2⟩
   ·rw [hu] at h1;cases h1
    exact ⟨a,rfl,za,nb,r⟩
   ·obtain ⟨b,rfl,zb,nb',rb⟩:=ow j u t' h1 h2 h3
    exact ⟨b,rfl,zb,nb',rb.mono kf (kp b fun q=>ji (nn j i a (q▸h1) hu h3 ho))⟩
end
section
variable {P:Pg} {B Bc:bB} {C C' Ci:Ct} {fr:Bool} {n c i j:Nat} {A:Around} {env:Env} {g g' g₂:Gh} {ρ:aH} {σ σ' σ₂:Sg} {s s' s₂:Shared} {h h':Heap} {t:T} {x:Value} {ms:List (Str×Nat)} {name y:Str} {kd:NameKind} {m:Str→Option Value} {dx a:Addr} {us:List Value} {E:Value→Shared→Prop} {ts:List T} {np apos pos:Pos}
noncomputable def Gh.bor (g:Gh):Gh:={g with Z:=fun a=>a=g.sp}
theorem AZ (g:Gh)(h:Heap):aO g h g.bor h:=⟨fun _ f=>⟨f,fun _ e=>e⟩,rfl⟩
theorem At.bor (X:At P B C n A env g ρ σ s):At P B C n A env g.bor ρ ⟨σ.spot,none⟩ s:=
 have hz:∀a,g.bor.Z a→g.Z a:=fun a q=>by rw [show a=g.sp from q];exact X.g.spot.2.1
 ⟨X.good,X.call,X.room,X.env.move (AZ g _) rfl rfl (fun _ _ _ e=>e) fun a ha=>⟨(X.env.own a ha).1,(X.env.own a ha).2.1,fun q=>(X.env.own a ha).2.2.1 (hz a q)⟩,
  X.g.base,X.g.F,fun a z=>X.g.Z a (hz a z),fun a q=>⟨(X.g.O a q).1,(X.g.O a q).2.1,fun z=>(X.g.O a q).2.2 (hz a z)⟩,X.g.oo,⟨X.g.spot.1,rfl,fun _ _ q=>q⟩,fun _ _ q=>nomatch q⟩
theorem ro (w:bv P g s.heap σ)(p:aE g.bor s g' s')(w':bv P g' s'.heap σ'):aE g s {g' with Z:=g.Z} s'∧bv P {g' with Z:=g.Z} s'.heap ⟨σ'.spot,σ.self⟩:=by
 have sp:g'.sp=g.sp:=p.sp
 have so:g'.o=g.o:=p.o
 have q:aE g s {g' with Z:=g.Z} s':=⟨p.st,fun a o e z=>p.keep a o e fun q=>z (by rw [show a=g.sp from q];exact w.spot.2.1),p.back,p.F,p.Fn,fun _ z=>.inl z,p.o,p.sp,p.sa⟩
 have lv:∀a,s.heap.get? a≠none→s'.heap.get? a≠none:=fun a l e=>l (p.back a e)
 have nf:∀a,s.heap.get? a≠none→¬g.F a→¬g'.F a:=fun a l f q=>(p.Fn a q).elim f l
 have oo:∀a,({g' with Z:=g.Z}:Gh).O a→g.O a:=fun a ⟨i,q⟩=>⟨i,so▸q⟩
 exact ⟨q,w'.base,w'.F,fun a z=>⟨lv a (w.Z a z).1,nf a (w.Z a z).1 (w.Z a z).2⟩,fun a o=>have o:=w.O a (oo a o);⟨lv a o.1,nf a o.1 o.2.1,o.2.2⟩,fun i j a h1 h2=>w.oo i j a (so▸h1) (so▸h2),⟨w'.spot.1,by rw [show ({g' with Z:=g.Z}:Gh).sp=g.sp from sp];exact w.spot.2.1,fun e a z=>(w.spot.2.2 e a z).trans sp.symm⟩,
  fun c ts e=>(w.self c ts e).mono' (q.k w) (fun a n z=>⟨z,fun o e=>p.keep a o e n⟩) p.sa⟩
theorem B9 {e:Expr}{pq:PE}{K:PK T}{Q:Value→Shared→Prop}(h:ak P B C e pq (RV P))(X:At P B C n A env g ρ σ s)(of:dB P g s.heap c name t a)(hb:pq (P.cx n) ρ ⟨σ.spot,none⟩ (fun v σ'=>K v ⟨σ'.spot,σ.self⟩)≠.bad)
  (hq:∀x s' g' v σ',pq (P.cx n) ρ ⟨σ.spot,none⟩ (fun v σ'=>K v ⟨σ'.spot,σ.self⟩)=K v σ'→aE g s g' s'→bv P g' s'.heap σ'→σ'.self=σ.self→dB P g' s'.heap c name t a→Rp P g' s'.heap v x→Q x s'):wpAny P.M A (eval e env) Q E s:=
 h n A env g.bor ρ ⟨σ.spot,none⟩ s _ Q E X.bor hb fun x s' g' v σ' e p w r=>
  have ⟨p',w'⟩:=ro X.g p w
  hq x s' {g' with Z:=g.Z} v ⟨σ'.spot,σ.self⟩ e p' w' rfl (of.keep (p'.k X.g) p'.sa fun a n z=>⟨z,fun o e=>p.keep a o e n⟩) (Rp.mono (g:=g') (h:=s'.heap) (g':={g' with Z:=g.Z}) ⟨fun _ f=>⟨f,fun _ e=>e⟩,rfl⟩ r)
theorem mj {Q:Value→Shared→Prop}(O:bu P c ms)(hn:(bV c)[i]?=some name)(ht:B.tab[0]?=some (some (y,kd)))(X:At P B C n A env g ρ σ s)(hs:dD c i ρ σ=some t)(hq:∀a,dB P g s.heap c name t a→Q (.ref a) {s with toks:=s.toks+1}):wpAny P.M A (eval (.Attribute (.Name y np) name pos) env) Q E s:=by
 obtain ⟨v,va,q⟩:=X.env.var 0 _ _ ht (lG hs).1
 cases q.self
 obtain ⟨a,o⟩:=vP X.g hn hs
 obtain ⟨dx,m,ih,e,_⟩:=id o
 exact sY rfl (fun _ _=>rfl) (bp X ht va (jV O (List.mem_of_getElem? hn) X.g.bs ih e rfl (hq a o)))
theorem ak.fld (O:bu P c ms)(hn:(bV c)[i]?=some name)(ht:B.tab[0]?=some (some (y,kd))):ak P B C (.Attribute (.Name y np) name pos) (oX c i) (RY P):=fun n A env g ρ σ s k Q E X hb hq=>by
 obtain ⟨t,e⟩:=bY hb
 exact mj O hn ht X e fun a o=>hq _ _ g t σ (by rw [oX,e];rfl) (.toks g s _) X.g o.y
theorem ak.f2 {ie:Expr}{pq:PE}{F:T→T→Option T}(O:bu P c ms)(hn:(bV c)[i]?=some name)(ht:B.tab[0]?=some (some (y,kd)))(o:pX P (yf P (.Attribute (.Name y np) name apos) ie) F (RV P))(h:ak P B C ie pq (RV P)):ak P B C (.Subscript (.Attribute (.Name y np) name apos) ie pos) (Bs c i F pq) (RV P):=fun n A env g ρ σ s k Q E X hb hq=>by
 unfold Bs at hb hq
 cases e0:dD c i ρ σ with
 |none=>rw [e0] at hb;exact absurd rfl hb
 |some t=>
  rw [e0] at hb hq
  refine Subscript_ (mj O hn ht X e0 fun a of=>B9 (K:=fun v σ=>up (F t v) σ k) h (X.post (.toks g s _) X.g) of hb fun x s' g' v σ' e p w hσ of' r=>?_)
  obtain ⟨u,e'⟩:=bY fun q=>hb (e.trans q)
  exact o A env g' σ' s' _ x t v u Q E X.rm w of'.y (.inl r) e' fun z s'' g'' p' w' r'=>hq z s'' g'' u σ' (e.trans (by rw [e'];rfl)) ((aE.toks g s _).trans (p.trans p')) w' r'
theorem aN.fap {e:Expr}{ap' cpos:Pos}{pe:PE}(O:bu P c ms)(hn:(bV c)[i]?=some name)(ht:B.tab[0]?=some (some (y,kd)))(hbase:∀env,attributeBase (.Attribute (.Name y np) name ap') (ofString "append") env (eval (.Attribute (.Name y np) name ap') env)=eval (.Attribute (.Name y np) name ap') env)(hline:(apos.endLine==cpos.line)=true)
  (htrees:∀env,backTo cpos (starEach [e] env)=[(false,eval e env)])(hw:∀env,swapsWith (.Call (.Attribute (.Attribute (.Name y np) name ap') (ofString "append") apos) [e] [] cpos) none pos.line env=pure false)(h:ak P B C e pe (RV P)):
  aN P B C fr C (.Expr (.Call (.Attribute (.Attribute (.Name y np) name ap') (ofString "append") apos) [e] [] cpos) pos) (qz c i pe):=fun n A env g ρ σ s k Q E X hb hq hr=>by
 show wpAny P.M A (exec _ env) Q E s
 rw [exec_Expr env _ pos (by simp [interactive,X.fn]) (hw env)]
 unfold qz at hb hq
 cases e0:dD c i ρ σ with
 |none=>rw [e0] at hb;exact absurd rfl hb
 |some t=>
  rw [e0] at hb hq
  have hk:=kg hb
  simp only [hk,cond_true] at hb hq
  refine wpAny_bind (wpAny_standAt (wpAny_bind (lW md hbase hline htrees (mj O hn ht X e0 fun a of=>⟨tM of.y hk,B9 (K:=fun v σ=>up (df t v) σ fun y σ=>k ρ (σ.fld i y)) h (X.post (.toks g s _) X.g) of hb fun x s' g' v σ' e p w hσ of' r=>?_⟩))))
  obtain ⟨u,e'⟩:=bY fun q=>hb (e.trans q)
  refine jX A g' σ' s' a x t v u _ _ X.rm w of'.o r e' fun h' tk hs hy=>wpAny_dropValue ?_
  obtain ⟨pS,wS⟩:=tU w (lE hσ e0) hn of' hs hy tk
  have pA:=(aE.toks g s _).trans (p.trans pS)
  exact hq _ _ ρ _ (e.trans (by rw [e'];rfl)) pA.toS (X.post pA wS)
theorem aN.fput {ie e:Expr}{ps:Pos}{pq pe:PE}(O:bu P c ms)(hn:(bV c)[i]?=some name)(ht:B.tab[0]?=some (some (y,kd)))(hw:∀env,swapsWith e (some (.Subscript (.Attribute (.Name y np) name apos) ie ps)) pos.line env=pure false)(h2:ak P B C ie pq (RV P))(h3:ak P B C e pe (RV P)):
  aN P B C fr C (.Assign [.Subscript (.Attribute (.Name y np) name apos) ie ps] e pos) (qy c i pq pe):=fun n A env g ρ σ s k Q E X hb hq hr=>by
 refine wpAny_Assign_Subscript (h3 n A env g ρ σ s _ _ E X hb fun z s₁ g₁ v σ₁ e₁ p₁ w₁ r₁=>?_) (hw env)
 have X₁:=X.post p₁ w₁
 have hb₁:=fun q=>hb (e₁.trans q)
 have e₁:qy c i pq pe (P.cx n) ρ σ k=_:=e₁
 cases e0:dD c i ρ σ₁ with
 |none=>simp only [e0] at hb₁;exact (hb₁ trivial).elim
 |some t=>
  simp only [e0] at hb₁ e₁
  refine mj O hn ht X₁ e0 fun a of=>B9 (K:=fun κ σ=>up (dS t κ v) σ fun y σ=>k ρ (σ.fld i y)) h2 (X₁.post (.toks g₁ s₁ _) w₁) of hb₁ fun x s' g' κ σ' e p w hσ of' r=>?_
  obtain ⟨u,e'⟩:=bY fun q=>hb₁ (e.trans q)
  have p₂:=(aE.toks g₁ s₁ _).trans p
  refine tq A g' σ' s' a x z t κ v u _ _ X.rm w of'.o (.inl r) (Rp.mono (p₂.k w₁) r₁) e' fun h' tk hs hy=>?_
  obtain ⟨pS,wS⟩:=tU w (lE hσ e0) hn of' hs hy tk
  have pA:=p₁.trans (p₂.trans pS)
  exact hq _ _ ρ _ (e₁.trans (e.trans (by rw [e'];rfl))) pA.toS (X.post pA wS)
end
section
variable {P:Pg} {B Bc:bB} {C C' Ci:Ct} {fr:Bool} {n c i j:Nat} {A:Around} {env:Env} {g g' g₂:Gh} {ρ:aH} {σ σ' σ₂:Sg} {s s' s₂:Shared} {h h':Heap} {t:T} {x:Value} {ms:List (Str×Nat)} {name y:Str} {kd:NameKind} {m:Str→Option Value} {dx a:Addr} {us:List Value} {E:Value→Shared→Prop} {ts:List T} {np apos pos:Pos}
theorem sX {Q:Unit→Shared→Prop}(O:bu P c ms)(hn:name∈bV c)(w:bv P g s.heap σ)(z:g.Z a)(ih:dG P s.heap c m dx a)(k:rL c m us)(hq:∀h' tk,dG P h' c (fun y=>if y=name then some x else m y) dx a→(∀b o,b≠dx→s.heap.get? b=some o→h'.get? b=some o)→Q () {s with heap:=h',toks:=tk}):wpAny P.M A (setAttr (.ref a) name x) Q E s:=by
 obtain ⟨N,mN,K,g1,g2,g3,g4,g5⟩:=O
 obtain ⟨nm,q,bs',sn,sub,col,dd,k0,k1,k2,k3,k5,hC⟩:=K.obj
 have hxC:a≠P.cls c:=fun q=>(w.Z a z).2 (q▸(w.base _ _ hC).1)
 obtain ⟨o,e,ko,nn,ne⟩:=id ih
 refine store_attr (h:=s.heap) (ns:=bV c) PySem.F.store_object (w.bs _ _ hC) (K.keeps w.bs).ns g3 (g4 name hn).1 (g4 name hn).2 hxC ih.inst (fun h₃ tk' I' hk hsame=>?_) (fun y hy=>?_) ?_
 ·obtain ⟨o₁,z1,z2,z3,z4,z5⟩:=hsame o e
  have hd:=z5 dx ko.dict
  have:o₁=o:=by
   have kd:=ko.dict
   obtain ⟨c1,c2,c3,c4⟩:=o₁
   obtain ⟨d1,d2,d3,d4⟩:=o
   simp only at z2 z3 z4 hd kd
   rw [z2,z3,z4,hd,kd]
  subst this
  obtain ⟨o',y1,_,_,y4⟩:=I'
  rw [z1] at y1;cases y1
  rcases y4 with ⟨q,_⟩ | ⟨dz,q,_,n'⟩
  ·rw [hd] at q;cases q
  ·rw [hd] at q;cases q
   refine hq h₃ tk' ⟨o₁,z1,ko,n',ne⟩ fun b o' nb e'=>?_
   by_cases hba:b=a
   ·subst hba;rw [e] at e';cases e';exact z1
   ·exact hk b o' hba (fun o₀ d₀ e₀ ed=>by rw [e] at e₀;cases e₀;rw [hd] at ed;cases ed;exact nb) e'
 ·by_cases q:y∈bV c
  ·exact q
  ·exact (hy (k.no y q)).elim
 ·unfold bV;split<;>decide
theorem Al (c:Nat):(bV c).Nodup:=by unfold bV;split<;>decide
theorem qg {α β:Type}{us:List α}{ts:List β}{x u:α}{t v:β}{j:Nat}(l:us.length=ts.length)(h1:(us++[x])[j]?=some u)(h2:(ts++[t])[j]?=some v):(us[j]?=some u∧ts[j]?=some v)∨(j=ts.length∧u=x∧v=t):=by
 by_cases q:j < us.length
 ·rw [List.getElem?_append_left q] at h1
  rw [List.getElem?_append_left (l▸q)] at h2
  exact .inl ⟨h1,h2⟩
 ·have q:=Nat.not_lt.mp q
  rw [List.getElem?_append_right q] at h1
  rw [List.getElem?_append_right (l▸q)] at h2
  have e:j - us.length=0:=by
   have:=(List.getElem?_eq_some_iff.mp h1).1
   rw [List.length_singleton] at this;lia -abstractProof
  rw [e] at h1;rw [←l,e] at h2
  cases h1;cases h2
  exact .inr ⟨by lia -abstractProof,rfl,rfl⟩
theorem rX {Z':Addr→Prop}{Q:Unit→Shared→Prop}(O:bu P c ms)(hn:(bV c)[i]?=some name)(w:bv P g s.heap σ)(es:σ.self=some (c,ts))(hl:ts.length=i)(hZ:∀a,g.Z a→Z' a)(hZ':∀a,Z' a→g.Z a∨(s.heap.get? a≠none∧¬g.F a∧¬g.Z a∧¬g.O a))
  (h0:gG c i=false→Rp P g s.heap t x)(h1:gG c i=true→∃a,x=.ref a∧Z' a∧¬g.Z a∧gS P g s.heap a t)
  (hq:∀h' tk,(∀b o,¬g.Z b→s.heap.get? b=some o→h'.get? b=some o)→(∀b,h'.get? b=none→s.heap.get? b=none)→bv P {g with Z:=Z'} h' (σ.push t)→Q () {s with heap:=h',toks:=tk}):wpAny P.M A (setAttr (.ref g.sa) name x) Q E s:=by
 obtain ⟨dx,m,us,ih,z,z',ne,k,l,sh,ow,nn⟩:=w.self c ts es
 refine sX O (List.mem_of_getElem? hn) w z ih k fun h' tk ih' kp=>?_
 have ld:h'.get? dx≠none:=let ⟨_,_,_,n,_⟩:=ih';let ⟨_,_,_,e,_⟩:=n;an e
 have bk:∀b,h'.get? b=none→s.heap.get? b=none:=fun b e=>by
  cases q:s.heap.get? b with
  |none=>rfl
  |some o=>
   by_cases hb:b=dx
   ·exact (ld (hb▸e)).elim
   ·exact (an (kp b o hb q) e).elim
 have lv:∀b,s.heap.get? b≠none→h'.get? b≠none:=fun b l e=>l (bk b e)
 have kz:∀b,¬g.Z b→∀o,s.heap.get? b=some o→h'.get? b=some o:=fun b q o e=>kp b o (fun e=>q (e▸z')) e
 have kf:aO g s.heap {g with Z:=Z'} h':=⟨fun b f=>⟨f,kz b fun q=>(w.Z b q).2 f⟩,rfl⟩
 refine hq h' tk (fun b o q e=>kz b q o e) bk ⟨fun b o e=>⟨(w.base b o e).1,(kf.F b (w.base b o e).1).2 o (w.base b o e).2⟩,fun b f=>lv b (w.F b f),fun b q=>(hZ' b q).elim (fun q=>⟨lv b (w.Z b q).1,(w.Z b q).2⟩) fun q=>⟨lv b q.1,q.2.1⟩,fun b q=>⟨lv b (w.O b q).1,(w.O b q).2.1,fun q'=>(hZ' b q').elim (w.O b q).2.2 fun e=>e.2.2.2 q⟩,w.oo,
  ⟨let ⟨t,n,e⟩:=w.spot.1;⟨t,n,kp _ _ (Ne.symm ne.1) e⟩,hZ _ w.spot.2.1,fun q=>?_⟩,fun c' ts' e'=>?_⟩
 ·rw [Sg.push,es] at q;cases q
 ·rw [Sg.push,es] at e'
  cases e'
  have new:∀a,x=.ref a→gS P g s.heap a t→¬g.Z a→a≠dx∧a≠g.sa∧a≠g.sp:=fun a _ _ q=>⟨fun e=>q (e▸z'),fun e=>q (e▸z),fun e=>q (e▸w.spot.2.1)⟩
  refine ⟨dx,_,us++[x],ih',hZ _ z,hZ _ z',ne,⟨fun y hy=>?_,fun j y u q1 q2=>?_⟩,by rw [List.length_append,List.length_append,l];rfl,fun j u v q1 q2 q3=>?_,fun j u v q1 q2 q3=>?_,fun i' j a q1 q2 q3 q4=>?_⟩
  ·rw [if_neg fun e:y=name=>hy (e▸List.mem_of_getElem? hn)];exact k.no y hy
  ·have q:j < us.length∨(j=us.length∧u=x):=by
    by_cases q:j < us.length
    ·exact .inl q
    ·rw [List.getElem?_append_right (Nat.not_lt.mp q)] at q1
     have:=(List.getElem?_eq_some_iff.mp q1).1
     rw [List.length_singleton] at this
     rw [show j - us.length=0 by lia -abstractProof] at q1
     exact .inr ⟨by lia -abstractProof,(Option.some.inj q1).symm⟩
   rcases q with q | ⟨q,rfl⟩
   ·rw [if_neg fun e:y=name=>?_]
    ·rw [List.getElem?_append_left q] at q1;exact k.at_ j y u q1 q2
    ·subst e
     have:=(List.getElem?_inj (List.getElem?_eq_some_iff.mp q2).1 (Al c)).mp (q2.trans hn.symm)
     lia -abstractProof
   ·rw [show j=i by lia,hn] at q2
    cases q2;exact if_pos rfl
  ·rcases qg l q1 q2 with ⟨q1,q2⟩ | ⟨q,rfl,rfl⟩
   ·exact (sh j u v q1 q2 q3).mono kf
   ·rw [q,hl] at q3;exact (h0 q3).mono kf
  ·rcases qg l q1 q2 with ⟨q1,q2⟩ | ⟨q,rfl,rfl⟩
   ·obtain ⟨a,e,za,na,r⟩:=ow j u v q1 q2 q3
    exact ⟨a,e,hZ a za,na,r.mono kf fun o e=>kp a o na.1 e⟩
   ·rw [q,hl] at q3
    obtain ⟨a,e,za,na,r⟩:=h1 q3
    have nb:=new a e r na
    exact ⟨a,e,za,nb,r.mono kf fun o e=>kp a o nb.1 e⟩
  ·have get:∀{j:Nat} {u:Value},(us++[x])[j]?=some u→∃v,(ts++[t])[j]?=some v:=fun {j u} q=>by
    have:=(List.getElem?_eq_some_iff.mp q).1
    rw [List.length_append,l] at this
    exact ⟨_,List.getElem?_eq_getElem (l:=ts++[t]) (by rw [List.length_append];exact this)⟩
   obtain ⟨v1,r1⟩:=get q1
   obtain ⟨v2,r2⟩:=get q2
   rcases qg l q1 r1 with ⟨p1,p2⟩ | ⟨p1,p2,p3⟩
   ·rcases qg l q2 r2 with ⟨p3,p4⟩ | ⟨p3,p4,p5⟩
    ·exact nn i' j a p1 p3 q3 q4
    ·rw [p3,hl] at q4
     obtain ⟨b,e,_,nb,_⟩:=h1 q4
     rw [e] at p4;cases p4
     obtain ⟨b',e',zb,_,_⟩:=ow i' _ v1 p1 p2 q3
     cases e';exact (nb zb).elim
   ·rcases qg l q2 r2 with ⟨p4,p5⟩ | ⟨p4,p5,p6⟩
    ·rw [p1,hl] at q3
     obtain ⟨b,e,_,nb,_⟩:=h1 q3
     rw [e] at p2;cases p2
     obtain ⟨b',e',zb,_,_⟩:=ow j _ v2 p4 p5 q4
     cases e';exact (nb zb).elim
    ·rw [p1,p4]
theorem xW (h:A2 c i ρ σ=true):bC ρ 0=some .self∧∃ts,σ.self=some (c,ts)∧ts.length=i:=by
 obtain ⟨h1,h2⟩:=Bool.and_eq_true_iff.mp h
 obtain ⟨e0,ts,e1⟩:=pf h1
 rw [e1] at h2
 exact ⟨e0,ts,e1,Nat.eq_of_beq_eq_true h2⟩
theorem aN.saG {e:Expr}{pe:PE}{R:RR Value T}(O:bu P c ms)(hn:(bV c)[i]?=some name)(ht:B.tab[0]?=some (some (y,kd)))(hw:∀env,swapsWith e (some (.Attribute (.Name y np) name apos)) pos.line env=pure false)(h:ak P B C e pe R)
  (hR:∀h g h' t x,R h g h' t x→(∀b,g.Z b→True)→∃N:Addr→Prop,(∀a,N a→h.get? a=none∧h'.get? a≠none∧¬g.F a∧¬g.Z a∧¬g.O a)∧(gG c i=false→Rp P g h' t x)∧(gG c i=true→∃a,x=.ref a∧N a∧gS P g h' a t)):
  aN P B C fr C (.Assign [.Attribute (.Name y np) name apos] e pos) (sk c i pe):=fun n A env g ρ σ s k Q E X hb hq hr=>by
 refine plainObj_wpAny_Assign_Attribute (h n A env g ρ σ s _ _ E X hb fun x s₁ g₁ t σ₁ e₁ p₁ w₁ r₁=>?_) (hw env)
 have X₁:=X.post p₁ w₁
 have ha:=kg fun q=>hb (e₁.trans q)
 obtain ⟨e0,ts,e2,e3⟩:=xW ha
 obtain ⟨v,va,q⟩:=X₁.env.var 0 _ _ ht e0
 cases q.self
 obtain ⟨N,n1,n2,n3⟩:=hR _ _ _ _ _ r₁ fun _ _=>trivial
 refine bp X₁ ht va (rX (Z':=fun b=>g₁.Z b∨N b) O hn w₁ e2 e3 (fun _=>.inl) (fun b z=>z.imp_right fun q=>(n1 b q).2) n2 (fun q=>let ⟨a,e,na,r⟩:=n3 q;⟨a,e,.inr na,(n1 a na).2.2.2.1,r⟩) fun h' tk kp bk w'=>?_)
 have p₂:aE g s {g₁ with Z:=fun b=>g₁.Z b∨N b} {s₁ with heap:=h',toks:=tk}:=⟨St.trans p₁.st ⟨h',tk,rfl⟩,fun b o e z=>kp b o (fun q=>(p₁.Zn b q).elim z (an e)) (p₁.keep b o e z),fun b e=>p₁.back b (bk b e),p₁.F,p₁.Fn,fun b z=>z.elim (p₁.Zn b) fun q=>.inr (n1 b q).1,p₁.o,p₁.sp,p₁.sa⟩
 exact hq _ _ ρ _ (e₁.trans (by rw [ha])) p₂.toS (X.post p₂ w')
theorem aN.sa {e:Expr}{pe:PE}(O:bu P c ms)(hn:(bV c)[i]?=some name)(ho:gG c i=false)(ht:B.tab[0]?=some (some (y,kd)))(hw:∀env,swapsWith e (some (.Attribute (.Name y np) name apos)) pos.line env=pure false)(h:ak P B C e pe (RV P)):
  aN P B C fr C (.Assign [.Attribute (.Name y np) name apos] e pos) (sk c i pe):=
 .saG O hn ht hw h fun _ _ _ _ _ r _=>⟨fun _=>False,fun _ q=>q.elim,fun _=>r,fun q=>by rw [ho] at q;cases q⟩
theorem aN.saN {e:Expr}{pe:PE}(O:bu P c ms)(hn:(bV c)[i]?=some name)(ho:gG c i=true)(ht:B.tab[0]?=some (some (y,kd)))(hw:∀env,swapsWith e (some (.Attribute (.Name y np) name apos)) pos.line env=pure false)(h:ak P B C e pe (RN P)):
  aN P B C fr C (.Assign [.Attribute (.Name y np) name apos] e pos) (sk c i pe):=
 .saG O hn ht hw h fun _ _ _ _ _ r _=>let ⟨a,e,n,f,z,o,r⟩:=r;⟨fun b=>b=a,fun b q=>by rw [q];exact ⟨n,r.live,f,z,o⟩,(fun q=>by rw [ho] at q;cases q),fun _=>⟨a,e,rfl,r⟩⟩
theorem nB.own (hh:A.handled=none){I l:Addr}{vs:Array Value}{m:Nat}:nB P A I ts [I] [l] (fun i g h=>h.IsListIter I l i∧h.get? l=some (br vs m)∧aR P g h ts vs.toList) where
 self i g s Q E st:=wpAny_pyIter_listiter st.1
 stay i g h g' h' st k ki:=by
  obtain ⟨⟨o,e,r⟩,e',q⟩:=st
  exact ⟨⟨o,ki I List.mem_cons_self o e,r⟩,ki l (List.mem_cons_of_mem _ List.mem_cons_self) _ e',q.mono k⟩
 here i g h st a ha:=by
  obtain ⟨⟨o,e,_⟩,e',_⟩:=st
  rcases List.mem_cons.mp ha with rfl |ha
  ·exact an e
  ·rw [List.mem_singleton.mp ha];exact an e'
 item i t g s Q E hi st hF hq:=by
  obtain ⟨it,e',q⟩:=st
  obtain ⟨u,hu,r⟩:=q.get hi
  have nl:l≠I:=fun q=>by
   obtain ⟨o,e,r,_⟩:=it
   rw [←q,e'] at e;cases e;exact absurd (Value.type.inj r) (by decide)
  refine wpAny_pyNext_list_item it ⟨_,e',rfl,m,rfl⟩ (by rw [←Array.getElem?_toList];exact hu) fun h' it' hs=>?_
  have kf:=sB hs.2 (hF I (List.mem_singleton.mpr rfl))
  exact hq u h' s.toks (gJ hs.2) (r.mono kf) ⟨it',(hs.2 l nl).trans e',q.mono kf⟩
 done g s Q E st hq:=by
  obtain ⟨it,e',q⟩:=st
  exact wpAny_pyNext_list_end hh it ⟨_,e',rfl,m,rfl⟩ (Array.getElem?_eq_none (Nat.le_of_eq q.size)) fun h' hs=>hq h' s.toks fun b o e hb=>hs b o (fun q=>hb (List.mem_singleton.mpr q)) e
theorem ak.compF {elt target:Expr}{scope:Scope}{xc:Option Str}{pe:PE}(O:bu P c ms)(hn:(bV c)[j]?=some name)(ht:B.tab[0]?=some (some (y,kd)))(K:dC B Bc scope i xc)(hi:C.U.any (Nat.beq i)=true)(hc:b9 C i false Ci=true)(hb:iM P (yj P Bc C Ci target (aM i) (lq xc)))(hel:ak P Bc Ci elt pe (RV P))(hs:∀env x,foldedSetIterable (.Attribute (.Name y np) name apos) env x=pure x):
  ak P B C (.ListComp elt [⟨target,.Attribute (.Name y np) name apos,[],0⟩] scope pos) (oY c j (aM i) pe) (RN P):=fun n A env g ρ σ s k Q E X hbad hq=>by
 unfold oY at hbad hq
 cases e0:o1 (dD c j ρ σ) fZ with
 |none=>rw [e0] at hbad;exact absurd rfl hbad
 |some xs=>
  rw [e0] at hbad hq
  obtain ⟨t,e1,e2⟩:=ar e0
  cases eh e2
  show wpAny P.M A (eval _ env) Q E s
  rw [eval_ListComp]
  refine mH (pi:=fun _ _ σ k=>k xs σ) (g:=g.bor) (σ:=⟨σ.spot,Option.none⟩) (k:=fun v σ'=>k v ⟨σ'.spot,σ.self⟩) K (js hi) (dH hc).1 (fun k' Q' E' Xb _ hq'=>?_) di.nil hel hs X.bor hbad fun D L s' g' ys σ' m e p w r hL nL hDL hn=>⟨m,hn,fun h' hsb=>?_⟩
  ·refine mj O hn ht X e1 fun a of=>?_
   obtain ⟨vs,n',ea,la,ra⟩:=of.o
   refine wpAny_pyIter_list (s:={s with toks:=s.toks+1}) ⟨_,ea,rfl,n',rfl⟩ ?_
   obtain ⟨p',w',v⟩:=o7 (X:=uT "list_iterator" a) (tk:=s.toks+1) (s₁:={s with toks:=s.toks+1}) Xb.g (.toks g.bor s _)
   obtain ⟨_,_,_,_,za,na,_,_,_⟩:=of
   exact hq' _ g.bor xs _ _ _ [a] _ rfl p' w' (hb.make (nB.own X.room.2.2)) ⟨⟨_,bI _,rfl,rfl⟩,bQ s _ _ _ ea,(ra.mono (AZ g _)).mono ((aE.push (uT "list_iterator" a) 0).k Xb.g)⟩ v (fun b hb=>by rw [List.mem_singleton.mp hb];exact ⟨(X.g.Z a za).2,na,fun q=>(X.g.O a q).2.2 za,fun q=>(X.env.own a q).2.2.1 za⟩) la
  ·obtain ⟨p',w'⟩:=ro X.g p w
   have nz:∀{b},s.heap.get? b=Option.none→¬g.Z b:=fun e z=>(X.g.Z _ z).1 e
   obtain ⟨w'',kf⟩:=w'.scrap ⟨nL.1,nz hL,nL.2.2⟩ hsb.2
   obtain ⟨D',eD,nD,fD,zD,oD,rD⟩:=r
   exact hq _ _ _ _ ⟨σ'.spot,σ.self⟩ e (p'.scrap hL hsb.2) w'' (As.scrap (g:={g' with Z:=g.Z}) ⟨D',eD,nD,fD,nz nD,oD,gS.mono (g:=g') (h:=s'.heap) (g':={g' with Z:=g.Z}) ⟨fun _ f=>⟨f,fun _ e=>e⟩,rfl⟩ (fun _ e=>e) rD⟩ kf hDL hsb.2)
theorem vB (w:bv P g h σ):gS P g h g.sp (.lst [.int σ.spot]):=let ⟨t,n,e⟩:=w.spot.1;⟨_,n,e,(show 1≤lim by decide),_,_,rfl,⟨t,rfl⟩,rfl⟩
theorem oc (h:pd ρ i=true):bC ρ i=some .spot:=by
 unfold pd at h
 cases e:bC ρ i with
 |none=>rw [e] at h;cases h
 |some t=>
  rw [e] at h
  cases t<;>first |rfl |cases h
theorem ak.spot {kk:Nat}{cp:Pos}(hv:jC C i=true)(ht:B.tab[i]?=some (some (y,kd))):ak P B C (.Subscript (.Name y np) (.Constant (.int 0) kk cp) pos) (n5 i) (RV P):=fun n A env g ρ σ s k Q E X hb hq=>by
 have h1:=kg hb
 obtain ⟨u,va,q⟩:=X.env.var i _ _ ht (oc h1)
 obtain rfl:u=.ref g.sp:=iQ hv q
 refine Subscript_ (bp X ht va (wpAny_Constant_int (wd (fun _ _=>rfl) A env g σ _ _ _ (.lst [.int σ.spot]) (.int 0) (.int σ.spot) Q E X.rm X.g (.inr ⟨_,rfl,vB X.g⟩) (.inl ⟨_,rfl⟩) rfl fun x s' g' p w r=>hq x s' g' _ σ (by unfold n5;rw [h1]) ((aE.toks g s _).trans p) w r)))
theorem vA {v:Int}(w:bv P g s.heap σ)(hs:∀b,b≠g.sp→h'.get? b=s.heap.get? b)(hy:aO g s.heap g h'→gS P g h' g.sp (.lst [.int v]))(tk:Nat):aE g s g {s with heap:=h',toks:=tk}∧bv P g h' ⟨v,σ.self⟩:=by
 have zs:=w.spot.2.1
 have kf:aO g s.heap g h':=⟨fun b f=>⟨f,fun o e=>(hs b fun q=>(w.Z _ zs).2 (q▸f)).trans e⟩,rfl⟩
 obtain ⟨vs,n,e,_,_,_,e1,⟨t,rfl⟩,e2⟩:=hy kf
 obtain rfl:vs=#[.int v t]:=by rw [←Array.toArray_toList (xs:=vs),e1,e2]
 have lv:∀b,s.heap.get? b≠none→h'.get? b≠none:=fun b l=>by
  by_cases q:b=g.sp
  ·exact q▸an e
  ·rw [hs b q];exact l
 refine ⟨⟨⟨h',tk,rfl⟩,fun b o e z=>(hs b fun q=>z (q▸zs)).trans e,fun b e=>?_,fun _ f=>f,fun _ f=>.inl f,fun _ f=>.inl f,rfl,rfl,rfl⟩,fun b o e=>⟨(w.base b o e).1,(kf.F b (w.base b o e).1).2 o (w.base b o e).2⟩,fun b f=>lv b (w.F b f),fun b z=>⟨lv b (w.Z b z).1,(w.Z b z).2⟩,fun b z=>⟨lv b (w.O b z).1,(w.O b z).2⟩,w.oo,⟨⟨t,n,e⟩,w.spot.2⟩,
  fun c ts e=>(w.self c ts e).mono' kf (fun b n z=>⟨z,fun o e=>(hs b n).trans e⟩) rfl⟩
 by_cases q:s.heap.get? b=none
 ·exact q
 ·exact (lv b q e).elim
theorem aN.spot {e:Expr}{kk:Nat}{cp ps:Pos}{pe:PE}(hv:jC C i=true)(ht:B.tab[i]?=some (some (y,kd)))(hw:∀env,swapsWith e (some (.Subscript (.Name y np) (.Constant (.int 0) kk cp) ps)) pos.line env=pure false)(h:ak P B C e pe (RV P)):aN P B C fr C (.Assign [.Subscript (.Name y np) (.Constant (.int 0) kk cp) ps] e pos) (i8 i pe):=fun n A env g ρ σ s k Q E X hb hq hr=>by
 refine wpAny_Assign_Subscript (h n A env g ρ σ s _ _ E X hb fun z s₁ g₁ v σ₁ e₁ p₁ w₁ r₁=>?_) (hw env)
 have X₁:=X.post p₁ w₁
 have hb₁:=fun q=>hb (e₁.trans q)
 have h1:=kg hb₁
 obtain ⟨u,va,q⟩:=X₁.env.var i _ _ ht (oc h1)
 obtain rfl:u=.ref g₁.sp:=iQ hv q
 cases ev:iN v with
 |none=>simp only [h1,ev,cond_true] at hb₁;exact (hb₁ trivial).elim
 |some m=>
  cases nc ev
  refine bp X₁ ht va (wpAny_Constant_int (vY A g₁ σ₁ _ g₁.sp _ z (.lst [.int σ₁.spot]) (.int 0) (.int m) (.lst [.int m]) _ _ X.rm w₁ (vB w₁) (.inl ⟨_,rfl⟩) r₁ rfl fun h' tk hs hy=>?_))
  obtain ⟨pS,wS⟩:=vA (s:=s₁) w₁ hs hy tk
  exact hq _ _ ρ _ (e₁.trans (by rw [h1];rfl)) (p₁.trans pS).toS (X₁.post pS wS)
end
section
variable {P:Pg} {B:bB} {C:Ct}
theorem yn {M:Model}{A:Around}{E:Value→Shared→Prop}{s:Shared}{env:Env}{l m r:Expr}{o1 o2:CmpOp}{pos:Pos}{Q:Value→Shared→Prop}(hm:markedEach [o1,o2] [m,r] (evalEach [m,r] env)=[eval m env,eval r env])
  (h:wpAny M A (eval l env) (fun a s₁=>wpAny M A (eval m env) (fun b s₂=>wpAny M A (compareOp o1 a b) (fun c s₃=>∃t:Bool,c=.bool t∧(t=true→wpAny M A (eval r env) (fun d s₄=>wpAny M A (compareOp o2 b d) Q E s₄) E s₃)∧(t=false→Q (.bool false) s₃)) E s₂) E s₁) E s):
  wpAny M A (eval (.Compare l [o1,o2] [m,r] pos) env) Q E s:=by
 rw [arm_eval_Compare,hm]
 refine wpAny_bind (wpAny_mono h (fun a s₁ h₁=>?_) fun _ _ q=>q)
 show wpAny M A (do
  let rv ←holding [a] (eval m env)
  standAt pos
  let c ←holding [a,rv] (compareOp o1 a rv)
  release [a,rv] [c]
  if ←holding [c,rv] (truthy c) then compareChain pos rv [o2] [eval r env] else pure c) Q E s₁
 refine wpAny_bind (wpAny_holding (wpAny_mono h₁ (fun b s₂ h₂=>wpAny_bind (wpAny_standAt (wpAny_bind (wpAny_holding (wpAny_mono h₂ (fun c s₃ h₃=>?_) fun _ _ q=>q))))) fun _ _ q=>q))
 obtain ⟨t,rfl,h4,h5⟩:=h₃
 refine wpAny_bind (wpAny_release (wpAny_bind (wpAny_holding (wpAny_truthy_bool ?_))))
 cases t with
 |true=>
  rw [if_pos rfl]
  show wpAny M A (do
   let rv ←holding [b] (eval r env)
   standAt pos
   operate [b,rv] (compareOp o2 b rv)) Q E s₃
  exact wpAny_bind (wpAny_holding (wpAny_mono (h4 rfl) (fun d s₄ h₆=>wpAny_bind (wpAny_standAt (wpAny_operate' h₆))) fun _ _ q=>q))
 |false=>rw [if_neg (by simp)];exact wpAny_pure (h5 rfl)
theorem kI {M:Model}{A:Around}{E:Value→Shared→Prop}{s:Shared}{env:Env}{l m r:Expr}{o1 o2:CmpOp}{pos:Pos}{whole:Sem Value}{Q:Bool→Shared→Prop}(hm:markedEach [o1,o2] [m,r] (evalEach [m,r] env)=[eval m env,eval r env])
  (h:wpAny M A (eval l env) (fun a s₁=>wpAny M A (eval m env) (fun b s₂=>wpAny M A (compareOp o1 a b) (fun c s₃=>∃t:Bool,c=.bool t∧(t=true→wpAny M A (eval r env) (fun d s₄=>wpAny M A (compareOp o2 b d) (fun c s₅=>wpAny M A (truthy c) Q E s₅) E s₄) E s₃)∧(t=false→Q false s₃)) E s₂) E s₁) E s):
  wpAny M A (isTrue (.Compare l [o1,o2] [m,r] pos) env whole) Q E s:=by
 show wpAny M A (do testChain pos (←eval l env) [o1,o2] (markedEach [o1,o2] [m,r] (evalEach [m,r] env))) Q E s
 rw [hm]
 refine wpAny_bind (wpAny_mono h (fun a s₁ h₁=>?_) fun _ _ q=>q)
 show wpAny M A (do
  let rv ←holding [a] (eval m env)
  standAt pos
  let c ←holding [a,rv] (compareOp o1 a rv)
  release [a,rv] [c]
  if ←holding [c,rv] (truthy c) then testChain pos rv [o2] [eval r env] else pure false) Q E s₁
 refine wpAny_bind (wpAny_holding (wpAny_mono h₁ (fun b s₂ h₂=>wpAny_bind (wpAny_standAt (wpAny_bind (wpAny_holding (wpAny_mono h₂ (fun c s₃ h₃=>?_) fun _ _ q=>q))))) fun _ _ q=>q))
 obtain ⟨t,rfl,h4,h5⟩:=h₃
 refine wpAny_bind (wpAny_release (wpAny_bind (wpAny_holding (wpAny_truthy_bool ?_))))
 cases t with
 |true=>
  rw [if_pos rfl]
  show wpAny M A (do
   let rv ←holding [b] (eval r env)
   standAt pos
   let c ←operate [b,rv] (compareOp o2 b rv)
   holding [c] (truthy c)) Q E s₃
  exact wpAny_bind (wpAny_holding (wpAny_mono (h4 rfl) (fun d s₄ h₆=>wpAny_bind (wpAny_standAt (wpAny_bind (wpAny_operate' (wpAny_mono h₆ (fun c s₅ h₇=>wpAny_holding h₇) fun _ _ q=>q))))) fun _ _ q=>q))
 |false=>rw [if_neg (by simp)];exact wpAny_pure (h5 rfl)
noncomputable abbrev CA (P:Pg)(l m r:Expr)(o1 o2:CmpOp):WP Bool:=fun A env Q E s=>wpAny P.M A (eval l env) (fun a s₁=>wpAny P.M A (eval m env) (fun b s₂=>wpAny P.M A (compareOp o1 a b) (fun c s₃=>∃t:Bool,c=.bool t∧(t=true→wpAny P.M A (eval r env) (fun d s₄=>wpAny P.M A (compareOp o2 b d) (fun v s₅=>∃u:Bool,v=.bool u∧Q u s₅) E s₄) E s₃)∧(t=false→Q false s₃)) E s₂) E s₁) E s
theorem chain {l m r:Expr}{o1 o2:CmpOp}{pl pm pr:PE}{F G:T→T→Option Bool}(k1:jw P o1 F)(k2:jw P o2 G)(hl:ak P B C l pl (RX P))(hm:ak P B C m pm (RX P))(hr:ak P B C r pr (RX P)):dc P B C (CA P l m r o1 o2) (i9 F G pl pm pr) RQ:=
 hl.bind (N:=fun A env a Q E s₁=>wpAny P.M A (eval m env) (fun b s₂=>wpAny P.M A (compareOp o1 a b) (fun c s₃=>∃t:Bool,c=.bool t∧(t=true→wpAny P.M A (eval r env) (fun d s₄=>wpAny P.M A (compareOp o2 b d) (fun v s₅=>∃u:Bool,v=.bool u∧Q u s₅) E s₄) E s₃)∧(t=false→Q false s₃)) E s₂) E s₁)
  (F:=fun c ρ k a σ=>pm c ρ σ fun b σ=>match F a b with |some true=>pr c ρ σ fun x σ=>up (G b x) σ k |some false=>k false σ |none=>.bad) CJ fun n A env g g₁ ρ σ s s₁ x t k Q E p X r₁ hb hq=>hm n A env g₁ ρ σ s₁ _ _ E X hb fun y s₂ g₂ u σ₂ e₂ p₂ w₂ r₂=>by
  have hb₂:=fun q=>hb (e₂.trans q)
  have rx:=j0.post X.g p₂ r₁
  cases ht:F t u with
  |none=>simp only [ht] at hb₂;exact (hb₂ trivial).elim
  |some c=>
   refine k1 A g₂ σ₂ s₂ x y t u c _ _ X.rm w₂ rx.y (j0.y r₂) ht fun tk=>⟨c,rfl,fun q=>?_,fun q=>?_⟩
   ·subst q
    simp only [ht] at hb₂ e₂
    have pt:=aE.toks g₂ s₂ tk
    refine hr n A env g₂ ρ σ₂ {s₂ with toks:=tk} _ _ E ((X.post p₂ w₂).post pt w₂) hb₂ fun z s₃ g₃ v σ₃ e₃ p₃ w₃ r₃=>?_
    obtain ⟨b,e'⟩:=bY fun q=>hb₂ (e₃.trans q)
    exact k2 A g₃ σ₃ s₃ y z u v b _ _ X.rm w₃ (j0.post (s:={s₂ with toks:=tk}) w₂ p₃ r₂).y (j0.y r₃) e' fun tk'=>⟨b,rfl,hq b _ g₃ b σ₃ (e₂.trans (e₃.trans (by rw [e'];rfl))) ((p₂.trans pt).trans (p₃.trans (.toks _ _ _))) w₃ rfl⟩
   ·subst q
    simp only [ht] at e₂
    exact hq false _ g₂ false σ₂ e₂ (p₂.trans (.toks _ _ _)) w₂ rfl
theorem ch.cmp2 {l m r:Expr}{o1 o2:CmpOp}{pos:Pos}{pl pm pr:PE}{F G:T→T→Option Bool}(k1:jw P o1 F)(k2:jw P o2 G)(hM:∀env,markedEach [o1,o2] [m,r] (evalEach [m,r] env)=[eval m env,eval r env])(hl:ak P B C l pl (RX P))(hm:ak P B C m pm (RX P))(hr:ak P B C r pr (RX P)):ch P B C (.Compare l [o1,o2] [m,r] pos) (i9 F G pl pm pr):=
 (chain k1 k2 hl hm hr).map fun A env Q E s h=>kI (hM env) (wpAny_mono h (fun a s₁ h=>wpAny_mono h (fun b s₂ h=>wpAny_mono h (fun c s₃ ⟨t,e,h1,h2⟩=>⟨t,e,fun q=>wpAny_mono (h1 q) (fun d s₄ h=>wpAny_mono h (fun v s₅ ⟨u,e,h⟩=>by rw [e];exact wpAny_truthy_bool h) fun _ _ q=>q) fun _ _ q=>q,h2⟩) fun _ _ q=>q) fun _ _ q=>q) fun _ _ q=>q)
theorem ak.cmp2 {l m r:Expr}{o1 o2:CmpOp}{pos:Pos}{pl pm pr:PE}{F G:T→T→Option Bool}(k1:jw P o1 F)(k2:jw P o2 G)(hM:∀env,markedEach [o1,o2] [m,r] (evalEach [m,r] env)=[eval m env,eval r env])(hl:ak P B C l pl (RX P))(hm:ak P B C m pm (RX P))(hr:ak P B C r pr (RX P)):ak P B C (.Compare l [o1,o2] [m,r] pos) (pB (i9 F G pl pm pr)) (RV P):=
 ((chain k1 k2 hl hm hr).bind (N:=fun A env b Q E s=>Q (.bool b) s) (F:=fun _ _ k b σ=>k (.bool b) σ) kq fun n A env g g₁ ρ σ s s₁ x t k Q E p X r hb hq=>hq _ s₁ g₁ _ σ rfl (.refl _ _) X.g (by cases r;rfl)).map fun A env Q E s h=>yn (hM env) (wpAny_mono h (fun a s₁ h=>wpAny_mono h (fun b s₂ h=>wpAny_mono h (fun c s₃ ⟨t,e,h1,h2⟩=>⟨t,e,fun q=>wpAny_mono (h1 q) (fun d s₄ h=>wpAny_mono h (fun v s₅ ⟨u,e,h⟩=>by rw [e];exact h) fun _ _ q=>q) fun _ _ q=>q,h2⟩) fun _ _ q=>q) fun _ _ q=>q) fun _ _ q=>q)
end
structure hJ where
 i:Nat
 x:Str
 k:NameKind
 p:Pos
noncomputable def hJ.e (z:hJ):Expr:=.Name z.x z.p
noncomputable def AM (B:bB)(C:Ct)(zs:List hJ):Bool:=zs.all fun z=>(B.tab[z.i]?==some (some (z.x,z.k)))&&((z.k==.local||z.k==.cell)&&b9 C z.i false C)
structure hJ.ok (B:bB) (C:Ct) (z:hJ):Prop where
 t:B.tab[z.i]?=some (some (z.x,z.k))
 k:z.k=.local∨z.k=.cell
 s:b9 C z.i false C=true
theorem BA {B:bB}{C:Ct}{zs:List hJ}(h:AM B C zs=true)(z:hJ)(hz:z∈zs):z.ok B C:=by
 obtain ⟨h1,h2⟩:=Bool.and_eq_true_iff.mp (List.all_eq_true.mp h z hz)
 obtain ⟨h2,h3⟩:=Bool.and_eq_true_iff.mp h2
 exact ⟨eq_of_beq h1,(Bool.or_eq_true_iff.mp h2).imp eq_of_beq eq_of_beq,h3⟩
theorem fh (env:Env):∀zs:List hJ,(assignEach (zs.map hJ.e) env).map (·.2)=zs.map (fun z=>assign z.e env)∧(assignEach (zs.map hJ.e) env).length=zs.length∧(assignEach (zs.map hJ.e) env).findIdx? (·.1)=none
 | []=>⟨rfl,rfl,rfl⟩
 |z::zs=>by
  obtain ⟨h1,h2,h3⟩:=fh env zs
  have e:assignEach ((z::zs).map hJ.e) env=(false,assign z.e env)::assignEach (zs.map hJ.e) env:=rfl
  rw [e]
  refine ⟨by rw [List.map_cons,List.map_cons,h1],by rw [List.length_cons,h2];rfl,?_⟩
  rw [List.findIdx?_cons,h3];rfl
theorem j6:∀{is:List Nat} {ts:List T} {ρ ρ':aH},dI is ts ρ=some ρ'→is.length=ts.length
 | [],[],_,_,_=>rfl
 | [],_::_,_,_,e=>by cases e
 |_::_,[],_,_,e=>by cases e
 |_::is,_::ts,_,_,e=>congrArg (·+1) (j6 (is:=is) (ts:=ts) e)
section
variable {P:Pg} {B:bB} {C C':Ct} {fr:Bool} {n:Nat} {A:Around} {env:Env} {g g':Gh} {ρ ρ':aH} {σ:Sg} {s s':Shared} {h h':Heap} {E:Value→Shared→Prop}
theorem jr {Q:Unit→Shared→Prop}:∀(zs:List hJ) (ts:List T) (us:List Value) (ρ:aH) (s:Shared),dI (zs.map (·.i)) ts ρ=some ρ'→(∀z∈zs,z.ok B C)→At P B C n A env g ρ σ s→aR P g s.heap ts us→(∀s',bH [] (own env) g s g s'→At P B C n A env g ρ' σ s'→Q () s')→wpAny P.M A (assignInOrder (zs.map (fun z=>assign z.e env)) us) Q E s
 | [],[],us,ρ,s,e,hz,X,r,h=>by
  cases r;cases e
  exact assignInOrder_nil (h s (aE.refl g s).toE X)
 | [],_::_,us,ρ,s,e,hz,X,r,h=>by cases e
 |z::zs,[],us,ρ,s,e,hz,X,r,h=>by cases e
 |z::zs,t::ts,us,ρ,s,e,hz,X,r,h=>by
  obtain ⟨v,vs,rfl,r,rs⟩:=r
  have o:=hz z List.mem_cons_self
  refine assignInOrder_cons (wpAny_assign_Name (gV X o.s o.t o.k r fun s' p X'=>?_))
  have p:bH [] (own env) g s g s':=p.weak (fun _ h=>h) cU
  exact jr zs ts vs (ρ.set z.i (some t)) s' e (fun w hw=>hz w (List.mem_cons_of_mem _ hw)) X' (rs.mono (p.toS.k X.g fun a ha=>(X.env.own a ha).2.1)) fun s'' p' X''=>h s'' (p.trans p') X''
theorem iJ {Q:Unit→Shared→Prop}{zs:List hJ}{ts:List T}{us:Array Value}{a:Addr}{m kt:Nat}{pt:Pos}(hz:AM B C zs=true)(e:dI (zs.map (·.i)) ts ρ=some ρ')(X:At P B C n A env g ρ σ s)(ea:s.heap.get? a=some (ia us m))(rs:aR P g s.heap ts us.toList)
  (h:∀s',bH [] (own env) g s g s'→At P B C n A env g ρ' σ s'→Q () s'):wpAny P.M A (assign (.Tuple (zs.map hJ.e) kt pt) env (.ref a)) Q E s:=by
 obtain ⟨h1,h2,h3⟩:=fh env zs
 refine wpAny_assign_Tuple X.room.2.2 ⟨_,ea,rfl,m,rfl⟩ (by rw [h2,←List.length_map (f:=(·.i)),j6 e,←rs.length];rfl) h3 fun h' hk=>?_
 have k:∀b o,s.heap.get? b=some o→h'.get? b=some o:=fun b o e=>hk b o (fun q=>an e (q▸aF _)) e
 have p₁:aE g s g {s with heap:=h',toks:=s.toks}:=.grow s.toks k g.F (fun _ f=>f) fun _ f=>.inl f
 rw [h1]
 exact jr zs ts _ ρ _ e (BA hz) (X.post p₁ (X.g.grow k g.F (fun _ f=>f) fun _ f=>.inl f)) (rs.mono (p₁.k X.g)) fun s' p' X'=>h s' (p₁.toE.trans p') X'
theorem og:∀(xs:List T) (k i:Nat),(kj k xs)[i]?=(xs[i]?).map fun v=>T.tup [.int ((k+i:Nat):Int),v]
 | [],_,_=>rfl
 |x::xs,k,0=>rfl
 |x::xs,k,i+1=>by
  have:=og xs (k+1) i
  rw [Nat.add_right_comm] at this
  exact this
theorem fL:∀(xs:List T) (k:Nat),(kj k xs).length=xs.length
 | [],_=>rfl
 |_::xs,k=>congrArg (·+1) (fL xs (k+1))
noncomputable def yk (P:Pg)(ts:List T)(e it l:Addr)(vs:Array Value)(m k:Nat)(g:Gh)(h:Heap):Prop:=(∃old,IsEnum h e it k old)∧h.IsListIter it l k∧g.F l∧h.get? l=some (br vs m)∧aR P g h ts vs.toList
theorem yk.stay {ts:List T}{e it l:Addr}{vs:Array Value}{m k:Nat}(st:yk P ts e it l vs m k g h)(kf:aO g h g' h')(ki:∀a∈[e,it],∀o,h.get? a=some o→h'.get? a=some o):yk P ts e it l vs m k g' h':=by
 obtain ⟨⟨old,h1⟩,⟨o,h2,h3⟩,f,e',q⟩:=st
 exact ⟨⟨old,ki e List.mem_cons_self _ h1⟩,⟨o,ki it (List.mem_cons_of_mem _ List.mem_cons_self) o h2,h3⟩,(kf.F l f).1,(kf.F l f).2 _ e',q.mono kf⟩
theorem kx.enum (hh:A.handled=none){e it l:Addr}{vs:Array Value}{m:Nat}{ts:List T}{z1 z2:hJ}{kt:Nat}{pt:Pos}(hz:AM B C [z1,z2]=true)(hei:e≠it):
  kx P A B C C (.Tuple [z1.e,z2.e] kt pt) (vn z1.i z2.i) own e (kj 0 ts) [e,it] [] (yk P ts e it l vs m) where
 sub:=fun _ _ h=>h
 stay:=fun k g h g' h' st kf ki=>st.stay kf ki
 here:=fun k g h st b hb=>by
  obtain ⟨⟨old,g1⟩,⟨o,g2,_⟩,_⟩:=st
  rcases List.mem_cons.mp hb with rfl |hb
  ·exact an g1
  ·rw [List.mem_singleton.mp hb];exact an g2
 self:=fun k g s Q E st h=>by
  obtain ⟨⟨old,g1⟩,_⟩:=st
  exact wpAny_pyIter_enum g1 h
 item:=fun k v n env g ρ ρ' σ s Q E hj X hv st hρ hq=>by
  obtain ⟨⟨old,g1⟩,g2,f,b1,b2⟩:=id st
  rw [og] at hj
  obtain ⟨x,hx,rfl⟩:=Option.map_eq_some_iff.mp hj
  obtain ⟨u,hu,r⟩:=b2.get hx
  refine wpAny_pyNext_enum_item g1 g2 ⟨_,b1,rfl,m,rfl⟩ (by rw [←Array.getElem?_toList];exact hu) hei fun h' ho hit' ht hsz hk=>?_
  refine wpAny_letOwnedTupleGo_enum ho fun h₂ he₂ hs₂=>?_
  have hel:s.heap.objs.size≠e:=fun q=>an g1 (q▸aF _)
  have hk2:∀b o,s.heap.get? b=some o→b∉[e,it]→h₂.get? b=some o:=fun b o e' hb=>(hs₂.2 b fun q=>hb (q▸List.mem_cons_self)).trans (hk b o (fun q=>hb (q▸List.mem_cons_self)) (fun q=>hb (q▸List.mem_cons_of_mem _ List.mem_cons_self)) e')
  obtain ⟨pV,X₁⟩:=dk X hv hk2 (s.toks+1)
  have lve:h₂.get? e≠none:=an he₂
  have lvi:h₂.IsListIter it l (k+1):=let ⟨o,w1,w2⟩:=hit';⟨o,(hs₂.2 it (Ne.symm hei)).trans w1,w2⟩
  have kf:aO g s.heap g h₂:=⟨fun b f=>⟨f,fun o e=>hk2 b o e fun q=>(hv b q).1 f⟩,rfl⟩
  have pV:=dP pV fun b hb=>by
   rcases List.mem_cons.mp hb with rfl |hb
   ·exact lve
   ·rw [List.mem_singleton.mp hb];exact let ⟨_,e,_⟩:=lvi;an e
  have st':yk P ts e it l vs m (k+1) g h₂:=⟨⟨_,he₂⟩,lvi,f,(kf.F l f).2 _ b1,b2.mono kf⟩
  refine iJ (zs:=[z1,z2]) (ts:=[.int ((0+k:Nat):Int),x]) hz hρ X₁ ((hs₂.2 _ hel).trans ht) ⟨_,_,rfl,⟨s.toks,by rw [Nat.zero_add]⟩,_,_,rfl,r.mono kf,rfl⟩ fun s' p' X'=>?_
  exact hq s' ((pV.weak (fun _ h=>h) fun a=>List.mem_append_left _).trans (p'.weak (fun _ h=>h) fun a=>List.mem_append_right _)) X' (st'.stay (p'.toS.k X₁.g fun a ha=>(X₁.env.own a ha).2.1) fun a ha o e=>p'.keep a o e (hv a ha).2.1 (hv a ha).2.2.2)
 done:=fun n env g ρ σ s Q E X hv st hq=>by
  obtain ⟨⟨old,g1⟩,g2,f,b1,b2⟩:=id st
  rw [fL] at g1 g2
  refine wpAny_pyNext_enum_end hh g1 g2 ⟨_,b1,rfl,m,rfl⟩ (Array.getElem?_eq_none (Nat.le_of_eq b2.size)) fun h' hk=>?_
  obtain ⟨pV,X₁⟩:=dk (h':=h') X hv (fun b o e' hb=>hk b o (fun q=>hb (q▸List.mem_cons_of_mem _ List.mem_cons_self)) e') s.toks
  exact hq _ pV X₁
theorem eT.enum {x:Expr}{d:PE}{z1 z2:hJ}{kt:Nat}{pt p pos:Pos}(hz:AM B C [z1,z2]=true)(hx:B.sc.names.lookup (ofString "enumerate")=some .globalImplicit)(hn:∀env,starEach [x] env=[(false,eval x env)])(h:ak P B C x d (RV P)):
  eT P B C (.Call (.Name (ofString "enumerate") p) [x] [] pos) (yj P B C C (.Tuple [z1.e,z2.e] kt pt) (vn z1.i z2.i) own) (kb d):=fun n A env g ρ σ s k Q E X hb hq=>by
 refine Call_Name rfl (X.blt hx (by decide) (by decide) (v:=.type "enumerate") (by decide) (bw (fun _ q=>by cases q) (bF (by rw [hn env];exact fun q hq=>by cases hq with |head=>rfl |tail _ h=>cases h)) (wpAny_items_cons (h n A env g ρ σ s _ _ E X hb fun x s₁ g₁ t σ₁ e₁ p₁ w₁ r₁=>wpAny_items_nil ?_) (hn env))))
 obtain ⟨ts',e'⟩:=bY fun q=>hb (e₁.trans q)
 obtain ⟨ts,e2,e3⟩:=ar e'
 cases eh e2
 obtain ⟨l,rfl,f,vs,m,b1,b3,b2⟩:=r₁
 refine call_enumerate_1 b1 fun h' ge gi _ hk=>wpAny_pyIter_enum ge ?_
 have hne:s₁.heap.get? (s₁.heap.objs.size+1)=none:=Heap.get?_none_of_le (Nat.le_succ _)
 have p₂:aE g₁ s₁ g₁ {s₁ with heap:=h',toks:=s₁.toks}:=.grow s₁.toks hk g₁.F (fun _ f=>f) fun _ f=>.inl f
 cases e3
 refine hq _ g₁ _ σ₁ _ [_,s₁.heap.objs.size] [] _ (e₁.trans (by rw [e'];rfl)) (p₁.trans p₂) (w₁.grow hk g₁.F (fun _ f=>f) fun _ f=>.inl f) (kx.enum (l:=l) X.room.2.2 hz (Nat.ne_of_gt (Nat.lt_succ_self _))) ⟨⟨_,ge⟩,gi,f,hk _ _ b1,b2.mono (p₂.k w₁)⟩ (fun b hb=>?_) (fun _ q=>nomatch q) (by rw [fL];exact b3)
 have:s₁.heap.get? b=none:=by
  rcases List.mem_cons.mp hb with rfl |hb
  ·exact hne
  ·rw [List.mem_singleton.mp hb];exact aF _
 exact ⟨p₁.back b this,fun q=>w₁.F b q this,fun q=>(w₁.Z b q).1 this⟩
theorem nB.str (hh:A.handled=none){I:Addr}{x:Str}{t:Tok}(ha:x.cps.all (· < 128)=true):nB P A I (x.cps.toList.map fun c=>T.str ⟨#[c]⟩) [I] [] (fun i _ h=>h.IsStrIter I "str_ascii_iterator" x t i) where
 self i g s Q E st:=wpAny_pyIter_striter_ascii st
 stay i g h g' h' st k ki:=let ⟨o,e,r⟩:=st;⟨o,ki I (List.mem_singleton.mpr rfl) o e,r⟩
 here i g h st a ha:=by
  obtain ⟨o,e,_⟩:=st
  rw [List.mem_singleton.mp ha];exact an e
 item i t g s Q E hi st hF hq:=by
  rw [List.getElem?_map] at hi
  obtain ⟨c,hc',rfl⟩:=Option.map_eq_some_iff.mp hi
  have hcx:x.cps[i]?=some c:=by rw [←Array.getElem?_toList];exact hc'
  refine wpAny_pyNext_ascii_item st hcx fun h' hit hs=>?_
  refine hq _ h' _ (gJ hs.2) ⟨⟨?_,(show 1≤lim by decide)⟩,_,rfl⟩ hit
  have hlt:c < 128:=by
   have:=Array.all_eq_true_iff_forall_mem.mp ha c (Array.mem_of_getElem? hcx)
   simpa using this
  simp [PyData.strOk]
  lia -abstractProof
 done g s Q E st hq:=wpAny_pyNext_ascii_end hh st (by rw [List.length_map];exact Array.getElem?_eq_none (Nat.le_refl _)) fun h' hs=>hq h' s.toks fun b o e hb=>hs b o (fun q=>hb (List.mem_singleton.mpr q)) e
theorem eT.str {e:Expr}{p:PE}{mk:Around→Addr→List T→List Addr→List Addr→(Nat→Gh→Heap→Prop)→Prop}(hb:iM P mk)(h:ak P B C e p (RV P)):eT P B C e mk (p1 Af p):=fun n A env g ρ σ s k Q E X hbad hq=>
 h n A env g ρ σ s (fun t σ=>up (Af t) σ k) _ E X hbad fun x s₁ g₁ t σ₁ e p w r=>by
  obtain ⟨ts,e'⟩:=bY fun q=>hbad (e.trans q)
  obtain ⟨y,e1,e2⟩:=ar e'
  obtain ⟨ha,e2⟩:=cz e2
  obtain ⟨⟨_,l⟩,u,rfl⟩:=eU.s (.inl r) e1
  refine wpAny_pyIter_ascii ha ?_
  obtain ⟨p',w',v⟩:=o7 (X:={cls:=.type "str_ascii_iterator",data:=.fields #[.str y u,.int 0 0]}) (tk:=s₁.toks) w p
  exact hq _ g₁ ts σ₁ _ _ [] _ (e.trans (by rw [e'];rfl)) p' w' (e2▸hb.make (nB.str X.room.2.2 ha)) ⟨_,bI _,rfl,rfl⟩ v (fun _ q=>nomatch q) (by rw [←e2,List.length_map];exact l)
theorem Cl:jw P .In EG:=fun A g σ s x x' t t' b Q E rm w q q' e k=>by
 obtain ⟨y,z,e1,e2,e3⟩:=bc e
 cases e3
 obtain ⟨_,u,rfl⟩:=q.s e1
 obtain ⟨_,v,rfl⟩:=q'.s e2
 exact PySem.P.in_str (k s.toks)
end
end
end Mine
namespace Mine
noncomputable section
open PySem PySem.W PyProof.Rows PySem.SeqAt
theorem fV:entryFor table "dict.update.loop"=some Builtin.«dict.update.loop»:=entryFor_of_tree (by kernel_rfl)
theorem cM:plainId "dict.update.loop"=true:=by decide+kernel
theorem uN:typeLookup (.type "list") "keys"=pure none:=by rw [typeLookup_type,builtinLookup_eq_fast];kernel_rfl
section
variable {prog:Program} {w:World} {A:Around} {E:Value→Shared→Prop} {s:Shared}
set_option maxRecDepth 100000 in
theorem uP {a:Addr}{xs:Array Value}{k:Nat}{Q:Option Value→Shared→Prop}(hx:s.heap.get? a=some {cls:=.type "list",dict:=none,data:=.seq xs k,slots:=#[]})(hA:A.handled=none)
  (h:∀h' tk,(∀b o,s.heap.get? b=some o→h'.get? b=some o)→Q none {s with heap:=h',toks:=tk}):wpAny (model prog w) A (getAttr? (.ref a) "keys") Q E s:=by
 obtain ⟨hp,g,d,tk,os⟩:=s
 have hT:∀tk',(⟨hp,g,d,tk',os⟩:Shared).TypeIs (.ref a) "list":=fun _=>⟨_,hx,rfl⟩
 have f1:=sub_AttributeError
 have f3:=F.slot_list_getattribute.lookup
 have f4:=F.slot_list_getattribute.bind (.ref a)
 have f5:=am_list_getattr_none
 unfold getAttr? getAttrBy? getAttrBy
 repeat (any_goals (first |assumption |exact hT _ | ((with_reducible show wpAny _ _ (call (Value.builtin "list.__getattribute__") _ _) _ _ _);refine call_meets F.slot_list_getattribute (hT _) am_entry_list_getattribute (F.args_list_getattribute_2 _ _) (meets_getattribute_miss_list a xs k #[] "keys" _ uN (by decide) (by size_fits)) ⟨hx,hA,fun h' tk' e hx'=>?_⟩) |wp_step))
 obtain ⟨t',u',he⟩:=hx'.there
 show wpAny _ _ (getattributeRaised _ _ _ _ _ _ _) _ _ _
 unfold getattributeRaised
 repeat (any_goals (first |assumption |wp_step))
 exact h _ _ hx'.keeps
theorem sj {a:Addr}{vs:Array Value}{n:Nat}{Q:List Value→Shared→Prop}(hx:s.heap.get? a=some {cls:=.type "tuple",dict:=none,data:=.seq vs n,slots:=#[]})(h:Q vs.toList s):wpAny (model prog w) A (Builtin.Dict.pairItems (.ref a)) Q E s:=by
 have hT:s.TypeIs (.ref a) "tuple":=⟨_,hx,rfl⟩
 unfold Builtin.Dict.pairItems
 refine wpAny_bind (wpAny_typeOf hT ?_)
 rw [if_pos (by decide)]
 refine wpAny_bind (wpAny_seqItems hx rfl (wpAny_pure ?_))
 exact h
end
noncomputable abbrev mx (es:List iO)(xs:List iO):List iO:=es.foldl (fun xs e=>storedH xs e.1 e.2.1 e.2.2) xs
section
variable {prog:Program} {w:World} {A:Around} {s:Shared} {knd:HeapKind prog w Ky}
theorem qf (xs:List iO)(κ:Ky)(a:Addr)(v:Value):(storedH xs κ a v).length≤xs.length+1:=by
 unfold storedH;split
 ·rw [List.length_map];lia -abstractProof
 ·rw [List.length_append];exact Nat.le_refl _
theorem tO {h h':Heap}{κ:Ky}{a:Addr}(k:∀b o,h.get? b=some o→h'.get? b=some o)(i:(bJ prog w).is h κ a):(bJ prog w).is h' κ a:=let ⟨d,e,x⟩:=i;⟨d,e,c9.keeps (fun _ _ _ e=>k _ _ e) d 6 _ x⟩
theorem rW {xs:List iO}{e x:iO}{p:Ky→Addr→Prop}(h:∀x∈xs,p x.1 x.2.1)(he:p e.1 e.2.1)(hx:x∈storedH xs e.1 e.2.1 e.2.2):p x.1 x.2.1:=by
 unfold storedH at hx
 split at hx
 ·obtain ⟨y,hy,rfl⟩:=List.mem_map.mp hx
  unfold putAt;split<;>exact h y hy
 ·rcases List.mem_append.mp hx with hx |hx
  ·exact h x hx
  ·rw [List.mem_singleton.mp hx];exact he
theorem s9 {n i k:Nat}(h:n - i=k+1):n - (i+1)=k:=by rw [Nat.sub_add_eq,h];rfl
inductive Gy (prog:Program) (w:World) (h:Heap) (o:Option iO) (v:Value):Prop
 |mk (a:Addr) (e:iO) (us:Array Value) (m:Nat) (hv:v=.ref a) (he:o=some e) (hg:h.get? a=some ⟨.type "tuple",none,.seq us m,#[]⟩) (hu:us.toList=[.ref e.2.1,e.2.2]) (hk:(bJ prog w).is h e.1 e.2.1)
theorem u4 {R:Result→Shared→Prop}{I:Addr}{fp wr:List Addr}{G:Array GenState→Array GenState→Prop}{n:Nat}{Pp:Nat→Value→Prop}{St:Nat→Shared→Prop}(hu:A.units+50 < cLine)(W:WalksS prog w A.in1 I fp wr G n Pp St)(S:Addr)(hSf:S∉fp)(h₀:Heap)(es:List iO)(hn:es.length=n)(hnl:n≤lim)
  (hval:∀i v,Pp i v→Gy prog w h₀ es[i]? v)(hS0:h₀.get? S=none)(hw0:∀b∈wr,h₀.get? b=none):
  ∀(k i:Nat) (s:Shared) (xs:List iO),n - i=k→i≤n→xs.length≤i→St i s→s.heap.DictOfH (bJ prog w) S xs→(∀x∈xs,(bJ prog w).is h₀ x.1 x.2.1)→(∀b o,h₀.get? b=some o→s.heap.get? b=some o)→
   (∀s',Moved (S::wr) G s s'→s'.heap.DictOfH (bJ prog w) S (mx (es.drop i) xs)→R (.ok (.ret .none)) s')→
   codeAny (model prog w) A (.builtin "dict.update.loop" ⟨[.ref S,.ref I,rawInt i,.none],[]⟩) R s:=by
 have hSw:S∉wr:=fun h=>hSf (W.sub _ h)
 have hsub:∀b∈wr,b∈S::wr:=fun b hb=>List.mem_cons_of_mem _ hb
 have kp:∀{s s':Shared},Moved wr G s s'→(∀b o,h₀.get? b=some o→s.heap.get? b=some o)→∀b o,h₀.get? b=some o→s'.heap.get? b=some o:=fun hm hkp b o e=>hm.heap b o (fun hb=>by rw [hw0 b hb] at e;cases e) (hkp b o e)
 have dm:∀{xs:List iO} {s s':Shared},Moved wr G s s'→(∀b o,h₀.get? b=some o→s.heap.get? b=some o)→(∀x∈xs,(bJ prog w).is h₀ x.1 x.2.1)→s.heap.DictOfH (bJ prog w) S xs→s'.heap.DictOfH (bJ prog w) S xs:=fun hm hkp hx d=>by
  obtain ⟨o,es,ep,h1,h2,h3,h4,h5,h6⟩:=d
  exact ⟨o,es,ep,hm.heap S _ hSw h1,h2,h3,h4,fun x hx'=>tO (kp hm hkp) (hx x hx'),h6⟩
 intro k
 induction k with
 |zero=>
  intro i s xs hk hi hxl hst hS hxs hkp hR
  obtain rfl:i=n:=Nat.le_antisymm hi (Nat.le_of_sub_eq_zero hk)
  rw [List.drop_of_length_le (by lia -abstractProof)] at hR
  refine codeAny_builtin fV ?_
  rw [Around.under_plainId cM _]
  show wpAny _ A.in1 (pyNext (.ref I) >>=_) _ _ s
  refine wpAny_bind (W.done s _ _ hst fun s' hm=>?_)
  show wpAny _ A.in1 (Builtin.Dict.addKeywords S [] >>=fun _=>ret Value.none) _ _ s'
  refine wpAny_bind (wpAny_pure ?_)
  exact wpAny_pure (hR s' (hm.mono hsub) (dm hm hkp hxs hS))
 |succ k ih=>
  intro i s xs hk hi hxl hst hS hxs hkp hR
  have hlt:i < n:=Nat.lt_of_sub_eq_succ hk
  refine codeAny_builtin fV ?_
  rw [Around.under_plainId cM _]
  show wpAny _ A.in1 (pyNext (.ref I) >>=_) _ _ s
  refine wpAny_bind (W.item i s _ _ hlt hst fun v s' hP hst' hm=>?_)
  obtain ⟨a,e,vs,m,rfl,hes,ha,hv,his⟩:=hval i v hP
  have hkp':=kp hm hkp
  have hS':=dm hm hkp hxs hS
  have hdrop:es.drop i=e::es.drop (i+1):=by
   obtain ⟨h1,h2⟩:=List.getElem?_eq_some_iff.mp hes
   rw [List.drop_eq_getElem_cons h1,h2]
  rw [hdrop] at hR
  show wpAny _ A.in1 (holding [Value.ref a] _ >>=_) _ _ s'
  refine wpAny_bind (wpAny_holding (wpAny_bind (wpAny_tryCatch (sj (hkp' a _ ha) ?_))))
  rw [hv]
  have hl:lim≤sizeLine:=by decide
  refine wpAny_holding (wpAny_dictSet_heap (show A.in1.units+6 < cLine by rw [Around.in1_units];lia) (tO hkp' his) hS' (fun h' hS2 hsb=>?_) (by lia -abstractProof))
  refine wpAny_pure ⟨plainId_quiet cM _,?_⟩
  have e1:((i:Int)+1)=((i+1:Nat):Int):=rfl
  show codeAny _ A (.builtin "dict.update.loop" ⟨[.ref S,.ref I,rawInt ((i:Int)+1),.none],[]⟩) R _
  rw [e1]
  refine ih (i+1) _ (storedH xs e.1 e.2.1 e.2.2) (s9 hk) hlt (Nat.le_trans (qf _ _ _ _) (by lia -abstractProof)) ?_ hS2 (fun x hx=>rW (p:=fun κ a=>(bJ prog w).is h₀ κ a) hxs his hx) (fun b o e=>?_) fun s'' hm'' hS''=>?_
  ·refine W.frame _ s' _ _ hst' (Nat.le_add_right _ _) fun b hb o e=>?_
   rw [hsb.2 b (fun h:b=S=>hSf (by rw [←h];exact hb))];exact e
  ·rw [hsb.2 b (fun h:b=S=>by rw [h,hS0] at e;cases e)];exact hkp' b o e
  ·refine hR s'' (Moved.trans W.gtrans ((hm.mono hsub).then_heap (Nat.le_add_right _ _) fun b o hb e=>?_) hm'') hS''
   rw [hsb.2 b (fun h:b=S=>hb (by rw [h];exact List.mem_cons_self))];exact e
set_option maxRecDepth 100000 in
theorem fX {E:Value→Shared→Prop}{l:Addr}{items:Array Value}{m:Nat}{es:List iO}{Q:Value→Shared→Prop}(hu:A.units+100 < cLine)(hh:A.handled=none)(hl:s.heap.get? l=some {cls:=.type "list",dict:=none,data:=.seq items m,slots:=#[]})(hn:es.length=items.size)(hnl:items.size≤lim)
  (hval:∀(i:Nat) v,items[i]?=some v→Gy prog w s.heap es[i]? v)
  (h:∀(h':Heap) (tk:Nat),h'.DictOfH (bJ prog w) s.heap.objs.size (mx es [])→(∀b o,s.heap.get? b=some o→h'.get? b=some o)→Q (.ref s.heap.objs.size) {s with heap:=h',toks:=tk}):
  wpAny (model prog w) A (call (.type "dict") [.ref l]) Q E s:=by
 refine callType_codes (Q₁:=fun obj s₁=>obj=.ref s.heap.objs.size∧s₁={s with heap:=s.heap.push {cls:=.type "dict",data:=.dict #[]}}) F.kt_called_dict (F.kt_typeCall_dict_1 _) F.entry_dict_init (kt_code_dict_new _ ⟨rfl,rfl⟩) ?_
 rintro obj s₁ ⟨rfl,rfl⟩
 have hnew:(s.heap.push {cls:=.type "dict",data:=.dict #[]}).DictOfH (bJ prog w) s.heap.objs.size []:=Heap.DictOfH.new s.heap
 have hl':(s.heap.push {cls:=.type "dict",data:=.dict #[]}).get? l=some {cls:=.type "list",dict:=none,data:=.seq items m,slots:=#[]}:=Heap.get?_push_of_some _ hl
 have hlT:Shared.TypeIs {s with heap:=s.heap.push {cls:=.type "dict",data:=.dict #[]}} (.ref l) "list":=⟨_,hl',rfl⟩
 refine ⟨hnew.typeIs,F.args_dict_init_2 _ _,?_⟩
 unfold Builtin.«dict.__init__»
 refine wpAny_bind ?_
 unfold Builtin.Dict.selfAndRest
 refine wpAny_bind (wpAny_notOrdered_dict hnew.typeIs ?_)
 show wpAny _ _ (pure (s.heap.objs.size,[Value.ref l])) _ _ _
 refine wpAny_pure ?_
 show wpAny _ _ (Builtin.Dict.updateFrom "dict.__init__" s.heap.objs.size (.ref l) [] .none) _ _ _
 unfold Builtin.Dict.updateFrom
 refine wpAny_bind (wpAny_typeOf hlT ?_)
 rw [if_pos (by decide)]
 refine wpAny_bind (uP hl' (by simp [hh]) fun h1 tk1 hk1=>?_)
 simp only [Option.isNone_none,if_true]
 refine wpAny_bind (wpAny_rule ?_)
 have hl1:h1.get? l=some {cls:=.type "list",dict:=none,data:=.seq items m,slots:=#[]}:=hk1 _ _ hl'
 have isl:Heap.IsList h1 l items:=⟨_,hl1,rfl,m,rfl⟩
 refine wpAny_bind (wpAny_pyIter_list isl ?_)
 refine wpAny_pure ⟨plainId_quiet cM _,?_⟩
 have hlS:l < s.heap.objs.size:=Heap.lt_size hl
 have hD1:h1.get? s.heap.objs.size≠none:=by
  obtain ⟨o,_,_,e,_⟩:=hnew
  rw [hk1 _ _ e];exact fun q=>by cases q
 have hSs:s.heap.objs.size < h1.objs.size:=by
  cases e:h1.get? s.heap.objs.size with
  |none=>exact absurd e hD1
  |some o=>exact Heap.lt_size e
 have hS0:s.heap.get? s.heap.objs.size=none:=aF _
 have k1:∀b o,s.heap.get? b=some o→h1.get? b=some o:=fun b o e=>hk1 b o (Heap.get?_push_of_some _ e)
 have hI0:s.heap.get? h1.objs.size=none:=by
  cases q:s.heap.get? h1.objs.size with
  |none=>rfl
  |some o=>have:=k1 _ _ q;rw [aF] at this;cases this
 have hd1:h1.DictOfH (bJ prog w) s.heap.objs.size []:=by
  obtain ⟨o,es,ep,g1,g2,g3,g4,g5,g6⟩:=hnew
  exact ⟨o,es,ep,hk1 _ _ g1,g2,g3,g4,fun x hx=>(by cases hx),g6⟩
 refine u4 (by show A.units+1+50 < cLine;lia) ((Walks.list (by simp [hh]) _ l (Nat.ne_of_lt (Nat.lt_trans hlS hSs)) items).toS) s.heap.objs.size ?_ s.heap es hn hnl hval hS0 (fun b hb=>by rw [List.mem_singleton.mp hb];exact hI0) (items.size - 0) 0 _ [] (by lia -abstractProof) (Nat.zero_le _) (Nat.zero_le _) ?_ ?_ (fun x hx=>by cases hx) (fun b o e=>Heap.get?_push_of_some _ (k1 b o e)) fun s' hm hS'=>?_
 ·simp only [List.mem_cons,List.not_mem_nil,or_false,not_or]
  exact ⟨Nat.ne_of_lt hSs,Nat.ne_of_gt hlS⟩
 ·exact ⟨⟨_,Heap.get?_push_size _ rfl,rfl,rfl⟩,(isl.push _)⟩
 ·obtain ⟨o,es,ep,g1,g2,g3,g4,g5,g6⟩:=hd1
  exact ⟨o,es,ep,Heap.get?_push_of_some _ g1,g2,g3,g4,fun x hx=>(by cases hx),g6⟩
 ·obtain ⟨h',g',d',tk',os'⟩:=s'
  have eg:g'=s.gens:=hm.gens
  have ed:d'=s.drawn:=hm.drawn
  have eo:os'=s.os:=hm.os
  subst eg;subst ed;subst eo
  refine ⟨rfl,h h' tk' (by simpa using hS') fun b o e=>?_⟩
  refine hm.heap b o (fun hb=>?_) (Heap.get?_push_of_some _ (k1 b o e))
  rcases List.mem_cons.mp hb with rfl |hb
  ·rw [hS0] at e;cases e
  ·rw [List.mem_singleton.mp hb,hI0] at e;cases e
end
section
variable {P:Pg} {B:bB} {C:Ct} {g:Gh} {h:Heap}
theorem oG {xs:List iO}{κ:Ky}{a:Addr}{v:Value}(nd:(xs.map (·.1)).Nodup):((storedH xs κ a v).map (·.1)).Nodup:=by
 unfold storedH
 split
 ·rw [keys_map_putAt];exact nd
 ·rename_i hn
  rw [List.map_append,List.nodup_append]
  refine ⟨nd,by simp,fun x hx y hy e=>hn ?_⟩
  rw [List.map_singleton,List.mem_singleton] at hy
  subst hy;subst e
  rw [m8]
  cases q:o9 (xs.map (·.1)) x with
  |none=>
   have:=List.findIdx?_eq_none_iff.mp q x hx
   rw [decide_eq_true rfl] at this;cases this
  |some i=>
   have:=tK q
   rw [List.getElem?_map] at this
   cases hx':xs[i]? with
   |none=>rw [hx'] at this;cases this
   |some z=>rw [Option.bind_some,hx'];rfl
theorem yT {α:Type}{i:Option Nat}{k v:α}{ks vs:List α}:(lO i k v ks vs).1.length≤ks.length+1:=by
 cases i with
 |none=>rw [lO,List.length_append];exact Nat.le_refl _
 |some j=>exact Nat.le_succ _
structure EF (P:Pg) (g:Gh) (h:Heap) (nv:Nat) (xs:List Value) (nk:Nat) (zs:List iO) (p:List T×List T) (es:List iO):Prop where
 len:es.length=nv
 at_:∀(i:Nat) v,xs[i]?=some v→Gy P.prog P.w h es[i]? v
 ky:e9 p.1=some ((mx es zs).map (·.1))
 rk:aR P g h p.1 ((mx es zs).map fun y=>Value.ref y.2.1)
 rv:aR P g h p.2 ((mx es zs).map (·.2.2))
 le:p.1.length≤nk+nv
theorem oh:∀(vs:List T) (xs:List Value) (ks ws:List T) (zs:List iO) (p:List T×List T),aR P g h vs xs→mw vs ks ws=some p→e9 ks=some (zs.map (·.1))→(zs.map (·.1)).Nodup→aR P g h ks (zs.map fun y=>Value.ref y.2.1)→aR P g h ws (zs.map (·.2.2))→
  ∃es:List iO,EF P g h vs.length xs ks.length zs p es
 | [],xs,ks,ws,zs,p,r,e,hk,nd,rk,rw'=>by
  cases r;cases e
  exact ⟨[],rfl,fun i v q=>(by cases q),hk,rk,rw',Nat.le_refl _⟩
 |x::vs,_,ks,ws,zs,p,⟨v0,xs,e0,q,r⟩,e,hk,nd,rk,rw'=>by
  subst e0
  obtain ⟨ps,e1,e2⟩:=ar (show o1 (pP x) _=some p from e)
  cases jW e1
  match ps,e2,q with
  | [k,v],e2,q=>
   obtain ⟨i,hd,e3⟩:=ar (show o1 (kN ks k) _=some p from e2)
   obtain ⟨κ,hky⟩:=jN hd
   obtain ⟨t,rfl,_,us,m,g1,_,u1,l1,hus,q1,u2,l2,e4,q2,e5⟩:=q
   cases e5;subst e4
   obtain ⟨ad,rfl,his,_⟩:=l6 hky (.inl q1)
   obtain ⟨p1,p2,p3⟩:=j5 (v:=v) (z:=u2) hk nd hd hky rk rw' q1 q2
   obtain ⟨es,h1,h2,h3,h4,h5,h6⟩:=oh vs _ _ _ (storedH zs κ ad u2) p r e3 p1 (oG nd) p2 p3
   refine ⟨(κ,ad,u2)::es,congrArg (·+1) h1,fun j w hw=>?_,h3,h4,h5,?_⟩
   ·cases j with
    |zero=>cases hw;exact ⟨t,_,us,m,rfl,rfl,g1,hus,his⟩
    |succ j=>exact h2 j w hw
   ·have:=yT (i:=i) (k:=k) (v:=v) (ks:=ks) (vs:=ws)
    rw [List.length_cons];lia -abstractProof
theorem ak.dictOf {e:Expr}{p:PE}{np pos:Pos}(hx:B.sc.names.lookup (ofString "dict")=some .globalImplicit)(hn:∀env,starEach [e] env=[(false,eval e env)])(h:ak P B C e p (RX P)):ak P B C (.Call (.Name (ofString "dict") np) [e] [] pos) (p1 qR p) (RN P):=fun n A env g ρ σ s k Q E X hb hq=>
 ak.b1 DP (fun A env g σ s x t y Q E rm w q e hq=>by
  obtain ⟨xs,e1,e2⟩:=ar e
  obtain ⟨p,e3,e4⟩:=ar e2
  cases e4
  obtain ⟨l,rfl,vs,n,a1,a3,a2⟩:=q.ls e1
  obtain ⟨es,h1,h2,h3,h4,h5,h6⟩:=oh xs vs.toList [] [] [] p a2 e3 rfl .nil rfl rfl
  have hz:=a2.size
  have hsn:=oJ X.good w
  refine fX (es:=es) (by have:=rm.units;lia) rm.handled a1 (by rw [h1];exact hz.symm) (by rw [hz];exact a3) (fun i v hv=>h2 i v (by rw [Array.getElem?_toList];exact hv)) fun h' tk dd hk=>?_
  obtain ⟨n1,n2,n3⟩:=dj w
  have p₁:aE g s g {s with heap:=h',toks:=tk}:=.grow tk hk g.F (fun _ f=>f) fun _ f=>.inl f
  exact hq _ _ g p₁ (w.grow hk g.F (fun _ f=>f) fun _ f=>.inl f) ⟨_,rfl,aF _,n1,n2,n3,Em.back hsn dd h3 (h4.mono (p₁.k w)) (h5.mono (p₁.k w)) (by rw [List.length_nil] at h6;lia -abstractProof)⟩)
  (fun _ q=>by cases q) hx (by decide) (by decide) (by decide) hn h n A env g ρ σ s k Q E X hb hq
end
end
end Mine
namespace Mine
noncomputable section
open PySem PySem.W PyProof.Rows
structure Gw (h:Heap) (mg:Str→Option Value) (nm:Str) (sc:Scope) (bd:List Stmt) (ps:List Str) (a:Addr) (fd:FuncData):Prop where
 ns:mg nm=some (.ref a)
 obj:∃o,h.get? a=some o∧o.data=.func fd
 code:h.CodeRec fd.code fd.qualname
 name:fd.name=nm
 sc:fd.scope=sc
 bd:fd.body=.stmts bd
 cl:fd.closure=[]
 gl:fd.globals=mainGlobals
 bt:fd.builtins=builtinsNs
 bind:∀vals:List Value,vals.length=ps.length→bindArgs fd ⟨vals,[]⟩=pure (ps.zip vals)
noncomputable def tT (q:Program)(nm:Str):Option (Scope×List Stmt×Arguments):=((recsOf q).find? fun d=>d.name==nm).map fun d=>(d.scope,d.body,d.params)
theorem zX {q:Program}{loose:List Str}{mean:ExcName→Option Value}{mg mb:Str→Option Value}{h:Heap}(T:Top q loose mean mg mb h){nm:Str}{sc:Scope}{bd:List Stmt}{pa:Arguments}(ps:List Str)(hr:tT q nm=some (sc,bd,pa))
  (hb:∀(pm cd doc:Value) (vals:List Value),vals.length=ps.length→bindArgs (Calls.docDef nm pa bd sc pm cd doc) ⟨vals,[]⟩=pure (ps.zip vals)):∃a fd,Gw h mg nm sc bd ps a fd:=by
 unfold tT at hr
 obtain ⟨d,hd,e⟩:=Option.map_eq_some_iff.mp hr
 have hn:d.name=nm:=beq_iff_eq.mp (List.find?_some (p:=fun d:DefRec=>d.name==nm) hd)
 obtain ⟨a,o,pm,cd,doc,h1,h2,h3,h4⟩:=T.fn d (List.mem_of_find?_eq_some hd)
 simp only [Prod.mk.injEq] at e
 obtain ⟨rfl,rfl,rfl⟩:=e
 subst hn
 exact ⟨a,_,h1,⟨o,h2,h3⟩,h4,rfl,rfl,rfl,rfl,rfl,rfl,hb pm cd doc⟩
noncomputable def tS (q:Program)(loose:List Str)(x:Str):Bool:=!startupNames.contains x&&!loose.contains x&&!((recsOf q).map (·.name)).contains x&&!((litsOf q).map (·.1)).contains x&&!((clssOf q loose).map (·.name)).contains x
theorem zT {q:Program}{loose:List Str}{mean:ExcName→Option Value}{mg mb:Str→Option Value}{h:Heap}(T:Top q loose mean mg mb h){x:Str}(hx:tS q loose x=true):mg x=none:=by
 simp only [tS,Bool.and_eq_true,Bool.not_eq_true',List.contains_eq_mem,decide_eq_false_iff_not] at hx
 obtain ⟨⟨⟨⟨h1,h2⟩,h3⟩,h4⟩,h5⟩:=hx
 exact T.free x h1 h2 h3 h4 h5
theorem xg {c:ClaimW}{cl:Str→Option Addr}{mean:ExcName→Option Value}{args:List WData}{s₁:Shared}{h:Heap}{tk:Nat}(hr:∀cls,c.raises args cls=false)(hp:c.post args (.bool true) args=true)(hb:AllBare s₁.gens)
  (hk:∀a o,s₁.heap.get? a=some o→h.get? a=some o):GoodWG c cl mean args s₁ (.ok (.ret (.bool true))) {s₁ with heap:=h,toks:=tk}:=
 ⟨.inl ⟨_,_,[],rfl,hr,ReadsW.bool true,hp,fun _=>⟨List.nodup_nil,fun _ hm=>(nomatch hm)⟩⟩,.of_keep hk,rfl,hb⟩
theorem Bo {Φ:Nat→Option fY}{p:Nat→Addr→FuncData→Prop}(h:∀f F,Φ f=some F→∃a d,p f a d){f₀:Nat}{F₀:fY}(h₀:Φ f₀=some F₀):∃(A:Nat→Addr) (D:Nat→FuncData),∀f F,Φ f=some F→p f (A f) (D f):=by
 obtain ⟨a₀,d₀,_⟩:=h f₀ F₀ h₀
 have h':∀f,∃x:Addr×FuncData,∀F,Φ f=some F→p f x.1 x.2:=fun f=>by
  cases e:Φ f with
  |none=>exact ⟨(a₀,d₀),fun F q=>by cases q⟩
  |some F=>
   obtain ⟨a,d,k⟩:=h f F e
   exact ⟨(a,d),fun _ _=>k⟩
 exact ⟨fun f=>(Classical.choose (h' f)).1,fun f=>(Classical.choose (h' f)).2,fun f=>Classical.choose_spec (h' f)⟩
noncomputable def Hn (mg:Str→Option Value)(x:Str):Addr:=match mg x with
 |some (.ref a)=>a
 |_=>0
structure nC (h:Heap) (mg mN:Str→Option Value) (gl:Bool) (nm:Str) (sc:Scope) (bd:List Stmt) (ps:List Str) (a:Addr) (fd:FuncData):Prop where
 ns:gl=true→mg nm=some (.ref a)
 me:gl=false→mN nm=some (.ref a)
 obj:∃o,h.get? a=some o∧o.data=.func fd∧(gl=false→o.cls=.type "function")
 code:h.CodeRec fd.code fd.qualname
 name:fd.name=nm
 sc:fd.scope=sc
 bd:fd.body=.stmts bd
 cl:fd.closure=[]
 gs:fd.globals=mainGlobals
 bt:fd.builtins=builtinsNs
 bind:∀vals:List Value,vals.length=ps.length→bindArgs fd ⟨vals,[]⟩=pure (ps.zip vals)
theorem nC.asMeth {h:Heap}{mg mN:Str→Option Value}{gl:Bool}{nm:Str}{sc:Scope}{bd:List Stmt}{ps:List Str}{a:Addr}{fd:FuncData}(x:nC h mg mN gl nm sc bd ps a fd)(hg:gl=false):(∃o,h.get? a=some o∧o.cls=.type "function")∧mN nm=some (.ref a):=by
 obtain ⟨o,h1,_,h3⟩:=x.obj
 exact ⟨⟨o,h1,h3 hg⟩,x.me hg⟩
theorem zY {q:Program}{loose:List Str}{mean:ExcName→Option Value}{mg mb mN:Str→Option Value}{h:Heap}(T:Top q loose mean mg mb h){nm:Str}{sc:Scope}{bd:List Stmt}{pa:Arguments}(ps:List Str)(hr:tT q nm=some (sc,bd,pa))
  (hb:∀(pm cd doc:Value) (vals:List Value),vals.length=ps.length→bindArgs (Calls.docDef nm pa bd sc pm cd doc) ⟨vals,[]⟩=pure (ps.zip vals)):∃a fd,nC h mg mN true nm sc bd ps a fd:=by
 obtain ⟨a,fd,x⟩:=zX T ps hr hb
 obtain ⟨o,h1,h2⟩:=x.obj
 exact ⟨a,fd,(fun _=>x.ns),(fun e=>nomatch e),⟨o,h1,h2,(fun e=>nomatch e)⟩,x.code,x.name,x.sc,x.bd,x.cl,x.gl,x.bt,x.bind⟩
noncomputable def mI (q:Program)(loose:List Str)(x:Str):Option ClsRec:=(plainsOf q loose).find? fun c=>c.name==x
noncomputable def wz (c:ClsRec)(nm:Str):Option (Scope×List Stmt×Arguments):=(c.meths.find? fun m=>m.name==nm).map fun m=>(m.scope,m.body,m.params)
theorem zg {h:Heap}{c:ClsRec}{C N:Addr}{mg mN:Str→Option Value}(A:PlainAt h c.withCmp C N mN){nm:Str}{sc:Scope}{bd:List Stmt}{pa:Arguments}(ps:List Str)(hr:wz c nm=some (sc,bd,pa))
  (hb:∀(qual:Str) (pm cd doc:Value) (vals:List Value),vals.length=ps.length→bindArgs (methDef nm qual pa bd sc pm cd doc) ⟨vals,[]⟩=pure (ps.zip vals)):∃a fd,nC h mg mN false nm sc bd ps a fd:=by
 unfold wz at hr
 obtain ⟨m,hm,e⟩:=Option.map_eq_some_iff.mp hr
 have hn:m.name=nm:=beq_iff_eq.mp (List.find?_some (p:=fun m:MethRec=>m.name==nm) hm)
 obtain ⟨f,o,pm,cd,doc,h1,h2,h3,h4,h5⟩:=A.meths m (List.mem_of_find?_eq_some hm)
 simp only [Prod.mk.injEq] at e
 obtain ⟨rfl,rfl,rfl⟩:=e
 subst hn
 exact ⟨f,_,(fun e=>by cases e),(fun _=>h1),⟨o,h2,h4,fun _=>h3⟩,h5,rfl,rfl,rfl,rfl,rfl,rfl,hb _ pm cd doc⟩
theorem Cm {q:Program}{loose:List Str}{mg:Str→Option Value}{h:Heap}{x:Str}(T:TopE q loose mg h)(hx:(mI q loose x).isSome=true):∃c C N mN,mI q loose x=some c∧mg x=some (.ref C)∧PlainAt h c.withCmp C N mN:=by
 obtain ⟨c,hc⟩:=Option.isSome_iff_exists.mp hx
 have hn:c.name=x:=beq_iff_eq.mp (List.find?_some (p:=fun c:ClsRec=>c.name==x) hc)
 obtain ⟨C,N,mN,h1,h2⟩:=T c (List.mem_of_find?_eq_some hc)
 exact ⟨c,C,N,mN,hc,hn▸h1,h2⟩
theorem uI {P:Pg}{c:ClsRec}{C N:Addr}{mN:Str→Option Value}{k:Nat}{ms:List (Str×Nat)}(A:PlainAt P.h₀ c.withCmp C N mN)(hC:P.cls k=C)(ha:(bV k).all (c.statics.contains ·)=true)(ho:∀x∈bV k,typeLookup (.type "object") x=pure none)
  (hm:∀p∈ms,(∃o,P.h₀.get? (P.fnA p.2)=some o∧o.cls=.type "function")∧mN p.1=some (.ref (P.fnA p.2)))(hy:∀p∈ms,∃y,typeLookup (.type "object") p.1=pure y):bu P k ms:=
 ⟨N,mN,hC▸A.cls,A.quiet _ (List.mem_append_left _ (.tail _ (.head _))),A.quiet _ (List.mem_append_left _ (.tail _ (.tail _ (.head _)))),A.quiet _ (List.mem_append_left _ (.head _)),fun x hx=>⟨A.quiet _ (List.mem_append_right _ (List.mem_append_left _ (List.contains_iff_mem.mp (List.all_eq_true.mp ha x hx)))),ho x hx⟩,fun p hp=>⟨(hm p hp).2,hy p hp,(hm p hp).1⟩⟩
theorem zR {q:Program}{loose:List Str}{mean:ExcName→Option Value}{P:Pg}(T:Top q loose mean P.mg P.mb P.h₀)(hn:iI.all (tS q loose)=true)
  (hf:∀f F,P.Ψ f=some F→∃mN nm sc bd ps,nC P.h₀ P.mg mN (P.gl f) nm sc bd ps (P.fnA f) (P.fd f)):rM P where
 g:=T.g
 b:=T.b
 nolimit:=T.nolimit
 fn:=fun f F h=>by
  obtain ⟨mN,nm,sc,bd,ps,x⟩:=hf f F h
  obtain ⟨o,e,d,_⟩:=x.obj
  exact ⟨o,e,d,fun g=>by rw [x.name];exact x.ns g,x.code,x.cl,x.gs,x.bt⟩
 blt:=fun x hx=>⟨zT T (List.all_eq_true.mp hn x hx),T.builtins x fun q=>by rw [q] at hx;revert hx;decide⟩
noncomputable def EH (sc:Scope)(tab:List (Option (Str×NameKind)))(ps:List Str)(U:List Nat)(np:Nat):Bool:=
 bB.ok ⟨sc,tab⟩&&((List.range ps.length).all (fun i=>match ps[i]?,tab[i]? with
  |some x,some (some (y,k))=>x==y&&(k==.local||k==.cell)
  |_,_=>false)&&(tab.all (fun e=>match e with |some (_,k)=>!(k==.free) |none=>true)&&(decide (((cellsFrom 0 sc.names []).map (·.1)).Nodup)&&(!sc.isCoroutine&&(!sc.isGenerator&&(Nat.beq ps.length np&&U.all (Nat.ble np)))))))
theorem xo {P:Pg}{f np:Nat}{mN:Str→Option Value}{gl:Bool}{nm:Str}{sc:Scope}{bd:List Stmt}{ps:List Str}{tab:List (Option (Str×NameKind))}{U:List Nat}(x:nC P.h₀ P.mg mN gl nm sc bd ps (P.fnA f) (P.fd f))(h:EH sc tab ps U np=true):El P f np tab ps bd U:=by
 obtain ⟨h1,h⟩:=Bool.and_eq_true_iff.mp h
 obtain ⟨h2,h⟩:=Bool.and_eq_true_iff.mp h
 obtain ⟨h3,h⟩:=Bool.and_eq_true_iff.mp h
 obtain ⟨h4,h⟩:=Bool.and_eq_true_iff.mp h
 obtain ⟨h5,h⟩:=Bool.and_eq_true_iff.mp h
 obtain ⟨h6,h⟩:=Bool.and_eq_true_iff.mp h
 obtain ⟨h7,h8⟩:=Bool.and_eq_true_iff.mp h
 have h7:=Nat.eq_of_beq_eq_true h7
 have hs:=x.sc
 refine ⟨x.bd,hs▸h1,h7,fun i y hy=>?_,fun i y ht=>?_,fun vals hv=>x.bind vals (by rw [h7];exact hv),hs▸of_decide_eq_true h4,⟨hs▸(Bool.not_eq_true' _).mp h5,hs▸(Bool.not_eq_true' _).mp h6⟩,fun i hi=>Nat.le_of_ble_eq_true (List.all_eq_true.mp h8 i hi)⟩
 ·have:=List.all_eq_true.mp h2 i (List.mem_range.mpr (List.getElem?_eq_some_iff.mp hy).1)
  rw [hy] at this
  cases ht:tab[i]? with
  |none=>rw [ht] at this;cases this
  |some e=>
   rw [ht] at this
   cases e with
   |none=>cases this
   |some p=>
    obtain ⟨z,k⟩:=p
    simp only [Bool.and_eq_true,Bool.or_eq_true,beq_iff_eq] at this
    obtain ⟨rfl,hk⟩:=this
    exact ⟨k,rfl,hk⟩
 ·have:=List.all_eq_true.mp h3 _ (List.mem_of_getElem? ht)
  cases this
theorem zW {P:Pg}{f:Nat}{F:fY}{mN:Str→Option Value}{gl:Bool}{nm:Str}{sc:Scope}{bd:List Stmt}{ps:List Str}{tab:List (Option (Str×NameKind))}{U:List Nat}{C':Ct}(x:nC P.h₀ P.mg mN gl nm sc bd ps (P.fnA f) (P.fd f))(h:EH sc tab ps U F.np=true)(sim:gR P ⟨sc,tab⟩ ⟨[],U,rP f⟩ (kM f) C' bd F.body):vk P f F:=
 ⟨tab,ps,bd,U,C',xo x h,by rw [x.sc];exact sim⟩
theorem hE {q:Program}{loose:List Str}{mean:ExcName→Option Value}{mg mb:Str→Option Value}{h:Heap}{x:Str}{n:Int}{P:Pg}(T:Top q loose mean mg mb h)(hs:valOf q x=some (.int n)):∃u,mg x=some u∧∀g h,Rp P g h (.int n) u:=by
 obtain ⟨v,h1,h2⟩:=T.const x _ hs
 refine ⟨v,h1,fun g h=>?_⟩
 cases h2 h
 exact ⟨_,rfl⟩
theorem u6 {q:Program}{loose:List Str}{mean:ExcName→Option Value}{mg mb:Str→Option Value}{h:Heap}{x:Str}{n:Str}{P:Pg}(T:Top q loose mean mg mb h)(hs:valOf q x=some (.str n))(hn:n.length≤lim∧PyData.strOk n=true):∃u,mg x=some u∧∀g h,Rp P g h (.str n) u:=by
 obtain ⟨v,h1,h2⟩:=T.const x _ hs
 refine ⟨v,h1,fun g h=>?_⟩
 cases h2 h
 exact ⟨⟨hn.2,hn.1⟩,_,rfl⟩
theorem w7:∀{vs:List Value} {ns:List Int},IntsAre vs ns→ox ns vs
 |_,_,.nil=>rfl
 |_,_,.cons n t r=>⟨t,_,rfl,w7 r⟩
noncomputable abbrev g0 (h:Heap):Gh:=⟨fun a=>h.get? a≠none,fun _=>False,fun _=>none,0,0⟩
noncomputable abbrev g1 (h:Heap)(a:Addr):Gh:=⟨fun a=>h.get? a≠none,fun b=>b=a,fun _=>none,a,0⟩
theorem Bl {P:Pg}{h h₁:Heap}{s0:Int}{tk:Nat}(hs:P.h₀=h)(keep:∀a o,h.get? a=some o→h₁.get? a=some o)(w2:∀a o,h₁.get? a=some o→(h₁.push (br #[.int s0 tk] 0)).get? a=some o):bv P (g1 h h₁.objs.size) (h₁.push (br #[.int s0 tk] 0)) ⟨s0,none⟩:=
 have bk:=b7 keep
 have pS:=bI (h:=h₁) (br #[.int s0 tk] 0)
 ⟨fun a o e=>have e:h.get? a=some o:=hs▸e;⟨an e,w2 a o (keep a o e)⟩,fun a f e=>f (bk a (b7 w2 a e)),fun a z=>by rw [show a=_ from z];exact ⟨an pS,fun f=>f (bk _ (aF _))⟩,(fun a q=>let ⟨_,q⟩:=q;nomatch q),(fun _ _ _ q=>nomatch q),⟨⟨tk,0,pS⟩,rfl,fun _ _ z=>z⟩,fun _ _ q=>nomatch q⟩
theorem Bm {P:Pg}{B:bB}{U:List Nat}{env:Env}{h h₁ h₂:Heap}{ns:List Int}{m:Nat}(w2:∀a o,h₁.get? a=some o→h₂.get? a=some o)(E1:bW P B ⟨[],U,false⟩ env (g0 h) (frame [.scr ns] m) h₁):bW P B ⟨[],U,false⟩ env (g1 h h₁.objs.size) (frame [.scr ns] m) h₂:=
 {E1 with
  ns:=let ⟨m,n⟩:=E1.ns;⟨m,n.at (w2 _)⟩
  cell:=fun i y k ht hk=>let ⟨c,u,h1,o,e,d⟩:=E1.cell i y k ht hk;⟨c,u,h1,o,w2 _ _ e,d⟩
  own:=fun a ha=>⟨fun e=>(E1.own a ha).1 (b7 w2 a e),(E1.own a ha).2.1,fun z=>(E1.own a ha).1 (by rw [show a=_ from z];exact aF _),fun ⟨_,q⟩=>nomatch q⟩
  var:=fun i y t ht hv=>by
   obtain ⟨u,v,q⟩:=E1.var i y t ht hv
   refine ⟨u,v.move fun a _=>w2 a,?_⟩
   cases i with
   |zero=>cases gX hv;exact .inl (q.elim (fun r=>r) fun r=>nomatch r.1)
   |succ i=>cases gX hv}
noncomputable def AI (Q:Value→Shared→Prop)(r:Result)(s':Shared):Prop:=match r with |.ok (.ret v)=>Q v s' |_=>False
theorem vT {Q:Value→Shared→Prop}:∀{r:Result} {s':Shared},AI Q r s'→match r with |.ok (.ret x)=>Q x s' |.ok _=>False |.error _=>False
 |.ok (.ret _),_,q=>q
 |.ok .next,_,q=>q
 |.ok .brk,_,q=>q
 |.ok .cont,_,q=>q
 |.error _,_,q=>q
theorem wP {P:Pg}(G:rM P)(hF:∀f F,P.Ψ f=some F→vk P f F){A:Around}{n L m:Nat}{F:fY}{tab:List (Option (Str×NameKind))}{ps:List Str}{bd:List Stmt}{U:List Nat}{C':Ct}{y:Str}{k:NameKind}{s0:Int}{kk:Nat}{q1 q2 q3 q4:Pos}{p:PS}{l:Addr}{vs:List Value}{ns:List Int}{σ:Sg}{s:Shared}
  (hL:P.Ψ L=some F)(K:El P L 1 tab ps (.Assign [.Name y q1] (.List [.Constant (.int s0) kk q2] q3) q4::bd) U)(ht:tab[1]?=some (some (y,k)))(hk:k=.local∨k=.cell)(hw:vp (.List [.Constant (.int s0) kk q2] q3) y q1 q4.line (P.fd L).scope=false)(hc:b9 ⟨[],U,false⟩ 1 false ⟨[],U,false⟩=true)(sim:gR P ⟨(P.fd L).scope,tab⟩ ⟨[],U,false⟩ false C' bd p)
  (hs:P.h₀=s.heap)(room:nA A (n+1))(hl:s.heap.IsList l vs.toArray)(hi:IntsAre vs ns)(hn:ns.length≤63)(hp:p (P.cx n) (frame [.scr ns,.spot] m) ⟨s0,none⟩ (fun _ σ=>.ret .none σ)=.ret (.bool true) σ):
  wpAny P.M A (PySem.call (.ref (P.fnA L)) [.ref l]) (fun v s'=>v=.bool true∧∃h' tk,s'={s with heap:=h',toks:=tk}∧∀a o,s.heap.get? a=some o→h'.get? a=some o) (fun _ _=>False) s:=by
 have hlen:=hi.length
 refine wpAny_call (codeAny_mono (R:=AI fun v s'=>v=.bool true∧∃h' tk,s'={s with heap:=h',toks:=tk}∧∀a o,s.heap.get? a=some o→h'.get? a=some o) (AW (ns:=m+1) (m:=false) (g:=g0 s.heap) (ts:=[.scr ns]) G hL K (Nat.lt_of_le_of_lt (Nat.le_trans (Nat.le_add_right _ _) (Nat.le_add_right _ _)) room.1) (fun a o e=>hs▸e) (fun _ h=>h) (fun _ h=>h.elim)
  (show aR P (g0 s.heap) s.heap [.scr ns] [.ref l] from ⟨_,_,rfl,⟨l,_,rfl,by rw [hs];exact hl,by rw [List.size_toArray];have:lim=1000000:=rfl;lia -abstractProof,w7 hi⟩,rfl⟩) rfl fun s₁ env E' same keep hW E1=>?_) fun r s' q=>?_)
 ·refine wpAny_execs_cons (wpAny_Assign_Name (wpAny_List (wpAny_items_cons (wpAny_Constant_int (wpAny_items_nil ⟨(show 1≤sizeLine by decide),?_⟩)) rfl)) (by rw [jD E1.sc,hw]))
  have w2:∀a o,s₁.heap.get? a=some o→(s₁.heap.push (br #[.int s0 s₁.toks] 0)).get? a=some o:=bQ s₁ _
  have X:At P ⟨(P.fd L).scope,tab⟩ ⟨[],U,false⟩ n (A.deeper env) env _ (frame [.scr ns] (m+1)) ⟨s0,none⟩ {s₁ with heap:=s₁.heap.push (br #[.int s0 s₁.toks] 0),toks:=s₁.toks+1}:=⟨G,sQ G hF n,room.deeper _,Bm w2 E1,Bl hs keep w2⟩
  refine gV (t:=.spot) X hc ht hk rfl fun s₃ p₃ X₃=>sim n _ _ _ (frame [.scr ns,.spot] m) ⟨s0,none⟩ s₃ (fun _ σ=>.ret .none σ) _ _ X₃ (by rw [hp];exact fun q=>by cases q) (fun s' g' ρ' σ' e p X'=>?_) fun x s' g' t σ' e p w' r'=>?_
  ·rw [hp] at e;cases e
  ·rw [hp] at e;cases e
   obtain ⟨h₄,t₄,e4⟩:=St.trans (St.trans same p₃.st) p.st
   exact ⟨r',h₄,t₄,e4,fun a o e=>by have:=(w'.base a o (hs▸e)).2;rw [e4] at this;exact this⟩
 ·exact vT q
end
end Mine
namespace Mine
noncomputable section
open PySem PyProof.Rows PySem.SeqAt
section
variable {P:Pg} {B Bc:bB} {C Ci:Ct} {fr:Bool} {c i:Nat} {y name:Str} {k:NameKind} {np apos cpos pos p:Pos} {e:Expr} {pe:PE} {ms:List (Str×Nat)}
theorem bindL (hc:b9 C i false Ci=true)(ht:Bc.tab[i]?=some (some (y,.local))):iM P (yj P Bc C Ci (.Name y p) (aM i) (lq none)):=iM.one hc ht (.inl rfl)
theorem bindC (hc:b9 C i false Ci=true)(ht:Bc.tab[i]?=some (some (y,.cell))):iM P (yj P Bc C Ci (.Name y p) (aM i) (lq (some y))):=iM.one hc ht (.inr rfl)
theorem aN.app (hv:bq C i=true)(ht:B.tab[i]?=some (some (y,k)))(hline:(apos.endLine==cpos.line)=true)(hbase:∀env,attributeBase (.Name y np) (ofString "append") env (eval (.Name y np) env)=eval (.Name y np) env)(htrees:∀env,backTo cpos (starEach [e] env)=[(false,eval e env)])
  (hw:∀env,swapsWith (.Call (.Attribute (.Name y np) (ofString "append") apos) [e] [] cpos) none pos.line env=pure false)(h:ak P B C e pe (RV P)):aN P B C fr C (.Expr (.Call (.Attribute (.Name y np) (ofString "append") apos) [e] [] cpos) pos) (f6 i df pe):=
 aN.mut (R:=RV P) md hv ht (fun _ _ _ _ _ r=>r) jX hbase hline htrees hw h
theorem aN.ext (hv:bq C i=true)(ht:B.tab[i]?=some (some (y,k)))(hline:(apos.endLine==cpos.line)=true)(hbase:∀env,attributeBase (.Name y np) (ofString "extend") env (eval (.Name y np) env)=eval (.Name y np) env)(htrees:∀env,backTo cpos (starEach [e] env)=[(false,eval e env)])
  (hw:∀env,swapsWith (.Call (.Attribute (.Name y np) (ofString "extend") apos) [e] [] cpos) none pos.line env=pure false)(h:ak P B C e pe (RX P)):aN P B C fr C (.Expr (.Call (.Attribute (.Name y np) (ofString "extend") apos) [e] [] cpos) pos) (f6 i ii pe):=
 aN.mut (R:=RX P) xe hv ht (fun _ _ _ _ _ r=>r) uZ hbase hline htrees hw h
theorem ak.lenF (O:bu P c ms)(hn:(bV c)[i]?=some name)(ht:B.tab[0]?=some (some (y,k)))(hx:B.sc.names.lookup (ofString "len")=some .globalImplicit)(hn':∀env,starEach [.Attribute (.Name y np) name apos] env=[(false,eval (.Attribute (.Name y np) name apos) env)]):ak P B C (.Call (.Name (ofString "len") p) [.Attribute (.Name y np) name apos] [] pos) (p1 aI (oX c i)) (RV P):=
 ak.b1Y kq wG (fun _ q=>by cases q) hx (by decide) (by decide) (by decide) hn' (ak.fld O hn ht)
end
section
variable {P:Pg} {B:bB} {C C':Ct} {fr:Bool} {n i j:Nat} {A:Around} {env:Env} {g g':Gh} {ρ:aH} {σ:Sg} {s s':Shared} {h h':Heap} {y y':Str} {k k':NameKind} {np apos cpos pos:Pos}
theorem xd:yx .list (ofString "pop") "list.pop":=⟨F.slot_list_pop,F.type_list_pop⟩
inductive Gv (P:Pg) (g:Gh) (h:Heap) (xs:List T) (vs:Array Value) (t:T):Prop
 |mk (u:Value) (e:vs[vs.size - 1]?=some u) (r:Rp P g h t u) (rs:aR P g h xs.dropLast (vs.eraseIdxIfInBounds (vs.size - 1)).toList) (l:xs.dropLast.length≤xs.length)
theorem uA {xs:List T}{vs:Array Value}{t:T}(r:aR P g h xs vs.toList)(e:xs.getLast?=some t):Gv P g h xs vs t:=by
 have hz:=r.size
 rw [List.getLast?_eq_getElem?,←hz] at e
 obtain ⟨u,hu,q⟩:=r.get e
 rw [Array.getElem?_toList] at hu
 have h1:vs.size - 1 < vs.size:=by rw [hz];have:=(List.getElem?_eq_some_iff.mp e).1;lia
 refine ⟨u,hu,q,?_,by rw [List.length_dropLast];lia⟩
 have e1:vs.eraseIdxIfInBounds (vs.size - 1)=vs.eraseIdx (vs.size - 1) h1:=by rw [Array.eraseIdxIfInBounds,dif_pos h1]
 rw [e1,Array.toList_eraseIdx,List.eraseIdx_eq_take_drop_succ,List.dropLast_eq_take,hz,List.drop_of_length_le (by rw [Array.length_toList,hz];lia -abstractProof),List.append_nil]
 exact r.take _
theorem aN.pop {zs:List hJ}{kt:Nat}{pt:Pos}(hz:AM B C zs=true)(hv:bq C j=true)(ht:B.tab[j]?=some (some (y,k)))(hs:∀env,swapsWithSole [.Tuple (zs.map hJ.e) kt pt] (.Call (.Attribute (.Name y np) (ofString "pop") apos) [] [] cpos) pos.line env=pure false)(hw:∀env,swappedStores [.Tuple (zs.map hJ.e) kt pt] (.Call (.Attribute (.Name y np) (ofString "pop") apos) [] [] cpos) env=pure none)
  (hbase:∀env,attributeBase (.Name y np) (ofString "pop") env (eval (.Name y np) env)=eval (.Name y np) env)(hline:(apos.endLine==cpos.line)=true):aN P B C fr C (.Assign [.Tuple (zs.map hJ.e) kt pt] (.Call (.Attribute (.Name y np) (ofString "pop") apos) [] [] cpos) pos) (v4 j (zs.map (·.i))):=fun n A env g ρ σ s kk Q E X hb hq hr=>by
 obtain ⟨ρ',e⟩:=bY hb
 obtain ⟨x,e0,e1⟩:=ar e
 obtain ⟨xs,e2,e3⟩:=ar e1
 obtain ⟨t,e4,e5⟩:=ar e3
 obtain ⟨ts,e6,e7⟩:=ar e5
 cases eh e2
 cases jW e6
 obtain ⟨u,va,q⟩:=X.env.var j _ _ ht e0
 unfold bz at q
 rw [hv] at q
 obtain ⟨a,rfl,oi,vs,m,a1,a3,a2⟩:=q
 obtain ⟨u,hu,ru,rs,l⟩:=uA a2 e4
 refine Assign_Tuple (wpAny_Call_method0_late (hbase env) hline (bp X ht va ⟨_,_,MK.plain .list,xd.slot,xd.ty,⟨_,a1,rfl⟩,fun b e=>⟨_,Value.ref.inj e▸a1,rfl⟩,PySem.P.pop_list a1 hu ?_ (bj (by rw [a2.size];exact a3))⟩)) (hs env) (hw env)
 obtain ⟨pS,X'⟩:=kS (y:=.lst xs.dropLast) X hv (by rw [e0];exact fun q=>by cases q) oi va (Heap.SameBut.update s.heap a (Obj.mapSeq fun v=>v.eraseIdxIfInBounds (vs.size - 1))).2 (fun kf=>⟨_,_,IsL.update a1 (fun v=>v.eraseIdxIfInBounds (vs.size - 1)),Nat.le_trans l a3,rs.mono kf⟩) s.toks
 have kf:aO g s.heap g (s.heap.update a (Obj.mapSeq fun v=>v.eraseIdxIfInBounds (vs.size - 1))):=pS.k X.g fun b hb=>(X.env.own b hb).2.1
 obtain ⟨b,rfl,f,us,m',b1,_,rb⟩:=Rp.mono kf ru
 exact iJ hz e7 X' b1 rb fun s' p' X''=>hq s' g ρ' σ (by unfold v4;rw [e];rfl) (pS.trans p'.toS) X''
theorem aN.pop0 {px cp:Pos}{kk:Nat}(hv:bq C j=true)(ht:B.tab[j]?=some (some (y,k)))(hc:b9 C i false C=true)(ht':B.tab[i]?=some (some (y',k')))(hk:k'=.local∨k'=.cell)(hw:vp (.Call (.Attribute (.Name y np) (ofString "pop") apos) [.Constant (.int 0) kk cp] [] cpos) y' px pos.line B.sc=false)
  (hbase:∀env,attributeBase (.Name y np) (ofString "pop") env (eval (.Name y np) env)=eval (.Name y np) env)(hline:(apos.endLine==cpos.line)=true)(htrees:∀env,backTo cpos (starEach [.Constant (.int 0) kk cp] env)=[(false,eval (.Constant (.int 0) kk cp) env)]):
  aN P B C fr C (.Assign [.Name y' px] (.Call (.Attribute (.Name y np) (ofString "pop") apos) [.Constant (.int 0) kk cp] [] cpos) pos) (n0 j i):=fun n A env g ρ σ s kk Q E X hb hq hr=>by
 obtain ⟨ρ',e⟩:=bY hb
 obtain ⟨x,e0,e1⟩:=ar e
 obtain ⟨xs,e2,e3⟩:=ar e1
 obtain ⟨t,e4,e5⟩:=ar e3
 cases eh e2
 cases e5
 obtain ⟨u,va,q⟩:=X.env.var j _ _ ht e0
 unfold bz at q
 rw [hv] at q
 obtain ⟨a,rfl,oi,vs,m,a1,a3,a2⟩:=q
 cases xs with
 |nil=>cases e4
 |cons x xs=>
  cases e4
  obtain ⟨z,us,hus,rz,ru⟩:=id a2
  have h0:0 < vs.size:=by rw [a2.size];exact Nat.zero_lt_succ _
  have hz0:vs[0]?=some z:=by rw [←Array.getElem?_toList,hus];rfl
  have hup:(vs.eraseIdxIfInBounds 0).toList=us:=by
   have e1:vs.eraseIdxIfInBounds 0=vs.eraseIdx 0 h0:=by rw [Array.eraseIdxIfInBounds,dif_pos h0]
   rw [e1,Array.toList_eraseIdx,hus];rfl
  refine wpAny_Assign_Name (lW xd hbase hline htrees (bp X ht va ⟨sE (K:=.list) a1 rfl rfl,wpAny_Constant_int (call_meets F.slot_list_pop ⟨_,a1,rfl⟩ F.entry_list_pop (F.args_list_pop_2 _ _) (PySem.MeetsSeq.list_pop_at a vs m 0 _ 0 z (by decide) ?_ hz0 (bj (by rw [a2.size];exact a3))) ⟨a1,?_⟩)⟩)) (by rw [jD X.env.sc,hw])
  ·have h1:(0:Int) < vs.size:=Int.ofNat_lt.mpr h0
   show (if (decide ((0:Int)≤0)&&decide ((0:Int) < vs.size))=true then some (0:Int).toNat else none)=some 0
   rw [decide_eq_true h1];rfl
  ·obtain ⟨pS,X'⟩:=kS (y:=.lst xs) X hv (by rw [e0];exact fun q=>by cases q) oi va (Heap.SameBut.update s.heap a (Obj.mapSeq fun v=>v.eraseIdxIfInBounds 0)).2 (fun kf=>⟨_,_,IsL.update a1 (fun v=>v.eraseIdxIfInBounds 0),Nat.le_of_succ_le a3,by rw [hup];exact ru.mono kf⟩) (s.toks+1)
   have kf:aO g s.heap g (s.heap.update a (Obj.mapSeq fun v=>v.eraseIdxIfInBounds 0)):=pS.k X.g fun b hb=>(X.env.own b hb).2.1
   exact gV X' hc ht' hk (Rp.mono kf rz) fun s' p' X''=>hq s' g _ σ (by unfold n0;rw [e];rfl) (pS.trans (p'.toS.weak cU)) X''
theorem aR.rep {xs:List T}{vs:List Value}(r:aR P g h xs vs):∀k:Nat,aR P g h (List.replicate k xs).flatten (List.replicate k vs).flatten
 | 0=>rfl
 |k+1=>by
  rw [List.replicate_succ,List.replicate_succ,List.flatten_cons,List.flatten_cons]
  exact aR.append (aR.rep r k) r
theorem De:pX P (Ao P (binaryOp .Mult)) fw (RN P):=fun A env g σ s x x' t t' y Q E rm w q q' e hq=>by
 unfold fw at e
 obtain ⟨xs,k,e1,e2,e3⟩:=bc e
 obtain ⟨c,rfl⟩:=cz e3
 obtain ⟨c1,c23⟩:=Bool.and_eq_true_iff.mp c
 obtain ⟨c2,c3⟩:=Bool.and_eq_true_iff.mp c23
 have h0:=of_decide_eq_true c1
 have h1:=of_decide_eq_true c2
 have h2:=Nat.le_of_ble_eq_true c3
 obtain ⟨l,rfl,vs,n,a1,a3,a2⟩:=q.ls e1
 obtain ⟨u,rfl⟩:=q'.i e2
 have hz:=a2.size
 have q1:k.toNat≤1000:=by lia -abstractProof
 have hz':vs.size * k.toNat≤1000000:=Nat.mul_le_mul (hz▸h2) q1
 refine wpAny_binaryOp_repeat_ref (T:="list") (U:="int") (by decide) ⟨_,a1,rfl⟩ (fun s'=>typeIs_int s' k u) noFill_list_mul F.fills_int_mul F.slot_int_rmul repeat_list F.slot_int_index.lookup
  (call_meets F.slot_int_rmul (typeIs_int s k u) F.entry_int_rmul (F.args_int_rmul_2 _ _) (lm_int_rmul_list_any k u l vs n _ _)
   ⟨a1,rfl,⟨_,a1,rfl⟩,call_meets F.slot_list_mul ⟨_,a1,rfl⟩ F.entry_list_mul (F.args_list_mul_2 _ _)
    (lm_list_mul_any l vs n _ _ k u (by simp [Builtin.List.listFitsIndex];lia -abstractProof) (by lia) (by simp [Builtin.List.listTooLong,sizeLine];lia))
    ⟨a1,?_⟩⟩)
 rw [listMul_foldl_if]
 refine tG w (a2.rep k.toNat) ?_ hq
 rw [←(a2.rep k.toNat).length,List.length_flatten,List.map_replicate,List.sum_replicate_nat,Array.length_toList,Nat.mul_comm]
 exact hz'
theorem z9 {a b:Int}(ha:sm a=true)(hb:sm b=true):0≤Builtin.Range.rangeSize a b (-1)∧Builtin.Range.small a b (-1)=true:=by
 have e:Builtin.Range.rangeSize a b (-1)=if b < a then (a - b - 1) / 1+1 else 0:=if_neg (by decide)
 have h:=AE hb ha
 rw [←e] at h
 exact ⟨h.1,GF ha hb (by decide) h (Int.add_zero b)⟩
theorem eT.down {es:List Expr}{ps:PL}{p pos:Pos}{mk:Around→Addr→List T→List Addr→List Addr→(Nat→Gh→Heap→Prop)→Prop}(hb:iM P mk)(hx:B.sc.names.lookup (ofString "range")=some .globalImplicit)(h:f0 P B C es ps):eT P B C (.Call (.Name (ofString "range") p) es [] pos) mk (DC ps):=fun n A env g ρ σ s k Q E X hbad hq=>by
 refine Call_Name rfl (X.blt hx (by decide) (by decide) (v:=.type "range") (by decide) (bw (fun _ q=>by cases q) (bF (h.pl env)) (h.sim pos n A env g ρ σ s (fun ts σ=>up (CH ts) σ k) _ E X hbad fun xs s₁ g₁ ts σ₁ e pp w r=>?_)))
 obtain ⟨l,e'⟩:=bY fun q=>hbad (e.trans q)
 have ek:DC ps (P.cx n) ρ σ k=k l σ₁:=e.trans (by rw [e'];rfl)
 unfold CH at e'
 match ts,e',r with
 | [m,n',l'],e',r=>
  obtain ⟨a,b,e1,e2,e3⟩:=bc (show o2 (iN m) (iN n') _=some l from e')
  obtain ⟨c,e4,e5⟩:=ar e3
  obtain ⟨q,rfl⟩:=cz (show (bif (sm a&&sm b&&decide (c=-1))&&bS (cn a b (-1)).length then some (cn a b (-1)) else none)=some l from e5)
  obtain ⟨q,c2⟩:=Bool.and_eq_true_iff.mp q
  obtain ⟨q,c5⟩:=Bool.and_eq_true_iff.mp q
  obtain ⟨c3,c4⟩:=Bool.and_eq_true_iff.mp q
  obtain rfl:=of_decide_eq_true c5
  obtain ⟨_,_,rfl,r1,_,_,e6,r2,_,_,e7,r3,e8⟩:=r
  subst e6;subst e7;cases e8
  obtain ⟨t,rfl⟩:=eU.i (.inl r1) e1
  obtain ⟨u,rfl⟩:=eU.i (.inl r2) e2
  obtain ⟨v,rfl⟩:=eU.i (.inl r3) e4
  obtain ⟨hsz,hsm⟩:=z9 c3 c4
  refine call_range_3 (by decide) ?_ (.inl (PyProof.noPylong_small (by decide)))
  refine wpAny_pyIter_range (IsRange.new s₁.heap a b (-1) t u v) hsm ?_
  obtain ⟨p',w',_⟩:=o7 (X:={cls:=.type "range",data:=.fields #[.int a t,.int b u,.int (-1) v]}) (tk:=s₁.toks) w pp
  obtain ⟨p'',w'',v''⟩:=o7 (s₁:={s₁ with heap:=s₁.heap.push {cls:=.type "range",data:=.fields #[.int a t,.int b u,.int (-1) v]},toks:=s₁.toks}) (X:={cls:=.type "range_iterator",data:=.fields #[rawInt a,rawInt (Builtin.Range.rangeSize a b (-1)),rawInt (-1)]}) (tk:=s₁.toks) w' p'
  refine hq _ g₁ _ σ₁ _ _ [] _ ek p'' w'' (hb.make (nB.range X.room.2.2 (Builtin.Range.rangeSize a b (-1)).toNat rfl)) ⟨Nat.zero_le _,?_⟩ v'' (fun _ q=>nomatch q) (fK c2)
  have e1:a+((0:Nat):Int) * (-1)=a:=by simp
  have e2:(((Builtin.Range.rangeSize a b (-1)).toNat:Int) - ((0:Nat):Int))=Builtin.Range.rangeSize a b (-1):=by lia -abstractProof
  show IsRangeIter _ _ _ _ _
  rw [e1,e2];exact bI _
end
noncomputable def tr {α:Type}(lo hi st:Option Int)(xs:List α):List α:=
 (sliceRange (sliceBounds lo hi st xs.length).1 (sliceBounds lo hi st xs.length).2.1 (sliceBounds lo hi st xs.length).2.2).filterMap (xs[·]?)
section
variable {P:Pg} {B:bB} {C:Ct} {A:Around} {g:Gh} {h:Heap}
theorem uD (items:Array Value)(lo hi st:Option Int):slicePick items lo hi st=(tr lo hi st items.toList).toArray:=by
 simp [slicePick,tr]
theorem ql {α:Type}(xs:List α):∀m,m≤xs.length→(List.range m).filterMap (fun k=>xs[xs.length - 1 - k]?)=xs.reverse.take m
 | 0,_=>rfl
 |m+1,h=>by
  rw [List.range_succ,List.filterMap_append,ql xs m (Nat.le_of_succ_le h),List.take_add_one,List.getElem?_reverse (by lia -abstractProof)]
  have:∀f:Nat→Option α,List.filterMap f [m]=(f m).toList:=fun f=>by rw [List.filterMap_cons];cases f m<;>rfl
  rw [this]
theorem v7 {α:Type}(xs:List α):tr none none (some (-1)) xs=xs.reverse:=by
 unfold tr
 have e:sliceRange (sliceBounds none none (some (-1)) xs.length).1 (sliceBounds none none (some (-1)) xs.length).2.1 (sliceBounds none none (some (-1)) xs.length).2.2=(List.range xs.length).map fun k=>xs.length - 1 - k:=by
  show sliceRange ((xs.length:Int) - 1) (-1) (-1)=_
  unfold sliceRange
  rw [if_neg (by decide)]
  have:((if (xs.length:Int) - 1 > -1 then ((xs.length:Int) - 1 - -1 - -1 - 1) / -(-1) else 0)).toNat=xs.length:=by
   rw [show -(-1:Int)=1 from rfl,Int.ediv_one,show (xs.length:Int) - 1 - -1 - -1 - 1=xs.length by lia]
   rcases Nat.eq_zero_or_pos xs.length with q |q
   ·rw [q];rfl
   ·rw [if_pos (show (xs.length:Int) - 1 > -1 by lia)];rfl
  simp only [this]
  refine List.map_congr_left fun k hk=>?_
  have:=List.mem_range.mp hk
  lia -abstractProof
 rw [e,List.filterMap_map]
 exact (ql xs xs.length (Nat.le_refl _)).trans (by rw [←List.length_reverse,List.take_length])
theorem aR.reverse {ts:List T}{vs:List Value}(r:aR P g h ts vs):aR P g h ts.reverse vs.reverse:=aR.of (by rw [List.length_reverse,List.length_reverse];exact r.length) fun i v t h1 h2=>by
 have l2:=(List.getElem?_eq_some_iff.mp h2).1
 rw [List.length_reverse] at l2
 rw [List.getElem?_reverse (r.length.symm▸l2),r.length] at h1
 rw [List.getElem?_reverse l2] at h2
 obtain ⟨v',e,q⟩:=r.get h2
 rw [h1] at e;cases e;exact q
theorem ak.rev {a:Expr}{pa:PE}{kc:Nat}{pc pu ps pos:Pos}(ha:ak P B C a pa (RX P)):ak P B C (.Subscript a (.Slice Option.none Option.none (some (.UnaryOp .USub (.Constant (.int 1) kc pc) pu)) ps) pos) (p1 r6 pa) (RV P):=
 (ha.bind (N:=fun A env x Q E s=>wpAny P.M A (eval (.Slice Option.none Option.none (some (.UnaryOp .USub (.Constant (.int 1) kc pc) pu)) ps) env) (fun y s₂=>wpAny P.M A (subscriptTail a (.Slice Option.none Option.none (some (.UnaryOp .USub (.Constant (.int 1) kc pc) pu)) ps) x y) Q E s₂) E s) (F:=fun _ _ k t σ=>up (r6 t) σ k) (R':=RV P) kq
  fun n A env g g₁ ρ σ s s₁ x t k Q E p X r hb hq=>by
   obtain ⟨u,e⟩:=bY hb
   obtain ⟨xs,e1,e2⟩:=ar e
   cases e2
   rw [arm_eval_Slice]
   refine wpAny_bind (wpAny_pure (wpAny_bind (wpAny_holding (wpAny_pure (wpAny_bind (wpAny_holding ?_))))))
   refine ak.neg (dc.vx ak.int) n A env g₁ ρ σ s₁ (fun t σ=>.ret t σ) _ _ X (fun q=>by cases q) fun v s₂ g₂ t₂ σ₂ e₂ p₂ w₂ r₂=>?_
   cases e₂
   obtain ⟨tk,rfl⟩:=r₂
   refine wpAny_newObj_type ?_ (by show (3:Nat)≤sizeLine+2;decide)
   have p₃:aE g₂ s₂ g₂ {s₂ with heap:=s₂.heap.push {cls:=.type "slice",data:=.fields #[.none,.none,.int (-1) tk]},toks:=s₂.toks}:=.push _ _
   obtain ⟨l,rfl,vs,m,b1,b3,b2⟩:=(j0.post w₂ p₃ (j0.post X.g p₂ r)).y.ls e1
   refine tail_any ⟨_,b1,rfl⟩ slot_list_getitem.lookup (wpAny_getItem_list_slice (lo:=Option.none) (hi:=Option.none) (st:=some (-1)) ⟨_,b1,rfl,m,rfl⟩ (Heap.IsSliceOf.new s₂.heap _ _ _) .none .none (.int _ _) (by decide) ?_ (bj (b2.size▸b3))) rfl
   rw [uD,v7]
   exact jg (tk:=s₂.toks) (s:={s₂ with heap:=s₂.heap.push {cls:=.type "slice",data:=.fields #[.none,.none,.int (-1) tk]},toks:=s₂.toks}) (w₂.push _) b2.reverse (by rw [List.length_reverse];exact b3) fun u s' g' p w r=>hq u s' g' _ σ (by rw [e];rfl) ((p₂.trans p₃).trans p) w r).map fun _ _ _ _ _=>Subscript_
theorem yz {z C D:Addr}{fp wr:List Addr}{n:Nat}{bs cs:Nat→Bool}{Pt:Nat→Array Value→Prop}{St:Nat→Heap→Prop}{Mid:Nat→Addr→Heap→Prop}{cenv:Env}{x1 x2:Str}{p1 p2 pt:Pos}{kt:Nat}{iter elt:Expr}{scope:Scope}{pos:Pos}{f:Bool→Bool→Bool}
  (W:WalksT P.prog P.w A z fp wr n Pt St Mid)(hPt:∀i v,Pt i v→v=#[.bool (bs i),.bool (cs i)])(hh:A.handled=none)(hC:cenv.locals=C)(hkd:cenv.scope.kind=.function)(hk1:cenv.kindOf x1=some .local)(hk2:cenv.kindOf x2=some .local)(hx:x1≠x2)
  (hCf:C∉fp)(hDf:D∉fp)(hDC:D≠C)(hn:n≤lim)
  (helt:∀s m b c (Q:Value→Shared→Prop) (E:Value→Shared→Prop),s.heap.Ns C m→m x1=some (.bool b)→m x2=some (.bool c)→Q (.bool (f b c)) s→wpAny P.M A (eval elt cenv) Q E s):
  ∀(k i:Nat) (s:Shared) (acc:Array Value) (cnt:Nat) (m:Str→Option Value) (R:Result→Shared→Prop),n - i=k→i≤n→St i s.heap→s.heap.Ns C m→IsL s.heap D acc cnt→acc.size=i→
   (∀h' tk acc' cnt' m',(∀b o,b∉wr→b≠C→b≠D→s.heap.get? b=some o→h'.get? b=some o)→h'.Ns C m'→IsL h' D acc' cnt'→acc'.toList=acc.toList++(List.range' i (n - i)).map (fun j=>Value.bool (f (bs j) (cs j)))→R (.ok .next) {s with heap:=h',toks:=tk})→
   codeAny P.M A (.compLoop (.ListComp elt [⟨.Tuple [.Name x1 p1,.Name x2 p2] kt pt,iter,[],0⟩] scope pos) 0 (.ref z) (.ref D) cenv) R s:=by
 have hp:(cenv.scope.kind==.class||(cenv.scope.kind==.module&&cenv.locals !=cenv.globals))=false:=by rw [hkd];rfl
 have hCw:C∉wr:=fun q=>hCf (W.sub C q)
 have hDw:D∉wr:=fun q=>hDf (W.sub D q)
 intro k
 induction k with
 |zero=>
  intro i s acc cnt m R hk hi hst hns hD hacc hR
  obtain rfl:i=n:=Nat.le_antisymm hi (Nat.le_of_sub_eq_zero hk)
  refine codeAny_of_tree ?_
  show wpAny P.M A ((compTurn (.ListComp elt [⟨.Tuple [.Name x1 p1,.Name x2 p2] kt pt,iter,[],0⟩] scope pos) 0 (.ref z) (.ref D) cenv).onRaise (fun x=>do noteFrame x cenv;theTreesLotGoes x)) _ _ s
  refine wpAny_noted ?_
  rw [compTurn_list]
  refine wpAny_bind (wpAny_standAt (wpAny_bind (W.done s _ _ hst fun h' tk hkp=>wpAny_pure ?_)))
  refine hR h' tk acc cnt m (fun b o hb _ _ e=>hkp b o hb e) (hns.at' fun o e=>hkp C o hCw e) (hkp D _ hDw hD) (by simp)
 |succ k ih=>
  intro i s acc cnt m R hk hi hst hns hD hacc hR
  have hlt:i < n:=Nat.lt_of_sub_eq_succ hk
  refine codeAny_of_tree ?_
  show wpAny P.M A ((compTurn (.ListComp elt [⟨.Tuple [.Name x1 p1,.Name x2 p2] kt pt,iter,[],0⟩] scope pos) 0 (.ref z) (.ref D) cenv).onRaise (fun x=>do noteFrame x cenv;theTreesLotGoes x)) _ _ s
  refine wpAny_noted ?_
  rw [compTurn_list]
  refine wpAny_bind (wpAny_standAt (wpAny_bind (W.item i s _ _ hlt hst fun T vals h₁ tk₁ hP hT hTup hM k₁=>?_)))
  obtain rfl:=hPt i vals hP
  refine wpAny_bind (W.go _ _ _ i T _ _ _ hM fun h₂ hst₂ k₂=>?_)
  have hTw:T∉wr:=W.apart _ _ _ hM
  have hTup₂:h₂.IsTuple T #[.bool (bs i),.bool (cs i)]:=hTup.at fun o e=>k₂ T o hTw e
  refine wpAny_bind (wpAny_assign_Tuple hh hTup₂ rfl rfl fun h₃ k₃=>?_)
  have k₃':∀b o,h₂.get? b=some o→h₃.get? b=some o:=fun b o e=>k₃ b o (fun q=>by rw [q] at e;exact absurd (Heap.lt_size e) (Nat.lt_irrefl _)) e
  have hn₃:h₃.Ns C m:=hns.at' fun o e=>k₃' C o (k₂ C o hCw (k₁ C o hCw e))
  show wpAny P.M A (holding _ (assign (.Name x1 p1) cenv (.bool (bs i))) >>=fun _=>holding _ (assign (.Name x2 p2) cenv (.bool (cs i))) >>=fun _=>pure ()) _ _ _
  subst hC
  refine wpAny_bind (wpAny_holding (wpAny_assign_Name (wpAny_storeName_local hk1 hn₃ (fun h₄ hn₄ hs₄=>?_) hp)))
  refine wpAny_bind (wpAny_holding (wpAny_assign_Name (wpAny_storeName_local hk2 hn₄ (fun h₅ hn₅ hs₅=>?_) hp)))
  have kk:∀b o,b∉wr→b≠cenv.locals→s.heap.get? b=some o→h₅.get? b=some o:=fun b o hb hbC e=>(hs₅.2 b hbC).trans ((hs₄.2 b hbC).trans (k₃' b o (k₂ b o hb (k₁ b o hb e))))
  have hD₅:IsL h₅ D acc cnt:=kk D _ hDw hDC hD
  have hst₅:St (i+1) h₅:=W.frame _ _ _ hst₂ fun b hb o e=>by
   have hbC:b≠cenv.locals:=fun q=>hCf (q▸hb)
   exact (hs₅.2 b hbC).trans ((hs₄.2 b hbC).trans (k₃' b o e))
  refine wpAny_pure (wpAny_bind (wpAny_tests_nil ?_))
  rw [if_pos rfl]
  refine wpAny_bind (wpAny_bind (helt _ _ (bs i) (cs i) _ _ hn₅ (by simp [hx]) (by simp) ?_))
  refine wpAny_bind (dN hD₅ (wpAny_pure (wpAny_pure ⟨rfl,?_⟩)) (bj (by lia -abstractProof)))
  have hs₆:Heap.SameBut D h₅ (h₅.update D (Obj.mapSeq fun a=>a.push (.bool (f (bs i) (cs i))))):=Heap.SameBut.update ..
  refine ih (i+1) _ _ _ _ R (s9 hk) hlt (W.frame _ _ _ hst₅ fun b hb o e=>(hs₆.2 b fun q=>hDf (q▸hb)).trans e) (hn₅.sameBut hs₆ (Ne.symm hDC)) (IsL.update hD₅ _) (by simp [hacc]) fun h' tk acc' cnt' m' kf hn' hD' hacc'=>?_
  refine hR h' tk acc' cnt' m' (fun b o hb hbC hbD e=>kf b o hb hbC hbD ((hs₆.2 b hbD).trans (kk b o hb hbC e))) hn' hD' ?_
  rw [hacc',Array.toList_push,List.append_assoc]
  congr 1
  have:n - i=(n - (i+1))+1:=by rw [hk,s9 hk]
  rw [this,List.range'_succ];rfl
theorem ug (f:Bool→Bool→Bool)(bs cs:List Bool):(List.range' 0 (min bs.length cs.length)).map (fun j=>Value.bool (f (bs[j]?.getD false) (cs[j]?.getD false)))=(List.zipWith f bs cs).map Value.bool:=by
 apply List.ext_getElem
 ·simp
 ·intro i h1 h2
  simp at h1 h2
  have l1:i < bs.length:=by lia
  have l2:i < cs.length:=by lia
  simp [List.getElem?_eq_getElem l1,List.getElem?_eq_getElem l2]
noncomputable def oy (P:Pg)(scope:Scope)(x1 x2:Str)(elt:Expr)(f:Bool→Bool→Bool):Prop:=
 ∀(A:Around) (env:Env) s m b c (Q:Value→Shared→Prop) (E:Value→Shared→Prop),env.scope.kind=.function→env.kindOf x1=some .local→env.kindOf x2=some .local→s.heap.Ns env.locals m→m x1=some (.bool b)→m x2=some (.bool c)→Q (.bool (f b c)) s→wpAny P.M A (eval elt env) Q E s
theorem oy.and {scope:Scope}{x1 x2:Str}{p q r:Pos}(h1:(x1==("__debug__":Str))=false)(h2:(x2==("__debug__":Str))=false):oy P scope x1 x2 (.BoolOp .And [.Name x1 p,.Name x2 q] r) (·&&·):=fun A env s m b c Q E hk k1 k2 hn e1 e2 h=>by
 refine wpAny_And2 (wpAny_Name (wpAny_loadName_local hk k1 hn e1 (wpAny_truthy_bool ?_)) h1)
 cases b with
 |true=>exact wpAny_Name (wpAny_loadName_local hk k2 hn e2 h) h2
 |false=>exact h
theorem oy.or {scope:Scope}{x1 x2:Str}{p q r:Pos}(h1:(x1==("__debug__":Str))=false)(h2:(x2==("__debug__":Str))=false):oy P scope x1 x2 (.BoolOp .Or [.Name x1 p,.Name x2 q] r) (·||·):=fun A env s m b c Q E hk k1 k2 hn e1 e2 h=>by
 refine wpAny_Or2 (wpAny_Name (wpAny_loadName_local hk k1 hn e1 (wpAny_truthy_bool ?_)) h1)
 cases b with
 |true=>exact h
 |false=>exact wpAny_Name (wpAny_loadName_local hk k2 hn e2 h) h2
theorem iH:∀{xs:List T} {vs:List Value} {bs:List Bool},aR P g h xs vs→gP xs=some bs→vs=bs.map Value.bool
 | [],_,_,r,e=>by cases r;cases e;rfl
 |t::xs,_,_,⟨v,vs,e0,q,r⟩,e=>by
  obtain ⟨b,bs,e1,e2,e3⟩:=bc e
  cases e3
  rw [e0,iH r e2,eU.b (.inl q) e1];rfl
theorem om:∀(bs:List Bool),aR P g h (bs.map T.bool) (bs.map Value.bool)
 | []=>rfl
 |b::r=>aR.cons rfl (om r)
inductive Eh (P:Pg) (h:Heap) (f:Bool→Bool→Bool) (t:T) (u v:Value):Prop
 |mk (l1 l2:Addr) (vs ws:Array Value) (nv nw:Nat) (bs cs:List Bool) (h0:u=.ref l1) (h1:v=.ref l2) (h2:h.get? l1=some (br vs nv)) (h3:h.get? l2=some (br ws nw)) (h4:vs=(bs.map Value.bool).toArray) (h5:ws=(cs.map Value.bool).toArray) (h6:bs.length≤lim) (h7:t=.lst ((List.zipWith f bs cs).map T.bool))
theorem uh {a b t:T}{u v:Value}{f:Bool→Bool→Bool}(ra:eU P g h a u)(rb:eU P g h b v)(e:jx f a b=some t):Eh P h f t u v:=by
 obtain ⟨xs,ys,e1,e2,e3⟩:=bc e
 obtain ⟨bs,cs,e4,e5,e6⟩:=bc e3
 cases e6
 obtain ⟨l1,rfl,vs,nv,a1,a3,a2⟩:=ra.ls e1
 obtain ⟨l2,rfl,ws,nw,b1,b3,b2⟩:=rb.ls e2
 have hv:=iH a2 e4
 refine ⟨l1,l2,vs,ws,nv,nw,bs,cs,rfl,rfl,a1,b1,by rw [←hv],by rw [←iH b2 e5],?_,rfl⟩
 have:=a2.length
 rw [hv,List.length_map] at this
 rw [this];exact a3
theorem ak.zip {e1 e2 elt:Expr}{d1 d2:PE}{x1 x2:Str}{p1 p2 pt p cp:Pos}{kt:Nat}{scope:Scope}{pos:Pos}{f:Bool→Bool→Bool}(hel:oy P scope x1 x2 elt f)(hkind:scope.kind=.function)(hnames:∀x∈scope.names,x.2=.local→scope.names.lookup x.1=some .local)(hnocell:∀x∈scope.names,x.2≠.cell)
  (hnofree:∀x∈scope.names,x.2≠.free)(hx1:scope.names.lookup x1=some .local)(hx2:scope.names.lookup x2=some .local)(hx:x1≠x2)(hz:B.sc.names.lookup (ofString "zip")=some .globalImplicit)(hn1:∀env,starEach [e1,e2] env=(false,eval e1 env)::starEach [e2] env)(hn2:∀env,starEach [e2] env=[(false,eval e2 env)])(h1:ak P B C e1 d1 (RX P))(h2:ak P B C e2 d2 (RX P)):
  ak P B C (.ListComp elt [⟨.Tuple [.Name x1 p1,.Name x2 p2] kt pt,.Call (.Name (ofString "zip") p) [e1,e2] [] cp,[],0⟩] scope pos) (Mine.p2 (jx f) d1 d2) (RV P):=fun n A env g ρ σ s k Q E X hb hq=>by
 show wpAny P.M A (eval _ env) Q E s
 rw [eval_ListComp]
 refine wpAny_comprehension_free (use:=Option.none) rfl (fun _=>rfl) (iE (env:=env) fun y hy=>absurd rfl (hnofree _ hy)) hkind hnames ?_
 refine Call_Name rfl (X.blt hz (by decide) (by decide) (v:=.type "zip") (by decide) ?_)
 refine bw (fun _ q=>by cases q) (bF fun q hq=>?_) (wpAny_items_cons (h1 n A env g ρ σ s _ _ E X hb fun u s₁ g₁ a σ₁ e₁ p₁ w₁ r₁=>wpAny_items_cons (h2 n A env g₁ ρ σ₁ s₁ _ _ E (X.post p₁ w₁) (fun q=>hb (e₁.trans q)) fun v s₂ g₂ b σ₂ e₂ p₂ w₂ r₂=>wpAny_items_nil ?_) (hn2 env)) (hn1 env))
 ·rw [hn1 env,hn2 env] at hq
  cases hq with
  |head=>rfl
  |tail _ h=>cases h with
   |head=>rfl
   |tail _ h=>cases h
 obtain ⟨tz,ez⟩:=bY fun q=>hb (e₁.trans (e₂.trans q))
 have p12:=p₁.trans p₂
 obtain ⟨l1,l2,vs,ws,nv,nw,bs,cs,rfl,rfl,a1,b1,hvs,hws,lz1,rfl⟩:=uh (j0.post w₁ p₂ r₁).y (j0.y r₂) ez
 have fin:∀s' g' x,aE g₂ s₂ g' s'→bv P g' s'.heap σ₂→Rp P g' s'.heap (.lst ((List.zipWith f bs cs).map T.bool)) x→Q x s':=fun s' g' x p w r=>hq x s' g' _ σ₂ (e₁.trans (e₂.trans (by rw [ez];rfl))) (p12.trans p) w r
 have lx:vs.size=bs.length:=by rw [hvs];simp
 have ly:ws.size=cs.length:=by rw [hws];simp
 have lt1:=Heap.lt_size a1
 have lt2:=Heap.lt_size b1
 refine call_zip_2 ⟨_,a1,rfl,nv,rfl⟩ ⟨_,b1,rfl,nw,rfl⟩ fun h₃ z1 z2 z3 z4 z5 z6 z7=>?_
 refine wpAny_pyIter_zip z1 ?_
 refine wpAny_newList ?_
 have fr:∀{a:Addr},s₂.heap.objs.size≤a→s₂.heap.get? a=Option.none:=fun {a} ha=>by
  cases e:s₂.heap.get? a with
  |none=>rfl
  |some o=>exact absurd (Heap.lt_size e) (Nat.not_lt.mpr ha)
 have hD₄:=Heap.get?_push_size h₃ (o:={cls:=.type "list",data:=.seq ([]:List Value).toArray}) rfl
 refine wpAny_newFunctionEnv hnocell (by intro y hy;simp at hy) (fun h₅ hn₅ hsb₅=>?_) hkind
 dsimp only at hn₅ hsb₅ ⊢
 generalize hH4:h₃.push {cls:=.type "list",data:=.seq ([]:List Value).toArray}=h₄ at hn₅ hsb₅ hD₄ ⊢
 have hDn:s₂.heap.get? h₃.objs.size=Option.none:=fr (by rw [z6];exact Nat.le_add_right _ _)
 have hC4:h₄.get? h₄.objs.size=Option.none:=aF _
 have k34:∀a o,h₃.get? a=some o→h₄.get? a=some o:=fun a o e=>by rw [←hH4];exact Heap.get?_push_of_some _ e
 have k45:∀a o,h₄.get? a=some o→h₅.get? a=some o:=fun a o e=>(hsb₅.2 a fun q=>by rw [q,hC4] at e;cases e).trans (Heap.get?_push_of_some _ e)
 have hCn:s₂.heap.get? h₄.objs.size=Option.none:=by
  cases e:s₂.heap.get? h₄.objs.size with
  |none=>rfl
  |some o=>rw [k34 _ _ (z7 _ _ e)] at hC4;cases hC4
 have hDC:h₃.objs.size≠h₄.objs.size:=fun q=>by rw [q] at hD₄;rw [hC4] at hD₄;cases hD₄
 have Wk:=WalksT.zip2 (prog:=P.prog) (w:=P.w) (A:=A) X.room.2.2 _ _ _ _ _ l1 l2 (zipApart_new lt1 lt2) vs ws
 have st₃:_∧_:=(⟨z1,z2,⟨_,_,z3⟩,z4,z5,⟨_,z7 _ _ a1,rfl,nv,rfl⟩,⟨_,z7 _ _ b1,rfl,nw,rfl⟩⟩:IsZip h₃ _ _ _ Value.none∧IsPair h₃ _ _ _∧(∃a b,IsPair h₃ _ a b)∧h₃.IsListIter _ l1 0∧h₃.IsListIter _ l2 0∧h₃.IsList l1 vs∧h₃.IsList l2 ws)
 have st₅:=Wk.frame 0 h₃ h₅ st₃ fun b _ o e=>k45 b o (k34 b o e)
 have live:∀b∈[s₂.heap.objs.size+4,s₂.heap.objs.size+2,s₂.heap.objs.size+3,s₂.heap.objs.size,s₂.heap.objs.size+1,l1,l2],∃o,h₃.get? b=some o:=fun b hb=>by
  simp only [List.mem_cons,List.not_mem_nil,or_false] at hb
  rcases hb with rfl |rfl |rfl |rfl |rfl |rfl |rfl
  ·exact ⟨_,z1⟩
  ·exact ⟨_,z2⟩
  ·exact ⟨_,z3⟩
  ·exact let ⟨o,e,_⟩:=z4;⟨o,e⟩
  ·exact let ⟨o,e,_⟩:=z5;⟨o,e⟩
  ·exact ⟨_,z7 _ _ a1⟩
  ·exact ⟨_,z7 _ _ b1⟩
 have ck1:(compEnvC scope (er env scope.names []) h₄.objs.size env).kindOf x1=some .local:=lookup_relabel_local hx1
 have ck2:(compEnvC scope (er env scope.names []) h₄.objs.size env).kindOf x2=some .local:=lookup_relabel_local hx2
 have loop:codeAny P.M A (.compLoop (.ListComp elt [⟨.Tuple [.Name x1 p1,.Name x2 p2] kt pt,.Call (.Name (ofString "zip") p) [e1,e2] [] cp,[],0⟩] scope pos) 0 (.ref (s₂.heap.objs.size+4)) (.ref h₃.objs.size) (compEnvC scope (er env scope.names []) h₄.objs.size env))
   (compPost P.M A E Option.none Q (.ref h₃.objs.size) h₄.objs.size) {s₂ with heap:=h₅,toks:=s₂.toks+([]:List (Str×Value)).length}:=by
  refine yz (f:=f) (bs:=fun i=>bs[i]?.getD false) (cs:=fun i=>cs[i]?.getD false) Wk (fun i v hv=>?_) X.room.2.2 (C:=h₄.objs.size) rfl hkind ck1 ck2 hx (fun q=>?_) (fun q=>?_) hDC (by rw [lx,ly];lia)
   (fun s m b c Q E hns m1 m2 hq=>hel A (compEnvC scope (er env scope.names []) h₄.objs.size env) s m b c Q E hkind ck1 ck2 hns m1 m2 hq) _ 0 _ #[] _ _ _ rfl (Nat.zero_le _) st₅ hn₅ (k45 _ _ hD₄) rfl fun h₆ tk acc' cnt' m' kf hn' hD' hacc'=>?_
  ·obtain ⟨x,y,ex,ey,rfl⟩:=hv
   rw [hvs] at ex
   rw [hws] at ey
   simp only [List.getElem?_toArray,List.getElem?_map,Option.map_eq_some_iff] at ex ey
   obtain ⟨b,eb,rfl⟩:=ex
   obtain ⟨c,ec,rfl⟩:=ey
   rw [eb,ec];rfl
  ·obtain ⟨o,e⟩:=live _ q
   rw [k34 _ _ e] at hC4;cases hC4
  ·obtain ⟨o,e⟩:=live _ q
   rw [aF] at e;cases e
  ·refine ⟨m',hn',fun h₇ hs₇=>?_⟩
   have hall:∀a o,s₂.heap.get? a=some o→h₇.get? a=some o:=fun a o e=>by
    have hlt:=Heap.lt_size e
    have haC:a≠h₄.objs.size:=fun q=>by rw [q,hCn] at e;cases e
    refine (hs₇.2 a haC).trans (kf a o (fun q=>?_) haC (fun q=>by rw [q,hDn] at e;cases e) (k45 a o (k34 a o (z7 a o e))))
    simp only [List.mem_cons,List.not_mem_nil,or_false] at q
    rcases q with rfl |rfl |rfl |rfl
    ·rw [fr (Nat.le_add_right _ _)] at e;cases e
    ·rw [fr (Nat.le_add_right _ _)] at e;cases e
    ·rw [fr (Nat.le_refl _)] at e;cases e
    ·rw [fr (Nat.le_add_right _ _)] at e;cases e
   have hzl:(List.zipWith f bs cs).length≤lim:=by rw [List.length_zipWith];lia
   have hD₇:IsL h₇ h₃.objs.size acc' cnt':=(hs₇.2 _ hDC).trans hD'
   have hacc:acc'.toList=(List.zipWith f bs cs).map Value.bool:=by
    rw [hacc',lx,ly,Nat.sub_zero]
    exact ug f bs cs
   have p7:aE g₂ s₂ {g₂ with F:=fun y=>g₂.F y∨y=h₃.objs.size} {s₂ with heap:=h₇,toks:=tk}:=.grow tk hall _ (fun _ f=>.inl f) fun a f=>f.imp_right fun e:a=h₃.objs.size=>e▸hDn
   exact fin _ _ _ p7 (w₂.grow hall _ (fun _ f=>.inl f) fun a f=>f.imp_right fun e:a=h₃.objs.size=>e▸⟨hDn,an hD₇⟩) ⟨_,rfl,.inr rfl,acc',cnt',hD₇,by rw [List.length_map];exact hzl,by rw [hacc];exact om _⟩
 exact codeAny_compStart_list loop (wpAny_pyIter_zip (k45 _ _ (k34 _ _ z1)) loop)
noncomputable def ER (scope:Scope)(x1 x2:Str):Bool:=scope.kind==.function&&(scope.names.all (fun x=>!(x.2==.local)||scope.names.lookup x.1==some .local)&&(scope.names.all (fun x=>!(x.2==.cell)&&!(x.2==.free))&&((scope.names.lookup x1==some .local)&&((scope.names.lookup x2==some .local)&&!(x1==x2)))))
theorem ak.zipC {e1 e2 elt:Expr}{d1 d2:PE}{x1 x2:Str}{p1 p2 pt p cp:Pos}{kt:Nat}{scope:Scope}{pos:Pos}{f:Bool→Bool→Bool}(hel:oy P scope x1 x2 elt f)(hb:ER scope x1 x2=true)(hz:B.sc.names.lookup (ofString "zip")=some .globalImplicit)
  (hn1:∀env,starEach [e1,e2] env=(false,eval e1 env)::starEach [e2] env)(hn2:∀env,starEach [e2] env=[(false,eval e2 env)])(h1:ak P B C e1 d1 (RX P))(h2:ak P B C e2 d2 (RX P)):
  ak P B C (.ListComp elt [⟨.Tuple [.Name x1 p1,.Name x2 p2] kt pt,.Call (.Name (ofString "zip") p) [e1,e2] [] cp,[],0⟩] scope pos) (Mine.p2 (jx f) d1 d2) (RV P):=by
 obtain ⟨b1,hb⟩:=Bool.and_eq_true_iff.mp hb
 obtain ⟨b2,hb⟩:=Bool.and_eq_true_iff.mp hb
 obtain ⟨b3,hb⟩:=Bool.and_eq_true_iff.mp hb
 obtain ⟨b4,hb⟩:=Bool.and_eq_true_iff.mp hb
 obtain ⟨b5,b6⟩:=Bool.and_eq_true_iff.mp hb
 have b3:=fun x hx=>Bool.and_eq_true_iff.mp (List.all_eq_true.mp b3 x hx)
 refine ak.zip hel (eq_of_beq b1) (fun x hx e=>?_) (fun x hx e=>?_) (fun x hx e=>?_) (eq_of_beq b4) (eq_of_beq b5) (fun e=>?_) hz hn1 hn2 h1 h2
 ·have:=List.all_eq_true.mp b2 x hx
  rw [e] at this;exact eq_of_beq this
 ·have:=(b3 x hx).1
  rw [e] at this;cases this
 ·have:=(b3 x hx).2
  rw [e] at this;cases this
 ·rw [e,beq_self_eq_true] at b6;cases b6
end
end
end Mine
namespace Mine
noncomputable section
open PySem PySem.W PyProof.Rows PySem.SeqAt
noncomputable def oe {α β:Type}(f:α→β→Option β):List α→β→Option β
 | [],b=>some b
 |x::r,b=>o1 (f x b) (oe f r)
noncomputable def Fi (ks:List T)(kn o:T)(ds:List (List T)):Option (List (List T)):=o1 (kN ks o) fun i=>o1 i fun j=>o1 ds[j]? fun l=>bif bS (l.length+1) then some (ds.set j (l++[kn])) else none
theorem oa (ks:List T)(kn:T):∀(os:List T) (ds:List (List T)),jM ks kn os ds=oe (Fi ks kn) os ds
 | [],_=>rfl
 |o::os,ds=>by
  show o1 (kN ks o) _=o1 (o1 (kN ks o) _) _
  cases kN ks o with
  |none=>rfl
  |some i=>cases i with
   |none=>rfl
   |some j=>
    show o1 ds[j]? _=o1 (o1 ds[j]? _) _
    cases ds[j]? with
    |none=>rfl
    |some l=>
     show (bif bS (l.length+1) then _ else _)=o1 (bif bS (l.length+1) then _ else _) _
     cases bS (l.length+1) with
     |false=>rfl
     |true=>exact oa ks kn os _
noncomputable def GE (ks:List T)(th kn:T)(ds:List (List T)):Option (List (List T)):=o1 (idxD th kn) fun l=>o1 (fZ l) fun os=>jM ks kn os ds
theorem n9 (ks:List T)(th:T):∀(ns:List T) (ds:List (List T)),qH ks th ns ds=oe (GE ks th) ns ds
 | [],_=>rfl
 |n::ns,ds=>by
  show o1 (idxD th n) _=o1 (o1 (idxD th n) _) _
  cases idxD th n with
  |none=>rfl
  |some l=>
   show o1 (fZ l) _=o1 (o1 (fZ l) _) _
   cases fZ l with
   |none=>rfl
   |some os=>
    show o1 (jM ks n os ds) _=o1 (jM ks n os ds) _
    cases jM ks n os ds with
    |none=>rfl
    |some d=>exact n9 ks th ns d
inductive vi (P:Pg) (env:Env) (g:Gh) (h:Heap) (a:Addr) (as:List Addr) (ks:List T) (ds:List (List T)):Prop
 |mk (q:(a==sysModules)=false) (o:Obj) (es:List DictEntry) (e:h.get? a=some o) (d:GR P.w ks o es) (r:aR P g h ks (es.map (·.key))) (v:es.map (·.val)=as.map Value.ref)
  (nd:as.Nodup) (na:a∉as) (lm:kP g env (a::as)) (l:as.length=ds.length) (c:∀(i:Nat) (x:Addr) (ts:List T),as[i]?=some x→ds[i]?=some ts→gS P g h x (.lst ts))
section
variable {P:Pg} {B:bB} {C:Ct} {n i:Nat} {A:Around} {env:Env} {g g':Gh} {ρ:aH} {σ:Sg} {s s':Shared} {h h':Heap} {a:Addr} {as:List Addr} {ks:List T} {ds:List (List T)} {y:Str} {k:NameKind}
theorem vi.keep (L:vi P env g h a as ks ds)(kf:aO g h g' h')(kv:∀b∈a::as,∀o,h.get? b=some o→h'.get? b=some o)(lm:kP g' env (a::as)):vi P env g' h' a as ks ds:=by
 obtain ⟨q,o,es,e,d,r,v,nd,na,_,l,c⟩:=L
 exact ⟨q,o,es,kv a List.mem_cons_self _ e,d,r.mono kf,v,nd,na,lm,l,fun i x ts h1 h2=>(c i x ts h1 h2).mono kf (kv x (List.mem_cons_of_mem _ (List.mem_of_getElem? h1)))⟩
theorem vi.vol (L:vi P env g h a as ks ds):kP g env (a::as):=let ⟨_,_,_,_,_,_,_,_,_,lm,_,_⟩:=L;lm
theorem vi.live (L:vi P env g h a as ks ds):∀b∈a::as,h.get? b≠none:=fun b hb=>by
 obtain ⟨q,o,es,e,d,r,v,nd,na,lm,l,c⟩:=L
 rcases List.mem_cons.mp hb with rfl |hb
 ·exact an e
 ·obtain ⟨i,hi⟩:=List.getElem?_of_mem hb
  have:i < ds.length:=l▸(List.getElem?_eq_some_iff.mp hi).1
  exact (c i b _ hi (List.getElem?_eq_getElem this)).live
structure cT (P:Pg) (B:bB) (C:Ct) (n:Nat) (A:Around) (env:Env) (σ:Sg) (a:Addr) (as:List Addr) (ks:List T) (g:Gh) (ρ:aH) (s:Shared) (ds:List (List T)):Prop where
 X:At P B C n A env g ρ σ s
 va:cS B env s.heap 1 (.ref a)
 L:vi P env g s.heap a as ks ds
theorem cT.post (Y:cT P B C n A env σ a as ks g ρ s ds)(p:aE g s g' s')(w:bv P g' s'.heap σ):cT P B C n A env σ a as ks g' ρ s' ds:=
 have v:=Y.L.vol.p Y.L.live p
 ⟨Y.X.post p w,Y.va.move fun b hb o e=>p.keep b o e (Y.X.env.own b hb).2.2.1,Y.L.keep (p.k Y.X.g) v.2 v.1⟩
theorem E8 {W vol:List Addr}(v:kP g env vol)(l:∀a∈vol,s.heap.get? a≠none)(hW:∀a∈vol,a∉W)(p:aP [] W g s g' s'):kP g' env vol∧∀a∈vol,∀o,s.heap.get? a=some o→s'.heap.get? a=some o:=
 ⟨fun a ha=>let ⟨f,z,o,w⟩:=v a ha;⟨fun q=>(p.Fn a q).elim f fun q=>q.elim o (l a ha),fun q=>(p.Zn a q).elim z (l a ha),fun q=>(p.On a q).elim o (l a ha),w⟩,fun a ha o e=>let ⟨_,z,q,_⟩:=v a ha;p.keep a o e z q (hW a ha)⟩
theorem cT.turn {I:Addr}(Y:cT P B C n A env σ a as ks g ρ s ds)(hv:kP g env [I])(hI:I∉a::as)(hkp:∀b o,s.heap.get? b=some o→b∉[I]→h'.get? b=some o)(tk:Nat):bH [I] [I] g s g {s with heap:=h',toks:=tk}∧cT P B C n A env σ a as ks g ρ {s with heap:=h',toks:=tk} ds:=by
 obtain ⟨pV,X'⟩:=dk Y.X hv hkp tk
 have iv:=hv I (List.mem_singleton.mpr rfl)
 exact ⟨pV,X',Y.va.move fun b hb o e=>hkp b o e fun q=>iv.2.2.2 (List.mem_singleton.mp q▸hb),Y.L.keep (pV.toS.k Y.X.g fun b hb=>(hv b hb).1) (fun b hb o e=>hkp b o e fun q=>hI (List.mem_singleton.mp q▸hb)) Y.L.vol⟩
theorem cT.store {t:T}{u:Value}{Q:Unit→Shared→Prop}{E:Value→Shared→Prop}(Y:cT P B C n A env σ a as ks g ρ s ds)(hc:b9 C i false C=true)(ht:B.tab[i]?=some (some (y,k)))(hk:k=.local∨k=.cell)(h1:1≠i)(r:Rp P g s.heap t u)
  (hq:∀s',bH [] (own env) g s g s'→cT P B C n A env σ a as ks g (ρ.set i (some t)) s' ds→Q () s'):wpAny P.M A (storeName env y u) Q E s:=by
 obtain ⟨hs,ho⟩:=dH hc
 have X₂:At P B C n A env g (ρ.set i none) σ s:=⟨Y.X.good,Y.X.call,Y.X.room,Y.X.env.forget hs (.refl g i) fun a ha=>(Y.X.env.own a ha).2.2.2,Y.X.g⟩
 refine iV X₂ hs.nu ht hk (by unfold bz;rw [ho];exact .inl r) fun s' p X' hot=>?_
 have p:bH [] (own env) g s g s':=p.weak (fun _ h=>h) cU
 rw [set_set] at X'
 have v:=Y.L.vol.post Y.L.live p.toS
 exact hq s' p ⟨X',hot 1 _ h1 Y.va,Y.L.keep (p.toS.k Y.X.g fun a ha=>(Y.X.env.own a ha).2.1) v.2 v.1⟩
theorem aP.mono {V W W':List Addr}(p:aP V W g s g' s')(hw:∀a∈W,a∈W'):aP V W' g s g' s':={p with keep:=fun a o e z q n=>p.keep a o e z q fun x=>n (hw a x)}
theorem Ca {body:List Stmt}{p:Pos}{f:T→List (List T)→Option (List (List T))}{K:aH→Prop}{I l:Addr}{ts:List T}{vs:Array Value}{m:Nat}{R:Result→Shared→Prop}(hc:b9 C i false C=true)(ht:B.tab[i]?=some (some (y,k)))(hk:k=.local∨k=.cell)(h1:1≠i)(hK:∀ρ t,K ρ→K (ρ.set i (some t))∧bC (ρ.set i (some t)) i=some t)
  (hb:∀t g ρ s ds ds₁ (Q:Flow→Shared→Prop) (E:Value→Shared→Prop),f t ds=some ds₁→cT P B C n A env σ a as ks g ρ s ds→K ρ→bC ρ i=some t→(∀s' g' ρ',aP [] (as++own env) g s g' s'→cT P B C n A env σ a as ks g' ρ' s' ds₁→K ρ'→Q .next s')→wpAny P.M A (execs body env) Q E s)(hI:I∉a::as):
  ∀(rest:List T) (j:Nat) (g:Gh) (ρ:aH) (s:Shared) (ds ds':List (List T)),j≤ts.length→ts.drop j=rest→cT P B C n A env σ a as ks g ρ s ds→K ρ→kP g env [I]→(s.heap.IsListIter I l j∧g.F l∧s.heap.get? l=some (br vs m)∧aR P g s.heap ts vs.toList)→oe f rest ds=some ds'→
   (∀s' g' ρ',aP [I] (I::(as++own env)) g s g' s'→cT P B C n A env σ a as ks g' ρ' s' ds'→K ρ'→R (.ok .next) s')→codeAny P.M A (.forLoop (.Name y p) (.ref I) body [] env) R s:=by
 intro rest
 induction rest with
 |nil=>
  intro j g ρ s ds ds' hle hd Y kr hv st e hq
  cases e
  obtain rfl:j=ts.length:=Nat.le_antisymm hle (List.drop_eq_nil_iff.mp hd)
  refine codeAny_of_tree ?_
  show wpAny P.M A ((forTurn (.Name y p) (.ref I) body [] env).onRaise (fun x=>do noteFrame x env;theTreesLotGoes x)) _ _ s
  refine wpAny_noted ?_
  simp only [forTurn]
  refine wpAny_bind (wpAny_standAt (wpAny_bind (wpAny_onRaise ((nB.list (P:=P) Y.X.room.2.2).done g s _ _ st fun h' tk hkp=>wpAny_pure ⟨rfl,codeAny_block (wpAny_execs_nil ?_)⟩))))
  obtain ⟨pV,Y'⟩:=Y.turn hv hI hkp tk
  exact hq _ g ρ (pV.toS.mono fun b hb=>List.mem_cons.mpr (.inl (List.mem_singleton.mp hb))) Y' kr
 |cons t rest ih=>
  intro j g ρ s ds ds' hle hd Y kr hv st e hq
  obtain ⟨ds₁,e1,e2⟩:=ar (show o1 (f t ds) (oe f rest)=some ds' from e)
  have hiv:ts[j]?=some t:=by rw [←List.head?_drop,hd];rfl
  have hj:j < ts.length:=(List.getElem?_eq_some_iff.mp hiv).1
  have hd':ts.drop (j+1)=rest:=by rw [←List.tail_drop,hd];rfl
  refine codeAny_of_tree ?_
  show wpAny P.M A ((forTurn (.Name y p) (.ref I) body [] env).onRaise (fun x=>do noteFrame x env;theTreesLotGoes x)) _ _ s
  refine wpAny_noted ?_
  simp only [forTurn]
  refine wpAny_bind (wpAny_standAt (wpAny_bind (wpAny_onRaise ((nB.list (P:=P) Y.X.room.2.2).item j t g s _ _ hiv st (fun b hb=>(hv b hb).1) fun u h' tk hkp r st'=>?_))))
  obtain ⟨pV,Y'⟩:=Y.turn hv hI hkp tk
  have lI:∀b∈[I],h'.get? b≠none:=fun b hb=>by rw [List.mem_singleton.mp hb];exact let ⟨_,e,_⟩:=st'.1;an e
  have pV:=dP pV lI
  refine wpAny_bind (wpAny_pure (wpAny_bind (wpAny_assign_Name (Y'.store hc ht hk h1 r fun s₃ p₃ Y₃=>wpAny_bind (hb t g _ s₃ ds ds₁ _ _ e1 Y₃ (hK ρ t kr).1 (hK ρ t kr).2 fun s₄ g₄ ρ₄ p₄ Y₄ k₄=>wpAny_pure ⟨rfl,?_⟩)))))
  have st₃:=(nB.list (P:=P) Y.X.room.2.2).stay _ _ _ _ _ st' (p₃.toS.k Y'.X.g fun a ha=>(Y'.X.env.own a ha).2.1) (hv.post (s:={s with heap:=h',toks:=tk}) lI p₃.toS).2
  have lI₃:∀b∈[I],s₃.heap.get? b≠none:=fun b hb=>by rw [List.mem_singleton.mp hb];exact let ⟨_,e,_⟩:=st₃.1;an e
  have iv:=hv I (List.mem_singleton.mpr rfl)
  obtain ⟨hv₄,kp₄⟩:=E8 hv lI₃ (fun b hb q=>by
   rw [List.mem_singleton.mp hb] at q
   exact (List.mem_append.mp q).elim (fun q=>hI (List.mem_cons_of_mem _ q)) iv.2.2.2) p₄
  have st₄:=(nB.list (P:=P) Y.X.room.2.2).stay _ _ _ _ _ st₃ (p₄.k Y₃.X.g fun b hb=>(List.mem_append.mp hb).elim (fun q=>(Y₃.L.vol b (List.mem_cons_of_mem _ q)).1) fun q=>(Y₃.X.env.own b q).2.1) kp₄
  have p04:aP [] (I::(as++own env)) g s g₄ s₄:=(pV.toS.mono fun b hb=>List.mem_cons.mpr (.inl (List.mem_singleton.mp hb))).trans ((p₃.toS.mono fun b hb=>List.mem_cons_of_mem _ (List.mem_append_right _ hb)).trans (p₄.mono fun b hb=>List.mem_cons_of_mem _ hb))
  exact ih (j+1) g₄ ρ₄ s₄ ds₁ ds' hj hd' Y₄ k₄ hv₄ st₄ e2 fun s' g' ρ' p' Y' k'=>hq s' g' ρ' (p04.trans p') Y' k'
end
section
variable {P:Pg} {B:bB} {C:Ct} {n i:Nat} {A:Around} {env:Env} {g g' g₁:Gh} {ρ:aH} {σ:Sg} {s s' s₁:Shared} {h h':Heap} {a:Addr} {as:List Addr} {ks:List T} {ds ds₁:List (List T)} {ms:List (Str×Nat)}
theorem oZ {v:Option T}:∀{ρ:aH} {i j:Nat},j≠i→bC (ρ.set i v) j=bC ρ j
 | [],_,_,_=>rfl
 |_::_,0,0,h=>(h rfl).elim
 |_::_,0,_+1,_=>rfl
 |_::_,_+1,0,_=>rfl
 |_::ρ,i+1,j+1,h=>oZ (ρ:=ρ) fun e=>h (congrArg (·+1) e)
theorem sv {v:Option T}:∀{ρ:aH} {i:Nat},i < ρ.length→bC (ρ.set i v) i=v
 | [],_,h=>(Nat.not_lt_zero _ h).elim
 |_::_,0,_=>rfl
 |_::ρ,i+1,h=>sv (ρ:=ρ) (Nat.lt_of_succ_lt_succ h)
theorem aP.drop {I:Addr}{W:List Addr}(p:aE g s g₁ s₁)(hI:s.heap.get? I=none)(q:aP [I] (I::W) g₁ s₁ g' s'):aP [] W g s g' s' where
 st:=St.trans p.st q.st
 keep a o e z o' w:=q.keep a o (p.keep a o e z) (fun x=>(p.Zn a x).elim z (an e)) (fun ⟨i,x⟩=>o' ⟨i,p.o▸x⟩) fun x=>(List.mem_cons.mp x).elim (fun x=>an e (x▸hI)) w
 back a _ e:=by
  by_cases x:a=I
  ·exact x▸hI
  ·exact p.back a (q.back a (fun y=>x (List.mem_singleton.mp y)) e)
 F a f:=q.F a (p.F a f)
 Fn a f:=(q.Fn a f).elim (fun f=>(p.Fn a f).imp_right .inr) fun x=>.inr (x.imp (fun ⟨i,x⟩=>⟨i,p.o▸x⟩) (p.back a))
 Zn a f:=(q.Zn a f).elim (p.Zn a) fun x=>.inr (p.back a x)
 On a f:=(q.On a f).imp (fun ⟨i,x⟩=>⟨i,p.o▸x⟩) (p.back a)
 sp:=q.sp.trans p.sp
 sa:=q.sa.trans p.sa
theorem wI {fo ot kn':Str}{k1 k2 k3:NameKind}{p1 p2 p3 sp ap cp pos:Pos}{kn o:T}{Q:Flow→Shared→Prop}{E:Value→Shared→Prop}(ht1:B.tab[1]?=some (some (fo,k1)))(ht2:B.tab[2]?=some (some (kn',k2)))(ht3:B.tab[3]?=some (some (ot,k3)))(hv2:jC C 2=true)(hv3:jC C 3=true)
  (hbase:∀env,attributeBase (.Subscript (.Name fo p1) (.Name ot p2) sp) (ofString "append") env (eval (.Subscript (.Name fo p1) (.Name ot p2) sp) env)=eval (.Subscript (.Name fo p1) (.Name ot p2) sp) env)(hline:(ap.endLine==cp.line)=true)(htrees:∀env,backTo cp (starEach [.Name kn' p3] env)=[(false,eval (.Name kn' p3) env)])
  (hw:∀env,swapsWith (.Call (.Attribute (.Subscript (.Name fo p1) (.Name ot p2) sp) (ofString "append") ap) [.Name kn' p3] [] cp) none pos.line env=pure false)
  (Y:cT P B C n A env σ a as ks g ρ s ds)(e2:bC ρ 2=some kn)(e3:bC ρ 3=some o)(est:Fi ks kn o ds=some ds₁)(hq:∀s',aP [] (as++own env) g s g s'→cT P B C n A env σ a as ks g ρ s' ds₁→Q .next s'):
  wpAny P.M A (exec (.Expr (.Call (.Attribute (.Subscript (.Name fo p1) (.Name ot p2) sp) (ofString "append") ap) [.Name kn' p3] [] cp) pos) env) Q E s:=by
 obtain ⟨i,f1,f2⟩:=ar est
 obtain ⟨j,rfl,f3⟩:=ar f2
 obtain ⟨l,f4,f5⟩:=ar f3
 obtain ⟨hf,rfl⟩:=cz f5
 have X:=Y.X
 obtain ⟨u3,v3,q3⟩:=X.env.var 3 _ o ht3 e3
 obtain ⟨u2,v2,q2⟩:=X.env.var 2 _ kn ht2 e2
 have r3:=iQ hv3 q3
 have r2:=iQ hv2 q2
 obtain ⟨κ,hk⟩:=jN f1
 obtain ⟨ad,rfl,hi,_⟩:=l6 hk (.inl r3)
 obtain ⟨q,ob,es,e,d,r,v,nd,na,lm,ll,c⟩:=id Y.L
 obtain ⟨κs,c1,c2,c3⟩:=d.k
 obtain ⟨ep,dd⟩:=d.d
 obtain ⟨xs,g1,g2,g3⟩:=pE es ks κs r c1 c2
 have dh:s.heap.DictOfH (bJ P.prog P.w) a xs:=⟨ob,_,ep,e,d.x,dd,g1,g3,by rw [g2];exact c3⟩
 have ff:=jq (by rw [g2];exact c1) f1 hk
 obtain ⟨z,hz,hz'⟩:=lc ff
 rw [g1,List.map_map] at v
 have vj:(as.map Value.ref)[j]?=some z.2.2:=by rw [←v,List.getElem?_map,hz];rfl
 rw [List.getElem?_map] at vj
 obtain ⟨x,hx,hxv⟩:=Option.map_eq_some_iff.mp vj
 have cl:=c j x l hx f4
 have xm:x∈as:=List.mem_of_getElem? hx
 rw [exec_Expr env _ pos (by simp [interactive,X.fn]) (hw env)]
 refine wpAny_bind (wpAny_standAt (wpAny_bind (lW md hbase hline htrees (Subscript_ (bp X ht1 Y.va (bp X ht3 v3 (tail_any dh.typeIs slot_dict_getitem.lookup (wpAny_getItem_heap (tm X.rm.units) hi dh (p:=z.2) (by rw [m8,ff,Option.bind_some,hz];rfl) ?_) rfl)))))))
 rw [←hxv]
 refine ⟨tM (t:=.lst l) (.inr ⟨x,rfl,cl⟩) rfl,bp (X.post (.toks g s _) X.g:At P B C n A env g ρ σ {s with toks:=s.toks+(bJ P.prog P.w).draws κ}) ht2 v2 ?_⟩
 refine jX A g σ _ x u2 (.lst l) kn (.lst (l++[kn])) _ _ X.rm X.g cl r2 (by show (bif bS (l.length+1) then some _ else Option.none)=_;rw [hf];rfl) fun h' tk hs hy=>wpAny_dropValue ?_
 have vx:kP g env [x]:=fun b hb=>List.mem_singleton.mp hb▸lm x (List.mem_cons_of_mem _ xm)
 have kk:∀b o,s.heap.get? b=some o→b∉[x]→h'.get? b=some o:=fun b o e hb=>(hs b fun q=>hb (List.mem_singleton.mpr q)).trans e
 obtain ⟨pV,X'⟩:=dk X vx kk tk
 have kf:aO g s.heap g h':=pV.toS.k X.g fun b hb=>(vx b hb).1
 have rx:=hy kf
 have pV:=dP pV fun b hb=>by rw [List.mem_singleton.mp hb];exact rx.live
 refine hq _ (pV.toS.mono fun b hb=>List.mem_append_left _ (List.mem_singleton.mp hb▸xm)) ⟨X',Y.va.move fun b hb o e=>kk b o e fun q=>(lm x (List.mem_cons_of_mem _ xm)).2.2.2 (List.mem_singleton.mp q▸hb),q,ob,es,kk a ob e fun q=>na (List.mem_singleton.mp q▸xm),d,r.mono kf,by rw [g1,List.map_map];exact v,nd,na,lm,by rw [List.length_set];exact ll,fun i b ts h1 h2=>?_⟩
 by_cases ij:i=j
 ·subst ij
  rw [hx] at h1;cases h1
  rw [List.getElem?_set_self (List.getElem?_eq_some_iff.mp f4).1] at h2;cases h2
  exact rx
 ·rw [List.getElem?_set_ne (Ne.symm ij)] at h2
  refine (c i b ts h1 h2).mono kf fun o e=>kk b o e fun q=>ij ?_
  rw [List.mem_singleton.mp q] at h1
  exact (List.getElem?_inj (List.getElem?_eq_some_iff.mp h1).1 nd).mp (h1.trans hx.symm)
theorem tJ {iter:Expr}{pi:PE}{body:List Stmt}{y:Str}{k:NameKind}{tp pos:Pos}{f:T→List (List T)→Option (List (List T))}{K:aH→Prop}{ts:List T}{Q:Flow→Shared→Prop}{E:Value→Shared→Prop}(hfs:∀env x,foldedSetIterable iter env x=pure x)(hi:ak P B C iter pi (RV P))(hc:b9 C i false C=true)(ht:B.tab[i]?=some (some (y,k)))(hk:k=.local∨k=.cell)(h1:1≠i)(hK:∀ρ t,K ρ→K (ρ.set i (some t))∧bC (ρ.set i (some t)) i=some t)
  (hb:∀t g ρ s ds ds₁ (Q:Flow→Shared→Prop) (E:Value→Shared→Prop),f t ds=some ds₁→cT P B C n A env σ a as ks g ρ s ds→K ρ→bC ρ i=some t→(∀s' g' ρ',aP [] (as++own env) g s g' s'→cT P B C n A env σ a as ks g' ρ' s' ds₁→K ρ'→Q .next s')→wpAny P.M A (execs body env) Q E s)
  (Y:cT P B C n A env σ a as ks g ρ s ds)(kr:K ρ)(hp:pi (P.cx n) ρ σ (fun t σ=>.ret t σ)=.ret (.lst ts) σ)(e:oe f ts ds=some ds₁)(hq:∀s' g' ρ',aP [] (as++own env) g s g' s'→cT P B C n A env σ a as ks g' ρ' s' ds₁→K ρ'→Q .next s'):
  wpAny P.M A (exec (.For (.Name y tp) iter body [] pos) env) Q E s:=by
 refine wpAny_For (hi n A env g ρ σ s (fun t σ=>.ret t σ) _ _ Y.X (by rw [hp];exact fun q=>by cases q) fun x s₁ g₁ t σ₁ e₁ p w r=>?_) (hfs env)
 rw [hp] at e₁;cases e₁
 obtain ⟨l,rfl,fl,vs,m,b1,b3,b2⟩:=r
 refine wpAny_pyIter_list ⟨_,b1,rfl,m,rfl⟩ ?_
 obtain ⟨p',w',v⟩:=o7 (X:=uT "list_iterator" l) (tk:=s₁.toks) w p
 have Y₁:=Y.post p w
 have pp:aE g₁ s₁ g₁ {s₁ with heap:=s₁.heap.push (uT "list_iterator" l),toks:=s₁.toks}:=.push _ _
 have Y₂:=Y₁.post pp w'
 have hI:=v s₁.heap.objs.size (List.mem_singleton.mpr rfl)
 refine Ca hc ht hk h1 hK hb (fun q=>Y₁.L.live _ q (aF _)) ts 0 g₁ ρ _ ds ds₁ (Nat.zero_le _) rfl Y₂ kr (fun b hb=>?_) ⟨⟨_,bI _,rfl,rfl⟩,fl,bQ s₁ _ _ _ b1,b2.mono (pp.k w)⟩ e fun s' g' ρ' q Y' k'=>hq s' g' ρ' (aP.drop p' hI.1 q) Y' k'
 rw [List.mem_singleton.mp hb]
 exact ⟨hI.2.1,hI.2.2,fun ⟨j,q⟩=>(Y.X.g.O _ ⟨j,p.o▸q⟩).1 hI.1,fun q=>(Y.X.env.own _ q).1 hI.1⟩
end
structure yv (h₀ h:Heap) (items:Array Value) (ps:List (Addr×Addr)):Prop where
 nw:∀p∈ps,h₀.get? p.1=none∧h₀.get? p.2=none
 nd:(ps.map (·.2)).Nodup
 at_:∀(i:Nat) (p:Addr×Addr),ps[i]?=some p→∃v m,items[i]?=some v∧h.get? p.1=some (ia #[v,.ref p.2] m)∧h.get? p.2=some (br #[] 0)
theorem yv.keep {h₀ h h':Heap}{items:Array Value}{ps:List (Addr×Addr)}(q:yv h₀ h items ps)(k:∀p∈ps,(∀o,h.get? p.1=some o→h'.get? p.1=some o)∧∀o,h.get? p.2=some o→h'.get? p.2=some o):yv h₀ h' items ps:=
 ⟨q.nw,q.nd,fun i p e=>let ⟨v,m,h1,h2,h3⟩:=q.at_ i p e;⟨v,m,h1,(k p (List.mem_of_getElem? e)).1 _ h2,(k p (List.mem_of_getElem? e)).2 _ h3⟩⟩
theorem yv.live {h₀ h:Heap}{items:Array Value}{ps:List (Addr×Addr)}(q:yv h₀ h items ps):∀p∈ps,(∃m v,h.get? p.1=some (ia v m))∧h.get? p.2=some (br #[] 0):=fun p hp=>by
 obtain ⟨i,hi⟩:=List.getElem?_of_mem hp
 obtain ⟨v,m,_,h2,h3⟩:=q.at_ i p hi
 exact ⟨⟨m,_,h2⟩,h3⟩
section
variable {P:Pg} {A:Around}
theorem zz {I D l:Addr}{c:Nat}{cenv:Env}{x:Str}{px p1 p2 pt pos:Pos}{kt:Nat}{iter:Expr}{scope:Scope}{items:Array Value}{h₀:Heap}(hh:A.handled=none)(hkd:cenv.scope.kind=.function)(hkn:cenv.kindOf x=some .local)(hd:(x==("__debug__":Str))=false)(hz:items.size≤lim)
  (lI:h₀.get? I≠none)(lD:h₀.get? D≠none)(lL:h₀.get? cenv.locals≠none)(nID:I≠D)(nIL:I≠cenv.locals)(nDL:D≠cenv.locals)(hl:h₀.get? l=some (br items c))(nl:l≠I∧l≠D∧l≠cenv.locals):
  ∀(k i:Nat) (s:Shared) (acc:Array Value) (cnt:Nat) (m:Str→Option Value) (ps:List (Addr×Addr)) (R:Result→Shared→Prop),items.size - i=k→i≤items.size→(∀b o,b≠I→b≠D→b≠cenv.locals→h₀.get? b=some o→s.heap.get? b=some o)→s.heap.IsListIter I l i→s.heap.Ns cenv.locals m→s.heap.get? D=some (br acc cnt)→acc.toList=ps.map (fun p=>Value.ref p.1)→ps.length=i→yv h₀ s.heap items ps→
   (∀h' tk acc' cnt' m' ps',(∀b o,b≠I→b≠D→b≠cenv.locals→h₀.get? b=some o→h'.get? b=some o)→h'.Ns cenv.locals m'→h'.get? D=some (br acc' cnt')→acc'.toList=ps'.map (fun p=>Value.ref p.1)→ps'.length=items.size→yv h₀ h' items ps'→R (.ok .next) {s with heap:=h',toks:=tk})→
   codeAny P.M A (.compLoop (.ListComp (.Tuple [.Name x p1,.List [] p2] kt pt) [⟨.Name x px,iter,[],0⟩] scope pos) 0 (.ref I) (.ref D) cenv) R s:=by
 have hp:(cenv.scope.kind==.class||(cenv.scope.kind==.module&&cenv.locals !=cenv.globals))=false:=by rw [hkd];rfl
 have out:∀{b:Addr},h₀.get? b=none→b≠I∧b≠D∧b≠cenv.locals:=fun e=>⟨fun q=>lI (q▸e),fun q=>lD (q▸e),fun q=>lL (q▸e)⟩
 intro k
 induction k with
 |zero=>
  intro i s acc cnt m ps R hk hi kp it hn hD' ea el pr hR
  obtain rfl:i=items.size:=Nat.le_antisymm hi (Nat.le_of_sub_eq_zero hk)
  refine codeAny_of_tree ?_
  show wpAny P.M A ((compTurn (.ListComp (.Tuple [.Name x p1,.List [] p2] kt pt) [⟨.Name x px,iter,[],0⟩] scope pos) 0 (.ref I) (.ref D) cenv).onRaise (fun x=>do noteFrame x cenv;theTreesLotGoes x)) _ _ s
  refine wpAny_noted ?_
  rw [compTurn_list]
  refine wpAny_bind (wpAny_standAt (wpAny_bind (wpAny_pyNext_list_end hh it ⟨_,kp _ _ nl.1 nl.2.1 nl.2.2 hl,rfl,c,rfl⟩ (Array.getElem?_eq_none (Nat.le_refl _)) fun h' hs=>wpAny_pure ?_)))
  exact hR h' s.toks acc cnt m ps (fun b o n1 n2 n3 e=>hs b o n1 (kp b o n1 n2 n3 e)) (hn.at fun o e=>hs _ o (Ne.symm nIL) e) (hs D _ (Ne.symm nID) hD') ea el (pr.keep fun p hp=>⟨fun o e=>hs _ o (out (pr.nw p hp).1).1 e,fun o e=>hs _ o (out (pr.nw p hp).2).1 e⟩)
 |succ k ih=>
  intro i s acc cnt m ps R hk hi kp it hn hD' ea el pr hR
  have hlt:i < items.size:=Nat.lt_of_sub_eq_succ hk
  refine codeAny_of_tree ?_
  show wpAny P.M A ((compTurn (.ListComp (.Tuple [.Name x p1,.List [] p2] kt pt) [⟨.Name x px,iter,[],0⟩] scope pos) 0 (.ref I) (.ref D) cenv).onRaise (fun x=>do noteFrame x cenv;theTreesLotGoes x)) _ _ s
  refine wpAny_noted ?_
  rw [compTurn_list]
  refine wpAny_bind (wpAny_standAt (wpAny_bind (wpAny_pyNext_list_item it ⟨_,kp _ _ nl.1 nl.2.1 nl.2.2 hl,rfl,c,rfl⟩ (Array.getElem?_eq_getElem hlt) fun h₁ it₁ hs₁=>?_)))
  have hn₁:h₁.Ns cenv.locals m:=hn.at fun o e=>(hs₁.2 _ (Ne.symm nIL)).trans e
  refine wpAny_bind (wpAny_pure (wpAny_bind (wpAny_assign_Name (wpAny_storeName_local hkn hn₁ (fun h₂ hn₂ hs₂=>wpAny_bind (wpAny_tests_nil ?_)) hp))))
  rw [if_pos rfl]
  refine wpAny_bind (wpAny_bind (wpAny_Tuple (wpAny_items_cons (wpAny_Name (wpAny_loadName_local hkd hkn hn₂ (if_pos rfl) (wpAny_items_cons (wpAny_List (wpAny_items_nil ⟨Nat.zero_le _,wpAny_items_nil ⟨(show 2≤sizeLine by decide),?_⟩⟩)) rfl)) hd) rfl)))
  have k2:∀b o,b≠I→b≠cenv.locals→s.heap.get? b=some o→h₂.get? b=some o:=fun b o n1 n2 e=>(hs₂.2 b n2).trans ((hs₁.2 b n1).trans e)
  have k4:∀b o,h₂.get? b=some o→((h₂.push (br #[] 0)).push (ia #[items[i],.ref h₂.objs.size] 0)).get? b=some o:=fun b o e=>Heap.get?_push_of_some _ (Heap.get?_push_of_some _ e)
  have n2:h₂.get? h₂.objs.size=none:=aF _
  have n3:(h₂.push (br #[] 0)).get? (h₂.push (br #[] 0)).objs.size=none:=aF _
  have d2:∀{b:Addr},h₂.get? b=none→h₀.get? b=none:=fun {b} e=>by
   cases q:h₀.get? b with
   |none=>rfl
   |some o=>
    by_cases b1:b=I
    ·exact (let ⟨_,z,_⟩:=it₁;an ((hs₂.2 I nIL).trans z) (b1▸e)).elim
    ·by_cases b2:b=cenv.locals
     ·exact (let ⟨_,_,_,z,_⟩:=hn₂;an z (b2▸e)).elim
     ·by_cases b3:b=D
      ·exact (an (k2 D _ (Ne.symm nID) nDL hD') (b3▸e)).elim
      ·exact (an (k2 b o b1 b2 (kp b o b1 b3 b2 q)) e).elim
  have d3:h₂.get? (h₂.push (br #[] 0)).objs.size=none:=b7 (fun b o e=>Heap.get?_push_of_some _ e) _ n3
  have pr₂:yv h₀ h₂ items ps:=pr.keep fun p hp=>⟨fun o e=>k2 _ o (out (pr.nw p hp).1).1 (out (pr.nw p hp).1).2.2 e,fun o e=>k2 _ o (out (pr.nw p hp).2).1 (out (pr.nw p hp).2).2.2 e⟩
  refine wpAny_bind (dN (k4 _ _ (k2 D _ (Ne.symm nID) nDL hD')) (wpAny_pure (wpAny_pure ⟨rfl,?_⟩)) (bj (by have:=congrArg List.length ea;rw [List.length_map,el,Array.length_toList] at this;lia -abstractProof)))
  have hs₅:=Heap.SameBut.update ((h₂.push (br #[] 0)).push (ia #[items[i],.ref h₂.objs.size] 0)) D (Obj.mapSeq fun a=>a.push (.ref (h₂.push (br #[] 0)).objs.size))
  have t1:((h₂.push (br #[] 0)).push (ia #[items[i],.ref h₂.objs.size] 0)).get? (h₂.push (br #[] 0)).objs.size=some (ia #[items[i],.ref h₂.objs.size] 0):=bI _
  have t2:((h₂.push (br #[] 0)).push (ia #[items[i],.ref h₂.objs.size] 0)).get? h₂.objs.size=some (br #[] 0):=Heap.get?_push_of_some _ (bI _)
  have o1:=out (d2 d3)
  have o2:=out (d2 n2)
  refine ih (i+1) _ _ _ _ (ps++[((h₂.push (br #[] 0)).objs.size,h₂.objs.size)]) R (s9 hk) hlt (fun b o n1 n2 n3 e=>(hs₅.2 b n2).trans (k4 b o (k2 b o n1 n3 (kp b o n1 n2 n3 e)))) (let ⟨o,z,r⟩:=it₁;⟨o,(hs₅.2 I nID).trans (k4 I o ((hs₂.2 I nIL).trans z)),r⟩) (hn₂.at fun o e=>(hs₅.2 _ (Ne.symm nDL)).trans (k4 _ o e)) (IsL.update (k4 _ _ (k2 D _ (Ne.symm nID) nDL hD')) _) (by rw [Array.toList_push,ea,List.map_append];rfl) (by rw [List.length_append,el];rfl) ⟨fun p hp=>?_,?_,fun j p e=>?_⟩ fun h' tk acc' cnt' m' ps'=>hR h' tk acc' cnt' m' ps'
  ·rcases List.mem_append.mp hp with hp |hp
   ·exact pr.nw p hp
   ·rw [List.mem_singleton.mp hp];exact ⟨d2 d3,d2 n2⟩
  ·rw [List.map_append,List.nodup_append]
   refine ⟨pr.nd,List.pairwise_singleton _ _,fun b hb b' hb' q=>?_⟩
   obtain ⟨p,hp,rfl⟩:=List.mem_map.mp hb
   rw [List.mem_singleton.mp (show b'∈[h₂.objs.size] from hb')] at q
   have:=(pr₂.live p hp).2
   rw [q,n2] at this;cases this
  ·by_cases q:j < ps.length
   ·rw [List.getElem?_append_left q] at e
    have hp:=List.mem_of_getElem? e
    obtain ⟨v,m,h1,h2,h3⟩:=pr₂.at_ j p e
    exact ⟨v,m,h1,(hs₅.2 _ (out (pr.nw p hp).1).2.1).trans (k4 _ _ h2),(hs₅.2 _ (out (pr.nw p hp).2).2.1).trans (k4 _ _ h3)⟩
   ·rw [List.getElem?_append_right (Nat.not_lt.mp q)] at e
    have:=(List.getElem?_eq_some_iff.mp e).1
    rw [List.length_singleton] at this
    rw [show j - ps.length=0 by lia] at e
    cases e
    exact ⟨items[i],0,by rw [show j=i by lia -abstractProof];exact Array.getElem?_eq_getElem hlt,(hs₅.2 _ o1.2.1).trans t1,(hs₅.2 _ o2.2.1).trans t2⟩
end
section
variable {P:Pg} {B:bB} {C:Ct} {n i:Nat} {A:Around} {env:Env} {g g' g₁:Gh} {ρ:aH} {σ:Sg} {s s' s₁:Shared} {h h':Heap} {a:Addr} {as:List Addr} {ks:List T} {ds ds₁:List (List T)} {ms:List (Str×Nat)}
inductive LA (P:Pg) (h:Heap) (o:Option iO) (a:Addr):Prop
 |mk (e:iO) (us:Array Value) (m:Nat) (he:o=some e) (hg:h.get? a=some (ia us m)) (hu:us.toList=[.ref e.2.1,e.2.2]) (hk:(bJ P.prog P.w).is h e.1 e.2.1)
structure LE (P:Pg) (h:Heap) (vs:List Value) (κs:List Ky) (ps:List (Addr×Addr)) (es:List iO):Prop where
 k:es.map (·.1)=κs
 v:es.map (·.2.2)=ps.map (fun p=>Value.ref p.2)
 e:vs=es.map (fun y=>Value.ref y.2.1)
 a:∀(i:Nat) p,ps[i]?=some p→LA P h es[i]? p.1
theorem qF:∀(ks:List T) (vs:List Value) (κs:List Ky) (ps:List (Addr×Addr)),aR P g h ks vs→e9 ks=some κs→ps.length=vs.length→(∀(i:Nat) p v,ps[i]?=some p→vs[i]?=some v→∃m,h.get? p.1=some (ia #[v,.ref p.2] m))→
  ∃es:List iO,LE P h vs κs ps es
 | [],vs,κs,ps,r,e,l,_=>by
  cases r;cases e
  cases List.length_eq_zero_iff.mp l
  exact ⟨[],rfl,rfl,rfl,fun i p q=>by cases q⟩
 |t::ks,_,κs,ps,⟨v,vs,e0,q,r⟩,e,l,c=>by
  subst e0
  obtain ⟨κ,κs',e1,e2,e3⟩:=bc (show o2 (wT t) (e9 ks) _=some κs from e)
  cases e3
  cases ps with
  |nil=>cases l
  |cons p ps=>
   obtain ⟨ad,rfl,hi,_⟩:=l6 e1 (.inl q)
   obtain ⟨m,hm⟩:=c 0 p _ rfl rfl
   obtain ⟨es,h1,h2,h3,h4⟩:=qF ks vs κs' ps r e2 (Nat.succ.inj l) fun i p v q1 q2=>c (i+1) p v q1 q2
   refine ⟨(κ,ad,.ref p.2)::es,by rw [List.map_cons,h1],by rw [List.map_cons,h2];rfl,by rw [List.map_cons,←h3],fun j p' hj=>?_⟩
   cases j with
   |zero=>cases hj;exact ⟨_,_,m,rfl,hm,rfl,hi⟩
   |succ j=>exact h4 j p' hj
theorem od:∀{ks us:List T},d0 ks us=true→∃κs,e9 ks=some κs
 | [],_,_=>⟨[],rfl⟩
 |k::ks,us,e=>by
  rw [mh] at e
  match q:kN us k with
  |some none=>
   rw [q] at e
   obtain ⟨κ,hk⟩:=jN q
   obtain ⟨κs,h⟩:=od (ks:=ks) e
   exact ⟨κ::κs,by show o2 (wT k) (e9 ks) _=_;rw [hk,h];rfl⟩
  |some (some _)=>rw [q] at e;cases e
  |none=>rw [q] at e;cases e
theorem mu:∀(ks us:List T) (xs es:List iO),d0 ks us=true→e9 us=some (xs.map (·.1))→e9 ks=some (es.map (·.1))→mx es xs=xs++es
 | [],us,xs,es,_,_,e=>by
  cases es with
  |nil=>rw [List.append_nil];rfl
  |cons=>cases e
 |k::ks,us,xs,es,hf,hu,e=>by
  obtain ⟨κ,κs,e1,e2,e3⟩:=bc (show o2 (wT k) (e9 ks) _=some (es.map (·.1)) from e)
  cases es with
  |nil=>cases e3
  |cons x es=>
   have e3:=Option.some.inj e3
   obtain ⟨rfl,e4⟩:=List.cons.inj e3
   rw [mh] at hf
   match q:kN us k with
   |some none=>
    rw [q] at hf
    have at0:atKey xs x.1=none:=by rw [m8,jq hu q e1];rfl
    have st:storedH xs x.1 x.2.1 x.2.2=xs++[x]:=storedH_new at0 _ _
    have:=mu ks (us++[k]) (xs++[x]) es hf (by rw [List.map_append];exact sH hu e1) (by rw [e2,e4])
    show mx es (storedH xs x.1 x.2.1 x.2.2)=_
    rw [st,this,List.append_assoc];rfl
   |some (some _)=>rw [q] at hf;cases hf
   |none=>rw [q] at hf;cases hf
theorem vi.new {acc items:Array Value}{cnt:Nat}{D:Addr}{ps:List (Addr×Addr)}{Q:Value→Shared→Prop}{E:Value→Shared→Prop}(G:rM P)(rm:Rm A)(w:bv P g s₁.heap σ)(r:aR P g s₁.heap ks items.toList)(hl:ks.length≤lim)(hf:d0 ks []=true)(hD:s₁.heap.get? D=some (br acc cnt))(ea:acc.toList=ps.map fun p=>Value.ref p.1)(el:ps.length=items.size)(pr:yv h s₁.heap items ps)
  (hn:∀p∈ps,¬g.F p.2∧¬g.Z p.2)(ho:∀b,h.get? b=none→¬g.O b∧b∉own env)(hw:∀b∈own env,s₁.heap.get? b≠none)
  (hq:∀S s',aE g s₁ g s'→bv P g s'.heap σ→vi P env g s'.heap S (ps.map (·.2)) ks (ks.map fun _=>[])→s₁.heap.get? S=none→Q (.ref S) s'):wpAny P.M A (call (.type "dict") [.ref D]) Q E s₁:=by
 obtain ⟨κs,hk⟩:=od hf
 obtain ⟨es,h1,h2,h3,h4⟩:=qF ks _ κs ps r hk (by rw [el];rfl) fun i p v q1 q2=>by
  obtain ⟨v',m,z1,z2,_⟩:=pr.at_ i p q1
  rw [Array.getElem?_toList,z1] at q2
  cases q2;exact ⟨m,z2⟩
 have hz:acc.size=ps.length:=by have:=congrArg List.length ea;rw [List.length_map] at this;exact this
 have le:es.length=ps.length:=by have:=congrArg List.length h2;rw [List.length_map,List.length_map] at this;exact this
 have li:=r.length
 refine fX (es:=es) (by have:=rm.units;lia -abstractProof) rm.handled hD (by rw [le,hz]) (by rw [hz,el];rw [Array.length_toList] at li;rw [li];exact hl) (fun i v hv=>?_) fun h' tk dd kp=>?_
 ·rw [←Array.getElem?_toList,ea,List.getElem?_map] at hv
  obtain ⟨p,hp,rfl⟩:=Option.map_eq_some_iff.mp hv
  obtain ⟨e,us,m,z1,z2,z3,z4⟩:=h4 i p hp
  exact ⟨p.1,e,us,m,rfl,z1,z2,z3,z4⟩
 have ef:=mu ks [] [] es hf rfl (by rw [h1];exact hk)
 rw [List.nil_append] at ef
 rw [ef] at dd
 obtain ⟨o,es',ep,e,x,d,q1,q3,q4⟩:=dd
 have pp:aE g s₁ g {s₁ with heap:=h',toks:=tk}:=.grow tk kp g.F (fun _ f=>f) fun _ f=>.inl f
 have dn:=aF s₁.heap
 have lps:∀b∈ps.map (·.2),s₁.heap.get? b=some (br #[] 0)∧h.get? b=none∧¬g.F b∧¬g.Z b:=fun b hb=>by
  obtain ⟨p,hp,rfl⟩:=List.mem_map.mp hb
  exact ⟨(pr.live p hp).2,(pr.nw p hp).2,hn p hp⟩
 refine hq _ _ pp (w.grow kp g.F (fun _ f=>f) fun _ f=>.inl f) ⟨oJ G w,o,es'.toList,e,⟨x,⟨ep,d⟩,⟨κs,hk,?_,?_⟩,hl⟩,?_,?_,pr.nd,fun q=>?_,fun b hb=>?_,?_,fun i b ts b1 b2=>?_⟩ dn
 ·rw [q1,List.map_map,←h1,List.map_map];rfl
 ·rw [←h1];exact q4
 ·rw [q1,List.map_map]
  show aR P g h' ks (es.map fun y=>Value.ref y.2.1)
  rw [←h3];exact r.mono (pp.k w)
 ·rw [q1,List.map_map,List.map_map]
  exact h2
 ·have:=(lps _ q).1
  rw [dn] at this;cases this
 ·rcases List.mem_cons.mp hb with rfl |hb
  ·obtain ⟨z1,z2,z3⟩:=dj w
   exact ⟨z1,z2,z3,fun q=>hw _ q dn⟩
  ·obtain ⟨_,z1,z2,z3⟩:=lps b hb
   exact ⟨z2,z3,(ho b z1).1,(ho b z1).2⟩
 ·rw [List.length_map,List.length_map,el];rw [Array.length_toList] at li;exact li
 ·rw [List.getElem?_map] at b2
  obtain ⟨_,_,rfl⟩:=Option.map_eq_some_iff.mp b2
  exact ⟨#[],0,kp _ _ (lps b (List.mem_of_getElem? b1)).1,Nat.zero_le _,rfl⟩
end
noncomputable def GK (scope:Scope)(x:Str):Bool:=scope.kind==.function&&(scope.names.all (fun x=>!(x.2==.local)||scope.names.lookup x.1==some .local)&&(scope.names.all (fun x=>!(x.2==.cell)&&!(x.2==.free))&&((scope.names.lookup x==some .local)&&!(x==("__debug__":Str)))))
section
variable {P:Pg} {B:bB} {C C':Ct} {n i:Nat} {A:Around} {env:Env} {g g' g₁:Gh} {ρ:aH} {σ:Sg} {s s' s₁:Shared} {h h':Heap} {a:Addr} {as:List Addr} {ks:List T} {ds ds₁:List (List T)} {ms:List (Str×Nat)}
theorem rB {c j:Nat}{w t:T}(e0:bC ρ 0=some w)(hk:m9 c j w=some t):p1 (m9 c j) (pV 0) (P.cx n) ρ σ (fun t σ=>.ret t σ)=.ret t σ:=by
 show up (bC ρ 0) σ (fun a σ=>up (m9 c j a) σ fun t σ=>.ret t σ)=_
 rw [e0]
 show up (m9 c j w) σ _=_
 rw [hk];rfl
theorem wJ {x wn:Str}{k0:NameKind}{px p1 p2 pt ap np pos:Pos}{kt:Nat}{scope:Scope}{w:T}{Q:Value→Shared→Prop}{E:Value→Shared→Prop}(O:bu P 10 ms)(hB:GK scope x=true)(hv0:jC C 0=true)(ht0:B.tab[0]?=some (some (wn,k0)))(X:At P B C n A env g ρ σ s)(e0:bC ρ 0=some w)(hk:m9 10 4 w=some (.lst ks))
  (hq:∀D acc cnt items ps s' g',aE g s g' s'→bv P g' s'.heap σ→aR P g' s'.heap ks (items:Array Value).toList→ks.length≤lim→s'.heap.get? D=some (br acc cnt)→acc.toList=ps.map (fun p:Addr×Addr=>Value.ref p.1)→ps.length=items.size→yv s.heap s'.heap items ps→(∀p∈ps,¬g'.F p.2∧¬g'.Z p.2)→Q (.ref D) s'):
  wpAny P.M A (eval (.ListComp (.Tuple [.Name x p1,.List [] p2] kt pt) [⟨.Name x px,.Attribute (.Name wn np) (ofString "knots") ap,[],0⟩] scope pos) env) Q E s:=by
 obtain ⟨b1,hB⟩:=Bool.and_eq_true_iff.mp hB
 obtain ⟨b2,hB⟩:=Bool.and_eq_true_iff.mp hB
 obtain ⟨b3,hB⟩:=Bool.and_eq_true_iff.mp hB
 obtain ⟨b4,b5⟩:=Bool.and_eq_true_iff.mp hB
 have b3:=fun y hy=>Bool.and_eq_true_iff.mp (List.all_eq_true.mp b3 y hy)
 have hkind:scope.kind=.function:=eq_of_beq b1
 have hx:scope.names.lookup x=some .local:=eq_of_beq b4
 rw [eval_ListComp]
 refine wpAny_comprehension_free (use:=none) rfl (fun _=>rfl) (iE (env:=env) fun y hy=>?_) hkind (fun y hy e=>?_) ?_
 ·have:=(b3 _ hy).2;cases this
 ·have:=List.all_eq_true.mp b2 y hy
  rw [e] at this;exact eq_of_beq this
 have hp:=rB (P:=P) (n:=n) (σ:=σ) e0 hk
 refine ak.attr O rfl (fun _=>rfl) (fun _ _=>rfl) (ak.var hv0 ht0) n A env g ρ σ s (fun t σ=>.ret t σ) _ _ X (by rw [hp];exact fun q=>by cases q) fun u s₁ g₁ t σ₁ e₁ p₁ w₁ r₁=>?_
 rw [hp] at e₁;cases e₁
 obtain ⟨l,rfl,fl,items,c,c1,c3,c2⟩:=r₁
 refine wpAny_pyIter_list ⟨_,c1,rfl,c,rfl⟩ (wpAny_newList (wpAny_newFunctionEnv (fun y hy e=>?_) (fun y hy=>by cases hy) (fun h₅ hn₅ hsb₅=>?_) hkind))
 ·have:=(b3 y hy).1;rw [e] at this;cases this
 dsimp only at hn₅ hsb₅ ⊢
 have nI:s₁.heap.get? s₁.heap.objs.size=none:=aF _
 have tI:=bI (h:=s₁.heap) (uT "list_iterator" l)
 have k3:∀b o,s₁.heap.get? b=some o→(s₁.heap.push (uT "list_iterator" l)).get? b=some o:=bQ s₁ _
 show codeAny _ _ _ _ _
 generalize s₁.heap.push (uT "list_iterator" l)=h₃ at *
 have nD:h₃.get? h₃.objs.size=none:=aF _
 have tD:=bI (h:=h₃) (br #[] 0)
 have k4:∀b o,h₃.get? b=some o→(h₃.push (br #[] 0)).get? b=some o:=fun b o e=>Heap.get?_push_of_some _ e
 have hsb₅:Heap.SameBut (h₃.push (br #[] 0)).objs.size ((h₃.push (br #[] 0)).push {cls:=.type "dict",data:=.dict #[]}) h₅:=hsb₅
 have hn₅:h₅.Ns (h₃.push (br #[] 0)).objs.size (fun _=>none):=hn₅
 have nL:(h₃.push (br #[] 0)).get? (h₃.push (br #[] 0)).objs.size=none:=aF _
 generalize h₃.push (br #[] 0)=h₄ at *
 have k5:∀b o,h₄.get? b=some o→h₅.get? b=some o:=fun b o e=>(hsb₅.2 b fun q=>an e (q▸nL)).trans (Heap.get?_push_of_some _ e)
 generalize h₄.objs.size=L at *
 generalize h₃.objs.size=D at *
 generalize s₁.heap.objs.size=I at *
 have eI:=k5 _ _ (k4 _ _ tI)
 have eD:=k5 _ _ tD
 have k1:∀b o,s₁.heap.get? b=some o→h₅.get? b=some o:=fun b o e=>k5 b o (k4 b o (k3 b o e))
 have nID:I≠D:=fun q=>an tI (q▸nD)
 have nIL:I≠L:=fun q=>an (k4 _ _ tI) (q▸nL)
 have nDL:D≠L:=fun q=>an tD (q▸nL)
 have nD1:s₁.heap.get? D=none:=b7 k3 _ nD
 have nL1:s₁.heap.get? L=none:=b7 k3 _ (b7 k4 _ nL)
 have ne1:∀{b:Addr} {o:Obj},s₁.heap.get? b=some o→b≠I∧b≠D∧b≠L:=fun e=>⟨fun q=>an e (q▸nI),fun q=>an e (q▸nD1),fun q=>an e (q▸nL1)⟩
 have lL:h₅.get? L≠none:=let ⟨_,_,_,z,_⟩:=hn₅;an z
 have hkn:(compEnvC scope (er env scope.names []) L env).kindOf x=some .local:=lookup_relabel_local hx
 have loop:codeAny P.M A (.compLoop (.ListComp (.Tuple [.Name x p1,.List [] p2] kt pt) [⟨.Name x px,.Attribute (.Name wn np) (ofString "knots") ap,[],0⟩] scope pos) 0 (.ref I) (.ref D) (compEnvC scope (er env scope.names []) L env)) (compPost P.M A E none Q (.ref D) L) {s₁ with heap:=h₅,toks:=s₁.toks+([]:List (Str×Value)).length}:=by
  refine zz (h₀:=h₅) X.room.2.2 hkind hkn ((Bool.not_eq_true' _).mp b5) (by have:=c2.length;rw [Array.length_toList] at this;rw [this];exact c3) (an eI) (an eD) lL nID nIL nDL (k1 _ _ c1) (ne1 c1) _ 0 _ #[] 0 _ [] _ rfl (Nat.zero_le _) (fun b o _ _ _ e=>e) ⟨_,eI,rfl,rfl⟩ hn₅ eD rfl rfl ⟨(fun p hp=>by cases hp),.nil,fun i p e=>by cases e⟩ fun h' tk acc' cnt' m' ps' kp hn' hD' ea el pr=>⟨m',hn',fun h₇ hs₇=>?_⟩
  have k7:∀b o,s₁.heap.get? b=some o→h₇.get? b=some o:=fun b o e=>(hs₇.2 b (ne1 e).2.2).trans (kp b o (ne1 e).1 (ne1 e).2.1 (ne1 e).2.2 (k1 b o e))
  have p₇:aE g₁ s₁ g₁ {s₁ with heap:=h₇,toks:=tk}:=.grow tk k7 g₁.F (fun _ f=>f) fun _ f=>.inl f
  have d1:∀{b:Addr},h₅.get? b=none→s₁.heap.get? b=none:=fun e=>b7 k1 _ e
  refine hq D acc' cnt' items ps' _ g₁ (p₁.trans p₇) (w₁.grow k7 g₁.F (fun _ f=>f) fun _ f=>.inl f) (c2.mono (p₇.k w₁)) c3 ((hs₇.2 D nDL).trans hD') ea el ⟨fun p hp=>⟨p₁.back _ (d1 (pr.nw p hp).1),p₁.back _ (d1 (pr.nw p hp).2)⟩,pr.nd,fun i p e=>?_⟩ fun p hp=>⟨fun f=>w₁.F _ f (d1 (pr.nw p hp).2),fun z=>(w₁.Z _ z).1 (d1 (pr.nw p hp).2)⟩
  have hp:=List.mem_of_getElem? e
  obtain ⟨v,m,q1,q2,q3⟩:=pr.at_ i p e
  exact ⟨v,m,q1,(hs₇.2 _ fun q=>lL (q▸(pr.nw p hp).1)).trans q2,(hs₇.2 _ fun q=>lL (q▸(pr.nw p hp).2)).trans q3⟩
 exact codeAny_compStart_list loop (wpAny_pyIter_listiter ⟨_,eI,rfl,rfl⟩ loop)
theorem At.one {w:T}(X:At P B C n A env g ρ σ s)(e0:bC ρ 0=some w)(h0:0∉C.U):At P B C n A env g [some w,none,none,none] σ s:=
 have k:∀{i:Nat} {t:T},bC [some w,none,none,none] i=some t→i=0∧t=w:=fun {i t} e=>by
  match i,e with
  | 0,e=>cases e;exact ⟨rfl,rfl⟩
  | 1,e=>cases e
  | 2,e=>cases e
  | 3,e=>cases e
  |_+4,e=>cases e
 ⟨X.good,X.call,X.room,{X.env with
  var:=fun i y t ht hv=>let ⟨h1,h2⟩:=k hv;X.env.var i y t ht (by rw [h1,h2];exact e0)
  un:=fun i hi=>by
   cases e:bC [some w,none,none,none] i with
   |none=>rfl
   |some t=>exact (h0 ((k e).1▸hi)).elim},X.g⟩
theorem bv.freezeL {l:List Addr}(w:bv P g h σ)(hl:∀b∈l,h.get? b≠none∧¬g.Z b∧¬g.O b):bv P {g with F:=fun y=>g.F y∨y∈l} h σ:=by
 have kf:aO g h {g with F:=fun y=>g.F y∨y∈l} h:=⟨fun b f=>⟨.inl f,fun _ e=>e⟩,rfl⟩
 exact ⟨fun b o e=>⟨.inl (w.base b o e).1,(w.base b o e).2⟩,fun b f=>f.elim (w.F b) fun q=>(hl b q).1,fun b q=>⟨(w.Z b q).1,fun f=>f.elim (w.Z b q).2 fun e=>(hl b e).2.1 q⟩,
  fun b q=>⟨(w.O b q).1,fun f=>f.elim (w.O b q).2.1 fun e=>(hl b e).2.2 q,(w.O b q).2.2⟩,w.oo,w.spot,fun c ts e=>(w.self c ts e).mono kf (fun _ q=>⟨q,fun _ e=>e⟩) rfl⟩
theorem vi.rp (L:vi P env g h a as ks ds):Rp P {g with F:=fun y=>g.F y∨y∈a::as} h (.dct ks (ds.map .lst)) (.ref a):=by
 have kf:aO g h {g with F:=fun y=>g.F y∨y∈a::as} h:=⟨fun b f=>⟨.inl f,fun _ e=>e⟩,rfl⟩
 obtain ⟨q,o,es,e,d,r,v,nd,na,lm,l,c⟩:=L
 refine ⟨a,rfl,.inr List.mem_cons_self,q,o,es,e,d,r.mono kf,?_⟩
 rw [v]
 refine aR.of (by rw [List.length_map,List.length_map];exact l) fun i u t h1 h2=>?_
 rw [List.getElem?_map] at h1 h2
 obtain ⟨x,hx,rfl⟩:=Option.map_eq_some_iff.mp h1
 obtain ⟨ts,ht,rfl⟩:=Option.map_eq_some_iff.mp h2
 exact ((c i x ts hx ht).mono kf fun _ e=>e).rp (.inr (List.mem_cons_of_mem _ (List.mem_of_getElem? hx)))
theorem BN {wn fo kn' ot x:Str}{k0 k1 k2 k3:NameKind}{q1 q2 q3 q4 px p1 p2 pt ap np cpos tp np2 ap2 fpos tp2 np3 ap3 sp3 kp3 fpos2 f1 f2 f3 fs fa fc fe rp rr:Pos}{kt:Nat}{scope:Scope}(O:bu P 10 ms)(hB:GK scope x=true)(h0:C.U.all (fun i=>Nat.ble 1 i)=true)(hv:(jC C 0&&(jC C 2&&jC C 3))=true)(hc:(b9 C 1 false C&&(b9 C 2 false C&&b9 C 3 false C))=true)
  (ht0:B.tab[0]?=some (some (wn,k0)))(ht1:B.tab[1]?=some (some (fo,k1)))(ht2:B.tab[2]?=some (some (kn',k2)))(ht3:B.tab[3]?=some (some (ot,k3)))(hk1:k1=.local∨k1=.cell)(hk2:k2=.local∨k2=.cell)(hk3:k3=.local∨k3=.cell)
  (hx:B.sc.names.lookup (ofString "dict")=some .globalImplicit)(hw1:vp (.Call (.Name (ofString "dict") q2) [.ListComp (.Tuple [.Name x p1,.List [] p2] kt pt) [⟨.Name x px,.Attribute (.Name wn np) (ofString "knots") ap,[],0⟩] scope cpos] [] q3) fo q1 q4.line B.sc=false)
  (hbase:∀env,attributeBase (.Subscript (.Name fo f1) (.Name ot f2) fs) (ofString "append") env (eval (.Subscript (.Name fo f1) (.Name ot f2) fs) env)=eval (.Subscript (.Name fo f1) (.Name ot f2) fs) env)(hline:(fa.endLine==fc.line)=true)
  (hw:∀env,swapsWith (.Call (.Attribute (.Subscript (.Name fo f1) (.Name ot f2) fs) (ofString "append") fa) [.Name kn' f3] [] fc) none fe.line env=pure false):
  gR P B C false C' [.Assign [.Name fo q1] (.Call (.Name (ofString "dict") q2) [.ListComp (.Tuple [.Name x p1,.List [] p2] kt pt) [⟨.Name x px,.Attribute (.Name wn np) (ofString "knots") ap,[],0⟩] scope cpos] [] q3) q4,
   .For (.Name kn' tp) (.Attribute (.Name wn np2) (ofString "knots") ap2) [.For (.Name ot tp2) (.Subscript (.Attribute (.Name wn np3) (ofString "threads") ap3) (.Name kn' kp3) sp3) [.Expr (.Call (.Attribute (.Subscript (.Name fo f1) (.Name ot f2) fs) (ofString "append") fa) [.Name kn' f3] [] fc) fe] [] fpos2] [] fpos,
   .Return (some (.Name fo rp)) rr] ui:=fun n A env g ρ σ s k Q E X hb hq hr=>by
 obtain ⟨hv0,hv⟩:=Bool.and_eq_true_iff.mp hv
 obtain ⟨hv2,hv3⟩:=Bool.and_eq_true_iff.mp hv
 obtain ⟨hc1,hc⟩:=Bool.and_eq_true_iff.mp hc
 obtain ⟨hc2,hc3⟩:=Bool.and_eq_true_iff.mp hc
 unfold ui at hb hr
 cases e0:bC ρ 0 with
 |none=>rw [e0] at hb;exact absurd rfl hb
 |some w=>
  cases el:wK w with
  |none=>simp only [e0,el] at hb;exact absurd rfl hb
  |some t=>
   simp only [e0,el] at hr
   obtain ⟨kl,a1,a2⟩:=ar el
   obtain ⟨ks,a3,a4⟩:=ar a2
   obtain ⟨th,a5,a6⟩:=ar a4
   obtain ⟨a7,a8⟩:=pO a6
   obtain ⟨ds,a9,a10⟩:=ar a8
   cases a10
   cases eh a3
   obtain ⟨_,hf⟩:=Bool.and_eq_true_iff.mp a7
   rw [n9] at a9
   have X:=X.one e0 fun q=>by cases Nat.le_of_ble_eq_true (List.all_eq_true.mp h0 0 q)
   refine wpAny_execs_cons (wpAny_Assign_Name (Call_Name rfl (X.blt hx (by decide) (by decide) (v:=.type "dict") (by decide) (bw (fun _ q=>by cases q) (bF fun q hq=>?_) (wpAny_items_cons (wJ O hB hv0 ht0 X rfl a1 fun D acc cnt items ps s₁ g₁ p₁ w₁ r₁ l₁ hD ea eq pr hn=>wpAny_items_nil ?_) rfl)))) (by rw [jD X.env.sc,hw1]))
   ·cases hq with
    |head=>rfl
    |tail _ h=>cases h
   refine vi.new (env:=env) X.good X.rm w₁ r₁ l₁ hf hD ea eq pr hn (fun b hb=>⟨fun ⟨i,q⟩=>(X.g.O b ⟨i,p₁.o▸q⟩).1 hb,fun q=>(X.env.own b q).1 hb⟩) (fun b hb=>p₁.live (X.env.own b hb).1) fun S s₂ p₂ w₂ L nS=>?_
   have p02:=p₁.trans p₂
   refine nU (o:=none) (X.post p02 w₂) (dH hc1).1.nu ht1 hk1 (fun _ e=>nomatch e) fun s₃ p₃ X₃ va _=>?_
   have p₃:bH [] (own env) g₁ s₂ g₁ s₃:=p₃.weak (fun _ h=>h) cU
   have v₃:=L.vol.post L.live p₃.toS
   have Y:cT P B C n A env σ S (ps.map (·.2)) ks g₁ [some w,none,none,none] s₃ (ks.map fun _=>[]):=⟨X₃,va,L.keep (p₃.toS.k w₂ fun b hb=>((X.post p02 w₂).env.own b hb).2.1) v₃.2 v₃.1⟩
   have p03:aP [] (own env) g s g₁ s₃:=p02.toS.trans p₃.toS
   refine wpAny_execs_cons (tJ (i:=2) (f:=GE ks th) (K:=fun ρ=>bC ρ 0=some w∧ρ.length=4) (fun _ _=>rfl) (ak.attr O rfl (fun _=>rfl) (fun _ _=>rfl) (ak.var hv0 ht0)) hc2 ht2 hk2 (by decide) (fun ρ t h=>⟨⟨(oZ (by decide)).trans h.1,by rw [List.length_set];exact h.2⟩,sv (by rw [h.2];decide)⟩) (fun t g ρ s ds ds₁ Q E e Y kr et hq=>?_) Y ⟨rfl,rfl⟩ (rB rfl a1) a9 fun s₅ g₅ ρ₅ q Y₅ k₅=>?_)
   ·obtain ⟨lv,f1,f2⟩:=ar e
    obtain ⟨os,f3,f4⟩:=ar f2
    cases eh f3
    rw [oa] at f4
    refine wpAny_execs_cons (tJ (i:=3) (f:=Fi ks t) (K:=fun ρ=>(bC ρ 0=some w∧ρ.length=4)∧bC ρ 2=some t) (fun _ _=>rfl) (ak.idxD (fun _ _=>rfl) (dc.vx (ak.attr O (i:=6) rfl (fun _=>rfl) (fun _ _=>rfl) (ak.var hv0 ht0))) (dc.vx (ak.var hv2 ht2))) hc3 ht3 hk3 (by decide) (fun ρ t h=>⟨⟨⟨(oZ (by decide)).trans h.1.1,by rw [List.length_set];exact h.1.2⟩,(oZ (by decide)).trans h.2⟩,sv (by rw [h.1.2];decide)⟩) (fun o g ρ s ds ds₁ Q E e Y kr eo hq=>?_) Y ⟨kr,et⟩ (ts:=os) ?_ f4 fun s' g' ρ' q Y' k'=>wpAny_execs_nil (hq s' g' ρ' q Y' k'.1))
    ·exact wpAny_execs_cons (wI ht1 ht2 ht3 hv2 hv3 hbase hline (fun _=>rfl) hw Y kr.2 eo e fun s' q Y'=>wpAny_execs_nil (hq s' g ρ q Y' kr))
    ·show up (bC ρ 0) σ (fun a σ=>up (m9 10 6 a) σ fun t σ=>up (bC ρ 2) σ fun b σ=>up (idxD t b) σ fun t σ=>.ret t σ)=_
     simp only [kr.1,up,a5,et,f1]
   ·have dd:∀b∈S::ps.map (·.2),s.heap.get? b=none:=fun b hb=>by
     rcases List.mem_cons.mp hb with rfl |hb
     ·exact p₁.back _ nS
     ·obtain ⟨p,hp,rfl⟩:=List.mem_map.mp hb
      exact (pr.nw p hp).2
    have wF:=Y₅.X.g.freezeL (l:=S::ps.map (·.2)) fun b hb=>⟨Y₅.L.live b hb,(Y₅.L.vol b hb).2.1,(Y₅.L.vol b hb).2.2.1⟩
    refine wpAny_execs_cons (wpAny_Return_some (bp Y₅.X ht1 Y₅.va (hr _ s₅ _ _ σ rfl ?_ wF Y₅.L.rp)))
    exact ⟨St.trans p03.st q.st,fun b o e z o' w=>q.keep b o (p03.keep b o e z o' w) (fun x=>(p03.Zn b x).elim z (an e)) (fun x=>(p03.On b x).elim o' (an e)) fun x=>(List.mem_append.mp x).elim (fun x=>an e (dd b (List.mem_cons_of_mem _ x))) w,fun b _ e=>p03.b b (q.b b e),fun b f=>.inl (q.F b (p03.F b f)),
     fun b f=>f.elim (fun f=>(q.Fn b f).elim (p03.Fn b) fun x=>.inr (x.elim (p03.On b) fun x=>.inr (p03.b b x))) fun x=>.inr (.inr (dd b x)),fun b f=>(q.Zn b f).elim (p03.Zn b) fun x=>.inr (p03.b b x),fun b f=>(q.On b f).elim (p03.On b) fun x=>.inr (p03.b b x),q.sp.trans p03.sp,q.sa.trans p03.sa⟩
end
end
end Mine
end
section
namespace Mine
open PySem
noncomputable abbrev Tb:=List (Option (Str×NameKind))
noncomputable abbrev lo (x:String):Option (Str×NameKind):=some (ofString x,.local)
noncomputable abbrev ce (x:String):Option (Str×NameKind):=some (ofString x,.cell)
universe u v w
theorem rf {α:Sort u}{β:Sort v}{f:α→β}(a:α):f a=f a:=rfl
theorem Hl {α:Sort u}{β:Sort v}{γ:Sort w}{f:α→β→γ}(a:α)(b:β):f a b=f a b:=rfl
theorem dg.badZ {P:Pg}{B:bB}{C C':Ct}{fr:Bool}{ss:List Stmt}:gR P B C fr C' ss hU:=fun n A env g ρ σ s k Q E X hb hq hr=>absurd rfl hb
end Mine
end
section
set_option tactic.hygienic false
namespace Mine
noncomputable section
open PySem PyProof.Rows
noncomputable abbrev Mo (α:Type):=Nat→Option (α×Nat)
section
variable {α β γ:Type}
noncomputable def mR (a:α):Mo α:=fun s=>some (a,s)
noncomputable def mF:Mo α:=fun _=>none
noncomputable def mB (x:Mo α)(f:α→Mo β):Mo β:=fun s=>Option.rec none (fun q=>Prod.rec f q) (x s)
noncomputable def mN (f:Nat→Mo α):Mo α:=fun s=>f (s % 100000) (s / 100000)
noncomputable def jQ (b:Bool)(f:b=true→α)(d:α):α:=Bool.rec (motive:=fun b=>(b=true→α)→α) (fun _=>d) (fun f=>f rfl) b f
noncomputable def mG (b:Bool)(f:b=true→Mo α):Mo α:=jQ b f mF
noncomputable def m2 (a b:Mo α):Mo α:=mN fun d=>bif Nat.beq d 0 then a else b
noncomputable def mU {S:β→Prop}(x:Mo {p:β // S p})(f:∀p,S p→Mo α):Mo α:=mB x fun a=>Subtype.rec f a
noncomputable def eA {α:List γ→Type}(l:List γ)(n:Mo (α []))(f:∀x r,Mo (α (x::r))):Mo (α l):=List.rec (motive:=fun l=>Mo (α l)) n (fun x r _=>f x r) l
noncomputable def iR {α:List γ→Type}(l:List γ)(n:Mo (α [])):Mo (α l):=eA l n fun _ _=>mF
noncomputable def oB {α:List γ→Type}(l:List γ)(f:∀x,Mo (α [x])):Mo (α l):=eA l mF fun x r=>iR (α:=fun r=>α (x::r)) r (f x)
noncomputable def yB {α:List γ→Type}(l:List γ)(f:∀x y,Mo (α [x,y])):Mo (α l):=eA l mF fun x r=>oB (α:=fun r=>α (x::r)) r (f x)
end
theorem rR {b:Bool}(h:(!b)=true):b=false:=(Bool.not_eq_true' b).mp h
theorem sb {γ:Type} [BEq γ] [LawfulBEq γ] {α:γ→Prop}{y z:γ}(h:(y==z)=true)(a:α z):α y:=(eq_of_beq h)▸a
noncomputable def uX (k:Nat)(e:Expr):Bool:=Nat.beq e.ctorIdx k
noncomputable def iu (e:Expr):Bool:=!uX 22 e&&(!uX 26 e&&!uX 7 e)
noncomputable def GA (e:Expr):Bool:=!uX 0 e&&(!uX 3 e&&(!uX 5 e&&!uX 15 e))
structure Pl (e:Expr):Prop where
 star:∀es env,starEach (e::es) env=(false,eval e env)::starEach es env
 subs:∀x y,subscripted e false x y=operate [x,y] (getItem x y)
 fold:∀env x,foldedSetIterable e env x=pure x
 beh:∀op,behindInMarks op e=false
 base:uX 16 e=false→∀name env,attributeBase e name env (eval e env)=eval e env
 tv:GA e=true→∀env whole,isTrue e env whole=(do let v ←whole;standAt e.pos;holding [v] (truthy v))
 sws:∀a i p l env,swapsWith e (some (.Subscript a i p)) l env=pure false
 swa:∀a x p l env,swapsWith e (some (.Attribute a x p)) l env=pure false
theorem pl {e:Expr}(h:iu e=true):Pl e:=by
 cases e<;>first |exact ⟨fun _ _=>rfl,fun _ _=>rfl,fun _ _=>rfl,fun _=>rfl,fun _ _ _=>rfl,fun _ _ _=>rfl,fun _ _ _ _ _=>rfl,fun _ _ _ _ _=>rfl⟩ |exact ⟨fun _ _=>rfl,fun _ _=>rfl,fun _ _=>rfl,fun _=>rfl,fun _ _ _=>rfl,(fun h=>nomatch h),fun _ _ _ _ _=>rfl,fun _ _ _ _ _=>rfl⟩ |exact ⟨fun _ _=>rfl,fun _ _=>rfl,fun _ _=>rfl,fun _=>rfl,(fun h=>nomatch h),fun _ _ _=>rfl,fun _ _ _ _ _=>rfl,fun _ _ _ _ _=>rfl⟩ |cases h
theorem bt {e:Expr}(h:iu e=true)(pos:Pos)(env:Env):backTo pos (starEach [e] env)=[(false,eval e env)]:=by rw [(pl h).star];rfl
theorem GJ {o1 o2:CmpOp}{m r:Expr}(h:iu r=true)(env:Env):markedEach [o1,o2] [m,r] (evalEach [m,r] env)=[eval m env,eval r env]:=by
 show [eval m env,markedBehindIn o2 r (eval r env)]=_
 unfold markedBehindIn;rw [(pl h).beh o2]
section
variable {α:Expr→Type} (e:Expr)
noncomputable def vC {k:Nat}(d:Mo (α e))(f:e.ctorIdx=k→Mo (α e)):Mo (α e):=jQ (uX k e) (fun h=>f (Nat.eq_of_beq_eq_true h)) d
noncomputable def bO (d:Mo (α e))(f:∀y p,Mo (α (.Name y p))):Mo (α e):=vC e d fun h=>Expr.Name.elim (motive_1:=fun e=>Mo (α e)) e h f
noncomputable def lj (d:Mo (α e))(f:∀o x p,Mo (α (.Attribute o x p))):Mo (α e):=vC e d fun h=>Expr.Attribute.elim (motive_1:=fun e=>Mo (α e)) e h f
noncomputable def j4 (d:Mo (α e))(f:∀g es p,Mo (α (.Call g es [] p))):Mo (α e):=vC e d fun h=>Expr.Call.elim (motive_1:=fun e=>Mo (α e)) e h fun g es ks p=>iR (α:=fun ks=>α (.Call g es ks p)) ks (f g es p)
noncomputable def Ba (d:Mo (α e))(f:∀es k p,Mo (α (.Tuple es k p))):Mo (α e):=vC e d fun h=>Expr.Tuple.elim (motive_1:=fun e=>Mo (α e)) e h f
noncomputable def yC (f:∀i k p,Mo (α (.Constant (.int i) k p))):Mo (α e):=vC e mF fun h=>Expr.Constant.elim (motive_1:=fun e=>Mo (α e)) e h fun c k p=>jQ (Nat.beq c.ctorIdx 2) (fun h=>Const.int.elim (motive:=fun c=>Mo (α (.Constant c k p))) c (Nat.eq_of_beq_eq_true h) fun i=>f i k p) mF
noncomputable def Az (d:Mo (α e))(f:∀elt t i fs s p,Mo (α (.ListComp elt [⟨t,i,fs,0⟩] s p))):Mo (α e):=vC e d fun h=>Expr.ListComp.elim (motive_1:=fun e=>Mo (α e)) e h fun elt gs s p=>oB (α:=fun gs=>α (.ListComp elt gs s p)) gs fun g=>Comprehension.casesOn (motive_3:=fun g=>Mo (α (.ListComp elt [g] s p))) g fun t i fs a=>jQ (a==0) (fun h=>Eq.rec (motive:=fun a _=>Mo (α (.ListComp elt [⟨t,i,fs,a⟩] s p))) (f elt t i fs s p) (eq_of_beq h).symm) mF
noncomputable def Bb (d:Mo (α e))(f:∀a b c p,Mo (α (.Slice a b c p))):Mo (α e):=vC e d fun h=>Expr.Slice.elim (motive_1:=fun e=>Mo (α e)) e h f
noncomputable def GT (f:∀op e p,Mo (α (.UnaryOp op e p))):Mo (α e):=vC e mF fun h=>Expr.UnaryOp.elim (motive_1:=fun e=>Mo (α e)) e h f
end
noncomputable abbrev LT:=List (Str×Nat)×List (Str×Nat)×List (Str×Nat)×List (Str×T)
noncomputable def LT.ms (L:LT)(b:Bool):List (Str×Nat):=bif b then L.2.1 else L.2.2.1
noncomputable def rS (b:Bool):Nat:=bif b then 0 else 10
structure fR (P:Pg) (L:LT):Prop where
 fn:∀p∈L.1,∃F,P.Ψ p.2=some F∧P.gl p.2=true∧(P.fd p.2).name=p.1
 o:∀b,bu P (rS b) (L.ms b)
 me:∀b,∀p∈L.ms b,∃F,P.Ψ p.2=some F
 g:∀b,P.mg (bif b then ofString "Machine" else ofString "Web")=some (.ref (P.cls (rS b)))
 cs:∀p∈L.2.2.2,∃u,P.mg p.1=some u∧∀g h,Rp P g h p.2 u
theorem nJ {α:Type}{y:Str}{t:α}{l:List (Str×α)}(h:l.lookup y=some t):(y,t)∈l:=let ⟨_,_,e,_⟩:=List.lookup_eq_some_iff.mp h;e▸List.mem_append_right _ List.mem_cons_self
noncomputable def mO {α β:Type}(l:List (Str×β))(y:Str)(d:Mo α)(f:∀t,(y,t)∈l→Mo α):Mo α:=Option.rec (motive:=fun o=>(∀t,o=some t→Mo α)→Mo α) (fun _=>d) (fun t f=>f t rfl) (l.lookup y) fun t h=>f t (nJ h)
noncomputable def KR (P:Pg)(k:Option Bool):RR Value T:=Option.rec (RX P) (fun b=>Bool.rec (RV P) (RN P) b) k
noncomputable abbrev RE (P:Pg)(B:bB)(C:Ct)(e:Expr):=(k:Option Bool)×{p:PE // ak P B C e p (KR P k)}
noncomputable abbrev FE (P:Pg):=∀(B:bB) (C:Ct) (e:Expr),Mo (RE P B C e)
noncomputable abbrev FT (P:Pg):=∀(B:bB) (C:Ct) (e:Expr),Mo {p:PT // ch P B C e p}
noncomputable abbrev Gi (B:bB)(y:Str):Bool:=(B.sc.names.lookup y==some .globalImplicit)&&!(y==("__debug__":Str))
theorem gi {B:bB}{y:Str}(h:Gi B y=true):B.sc.names.lookup y=some .globalImplicit:=eq_of_beq (Bool.and_eq_true_iff.mp h).1
theorem F7 {B:bB}{y:Str}(h:Gi B y=true):(y==("__debug__":Str))=false:=rR (Bool.and_eq_true_iff.mp h).2
theorem yr {B:bB}{y z:Str}(q:(y==z)=true)(h:Gi B y=true):B.sc.names.lookup z=some .globalImplicit:=eq_of_beq q▸gi h
noncomputable def slot (l:Tb)(y:Str):Nat:=l.findIdx fun o=>Option.rec false (fun q=>q.1==y) o
noncomputable def knd (l:Tb)(i:Nat):NameKind:=((l[i]?.getD none).getD (ofString "",.local)).2
noncomputable def xx (C:Ct)(i:Nat):Ct:=⟨C.O.filter fun j=>!Nat.beq j i,C.U,C.m⟩
noncomputable def Cy (C:Ct)(i:Nat):Ct:=⟨C.O.filter (fun j=>Nat.blt j i)++i::C.O.filter (fun j=>Nat.blt i j),C.U,C.m⟩
noncomputable def DS (C:Ct)(i:Nat):Ct:=⟨C.O,C.U.filter fun j=>!Nat.beq j i,C.m⟩
section
variable {P:Pg} {L:LT} (D:fR P L) (E:FE P) (Tr:FT P) (B:bB) (C:Ct) {β:Type}
section
variable {e:Expr}
noncomputable def rv (p:PE)(h:ak P B C e p (RV P)):Mo (RE P B C e):=mR ⟨some false,p,h⟩
noncomputable def rn (p:PE)(h:ak P B C e p (RN P)):Mo (RE P B C e):=mR ⟨some true,p,h⟩
noncomputable def rx (p:PE)(h:ak P B C e p (RX P)):Mo (RE P B C e):=mR ⟨none,p,h⟩
end
section
variable (e:Expr)
noncomputable def mV (f:∀p,ak P B C e p (RV P)→Mo β):Mo β:=mB (E B C e) fun r=>Option.rec (motive:=fun k=>{p:PE // ak P B C e p (KR P k)}→Mo β) (fun _=>mF) (fun b=>Bool.rec (motive:=fun b=>{p:PE // ak P B C e p (KR P (some b))}→Mo β) (fun a=>Subtype.rec f a) (fun a=>Subtype.rec (fun p h=>f p (dc.nv h)) a) b) r.1 r.2
noncomputable def mX (f:∀p,ak P B C e p (RX P)→Mo β):Mo β:=mB (E B C e) fun r=>Option.rec (motive:=fun k=>{p:PE // ak P B C e p (KR P k)}→Mo β) (fun a=>Subtype.rec f a) (fun b=>Bool.rec (motive:=fun b=>{p:PE // ak P B C e p (KR P (some b))}→Mo β) (fun a=>Subtype.rec (fun p h=>f p (dc.vx h)) a) (fun a=>Subtype.rec (fun p h=>f p (dc.nx h)) a) b) r.1 r.2
noncomputable def mW (f:∀p,ak P B C e p (RN P)→Mo β):Mo β:=mB (E B C e) fun r=>Option.rec (motive:=fun k=>{p:PE // ak P B C e p (KR P k)}→Mo β) (fun _=>mF) (fun b=>Bool.rec (motive:=fun b=>{p:PE // ak P B C e p (KR P (some b))}→Mo β) (fun _=>mF) (fun a=>Subtype.rec f a) b) r.1 r.2
end
noncomputable def wB (y:Str)(d:Mo β)(f:∀(i:Nat) (k:NameKind),B.tab[i]?=some (some (y,k))→Mo β):Mo β:=jQ (B.tab[slot B.tab y]?==some (some (y,knd B.tab (slot B.tab y)))) (fun h=>f _ _ (eq_of_beq h)) d
noncomputable def Ex (y:Str)(d:Mo β)(f:∀k,B.tab[0]?=some (some (y,k))→Mo β):Mo β:=jQ (C.m&&(B.tab[0]?==some (some (y,knd B.tab 0)))) (fun h=>f _ (eq_of_beq (Bool.and_eq_true_iff.mp h).2)) d
noncomputable def mA (x:Str)(f:∀(c i:Nat) ms,bu P c ms→(bV c)[i]?=some x→Mo β):Mo β:=
 (fun b=>jQ ((bV (rS b))[(bV (rS b)).findIdx (·==x)]?==some x) (fun h=>f (rS b) _ _ (D.o b) (eq_of_beq h)) mF) ((bV 0).contains x)
noncomputable def um {α:Expr→Type}(e:Expr)(d:∀e,Mo (α e))(f:∀y np x ap (c i:Nat) ms k,bu P c ms→(bV c)[i]?=some x→B.tab[0]?=some (some (y,k))→Mo (α (.Attribute (.Name y np) x ap))):Mo (α e):=
 lj e (d e) fun o x ap=>bO (α:=fun o=>α (.Attribute o x ap)) o (d _) fun y np=>Ex B C y (d _) fun k ht=>bif (bV 10).contains x then mA D x fun c i ms O hn=>bif gG c i then f y np x ap c i ms k O hn ht else d _ else d _
noncomputable def AB (es:List Expr):Mo {p:PL // f0 P B C es p}:=List.rec (motive:=fun es=>Mo {p:PL // f0 P B C es p}) (mR ⟨ah,.nil⟩) (fun e es ih=>mG (iu e) fun h=>mV E B C e fun p hp=>mU ih fun r hr=>mR ⟨aa p r,.cons ((pl h).star es) hp hr⟩) es
noncomputable def Ce (c:Const)(k:Nat)(pos:Pos):Mo (RE P B C (.Constant c k pos)):=
 Const.casesOn (motive:=fun c=>Mo (RE P B C (.Constant c k pos))) c (rv B C (pC .none) .none) (fun b=>rv B C (pC (.bool b)) .bool) (fun i=>rv B C (pC (.int i)) .int) (fun _=>mF) (fun _ _=>mF) (fun y=>mG (PyData.strOk y&&decide (y.length≤lim)) fun h=>rv B C (pC (.str y)) (.str h)) (fun _=>mF) mF
noncomputable def DI (y:Str)(pos:Pos):Mo (RE P B C (.Name y pos)):=
 wB B y (mG (Gi B y) fun hg=>mO L.2.2.2 y mF fun t h=>rv B C (pC t) (.gconst (gi hg) (F7 hg) (D.cs _ h)))
  fun i k ht=>jQ (bq C i) (fun ho=>rx B C (pV i) (.own ho ht)) (mG (jC C i) fun hv=>rv B C (pV i) (.var hv ht))
noncomputable def Gb (l:Expr)(op:Operator)(r:Expr)(pos:Pos):Mo (RE P B C (.BinOp l op r pos)):=
 mX E B C l fun a ha=>mX E B C r fun b hb=>Operator.casesOn (motive:=fun op=>Mo (RE P B C (.BinOp l op r pos))) op
  (rv B C (p2 aC a b) (.bin kq Di ha hb)) (rv B C (p2 cA a b) (.bin kq Dd ha hb))
  (bif uX 24 l then rn B C (p2 fw a b) (.bin DP De ha hb) else rv B C (p2 jK a b) (.bin kq Df ha hb))
  mF mF (rv B C (p2 aV a b) (.bin kq Dg ha hb)) mF mF mF mF mF mF (rv B C (p2 cb a b) (.bin kq Dh ha hb))
noncomputable def Hb (op:UnaryOp)(e:Expr)(pos:Pos):Mo (RE P B C (.UnaryOp op e pos)):=mX E B C e fun a ha=>
 UnaryOp.casesOn (motive:=fun op=>Mo (RE P B C (.UnaryOp op e pos))) op mF (rv B C (gF a) (.not ha)) mF (rv B C (p1 kG a) (.neg ha))
noncomputable def DM (o:Expr)(name:Str)(pos:Pos):Mo (RE P B C (.Attribute o name pos)):=
 bO (α:=fun o=>RE P B C (.Attribute o name pos)) o mF fun y np=>mA D name fun c i ms O hn=>
  Ex B C y (mV E B C (.Name y np) fun p h=>rv B C (p1 (m9 c i) p) (.attr O hn (fun _=>rfl) (fun _ _=>rfl) h))
   fun k ht=>mG (!bq C 0) fun ho=>rv B C (eP c i) (.rat O hn (rR ho) ht)
noncomputable def t4 (P:Pg)(op:CmpOp):Mo {F:T→T→Option Bool // jw P op F}:=
 CmpOp.casesOn (motive:=fun op=>Mo {F:T→T→Option Bool // jw P op F}) op (mR ⟨bD,DZ⟩) (mR ⟨j8,DT⟩) (mR ⟨tE,DU⟩) (mR ⟨AO,DV⟩) (mR ⟨rQ,DX⟩) (mR ⟨GL,DY⟩) (mR ⟨_,AY⟩) (mR ⟨_,xJ⟩)
  (m2 (mR ⟨fT,DW⟩) (m2 (mR ⟨AT,xK⟩) (mR ⟨EG,Cl⟩))) (m2 (mR ⟨eY,xI⟩) (mR ⟨dY,u8⟩))
noncomputable def Ga (l:Expr)(ops:List CmpOp)(rs:List Expr)(pos:Pos):Mo (RE P B C (.Compare l ops rs pos)):=
 eA (α:=fun ops=>RE P B C (.Compare l ops rs pos)) ops mF fun op os=>eA (α:=fun rs=>RE P B C (.Compare l (op::os) rs pos)) rs mF fun r rs=>mU (t4 P op) fun F hF=>mX E B C l fun a ha=>mX E B C r fun b hb=>
  eA (α:=fun os=>RE P B C (.Compare l (op::os) (r::rs) pos)) os
   (iR (α:=fun rs=>RE P B C (.Compare l [op] (r::rs) pos)) rs (mG (iu r) fun h=>rv B C (pB (p2 F a b)) (.cmp hF ((pl h).beh op) ha hb)))
   fun o2 os=>iR (α:=fun os=>RE P B C (.Compare l (op::o2::os) (r::rs) pos)) os (oB (α:=fun rs=>RE P B C (.Compare l [op,o2] (r::rs) pos)) rs fun q=>mG (iu q) fun h=>mU (t4 P o2) fun G hG=>mX E B C q fun c hc=>rv B C (pB (i9 F G a b c)) (.cmp2 hF hG (GJ h) ha hb hc))
noncomputable def GU (op:BoolOp)(es:List Expr):Mo {p:PE // iK P B C op es p}:=List.rec (motive:=fun es=>Mo {p:PE // iK P B C op es p}) mF
 (fun e es ih=>mV E B C e fun a ha=>List.rec (motive:=fun es=>Mo {p:PE // iK P B C op es p}→Mo {p:PE // iK P B C op (e::es) p}) (fun _=>mR ⟨a,.one ha⟩) (fun e' es _ ih=>mU ih fun r hr=>
  BoolOp.casesOn (motive:=fun op=>iK P B C op (e'::es) r→Mo {p:PE // iK P B C op (e::e'::es) p}) op (fun hr=>mR ⟨iD a r,.and ha hr⟩) (fun hr=>mR ⟨v9 a r,.or ha hr⟩) hr) es ih) es
noncomputable def GB (e:Option Expr):Mo {p:PO // rI P B C e p}:=Option.rec (motive:=fun e=>Mo {p:PO // rI P B C e p}) (mR ⟨fS,.none⟩) (fun e=>mX E B C e fun a ha=>mR ⟨p1 bN a,.some ha⟩) e
noncomputable def DJ (i:Expr)(pos:Pos)(a:Expr):Mo (RE P B C (.Subscript a i pos)):=mG (iu i) fun h=>mN fun d=>mX E B C a fun x hx=>mX E B C i fun y hy=>bif Nat.beq d 0 then rv B C (p2 aj x y) (.idx (pl h).subs hx hy) else rv B C (p2 idxD x y) (.idxD (pl h).subs hx hy)
noncomputable def DH (a i:Expr)(pos:Pos):Mo (RE P B C (.Subscript a i pos)):=
 Bb (α:=fun i=>RE P B C (.Subscript a i pos)) i
  (bO (α:=fun a=>RE P B C (.Subscript a i pos)) a
   (um D B C (α:=fun a=>RE P B C (.Subscript a i pos)) a (DJ E B C i pos) fun y np x ap c j ms k O hn ht=>mG (iu i) fun h=>mN fun d=>mV E B C i fun q hq=>
    bif Nat.beq d 0 then rv B C (Bs c j aj q) (.f2 O hn ht (wd (pl h).subs) hq) else rv B C (Bs c j idxD q) (.f2 O hn ht (wc (pl h).subs) hq))
   fun y np=>jQ (y==("_law_spot":Str))
    (fun _=>yC (α:=fun i=>RE P B C (.Subscript (.Name y np) i pos)) i fun j kk cp=>mG (j==0) fun hj=>wB B y mF fun n k ht=>mG (jC C n) fun hv=>rv B C (n5 n) (sb (α:=fun j=>ak P B C (.Subscript (.Name y np) (.Constant (.int j) kk cp) pos) (n5 n) (RV P)) hj (.spot hv ht)))
    (DJ E B C i pos (.Name y np)))
  fun lo hi st p=>mX E B C a fun x hx=>Option.rec (motive:=fun st=>Mo (RE P B C (.Subscript a (.Slice lo hi st p) pos)))
   (mU (GB E B C lo) fun l hl=>mU (GB E B C hi) fun h hh=>rv B C (p3 bi x l h) (.slc hx hl hh))
   (fun st=>Option.rec (motive:=fun lo=>Mo (RE P B C (.Subscript a (.Slice lo hi (some st) p) pos))) (Option.rec (motive:=fun hi=>Mo (RE P B C (.Subscript a (.Slice none hi (some st) p) pos)))
    (GT (α:=fun st=>RE P B C (.Subscript a (.Slice none none (some st) p) pos)) st fun op e pu=>yC (α:=fun e=>RE P B C (.Subscript a (.Slice none none (some (.UnaryOp op e pu)) p) pos)) e fun j kc pc=>mG (j==1) fun hj=>mG (op==.USub) fun ho=>rv B C (p1 r6 x) (sb (α:=fun j=>ak P B C (.Subscript a (.Slice none none (some (.UnaryOp op (.Constant (.int j) kc pc) pu)) p) pos) (p1 r6 x) (RV P)) hj (sb (α:=fun op=>ak P B C (.Subscript a (.Slice none none (some (.UnaryOp op (.Constant (.int 1) kc pc) pu)) p) pos) (p1 r6 x) (RV P)) ho (.rev hx)))) (fun _=>mF) hi) (fun _=>mF) lo) st
end
end
end Mine
end
section
set_option tactic.hygienic false
namespace Mine
noncomputable section
open PySem PyProof.Rows
noncomputable def Cn (y:Str):BT:=bif y==BT.nm .list then .list else bif y==BT.nm .bool then .bool else bif y==BT.nm .int then .int else bif y==BT.nm .str then .str else .tuple
section
variable {P:Pg} {B:bB} {C:Ct} {e o:Expr} {p pe po:PE} {y z name:Str} {pn qn apos pos np:Pos}
theorem F2 (X:BT)(hy:(y==ofString "isinstance")=true)(hT:(z==X.nm)=true)(hx:Gi B y=true)(hz:Gi B z=true)(hp:iu e=true)(h:ak P B C e p (RX P)):ak P B C (.Call (.Name y pn) [e,.Name z qn] [] pos) (p1 (dK X) p) (RV P):=
 sb (α:=fun y=>ak P B C (.Call (.Name y pn) [e,.Name z qn] [] pos) (p1 (dK X) p) (RV P)) hy (sb (α:=fun z=>ak P B C (.Call (.Name (ofString "isinstance") pn) [e,.Name z qn] [] pos) (p1 (dK X) p) (RV P)) hT (.isi X (yr hy hx) (yr hT hz) (fun env=>((pl hp).star _ env).trans rfl) h))
noncomputable abbrev Hj (P:Pg)(x:String)(F:T→Option T)(R:RR Value T):Prop:=∀{B:bB} {C:Ct} {e:Expr} {p:PE} {pn pos:Pos},CP B x→(∀env,starEach [e] env=[(false,eval e env)])→ak P B C e p (RX P)→ak P B C (.Call (.Name (ofString x) pn) [e] [] pos) (p1 F p) R
theorem CL {x:String}{F:T→Option T}{R:RR Value T}(k:Hj P x F R)(hx:Gi B y=true)(hp:iu e=true)(h:ak P B C e p (RX P))(hy:(y==ofString x)=true):ak P B C (.Call (.Name y pn) [e] [] pos) (p1 F p) R:=
 sb (α:=fun y=>ak P B C (.Call (.Name y pn) [e] [] pos) (p1 F p) R) hy (k (yr hy hx) ((pl hp).star []) h)
theorem Fw {x id:String}{K:MK}{F:T→T→Option T}(i:yx K (ofString x) id)(k:pX P (En P id) F (RV P))(hk:iu o=true)(ho:(!uX 16 o)=true)(hl:(apos.endLine==pos.line)=true)(hp:iu e=true)(h1:ak P B C o po (RX P))(h2:ak P B C e pe (RX P))(hy:(name==ofString x)=true):ak P B C (.Call (.Attribute o name apos) [e] [] pos) (yV K F po pe) (RV P):=
 sb (α:=fun name=>ak P B C (.Call (.Attribute o name apos) [e] [] pos) (yV K F po pe) (RV P)) hy (.m1 i kq k ((pl hk).base (rR ho) _) hl (bt hp pos) h1 h2)
end
section
variable {P:Pg} {L:LT} (D:fR P L) (E:FE P) (Tr:FT P) (B:bB) (C:Ct)
section
variable (y:Str) (pn:Pos) (pos:Pos)
noncomputable def Hd (e:Expr):Mo (RE P B C (.Call (.Name y pn) [e] [] pos)):=mG (Gi B y) fun hx=>mG (iu e) fun hp=>mX E B C e fun a ha=>
 jQ (y==ofString "len") (fun hy=>rv B C (p1 aI a) (CL .len hx hp ha hy))
 (jQ (y==ofString "list") (fun hy=>rn B C (p1 eZ a) (CL .listOf hx hp ha hy))
 (jQ (y==ofString "any") (fun hy=>rv B C (p1 s4 a) (CL .anyOf hx hp ha hy))
 (jQ (y==ofString "all") (fun hy=>rv B C (p1 ju a) (CL .allOf hx hp ha hy))
 (jQ (y==ofString "int") (fun hy=>rv B C (p1 ma a) (CL .intOf hx hp ha hy))
 (jQ (y==ofString "dict") (fun hy=>rn B C (p1 qR a) (CL .dictOf hx hp ha hy)) mF)))))
noncomputable def Cf (es:List Expr):Mo (RE P B C (.Call (.Name y pn) es [] pos)):=mG (Gi B y) fun hx=>
 mO L.1 y
  (eA (α:=fun es=>RE P B C (.Call (.Name y pn) es [] pos)) es mF fun e es=>(fun b=>jQ (y==(bif b then ofString "Machine" else ofString "Web"))
    (fun hy=>mO (L.ms b) (ofString "__init__") mF fun f hi=>mG (rP f&&!kM f) fun hf=>mG (iu e) fun hp=>mU (AB E B C (e::es)) fun r hr=>rv B C (uE (rS b) f r) (sb (α:=fun y=>ak P B C (.Call (.Name y pn) (e::es) [] pos) (uE (rS b) f r) (RV P)) hy (.new (D.o b) hi hf (D.g b) (yr hy hx) (by cases b<;>decide) ((pl hp).star es) hr)))
    (eA (α:=fun es=>RE P B C (.Call (.Name y pn) (e::es) [] pos)) es
     (um D B C (α:=fun e=>RE P B C (.Call (.Name y pn) [e] [] pos)) e (Hd E B C y pn pos) fun z np x ap c i ms k O hn ht=>mG (y==ofString "len") fun hy=>rv B C (p1 aI (oX c i)) (sb (α:=fun y=>ak P B C (.Call (.Name y pn) [.Attribute (.Name z np) x ap] [] pos) (p1 aI (oX c i)) (RV P)) hy (.lenF O hn ht (yr hy hx) fun _=>rfl)))
     fun t es=>iR (α:=fun es=>RE P B C (.Call (.Name y pn) (e::t::es) [] pos)) es (bO (α:=fun t=>RE P B C (.Call (.Name y pn) [e,t] [] pos)) t mF fun z qn=>mG (y==ofString "isinstance") fun hy=>mG (z==(Cn z).nm) fun hT=>mG (Gi B z) fun hz=>mG (iu e) fun hp=>mX E B C e fun a ha=>rv B C (p1 (dK (Cn z)) a) (F2 (Cn z) hy hT hx hz hp ha))))
   (y==ofString "Machine"))
  fun f hf=>mG (!rP f) fun hm=>mU (AB E B C es) fun r hr=>
   jQ (kM f) (fun h=>rn B C (am f r) (let ⟨_,h1,h2⟩:=D.fn _ hf;ak.callN h1 h2 (rR hm) h (gi hx) (F7 hx) hr)) (mG (!kM f) fun h=>rv B C (am f r) (let ⟨_,h1,h2⟩:=D.fn _ hf;ak.call h1 h2 (rR hm) (rR h) (gi hx) (F7 hx) hr))
end
section
variable (o:Expr) (name:Str) (apos:Pos) (pos:Pos)
noncomputable def Hc (e:Expr):Mo (RE P B C (.Call (.Attribute o name apos) [e] [] pos)):=
 mG (iu o) fun hk=>mG (!uX 16 o) fun ho=>mG (apos.endLine==pos.line) fun hl=>mG (iu e) fun hp=>mX E B C o fun a ha=>mX E B C e fun b hb=>
  jQ (name==ofString "join") (fun hy=>rv B C (yV .str tN a b) (Fw B8 wW hk ho hl hp ha hb hy))
  (jQ (name==ofString "split") (fun hy=>rv B C (yV .str oH a b) (Fw zP ut hk ho hl hp ha hb hy))
  (jQ (name==ofString "index") (fun hy=>rv B C (yV .list mc a b) (Fw zQ w8 hk ho hl hp ha hb hy)) mF))
noncomputable def AX (b:Bool)(es:List Expr)(d:Mo (RE P B C (.Call (.Attribute o name apos) es [] pos))):Mo (RE P B C (.Call (.Attribute o name apos) es [] pos)):=mO (L.ms b) name d fun f hm=>
 mG (Ev (rS b) f name apos pos es.length) fun hb=>
  bO (α:=fun o=>RE P B C (.Call (.Attribute o name apos) es [] pos)) o (mG (iu o) fun hk=>mG (!uX 16 o) fun ho=>mV E B C o fun a ha=>mU (AB E B C es) fun r hr=>rv B C (pU (rS b) f a r) (let ⟨_,h⟩:=D.me b _ hm;.meth (D.o b) hm h hb ((pl hk).base (rR ho) _) ha hr))
  fun y np=>Ex B C y
   (mV E B C (.Name y np) fun a ha=>mU (AB E B C es) fun r hr=>rv B C (pU (rS b) f a r) (let ⟨_,h⟩:=D.me b _ hm;.meth (D.o b) hm h hb (fun _=>rfl) ha hr))
   fun k ht=>mU (AB E B C es) fun r hr=>rv B C (su (rS b) f r) (let ⟨_,h⟩:=D.me b _ hm;.rmeth (D.o b) hm h hb ht hr)
end
noncomputable def DL (g:Expr)(es:List Expr)(pos:Pos):Mo (RE P B C (.Call g es [] pos)):=
 bO (α:=fun g=>RE P B C (.Call g es [] pos)) g (lj (α:=fun g=>RE P B C (.Call g es [] pos)) g mF fun o name apos=>AX D E B C o name apos pos true es (AX D E B C o name apos pos false es (oB (α:=fun es=>RE P B C (.Call (.Attribute o name apos) es [] pos)) es (Hc E B C o name apos pos))))
 fun y pn=>Cf D E B C y pn pos es
noncomputable def Gl (B:bB)(sc:Scope)(i:Nat)(x:Str)(k:NameKind):Tb:=(List.range i).map (fun j=>Option.rec none (fun q=>bif sc.names.contains (q.1,.free) then some (q.1,.cell) else none) (B.tab[j]?.getD none))++[some (x,k)]
noncomputable def EU (c:Bool)(x:Str):Option Str:=bif c then some x else none
noncomputable def F0 (c:Bool):NameKind:=bif c then .cell else .local
theorem Ea {P:Pg}{Bc:bB}{C Ci:Ct}{i:Nat}{x:Str}{tp:Pos}{c:Bool}(hc:b9 C i false Ci=true)(ht:(Bc.tab[i]?==some (some (x,F0 c)))=true):iM P (yj P Bc C Ci (.Name x tp) (aM i) (lq (EU c x))):=by
 cases c
 ·exact bindL hc (eq_of_beq ht)
 ·exact bindC hc (eq_of_beq ht)
noncomputable def mK {α:Expr→Type}(target:Expr)(scope:Scope)(f:∀x tp i xc Bc Ci,dC B Bc scope i xc→C.U.any (Nat.beq i)=true→b9 C i false Ci=true→iM P (yj P Bc C Ci (.Name x tp) (aM i) (lq xc))→Mo (α (.Name x tp))):Mo (α target):=
 bO target mF fun x tp=>mN fun i=>(fun c=>(fun tab=>mG (xH B tab scope i (EU c x)) fun hK=>mG (C.U.any (Nat.beq i)) fun hi=>mG (b9 C i false (DS C i)) fun hc=>mG (tab[i]?==some (some (x,F0 c))) fun ht=>f x tp i (EU c x) ⟨gn scope B.sc,tab⟩ (DS C i) (.of hK) hi hc (Ea hc ht)) (Gl B scope i x (F0 c))) (scope.names.lookup x==some .cell)
noncomputable def C0 (ifs:List Expr):Mo {p:PT // di P B C ifs p}:=eA (α:=fun ifs=>{p:PT // di P B C ifs p}) ifs (mR ⟨av,.nil⟩) fun c r=>iR (α:=fun r=>{p:PT // di P B C (c::r) p}) r (mU (Tr B C c) fun a ha=>mR ⟨a,.one ha⟩)
section
variable {mk:Around→Addr→List T→List Addr→List Addr→(Nat→Gh→Heap→Prop)→Prop} (hb:iM P mk)
noncomputable def Bj (it:Expr):Mo {p:PL // eT P B C it mk p}:=mN fun d=>mV E B C it fun a ha=>bif Nat.beq d 0 then mR ⟨aL a,.seq hb ha⟩ else mR ⟨p1 Af a,.str hb ha⟩
noncomputable def GC (it:Expr):Mo {p:PL // eT P B C it mk p}:=
 j4 (α:=fun it=>{p:PL // eT P B C it mk p}) it (Bj E B C hb it) fun g es pos=>bO (α:=fun g=>{p:PL // eT P B C (.Call g es [] pos) mk p}) g (Bj E B C hb (.Call g es [] pos)) fun y p=>
  jQ (y==ofString "range") (fun hy=>mG (Gi B y) fun hx=>mN fun d=>mU (AB E B C es) fun r hr=>bif Nat.beq d 0 then mR ⟨bG r,sb (α:=fun y=>eT P B C (.Call (.Name y p) es [] pos) mk (bG r)) hy (.range hb (yr hy hx) hr)⟩ else mR ⟨DC r,sb (α:=fun y=>eT P B C (.Call (.Name y p) es [] pos) mk (DC r)) hy (.down hb (yr hy hx) hr)⟩)
  (Bj E B C hb (.Call (.Name y p) es [] pos))
end
noncomputable def mC {α:Expr→Type}(elt target iter:Expr)(ifs:List Expr)(scope:Scope)(f:∀x tp i xc Bc Ci pi pc pe,dC B Bc scope i xc→C.U.any (Nat.beq i)=true→b9 C i false Ci=true→eT P B C iter (yj P Bc C Ci (.Name x tp) (aM i) (lq xc)) pi→di P Bc Ci ifs pc→ak P Bc Ci elt pe (RV P)→(∀env x,foldedSetIterable iter env x=pure x)→Mo (α (.Name x tp))):Mo (α target):=
 mK (P:=P) B C target scope fun x tp i xc Bc Ci K hi hc hb=>mG (iu iter) fun hp=>mU (GC E B C hb iter) fun pi hI=>mU (C0 Tr Bc Ci ifs) fun pc hcond=>mV E Bc Ci elt fun pe hel=>f x tp i xc Bc Ci pi pc pe K hi hc hI hcond hel (pl hp).fold
noncomputable def xu (elt target:Expr)(ifs:List Expr)(scope:Scope)(pos:Pos)(iter:Expr):Mo (RE P B C (.ListComp elt [⟨target,iter,ifs,0⟩] scope pos)):=mC E Tr B C (α:=fun target=>RE P B C (.ListComp elt [⟨target,iter,ifs,0⟩] scope pos)) elt target iter ifs scope fun x tp i xc Bc Ci pi pc pe K hi hc hI hcond hel hs=>rn B C (ax pi (aM i) pc pe) (.comp K hi hc hI hcond hel hs)
theorem EQ {e1 e2:Expr}{d1 d2:PE}{x1 x2 z1 z2 y:Str}{q1 q2 r1 r2 ep pt p cp pos:Pos}{op:BoolOp}{kt:Nat}{scope:Scope}(h1:(z1==x1)=true)(h2:(z2==x2)=true)(hd:(!(x1==("__debug__":Str))&&!(x2==("__debug__":Str)))=true)(hb:ER scope x1 x2=true)(hz:Gi B y=true)(hy:(y==ofString "zip")=true)(hp1:iu e1=true)(hp2:iu e2=true)(k1:ak P B C e1 d1 (RX P))(k2:ak P B C e2 d2 (RX P)):
  ak P B C (.ListComp (.BoolOp op [.Name z1 r1,.Name z2 r2] ep) [⟨.Tuple [.Name x1 q1,.Name x2 q2] kt pt,.Call (.Name y p) [e1,e2] [] cp,[],0⟩] scope pos) (p2 (jx (BoolOp.rec (·&&·) (·||·) op)) d1 d2) (RV P):=by
 have hd:=Bool.and_eq_true_iff.mp hd
 rw [eq_of_beq h1,eq_of_beq h2,eq_of_beq hy]
 cases op
 ·exact .zipC (.and (rR hd.1) (rR hd.2)) hb (yr hy hz) ((pl hp1).star _) ((pl hp2).star _) k1 k2
 ·exact .zipC (.or (rR hd.1) (rR hd.2)) hb (yr hy hz) ((pl hp1).star _) ((pl hp2).star _) k1 k2
noncomputable def F9 (elt t1 t2:Expr)(kt:Nat)(pt:Pos)(iter:Expr)(scope:Scope)(pos:Pos):Mo (RE P B C (.ListComp elt [⟨.Tuple [t1,t2] kt pt,iter,[],0⟩] scope pos)):=
 bO (α:=fun t1=>RE P B C (.ListComp elt [⟨.Tuple [t1,t2] kt pt,iter,[],0⟩] scope pos)) t1 mF fun x1 q1=>bO (α:=fun t2=>RE P B C (.ListComp elt [⟨.Tuple [.Name x1 q1,t2] kt pt,iter,[],0⟩] scope pos)) t2 mF fun x2 q2=>
 j4 (α:=fun iter=>RE P B C (.ListComp elt [⟨.Tuple [.Name x1 q1,.Name x2 q2] kt pt,iter,[],0⟩] scope pos)) iter mF fun g es cp=>bO (α:=fun g=>RE P B C (.ListComp elt [⟨.Tuple [.Name x1 q1,.Name x2 q2] kt pt,.Call g es [] cp,[],0⟩] scope pos)) g mF fun y p=>yB (α:=fun es=>RE P B C (.ListComp elt [⟨.Tuple [.Name x1 q1,.Name x2 q2] kt pt,.Call (.Name y p) es [] cp,[],0⟩] scope pos)) es fun e1 e2=>
 mG (!(x1==("__debug__":Str))&&!(x2==("__debug__":Str))) fun hd=>mG (ER scope x1 x2) fun hb=>mG (Gi B y) fun hz=>mG (y==ofString "zip") fun hy=>mG (iu e1) fun hp1=>mG (iu e2) fun hp2=>mX E B C e1 fun a ha=>mX E B C e2 fun b hb'=>
  (fun α:Expr→Type=>fun k:(∀op z1 r1 z2 r2 ep,(z1==x1)=true→(z2==x2)=true→Mo (α (.BoolOp op [.Name z1 r1,.Name z2 r2] ep)))=>(vC (α:=α) elt mF fun h=>Expr.BoolOp.elim (motive_1:=fun e=>Mo (α e)) elt h fun op es ep=>yB (α:=fun es=>α (.BoolOp op es ep)) es fun a b=>bO (α:=fun a=>α (.BoolOp op [a,b] ep)) a mF fun z1 r1=>bO (α:=fun b=>α (.BoolOp op [.Name z1 r1,b] ep)) b mF fun z2 r2=>mG (z1==x1) fun h1=>mG (z2==x2) fun h2=>k op z1 r1 z2 r2 ep h1 h2:Mo (α elt)))
   (fun elt=>RE P B C (.ListComp elt [⟨.Tuple [.Name x1 q1,.Name x2 q2] kt pt,.Call (.Name y p) [e1,e2] [] cp,[],0⟩] scope pos)) fun op z1 r1 z2 r2 ep h1 h2=>rv B C _ (EQ B C h1 h2 hd hb hz hy hp1 hp2 ha hb')
noncomputable def DK (elt target iter:Expr)(ifs:List Expr)(scope:Scope)(pos:Pos):Mo (RE P B C (.ListComp elt [⟨target,iter,ifs,0⟩] scope pos)):=eA (α:=fun ifs=>RE P B C (.ListComp elt [⟨target,iter,ifs,0⟩] scope pos)) ifs
 (Ba (α:=fun target=>RE P B C (.ListComp elt [⟨target,iter,[],0⟩] scope pos)) target
   (um D B C (α:=fun iter=>RE P B C (.ListComp elt [⟨target,iter,[],0⟩] scope pos)) iter (xu E Tr B C elt target [] scope pos) fun y np x ap c j ms k O hn ht=>
    mK (P:=P) B C (α:=fun target=>RE P B C (.ListComp elt [⟨target,.Attribute (.Name y np) x ap,[],0⟩] scope pos)) target scope fun x tp i xc Bc Ci K hi hc hb=>mV E Bc Ci elt fun pe hel=>rn B C (oY c j (aM i) pe) (.compF O hn ht K hi hc hb hel fun _ _=>rfl))
   fun es k p=>yB (α:=fun es=>RE P B C (.ListComp elt [⟨.Tuple es k p,iter,[],0⟩] scope pos)) es fun t1 t2=>F9 E B C elt t1 t2 k p iter scope pos)
 fun c cs=>xu E Tr B C elt target (c::cs) scope pos iter
noncomputable def Gc (e:Expr):Mo (RE P B C e):=
 bO e (vC e (lj e (j4 e (vC e (vC e (vC e (vC e (vC e (vC e (vC e (vC e (Az e (vC e mF
  fun h=>Expr.Dict.elim (motive_1:=fun e=>Mo (RE P B C e)) e h fun ks vs pos=>iR (α:=fun ks=>RE P B C (.Dict ks vs pos)) ks (iR (α:=fun vs=>RE P B C (.Dict [] vs pos)) vs (rn B C uF .dic)))
  fun elt t i fs s pos=>DK D E Tr B C elt t i fs s pos)
  fun h=>Expr.Subscript.elim (motive_1:=fun e=>Mo (RE P B C e)) e h fun a i pos=>DH D E B C a i pos)
  fun h=>Expr.List.elim (motive_1:=fun e=>Mo (RE P B C e)) e h fun es pos=>mU (AB E B C es) fun r hr=>rn B C (aW r) (.list hr))
  fun h=>Expr.Tuple.elim (motive_1:=fun e=>Mo (RE P B C e)) e h fun es k pos=>mU (AB E B C es) fun r hr=>rv B C (az r) (.tup hr))
  fun h=>Expr.IfExp.elim (motive_1:=fun e=>Mo (RE P B C e)) e h fun t a b pos=>mU (Tr B C t) fun t ht=>mV E B C a fun a ha=>mV E B C b fun b hb=>rv B C (yW t a b) (.ifExp kq ht ha hb))
  fun h=>Expr.BoolOp.elim (motive_1:=fun e=>Mo (RE P B C e)) e h fun op es pos=>mU (GU E B C op es) fun r hr=>rv B C r (.boolOp hr))
  fun h=>Expr.Compare.elim (motive_1:=fun e=>Mo (RE P B C e)) e h fun l ops rs pos=>Ga E B C l ops rs pos)
  fun h=>Expr.UnaryOp.elim (motive_1:=fun e=>Mo (RE P B C e)) e h fun op e pos=>Hb E B C op e pos)
  fun h=>Expr.BinOp.elim (motive_1:=fun e=>Mo (RE P B C e)) e h fun l op r pos=>Gb E B C l op r pos)
  fun g es pos=>DL D E B C g es pos)
  fun o x pos=>DM D E B C o x pos)
  fun h=>Expr.Constant.elim (motive_1:=fun e=>Mo (RE P B C e)) e h fun c k pos=>Ce B C c k pos)
  fun y pos=>DI D B C y pos
noncomputable def GV (op:BoolOp)(es:List Expr):Mo {p:PT // ik P B C op es p}:=List.rec (motive:=fun es=>Mo {p:PT // ik P B C op es p})
 (BoolOp.casesOn (motive:=fun op=>Mo {p:PT // ik P B C op [] p}) op (mR ⟨av,.andNil⟩) (mR ⟨bL,.orNil⟩))
 (fun e es ih=>mU (Tr B C e) fun a ha=>mU ih fun r hr=>BoolOp.casesOn (motive:=fun op=>ik P B C op es r→Mo {p:PT // ik P B C op (e::es) p}) op (fun hr=>mR ⟨ib a r,.and ha hr⟩) (fun hr=>mR ⟨eJ a r,.or ha hr⟩) hr) es
noncomputable def Fg (l:Expr)(ops:List CmpOp)(rs:List Expr)(pos:Pos):Mo {p:PT // ch P B C (.Compare l ops rs pos) p}:=
 eA (α:=fun ops=>{p:PT // ch P B C (.Compare l ops rs pos) p}) ops mF fun op os=>eA (α:=fun rs=>{p:PT // ch P B C (.Compare l (op::os) rs pos) p}) rs mF fun r rs=>mU (t4 P op) fun F hF=>mX E B C l fun a ha=>
  eA (α:=fun os=>{p:PT // ch P B C (.Compare l (op::os) (r::rs) pos) p}) os
   (iR (α:=fun rs=>{p:PT // ch P B C (.Compare l [op] (r::rs) pos) p}) rs (um D B C (α:=fun r=>{p:PT // ch P B C (.Compare l [op] [r] pos) p}) r (fun r=>mG (iu r) fun h=>mX E B C r fun b hb=>mR ⟨p2 F a b,.cmp hF ((pl h).beh op) ha hb⟩)
    fun y np x ap c i ms k O hn ht=>mR ⟨p2 F a (oX c i),.cmpY hF rfl ha (.fld O hn ht)⟩))
   fun o2 os=>iR (α:=fun os=>{p:PT // ch P B C (.Compare l (op::o2::os) (r::rs) pos) p}) os (oB (α:=fun rs=>{p:PT // ch P B C (.Compare l [op,o2] (r::rs) pos) p}) rs fun q=>mG (iu q) fun h=>mX E B C r fun b hb=>mU (t4 P o2) fun G hG=>mX E B C q fun c hc=>mR ⟨i9 F G a b c,.cmp2 hF hG (GJ h) ha hb hc⟩)
noncomputable def Fh (e:Expr):Mo {p:PT // ch P B C e p}:=
 vC (α:=fun e=>{p:PT // ch P B C e p}) e (vC (α:=fun e=>{p:PT // ch P B C e p}) e (vC (α:=fun e=>{p:PT // ch P B C e p}) e (mG (iu e) fun hp=>mG (GA e) fun h=>mX E B C e fun a ha=>mR ⟨qE a,.val ha ((pl hp).tv h)⟩)
  fun h=>Expr.Compare.elim (motive_1:=fun e=>Mo {p:PT // ch P B C e p}) e h fun l ops rs pos=>Fg D E B C l ops rs pos)
  fun h=>Expr.BoolOp.elim (motive_1:=fun e=>Mo {p:PT // ch P B C e p}) e h fun op es pos=>mU (GV Tr B C op es) fun r hr=>mR ⟨r,.boolOp hr⟩)
  fun h=>Expr.UnaryOp.elim (motive_1:=fun e=>Mo {p:PT // ch P B C e p}) e h fun op e pos=>mG (op==.Not) fun ho=>mU (Tr B C e) fun a ha=>mR ⟨cB a,sb (α:=fun op=>ch P B C (.UnaryOp op e pos) (cB a)) ho (.not ha)⟩
end
noncomputable def GD {P:Pg}{L:LT}(D:fR P L)(n:Nat):FE P×FT P:=Nat.rec ⟨fun _ _ _=>mF,fun _ _ _=>mF⟩ (fun _ r=>⟨fun B C=>Gc D r.1 r.2 B C,fun B C=>Fh D r.1 r.2 B C⟩) n
end
end Mine
end
section
set_option tactic.hygienic false
namespace Mine
noncomputable section
open PySem PyProof.Rows
noncomputable def KS (P:Pg)(B:bB)(C:Ct)(fr:Bool)(W:WP Flow)(p:PS)(o:Option Ct):Prop:=Option.rec (∀C',dg P B C fr C' W p) (fun C'=>dg P B C fr C' W p) o
noncomputable abbrev RS (P:Pg)(B:bB)(C:Ct)(fr:Bool)(W:WP Flow):=(o:Option Ct)×{p:PS // KS P B C fr W p o}
noncomputable abbrev cE (P:Pg)(B:bB)(C:Ct)(fr:Bool)(st:Stmt):=RS P B C fr (P.W fun env=>exec st env)
noncomputable abbrev RZ (P:Pg)(B:bB)(C:Ct)(fr:Bool)(ss:List Stmt):=RS P B C fr (P.W fun env=>execs ss env)
noncomputable abbrev FS (P:Pg):=∀(B:bB) (C:Ct) (fr:Bool) (ss:List Stmt),Mo (RZ P B C fr ss)
noncomputable def GO (a b:Ct):Bool:=a.O==b.O&&(a.U==b.U&&a.m==b.m)
theorem Ck {a b:Ct}(h:GO a b=true):a=b:=
 have ⟨h1,h2⟩:=Bool.and_eq_true_iff.mp h
 have ⟨h2,h3⟩:=Bool.and_eq_true_iff.mp h2
 show (⟨a.O,a.U,a.m⟩:Ct)=⟨b.O,b.U,b.m⟩ by rw [eq_of_beq h1,eq_of_beq h2,eq_of_beq h3]
section
variable {P:Pg} {B:bB} {C:Ct} {fr:Bool} {W:WP Flow} {β:Type}
noncomputable def ra (C':Ct)(p:PS)(h:dg P B C fr C' W p):Mo (RS P B C fr W):=mR ⟨some C',p,h⟩
noncomputable def rl (p:PS)(h:∀C',dg P B C fr C' W p):Mo (RS P B C fr W):=mR ⟨none,p,h⟩
noncomputable def mS (x:Mo (RS P B C fr W))(fa:∀C' p,dg P B C fr C' W p→Mo β)(fl:∀p,(∀C',dg P B C fr C' W p)→Mo β):Mo β:=mB x fun r=>Option.rec (motive:=fun o=>{p:PS // KS P B C fr W p o}→Mo β) (fun a=>Subtype.rec fl a) (fun C' a=>Subtype.rec (fa C') a) r.1 r.2
noncomputable def mT (C':Ct)(x:Mo (RS P B C fr W))(f:∀p,dg P B C fr C' W p→Mo β):Mo β:=mS x (fun C₁ p h=>mG (GO C₁ C') fun e=>f p (Ck e▸h)) fun p h=>f p (h C')
end
theorem DB {k:NameKind}(h:(k==.local||k==.cell)=true):k=.local∨k=.cell:=(Bool.or_eq_true_iff.mp h).imp eq_of_beq eq_of_beq
theorem aN.unp {P:Pg}{B:bB}{C:Ct}{fr:Bool}{e:Expr}{p:PE}{zs:List hJ}{kt:Nat}{pt pos:Pos}(hz:AM B C zs=true)(hs:∀env,swapsWithSole [.Tuple (zs.map hJ.e) kt pt] e pos.line env=pure false)(hw:∀env,swappedStores [.Tuple (zs.map hJ.e) kt pt] e env=pure none)(h:ak P B C e p (RV P)):aN P B C fr C (.Assign [.Tuple (zs.map hJ.e) kt pt] e pos) (ew (zs.map (·.i)) p):=fun n A env g ρ σ s k Q E X hb hq hr=>by
 refine Assign_Tuple (h n A env g ρ σ s _ _ E X hb fun x s₁ g₁ t σ₁ e₁ p₁ w₁ r₁=>?_) (hs env) (hw env)
 have hb₁:=fun q=>hb (e₁.trans q)
 obtain ⟨ρ',e2⟩:=bY hb₁
 obtain ⟨ts,e3,e4⟩:=ar e2
 cases jW e3
 obtain ⟨a,rfl,f,us,m,b1,_,rb⟩:=r₁
 exact iJ hz e4 (X.post p₁ w₁) b1 rb fun s' p' X'=>hq s' g₁ ρ' σ₁ (e₁.trans (by rw [e2];rfl)) (p₁.toS.trans p'.toS) X'
noncomputable def G3 (B:bB)(es:List Expr):Mo {zs:List hJ // es=zs.map hJ.e}:=List.rec (motive:=fun es=>Mo {zs:List hJ // es=zs.map hJ.e}) (mR ⟨[],rfl⟩)
 (fun e es ih=>bO (α:=fun e=>{zs:List hJ // e::es=zs.map hJ.e}) e mF fun y p=>mU ih fun r hr=>mR ⟨⟨slot B.tab y,y,knd B.tab (slot B.tab y),p⟩::r,congrArg (Expr.Name y p::·) hr⟩) es
section
variable {P:Pg} {L:LT} (D:fR P L) (E:FE P) (Tr:FT P) (S:FS P) (B:bB) (C:Ct) (fr:Bool)
noncomputable def C6 (y:Str)(px:Pos)(e:Expr)(pos:Pos):Mo (cE P B C fr (.Assign [.Name y px] e pos)):=wB B y mF fun i k ht=>mN fun m=>mG (k==.local||k==.cell) fun hk=>
 bif Nat.ble m 1 then mG (!vp e y px pos.line B.sc) fun hw=>bif Nat.beq m 0 then mG (b9 C i false (xx C i)) fun hc=>mV E B C e fun a ha=>ra (xx C i) (aw i a) (aN.set hc ht (DB hk) (rR hw) ha)
   else mG (b9 C i true (Cy C i)) fun hc=>mW E B C e fun a ha=>ra (Cy C i) (aw i a) (aN.setN hc ht (DB hk) (rR hw) ha)
 else bif Nat.beq m 2 then Az (α:=fun e=>cE P B C fr (.Assign [.Name y px] e pos)) e mF fun elt t it fs s p=>mN fun o=>(fun C'=>mG (b9 C i (Nat.beq o 1) C') fun hc=>mG (k==.local) fun hl=>
   mC E Tr B C (α:=fun t=>cE P B C fr (.Assign [.Name y px] (.ListComp elt [⟨t,it,fs,0⟩] s p) pos)) elt t it fs s fun x tp j xc Bc Ci pi pc pe K hi hj hI hcond hel hs=>mG (vp (.ListComp elt [⟨.Name x tp,it,fs,0⟩] s p) y px pos.line B.sc) fun hw=>
    ra C' (aw i (ax pi (aM j) pc pe)) (aN.setCompG (Nat.beq o 1) hc (eq_of_beq hl▸ht) hw K hi hj hI hcond hel hs)) (bif Nat.beq o 1 then Cy C i else xx C i)
 else j4 (α:=fun e=>cE P B C fr (.Assign [.Name y px] e pos)) e mF fun g es cpos=>lj (α:=fun g=>cE P B C fr (.Assign [.Name y px] (.Call g es [] cpos) pos)) g mF fun o name apos=>bO (α:=fun o=>cE P B C fr (.Assign [.Name y px] (.Call (.Attribute o name apos) es [] cpos) pos)) o mF fun z np=>oB (α:=fun es=>cE P B C fr (.Assign [.Name y px] (.Call (.Attribute (.Name z np) name apos) es [] cpos) pos)) es fun x=>yC (α:=fun x=>cE P B C fr (.Assign [.Name y px] (.Call (.Attribute (.Name z np) name apos) [x] [] cpos) pos)) x fun n kk cp=>
  wB B z mF fun j k' hz=>mG (bq C j) fun hv=>mG (b9 C i false C) fun hc=>mG (apos.endLine==cpos.line) fun hl=>mG (n==0) fun hn=>mG (name==ofString "pop") fun hy=>mG (!vp (.Call (.Attribute (.Name z np) (ofString "pop") apos) [.Constant (.int 0) kk cp] [] cpos) y px pos.line B.sc) fun hw=>
   ra C (n0 j i) (sb (α:=fun name=>aN P B C fr C (.Assign [.Name y px] (.Call (.Attribute (.Name z np) name apos) [.Constant (.int n) kk cp] [] cpos) pos) (n0 j i)) hy (sb (α:=fun n=>aN P B C fr C (.Assign [.Name y px] (.Call (.Attribute (.Name z np) (ofString "pop") apos) [.Constant (.int n) kk cp] [] cpos) pos) (n0 j i)) hn (aN.pop0 hv hz hc ht (DB hk) (rR hw) (fun _=>rfl) hl fun _=>rfl)))
noncomputable def C7 (o:Expr)(name:Str)(apos:Pos)(e:Expr)(pos:Pos):Mo (cE P B C fr (.Assign [.Attribute o name apos] e pos)):=
 bO (α:=fun o=>cE P B C fr (.Assign [.Attribute o name apos] e pos)) o mF fun y np=>mA D name fun c i ms O hn=>Ex B C y mF fun k ht=>mG (iu e) fun hp=>
  jQ (gG c i) (fun ho=>mW E B C e fun a ha=>ra C (sk c i a) (aN.saN O hn ho ht ((pl hp).swa _ _ _ _) ha)) (mG (!gG c i) fun ho=>mV E B C e fun a ha=>ra C (sk c i a) (aN.sa O hn (rR ho) ht ((pl hp).swa _ _ _ _) ha))
noncomputable def Fl (es:List Expr)(kt:Nat)(pt:Pos)(e:Expr)(pos:Pos):Mo (cE P B C fr (.Assign [.Tuple es kt pt] e pos)):=mU (G3 B es) fun zs he=>mG (AM B C zs) fun hz=>
 m2 (j4 (α:=fun e=>cE P B C fr (.Assign [.Tuple es kt pt] e pos)) e mF fun g as cpos=>lj (α:=fun g=>cE P B C fr (.Assign [.Tuple es kt pt] (.Call g as [] cpos) pos)) g mF fun o name apos=>bO (α:=fun o=>cE P B C fr (.Assign [.Tuple es kt pt] (.Call (.Attribute o name apos) as [] cpos) pos)) o mF fun y np=>iR (α:=fun as=>cE P B C fr (.Assign [.Tuple es kt pt] (.Call (.Attribute (.Name y np) name apos) as [] cpos) pos)) as
  (wB B y mF fun j k ht=>mG (bq C j) fun hv=>mG (apos.endLine==cpos.line) fun hl=>mG (name==ofString "pop") fun hy=>ra C (v4 j (zs.map (·.i))) (sb (α:=fun name=>aN P B C fr C (.Assign [.Tuple es kt pt] (.Call (.Attribute (.Name y np) name apos) [] [] cpos) pos) (v4 j (zs.map (·.i)))) hy (he▸aN.pop hz hv ht (fun _=>rfl) (fun _=>rfl) (fun _=>rfl) hl))))
 ((fun k:∀e,(∀l env,swapsWithSole [.Tuple (zs.map hJ.e) kt pt] e l env=pure false)→(∀env,swappedStores [.Tuple (zs.map hJ.e) kt pt] e env=pure none)→Mo (cE P B C fr (.Assign [.Tuple es kt pt] e pos))=>
   bO (α:=fun e=>cE P B C fr (.Assign [.Tuple es kt pt] e pos)) e (j4 (α:=fun e=>cE P B C fr (.Assign [.Tuple es kt pt] e pos)) e (vC (α:=fun e=>cE P B C fr (.Assign [.Tuple es kt pt] e pos)) e mF
    fun h=>Expr.Subscript.elim (motive_1:=fun e=>Mo (cE P B C fr (.Assign [.Tuple es kt pt] e pos))) e h fun a i p=>k (.Subscript a i p) (fun _ _=>rfl) fun _=>rfl)
    fun g es p=>k (.Call g es [] p) (fun _ _=>rfl) fun _=>rfl)
    fun y p=>k (.Name y p) (fun _ _=>rfl) fun _=>rfl)
  fun e hs hw=>mV E B C e fun a ha=>ra C (ew (zs.map (·.i)) a) (he▸aN.unp hz (hs _) hw ha))
noncomputable def Fm (a i:Expr)(ps:Pos)(e:Expr)(pos:Pos):Mo (cE P B C fr (.Assign [.Subscript a i ps] e pos)):=mG (iu e) fun hp=>mV E B C e fun v hv=>
 bO (α:=fun a=>cE P B C fr (.Assign [.Subscript a i ps] e pos)) a
  (um D B C (α:=fun a=>cE P B C fr (.Assign [.Subscript a i ps] e pos)) a (fun _=>mF) fun y np x ap c j ms k O hn ht=>mV E B C i fun q hq=>ra C (qy c j q v) (aN.fput O hn ht ((pl hp).sws _ _ _ _) hq hv))
 fun y np=>wB B y mF fun j k ht=>jQ (bq C j)
  (fun ho=>mN fun d=>mX E B C i fun q hq=>bif Nat.beq d 0 then ra C (s6 j sg q v) (aN.put vY ho ht ((pl hp).sws _ _ _ _) hq hv) else ra C (s6 j dS q v) (aN.put tq ho ht ((pl hp).sws _ _ _ _) hq hv))
  (yC (α:=fun i=>cE P B C fr (.Assign [.Subscript (.Name y np) i ps] e pos)) i fun n kk cp=>mG (jC C j) fun ho=>mG (n==0) fun hn=>ra C (i8 j v) (sb (α:=fun n=>aN P B C fr C (.Assign [.Subscript (.Name y np) (.Constant (.int n) kk cp) ps] e pos) (i8 j v)) hn (aN.spot ho ht ((pl hp).sws _ _ _ _) hv)))
noncomputable def Fo (e:Expr)(pos:Pos):Mo (cE P B C fr (.Return (some e) pos)):=Bool.rec (motive:=fun fr=>Mo (cE P B C fr (.Return (some e) pos)))
 (mV E B C e fun a ha=>rl (au a) fun _=>aN.ret ha)
 (bO (α:=fun e=>cE P B C true (.Return (some e) pos)) e (mW E B C e fun a ha=>rl (au a) fun _=>aN.retN ha) fun y p=>wB B y mF fun i k ht=>mG (bq C i) fun hv=>rl (au (pV i)) fun _=>aN.retO hv ht) fr
noncomputable def Fq (e:Expr)(pos:Pos):Mo (cE P B C fr (.Expr e pos)):=j4 (α:=fun e=>cE P B C fr (.Expr e pos)) e mF fun g es cpos=>m2 (mX E B C (.Call g es [] cpos) fun a ha=>ra C (lg a) (aN.expr (fun _=>rfl) ha))
 (lj (α:=fun g=>cE P B C fr (.Expr (.Call g es [] cpos) pos)) g mF fun o name apos=>oB (α:=fun es=>cE P B C fr (.Expr (.Call (.Attribute o name apos) es [] cpos) pos)) es fun x=>mG (apos.endLine==cpos.line) fun hl=>mG (iu x) fun hp=>
   bO (α:=fun o=>cE P B C fr (.Expr (.Call (.Attribute o name apos) [x] [] cpos) pos)) o
    (um D B C (α:=fun o=>cE P B C fr (.Expr (.Call (.Attribute o name apos) [x] [] cpos) pos)) o (fun _=>mF) fun y np at' ap' c i ms k O hn ht=>mG (name==ofString "append") fun hy=>mV E B C x fun a ha=>ra C (qz c i a) (sb (α:=fun name=>aN P B C fr C (.Expr (.Call (.Attribute (.Attribute (.Name y np) at' ap') name apos) [x] [] cpos) pos) (qz c i a)) hy (aN.fap O hn ht (fun _=>rfl) hl (bt hp _) (fun _=>rfl) ha)))
   fun y np=>wB B y mF fun i k ht=>mG (bq C i) fun hv=>
    jQ (name==ofString "append") (fun hy=>mV E B C x fun a ha=>ra C (f6 i df a) (sb (α:=fun name=>aN P B C fr C (.Expr (.Call (.Attribute (.Name y np) name apos) [x] [] cpos) pos) (f6 i df a)) hy (aN.app hv ht hl (fun _=>rfl) (bt hp _) (fun _=>rfl) ha)))
    (mG (name==ofString "extend") fun hy=>mX E B C x fun a ha=>ra C (f6 i ii a) (sb (α:=fun name=>aN P B C fr C (.Expr (.Call (.Attribute (.Name y np) name apos) [x] [] cpos) pos) (f6 i ii a)) hy (aN.ext hv ht hl (fun _=>rfl) (bt hp _) (fun _=>rfl) ha))))
noncomputable def Fp (target iter:Expr)(body:List Stmt)(pos:Pos):Mo (cE P B C fr (.For target iter body [] pos)):=
 bO (α:=fun target=>cE P B C fr (.For target iter body [] pos)) target
  (Ba (α:=fun target=>cE P B C fr (.For target iter body [] pos)) target mF fun es kt pt=>yB (α:=fun es=>cE P B C fr (.For (.Tuple es kt pt) iter body [] pos)) es fun t1 t2=>bO (α:=fun t1=>cE P B C fr (.For (.Tuple [t1,t2] kt pt) iter body [] pos)) t1 mF fun x1 p1=>bO (α:=fun t2=>cE P B C fr (.For (.Tuple [.Name x1 p1,t2] kt pt) iter body [] pos)) t2 mF fun x2 p2=>
   j4 (α:=fun iter=>cE P B C fr (.For (.Tuple [.Name x1 p1,.Name x2 p2] kt pt) iter body [] pos)) iter mF fun g as cp=>bO (α:=fun g=>cE P B C fr (.For (.Tuple [.Name x1 p1,.Name x2 p2] kt pt) (.Call g as [] cp) body [] pos)) g mF fun y p=>oB (α:=fun as=>cE P B C fr (.For (.Tuple [.Name x1 p1,.Name x2 p2] kt pt) (.Call (.Name y p) as [] cp) body [] pos)) as fun x=>
    wB B x1 mF fun i1 k1 _=>wB B x2 mF fun i2 k2 _=>mG (AM B C [⟨i1,x1,k1,p1⟩,⟨i2,x2,k2,p2⟩]) fun hz=>mG (Gi B y) fun hx=>mG (y==ofString "enumerate") fun hy=>mG (iu x) fun hp=>mV E B C x fun a ha=>mT C (S B C fr body) fun b hb=>
     ra C (b8 (kb a) (vn i1 i2) b) (sb (α:=fun y=>aN P B C fr C (.For (.Tuple [.Name x1 p1,.Name x2 p2] kt pt) (.Call (.Name y p) [x] [] cp) body [] pos) (b8 (kb a) (vn i1 i2) b)) hy (aN.for (fun _ _=>rfl) (eT.enum (z1:=⟨i1,x1,k1,p1⟩) (z2:=⟨i2,x2,k2,p2⟩) hz (yr hy hx) ((pl hp).star []) ha) hb)))
 fun y p=>wB B y mF fun i k ht=>mG (b9 C i false C) fun hc=>mG (k==.local||k==.cell) fun hk=>mG (iu iter) fun hp=>mU (GC E B C (iM.one hc ht (DB hk)) iter) fun it hi=>mT C (S B C fr body) fun b hb=>
  ra C (b8 it (aM i) b) (aN.for (pl hp).fold hi hb)
noncomputable def GZ (t:Expr)(a b:List Stmt)(pos:Pos):Mo (cE P B C fr (.If t a b pos)):=mU (Tr B C t) fun t ht=>mS (S B C fr a)
 (fun C₁ p h=>mT C₁ (S B C fr b) fun q k=>ra C₁ (bn t p q) (aN.if ht h k))
 fun p h=>mS (S B C fr b) (fun C₁ q k=>ra C₁ (bn t p q) (aN.if ht (h C₁) k)) fun q k=>rl (bn t p q) fun C'=>aN.if ht (h C') (k C')
noncomputable def vS {α:Stmt→Type}{k:Nat}(st:Stmt)(d:Mo (α st))(f:st.ctorIdx=k→Mo (α st)):Mo (α st):=jQ (Nat.beq st.ctorIdx k) (fun h=>f (Nat.eq_of_beq_eq_true h)) d
noncomputable def Fr (st:Stmt):Mo (cE P B C fr st):=
 vS (α:=fun st=>cE P B C fr st) st (vS (α:=fun st=>cE P B C fr st) st (vS (α:=fun st=>cE P B C fr st) st (vS (α:=fun st=>cE P B C fr st) st (vS (α:=fun st=>cE P B C fr st) st (vS (α:=fun st=>cE P B C fr st) st (vS (α:=fun st=>cE P B C fr st) st mF
  fun h=>Stmt.Raise.elim (motive_2:=fun st=>Mo (cE P B C fr st)) st h fun e c pos=>rl hU fun _=>aN.bad)
  fun h=>Stmt.Expr.elim (motive_2:=fun st=>Mo (cE P B C fr st)) st h fun e pos=>Fq D E B C fr e pos)
  fun h=>Stmt.While.elim (motive_2:=fun st=>Mo (cE P B C fr st)) st h fun t b o pos=>iR (α:=fun o=>cE P B C fr (.While t b o pos)) o (mN fun m=>mU (Tr B C t) fun t ht=>mT C (S B C fr b) fun b hb=>ra C (fj m t b) (aN.while m ht hb)))
  fun h=>Stmt.For.elim (motive_2:=fun st=>Mo (cE P B C fr st)) st h fun t i b o pos=>iR (α:=fun o=>cE P B C fr (.For t i b o pos)) o (Fp E S B C fr t i b pos))
  fun h=>Stmt.If.elim (motive_2:=fun st=>Mo (cE P B C fr st)) st h fun t a b pos=>GZ Tr S B C fr t a b pos)
  fun h=>Stmt.Return.elim (motive_2:=fun st=>Mo (cE P B C fr st)) st h fun e pos=>Option.rec (motive:=fun e=>Mo (cE P B C fr (.Return e pos))) mF (fun e=>Fo E B C fr e pos) e)
  fun h=>Stmt.Assign.elim (motive_2:=fun st=>Mo (cE P B C fr st)) st h fun ts e pos=>oB (α:=fun ts=>cE P B C fr (.Assign ts e pos)) ts fun t=>
   bO (α:=fun t=>cE P B C fr (.Assign [t] e pos)) t (lj (α:=fun t=>cE P B C fr (.Assign [t] e pos)) t (Ba (α:=fun t=>cE P B C fr (.Assign [t] e pos)) t (vC (α:=fun t=>cE P B C fr (.Assign [t] e pos)) t mF
    fun h=>Expr.Subscript.elim (motive_1:=fun t=>Mo (cE P B C fr (.Assign [t] e pos))) t h fun a i ps=>Fm D E B C fr a i ps e pos) fun es k p=>Fl E B C fr es k p e pos) fun o x p=>C7 D E B C fr o x p e pos) fun y px=>C6 E Tr B C fr y px e pos
noncomputable def ET (ss:List Stmt):Mo (RZ P B C fr ss):=mN fun m=>Nat.rec
 (eA (α:=fun ss=>RZ P B C fr ss) ss (ra C af dg.nil) fun st ss=>mS (Fr D E Tr S B C fr st)
  (fun C₁ p h=>mS (S B C₁ fr ss) (fun C₂ q k=>ra C₂ (ae p q) (dg.cons h k)) fun q k=>rl (ae p q) fun C'=>dg.cons h (k C'))
  fun p h=>iR (α:=fun ss=>RZ P B C fr (st::ss)) ss (rl (ae p af) fun C'=>dg.cons (h C') dg.nil))
 (fun i _=>mG (bq C i) fun hv=>mG (b9 C i false (xx C i)) fun hc=>mG (B.tab[i]?==some (some ((B.tab[i]?.getD none).getD (ofString "",.local)))) fun ht=>
  mS (S B (xx C i) fr ss) (fun C' p h=>ra C' p (dg.fz hv hc (eq_of_beq ht) h)) fun p h=>rl p fun C'=>dg.fz hv hc (eq_of_beq ht) (h C')) m
end
noncomputable def CZ {P:Pg}{L:LT}(D:fR P L)(n:Nat):FS P:=Nat.rec (fun _ _ _ _=>mF) (fun _ r B C fr ss=>ET D (GD D 20).1 (GD D 20).2 r B C fr ss) n
theorem AA {P:Pg}{L:LT}{D:fR P L}{B:bB}{C:Ct}{fr:Bool}{ss:List Stmt}{p:PS}{n s:Nat}(h:(CZ D n B C fr ss s).map (·.1.2.1)=some p):∃C',gR P B C fr C' ss p:=
 let ⟨r,_,h⟩:=Option.map_eq_some_iff.mp h
 h▸Option.rec (motive:=fun o=>∀a:{p:PS // KS P B C fr (P.W fun env=>execs ss env) p o},∃C',gR P B C fr C' ss a.1) (fun a=>⟨C,a.2 C⟩) (fun C' a=>⟨C',a.2⟩) r.1.1 r.1.2
theorem zV {P:Pg}{f:Nat}{F:fY}{mN:Str→Option Value}{gl:Bool}{nm:Str}{sc:Scope}{bd:List Stmt}{ps:List Str}{tab:List (Option (Str×NameKind))}{U:List Nat}(x:nC P.h₀ P.mg mN gl nm sc bd ps (P.fnA f) (P.fd f))(h:EH sc tab ps U F.np=true)(sim:∃C',gR P ⟨sc,tab⟩ ⟨[],U,rP f⟩ (kM f) C' bd F.body):vk P f F:=let ⟨_,q⟩:=sim;zW x h q
end
end Mine
end
section
set_option tactic.hygienic false
namespace Mine
noncomputable section
open PySem PySem.W PyProof.Rows
noncomputable def sI {γ:Type}(s:Stmt)(d:γ)(f:Arguments→List Stmt→Scope→γ):γ:=jQ (Nat.beq s.ctorIdx 0) (fun h=>Stmt.FunctionDef.elim (motive_2:=fun _=>γ) s (Nat.eq_of_beq_eq_true h) fun _ a b _ _ _ sc _ _ _=>f a b sc) d
noncomputable def bA (q:Program)(k:Nat):Stmt:=(q.main.body[k]?).getD (.Pass default)
noncomputable def o6 (q:Program)(k j:Nat):Stmt:=jQ (Nat.beq (bA q k).ctorIdx 2) (fun h=>Stmt.ClassDef.elim (motive_2:=fun _=>Stmt) (bA q k) (Nat.eq_of_beq_eq_true h) fun _ _ _ b _ _ _ _ _ _ _=>(b[j]?).getD (.Pass default)) (.Pass default)
noncomputable abbrev FI:=Nat×Stmt×Str×Bool×Tb×List Nat×Nat
section
variable (I:List FI) (Ψ:Nat→Option fY) (L:LT) (f:Nat)
noncomputable def gK:Stmt×Str×Bool×Tb×List Nat×Nat:=((I.find? fun r=>Nat.beq r.1 f).map (·.2)).getD (.Pass default,ofString "",true,[],[],0)
noncomputable def jJ:Str:=(gK I f).2.1
noncomputable def kJ:Bool:=(gK I f).2.2.1
noncomputable def il:Tb:=(gK I f).2.2.2.1
noncomputable def lk:List Nat:=(gK I f).2.2.2.2.1
noncomputable def F5:Nat:=(gK I f).2.2.2.2.2
noncomputable def sW:List Stmt:=sI (gK I f).1 [] fun _ b _=>b
noncomputable def rO:Scope:=sI (gK I f).1 default fun _ _ s=>s
noncomputable def Db:Arguments:=sI (gK I f).1 default fun a _ _=>a
noncomputable def wm:Nat:=((Ψ f).map fY.np).getD 0
noncomputable def ic:List Str:=((il I f).take (wm Ψ f)).filterMap (·.map (·.1))
noncomputable def uM:Bool:=L.2.1.any fun p=>Nat.beq p.2 f
end
noncomputable def D0 (b:Bool):Str:=bif b then ofString "Machine" else ofString "Web"
noncomputable def AG (q:Program)(I:List FI)(L:LT)(f:Nat):Option (Scope×List Stmt×Arguments):=bif kJ I f then tT q (jJ I f) else (mI q (looseW q []) (D0 (uM L f))).bind (wz · (jJ I f))
noncomputable def A1 (I:List FI)(Ψ:Nat→Option fY)(qual:Str)(pm cd doc:Value)(vs:List Value)(f:Nat):Option (Sem (List (Str×Value))×Sem (List (Str×Value))):=bif Nat.beq vs.length (ic I Ψ f).length then some (bindArgs (Calls.docDef (jJ I f) (Db I f) (sW I f) (rO I f) pm cd doc) ⟨vs,[]⟩,bindArgs (methDef (jJ I f) qual (Db I f) (sW I f) (rO I f) pm cd doc) ⟨vs,[]⟩) else none
noncomputable def A0 (I:List FI)(Ψ:Nat→Option fY)(vs:List Value)(f:Nat):Option (Sem (List (Str×Value))×Sem (List (Str×Value))):=bif Nat.beq vs.length (ic I Ψ f).length then some (pure ((ic I Ψ f).zip vs),pure ((ic I Ψ f).zip vs)) else none
structure pR (q:Program) (Ψ:Nat→Option fY) (ks:List Nat) (I:List FI) (L:LT):Prop where
 r:ks.map (AG q I L)=ks.map fun f=>some (rO I f,sW I f,Db I f)
 b1:∀u pm cd doc a,ks.map (A1 I Ψ u pm cd doc [a])=ks.map (A0 I Ψ [a])
 b2:∀u pm cd doc a b,ks.map (A1 I Ψ u pm cd doc [a,b])=ks.map (A0 I Ψ [a,b])
 b3:∀u pm cd doc a b c,ks.map (A1 I Ψ u pm cd doc [a,b,c])=ks.map (A0 I Ψ [a,b,c])
 b4:∀u pm cd doc a b c d,ks.map (A1 I Ψ u pm cd doc [a,b,c,d])=ks.map (A0 I Ψ [a,b,c,d])
 b5:∀u pm cd doc a b c d e,ks.map (A1 I Ψ u pm cd doc [a,b,c,d,e])=ks.map (A0 I Ψ [a,b,c,d,e])
 p:ks.all (fun f=>(Nat.ble 1 (ic I Ψ f).length&&Nat.ble (ic I Ψ f).length 5)&&EH (rO I f) (il I f) (ic I Ψ f) (lk I f) (wm Ψ f))=true
 m:∀b,(L.ms b).all (fun p=>(Ψ p.2).isSome&&(!kJ I p.2&&((jJ I p.2==p.1)&&(uM L p.2==b))))=true
 f:L.1.all (fun p=>(Ψ p.2).isSome&&(kJ I p.2&&jJ I p.2==p.1))=true
 a:∀b,(mI q (looseW q []) (D0 b)).map (fun c=>(bV (rS b)).all (c.statics.contains ·))=some true
 o:∀b,(L.ms b).map (fun p=>(fastLookup "object" p.1).isSome)=(L.ms b).map fun _=>true
 n:iI.all (tS q (looseW q []))=true
theorem Cq:∀b,(bV (rS b)).map (fastLookup "object")=(bV (rS b)).map fun _=>some none
 |true=>by kernel_rfl
 |false=>by kernel_rfl
theorem all_cons {α:Type}{p:α→Prop}{a:α}{l:List α}(h:p a)(hl:∀r∈l,p r):∀r∈a::l,p r:=fun r hr=>(List.mem_cons.mp hr).elim (fun e=>e▸h) (hl r)
theorem GY {α:Type}{p:Bool→α→Prop}(h:∀b,∃x,p b x):∃f:Bool→α,∀b,p b (f b):=⟨fun b=>(h b).choose,fun b=>(h b).choose_spec⟩
theorem ya {a b:Bool}(h:(a&&b)=true):a=true∧b=true:=Bool.and_eq_true_iff.mp h
theorem y9 {α β:Type}{f g:α→β}{l:List α}(h:l.map f=l.map g){a:α}(ha:a∈l):f a=g a:=List.map_inj_left.mp h a ha
theorem l5 {α:Type}{p:List α→Prop}(h1:∀a,p [a])(h2:∀a b,p [a,b])(h3:∀a b c,p [a,b,c])(h4:∀a b c d,p [a,b,c,d])(h5:∀a b c d e,p [a,b,c,d,e])(l:List α):Nat.ble 1 l.length=true→Nat.ble l.length 5=true→p l:=
 List.rec (motive:=fun l=>Nat.ble 1 l.length=true→Nat.ble l.length 5=true→p l) (fun h=>nomatch h) (fun a l _ _=>List.rec (motive:=fun l=>Nat.ble (a::l).length 5=true→p (a::l)) (fun _=>h1 a) (fun b l _=>List.rec (motive:=fun l=>Nat.ble (a::b::l).length 5=true→p (a::b::l)) (fun _=>h2 a b)
  (fun c l _=>List.rec (motive:=fun l=>Nat.ble (a::b::c::l).length 5=true→p (a::b::c::l)) (fun _=>h3 a b c) (fun d l _=>List.rec (motive:=fun l=>Nat.ble (a::b::c::d::l).length 5=true→p (a::b::c::d::l)) (fun _=>h4 a b c d) (fun e l _=>List.rec (motive:=fun l=>Nat.ble (a::b::c::d::e::l).length 5=true→p (a::b::c::d::e::l)) (fun _=>h5 a b c d e) (fun _ _ _ h=>nomatch h) l) l) l) l) l) l
structure Aw (q:Program) (mg:Str→Option Value) (h:Heap) (b:Bool) (x:ClsRec×Addr×Addr×(Str→Option Value)):Prop where
 c:mI q (looseW q []) (D0 b)=some x.1
 g:mg (D0 b)=some (.ref x.2.1)
 A:PlainAt h x.1.withCmp x.2.1 x.2.2.1 x.2.2.2
section
variable {q:Program} {Ψ:Nat→Option fY} {ks:List Nat} {I:List FI} {L:LT} (X:pR q Ψ ks I L)
include X
theorem pR.bind {f:Nat}(hf:f∈ks)(u:Str)(pm cd doc:Value)(vs:List Value)(hv:vs.length=(ic I Ψ f).length):A1 I Ψ u pm cd doc vs f=A0 I Ψ vs f:=by
 have h:=(ya (ya (List.all_eq_true.mp X.p f hf)).1)
 rw [←hv] at h
 exact l5 (p:=fun vs=>A1 I Ψ u pm cd doc vs f=A0 I Ψ vs f) (fun a=>y9 (X.b1 u pm cd doc a) hf) (fun a b=>y9 (X.b2 u pm cd doc a b) hf) (fun a b c=>y9 (X.b3 u pm cd doc a b c) hf) (fun a b c d=>y9 (X.b4 u pm cd doc a b c d) hf) (fun a b c d e=>y9 (X.b5 u pm cd doc a b c d e) hf) vs h.1 h.2
theorem pR.bnd {f:Nat}(hf:f∈ks)(u:Str)(pm cd doc:Value)(vs:List Value)(hv:vs.length=(ic I Ψ f).length):bindArgs (Calls.docDef (jJ I f) (Db I f) (sW I f) (rO I f) pm cd doc) ⟨vs,[]⟩=pure ((ic I Ψ f).zip vs)∧bindArgs (methDef (jJ I f) u (Db I f) (sW I f) (rO I f) pm cd doc) ⟨vs,[]⟩=pure ((ic I Ψ f).zip vs):=by
 have h:=X.bind hf u pm cd doc vs hv
 unfold A1 A0 at h
 rw [show Nat.beq vs.length (ic I Ψ f).length=true from hv▸Nat.beq_refl _] at h
 exact Prod.mk.inj (Option.some.inj h)
theorem pR.fnAt {mean:ExcName→Option Value}{mg mb:Str→Option Value}{h:Heap}(T:Top q (looseW q []) mean mg mb h){κ:Bool→ClsRec×Addr×Addr×(Str→Option Value)}(K:∀b,Aw q mg h b (κ b)){f:Nat}(hf:f∈ks):
  ∃a d,nC h mg (κ (uM L f)).2.2.2 (kJ I f) (jJ I f) (rO I f) (sW I f) (ic I Ψ f) a d:=by
 have r:=y9 X.r hf
 unfold AG at r
 cases hg:kJ I f with
 |true=>rw [hg] at r;exact zY T _ r fun pm cd doc vs hv=>(X.bnd hf (ofString "") pm cd doc vs hv).1
 |false=>rw [hg] at r;exact zg (K _).A _ (by rw [(K (uM L f)).c] at r;exact r) fun u pm cd doc vs hv=>(X.bnd hf u pm cd doc vs hv).2
end
theorem wh {x:Str}{y:Option Value}(h:fastLookup "object" x=some y):typeLookup (.type "object") x=pure y:=by rw [typeLookup_type,builtinLookup_eq_fast,h]
theorem pR.laid {q:Program}{ks:List Nat}{I:List FI}{L:LT}{P:Pg}(X:pR q P.Ψ ks I L){κ:Bool→ClsRec×Addr×Addr×(Str→Option Value)}(K:∀b,Aw q P.mg P.h₀ b (κ b))(hcl:∀b,P.cls (rS b)=(κ b).2.1)(hgl:P.gl=kJ I)(cs:∀p∈L.2.2.2,∃u,P.mg p.1=some u∧∀g h,Rp P g h p.2 u)
  (hF:∀(f:Nat) (F:fY),P.Ψ f=some F→nC P.h₀ P.mg (κ (uM L f)).2.2.2 (kJ I f) (jJ I f) (rO I f) (sW I f) (ic I P.Ψ f) (P.fnA f) (P.fd f)):fR P L where
 fn:=fun p hp=>by
  obtain ⟨h1,h2⟩:=ya (List.all_eq_true.mp X.f p hp)
  obtain ⟨F,h1⟩:=Option.isSome_iff_exists.mp h1
  exact ⟨F,h1,by rw [hgl];exact (ya h2).1,(hF _ F h1).name.trans (eq_of_beq (ya h2).2)⟩
 o:=fun b=>uI (K b).A (hcl b) (by have:=X.a b;rw [(K b).c] at this;exact Option.some.inj this) (fun x hx=>wh (y9 (Cq b) hx)) (fun p hp=>by
  obtain ⟨h1,h2⟩:=ya (List.all_eq_true.mp (X.m b) p hp)
  obtain ⟨F,h1⟩:=Option.isSome_iff_exists.mp h1
  obtain ⟨h2,h3⟩:=ya h2
  obtain ⟨h3,h4⟩:=ya h3
  have y:=(hF _ F h1).asMeth (rR h2)
  rw [eq_of_beq h3,eq_of_beq h4] at y
  exact y) fun p hp=>let ⟨y,h⟩:=Option.isSome_iff_exists.mp (y9 (X.o b) hp);⟨y,wh h⟩
 me:=fun b p hp=>Option.isSome_iff_exists.mp (ya (List.all_eq_true.mp (X.m b) p hp)).1
 g:=fun b=>(hcl b)▸(K b).g
 cs:=cs
noncomputable abbrev yi (P:Pg)(I:List FI)(f:Nat)(p:PS):Prop:=∃C',gR P ⟨rO I f,il I f⟩ ⟨[],lk I f,rP f⟩ (kM f) C' (sW I f) p
noncomputable def C1 {P:Pg}{L:LT}(D:fR P L)(I:List FI)(f:Nat):Option PS:=bif Nat.beq f 35||Nat.beq f 999 then none else (CZ D 60 ⟨rO I f,il I f⟩ ⟨[],lk I f,rP f⟩ (kM f) (sW I f) (F5 I f)).map (·.1.2.1)
noncomputable def C9 (Ψ:Nat→Option fY)(f:Nat):Option PS:=bif Nat.beq f 35||Nat.beq f 999 then none else (Ψ f).map fY.body
theorem Fj {P:Pg}{L:LT}{D:fR P L}{I:List FI}{ks:List Nat}(h:ks.map (C1 D I)=ks.map (C9 P.Ψ))(h35:∀F,P.Ψ 35=some F→yi P I 35 F.body)(h9:∀F,P.Ψ 999=some F→F.body=hU){f:Nat}{F:fY}(hf:f∈ks)(e:P.Ψ f=some F):yi P I f F.body:=by
 have h:=y9 h hf
 unfold C1 C9 at h
 cases q5:Nat.beq f 35 with
 |true=>cases Nat.eq_of_beq_eq_true q5;exact h35 F e
 |false=>
  cases q9:Nat.beq f 999 with
  |true=>cases Nat.eq_of_beq_eq_true q9;rw [h9 F e];exact ⟨⟨[],[],false⟩,dg.badZ⟩
  |false=>rw [q5,q9,e] at h;exact AA h
theorem BZ {rows:List (Nat×fY)}{f:Nat}{F:fY}(e:(rows.find? fun r=>Nat.beq r.1 f).map (·.2)=some F):f∈rows.map (·.1):=
 let ⟨_,h1,_⟩:=Option.map_eq_some_iff.mp e
 Nat.eq_of_beq_eq_true (List.find?_some (p:=fun r:Nat×fY=>Nat.beq r.1 f) h1)▸List.mem_map_of_mem (List.mem_of_find?_eq_some h1)
section
variable {q:Program} {mean:ExcName→Option Value} {ks:List Nat} {I:List FI} {L:LT} {A:Around} {n m:Nat} {F:fY} {bd:List Stmt} {y:Str} {k:NameKind} {s0:Int} {kk:Nat} {q1 q2 q3 q4:Pos} {p:PS} {fa l:Addr} {vs:List Value} {ns:List Int} {σ:Sg} {hint:Nat} {s:Shared}
theorem BU {P:Pg}(X:pR q P.Ψ ks I L)(hk:∀f F,P.Ψ f=some F→f∈ks)(T:Top q (looseW q []) mean P.mg P.mb P.h₀){κ:Bool→ClsRec×Addr×Addr×(Str→Option Value)}(K:∀b,Aw q P.mg P.h₀ b (κ b))(hcl:∀b,P.cls (rS b)=(κ b).2.1)(hg:P.gl=kJ I)(cs:∀p∈L.2.2.2,∃u,P.mg p.1=some u∧∀g h,Rp P g h p.2 u)
  (hF:∀(f:Nat) (F:fY),P.Ψ f=some F→nC P.h₀ P.mg (κ (uM L f)).2.2.2 (kJ I f) (jJ I f) (rO I f) (sW I f) (ic I P.Ψ f) (P.fnA f) (P.fd f))
  (sm:∀D:fR P L,ks.map (C1 D I)=ks.map (C9 P.Ψ))(h35:fR P L→∀F,P.Ψ 35=some F→yi P I 35 F.body)(hL:P.Ψ 999=some F)(h9:F.body=hU)
  (hb:sW I 999=.Assign [.Name y q1] (.List [.Constant (.int s0) kk q2] q3) q4::bd)(ht:(il I 999)[1]?=some (some (y,k)))(hk':(k==.local||k==.cell)=true)(hw:vp (.List [.Constant (.int s0) kk q2] q3) y q1 q4.line (rO I 999)=false)(hc:b9 ⟨[],lk I 999,false⟩ 1 false ⟨[],lk I 999,false⟩=true)(hnp:wm P.Ψ 999=1)(hgl:kJ I 999=true)
  (hlaw:∀D:fR P L,(CZ D 60 ⟨rO I 999,il I 999⟩ ⟨[],lk I 999,false⟩ false bd hint).map (·.1.2.1)=some p)(room:nA A (n+1))(hmg:P.mg (jJ I 999)=some (.ref fa))(hs:P.h₀=s.heap)(hl:s.heap.IsList l vs.toArray)(hi:IntsAre vs ns)(hn:ns.length≤63)(hp:p (P.cx n) (frame [.scr ns,.spot] m) ⟨s0,none⟩ (fun _ σ=>.ret .none σ)=.ret (.bool true) σ):
  wpAny P.M A (PySem.call (.ref fa) [.ref l]) (fun v s'=>v=.bool true∧∃h' tk,s'={s with heap:=h',toks:=tk}∧∀a o,s.heap.get? a=some o→h'.get? a=some o) (fun _ _=>False) s:=by
 have D:fR P L:=X.laid K hcl hg cs hF
 have xl:=hF 999 F hL
 have h9':∀F,P.Ψ 999=some F→F.body=hU:=fun F' e=>by rw [hL] at e;cases e;exact h9
 have hok:∀f F,P.Ψ f=some F→vk P f F:=fun f F e=>zV (hF f F e) (by have:=(ya (List.all_eq_true.mp X.p f (hk f F e))).2;unfold wm at this;rw [e] at this;exact this) (Fj (sm D) (h35 D) h9' (hk f F e) e)
 obtain ⟨C',sl⟩:=AA (hlaw D)
 have kl:El P 999 1 (il I 999) (ic I P.Ψ 999) (sW I 999) (lk I 999):=xo xl (by have:=(ya (List.all_eq_true.mp X.p 999 (hk 999 F hL))).2;rw [hnp] at this;exact this)
 rw [hb] at kl
 have hfa:P.fnA 999=fa:=Value.ref.inj (Option.some.inj ((xl.ns hgl).symm.trans hmg))
 rw [←hfa]
 exact wP (zR T X.n fun f F e=>⟨_,_,_,_,_,hg▸hF f F e⟩) hok hL kl ht (DB hk') (by rw [xl.sc];exact hw) hc (by rw [xl.sc];exact sl) hs room hl hi hn hp
theorem wO {pg:Program}{w:World}{mg mb:Str→Option Value}{Ψ:Nat→Option fY}
  (X:pR q Ψ ks I L)(hk:∀f F,Ψ f=some F→f∈ks)(T:Top q (looseW q []) mean mg mb s.heap)(TE:TopE q (looseW q []) mg s.heap)(cs:∀P:Pg,∀p∈L.2.2.2,∃u,mg p.1=some u∧∀g h,Rp P g h p.2 u)
  (sm:∀P:Pg,∀D:fR P L,ks.map (C1 D I)=ks.map (C9 Ψ))(h35:∀P:Pg,fR P L→∀F,Ψ 35=some F→yi P I 35 F.body)(hL:Ψ 999=some F)(h9:F.body=hU)
  (hb:sW I 999=.Assign [.Name y q1] (.List [.Constant (.int s0) kk q2] q3) q4::bd)(ht:(il I 999)[1]?=some (some (y,k)))(hk':(k==.local||k==.cell)=true)(hw:vp (.List [.Constant (.int s0) kk q2] q3) y q1 q4.line (rO I 999)=false)(hc:b9 ⟨[],lk I 999,false⟩ 1 false ⟨[],lk I 999,false⟩=true)(hnp:wm Ψ 999=1)(hgl:kJ I 999=true)
  (hlaw:∀P:Pg,∀D:fR P L,(CZ D 60 ⟨rO I 999,il I 999⟩ ⟨[],lk I 999,false⟩ false bd hint).map (·.1.2.1)=some p)(room:nA A (n+1))(hmg:mg (jJ I 999)=some (.ref fa))(hl:s.heap.IsList l vs.toArray)(hi:IntsAre vs ns)(hn:ns.length≤63)(hp:p ⟨ai Ψ n⟩ (frame [.scr ns,.spot] m) ⟨s0,none⟩ (fun _ σ=>.ret .none σ)=.ret (.bool true) σ):
  wpAny (model pg w) A (PySem.call (.ref fa) [.ref l]) (fun v s'=>v=.bool true∧∃h' tk,s'={s with heap:=h',toks:=tk}∧∀a o,s.heap.get? a=some o→h'.get? a=some o) (fun _ _=>False) s:=by
 obtain ⟨κ,K⟩:=GY (p:=Aw q mg s.heap) fun b=>by
  obtain ⟨c,C,N,mN,h1,h2,h3⟩:=Cm (x:=D0 b) TE (by have:=congrArg Option.isSome (X.a b);rw [Option.isSome_map] at this;exact this)
  exact ⟨(c,C,N,mN),h1,h2,h3⟩
 obtain ⟨fA,fD,hF⟩:=Bo (fun f F e=>X.fnAt T K (hk f F e)) hL
 exact BU (P:=⟨pg,w,s.heap,fun c=>(κ (Nat.beq c 0)).2.1,Ψ,fA,fD,kJ I,mg,mb⟩) X hk T K (fun b=>by cases b<;>rfl) rfl (cs _) hF (sm _) (h35 _) hL h9 hb ht hk' hw hc hnp hgl (hlaw _) room hmg rfl hl hi hn hp
end
end
end Mine
end
section
set_option maxRecDepth 100000
namespace Mine.L10
noncomputable section
open PySem
@[reducible] noncomputable def jG:PS:=
  (ae (bn (eJ (cB (qE (p1 (dK .str) (pV 0)))) (eJ (p2 rQ (p1 aI (pV 0)) (pC (.int 6))) bL))
  (ae (au (pC (.bool false)))
  af)
  af)
  (ae (au (p1 ju (ax (p1 Af (pV 0)) (aM 1) av (pB (p2 EG (pV 1) (pC (.str (ofString "abcdefghijklmnopqrstuvwxyz"))))))))
  af))
@[reducible] noncomputable def iw:PS:=
  (ae (bn (p2 bD (p2 aj (pV 0) (pC (.int 0))) (pC (.str (ofString "mark"))))
  (ae (au (aW ah))
  af)
  af)
  (ae (au (p1 eZ (p3 bi (pV 0) (p1 bN (pC (.int 1))) fS)))
  af))
@[reducible] noncomputable def iy:PS:=
  (ae (bn (eJ (cB (qE (p1 (dK .tuple) (pV 0)))) (eJ (p2 bD (p1 aI (pV 0)) (pC (.int 0))) (eJ (cB (qE (p1 (dK .str) (p2 aj (pV 0) (pC (.int 0)))))) bL)))
  (ae (au (pC (.bool false)))
  af)
  af)
  (ae (bn (p2 bD (p2 aj (pV 0) (pC (.int 0))) (pC (.str (ofString "mark"))))
  (ae (au (iD (pB (p2 bD (p1 aI (pV 0)) (pC (.int 2)))) (iD (am 1 (aa (p2 aj (pV 0) (pC (.int 1))) ah)) (pB (p2 j8 (p2 aj (pV 0) (pC (.int 1))) (pC (.str (ofString ""))))))))
  af)
  af)
  (ae (bn (p2 bD (p2 aj (pV 0) (pC (.int 0))) (pC (.str (ofString "yes"))))
  (ae (au (pB (p2 bD (p1 aI (pV 0)) (pC (.int 1)))))
  af)
  af)
  (ae (bn (p2 fT (p2 aj (pV 0) (pC (.int 0))) (az (aa (pC (.str (ofString "not"))) (aa (pC (.str (ofString "next"))) (aa (pC (.str (ofString "always"))) (aa (pC (.str (ofString "again"))) ah))))))
  (ae (au (pB (p2 bD (p1 aI (pV 0)) (pC (.int 2)))))
  af)
  af)
  (ae (au (iD (pB (p2 fT (p2 aj (pV 0) (pC (.int 0))) (az (aa (pC (.str (ofString "and"))) (aa (pC (.str (ofString "or"))) (aa (pC (.str (ofString "till"))) ah)))))) (pB (p2 bD (p1 aI (pV 0)) (pC (.int 3))))))
  af)))))
@[reducible] noncomputable def gv:PS:=
  (ae (bn (eJ (p2 bD (pV 1) (pC (.int 0))) (eJ (cB (qE (am 3 (aa (pV 0) ah)))) bL))
  (ae (au (pC (.bool false)))
  af)
  af)
  (ae (au (p1 ju (ax (aL (am 2 (aa (pV 0) ah))) (aM 2) av (am 4 (aa (pV 2) (aa (p2 cA (pV 1) (pC (.int 1))) ah))))))
  af))
@[reducible] noncomputable def gw:PS:=
  (ae (au (am 4 (aa (pV 0) (aa (pC (.int 5)) ah))))
  af)
@[reducible] noncomputable def gu:PS:=
  (ae (bn (p2 fT (p2 aj (pV 0) (pC (.int 0))) (az (aa (pC (.str (ofString "next"))) (aa (pC (.str (ofString "till"))) (aa (pC (.str (ofString "always"))) ah)))))
  (ae (au (aW (aa (pV 0) ah)))
  af)
  af)
  (ae (bn (p2 bD (p2 aj (pV 0) (pC (.int 0))) (pC (.str (ofString "again"))))
  (ae (aw 1 (az (aa (pC (.str (ofString "till"))) (aa (az (aa (pC (.str (ofString "yes"))) ah)) (aa (p2 aj (pV 0) (pC (.int 1))) ah)))))
  (ae (au (aW (aa (pV 1) (aa (az (aa (pC (.str (ofString "always"))) (aa (pV 1) ah))) ah))))
  af))
  af)
  (ae (au (aW ah))
  af)))
@[reducible] noncomputable def iz:PS:=
  (ae (aw 1 (aW ah))
  (ae (b8 (aL (am 2 (aa (pV 0) ah))) (aM 2)
  (ae (f6 1 ii (ax (aL (am 500 (aa (pV 2) ah))) (aM 3) (p2 eY (pV 3) (pV 1)) (pV 3)))
  af))
  (ae (f6 1 ii (ax (aL (am 6 (aa (pV 0) ah))) (aM 4) (p2 eY (pV 4) (pV 1)) (pV 4)))
  (ae (au (pV 1))
  af))))
@[reducible] noncomputable def eM:PS:=
  (ae (bn (cB (qE (am 5 (aa (pV 0) ah))))
  (ae hU
  af)
  af)
  (ae (bn (p2 rQ (p1 aI (am 500 (aa (pV 0) ah))) (pC (.int 4)))
  (ae hU
  af)
  af)
  (ae (au (pV 0))
  af)))
@[reducible] noncomputable def ix:PS:=
  (ae (au (iD (p1 (dK .int) (pV 0)) (iD (gF (p1 (dK .bool) (pV 0))) (pB (i9 AO tE (pC (.int 0)) (pV 0) (pV 1))))))
  af)
@[reducible] noncomputable def eN:PS:=
  (ae (bn (eJ (cB (qE (p1 (dK .list) (pV 0)))) (eJ (p2 bD (p1 aI (pV 0)) (pC (.int 0))) bL))
  (ae hU
  af)
  af)
  (ae (b8 (kb (pV 0)) (vn 2 3)
  (ae (bn (eJ (cB (qE (am 15 (aa (pV 3) (aa (pV 1) ah))))) (eJ (p2 fT (pV 3) (p3 bi (pV 0) fS (p1 bN (pV 2)))) bL))
  (ae hU
  af)
  af)
  af))
  af))
@[reducible] noncomputable def eO:PS:=
  (ae (aw 1 (aW (aa (az ah) ah)))
  (ae (b8 (aL (pV 0)) (aM 2)
  (ae (aw 1 (p2 aC (ax (aL (pV 1)) (aM 3) av (p2 aC (pV 3) (az (aa (pC (.bool false)) ah)))) (ax (aL (pV 1)) (aM 4) av (p2 aC (pV 4) (az (aa (pC (.bool true)) ah))))))
  af))
  (ae (au (pV 1))
  af)))
@[reducible] noncomputable def jH:PS:=
  (ae (au (p2 aj (pV 2) (yV .list mc (pV 1) (pV 0))))
  af)
@[reducible] noncomputable def oV:PS:=
  (ae (aw 4 (p2 aj (pV 0) (pC (.int 0))))
  (ae (bn (p2 bD (pV 4) (pC (.str (ofString "mark"))))
  (ae (au (pB (p2 bD (pV 1) (p2 aj (pV 0) (pC (.int 1))))))
  af)
  af)
  (ae (bn (p2 bD (pV 4) (pC (.str (ofString "yes"))))
  (ae (au (pC (.bool true)))
  af)
  af)
  (ae (bn (p2 bD (pV 4) (pC (.str (ofString "not"))))
  (ae (au (gF (am 10 (aa (p2 aj (pV 0) (pC (.int 1))) (aa (pV 1) (aa (pV 2) (aa (pV 3) ah)))))))
  af)
  af)
  (ae (bn (p2 bD (pV 4) (pC (.str (ofString "and"))))
  (ae (au (iD (am 10 (aa (p2 aj (pV 0) (pC (.int 1))) (aa (pV 1) (aa (pV 2) (aa (pV 3) ah))))) (am 10 (aa (p2 aj (pV 0) (pC (.int 2))) (aa (pV 1) (aa (pV 2) (aa (pV 3) ah)))))))
  af)
  af)
  (ae (bn (p2 bD (pV 4) (pC (.str (ofString "or"))))
  (ae (au (v9 (am 10 (aa (p2 aj (pV 0) (pC (.int 1))) (aa (pV 1) (aa (pV 2) (aa (pV 3) ah))))) (am 10 (aa (p2 aj (pV 0) (pC (.int 2))) (aa (pV 1) (aa (pV 2) (aa (pV 3) ah)))))))
  af)
  af)
  (ae (bn (p2 bD (pV 4) (pC (.str (ofString "again"))))
  (ae (au (am 9 (aa (az (aa (pC (.str (ofString "always"))) (aa (az (aa (pC (.str (ofString "till"))) (aa (az (aa (pC (.str (ofString "yes"))) ah)) (aa (p2 aj (pV 0) (pC (.int 1))) ah)))) ah))) (aa (pV 2) (aa (pV 3) ah)))))
  af)
  af)
  (ae (au (am 9 (aa (pV 0) (aa (pV 2) (aa (pV 3) ah)))))
  af))))))))
@[reducible] noncomputable def lQ:PS:=
  (ae (bn (p2 bD (p2 aj (pV 0) (pC (.int 0))) (pC (.str (ofString "next"))))
  (ae (au (am 10 (aa (p2 aj (pV 0) (pC (.int 1))) (aa (p2 aj (pV 3) (pC (.int 0))) (aa (pV 1) (aa (p2 aj (pV 3) (pC (.int 1))) ah))))))
  af)
  af)
  (ae (bn (p2 bD (p2 aj (pV 0) (pC (.int 0))) (pC (.str (ofString "till"))))
  (ae (bn (qE (am 10 (aa (p2 aj (pV 0) (pC (.int 2))) (aa (p2 aj (pV 2) (pC (.int 0))) (aa (pV 1) (aa (p2 aj (pV 2) (pC (.int 1))) ah))))))
  (ae (au (pC (.bool true)))
  af)
  af)
  (ae (au (iD (am 10 (aa (p2 aj (pV 0) (pC (.int 1))) (aa (p2 aj (pV 2) (pC (.int 0))) (aa (pV 1) (aa (p2 aj (pV 2) (pC (.int 1))) ah))))) (am 9 (aa (pV 0) (aa (pV 1) (aa (p2 aj (pV 3) (pC (.int 1))) ah))))))
  af))
  af)
  (ae (au (iD (am 10 (aa (p2 aj (pV 0) (pC (.int 1))) (aa (p2 aj (pV 2) (pC (.int 0))) (aa (pV 1) (aa (p2 aj (pV 2) (pC (.int 1))) ah))))) (am 9 (aa (pV 0) (aa (pV 1) (aa (p2 aj (pV 3) (pC (.int 1))) ah))))))
  af)))
@[reducible] noncomputable def jI:PS:=
  (ae (b8 (aL (pV 0)) (aM 3)
  (ae (bn (p2 j8 (am 9 (aa (pV 3) (aa (pV 0) (aa (p2 aj (pV 1) (pC (.int 1))) ah)))) (am 11 (aa (pV 3) (aa (pV 0) (aa (pV 1) (aa (pV 2) ah))))))
  (ae (au (pC (.bool false)))
  af)
  af)
  af))
  (ae (au (pC (.bool true)))
  af))
@[reducible] noncomputable def eK:PS:=
  (ae (au (p2 aC (aW (aa (pC .none) ah)) (ax (aL (am 500 (aa (pV 0) ah))) (aM 1) (p2 fT (p2 aj (pV 1) (pC (.int 0))) (az (aa (pC (.str (ofString "till"))) (aa (pC (.str (ofString "always"))) ah)))) (pV 1))))
  af)
@[reducible] noncomputable def lT:PS:=
  (ae (bn (p2 uV (pV 0) (pC .none))
  (ae (au (pC (.bool true)))
  af)
  af)
  (ae (bn (p2 bD (p2 aj (pV 0) (pC (.int 0))) (pC (.str (ofString "till"))))
  (ae (au (v9 (gF (am 9 (aa (pV 0) (aa (pV 2) (aa (pV 3) ah))))) (am 10 (aa (p2 aj (pV 0) (pC (.int 2))) (aa (pV 1) (aa (pV 2) (aa (pV 3) ah)))))))
  af)
  af)
  (ae (au (v9 (am 9 (aa (pV 0) (aa (pV 2) (aa (pV 3) ah)))) (gF (am 10 (aa (p2 aj (pV 0) (pC (.int 1))) (aa (pV 1) (aa (pV 2) (aa (pV 3) ah))))))))
  af)))
@[reducible] noncomputable def fy:PS:=
  (ae (aw 1 (aW ah))
  (ae (aw 2 uF)
  (ae (b8 (aL (p1 (m9 10 4) (pV 0))) (aM 3)
  (ae (bn (p2 dY (pV 3) (pV 2))
  (ae (s6 2 dS (pV 3) (pC (.bool true)))
  (ae (aw 4 (aW (aa (az (aa (pV 3) (aa (pC (.int 0)) ah))) ah)))
  (ae (fj 20000 (p2 j8 (pV 4) (aW ah))
  (ae (v4 4 [5,6])
  (ae (bn (p2 bD (pV 6) (p1 aI (p2 idxD (p1 (m9 10 6) (pV 0)) (pV 5))))
  (ae (f6 1 df (pV 5))
  af)
  (ae (f6 4 df (az (aa (pV 5) (aa (p2 aC (pV 6) (pC (.int 1))) ah))))
  (ae (aw 7 (p2 aj (p2 idxD (p1 (m9 10 6) (pV 0)) (pV 5)) (pV 6)))
  (ae (bn (p2 dY (pV 7) (pV 2))
  (ae (s6 2 dS (pV 7) (pC (.bool true)))
  (ae (f6 4 df (az (aa (pV 7) (aa (pC (.int 0)) ah))))
  af))
  af)
  af))))
  af)))
  af)))
  af)
  af))
  (ae (au (pV 1))
  af))))
@[reducible] noncomputable def gx:PS:=
  (ae (aw 1 (am 35 (aa (pV 0) ah)))
  (ae (aw 2 uF)
  (ae (aw 3 (aW ah))
  (ae (b8 (aL (p1 r6 (am 34 (aa (pV 0) ah)))) (aM 4)
  (ae (bn (p2 dY (pV 4) (pV 2))
  (ae (s6 2 dS (pV 4) (pC (.bool true)))
  (ae (aw 5 (aW (aa (pV 4) ah)))
  (ae (aw 6 (pC (.int 0)))
  (ae (fj 400 (p2 tE (pV 6) (p1 aI (pV 5)))
  (ae (b8 (aL (p2 idxD (pV 1) (p2 aj (pV 5) (pV 6)))) (aM 7)
  (ae (bn (p2 dY (pV 7) (pV 2))
  (ae (s6 2 dS (pV 7) (pC (.bool true)))
  (ae (f6 5 df (pV 7))
  af))
  af)
  af))
  (ae (aw 6 (p2 aC (pV 6) (pC (.int 1))))
  af)))
  (ae (f6 3 df (pV 5))
  af)))))
  af)
  af))
  (ae (au (pV 3))
  af)))))
@[reducible] noncomputable def fB:PS:=
  (ae (au (v9 (pB (p2 rQ (p1 aI (pV 1)) (pC (.int 1)))) (pB (p2 fT (p2 aj (pV 1) (pC (.int 0))) (p2 idxD (p1 (m9 10 6) (pV 0)) (p2 aj (pV 1) (pC (.int 0))))))))
  af)
@[reducible] noncomputable def oU:PS:=
  (ae (b8 (bG (aa (p1 aI (p1 (m9 10 1) (pV 0))) ah)) (aM 2)
  (ae (bn (cB (qE (p1 s4 (ax (aL (pV 1)) (aM 3) av (pU 10 1005 (pV 0) (aa (pV 3) (aa (pV 2) ah)))))))
  (ae (au (pV 2))
  af)
  af)
  af))
  (ae (au (pC .none))
  af))
@[reducible] noncomputable def jF:PS:=
  (ae (aw 3 (p1 qR (ax (aL (pV 1)) (aM 7) av (az (aa (pV 7) (aa (pC .none) ah))))))
  (ae (aw 4 (p1 eZ (pV 1)))
  (ae (fj 400 (p2 j8 (pV 4) (aW ah))
  (ae (n0 4 5)
  (ae (bn (p2 fT (pV 5) (pV 2))
  (ae (au (am 40 (aa (pV 3) (aa (pV 5) ah))))
  af)
  af)
  (ae (b8 (aL (p2 idxD (p1 (m9 10 6) (pV 0)) (pV 5))) (aM 6)
  (ae (bn (p2 dY (pV 6) (pV 3))
  (ae (s6 3 dS (pV 6) (pV 5))
  (ae (f6 4 df (pV 6))
  af))
  af)
  af))
  af))))
  (ae (au (aW ah))
  af))))
@[reducible] noncomputable def gt:PS:=
  (ae (aw 2 (aW ah))
  (ae (fj 400 (p2 DD (pV 1) (pC .none))
  (ae (f6 2 df (pV 1))
  (ae (aw 1 (p2 idxD (pV 0) (pV 1)))
  af)))
  (ae (au (p1 r6 (pV 2)))
  af)))
@[reducible] noncomputable def jE:PS:=
  (ae (aw 2 (aW (aa (p2 aj (pV 1) (pC (.int 0))) ah)))
  (ae (b8 (bG (aa (p1 aI (p1 (m9 10 1) (pV 0))) ah)) (aM 3)
  (ae (aw 4 (ax (aL (pV 1)) (aM 6) (qE (pU 10 1005 (pV 0) (aa (pV 6) (aa (pV 3) ah)))) (pV 6)))
  (ae (aw 2 (p2 aC (pV 2) (p3 bi (am 39 (aa (pV 0) (aa (p3 bi (pV 2) (p1 bN (p1 kG (pC (.int 1)))) fS) (aa (pV 4) ah)))) (p1 bN (pC (.int 1))) fS)))
  af)))
  (ae (aw 5 (ax (aL (p2 idxD (p1 (m9 10 6) (pV 0)) (p2 aj (pV 2) (p1 kG (pC (.int 1)))))) (aM 7) (p2 fT (pV 7) (pV 1)) (pV 7)))
  (ae (au (p2 aC (pV 2) (p3 bi (am 39 (aa (pV 0) (aa (pV 5) (aa (p3 bi (pV 1) fS (p1 bN (pC (.int 1)))) ah)))) fS (p1 bN (p1 kG (pC (.int 1)))))))
  af))))
@[reducible] noncomputable def gy:PS:=
  (ae (aw 2 (p3 bi (am 39 (aa (pV 0) (aa (p3 bi (p1 (m9 10 4) (pV 0)) fS (p1 bN (p1 (m9 10 5) (pV 0)))) (aa (p3 bi (pV 1) fS (p1 bN (pC (.int 1)))) ah)))) fS (p1 bN (p1 kG (pC (.int 1))))))
  (ae (au (az (aa (pC (.str (ofString "breaks"))) (aa (ax (aL (pV 2)) (aM 3) av (p2 aj (pV 3) (pC (.int 0)))) (aa (ax (aL (am 41 (aa (pV 0) (aa (pV 1) ah)))) (aM 4) av (p2 aj (pV 4) (pC (.int 0)))) ah)))))
  af))
@[reducible] noncomputable def lS:PS:=
  (ae (aw 2 (uE 10 1001 (aa (pV 0) (aa (pV 1) ah))))
  (ae (aw 3 (am 36 (aa (pV 2) ah)))
  (ae (aw 4 (aW ah))
  (ae (b8 (kb (pV 3)) (vn 5 6)
  (ae (aw 7 (pC (.int 0)))
  (ae (bn (qE (am 37 (aa (pV 2) (aa (pV 6) ah))))
  (ae (aw 7 (am 38 (aa (pV 2) (aa (pV 6) ah))))
  (ae (bn (p2 uV (pV 7) (pC .none))
  (ae (au (am 42 (aa (pV 2) (aa (pV 6) ah))))
  af)
  af)
  af))
  af)
  (ae (f6 4 ii (ax (aL (pV 6)) (aM 8) av (az (aa (p2 aj (pV 8) (pC (.int 0))) (aa (p2 aj (pV 8) (pC (.int 1))) (aa (p2 cA (p2 cA (p1 aI (pV 3)) (pC (.int 1))) (pV 5)) (aa (pV 7) ah)))))))
  af))))
  (ae (au (az (aa (pC (.str (ofString "keeps"))) (aa (pV 4) ah))))
  af)))))
@[reducible] noncomputable def gr:PS:=
  (ae (aw 3 (p2 fw (aW (aa (pC (.bool false)) ah)) (p1 aI (pV 0))))
  (ae (b8 (bG (aa (pC (.int 2)) ah)) (aM 4)
  (ae (b8 (DC (aa (p2 cA (p1 aI (pV 0)) (pC (.int 1))) (aa (p1 kG (pC (.int 1))) (aa (p1 kG (pC (.int 1))) ah)))) (aM 5)
  (ae (aw 6 (yW (p2 bD (pV 5) (p2 cA (p1 aI (pV 0)) (pC (.int 1)))) (pV 2) (p2 aC (pV 5) (pC (.int 1)))))
  (ae (s6 3 sg (pV 5) (v9 (p2 aj (pV 1) (pV 5)) (iD (p2 aj (pV 0) (pV 5)) (p2 aj (pV 3) (pV 6)))))
  af)))
  af))
  (ae (au (pV 3))
  af)))
@[reducible] noncomputable def eL:PS:=
  (ae (aw 3 (p2 aj (pV 0) (pC (.int 0))))
  (ae (bn (p2 bD (pV 3) (pC (.str (ofString "mark"))))
  (ae (au (ax (aL (pV 1)) (aM 6) av (pB (p2 bD (pV 6) (p2 aj (pV 0) (pC (.int 1)))))))
  af)
  af)
  (ae (bn (p2 bD (pV 3) (pC (.str (ofString "yes"))))
  (ae (au (ax (aL (pV 1)) (aM 7) av (pC (.bool true))))
  af)
  af)
  (ae (aw 4 (ax (aL (am 2 (aa (pV 0) ah))) (aM 8) av (am 54 (aa (pV 8) (aa (pV 1) (aa (pV 2) ah))))))
  (ae (bn (p2 bD (pV 3) (pC (.str (ofString "not"))))
  (ae (au (ax (aL (p2 aj (pV 4) (pC (.int 0)))) (aM 9) av (gF (pV 9))))
  af)
  af)
  (ae (bn (p2 bD (pV 3) (pC (.str (ofString "and"))))
  (ae (au (p2 (jx (·&&·)) (p2 aj (pV 4) (pC (.int 0))) (p2 aj (pV 4) (pC (.int 1)))))
  af)
  af)
  (ae (bn (p2 bD (pV 3) (pC (.str (ofString "or"))))
  (ae (au (p2 (jx (·||·)) (p2 aj (pV 4) (pC (.int 0))) (p2 aj (pV 4) (pC (.int 1)))))
  af)
  af)
  (ae (bn (p2 bD (pV 3) (pC (.str (ofString "next"))))
  (ae (au (p2 aC (p3 bi (p2 aj (pV 4) (pC (.int 0))) (p1 bN (pC (.int 1))) fS) (aW (aa (p2 aj (p2 aj (pV 4) (pC (.int 0))) (pV 2)) ah))))
  af)
  af)
  (ae (bn (p2 bD (pV 3) (pC (.str (ofString "till"))))
  (ae (au (am 53 (aa (p2 aj (pV 4) (pC (.int 0))) (aa (p2 aj (pV 4) (pC (.int 1))) (aa (pV 2) ah)))))
  af)
  af)
  (ae (bn (p2 bD (pV 3) (pC (.str (ofString "always"))))
  (ae (aw 5 (am 53 (aa (p2 fw (aW (aa (pC (.bool true)) ah)) (p1 aI (pV 1))) (aa (ax (aL (p2 aj (pV 4) (pC (.int 0)))) (aM 10) av (gF (pV 10))) (aa (pV 2) ah)))))
  (ae (au (ax (aL (pV 5)) (aM 11) av (gF (pV 11))))
  af))
  af)
  (ae (au (p2 fw (aW (aa (p1 s4 (p3 bi (p2 aj (pV 4) (pC (.int 0))) (p1 bN (pV 2)) fS)) ah)) (p1 aI (pV 1))))
  af)))))))))))
@[reducible] noncomputable def lR:PS:=
  (ae (au (am 54 (aa (pV 0) (aa (p2 aC (pV 1) (pV 2)) (aa (p1 aI (pV 1)) ah)))))
  af)
@[reducible] noncomputable def oW:PS:=
  (ae (au (p2 aj (am 55 (aa (pV 0) (aa (pV 1) (aa (pV 2) ah)))) (pC (.int 0))))
  af)
@[reducible] noncomputable def dU:PS:=
  (ae (bn (p2 tE (pV 1) (p1 aI (pV 0)))
  (ae (au (p2 aj (pV 0) (pV 1)))
  af)
  af)
  (ae (au (pC (.int 0)))
  af))
@[reducible] noncomputable def gD:PS:=
  (ae (i8 1 (p2 aC (n5 1) (pC (.int 1))))
  (ae (aw 2 (p2 cA (n5 1) (pC (.int 1))))
  (ae (bn (p2 tE (pV 2) (p1 aI (pV 0)))
  (ae (au (p2 aj (pV 0) (pV 2)))
  af)
  af)
  (ae (bn (ib (p2 rQ (p1 aI (pV 0)) (pC (.int 4))) (ib (p2 tE (pV 2) (pC (.int 50))) av))
  (ae (au (p2 aV (p2 jK (p2 aC (p2 aj (pV 0) (p2 aV (pV 2) (p1 aI (pV 0)))) (p2 jK (pC (.int 7919)) (pV 2))) (pC (.int 48271))) (pC (.int 1000003))))
  af)
  af)
  (ae (au (pC (.int 0)))
  af)))))
@[reducible] noncomputable def fC:PS:=
  (ae (aw 1 (pC (.str (ofString "abcdefghijklmnopqrstuvwxyz"))))
  (ae (aw 2 (yV .str tN (pC (.str (ofString ""))) (ax (bG (aa (pC (.int 6)) ah)) (aM 8) av (p2 aj (pV 1) (p2 aV (p2 aC (p2 cb (pV 0) (pC (.int 7))) (p2 jK (pC (.int 5)) (pV 8))) (pC (.int 26)))))))
  (ae (bn (p2 bD (p2 aV (pV 0) (pC (.int 3))) (pC (.int 2)))
  (ae (aw 3 (p2 aC (pC (.int 1)) (p2 aV (p2 cb (pV 0) (pC (.int 3))) (pC (.int 4)))))
  (ae (au (ax (bG (aa (pC (.int 3)) ah)) (aM 9) av (p3 bi (pV 2) fS (p1 bN (p2 aC (pV 3) (pV 9))))))
  af))
  af)
  (ae (aw 3 (p2 aV (p2 cb (pV 0) (pC (.int 3))) (pC (.int 6))))
  (ae (aw 4 (p2 aV (p2 cb (pV 0) (pC (.int 18))) (p2 aC (pV 3) (pC (.int 1)))))
  (ae (aw 5 (aW ah))
  (ae (b8 (bG (aa (pC (.int 3)) ah)) (aM 6)
  (ae (aw 7 (p2 aj (pV 1) (p2 aV (p2 aC (p2 cb (pV 0) (pC (.int 90))) (p2 jK (pC (.int 7)) (pV 6))) (pC (.int 26)))))
  (ae (f6 5 df (p2 aC (p2 aC (p3 bi (pV 2) fS (p1 bN (pV 4))) (pV 7)) (p3 bi (pV 2) (p1 bN (pV 4)) (p1 bN (pV 3)))))
  af)))
  (ae (au (pV 5))
  af))))))))
@[reducible] noncomputable def gB:PS:=
  (ae (aw 4 (am 18 (aa (pV 0) (aa (pV 1) ah))))
  (ae (aw 5 (p2 cb (pV 4) (pC (.int 13))))
  (ae (bn (eJ (p2 tE (pV 3) (pC (.int 2))) (eJ (p2 tE (p2 aV (pV 4) (pC (.int 13))) (pC (.int 2))) bL))
  (ae (bn (p2 bD (p2 aV (pV 5) (pC (.int 9))) (pC (.int 4)))
  (ae (au (az (aa (pC (.str (ofString "yes"))) ah)))
  af)
  af)
  (ae (au (az (aa (pC (.str (ofString "mark"))) (aa (p2 aj (pV 2) (p2 aV (pV 5) (pC (.int 3)))) ah))))
  af))
  af)
  (ae (aw 6 (pC (.str (ofString "not and or next till always again till always next not"))))
  (ae (aw 7 (p2 aj (yV .str oH (pV 6) (pC (.str (ofString " ")))) (p2 cA (p2 aV (pV 4) (pC (.int 13))) (pC (.int 2)))))
  (ae (aw 8 (am 20 (aa (pV 0) (aa (pV 1) (aa (pV 2) (aa (p2 cA (pV 3) (pC (.int 1))) ah))))))
  (ae (bn (p2 fT (pV 7) (az (aa (pC (.str (ofString "not"))) (aa (pC (.str (ofString "next"))) (aa (pC (.str (ofString "always"))) (aa (pC (.str (ofString "again"))) ah))))))
  (ae (au (az (aa (pV 7) (aa (pV 8) ah))))
  af)
  af)
  (ae (au (az (aa (pV 7) (aa (pV 8) (aa (am 20 (aa (pV 0) (aa (pV 1) (aa (pV 2) (aa (p2 cA (pV 3) (pC (.int 1))) ah))))) ah)))))
  af))))))))
@[reducible] noncomputable def iB:PS:=
  (ae (aw 1 (aW (aa (pV 0) ah)))
  (ae (b8 (aL (p3 bi (pV 0) (p1 bN (pC (.int 1))) fS)) (aM 2)
  (ae (bn (qE (p1 (dK .tuple) (pV 2)))
  (ae (aw 1 (p2 aC (pV 1) (am 21 (aa (pV 2) ah))))
  af)
  af)
  af))
  (ae (au (pV 1))
  af)))
@[reducible] noncomputable def fE:PS:=
  (ae (aw 1 (aW ah))
  (ae (b8 (aL (am 21 (aa (pV 0) ah))) (aM 2)
  (ae (aw 3 (aW ah))
  (ae (bn (p2 fT (p2 aj (pV 2) (pC (.int 0))) (az (aa (pC (.str (ofString "next"))) (aa (pC (.str (ofString "till"))) (aa (pC (.str (ofString "always"))) ah)))))
  (ae (aw 3 (aW (aa (pV 2) ah)))
  af)
  (ae (bn (p2 bD (p2 aj (pV 2) (pC (.int 0))) (pC (.str (ofString "again"))))
  (ae (aw 3 (aW (aa (az (aa (pC (.str (ofString "till"))) (aa (az (aa (pC (.str (ofString "yes"))) ah)) (aa (p2 aj (pV 2) (pC (.int 1))) ah)))) (aa (az (aa (pC (.str (ofString "always"))) (aa (az (aa (pC (.str (ofString "till"))) (aa (az (aa (pC (.str (ofString "yes"))) ah)) (aa (p2 aj (pV 2) (pC (.int 1))) ah)))) ah))) ah))))
  af)
  af)
  af))
  (ae (aw 1 (p2 aC (pV 1) (ax (aL (pV 3)) (aM 4) (p2 eY (pV 4) (pV 1)) (pV 4))))
  af))))
  (ae (au (pV 1))
  af)))
@[reducible] noncomputable def iA:PS:=
  (ae (fj 40 (p2 rQ (p1 aI (am 22 (aa (pV 0) ah))) (pV 1))
  (ae (aw 0 (p2 aj (pV 0) (p1 kG (pC (.int 1)))))
  af))
  (ae (au (pV 0))
  af))
@[reducible] noncomputable def fF:PS:=
  (ae (aw 3 (p2 aC (p1 aI (pV 0)) (p1 aI (pV 1))))
  (ae (au (p2 aC (ax (bG (aa (pV 2) (aa (pV 3) ah))) (aM 4) av (pV 4)) (ax (bG (aa (p1 aI (pV 0)) (aa (pV 3) ah))) (aM 5) av (pV 5))))
  af))
@[reducible] noncomputable def gz:PS:=
  (ae (b8 (aL (pV 2)) (aM 3)
  (ae (bn (qE (p2 aj (pV 1) (pV 3)))
  (ae (au (pC (.bool true)))
  af)
  af)
  (ae (bn (cB (qE (p2 aj (pV 0) (pV 3))))
  (ae (au (pC (.bool false)))
  af)
  af)
  af)))
  (ae (au (pC (.bool false)))
  af))
@[reducible] noncomputable def bb:PS:=
  (ae (aw 3 (p2 aj (pV 0) (pC (.int 0))))
  (ae (aw 4 (p2 aC (pV 1) (pV 2)))
  (ae (bn (p2 bD (pV 3) (pC (.str (ofString "mark"))))
  (ae (au (ax (aL (pV 4)) (aM 6) av (pB (p2 bD (pV 6) (p2 aj (pV 0) (pC (.int 1)))))))
  af)
  af)
  (ae (bn (p2 bD (pV 3) (pC (.str (ofString "yes"))))
  (ae (au (ax (aL (pV 4)) (aM 7) av (pC (.bool true))))
  af)
  af)
  (ae (aw 5 (ax (aL (p3 bi (pV 0) (p1 bN (pC (.int 1))) fS)) (aM 8) av (am 46 (aa (pV 8) (aa (pV 1) (aa (pV 2) ah))))))
  (ae (bn (p2 bD (pV 3) (pC (.str (ofString "not"))))
  (ae (au (ax (aL (p2 aj (pV 5) (pC (.int 0)))) (aM 9) av (gF (pV 9))))
  af)
  af)
  (ae (bn (p2 bD (pV 3) (pC (.str (ofString "and"))))
  (ae (au (p2 (jx (·&&·)) (p2 aj (pV 5) (pC (.int 0))) (p2 aj (pV 5) (pC (.int 1)))))
  af)
  af)
  (ae (bn (p2 bD (pV 3) (pC (.str (ofString "or"))))
  (ae (au (p2 (jx (·||·)) (p2 aj (pV 5) (pC (.int 0))) (p2 aj (pV 5) (pC (.int 1)))))
  af)
  af)
  (ae (bn (p2 bD (pV 3) (pC (.str (ofString "next"))))
  (ae (au (ax (bG (aa (p1 aI (pV 4)) ah)) (aM 10) av (p2 aj (p2 aj (pV 5) (pC (.int 0))) (p2 aj (am 44 (aa (pV 1) (aa (pV 2) (aa (pV 10) ah)))) (pC (.int 1))))))
  af)
  af)
  (ae (bn (p2 bD (pV 3) (pC (.str (ofString "always"))))
  (ae (au (ax (bG (aa (p1 aI (pV 4)) ah)) (aM 11) av (pB (p2 eY (pC (.bool false)) (ax (aL (am 44 (aa (pV 1) (aa (pV 2) (aa (pV 11) ah))))) (aM 12) av (p2 aj (p2 aj (pV 5) (pC (.int 0))) (pV 12)))))))
  af)
  af)
  (ae (bn (p2 bD (pV 3) (pC (.str (ofString "again"))))
  (ae (au (ax (aL (pV 4)) (aM 13) av (pB (p2 fT (pC (.bool true)) (p3 bi (p2 aj (pV 5) (pC (.int 0))) (p1 bN (p1 aI (pV 1))) fS)))))
  af)
  af)
  (ae (au (ax (bG (aa (p1 aI (pV 4)) ah)) (aM 14) av (am 45 (aa (p2 aj (pV 5) (pC (.int 0))) (aa (p2 aj (pV 5) (pC (.int 1))) (aa (am 44 (aa (pV 1) (aa (pV 2) (aa (pV 14) ah)))) ah))))))
  af))))))))))))
@[reducible] noncomputable def gA:PS:=
  (ae (aw 3 (p2 aV (p2 jK (pV 0) (pC (.int 48271))) (pC (.int 1000003))))
  (ae (aw 4 (aW (aa (p2 aV (pV 2) (pV 1)) ah)))
  (ae (b8 (bG (aa (pC (.int 1)) (aa (pV 1) ah))) (aM 5)
  (ae (bn (p2 bD (p2 aV (pV 3) (pC (.int 3))) (pC (.int 1)))
  (ae (f6 4 df (p2 aV (p2 aC (pV 2) (pV 5)) (pV 1)))
  af)
  af)
  (ae (aw 3 (p2 cb (pV 3) (pC (.int 3))))
  af)))
  (ae (au (pV 4))
  af))))
@[reducible] noncomputable def dT:PS:=
  (ae (aw 4 (p2 aC (pC (.int 1)) (p2 aV (am 18 (aa (pV 0) (aa (pV 1) ah))) (pV 3))))
  (ae (aw 5 (p2 aC (pV 2) (aW (aa (pC (.str (ofString ""))) (aa (p2 aj (pV 2) (pC (.int 0))) (aa (p2 aj (pV 2) (pC (.int 1))) ah))))))
  (ae (aw 6 (aW ah))
  (ae (aw 7 (aW ah))
  (ae (b8 (bG (aa (pV 4) ah)) (aM 8)
  (ae (aw 9 (am 18 (aa (pV 0) (aa (pV 1) ah))))
  (ae (f6 6 df (p2 aj (pV 5) (p2 aV (pV 9) (pC (.int 6)))))
  (ae (f6 7 df (am 24 (aa (pV 9) (aa (pV 4) (aa (p2 cb (pV 9) (pC (.int 6))) ah)))))
  af))))
  (ae (aw 9 (am 18 (aa (pV 0) (aa (pV 1) ah))))
  (ae (bn (p2 bD (p2 aV (pV 9) (pC (.int 4))) (pC (.int 3)))
  (ae (au (az (aa (pV 6) (aa (pV 7) (aa (am 24 (aa (pV 9) (aa (pV 4) (aa (p2 cb (pV 9) (pC (.int 4))) ah)))) ah)))))
  af)
  af)
  (ae (au (az (aa (pV 6) (aa (pV 7) (aa (aW (aa (p2 aV (p2 cb (pV 9) (pC (.int 4))) (pV 4)) ah)) ah)))))
  af))))))))
@[reducible] noncomputable def bX:PS:=
  (ae (ew [4,5,6] (pV 0))
  (ae (b8 (aL (az (aa (pV 2) (aa (pV 3) ah)))) (aM 7)
  (ae (bn (cB (qE (p1 (dK .list) (pV 7))))
  (ae (au (pC (.bool false)))
  af)
  af)
  (ae (b8 (aL (pV 7)) (aM 8)
  (ae (bn (eJ (cB (qE (p1 (dK .int) (pV 8)))) (eJ (qE (p1 (dK .bool) (pV 8))) (eJ (cB (i9 AO tE (pC (.int 0)) (pV 8) (p1 aI (pV 4)))) bL)))
  (ae (au (pC (.bool false)))
  af)
  af)
  af))
  af)))
  (ae (bn (eJ (p2 bD (pV 3) (aW ah)) (eJ (p2 eY (p2 aj (p2 aC (pV 2) (pV 3)) (pC (.int 0))) (pV 6)) bL))
  (ae (au (pC (.bool false)))
  af)
  af)
  (ae (aw 9 (p2 aC (p2 aC (pV 2) (pV 3)) (p3 bi (pV 3) fS (p1 bN (pC (.int 1))))))
  (ae (bn (p2 fT (pC (.bool false)) (ax (bG (aa (p2 cA (p1 aI (pV 9)) (pC (.int 1))) ah)) (aM 10) av (pB (p2 fT (p2 aj (pV 9) (p2 aC (pV 10) (pC (.int 1)))) (p2 aj (pV 5) (p2 aj (pV 9) (pV 10)))))))
  (ae (au (pC (.bool false)))
  af)
  af)
  (ae (au (gF (p2 aj (am 46 (aa (pV 1) (aa (ax (aL (pV 2)) (aM 11) av (p2 aj (pV 4) (pV 11))) (aa (ax (aL (pV 3)) (aM 12) av (p2 aj (pV 4) (pV 12))) ah)))) (pC (.int 0)))))
  af))))))
@[reducible] noncomputable def cV:PS:=
  (ae (aw 2 (az (aa (pC (.str (ofString "mark"))) (aa (p2 aj (pV 1) (p2 aV (p2 cb (pV 0) (pC (.int 8))) (pC (.int 3)))) ah))))
  (ae (aw 3 (az (aa (pC (.str (ofString "mark"))) (aa (p2 aj (pV 1) (p2 aV (p2 aC (p2 aC (p2 cb (pV 0) (pC (.int 8))) (pC (.int 1))) (p2 aV (p2 cb (pV 0) (pC (.int 24))) (pC (.int 2)))) (pC (.int 3)))) ah))))
  (ae (aw 4 (az (aa (pC (.str (ofString "till"))) (aa (az (aa (pC (.str (ofString "yes"))) ah)) (aa (pV 3) ah)))))
  (ae (aw 5 (aW (aa (az (aa (pC (.str (ofString "again"))) (aa (pV 2) ah))) (aa (az (aa (pC (.str (ofString "not"))) (aa (az (aa (pC (.str (ofString "again"))) (aa (pV 2) ah))) ah))) (aa (az (aa (pC (.str (ofString "always"))) (aa (az (aa (pC (.str (ofString "or"))) (aa (az (aa (pC (.str (ofString "not"))) (aa (pV 2) ah))) (aa (pV 4) ah)))) ah))) (aa (az (aa (pC (.str (ofString "not"))) (aa (az (aa (pC (.str (ofString "always"))) (aa (pV 4) ah))) ah))) ah))))))
  (ae (aw 5 (p2 aC (pV 5) (aW (aa (az (aa (pC (.str (ofString "not"))) (aa (az (aa (pC (.str (ofString "always"))) (aa (az (aa (pC (.str (ofString "or"))) (aa (az (aa (pC (.str (ofString "not"))) (aa (pV 2) ah))) (aa (pV 4) ah)))) ah))) ah))) (aa (az (aa (pC (.str (ofString "or"))) (aa (az (aa (pC (.str (ofString "again"))) (aa (pV 2) ah))) (aa (az (aa (pC (.str (ofString "next"))) (aa (pV 3) ah))) ah)))) ah)))))
  (ae (au (p2 aj (p2 aC (pV 5) (aW (aa (az (aa (pC (.str (ofString "not"))) (aa (az (aa (pC (.str (ofString "and"))) (aa (az (aa (pC (.str (ofString "again"))) (aa (pV 2) ah))) (aa (pV 3) ah)))) ah))) (aa (az (aa (pC (.str (ofString "not"))) (aa (az (aa (pC (.str (ofString "till"))) (aa (az (aa (pC (.str (ofString "not"))) (aa (pV 2) ah))) (aa (pV 3) ah)))) ah))) ah)))) (p2 aV (pV 0) (pC (.int 8)))))
  af))))))
@[reducible] noncomputable def cG:PS:=
  (ae (ew [2,3,4] (pV 0))
  (ae (aw 5 (p1 aI (pV 2)))
  (ae (aw 6 (ax (bG (aa (pV 5) ah)) (aM 8) av (p2 aj (pV 2) (p2 aV (p2 aC (pV 8) (pV 1)) (pV 5)))))
  (ae (aw 7 (ax (bG (aa (pV 5) ah)) (aM 9) av (ax (aL (p2 aj (pV 3) (p2 aV (p2 aC (pV 9) (pV 1)) (pV 5)))) (aM 10) av (p2 aV (p2 cA (pV 10) (pV 1)) (pV 5)))))
  (ae (au (az (aa (pV 6) (aa (pV 7) (aa (ax (aL (pV 4)) (aM 11) av (p2 aV (p2 cA (pV 11) (pV 1)) (pV 5))) ah)))))
  af)))))
@[reducible] noncomputable def cr:PS:=
  (ae (ew [2,3,4] (pV 0))
  (ae (aw 5 (p1 aI (pV 2)))
  (ae (aw 6 (ax (aL (pV 3)) (aM 7) av (p2 aC (pV 7) (p2 fw (aW (aa (pV 5) ah)) (p1 ma (pB (p2 fT (pV 1) (pV 7))))))))
  (ae (f6 6 df (p1 eZ (p2 aj (pV 6) (pV 1))))
  (ae (au (az (aa (p2 aC (pV 2) (aW (aa (p2 aj (pV 2) (pV 1)) ah))) (aa (pV 6) (aa (p2 aC (pV 4) (p2 fw (aW (aa (pV 5) ah)) (p1 ma (pB (p2 fT (pV 1) (pV 4)))))) ah)))))
  af)))))
@[reducible] noncomputable def dt:PS:=
  (ae (ew [2,3,4] (pV 0))
  (ae (aw 5 (p2 aV (p2 cb (pV 1) (pC (.int 2))) (p1 aI (pV 2))))
  (ae (bn (ib (p2 bD (p2 aV (pV 1) (pC (.int 2))) (pC (.int 0))) (ib (p2 rQ (p1 aI (pV 4)) (pC (.int 1))) av))
  (ae (au (az (aa (pV 2) (aa (pV 3) (aa (p3 bi (pV 4) fS (p1 bN (pC (.int 1)))) ah)))))
  af)
  af)
  (ae (bn (p2 rQ (p1 aI (p2 aj (pV 3) (pV 5))) (pC (.int 1)))
  (ae (au (az (aa (pV 2) (aa (p2 aC (p2 aC (p3 bi (pV 3) fS (p1 bN (pV 5))) (aW (aa (p3 bi (p2 aj (pV 3) (pV 5)) (p1 bN (pC (.int 1))) fS) ah))) (p3 bi (pV 3) (p1 bN (p2 aC (pV 5) (pC (.int 1)))) fS)) (aa (pV 4) ah)))))
  af)
  af)
  (ae (au (pV 0))
  af)))))
@[reducible] noncomputable def tx:PS:=
  (ae (aw 2 (am 19 (aa (am 17 (aa (pV 0) (aa (pC (.int 0)) ah))) ah)))
  (ae (aw 3 (am 25 (aa (pV 0) (aa (pV 1) (aa (pV 2) (aa (pC (.int 3)) ah))))))
  (ae (aw 4 (am 23 (aa (am 20 (aa (pV 0) (aa (pV 1) (aa (pV 2) (aa (pC (.int 4)) ah))))) (aa (pC (.int 2)) ah))))
  (ae (aw 5 (am 18 (aa (pV 0) (aa (pV 1) ah))))
  (ae (bn (p2 bD (p2 aV (pV 5) (pC (.int 3))) (pC (.int 0)))
  (ae (aw 4 (am 47 (aa (p2 cb (pV 5) (pC (.int 3))) (aa (pV 2) ah))))
  af)
  af)
  (ae (aw 5 (am 17 (aa (pV 0) (aa (pC (.int 1)) ah))))
  (ae (aw 6 (aW (aa (am 64 (aa (pV 3) (aa (pV 5) ah))) (aa (am 65 (aa (pV 3) (aa (p2 aV (p2 cb (pV 5) (pC (.int 3))) (p1 aI (p2 aj (pV 3) (pC (.int 0))))) ah))) (aa (am 66 (aa (pV 3) (aa (p2 cb (pV 5) (pC (.int 9))) ah))) ah)))))
  (ae (aw 7 (ax (aL (p2 aC (aW (aa (pV 3) ah)) (pV 6))) (aM 15) av (uE 0 1006 (aa (p2 aj (pV 15) (pC (.int 0))) (aa (p2 aj (pV 15) (pC (.int 1))) (aa (p2 aj (pV 15) (pC (.int 2))) ah))))))
  (ae (aw 8 (ax (aL (pV 7)) (aM 16) av (am 43 (aa (pV 16) (aa (pV 4) ah)))))
  (ae (bn (eJ (p2 j8 (p2 aj (p2 aj (pV 8) (pC (.int 1))) (pC (.int 0))) (p2 aj (p2 aj (pV 8) (pC (.int 0))) (pC (.int 0)))) (eJ (p2 j8 (p2 aj (p2 aj (pV 8) (pC (.int 2))) (pC (.int 0))) (p2 aj (p2 aj (pV 8) (pC (.int 0))) (pC (.int 0)))) bL))
  (ae (au (pC (.bool false)))
  af)
  af)
  (ae (aw 9 (p2 aj (pV 8) (pC (.int 3))))
  (ae (bn (ib (p2 bD (p2 aj (pV 9) (pC (.int 0))) (pC (.str (ofString "breaks")))) (ib (p2 bD (p2 aj (p2 aj (pV 8) (pC (.int 0))) (pC (.int 0))) (pC (.str (ofString "keeps")))) av))
  (ae (au (pC (.bool false)))
  af)
  af)
  (ae (bn (ib (p2 bD (p2 aj (pV 9) (pC (.int 0))) (pC (.str (ofString "breaks")))) (ib (cB (qE (am 49 (aa (pV 3) (aa (pV 4) (aa (p2 aj (pV 9) (pC (.int 1))) (aa (p2 aj (pV 9) (pC (.int 2))) ah))))))) av))
  (ae (au (pC (.bool false)))
  af)
  af)
  (ae (b8 (kb (p2 aC (aW (aa (pV 3) ah)) (pV 6))) (vn 10 11)
  (ae (bn (p2 bD (p2 aj (p2 aj (pV 8) (pV 10)) (pC (.int 0))) (pC (.str (ofString "breaks"))))
  (ae (ew [12,13] (p3 bi (p2 aj (pV 8) (pV 10)) (p1 bN (pC (.int 1))) fS))
  (ae (aw 14 (ax (aL (az (aa (pV 12) (aa (pV 13) ah)))) (aM 17) av (ax (aL (pV 17)) (aM 18) av (p2 aj (p2 aj (pV 11) (pC (.int 0))) (pV 18)))))
  (ae (bn (eJ (qE (am 56 (aa (pV 4) (aa (p2 aj (pV 14) (pC (.int 0))) (aa (p2 aj (pV 14) (pC (.int 1))) ah))))) (eJ (cB (qE (am 49 (aa (pV 11) (aa (pV 4) (aa (pV 12) (aa (pV 13) ah))))))) bL))
  (ae (au (pC (.bool false)))
  af)
  af)
  (ae (bn (p2 bD (pU 0 1008 (p2 aj (pV 7) (pV 10)) (aa (yW (p2 j8 (pV 12) (aW ah)) (p2 aj (pV 12) (pC (.int 0))) (p2 aj (pV 13) (pC (.int 0)))) ah)) (aW ah))
  (ae (au (pC (.bool false)))
  af)
  af)
  af))))
  af)
  af))
  (ae (au (pB (p2 bD (am 43 (aa (p2 aj (pV 7) (pC (.int 0))) (aa (pV 4) ah))) (p2 aj (pV 8) (pC (.int 0))))))
  af)))))))))))))))
@[reducible] noncomputable def cO:PS:=
  (ae (bn (eJ (cB (qE (p1 (dK .list) (pV 1)))) (eJ (cB (i9 AO AO (pC (.int 1)) (p1 aI (pV 1)) (pC (.int 12)))) bL))
  (ae hU
  af)
  af)
  (ae (bn (cB (qE (p1 ju (ax (aL (pV 1)) (aM 5) av (am 1 (aa (pV 5) ah))))))
  (ae hU
  af)
  af)
  (ae (bn (eJ (cB (qE (p1 (dK .list) (pV 2)))) (eJ (p2 j8 (p1 aI (pV 2)) (p1 aI (pV 1))) bL))
  (ae hU
  af)
  af)
  (ae (b8 (aL (pV 2)) (aM 4)
  (ae (lg (am 16 (aa (pV 4) (aa (p1 aI (pV 1)) ah))))
  af))
  (ae (lg (am 16 (aa (pV 3) (aa (p1 aI (pV 1)) ah))))
  (ae (sk 0 0 (p1 eZ (pV 1)))
  (ae (sk 0 1 (ax (aL (pV 2)) (aM 6) av (p1 eZ (pV 6))))
  (ae (sk 0 2 (p1 eZ (pV 3)))
  af))))))))
@[reducible] noncomputable def dX:PS:=
  (ae (au (p2 aj (eP 0 0) (pV 1)))
  af)
@[reducible] noncomputable def dA:PS:=
  (ae (au (p1 eZ (p2 aj (eP 0 1) (pV 1))))
  af)
@[reducible] noncomputable def de:PS:=
  (ae (au (p1 eZ (eP 0 2)))
  af)
@[reducible] noncomputable def dW:PS:=
  (ae (lg (am 7 (aa (pV 2) ah)))
  (ae (sk 10 0 (am 500 (aa (pV 2) ah)))
  (ae (sk 10 1 (am 13 (aa (pV 2) ah)))
  (ae (sk 10 2 (pV 1))
  (ae (sk 10 3 uF)
  (ae (sk 10 4 (aW ah))
  (ae (b8 (aL (pU 0 1009 (pV 1) ah)) (aM 3)
  (ae (b8 (aL (am 8 (aa (eP 10 0) ah))) (aM 4)
  (ae (bn (cB (qE (am 10 (aa (pV 2) (aa (pU 0 1007 (pV 1) (aa (pV 3) ah)) (aa (eP 10 0) (aa (pV 4) ah)))))))
  (ae (qz 10 4 (az (aa (pV 3) (aa (pV 4) ah))))
  af)
  af)
  af))
  af))
  (ae (sk 10 5 (p1 aI (oX 10 4)))
  (ae (sk 10 6 uF)
  (ae (lg (su 10 1002 ah))
  af))))))))))
@[reducible] noncomputable def iC:PS:=
  (ae (aw 1 (p1 qR (oY 10 4 (aM 5) (az (aa (pV 5) (aa (pC (.bool true)) ah))))))
  (ae (aw 2 (pC (.int 0)))
  (ae (fj 400 (p2 tE (pV 2) (p1 aI (oX 10 4)))
  (ae (aw 3 (Bs 10 4 aj (pV 2)))
  (ae (qy 10 6 (pV 3) (su 10 1003 (aa (pV 3) ah)))
  (ae (b8 (aL (Bs 10 6 idxD (pV 3))) (aM 4)
  (ae (bn (p2 dY (pV 4) (pV 1))
  (ae (s6 1 dS (pV 4) (pC (.bool true)))
  (ae (qz 10 4 (pV 4))
  af))
  af)
  af))
  (ae (aw 2 (p2 aC (pV 2) (pC (.int 1))))
  af)))))
  af)))
@[reducible] noncomputable def fG:PS:=
  (ae (aw 2 (az (aa (pU 0 1007 (eP 10 2) (aa (p2 aj (pV 1) (pC (.int 0))) ah)) (aa (p2 aj (pV 1) (pC (.int 1))) ah))))
  (ae (aw 3 (aW ah))
  (ae (b8 (aL (pU 0 1008 (eP 10 2) (aa (p2 aj (pV 1) (pC (.int 0))) ah))) (aM 4)
  (ae (f6 3 ii (ax (aL (su 10 1004 (aa (pV 2) (aa (pU 0 1007 (eP 10 2) (aa (pV 4) ah)) ah)))) (aM 5) av (az (aa (pV 4) (aa (pV 5) ah)))))
  af))
  (ae (au (pV 3))
  af))))
@[reducible] noncomputable def cu:PS:=
  (ae (bn (p2 dY (az (aa (pV 1) (aa (pV 2) ah))) (oX 10 3))
  (ae (aw 3 (ax (aL (am 8 (aa (eP 10 0) ah))) (aM 4) (qE (am 12 (aa (eP 10 0) (aa (pV 1) (aa (az (aa (pV 2) (aa (pV 4) ah))) ah))))) (pV 4)))
  (ae (qy 10 3 (az (aa (pV 1) (aa (pV 2) ah))) (pV 3))
  af))
  af)
  (ae (au (Bs 10 3 idxD (az (aa (pV 1) (aa (pV 2) ah)))))
  af))
@[reducible] noncomputable def gE:PS:=
  (ae (au (am 14 (aa (p2 aj (eP 10 1) (pV 2)) (aa (pU 0 1007 (eP 10 2) (aa (p2 aj (pV 1) (pC (.int 0))) ah)) (aa (eP 10 0) (aa (p2 aj (pV 1) (pC (.int 1))) ah))))))
  af)
noncomputable def rows:List (Nat×fY):=[(1,⟨1,1,jG⟩),
 (2,⟨1,0,iw⟩),
 (3,⟨1,0,iy⟩),
 (4,⟨2,1,gv⟩),
 (5,⟨1,0,gw⟩),
 (6,⟨1,1,gu⟩),
 (500,⟨1,4,iz⟩),
 (7,⟨1,0,eM⟩),
 (15,⟨2,0,ix⟩),
 (16,⟨2,2,eN⟩),
 (8,⟨1,4,eO⟩),
 (9,⟨3,0,jH⟩),
 (10,⟨4,1,oV⟩),
 (11,⟨4,0,lQ⟩),
 (12,⟨3,1,jI⟩),
 (13,⟨1,1,eK⟩),
 (14,⟨4,0,lT⟩),
 (34,⟨1,7,fy⟩),
 (35,⟨1,4,ui⟩),
 (36,⟨1,7,gx⟩),
 (37,⟨2,0,fB⟩),
 (38,⟨2,2,oU⟩),
 (39,⟨3,5,jF⟩),
 (40,⟨2,1,gt⟩),
 (41,⟨2,6,jE⟩),
 (42,⟨2,3,gy⟩),
 (43,⟨2,7,lS⟩),
 (53,⟨3,4,gr⟩),
 (54,⟨3,9,eL⟩),
 (55,⟨3,0,lR⟩),
 (56,⟨3,0,oW⟩),
 (17,⟨2,0,dU⟩),
 (18,⟨2,1,gD⟩),
 (19,⟨1,9,fC⟩),
 (20,⟨4,5,gB⟩),
 (21,⟨1,2,iB⟩),
 (22,⟨1,4,fE⟩),
 (23,⟨2,0,iA⟩),
 (44,⟨3,3,fF⟩),
 (45,⟨3,1,gz⟩),
 (46,⟨3,12,bb⟩),
 (24,⟨3,3,gA⟩),
 (25,⟨4,6,dT⟩),
 (49,⟨4,9,bX⟩),
 (47,⟨2,4,cV⟩),
 (64,⟨2,10,cG⟩),
 (65,⟨2,6,cr⟩),
 (66,⟨2,4,dt⟩),
 (999,⟨1,18,hU⟩),
 (1006,⟨4,3,cO⟩),
 (1007,⟨2,0,dX⟩),
 (1008,⟨2,0,dA⟩),
 (1009,⟨1,0,de⟩),
 (1001,⟨3,2,dW⟩),
 (1002,⟨1,5,iC⟩),
 (1003,⟨2,4,fG⟩),
 (1004,⟨3,2,cu⟩),
 (1005,⟨3,0,gE⟩)]
noncomputable def Ψ (f:Nat):Option fY:=(rows.find? fun r=>Nat.beq r.1 f).map (·.2)
end
end Mine.L10
end
section
set_option maxRecDepth 100000
set_option maxHeartbeats 4000000
namespace Mine.L10
noncomputable section
open PySem PySem.W PyProof.Rows
noncomputable def ke:List FI:=[(1,bA PySem.Challenge.pw_uf020006_10 10,(ofString "is_mark"),true,[lo "thing"],[1],100001000010000100000000000000000000),
 (2,bA PySem.Challenge.pw_uf020006_10 11,(ofString "parts_of"),true,[lo "saying"],[],0),
 (3,bA PySem.Challenge.pw_uf020006_10 12,(ofString "has_form"),true,[lo "thing"],[],0),
 (4,bA PySem.Challenge.pw_uf020006_10 13,(ofString "is_within"),true,[lo "thing",ce "deep"],[2],200000000000000000000),
 (5,bA PySem.Challenge.pw_uf020006_10 14,(ofString "is_saying"),true,[lo "thing"],[],0),
 (6,bA PySem.Challenge.pw_uf020006_10 15,(ofString "own_bonds"),true,[lo "saying",lo "ahead"],[],0),
 (500,bA PySem.Challenge.pw_uf020006_10 16,(ofString "bonds_in"),true,[lo "saying",ce "found",lo "part"],[3,4],4000010000000000000000000000003000010000000000000000000100000),
 (7,bA PySem.Challenge.pw_uf020006_10 17,(ofString "need_saying"),true,[lo "saying"],[],0),
 (15,bA PySem.Challenge.pw_uf020006_10 20,(ofString "is_place"),true,[lo "thing",lo "many"],[],0),
 (16,bA PySem.Challenge.pw_uf020006_10 21,(ofString "need_places"),true,[lo "thing",lo "many",lo "at",lo "place"],[],0),
 (8,bA PySem.Challenge.pw_uf020006_10 24,(ofString "all_guesses"),true,[lo "bonds",lo "found",lo "bond"],[3,4],40000000003000000000000000000000000000000),
 (9,bA PySem.Challenge.pw_uf020006_10 25,(ofString "guessed"),true,[lo "bond",lo "bonds",lo "guess"],[],0),
 (10,bA PySem.Challenge.pw_uf020006_10 26,(ofString "is_so"),true,[lo "saying",lo "mark",lo "bonds",lo "guess",lo "word"],[],0),
 (11,bA PySem.Challenge.pw_uf020006_10 27,(ofString "wanted"),true,[lo "bond",lo "bonds",lo "now",lo "then"],[],0),
 (12,bA PySem.Challenge.pw_uf020006_10 28,(ofString "goes_on"),true,[lo "bonds",lo "now",lo "then",lo "bond"],[],0),
 (13,bA PySem.Challenge.pw_uf020006_10 29,(ofString "promises_of"),true,[lo "saying"],[1],100000),
 (14,bA PySem.Challenge.pw_uf020006_10 30,(ofString "is_met"),true,[lo "promise",lo "mark",lo "bonds",lo "guess"],[],0),
 (34,bA PySem.Challenge.pw_uf020006_10 34,(ofString "left_order"),true,[lo "web",lo "found",lo "met",lo "start",lo "stack",lo "knot",lo "at",lo "other"],[],20000000000000000000500000000000000000000000010000000001000000000100000000010000000000000000000100000000000000100000000010000000000000002000000000000010000000001000000000100000000000000000001000000000100000),
 (35,bA PySem.Challenge.pw_uf020006_10 35,(ofString "led_from"),true,[lo "web",lo "found",lo "knot",lo "other"],[4],0),
 (36,bA PySem.Challenge.pw_uf020006_10 36,(ofString "clumps_of"),true,[lo "web",lo "backs",lo "met",lo "found",lo "start",lo "clump",lo "at",lo "other"],[],400000000000000000001000000000600000000000000000000000000000000001000000000100000000010000000000000010000000000004000000000000000000000100000000010000000001000000000000000000010000000001000000000000000),
 (37,bA PySem.Challenge.pw_uf020006_10 37,(ofString "goes_round"),true,[lo "web",lo "clump"],[],1000000000000000),
 (38,bA PySem.Challenge.pw_uf020006_10 38,(ofString "unmet"),true,[ce "web",lo "clump",ce "number"],[3],3000000000000000),
 (39,bA PySem.Challenge.pw_uf020006_10 39,(ofString "path_to"),true,[lo "web",lo "starts",lo "goals",lo "came",lo "waiting",lo "here",lo "other"],[7],10000000001000000000100000000010000000000000000000000004000000000000003000000040000000000010000000000000070000100000),
 (40,bA PySem.Challenge.pw_uf020006_10 40,(ofString "path_back"),true,[lo "came",lo "knot",lo "found"],[],10000000000000010000000400000000000100000),
 (41,bA PySem.Challenge.pw_uf020006_10 41,(ofString "ring_in"),true,[ce "web",ce "clump",lo "found",ce "number",lo "goals",lo "behind"],[6,7],1000000000700000000020000000000000000000000000000060000000002000000000000000000000000000000),
 (42,bA PySem.Challenge.pw_uf020006_10 42,(ofString "broken_by"),true,[lo "web",lo "clump",lo "way"],[3,4],4000000000000003000000000000000),
 (43,bA PySem.Challenge.pw_uf020006_10 43,(ofString "judged"),true,[lo "machine",lo "saying",lo "web",ce "clumps",lo "rows",ce "at",lo "clump",ce "number"],[8],5000000000000000000000000800001000000000000000000000000000000000000000000000000000000000000000010000000000000000000000000),
 (53,bA PySem.Challenge.pw_uf020006_10 45,(ofString "till_over"),true,[lo "ones",lo "others",lo "begin",lo "found",lo "turn",lo "at",lo "behind"],[],4000000000000000000000000000000000000000000000000010000000000000000000100000),
 (54,bA PySem.Challenge.pw_uf020006_10 46,(ofString "over"),true,[ce "saying",ce "marks",ce "begin",lo "word",lo "rows",lo "never"],[6,7,8,9,10,11],110000000000000000001000000000000000000000000000000000000000000000000000000000000000000000000000000000000000000000000000000000000000000000000000000000000000000009000000000000000000080000000002000000000000000000070000000000000000000000000000060000000000000000000000000),
 (55,bA PySem.Challenge.pw_uf020006_10 47,(ofString "row_of"),true,[lo "saying",lo "way",lo "ring"],[],0),
 (56,bA PySem.Challenge.pw_uf020006_10 48,(ofString "holds"),true,[lo "saying",lo "way",lo "ring"],[],0),
 (17,bA PySem.Challenge.pw_uf020006_10 50,(ofString "_law_cell_at"),true,[lo "_law_script",lo "_law_k"],[],0),
 (18,bA PySem.Challenge.pw_uf020006_10 51,(ofString "_law_draw"),true,[lo "_law_script",lo "_law_spot",lo "_law_k"],[],0),
 (19,bA PySem.Challenge.pw_uf020006_10 52,(ofString "_law_names"),true,[ce "_law_cell",ce "_law_letters",ce "_law_rest",ce "_law_size",lo "_law_at",lo "_law_found",lo "_law_k",lo "_law_letter"],[8,9],600000000010000000000000000000000000000000000100000000000000000000000000000000000000090000000000000000000000000000000000800000000000000000000),
 (20,bA PySem.Challenge.pw_uf020006_10 53,(ofString "_law_made"),true,[lo "_law_script",lo "_law_spot",lo "_law_names_here",lo "_law_deep",lo "_law_cell",lo "_law_more",lo "_law_kinds",lo "_law_kind",lo "_law_one"],[],0),
 (21,bA PySem.Challenge.pw_uf020006_10 54,(ofString "_law_all"),true,[lo "_law_saying",lo "_law_found",lo "_law_part"],[],0),
 (22,bA PySem.Challenge.pw_uf020006_10 55,(ofString "_law_bonds"),true,[lo "_law_saying",ce "_law_found",lo "_law_one",lo "_law_more"],[4],40000000000000000000000000000000000000000000000000000000000000000000000000000000000000000000000000000000000000000000),
 (23,bA PySem.Challenge.pw_uf020006_10 56,(ofString "_law_fit"),true,[lo "_law_saying",lo "_law_most"],[],4000000),
 (44,bA PySem.Challenge.pw_uf020006_10 57,(ofString "_law_after"),true,[lo "_law_way",lo "_law_ring",lo "_law_at",lo "_law_size"],[4,5],50000000004000000000000000),
 (45,bA PySem.Challenge.pw_uf020006_10 58,(ofString "_law_till"),true,[lo "_law_ones",lo "_law_others",lo "_law_moments",lo "_law_k"],[],0),
 (46,bA PySem.Challenge.pw_uf020006_10 59,(ofString "_law_means"),true,[ce "_law_saying",ce "_law_way",ce "_law_ring",lo "_law_word",lo "_law_run",ce "_law_rows"],[6,7,8,9,10,11,12,13,14],140000000000000000000000000000130000000000000000000000000000000001200000000000001100000000000000000000000000000000000000100000000000000000000000000000000000000000000000000000000000000000000000000000000900000000000000000008000000000000000000000000700000000000000000000000000000600000000000000000000000000000000000),
 (24,bA PySem.Challenge.pw_uf020006_10 60,(ofString "_law_some"),true,[lo "_law_cell",lo "_law_many",lo "_law_first",lo "_law_rest",lo "_law_found",lo "_law_k"],[],50000000000000000000000000000010000000000000000000000001000000000000000),
 (25,bA PySem.Challenge.pw_uf020006_10 61,(ofString "_law_machine"),true,[lo "_law_script",lo "_law_spot",lo "_law_names_here",lo "_law_most",lo "_law_many",lo "_law_some_here",lo "_law_marks",lo "_law_ways",lo "_law_k",lo "_law_cell"],[],700008000000000000007000080000000000000000000000001000000000000001000000000000000000000000000001000000000100000000000000000000000000000000000),
 (49,bA PySem.Challenge.pw_uf020006_10 62,(ofString "_law_walk_breaks"),true,[lo "_law_drawn",lo "_law_saying",lo "_law_way",lo "_law_ring",ce "_law_marks",ce "_law_ways",lo "_law_begins",lo "_law_row",lo "_law_place",ce "_law_whole"],[10,11,12],12000000000000011000000000000000000000000000000000000000000000000100000000000000000000000000000000000000000000000000000000000000000000000000000000000000000000000000000000000000100000),
 (47,bA PySem.Challenge.pw_uf020006_10 63,(ofString "_law_often"),true,[lo "_law_cell",lo "_law_names_here",lo "_law_one",lo "_law_other",lo "_law_ever",lo "_law_some_here"],[],0),
 (64,bA PySem.Challenge.pw_uf020006_10 64,(ofString "_law_turned"),true,[lo "_law_drawn",ce "_law_by",ce "_law_marks",ce "_law_ways",lo "_law_begins",ce "_law_many",lo "_law_others",lo "_law_rows"],[8,9,10,11],1100000000000000000010000000000900000000020000000000000000000800000000020000000000000000000100000),
 (65,bA PySem.Challenge.pw_uf020006_10 65,(ofString "_law_doubled"),true,[lo "_law_drawn",ce "_law_at",lo "_law_marks",lo "_law_ways",lo "_law_begins",ce "_law_new",lo "_law_rows"],[7],700000000010000000000000000000700001000020000000000000000000100000),
 (66,bA PySem.Challenge.pw_uf020006_10 66,(ofString "_law_less"),true,[lo "_law_drawn",lo "_law_cell",lo "_law_marks",lo "_law_ways",lo "_law_begins",lo "_law_at"],[],100000),
 (999,bA PySem.Challenge.pw_uf020006_10 67,(ofString "law"),true,[lo "_law_script",lo "_law_spot",lo "_law_names_here",lo "_law_drawn",ce "_law_saying",lo "_law_cell",lo "_law_others",lo "_law_machines",lo "_law_told",lo "_law_less_here",lo "_law_k",ce "_law_one",lo "_law_way",lo "_law_ring",lo "_law_marks"],[15,16,17,18],0),
 (1006,o6 PySem.Challenge.pw_uf020006_10 22 0,(ofString "__init__"),false,[lo "self",lo "marks",lo "ways",lo "begins",lo "row"],[5,6],60000000000000000000000000000000000000000000000000000000000000000000000000000000500000000000000000000),
 (1007,o6 PySem.Challenge.pw_uf020006_10 22 1,(ofString "mark"),false,[lo "self",lo "place"],[],0),
 (1008,o6 PySem.Challenge.pw_uf020006_10 22 2,(ofString "leads"),false,[lo "self",lo "place"],[],0),
 (1009,o6 PySem.Challenge.pw_uf020006_10 22 3,(ofString "starts"),false,[lo "self"],[],0),
 (1001,o6 PySem.Challenge.pw_uf020006_10 32 0,(ofString "__init__"),false,[lo "self",lo "machine",lo "saying",lo "place",lo "guess"],[],100000000000000000000000000000000000000000000000000000000000000000),
 (1002,o6 PySem.Challenge.pw_uf020006_10 32 1,(ofString "spin"),false,[lo "self",lo "met",lo "at",lo "knot",lo "other"],[5],100000000010000000001000000000100000000000000000000000000000000400000000000000000000050000100000),
 (1003,o6 PySem.Challenge.pw_uf020006_10 32 2,(ofString "led_to"),false,[lo "self",lo "knot",lo "now",lo "found",ce "place"],[5],40000000000000050000100000000000000000000000010000000000000000000000000),
 (1004,o6 PySem.Challenge.pw_uf020006_10 32 3,(ofString "guesses_behind"),false,[ce "self",ce "now",ce "mark",lo "some"],[4],10000000000000000000000000000040000000002000000000100000),
 (1005,o6 PySem.Challenge.pw_uf020006_10 32 4,(ofString "meets"),false,[lo "self",lo "knot",lo "number"],[],0)]
noncomputable def vw:LT:=([((ofString "is_mark"),1),((ofString "parts_of"),2),((ofString "has_form"),3),((ofString "is_within"),4),((ofString "is_saying"),5),((ofString "own_bonds"),6),((ofString "bonds_in"),500),((ofString "need_saying"),7),((ofString "is_place"),15),((ofString "need_places"),16),((ofString "all_guesses"),8),((ofString "guessed"),9),((ofString "is_so"),10),((ofString "wanted"),11),((ofString "goes_on"),12),((ofString "promises_of"),13),((ofString "is_met"),14),((ofString "left_order"),34),((ofString "led_from"),35),((ofString "clumps_of"),36),((ofString "goes_round"),37),((ofString "unmet"),38),((ofString "path_to"),39),((ofString "path_back"),40),((ofString "ring_in"),41),((ofString "broken_by"),42),((ofString "judged"),43),((ofString "till_over"),53),((ofString "over"),54),((ofString "row_of"),55),((ofString "holds"),56),((ofString "_law_cell_at"),17),((ofString "_law_draw"),18),((ofString "_law_names"),19),((ofString "_law_made"),20),((ofString "_law_all"),21),((ofString "_law_bonds"),22),((ofString "_law_fit"),23),((ofString "_law_after"),44),((ofString "_law_till"),45),((ofString "_law_means"),46),((ofString "_law_some"),24),((ofString "_law_machine"),25),((ofString "_law_walk_breaks"),49),((ofString "_law_often"),47),((ofString "_law_turned"),64),((ofString "_law_doubled"),65),((ofString "_law_less"),66)],
 [((ofString "__init__"),1006),((ofString "mark"),1007),((ofString "leads"),1008),((ofString "starts"),1009)],[((ofString "__init__"),1001),((ofString "spin"),1002),((ofString "led_to"),1003),((ofString "guesses_behind"),1004),((ofString "meets"),1005)],
 [((ofString "LETTERS"),.str (ofString "abcdefghijklmnopqrstuvwxyz")),((ofString "MOST_BONDS"),.int 4),((ofString "MOST_DEEP"),.int 5),((ofString "MOST_LETTERS"),.int 6),((ofString "MOST_PLACES"),.int 12)])
noncomputable def ks:List Nat:=rows.map (·.1)
theorem F8:pR q Ψ ks ke vw:=⟨by kernel_rfl,fun _ _ _ _ _=>by kernel_rfl,fun _ _ _ _ _ _=>by kernel_rfl,fun _ _ _ _ _ _ _=>by kernel_rfl,fun _ _ _ _ _ _ _ _=>by kernel_rfl,fun _ _ _ _ _ _ _ _ _=>by kernel_rfl,by kernel_rfl,fun b=>by cases b<;>kernel_rfl,by kernel_rfl,fun b=>by cases b<;>kernel_rfl,fun b=>by cases b<;>kernel_rfl,by kernel_rfl⟩
theorem yM (P:Pg)(D:fR P vw):ks.map (C1 D ke)=ks.map (C9 Ψ):=by kernel_rfl
theorem zw (P:Pg)(D:fR P vw)(F:fY)(e:Ψ 35=some F):yi P ke 35 F.body:=by
 have h:F.body=ui:=congrArg fY.body (Option.some.inj e.symm)
 rw [h]
 exact ⟨⟨[],[4],false⟩,BN (D.o false) (by decide+kernel) rfl rfl rfl rfl rfl rfl rfl (.inl rfl) (.inl rfl) (.inl rfl) (by decide+kernel) (by decide+kernel) rf rfl rf⟩
theorem BS (P:Pg)(D:fR P vw):(CZ D 60 ⟨rO ke 999,il ke 999⟩ ⟨[],lk ke 999,false⟩ false (sW ke 999).tail 18000000001700000000020000000000000010000000000000000000000000000000000000000000000000000000000000000000000000000000000000000000000000000000000000000000000000000000000000000000000000000000000000000000160000000002000000000000000000000000000015000000000200000000000000000000000000000000000000000000000000000000000000000000000000000000000000000000000).map (·.1.2.1)=some tx:=by kernel_rfl
theorem Ac {mean:ExcName→Option Value}{mg mb:Str→Option Value}{h:Heap}(T:Top q (looseW q []) mean mg mb h)(P:Pg):∀p∈vw.2.2.2,∃u,mg p.1=some u∧∀g h,Rp P g h p.2 u:=all_cons (u6 T (by kernel_rfl) (by decide+kernel)) (all_cons (hE T (by kernel_rfl)) (all_cons (hE T (by kernel_rfl)) (all_cons (hE T (by kernel_rfl)) (all_cons (hE T (by kernel_rfl)) (fun _ h=>nomatch h)))))
theorem Fk:PySem.Challenge.rw_uf020006_10.wellSaid=true:=by kernel_rfl
theorem G2:(chainsOk q&&opensWell PySem.Challenge.rw_uf020006_10.row.prog&&(frees PySem.Challenge.rw_uf020006_10.row.toRowW&&PySem.Challenge.rw_uf020006_10.row.within.isEmpty))=true:=by kernel_rfl
end
end Mine.L10
end
section
set_option tactic.hygienic false
namespace Mine.Ltl
noncomputable section
open PySem
inductive Sy where
 |mark (x:Str)
 |yes
 |not (a:Sy)
 |and (a c:Sy)
 |or (a c:Sy)
 |next (a:Sy)
 |till (a c:Sy)
 |always (a:Sy)
 |again (a:Sy)
noncomputable instance:DecidableEq Sy:=fun a b=>Classical.propDecidable (a=b)
noncomputable def nx (n b i:Nat):Nat:=if i+1=n then b else i+1
noncomputable def U (n b:Nat)(p q:Nat→Bool):Nat→Nat→Bool
 | 0,_=>false
 |k+1,i=>q i||(p i&&U n b p q k (nx n b i))
noncomputable def it (n b:Nat):Nat→Nat→Nat
 | 0,i=>i
 |t+1,i=>it n b t (nx n b i)
theorem rH {n b:Nat}{p q:Nat→Bool}:∀{k i:Nat},U n b p q k i=true↔∃t,t < k∧q (it n b t i)=true∧∀u,u < t→p (it n b u i)=true
 | 0,i=>by simp [U]
 |k+1,i=>by
  rw [U,Bool.or_eq_true,Bool.and_eq_true,rH]
  constructor
  ·rintro (h | ⟨h,t,h1,h2,h3⟩)
   ·exact ⟨0,by lia,h,fun u hu=>by lia⟩
   ·refine ⟨t+1,by lia,h2,fun u hu=>?_⟩
    cases u with
    |zero=>exact h
    |succ u=>exact h3 u (by lia)
  ·rintro ⟨t,h1,h2,h3⟩
   cases t with
   |zero=>exact .inl h2
   |succ t=>exact .inr ⟨h3 0 (by lia),t,by lia,h2,fun u hu=>h3 (u+1) (by lia)⟩
theorem AK {n b i:Nat}(hb:b < n)(hi:i < n):nx n b i < n:=by
 unfold nx;split<;>lia
theorem dZ {n b:Nat}:∀(s t i:Nat),it n b (s+t) i=it n b t (it n b s i)
 | 0,t,i=>by simp [it]
 |s+1,t,i=>by rw [show s+1+t=(s+t)+1 by lia,it,it,dZ s t]
theorem sC {n b:Nat}(hb:b < n):∀(t i:Nat),i+t≤b→it n b t i=i+t
 | 0,i,_=>rfl
 |t+1,i,h=>by
  rw [it,show nx n b i=i+1 by unfold nx;rw [if_neg (by lia)],sC hb t (i+1) (by lia)];lia
theorem dJ {n b:Nat}(hb:b < n):∀(t r:Nat),r < n - b→it n b t (b+r)=b+(r+t) % (n - b)
 | 0,r,h=>by simp [it,Nat.mod_eq_of_lt h]
 |t+1,r,h=>by
  rw [it]
  by_cases e:b+r+1=n
  ·rw [show nx n b (b+r)=b+0 by unfold nx;rw [if_pos e];rfl,dJ hb t 0 (Nat.sub_pos_of_lt hb)]
   have:r+(t+1)=(0+t)+(n - b):=by lia
   rw [this,Nat.add_mod_right]
  ·rw [show nx n b (b+r)=b+(r+1) by unfold nx;rw [if_neg e];rfl,dJ hb t (r+1) (by lia)]
   rw [Nat.add_assoc,Nat.add_comm 1 t]
theorem uR {n b:Nat}(hb:b < n){i t:Nat}(hi:i < n)(ht:b - i≤t):it n b (t+(n - b)) i=it n b t i:=by
 by_cases h:b≤i
 ·obtain ⟨r,rfl⟩:=Nat.exists_eq_add_of_le h
  rw [dJ hb _ r (by lia),dJ hb _ r (by lia),←Nat.add_assoc,Nat.add_mod_right]
 ·have e:it n b (b - i) i=b+0:=by rw [sC hb _ _ (by lia)];lia
  obtain ⟨u,rfl⟩:=Nat.exists_eq_add_of_le ht
  have e1:it n b (b - i+u) i=it n b u (b+0):=by rw [dZ,e]
  have e2:it n b (b - i+u+(n - b)) i=it n b (u+(n - b)) (b+0):=by rw [Nat.add_assoc,dZ,e]
  rw [e1,e2,dJ hb _ 0 (Nat.sub_pos_of_lt hb),dJ hb _ 0 (Nat.sub_pos_of_lt hb),←Nat.add_assoc,Nat.add_mod_right]
theorem yg {n b:Nat}{p q:Nat→Bool}{k k' i:Nat}(h:k≤k')(hu:U n b p q k i=true):U n b p q k' i=true:=by
 rw [rH] at hu ⊢
 obtain ⟨t,h1,h2⟩:=hu
 exact ⟨t,by lia,h2⟩
theorem ud {n b:Nat}{p q:Nat→Bool}(hb:b < n){i:Nat}(hi:i < n):∀(t:Nat),q (it n b t i)=true→(∀u,u < t→p (it n b u i)=true)→U n b p q ((b - i)+(n - b)) i=true:=by
 intro t
 induction t using Nat.strongRecOn with
 |ind t ih=>
  intro h1 h2
  by_cases ht:t < (b - i)+(n - b)
  ·exact rH.mpr ⟨t,ht,h1,h2⟩
  ·have ht:=Nat.not_lt.mp ht
   have L:=Nat.le_trans (Nat.le_add_left _ _) ht
   have p:=Nat.sub_pos_of_lt hb
   refine ih (t - (n - b)) (Nat.sub_lt (Nat.lt_of_lt_of_le p L) p) ?_ fun u hu=>h2 u (Nat.lt_of_lt_of_le hu (Nat.sub_le _ _))
   have:=uR hb (t:=t - (n - b)) hi (Nat.le_sub_of_add_le ht)
   rw [Nat.sub_add_cancel L] at this
   rw [←this];exact h1
noncomputable def i5 (p q:Nat→Bool):List Nat→Bool
 | []=>false
 |k::m=>q k||(p k&&i5 p q m)
theorem nZ {n b:Nat}{p q:Nat→Bool}:∀(m i:Nat),i+m=n→i5 p q (List.range' i m)=U n b p q m i
 | 0,_,_=>rfl
 |m+1,i,h=>by
  rw [List.range'_succ,i5,U]
  by_cases e:i+1=n
  ·obtain rfl:m=0:=by lia
   rfl
  ·rw [nZ (n:=n) (b:=b) m (i+1) (by lia)]
   unfold nx;rw [if_neg e]
theorem qj {n b:Nat}{p q:Nat→Bool}(hb:b < n):∀(m i:Nat),i+(m+1)=n→i5 p q (List.range' i (m+1)++List.range' b (n - b))=U n b p q ((m+1)+(n - b)) i
 | 0,i,h=>by
  rw [List.range'_succ,List.range'_zero,List.cons_append,List.nil_append,i5,nZ (b:=b) (n:=n) _ b (by lia),show 0+1+(n - b)=(n - b)+1 by lia,U]
  unfold nx;rw [if_pos (by lia)]
 |m+1,i,h=>by
  rw [List.range'_succ,List.cons_append,i5,qj hb m (i+1) (by lia),show m+1+1+(n - b)=(m+1+(n - b))+1 by lia,U]
  unfold nx;rw [if_neg (by lia)]
theorem qk {n b i:Nat}{p q:Nat→Bool}(hb:b < n)(hi:i < n):i5 p q (List.range' i (n - i)++List.range' b (n - b))=U n b p q ((n - i)+(n - b)) i:=by
 obtain ⟨m,hm⟩:∃m,n - i=m+1:=⟨n - i - 1,(Nat.sub_add_cancel (Nat.sub_pos_of_lt hi)).symm⟩
 rw [hm];exact qj hb m i (by lia)
theorem nY {q:Nat→Bool}:∀m,i5 (fun _=>true) (fun j=>!q j) m=!m.all q
 | []=>rfl
 |k::m=>by rw [i5,nY m,List.all_cons];cases q k<;>rfl
theorem gH {n b i:Nat}:i∈(List.range n).drop b↔b≤i∧i < n:=by
 rw [List.mem_drop_iff_getElem]
 constructor
 ·rintro ⟨j,hj,rfl⟩
  simp at hj ⊢;lia
 ·rintro ⟨h1,h2⟩
  refine ⟨i - b,by simp;lia,by simp;lia⟩
noncomputable def bR:Sy→List Sy
 |.next a=>[.next a]
 |.till a c=>[.till a c]
 |.always a=>[.always a]
 |.again a=>[.till .yes a,.always (.till .yes a)]
 |_=>[]
noncomputable def cq:Sy→List Sy
 |.mark _=>[]
 |.yes=>[]
 |.not a=>[a]
 |.and a c=>[a,c]
 |.or a c=>[a,c]
 |.next a=>[a]
 |.till a c=>[a,c]
 |.always a=>[a]
 |.again a=>[a]
noncomputable def ext (f xs:List Sy):List Sy:=f++xs.filter fun x=>!f.contains x
noncomputable def aq:Sy→List Sy
 |.mark x=>ext [] (bR (.mark x))
 |.yes=>ext [] (bR .yes)
 |.not a=>ext (ext [] (aq a)) (bR (.not a))
 |.and a c=>ext (ext (ext [] (aq a)) (aq c)) (bR (.and a c))
 |.or a c=>ext (ext (ext [] (aq a)) (aq c)) (bR (.or a c))
 |.next a=>ext (ext [] (aq a)) (bR (.next a))
 |.till a c=>ext (ext (ext [] (aq a)) (aq c)) (bR (.till a c))
 |.always a=>ext (ext [] (aq a)) (bR (.always a))
 |.again a=>ext (ext [] (aq a)) (bR (.again a))
noncomputable def all:Sy→List Sy
 |.mark x=>[.mark x]
 |.yes=>[.yes]
 |.not a=>.not a::all a
 |.and a c=>.and a c::(all a++all c)
 |.or a c=>.or a c::(all a++all c)
 |.next a=>.next a::all a
 |.till a c=>.till a c::(all a++all c)
 |.always a=>.always a::all a
 |.again a=>.again a::all a
noncomputable def lb (s:Sy):List Sy:=(all s).foldl (fun f t=>ext f (bR t)) []
theorem jc {f xs:List Sy}{x:Sy}:x∈ext f xs↔x∈f∨x∈xs:=by
 simp only [ext,List.mem_append,List.mem_filter,Bool.not_eq_true',List.contains_eq_mem,decide_eq_false_iff_not]
 constructor
 ·rintro (h |h)
  ·exact .inl h
  ·exact .inr h.1
 ·rintro (h |h)
  ·exact .inl h
  ·by_cases q:x∈f
   ·exact .inl q
   ·exact .inr ⟨h,q⟩
theorem aT {f xs:List Sy}(h1:f.Nodup)(h2:xs.Nodup):(ext f xs).Nodup:=by
 rw [ext,List.nodup_append]
 refine ⟨h1,h2.filter _,fun a ha b hb e=>?_⟩
 subst e
 simp [ha] at hb
theorem bZ (s:Sy):(bR s).Nodup:=by
 cases s with
 |again a=>exact List.nodup_cons.mpr ⟨fun h=>(nomatch List.mem_singleton.mp h),List.pairwise_singleton _ _⟩
 |next |till |always=>exact List.pairwise_singleton _ _
 |_=>exact .nil
theorem i4 (s:Sy):s∈all s:=by cases s<;>exact .head _
theorem bx:∀s:Sy,(aq s).Nodup
 |.mark x=>aT .nil (bZ _)
 |.yes=>aT .nil (bZ _)
 |.not a=>aT (aT .nil (bx a)) (bZ _)
 |.and a c=>aT (aT (aT .nil (bx a)) (bx c)) (bZ _)
 |.or a c=>aT (aT (aT .nil (bx a)) (bx c)) (bZ _)
 |.next a=>aT (aT .nil (bx a)) (bZ _)
 |.till a c=>aT (aT (aT .nil (bx a)) (bx c)) (bZ _)
 |.always a=>aT (aT .nil (bx a)) (bZ _)
 |.again a=>aT (aT .nil (bx a)) (bZ _)
theorem zh {x s:Sy}{f l:List Sy}(ih:x∈f↔∃t∈l,x∈bR t):x∈ext f (bR s)↔∃t∈s::l,x∈bR t:=by
 rw [jc,ih]
 exact ⟨fun h=>h.elim (fun ⟨t,a,b⟩=>⟨t,.tail _ a,b⟩) fun b=>⟨s,.head _,b⟩,fun ⟨t,a,b⟩=>(List.mem_cons.mp a).elim (fun e=>.inr (e▸b)) fun a=>.inl ⟨t,a,b⟩⟩
theorem yq {x:Sy}{f g l m:List Sy}(ih:x∈f↔∃t∈l,x∈bR t)(ih':x∈g↔∃t∈m,x∈bR t):x∈ext f g↔∃t∈l++m,x∈bR t:=by
 rw [jc,ih,ih']
 exact ⟨fun h=>h.elim (fun ⟨t,a,b⟩=>⟨t,List.mem_append_left _ a,b⟩) fun ⟨t,a,b⟩=>⟨t,List.mem_append_right _ a,b⟩,fun ⟨t,a,b⟩=>(List.mem_append.mp a).elim (fun a=>.inl ⟨t,a,b⟩) fun a=>.inr ⟨t,a,b⟩⟩
theorem zi {x:Sy}:x∈([]:List Sy)↔∃t∈([]:List Sy),x∈bR t:=⟨fun h=>(nomatch h),fun ⟨_,h,_⟩=>(nomatch h)⟩
theorem aZ {x:Sy}:∀{s:Sy},x∈aq s↔∃t∈all s,x∈bR t
 |.mark _=>zh zi
 |.yes=>zh zi
 |.not a=>zh (yq zi (aZ (s:=a)))
 |.and a c=>zh (yq (yq zi (aZ (s:=a))) (aZ (s:=c)))
 |.or a c=>zh (yq (yq zi (aZ (s:=a))) (aZ (s:=c)))
 |.next a=>zh (yq zi (aZ (s:=a)))
 |.till a c=>zh (yq (yq zi (aZ (s:=a))) (aZ (s:=c)))
 |.always a=>zh (yq zi (aZ (s:=a)))
 |.again a=>zh (yq zi (aZ (s:=a)))
theorem wM:∀(ts f:List Sy),f.Nodup→(ts.foldl (fun f t=>ext f (bR t)) f).Nodup∧∀x,x∈ts.foldl (fun f t=>ext f (bR t)) f↔x∈f∨∃t∈ts,x∈bR t
 | [],f,h=>⟨h,fun x=>by simp⟩
 |t::r,f,h=>by
  obtain ⟨h1,h2⟩:=wM r (ext f (bR t)) (aT h (bZ t))
  refine ⟨h1,fun x=>?_⟩
  simp only [List.foldl_cons]
  rw [h2,jc]
  simp [or_assoc]
theorem BQ (s:Sy):(lb s).length=(aq s).length:=by
 obtain ⟨h1,h2⟩:=wM (all s) [] .nil
 refine ((List.perm_ext_iff_of_nodup h1 (bx s)).mpr fun x=>?_).length_eq
 rw [h2,aZ];simp
noncomputable def look (bs:List Sy)(g:List Bool)(x:Sy):Bool:=(g[bs.idxOf x]?).getD false
noncomputable def so (m:Str)(bs:List Sy)(g:List Bool):Sy→Bool
 |.mark x=>PyData.eqv (.str m) (.str x)
 |.yes=>true
 |.not a=>!so m bs g a
 |.and a c=>so m bs g a&&so m bs g c
 |.or a c=>so m bs g a||so m bs g c
 |.next a=>look bs g (.next a)
 |.till a c=>look bs g (.till a c)
 |.always a=>look bs g (.always a)
 |.again a=>look bs g (.always (.till .yes a))
noncomputable def f9 (bs:List Sy)(m:Str)(g:List Bool)(m':Str)(g':List Bool):Sy→Bool
 |.next a=>so m' bs g' a
 |.till a c=>so m bs g c||(so m bs g a&&look bs g' (.till a c))
 |.always a=>so m bs g a&&look bs g' (.always a)
 |_=>false
noncomputable def pk (bs:List Sy)(m:Str)(g:List Bool)(m':Str)(g':List Bool):Bool:=bs.all fun x=>look bs g x==f9 bs m g m' g' x
noncomputable def met (bs:List Sy)(m:Str)(g:List Bool):Sy→Bool
 |.till a c=>!look bs g (.till a c)||so m bs g c
 |.always a=>look bs g (.always a)||!so m bs g a
 |_=>true
section
variable {bs:List Sy} {m m':Str} {g g':List Bool} {a c:Sy}
theorem p8:f9 bs m g m' g' (.next a)=so m' bs g' a:=rfl
theorem f8:f9 bs m g m' g' (.till a c)=(so m bs g c||(so m bs g a&&look bs g' (.till a c))):=rfl
theorem eG:f9 bs m g m' g' (.always a)=(so m bs g a&&look bs g' (.always a)):=rfl
theorem ja:met bs m g (.till a c)=(!look bs g (.till a c)||so m bs g c):=rfl
theorem fH:met bs m g (.always a)=(look bs g (.always a)||!so m bs g a):=rfl
end
noncomputable def c8 (bs:List Sy)(s:Sy):Prop:=∀t∈all s,∀x∈bR t,x∈bs
theorem nh {s p t:Sy}(hp:p∈cq s)(ht:t∈all p):t∈all s:=by
 cases s with
 |mark |yes=>cases hp
 |not |next |always |again=>cases List.mem_singleton.mp hp;exact .tail _ ht
 |and |or |till=>
  refine .tail _ ?_
  rcases List.mem_cons.mp hp with rfl |hp
  ·exact List.mem_append_left _ ht
  ·cases List.mem_singleton.mp hp;exact List.mem_append_right _ ht
theorem aD {bs:List Sy}{s p:Sy}(h:c8 bs s)(hp:p∈cq s):c8 bs p:=fun t ht x hx=>h t (nh hp ht) x hx
theorem bm {bs:List Sy}{s:Sy}(h:c8 bs s):∀x∈bR s,x∈bs:=h s (i4 s)
theorem dL (s:Sy):c8 (aq s) s:=fun t ht x hx=>aZ.mpr ⟨t,ht,hx⟩
theorem EJ {s a t u:Sy}(h:t∈s::all a)(k:u∈all t)(e:all s=s::all a)(ih:t∈all a→u∈all a):u∈s::all a:=(List.mem_cons.mp h).elim (fun q=>e▸q▸k) fun h=>.tail _ (ih h)
theorem Gn {s a c t u:Sy}(h:t∈s::(all a++all c))(k:u∈all t)(e:all s=s::(all a++all c))(ih:t∈all a→u∈all a)(ih':t∈all c→u∈all c):u∈s::(all a++all c):=
 (List.mem_cons.mp h).elim (fun q=>e▸q▸k) fun h=>.tail _ ((List.mem_append.mp h).elim (fun h=>List.mem_append_left _ (ih h)) fun h=>List.mem_append_right _ (ih' h))
theorem bU:∀{s t u:Sy},t∈all s→u∈all t→u∈all s
 |.mark x,t,u,h,k=>List.mem_singleton.mp h▸k
 |.yes,t,u,h,k=>List.mem_singleton.mp h▸k
 |.not a,t,u,h,k=>EJ h k rfl fun h=>bU h k
 |.and a c,t,u,h,k=>Gn h k rfl (fun h=>bU h k) fun h=>bU h k
 |.or a c,t,u,h,k=>Gn h k rfl (fun h=>bU h k) fun h=>bU h k
 |.next a,t,u,h,k=>EJ h k rfl fun h=>bU h k
 |.till a c,t,u,h,k=>Gn h k rfl (fun h=>bU h k) fun h=>bU h k
 |.always a,t,u,h,k=>EJ h k rfl fun h=>bU h k
 |.again a,t,u,h,k=>EJ h k rfl fun h=>bU h k
theorem sO {bs:List Sy}{s t:Sy}(h:c8 bs s)(ht:t∈all s):c8 bs t:=fun u hu x hx=>h u (bU ht hu) x hx
theorem cw {s x p:Sy}(hx:x∈aq s)(hp:p∈cq x):c8 (aq s) p:=by
 obtain ⟨t,ht,hx'⟩:=aZ.mp hx
 have ct:=sO (dL s) ht
 cases t with
 |next |till |always=>cases List.mem_singleton.mp hx';exact aD ct hp
 |again a=>
  have ca:c8 (aq s) a:=aD ct (.head _)
  have cy:c8 (aq s) .yes:=fun u hu y hy=>by cases List.mem_singleton.mp hu;cases hy
  rcases List.mem_cons.mp hx' with rfl |hx'
  ·rcases List.mem_cons.mp hp with rfl |hp
   ·exact cy
   ·cases List.mem_singleton.mp hp;exact ca
  ·cases List.mem_singleton.mp hx'
   cases List.mem_singleton.mp hp
   intro u hu y hy
   rcases List.mem_cons.mp hu with rfl |hu
   ·cases List.mem_singleton.mp hy;exact aZ.mpr ⟨_,ht,.head _⟩
   ·exact (List.mem_append.mp hu).elim (fun hu=>cy u hu y hy) fun hu=>ca u hu y hy
 |_=>cases hx'
theorem dO {s x:Sy}(hx:x∈aq s):(∃a,x=.next a)∨(∃a c,x=.till a c)∨∃a,x=.always a:=by
 obtain ⟨t,_,hx'⟩:=aZ.mp hx
 cases t with
 |next=>exact .inl ⟨_,List.mem_singleton.mp hx'⟩
 |till=>exact .inr (.inl ⟨_,_,List.mem_singleton.mp hx'⟩)
 |always=>exact .inr (.inr ⟨_,List.mem_singleton.mp hx'⟩)
 |again=>
  rcases List.mem_cons.mp hx' with h |h
  ·exact .inr (.inl ⟨_,_,h⟩)
  ·exact .inr (.inr ⟨_,List.mem_singleton.mp h⟩)
 |_=>cases hx'
theorem qM {n b:Nat}(hb:b < n):∀(t i:Nat),i < n→it n b t i < n
 | 0,_,h=>h
 |t+1,i,h=>qM hb t _ (AK hb h)
theorem iq {n b i j:Nat}(hb:b < n)(hi:i < n)(h1:b≤j)(h2:j < n):∃t,it n b t i=j:=by
 obtain ⟨s,rfl⟩:=Nat.exists_eq_add_of_le h1
 have hs:s < n - b:=Nat.lt_sub_of_add_lt (by rw [Nat.add_comm];exact h2)
 by_cases h:b≤i
 ·obtain ⟨r,rfl⟩:=Nat.exists_eq_add_of_le h
  have hr:r < n - b:=Nat.lt_sub_of_add_lt (by rw [Nat.add_comm];exact hi)
  exact ⟨s+(n - b - r),by rw [dJ hb _ r hr,Nat.add_left_comm,Nat.add_sub_cancel' (Nat.le_of_lt hr),Nat.add_mod_right,Nat.mod_eq_of_lt hs]⟩
 ·have h:=Nat.le_of_lt (Nat.not_le.mp h)
  exact ⟨(b - i)+s,by
   rw [dZ,sC hb (b - i) i (Nat.le_of_eq (Nat.add_sub_cancel' h)),Nat.add_sub_cancel' h]
   exact (dJ hb s 0 (Nat.sub_pos_of_lt hb)).trans (by rw [Nat.zero_add,Nat.mod_eq_of_lt hs])⟩
theorem uu {n b:Nat}(hb:b < n){j:Nat}(h1:b≤j)(h2:j < n)(t:Nat):b≤it n b t j:=by
 obtain ⟨r,rfl⟩:=Nat.exists_eq_add_of_le h1
 rw [dJ hb _ r (by lia)];lia
end
end Mine.Ltl
end
section
set_option tactic.hygienic false
section
namespace Mine
noncomputable section
section
variable {α:Type} {th:α→List α}
inductive kA (th:α→List α):α→α→Prop
 |refl (a:α):kA th a a
 |step {a b c:α}:b∈th a→kA th b c→kA th a c
theorem kA.trans {a b c:α}(h:kA th a b)(h':kA th b c):kA th a c:=by
 induction h with
 |refl=>exact h'
 |step e _ ih=>exact .step e (ih h')
theorem kA.one {a b:α}(h:b∈th a):kA th a b:=.step h (.refl _)
inductive gU (th:α→List α) (P:α→Prop):α→α→Prop
 |refl {a:α}:P a→gU th P a a
 |step {a b c:α}:P a→b∈th a→gU th P b c→gU th P a c
theorem gU.mono {P Q:α→Prop}(h:∀a,P a→Q a){a b:α}(r:gU th P a b):gU th Q a b:=by
 induction r with
 |refl p=>exact .refl (h _ p)
 |step p e _ ih=>exact .step (h _ p) e ih
noncomputable def EM (th:α→List α)(L:List α):Prop:=∀A x B,L=A++x::B→∀u∈A++[x],∀v∈th u,v∈A++[x]∨kA th v x
inductive pQ (th:α→List α) (P:α→Prop):Nat→α→α→Prop
 |refl {a:α}:P a→pQ th P 0 a a
 |step {n:Nat} {a b c:α}:P a→b∈th a→pQ th P n b c→pQ th P (n+1) a c
theorem gU.n {P:α→Prop}{a b:α}(r:gU th P a b):∃n,pQ th P n a b:=by
 induction r with
 |refl p=>exact ⟨0,.refl p⟩
 |step p e _ ih=>obtain ⟨n,h⟩:=ih;exact ⟨n+1,.step p e h⟩
theorem pQ.head {P:α→Prop}{n:Nat}{a b:α}(r:pQ th P n a b):P a:=by cases r<;>assumption
theorem uH {A:List α}{x:α}(h:∀u∈A++[x],∀v∈th u,v∈A++[x]∨kA th v x){P:α→Prop}{s:α}:∀{n:Nat} {y:α},pQ th P n y s→y∈A++[x]→s∈A++[x]∨∃v m,m < n∧kA th v x∧pQ th P m v s:=by
 intro n y r
 induction r with
 |refl _=>exact .inl
 |step p e r ih=>
  intro hy
  rcases h _ hy _ e with h1 |h1
  ·rcases ih h1 with h2 | ⟨v,m,h2,h3,h4⟩
   ·exact .inl h2
   ·exact .inr ⟨v,m,Nat.lt_succ_of_lt h2,h3,h4⟩
  ·exact .inr ⟨_,_,Nat.lt_succ_self _,h1,r⟩
theorem wb {L A B:List α}{s:α}(h:EM th L)(hn:L.Nodup)(e:L=A++s::B):∀(n:Nat) (y:α),pQ th (fun a=>a∈A++[s]) n y s→kA th s y:=by
 intro n
 induction n using Nat.strongRecOn with
 |ind n ih=>
  intro y r
  rcases List.mem_append.mp r.head with hy |hy
  ·obtain ⟨A',A'',rfl⟩:=List.append_of_mem hy
   have sA:s∉A'++[y]:=fun q=>by
    rw [e] at hn
    refine (List.nodup_append.mp hn).2.2 s ?_ s (.head _) rfl
    rcases List.mem_append.mp q with q |q
    ·exact List.mem_append_left _ q
    ·exact List.mem_append_right _ (List.mem_singleton.mp q▸.head _)
   have h1:=h A' y (A''++s::B) (by rw [e,List.append_assoc];rfl)
   rcases uH h1 r (List.mem_append_right _ (.head _)) with h2 | ⟨v,m,h2,h3,h4⟩
   ·exact absurd h2 sA
   ·exact (ih m h2 v h4).trans h3
  ·rw [List.mem_singleton.mp hy];exact .refl _
end
section
variable {α:Type} {th:α→List α} {K:List α}
structure pY (th:α→List α) (K found:List α) (st:List (α×Nat)) (met:List α):Prop where
 sub:∀x∈met,x∈K
 same:∀x,x∈met↔x∈found∨x∈st.map Prod.fst
 nd:(found++st.map Prod.fst).Nodup
 fin:∀x∈found,∀y∈th x,y∈met
 take:∀p∈st,p.2≤(th p.1).length∧∀y∈(th p.1).take p.2,y∈met
 chain:∀A p B,st=A++p::B→∀q∈A,kA th q.1 p.1
 ord:EM th found
 ndm:met.Nodup
theorem pY.nil:pY th K [] [] []:=⟨fun _ h=>(nomatch h),fun x=>(by simp),.nil,fun _ h=>(nomatch h),fun _ h=>(nomatch h),fun A p B e=>(by simp at e),fun A x B e=>(by simp at e),.nil⟩
theorem dR {β:Type}{S A B:List β}{p q:β}(h:S++[p]=A++q::B):(A=S∧q=p∧B=[])∨∃B',B=B'++[p]∧S=A++q::B':=by
 rcases List.eq_nil_or_concat B with rfl | ⟨B',b,rfl⟩
 ·have:=List.append_inj' h rfl
  exact .inl ⟨this.1.symm,(List.singleton_inj.mp this.2).symm,rfl⟩
 ·rw [List.concat_eq_append] at h ⊢
  have h2:S++[p]=(A++q::B')++[b]:=by rw [h,List.append_assoc];rfl
  have:=List.append_inj' h2 rfl
  exact .inr ⟨B',by rw [List.singleton_inj.mp this.2],this.1⟩
theorem pY.start {found met:List α}{s:α}(D:pY th K found [] met)(hs:s∈K)(hm:s∉met):pY th K found [(s,0)] (met++[s]) where
 sub x hx:=(List.mem_append.mp hx).elim (D.sub x) fun h=>List.mem_singleton.mp h▸hs
 same x:=by rw [List.mem_append,D.same];simp
 nd:=by
  have:=D.nd
  rw [List.map_nil,List.append_nil] at this
  show (found++[s]).Nodup
  rw [List.nodup_append]
  exact ⟨this,by simp,fun a ha b hb q=>hm ((D.same s).mpr (.inl (by rw [←List.mem_singleton.mp hb,←q];exact ha)))⟩
 fin x hx y hy:=List.mem_append_left _ (D.fin x hx y hy)
 take p hp:=by cases List.mem_singleton.mp hp;exact ⟨Nat.zero_le _,fun y hy=>by rw [List.take_zero] at hy;cases hy⟩
 chain A p B e q hq:=by
  rcases A with _ | ⟨a,A⟩
  ·cases hq
  ·simp at e
 ord:=D.ord
 ndm:=by rw [List.nodup_append];exact ⟨D.ndm,by simp,fun a ha b hb q=>hm (by rw [←List.mem_singleton.mp hb,←q];exact ha)⟩
theorem pY.leave {found met:List α}{S:List (α×Nat)}{k:α}{n:Nat}(D:pY th K found (S++[(k,n)]) met)(hn:n=(th k).length):pY th K (found++[k]) S met where
 sub:=D.sub
 same x:=by rw [D.same];simp [or_assoc,or_comm,or_left_comm]
 nd:=by
  have:=D.nd
  rw [List.map_append,←List.append_assoc] at this
  have h1:=List.nodup_append.mp this
  rw [List.append_assoc]
  have h2:=List.nodup_append.mp h1.1
  rw [List.nodup_append]
  refine ⟨h2.1,List.nodup_cons.mpr ⟨fun q=>h1.2.2 k (List.mem_append_right _ q) k (.head _) rfl,h2.2.1⟩,fun a ha b hb q=>?_⟩
  rcases List.mem_cons.mp hb with hb |hb
  ·exact h1.2.2 a (List.mem_append_left _ ha) b (by rw [hb];exact .head _) q
  ·exact h2.2.2 a ha b hb q
 fin x hx y hy:=by
  rcases List.mem_append.mp hx with hx |hx
  ·exact D.fin x hx y hy
  ·rw [List.mem_singleton.mp hx] at hy
   refine (D.take (k,n) (List.mem_append_right _ (.head _))).2 y ?_
   rw [hn,List.take_length];exact hy
 take p hp:=D.take p (List.mem_append_left _ hp)
 chain A p B e q hq:=D.chain A p (B++[(k,n)]) (by rw [e,List.append_assoc];rfl) q hq
 ord A x B e:=by
  rcases dR e with ⟨rfl,rfl,rfl⟩ | ⟨B',rfl,e'⟩
  ·intro u hu v hv
   have hv':v∈met:=by
    rcases List.mem_append.mp hu with hu |hu
    ·exact D.fin u hu v hv
    ·rw [List.mem_singleton.mp hu] at hv
     refine (D.take (x,n) (List.mem_append_right _ (.head _))).2 v ?_
     rw [hn,List.take_length];exact hv
   rcases (D.same v).mp hv' with h |h
   ·exact .inl (List.mem_append_left _ h)
   ·rw [List.map_append] at h
    rcases List.mem_append.mp h with h |h
    ·obtain ⟨q,hq,rfl⟩:=List.mem_map.mp h
     exact .inr (D.chain S (x,n) [] rfl q hq)
    ·exact .inl (List.mem_append_right _ h)
  ·exact D.ord A x B' e'
 ndm:=D.ndm
theorem pY.on {found met:List α}{S:List (α×Nat)}{k y:α}{n:Nat}(D:pY th K found (S++[(k,n)]) met)(hn:(th k)[n]?=some y)(hy:y∈met):pY th K found (S++[(k,n+1)]) met where
 sub:=D.sub
 same x:=by have:=D.same x;rw [List.map_append] at this ⊢;exact this
 nd:=by have:=D.nd;rw [List.map_append] at this ⊢;exact this
 fin:=D.fin
 take p hp:=by
  rcases List.mem_append.mp hp with hp |hp
  ·exact D.take p (List.mem_append_left _ hp)
  ·cases List.mem_singleton.mp hp
   have h1:=D.take (k,n) (List.mem_append_right _ (.head _))
   have h2:=(List.getElem?_eq_some_iff.mp hn).1
   refine ⟨h2,fun z hz=>?_⟩
   rw [List.take_succ,hn] at hz
   rcases List.mem_append.mp hz with hz |hz
   ·exact h1.2 z hz
   ·rw [List.mem_singleton.mp hz];exact hy
 chain A p B e q hq:=by
  rcases dR e with ⟨rfl,rfl,rfl⟩ | ⟨B',rfl,e'⟩
  ·exact D.chain A (k,n) [] rfl q hq
  ·exact D.chain A p (B'++[(k,n)]) (by rw [e',List.append_assoc];rfl) q hq
 ord:=D.ord
 ndm:=D.ndm
theorem pY.push {found met:List α}{S:List (α×Nat)}{k y:α}{n:Nat}(D:pY th K found (S++[(k,n)]) met)(hn:(th k)[n]?=some y)(hk:y∈K)(hy:y∉met):pY th K found (S++[(k,n+1)]++[(y,0)]) (met++[y]) where
 sub x hx:=(List.mem_append.mp hx).elim (D.sub x) fun h=>List.mem_singleton.mp h▸hk
 same x:=by
  rw [List.mem_append,D.same,List.map_append,List.map_append,List.map_append]
  simp only [List.mem_append,List.map_cons,List.map_nil,or_assoc]
 nd:=by
  have:=D.nd
  rw [List.map_append,List.map_append,←List.append_assoc]
  rw [List.map_append] at this
  rw [List.nodup_append]
  refine ⟨this,by simp,fun a ha b hb q=>hy ((D.same y).mpr ?_)⟩
  have hb:b=y:=List.mem_singleton.mp hb
  rw [←hb,←q,List.map_append];exact List.mem_append.mp ha
 fin x hx z hz:=List.mem_append_left _ (D.fin x hx z hz)
 take p hp:=by
  rcases List.mem_append.mp hp with hp |hp
  ·rcases List.mem_append.mp hp with hp |hp
   ·exact (D.take p (List.mem_append_left _ hp)).imp id fun h z hz=>List.mem_append_left _ (h z hz)
   ·cases List.mem_singleton.mp hp
    have h1:=D.take (k,n) (List.mem_append_right _ (.head _))
    refine ⟨(List.getElem?_eq_some_iff.mp hn).1,fun z hz=>?_⟩
    rw [List.take_succ,hn] at hz
    rcases List.mem_append.mp hz with hz |hz
    ·exact List.mem_append_left _ (h1.2 z hz)
    ·exact List.mem_append_right _ hz
  ·cases List.mem_singleton.mp hp
   exact ⟨Nat.zero_le _,fun z hz=>by rw [List.take_zero] at hz;cases hz⟩
 chain A p B e q hq:=by
  rcases dR e with ⟨rfl,rfl,rfl⟩ | ⟨B',rfl,e'⟩
  ·have ky:kA th k y:=.one (List.mem_of_getElem? hn)
   rcases List.mem_append.mp hq with hq |hq
   ·exact (D.chain S (k,n) [] rfl q hq).trans ky
   ·cases List.mem_singleton.mp hq;exact ky
  ·rcases dR e' with ⟨rfl,rfl,rfl⟩ | ⟨B',rfl,e''⟩
   ·exact D.chain A (k,n) [] rfl q hq
   ·exact D.chain A p (B'++[(k,n)]) (by rw [e'',List.append_assoc];rfl) q hq
 ord:=D.ord
 ndm:=by rw [List.nodup_append];exact ⟨D.ndm,by simp,fun a ha b hb q=>hy (by rw [←List.mem_singleton.mp hb,←q];exact ha)⟩
end
end
end Mine
end
section
namespace Mine
noncomputable section
section
variable {α:Type} [DecidableEq α] {th:α→List α} {K:List α}
noncomputable def ei (th:α→List α)(met:List α):List α→Nat
 | []=>0
 |x::r=>(if x∈met then 0 else (th x).length+2)+ei th met r
theorem jz {met:List α}{x:α}{r:List α}:ei th met (x::r)=(if x∈met then 0 else (th x).length+2)+ei th met r:=rfl
theorem s7 {met:List α}{y:α}:∀K:List α,ei th (met++[y]) K≤ei th met K
 | []=>Nat.le_refl _
 |x::r=>by
  rw [jz,jz]
  refine Nat.add_le_add ?_ (s7 r)
  by_cases h:x∈met
  ·rw [if_pos h,if_pos (List.mem_append_left _ h)];exact Nat.le_refl _
  ·rw [if_neg h]
   by_cases h':x∈met++[y]
   ·rw [if_pos h'];exact Nat.zero_le _
   ·rw [if_neg h'];exact Nat.le_refl _
theorem jy {met:List α}{y:α}(hy:y∉met):∀{K:List α},y∈K→ei th (met++[y]) K+((th y).length+2)≤ei th met K
 |x::r,h=>by
  rw [jz,jz]
  by_cases q:x=y
  ·subst q
   rw [if_neg hy,if_pos (List.mem_append_right _ (.head _)),Nat.zero_add,Nat.add_comm];exact Nat.add_le_add_left (s7 r) _
  ·have ih:=jy (K:=r) hy ((List.mem_cons.mp h).elim (fun e=>absurd e.symm q) id)
   by_cases hx:x∈met
   ·rw [if_pos hx,if_pos (List.mem_append_left _ hx),Nat.zero_add,Nat.zero_add];exact ih
   ·rw [if_neg hx,if_neg fun h=>(List.mem_append.mp h).elim hx fun h=>q (List.mem_singleton.mp h),Nat.add_assoc];exact Nat.add_le_add_left ih _
noncomputable def fu (th:α→List α):List (α×Nat)→Nat
 | []=>0
 |p::r=>(th p.1).length - p.2+1+fu th r
omit [DecidableEq α] in
theorem vz {p:α×Nat}{r:List (α×Nat)}:fu th (p::r)=(th p.1).length - p.2+1+fu th r:=rfl
omit [DecidableEq α] in
theorem iW:∀(a b:List (α×Nat)),fu th (a++b)=fu th a+fu th b
 | [],b=>(Nat.zero_add _).symm
 |p::a,b=>by rw [List.cons_append,vz,vz,iW a b,Nat.add_assoc (_+1)]
omit [DecidableEq α] in
theorem aS:∀{l m:List α},l.Nodup→(∀x∈l,x∈m)→l.length≤m.length
 | [],m,_,_=>Nat.zero_le _
 |x::l,m,hn,hs=>by
  obtain ⟨a,b,rfl⟩:=List.append_of_mem (hs x (.head _))
  have:=aS (l:=l) (m:=a++b) (List.nodup_cons.mp hn).2 fun y hy=>by
   rcases List.mem_append.mp (hs y (.tail _ hy)) with h |h
   ·exact List.mem_append_left _ h
   ·rcases List.mem_cons.mp h with h |h
    ·exact absurd (h▸hy) (List.nodup_cons.mp hn).1
    ·exact List.mem_append_right _ h
  rw [List.length_append] at this ⊢
  rw [List.length_cons,List.length_cons];lia
end
section
variable {α:Type} {th:α→List α} {K:List α}
structure A7 (th:α→List α) (K met:List α) (s:α) (C:List α):Prop where
 nd:(met++C).Nodup
 sub:∀x∈C,x∈K
 to:∀x∈C,gU th (fun a=>a∈C) x s
 hd:s∈C
theorem A7.start {met:List α}{s:α}(hm:met.Nodup)(hs:s∈K)(h:s∉met):A7 th K met s [s] where
 nd:=by rw [List.nodup_append];exact ⟨hm,by simp,fun a ha b hb q=>h (by rw [←List.mem_singleton.mp hb,←q];exact ha)⟩
 sub x hx:=List.mem_singleton.mp hx▸hs
 to x hx:=by rw [List.mem_singleton.mp hx];exact .refl (.head _)
 hd:=.head _
theorem A7.push {met C:List α}{s y c:α}(H:A7 th K met s C)(hy:y∉met++C)(hk:y∈K)(hc:c∈C)(e:c∈th y):A7 th K met s (C++[y]) where
 nd:=by
  rw [←List.append_assoc,List.nodup_append]
  exact ⟨H.nd,by simp,fun a ha b hb q=>hy (by rw [←List.mem_singleton.mp hb,←q];exact ha)⟩
 sub x hx:=(List.mem_append.mp hx).elim (H.sub x) fun h=>List.mem_singleton.mp h▸hk
 to x hx:=by
  have m:∀a,a∈C→a∈C++[y]:=fun a h=>List.mem_append_left _ h
  rcases List.mem_append.mp hx with h |h
  ·exact (H.to x h).mono m
  ·rw [List.mem_singleton.mp h];exact .step (List.mem_append_right _ (.head _)) e ((H.to c hc).mono m)
 hd:=List.mem_append_left _ H.hd
structure vm (th:α→List α) (K:List α) (Cs:List (List α)):Prop where
 nd:Cs.flatten.Nodup
 sub:∀x∈Cs.flatten,x∈K
 ne:∀C∈Cs,C≠[]
 scc:∀C∈Cs,∀a∈C,∀b∈C,kA th a b
 back:∀A C B,Cs=A++C::B→∀c∈C,∀x∈K,c∈th x→x∈A.flatten++C
theorem vm.nil:vm th K []:=⟨.nil,fun _ h=>(nomatch h),fun _ h=>(nomatch h),fun _ h=>(nomatch h),fun A C B e=>(by simp at e)⟩
theorem gU.r {P:α→Prop}{a b:α}(r:gU th P a b):kA th a b:=by
 induction r with
 |refl _=>exact .refl _
 |step _ e _ ih=>exact .step e ih
theorem cZ {β:Type}(Cs:List (List β))(C:List β):(Cs++[C]).flatten=Cs.flatten++C:=by rw [List.flatten_append,List.flatten_cons,List.flatten_nil,List.append_nil]
theorem vm.add {Cs:List (List α)}{L A B C:List α}{s:α}(H:vm th K Cs)(ho:EM th L)(hn:L.Nodup)(hL:∀x∈K,x∈L)(e:L=A++s::B)(hB:∀x∈B,x∈Cs.flatten)(c:A7 th K Cs.flatten s C)(cl:∀c∈C,∀x∈K,c∈th x→x∈Cs.flatten++C):vm th K (Cs++[C]) where
 nd:=by rw [cZ];exact c.nd
 sub x hx:=by rw [cZ] at hx;exact (List.mem_append.mp hx).elim (H.sub x) (c.sub x)
 ne D hD:=(List.mem_append.mp hD).elim (H.ne D) fun h=>by rw [List.mem_singleton.mp h];exact fun q=>by have:=c.hd;rw [q] at this;cases this
 scc D hD:=by
  rcases List.mem_append.mp hD with h |h
  ·exact H.scc D h
  ·rw [List.mem_singleton.mp h]
   intro a ha b hb
   refine (c.to a ha).r.trans ?_
   have inA:∀x,x∈C→x∈A++[s]:=fun x hx=>by
    have:=hL x (c.sub x hx)
    rw [e] at this
    rcases List.mem_append.mp this with h |h
    ·exact List.mem_append_left _ h
    ·rcases List.mem_cons.mp h with h |h
     ·exact List.mem_append_right _ (h▸.head _)
     ·exact absurd rfl ((List.nodup_append.mp c.nd).2.2 x (hB x h) x hx)
   obtain ⟨n,r⟩:=((c.to b hb).mono inA).n
   exact wb ho hn e n b r
 back A' D B' q:=by
  rcases dR q with ⟨rfl,rfl,rfl⟩ | ⟨B'',rfl,q'⟩
  ·exact cl
  ·exact H.back A' D B'' q'
theorem vm.within {A B:List (List α)}{C:List α}(H:vm th K (A++C::B)){u s d:α}(hu:u∈C)(e:s∈th u)(hK:∀k∈K,∀y∈th k,y∈K)(r:kA th s d)(hd:d∈C):s∈C:=by
 have uK:u∈K:=H.sub u (by rw [List.flatten_append,List.flatten_cons];exact List.mem_append_right _ (List.mem_append_left _ hu))
 have back:∀x y,kA th x y→x∈K→y∈A.flatten++C→x∈A.flatten++C:=fun x y r=>by
  induction r with
  |refl _=>exact fun _ h=>h
  | @step a b c e _ ih=>
   intro ha hc
   rcases List.mem_append.mp (ih (hK a ha b e) hc) with h |h
   ·obtain ⟨D,hD,hb⟩:=List.mem_flatten.mp h
    obtain ⟨A',B',rfl⟩:=List.append_of_mem hD
    have:=H.back A' D (B'++C::B) (by rw [List.append_assoc];rfl) b hb a ha e
    rw [List.flatten_append,List.flatten_cons]
    rcases List.mem_append.mp this with h |h
    ·exact List.mem_append_left _ (List.mem_append_left _ h)
    ·exact List.mem_append_left _ (List.mem_append_right _ (List.mem_append_left _ h))
   ·exact H.back A C B rfl b h a ha e
 rcases List.mem_append.mp (back s d r (hK u uK s e) (List.mem_append_right _ hd)) with h |h
 ·obtain ⟨D,hD,hb⟩:=List.mem_flatten.mp h
  obtain ⟨A',B',rfl⟩:=List.append_of_mem hD
  have:=H.back A' D (B'++C::B) (by rw [List.append_assoc];rfl) s hb u uK e
  have nd:=H.nd
  rw [List.flatten_append,List.flatten_append,List.flatten_cons] at nd
  refine absurd rfl ((List.nodup_append.mp nd).2.2 u ?_ u (by rw [List.flatten_cons];exact List.mem_append_left _ hu))
  rcases List.mem_append.mp this with h |h
  ·exact List.mem_append_left _ h
  ·exact List.mem_append_right _ (List.mem_append_left _ h)
 ·exact h
theorem vN {f:Nat→Nat}{n:Nat}(hm:∀i,f i≤f (i+1)):∀(d i:Nat),(∀j,f j≤n)→n - f i≤d→∃N,∀j,N≤j→f j=f N
 | 0,i,hb,hd=>by
  have mono:∀j k,f j≤f (j+k):=fun j k=>by
   induction k with
   |zero=>exact Nat.le_refl _
   |succ k ih=>exact Nat.le_trans ih (hm _)
  refine ⟨i,fun j hj=>?_⟩
  obtain ⟨k,rfl⟩:=Nat.exists_eq_add_of_le hj
  exact Nat.le_antisymm (Nat.le_trans (hb _) (Nat.le_of_sub_eq_zero (Nat.le_zero.mp hd))) (mono i k)
 |d+1,i,hb,hd=>by
  by_cases h:∀j,i≤j→f j=f i
  ·exact ⟨i,h⟩
  ·obtain ⟨j,h⟩:=Classical.not_forall.mp h
   obtain ⟨hij,hne⟩:=Classical.not_imp.mp h
   have mono:∀j k,f j≤f (j+k):=fun j k=>by
    induction k with
    |zero=>exact Nat.le_refl _
    |succ k ih=>exact Nat.le_trans ih (hm _)
   obtain ⟨k,rfl⟩:=Nat.exists_eq_add_of_le hij
   have l:f i < f (i+k):=Nat.lt_of_le_of_ne (mono i k) (Ne.symm hne)
   exact vN hm d (i+k) hb (Nat.le_of_lt_succ (Nat.lt_of_lt_of_le (Nat.sub_lt_sub_left (Nat.lt_of_lt_of_le l (hb _)) l) hd))
theorem rC {β:Type}{l:List β}{i:Nat}{x:β}(h:l[i]?=some x):∃A B,l=A++x::B∧A.length=i:=by
 obtain ⟨hi,rfl⟩:=List.getElem?_eq_some_iff.mp h
 exact ⟨l.take i,l.drop (i+1),by rw [List.getElem_cons_drop,List.take_append_drop],by rw [List.length_take];lia⟩
theorem vm.stay {Cs:List (List α)}(H:vm th K Cs)(hK:∀x∈K,x∈Cs.flatten){κ:Nat→α}(h0:∀i,κ i∈K)(h1:∀i,κ (i+1)∈th (κ i)):∃C∈Cs,∃N,∀i,N≤i→κ i∈C:=by
 have ex:∀i,∃p:Nat×List α,Cs[p.1]?=some p.2∧κ i∈p.2:=fun i=>by
  obtain ⟨C,h2,h3⟩:=List.mem_flatten.mp (hK _ (h0 i))
  obtain ⟨i,h4⟩:=List.getElem?_of_mem h2
  exact ⟨(i,C),h4,h3⟩
 obtain ⟨f,hf⟩:=Classical.axiomOfChoice ex
 have uniq:∀i j C D x,Cs[i]?=some C→Cs[j]?=some D→x∈C→x∈D→i≤j:=fun i j C D x hi hj hx hy=>by
  refine Nat.le_of_not_lt fun lt=>?_
  obtain ⟨A,B,e,l⟩:=rC hi
  have hD:D∈A:=by
   rw [e,List.getElem?_append_left (by lia)] at hj;exact List.mem_of_getElem? hj
  have nd:=H.nd
  rw [e,List.flatten_append] at nd
  exact (List.nodup_append.mp nd).2.2 x (List.mem_flatten.mpr ⟨D,hD,hy⟩) x (List.mem_flatten.mpr ⟨C,.head _,hx⟩) rfl
 have mono:∀i,(f i).1≤(f (i+1)).1:=fun i=>by
  obtain ⟨A,B,e,l⟩:=rC (hf (i+1)).1
  rcases List.mem_append.mp (H.back A _ B e _ (hf (i+1)).2 (κ i) (h0 i) (h1 i)) with h |h
  ·obtain ⟨D,hD,hx⟩:=List.mem_flatten.mp h
   obtain ⟨j,hj⟩:=List.getElem?_of_mem hD
   have lt:=(List.getElem?_eq_some_iff.mp hj).1
   have hj':Cs[j]?=some D:=by rw [e,List.getElem?_append_left lt];exact hj
   have:=uniq _ j _ D _ (hf i).1 hj' (hf i).2 hx
   lia
  ·exact uniq _ _ _ _ _ (hf i).1 (hf (i+1)).1 (hf i).2 h
 obtain ⟨N,hN⟩:=vN (f:=fun i=>(f i).1) (n:=Cs.length) mono _ 0 (fun j=>Nat.le_of_lt (List.getElem?_eq_some_iff.mp (hf j).1).1) (Nat.le_refl _)
 refine ⟨(f N).2,List.mem_of_getElem? (hf N).1,N,fun i hi=>?_⟩
 have e:=(hf i).1
 rw [show (f i).1=(f N).1 from hN i hi,(hf N).1] at e
 rw [Option.some.inj e];exact (hf i).2
end
end
end Mine
end
section
namespace Mine
noncomputable section
section
variable {α:Type} {th:α→List α}
noncomputable def du (th:α→List α)(P:List α):Prop:=∀(i:Nat) (a b:α),P[i]?=some a→P[i+1]?=some b→b∈th a
theorem du.one (a:α):du th [a]:=fun i x y _ h=>by
 rw [List.getElem?_eq_none (by simp)] at h;cases h
theorem du.app {P Q:List α}(hP:du th P)(hQ:du th Q)(h:∀a b,P.getLast?=some a→Q.head?=some b→b∈th a):du th (P++Q):=fun i a b ha hb=>by
 by_cases h1:i+1 < P.length
 ·rw [List.getElem?_append_left (Nat.lt_of_succ_lt h1)] at ha
  rw [List.getElem?_append_left h1] at hb
  exact hP i a b ha hb
 ·by_cases h2:i < P.length
  ·have e:i+1=P.length:=Nat.le_antisymm h2 (Nat.not_lt.mp h1)
   rw [List.getElem?_append_left h2] at ha
   rw [List.getElem?_append_right (Nat.not_lt.mp h1),e,Nat.sub_self] at hb
   refine h a b ?_ ?_
   ·rw [List.getLast?_eq_getElem?,←e];exact ha
   ·rw [List.head?_eq_getElem?];exact hb
  ·rw [List.getElem?_append_right (Nat.not_lt.mp h2)] at ha
   rw [List.getElem?_append_right (Nat.not_lt.mp h1),Nat.succ_sub (Nat.not_lt.mp h2)] at hb
   exact hQ _ a b ha hb
theorem du.drop {P:List α}(hP:du th P)(n:Nat):du th (P.drop n):=fun i a b ha hb=>by
 rw [List.getElem?_drop] at ha hb
 exact hP (n+i) a b ha hb
inductive j2 (f:α→Option α):α→List α→Prop
 |nil {x:α}:f x=none→j2 f x [x]
 |cons {x y:α} {p:List α}:f x=some y→j2 f y p→j2 f x (x::p)
structure rT (th:α→List α) (K starts goals done wait:List α) (f:α→Option α):Prop where
 nd:(done++wait).Nodup
 sub:∀x∈done++wait,x∈K
 st:∀x∈starts,x∈done++wait
 par:∀x∈done++wait,(f x=none→x∈starts)∧∀y,f x=some y→x∈th y
 back:∀x∈done++wait,∃p,j2 f x p∧p.length≤(done++wait).length∧∀y∈p,y∈done++wait
 clo:∀x∈done,x∉goals∧∀y∈th x,y∈done++wait
theorem rT.start {K starts goals:List α}(hn:starts.Nodup)(hs:∀x∈starts,x∈K):rT th K starts goals [] starts (fun _=>none) where
 nd:=hn
 sub:=hs
 st:=fun _ h=>h
 par x hx:=⟨fun _=>hx,fun y h=>by cases h⟩
 back x hx:=⟨[x],.nil rfl,List.length_pos_of_mem hx,fun y hy=>List.mem_singleton.mp hy▸hx⟩
 clo x hx:=nomatch hx
theorem j2.mono {f f':α→Option α}{x:α}{p:List α}(h:j2 f x p):(∀y∈p,f' y=f y)→j2 f' x p:=by
 induction h with
 |nil e=>exact fun h=>.nil ((h _ (.head _)).trans e)
 |cons e _ ih=>exact fun h=>.cons ((h _ (.head _)).trans e) (ih fun y hy=>h y (.tail _ hy))
theorem rT.push [DecidableEq α] {K starts goals done wait:List α}{f:α→Option α}{here y:α}(B:rT th K starts goals done wait f)(hh:here∈done++wait)(e:y∈th here)(hk:y∈K)(hy:y∉done++wait):rT th K starts goals done (wait++[y]) (fun x=>if x=y then some here else f x):=by
 have ne:∀x,x∈done++wait→x≠y:=fun x hx q=>hy (q▸hx)
 have mem:∀x,x∈done++(wait++[y])↔x∈done++wait∨x=y:=fun x=>by rw [←List.append_assoc,List.mem_append,List.mem_singleton]
 refine ⟨?_,fun x hx=>?_,fun x hx=>(mem x).mpr (.inl (B.st x hx)),fun x hx=>?_,fun x hx=>?_,fun x hx=>⟨(B.clo x hx).1,fun z hz=>(mem z).mpr (.inl ((B.clo x hx).2 z hz))⟩⟩
 ·rw [←List.append_assoc,List.nodup_append]
  exact ⟨B.nd,by simp,fun a ha b hb q=>hy (by rw [←List.mem_singleton.mp hb,←q];exact ha)⟩
 ·exact ((mem x).mp hx).elim (B.sub x) fun h=>h▸hk
 ·rcases (mem x).mp hx with h |rfl
  ·simp only [if_neg (ne x h)];exact B.par x h
  ·simp only [if_true];exact ⟨fun h=>(by cases h),fun z h=>Option.some.inj h▸e⟩
 ·rw [←List.append_assoc,List.length_append]
  have old:∀x,x∈done++wait→∃p,j2 (fun x=>if x=y then some here else f x) x p∧p.length≤(done++wait).length∧∀z∈p,z∈done++wait:=fun x hx=>by
   obtain ⟨p,h1,h2,h3⟩:=B.back x hx
   exact ⟨p,h1.mono fun z hz=>if_neg (ne z (h3 z hz)),h2,h3⟩
  rcases (mem x).mp hx with h |rfl
  ·obtain ⟨p,h1,h2,h3⟩:=old x h
   exact ⟨p,h1,Nat.le_trans h2 (Nat.le_add_right _ _),fun z hz=>List.mem_append_left _ (h3 z hz)⟩
  ·obtain ⟨p,h1,h2,h3⟩:=old here hh
   refine ⟨x::p,.cons (if_pos rfl) h1,Nat.succ_le_succ h2,fun z hz=>?_⟩
   rcases List.mem_cons.mp hz with rfl |hz
   ·exact List.mem_append_right _ (.head _)
   ·exact List.mem_append_left _ (h3 z hz)
theorem rT.done {K starts goals done wait:List α}{f:α→Option α}{here:α}(B:rT th K starts goals done (here::wait) f)(hg:here∉goals)(hc:∀y∈th here,y∈done++here::wait):rT th K starts goals (done++[here]) wait f:=by
 have e:(done++[here])++wait=done++here::wait:=by rw [List.append_assoc];rfl
 refine ⟨by rw [e];exact B.nd,by rw [e];exact B.sub,by rw [e];exact B.st,by rw [e];exact B.par,by rw [e];exact B.back,fun x hx=>?_⟩
 rw [e]
 rcases List.mem_append.mp hx with h |h
 ·exact B.clo x h
 ·rw [List.mem_singleton.mp h];exact ⟨hg,hc⟩
theorem rT.none {K starts goals done:List α}{f:α→Option α}(B:rT th K starts goals done [] f){s g:α}(hs:s∈starts)(hg:g∈goals)(r:kA th s g):False:=by
 have:∀x y,kA th x y→x∈done→y∈goals→False:=fun x y r=>by
  induction r with
  |refl a=>exact fun hx hg=>(B.clo a hx).1 hg
  |step e _ ih=>
   intro hx hg
   have:=(B.clo _ hx).2 _ e
   rw [List.append_nil] at this
   exact ih this hg
 have h:=B.st s hs
 rw [List.append_nil] at h
 exact this s g r h hg
structure Ap (th:α→List α) (K starts:List α) (g:α) (P:List α):Prop where
 walk:du th P
 hd:∃a,P.head?=some a∧a∈starts
 lst:P.getLast?=some g
 sub:∀x∈P,x∈K
 len:P.length≤K.length
theorem j2.way {K starts goals done wait:List α}{f:α→Option α}(B:rT th K starts goals done wait f){x:α}{p:List α}(h:j2 f x p):(∀y∈p,y∈done++wait)→du th p.reverse∧(∃a,p.reverse.head?=some a∧a∈starts)∧p.reverse.getLast?=some x:=by
 induction h with
 | @nil x e=>exact fun h=>⟨.one _,⟨x,rfl,(B.par x (h x (.head _))).1 e⟩,rfl⟩
 | @cons x y p e _ ih=>
  intro h
  obtain ⟨h1,⟨a,h2,h3⟩,h4⟩:=ih fun z hz=>h z (.tail _ hz)
  rw [List.reverse_cons]
  refine ⟨h1.app (.one _) fun u v hu hv=>?_,⟨a,?_,h3⟩,by rw [List.getLast?_append];rfl⟩
  ·rw [h4] at hu;cases hu;cases hv
   exact (B.par x (h x (.head _))).2 _ e
  ·rw [List.head?_append,h2];rfl
theorem rT.way {K starts goals done wait:List α}{f:α→Option α}(B:rT th K starts goals done wait f){x:α}(hx:x∈done++wait):∃p,j2 f x p∧(∀y∈p,y∈done++wait)∧Ap th K starts x p.reverse:=by
 obtain ⟨p,h1,h2,h3⟩:=B.back x hx
 obtain ⟨h4,h5,h6⟩:=h1.way B h3
 exact ⟨p,h1,h3,h4,h5,h6,fun y hy=>B.sub y (h3 y (List.mem_reverse.mp hy)),by rw [List.length_reverse];exact Nat.le_trans h2 (aS B.nd B.sub)⟩
end
end
end Mine
end
namespace Mine.Ltl
noncomputable section
open PySem
noncomputable def Sem (w:Nat→Str):Sy→Nat→Prop
 |.mark x,i=>PyData.eqv (.str (w i)) (.str x)=true
 |.yes,_=>True
 |.not a,i=>¬Sem w a i
 |.and a c,i=>Sem w a i∧Sem w c i
 |.or a c,i=>Sem w a i∨Sem w c i
 |.next a,i=>Sem w a (i+1)
 |.till a c,i=>∃t,Sem w c (i+t)∧∀u,u < t→Sem w a (i+u)
 |.always a,i=>∀t,Sem w a (i+t)
 |.again a,i=>∀t,∃u,Sem w a (i+t+u)
theorem nX {w:Nat→Str}{a:Sy}{i:Nat}:Sem w (.again a) i↔Sem w (.always (.till .yes a)) i:=
 ⟨fun h t=>let ⟨u,hu⟩:=h t;⟨u,hu,fun _ _=>trivial⟩,fun h t=>let ⟨u,hu,_⟩:=h t;⟨u,hu⟩⟩
theorem iZ {w:Nat→Str}{a c:Sy}{i:Nat}:Sem w (.till a c) i↔Sem w c i∨(Sem w a i∧Sem w (.till a c) (i+1)):=by
 constructor
 ·rintro ⟨t,h1,h2⟩
  cases t with
  |zero=>exact .inl h1
  |succ t=>exact .inr ⟨h2 0 (Nat.succ_pos _),t,by rw [Nat.add_assoc,Nat.add_comm 1];exact h1,fun u hu=>by rw [Nat.add_assoc,Nat.add_comm 1];exact h2 (u+1) (Nat.succ_lt_succ hu)⟩
 ·rintro (h | ⟨h,t,h1,h2⟩)
  ·exact ⟨0,h,fun u hu=>absurd hu (Nat.not_lt_zero _)⟩
  ·refine ⟨t+1,by rw [Nat.add_assoc,Nat.add_comm 1] at h1;exact h1,fun u hu=>?_⟩
   cases u with
   |zero=>exact h
   |succ u=>have:=h2 u (Nat.lt_of_succ_lt_succ hu);rw [Nat.add_assoc,Nat.add_comm 1] at this;exact this
theorem lB {w:Nat→Str}{a:Sy}{i:Nat}:Sem w (.always a) i↔Sem w a i∧Sem w (.always a) (i+1):=by
 constructor
 ·exact fun h=>⟨h 0,fun t=>by rw [Nat.add_assoc,Nat.add_comm 1];exact h (t+1)⟩
 ·rintro ⟨h1,h2⟩ t
  cases t with
  |zero=>exact h1
  |succ t=>have:=h2 t;rw [Nat.add_assoc,Nat.add_comm 1] at this;exact this
theorem nt {b:Bool}{p:Prop}(h:b=true↔p):(!b)=true↔¬p:=by rw [Bool.not_eq_true',←Bool.not_eq_true,h]
theorem CD {w w':Nat→Str}{i i':Nat}(h:∀j,w (i+j)=w' (i'+j))(t j:Nat):w (i+t+j)=w' (i'+t+j):=by rw [Nat.add_assoc,Nat.add_assoc];exact h (t+j)
theorem bP {w w':Nat→Str}:∀(s:Sy) (i i':Nat),(∀j,w (i+j)=w' (i'+j))→(Sem w s i↔Sem w' s i')
 |.mark x,i,i',h=>by
  show PyData.eqv (.str (w (i+0))) (.str x)=true↔PyData.eqv (.str (w' (i'+0))) (.str x)=true
  rw [h 0]
 |.yes,_,_,_=>.rfl
 |.not a,i,i',h=>not_congr (bP a i i' h)
 |.and a c,i,i',h=>and_congr (bP a i i' h) (bP c i i' h)
 |.or a c,i,i',h=>or_congr (bP a i i' h) (bP c i i' h)
 |.next a,i,i',h=>bP a (i+1) (i'+1) (CD h 1)
 |.till a c,i,i',h=>exists_congr fun t=>and_congr (bP c (i+t) (i'+t) (CD h t)) (forall_congr' fun u=>imp_congr_right fun _=>bP a (i+u) (i'+u) (CD h u))
 |.always a,i,i',h=>forall_congr' fun t=>bP a (i+t) (i'+t) (CD h t)
 |.again a,i,i',h=>forall_congr' fun t=>exists_congr fun u=>bP a (i+t+u) (i'+t+u) (CD (CD h t) u)
theorem gI {bs:List Sy}{m m':Str}{g g':List Bool}{x:Sy}(h:pk bs m g m' g'=true)(hx:x∈bs):look bs g x=f9 bs m g m' g' x:=by
 rw [pk,List.all_eq_true] at h;exact beq_iff_eq.mp (h x hx)
section
variable {bs:List Sy} {w:Nat→Str} {γ:Nat→List Bool} (hg:∀i,pk bs (w i) (γ i) (w (i+1)) (γ (i+1))=true) (hm:∀x∈bs,∀i,∃j,i≤j∧met bs (w j) (γ j) x=true)
include hg hm
theorem lr {a c:Sy}(hx:.till a c∈bs)(ha:∀i,so (w i) bs (γ i) a=true↔Sem w a i)(hc:∀i,so (w i) bs (γ i) c=true↔Sem w c i)(i:Nat):look bs (γ i) (.till a c)=true↔Sem w (.till a c) i:=by
 have st:∀i,look bs (γ i) (.till a c)=true↔Sem w c i∨(Sem w a i∧look bs (γ (i+1)) (.till a c)=true):=fun i=>by
  rw [gI (hg i) hx,f8,Bool.or_eq_true,Bool.and_eq_true,ha,hc]
 constructor
 ·intro h
  obtain ⟨j,h1,h2⟩:=hm _ hx i
  obtain ⟨d,rfl⟩:=Nat.exists_eq_add_of_le h1
  clear h1
  induction d generalizing i with
  |zero=>
   rw [ja,Bool.or_eq_true,Nat.add_zero,h] at h2
   exact iZ.mpr (.inl ((hc i).mp (h2.resolve_left (by decide))))
  |succ d ih=>
   rcases (st i).mp h with h3 | ⟨h3,h4⟩
   ·exact iZ.mpr (.inl h3)
   ·exact iZ.mpr (.inr ⟨h3,ih (i+1) h4 (by rw [Nat.add_assoc,Nat.add_comm 1];exact h2)⟩)
 ·rintro ⟨t,h1,h2⟩
  induction t generalizing i with
  |zero=>exact (st i).mpr (.inl h1)
  |succ t ih=>exact (st i).mpr (.inr ⟨h2 0 (Nat.succ_pos _),ih (i+1) (by rw [Nat.add_assoc,Nat.add_comm 1];exact h1) fun u hu=>by rw [Nat.add_assoc,Nat.add_comm 1];exact h2 (u+1) (Nat.succ_lt_succ hu)⟩)
theorem jt {a:Sy}(hx:.always a∈bs)(ha:∀i,so (w i) bs (γ i) a=true↔Sem w a i)(i:Nat):look bs (γ i) (.always a)=true↔Sem w (.always a) i:=by
 have st:∀i,look bs (γ i) (.always a)=true↔Sem w a i∧look bs (γ (i+1)) (.always a)=true:=fun i=>by
  rw [gI (hg i) hx,eG,Bool.and_eq_true,ha]
 constructor
 ·intro h t
  induction t generalizing i with
  |zero=>exact ((st i).mp h).1
  |succ t ih=>have:=ih (i+1) ((st i).mp h).2;rw [Nat.add_assoc,Nat.add_comm 1] at this;exact this
 ·intro h
  cases q:look bs (γ i) (.always a) with
  |true=>rfl
  |false=>
   exfalso
   obtain ⟨j,h1,h2⟩:=hm _ hx i
   obtain ⟨d,rfl⟩:=Nat.exists_eq_add_of_le h1
   clear h1
   induction d generalizing i with
   |zero=>
    rw [fH,Nat.add_zero,q,Bool.false_or,Bool.not_eq_true'] at h2
    rw [(ha i).mpr (h 0)] at h2;cases h2
   |succ d ih=>
    refine ih (i+1) (lB.mp h).2 ?_ (by rw [Nat.add_assoc,Nat.add_comm 1];exact h2)
    cases e:look bs (γ (i+1)) (.always a) with
    |false=>rfl
    |true=>rw [(st i).mpr ⟨h 0,e⟩] at q;cases q
theorem ci:∀(s:Sy),c8 bs s→∀i,so (w i) bs (γ i) s=true↔Sem w s i
 |.mark x,_,i=>.rfl
 |.yes,_,i=>⟨fun _=>trivial,fun _=>rfl⟩
 |.not a,h,i=>nt (ci a (aD h (.head _)) i)
 |.and a c,h,i=>(Bool.and_eq_true_iff).trans (and_congr (ci a (aD h (.head _)) i) (ci c (aD h (.tail _ (.head _))) i))
 |.or a c,h,i=>(Bool.or_eq_true_iff).trans (or_congr (ci a (aD h (.head _)) i) (ci c (aD h (.tail _ (.head _))) i))
 |.next a,h,i=>(Bool.eq_iff_iff.mp (gI (hg i) (bm h _ (.head _)))).trans (ci a (aD h (.head _)) (i+1))
 |.till a c,h,i=>lr hg hm (bm h _ (.head _)) (ci a (aD h (.head _))) (ci c (aD h (.tail _ (.head _)))) i
 |.always a,h,i=>jt hg hm (bm h _ (.head _)) (ci a (aD h (.head _))) i
 |.again a,h,i=>by
  rw [nX]
  exact jt (a:=.till .yes a) hg hm (bm h _ (.tail _ (.head _))) (lr (a:=.yes) (c:=a) hg hm (bm h _ (.head _)) (fun _=>⟨fun _=>trivial,fun _=>rfl⟩) (ci a (aD h (.head _)))) i
end
noncomputable def yp (w:Nat→Str)(bs:List Sy)(i:Nat):List Bool:=open Classical in bs.map fun x=>decide (Sem w x i)
theorem cX {w:Nat→Str}{bs:List Sy}{i:Nat}{x:Sy}(h:x∈bs):look bs (yp w bs i) x=true↔Sem w x i:=by
 have hi:bs.idxOf x < bs.length:=List.idxOf_lt_length_iff.mpr h
 rw [look,yp,List.getElem?_map,List.getElem?_eq_getElem hi]
 simp [List.getElem_idxOf]
theorem dy {w:Nat→Str}{bs:List Sy}(i:Nat):∀(s:Sy),c8 bs s→(so (w i) bs (yp w bs i) s=true↔Sem w s i)
 |.mark x,_=>.rfl
 |.yes,_=>⟨fun _=>trivial,fun _=>rfl⟩
 |.not a,h=>nt (dy i a (aD h (.head _)))
 |.and a c,h=>(Bool.and_eq_true_iff).trans (and_congr (dy i a (aD h (.head _))) (dy i c (aD h (.tail _ (.head _)))))
 |.or a c,h=>(Bool.or_eq_true_iff).trans (or_congr (dy i a (aD h (.head _))) (dy i c (aD h (.tail _ (.head _)))))
 |.next a,h=>cX (bm h _ (.head _))
 |.till a c,h=>cX (bm h _ (.head _))
 |.always a,h=>cX (bm h _ (.head _))
 |.again a,h=>(cX (bm h _ (.tail _ (.head _)))).trans nX.symm
theorem xh {w:Nat→Str}{s:Sy}(i:Nat):pk (aq s) (w i) (yp w (aq s) i) (w (i+1)) (yp w (aq s) (i+1))=true:=by
 rw [pk,List.all_eq_true]
 intro x hx
 rw [beq_iff_eq,Bool.eq_iff_iff,cX hx]
 rcases dO hx with ⟨a,rfl⟩ | ⟨a,c,rfl⟩ | ⟨a,rfl⟩
 ·rw [p8,dy (i+1) a (cw hx (.head _))];rfl
 ·rw [f8,Bool.or_eq_true,Bool.and_eq_true,dy i a (cw hx (.head _)),dy i c (cw hx (.tail _ (.head _))),cX hx,iZ]
 ·rw [eG,Bool.and_eq_true,dy i a (cw hx (.head _)),cX hx,lB]
theorem y8 {w:Nat→Str}{s x:Sy}(hx:x∈aq s)(i:Nat):∃j,i≤j∧met (aq s) (w j) (yp w (aq s) j) x=true:=by
 rcases dO hx with ⟨a,rfl⟩ | ⟨a,c,rfl⟩ | ⟨a,rfl⟩
 ·exact ⟨i,Nat.le_refl _,rfl⟩
 ·by_cases h:Sem w (.till a c) i
  ·obtain ⟨t,h1,_⟩:=h
   refine ⟨i+t,Nat.le_add_right _ _,?_⟩
   rw [ja,(dy (i+t) c (cw hx (.tail _ (.head _)))).mpr h1,Bool.or_true]
  ·refine ⟨i,Nat.le_refl _,?_⟩
   rw [ja,Bool.or_eq_true,Bool.not_eq_true',←Bool.not_eq_true,cX hx];exact .inl h
 ·by_cases h:Sem w (.always a) i
  ·exact ⟨i,Nat.le_refl _,by rw [fH,(cX hx).mpr h,Bool.true_or]⟩
  ·obtain ⟨t,ht⟩:=Classical.not_forall.mp h
   refine ⟨i+t,Nat.le_add_right _ _,?_⟩
   rw [fH,Bool.or_eq_true,Bool.not_eq_true',←Bool.not_eq_true (so _ _ _ _),dy (i+t) a (cw hx (.head _))];exact .inr ht
end
end Mine.Ltl
namespace Mine
noncomputable section
open Ltl
section
variable {α:Type} {th:α→List α}
theorem du.left {P Q:List α}(h:du th (P++Q)):du th P:=fun i a b ha hb=>
 h i a b ((List.getElem?_append_left (List.getElem?_eq_some_iff.mp ha).1).trans ha) ((List.getElem?_append_left (List.getElem?_eq_some_iff.mp hb).1).trans hb)
theorem du.snoc {P:List α}{a b:α}(h:du th (P++[b]))(e:P.getLast?=some a):b∈th a:=by
 obtain ⟨Q,rfl⟩:=List.getLast?_eq_some_iff.mp e
 refine h Q.length a b ?_ ?_
 ·rw [List.append_assoc,List.getElem?_append_right (Nat.le_refl _),Nat.sub_self];rfl
 ·rw [List.append_assoc,List.getElem?_append_right (Nat.le_add_right _ 1),Nat.add_sub_cancel_left];rfl
theorem du.close {K S F P:List α}{z c:α}(h:du th (F++[z]))(W:Ap th K S c P)(hS:∀x∈S,x∈th z):du th (F++[z]++P.dropLast)∧∃y,(F++[z]++P.dropLast).getLast?=some y∧c∈th y:=by
 obtain ⟨Q,rfl⟩:=List.getLast?_eq_some_iff.mp W.lst
 obtain ⟨a,ha,hs⟩:=W.hd
 rw [List.dropLast_concat]
 refine ⟨h.app W.walk.left fun u v hu hv=>?_,?_⟩
 ·rw [List.getLast?_concat] at hu;cases hu
  rw [List.head?_append,hv] at ha;cases ha
  exact hS _ hs
 ·rcases List.eq_nil_or_concat Q with rfl | ⟨R,y,rfl⟩
  ·cases ha
   exact ⟨z,by rw [List.append_nil,List.getLast?_concat],hS _ hs⟩
  ·rw [List.concat_eq_append] at W ⊢
   exact ⟨y,by rw [←List.append_assoc,List.getLast?_concat],W.walk.snoc List.getLast?_concat⟩
structure jv (th:α→List α) (S:List α) (P R:List α):Prop where
 walk:du th (P++R)
 hd:∃a,(P++R).head?=some a∧a∈S
 back:∃c y,R.head?=some c∧R.getLast?=some y∧c∈th y
theorem Ap.lasso {K S P R:List α}{c:α}(W:Ap th K S c P)(h:du th R)(hc:R.head?=some c)(hb:∃y,R.getLast?=some y∧c∈th y):jv th S P.dropLast R:=by
 obtain ⟨Q,rfl⟩:=List.getLast?_eq_some_iff.mp W.lst
 obtain ⟨a,ha,hs⟩:=W.hd
 obtain ⟨y,h1,h2⟩:=hb
 rw [List.dropLast_concat]
 refine ⟨W.walk.left.app h fun u v hu hv=>?_,⟨a,?_,hs⟩,c,y,hc,h1,h2⟩
 ·rw [hc] at hv;cases hv
  exact W.walk.snoc hu
 ·rw [List.head?_append] at ha ⊢
  rw [hc];exact ha
theorem jv.step {S P R:List α}(L:jv th S P R){i:Nat}{a b:α}(ha:(P++R)[i]?=some a)(hb:(P++R)[nx (P++R).length P.length i]?=some b):b∈th a:=by
 unfold nx at hb
 by_cases q:i+1=(P++R).length
 ·rw [if_pos q] at hb
  obtain ⟨c,y,h1,h2,h3⟩:=L.back
  rw [List.getElem?_append_right (Nat.le_refl _),Nat.sub_self,←List.head?_eq_getElem?,h1] at hb
  have e:(P++R).getLast?=some a:=by rw [List.getLast?_eq_getElem?,←q];exact ha
  rw [List.getLast?_append,h2] at e
  cases hb;cases e;exact h3
 ·rw [if_neg q] at hb
  exact L.walk i a b ha hb
theorem jv.lt {S P R:List α}(L:jv th S P R):P.length < (P++R).length:=by
 obtain ⟨c,y,h1,_⟩:=L.back
 cases R with
 |nil=>cases h1
 |cons=>rw [List.length_append,List.length_cons];lia -abstractProof
end
end
end Mine
namespace Mine
noncomputable section
open PySem Mine.Ltl
noncomputable def bf:Sy→T
 |.mark x=>.tup [.str (ofString "mark"),.str x]
 |.yes=>.tup [.str (ofString "yes")]
 |.not a=>.tup [.str (ofString "not"),bf a]
 |.and a c=>.tup [.str (ofString "and"),bf a,bf c]
 |.or a c=>.tup [.str (ofString "or"),bf a,bf c]
 |.next a=>.tup [.str (ofString "next"),bf a]
 |.till a c=>.tup [.str (ofString "till"),bf a,bf c]
 |.always a=>.tup [.str (ofString "always"),bf a]
 |.again a=>.tup [.str (ofString "again"),bf a]
noncomputable def fW:Sy→PyData
 |.mark x=>.tuple [.str (ofString "mark"),.str x]
 |.yes=>.tuple [.str (ofString "yes")]
 |.not a=>.tuple [.str (ofString "not"),fW a]
 |.and a c=>.tuple [.str (ofString "and"),fW a,fW c]
 |.or a c=>.tuple [.str (ofString "or"),fW a,fW c]
 |.next a=>.tuple [.str (ofString "next"),fW a]
 |.till a c=>.tuple [.str (ofString "till"),fW a,fW c]
 |.always a=>.tuple [.str (ofString "always"),fW a]
 |.again a=>.tuple [.str (ofString "again"),fW a]
noncomputable def dep:Sy→Nat
 |.mark _=>1
 |.yes=>1
 |.not a=>dep a+1
 |.and a c=>max (dep a) (dep c)+1
 |.or a c=>max (dep a) (dep c)+1
 |.next a=>dep a+1
 |.till a c=>max (dep a) (dep c)+1
 |.always a=>dep a+1
 |.again a=>dep a+1
theorem g9 (n:Nat)(s:Str):cR n (.str s)=some (.str s):=by cases n<;>rfl
theorem k6 (n:Nat)(i:Int):cR n (.int i)=some (.int i):=by cases n<;>rfl
theorem qW (n:Nat)(b:Bool):cR n (.bool b)=some (.bool b):=by cases n<;>rfl
theorem ni {f:T→Option PyData}{x:T}{r:List T}{d:PyData}{ds:List PyData}(h:f x=some d)(hr:eS f r=some ds):eS f (x::r)=some (d::ds):=by
 show (match f x with |none=>none |some d=>(eS f r).map (d::·))=_
 rw [h,hr];rfl
theorem kZ {n:Nat}{xs:List T}{ds:List PyData}(h:eS (cR n) xs=some ds):cR (n+1) (.tup xs)=some (.tuple ds):=congrArg (Option.map PyData.tuple) h
theorem qX {n:Nat}{w:Str}{a:T}{d:PyData}(h:cR n a=some d):cR (n+1) (.tup [.str w,a])=some (.tuple [.str w,d]):=kZ (ni (g9 _ _) (ni h rfl))
theorem xA {n:Nat}{w:Str}{a c:T}{d e:PyData}(h:cR n a=some d)(h':cR n c=some e):cR (n+1) (.tup [.str w,a,c])=some (.tuple [.str w,d,e]):=kZ (ni (g9 _ _) (ni h (ni h' rfl)))
theorem d7:∀(s:Sy) (n:Nat),dep s≤n→cR n (bf s)=some (fW s)
 |.mark x,n+1,_=>qX (g9 _ _)
 |.yes,n+1,_=>kZ (ni (g9 _ _) rfl)
 |.not a,n+1,h=>qX (d7 a n (Nat.le_of_succ_le_succ h))
 |.next a,n+1,h=>qX (d7 a n (Nat.le_of_succ_le_succ h))
 |.always a,n+1,h=>qX (d7 a n (Nat.le_of_succ_le_succ h))
 |.again a,n+1,h=>qX (d7 a n (Nat.le_of_succ_le_succ h))
 |.and a c,n+1,h=>xA (d7 a n (Nat.le_trans (Nat.le_max_left _ _) (Nat.le_of_succ_le_succ h))) (d7 c n (Nat.le_trans (Nat.le_max_right _ _) (Nat.le_of_succ_le_succ h)))
 |.or a c,n+1,h=>xA (d7 a n (Nat.le_trans (Nat.le_max_left _ _) (Nat.le_of_succ_le_succ h))) (d7 c n (Nat.le_trans (Nat.le_max_right _ _) (Nat.le_of_succ_le_succ h)))
 |.till a c,n+1,h=>xA (d7 a n (Nat.le_trans (Nat.le_max_left _ _) (Nat.le_of_succ_le_succ h))) (d7 c n (Nat.le_trans (Nat.le_max_right _ _) (Nat.le_of_succ_le_succ h)))
noncomputable def idx:Sy→Nat
 |.mark _=>0
 |.yes=>1
 |.not _=>2
 |.and _ _=>3
 |.or _ _=>4
 |.next _=>5
 |.till _ _=>6
 |.always _=>7
 |.again _=>8
theorem jj {a c:Sy}(h1:PyData.eqv (fW a) (fW c)=false)(h2:Nat.beq (idx a) (idx c)=false):PyData.eqv (fW a) (fW c)=true↔a=c:=⟨fun h=>(by rw [h1] at h;cases h),fun h=>(by rw [h,Nat.beq_refl] at h2;cases h2)⟩
theorem gM:∀a c:Sy,PyData.eqv (fW a) (fW c)=true↔a=c
 |.mark x,c=>by
  cases c with
  |mark y=>
   show ((x==y)&&true)=true↔_
   rw [Bool.and_true,beq_iff_eq];exact ⟨fun h=>(by rw [h]),fun h=>(by cases h;rfl)⟩
  |_=>exact jj rfl rfl
 |.yes,c=>by
  cases c with
  |yes=>exact ⟨fun _=>rfl,fun _=>rfl⟩
  |_=>exact jj rfl rfl
 |.not a,c=>by
  cases c with
  |not c=>
   show (PyData.eqv (fW a) (fW c)&&true)=true↔_
   rw [Bool.and_true,gM a c];exact ⟨fun h=>(by rw [h]),fun h=>(by cases h;rfl)⟩
  |_=>exact jj rfl rfl
 |.next a,c=>by
  cases c with
  |next c=>
   show (PyData.eqv (fW a) (fW c)&&true)=true↔_
   rw [Bool.and_true,gM a c];exact ⟨fun h=>(by rw [h]),fun h=>(by cases h;rfl)⟩
  |_=>exact jj rfl rfl
 |.always a,c=>by
  cases c with
  |always c=>
   show (PyData.eqv (fW a) (fW c)&&true)=true↔_
   rw [Bool.and_true,gM a c];exact ⟨fun h=>(by rw [h]),fun h=>(by cases h;rfl)⟩
  |_=>exact jj rfl rfl
 |.again a,c=>by
  cases c with
  |again c=>
   show (PyData.eqv (fW a) (fW c)&&true)=true↔_
   rw [Bool.and_true,gM a c];exact ⟨fun h=>(by rw [h]),fun h=>(by cases h;rfl)⟩
  |_=>exact jj rfl rfl
 |.and a b,c=>by
  cases c with
  |and c d=>
   show (PyData.eqv (fW a) (fW c)&&(PyData.eqv (fW b) (fW d)&&true))=true↔_
   rw [Bool.and_true,Bool.and_eq_true,gM a c,gM b d];exact ⟨fun h=>(by rw [h.1,h.2]),fun h=>(by cases h;exact ⟨rfl,rfl⟩)⟩
  |_=>exact jj rfl rfl
 |.or a b,c=>by
  cases c with
  |or c d=>
   show (PyData.eqv (fW a) (fW c)&&(PyData.eqv (fW b) (fW d)&&true))=true↔_
   rw [Bool.and_true,Bool.and_eq_true,gM a c,gM b d];exact ⟨fun h=>(by rw [h.1,h.2]),fun h=>(by cases h;exact ⟨rfl,rfl⟩)⟩
  |_=>exact jj rfl rfl
 |.till a b,c=>by
  cases c with
  |till c d=>
   show (PyData.eqv (fW a) (fW c)&&(PyData.eqv (fW b) (fW d)&&true))=true↔_
   rw [Bool.and_true,Bool.and_eq_true,gM a c,gM b d];exact ⟨fun h=>(by rw [h.1,h.2]),fun h=>(by cases h;exact ⟨rfl,rfl⟩)⟩
  |_=>exact jj rfl rfl
structure iP {α:Type} (e:α→T) (d:α→PyData) (n:Nat) (P:α→Prop):Prop where
 dat:∀a m,P a→n≤m→cR m (e a)=some (d a)
 eq:∀a c,PyData.eqv (d a) (d c)=true↔a=c
theorem xr (n:Nat):iP bf fW n (fun s=>dep s≤n):=⟨fun a m h hm=>d7 a m (Nat.le_trans h hm),gM⟩
theorem zZ:iP T.str PyData.str 0 (fun _=>True):=⟨fun a m _ _=>g9 m a,fun _ _=>beq_iff_eq⟩
theorem gN:iP T.bool PyData.bool 0 (fun _=>True):=⟨fun a m _ _=>qW m a,fun _ _=>beq_iff_eq⟩
theorem g8:iP (fun n:Nat=>T.int n) (fun n:Nat=>PyData.int n) 0 (fun _=>True):=⟨fun a m _ _=>k6 m a,fun a c=>by show (((a:Int)==(c:Int))=true)↔_;rw [beq_iff_eq];exact ⟨fun h=>Int.ofNat.inj h,fun h=>by rw [h]⟩⟩
section
variable {α:Type} {e:α→T} {d:α→PyData} {n:Nat} {P:α→Prop}
theorem iP.all (E:iP e d n P){m:Nat}(hm:n≤m):∀l:List α,(∀a∈l,P a)→eS (cR m) (l.map e)=some (l.map d)
 | [],_=>rfl
 |a::l,h=>by rw [List.map_cons,eS,E.dat a m (h a (.head _)) hm];simp only [E.all hm l fun b hb=>h b (.tail _ hb)];rfl
theorem iP.eqs (E:iP e d n P):∀l l':List α,PyData.eqvAll (l.map d) (l'.map d)=true↔l=l'
 | [],[]=>⟨fun _=>rfl,fun _=>rfl⟩
 | [],_::_=>⟨fun h=>(by cases h),fun h=>(by cases h)⟩
 |_::_,[]=>⟨fun h=>(by cases h),fun h=>(by cases h)⟩
 |a::l,c::l'=>by
  show (PyData.eqv (d a) (d c)&&PyData.eqvAll (l.map d) (l'.map d))=true↔_
  rw [Bool.and_eq_true,E.eq,E.eqs l l']
  exact ⟨fun h=>(by rw [h.1,h.2]),fun h=>(by cases h;exact ⟨rfl,rfl⟩)⟩
theorem iP.tup (E:iP e d n P):iP (fun l:List α=>T.tup (l.map e)) (fun l=>PyData.tuple (l.map d)) (n+1) (fun l=>∀a∈l,P a):=
 ⟨fun l m h hm=>by
  obtain ⟨m,rfl⟩:=Nat.exists_eq_add_of_le' hm
  show (eS (cR (m+n)) (l.map e)).map PyData.tuple=_
  rw [E.all (Nat.le_add_left _ _) l h];rfl,fun a c=>E.eqs a c⟩
theorem iP.lst (E:iP e d n P):iP (fun l:List α=>T.lst (l.map e)) (fun l=>PyData.list (l.map d)) (n+1) (fun l=>∀a∈l,P a):=
 ⟨fun l m h hm=>by
  obtain ⟨m,rfl⟩:=Nat.exists_eq_add_of_le' hm
  show (eS (cR (m+n)) (l.map e)).map PyData.list=_
  rw [E.all (Nat.le_add_left _ _) l h];rfl,fun a c=>E.eqs a c⟩
variable [DecidableEq α]
theorem iP.eqb (E:iP e d n P)(a c:α):PyData.eqv (d a) (d c)=decide (a=c):=by
 cases h:PyData.eqv (d a) (d c) with
 |true=>exact (decide_eq_true ((E.eq a c).mp h)).symm
 |false=>exact (decide_eq_false fun q=>by rw [(E.eq a c).mpr q] at h;cases h).symm
theorem iP.is (E:iP e d n P)(hn:n≤cQ){a c:α}(ha:P a)(hc:P c):bD (e a) (e c)=some (decide (a=c)):=by
 rw [bD,E.dat a cQ ha hn,E.dat c cQ hc hn];exact congrArg some (E.eqb a c)
theorem iP.isN (E:iP e d n P)(hn:n≤cQ){a c:α}(ha:P a)(hc:P c):j8 (e a) (e c)=some (!decide (a=c)):=by rw [j8,E.is hn ha hc];rfl
theorem iP.mem (E:iP e d n P)(hn:n≤cQ){a:α}{l:List α}(ha:P a)(hl:∀c∈l,P c){s:T}(hs:gj s=some (l.map e)):fT (e a) s=some (decide (a∈l)):=by
 rw [fT,hs]
 show o2 (cR cQ (e a)) (my (l.map e)) _=_
 rw [E.dat a cQ ha hn,my,E.all hn l hl]
 refine congrArg some ?_
 show (l.map d).any _=_
 rw [Bool.eq_iff_iff,List.any_eq_true,decide_eq_true_eq]
 constructor
 ·rintro ⟨y,hy,h⟩
  obtain ⟨c,hc,rfl⟩:=List.mem_map.mp hy
  rw [←(E.eq c a).mp h];exact hc
 ·exact fun h=>⟨d a,List.mem_map.mpr ⟨a,h,rfl⟩,(E.eq a a).mpr rfl⟩
theorem iP.nin (E:iP e d n P)(hn:n≤cQ){a:α}{l:List α}(ha:P a)(hl:∀c∈l,P c){s:T}(hs:gj s=some (l.map e)):eY (e a) s=some (!decide (a∈l)):=by rw [eY,E.mem hn ha hl hs];rfl
omit [DecidableEq α] in
theorem mq {β:Type}(f:α→β)(p:β→Bool):∀l:List α,(l.map f).findIdx? p=l.findIdx? (p ∘ f)
 | []=>rfl
 |a::l=>by rw [List.map_cons,List.findIdx?_cons,List.findIdx?_cons,mq f p l];rfl
theorem mr {a:α}:∀{l:List α},a∈l→l.findIdx? (fun c=>decide (c=a))=some (l.idxOf a)
 | [],h=>by cases h
 |c::l,h=>by
  rw [List.findIdx?_cons,List.idxOf_cons]
  by_cases q:c=a
  ·rw [decide_eq_true q,beq_iff_eq.mpr q];rfl
  ·rw [decide_eq_false q,beq_eq_false_iff_ne.mpr q]
   have:a∈l:=by cases h with
    |head=>exact absurd rfl q
    |tail _ h=>exact h
   rw [mr this];rfl
theorem iP.idx (E:iP e d n P)(hn:n≤cQ){a:α}{l:List α}(ha:P a)(hl:∀c∈l,P c)(hm:a∈l):mc (.lst (l.map e)) (e a)=some (.int (l.idxOf a)):=by
 show o2 (cR cQ (e a)) (my (l.map e)) _=_
 rw [E.dat a cQ ha hn,my,E.all hn l hl]
 show o1 ((l.map d).findIdx? fun y=>PyData.eqv y (d a)) _=_
 rw [mq,show (fun y=>PyData.eqv y (d a)) ∘ d=fun c=>decide (c=a) from funext fun c=>E.eqb c a,mr hm];rfl
end
end
end Mine
namespace Mine
noncomputable section
open PySem
theorem ao {o r:cc}{t:T}{σ:Sg}{k:PK T}(h:o=.ret t σ)(h2:k t σ=r):nH o k=r:=by rw [h,nH];exact h2
theorem ab {α:Type}{o:Option α}{a:α}{σ:Sg}{k:PK α}{r:cc}(h:o=some a)(h2:k a σ=r):up o σ k=r:=by rw [h];exact h2
theorem mt {α:Type}{o:Option α}{a:α}{f:α→cc}{b r:cc}(h:o=some a)(h2:f a=r):(match (generalizing:=false) o with |some a=>f a |none=>b)=r:=by rw [h];exact h2
theorem cJ {c:Bool}{a b r:cc}(h:c=true)(h2:a=r):(bif c then a else b)=r:=by rw [h];exact h2
theorem ay {c:Bool}{a b r:cc}(h:c=false)(h2:b=r):(bif c then a else b)=r:=by rw [h];exact h2
@[reducible] noncomputable def Co (bd:PB)(body:PS)(c:dw)(v:T)(ρ:aH)(σ:S5)(k:PK aH):cc:=match bd v ρ with
 |none=>.bad
 |some ρ'=>body c ρ' σ k
theorem qi {l:List T}{lo hi:Option Int}:bi (.lst l) lo hi=some (.lst (cut lo hi l)):=by unfold bi;rfl
theorem kh {bd:PB}{body:PS}{c:dw}{v:T}{l:List T}{ρ ρ':aH}{σ:Sg}{k:PK aH}{r:cc}(hb:bd v ρ=some ρ')(h:body c ρ' σ (fun ρ σ=>cg bd body c l ρ σ k)=r):cg bd body c (v::l) ρ σ k=r:=by
 show (match bd v ρ with |none=>.bad |some ρ'=>body c ρ' σ fun ρ σ=>cg bd body c l ρ σ k)=r
 rw [hb];exact h
noncomputable def aY (Q:T→Sg→Prop)(o:cc):Prop:=∃t σ,o=.ret t σ∧Q t σ
section
variable {Q:T→Sg→Prop}
theorem ck {t:T}{σ:Sg}(h:Q t σ):aY Q (.ret t σ):=⟨t,σ,rfl,h⟩
theorem ig {o:cc}{t:T}{σ:Sg}{k:PK T}(h:o=.ret t σ)(h2:aY Q (k t σ)):aY Q (nH o k):=by rw [h,nH];exact h2
theorem bM {P:T→Sg→Prop}{o:cc}{k:PK T}(h:aY P o)(h2:∀t σ,P t σ→aY Q (k t σ)):aY Q (nH o k):=by obtain ⟨t,σ,rfl,h⟩:=h;rw [nH];exact h2 t σ h
theorem aB {α:Type}{o:Option α}{a:α}{σ:Sg}{k:PK α}(h:o=some a)(h2:aY Q (k a σ)):aY Q (up o σ k):=by rw [h];exact h2
theorem dE {α:Type}{o:Option α}{a:α}{f:α→cc}{b:cc}(h:o=some a)(h2:aY Q (f a)):aY Q (match (generalizing:=false) o with |some a=>f a |none=>b):=by rw [h];exact h2
theorem nG {ρ:aH}{i:Nat}{t:T}{σ:Sg}{k:PK T}(h:bC ρ i=some t)(h2:aY Q (k t σ)):aY Q (up (bC ρ i) σ k):=by rw [h];exact h2
theorem eu {c:Bool}{a b:cc}(h1:c=true→aY Q a)(h2:c=false→aY Q b):aY Q (bif c then a else b):=by
 cases c with
 |true=>exact h1 rfl
 |false=>exact h2 rfl
theorem Ah {x y:cc}(h:aY Q y):aY Q (bif false then x else y):=h
theorem Eb {x y:cc}(h:aY Q x):aY Q (bif true then x else y):=h
theorem sJ {l:List T}{x y:cc}(hl:Nat.ble l.length 100=true)(h:aY Q x):aY Q (bif bS l.length then x else y):=by
 rw [show bS l.length=true from Nat.ble_eq_true_of_le (Nat.le_trans (Nat.le_of_ble_eq_true hl) (by decide))];exact h
theorem DF {bd:PB}{body:PS}{c:dw}{v:T}{l:List T}{ρ ρ':aH}{σ:Sg}{k:PK aH}(hb:bd v ρ=some ρ')(h:aY Q (body c ρ' σ fun ρ σ=>cg bd body c l ρ σ k)):aY Q (cg bd body c (v::l) ρ σ k):=by
 show aY Q (match bd v ρ with |none=>.bad |some ρ'=>body c ρ' σ fun ρ σ=>cg bd body c l ρ σ k)
 rw [hb];exact h
theorem G9 {bd:PB}{body:PS}{c:dw}{ρ:aH}{σ:Sg}{k:PK aH}(h:aY Q (k ρ σ)):aY Q (cg bd body c [] ρ σ k):=h
theorem qP {α:Type}{e:α→T}{bd:PB}{body:PS}{c:dw}{k:PK aH}(I:List α→aH→Sg→Prop){l:List α}
  (h:∀pre a suf ρ σ,l=pre++a::suf→I pre ρ σ→∀k,(∀ρ' σ',I (pre++[a]) ρ' σ'→aY Q (k ρ' σ'))→aY Q (Co bd body c (e a) ρ σ k))(h1:∀ρ σ,I l ρ σ→aY Q (k ρ σ)):
  ∀{suf pre:List α} {ρ:aH} {σ:Sg},l=pre++suf→I pre ρ σ→aY Q (cg bd body c (suf.map e) ρ σ k)
 | [],pre,ρ,σ,hl,hi=>h1 ρ σ (by rw [hl,List.append_nil];exact hi)
 |a::suf,pre,ρ,σ,hl,hi=>h pre a suf ρ σ hl hi _ fun ρ' σ' hi'=>qP I h h1 (suf:=suf) (pre:=pre++[a]) (by rw [hl,List.append_assoc];rfl) hi'
theorem jA {t:PT}{body:PS}{c:dw}{k:PK aH}{S:Type}(I:S→aH→Sg→Prop)(go:S→Bool)(ms:S→Nat)(ht:∀s ρ σ,I s ρ σ→∀k:PK Bool,aY Q (k (go s) σ)→aY Q (t c ρ σ k))
  (hb:∀s ρ σ,I s ρ σ→go s=true→∀k,(∀s' ρ' σ',ms s' < ms s→I s' ρ' σ'→aY Q (k ρ' σ'))→aY Q (body c ρ σ k))(h1:∀s ρ σ,I s ρ σ→go s=false→aY Q (k ρ σ)):
  ∀{n:Nat} {s:S} {ρ:aH} {σ:Sg},ms s < n→I s ρ σ→aY Q (f7 t body c n ρ σ k)
 | 0,s,ρ,σ,h,_=>absurd h (Nat.not_lt_zero _)
 |n+1,s,ρ,σ,h,hi=>by rw [lh];exact ht s ρ σ hi _ (eu (fun e=>hb s ρ σ hi e _ fun s' ρ' σ' h' hi'=>jA I go ms ht hb h1 (n:=n) (Nat.lt_of_lt_of_le h' (Nat.le_of_lt_succ h)) hi') (h1 s ρ σ hi))
end
theorem gO {α:Type}{e:α→T}{bd:PB}{cond:PT}{elt:PE}{c:dw}{ρ:aH}{σ:Sg}{k:PK (List T)}{r:cc}(p:α→Bool)(f:α→T):∀{l:List α} {acc:List T},
  (∀a∈l,∃ρ',bd (e a) ρ=some ρ'∧(∀k,cond c ρ' σ k=k (p a) σ)∧(p a=true→∀k,elt c ρ' σ k=k (f a) σ))→k (acc++(l.filter p).map f) σ=r→aX bd cond elt c ρ (l.map e) σ acc k=r
 | [],acc,_,hk=>by rw [List.filter_nil,List.map_nil,List.append_nil] at hk;rw [List.map_nil,tY];exact hk
 |a::l,acc,h,hk=>by
  obtain ⟨ρ',h1,h2,h3⟩:=h a (.head _)
  have ih:=fun acc=>gO (e:=e) (bd:=bd) (cond:=cond) (elt:=elt) (c:=c) (ρ:=ρ) (σ:=σ) (k:=k) (r:=r) p f (l:=l) (acc:=acc) fun b hb=>h b (.tail _ hb)
  rw [List.map_cons,tZ]
  simp only [h1,h2]
  cases e:p a with
  |false=>rw [List.filter_cons_of_neg (by rw [e];decide)] at hk;exact ih acc hk
  |true=>
   rw [cond_true,h3 e]
   rw [List.filter_cons_of_pos e,List.map_cons] at hk
   exact ih (acc++[f a]) (by rw [List.append_assoc];exact hk)
theorem aJ {α:Type}{e:α→T}{bd:PB}{elt:PE}{c:dw}{ρ:aH}{σ:Sg}{k:PK (List T)}{r:cc}(f:α→T){l:List α}(h:∀a∈l,∃ρ',bd (e a) ρ=some ρ'∧∀k,elt c ρ' σ k=k (f a) σ)(hk:k (l.map f) σ=r):aX bd av elt c ρ (l.map e) σ [] k=r:=
 gO (fun _=>true) f (fun a ha=>let ⟨ρ',h1,h2⟩:=h a ha;⟨ρ',h1,fun _=>rfl,fun _=>h2⟩) (by rw [List.filter_eq_self.mpr fun _ _=>rfl];exact hk)
theorem xG {Q:T→Sg→Prop}{α:Type}{e:α→T}{bd:PB}{cond:PT}{elt:PE}{c:dw}{ρ:aH}{σ:Sg}{k:PK (List T)}(p:α→Bool)(f:α→T){l:List α}
  (h:∀a∈l,∃ρ',bd (e a) ρ=some ρ'∧(∀k,cond c ρ' σ k=k (p a) σ)∧(p a=true→∀k,elt c ρ' σ k=k (f a) σ))(hk:aY Q (k ((l.filter p).map f) σ)):aY Q (aX bd cond elt c ρ (l.map e) σ [] k):=by
 rw [gO p f h rfl];exact hk
theorem fP {Q:T→Sg→Prop}{α:Type}{e:α→T}{bd:PB}{elt:PE}{c:dw}{ρ:aH}{σ:Sg}{k:PK (List T)}(f:α→T){l:List α}(h:∀a∈l,∃ρ',bd (e a) ρ=some ρ'∧∀k,elt c ρ' σ k=k (f a) σ)(hk:aY Q (k (l.map f) σ)):aY Q (aX bd av elt c ρ (l.map e) σ [] k):=by
 rw [aJ f h rfl];exact hk
structure rK {α:Type} (e:α→T) (κ:α→Ky):Prop where
 ky:∀a,wT (e a)=some (κ a)
 inj:∀a c,κ a=κ c→a=c
section
variable {α:Type} {e:α→T} {κ:α→Ky} [DecidableEq α]
omit [DecidableEq α] in
theorem rK.kys (K:rK e κ):∀l:List α,e9 (l.map e)=some (l.map κ)
 | []=>rfl
 |a::l=>by
  have:=K.kys l
  rw [e9] at this ⊢
  rw [List.map_cons,uY,K.ky a,this];rfl
theorem rK.at_ (K:rK e κ)(l:List α)(a:α):o9 (l.map κ) (κ a)=if a∈l then some (l.idxOf a) else none:=by
 unfold o9
 rw [mq]
 have:(fun x=>decide (x=κ a)) ∘ κ=fun c=>decide (c=a):=funext fun c=>by
  show decide (κ c=κ a)=_
  by_cases q:c=a
  ·rw [q,decide_eq_true rfl,decide_eq_true rfl]
  ·rw [decide_eq_false q,decide_eq_false fun h=>q (K.inj c a h)]
 rw [this]
 by_cases h:a∈l
 ·rw [if_pos h,mr h]
 ·rw [if_neg h,List.findIdx?_eq_none_iff]
  exact fun x hx=>decide_eq_false fun q=>h (q▸hx)
theorem rK.fd (K:rK e κ)(l:List α)(a:α):kN (l.map e) (e a)=some (if a∈l then some (l.idxOf a) else none):=by
 rw [kN,K.kys,K.ky];exact congrArg some (K.at_ l a)
theorem pv {β:Type}(f:α→β):∀{l:List α} {a:α},a∈l→(l.map f)[l.idxOf a]?=some (f a)
 |c::l,a,h=>by
  rw [List.idxOf_cons]
  by_cases q:c=a
  ·rw [beq_iff_eq.mpr q,cond_true,q];rfl
  ·rw [beq_eq_false_iff_ne.mpr q,cond_false,List.map_cons,List.getElem?_cons_succ]
   exact pv f (by cases h with
    |head=>exact absurd rfl q
    |tail _ h=>exact h)
theorem rK.get (K:rK e κ){l:List α}{f:α→T}{a:α}(h:a∈l):idxD (.dct (l.map e) (l.map f)) (e a)=some (f a):=by
 show o1 (kN (l.map e) (e a)) _=_
 rw [K.fd,if_pos h];exact pv f h
theorem rK.has (K:rK e κ){l:List α}{vs:List T}(a:α):AT (e a) (.dct (l.map e) vs)=some (decide (a∈l)):=by
 show o1 (kN (l.map e) (e a)) _=_
 rw [K.fd]
 by_cases h:a∈l
 ·rw [if_pos h,decide_eq_true h];rfl
 ·rw [if_neg h,decide_eq_false h];rfl
theorem rK.put (K:rK e κ){l:List α}{vs:List T}{a:α}{v:T}(h:a∉l)(hl:l.length < lim):dS (.dct (l.map e) vs) (e a) v=some (.dct ((l++[a]).map e) (vs++[v])):=by
 show o1 (kN (l.map e) (e a)) _=_
 rw [K.fd,if_neg h]
 show oj _ _=_
 rw [oj,List.length_map,show bS (l.length+1)=true from Nat.ble_eq_true_of_le hl,List.map_append];rfl
theorem rK.fresh (K:rK e κ):∀(l us:List α),(us++l).Nodup→d0 (l.map e) (us.map e)=true
 | [],_,_=>rfl
 |a::l,us,h=>by
  have ha:a∉us:=fun q=>(List.nodup_append.mp h).2.2 a q a (.head _) rfl
  rw [List.map_cons,mh,K.fd,if_neg ha]
  show d0 (l.map e) (us.map e++[e a])=true
  have:=K.fresh l (us++[a]) (by rw [List.append_assoc];exact h)
  rw [List.map_append] at this;exact this
end
structure Kn where
 p:Nat
 g:List Bool
noncomputable instance:DecidableEq Kn:=fun a b=>Classical.propDecidable (a=b)
theorem wU:∀{a c:Kn},a.p=c.p→a.g=c.g→a=c
 | ⟨_,_⟩,⟨_,_⟩,rfl,rfl=>rfl
noncomputable def aQ (k:Kn):T:=.tup [.int k.p,.tup (k.g.map .bool)]
noncomputable def EE (k:Kn):PyData:=.tuple [.int k.p,.tuple (k.g.map .bool)]
noncomputable def G8 (k:Kn):Ky:=.tup [.int k.p,.tup (k.g.map fun b=>.int (t9 b))]
theorem l0 (n:Nat):∀g:List Bool,kU.go (kU n) (g.map .bool)=some (g.map fun b=>.int (t9 b))
 | []=>rfl
 |b::g=>by
  rw [List.map_cons,uY,l0 n g,show kU n (.bool b)=some (.int (t9 b)) by cases n<;>rfl];rfl
theorem Ak {a b:Bool}(h:t9 a=t9 b):a=b:=by revert h;cases a<;>cases b<;>decide
theorem jT:∀{g g':List Bool},(g.map fun b=>Ky.int (t9 b))=g'.map (fun b=>Ky.int (t9 b))→g=g'
 | [],[],_=>rfl
 | [],_::_,h=>by cases h
 |_::_,[],h=>by cases h
 |a::g,b::g',h=>by
  have h1:=List.cons.inj h
  rw [Ak (Ky.int.inj h1.1),jT h1.2]
theorem cv:rK aQ G8:=⟨fun a=>by
  show o1 (kU.go (kU 5) [.int a.p,.tup (a.g.map .bool)]) _=_
  rw [uY,uY,show kU 5 (.tup (a.g.map .bool))=some (.tup (a.g.map fun b=>.int (t9 b))) by rw [AQ,l0];rfl];rfl,
 fun a c h=>by
  have h1:=List.cons.inj (Ky.tup.inj h)
  have h2:=List.cons.inj h1.2
  exact wU (Int.ofNat.inj (Ky.int.inj h1.1)) (jT (Ky.tup.inj h2.1))⟩
theorem jO:iP aQ EE 2 (fun _=>True):=⟨fun a m _ hm=>by
  obtain ⟨m,rfl⟩:=Nat.exists_eq_add_of_le' hm
  show (eS (cR (m+1)) [.int a.p,.tup (a.g.map .bool)]).map PyData.tuple=_
  rw [eS,k6,eS,gN.tup.dat a.g (m+1) (fun _ _=>trivial) (Nat.le_add_left _ _)];rfl,
 fun a c=>by
  show (((a.p:Int)==(c.p:Int))&&(PyData.eqvAll (a.g.map .bool) (c.g.map .bool)&&true))=true↔_
  rw [Bool.and_true,Bool.and_eq_true,beq_iff_eq,gN.eqs]
  exact ⟨fun h=>wU (Int.ofNat.inj h.1) h.2,fun h=>by rw [h];exact ⟨rfl,rfl⟩⟩⟩
noncomputable def jL (l:List Kn):T:=.dct (l.map aQ) (l.map fun _=>.bool true)
noncomputable def eF (b p m kn:T)(K:List Kn)(n:Nat)(th:Kn→List Kn):T:=.obj 10 [b,p,m,kn,.lst (K.map aQ),.int n,.dct (K.map aQ) (K.map fun k=>.lst ((th k).map aQ))]
theorem BG (l:List Kn)(k:Kn):AT (aQ k) (jL l)=some (decide (k∈l)):=cv.has k
theorem gZ (l:List Kn)(k:Kn):dY (aQ k) (jL l)=some (!decide (k∈l)):=by show (AT _ _).map _=_;rw [BG];rfl
theorem jb {l:List Kn}{k:Kn}(h:k∉l)(hl:l.length < lim):dS (jL l) (aQ k) (.bool true)=some (jL (l++[k])):=by
 rw [jL,cv.put h hl,jL,List.map_append (f:=fun _=>T.bool true)];rfl
theorem d6 (a c:Int):bD (.int a) (.int c)=some (decide (a=c)):=congrArg some (by show (a==c)=_;by_cases h:a=c<;>simp [h])
noncomputable def AF (s:Kn×Nat):T:=.tup [aQ s.1,.int s.2]
noncomputable def GX (s:Kn×Nat):PyData:=.tuple [EE s.1,.int s.2]
theorem Cd:iP AF GX 3 (fun _=>True):=⟨fun a m _ hm=>by
  obtain ⟨m,rfl⟩:=Nat.exists_eq_add_of_le' hm
  show (eS (cR (m+2)) [aQ a.1,.int a.2]).map PyData.tuple=_
  rw [eS,jO.dat a.1 (m+2) trivial (Nat.le_add_left _ _),eS,k6];rfl,
 fun a c=>by
  show (PyData.eqv (EE a.1) (EE c.1)&&(((a.2:Int)==(c.2:Int))&&true))=true↔_
  rw [Bool.and_true,Bool.and_eq_true,beq_iff_eq,jO.eq]
  exact ⟨fun h=>Prod.ext h.1 (Int.ofNat.inj h.2),fun h=>by rw [h];exact ⟨rfl,rfl⟩⟩⟩
theorem iP.some {α:Type}{e:α→T}{d:α→PyData}{n:Nat}(E:iP e d n (fun _=>True))(hn:n < cQ)(l:List α):j8 (.lst (l.map e)) (.lst [])=Option.some (!l.isEmpty):=by
 have h1:=E.lst.dat l cQ (fun _ _=>trivial) hn
 show (bD _ _).map _=_
 rw [bD,h1]
 cases l with
 |nil=>rfl
 |cons a l=>rfl
theorem x0 {l:List T}{v:T}(h:l.length < lim):df (.lst l) v=some (.lst (l++[v])):=by
 show oj _ _=_
 rw [oj,show bS (l.length+1)=true from Nat.ble_eq_true_of_le h];rfl
theorem xq {l m:List T}(h:l.length+m.length≤lim):ii (.lst l) (.lst m)=some (.lst (l++m)):=by
 show oj _ _=_
 rw [oj,show bS (l.length+m.length)=true from Nat.ble_eq_true_of_le h];rfl
theorem bh:lim=1000000:=rfl
theorem cD {α:Type}{e:α→T}{l:List α}(a:α)(h:l.length < lim):df (.lst (l.map e)) (e a)=some (.lst ((l++[a]).map e)):=by
 rw [x0 (by rw [List.length_map];exact h),List.map_append];rfl
theorem pD {α:Type}{e:α→T}{l m:List α}(h:l.length+m.length≤lim):ii (.lst (l.map e)) (.lst (m.map e))=some (.lst ((l++m).map e)):=by
 rw [xq (by rw [List.length_map,List.length_map];exact h),List.map_append]
theorem lz {i:Nat}(h:i≤lim):sm (i:Int)=true:=Nat.ble_eq_true_of_le (Nat.le_trans (m:=i) (Nat.le_of_eq (Int.natAbs_natCast i)) (Nat.le_trans h (by decide)))
theorem iY {i n:Nat}(h:i < n):seqIndex? (i:Int) n=some i:=by
 show (if (decide (0≤(if (i:Int) < 0 then (i:Int)+n else i))&&decide ((if (i:Int) < 0 then (i:Int)+n else i) < (n:Int)))=true then some (if (i:Int) < 0 then (i:Int)+n else i).toNat else none)=some i
 rw [if_neg (Int.not_lt.mpr (Int.natCast_nonneg i)),decide_eq_true (Int.natCast_nonneg i),decide_eq_true (Int.ofNat_lt.mpr h)];rfl
theorem sZ {α:Type}{e:α→T}{l:List α}{i:Nat}{a:α}(h:l[i]?=some a)(hi:i≤lim):yu i (l.map e)=some (e a):=by
 rw [yu,lz hi,cond_true,iY (by rw [List.length_map];exact (List.getElem?_eq_some_iff.mp h).1)]
 show (l.map e)[i]?=_
 rw [List.getElem?_map,h];rfl
theorem AJ {α β:Type}(a:α)(f:α→Option β):o1 (some a) f=f a:=rfl
theorem tP (xs:List T)(i:Int):aj (.lst xs) (.int i)=yu i xs:=by
 rw [aj,show iN (.int i)=some i from rfl,AJ,show gj (.lst xs)=some xs from rfl]
theorem ba {α:Type}{e:α→T}{l:List α}{i:Nat}{a:α}(h:l[i]?=some a)(hi:i≤lim):aj (.lst (l.map e)) (.int i)=some (e a):=(tP _ _).trans (sZ h hi)
theorem ti {β:Type}{f:Kn→β}{o:Kn}{v:β}:∀{K:List Kn},K.Nodup→o∈K→(K.map f).set (K.idxOf o) v=K.map fun k=>if k=o then v else f k
 |k::K,hn,ho=>by
  have h1:=List.nodup_cons.mp hn
  rw [List.idxOf_cons]
  by_cases q:k=o
  ·subst q
   rw [beq_iff_eq.mpr rfl,cond_true,List.map_cons,List.set_cons_zero,List.map_cons,if_pos rfl]
   refine congrArg _ (List.map_congr_left fun x hx=>?_)
   exact (if_neg fun (e:x=k)=>h1.1 (e▸hx)).symm
  ·rw [beq_eq_false_iff_ne.mpr q,cond_false,List.map_cons,List.set_cons_succ,List.map_cons,if_neg q,ti h1.2 (by cases ho with
    |head=>exact absurd rfl q
    |tail _ h=>exact h)]
theorem qI {K:List Kn}{kn:Kn}(hK:K.Nodup):∀(os:List Kn) (h:Kn→List Kn),(∀o∈os,o∈K)→(∀k,(h k).length+os.length≤lim)→
  ∃h':Kn→List Kn,jM (K.map aQ) (aQ kn) (os.map aQ) (K.map fun k=>(h k).map aQ)=some (K.map fun k=>(h' k).map aQ)∧(∀k x,x∈h' k↔x∈h k∨(x=kn∧k∈os))∧∀k,(h' k).length≤(h k).length+os.length
 | [],h,_,_=>⟨h,rfl,fun k x=>⟨.inl,fun q=>q.elim id fun q=>nomatch q.2⟩,fun k=>Nat.le_refl _⟩
 |o::os,h,hs,hl=>by
  have ho:=hs o (.head _)
  have l1:bS ((h o).length+1)=true:=Nat.ble_eq_true_of_le (by have:=hl o;rw [List.length_cons] at this;lia -abstractProof)
  obtain ⟨h',e1,e2,e3⟩:=qI (kn:=kn) hK os (fun k=>if k=o then h k++[kn] else h k) (fun x hx=>hs x (.tail _ hx)) fun k=>by
   have:=hl k
   rw [List.length_cons] at this
   by_cases q:k=o
   ·simp only [if_pos q,List.length_append,List.length_cons,List.length_nil];lia
   ·simp only [if_neg q];lia
  refine ⟨h',?_,fun k x=>?_,fun k=>?_⟩
  ·rw [List.map_cons,BP,cv.fd,if_pos ho]
   show (o1 (K.map fun k=>(h k).map aQ)[K.idxOf o]? _)=_
   rw [pv _ ho]
   show (bif bS (((h o).map aQ).length+1) then jM _ _ _ ((K.map fun k=>(h k).map aQ).set (K.idxOf o) ((h o).map aQ++[aQ kn])) else none)=_
   rw [List.length_map,l1,cond_true,ti hK ho,←e1]
   congr 1
   refine List.map_congr_left fun k hk=>?_
   by_cases q:k=o
   ·rw [if_pos q,if_pos q,q,List.map_append];rfl
   ·rw [if_neg q,if_neg q]
  ·refine (e2 k x).trans ?_
   by_cases q:k=o
   ·rw [if_pos q,List.mem_append,List.mem_singleton]
    constructor
    ·rintro ((h |h) |h)
     ·exact .inl h
     ·exact .inr ⟨h,q▸.head _⟩
     ·exact .inr ⟨h.1,.tail _ h.2⟩
    ·rintro (h |h)
     ·exact .inl (.inl h)
     ·exact .inl (.inr h.1)
   ·rw [if_neg q,List.mem_cons]
    exact ⟨fun h=>h.imp id fun h=>⟨h.1,.inr h.2⟩,fun h=>h.imp id fun h=>⟨h.1,h.2.resolve_left q⟩⟩
  ·have:=e3 k
   rw [List.length_cons]
   by_cases q:k=o
   ·simp only [if_pos q,List.length_append,List.length_cons,List.length_nil] at this;lia
   ·simp only [if_neg q] at this;lia
theorem qG {K:List Kn}{th:Kn→List Kn}(hK:K.Nodup)(hc:∀k∈K,∀y∈th k,y∈K)(hw:∀k∈K,(th k).length≤1000):∀(ns:List Kn) (h:Kn→List Kn),(∀n∈ns,n∈K)→(∀k,(h k).length+ns.length * 1000≤lim)→
  ∃h':Kn→List Kn,qH (K.map aQ) (.dct (K.map aQ) (K.map fun k=>.lst ((th k).map aQ))) (ns.map aQ) (K.map fun k=>(h k).map aQ)=some (K.map fun k=>(h' k).map aQ)∧∀k x,x∈h' k↔x∈h k∨(x∈ns∧k∈th x)
 | [],h,_,_=>⟨h,rfl,fun k x=>⟨.inl,fun q=>q.elim id fun q=>nomatch q.1⟩⟩
 |n::ns,h,hs,hl=>by
  have hn:=hs n (.head _)
  have lw:=hw n hn
  obtain ⟨h₁,e1,e2,e3⟩:=qI (kn:=n) hK (th n) h (fun o ho=>hc n hn o ho) fun k=>by have:=hl k;rw [List.length_cons] at this;lia
  obtain ⟨h₂,e4,e5⟩:=qG hK hc hw ns h₁ (fun x hx=>hs x (.tail _ hx)) fun k=>by have:=hl k;have:=e3 k;rw [List.length_cons] at *;lia
  refine ⟨h₂,?_,fun k x=>?_⟩
  ·rw [List.map_cons,BO,cv.get hn]
   show (o1 (jM (K.map aQ) (aQ n) ((th n).map aQ) _) _)=_
   rw [e1];exact e4
  ·rw [e5,e2]
   constructor
   ·rintro ((h | ⟨rfl,h⟩) | ⟨h,h'⟩)
    ·exact .inl h
    ·exact .inr ⟨.head _,h⟩
    ·exact .inr ⟨.tail _ h,h'⟩
   ·rintro (h | ⟨h,h'⟩)
    ·exact .inl (.inl h)
    ·rcases List.mem_cons.mp h with rfl |h
     ·exact .inl (.inr ⟨rfl,h'⟩)
     ·exact .inr ⟨h,h'⟩
theorem zx {b p m kn:T}{K:List Kn}{bg:Nat}{th:Kn→List Kn}(hK:K.Nodup)(hl:K.length≤1000)(hc:∀k∈K,∀y∈th k,y∈K)(hw:∀k∈K,(th k).length≤1000):
  ∃bk:Kn→List Kn,wK (eF b p m kn K bg th)=some (.dct (K.map aQ) (K.map fun k=>.lst ((bk k).map aQ)))∧∀k x,x∈bk k↔x∈K∧k∈th x:=by
 obtain ⟨bk,e1,e2⟩:=qG hK hc hw K (fun _=>[]) (fun _ h=>h) fun k=>by rw [bh,List.length_nil];lia -abstractProof
 refine ⟨bk,?_,fun k x=>⟨fun h=>((e2 k x).mp h).elim (fun h=>nomatch h) id,fun h=>(e2 k x).mpr (.inr h)⟩⟩
 show (bif bS (K.map aQ).length&&d0 (K.map aQ) [] then o1 (qH (K.map aQ) _ (K.map aQ) ((K.map aQ).map fun _=>[])) fun ds=>some (T.dct (K.map aQ) (ds.map .lst)) else none)=_
 have f1:bS (K.map aQ).length=true:=by rw [List.length_map];exact Nat.ble_eq_true_of_le (by rw [bh];lia -abstractProof)
 have f2:d0 (K.map aQ) []=true:=cv.fresh K [] hK
 rw [f1,f2,List.map_map]
 show o1 (qH _ _ _ (K.map fun k=>((fun _=>[]) k:List Kn).map aQ)) _=_
 rw [e1]
 show some (T.dct (K.map aQ) ((K.map fun k=>(bk k).map aQ).map .lst))=_
 rw [List.map_map];rfl
theorem vH (n:Nat):Builtin.Range.rangeSize 0 n 1=n:=by
 unfold Builtin.Range.rangeSize
 simp only [show (1:Int) > 0 by decide,if_true,Int.ediv_one]
 split<;>lia -abstractProof
theorem eH {n:Nat}(h:n≤100000):r5 [.int n]=some ((List.range n).map fun j:Nat=>T.int j):=by
 have e:cn 0 n 1=(List.range n).map fun j:Nat=>T.int j:=by
  rw [cn,vH]
  exact List.map_congr_left fun k _=>by rw [Int.zero_add,Int.mul_one]
 unfold r5
 show rg 0 n=_
 rw [rg,e,show sm 0=true from rfl,lz (by rw [bh];lia),List.length_map,List.length_range,show bS n=true from Nat.ble_eq_true_of_le (by rw [bh];lia)];rfl
theorem ip {α:Type}(q:α→Bool):∀C:List α,eB (C.map fun k=>.bool (q k))=some (C.map q)
 | []=>rfl
 |a::C=>by rw [List.map_cons,eB,ip q C];rfl
theorem any_map {α:Type}(C:List α)(q:α→Bool):s4 (.lst (C.map fun k=>.bool (q k)))=some (.bool (C.any q)):=by
 show o1 (eB _) _=_
 rw [ip]
 exact congrArg (fun b=>some (T.bool b)) (List.any_map.trans rfl)
theorem all_map {α:Type}(C:List α)(q:α→Bool):ju (.lst (C.map fun k=>.bool (q k)))=some (.bool (C.all q)):=by
 show o1 (eB _) _=_
 rw [ip]
 exact congrArg (fun b=>some (T.bool b)) (List.all_map.trans rfl)
theorem mD {α:Type}(l:List α):cut (some 1) none l=l.drop 1:=by
 cases l with
 |nil=>rfl
 |cons a l=>
  have e:clipAt (a::l).length 1=1:=(mJ _ 1).trans (Nat.min_eq_left (Nat.succ_le_succ (Nat.zero_le _)))
  simp only [cut,Option.elim,e]
  rw [List.drop_one,List.tail_cons,List.length_cons,Nat.add_sub_cancel,List.take_length]
theorem fO {α:Type}(n:Nat)(l:List α):cut none (some (n:Int)) l=l.take n:=by
 have e:clipAt l.length n=min n l.length:=mJ _ _
 simp only [cut,Option.elim,e,List.drop_zero,Nat.sub_zero]
 rw [←List.take_take,List.take_length]
theorem qY {α:Type}(l:List α):cut none (some (-1)) l=l.dropLast:=by
 have e:clipAt l.length (-1)=l.length - 1:=t5 _
 simp only [cut,Option.elim,e,List.drop_zero,Nat.sub_zero,List.dropLast_eq_take]
theorem xC {α:Type}(l:List α)(a:α):cut (some (-1)) none (l++[a])=[a]:=by
 have e:clipAt (l++[a]).length (-1)=l.length:=by rw [t5,List.length_append];rfl
 simp only [cut,Option.elim,e]
 rw [List.drop_left,List.length_append,List.length_cons,List.length_nil,Nat.add_sub_cancel_left];rfl
theorem tX {α β:Type}(f:α→β)(lo hi:Option Int)(l:List α):cut lo hi (l.map f)=(cut lo hi l).map f:=by
 unfold cut;rw [List.length_map,List.map_take,List.map_drop]
end
end Mine
namespace Mine.L10
noncomputable section
open PySem
noncomputable abbrev kE (f:Nat):PK aH:=fun _ σ=>bif kM f then .bad else .ret .none σ
theorem aG {n f:Nat}{args:List T}{σ:Sg}{F:fY}{o:cc}(h:Ψ f=some F)(hl:Nat.beq args.length F.np=true)(hb:F.body ⟨ai Ψ n⟩ (frame args F.ns) σ (kE f)=o)(ho:(match o with |.ret _ _=>true |.exc _ _=>true |_=>false)=true):ai Ψ (n+1) f args σ=o:=by
 rw [t7,h]
 show (bif Nat.beq args.length F.np then (match F.body ⟨ai Ψ n⟩ (frame args F.ns) σ (kE f) with
  |.ret t σ=>cc.ret t σ
  |.exc c σ=>.exc c σ
  |_=>.bad) else .bad)=o
 rw [hl,hb]
 cases o<;>first |rfl |cases ho
theorem cH {n f:Nat}{args:List T}{σ:Sg}{F:fY}{Q:T→Sg→Prop}(h:Ψ f=some F)(hl:Nat.beq args.length F.np=true)(hb:aY Q (F.body ⟨ai Ψ n⟩ (frame args F.ns) σ (kE f))):aY Q (ai Ψ (n+1) f args σ):=by
 obtain ⟨t,σ',h1,h2⟩:=hb
 exact ⟨t,σ',aG h hl h1 rfl,h2⟩
theorem vb {n:Nat}{a0:T}{σ σ':Sg}{t:T}(h:jG ⟨ai Ψ n⟩ [some a0,none] σ (kE 1)=.ret t σ'):ai Ψ (n+1) 1 [a0] σ=.ret t σ':=aG (F:=⟨1,1,jG⟩) rfl rfl h rfl
theorem sR {n:Nat}{a0:T}{σ σ':Sg}{t:T}(h:iw ⟨ai Ψ n⟩ [some a0] σ (kE 2)=.ret t σ'):ai Ψ (n+1) 2 [a0] σ=.ret t σ':=aG (F:=⟨1,0,iw⟩) rfl rfl h rfl
theorem mZ {n:Nat}{a0:T}{σ σ':Sg}{t:T}(h:iy ⟨ai Ψ n⟩ [some a0] σ (kE 3)=.ret t σ'):ai Ψ (n+1) 3 [a0] σ=.ret t σ':=aG (F:=⟨1,0,iy⟩) rfl rfl h rfl
theorem rh {n:Nat}{a0 a1:T}{σ σ':Sg}{t:T}(h:gv ⟨ai Ψ n⟩ [some a0,some a1,none] σ (kE 4)=.ret t σ'):ai Ψ (n+1) 4 [a0,a1] σ=.ret t σ':=aG (F:=⟨2,1,gv⟩) rfl rfl h rfl
theorem ri {n:Nat}{a0:T}{σ σ':Sg}{t:T}(h:gw ⟨ai Ψ n⟩ [some a0] σ (kE 5)=.ret t σ'):ai Ψ (n+1) 5 [a0] σ=.ret t σ':=aG (F:=⟨1,0,gw⟩) rfl rfl h rfl
theorem rc {n:Nat}{a0:T}{σ σ':Sg}{t:T}(h:gu ⟨ai Ψ n⟩ [some a0,none] σ (kE 6)=.ret t σ'):ai Ψ (n+1) 6 [a0] σ=.ret t σ':=aG (F:=⟨1,1,gu⟩) rfl rfl h rfl
theorem sU {n:Nat}{a0:T}{σ σ':Sg}{t:T}(h:iz ⟨ai Ψ n⟩ [some a0,none,none,none,none] σ (kE 500)=.ret t σ'):ai Ψ (n+1) 500 [a0] σ=.ret t σ':=aG (F:=⟨1,4,iz⟩) rfl rfl h rfl
theorem nM {n:Nat}{a0:T}{σ σ':Sg}{t:T}(h:eM ⟨ai Ψ n⟩ [some a0] σ (kE 7)=.ret t σ'):ai Ψ (n+1) 7 [a0] σ=.ret t σ':=aG (F:=⟨1,0,eM⟩) rfl rfl h rfl
theorem sT {n:Nat}{a0 a1:T}{σ σ':Sg}{t:T}(h:ix ⟨ai Ψ n⟩ [some a0,some a1] σ (kE 15)=.ret t σ'):ai Ψ (n+1) 15 [a0,a1] σ=.ret t σ':=aG (F:=⟨2,0,ix⟩) rfl rfl h rfl
theorem nN {n:Nat}{a0 a1:T}{σ σ':Sg}{t:T}(h:eN ⟨ai Ψ n⟩ [some a0,some a1,none,none] σ (kE 16)=.ret t σ'):ai Ψ (n+1) 16 [a0,a1] σ=.ret t σ':=aG (F:=⟨2,2,eN⟩) rfl rfl h rfl
theorem cI {n:Nat}{a0:T}{σ σ':Sg}{t:T}(h:eO ⟨ai Ψ n⟩ [some a0,none,none,none,none] σ (kE 8)=.ret t σ'):ai Ψ (n+1) 8 [a0] σ=.ret t σ':=aG (F:=⟨1,4,eO⟩) rfl rfl h rfl
theorem vc {n:Nat}{a0 a1 a2:T}{σ σ':Sg}{t:T}(h:jH ⟨ai Ψ n⟩ [some a0,some a1,some a2] σ (kE 9)=.ret t σ'):ai Ψ (n+1) 9 [a0,a1,a2] σ=.ret t σ':=aG (F:=⟨3,0,jH⟩) rfl rfl h rfl
theorem dM {n:Nat}{a0 a1 a2 a3:T}{σ σ':Sg}{t:T}(h:oV ⟨ai Ψ n⟩ [some a0,some a1,some a2,some a3,none] σ (kE 10)=.ret t σ'):ai Ψ (n+1) 10 [a0,a1,a2,a3] σ=.ret t σ':=aG (F:=⟨4,1,oV⟩) rfl rfl h rfl
theorem mQ {n:Nat}{a0 a1 a2 a3:T}{σ σ':Sg}{t:T}(h:lQ ⟨ai Ψ n⟩ [some a0,some a1,some a2,some a3] σ (kE 11)=.ret t σ'):ai Ψ (n+1) 11 [a0,a1,a2,a3] σ=.ret t σ':=aG (F:=⟨4,0,lQ⟩) rfl rfl h rfl
theorem ve {n:Nat}{a0 a1 a2:T}{σ σ':Sg}{t:T}(h:jI ⟨ai Ψ n⟩ [some a0,some a1,some a2,none] σ (kE 12)=.ret t σ'):ai Ψ (n+1) 12 [a0,a1,a2] σ=.ret t σ':=aG (F:=⟨3,1,jI⟩) rfl rfl h rfl
theorem nK {n:Nat}{a0:T}{σ σ':Sg}{t:T}(h:eK ⟨ai Ψ n⟩ [some a0,none] σ (kE 13)=.ret t σ'):ai Ψ (n+1) 13 [a0] σ=.ret t σ':=aG (F:=⟨1,1,eK⟩) rfl rfl h rfl
theorem mY {n:Nat}{a0 a1 a2 a3:T}{σ σ':Sg}{t:T}(h:lT ⟨ai Ψ n⟩ [some a0,some a1,some a2,some a3] σ (kE 14)=.ret t σ'):ai Ψ (n+1) 14 [a0,a1,a2,a3] σ=.ret t σ':=aG (F:=⟨4,0,lT⟩) rfl rfl h rfl
theorem sS {n:Nat}{a0:T}{σ σ':Sg}{t:T}(h:ui ⟨ai Ψ n⟩ [some a0,none,none,none,none] σ (kE 35)=.ret t σ'):ai Ψ (n+1) 35 [a0] σ=.ret t σ':=aG (F:=⟨1,4,ui⟩) rfl rfl h rfl
theorem pL {n:Nat}{a0 a1:T}{σ σ':Sg}{t:T}(h:fB ⟨ai Ψ n⟩ [some a0,some a1] σ (kE 37)=.ret t σ'):ai Ψ (n+1) 37 [a0,a1] σ=.ret t σ':=aG (F:=⟨2,0,fB⟩) rfl rfl h rfl
theorem q8 {n:Nat}{a0 a1 a2:T}{σ σ':Sg}{t:T}(h:gr ⟨ai Ψ n⟩ [some a0,some a1,some a2,none,none,none,none] σ (kE 53)=.ret t σ'):ai Ψ (n+1) 53 [a0,a1,a2] σ=.ret t σ':=aG (F:=⟨3,4,gr⟩) rfl rfl h rfl
theorem fQ {n:Nat}{a0 a1 a2:T}{σ σ':Sg}{t:T}(h:eL ⟨ai Ψ n⟩ [some a0,some a1,some a2,none,none,none,none,none,none,none,none,none] σ (kE 54)=.ret t σ'):ai Ψ (n+1) 54 [a0,a1,a2] σ=.ret t σ':=aG (F:=⟨3,9,eL⟩) rfl rfl h rfl
theorem xN {n:Nat}{a0 a1 a2:T}{σ σ':Sg}{t:T}(h:lR ⟨ai Ψ n⟩ [some a0,some a1,some a2] σ (kE 55)=.ret t σ'):ai Ψ (n+1) 55 [a0,a1,a2] σ=.ret t σ':=aG (F:=⟨3,0,lR⟩) rfl rfl h rfl
theorem Ag {n:Nat}{a0 a1 a2:T}{σ σ':Sg}{t:T}(h:oW ⟨ai Ψ n⟩ [some a0,some a1,some a2] σ (kE 56)=.ret t σ'):ai Ψ (n+1) 56 [a0,a1,a2] σ=.ret t σ':=aG (F:=⟨3,0,oW⟩) rfl rfl h rfl
theorem m5 {n:Nat}{a0:T}{σ σ':Sg}{t:T}(h:iB ⟨ai Ψ n⟩ [some a0,none,none] σ (kE 21)=.ret t σ'):ai Ψ (n+1) 21 [a0] σ=.ret t σ':=aG (F:=⟨1,2,iB⟩) rfl rfl h rfl
theorem pM {n:Nat}{a0:T}{σ σ':Sg}{t:T}(h:fE ⟨ai Ψ n⟩ [some a0,none,none,none,none] σ (kE 22)=.ret t σ'):ai Ψ (n+1) 22 [a0] σ=.ret t σ':=aG (F:=⟨1,4,fE⟩) rfl rfl h rfl
theorem pN {n:Nat}{a0 a1 a2:T}{σ σ':Sg}{t:T}(h:fF ⟨ai Ψ n⟩ [some a0,some a1,some a2,none,none,none] σ (kE 44)=.ret t σ'):ai Ψ (n+1) 44 [a0,a1,a2] σ=.ret t σ':=aG (F:=⟨3,3,fF⟩) rfl rfl h rfl
theorem rj {n:Nat}{a0 a1 a2:T}{σ σ':Sg}{t:T}(h:gz ⟨ai Ψ n⟩ [some a0,some a1,some a2,none] σ (kE 45)=.ret t σ'):ai Ψ (n+1) 45 [a0,a1,a2] σ=.ret t σ':=aG (F:=⟨3,1,gz⟩) rfl rfl h rfl
theorem bE {n:Nat}{a0 a1 a2:T}{σ σ':Sg}{t:T}(h:bb ⟨ai Ψ n⟩ [some a0,some a1,some a2,none,none,none,none,none,none,none,none,none,none,none,none] σ (kE 46)=.ret t σ'):ai Ψ (n+1) 46 [a0,a1,a2] σ=.ret t σ':=aG (F:=⟨3,12,bb⟩) rfl rfl h rfl
theorem iF {n:Nat}{a0 a1 a2 a3:T}{σ σ':Sg}{t:T}(h:bX ⟨ai Ψ n⟩ [some a0,some a1,some a2,some a3,none,none,none,none,none,none,none,none,none] σ (kE 49)=.ret t σ'):ai Ψ (n+1) 49 [a0,a1,a2,a3] σ=.ret t σ':=aG (F:=⟨4,9,bX⟩) rfl rfl h rfl
theorem nO {n:Nat}{a0 a1:T}{σ σ':Sg}{t:T}(h:cG ⟨ai Ψ n⟩ [some a0,some a1,none,none,none,none,none,none,none,none,none,none] σ (kE 64)=.ret t σ'):ai Ψ (n+1) 64 [a0,a1] σ=.ret t σ':=aG (F:=⟨2,10,cG⟩) rfl rfl h rfl
theorem m4 {n:Nat}{a0 a1:T}{σ σ':Sg}{t:T}(h:cr ⟨ai Ψ n⟩ [some a0,some a1,none,none,none,none,none,none] σ (kE 65)=.ret t σ'):ai Ψ (n+1) 65 [a0,a1] σ=.ret t σ':=aG (F:=⟨2,6,cr⟩) rfl rfl h rfl
theorem iG {n:Nat}{a0 a1 a2 a3:T}{σ σ':Sg}{t:T}(h:cO ⟨ai Ψ n⟩ [some a0,some a1,some a2,some a3,none,none,none] σ (kE 1006)=.ret t σ'):ai Ψ (n+1) 1006 [a0,a1,a2,a3] σ=.ret t σ':=aG (F:=⟨4,3,cO⟩) rfl rfl h rfl
theorem m6 {n:Nat}{a0 a1:T}{σ σ':Sg}{t:T}(h:dX ⟨ai Ψ n⟩ [some a0,some a1] σ (kE 1007)=.ret t σ'):ai Ψ (n+1) 1007 [a0,a1] σ=.ret t σ':=aG (F:=⟨2,0,dX⟩) rfl rfl h rfl
theorem kO {n:Nat}{a0 a1:T}{σ σ':Sg}{t:T}(h:dA ⟨ai Ψ n⟩ [some a0,some a1] σ (kE 1008)=.ret t σ'):ai Ψ (n+1) 1008 [a0,a1] σ=.ret t σ':=aG (F:=⟨2,0,dA⟩) rfl rfl h rfl
theorem jS {n:Nat}{a0:T}{σ σ':Sg}{t:T}(h:de ⟨ai Ψ n⟩ [some a0] σ (kE 1009)=.ret t σ'):ai Ψ (n+1) 1009 [a0] σ=.ret t σ':=aG (F:=⟨1,0,de⟩) rfl rfl h rfl
theorem ku {n:Nat}{a0 a1 a2:T}{σ σ':Sg}{t:T}(h:gE ⟨ai Ψ n⟩ [some a0,some a1,some a2] σ (kE 1005)=.ret t σ'):ai Ψ (n+1) 1005 [a0,a1,a2] σ=.ret t σ':=aG (F:=⟨3,0,gE⟩) rfl rfl h rfl
theorem oO {n:Nat}{a0:T}{σ:Sg}{Q:T→Sg→Prop}(h:aY Q (fy ⟨ai Ψ n⟩ [some a0,none,none,none,none,none,none,none] σ (kE 34))):aY Q (ai Ψ (n+1) 34 [a0] σ):=cH (F:=⟨1,7,fy⟩) rfl rfl h
theorem qo {n:Nat}{a0:T}{σ:Sg}{Q:T→Sg→Prop}(h:aY Q (gx ⟨ai Ψ n⟩ [some a0,none,none,none,none,none,none,none] σ (kE 36))):aY Q (ai Ψ (n+1) 36 [a0] σ):=cH (F:=⟨1,7,gx⟩) rfl rfl h
theorem yS {n:Nat}{a0 a1:T}{σ:Sg}{Q:T→Sg→Prop}(h:aY Q (oU ⟨ai Ψ n⟩ [some a0,some a1,none,none] σ (kE 38))):aY Q (ai Ψ (n+1) 38 [a0,a1] σ):=cH (F:=⟨2,2,oU⟩) rfl rfl h
theorem uy {n:Nat}{a0 a1 a2:T}{σ:Sg}{Q:T→Sg→Prop}(h:aY Q (jF ⟨ai Ψ n⟩ [some a0,some a1,some a2,none,none,none,none,none] σ (kE 39))):aY Q (ai Ψ (n+1) 39 [a0,a1,a2] σ):=cH (F:=⟨3,5,jF⟩) rfl rfl h
theorem qm {n:Nat}{a0 a1:T}{σ:Sg}{Q:T→Sg→Prop}(h:aY Q (gt ⟨ai Ψ n⟩ [some a0,some a1,none] σ (kE 40))):aY Q (ai Ψ (n+1) 40 [a0,a1] σ):=cH (F:=⟨2,1,gt⟩) rfl rfl h
theorem ux {n:Nat}{a0 a1:T}{σ:Sg}{Q:T→Sg→Prop}(h:aY Q (jE ⟨ai Ψ n⟩ [some a0,some a1,none,none,none,none,none,none] σ (kE 41))):aY Q (ai Ψ (n+1) 41 [a0,a1] σ):=cH (F:=⟨2,6,jE⟩) rfl rfl h
theorem qp {n:Nat}{a0 a1:T}{σ:Sg}{Q:T→Sg→Prop}(h:aY Q (gy ⟨ai Ψ n⟩ [some a0,some a1,none,none,none] σ (kE 42))):aY Q (ai Ψ (n+1) 42 [a0,a1] σ):=cH (F:=⟨2,3,gy⟩) rfl rfl h
theorem vX {n:Nat}{a0 a1:T}{σ:Sg}{Q:T→Sg→Prop}(h:aY Q (lS ⟨ai Ψ n⟩ [some a0,some a1,none,none,none,none,none,none,none] σ (kE 43))):aY Q (ai Ψ (n+1) 43 [a0,a1] σ):=cH (F:=⟨2,7,lS⟩) rfl rfl h
theorem lK {n:Nat}{a0 a1:T}{σ:Sg}{Q:T→Sg→Prop}(h:aY Q (dU ⟨ai Ψ n⟩ [some a0,some a1] σ (kE 17))):aY Q (ai Ψ (n+1) 17 [a0,a1] σ):=cH (F:=⟨2,0,dU⟩) rfl rfl h
theorem qv {n:Nat}{a0 a1:T}{σ:Sg}{Q:T→Sg→Prop}(h:aY Q (gD ⟨ai Ψ n⟩ [some a0,some a1,none] σ (kE 18))):aY Q (ai Ψ (n+1) 18 [a0,a1] σ):=cH (F:=⟨2,1,gD⟩) rfl rfl h
theorem oQ {n:Nat}{a0:T}{σ:Sg}{Q:T→Sg→Prop}(h:aY Q (fC ⟨ai Ψ n⟩ [some a0,none,none,none,none,none,none,none,none,none] σ (kE 19))):aY Q (ai Ψ (n+1) 19 [a0] σ):=cH (F:=⟨1,9,fC⟩) rfl rfl h
theorem qr {n:Nat}{a0 a1 a2 a3:T}{σ:Sg}{Q:T→Sg→Prop}(h:aY Q (gB ⟨ai Ψ n⟩ [some a0,some a1,some a2,some a3,none,none,none,none,none] σ (kE 20))):aY Q (ai Ψ (n+1) 20 [a0,a1,a2,a3] σ):=cH (F:=⟨4,5,gB⟩) rfl rfl h
theorem r8 {n:Nat}{a0 a1:T}{σ:Sg}{Q:T→Sg→Prop}(h:aY Q (iA ⟨ai Ψ n⟩ [some a0,some a1] σ (kE 23))):aY Q (ai Ψ (n+1) 23 [a0,a1] σ):=cH (F:=⟨2,0,iA⟩) rfl rfl h
theorem qq {n:Nat}{a0 a1 a2:T}{σ:Sg}{Q:T→Sg→Prop}(h:aY Q (gA ⟨ai Ψ n⟩ [some a0,some a1,some a2,none,none,none] σ (kE 24))):aY Q (ai Ψ (n+1) 24 [a0,a1,a2] σ):=cH (F:=⟨3,3,gA⟩) rfl rfl h
theorem lJ {n:Nat}{a0 a1 a2 a3:T}{σ:Sg}{Q:T→Sg→Prop}(h:aY Q (dT ⟨ai Ψ n⟩ [some a0,some a1,some a2,some a3,none,none,none,none,none,none] σ (kE 25))):aY Q (ai Ψ (n+1) 25 [a0,a1,a2,a3] σ):=cH (F:=⟨4,6,dT⟩) rfl rfl h
theorem oP {n:Nat}{a0 a1:T}{σ:Sg}{Q:T→Sg→Prop}(h:aY Q (cV ⟨ai Ψ n⟩ [some a0,some a1,none,none,none,none] σ (kE 47))):aY Q (ai Ψ (n+1) 47 [a0,a1] σ):=cH (F:=⟨2,4,cV⟩) rfl rfl h
theorem qs {n:Nat}{a0 a1:T}{σ:Sg}{Q:T→Sg→Prop}(h:aY Q (dt ⟨ai Ψ n⟩ [some a0,some a1,none,none,none,none] σ (kE 66))):aY Q (ai Ψ (n+1) 66 [a0,a1] σ):=cH (F:=⟨2,4,dt⟩) rfl rfl h
theorem lM {n:Nat}{a0 a1 a2:T}{σ:Sg}{Q:T→Sg→Prop}(h:aY Q (dW ⟨ai Ψ n⟩ [some a0,some a1,some a2,none,none] σ (kE 1001))):aY Q (ai Ψ (n+1) 1001 [a0,a1,a2] σ):=cH (F:=⟨3,2,dW⟩) rfl rfl h
theorem r9 {n:Nat}{a0:T}{σ:Sg}{Q:T→Sg→Prop}(h:aY Q (iC ⟨ai Ψ n⟩ [some a0,none,none,none,none,none] σ (kE 1002))):aY Q (ai Ψ (n+1) 1002 [a0] σ):=cH (F:=⟨1,5,iC⟩) rfl rfl h
theorem oR {n:Nat}{a0 a1:T}{σ:Sg}{Q:T→Sg→Prop}(h:aY Q (fG ⟨ai Ψ n⟩ [some a0,some a1,none,none,none,none] σ (kE 1003))):aY Q (ai Ψ (n+1) 1003 [a0,a1] σ):=cH (F:=⟨2,4,fG⟩) rfl rfl h
theorem gp {n:Nat}{a0 a1 a2:T}{σ:Sg}{Q:T→Sg→Prop}(h:aY Q (cu ⟨ai Ψ n⟩ [some a0,some a1,some a2,none,none] σ (kE 1004))):aY Q (ai Ψ (n+1) 1004 [a0,a1,a2] σ):=cH (F:=⟨3,2,cu⟩) rfl rfl h
section
variable {b p m kn:T} {K:List Kn} {bg:Nat} {th:Kn→List Kn} {σ:Sg}
noncomputable def CG (w:T)(found met:List Kn)(r:List (Option T)):aH:=some w::some (.lst (found.map aQ))::some (jL met)::r
theorem qS {p:Prop} [Decidable p] (h:(!decide p)=true):¬p:=fun q=>by rw [decide_eq_true q] at h;cases h
theorem qT {p:Prop} [Decidable p] (h:(!decide p)=false):p:=by
 cases q:decide p with
 |true=>exact of_decide_eq_true q
 |false=>rw [q] at h;cases h
theorem wH {found met:List Kn}{st:List (Kn×Nat)}(hl:K.length≤1000)(D:pY th K found st met):met.length < lim:=by
 have:=aS D.ndm D.sub
 rw [bh];lia -abstractProof
theorem Br {w:T}{f m:List Kn}{x3 x5 x6 x7:Option T}(S:List (Kn×Nat))(k:Kn)(n:Nat):(o1 (bC (CG w f m [x3,some (.lst ((S++[(k,n)]).map AF)),x5,x6,x7]) 4) fun x=>o1 (fZ x) fun xs=>o1 xs.getLast? fun t=>o1 (pP t) fun ts=>dI [5,6] ts (List.set (CG w f m [x3,some (.lst ((S++[(k,n)]).map AF)),x5,x6,x7]) 4 (some (.lst xs.dropLast))))=some (CG w f m [x3,some (.lst (S.map AF)),some (aQ k),some (.int n),x7]):=by
 show (o1 ((S++[(k,n)]).map AF).getLast? fun t=>o1 (pP t) fun ts=>dI [5,6] ts (List.set (CG w f m [x3,some (.lst ((S++[(k,n)]).map AF)),x5,x6,x7]) 4 (some (.lst ((S++[(k,n)]).map AF).dropLast))))=_
 rw [List.map_append,List.map_cons,List.map_nil,List.getLast?_concat,List.dropLast_concat];rfl
theorem pZ (met:List Kn):∀K:List Kn,ei th met K≤ei th [] K
 | []=>Nat.le_refl _
 |x::r=>by
  rw [jz,jz,if_neg (show x∉[] from fun h=>nomatch h)]
  refine Nat.add_le_add ?_ (pZ met r)
  by_cases h:x∈met
  ·rw [if_pos h];exact Nat.zero_le _
  ·rw [if_neg h];exact Nat.le_refl _
inductive LI (W:T) (th:Kn→List Kn) (K:List Kn) (σ:Sg):List Kn→aH→Sg→Prop
 |mk {pre found met:List Kn} {x3 x4 x5 x6 x7:Option T} (D:pY th K found [] met) (hm:∀x∈pre,x∈met):LI W th K σ pre (CG W found met [x3,x4,x5,x6,x7]) σ
inductive LW (W:T) (th:Kn→List Kn) (K:List Kn) (σ:Sg) (a:Kn) (pre:List Kn):List Kn×List (Kn×Nat)×List Kn→aH→Sg→Prop
 |mk {found:List Kn} {st:List (Kn×Nat)} {met:List Kn} {x5 x6 x7:Option T} (D:pY th K found st met) (hm:∀x∈pre,x∈met) (ha:a∈met):LW W th K σ a pre (found,st,met) (CG W found met [some (aQ a),some (.lst (st.map AF)),x5,x6,x7]) σ
theorem zu (hK:K.Nodup)(hK1:K.length≤1000)(hc:∀k∈K,∀y∈th k,y∈K)(hs:ei th [] K < 20000)(hw:∀k∈K,(th k).length≤1000)(n:Nat):aY (fun t σ'=>σ'=σ∧∃L:List Kn,t=.lst (L.map aQ)∧L.Nodup∧(∀x,x∈L↔x∈K)∧EM th L) (ai Ψ (n+1) 34 [eF b p m kn K bg th] σ):=by
 refine oO ?_
 repeat (refine aB rfl ?_)
 refine qP (e:=aQ) (l:=K) (LI (eF b p m kn K bg th) th K σ) ?_ ?_ (pre:=[]) rfl (.mk .nil fun _ h=>nomatch h)
 ·rintro pre a suf _ _ hl @⟨found,met,x3,x4,x5,x6,x7,D,hm⟩ k hk
  refine dE (gZ met a) ?_
  refine eu (fun h=>?_) fun h=>?_
  ·have ha:=qS h
   have hk1:a∈K:=by rw [hl];exact List.mem_append_right _ (.head _)
   refine dE (jb ha (wH hK1 D)) ?_
   repeat (refine nG rfl ?_)
   refine jA (S:=List Kn×List (Kn×Nat)×List Kn) (LW (eF b p m kn K bg th) th K σ a pre) (fun s=>!s.2.1.isEmpty) (fun s=>ei th s.2.2 K+fu th s.2.1) ?_ ?_ ?_ (s:=(found,[(a,0)],met++[a])) ?_ ?_
   ·rintro _ _ _ @⟨found,st,met,x5,x6,x7,D,hm,ha⟩ k hk
    exact dE (Cd.some (by decide) st) hk
   ·rintro _ _ _ @⟨found,st,met,x5,x6,x7,D,hm,ha⟩ hg k hk
    rcases List.eq_nil_or_concat st with rfl | ⟨S,⟨kn,at_⟩,rfl⟩
    ·cases hg
    rw [List.concat_eq_append] at D hk ⊢
    have D:pY th K found (S++[(kn,at_)]) met:=D
    have kK:kn∈K:=D.sub kn ((D.same kn).mpr (.inr (by rw [List.map_append];exact List.mem_append_right _ (.head _))))
    refine aB (Br S kn at_) ?_
    have S1:fu th (S++[(kn,at_)])=fu th S+((th kn).length - at_+1):=iW _ _
    have tk1:at_≤(th kn).length:=(D.take (kn,at_) (List.mem_append_right _ (.head _))).1
    have fl:found.length < lim:=by
     have:=aS (List.nodup_append.mp D.nd).1 fun x hx=>D.sub x ((D.same x).mpr (.inl hx))
     rw [bh];lia -abstractProof
    have sl:S.length+2 < lim:=by
     have:=aS (List.nodup_append.mp D.nd).2.1 fun x hx=>D.sub x ((D.same x).mpr (.inr hx))
     rw [List.length_map,List.length_append] at this
     rw [bh];simp only [List.length_cons,List.length_nil] at this;lia -abstractProof
    refine dE (cv.get kK) ?_
    refine aB rfl ?_
    refine aB (d6 _ _) ?_
    refine eu (fun h=>?_) fun h=>?_
    ·have e:at_=(th kn).length:=by
      have:=of_decide_eq_true h
      rw [List.length_map] at this;lia -abstractProof
     refine dE (cD kn fl) ?_
     refine hk (found++[kn],S,met) _ _ ?_ ⟨D.leave e,hm,ha⟩
     show ei th met K+fu th S < ei th met K+fu th (S++[(kn,at_)])
     rw [S1];exact Nat.add_lt_add_left (Nat.lt_add_of_pos_right (Nat.succ_pos _)) _
    ·have e:at_ < (th kn).length:=by
      have:=of_decide_eq_false h
      rw [List.length_map] at this;lia -abstractProof
     have ty:(th kn)[at_]?=some (th kn)[at_]:=List.getElem?_eq_getElem e
     have yK:=hc kn kK _ (List.getElem_mem e)
     have tl:at_≤lim:=by rw [bh];have:=hw kn kK;lia
     generalize (th kn)[at_]=y at ty yK
     have S2:fu th (S++[(kn,at_+1)])=fu th S+((th kn).length - (at_+1)+1):=iW _ _
     refine dE (cD (kn,at_+1) (by lia -abstractProof)) ?_
     refine dE (cv.get kK) ?_
     refine dE (ba ty tl) ?_
     refine dE (gZ met y) ?_
     refine eu (fun h=>?_) fun h=>?_
     ·have hy:=qS h
      refine dE (jb hy (wH hK1 D)) ?_
      refine dE (cD (y,0) (by rw [List.length_append];exact Nat.lt_of_succ_lt sl)) ?_
      refine hk (found,S++[(kn,at_+1)]++[(y,0)],met++[y]) _ _ ?_ ⟨D.push ty yK hy,fun x hx=>List.mem_append_left _ (hm x hx),List.mem_append_left _ ha⟩
      show ei th (met++[y]) K+fu th (S++[(kn,at_+1)]++[(y,0)]) < ei th met K+fu th (S++[(kn,at_)])
      have:=jy (th:=th) hy yK
      have S3:fu th (S++[(kn,at_+1)]++[(y,0)])=fu th (S++[(kn,at_+1)])+((th y).length - 0+1):=iW _ _
      have q:(th kn).length - at_=(th kn).length - (at_+1)+1:=(Nat.succ_pred_eq_of_pos (Nat.sub_pos_of_lt e)).symm
      rw [S3,S2,S1,q,Nat.sub_zero]
      generalize (th kn).length - (at_+1)=c
      lia
     ·refine hk (found,S++[(kn,at_+1)],met) _ _ ?_ ⟨D.on ty (qT h),hm,ha⟩
      show ei th met K+fu th (S++[(kn,at_+1)]) < ei th met K+fu th (S++[(kn,at_)])
      have q:(th kn).length - at_=(th kn).length - (at_+1)+1:=(Nat.succ_pred_eq_of_pos (Nat.sub_pos_of_lt e)).symm
      rw [S2,S1,q];exact Nat.add_lt_add_left (Nat.add_lt_add_left (Nat.lt_succ_self _) _) _
   ·rintro _ _ _ @⟨found,st,met,x5,x6,x7,D,hm,ha⟩ hg
    cases st with
    |cons=>cases hg
    |nil=>
     refine hk _ _ (.mk D fun x hx=>?_)
     rcases List.mem_append.mp hx with hx |hx
     ·exact hm x hx
     ·rw [List.mem_singleton.mp hx];exact ha
   ·show ei th (met++[a]) K+((th a).length - 0+1+0) < 20000
    have:=jy (th:=th) ha hk1
    have:=pZ (th:=th) met K
    lia -abstractProof
   ·exact ⟨D.start hk1 ha,fun x hx=>List.mem_append_left _ (hm x hx),List.mem_append_right _ (.head _)⟩
  ·have ha:=qT h
   refine hk _ _ (.mk D fun x hx=>?_)
   rcases List.mem_append.mp hx with hx |hx
   ·exact hm x hx
   ·rw [List.mem_singleton.mp hx];exact ha
 ·rintro _ _ @⟨found,met,x3,x4,x5,x6,x7,D,hm⟩
  repeat (refine nG rfl ?_)
  refine ck ⟨rfl,found,rfl,?_,fun x=>?_,D.ord⟩
  ·have:=D.nd;rw [List.map_nil,List.append_nil] at this;exact this
  ·have:=D.same x
   simp only [List.map_nil,List.not_mem_nil,or_false] at this
   rw [←this];exact ⟨D.sub x,hm x⟩
end
section
variable {b p m kn:T} {K:List Kn} {bg:Nat} {th:Kn→List Kn} {σ:Sg}
noncomputable def xL (C:List Kn):T:=.lst (C.map aQ)
theorem zy {w t:T}(h:wK w=some t)(n:Nat):ai Ψ (n+1) 35 [w] σ=.ret t σ:=by
 refine sS ?_
 show (match wK w with |some t=>cc.ret t σ |none=>cc.bad)=_
 rw [h]
noncomputable abbrev cF (W:T)(bk:Kn→List Kn)(K m:List Kn)(Cs:List (List Kn))(x4 x5 x6 x7:Option T):aH:=[some W,some (.dct (K.map aQ) (K.map fun k=>.lst ((bk k).map aQ))),some (jL m),some (.lst (Cs.map xL)),x4,x5,x6,x7]
inductive CI (W:T) (bk th:Kn→List Kn) (K:List Kn) (σ:Sg):List Kn→aH→Sg→Prop
 |mk {pre:List Kn} {Cs:List (List Kn)} {x4 x5 x6 x7:Option T} (H:vm th K Cs) (hp:∀x∈pre,x∈Cs.flatten):CI W bk th K σ pre (cF W bk K Cs.flatten Cs x4 x5 x6 x7) σ
inductive CW (W:T) (bk th:Kn→List Kn) (K:List Kn) (σ:Sg) (a:Kn) (Cs:List (List Kn)):List Kn×Nat→aH→Sg→Prop
 |mk {C:List Kn} {i:Nat} {x7:Option T} (c:A7 th K Cs.flatten a C) (hi:i≤C.length) (hd:∀j c,j < i→C[j]?=some c→∀x∈K,c∈th x→x∈Cs.flatten++C):CW W bk th K σ a Cs (C,i) (cF W bk K (Cs.flatten++C) Cs (some (aQ a)) (some (.lst (C.map aQ))) (some (.int i)) x7) σ
inductive CX (W:T) (bk th:Kn→List Kn) (K:List Kn) (σ:Sg) (a y:Kn) (i:Nat) (Cs:List (List Kn)):List Kn→aH→Sg→Prop
 |mk {pre D:List Kn} {x7:Option T} (c:A7 th K Cs.flatten a D) (hy:D[i]?=some y) (hd:∀j c,j < i→D[j]?=some c→∀x∈K,c∈th x→x∈Cs.flatten++D) (hp:∀x∈pre,x∈Cs.flatten++D):CX W bk th K σ a y i Cs pre (cF W bk K (Cs.flatten++D) Cs (some (aQ a)) (some (.lst (D.map aQ))) (some (.int i)) x7) σ
theorem u9 (hK:K.Nodup)(hK1:K.length≤300)(hc:∀k∈K,∀y∈th k,y∈K)(hs:ei th [] K < 20000)(hw:∀k∈K,(th k).length≤1000)(n:Nat):aY (fun t σ'=>σ'=σ∧∃Cs:List (List Kn),t=.lst (Cs.map xL)∧vm th K Cs∧∀x∈K,x∈Cs.flatten) (ai Ψ (n+2) 36 [eF b p m kn K bg th] σ):=by
 obtain ⟨bk,hb1,hb2⟩:=zx (b:=b) (p:=p) (m:=m) (kn:=kn) (bg:=bg) hK (Nat.le_trans hK1 (by decide)) hc hw
 refine qo ?_
 repeat (refine nG rfl ?_)
 refine ig (zy hb1 n) ?_
 repeat (refine nG rfl ?_)
 refine bM (zu hK (Nat.le_trans hK1 (by decide)) hc hs hw n) ?_
 rintro _ σ ⟨rfl,L,rfl,ln,lm,lo⟩
 refine aB rfl ?_
 rw [←List.map_reverse]
 refine aB rfl ?_
 refine qP (e:=aQ) (l:=L.reverse) (CI (eF b p m kn K bg th) bk th K σ) ?_ ?_ (pre:=[]) rfl (.mk (Cs:=[]) .nil fun _ h=>nomatch h)
 ·rintro pre a suf _ _ hl @⟨Cs,x4,x5,x6,x7,H,hp⟩ k hk
  have hL:L=suf.reverse++a::pre.reverse:=by
   rw [←List.reverse_reverse L,hl,List.reverse_append,List.reverse_cons,List.append_assoc];rfl
  have aK:a∈K:=(lm a).mp (by rw [hL];exact List.mem_append_right _ (.head _))
  have fl:=aS H.nd H.sub
  have cl:∀C:List Kn,(∀x∈C,x∈Cs.flatten++C):=fun C x h=>List.mem_append_right _ h
  have nCs:Cs.length≤300:=by
   have:∀Ds:List (List Kn),(∀C∈Ds,C≠[])→Ds.length≤Ds.flatten.length:=fun Ds=>by
    induction Ds with
    |nil=>exact fun _=>Nat.le_refl _
    |cons D Ds ih=>
     intro h
     have:=ih fun C hC=>h C (.tail _ hC)
     have:=List.length_pos_iff.mpr (h D (.head _))
     rw [List.flatten_cons,List.length_append,List.length_cons];lia -abstractProof
   have:=this Cs H.ne
   lia
  refine dE (gZ _ a) ?_
  refine eu (fun h=>?_) fun h=>?_
  ·have ha:=qS h
   refine dE (jb ha (by rw [bh];lia -abstractProof)) ?_
   repeat (refine nG rfl ?_)
   refine jA (S:=List Kn×Nat) (CW (eF b p m kn K bg th) bk th K σ a Cs) (fun s=>decide ((s.2:Int) < ((s.1.map aQ).length:Int))) (fun s=>350 - s.2) ?_ ?_ ?_ (s:=([a],0)) (show 350 - 0 < 400 by decide) (.mk (.start H.nd aK ha) (Nat.zero_le _) fun i c h=>absurd h (Nat.not_lt_zero _))
   ·rintro _ _ _ @⟨C,i,x7,c,hi,hd⟩ k hk
    repeat (refine nG rfl ?_)
    refine aB rfl ?_
    exact aB rfl hk
   ·rintro _ _ _ @⟨C,i,x7,c,hi,hd⟩ hg k hk
    have hi:i < C.length:=by have:=of_decide_eq_true hg;rw [List.length_map] at this;exact Int.ofNat_lt.mp this
    have cK:=aS c.nd fun x hx=>(List.mem_append.mp hx).elim (H.sub x) (c.sub x)
    rw [List.length_append] at cK
    have hC:C[i]?=some C[i]:=List.getElem?_eq_getElem hi
    have cm:C[i]∈C:=List.getElem_mem hi
    generalize C[i]=y at hC cm
    refine dE (ba hC (by rw [bh];lia)) ?_
    refine aB (cv.get (c.sub y cm)) ?_
    refine aB rfl ?_
    refine qP (e:=aQ) (l:=bk y) (CX (eF b p m kn K bg th) bk th K σ a y i Cs) ?_ ?_ (pre:=[]) rfl (.mk c hC hd fun _ h=>nomatch h)
    ·rintro pre o suf _ _ hl @⟨D,x7,c,hy,hd,hp⟩ k hk
     have ho:=(hb2 y o).mp (by rw [hl];exact List.mem_append_right _ (.head _))
     have cK:=aS c.nd fun x hx=>(List.mem_append.mp hx).elim (H.sub x) (c.sub x)
     have dl:D.length < lim:=by rw [List.length_append] at cK;rw [bh];lia -abstractProof
     have ml:(Cs.flatten++D).length < lim:=by rw [bh];lia -abstractProof
     have ym:y∈D:=List.mem_of_getElem? hy
     refine dE (gZ _ o) ?_
     refine eu (fun h=>?_) fun h=>?_
     ·have no:=qS h
      refine dE (jb no ml) ?_
      refine dE (cD o dl) ?_
      rw [List.append_assoc]
      refine hk _ _ (.mk (D:=D++[o]) (c.push no ho.1 ym ho.2) ?_ (fun j z hj hz x hx e=>?_) fun x hx=>?_)
      ·rw [List.getElem?_append_left (List.getElem?_eq_some_iff.mp hy).1];exact hy
      ·rw [List.getElem?_append_left (Nat.lt_trans hj (List.getElem?_eq_some_iff.mp hy).1)] at hz
       rw [←List.append_assoc];exact List.mem_append_left _ (hd j z hj hz x hx e)
      ·rw [←List.append_assoc]
       rcases List.mem_append.mp hx with hx |hx
       ·exact List.mem_append_left _ (hp x hx)
       ·exact List.mem_append_right _ hx
     ·refine hk _ _ (.mk c hy hd fun x hx=>?_)
      rcases List.mem_append.mp hx with hx |hx
      ·exact hp x hx
      ·rw [List.mem_singleton.mp hx];exact qT h
    ·rintro _ _ @⟨D,x7,c,hy,hd,hp⟩
     have li:=(List.getElem?_eq_some_iff.mp hy).1
     repeat (refine nG rfl ?_)
     refine aB rfl ?_
     refine hk (D,i+1) _ _ (show 350 - (i+1) < 350 - i by lia) (.mk c li fun j z hj hz x hx e=>?_)
     rcases Nat.lt_succ_iff_lt_or_eq.mp hj with hj |rfl
     ·exact hd j z hj hz x hx e
     ·rw [show D[j]?=some y from hy] at hz;cases hz
      exact hp x ((hb2 y x).mpr ⟨hx,e⟩)
   ·rintro _ _ _ @⟨C,i,x7,c,hi,hd⟩ hg
    have hi:C.length≤i:=by have:=of_decide_eq_false hg;rw [List.length_map] at this;exact Nat.le_of_not_lt fun h=>this (Int.ofNat_lt.mpr h)
    refine dE (cD (e:=xL) C (by exact Nat.lt_of_le_of_lt (by assumption) (by decide))) ?_
    refine (fun h1 h2=>by have:=CI.mk (W:=eF b p m kn K bg th) (bk:=bk) (σ:=σ) (pre:=pre++[a]) (Cs:=Cs++[C]) (x4:=some (aQ a)) (x5:=some (.lst (C.map aQ))) (x6:=some (.int i)) (x7:=x7) (H.add lo ln (fun x hx=>(lm x).mpr hx) hL (fun x hx=>hp x (List.mem_reverse.mp hx)) c h1) h2;rw [cZ] at this;exact hk _ _ this) (fun z hz x hx e=>?_) (fun x hx=>?_)
    ·obtain ⟨j,hj⟩:=List.getElem?_of_mem hz
     exact hd j z (Nat.lt_of_lt_of_le (List.getElem?_eq_some_iff.mp hj).1 hi) hj x hx e
    ·rw [cZ]
     rcases List.mem_append.mp hx with hx |hx
     ·exact List.mem_append_left _ (hp x hx)
     ·rw [List.mem_singleton.mp hx];exact List.mem_append_right _ c.hd
  ·refine hk _ _ (.mk H fun x hx=>?_)
   rcases List.mem_append.mp hx with hx |hx
   ·exact hp x hx
   ·rw [List.mem_singleton.mp hx];exact qT h
 ·rintro _ _ @⟨Cs,x4,x5,x6,x7,H,hp⟩
  repeat (refine nG rfl ?_)
  exact ck ⟨rfl,Cs,rfl,H,fun x hx=>hp x (List.mem_reverse.mpr ((lm x).mpr hx))⟩
end
section
variable {b p m kn:T} {K:List Kn} {bg:Nat} {th:Kn→List Kn} {σ:Sg}
noncomputable def Ft:Option Kn→T
 |none=>.none
 |some k=>aQ k
noncomputable def io (l:List Kn)(f:Kn→Option Kn):T:=.dct (l.map aQ) (l.map fun k=>Ft (f k))
inductive BI (l:List Kn) (f:Kn→Option Kn) (P:List Kn) (σ:Sg):Option Kn×List Kn×List Kn→aH→Sg→Prop
 |done:BI l f P σ (none,P,[]) [some (io l f),some .none,some (.lst (P.map aQ))] σ
 |more {y:Kn} {fo re:List Kn} (hb:j2 f y re) (e:fo++re=P):BI l f P σ (some y,fo,re) [some (io l f),some (aQ y),some (.lst (fo.map aQ))] σ
theorem Aj {l:List Kn}{f:Kn→Option Kn}{x:Kn}{P:List Kn}(hB:j2 f x P)(hs:∀y∈P,y∈l)(hl:P.length≤300)(n:Nat):aY (fun t σ'=>σ'=σ∧t=.lst (P.reverse.map aQ)) (ai Ψ (n+1) 40 [io l f,aQ x] σ):=by
 refine qm ?_
 refine jA (S:=Option Kn×List Kn×List Kn) (BI l f P σ) (fun s=>s.1.isSome) (fun s=>s.2.2.length) ?_ ?_ ?_ (s:=(some x,[],P)) (show P.length < 400 by lia) (.more hB rfl)
 ·rintro _ _ _ (_ |_) k hk
  ·exact aB rfl (aB rfl hk)
  ·exact aB rfl (aB rfl hk)
 ·rintro _ _ _ (_ | @⟨y,fo,re,hb,e⟩) hg k hk
  ·cases hg
  ·have fl:fo.length < lim:=by have:=congrArg List.length e;rw [List.length_append] at this;rw [bh];lia
   have yl:=hs y (by rw [←e];cases hb<;>exact List.mem_append_right _ (.head _))
   refine dE (cD y fl) (dE (cv.get yl) ?_)
   cases hb with
   |nil e1=>rw [e1,e];exact hk (none,P,[]) _ _ Nat.zero_lt_one .done
   | @cons _ z q e1 hb=>rw [e1];exact hk (some z,fo++[y],q) _ _ (Nat.lt_succ_self _) (.more hb (by rw [List.append_assoc];exact e))
 ·rintro _ _ _ (_ |_) hg
  ·exact aB rfl (aB rfl (ck ⟨rfl,by rw [List.map_reverse]⟩))
  ·cases hg
theorem xM {l:List Kn}{f:Kn→Option Kn}{y here:Kn}(hy:y∉l)(hl:l.length < lim):dS (io l f) (aQ y) (aQ here)=some (io (l++[y]) fun x=>if x=y then some here else f x):=by
 rw [io,cv.put hy hl,io,List.map_append (f:=fun k=>Ft _)]
 refine congrArg some (congrArg (T.dct _) ?_)
 refine congr (congrArg _ (List.map_congr_left fun k hk=>?_)) ?_
 ·rw [if_neg fun (e:k=y)=>hy (e▸hk)]
 ·show _=[Ft (if y=y then some here else f y)]
  rw [if_pos rfl];rfl
theorem jR {v:T}:∀(l us:List Kn) (vs:List T),(us++l).Nodup→mw (l.map fun k=>.tup [aQ k,v]) (us.map aQ) vs=some ((us++l).map aQ,vs++l.map fun _=>v)
 | [],us,vs,_=>by
  rw [List.append_nil]
  show some (us.map aQ,vs)=some (us.map aQ,vs++[])
  rw [List.append_nil]
 |k::l,us,vs,h=>by
  have hk:k∉us:=fun q=>(List.nodup_append.mp h).2.2 k q k (.head _) rfl
  show o1 (kN (us.map aQ) (aQ k)) _=_
  rw [cv.fd,if_neg hk]
  show mw (l.map fun k=>.tup [aQ k,v]) (us.map aQ++[aQ k]) (vs++[v])=_
  have:=jR (v:=v) l (us++[k]) (vs++[v]) (by rw [List.append_assoc];exact h)
  rw [List.map_append] at this
  rw [show us.map aQ++[aQ k]=us.map aQ++[k].map aQ from rfl,this,List.append_assoc,List.append_assoc];rfl
theorem yU {w s g c:T}{here:Kn}{ws:List Kn}{x5 x6 x7:Option T}:(o1 (bC [some w,some s,some g,some c,some (.lst ((here::ws).map aQ)),x5,x6,x7] 4) fun x=>o1 (fZ x) fun xs=>o1 xs.head? fun y=>some ((List.set [some w,some s,some g,some c,some (.lst ((here::ws).map aQ)),x5,x6,x7] 4 (some (.lst xs.tail))).set 5 (some y)))=some [some w,some s,some g,some c,some (.lst (ws.map aQ)),some (aQ here),x6,x7]:=rfl
noncomputable abbrev pF (W:T)(starts goals l w:List Kn)(f:Kn→Option Kn)(x5 x6 x7:Option T):aH:=[some W,some (.lst (starts.map aQ)),some (.lst (goals.map aQ)),some (io l f),some (.lst (w.map aQ)),x5,x6,x7]
inductive PW (W:T) (th:Kn→List Kn) (K starts goals:List Kn) (σ:Sg):List Kn×List Kn×(Kn→Option Kn)→aH→Sg→Prop
 |mk {dn wt:List Kn} {f:Kn→Option Kn} {x5 x6 x7:Option T} (B:rT th K starts goals dn wt f):PW W th K starts goals σ (dn,wt,f) (pF W starts goals (dn++wt) wt f x5 x6 x7) σ
inductive PI (W:T) (th:Kn→List Kn) (K starts goals:List Kn) (σ:Sg) (dn:List Kn) (here:Kn):List Kn→aH→Sg→Prop
 |mk {pre w:List Kn} {f:Kn→Option Kn} {x6 x7:Option T} (B:rT th K starts goals dn (here::w) f) (hp:∀x∈pre,x∈dn++here::w):PI W th K starts goals σ dn here pre (pF W starts goals (dn++here::w) w f (some (aQ here)) x6 x7) σ
theorem oT {starts goals:List Kn}(hK1:K.length≤300)(hc:∀k∈K,∀y∈th k,y∈K)(hn:starts.Nodup)(hs:∀x∈starts,x∈K)(n:Nat):aY (fun t σ'=>σ'=σ∧∃P:List Kn,t=.lst (P.map aQ)∧((∃g∈goals,Ap th K starts g P)∨(P=[]∧∀s∈starts,∀g∈goals,¬kA th s g))) (ai Ψ (n+2) 39 [eF b p m kn K bg th,.lst (starts.map aQ),.lst (goals.map aQ)] σ):=by
 refine uy ?_
 repeat (refine nG rfl ?_)
 refine aB rfl ?_
 refine fP (e:=aQ) (l:=starts) (fun k=>.tup [aQ k,.none]) (fun a _=>⟨_,rfl,fun k=>by with_unfolding_all rfl⟩) ?_
 refine aB (a:=io starts fun _=>none) ?_ ?_
 ·show o1 (mw (starts.map fun k=>.tup [aQ k,.none]) ([].map aQ) []) _=_
  rw [jR starts [] [] hn];rfl
 repeat (refine nG rfl ?_)
 refine aB rfl ?_
 refine jA (S:=List Kn×List Kn×(Kn→Option Kn)) (PW (eF b p m kn K bg th) th K starts goals σ) (fun s=>!s.2.1.isEmpty) (fun s=>350 - s.1.length) ?_ ?_ ?_ (s:=([],starts,fun _=>none)) (show 350 - 0 < 400 by decide) (.mk (.start hn hs))
 ·rintro _ _ _ @⟨dn,wt,f,x5,x6,x7,B⟩ k hk
  exact dE (jO.some (by decide) wt) hk
 ·rintro _ _ _ @⟨dn,wt,f,x5,x6,x7,B⟩ hg k hk
  cases wt with
  |nil=>cases hg
  |cons here ws=>
   have B:rT th K starts goals dn (here::ws) f:=B
   have hm:here∈dn++here::ws:=List.mem_append_right _ (.head _)
   have hK:=B.sub here hm
   have ll:=aS B.nd B.sub
   rw [List.length_append,List.length_cons] at ll
   refine aB yU ?_
   refine dE (jO.mem (by decide) (l:=goals) trivial (fun _ _=>trivial) rfl) ?_
   refine eu (fun h=>?_) fun h=>?_
   ·obtain ⟨P,h1,h2,h3⟩:=B.way hm
    repeat (refine nG rfl ?_)
    refine bM (Aj h1 h2 (by have:=h3.len;rw [List.length_reverse] at this;lia -abstractProof) n) ?_
    rintro _ σ ⟨rfl,rfl⟩
    exact ck ⟨rfl,P.reverse,rfl,.inl ⟨here,of_decide_eq_true h,h3⟩⟩
   ·repeat (refine nG rfl ?_)
    refine dE (cv.get hK) ?_
    refine aB rfl ?_
    refine qP (e:=aQ) (l:=th here) (PI (eF b p m kn K bg th) th K starts goals σ dn here) ?_ ?_ (pre:=[]) rfl (.mk B fun _ h=>nomatch h)
    ·rintro pre o suf _ _ hl @⟨w,f,x6,x7,B,hp⟩ k hk
     have ho:o∈th here:=by rw [hl];exact List.mem_append_right _ (.head _)
     have ll:=aS B.nd B.sub
     have wl:w.length < lim:=by rw [List.length_append,List.length_cons] at ll;rw [bh];lia
     repeat (refine nG rfl ?_)
     refine aB (a:=!decide (o∈dn++here::w)) ?_ ?_
     ·show (AT _ _).map _=_
      rw [io,cv.has];rfl
     refine eu (fun h=>?_) fun h=>?_
     ·have no:=qS h
      repeat (refine nG rfl ?_)
      refine aB (xM no (by rw [bh];lia -abstractProof)) ?_
      refine dE (cD o wl) ?_
      have e:(dn++here::w)++[o]=dn++here::(w++[o]):=by rw [List.append_assoc];rfl
      rw [e]
      refine hk _ _ (.mk (w:=w++[o]) (B.push (List.mem_append_right _ (.head _)) ho (hc here hK o ho) no) fun x hx=>?_)
      rw [←e]
      rcases List.mem_append.mp hx with hx |hx
      ·exact List.mem_append_left _ (hp x hx)
      ·exact List.mem_append_right _ hx
     ·refine hk _ _ (.mk B fun x hx=>?_)
      rcases List.mem_append.mp hx with hx |hx
      ·exact hp x hx
      ·rw [List.mem_singleton.mp hx];exact qT h
    ·rintro _ _ @⟨w,f,x6,x7,B,hp⟩
     have e:(dn++[here])++w=dn++here::w:=by rw [List.append_assoc];rfl
     refine hk (dn++[here],w,f) _ _ ?_ (by rw [←e];exact .mk (B.done (of_decide_eq_false h) hp))
     show 350 - (dn++[here]).length < 350 - dn.length
     rw [List.length_append,List.length_cons,List.length_nil];lia
 ·rintro _ _ _ @⟨dn,wt,f,x5,x6,x7,B⟩ hg
  cases wt with
  |cons=>cases hg
  |nil=>exact ck ⟨rfl,[],rfl,.inr ⟨rfl,fun s hs g hg r=>B.none hs hg r⟩⟩
end
section
variable {b m kn:T} {ps:List T} {K:List Kn} {bg:Nat} {th:Kn→List Kn} {σ:Sg} {mt:Kn→Nat→Bool}
theorem vv {C:List Kn}(hC:∀x∈C,x∈K)(hp:ps.length≤1000){n:Nat}(hm:∀k∈K,∀j,j < ps.length→ai Ψ n 1005 [eF b (.lst ps) m kn K bg th,aQ k,.int j] σ=.ret (.bool (mt k j)) σ):
  aY (fun t σ'=>σ'=σ∧((t=.none∧∀j,j < ps.length→∃k∈C,mt k j=true)∨∃j:Nat,j < ps.length∧t=.int j∧∀k∈C,mt k j=false)) (ai Ψ (n+1) 38 [eF b (.lst ps) m kn K bg th,.lst (C.map aQ)] σ):=by
 refine yS ?_
 repeat (refine nG rfl ?_)
 refine aB rfl ?_
 refine aB rfl ?_
 refine aB (eH (Nat.le_trans hp (by decide))) ?_
 refine qP (e:=fun j:Nat=>T.int j) (l:=List.range ps.length) (fun pre ρ σ'=>σ'=σ∧(∃x2,ρ=[some (eF b (.lst ps) m kn K bg th),some (.lst (C.map aQ)),x2,none])∧∀j∈pre,∃k∈C,mt k j=true) ?_ ?_ (pre:=[]) rfl ⟨rfl,⟨_,rfl⟩,fun _ h=>nomatch h⟩
 ·rintro pre j suf _ σ hl ⟨rfl,⟨x2,rfl⟩,h⟩ k hk
  have hj:j < ps.length:=List.mem_range.mp (by rw [hl];exact List.mem_append_right _ (.head _))
  repeat (refine nG rfl ?_)
  refine aB rfl ?_
  refine fP (e:=aQ) (l:=C) (fun k=>.bool (mt k j)) (fun a ha=>⟨_,rfl,fun k=>?_⟩) ?_
  ·exact ab rfl (ab rfl (ab rfl (ao (hm a (hC a ha) j hj) rfl)))
  refine aB (a:=.bool (C.any fun k=>mt k j)) ?_ ?_
  ·exact any_map C _
  refine aB rfl ?_
  refine eu (fun q=>?_) fun q=>?_
  ·have q:(C.any fun k=>mt k j)=false:=by cases e:C.any fun k=>mt k j<;>rw [e] at q<;>first |rfl |cases q
   repeat (refine nG rfl ?_)
   refine ck ⟨rfl,.inr ⟨j,hj,rfl,fun x hx=>?_⟩⟩
   rw [List.any_eq_false] at q
   exact Bool.eq_false_iff.mpr (q x hx)
  ·have q:(C.any fun k=>mt k j)=true:=by cases e:C.any fun k=>mt k j<;>rw [e] at q<;>first |rfl |cases q
   refine hk _ _ ⟨rfl,⟨_,rfl⟩,fun i hi=>?_⟩
   rcases List.mem_append.mp hi with hi |hi
   ·exact h i hi
   ·rw [List.mem_singleton.mp hi];exact List.any_eq_true.mp q
 ·rintro _ σ ⟨rfl,⟨x2,rfl⟩,h⟩
  exact ck ⟨rfl,.inl ⟨rfl,fun j hj=>h j (List.mem_range.mpr hj)⟩⟩
theorem vQ {p:T}{c0:Kn}{r:List Kn}(h0:c0∈K)(n:Nat):ai Ψ (n+1) 37 [eF b p m kn K bg th,.lst ((c0::r).map aQ)] σ=.ret (.bool (!r.isEmpty||decide (c0∈th c0))) σ:=by
 refine pL ?_
 refine ab rfl (ab rfl (ab (a:=!r.isEmpty) ?_ ?_))
 ·show some (decide ((((c0::r).map aQ).length:Int) > 1))=_
  cases r with
  |nil=>rfl
  |cons d r=>exact congrArg some (decide_eq_true (by rw [List.length_map,List.length_cons,List.length_cons];lia -abstractProof))
 ·cases r with
  |cons=>rfl
  |nil=>
   refine ab rfl (ab (ba (i:=0) rfl (Nat.zero_le _)) (ab rfl (ab rfl (ab rfl (ab (ba (i:=0) rfl (Nat.zero_le _)) (ab (cv.get h0) (ab (jO.mem (by decide) (l:=th c0) trivial (fun _ _=>trivial) rfl) rfl)))))))
end
section
variable {b m kn:T} {ps:List T} {K:List Kn} {bg:Nat} {th:Kn→List Kn} {σ:Sg} {mt:Kn→Nat→Bool}
theorem cf {α:Type}{e:α→T}{l q:List α}(h:l.length+q.length≤lim):aC (.lst (l.map e)) (.lst (q.map e))=some (.lst ((l++q).map e)):=by
 show oj _ _=_
 rw [←List.map_append,List.length_map,List.length_append,oj,show bS (l.length+q.length)=true from Nat.ble_eq_true_of_le h];rfl
theorem cL {α:Type}{e:α→T}{l q:List α}{lo hi:Option Int}(h:cut lo hi l=q):bi (.lst (l.map e)) lo hi=some (.lst (q.map e)):=by
 rw [qi]
 show some (T.lst (cut lo hi (l.map e)))=_
 rw [tX,h]
theorem xb {α:Type}{e:α→T}(F:List α)(z:α):aj (.lst ((F++[z]).map e)) (.int (-1))=some (e z):=by
 have h:seqIndex? (-1) ((F++[z]).map e).length=some F.length:=by
  rw [List.length_map,List.length_append]
  show (if (decide (0≤(if (-1:Int) < 0 then -1+((F.length+1:Nat):Int) else -1))&&decide ((if (-1:Int) < 0 then -1+((F.length+1:Nat):Int) else -1) < ((F.length+1:Nat):Int)))=true then some (if (-1:Int) < 0 then -1+((F.length+1:Nat):Int) else -1).toNat else none)=_
  rw [if_pos (show (-1:Int) < 0 by decide),show (-1:Int)+((F.length+1:Nat):Int)=F.length from (Int.add_comm _ _).trans (Int.add_sub_cancel (F.length:Int) 1),decide_eq_true (Int.natCast_nonneg _),decide_eq_true (Int.ofNat_lt.mpr (Nat.lt_succ_self _))];rfl
 rw [tP,yu,show sm (-1)=true from rfl,cond_true,h,AJ,List.getElem?_map,List.getElem?_append_right (Nat.le_refl _),Nat.sub_self];rfl
noncomputable abbrev C8:PS:=ae (aw 5 (ax (aL (p2 idxD (p1 (m9 10 6) (pV 0)) (p2 aj (pV 2) (p1 kG (pC (.int 1)))))) (aM 7) (p2 fT (pV 7) (pV 1)) (pV 7)))
  (ae (au (p2 aC (pV 2) (p3 bi (am 39 (aa (pV 0) (aa (pV 5) (aa (p3 bi (pV 1) fS (p1 bN (pC (.int 1)))) ah)))) fS (p1 bN (p1 kG (pC (.int 1)))))))
  af)
theorem vR {c0 z:Kn}{r F:List Kn}{w:T}(hw:w=eF b (.lst ps) m kn K bg th)(hK1:K.length≤300)(hc:∀k∈K,∀y∈th k,y∈K)(hn:∀k∈K,(th k).Nodup)(hC:∀x∈c0::r,x∈K)(scc:∀x∈c0::r,∀y∈c0::r,kA th x y)(hs:∀u∈c0::r,∃s∈th u,s∈c0::r)
  (hz:z∈c0::r)(hlen:(F++[z]).length≤4000){Q:T→Sg→Prop}(hQ:∀P:List Kn,Ap th K ((th z).filter fun k=>decide (k∈c0::r)) c0 P→Q (.lst ((F++[z]++P.dropLast).map aQ)) σ){n:Nat}{x3 x4 x5:Option T}{k:PK aH}:
  aY Q (C8 ⟨ai Ψ (n+2)⟩ [some w,some (.lst ((c0::r).map aQ)),some (.lst ((F++[z]).map aQ)),x3,x4,x5,none,none] σ k):=by
 have zK:=hC z hz
 repeat (refine nG rfl ?_)
 refine aB (a:=T.dct (K.map aQ) (K.map fun k=>.lst ((th k).map aQ))) (by rw [hw];rfl) ?_
 refine dE (xb F z) ?_
 refine aB (cv.get zK) ?_
 refine aB rfl ?_
 refine xG (e:=aQ) (l:=th z) (fun k=>decide (k∈c0::r)) aQ (fun a ha=>⟨_,rfl,fun k=>?_,fun _ k=>by with_unfolding_all rfl⟩) ?_
 ·exact ab rfl (ab rfl (ab (jO.mem (by decide) (l:=c0::r) trivial (fun _ _=>trivial) rfl) rfl))
 refine dE (cL (fO 1 (c0::r))) ?_
 rw [hw]
 refine bM (oT (starts:=(th z).filter fun k=>decide (k∈c0::r)) (goals:=[c0]) hK1 hc ((hn z zK).filter _) (fun x hx=>hC x (of_decide_eq_true (List.mem_filter.mp hx).2)) n) ?_
 rintro _ σ ⟨rfl,P,rfl,h⟩
 obtain ⟨s,s1,s2⟩:=hs z hz
 have W:Ap th K ((th z).filter fun k=>decide (k∈c0::r)) c0 P:=by
  rcases h with ⟨g,h1,h2⟩ | ⟨_,h⟩
  ·cases List.mem_singleton.mp h1;exact h2
  ·exact absurd (scc s s2 c0 (.head _)) (h s (List.mem_filter.mpr ⟨s1,decide_eq_true s2⟩) c0 (.head _))
 have dl:P.dropLast.length≤300:=Nat.le_trans (by rw [List.length_dropLast];exact Nat.sub_le _ _) (Nat.le_trans W.len hK1)
 refine dE (cL (qY P)) ?_
 refine aB (cf (q:=P.dropLast) (by rw [bh];lia -abstractProof)) ?_
 exact ck (hQ P W)
inductive GQ (W:T) (th:Kn→List Kn) (K:List Kn) (mt:Kn→Nat→Bool) (c0:Kn) (r:List Kn) (σ:Sg):List Nat→aH→Sg→Prop
 |mk {pre:List Nat} {F:List Kn} {z:Kn} {x3 x4 x5:Option T} (hz:z∈c0::r) (hw:du th (F++[z])) (hh:(F++[z]).head?=some c0) (hk1:∀x∈F++[z],x∈K) (hm1:∀j∈pre,∃x∈F++[z],mt x j=true) (hlen:(F++[z]).length≤1+pre.length * 127):
  GQ W th K mt c0 r σ pre [some W,some (.lst ((c0::r).map aQ)),some (.lst ((F++[z]).map aQ)),x3,x4,x5,none,none] σ
structure Rg (th:Kn→List Kn) (K:List Kn) (mt:Kn→Nat→Bool) (c0:Kn) (np:Nat) (R:List Kn):Prop where
 w:du th R
 hd:R.head?=some c0
 la:∃z,R.getLast?=some z∧c0∈th z
 sub:∀x∈R,x∈K
 met:∀j,j < np→∃x∈R,mt x j=true
 len:R.length≤800
theorem yQ {c0:Kn}{r:List Kn}(hK2:K.length≤128)(hc:∀k∈K,∀y∈th k,y∈K)(hn:∀k∈K,(th k).Nodup)(hC:∀x∈c0::r,x∈K)(hp:ps.length≤5)(scc:∀x∈c0::r,∀y∈c0::r,kA th x y)(hs:∀u∈c0::r,∃s∈th u,s∈c0::r)(hmet:∀j,j < ps.length→∃k∈c0::r,mt k j=true)
  {n:Nat}(hm:∀k∈K,∀j,j < ps.length→ai Ψ (n+2) 1005 [eF b (.lst ps) m kn K bg th,aQ k,.int j] σ=.ret (.bool (mt k j)) σ):
  aY (fun t σ'=>σ'=σ∧∃R:List Kn,t=.lst (R.map aQ)∧Rg th K mt c0 ps.length R) (ai Ψ (n+3) 41 [eF b (.lst ps) m kn K bg th,.lst ((c0::r).map aQ)] σ):=by
 have hK1:K.length≤300:=Nat.le_trans hK2 (by decide)
 refine ux ?_
 refine dE (ba (i:=0) rfl (Nat.zero_le _)) (sJ rfl ?_)
 repeat (refine nG rfl ?_)
 refine aB rfl ?_
 refine aB rfl ?_
 refine aB (eH (Nat.le_trans hp (by decide))) ?_
 refine qP (e:=fun j:Nat=>T.int j) (l:=List.range ps.length) (GQ (eF b (.lst ps) m kn K bg th) th K mt c0 r σ) ?_ ?_ (pre:=[]) rfl (.mk (F:=[]) (z:=c0) (.head _) (.one _) rfl (fun x hx=>List.mem_singleton.mp hx▸hC c0 (.head _)) (fun _ h=>nomatch h) (Nat.le_refl _))
 ·rintro pre j suf _ _ hl @⟨F,z,x3,x4,x5,hz,hw,hh,hk1,hm1,hlen⟩ k hk
  have hj:j < ps.length:=List.mem_range.mp (by rw [hl];exact List.mem_append_right _ (.head _))
  have prl:pre.length≤5:=by have:=congrArg List.length hl;rw [List.length_range,List.length_append] at this;lia -abstractProof
  repeat (refine nG rfl ?_)
  refine aB rfl ?_
  refine xG (e:=aQ) (l:=c0::r) (fun k=>mt k j) aQ (fun a ha=>⟨_,rfl,fun k=>?_,fun _ k=>by with_unfolding_all rfl⟩) ?_
  ·exact ab rfl (ab rfl (ab rfl (ao (hm a (hC a ha) j hj) (ab rfl rfl))))
  refine dE (cL (xC F z)) ?_
  repeat (refine nG rfl ?_)
  refine bM (oT (starts:=[z]) (goals:=(c0::r).filter fun k=>mt k j) hK1 hc (by simp) (fun x hx=>List.mem_singleton.mp hx▸hC z hz) n) ?_
  rintro _ σ ⟨rfl,P,rfl,h⟩
  obtain ⟨g,hg,W⟩:∃g∈(c0::r).filter (fun k=>mt k j),Ap th K [z] g P:=by
   rcases h with h | ⟨_,h⟩
   ·exact h
   ·obtain ⟨g,h1,h2⟩:=hmet j hj
    exact absurd (scc z hz g h1) (h z (.head _) g (List.mem_filter.mpr ⟨h1,h2⟩))
  obtain ⟨a,ha,hz'⟩:=W.hd
  obtain rfl:=List.mem_singleton.mp hz'
  cases P with
  |nil=>cases ha
  |cons q P=>
   cases ha
   have gC:=List.mem_filter.mp hg
   have pl:P.length≤127:=by have:=W.len;rw [List.length_cons] at this;lia -abstractProof
   have hlen':(F++[a]).length≤1+3000:=Nat.le_trans hlen (by lia -abstractProof)
   refine dE (cL (mD (a::P))) ?_
   refine aB (cf (q:=P) (by rw [bh];lia -abstractProof)) ?_
   obtain ⟨F',e⟩:∃F',(F++[a])++P=F'++[g]:=by
    rcases List.eq_nil_or_concat P with rfl | ⟨P',y,rfl⟩
    ·have:=W.lst;cases this;exact ⟨F,List.append_nil _⟩
    ·rw [List.concat_eq_append] at W ⊢
     have:=W.lst
     rw [List.getLast?_cons,List.getLast?_concat] at this
     cases this
     exact ⟨F++[a]++P',(List.append_assoc _ _ _).symm⟩
   rw [e]
   refine hk _ _ (.mk gC.1 ?_ ?_ (fun x hx=>?_) (fun i hi=>?_) ?_)
   ·rw [←e]
    exact hw.app (W.walk.drop 1) fun u v hu hv=>by
     rw [List.getLast?_concat] at hu;cases hu
     exact W.walk 0 a v rfl (by rw [←List.getElem?_drop (i:=1) (j:=0),←List.head?_eq_getElem?];exact hv)
   ·rw [←e,List.head?_append,hh];rfl
   ·rw [←e] at hx
    exact (List.mem_append.mp hx).elim (hk1 x) fun h=>W.sub x (.tail _ h)
   ·rcases List.mem_append.mp hi with hi |hi
    ·obtain ⟨x,h1,h2⟩:=hm1 i hi
     exact ⟨x,by rw [←e];exact List.mem_append_left _ h1,h2⟩
    ·rw [List.mem_singleton.mp hi]
     exact ⟨g,List.mem_append_right _ (.head _),gC.2⟩
   ·rw [←e,List.length_append,List.length_append (as:=pre)]
    show _≤1+(pre.length+1) * 127
    lia -abstractProof
 ·rintro _ _ @⟨F,z,x3,x4,x5,hz,hw,hh,hk1,hm1,hlen⟩
  rw [List.length_range] at hlen
  refine vR rfl hK1 hc hn hC scc hs hz (Nat.le_trans hlen (by lia -abstractProof)) fun P W=>?_
  obtain ⟨h1,h2⟩:=hw.close W fun x hx=>(List.mem_filter.mp hx).1
  refine ⟨rfl,_,rfl,h1,?_,h2,fun x hx=>(List.mem_append.mp hx).elim (hk1 x) fun h=>W.sub x (List.dropLast_subset _ h),fun j hj=>?_,?_⟩
  ·rw [List.head?_append,hh];rfl
  ·obtain ⟨x,h3,h4⟩:=hm1 j (List.mem_range.mpr hj)
   exact ⟨x,List.mem_append_left _ h3,h4⟩
  ·have:=W.len
   rw [List.length_append,List.length_dropLast];lia -abstractProof
end
end
end Mine.L10
namespace Mine.L10
noncomputable section
open PySem Ltl
section
variable {bs:List Sy} {g g':List Bool} {m m':Str} {σ:Sg}
noncomputable abbrev hH (bs:List Sy):T:=.lst (bs.map bf)
noncomputable abbrev gT (g:List Bool):T:=.tup (g.map .bool)
structure Ax (bs:List Sy) (g:List Bool):Prop where
 dep:∀x∈bs,dep x≤40
 len:g.length=bs.length
 few:bs.length≤1000
theorem kX {α:Type}{e:α→T}{l:List α}{i:Nat}{a:α}(h:l[i]?=some a)(hi:i≤lim):aj (.tup (l.map e)) (.int i)=some (e a):=sZ (e:=e) h hi
theorem zm {x:Sy}(B:Ax bs g)(hx:x∈bs):g[bs.idxOf x]?=some (look bs g x):=by
 have h:bs.idxOf x < g.length:=by rw [B.len];exact List.idxOf_lt_length_iff.mpr hx
 rw [look,List.getElem?_eq_getElem h];rfl
theorem cP (B:Ax bs g){x:Sy}(hx:x∈bs)(n:Nat):ai Ψ (n+1) 9 [bf x,hH bs,gT g] σ=.ret (.bool (look bs g x)) σ:=by
 refine vc ?_
 have h1:=(xr 40).idx (by decide) (B.dep x hx) B.dep hx
 have h2:=kX (e:=T.bool) (zm B hx) (Nat.le_trans (Nat.le_of_lt (List.idxOf_lt_length_iff.mpr hx)) (Nat.le_trans B.few (by decide)))
 show up (mc (hH bs) (bf x)) σ (fun j σ=>up (aj (gT g) j) σ fun v σ=>.ret v σ)=_
 rw [h1]
 show up (aj (gT g) (.int (bs.idxOf x))) σ (fun v σ=>.ret v σ)=_
 rw [h2];rfl
theorem C5 {m:Str}{bs:List Sy}{g:List Bool}{a c:Sy}:so m bs g (.and a c)=(so m bs g a&&so m bs g c):=rfl
theorem C4 {m:Str}{bs:List Sy}{g:List Bool}{a c:Sy}:so m bs g (.or a c)=(so m bs g a||so m bs g c):=rfl
theorem lu (B:Ax bs g):∀(s:Sy) (n:Nat),dep s≤n→c8 bs s→ai Ψ (n+2) 10 [bf s,.str m,hH bs,gT g] σ=.ret (.bool (so m bs g s)) σ:=by
 intro s
 induction s with
 |mark x=>exact fun n _ _=>dM rfl
 |yes=>exact fun n _ _=>dM rfl
 |not a ih=>
  rintro (_ |n) h cl
  ·cases h
  ·exact dM (ao (ih n (Nat.le_of_succ_le_succ h) (aD cl (.head _))) rfl)
 |and a c ih ih'=>
  rintro (_ |n) h cl
  ·cases h
  ·have h:=Nat.max_le.mp (Nat.le_of_succ_le_succ h)
   have e:=ih n h.1 (aD cl (.head _))
   have e':=ih' n h.2 (aD cl (.tail _ (.head _)))
   refine dM (ao e ?_)
   cases q:so m bs g a with
   |false=>rw [C5,q];rfl
   |true=>rw [C5,q];exact ao e' rfl
 |or a c ih ih'=>
  rintro (_ |n) h cl
  ·cases h
  ·have h:=Nat.max_le.mp (Nat.le_of_succ_le_succ h)
   have e:=ih n h.1 (aD cl (.head _))
   have e':=ih' n h.2 (aD cl (.tail _ (.head _)))
   refine dM (ao e ?_)
   cases q:so m bs g a with
   |true=>rw [C4,q];rfl
   |false=>rw [C4,q];exact ao e' rfl
 |next a=>exact fun n _ cl=>dM (ao (cP B (bm cl _ (.head _)) n) rfl)
 |till a c=>exact fun n _ cl=>dM (ao (cP B (bm cl _ (.head _)) n) rfl)
 |always a=>exact fun n _ cl=>dM (ao (cP B (bm cl _ (.head _)) n) rfl)
 |again a=>exact fun n _ cl=>dM (ao (cP B (bm cl _ (.tail _ (.head _))) n) rfl)
noncomputable abbrev vq (m:Str)(g:List Bool):T:=.tup [.str m,gT g]
theorem uk (B:Ax bs g)(B':Ax bs g'){x:Sy}(hx:x∈bs)(hk:(∃a,x=.next a)∨(∃a c,x=.till a c)∨∃a,x=.always a)(cl:∀p∈cq x,c8 bs p){n:Nat}(hn:dep x≤n):
  ai Ψ (n+2) 11 [bf x,hH bs,vq m g,vq m' g'] σ=.ret (.bool (f9 bs m g m' g' x)) σ:=by
 obtain _ |n:=n
 ·rcases hk with ⟨a,rfl⟩ | ⟨a,c,rfl⟩ | ⟨a,rfl⟩<;>cases hn
 have gd:=cP (σ:=σ) B' hx (n+1)
 rcases hk with ⟨a,rfl⟩ | ⟨a,c,rfl⟩ | ⟨a,rfl⟩
 ·exact mQ (ao (lu B' a n (Nat.le_of_succ_le_succ hn) (cl a (.head _))) rfl)
 ·have h:=Nat.max_le.mp (Nat.le_of_succ_le_succ hn)
  have ea:=lu (m:=m) (σ:=σ) B a n h.1 (cl a (.head _))
  refine mQ (ao (lu B c n h.2 (cl c (.tail _ (.head _)))) ?_)
  rw [f8]
  cases so m bs g c with
  |true=>rfl
  |false=>
   refine ao ea ?_
   cases so m bs g a with
   |false=>rfl
   |true=>exact ao gd rfl
 ·refine mQ (ao (lu B a n (Nat.le_of_succ_le_succ hn) (cl a (.head _))) ?_)
  rw [eG]
  cases so m bs g a with
  |false=>rfl
  |true=>exact ao gd rfl
theorem BF (B:Ax bs g){x:Sy}(hx:x∈bs)(hk:(∃a c,x=.till a c)∨∃a,x=.always a)(cl:∀p∈cq x,c8 bs p){n:Nat}(hn:dep x≤n):
  ai Ψ (n+2) 14 [bf x,.str m,hH bs,gT g] σ=.ret (.bool (met bs m g x)) σ:=by
 obtain _ |n:=n
 ·rcases hk with ⟨a,c,rfl⟩ | ⟨a,rfl⟩<;>cases hn
 have gd:=cP (σ:=σ) B hx (n+1)
 rcases hk with ⟨a,c,rfl⟩ | ⟨a,rfl⟩
 ·have h:=Nat.max_le.mp (Nat.le_of_succ_le_succ hn)
  refine mY (ao gd ?_)
  rw [ja]
  cases look bs g (.till a c) with
  |false=>rfl
  |true=>exact ao (lu B c n h.2 (cl c (.tail _ (.head _)))) rfl
 ·refine mY (ao gd ?_)
  rw [fH]
  cases look bs g (.always a) with
  |true=>rfl
  |false=>exact ao (lu B a n (Nat.le_of_succ_le_succ hn) (cl a (.head _))) rfl
theorem wv {t:T}(n:Nat):ai Ψ (n+1) 14 [.none,.str m,t,gT g] σ=.ret (.bool true) σ:=mY rfl
end
section
variable {bs:List Sy} {g g':List Bool} {m m':Str} {σ:Sg}
theorem zS {s:Sy}(hs:bs=aq s)(B:Ax bs g)(B':Ax bs g'){n:Nat}(hn:∀x∈bs,dep x≤n):
  ai Ψ (n+3) 12 [hH bs,vq m g,vq m' g'] σ=.ret (.bool (pk bs m g m' g')) σ:=by
 have lp:∀(l:List Sy) (x3:Option T) (k:PK aH),(∀x∈l,x∈bs)→(∀x3,k [some (hH bs),some (vq m g),some (vq m' g'),x3] σ=.ret (.bool true) σ)→
   cg (aM 3) (ae (bn (p2 j8 (am 9 (aa (pV 3) (aa (pV 0) (aa (p2 aj (pV 1) (pC (.int 1))) ah)))) (am 11 (aa (pV 3) (aa (pV 0) (aa (pV 1) (aa (pV 2) ah)))))) (ae (au (pC (.bool false))) af) af) af) ⟨ai Ψ (n+2)⟩ (l.map bf) [some (hH bs),some (vq m g),some (vq m' g'),x3] σ k=.ret (.bool (l.all fun x=>look bs g x==f9 bs m g m' g' x)) σ:=by
  intro l
  induction l with
  |nil=>exact fun x3 k _ hk=>hk x3
  |cons x l ih=>
   intro x3 k hl hk
   have hx:=hl x (.head _)
   have e:=ih (some (bf x)) k (fun y hy=>hl y (.tail _ hy)) hk
   refine ao (cP B hx (n+1)) (ao (uk B B' hx (dO (hs▸hx)) (fun p hp=>hs▸cw (hs▸hx) hp) (hn x hx)) ?_)
   rw [List.all_cons]
   cases look bs g x<;>cases f9 bs m g m' g' x<;>first |rfl |exact e
 exact ve (lp bs none _ (fun _ h=>h) fun _=>rfl)
theorem n6 {α β:Type}{f:α→β}(inj:∀x y,f x=f y→x=y){l:List α}(h:l.Nodup):(l.map f).Nodup:=List.pairwise_map.mpr (List.Pairwise.imp (fun q e=>q (inj _ _ e)) h)
noncomputable def gQ:Nat→List (List Bool)
 | 0=>[[]]
 |n+1=>(gQ n).map (·++[false])++(gQ n).map (·++[true])
theorem fi:∀{n:Nat} {g:List Bool},g∈gQ n→g.length=n:=by
 intro n
 induction n with
 |zero=>intro g h;cases List.mem_singleton.mp h;rfl
 |succ n ih=>
  intro g h
  rcases List.mem_append.mp h with h |h<;>(obtain ⟨a,ha,rfl⟩:=List.mem_map.mp h;rw [List.length_append,ih ha];rfl)
theorem nr:∀{n:Nat} {g:List Bool},g.length=n→g∈gQ n:=by
 intro n
 induction n with
 |zero=>intro g h;rw [List.length_eq_zero_iff.mp h];exact .head _
 |succ n ih=>
  intro g h
  rcases List.eq_nil_or_concat g with rfl | ⟨a,b,rfl⟩
  ·cases h
  ·rw [List.concat_eq_append] at h ⊢
   rw [List.length_append] at h
   have ha:=ih (Nat.succ.inj h)
   cases b with
   |false=>exact List.mem_append_left _ (List.mem_map.mpr ⟨a,ha,rfl⟩)
   |true=>exact List.mem_append_right _ (List.mem_map.mpr ⟨a,ha,rfl⟩)
theorem nq:∀n:Nat,(gQ n).Nodup:=by
 intro n
 induction n with
 |zero=>exact List.pairwise_singleton _ _
 |succ n ih=>
  have inj:∀b:Bool,((gQ n).map (·++[b])).Nodup:=fun b=>n6 (fun x y h=>List.append_inj_left' h rfl) ih
  refine List.nodup_append.mpr ⟨inj _,inj _,fun a ha b hb e=>?_⟩
  obtain ⟨x,_,rfl⟩:=List.mem_map.mp ha
  obtain ⟨y,_,rfl⟩:=List.mem_map.mp hb
  cases List.append_inj_right' e rfl
theorem mf (n:Nat):∀(l:List T),l.length≤4→ai Ψ (n+1) 8 [.lst l] σ=.ret (.lst ((gQ l.length).map gT)) σ
 | [],_=>cI (by kernel_rfl)
 | [_],_=>cI (by kernel_rfl)
 | [_,_],_=>cI (by kernel_rfl)
 | [_,_,_],_=>cI (by kernel_rfl)
 | [_,_,_,_],_=>cI (by kernel_rfl)
 |_::_::_::_::_::_,h=>absurd h (by rw [List.length_cons,List.length_cons,List.length_cons,List.length_cons,List.length_cons];lia -abstractProof)
end
section
variable {σ:Sg}
theorem lP (s:Sy)(n:Nat):ai Ψ (n+1) 2 [bf s] σ=.ret (.lst ((cq s).map bf)) σ:=by cases s<;>exact sR (by kernel_rfl)
theorem Bt (s:Sy)(n:Nat):ai Ψ (n+1) 6 [bf s] σ=.ret (hH (bR s)) σ:=by cases s<;>exact rc (by kernel_rfl)
theorem c7 {s p:Sy}(h:p∈cq s):dep p < dep s:=by
 cases s with
 |mark |yes=>cases h
 |not |next |always |again=>cases List.mem_singleton.mp h;exact Nat.lt_succ_self _
 |and |or |till=>
  rcases List.mem_cons.mp h with rfl |h
  ·exact Nat.lt_succ_of_le (Nat.le_max_left _ _)
  ·cases List.mem_singleton.mp h;exact Nat.lt_succ_of_le (Nat.le_max_right _ _)
theorem xR (s:Sy):aq s=ext ((cq s).foldl (fun f a=>ext f (aq a)) []) (bR s):=by cases s<;>rfl
theorem uc:∀{s t:Sy},t∈all s→dep t≤dep s:=by
 have two:∀(s a c:Sy),(∀{t},t∈all a→dep t≤dep a)→(∀{t},t∈all c→dep t≤dep c)→dep s=max (dep a) (dep c)+1→∀{t},t∈s::(all a++all c)→dep t≤dep s:=fun s a c ha hc e t h=>by
  rcases List.mem_cons.mp h with rfl |h
  ·exact Nat.le_refl _
  ·rw [e]
   rcases List.mem_append.mp h with h |h
   ·exact Nat.le_succ_of_le (Nat.le_trans (ha h) (Nat.le_max_left _ _))
   ·exact Nat.le_succ_of_le (Nat.le_trans (hc h) (Nat.le_max_right _ _))
 have one:∀(s a:Sy),(∀{t},t∈all a→dep t≤dep a)→dep s=dep a+1→∀{t},t∈s::all a→dep t≤dep s:=fun s a ha e t h=>by
  rcases List.mem_cons.mp h with rfl |h
  ·exact Nat.le_refl _
  ·rw [e];exact Nat.le_succ_of_le (ha h)
 intro s
 induction s with
 |mark |yes=>intro t h;cases List.mem_singleton.mp h;exact Nat.le_refl _
 |not a ih |next a ih |always a ih |again a ih=>exact one _ a ih rfl
 |and a c ih ih' |or a c ih ih' |till a c ih ih'=>exact two _ a c ih ih' rfl
theorem fM (s:Sy):1≤dep s:=by cases s<;>exact Nat.succ_le_succ (Nat.zero_le _)
theorem ee {s x:Sy}(h:x∈aq s):dep x≤dep s+1:=by
 obtain ⟨t,h1,h2⟩:=aZ.mp h
 refine Nat.le_trans ?_ (Nat.succ_le_succ (uc h1))
 cases t with
 |mark |yes |not |and |or=>cases h2
 |next |till |always=>cases List.mem_singleton.mp h2;exact Nat.le_succ _
 |again a=>
  have e:max 1 (dep a)=dep a:=Nat.max_eq_right (fM a)
  rcases List.mem_cons.mp h2 with rfl |h2
  ·show max 1 (dep a)+1≤dep a+1+1
   rw [e];exact Nat.le_succ _
  ·cases List.mem_singleton.mp h2
   show max 1 (dep a)+1+1≤dep a+1+1
   rw [e];exact Nat.le_refl _
theorem eE (f xs:List Sy):(ext f xs).length≤f.length+xs.length:=by
 rw [ext,List.length_append];exact Nat.add_le_add_left (List.length_filter_le _ _) _
theorem vg:∀s:Sy,(aq s).length+2≤2 ^ (dep s+1):=by
 have p0:∀n,2≤2 ^ (n+1):=fun n=>by rw [Nat.pow_succ];have:=Nat.one_le_two_pow (n:=n);lia -abstractProof
 have two:∀(s a c:Sy),(aq a).length+2≤2 ^ (dep a+1)→(aq c).length+2≤2 ^ (dep c+1)→dep s=max (dep a) (dep c)+1→aq s=ext (ext (ext [] (aq a)) (aq c)) (bR s)→(bR s).length≤1→(aq s).length+2≤2 ^ (dep s+1):=fun s a c ha hc e e2 h=>by
  have h1:=Nat.pow_le_pow_right (n:=2) (by decide) (Nat.succ_le_succ (Nat.le_max_left (dep a) (dep c)))
  have h2:=Nat.pow_le_pow_right (n:=2) (by decide) (Nat.succ_le_succ (Nat.le_max_right (dep a) (dep c)))
  rw [e,e2,Nat.pow_succ]
  have h3:=eE (ext (ext [] (aq a)) (aq c)) (bR s)
  have h4:=eE (ext [] (aq a)) (aq c)
  have h5:=eE [] (aq a)
  rw [List.length_nil] at h5
  lia -abstractProof
 have one:∀(s a:Sy),(aq a).length+2≤2 ^ (dep a+1)→dep s=dep a+1→aq s=ext (ext [] (aq a)) (bR s)→(bR s).length≤2→(aq s).length+2≤2 ^ (dep s+1):=fun s a ha e e2 h=>by
  rw [e,e2,Nat.pow_succ]
  have h3:=eE (ext [] (aq a)) (bR s)
  have h5:=eE [] (aq a)
  rw [List.length_nil] at h5
  lia -abstractProof
 intro s
 induction s with
 |mark |yes=>exact p0 _
 |not a ih |next a ih |always a ih |again a ih=>exact one _ a ih rfl rfl (Nat.le_of_ble_eq_true rfl)
 |and a c ih ih' |or a c ih ih' |till a c ih ih'=>exact two _ a c ih ih' rfl rfl (Nat.le_of_ble_eq_true rfl)
end
section
variable {σ:Sg}
theorem mE {ρ:aH}{i:Nat}{f xs:List Sy}{c:dw}{k:PK (List T)}{r:cc}(h1:∀v,bC (ρ.set i (some v)) i=some v)(h2:∀v,bC (ρ.set i (some v)) 1=some (hH f))(hf:∀x∈f,dep x≤40)(hx:∀x∈xs,dep x≤40)
  (hk:k ((xs.filter fun x=>!f.contains x).map bf) σ=r):aX (aM i) (p2 eY (pV i) (pV 1)) (pV i) c ρ (xs.map bf) σ [] k=r:=by
 refine gO (fun x=>!f.contains x) bf (fun a ha=>⟨_,rfl,fun k=>?_,fun _ k=>?_⟩) hk
 ·show up (bC (List.set ρ i (some (bf a))) i) σ (fun v σ=>up (bC (List.set ρ i (some (bf a))) 1) σ fun w σ=>up (eY v w) σ k)=_
  rw [h1,h2,List.contains_eq_mem]
  show up (eY (bf a) (hH f)) σ k=_
  exact ab ((xr 40).nin (by decide) (hx a ha) hf rfl) rfl
 ·show up (bC (List.set ρ i (some (bf a))) i) σ k=_
  rw [h1];rfl
theorem xQ {a:Sy}{d:Nat}(h:dep a≤d)(hd:d≤8):(aq a).length≤1024:=
 Nat.le_trans (Nat.le_trans (Nat.le_add_right _ 2) (vg a)) (Nat.pow_le_pow_right (j:=10) (by decide) (Nat.succ_le_succ (Nat.le_trans h (Nat.le_succ_of_le hd))))
theorem pH {x:Sy}{d:Nat}(h:dep x≤d+1)(hd:d≤8):dep x≤40:=Nat.le_trans h (Nat.le_trans (Nat.succ_le_succ hd) (by decide))
theorem o0 (f xs:List Sy)(h:f.length+xs.length≤20000):f.length+(xs.filter fun x=>!f.contains x).length≤lim:=
 Nat.le_trans (Nat.add_le_add_left (List.length_filter_le _ _) _) (Nat.le_trans h (by decide))
noncomputable abbrev Ec:PS:=ae (f6 1 ii (ax (aL (am 500 (aa (pV 2) ah))) (aM 3) (p2 eY (pV 3) (pV 1)) (pV 3))) af
theorem sV {c:dw}{t:Option T}{d:Nat}(hd:d≤8):∀(l:List Sy),(∀a∈l,dep a≤d∧c.call 500 [bf a] σ=.ret (hH (aq a)) σ)→∀(f:List Sy) (x2:Option T) {k:PK aH} {r:cc},(∀x∈f,dep x≤d+1)→f.length+l.length * 1024≤10240→
  (∀f' x2,f'=l.foldl (fun f a=>ext f (aq a)) f→(∀x∈f',dep x≤d+1)→f'.length≤10240→k [t,some (hH f'),x2,none,none] σ=r)→cg (aM 2) Ec c (l.map bf) [t,some (hH f),x2,none,none] σ k=r:=by
 intro l
 induction l with
 |nil=>intro _ f x2 k r h1 h2 hk;exact hk f x2 rfl h1 (Nat.le_trans (Nat.le_add_right _ _) h2)
 |cons a l ih=>
  intro hl f x2 k r hf hlen hk
  obtain ⟨h1,h2⟩:=hl a (.head _)
  have d1:∀x∈aq a,dep x≤d+1:=fun x hx=>Nat.le_trans (ee hx) (Nat.succ_le_succ h1)
  have bl:=xQ h1 hd
  have el:=eE f (aq a)
  rw [List.length_cons] at hlen
  refine ao h2 (mE (fun _=>rfl) (fun _=>rfl) (fun x hx=>pH (hf x hx) hd) (fun x hx=>pH (d1 x hx) hd) (ab (pD (l:=f) (o0 f _ ?_)) ?_))
  ·lia
  ·exact ih (fun b hb=>hl b (.tail _ hb)) (ext f (aq a)) _ (fun x hx=>(jc.mp hx).elim (hf x) (d1 x)) (by lia -abstractProof) hk
theorem m7:∀(n:Nat) (s:Sy),dep s≤n→dep s≤8→ai Ψ (n+1) 500 [bf s] σ=.ret (hH (aq s)) σ:=by
 intro n
 induction n with
 |zero=>intro s h;exact absurd (fM s) (Nat.not_le.mpr (Nat.lt_succ_of_le h))
 |succ n ih=>
  intro s h hn
  have hp:∀a∈cq s,dep a≤7:=fun a ha=>Nat.le_of_lt_succ (Nat.lt_of_lt_of_le (c7 ha) hn)
  have pl:(cq s).length≤2:=by cases s<;>exact Nat.le_of_ble_eq_true rfl
  have ol:(bR s).length≤2:=by cases s<;>exact Nat.le_of_ble_eq_true rfl
  rw [xR s]
  refine sU (ao (lP s n) (sV (d:=7) (by decide) (cq s) (fun a ha=>⟨hp a ha,ih a (Nat.le_of_lt_succ (Nat.lt_of_lt_of_le (c7 ha) h)) (Nat.le_succ_of_le (hp a ha))⟩) [] none (fun _ h=>nomatch h) (by rw [List.length_nil];lia -abstractProof) ?_))
  rintro f' x2 rfl h1 h2
  exact ao (Bt s n) (mE (fun _=>rfl) (fun _=>rfl) (fun x hx=>pH (h1 x hx) (by decide)) (fun x hx=>pH (ee (aZ.mpr ⟨s,i4 s,hx⟩)) hn) (ab (pD (l:=(cq s).foldl (fun f a=>ext f (aq a)) []) (o0 _ _ (by lia -abstractProof))) rfl))
end
noncomputable def ye:Str:=ofString "abcdefghijklmnopqrstuvwxyz"
noncomputable def F4 (c:Nat):Bool:=Nat.ble 97 c&&Nat.ble c 122
noncomputable def Lw (x:Str):Prop:=∀c∈x.cps.toList,F4 c=true
theorem pj {c:Nat}(h:F4 c=true):97≤c∧c≤122:=⟨Nat.le_of_ble_eq_true (Bool.and_eq_true_iff.mp h).1,Nat.le_of_ble_eq_true (Bool.and_eq_true_iff.mp h).2⟩
theorem sG:∀k,k < 26→Txt.contains ye ⟨#[97+k]⟩=true:=by decide+kernel
theorem B7 {c:Nat}(h:F4 c=true):Txt.contains ye ⟨#[c]⟩=true:=by
 obtain ⟨h1,h2⟩:=pj h
 obtain ⟨k,rfl⟩:=Nat.exists_eq_add_of_le h1
 exact sG k (Nat.lt_of_add_lt_add_left (n:=97) (Nat.lt_succ_of_le h2))
theorem ng {α:Type}(l:List α):ju (.lst (l.map fun _=>.bool true))=some (.bool true):=by rw [all_map l fun _=>true,List.all_eq_true.mpr fun _ _=>rfl]
theorem pK {α:Type}{n:Nat}{x:α}(h:n≤lim):oj n x=some x:=by rw [oj,show bS n=true from Nat.ble_eq_true_of_le h];rfl
structure Mk (x:Str):Prop where
 len:x.length≤6
 lw:Lw x
section
variable {σ:Sg}
theorem l9 {x:Str}(h:Mk x)(n:Nat):ai Ψ (n+1) 1 [.str x] σ=.ret (.bool true) σ:=by
 refine vb ?_
 have e1:decide ((x.length:Int) > 6)=false:=decide_eq_false (by have:=h.len;lia -abstractProof)
 have e2:x.cps.all (· < 128)=true:=Array.all_eq_true_iff_forall_mem.mpr fun c hc=>decide_eq_true (by have:=pj (h.lw c (Array.mem_toList_iff.mpr hc));lia -abstractProof)
 show (bif decide ((x.length:Int) > 6) then cc.ret (.bool false) σ else up (bif x.cps.all (· < 128) then some (x.cps.toList.map fun c=>T.str ⟨#[c]⟩) else none) σ fun xs σ=>aX (aM 1) av (pB (p2 EG (pV 1) (pC (.str ye)))) ⟨ai Ψ n⟩ [some (.str x),none] xs σ [] fun ys σ=>up (ju (.lst ys)) σ fun v σ=>.ret v σ)=_
 rw [e1,e2]
 show aX _ _ _ _ _ (x.cps.toList.map fun c=>T.str ⟨#[c]⟩) σ [] _=_
 refine aJ (fun _=>.bool true) (fun c hc=>⟨_,rfl,fun k=>?_⟩) ?_
 ·show k (.bool (Txt.contains ye ⟨#[c]⟩)) σ=_
  rw [B7 (h.lw c hc)]
 ·exact ab (ng _) rfl
noncomputable def Gm (s:Sy):Prop:=∀x,.mark x∈all s→Mk x∧x≠ofString ""
theorem zU {s:Sy}(h:Gm s)(n:Nat):ai Ψ (n+2) 3 [bf s] σ=.ret (.bool true) σ:=by
 cases s with
 |mark x=>
  obtain ⟨h1,h2⟩:=h x (.head _)
  refine mZ (ao (l9 h1 n) ?_)
  show up (j8 (.str x) (.str (ofString ""))) σ (fun b σ=>.ret (.bool b) σ)=_
  rw [zZ.isN (by decide) trivial trivial,decide_eq_false h2];rfl
 |_=>exact mZ (by kernel_rfl)
theorem uj:∀(n d:Nat) (s:Sy),dep s≤d→d≤n→Gm s→ai Ψ (n+2) 4 [bf s,.int d] σ=.ret (.bool true) σ:=by
 intro n
 induction n with
 |zero=>intro d s h h';exact absurd (fM s) (Nat.not_le.mpr (Nat.lt_succ_of_le (Nat.le_trans h h')))
 |succ n ih=>
  rintro (_ |d) s h h' hg
  ·exact absurd (fM s) (Nat.not_le.mpr (Nat.lt_succ_of_le h))
  refine rh (ao (zU hg n) (ao (lP s _) ?_))
  refine aJ (e:=bf) (fun _=>.bool true) (fun p hp=>⟨_,rfl,fun k=>?_⟩) ?_
  ·have:=ih d p (Nat.le_of_lt_succ (Nat.lt_of_lt_of_le (c7 hp) h)) (Nat.le_of_succ_le_succ h') fun x hx=>hg x (nh hp hx)
   refine ao (t:=.bool true) (σ:=σ) ?_ rfl
   rw [show (((d+1:Nat):Int) - 1)=(d:Int) by lia -abstractProof];exact this
  ·exact ab (ng (cq s)) rfl
structure Gs (s:Sy):Prop where
 dep:dep s≤5
 few:(aq s).length≤4
 gm:Gm s
theorem y7 {s:Sy}(h:Gs s)(n:Nat):ai Ψ (n+9) 7 [bf s] σ=.ret (bf s) σ:=by
 have e:decide (((((aq s).map bf).length:Nat):Int) > 4)=false:=decide_eq_false (by have:=h.few;rw [List.length_map];lia -abstractProof)
 refine nM (ao (ri (ao (uj (n+5) 5 s h.dep (Nat.le_add_left _ _) h.gm) rfl)) (ao (m7 _ s ?_ ?_) ?_))
 ·exact Nat.le_trans h.dep (Nat.le_add_left _ (n+2))
 ·exact Nat.le_trans h.dep (by decide)
 ·show (bif decide (((((aq s).map bf).length:Nat):Int) > 4) then cc.bad else .ret (bf s) σ)=_
  rw [e];rfl
noncomputable def F3:Sy→Bool
 |.till _ _=>true
 |.always _=>true
 |_=>false
noncomputable def qw (s:Sy):List Sy:=(aq s).filter F3
noncomputable abbrev uz (s:Sy):List T:=.none::(qw s).map bf
theorem qx {s:Sy}(h:dep s≤8)(hl:(aq s).length≤1000)(n:Nat):ai Ψ (n+10) 13 [bf s] σ=.ret (.lst (uz s)) σ:=by
 refine nK (ao (m7 (n+8) s (Nat.le_trans h (Nat.le_add_left _ _)) h) (gO F3 bf (fun x hx=>⟨_,rfl,fun k=>?_,fun _ _=>rfl⟩) ?_))
 ·rcases dO hx with ⟨a,rfl⟩ | ⟨a,c,rfl⟩ | ⟨a,rfl⟩<;>kernel_rfl
 ·refine ab (a:=.lst (uz s)) ?_ rfl
  show oj ((T.none::(qw s).map bf).length) (T.lst (uz s))=_
  exact pK (Nat.succ_le_of_lt (Nat.lt_of_le_of_lt (Nat.le_trans (Nat.le_of_eq (List.length_map ..)) (Nat.le_trans (List.length_filter_le ..) hl)) (by decide)))
end
noncomputable abbrev nT (p:Nat):T:=.int p
noncomputable abbrev aA (r:List Nat):T:=.lst (r.map nT)
structure Mc where
 names:List Str
 roads:List (List Nat)
 firsts:List Nat
structure kQ (n:Nat) (r:List Nat):Prop where
 ne:r≠[]
 nd:r.Nodup
 lt:∀p∈r,p < n
structure Mc.Ok (M:Mc):Prop where
 pos:1≤M.names.length
 few:M.names.length≤8
 marks:∀x∈M.names,Mk x
 len:M.roads.length=M.names.length
 rows:∀r∈M.roads,kQ M.names.length r
 firsts:kQ M.names.length M.firsts
noncomputable abbrev Mc.fs (M:Mc):List T:=[.lst (M.names.map .str),.lst (M.roads.map aA),aA M.firsts]
noncomputable abbrev Mc.t (M:Mc):T:=.obj 0 M.fs
noncomputable def Mc.mark (M:Mc)(p:Nat):Str:=(M.names[p]?).getD default
noncomputable def Mc.road (M:Mc)(p:Nat):List Nat:=(M.roads[p]?).getD []
section
variable {σ:Sg} {M:Mc}
theorem Mc.Ok.lim (O:M.Ok){p:Nat}(h:p < M.names.length):p≤lim:=Nat.le_trans (Nat.le_of_lt h) (Nat.le_trans O.few (by decide))
theorem fU {α:Type}{l:List α}{i:Nat}{d:α}(h:i < l.length):l[i]?=some ((l[i]?).getD d):=by rw [List.getElem?_eq_getElem h];rfl
theorem jf (O:M.Ok){p:Nat}(h:p < M.names.length)(n:Nat):ai Ψ (n+1) 1007 [M.t,nT p] σ=.ret (.str (M.mark p)) σ:=
 m6 (mt (ba (e:=T.str) (fU h) (O.lim h)) rfl)
theorem qJ (O:M.Ok){p:Nat}(h:p < M.names.length)(n:Nat):ai Ψ (n+1) 1008 [M.t,nT p] σ=.ret (aA (M.road p)) σ:=
 kO (mt (ba (e:=aA) (fU (O.len▸h)) (O.lim h)) rfl)
theorem ur (n:Nat):ai Ψ (n+1) 1009 [M.t] σ=.ret (aA M.firsts) σ:=jS rfl
theorem v5 {p n:Nat}(h:p < n)(k:Nat):ai Ψ (k+1) 15 [nT p,nT n] σ=.ret (.bool true) σ:=
 sT (show cc.ret (.bool (decide ((p:Int) < (n:Int)))) σ=_ by rw [decide_eq_true (Int.ofNat_lt.mpr h)])
theorem n4 {n:Nat}{r:List Nat}(R:kQ n r)(hr:r.length≤1000)(k:Nat):ai Ψ (k+2) 16 [aA r,nT n] σ=.ret .none σ:=by
 have lp:∀(suf pre:List Nat) (x2 x3:Option T),r=pre++suf→cg (vn 2 3) (ae (bn (eJ (cB (qE (am 15 (aa (pV 3) (aa (pV 1) ah))))) (eJ (p2 fT (pV 3) (p3 bi (pV 0) fS (p1 bN (pV 2)))) bL)) (ae hU af) af) af)
   ⟨ai Ψ (k+1)⟩ (kj pre.length (suf.map nT)) [some (aA r),some (nT n),x2,x3] σ (fun ρ σ=>af ⟨ai Ψ (k+1)⟩ ρ σ (kE 16))=.ret .none σ:=fun suf=>by
  induction suf with
  |nil=>intro pre x2 x3 _;rfl
  |cons p suf ih=>
   intro pre x2 x3 e
   have hp:p∈r:=e▸List.mem_append_right _ (.head _)
   have e1:fT (nT p) (.lst (cut none (some (pre.length:Int)) (r.map nT)))=some false:=by
    rw [tX,fO,e,List.take_left]
    refine (g8.mem (by decide) (l:=pre) trivial (fun _ _=>trivial) rfl).trans (congrArg some (decide_eq_false fun q=>?_))
    have:=R.nd
    rw [e] at this
    exact (List.nodup_append.mp this).2.2 p q p (.head _) rfl
   refine ao (v5 (R.lt p hp) k) ?_
   refine mt qi (mt e1 ?_)
   have:=ih (pre++[p]) (some (nT pre.length)) (some (nT p)) (by rw [e,List.append_assoc];rfl)
   rw [List.length_append] at this
   exact this
 have e:bD (.int ((r.map nT).length:Nat)) (.int 0)=some false:=by
  rw [d6];exact congrArg some (decide_eq_false fun q=>R.ne (List.length_eq_zero_iff.mp (by rw [List.length_map] at q;lia -abstractProof)))
 exact nN (ay (Option.some.inj e) (lp r [] none none rfl))
theorem G4 {o:Option Bool}{x y z r:cc}(h:o=some true)(h2:x=r):(match (generalizing:=false) o with |some true=>x |some false=>y |none=>z)=r:=by rw [h];exact h2
theorem wL {a c:Nat}(h:a≤c):AO (.int a) (.int c)=some true:=congrArg some (decide_eq_true (Int.ofNat_le.mpr h))
theorem BB {a c:Nat}(h:a=c):j8 (.int a) (.int c)=some false:=by rw [j8,d6,decide_eq_true (by rw [h])];rfl
theorem zO (O:M.Ok){sp:Int}(n:Nat):ai Ψ (n+3) 1006 [.self,.lst (M.names.map .str),.lst (M.roads.map aA),aA M.firsts] ⟨sp,some (0,[])⟩=.ret .none ⟨sp,some (0,M.fs)⟩:=by
 have l1:(M.names.map T.str).length=M.names.length:=List.length_map ..
 have rl:∀{r:List Nat},kQ M.names.length r→r.length≤1000:=fun {r} R=>Nat.le_trans (aS (m:=List.range M.names.length) R.nd fun p hp=>List.mem_range.mpr (R.lt p hp)) (by rw [List.length_range];exact Nat.le_trans O.few (by decide))
 have lp:∀(l:List (List Nat)),(∀r∈l,kQ M.names.length r)→∀(x4:Option T) {k:PK aH} {r:cc},(∀x4,k [some .self,some (.lst (M.names.map .str)),some (.lst (M.roads.map aA)),some (aA M.firsts),x4,none,none] ⟨sp,some (0,[])⟩=r)→
   cg (aM 4) (ae (lg (am 16 (aa (pV 4) (aa (p1 aI (pV 1)) ah)))) af) ⟨ai Ψ (n+2)⟩ (l.map aA) [some .self,some (.lst (M.names.map .str)),some (.lst (M.roads.map aA)),some (aA M.firsts),x4,none,none] ⟨sp,some (0,[])⟩ k=r:=fun l=>by
  induction l with
  |nil=>exact fun _ x4 _ _ hk=>hk x4
  |cons r l ih=>
   intro hl x4 k _ hk
   have R:=hl r (.head _)
   rw [←l1] at R
   exact ao (n4 R (rl (hl r (.head _))) n) (ih (fun r h=>hl r (.tail _ h)) _ hk)
 refine iG (G4 (wL (a:=1) (l1▸O.pos)) (ay (c:=!decide _) (congrArg not (Option.some.inj (wL (c:=12) (l1▸Nat.le_trans O.few (by decide))))) ?_))
 refine aJ (e:=T.str) (fun _=>.bool true) (fun x hx=>⟨_,rfl,fun k=>ao (l9 (O.marks x hx) _) rfl⟩) (mt (ng _) (ay (Option.some.inj (BB (a:=(M.roads.map aA).length) (c:=(M.names.map T.str).length) (by rw [List.length_map,List.length_map,O.len]))) ?_))
 refine lp M.roads O.rows none fun x4=>?_
 refine ao (n4 (l1▸O.firsts) (rl O.firsts) n) ?_
 exact aJ (e:=aA) aA (fun r _=>⟨_,rfl,fun k=>rfl⟩) rfl
end
structure Kw where
 m:Str
 g:List Bool
 b:Str
noncomputable instance:DecidableEq Kw:=fun a b=>Classical.propDecidable (a=b)
noncomputable abbrev DA (k:Kw):T:=.tup [vq k.m k.g,.str k.b]
noncomputable def G5 (k:Kw):Ky:=.tup [.tup [.str k.m,.tup (k.g.map fun b=>.int (t9 b))],.str k.b]
theorem BX {a c:Kw}(h1:a.m=c.m)(h2:a.g=c.g)(h3:a.b=c.b):a=c:=by
 show Kw.mk a.m a.g a.b=Kw.mk c.m c.g c.b
 rw [h1,h2,h3]
theorem l7:rK DA G5:=⟨fun a=>by
  have e:kU 4 (gT a.g)=some (.tup (a.g.map fun b=>.int (t9 b))):=by rw [AQ,l0];rfl
  show o1 (o2 (o1 (o2 (some (Ky.str a.m)) (o2 (kU 4 (gT a.g)) (some []) fun k ks=>some (k::ks)) fun k ks=>some (k::ks)) fun ks=>some (Ky.tup ks)) (some [Ky.str a.b]) fun k ks=>some (k::ks)) (fun ks=>some (Ky.tup ks))=_
  rw [e];rfl,
 fun a c h=>by
  have h1:=List.cons.inj (Ky.tup.inj h)
  have h2:=List.cons.inj (Ky.tup.inj h1.1)
  exact BX (Ky.str.inj h2.1) (jT (Ky.tup.inj (List.cons.inj h2.2).1)) (Ky.str.inj (List.cons.inj h1.2).1)⟩
theorem tL {α:Type}{e:α→T}{κ:α→Ky} [DecidableEq α] (K:rK e κ){l:List α}{vs:List T}(a:α):dY (e a) (.dct (l.map e) vs)=some (!decide (a∈l)):=by
 show (AT _ _).map _=_
 rw [K.has];rfl
section
variable {M:Mc} {s:Sy}
noncomputable def beh (s:Sy)(m:Str)(g:List Bool)(m':Str):List (List Bool):=(gQ (aq s).length).filter fun g'=>pk (aq s) m g m' g'
noncomputable def th (M:Mc)(s:Sy)(k:Kn):List Kn:=(M.road k.p).flatMap fun q=>(beh s (M.mark k.p) k.g (M.mark q)).map (Kn.mk q)
noncomputable abbrev eQ (s:Sy)(kk:List Kw):T:=.dct (kk.map DA) (kk.map fun k=>.lst ((beh s k.m k.g k.b).map gT))
noncomputable abbrev C2 (M:Mc)(s:Sy)(D:List Kn):T:=.dct (D.map aQ) (D.map fun k=>.lst ((th M s k).map aQ))
noncomputable abbrev wS (M:Mc)(s:Sy)(sp:Int)(kk:List Kw)(K:List Kn)(bg:Nat)(D:List Kn):Sg:=⟨sp,some (10,[hH (aq s),.lst (uz s),M.t,eQ s kk,.lst (K.map aQ),.int bg,C2 M s D])⟩
theorem Gs.bds (G:Gs s){g:List Bool}(h:g.length=(aq s).length):Ax (aq s) g:=⟨fun x hx=>Nat.le_trans (ee hx) (Nat.le_trans (Nat.succ_le_succ G.dep) (by decide)),h,Nat.le_trans G.few (by decide)⟩
variable {sp:Int} {kk:List Kw} {K:List Kn} {bg:Nat} {D:List Kn}
theorem vh (G:Gs s){m m':Str}{g:List Bool}(hg:g.length=(aq s).length)(hl:kk.length < lim)(n:Nat):
  aY (fun t σ'=>t=.lst ((beh s m g m').map gT)∧∃kk',kk'.length≤kk.length+1∧σ'=wS M s sp kk' K bg D) (ai Ψ (n+20) 1004 [.self,vq m g,.str m'] (wS M s sp kk K bg D)):=by
 refine gp ?_
 by_cases h:(⟨m,g,m'⟩:Kw)∈kk
 ·refine dE (o:=dY (DA ⟨m,g,m'⟩) (eQ s kk)) (a:=false) ?_ ?_
  ·rw [eQ,tL l7,decide_eq_true h];rfl
  ·exact dE (l7.get (a:=⟨m,g,m'⟩) h) (ck ⟨rfl,kk,Nat.le_succ _,rfl⟩)
 ·refine dE (o:=dY (DA ⟨m,g,m'⟩) (eQ s kk)) (a:=true) ?_ ?_
  ·rw [eQ,tL l7,decide_eq_false h];rfl
  ·have gl:=mf (σ:=wS M s sp kk K bg D) (n+18) ((aq s).map bf) (by rw [List.length_map];exact G.few)
   rw [List.length_map] at gl
   refine ig gl (xG (e:=gT) (fun g'=>pk (aq s) m g m' g') gT (fun g' hg'=>⟨_,rfl,fun k=>ao (zS rfl (G.bds hg) (G.bds (fi hg')) (n:=n+16) fun x hx=>?_) rfl,fun _ k=>rfl⟩) ?_)
   ·exact Nat.le_trans (ee hx) (Nat.le_trans (Nat.succ_le_succ G.dep) (Nat.le_trans (by decide) (Nat.le_add_left 16 n)))
   ·refine dE (o:=dS (eQ s kk) (DA ⟨m,g,m'⟩) (.lst ((beh s m g m').map gT))) (a:=eQ s (kk++[⟨m,g,m'⟩])) ?_ ?_
    ·rw [eQ,l7.put h hl,eQ,List.map_append (f:=fun k:Kw=>T.lst _)];rfl
    ·refine dE (l7.get (l:=kk++[⟨m,g,m'⟩]) (a:=⟨m,g,m'⟩) (List.mem_append_right _ (.head _))) (ck ⟨rfl,_,?_,rfl⟩)
     rw [List.length_append];exact Nat.le_refl _
theorem jY:∀n:Nat,(gQ n).length=2 ^ n:=by
 intro n
 induction n with
 |zero=>rfl
 |succ n ih=>
  show ((gQ n).map _++(gQ n).map _).length=_
  rw [List.length_append,List.length_map,List.length_map,ih,Nat.pow_succ,Nat.mul_two]
theorem Ai (G:Gs s)(m:Str)(g:List Bool)(m':Str):(beh s m g m').length≤16:=
 Nat.le_trans (List.length_filter_le _ _) (by rw [jY];exact Nat.pow_le_pow_right (j:=4) (by decide) G.few)
theorem BM (O:M.Ok)(G:Gs s){k:Kn}(hp:k.p < M.names.length)(hg:k.g.length=(aq s).length)(hr:∀q∈M.road k.p,q < M.names.length)(hl:(M.road k.p).length≤8)(hk:kk.length≤10000)(n:Nat):
  aY (fun t σ'=>t=.lst ((th M s k).map aQ)∧∃kk',kk'.length≤kk.length+8∧σ'=wS M s sp kk' K bg D) (ai Ψ (n+21) 1003 [.self,aQ k] (wS M s sp kk K bg D)):=by
 have lp:∀(l:List Nat),(∀q∈l,q < M.names.length)→∀(F:List Kn) (kk:List Kw) (x4:Option T) {κ:PK aH} {Q:T→Sg→Prop},F.length+l.length * 16≤10000→kk.length+l.length≤20000→
   (∀kk' x4,kk'.length≤kk.length+l.length→aY Q (κ [some .self,some (aQ k),some (vq (M.mark k.p) k.g),some (.lst ((F++l.flatMap fun q=>(beh s (M.mark k.p) k.g (M.mark q)).map (Kn.mk q)).map aQ)),x4,none] (wS M s sp kk' K bg D)))→
   aY Q (cg (aM 4) (ae (f6 3 ii (ax (aL (su 10 1004 (aa (pV 2) (aa (pU 0 1007 (eP 10 2) (aa (pV 4) ah)) ah)))) (aM 5) av (az (aa (pV 4) (aa (pV 5) ah))))) af) ⟨ai Ψ (n+20)⟩ (l.map nT) [some .self,some (aQ k),some (vq (M.mark k.p) k.g),some (.lst (F.map aQ)),x4,none] (wS M s sp kk K bg D) κ):=fun l=>by
  induction l with
  |nil=>intro _ F kk x4 κ Q _ _ hk;rw [List.flatMap_nil,List.append_nil] at hk;exact hk kk x4 (Nat.le_refl _)
  |cons q l ih=>
   intro hq F kk x4 κ Q h1 h2 hk
   rw [List.length_cons] at h1 h2 hk
   have bl:=Ai G (M.mark k.p) k.g (M.mark q)
   refine ig (jf O (hq q (.head _)) _) (bM (vh G hg (Nat.lt_of_le_of_lt (Nat.le_trans (Nat.le_add_right _ _) h2) (by decide)) n) ?_)
   rintro _ _ ⟨rfl,kk',h3,rfl⟩
   refine fP (e:=gT) (fun g=>aQ ⟨q,g⟩) (fun g _=>⟨_,rfl,fun _=>rfl⟩) (dE (o:=ii (.lst (F.map aQ)) _) (a:=.lst ((F++(beh s (M.mark k.p) k.g (M.mark q)).map (Kn.mk q)).map aQ)) ?_ (ih (fun q h=>hq q (.tail _ h)) _ kk' _ ?_ ?_ fun kk'' x4 h4=>?_))
   ·rw [←pD (by rw [List.length_map,bh];lia),List.map_map];rfl
   ·rw [List.length_append,List.length_map];lia -abstractProof
   ·lia -abstractProof
   ·have:=hk kk'' x4 (by lia)
    rw [List.flatMap_cons,←List.append_assoc] at this
    exact this
 refine oR (ig (jf O hp _) (ig (qJ O hp _) (lp (M.road k.p) hr [] kk none (by rw [List.length_nil];lia -abstractProof) (by lia) fun kk' x4 h=>ck ⟨rfl,kk',by lia,rfl⟩)))
end
theorem ww {S:List Kn}(h:S.Nodup):qR (.lst (S.map fun k=>.tup [aQ k,.bool true]))=some (jL S):=by
 show o1 (mw (S.map fun k=>.tup [aQ k,.bool true]) ([].map aQ) []) _=_
 rw [jR S [] [] h];rfl
section
variable {M:Mc} {s:Sy}
noncomputable def yo (M:Mc)(s:Sy):List Kn:=(List.range M.names.length).flatMap fun p=>(gQ (aq s).length).map (Kn.mk p)
theorem fI {k:Kn}:k∈yo M s↔k.p < M.names.length∧k.g.length=(aq s).length:=by
 constructor
 ·intro h
  obtain ⟨p,h1,h2⟩:=List.mem_flatMap.mp h
  obtain ⟨g,h3,rfl⟩:=List.mem_map.mp h2
  exact ⟨List.mem_range.mp h1,fi h3⟩
 ·exact fun h=>List.mem_flatMap.mpr ⟨k.p,List.mem_range.mpr h.1,List.mem_map.mpr ⟨k.g,nr h.2,rfl⟩⟩
theorem oC (O:M.Ok)(G:Gs s):(yo M s).length≤128:=by
 have:∀l:List Nat,(l.flatMap fun p=>(gQ (aq s).length).map (Kn.mk p)).length=l.length * 2 ^ (aq s).length:=fun l=>by
  induction l with
  |nil=>exact (Nat.zero_mul _).symm
  |cons p l ih=>rw [List.flatMap_cons,List.length_append,ih,List.length_map,jY,List.length_cons,Nat.succ_mul,Nat.add_comm]
 rw [yo,this,List.length_range]
 exact Nat.mul_le_mul O.few (Nat.pow_le_pow_right (j:=4) (by decide) G.few)
theorem cj (O:M.Ok){p:Nat}(h:p < M.names.length):kQ M.names.length (M.road p):=by
 have h:=O.len▸h
 refine O.rows _ ?_
 rw [Mc.road,List.getElem?_eq_getElem h];exact List.getElem_mem h
theorem Bk (O:M.Ok){k y:Kn}(hp:k.p < M.names.length)(h:y∈th M s k):y∈yo M s:=by
 obtain ⟨q,h1,h2⟩:=List.mem_flatMap.mp h
 obtain ⟨g,h3,rfl⟩:=List.mem_map.mp h2
 exact fI.mpr ⟨(cj O hp).lt q h1,fi (List.mem_filter.mp h3).1⟩
structure ue (M:Mc) (s:Sy) (S D R:List Kn):Prop where
 nd:(D++R).Nodup
 sub:∀k∈D++R,k∈yo M s
 clo:∀k∈D,∀y∈th M s k,y∈D++R
 rch:∀k∈D++R,∃a∈S,kA (th M s) a k
 pre:S <+:D++R
theorem ue.push {S D R:List Kn}{k y:Kn}(P:ue M s S D R)(hk:k∈D++R)(hy:y∈th M s k)(hu:y∈yo M s)(hn:y∉D++R):ue M s S D (R++[y]):=by
 have e:D++(R++[y])=(D++R)++[y]:=(List.append_assoc ..).symm
 refine ⟨?_,?_,?_,?_,?_⟩
 ·rw [e,List.nodup_append]
  exact ⟨P.nd,List.pairwise_singleton _ _,fun a ha b hb q=>hn (List.mem_singleton.mp hb▸q▸ha)⟩
 ·rw [e];exact fun x hx=>(List.mem_append.mp hx).elim (P.sub x) fun h=>List.mem_singleton.mp h▸hu
 ·rw [e];exact fun x hx z hz=>List.mem_append_left _ (P.clo x hx z hz)
 ·rw [e]
  intro x hx
  rcases List.mem_append.mp hx with h |h
  ·exact P.rch x h
  ·obtain ⟨a,h1,h2⟩:=P.rch k hk
   exact ⟨a,h1,List.mem_singleton.mp h▸h2.trans (.one hy)⟩
 ·rw [e];exact P.pre.trans (List.prefix_append _ _)
theorem ue.done {S D R:List Kn}{k:Kn}(P:ue M s S D (k::R))(h:∀y∈th M s k,y∈D++k::R):ue M s S (D++[k]) R:=by
 have e:(D++[k])++R=D++k::R:=by rw [List.append_assoc];rfl
 refine ⟨e▸P.nd,e▸P.sub,fun x hx=>?_,e▸P.rch,e▸P.pre⟩
 rw [e]
 rcases List.mem_append.mp hx with hx |hx
 ·exact P.clo x hx
 ·exact List.mem_singleton.mp hx▸h
inductive SW (M:Mc) (s:Sy) (S:List Kn) (sp:Int) (bg:Nat):List Kn×List Kn×List Kw→aH→Sg→Prop
 |mk {D R:List Kn} {kk:List Kw} {x3 x4:Option T} (P:ue M s S D R) (hk:kk.length≤8 * D.length):SW M s S sp bg (D,R,kk) [some .self,some (jL (D++R)),some (.int D.length),x3,x4,none] (wS M s sp kk (D++R) bg D)
inductive SF (M:Mc) (s:Sy) (S:List Kn) (sp:Int) (bg:Nat) (D:List Kn) (k:Kn) (kk:List Kw):List Kn→aH→Sg→Prop
 |mk {pre R':List Kn} {x4:Option T} (P:ue M s S D (k::R')) (hp:∀y∈pre,y∈D++k::R'):SF M s S sp bg D k kk pre [some .self,some (jL (D++k::R')),some (.int D.length),some (aQ k),x4,none] (wS M s sp kk (D++k::R') bg (D++[k]))
theorem yH (O:M.Ok)(G:Gs s){S:List Kn}{sp:Int}(hS:S.Nodup)(hu:∀k∈S,k∈yo M s)(bg:Nat)(n:Nat):
  aY (fun t σ'=>t=.none∧∃kk K,σ'=wS M s sp kk K bg K∧ue M s S K []) (ai Ψ (n+22) 1002 [.self] (wS M s sp [] S bg [])):=by
 have ul:=oC O G
 refine r9 (fP (e:=aQ) (fun k=>.tup [aQ k,.bool true]) (fun k _=>⟨_,rfl,fun _=>rfl⟩) (dE (ww hS) ?_))
 refine jA (S:=List Kn×List Kn×List Kw) (SW M s S sp bg)
  (fun x=>decide ((x.1.length:Int) < (((x.1++x.2.1).map aQ).length:Int))) (fun x=>128 - x.1.length) ?_ ?_ ?_ (s:=([],S,[])) (show 128 - 0 < 400 by decide) (.mk ⟨hS,hu,fun _ h=>(nomatch h),fun k hk=>⟨k,hk,.refl _⟩,List.prefix_rfl⟩ (Nat.le_refl _))
 ·rintro _ _ _ ⟨⟩ k hk
  exact hk
 ·rintro _ _ _ @⟨D,R,kk,x3,x4,P,hk⟩ hg κ hκ
  have len:=Nat.le_trans (aS P.nd P.sub) ul
  obtain _ | ⟨k,R⟩:=R
  ·have:=of_decide_eq_true hg
   rw [List.length_map,List.append_nil] at this
   exact absurd this (Int.lt_irrefl _)
  have km:k∈D++k::R:=List.mem_append_right _ (.head _)
  obtain ⟨hp,hgl⟩:=fI.mp (P.sub k km)
  have rr:=cj O hp
  have kD:k∉D:=fun h=>(List.nodup_append.mp P.nd).2.2 k h k (.head _) rfl
  rw [List.length_append,List.length_cons] at len
  have e1:(D++k::R)[D.length]?=some k:=by rw [List.getElem?_append_right (Nat.le_refl _),Nat.sub_self];rfl
  refine dE (ba (e:=aQ) e1 (by rw [bh];lia)) (bM (BM O G hp hgl rr.lt ?_ ?_ n) ?_)
  ·have:=aS (m:=List.range M.names.length) rr.nd fun p hp=>List.mem_range.mpr (rr.lt p hp)
   rw [List.length_range] at this;exact Nat.le_trans this O.few
  ·lia
  rintro _ _ ⟨rfl,kk',h1,rfl⟩
  refine dE (o:=dS (C2 M s D) (aQ k) _) (a:=C2 M s (D++[k])) ?_ ?_
  ·rw [C2,cv.put kD (by rw [bh];lia -abstractProof),C2,List.map_append (f:=fun k=>T.lst _)];rfl
  refine dE (cv.get (l:=D++[k]) (a:=k) (List.mem_append_right _ (.head _))) ?_
  refine qP (e:=aQ) (l:=th M s k) (SF M s S sp bg D k kk') ?_ ?_ (pre:=[]) rfl (.mk P fun _ h=>nomatch h)
  ·rintro pre y suf _ _ hl @⟨R',x4,P,hp'⟩ κ' hκ'
   have yt:y∈th M s k:=by rw [hl];exact List.mem_append_right _ (.head _)
   have len:=Nat.le_trans (aS P.nd P.sub) ul
   by_cases h:y∈D++k::R'
   ·refine dE (o:=dY (aQ y) (jL (D++k::R'))) (a:=false) (by rw [gZ,decide_eq_true h];rfl) (hκ' _ _ (.mk P fun z hz=>?_))
    exact (List.mem_append.mp hz).elim (hp' z) fun q=>List.mem_singleton.mp q▸h
   ·have ll:(D++k::R').length < lim:=by exact Nat.lt_of_le_of_lt (by assumption) (by decide)
    refine dE (o:=dY (aQ y) (jL (D++k::R'))) (a:=true) (by rw [gZ,decide_eq_false h];rfl) (dE (jb h ll) (dE (cD y ll) ?_))
    have e:(D++k::R')++[y]=D++k::(R'++[y]):=List.append_assoc ..
    rw [e]
    refine hκ' _ _ (.mk (R':=R'++[y]) (P.push (List.mem_append_right _ (.head _)) yt (Bk O hp yt) h) fun z hz=>?_)
    rw [←e]
    exact (List.mem_append.mp hz).elim (fun q=>List.mem_append_left _ (hp' z q)) fun q=>List.mem_append_right _ q
  ·rintro _ _ @⟨R',x4,P,hp'⟩
   have e:(D++[k])++R'=D++k::R':=by rw [List.append_assoc];rfl
   have l:(D++[k]).length=D.length+1:=List.length_append ..
   have w:=SW.mk (sp:=sp) (bg:=bg) (kk:=kk') (x3:=some (aQ k)) (x4:=x4) (P.done hp') (by rw [l];lia)
   rw [e,l] at w
   exact hκ _ _ _ (show 128 - (D++[k]).length < 128 - D.length by rw [l];lia) w
 ·rintro _ _ _ @⟨D,R,kk,x3,x4,P,_⟩ hg
  obtain _ | ⟨k,R⟩:=R
  ·exact ck ⟨rfl,kk,D,by rw [List.append_nil],P⟩
  ·have:=of_decide_eq_false hg
   rw [List.length_map,List.length_append,List.length_cons] at this
   exact absurd (Int.ofNat_lt.mpr (by lia -abstractProof)) this
end
section
variable {M:Mc} {s:Sy}
theorem mn {f:Nat→List (List Bool)}(hf:∀p,(f p).Nodup):∀{l:List Nat},l.Nodup→(l.flatMap fun p=>(f p).map (Kn.mk p)).Nodup:=by
 intro l
 induction l with
 |nil=>exact fun _=>.nil
 |cons p l ih=>
  intro h
  obtain ⟨h1,h2⟩:=List.nodup_cons.mp h
  rw [List.flatMap_cons,List.nodup_append]
  refine ⟨n6 (fun x y e=>congrArg Kn.g e) (hf p),ih h2,fun a ha b hb e=>?_⟩
  obtain ⟨g,_,rfl⟩:=List.mem_map.mp ha
  obtain ⟨q,h3,h4⟩:=List.mem_flatMap.mp hb
  obtain ⟨g',_,rfl⟩:=List.mem_map.mp h4
  exact h1 ((show p=q from congrArg Kn.p e)▸h3)
noncomputable def st (M:Mc)(s:Sy):List Kn:=M.firsts.flatMap fun p=>((gQ (aq s).length).filter fun g=>!so (M.mark p) (aq s) g s).map (Kn.mk p)
theorem lV {k:Kn}:k∈st M s↔k.p∈M.firsts∧k.g.length=(aq s).length∧so (M.mark k.p) (aq s) k.g s=false:=by
 constructor
 ·intro h
  obtain ⟨p,h1,h2⟩:=List.mem_flatMap.mp h
  obtain ⟨g,h3,rfl⟩:=List.mem_map.mp h2
  obtain ⟨h4,h5⟩:=List.mem_filter.mp h3
  exact ⟨h1,fi h4,(Bool.not_eq_true' _).mp h5⟩
 ·exact fun h=>List.mem_flatMap.mpr ⟨k.p,h.1,List.mem_map.mpr ⟨k.g,List.mem_filter.mpr ⟨nr h.2.1,(Bool.not_eq_true' _).mpr h.2.2⟩,rfl⟩⟩
theorem qd (O:M.Ok){k:Kn}(h:k.p < M.names.length):(th M s k).Nodup:=mn (fun _=>(nq _).filter _) (cj O h).nd
noncomputable abbrev iS (M:Mc)(s:Sy)(sp:Int)(F:List Kn):Sg:=⟨sp,some (10,[hH (aq s),.lst (uz s),M.t,.dct [] [],.lst (F.map aQ)])⟩
theorem A8 (O:M.Ok)(G:Gs s){sp:Int}(n:Nat):
  aY (fun t σ'=>t=.none∧∃kk K,σ'=wS M s sp kk K (st M s).length K∧ue M s (st M s) K []) (ai Ψ (n+23) 1001 [.self,M.t,bf s] ⟨sp,some (10,[])⟩):=by
 have inner:∀(p:Nat),p < M.names.length→∀(l:List (List Bool)),(∀g∈l,g.length=(aq s).length)→∀(F:List Kn) (x4:Option T) {k:PK aH} {Q:T→Sg→Prop},F.length+l.length≤10000→
   (∀x4,aY Q (k [some .self,some M.t,some (bf s),some (nT p),x4] (iS M s sp (F++(l.filter fun g=>!so (M.mark p) (aq s) g s).map (Kn.mk p)))))→
   aY Q (cg (aM 4) (ae (bn (cB (qE (am 10 (aa (pV 2) (aa (pU 0 1007 (pV 1) (aa (pV 3) ah)) (aa (eP 10 0) (aa (pV 4) ah))))))) (ae (qz 10 4 (az (aa (pV 3) (aa (pV 4) ah)))) af) af) af) ⟨ai Ψ (n+22)⟩ (l.map gT) [some .self,some M.t,some (bf s),some (nT p),x4] (iS M s sp F) k):=fun p hp l=>by
  induction l with
  |nil=>intro _ F x4 k Q _ hk;rw [List.filter_nil,List.map_nil,List.append_nil] at hk;exact hk x4
  |cons g l ih=>
   intro hl F x4 k Q h1 hk
   rw [List.length_cons] at h1
   refine ig (jf O hp _) (ig (lu (G.bds (hl g (.head _))) s (n+20) (Nat.le_trans G.dep (Nat.le_trans (by decide) (Nat.le_add_left 20 n))) (dL s)) ?_)
   cases e:so (M.mark p) (aq s) g s with
   |true=>
    rw [List.filter_cons_of_neg (by rw [e];decide)] at hk
    exact ih (fun g h=>hl g (.tail _ h)) F _ (by lia) hk
   |false=>
    rw [List.filter_cons_of_pos (by rw [e];rfl)] at hk
    refine dE (cD (e:=aQ) (l:=F) ⟨p,g⟩ (by rw [bh];lia)) (ih (fun g h=>hl g (.tail _ h)) (F++[⟨p,g⟩]) _ ?_ fun x4=>?_)
    ·rw [List.length_append];exact Nat.le_trans (Nat.le_of_eq (Nat.add_assoc ..)) (Nat.add_comm 1 _▸h1)
    ·rw [List.append_assoc];exact hk x4
 have outer:∀(l:List Nat),(∀p∈l,p < M.names.length)→∀(F:List Kn) (x3 x4:Option T) {k:PK aH} {Q:T→Sg→Prop},F.length+l.length * 16≤10000→
   (∀x3 x4,aY Q (k [some .self,some M.t,some (bf s),x3,x4] (iS M s sp (F++l.flatMap fun p=>((gQ (aq s).length).filter fun g=>!so (M.mark p) (aq s) g s).map (Kn.mk p)))))→
   aY Q (cg (aM 3) (ae (b8 (aL (am 8 (aa (eP 10 0) ah))) (aM 4) (ae (bn (cB (qE (am 10 (aa (pV 2) (aa (pU 0 1007 (pV 1) (aa (pV 3) ah)) (aa (eP 10 0) (aa (pV 4) ah))))))) (ae (qz 10 4 (az (aa (pV 3) (aa (pV 4) ah)))) af) af) af)) af) ⟨ai Ψ (n+22)⟩ (l.map nT) [some .self,some M.t,some (bf s),x3,x4] (iS M s sp F) k):=fun l=>by
  induction l with
  |nil=>intro _ F x3 x4 k Q _ hk;rw [List.flatMap_nil,List.append_nil] at hk;exact hk x3 x4
  |cons p l ih=>
   intro hl F x3 x4 k Q h1 hk
   rw [List.length_cons] at h1
   have gl:=mf (σ:=iS M s sp F) (n+21) ((aq s).map bf) (by rw [List.length_map];exact G.few)
   rw [List.length_map] at gl
   have al:(gQ (aq s).length).length≤16:=by rw [jY];exact Nat.pow_le_pow_right (j:=4) (by decide) G.few
   refine ig gl (inner p (hl p (.head _)) _ (fun g h=>fi h) F _ (by lia -abstractProof) fun x4=>ih (fun q h=>hl q (.tail _ h)) _ _ _ ?_ fun x3 x4=>?_)
   ·have:=List.length_filter_le (fun g=>!so (M.mark p) (aq s) g s) (gQ (aq s).length)
    rw [List.length_append,List.length_map];lia -abstractProof
   ·have:=hk x3 x4
    rw [List.flatMap_cons,←List.append_assoc] at this
    exact this
 have fl:M.firsts.length≤8:=by
  have:=aS (m:=List.range M.names.length) O.firsts.nd fun p hp=>List.mem_range.mpr (O.firsts.lt p hp)
  rw [List.length_range] at this;exact Nat.le_trans this O.few
 have d8:dep s≤8:=Nat.le_trans G.dep (by decide)
 refine lM (ig (y7 G (n+13)) (ig (m7 _ s (Nat.le_trans d8 (Nat.le_trans (by decide) (Nat.le_add_left 21 n))) d8) (ig (qx d8 (Nat.le_trans G.few (by decide)) (n+12)) (ig (ur (n+21)) ?_))))
 refine outer M.firsts O.firsts.lt [] none none (by rw [List.length_nil];lia -abstractProof) fun x3 x4=>?_
 refine bM (yH O G (sp:=sp) (S:=st M s) (mn (fun _=>(nq _).filter _) O.firsts.nd) (fun k hk=>fI.mpr ⟨O.firsts.lt _ (lV.mp hk).1,(lV.mp hk).2.1⟩) ((st M s).map aQ).length n) ?_
 rintro _ _ ⟨rfl,kk,K,rfl,P⟩
 exact ck ⟨rfl,kk,K,by rw [List.length_map],P⟩
end
theorem fJ {xs:List T}{j:Nat}{t:T}(h:xs[j]?=some t)(hj:j≤lim):aj (.lst xs) (.int j)=some t:=by
 have:=ba (e:=id) h hj
 rw [List.map_id] at this;exact this
theorem G6 (k:Kn):aj (aQ k) (.int 0)=some (nT k.p):=rfl
theorem G7 (k:Kn):aj (aQ k) (.int 1)=some (gT k.g):=rfl
section
variable {M:Mc} {s:Sy}
noncomputable def qB (M:Mc)(s:Sy)(k:Kn):Nat→Bool
 | 0=>true
 |j+1=>match (qw s)[j]? with
  |some x=>met (aq s) (M.mark k.p) k.g x
  |none=>true
noncomputable abbrev Eo (M:Mc)(s:Sy)(kk:List Kw)(K:List Kn):T:=eF (hH (aq s)) (.lst (uz s)) M.t (eQ s kk) K (st M s).length (th M s)
variable {kk:List Kw} {K:List Kn} {σ:Sg}
theorem oS (G:Gs s):(qw s).length≤4:=Nat.le_trans (List.length_filter_le _ _) G.few
theorem qC (O:M.Ok)(G:Gs s)(hu:∀k∈K,k∈yo M s)(n:Nat):∀k∈K,∀j,j < (uz s).length→ai Ψ (n+20) 1005 [Eo M s kk K,aQ k,.int j] σ=.ret (.bool (qB M s k j)) σ:=by
 intro k hk j hj
 obtain ⟨h1,h2⟩:=fI.mp (hu k hk)
 have pl:=oS G
 obtain _ |j:=j
 ·exact ku (mt (fJ (j:=0) rfl (Nat.zero_le _)) (ao (jf O h1 (n+18)) (ao (wv (m:=M.mark k.p) (g:=k.g) (t:=hH (aq s)) (n+18)) rfl)))
 ·have hj:j < (qw s).length:=by rw [List.length_cons,List.length_map] at hj;exact Nat.lt_of_succ_lt_succ hj
  have e1:(qw s)[j]?=some (qw s)[j]:=List.getElem?_eq_getElem hj
  have m1:=List.mem_filter.mp (List.getElem_mem hj)
  have e2:(uz s)[j+1]?=some (bf (qw s)[j]):=by
   show ((qw s).map bf)[j]?=_
   rw [List.getElem?_map,e1];rfl
  have e3:qB M s k (j+1)=met (aq s) (M.mark k.p) k.g (qw s)[j]:=by
   show (match (qw s)[j]? with |some x=>met (aq s) (M.mark k.p) k.g x |none=>true)=_
   rw [e1]
  rw [e3]
  generalize (qw s)[j]=x at m1 e2
  have hk:(∃a c,x=.till a c)∨∃a,x=.always a:=by
   rcases dO m1.1 with ⟨a,rfl⟩ |h
   ·cases m1.2
   ·exact h
  exact ku (mt (fJ e2 (Nat.le_trans (Nat.le_trans hj pl) (by decide))) (ao (jf O h1 (n+18)) (ao (BF (G.bds h2) m1.1 hk (fun p hp=>cw m1.1 hp) (n:=n+17) (Nat.le_trans (ee m1.1) (Nat.le_trans (Nat.succ_le_succ G.dep) (Nat.le_trans (by decide) (Nat.le_add_left 17 n))))) rfl)))
structure CO (M:Mc) (s:Sy) (K P R:List Kn):Prop where
 lasso:jv (th M s) (st M s) P R
 sub:∀x∈P++R,x∈K
 met:∀j,j < (uz s).length→∃x∈R,qB M s x j=true
 len:(P++R).length≤1000
noncomputable abbrev Da (l:List Kn):T:=.lst (l.map fun k=>nT k.p)
theorem vf (O:M.Ok)(G:Gs s)(S:ue M s (st M s) K []){c0:Kn}{r:List Kn}(hC:∀x∈c0::r,x∈K)(scc:∀x∈c0::r,∀y∈c0::r,kA (th M s) x y)(hs:∀u∈c0::r,∃v∈th M s u,v∈c0::r)(hmet:∀j,j < (uz s).length→∃k∈c0::r,qB M s k j=true)(n:Nat):
  aY (fun t σ'=>σ'=σ∧∃P R,t=.tup [.str (ofString "breaks"),Da P,Da R]∧CO M s K P R) (ai Ψ (n+22) 42 [Eo M s kk K,.lst ((c0::r).map aQ)] σ):=by
 have hu:∀k∈K,k∈yo M s:=fun k hk=>S.sub k (by rw [List.append_nil];exact hk)
 have nd:K.Nodup:=by have:=S.nd;rw [List.append_nil] at this;exact this
 have hc:∀k∈K,∀y∈th M s k,y∈K:=fun k hk y hy=>by have:=S.clo k hk y hy;rw [List.append_nil] at this;exact this
 have k2:K.length≤128:=Nat.le_trans (aS nd hu) (oC O G)
 have k1:K.length≤300:=Nat.le_trans k2 (by decide)
 have pl:=oS G
 have pre:st M s <+:K:=by have:=S.pre;rw [List.append_nil] at this;exact this
 have e1:cut none (some ((st M s).length:Int)) K=st M s:=by rw [fO];exact List.prefix_iff_eq_take.mp pre |>.symm
 refine qp (dE (cL e1) (dE (cL (fO 1 (c0::r))) (bM (oT (starts:=st M s) (goals:=[c0]) k1 hc (nd.sublist pre.sublist) (fun x hx=>pre.subset hx) (n+19)) ?_)))
 rintro _ _ ⟨rfl,P,rfl,h⟩
 have W:Ap (th M s) K (st M s) c0 P:=by
  rcases h with ⟨g,h1,h2⟩ | ⟨_,h⟩
  ·cases List.mem_singleton.mp h1;exact h2
  ·obtain ⟨a,h1,h2⟩:=S.rch c0 (by rw [List.append_nil];exact hC c0 (.head _))
   exact absurd h2 (h a h1 c0 (.head _))
 refine dE (cL (qY P)) (fP (e:=aQ) (fun k=>nT k.p) (fun k _=>⟨_,rfl,fun _=>rfl⟩) (bM (yQ (n:=n+18) k2 hc (fun k hk=>qd O (fI.mp (hu k hk)).1) hC ?_ scc hs hmet (qC O G hu n)) ?_))
 ·rw [List.length_cons,List.length_map];lia
 rintro _ _ ⟨rfl,R,rfl,w1,w2,w3,w4,w5,w6⟩
 refine fP (e:=aQ) (fun k=>nT k.p) (fun k _=>⟨_,rfl,fun _=>rfl⟩) (ck ⟨rfl,P.dropLast,R,rfl,W.lasso w1 w2 w3,fun x hx=>(List.mem_append.mp hx).elim (fun h=>W.sub x (List.dropLast_subset _ h)) (w4 x),w5,?_⟩)
 rw [List.length_append,List.length_dropLast];exact Nat.le_trans (Nat.add_le_add (Nat.le_trans (Nat.sub_le _ _) (Nat.le_trans W.len k2)) w6) (by decide)
end
end
end Mine.L10
namespace Mine.L10
noncomputable section
open PySem
noncomputable def Sf (n:Nat)(t:T):Prop:=∃d,cR n t=some d∧PyData.eqv d d=true
theorem oL {n:Nat}{i:Int}:Sf n (.int i):=⟨.int i,k6 n i,beq_self_eq_true i⟩
theorem yO {n:Nat}{b:Bool}:Sf n (.bool b):=⟨.bool b,qW n b,beq_self_eq_true b⟩
theorem vK {n:Nat}{x:Str}:Sf n (.str x):=⟨.str x,g9 n x,beq_self_eq_true x⟩
theorem vM {n:Nat}:∀{l:List T},(∀x∈l,Sf n x)→∃ds,eS (cR n) l=some ds∧PyData.eqvAll ds ds=true:=fun {l}=>by
 induction l with
 |nil=>exact fun _=>⟨[],rfl,rfl⟩
 |cons x l ih=>
  intro h
  obtain ⟨d,h1,h2⟩:=h x (.head _)
  obtain ⟨ds,h3,h4⟩:=ih fun y hy=>h y (.tail _ hy)
  exact ⟨d::ds,ni h1 h3,by rw [PyData.eqvAll,h2,h4];rfl⟩
theorem oK {n:Nat}{l:List T}(h:∀x∈l,Sf n x):Sf (n+1) (.tup l):=let ⟨ds,h1,h2⟩:=vM h;⟨.tuple ds,kZ h1,h2⟩
theorem vL {n:Nat}{l:List T}(h:∀x∈l,Sf n x):Sf (n+1) (.lst l):=let ⟨ds,h1,h2⟩:=vM h;⟨.list ds,congrArg (Option.map PyData.list) h1,h2⟩
theorem rY {α:Type}{n:Nat}{l:List α}{f:α→T}(h:∀x∈l,Sf n (f x)):∀t∈l.map f,Sf n t:=fun t ht=>let ⟨x,h1,h2⟩:=List.mem_map.mp ht;h2▸h x h1
theorem oM {n:Nat}{x:T}{l:List T}(h:Sf n x)(hl:∀y∈l,Sf n y):∀y∈x::l,Sf n y:=List.forall_mem_cons.mpr ⟨h,hl⟩
theorem Bp {n:Nat}:∀y∈([]:List T),Sf n y:=fun _ h=>nomatch h
theorem Sf.eq {t:T}(h:Sf cQ t):bD t t=some true:=by
 obtain ⟨d,h1,h2⟩:=h
 unfold bD;rw [h1];exact congrArg some h2
end
end Mine.L10
namespace Mine.L10
noncomputable section
open PySem Ltl
theorem Fu {Q:T→Sg→Prop}{o:cc}{c:Nat}{sp:Int}{fs:List T}{k:PK T}(h:o=.ret .none ⟨sp,some (c,fs)⟩)(h2:aY Q (k (.obj c fs) ⟨sp,none⟩)):aY Q (qA c o k):=by
 rw [h]
 unfold qA
 show aY Q (bif Nat.beq c c then k (.obj c fs) ⟨sp,none⟩ else .bad)
 rw [Nat.beq_refl];exact h2
section
variable {th:Kn→List Kn} {K:List Kn}
noncomputable def CE (th:Kn→List Kn):List Kn→Bool
 | []=>false
 |c::r=>!r.isEmpty||decide (c∈th c)
theorem Bq {A B:List (List Kn)}{c:Kn}{r:List Kn}(H:vm th K (A++(c::r)::B))(hK:∀k∈K,∀y∈th k,y∈K)(h:CE th (c::r)=true):∀u∈c::r,∃v∈th u,v∈c::r:=by
 have mem:c::r∈A++(c::r)::B:=List.mem_append_right _ (.head _)
 have nd:(c::r).Nodup:=by
  have:=H.nd
  rw [List.flatten_append,List.flatten_cons] at this
  exact (List.nodup_append.mp (List.nodup_append.mp this).2.1).1
 have two:∀u d,u∈c::r→d∈c::r→u≠d→∃v∈th u,v∈c::r:=fun u d hu hd ne=>by
  cases H.scc _ mem u hu d hd with
  |refl=>exact absurd rfl ne
  |step e q=>exact ⟨_,e,H.within hu e hK q hd⟩
 intro u hu
 cases r with
 |nil=>
  cases List.mem_singleton.mp hu
  exact ⟨c,of_decide_eq_true (show decide (c∈th c)=true from h),.head _⟩
 |cons d r=>
  by_cases q:u=c
  ·exact two u d hu (.tail _ (.head _)) fun e=>(List.nodup_cons.mp nd).1 (q▸e▸.head _)
  ·exact two u c hu (.head _) q
theorem yA {m:Nat}:∀l:List Kn,(∀k∈l,(th k).length≤m)→ei th [] l≤l.length * (m+2):=by
 intro l
 induction l with
 |nil=>exact fun _=>Nat.zero_le _
 |cons k l ih=>
  intro h
  have h1:=ih fun x hx=>h x (.tail _ hx)
  have h2:=h k (.head _)
  show (if k∈[] then 0 else (th k).length+2)+ei th [] l≤_
  rw [if_neg (fun q=>nomatch q),List.length_cons,Nat.succ_mul];lia -abstractProof
end
section
variable {M:Mc} {s:Sy}
structure Av (M:Mc) (s:Sy):Prop where
 ex:∃K Cs,ue M s (st M s) K []∧vm (th M s) K Cs∧(∀x∈K,x∈Cs.flatten)∧∀C∈Cs,CE (th M s) C=true→∃j,j < (uz s).length∧∀k∈C,qB M s k j=false
noncomputable def EO (M:Mc)(s:Sy)(t:T):Prop:=(∃X,t=.tup [.str (ofString "keeps"),.lst X]∧(∀x∈X,Sf 48 x)∧Av M s)∨∃K P R,t=.tup [.str (ofString "breaks"),Da P,Da R]∧ue M s (st M s) K []∧CO M s K P R
theorem uQ (O:M.Ok)(G:Gs s){sp:Int}(n:Nat):aY (fun t σ'=>σ'=⟨sp,none⟩∧EO M s t) (ai Ψ (n+24) 43 [M.t,bf s] ⟨sp,none⟩):=by
 obtain ⟨_,_,w1,rfl,kk,K,rfl,S⟩:=A8 O G (sp:=sp) n
 have hu:∀k∈K,k∈yo M s:=fun k hk=>S.sub k (by rw [List.append_nil];exact hk)
 have nd:K.Nodup:=by have:=S.nd;rw [List.append_nil] at this;exact this
 have hc:∀k∈K,∀y∈th M s k,y∈K:=fun k hk y hy=>by have:=S.clo k hk y hy;rw [List.append_nil] at this;exact this
 have k1:K.length≤128:=Nat.le_trans (aS nd hu) (oC O G)
 have hw:∀k∈K,(th M s k).length≤128:=fun k hk=>Nat.le_trans (aS (qd O (fI.mp (hu k hk)).1) (hc k hk)) k1
 have ws:ei (th M s) [] K < 20000:=Nat.lt_of_le_of_lt (yA K hw) (Nat.lt_of_le_of_lt (Nat.mul_le_mul_right _ k1) (by decide))
 refine vX (Fu w1 (bM (u9 nd (Nat.le_trans k1 (by decide)) hc ws (fun k hk=>Nat.le_trans (hw k hk) (by decide)) (n+21)) ?_))
 rintro _ _ ⟨rfl,Cs,rfl,H,cov⟩
 have lp:∀(suf pre:List (List Kn)) (X:List T) (x5 x6 x7:Option T),Cs=pre++suf→(∀C∈pre,CE (th M s) C=true→∃j,j < (uz s).length∧∀k∈C,qB M s k j=false)→(∀x∈X,Sf 48 x)→X.length+suf.flatten.length≤1000→
   aY (fun t σ'=>σ'=⟨sp,none⟩∧EO M s t) (cg (vn 5 6) (ae (aw 7 (pC (.int 0))) (ae (bn (qE (am 37 (aa (pV 2) (aa (pV 6) ah)))) (ae (aw 7 (am 38 (aa (pV 2) (aa (pV 6) ah)))) (ae (bn (p2 uV (pV 7) (pC .none)) (ae (au (am 42 (aa (pV 2) (aa (pV 6) ah)))) af) af) af)) af)
    (ae (f6 4 ii (ax (aL (pV 6)) (aM 8) av (az (aa (p2 aj (pV 8) (pC (.int 0))) (aa (p2 aj (pV 8) (pC (.int 1))) (aa (p2 cA (p2 cA (p1 aI (pV 3)) (pC (.int 1))) (pV 5)) (aa (pV 7) ah))))))) af)))
    ⟨ai Ψ (n+23)⟩ (kj pre.length (suf.map xL)) [some M.t,some (bf s),some (Eo M s kk K),some (.lst (Cs.map xL)),some (.lst X),x5,x6,x7,none] ⟨sp,none⟩ fun ρ σ=>ae (au (az (aa (pC (.str (ofString "keeps"))) (aa (pV 4) ah)))) af ⟨ai Ψ (n+23)⟩ ρ σ (kE 43)):=fun suf=>by
  induction suf with
  |nil=>
   intro pre X x5 x6 x7 e hp hs _
   exact ck ⟨rfl,.inl ⟨_,rfl,hs,⟨K,Cs,S,H,cov,fun C hC=>hp C (by rw [e,List.append_nil] at hC;exact hC)⟩⟩⟩
  |cons C suf ih=>
   intro pre X x5 x6 x7 e hp hs hX
   obtain _ | ⟨c,r⟩:=C
   ·exact absurd rfl (H.ne [] (by rw [e];exact List.mem_append_right _ (.head _)))
   rw [e] at H
   have CK:∀x∈c::r,x∈K:=fun x hx=>H.sub x (by rw [List.flatten_append,List.flatten_cons];exact List.mem_append_right _ (List.mem_append_left _ hx))
   have go:∀num:Int,(CE (th M s) (c::r)=true→∃j,j < (uz s).length∧∀k∈c::r,qB M s k j=false)→
     aY (fun t σ'=>σ'=⟨sp,none⟩∧EO M s t) (ae (f6 4 ii (ax (aL (pV 6)) (aM 8) av (az (aa (p2 aj (pV 8) (pC (.int 0))) (aa (p2 aj (pV 8) (pC (.int 1))) (aa (p2 cA (p2 cA (p1 aI (pV 3)) (pC (.int 1))) (pV 5)) (aa (pV 7) ah))))))) af
      ⟨ai Ψ (n+23)⟩ [some M.t,some (bf s),some (Eo M s kk K),some (.lst (Cs.map xL)),some (.lst X),some (nT pre.length),some (xL (c::r)),some (.int num),none] ⟨sp,none⟩ fun ρ σ=>cg (vn 5 6) (ae (aw 7 (pC (.int 0))) (ae (bn (qE (am 37 (aa (pV 2) (aa (pV 6) ah)))) (ae (aw 7 (am 38 (aa (pV 2) (aa (pV 6) ah)))) (ae (bn (p2 uV (pV 7) (pC .none)) (ae (au (am 42 (aa (pV 2) (aa (pV 6) ah)))) af) af) af)) af)
    (ae (f6 4 ii (ax (aL (pV 6)) (aM 8) av (az (aa (p2 aj (pV 8) (pC (.int 0))) (aa (p2 aj (pV 8) (pC (.int 1))) (aa (p2 cA (p2 cA (p1 aI (pV 3)) (pC (.int 1))) (pV 5)) (aa (pV 7) ah))))))) af)))
    ⟨ai Ψ (n+23)⟩ (kj (pre.length+1) (suf.map xL)) ρ σ fun ρ σ=>ae (au (az (aa (pC (.str (ofString "keeps"))) (aa (pV 4) ah)))) af ⟨ai Ψ (n+23)⟩ ρ σ (kE 43)):=fun num hn=>by
    rw [List.flatten_cons,List.length_append] at hX
    refine fP (e:=aQ) (fun k=>.tup [nT k.p,gT k.g,.int ((((Cs.map xL).length:Int) - 1) - pre.length),.int num]) (fun k _=>⟨_,rfl,fun _=>rfl⟩) (dE (xq (by rw [List.length_map,bh];lia)) ?_)
    have:=ih (pre++[c::r]) (X++(c::r).map fun k=>.tup [nT k.p,gT k.g,.int ((((Cs.map xL).length:Int) - 1) - pre.length),.int num]) (some (nT pre.length)) (some (xL (c::r))) (some (.int num)) (by rw [e,List.append_assoc];rfl) (fun C hC=>(List.mem_append.mp hC).elim (hp C) fun q=>List.mem_singleton.mp q▸hn) (fun x hx=>(List.mem_append.mp hx).elim (hs x) (rY (fun k _=>oK (oM oL (oM (oK (rY fun _ _=>yO)) (oM oL (oM oL Bp))))) x)) (by rw [List.length_append,List.length_map];exact Nat.le_trans (Nat.le_of_eq (Nat.add_assoc ..)) hX)
    rw [List.length_append] at this
    exact this
   refine ig (vQ (CK c (.head _)) (n+22)) ?_
   cases hr:CE (th M s) (c::r) with
   |false=>
    rw [show (!r.isEmpty||decide (c∈th M s c))=false from hr]
    exact go 0 fun q=>absurd (hr.symm.trans q) (by decide)
   |true=>
    rw [show (!r.isEmpty||decide (c∈th M s c))=true from hr]
    refine bM (vv CK ?_ (qC O G hu (n+2))) ?_
    ·rw [List.length_cons,List.length_map];have:=oS G;lia -abstractProof
    rintro _ _ ⟨rfl,⟨rfl,h⟩ | ⟨j,h1,rfl,h2⟩⟩
    ·refine bM (vf O G S CK (H.scc _ (List.mem_append_right _ (.head _))) (Bq H hc hr) h (n+1)) ?_
     rintro _ _ ⟨rfl,P,R,rfl,B⟩
     exact ck ⟨rfl,.inr ⟨K,P,R,rfl,S,B⟩⟩
    ·exact go j fun _=>⟨j,h1,h2⟩
 exact lp Cs [] [] none none none rfl (fun _ h=>nomatch h) (fun _ h=>nomatch h) (by rw [List.length_nil,Nat.zero_add];exact Nat.le_trans (aS H.nd H.sub) (Nat.le_trans k1 (by decide)))
end
section
variable {M:Mc} {s:Sy}
noncomputable def lw (ms:List Str)(b:Nat)(t:Nat):Str:=(ms[it ms.length b t 0]?).getD default
structure EL (M:Mc) (p:Nat→Nat):Prop where
 fst:p 0∈M.firsts
 nxt:∀i,p (i+1)∈M.road (p i)
theorem o5 {k y:Kn}:y∈th M s k↔y.p∈M.road k.p∧y.g.length=(aq s).length∧pk (aq s) (M.mark k.p) k.g (M.mark y.p) y.g=true:=by
 constructor
 ·intro h
  obtain ⟨q,h1,h2⟩:=List.mem_flatMap.mp h
  obtain ⟨g,h3,rfl⟩:=List.mem_map.mp h2
  obtain ⟨h4,h5⟩:=List.mem_filter.mp h3
  exact ⟨h1,fi h4,h5⟩
 ·exact fun h=>List.mem_flatMap.mpr ⟨y.p,h.1,List.mem_map.mpr ⟨y.g,List.mem_filter.mpr ⟨nr h.2.1,h.2.2⟩,rfl⟩⟩
theorem wV (H:Av M s){p:Nat→Nat}(R:EL M p):Sem (fun i=>M.mark (p i)) s 0:=by
 obtain ⟨K,Cs,S,C,cov,hC⟩:=H.ex
 refine Classical.byContradiction fun no=>?_
 let w:Nat→Str:=fun i=>M.mark (p i)
 let κ:Nat→Kn:=fun i=>⟨p i,yp w (aq s) i⟩
 have tl:∀i,(yp w (aq s) i).length=(aq s).length:=fun i=>List.length_map ..
 have h1:∀i,κ (i+1)∈th M s (κ i):=fun i=>o5.mpr ⟨R.nxt i,tl _,xh i⟩
 have h0:∀i,κ i∈K:=fun i=>by
  induction i with
  |zero=>
   have:=S.pre.subset ((lV (k:=κ 0)).mpr ⟨R.fst,tl 0,Bool.eq_false_iff.mpr fun q=>no ((dy 0 s (dL s)).mp q)⟩)
   rw [List.append_nil] at this;exact this
  |succ i ih=>have:=S.clo _ ih _ (h1 i);rw [List.append_nil] at this;exact this
 obtain ⟨D,hD,N,hN⟩:=C.stay cov h0 h1
 have rd:CE (th M s) D=true:=by
  have a:=hN N (Nat.le_refl _)
  have b:=hN (N+1) (Nat.le_succ _)
  have e:=h1 N
  obtain _ | ⟨c,_ | ⟨d,r⟩⟩:=D
  ·cases a
  ·rw [List.mem_singleton.mp a,List.mem_singleton.mp b] at e
   show (!true||decide (c∈th M s c))=true
   rw [decide_eq_true e];rfl
  ·rfl
 obtain ⟨j,hj,hm⟩:=hC D hD rd
 obtain _ |j:=j
 ·cases hm _ (hN N (Nat.le_refl _))
 ·have hj:j < (qw s).length:=by rw [List.length_cons,List.length_map] at hj;exact Nat.lt_of_succ_lt_succ hj
  have m1:=List.mem_filter.mp (List.getElem_mem hj)
  obtain ⟨i,hi,hx⟩:=y8 (w:=w) m1.1 N
  have:=hm _ (hN i hi)
  have e:qB M s (κ i) (j+1)=met (aq s) (w i) (yp w (aq s) i) (qw s)[j]:=by
   show (match (qw s)[j]? with |some x=>met (aq s) (M.mark (p i)) (yp w (aq s) i) x |none=>true)=_
   rw [List.getElem?_eq_getElem hj]
  rw [e,hx] at this
  cases this
theorem kW {n b t i:Nat}:it n b (t+1) i=nx n b (it n b t i):=dZ t 1 i
theorem t8 {K P R:List Kn}(B:CO M s K P R):∃p,EL M p∧(fun i=>M.mark (p i))=lw ((P++R).map fun k=>M.mark k.p) P.length∧¬Sem (fun i=>M.mark (p i)) s 0:=by
 have hb:=B.lasso.lt
 have h0:0 < (P++R).length:=Nat.lt_of_le_of_lt (Nat.zero_le _) hb
 have lt:=fun t=>qM hb t 0 h0
 let κ:Nat→Kn:=fun t=>(P++R)[it (P++R).length P.length t 0]'(lt t)
 have hκ:∀t,(P++R)[it (P++R).length P.length t 0]?=some (κ t):=fun t=>List.getElem?_eq_getElem (lt t)
 have h1:∀i,κ (i+1)∈th M s (κ i):=fun i=>B.lasso.step (hκ i) (by rw [←kW];exact hκ (i+1))
 obtain ⟨a,ha,hs⟩:=B.lasso.hd
 have e0:κ 0=a:=Option.some.inj ((hκ 0).symm.trans (by rw [←ha,List.head?_eq_getElem?];rfl))
 obtain ⟨s1,s2,s3⟩:=lV.mp hs
 refine ⟨fun t=>(κ t).p,⟨by rw [e0];exact s1,fun i=>(o5.mp (h1 i)).1⟩,?_,fun q=>?_⟩
 ·funext t
  rw [lw,List.length_map,List.getElem?_map,hκ t];rfl
 ·have:=(ci (w:=fun i=>M.mark (κ i).p) (γ:=fun i=>(κ i).g) (fun i=>(o5.mp (h1 i)).2.2) (fun x hx i=>?_) s (dL s) 0).mpr q
  ·rw [e0,s3] at this;cases this
  ·have main:F3 x=true→∃j,i≤j∧met (aq s) (M.mark (κ j).p) (κ j).g x=true:=fun hP=>by
    have px:x∈qw s:=List.mem_filter.mpr ⟨hx,hP⟩
    obtain ⟨j,hj,e⟩:=List.getElem_of_mem px
    obtain ⟨y,hy,hm⟩:=B.met (j+1) (by rw [List.length_cons,List.length_map];exact Nat.succ_lt_succ hj)
    have hm:(match (qw s)[j]? with |some x=>met (aq s) (M.mark y.p) y.g x |none=>true)=true:=hm
    rw [List.getElem?_eq_getElem hj,e] at hm
    obtain ⟨r,hr,ey⟩:=List.getElem_of_mem hy
    obtain ⟨t,ht⟩:=iq (i:=it (P++R).length P.length i 0) (j:=P.length+r) hb (lt i) (Nat.le_add_right _ _) (by rw [List.length_append];exact Nat.add_lt_add_left hr _)
    have:κ (i+t)=y:=by
     refine Option.some.inj ((hκ (i+t)).symm.trans ?_)
     rw [dZ,ht,List.getElem?_append_right (Nat.le_add_right _ _),Nat.add_sub_cancel_left,List.getElem?_eq_getElem hr,ey]
    exact ⟨i+t,Nat.le_add_right _ _,by rw [this];exact hm⟩
   rcases dO hx with ⟨a,rfl⟩ | ⟨a,c,rfl⟩ | ⟨a,rfl⟩
   ·exact ⟨i,Nat.le_refl _,rfl⟩
   ·exact main rfl
   ·exact main rfl
end
noncomputable abbrev bT (n:Nat)(f:Nat→Bool):T:=.lst ((List.range n).map fun i=>.bool (f i))
section
variable {n:Nat} {f g:Nat→Bool}
theorem jp (h:∀i,i < n→f i=g i):bT n f=bT n g:=congrArg T.lst (List.map_congr_left fun i hi=>by rw [h i (List.mem_range.mp hi)])
theorem eR {i:Nat}(h:i < n)(hn:n≤lim):aj (bT n f) (.int i)=some (.bool (f i)):=ba (e:=fun i=>T.bool (f i)) (List.getElem?_range h) (Nat.le_trans (Nat.le_of_lt h) hn)
theorem Cp {i:Nat}{v:Bool}(h:i < n):sg (bT n f) (.int i) (.bool v)=some (bT n fun x=>if x=i then v else f x):=by
 show (bif decide ((0:Int)≤i)&&decide ((i:Int) < (((List.range n).map fun i=>T.bool (f i)).length:Nat)) then some (T.lst (((List.range n).map fun i=>T.bool (f i)).set i (.bool v))) else none)=_
 rw [List.length_map,List.length_range,decide_eq_true (Int.natCast_nonneg i),decide_eq_true (Int.ofNat_lt.mpr h)]
 refine congrArg (fun l=>some (T.lst l)) (List.ext_getElem? fun j=>?_)
 rw [List.getElem?_set,List.length_map,List.length_range,List.getElem?_map,List.getElem?_map]
 by_cases e:i=j
 ·subst e
  rw [if_pos rfl,if_pos h,List.getElem?_range h]
  show _=some (T.bool (if i=i then v else f i))
  rw [if_pos rfl]
 ·rw [if_neg e]
  by_cases hj:j < n
  ·rw [List.getElem?_range hj]
   show _=some (T.bool (if j=i then v else f j))
   rw [if_neg fun q=>e q.symm];rfl
  ·rw [List.getElem?_eq_none (by rw [List.length_range];exact Nat.le_of_not_lt hj)];rfl
noncomputable def dl:Nat→List T
 | 0=>[]
 |m+1=>nT m::dl m
theorem DO {n:Nat}(hn:n≤100000):CH [.int ((n:Int) - 1),.int (-1),.int (-1)]=some (dl n):=by
 have e:∀m:Nat,((List.range m).map fun k:Nat=>T.int (((m:Int) - 1)+(k:Nat) * (-1)))=dl m:=fun m=>by
  induction m with
  |zero=>rfl
  |succ m ih=>
   rw [List.range_succ_eq_map,List.map_cons,List.map_map,dl,←ih]
   exact congr (congrArg _ (congrArg T.int (by lia -abstractProof))) (List.map_congr_left fun k _=>congrArg T.int (by show ((m+1:Nat):Int) - 1+((k+1:Nat):Int) * (-1)=_;lia))
 have s:Builtin.Range.rangeSize ((n:Int) - 1) (-1) (-1)=n:=by
  unfold Builtin.Range.rangeSize
  simp only [show ¬((-1:Int) > 0) by decide,if_false]
  rw [show ((n:Int) - 1 - -1 - 1) / (- -1)=(n:Int) - 1 by rw [show (- -1:Int)=1 from rfl,Int.ediv_one];lia -abstractProof]
  split<;>lia -abstractProof
 unfold CH
 show dn _ _ _=_
 have r:cn ((n:Int) - 1) (-1) (-1)=dl n:=by rw [cn,s];exact e n
 have l:(dl n).length=n:=by rw [←e n,List.length_map,List.length_range]
 rw [dn,r,l,show bS n=true from Nat.ble_eq_true_of_le (Nat.le_trans hn (by decide)),show sm ((n:Int) - 1)=true from Nat.ble_eq_true_of_le (by lia -abstractProof)];rfl
variable {b:Nat} {p q h:Nat→Bool} {σ:Sg}
theorem Bw {x y z:Bool}{c:dw}{ρ:aH}{l m r:PE}{k:PK T}{o:cc}(h1:∀k,l c ρ σ k=k (.bool x) σ)(h2:∀k,m c ρ σ k=k (.bool y) σ)(h3:∀k,r c ρ σ k=k (.bool z) σ)(hk:k (.bool (x||(y&&z))) σ=o):v9 l (iD m r) c ρ σ k=o:=by
 show l c ρ σ _=o
 rw [h1]
 cases x with
 |true=>exact hk
 |false=>
  show m c ρ σ _=o
  rw [h2]
  cases y with
  |false=>exact hk
  |true=>exact (h3 _).trans hk
theorem tt (hb:b < n)(hn:n≤1000){k:Nat}(hh:h b=U n b p q k b){c:dw}{x4:Option T}:∀(m:Nat),m≤n→∀(x5 x6:Option T) {κ:PK aH} {o:cc},(∀x5 x6,κ [some (bT n p),some (bT n q),some (nT b),some (bT n fun i=>U n b p q (n - i+k) i),x4,x5,x6] σ=o)→
  cg (aM 5) (ae (aw 6 (yW (p2 bD (pV 5) (p2 cA (p1 aI (pV 0)) (pC (.int 1)))) (pV 2) (p2 aC (pV 5) (pC (.int 1))))) (ae (s6 3 sg (pV 5) (v9 (p2 aj (pV 1) (pV 5)) (iD (p2 aj (pV 0) (pV 5)) (p2 aj (pV 3) (pV 6))))) af))
   c (dl m) [some (bT n p),some (bT n q),some (nT b),some (bT n fun i=>if m≤i then U n b p q (n - i+k) i else h i),x4,x5,x6] σ κ=o:=by
 have nl:n≤lim:=Nat.le_trans hn (by decide)
 intro m
 induction m with
 |zero=>exact fun _ x5 x6 _ _ hk=>hk x5 x6
 |succ m ih=>
  intro hm x5 x6 κ o hk
  have step:∀z,z=U n b p q (n - (m+1)+k) (nx n b m)→(bT n fun x=>if x=m then (q m||(p m&&z)) else (if m+1≤x then U n b p q (n - x+k) x else h x))=bT n fun x=>if m≤x then U n b p q (n - x+k) x else h x:=fun z hz=>jp fun i hi=>by
   by_cases e:i=m
   ·rw [if_pos e,if_pos (Nat.le_of_eq e.symm),e,hz,show n - m+k=(n - (m+1)+k)+1 by lia];rfl
   ·rw [if_neg e]
    by_cases l:m≤i
    ·rw [if_pos l,if_pos (by lia -abstractProof)]
    ·rw [if_neg l,if_neg (by lia)]
  have go:∀(j:Nat) (z:Bool),j < n→(if m+1≤j then U n b p q (n - j+k) j else h j)=z→z=U n b p q (n - (m+1)+k) (nx n b m)→ae (s6 3 sg (pV 5) (v9 (p2 aj (pV 1) (pV 5)) (iD (p2 aj (pV 0) (pV 5)) (p2 aj (pV 3) (pV 6))))) af c [some (bT n p),some (bT n q),some (nT b),some (bT n fun i=>if m+1≤i then U n b p q (n - i+k) i else h i),x4,some (nT m),some (nT j)] σ
    (fun ρ σ=>cg (aM 5) (ae (aw 6 (yW (p2 bD (pV 5) (p2 cA (p1 aI (pV 0)) (pC (.int 1)))) (pV 2) (p2 aC (pV 5) (pC (.int 1))))) (ae (s6 3 sg (pV 5) (v9 (p2 aj (pV 1) (pV 5)) (iD (p2 aj (pV 0) (pV 5)) (p2 aj (pV 3) (pV 6))))) af)) c (dl m) ρ σ κ)=o:=fun j z hj ez hz=>by
   refine Bw (fun _=>mt (eR hm nl) rfl) (fun _=>mt (eR hm nl) rfl) (fun _=>mt (eR hj nl) rfl) (mt (Cp hm) ?_)
   have:=ih (Nat.le_of_lt hm) (some (nT m)) (some (nT j)) hk
   rw [←step z hz,←ez] at this
   exact this
  by_cases e:m+1=n
  ·refine cJ (Option.some.inj (show bD (nT m) (.int (((((List.range n).map fun i=>T.bool (p i)).length:Nat):Int) - 1))=some true from ?_)) (go b _ hb rfl ?_)
   ·rw [d6,List.length_map,List.length_range,decide_eq_true (by lia)]
   ·rw [if_neg (by lia -abstractProof),hh,nx,if_pos e,show n - (m+1)+k=k by lia]
  ·refine ay (Option.some.inj (show bD (nT m) (.int (((((List.range n).map fun i=>T.bool (p i)).length:Nat):Int) - 1))=some false from ?_)) (go (m+1) _ (by lia) rfl ?_)
   ·rw [d6,List.length_map,List.length_range,decide_eq_false (by lia)]
   ·rw [if_pos (Nat.le_refl _),nx,if_neg e]
end
theorem vV {n:Nat}(hn:n≤1000)(v:Bool):fw (.lst [.bool v]) (.int n)=some (bT n fun _=>v):=by
 unfold fw
 show (bif decide ((0:Int)≤n)&&(decide ((n:Int)≤1000)&&true) then some (T.lst (List.replicate n [T.bool v]).flatten) else none)=_
 rw [decide_eq_true (Int.natCast_nonneg n),decide_eq_true (show (n:Int)≤1000 from Int.ofNat_le.mpr hn)]
 refine congrArg (fun l=>some (T.lst l)) ?_
 have:∀m,(List.replicate m [T.bool v]).flatten=(List.range m).map fun _=>T.bool v:=fun m=>by
  rw [List.map_const',List.length_range]
  induction m with
  |zero=>rfl
  |succ m ih=>rw [List.replicate_succ,List.flatten_cons,ih];rfl
 exact this n
theorem xV {n:Nat}{f:Nat→Bool}:(((List.range n).map fun i=>T.bool (f i)).length:Nat)=n:=by rw [List.length_map,List.length_range]
section
variable {n b:Nat} {p q:Nat→Bool} {σ:Sg}
theorem iU (hb:b < n)(hn:n≤1000)(m:Nat):ai Ψ (m+1) 53 [bT n p,bT n q,nT b] σ=.ret (bT n fun i=>U n b p q (n - i+(n - b)) i) σ:=by
 have e1:CH [.int (((((List.range n).map fun i=>T.bool (p i)).length:Nat):Int) - 1),.int (-1),.int (-1)]=some (dl n):=by rw [xV];exact DO (Nat.le_trans hn (by decide))
 have e2:fw (.lst [.bool false]) (.int (((List.range n).map fun i=>T.bool (p i)).length:Nat))=some (bT n fun _=>false):=by rw [xV];exact vV hn false
 have f1:∀(h:Nat→Bool) (k:Nat),(bT n fun i=>if n≤i then U n b p q (n - i+k) i else h i)=bT n h:=fun h k=>jp fun i hi=>if_neg (Nat.not_le.mpr hi)
 have p1:=fun {c x4}=>tt (σ:=σ) (h:=fun _=>false) (k:=0) hb hn (p:=p) (q:=q) rfl (c:=c) (x4:=x4) n (Nat.le_refl _)
 have p2:=fun {c x4}=>tt (σ:=σ) (h:=fun i=>U n b p q (n - i+0) i) (k:=n - b) hb hn (p:=p) (q:=q) rfl (c:=c) (x4:=x4) n (Nat.le_refl _)
 rw [f1] at p1 p2
 exact q8 (mt e2 (mt (eH (n:=2) (by decide)) (mt e1 (p1 none none fun x5 x6=>mt e1 (p2 x5 x6 fun x5 x6=>rfl)))))
end
section
variable {ms:List Str} {b:Nat} {σ:Sg}
noncomputable def ej (ms:List Str)(b:Nat)(s:Sy)(i:Nat):Bool:=@decide (Sem (lw ms b) s i) (Classical.propDecidable _)
theorem aU {s:Sy}{i:Nat}:ej ms b s i=true↔Sem (lw ms b) s i:=@decide_eq_true_iff _ (Classical.propDecidable _)
theorem uS {n b:Nat}(hb:b < n):∀i,i < n→it n b i 0=i:=by
 intro i
 induction i with
 |zero=>exact fun _=>rfl
 |succ i ih=>exact fun h=>by rw [kW,ih (Nat.lt_of_succ_lt h),nx,if_neg (Nat.ne_of_lt h)]
theorem rZ (hb:b < ms.length)(s:Sy)(t:Nat):Sem (lw ms b) s t↔Sem (lw ms b) s (it ms.length b t 0):=by
 refine bP s _ _ fun j=>?_
 have lt:=qM hb t 0 (Nat.lt_of_le_of_lt (Nat.zero_le _) hb)
 rw [lw,lw,dZ,dZ,uS hb _ lt]
theorem gk (hb:b < ms.length)(s:Sy){i t:Nat}(hi:i < ms.length):Sem (lw ms b) s (i+t)↔ej ms b s (it ms.length b t i)=true:=by
 rw [aU,rZ hb,dZ,uS hb _ hi]
theorem nV (hb:b < ms.length){a c:Sy}{i:Nat}(hi:i < ms.length):U ms.length b (ej ms b a) (ej ms b c) (ms.length - i+(ms.length - b)) i=ej ms b (.till a c) i:=by
 rw [Bool.eq_iff_iff,aU]
 constructor
 ·intro h
  obtain ⟨t,_,h1,h2⟩:=rH.mp h
  exact ⟨t,(gk hb c hi).mpr h1,fun u hu=>(gk hb a hi).mpr (h2 u hu)⟩
 ·rintro ⟨t,h1,h2⟩
  exact yg (Nat.add_le_add_right (Nat.sub_le_sub_right (Nat.le_of_lt hb) i) _) (ud hb hi t ((gk hb c hi).mp h1) fun u hu=>(gk hb a hi).mp (h2 u hu))
theorem j7 (hb:b < ms.length){a:Sy}{i:Nat}(hi:i < ms.length):(!U ms.length b (fun _=>true) (fun j=>!ej ms b a j) (ms.length - i+(ms.length - b)) i)=ej ms b (.always a) i:=by
 rw [Bool.eq_iff_iff,aU,Bool.not_eq_true',←Bool.not_eq_true]
 constructor
 ·intro h t
  refine (gk hb a hi).mpr ?_
  cases e:ej ms b a (it ms.length b t i) with
  |true=>rfl
  |false=>exact absurd (yg (Nat.add_le_add_right (Nat.sub_le_sub_right (Nat.le_of_lt hb) i) _) (ud (p:=fun _=>true) (q:=fun j=>!ej ms b a j) hb hi t (by rw [e];rfl) fun _ _=>rfl)) h
 ·intro h q
  obtain ⟨t,_,h1,_⟩:=rH.mp q
  rw [(gk hb a hi).mp (h t)] at h1;cases h1
theorem lC (hb:b < ms.length){a:Sy}{i:Nat}(hi:i < ms.length):((List.range ms.length).drop b).any (ej ms b a)=ej ms b (.again a) i:=by
 rw [Bool.eq_iff_iff,aU,List.any_eq_true]
 constructor
 ·rintro ⟨j,hj,h⟩ t
  obtain ⟨h1,h2⟩:=gH.mp hj
  obtain ⟨u,hu⟩:=iq hb (qM hb t i hi) h1 h2
  refine ⟨u,?_⟩
  rw [Nat.add_assoc,gk hb a hi,dZ,hu];exact h
 ·intro h
  obtain ⟨t,ht⟩:=iq hb hi (Nat.le_refl b) hb
  obtain ⟨u,hu⟩:=h t
  rw [Nat.add_assoc,gk hb a hi,dZ,ht] at hu
  exact ⟨_,gH.mpr ⟨uu hb (Nat.le_refl _) hb u,qM hb u _ hb⟩,hu⟩
end
theorem pI {n b:Nat}(h:b≤n):clipAt n (b:Int)=b:=(mJ n b).trans (Nat.min_eq_left h)
theorem sL {α:Type}{b:Nat}{l:List α}(h:b≤l.length):cut (some (b:Int)) none l=l.drop b:=by
 show (l.drop (clipAt l.length b)).take (l.length - clipAt l.length b)=_
 rw [pI h,←List.length_drop,List.take_length]
section
variable {n b:Nat} {f g:Nat→Bool}
theorem rq (f:Nat→Bool):∀l:List Nat,gP (l.map fun i=>.bool (f i))=some (l.map f):=by
 intro l
 induction l with
 |nil=>rfl
 |cons i l ih=>show o2 (some (f i)) (gP (l.map fun i=>.bool (f i))) _=_;rw [ih];rfl
theorem oz (op:Bool→Bool→Bool):jx op (bT n f) (bT n g)=some (bT n fun i=>op (f i) (g i)):=by
 show o2 (gP ((List.range n).map fun i=>.bool (f i))) (gP ((List.range n).map fun i=>.bool (g i))) _=_
 rw [rq,rq]
 show some (T.lst ((List.zipWith op ((List.range n).map f) ((List.range n).map g)).map T.bool))=_
 rw [List.zipWith_map,List.zipWith_self,List.map_map];rfl
theorem y3 (hb:b < n)(hn:n≤1000):aC (.lst (cut (some 1) none ((List.range n).map fun i=>T.bool (f i)))) (.lst [.bool (f b)])=some (bT n fun i=>f (nx n b i)):=by
 obtain ⟨k,rfl⟩:∃k,n=k+1:=⟨n - 1,by lia⟩
 have e:(List.range (k+1)).map (fun i=>T.bool (f (nx (k+1) b i)))=cut (some 1) none ((List.range (k+1)).map fun i=>T.bool (f i))++[.bool (f b)]:=by
  rw [mD,List.range_succ,List.map_append,List.map_cons,List.map_nil,nx,if_pos rfl]
  refine congrArg (·++_) ?_
  rw [←List.range_succ,List.range_succ_eq_map,List.map_cons,List.map_map,List.drop_one,List.tail_cons]
  exact List.map_congr_left fun i hi=>by rw [nx,if_neg (by have:=List.mem_range.mp hi;lia)];rfl
 show oj _ _=_
 rw [←e]
 exact pK (by rw [List.length_map,List.length_range];exact Nat.le_trans hn (by decide))
end
noncomputable abbrev Ew (w:Str)(x:String)(b:Bool):Prop:=bD (.str w) (.str (ofString x))=some b
section
variable {σ:Sg} {c:dw} {t0 X Y r0 r1 v o:T} {w:Str} {ts ys:List T}
noncomputable abbrev G1 (t0 X Y:T)(w:Str):aH:=[some t0,some X,some Y,some (.str w),none,none,none,none,none,none,none,none]
noncomputable abbrev GI (c:dw)(t0 X Y:T)(w:Str)(ts ys:List T)(σ:Sg):Prop:=∀k:PK (List T),aX (aM 8) av (am 54 (aa (pV 8) (aa (pV 1) (aa (pV 2) ah)))) c (G1 t0 X Y w) ts σ [] k=k ys σ
theorem Cc {v:T}{a b r:cc}(h:a=r):(bif bS [v].length then a else b)=r:=h
theorem be {bd:PB}{cond:PT}{elt:PE}{ρ:aH}{xs zs:List T}{k:PK (List T)}{r:cc}(h:∀k:PK (List T),aX bd cond elt c ρ xs σ [] k=k zs σ)(hk:k zs σ=r):aX bd cond elt c ρ xs σ [] k=r:=(h k).trans hk
variable (h0:aj t0 (.int 0)=some (.str w)) (e1:Ew w "mark" false) (e2:Ew w "yes" false) (hP:c.call 2 [t0] σ=.ret (.lst ts) σ) (hC:GI c t0 X Y w ts ys σ)
include h0 e1 e2 hP hC
theorem Bu {xs zs:List T}(e3:Ew w "not" true)(hr:aj (.lst ys) (.int 0)=some (.lst xs))(hN:∀(ρ:aH) (k:PK (List T)),(∀t,bC (ρ.set 9 (some t)) 9=some t)→aX (aM 9) av (gF (pV 9)) c ρ xs σ [] k=k zs σ){k:PK aH}:eL c [some t0,some X,some Y,none,none,none,none,none,none,none,none,none] σ k=.ret (.lst zs) σ:=
 ab rfl (ab h0 (ab rfl (ab e1 (ay rfl (ab rfl (ab e2 (ay rfl (ab rfl (ao hP (ab rfl (be hC (ab rfl (ab e3 (cJ rfl (ab rfl (ab hr (ab rfl (be (fun k=>hN _ k fun _=>rfl) rfl))))))))))))))))))
theorem Bv (e3:Ew w "not" false)(e4:Ew w "and" true)(hr:aj (.lst ys) (.int 0)=some r0)(hr1:aj (.lst ys) (.int 1)=some r1)(hz:jx (·&&·) r0 r1=some o){k:PK aH}:eL c [some t0,some X,some Y,none,none,none,none,none,none,none,none,none] σ k=.ret o σ:=
 ab rfl (ab h0 (ab rfl (ab e1 (ay rfl (ab rfl (ab e2 (ay rfl (ab rfl (ao hP (ab rfl (be hC (ab rfl (ab e3 (ay rfl (ab rfl (ab e4 (cJ rfl (ab rfl (ab hr (ab rfl (ab hr1 (ab hz rfl))))))))))))))))))))))
theorem Dc (e3:Ew w "not" false)(e4:Ew w "and" false)(e5:Ew w "or" true)(hr:aj (.lst ys) (.int 0)=some r0)(hr1:aj (.lst ys) (.int 1)=some r1)(hz:jx (·||·) r0 r1=some o){k:PK aH}:eL c [some t0,some X,some Y,none,none,none,none,none,none,none,none,none] σ k=.ret o σ:=
 ab rfl (ab h0 (ab rfl (ab e1 (ay rfl (ab rfl (ab e2 (ay rfl (ab rfl (ao hP (ab rfl (be hC (ab rfl (ab e3 (ay rfl (ab rfl (ab e4 (ay rfl (ab rfl (ab e5 (cJ rfl (ab rfl (ab hr (ab rfl (ab hr1 (ab hz rfl)))))))))))))))))))))))))
theorem yZ (e3:Ew w "not" false)(e4:Ew w "and" false)(e5:Ew w "or" false)(e6:Ew w "next" true)(hr:aj (.lst ys) (.int 0)=some r0)(hs:bi r0 (some 1) none=some r1)(hi:aj r0 Y=some v)(ha:aC r1 (.lst [v])=some o){k:PK aH}:eL c [some t0,some X,some Y,none,none,none,none,none,none,none,none,none] σ k=.ret o σ:=
 ab rfl (ab h0 (ab rfl (ab e1 (ay rfl (ab rfl (ab e2 (ay rfl (ab rfl (ao hP (ab rfl (be hC (ab rfl (ab e3 (ay rfl (ab rfl (ab e4 (ay rfl (ab rfl (ab e5 (ay rfl (ab rfl (ab e6 (cJ rfl (ab rfl (ab hr (ab rfl (ab hs (ab rfl (ab hr (ab rfl (ab hi (Cc (ab ha rfl)))))))))))))))))))))))))))))))))
theorem yY (e3:Ew w "not" false)(e4:Ew w "and" false)(e5:Ew w "or" false)(e6:Ew w "next" false)(e7:Ew w "till" true)(hr:aj (.lst ys) (.int 0)=some r0)(hr1:aj (.lst ys) (.int 1)=some r1)(ht:c.call 53 [r0,r1,Y] σ=.ret o σ){k:PK aH}:eL c [some t0,some X,some Y,none,none,none,none,none,none,none,none,none] σ k=.ret o σ:=
 ab rfl (ab h0 (ab rfl (ab e1 (ay rfl (ab rfl (ab e2 (ay rfl (ab rfl (ao hP (ab rfl (be hC (ab rfl (ab e3 (ay rfl (ab rfl (ab e4 (ay rfl (ab rfl (ab e5 (ay rfl (ab rfl (ab e6 (ay rfl (ab rfl (ab e7 (cJ rfl (ab rfl (ab hr (ab rfl (ab hr1 (ab rfl (ao ht rfl))))))))))))))))))))))))))))))))
theorem uG {xs zs us vs:List T}(e3:Ew w "not" false)(e4:Ew w "and" false)(e5:Ew w "or" false)(e6:Ew w "next" false)(e7:Ew w "till" false)(e8:Ew w "always" true)(hl:aI X=some v)(hp:fw (.lst [.bool true]) v=some r1)(hr:aj (.lst ys) (.int 0)=some (.lst xs))(hN:∀(ρ:aH) (j:Nat) (k:PK (List T)),(∀t,bC (ρ.set j (some t)) j=some t)→aX (aM j) av (gF (pV j)) c ρ xs σ [] k=k zs σ)(ht:c.call 53 [r1,.lst zs,Y] σ=.ret (.lst us) σ)
  (hM:∀(ρ:aH) (j:Nat) (k:PK (List T)),(∀t,bC (ρ.set j (some t)) j=some t)→aX (aM j) av (gF (pV j)) c ρ us σ [] k=k vs σ){k:PK aH}:eL c [some t0,some X,some Y,none,none,none,none,none,none,none,none,none] σ k=.ret (.lst vs) σ:=
 ab rfl (ab h0 (ab rfl (ab e1 (ay rfl (ab rfl (ab e2 (ay rfl (ab rfl (ao hP (ab rfl (be hC (ab rfl (ab e3 (ay rfl (ab rfl (ab e4 (ay rfl (ab rfl (ab e5 (ay rfl (ab rfl (ab e6 (ay rfl (ab rfl (ab e7 (ay rfl (ab rfl (ab e8 (cJ rfl (Cc (ab rfl (ab hl (ab hp (ab rfl (ab hr (ab rfl (be (fun k=>hN _ _ k fun _=>rfl) (ab rfl (ao ht (ab rfl (ab rfl (be (fun k=>hM _ _ k fun _=>rfl) rfl))))))))))))))))))))))))))))))))))))))))))
theorem wa {b:Int}(hY:Y=.int b)(e3:Ew w "not" false)(e4:Ew w "and" false)(e5:Ew w "or" false)(e6:Ew w "next" false)(e7:Ew w "till" false)(e8:Ew w "always" false)(hr:aj (.lst ys) (.int 0)=some r0)(hs:bi r0 (some b) none=some r1)(hn:s4 r1=some v){x:T}(hl:aI X=some x)(hp:fw (.lst [v]) x=some o){k:PK aH}:eL c [some t0,some X,some Y,none,none,none,none,none,none,none,none,none] σ k=.ret o σ:=by
 subst hY
 exact ab rfl (ab h0 (ab rfl (ab e1 (ay rfl (ab rfl (ab e2 (ay rfl (ab rfl (ao hP (ab rfl (be hC (ab rfl (ab e3 (ay rfl (ab rfl (ab e4 (ay rfl (ab rfl (ab e5 (ay rfl (ab rfl (ab e6 (ay rfl (ab rfl (ab e7 (ay rfl (ab rfl (ab e8 (ay rfl (ab rfl (ab hr (ab rfl (ab rfl (ab hs (ab hn (Cc (ab rfl (ab hl (ab hp rfl)))))))))))))))))))))))))))))))))))))))
end
section
variable {ms:List Str} {b:Nat} {σ:Sg}
theorem tf {a:Sy}{i:Nat}:(!ej ms b a i)=ej ms b (.not a) i:=by
 rw [Bool.eq_iff_iff,Bool.not_eq_true',←Bool.not_eq_true,aU,aU];exact .rfl
theorem yX (hb:b < ms.length)(hn:ms.length≤1000):∀(m:Nat) (s:Sy),dep s≤m→ai Ψ (m+2) 54 [bf s,.lst (ms.map .str),nT b] σ=.ret (bT ms.length (ej ms b s)) σ:=by
 have ret:∀{f:Nat→Bool} {s:Sy},(∀i,i < ms.length→f i=ej ms b s i)→cc.ret (bT ms.length f) σ=.ret (bT ms.length (ej ms b s)) σ:=fun h=>by rw [jp h]
 have ml:(((ms.map T.str).length:Nat):Int)=ms.length:=by rw [List.length_map]
 have rep:∀v,fw (.lst [.bool v]) (.int (ms.map T.str).length)=some (bT ms.length fun _=>v):=fun v=>by rw [ml];exact vV hn v
 have over:∀f:Str→Bool,ms.map (fun x=>T.bool (f x))=(List.range ms.length).map fun i=>T.bool (f ((ms[i]?).getD default)):=fun f=>by
  refine List.ext_getElem? fun i=>?_
  rw [List.getElem?_map,List.getElem?_map]
  by_cases h:i < ms.length
  ·rw [List.getElem?_range h]
   show _=some (T.bool (f ((ms[i]?).getD default)))
   rw [List.getElem?_eq_getElem h];rfl
  ·rw [List.getElem?_eq_none (Nat.le_of_not_lt h),List.getElem?_eq_none (by rw [List.length_range];exact Nat.le_of_not_lt h)];rfl
 intro m
 induction m with
 |zero=>intro s h;exact absurd (fM s) (Nat.not_le.mpr (Nat.lt_succ_of_le h))
 |succ m ih=>
  intro s hs
  have H:∀p∈cq s,ai Ψ (m+2) 54 [bf p,.lst (ms.map .str),nT b] σ=.ret (bT ms.length (ej ms b p)) σ:=fun p hp=>ih p (Nat.le_of_lt_succ (Nat.lt_of_lt_of_le (c7 hp) hs))
  have P:=lP (σ:=σ) s (m+1)
  have C:∀{w:Str},GI ⟨ai Ψ (m+2)⟩ (bf s) (.lst (ms.map .str)) (nT b) w ((cq s).map bf) ((cq s).map fun p=>bT ms.length (ej ms b p)) σ:=fun k=>aJ (e:=bf) (fun p=>bT ms.length (ej ms b p)) (fun p hp=>⟨_,rfl,fun κ=>ao (H p hp) rfl⟩) rfl
  have N:∀(f:Nat→Bool) (ρ:aH) (j:Nat) (k:PK (List T)),(∀t,bC (ρ.set j (some t)) j=some t)→aX (aM j) av (gF (pV j)) ⟨ai Ψ (m+2)⟩ ρ ((List.range ms.length).map fun i=>.bool (f i)) σ [] k=k ((List.range ms.length).map fun i=>.bool (!f i)) σ:=fun f ρ j k h=>by
   refine aJ (e:=fun i=>T.bool (f i)) (fun i=>.bool (!f i)) (fun i _=>⟨_,rfl,fun κ=>?_⟩) rfl
   show up (bC (List.set ρ j (some (.bool (f i)))) j) σ (fun t σ=>up ((cN t).map fun b=>T.bool (!b)) σ κ)=_
   rw [h];rfl
  cases s with
  |mark x=>
   refine fQ (aJ (e:=T.str) (fun y=>.bool (PyData.eqv (.str y) (.str x))) (fun y _=>⟨_,rfl,fun k=>rfl⟩) ?_)
   show cc.ret (.lst (ms.map fun y=>.bool (PyData.eqv (.str y) (.str x)))) σ=_
   rw [over]
   exact ret fun i hi=>by rw [Bool.eq_iff_iff,aU];show _↔PyData.eqv (.str (lw ms b i)) (.str x)=true;rw [lw,uS hb i hi]
  |yes=>
   refine fQ (aJ (e:=T.str) (fun _=>.bool true) (fun y _=>⟨_,rfl,fun k=>rfl⟩) ?_)
   show cc.ret (.lst (ms.map fun _=>.bool true)) σ=_
   rw [over fun _=>true]
   exact ret fun i hi=>((aU (s:=.yes)).mpr trivial).symm
  |not a=>exact fQ ((Bu rfl rfl rfl P C rfl rfl fun ρ k=>N (ej ms b a) ρ 9 k).trans (ret fun i _=>tf))
  |and a c=>exact fQ ((Bv rfl rfl rfl P C rfl rfl rfl rfl (oz _)).trans (ret fun i _=>by rw [Bool.eq_iff_iff,Bool.and_eq_true,aU,aU,aU];exact .rfl))
  |or a c=>exact fQ ((Dc rfl rfl rfl P C rfl rfl rfl rfl rfl (oz _)).trans (ret fun i _=>by rw [Bool.eq_iff_iff,Bool.or_eq_true,aU,aU,aU];exact .rfl))
  |next a=>
   refine fQ ((yZ rfl rfl rfl P C rfl rfl rfl rfl rfl qi (eR hb (Nat.le_trans hn (by decide))) (y3 hb hn)).trans (ret fun i hi=>?_))
   rw [Bool.eq_iff_iff,aU,aU]
   show _↔Sem (lw ms b) a (i+1)
   rw [rZ hb a (i+1),kW,uS hb i hi]
  |till a c=>exact fQ ((yY rfl rfl rfl P C rfl rfl rfl rfl rfl rfl rfl (iU hb hn _)).trans (ret fun i hi=>nV hb hi))
  |always a=>exact fQ ((uG rfl rfl rfl P C rfl rfl rfl rfl rfl rfl rfl (rep true) rfl (N (ej ms b a)) (iU hb hn _) (N _)).trans (ret fun i hi=>j7 hb hi))
  |again a=>
   refine fQ ((wa rfl rfl rfl P C (b:=(b:Int)) rfl rfl rfl rfl rfl rfl rfl rfl qi ?_ rfl (rep (((List.range ms.length).drop b).any (ej ms b a)))).trans (ret fun i hi=>lC hb hi))
   rw [sL (by rw [List.length_map,List.length_range];exact Nat.le_of_lt hb),←List.map_drop]
   exact any_map ((List.range ms.length).drop b) (ej ms b a)
theorem xf {w r:List Str}(hr:0 < r.length)(hn:(w++r).length≤1000){s:Sy}(hd:dep s≤20)(m:Nat):ai Ψ (m+24) 56 [bf s,.lst (w.map .str),.lst (r.map .str)] σ=.ret (.bool (ej (w++r) w.length s 0)) σ:=by
 have hb:w.length < (w++r).length:=by rw [List.length_append];lia -abstractProof
 have O:=yX (σ:=σ) hb hn (m+20) s (Nat.le_trans hd (Nat.le_add_left _ _))
 have e:aC (.lst (w.map .str)) (.lst (r.map .str))=some (.lst ((w++r).map .str)):=cf (by rw [←List.length_append];exact Nat.le_trans hn (by decide))
 have R:ai Ψ (m+23) 55 [bf s,.lst (w.map .str),.lst (r.map .str)] σ=.ret (bT (w++r).length (ej (w++r) w.length s)) σ:=by
  refine xN (ab rfl (ab rfl (ab rfl (ab e (ab rfl (ab rfl (ao (t:=bT (w++r).length (ej (w++r) w.length s)) (σ:=σ) ?_ rfl)))))))
  rw [List.length_map];exact O
 exact Ag (ab rfl (ab rfl (ab rfl (ao R (ab (eR (i:=0) (Nat.lt_of_le_of_lt (Nat.zero_le _) hb) (Nat.le_trans hn (by decide))) rfl)))))
end
section
variable {σ:Sg} {c:dw} {t0 W R run r0 r1 v o:T} {w:Str} {ts ys rs zs:List T} {n:Nat}
noncomputable abbrev mF (t0 W R run:T)(w:Str)(y:Option T):aH:=[some t0,some W,some R,some (.str w),some run,y,none,none,none,none,none,none,none,none,none]
variable (h0:aj t0 (.int 0)=some (.str w)) (hA:aC W R=some run) (e1:Ew w "mark" false) (e2:Ew w "yes" false) (hS:bi t0 (some 1) none=some (.tup ts)) (hC:∀k:PK (List T),aX (aM 8) av (am 46 (aa (pV 8) (aa (pV 1) (aa (pV 2) ah)))) c (mF t0 W R run w none) ts σ [] k=k ys σ)
include h0 hA e1 e2 hS hC
theorem BJ (e3:Ew w "not" true){xs:List T}(hr:aj (.lst ys) (.int 0)=some (.lst xs))(hN:∀k:PK (List T),aX (aM 9) av (gF (pV 9)) c (mF t0 W R run w (some (.lst ys))) xs σ [] k=k zs σ){k:PK aH}:bb c [some t0,some W,some R,none,none,none,none,none,none,none,none,none,none,none,none] σ k=.ret (.lst zs) σ:=
 ab rfl (ab h0 (ab rfl (ab rfl (ab hA (ab rfl (ab e1 (ay rfl (ab rfl (ab e2 (ay rfl (ab rfl (ab rfl (ab hS (ab rfl (be hC (ab rfl (ab e3 (cJ rfl (ab rfl (ab hr (ab rfl (be hN rfl))))))))))))))))))))))
theorem BK (e3:Ew w "not" false)(e4:Ew w "and" true)(hr:aj (.lst ys) (.int 0)=some r0)(hr1:aj (.lst ys) (.int 1)=some r1)(hz:jx (·&&·) r0 r1=some o){k:PK aH}:bb c [some t0,some W,some R,none,none,none,none,none,none,none,none,none,none,none,none] σ k=.ret o σ:=
 ab rfl (ab h0 (ab rfl (ab rfl (ab hA (ab rfl (ab e1 (ay rfl (ab rfl (ab e2 (ay rfl (ab rfl (ab rfl (ab hS (ab rfl (be hC (ab rfl (ab e3 (ay rfl (ab rfl (ab e4 (cJ rfl (ab rfl (ab hr (ab rfl (ab hr1 (ab hz rfl))))))))))))))))))))))))))
theorem Do (e3:Ew w "not" false)(e4:Ew w "and" false)(e5:Ew w "or" true)(hr:aj (.lst ys) (.int 0)=some r0)(hr1:aj (.lst ys) (.int 1)=some r1)(hz:jx (·||·) r0 r1=some o){k:PK aH}:bb c [some t0,some W,some R,none,none,none,none,none,none,none,none,none,none,none,none] σ k=.ret o σ:=
 ab rfl (ab h0 (ab rfl (ab rfl (ab hA (ab rfl (ab e1 (ay rfl (ab rfl (ab e2 (ay rfl (ab rfl (ab rfl (ab hS (ab rfl (be hC (ab rfl (ab e3 (ay rfl (ab rfl (ab e4 (ay rfl (ab rfl (ab e5 (cJ rfl (ab rfl (ab hr (ab rfl (ab hr1 (ab hz rfl)))))))))))))))))))))))))))))
theorem ze (e3:Ew w "not" false)(e4:Ew w "and" false)(e5:Ew w "or" false)(e6:Ew w "next" true)(hl:aI run=some (.int n))(hg:r5 [.int n]=some rs)(hX:∀k:PK (List T),aX (aM 10) av (p2 aj (p2 aj (pV 5) (pC (.int 0))) (p2 aj (am 44 (aa (pV 1) (aa (pV 2) (aa (pV 10) ah)))) (pC (.int 1)))) c (mF t0 W R run w (some (.lst ys))) rs σ [] k=k zs σ){k:PK aH}:bb c [some t0,some W,some R,none,none,none,none,none,none,none,none,none,none,none,none] σ k=.ret (.lst zs) σ:=
 ab rfl (ab h0 (ab rfl (ab rfl (ab hA (ab rfl (ab e1 (ay rfl (ab rfl (ab e2 (ay rfl (ab rfl (ab rfl (ab hS (ab rfl (be hC (ab rfl (ab e3 (ay rfl (ab rfl (ab e4 (ay rfl (ab rfl (ab e5 (ay rfl (ab rfl (ab e6 (cJ rfl (ab rfl (ab hl (ab hg (be hX rfl)))))))))))))))))))))))))))))))
theorem uL (e3:Ew w "not" false)(e4:Ew w "and" false)(e5:Ew w "or" false)(e6:Ew w "next" false)(e7:Ew w "always" true)(hl:aI run=some (.int n))(hg:r5 [.int n]=some rs)(hX:∀k:PK (List T),aX (aM 11) av (pB (p2 eY (pC (.bool false)) (ax (aL (am 44 (aa (pV 1) (aa (pV 2) (aa (pV 11) ah))))) (aM 12) av (p2 aj (p2 aj (pV 5) (pC (.int 0))) (pV 12))))) c (mF t0 W R run w (some (.lst ys))) rs σ [] k=k zs σ){k:PK aH}:bb c [some t0,some W,some R,none,none,none,none,none,none,none,none,none,none,none,none] σ k=.ret (.lst zs) σ:=
 ab rfl (ab h0 (ab rfl (ab rfl (ab hA (ab rfl (ab e1 (ay rfl (ab rfl (ab e2 (ay rfl (ab rfl (ab rfl (ab hS (ab rfl (be hC (ab rfl (ab e3 (ay rfl (ab rfl (ab e4 (ay rfl (ab rfl (ab e5 (ay rfl (ab rfl (ab e6 (ay rfl (ab rfl (ab e7 (cJ rfl (ab rfl (ab hl (ab hg (be hX rfl))))))))))))))))))))))))))))))))))
theorem wy (e3:Ew w "not" false)(e4:Ew w "and" false)(e5:Ew w "or" false)(e6:Ew w "next" false)(e7:Ew w "always" false)(e8:Ew w "again" true)(hs:run=.lst rs)(hX:∀k:PK (List T),aX (aM 13) av (pB (p2 fT (pC (.bool true)) (p3 bi (p2 aj (pV 5) (pC (.int 0))) (p1 bN (p1 aI (pV 1))) fS))) c (mF t0 W R run w (some (.lst ys))) rs σ [] k=k zs σ){k:PK aH}:bb c [some t0,some W,some R,none,none,none,none,none,none,none,none,none,none,none,none] σ k=.ret (.lst zs) σ:=
 ab rfl (ab h0 (ab rfl (ab rfl (ab hA (ab rfl (ab e1 (ay rfl (ab rfl (ab e2 (ay rfl (ab rfl (ab rfl (ab hS (ab rfl (be hC (ab rfl (ab e3 (ay rfl (ab rfl (ab e4 (ay rfl (ab rfl (ab e5 (ay rfl (ab rfl (ab e6 (ay rfl (ab rfl (ab e7 (ay rfl (ab rfl (ab e8 (cJ rfl (ab rfl (ab (show gj run=some rs by rw [hs];rfl) (be hX rfl))))))))))))))))))))))))))))))))))))
theorem zd (e3:Ew w "not" false)(e4:Ew w "and" false)(e5:Ew w "or" false)(e6:Ew w "next" false)(e7:Ew w "always" false)(e8:Ew w "again" false)(hl:aI run=some (.int n))(hg:r5 [.int n]=some rs)(hX:∀k:PK (List T),aX (aM 14) av (am 45 (aa (p2 aj (pV 5) (pC (.int 0))) (aa (p2 aj (pV 5) (pC (.int 1))) (aa (am 44 (aa (pV 1) (aa (pV 2) (aa (pV 14) ah)))) ah)))) c (mF t0 W R run w (some (.lst ys))) rs σ [] k=k zs σ){k:PK aH}:bb c [some t0,some W,some R,none,none,none,none,none,none,none,none,none,none,none,none] σ k=.ret (.lst zs) σ:=
 ab rfl (ab h0 (ab rfl (ab rfl (ab hA (ab rfl (ab e1 (ay rfl (ab rfl (ab e2 (ay rfl (ab rfl (ab rfl (ab hS (ab rfl (be hC (ab rfl (ab e3 (ay rfl (ab rfl (ab e4 (ay rfl (ab rfl (ab e5 (ay rfl (ab rfl (ab e6 (ay rfl (ab rfl (ab e7 (ay rfl (ab rfl (ab e8 (ay rfl (ab rfl (ab hl (ab hg (be hX rfl)))))))))))))))))))))))))))))))))))))
end
section
variable {σ:Sg} {c:dw} {ρ:aH} {κ:PK T} {t0 W R run r0 r1 v mo j x:T} {w:Str} {ys zs xs:List T} {b:Int}
theorem zf (h0:aj t0 (.int 0)=some (.str w))(hA:aC W R=some run)(e1:Ew w "mark" true)(hs:gj run=some xs)(hX:∀k:PK (List T),aX (aM 6) av (pB (p2 bD (pV 6) (p2 aj (pV 0) (pC (.int 1))))) c (mF t0 W R run w none) xs σ [] k=k zs σ){k:PK aH}:bb c [some t0,some W,some R,none,none,none,none,none,none,none,none,none,none,none,none] σ k=.ret (.lst zs) σ:=ab rfl (ab h0 (ab rfl (ab rfl (ab hA (ab rfl (ab e1 (cJ rfl (ab rfl (ab hs (be hX rfl))))))))))
theorem BH (h0:aj t0 (.int 0)=some (.str w))(hA:aC W R=some run)(e1:Ew w "mark" false)(e2:Ew w "yes" true)(hs:gj run=some xs)(hX:∀k:PK (List T),aX (aM 7) av (pC (.bool true)) c (mF t0 W R run w none) xs σ [] k=k zs σ){k:PK aH}:bb c [some t0,some W,some R,none,none,none,none,none,none,none,none,none,none,none,none] σ k=.ret (.lst zs) σ:=ab rfl (ab h0 (ab rfl (ab rfl (ab hA (ab rfl (ab e1 (ay rfl (ab rfl (ab e2 (cJ rfl (ab rfl (ab hs (be hX rfl)))))))))))))
theorem z8 (h5:bC ρ 5=some (.lst ys))(h1:bC ρ 1=some W)(h2:bC ρ 2=some R)(h10:bC ρ 10=some x)(hr:aj (.lst ys) (.int 0)=some r0)(hc:c.call 44 [W,R,x] σ=.ret mo σ)(hm:aj mo (.int 1)=some j)(hv:aj r0 j=some v):p2 aj (p2 aj (pV 5) (pC (.int 0))) (p2 aj (am 44 (aa (pV 1) (aa (pV 2) (aa (pV 10) ah)))) (pC (.int 1))) c ρ σ κ=κ v σ:=
 ab h5 (ab hr (ab h1 (ab h2 (ab h10 (ao hc (ab hm (ab hv rfl)))))))
theorem DG (h5:bC ρ 5=some (.lst ys))(h12:bC ρ 12=some x)(hr:aj (.lst ys) (.int 0)=some r0)(hv:aj r0 x=some v):p2 aj (p2 aj (pV 5) (pC (.int 0))) (pV 12) c ρ σ κ=κ v σ:=ab h5 (ab hr (ab h12 (ab hv rfl)))
theorem u0 {a:Bool}(h1:bC ρ 1=some W)(h2:bC ρ 2=some R)(h11:bC ρ 11=some x)(hc:c.call 44 [W,R,x] σ=.ret (.lst xs) σ)(hX:∀k:PK (List T),aX (aM 12) av (p2 aj (p2 aj (pV 5) (pC (.int 0))) (pV 12)) c ρ xs σ [] k=k zs σ)(hn:eY (.bool false) (.lst zs)=some a):pB (p2 eY (pC (.bool false)) (ax (aL (am 44 (aa (pV 1) (aa (pV 2) (aa (pV 11) ah))))) (aM 12) av (p2 aj (p2 aj (pV 5) (pC (.int 0))) (pV 12)))) c ρ σ κ=κ (.bool a) σ:=
 ab h1 (ab h2 (ab h11 (ao hc (ab rfl (be hX (ab hn rfl))))))
theorem xt {a:Bool}(h5:bC ρ 5=some (.lst ys))(hr:aj (.lst ys) (.int 0)=some r0)(h1:bC ρ 1=some W)(hl:aI W=some (.int b))(hs:bi r0 (some b) none=some r1)(hi:fT (.bool true) r1=some a):pB (p2 fT (pC (.bool true)) (p3 bi (p2 aj (pV 5) (pC (.int 0))) (p1 bN (p1 aI (pV 1))) fS)) c ρ σ κ=κ (.bool a) σ:=
 ab h5 (ab hr (ab h1 (ab hl (ab rfl (ab hs (ab hi rfl))))))
theorem z0 (h5:bC ρ 5=some (.lst ys))(hr:aj (.lst ys) (.int 0)=some r0)(hr1:aj (.lst ys) (.int 1)=some r1)(h1:bC ρ 1=some W)(h2:bC ρ 2=some R)(h14:bC ρ 14=some x)(hc:c.call 44 [W,R,x] σ=.ret mo σ)(ht:c.call 45 [r0,r1,mo] σ=.ret v σ):am 45 (aa (p2 aj (pV 5) (pC (.int 0))) (aa (p2 aj (pV 5) (pC (.int 1))) (aa (am 44 (aa (pV 1) (aa (pV 2) (aa (pV 14) ah)))) ah))) c ρ σ κ=κ v σ:=
 ab h5 (ab hr (ab h5 (ab hr1 (ab h1 (ab h2 (ab h14 (ao hc (ao ht rfl))))))))
end
noncomputable abbrev BC (n b i:Nat):List Nat:=List.range' i (n - i)++List.range' b (n - b)
theorem r4 {a n:Nat}(h:a≤n)(hn:n≤100000):r5 [nT a,nT n]=some ((List.range' a (n - a)).map nT):=by
 have s:Builtin.Range.rangeSize a n 1=((n - a:Nat):Int):=by
  refine (if_pos (by decide)).trans ?_
  rcases Nat.lt_or_ge a n with q |q
  ·rw [if_pos (Int.ofNat_lt.mpr q),Int.ediv_one,Int.sub_add_cancel,Int.ofNat_sub h]
  ·rw [if_neg (Int.not_lt.mpr (Int.ofNat_le.mpr q)),Nat.sub_eq_zero_of_le q];rfl
 have e:cn a n 1=(List.range' a (n - a)).map nT:=by
  rw [cn,s,List.range'_eq_map_range,List.map_map]
  exact List.map_congr_left fun k _=>congrArg T.int (by rw [Int.mul_one];rfl)
 unfold r5
 show rg a n=_
 rw [rg,e,lz (by rw [bh];lia),lz (by rw [bh];lia),List.length_map,List.length_range',show bS (n - a)=true from Nat.ble_eq_true_of_le (by rw [bh];lia)];rfl
section
variable {σ:Sg} {ws rs:List T} {n b i:Nat} {p q:Nat→Bool}
theorem yd (hw:ws.length=b)(hr:ws.length+rs.length=n)(hi:i≤n)(hn:n≤1000)(m:Nat):ai Ψ (m+1) 44 [.lst ws,.lst rs,nT i] σ=.ret (.lst ((BC n b i).map nT)) σ:=by
 have l1:aI (.lst ws)=some (nT b):=by rw [←hw];unfold aI;rfl
 have l2:aI (.lst rs)=some (.int rs.length):=by unfold aI;rfl
 have e:aC (nT b) (.int rs.length)=some (nT n):=by unfold aC;exact congrArg (fun z=>some (T.int z)) (by lia)
 have hb:b≤n:=by lia
 have cp:∀{c:dw} {ρ:aH} {j:Nat} {l:List Nat} {k:PK (List T)} {o:cc},(∀t,bC (ρ.set j (some t)) j=some t)→k (l.map nT) σ=o→aX (aM j) av (pV j) c ρ (l.map nT) σ [] k=o:=fun {c ρ j l k o} h hk=>by
  refine aJ (e:=nT) nT (fun x _=>⟨_,rfl,fun κ=>?_⟩) hk
  show up (bC (List.set ρ j (some (nT x))) j) σ κ=_
  rw [h];unfold up;rfl
 refine pN (ab rfl (ab l1 (ab rfl (ab l2 (ab e (ab rfl (ab rfl (ab (r4 hi (Nat.le_trans hn (by decide))) (cp (fun _=>rfl) (ab rfl (ab l1 (ab rfl (ab (r4 hb (Nat.le_trans hn (by decide))) (cp (fun _=>rfl) (ab (cf (e:=nT) (l:=List.range' i (n - i)) (q:=List.range' b (n - b)) ?_) rfl)))))))))))))))
 rw [List.length_range',List.length_range',bh];lia
theorem qK (hn:n≤1000)(m:Nat){mo:List Nat}(hm:∀x∈mo,x < n):ai Ψ (m+1) 45 [bT n p,bT n q,.lst (mo.map nT)] σ=.ret (.bool (i5 p q mo)) σ:=by
 have lp:∀(l:List Nat) (x3:Option T) (k:PK aH),(∀x∈l,x < n)→(∀x3,k [some (bT n p),some (bT n q),some (.lst (mo.map nT)),x3] σ=.ret (.bool false) σ)→
   cg (aM 3) (ae (bn (qE (p2 aj (pV 1) (pV 3))) (ae (au (pC (.bool true))) af) af) (ae (bn (cB (qE (p2 aj (pV 0) (pV 3)))) (ae (au (pC (.bool false))) af) af) af)) ⟨ai Ψ m⟩ (l.map nT) [some (bT n p),some (bT n q),some (.lst (mo.map nT)),x3] σ k=.ret (.bool (i5 p q l)) σ:=fun l=>by
  induction l with
  |nil=>exact fun x3 k _ hk=>hk x3
  |cons x l ih=>
   intro x3 k hl hk
   have nl:n≤lim:=Nat.le_trans hn (by decide)
   have hx:=hl x (.head _)
   have e:=ih (some (nT x)) k (fun y hy=>hl y (.tail _ hy)) hk
   refine kh (v:=nT x) (l:=l.map nT) rfl (ab rfl (ab rfl (ab (eR hx nl) (ab rfl ?_))))
   rw [show i5 p q (x::l)=(q x||(p x&&i5 p q l)) from rfl]
   cases q x with
   |true=>exact cJ rfl rfl
   |false=>
    refine ay rfl (ab rfl (ab rfl (ab (eR hx nl) (ab rfl ?_))))
    cases p x with
    |true=>exact ay rfl e
    |false=>exact cJ rfl rfl
 exact rj (ab rfl (ab rfl (lp mo none _ hm fun _=>rfl)))
end
section
variable {n b i:Nat}
theorem wq (hb:b < n)(hi:i < n):∀x∈BC n b i,x < n:=fun x hx=>by
 rcases List.mem_append.mp hx with h |h
 ·have:=List.mem_range'_1.mp h;lia
 ·have:=List.mem_range'_1.mp h;lia
theorem Dm (hb:b < n)(hi:i < n):(BC n b i)[1]?=some (nx n b i):=by
 unfold nx
 show (List.range' i (n - i)++List.range' b (n - b))[1]?=_
 by_cases e:i+1=n
 ·subst e;rw [if_pos rfl,Nat.add_sub_cancel_left,Nat.succ_sub (Nat.le_of_lt_succ hb),List.range'_succ,List.range'_succ];rfl
 ·obtain ⟨d,rfl⟩:=Nat.exists_eq_add_of_le (show i+2≤n from Nat.lt_of_le_of_ne hi e)
  rw [if_neg e,Nat.add_assoc,Nat.add_sub_cancel_left,Nat.add_comm 2 d,List.range'_succ,List.range'_succ];rfl
end
section
variable {w r:List Str} {σ:Sg}
theorem zc {α:Type}{f:α→Bool}{l:List α}:decide (true∈l.map f)=l.any f:=by
 rw [Bool.eq_iff_iff,decide_eq_true_iff,List.any_eq_true,List.mem_map]
theorem y2 {α:Type}{f:α→Bool}{l:List α}:(!decide (false∈l.map f))=l.all f:=by
 rw [Bool.eq_iff_iff,Bool.not_eq_true',decide_eq_false_iff_not,List.all_eq_true,List.mem_map]
 exact ⟨fun h x hx=>by cases e:f x with |true=>rfl |false=>exact absurd ⟨x,hx,e⟩ h,fun h ⟨x,hx,e⟩=>by rw [h x hx] at e;cases e⟩
theorem wx (hr:0 < r.length)(hn:(w++r).length≤1000):∀(m:Nat) (s:Sy),dep s≤m→ai Ψ (m+2) 46 [bf s,.lst (w.map .str),.lst (r.map .str)] σ=.ret (bT (w++r).length (ej (w++r) w.length s)) σ:=by
 have hb:w.length < (w++r).length:=by rw [List.length_append];lia
 have nl:(w++r).length≤lim:=Nat.le_trans hn (by decide)
 have hA:aC (.lst (w.map .str)) (.lst (r.map .str))=some (.lst ((w++r).map .str)):=cf (by rw [←List.length_append];exact nl)
 have hl:aI (.lst ((w++r).map T.str))=some (.int (w++r).length):=congrArg (fun z:Nat=>some (T.int z)) (List.length_map ..)
 have hg:r5 [.int (w++r).length]=some ((List.range (w++r).length).map nT):=eH (Nat.le_trans hn (by decide))
 have ret:∀{f:Nat→Bool} {s:Sy},(∀i,i < (w++r).length→f i=ej (w++r) w.length s i)→cc.ret (bT (w++r).length f) σ=.ret (bT (w++r).length (ej (w++r) w.length s)) σ:=fun h=>by rw [jp h]
 have over:∀f:Str→Bool,(w++r).map (fun x=>T.bool (f x))=(List.range (w++r).length).map fun i=>T.bool (f (((w++r)[i]?).getD default)):=fun f=>by
  refine List.ext_getElem? fun i=>?_
  rw [List.getElem?_map,List.getElem?_map]
  by_cases h:i < (w++r).length
  ·rw [List.getElem?_range h]
   show _=some (T.bool (f (((w++r)[i]?).getD default)))
   rw [List.getElem?_eq_getElem h];rfl
  ·rw [List.getElem?_eq_none (Nat.le_of_not_lt h),List.getElem?_eq_none (by rw [List.length_range];exact Nat.le_of_not_lt h)];rfl
 have after:∀{i:Nat} (m:Nat),i < (w++r).length→ai Ψ (m+1) 44 [.lst (w.map .str),.lst (r.map .str),nT i] σ=.ret (.lst ((BC (w++r).length w.length i).map nT)) σ:=fun m hi=>yd (List.length_map ..) (by rw [List.length_map,List.length_map,List.length_append]) (Nat.le_of_lt hi) hn m
 intro m
 induction m with
 |zero=>intro s h;exact absurd (fM s) (Nat.not_le.mpr (Nat.lt_succ_of_le h))
 |succ m ih=>
  intro s hs
  have C:(∀x,s≠.mark x)→∀{v:Str} (k:PK (List T)),aX (aM 8) av (am 46 (aa (pV 8) (aa (pV 1) (aa (pV 2) ah)))) ⟨ai Ψ (m+2)⟩ (mF (bf s) (.lst (w.map .str)) (.lst (r.map .str)) (.lst ((w++r).map .str)) v none) ((cq s).map bf) σ [] k=k ((cq s).map fun p=>bT (w++r).length (ej (w++r) w.length p)) σ:=fun _ {v} k=>
   aJ (e:=bf) (fun p=>bT (w++r).length (ej (w++r) w.length p)) (fun p hp=>⟨_,rfl,fun κ=>ao (ih p (Nat.le_of_lt_succ (Nat.lt_of_lt_of_le (c7 hp) hs))) rfl⟩) rfl
  cases s with
  |mark x=>
   refine bE ((zf rfl hA rfl rfl fun k=>aJ (e:=T.str) (fun y=>.bool (PyData.eqv (.str y) (.str x))) (fun y _=>⟨_,rfl,fun k=>rfl⟩) rfl).trans ?_)
   rw [over]
   exact ret fun i hi=>by rw [Bool.eq_iff_iff,aU];show _↔PyData.eqv (.str (lw (w++r) w.length i)) (.str x)=true;rw [lw,uS hb i hi]
  |yes=>
   refine bE ((BH rfl hA rfl rfl rfl fun k=>aJ (e:=T.str) (fun _=>.bool true) (fun y _=>⟨_,rfl,fun k=>rfl⟩) rfl).trans ?_)
   rw [over fun _=>true]
   exact ret fun i hi=>((aU (s:=.yes)).mpr trivial).symm
  |not a=>exact bE ((BJ rfl hA rfl rfl (by kernel_rfl) (C fun _ h=>nomatch h) rfl rfl fun k=>aJ (e:=fun i=>T.bool (ej (w++r) w.length a i)) (fun i=>.bool (!ej (w++r) w.length a i)) (fun i _=>⟨_,rfl,fun κ=>rfl⟩) rfl).trans (ret fun i _=>tf))
  |and a c=>exact bE ((BK rfl hA rfl rfl (by kernel_rfl) (C fun _ h=>nomatch h) rfl rfl rfl rfl (oz _)).trans (ret fun i _=>by rw [Bool.eq_iff_iff,Bool.and_eq_true,aU,aU,aU];exact .rfl))
  |or a c=>exact bE ((Do rfl hA rfl rfl (by kernel_rfl) (C fun _ h=>nomatch h) rfl rfl rfl rfl rfl (oz _)).trans (ret fun i _=>by rw [Bool.eq_iff_iff,Bool.or_eq_true,aU,aU,aU];exact .rfl))
  |next a=>
   refine bE ((ze rfl hA rfl rfl (by kernel_rfl) (C fun _ h=>nomatch h) rfl rfl rfl rfl hl hg (fun k=>aJ (e:=nT) (fun i=>.bool (ej (w++r) w.length a (nx (w++r).length w.length i))) (fun i hi=>⟨_,rfl,fun κ=>z8 rfl rfl rfl rfl rfl (after (m+1) (List.mem_range.mp hi)) (ba (Dm hb (List.mem_range.mp hi)) (by decide)) (eR (AK hb (List.mem_range.mp hi)) nl)⟩) rfl)).trans (ret fun i hi=>?_))
   rw [Bool.eq_iff_iff,aU,aU]
   show _↔Sem (lw (w++r) w.length) a (i+1)
   rw [rZ hb a (i+1),kW,uS hb i hi]
  |always a=>
   refine bE ((uL rfl hA rfl rfl (by kernel_rfl) (C fun _ h=>nomatch h) rfl rfl rfl rfl rfl hl hg (fun k=>aJ (e:=nT) (fun i=>.bool ((BC (w++r).length w.length i).all (ej (w++r) w.length a))) (fun i hi=>⟨_,rfl,fun κ=>u0 rfl rfl rfl (after (m+1) (List.mem_range.mp hi)) (fun k=>aJ (e:=nT) (fun x=>.bool (ej (w++r) w.length a x)) (fun x hx=>⟨_,rfl,fun κ=>DG rfl rfl rfl (eR (wq hb (List.mem_range.mp hi) x hx) nl)⟩) rfl) ?_⟩) rfl)).trans (ret fun i hi=>?_))
   ·rw [←y2]
    exact gN.nin (by decide) (l:=(BC (w++r).length w.length i).map (ej (w++r) w.length a)) trivial (fun _ _=>trivial) (congrArg some (List.map_map ..).symm)
   ·rw [←j7 hb hi,←qk hb hi,nY,Bool.not_not]
  |again a=>
   refine bE ((wy rfl hA rfl rfl (by kernel_rfl) (C fun _ h=>nomatch h) rfl rfl rfl rfl rfl rfl rfl (fun k=>aJ (e:=T.str) (fun _=>.bool (((List.range (w++r).length).drop w.length).any (ej (w++r) w.length a))) (fun x _=>⟨_,rfl,fun κ=>xt (b:=(w.length:Int)) rfl rfl rfl (congrArg (fun z:Nat=>some (T.int z)) (List.length_map ..)) qi ?_⟩) rfl)).trans ?_)
   ·rw [sL (by rw [List.length_map,List.length_range];exact Nat.le_of_lt hb),←List.map_drop,←zc]
    exact gN.mem (by decide) (l:=((List.range (w++r).length).drop w.length).map (ej (w++r) w.length a)) trivial (fun _ _=>trivial) (congrArg some (List.map_map ..).symm)
   ·rw [over fun _=>((List.range (w++r).length).drop w.length).any (ej (w++r) w.length a)]
    exact ret fun i hi=>lC hb hi
  |till a c=>
   refine bE ((zd rfl hA rfl rfl (by kernel_rfl) (C fun _ h=>nomatch h) rfl rfl rfl rfl rfl rfl hl hg (fun k=>aJ (e:=nT) (fun i=>.bool (i5 (ej (w++r) w.length a) (ej (w++r) w.length c) (BC (w++r).length w.length i))) (fun i hi=>⟨_,rfl,fun κ=>z0 rfl rfl rfl rfl rfl rfl (after (m+1) (List.mem_range.mp hi)) (qK hn _ (wq hb (List.mem_range.mp hi)))⟩) rfl)).trans (ret fun i hi=>?_))
   rw [qk hb hi];exact nV hb hi
end
theorem d5 (a:Int){n:Nat}(h:0 < n):∃k:Nat,a.fmod (n:Int)=(k:Int)∧k < n:=by
 have h1:0≤a.fmod (n:Int):=Int.fmod_nonneg_of_pos _ (Int.natCast_pos.mpr h)
 have h2:a.fmod (n:Int) < (n:Int):=Int.fmod_lt_of_pos _ (Int.natCast_pos.mpr h)
 exact ⟨(a.fmod (n:Int)).toNat,(Int.toNat_of_nonneg h1).symm,(Int.toNat_lt h1).mpr h2⟩
theorem Lw.append {a b:Str}(ha:Lw a)(hb:Lw b):Lw (a++b):=fun c h=>by
 have e:(a++b).cps.toList=a.cps.toList++b.cps.toList:=by
  show (a.cps++b.cps).toList=_
  rw [Array.toList_append]
 rw [e] at h
 exact (List.mem_append.mp h).elim (ha c) (hb c)
theorem Lw.cut {x:Str}{lo hi:Option Int}(h:Lw x):Lw (fb lo hi x):=fun c hc=>h c (List.mem_of_mem_drop (List.mem_of_mem_take hc))
theorem ft (a b:Str):(a++b).length=a.length+b.length:=Array.size_append ..
theorem zr:∀k,k < 26→ye.cps[k]?=some (97+k):=by decide+kernel
noncomputable def lt (x:Int):Str:=⟨#[97+(x.fmod 26).toNat]⟩
theorem wC (x:Int):aj (.str ye) (.int (x.fmod 26))=some (.str (lt x)):=by
 obtain ⟨k,h1,h2⟩:=d5 x (n:=26) (by decide)
 have h1:x.fmod 26=(k:Int):=h1
 rw [lt,h1]
 show ta k ye=_
 rw [ta,lz (Nat.le_trans (Nat.le_of_lt h2) (by decide)),iY (show k < ye.length from h2)]
 show (ye.cps[k]?).map _=_
 rw [zr k h2];rfl
theorem lX (x:Int):Lw (lt x):=fun c h=>by
 obtain ⟨k,h1,h2⟩:=d5 x (n:=26) (by decide)
 have h1:x.fmod 26=(k:Int):=h1
 have e:c=97+(x.fmod 26).toNat:=List.mem_singleton.mp h
 rw [e,h1]
 exact Bool.and_eq_true_iff.mpr ⟨Nat.ble_eq_true_of_le (Nat.le_add_right _ _),Nat.ble_eq_true_of_le (by lia)⟩
theorem lY (x:Int):(lt x).length=1:=rfl
noncomputable def yL (f:Nat→Int):Str:=Txt.join (ofString "") [lt (f 0),lt (f 1),lt (f 2),lt (f 3),lt (f 4),lt (f 5)]
theorem vJ (f:Nat→Int):yL f=lt (f 0)++ofString ""++(lt (f 1)++ofString ""++(lt (f 2)++ofString ""++(lt (f 3)++ofString ""++(lt (f 4)++ofString ""++lt (f 5))))):=by
 show Builtin.Str.glued _ _=_
 rw [StrLaws.glued_eq_join];rfl
theorem pG:(ofString "").length=0:=by decide+kernel
theorem jP:Lw (ofString ""):=fun c h=>by
 have e:(ofString "").cps.toList=[]:=by decide+kernel
 rw [e] at h;cases h
theorem tg (f:Nat→Int):(yL f).length=6:=by
 rw [vJ];simp only [ft,lY,pG]
theorem vI (f:Nat→Int):Lw (yL f):=by
 rw [vJ]
 exact ((lX _).append jP).append (((lX _).append jP).append (((lX _).append jP).append (((lX _).append jP).append (((lX _).append jP).append (lX _)))))
theorem zM (f:Nat→Int):tN (.str (ofString "")) (.lst [.str (lt (f 0)),.str (lt (f 1)),.str (lt (f 2)),.str (lt (f 3)),.str (lt (f 4)),.str (lt (f 5))])=some (.str (yL f)):=by
 have k:PyData.strOk (yL f)=true:=by
  have:=vI f
  exact Array.all_eq_true_iff_forall_mem.mpr fun c hc=>decide_eq_true (Nat.lt_of_le_of_lt (pj (this c (Array.mem_toList_iff.mpr hc))).2 (by decide))
 show (bif JoinOk (ofString "") [lt (f 0),lt (f 1),lt (f 2),lt (f 3),lt (f 4),lt (f 5)]&&PyData.strOk (yL f)&&bS (yL f).length then some (T.str (yL f)) else none)=_
 rw [k,tg,show JoinOk (ofString "") [lt (f 0),lt (f 1),lt (f 2),lt (f 3),lt (f 4),lt (f 5)]=true from by kernel_rfl];rfl
theorem xF {x:Str}{lo hi:Option Int}:(fb lo hi x).length≤x.length:=by
 show ((x.cps.toList.drop _).take _).toArray.size≤x.cps.toList.length
 rw [List.size_toArray,List.length_take,List.length_drop];exact Nat.le_trans (Nat.min_le_right _ _) (Nat.sub_le _ _)
theorem xD {x:Str}(hx:x.length=6){k:Nat}(h:1≤k):1≤(fb none (some (k:Int)) x).length:=by
 show 1≤(Mine.cut none (some (k:Int)) x.cps.toList).toArray.size
 have:x.cps.toList.length=6:=hx
 rw [fO,List.size_toArray,List.length_take,this];lia
theorem Ab {x:Str}{k:Nat}:(fb none (some (k:Int)) x).length≤k:=by
 show (Mine.cut none (some (k:Int)) x.cps.toList).toArray.size≤k
 rw [fO,List.size_toArray,List.length_take];exact Nat.min_le_left _ _
theorem xE {x:Str}(hx:x.length=6){a z:Nat}(h:a≤z)(hz:z≤6):(fb (some (a:Int)) (some (z:Int)) x).length≤z - a:=by
 have e:x.cps.toList.length=6:=hx
 show ((x.cps.toList.drop (clipAt x.cps.toList.length a)).take (clipAt x.cps.toList.length z - clipAt x.cps.toList.length a)).toArray.size≤_
 rw [e,pI hz,pI (Nat.le_trans h hz),List.size_toArray,List.length_take];exact Nat.min_le_left _ _
structure Nm (x:Str):Prop where
 m:Mk x
 ne:x≠ofString ""
theorem Nm.of {x:Str}(h1:x.length≤6)(h2:Lw x)(h3:1≤x.length):Nm x:=⟨⟨h1,h2⟩,fun e=>by rw [e,pG] at h3;cases h3⟩
structure Ar (x y z:Str):Prop where
 a:Nm x
 b:Nm y
 c:Nm z
noncomputable abbrev kC (x y z:Str):T:=.lst [.str x,.str y,.str z]
section
variable {σ:Sg}
theorem bK (a:Int){k:Nat}(h:(bif ((k:Int)==0)||Nat.ble 1073741824 (k:Int).natAbs then false else true)=true):cb (.int a) (.int k)=some (.int (a.fdiv k)):=by
 unfold cb
 show (bif ((k:Int)==0)||Nat.ble 1073741824 (k:Int).natAbs then none else some (T.int (a.fdiv k)))=_
 cases e:((k:Int)==0)||Nat.ble 1073741824 (k:Int).natAbs with
 |true=>rw [e] at h;cases h
 |false=>rfl
theorem cC (a:Int){k:Nat}(h:0 < k):aV (.int a) (.int k)=some (.int (a.fmod k)):=by
 unfold aV
 show (bif ((k:Int)==0) then none else some (T.int (a.fmod k)))=_
 rw [beq_eq_false_iff_ne.mpr (by lia)];rfl
theorem eC (a:Int){n:Nat}(h:0 < n):∃k:Nat,aV (.int a) (.int n)=some (nT k)∧k < n:=by
 obtain ⟨k,h1,h2⟩:=d5 a h
 exact ⟨k,by rw [cC a h,h1],h2⟩
theorem add_int (a b:Int):aC (.int a) (.int b)=some (.int (a+b)):=by unfold aC;rfl
theorem o4 {k:Nat}(a:Int)(h:sm k=true):jK (.int k) (.int a)=some (.int (k * a)):=by
 unfold jK
 show (bif sm k||sm a then some (T.int (k * a)) else none)=_
 rw [h];rfl
theorem vG (x:Str)(lo hi:Option Int):bi (.str x) lo hi=some (.str (fb lo hi x)):=by unfold bi;rfl
theorem A3 {a b:Str}(h:a.length+b.length≤100):aC (.str a) (.str b)=some (.str (a++b)):=by
 unfold aC
 exact pK (by rw [ft];exact Nat.le_trans h (by decide))
theorem wp (cell:Int)(n:Nat):aY (fun t σ'=>σ'=σ∧∃x y z,t=kC x y z∧Ar x y z) (ai Ψ (n+1) 19 [.int cell] σ):=by
 let f:Nat→Int:=fun j=>cell.fdiv 7+5 * (j:Int)
 have hl:=tg f
 have hw:=vI f
 refine oQ (aB (eH (n:=6) (by decide)) (fP (e:=nT) (fun j=>.str (lt (f j))) (fun j _=>⟨_,rfl,fun k=>?_⟩) (aB (zM f) ?_)))
 ·exact ab rfl (ab rfl (ab (bK cell (k:=7) rfl) (ab rfl (ab (o4 (k:=5) j rfl) (ab (add_int _ _) (ab (cC _ (k:=26) (by decide)) (ab (wC _) rfl)))))))
 generalize yL f=rest at hl hw
 refine aB rfl (aB (cC cell (k:=3) (by decide)) (aB (d6 _ _) ?_))
 have c6:∀{lo hi:Option Int},(fb lo hi rest).length≤6:=hl▸xF
 refine eu (fun _=>?_) fun _=>?_
 ·obtain ⟨q,hq,q4⟩:=eC (cell.fdiv (3:Nat)) (n:=4) (by decide)
  have e:∀k:Nat,(1+(q:Int))+(k:Int)=((1+q+k:Nat):Int):=fun k=>by lia
  have nm:∀k:Nat,Nm (fb none (some ((1+q+k:Nat):Int)) rest):=fun k=>.of c6 hw.cut (xD hl (by lia))
  refine aB rfl (aB (bK cell (k:=3) rfl) (aB hq (aB (add_int 1 _) (aB (eH (n:=3) (by decide)) (fP (e:=nT) (fun k=>.str (fb none (some ((1+q+k:Nat):Int)) rest)) (fun k _=>⟨_,rfl,fun κ=>?_⟩) (ck ⟨rfl,_,_,_,rfl,nm 0,nm 1,nm 2⟩))))))
  rw [←e]
  exact ab rfl (ab rfl (ab rfl (ab (add_int _ _) (ab rfl (ab (vG _ _ _) rfl)))))
 ·obtain ⟨z,hz,z6⟩:=eC (cell.fdiv (3:Nat)) (n:=6) (by decide)
  obtain ⟨a,ha,a1⟩:=eC (cell.fdiv (18:Nat)) (n:=z+1) (Nat.succ_pos _)
  let y:Nat→Str:=fun k=>fb none (some (a:Int)) rest++lt (cell.fdiv 90+7 * (k:Int))++fb (some (a:Int)) (some (z:Int)) rest
  have l1:(fb none (some (a:Int)) rest).length≤a:=Ab
  have l2:(fb (some (a:Int)) (some (z:Int)) rest).length≤z - a:=xE hl (by lia) (by lia)
  have nm:∀k,Nm (y k):=fun k=>.of (by rw [ft,ft,lY];lia) ((hw.cut.append (lX _)).append hw.cut) (by rw [ft,ft,lY];lia)
  refine aB rfl (aB (bK cell (k:=3) rfl) (aB hz (aB rfl (aB (bK cell (k:=18) rfl) (aB rfl (aB (add_int _ _) (aB ha ?_)))))))
  have turn:∀(k:Nat) (X:List T) (x7:Option T),X.length≤10→∀κ:PK aH,ae (aw 7 (p2 aj (pV 1) (p2 aV (p2 aC (p2 cb (pV 0) (pC (.int 90))) (p2 jK (pC (.int 7)) (pV 6))) (pC (.int 26))))) (ae (f6 5 df (p2 aC (p2 aC (p3 bi (pV 2) fS (p1 bN (pV 4))) (pV 7)) (p3 bi (pV 2) (p1 bN (pV 4)) (p1 bN (pV 3))))) af)
    ⟨ai Ψ n⟩ [some (.int cell),some (.str ye),some (.str rest),some (nT z),some (nT a),some (.lst X),some (nT k),x7,none,none] σ κ=κ [some (.int cell),some (.str ye),some (.str rest),some (nT z),some (nT a),some (.lst (X++[.str (y k)])),some (nT k),some (.str (lt (cell.fdiv 90+7 * (k:Int)))),none,none] σ:=fun k X x7 hX κ=>
   ab rfl (ab rfl (ab (bK cell (k:=90) rfl) (ab rfl (ab (o4 (k:=7) k rfl) (ab (add_int _ _) (ab (cC _ (k:=26) (by decide)) (ab (wC _) (ab rfl (ab rfl (ab rfl (ab (vG _ _ _) (ab rfl (ab (A3 (by rw [lY];lia)) (ab rfl (ab rfl (ab rfl (ab rfl (ab rfl (ab (vG _ _ _) (ab (A3 (by rw [ft,lY];lia)) (ab (x0 (Nat.lt_of_le_of_lt hX (by decide))) rfl)))))))))))))))))))))
  refine sJ rfl (aB (eH (n:=3) (by decide)) ?_)
  have t0:=turn 0 [] none (Nat.le_of_ble_eq_true rfl)
  have t1:=fun x7=>turn 1 [.str (y 0)] x7 (Nat.le_of_ble_eq_true rfl)
  have t2:=fun x7=>turn 2 [.str (y 0),.str (y 1)] x7 (Nat.le_of_ble_eq_true rfl)
  refine ⟨kC (y 0) (y 1) (y 2),σ,?_,rfl,_,_,_,rfl,nm 0,nm 1,nm 2⟩
  refine (t0 _).trans ((t1 _ _).trans ((t2 _ _).trans ?_))
  exact ab rfl rfl
end
section
variable {ns:List Int} {σ:Sg}
theorem oN {k:Nat}(h:k < ns.length)(hn:ns.length≤63):aj (.scr ns) (nT k)=some (.int ns[k]):=by
 have:yu k (ns.map T.int)=some (.int ns[k]):=sZ (List.getElem?_eq_getElem h) (Nat.le_trans (Nat.le_of_lt h) (Nat.le_trans hn (by decide)))
 unfold aj;exact this
theorem t6 (hn:ns.length≤63)(k n:Nat):aY (fun t σ'=>σ'=σ∧∃z,t=.int z) (ai Ψ (n+1) 17 [.scr ns,nT k] σ):=by
 refine lK (aB rfl (aB rfl (aB rfl (aB rfl (eu (fun h=>?_) fun _=>ck ⟨rfl,0,rfl⟩)))))
 have h:k < ns.length:=Int.ofNat_lt.mp (of_decide_eq_true h)
 exact aB rfl (aB rfl (aB (oN h hn) (ck ⟨rfl,_,rfl⟩)))
theorem AN (a:Int){k:Nat}(h:sm k=true):jK (.int a) (.int k)=some (.int (a * k)):=by
 unfold jK
 show (bif sm a||sm k then some (T.int (a * k)) else none)=_
 rw [h,Bool.or_true];rfl
theorem C3 (j:Nat):cA (.int ((j:Int)+1)) (.int 1)=some (nT j):=by unfold cA;exact congrArg (fun z=>some (T.int z)) (Int.add_sub_cancel ..)
theorem jk (hn:ns.length≤63)(j n:Nat){se:Option (Nat×List T)}:aY (fun t σ'=>σ'=⟨((j+1:Nat):Int),se⟩∧∃z,t=.int z) (ai Ψ (n+1) 18 [.scr ns,.spot] ⟨(j:Int),se⟩):=by
 refine qv (aB (add_int _ _) (aB (C3 j) (aB rfl (aB rfl (aB rfl (aB rfl (eu (fun h=>?_) fun _=>?_)))))))
 ·have h:j < ns.length:=Int.ofNat_lt.mp (of_decide_eq_true h)
  exact aB rfl (aB rfl (aB (oN h hn) (ck ⟨rfl,_,rfl⟩)))
 ·refine aB rfl (aB rfl (aB rfl (eu (fun h=>?_) fun _=>?_)))
  ·have h:4 < ns.length:=by have:=of_decide_eq_true h;lia
   obtain ⟨k,hk,k1⟩:=eC (j:Int) (n:=ns.length) (Nat.lt_trans (by decide) h)
   refine aB rfl (aB rfl (eu (fun _=>?_) fun _=>?_))
   ·exact Eb (aB rfl (aB rfl (aB rfl (aB rfl (aB hk (aB (oN k1 hn) (aB rfl (aB (o4 (k:=7919) j rfl) (aB (add_int _ _) (aB (AN _ (k:=48271) rfl) (aB (cC _ (k:=1000003) (by decide)) (ck ⟨rfl,_,rfl⟩))))))))))))
   ·exact ck ⟨rfl,0,rfl⟩
  ·exact ck ⟨rfl,0,rfl⟩
noncomputable def vl (f:Int)(m k:Nat):Nat:=((f+(k:Int)).fmod (m:Int)).toNat
theorem gc {f:Int}{m k:Nat}(hm:0 < m):vl f m k < m:=by
 obtain ⟨x,h1,h2⟩:=d5 (f+(k:Int)) hm
 rw [vl,h1];exact h2
theorem oA {f:Int}{m k:Nat}(hm:0 < m):aV (.int (f+(k:Int))) (nT m)=some (nT (vl f m k)):=by
 obtain ⟨x,h1,h2⟩:=d5 (f+(k:Int)) hm
 rw [cC _ hm,vl,h1];rfl
theorem CS {f:Int}{m j k:Nat}(hm:0 < m)(hj:j < k)(hk:k < m):vl f m j≠vl f m k:=fun e=>by
 have e1:(f+(j:Int)).fmod m=(f+(k:Int)).fmod m:=by
  obtain ⟨x,h1,_⟩:=d5 (f+(j:Int)) hm
  obtain ⟨y,h2,_⟩:=d5 (f+(k:Int)) hm
  rw [vl,vl,h1,h2] at e
  rw [h1,h2];exact congrArg Int.ofNat e
 rw [Int.fmod_eq_emod_of_nonneg _ (by lia),Int.fmod_eq_emod_of_nonneg _ (by lia)] at e1
 have h0:=(Int.emod_eq_emod_iff_emod_sub_eq_zero).mp e1
 have h1:(f+(j:Int)) - (f+(k:Int))=-(((k - j:Nat):Int)):=by lia
 rw [h1] at h0
 have h2:((k - j:Nat):Int) % (m:Int)=0:=Int.emod_eq_zero_of_dvd (Int.dvd_neg.mp (Int.dvd_of_emod_eq_zero h0))
 rw [Int.emod_eq_of_lt (by lia) (by lia)] at h2
 lia
theorem tc {m:Nat}(hm:0 < m)(hm':m≤1000)(cell first:Int)(n:Nat):aY (fun t σ'=>σ'=σ∧∃r,t=aA r∧kQ m r) (ai Ψ (n+1) 24 [.int cell,nT m,.int first] σ):=by
 have lp:∀(d k:Nat) (r:List Nat) (z:Int) (x5:Option T),k+d=m→r≠[]→r.Nodup→(∀p∈r,∃j,j < k∧p=vl first m j)→r.length≤k→
   aY (fun t σ'=>σ'=σ∧∃r,t=aA r∧kQ m r) (cg (aM 5) (ae (bn (p2 bD (p2 aV (pV 3) (pC (.int 3))) (pC (.int 1))) (ae (f6 4 df (p2 aV (p2 aC (pV 2) (pV 5)) (pV 1))) af) af) (ae (aw 3 (p2 cb (pV 3) (pC (.int 3)))) af)) ⟨ai Ψ n⟩ ((List.range' k d).map nT) [some (.int cell),some (nT m),some (.int first),some (.int z),some (aA r),x5] σ fun ρ σ=>ae (au (pV 4)) af ⟨ai Ψ n⟩ ρ σ (kE 24)):=fun d=>by
  induction d with
  |zero=>exact fun k r z x5 e h1 h2 h3 _=>aB rfl (ck ⟨rfl,r,rfl,h1,h2,fun p hp=>by obtain ⟨j,_,rfl⟩:=h3 p hp;exact gc hm⟩)
  |succ d ih=>
   intro k r z x5 e h1 h2 h3 h4
   have ih':=fun r z x5=>ih (k+1) r z x5 (by lia)
   have dv:∀(r:List Nat),r≠[]→r.Nodup→(∀p∈r,∃j,j < k+1∧p=vl first m j)→r.length≤k+1→aY (fun t σ'=>σ'=σ∧∃r,t=aA r∧kQ m r) (ae (aw 3 (p2 cb (pV 3) (pC (.int 3)))) af ⟨ai Ψ n⟩ [some (.int cell),some (nT m),some (.int first),some (.int z),some (aA r),some (nT k)] σ fun ρ σ=>cg (aM 5) (ae (bn (p2 bD (p2 aV (pV 3) (pC (.int 3))) (pC (.int 1))) (ae (f6 4 df (p2 aV (p2 aC (pV 2) (pV 5)) (pV 1))) af) af) (ae (aw 3 (p2 cb (pV 3) (pC (.int 3)))) af)) ⟨ai Ψ n⟩ ((List.range' (k+1) d).map nT) ρ σ fun ρ σ=>ae (au (pV 4)) af ⟨ai Ψ n⟩ ρ σ (kE 24)):=fun r a b c d=>aB rfl (aB (bK z (k:=3) rfl) (ih' r _ _ a b c d))
   refine DF (v:=nT k) (l:=(List.range' (k+1) d).map nT) rfl (aB rfl (aB (cC z (k:=3) (by decide)) (aB (d6 _ _) (eu (fun _=>?_) fun _=>?_))))
   ·refine aB rfl (aB rfl (aB (add_int _ _) (aB rfl (aB (oA hm) (aB (cD (e:=nT) (vl first m k) (Nat.lt_of_le_of_lt h4 (by rw [bh];lia))) (dv (r++[vl first m k]) ?_ ?_ ?_ ?_))))))
    ·exact fun q=>by cases List.append_eq_nil_iff.mp q |>.2
    ·refine List.nodup_append.mpr ⟨h2,List.pairwise_singleton _ _,fun a ha b hb q=>?_⟩
     obtain ⟨j,j1,rfl⟩:=h3 a ha
     exact CS hm j1 (by lia) (q.trans (List.mem_singleton.mp hb))
    ·intro p hp
     rcases List.mem_append.mp hp with h |h
     ·obtain ⟨j,j1,e⟩:=h3 p h
      exact ⟨j,Nat.lt_succ_of_lt j1,e⟩
     ·exact ⟨k,Nat.lt_succ_self _,List.mem_singleton.mp h⟩
    ·rw [List.length_append];exact Nat.succ_le_succ h4
   ·exact dv r h1 h2 (fun p hp=>by obtain ⟨j,j1,e⟩:=h3 p hp;exact ⟨j,Nat.lt_succ_of_lt j1,e⟩) (Nat.le_succ_of_le h4)
 have e0:aV (.int first) (nT m)=some (nT (vl first m 0)):=by
  have:=oA (f:=first) (k:=0) hm
  rw [show first+((0:Nat):Int)=first from Int.add_zero _] at this;exact this
 exact qq (aB rfl (aB (AN _ (k:=48271) rfl) (aB (cC _ (k:=1000003) (by decide)) (aB rfl (aB rfl (aB e0 (sJ rfl (aB rfl (aB (r4 (a:=1) hm (Nat.le_trans hm' (by decide))) (lp (m - 1) 1 [vl first m 0] _ none (by lia) (fun q=>nomatch q) (List.pairwise_singleton _ _) (fun p hp=>⟨0,Nat.zero_lt_one,List.mem_singleton.mp hp⟩) (Nat.le_refl _)))))))))))
end
section
variable {ns:List Int}
theorem BD:Mk (ofString ""):=⟨by rw [pG];decide,jP⟩
theorem xa {a:T}{l:List T}:aj (.lst (a::l)) (.int 0)=some a:=fJ (j:=0) rfl (Nat.zero_le _)
theorem w9 {a b:T}{l:List T}:aj (.lst (a::b::l)) (.int 1)=some b:=fJ (j:=1) rfl (by decide)
theorem Ef {a b:List T}(h:(a++b).length≤lim):aC (.lst a) (.lst b)=some (.lst (a++b)):=by unfold aC;exact pK h
theorem sw (hn:ns.length≤63)(j n:Nat){x y z:Str}(N:Ar x y z){most:Nat}(h1:0 < most)(h2:most≤8):
  aY (fun t σ'=>(∃j':Nat,σ'=⟨(j':Int),none⟩)∧∃M:Mc,t=.tup M.fs∧M.Ok∧M.names.length≤most) (ai Ψ (n+2) 25 [.scr ns,.spot,kC x y z,nT most] ⟨(j:Int),none⟩):=by
 refine lJ (aB rfl (aB rfl (bM (jk hn j n) ?_)))
 rintro _ _ ⟨rfl,cell,rfl⟩
 obtain ⟨m0,hm,ml⟩:=eC cell h1
 refine aB rfl (aB hm (aB (add_int 1 _) (aB rfl (aB rfl (aB xa (aB rfl (aB w9 (sJ rfl (aB (Ef (Nat.le_of_ble_eq_true rfl)) (sJ rfl (sJ rfl (aB rfl ?_))))))))))))
 obtain ⟨m,em⟩:∃m:Nat,m=1+m0:=⟨_,rfl⟩
 rw [show (1:Int)+(m0:Int)=(m:Int) by lia]
 have mp:0 < m:=by lia
 have mm:m≤most:=by lia
 let six':List Str:=[x,y,z,ofString "",x,y]
 have mk6:∀{i:Nat},i < 6→∃s,aj (.lst (six'.map .str)) (nT i)=some (.str s)∧Mk s:=fun {i} hi=>by
  have e:six'[i]?=some six'[i]:=List.getElem?_eq_getElem (show i < six'.length from hi)
  refine ⟨_,ba (e:=T.str) e (Nat.le_trans (Nat.le_of_lt hi) (by decide)),?_⟩
  have:=List.mem_of_getElem? e
  generalize six'[i]=s at this
  simp only [six',List.mem_cons,List.not_mem_nil,or_false] at this
  rcases this with rfl |rfl |rfl |rfl |rfl |rfl
  ·exact N.a.m
  ·exact N.b.m
  ·exact N.c.m
  ·exact BD
  ·exact N.a.m
  ·exact N.b.m
 have lp:∀(d k:Nat) (L:List Str) (R:List (List Nat)) (x8 x9:Option T) (j:Nat) {κ:PK aH} {Q:T→Sg→Prop},k+d=m→L.length=k→R.length=k→(∀s∈L,Mk s)→(∀r∈R,kQ m r)→
   (∀(L:List Str) (R:List (List Nat)) (x8 x9:Option T) (j:Nat),L.length=m→R.length=m→(∀s∈L,Mk s)→(∀r∈R,kQ m r)→aY Q (κ [some (.scr ns),some .spot,some (kC x y z),some (nT most),some (nT m),some (.lst (six'.map .str)),some (.lst (L.map .str)),some (.lst (R.map aA)),x8,x9] ⟨(j:Int),none⟩))→
   aY Q (cg (aM 8) (ae (aw 9 (am 18 (aa (pV 0) (aa (pV 1) ah)))) (ae (f6 6 df (p2 aj (pV 5) (p2 aV (pV 9) (pC (.int 6))))) (ae (f6 7 df (am 24 (aa (pV 9) (aa (pV 4) (aa (p2 cb (pV 9) (pC (.int 6))) ah))))) af))) ⟨ai Ψ (n+1)⟩ ((List.range' k d).map nT)
    [some (.scr ns),some .spot,some (kC x y z),some (nT most),some (nT m),some (.lst (six'.map .str)),some (.lst (L.map .str)),some (.lst (R.map aA)),x8,x9] ⟨(j:Int),none⟩ κ):=fun d=>by
  induction d with
  |zero=>exact fun k L R x8 x9 j κ Q e l1 l2 a b hk=>hk L R x8 x9 j (by lia) (by lia) a b
  |succ d ih=>
   intro k L R x8 x9 j κ Q e l1 l2 a b hk
   refine DF (v:=nT k) (l:=(List.range' (k+1) d).map nT) rfl (aB rfl (aB rfl (bM (jk hn j n) ?_)))
   rintro _ _ ⟨rfl,c,rfl⟩
   obtain ⟨i,hi,i6⟩:=eC c (n:=6) (by decide)
   obtain ⟨s,hs,ms⟩:=mk6 i6
   refine aB rfl (aB rfl (aB hi (aB hs (aB (cD (e:=T.str) s (by rw [bh];lia)) (aB rfl (aB rfl (aB rfl (aB (bK c (k:=6) rfl) (bM (tc mp (by lia) c _ n) ?_)))))))))
   rintro _ _ ⟨rfl,r,rfl,hr⟩
   refine aB (cD (e:=aA) r (by rw [bh];lia)) (ih (k+1) (L++[s]) (R++[r]) _ _ (j+1) (by lia) (by rw [List.length_append,l1];rfl) (by rw [List.length_append,l2];rfl) (fun s' h=>(List.mem_append.mp h).elim (a s') fun q=>List.mem_singleton.mp q▸ms) (fun r' h=>(List.mem_append.mp h).elim (b r') fun q=>List.mem_singleton.mp q▸hr) hk)
 have rg:r5 [nT m]=some ((List.range' 0 m).map nT):=by rw [←List.range_eq_range'];exact eH (by lia)
 refine aB rg (lp m 0 [] [] none _ (j+1) (Nat.zero_add _) rfl rfl (fun _ h=>nomatch h) (fun _ h=>nomatch h) ?_)
 intro L R x8 x9 j l1 l2 a b
 refine aB rfl (aB rfl (bM (jk hn j n) ?_))
 rintro _ _ ⟨rfl,c,rfl⟩
 have ok:∀r,kQ m r→(⟨L,R,r⟩:Mc).Ok:=fun r hr=>⟨by rw [l1];exact mp,by rw [l1];lia,a,by rw [l1,l2],by rw [l1];exact b,by rw [l1];exact hr⟩
 refine aB rfl (aB (cC c (k:=4) (by decide)) (aB (d6 _ _) (eu (fun _=>?_) fun _=>?_)))
 ·refine aB rfl (aB rfl (aB rfl (aB rfl (aB rfl (aB (bK c (k:=4) rfl) (bM (tc mp (by lia) c _ n) ?_))))))
  rintro _ _ ⟨rfl,r,rfl,hr⟩
  exact ck ⟨⟨j+1,rfl⟩,⟨L,R,r⟩,rfl,ok r hr,by rw [show (⟨L,R,r⟩:Mc).names=L from rfl,l1];exact mm⟩
 ·obtain ⟨p,hp,pm⟩:=eC (c.fdiv (4:Nat)) mp
  refine aB rfl (aB rfl (aB rfl (aB (bK c (k:=4) rfl) (aB rfl (aB hp (ck ⟨⟨j+1,rfl⟩,⟨L,R,[p]⟩,rfl,ok [p] ⟨(fun q=>nomatch q),List.pairwise_singleton _ _,(fun q hq=>by cases List.mem_singleton.mp hq;exact pm)⟩,?_⟩))))))
  rw [show (⟨L,R,[p]⟩:Mc).names=L from rfl,l1];exact mm
end
noncomputable def AR:List Str:=["not","and","or","next","till","always","again","till","always","next","not"].map ofString
theorem vE:oH (.str (ofString "not and or next till always again till always next not")) (.str (ofString " "))=some (.lst (AR.map .str)):=by kernel_rfl
noncomputable abbrev Gz:T:=.tup [.str (ofString "not"),.str (ofString "next"),.str (ofString "always"),.str (ofString "again")]
structure Un (k:Str) (C:Sy→Sy):Prop where
 t:fT (.str k) Gz=some true
 to:∀a,bf (C a)=.tup [.str k,bf a]
 dep:∀a,dep (C a)=dep a+1
 all:∀a,all (C a)=C a::all a
 ne:∀a x,Sy.mark x≠C a
structure Bi (k:Str) (C:Sy→Sy→Sy):Prop where
 t:fT (.str k) Gz=some false
 to:∀a c,bf (C a c)=.tup [.str k,bf a,bf c]
 dep:∀a c,dep (C a c)=max (dep a) (dep c)+1
 all:∀a c,all (C a c)=C a c::(all a++all c)
 ne:∀a c x,Sy.mark x≠C a c
theorem fk:Un (ofString "not") .not:=⟨by kernel_rfl,fun _=>rfl,fun _=>rfl,fun _=>rfl,fun _ _ h=>nomatch h⟩
theorem oE:Un (ofString "next") .next:=⟨by kernel_rfl,fun _=>rfl,fun _=>rfl,fun _=>rfl,fun _ _ h=>nomatch h⟩
theorem eW:Un (ofString "always") .always:=⟨by kernel_rfl,fun _=>rfl,fun _=>rfl,fun _=>rfl,fun _ _ h=>nomatch h⟩
theorem qa:Un (ofString "again") .again:=⟨by kernel_rfl,fun _=>rfl,fun _=>rfl,fun _=>rfl,fun _ _ h=>nomatch h⟩
theorem xT:Bi (ofString "and") .and:=⟨by kernel_rfl,fun _ _=>rfl,fun _ _=>rfl,fun _ _=>rfl,fun _ _ _ h=>nomatch h⟩
theorem xS:Bi (ofString "or") .or:=⟨by kernel_rfl,fun _ _=>rfl,fun _ _=>rfl,fun _ _=>rfl,fun _ _ _ h=>nomatch h⟩
theorem jo:Bi (ofString "till") .till:=⟨by kernel_rfl,fun _ _=>rfl,fun _ _=>rfl,fun _ _=>rfl,fun _ _ _ h=>nomatch h⟩
theorem zL:∀i,i < 11→∃k,AR[i]?=some k∧((∃C,Un k C)∨∃C,Bi k C)
 | 0,_=>⟨_,rfl,.inl ⟨_,fk⟩⟩
 | 1,_=>⟨_,rfl,.inr ⟨_,xT⟩⟩
 | 2,_=>⟨_,rfl,.inr ⟨_,xS⟩⟩
 | 3,_=>⟨_,rfl,.inl ⟨_,oE⟩⟩
 | 4,_=>⟨_,rfl,.inr ⟨_,jo⟩⟩
 | 5,_=>⟨_,rfl,.inl ⟨_,eW⟩⟩
 | 6,_=>⟨_,rfl,.inl ⟨_,qa⟩⟩
 | 7,_=>⟨_,rfl,.inr ⟨_,jo⟩⟩
 | 8,_=>⟨_,rfl,.inl ⟨_,eW⟩⟩
 | 9,_=>⟨_,rfl,.inl ⟨_,oE⟩⟩
 | 10,_=>⟨_,rfl,.inl ⟨_,fk⟩⟩
 |_+11,h=>absurd h (by lia)
theorem Un.gm {k:Str}{C:Sy→Sy}(U:Un k C){a:Sy}(h:Gm a):Gm (C a):=fun x hx=>by
 rw [U.all] at hx
 rcases List.mem_cons.mp hx with e |hx
 ·exact absurd e (U.ne a x)
 ·exact h x hx
theorem Bi.gm {k:Str}{C:Sy→Sy→Sy}(U:Bi k C){a c:Sy}(h:Gm a)(h':Gm c):Gm (C a c):=fun x hx=>by
 rw [U.all] at hx
 rcases List.mem_cons.mp hx with e |hx
 ·exact absurd e (U.ne a c x)
 ·exact (List.mem_append.mp hx).elim (h x) (h' x)
section
variable {ns:List Int}
theorem lt_int (a b:Int):tE (.int a) (.int b)=some (decide (a < b)):=by unfold tE;rfl
theorem sub_int (a b:Int):cA (.int a) (.int b)=some (.int (a - b)):=by unfold cA;rfl
theorem zj (hn:ns.length≤63){x y z:Str}(N:Ar x y z):∀(d j n:Nat),1≤d→d≤n→aY (fun t σ'=>(∃j':Nat,σ'=⟨(j':Int),none⟩)∧∃s,t=bf s∧dep s≤d∧Gm s) (ai Ψ (n+1) 20 [.scr ns,.spot,kC x y z,nT d] ⟨(j:Int),none⟩):=by
 intro d
 induction d with
 |zero=>intro j n h;cases h
 |succ d ih=>
  intro j n _ hd
  obtain ⟨n,rfl⟩:∃k,n=k+1:=⟨n - 1,by lia⟩
  refine qr (aB rfl (aB rfl (bM (jk hn j n) ?_)))
  rintro _ _ ⟨rfl,c,rfl⟩
  have leaf:∀{κ:PK aH},aY (fun t σ'=>(∃j':Nat,σ'=⟨(j':Int),none⟩)∧∃s,t=bf s∧dep s≤d+1∧Gm s) (ae (bn (p2 bD (p2 aV (pV 5) (pC (.int 9))) (pC (.int 4))) (ae (au (az (aa (pC (.str (ofString "yes"))) ah))) af) af) (ae (au (az (aa (pC (.str (ofString "mark"))) (aa (p2 aj (pV 2) (p2 aV (pV 5) (pC (.int 3)))) ah)))) af)
    ⟨ai Ψ (n+1)⟩ [some (.scr ns),some .spot,some (kC x y z),some (nT (d+1)),some (.int c),some (.int (c.fdiv (13:Nat))),none,none,none] ⟨((j+1:Nat):Int),none⟩ κ):=fun {κ}=>by
   refine aB rfl (aB (cC _ (k:=9) (by decide)) (aB (d6 _ _) (eu (fun _=>?_) fun _=>?_)))
   ·exact ck ⟨⟨_,rfl⟩,.yes,rfl,Nat.succ_le_succ (Nat.zero_le _),fun x h=>by cases List.mem_singleton.mp h⟩
   ·obtain ⟨i,hi,i3⟩:=eC (c.fdiv (13:Nat)) (n:=3) (by decide)
    obtain ⟨s,hs,ms⟩:∃s,aj (kC x y z) (nT i)=some (.str s)∧Nm s:=by
     rcases Nat.lt_succ_iff_lt_or_eq.mp i3 with h |rfl
     ·rcases Nat.lt_succ_iff_lt_or_eq.mp h with h |rfl
      ·cases Nat.lt_one_iff.mp h;exact ⟨x,fJ (j:=0) rfl (by decide),N.a⟩
      ·exact ⟨y,fJ (j:=1) rfl (by decide),N.b⟩
     ·exact ⟨z,fJ (j:=2) rfl (by decide),N.c⟩
    exact aB rfl (aB rfl (aB hi (aB hs (ck ⟨⟨_,rfl⟩,.mark s,rfl,Nat.succ_le_succ (Nat.zero_le _),fun x h=>by cases List.mem_singleton.mp h;exact ⟨ms.m,ms.ne⟩⟩))))
  obtain ⟨i,hi,i13⟩:=eC c (n:=13) (by decide)
  refine aB rfl (aB (bK c (k:=13) rfl) (aB rfl (aB (lt_int _ _) ?_)))
  by_cases h1:((d+1:Nat):Int) < 2
  ·rw [decide_eq_true h1];exact leaf
  rw [decide_eq_false h1]
  refine Ah (aB rfl (aB hi (aB (lt_int _ _) ?_)))
  by_cases h2:(i:Int) < 2
  ·rw [decide_eq_true h2];exact leaf
  rw [decide_eq_false h2]
  obtain ⟨k,hk,kc⟩:=zL (i - 2) (by lia)
  have e1:cA (nT i) (.int 2)=some (nT (i - 2)):=by rw [sub_int];exact congrArg (fun z=>some (T.int z)) (by lia)
  have e2:cA (nT (d+1)) (.int 1)=some (nT d):=by rw [sub_int];exact congrArg (fun z=>some (T.int z)) (by lia)
  refine Ah (Ah (aB rfl (aB vE (aB rfl (aB hi (aB e1 (aB (ba (e:=T.str) hk (by rw [bh];lia)) (aB rfl (aB rfl (aB rfl (aB rfl (aB e2 (bM (ih (j+1) n (by lia) (by lia)) ?_)))))))))))))
  rintro _ _ ⟨⟨j',rfl⟩,a,rfl,da,ga⟩
  refine aB rfl (sJ rfl ?_)
  rcases kc with ⟨C,U⟩ | ⟨C,U⟩
  ·refine aB U.t (Eb ?_)
   exact aB rfl (aB rfl (ck ⟨⟨j',rfl⟩,C a,(U.to a).symm,by rw [U.dep];exact Nat.succ_le_succ da,U.gm ga⟩))
  ·refine aB U.t (Ah ?_)
   refine aB rfl (aB rfl (aB rfl (aB rfl (aB rfl (aB rfl (aB e2 (bM (ih j' n (by lia) (by lia)) ?_)))))))
   rintro _ _ ⟨⟨j'',rfl⟩,b,rfl,db,gb⟩
   exact ck ⟨⟨j'',rfl⟩,C a b,(U.to a b).symm,by rw [U.dep];exact Nat.succ_le_succ (Nat.max_le.mpr ⟨da,db⟩),U.gm ga gb⟩
end
section
variable {σ:Sg}
theorem An:∀s:Sy,(all s).length+1≤2 ^ dep s:=by
 have two:∀(s a c:Sy),(all a).length+1≤2 ^ dep a→(all c).length+1≤2 ^ dep c→dep s=max (dep a) (dep c)+1→all s=s::(all a++all c)→(all s).length+1≤2 ^ dep s:=fun s a c ha hc e e2=>by
  have h1:=Nat.pow_le_pow_right (n:=2) (by decide) (Nat.le_max_left (dep a) (dep c))
  have h2:=Nat.pow_le_pow_right (n:=2) (by decide) (Nat.le_max_right (dep a) (dep c))
  rw [e,e2,Nat.pow_succ,List.length_cons,List.length_append];lia
 have one:∀(s a:Sy),(all a).length+1≤2 ^ dep a→dep s=dep a+1→all s=s::all a→(all s).length+1≤2 ^ dep s:=fun s a ha e e2=>by
  rw [e,e2,Nat.pow_succ,List.length_cons];lia
 intro s
 induction s with
 |mark |yes=>exact Nat.le_refl 2
 |not a ih |next a ih |always a ih |again a ih=>exact one _ a ih rfl rfl
 |and a c ih ih' |or a c ih ih' |till a c ih ih'=>exact two _ a c ih ih' rfl rfl
theorem yc {s:Sy}(h:dep s≤8):(all s).length≤256:=Nat.le_trans (Nat.le_succ _) (Nat.le_trans (An s) (Nat.pow_le_pow_right (j:=8) (by decide) h))
noncomputable abbrev Eg:PS:=ae (bn (qE (p1 (dK .tuple) (pV 2))) (ae (aw 1 (p2 aC (pV 1) (am 21 (aa (pV 2) ah)))) af) af) af
theorem Be (s:Sy):∃ts,bf s=.tup ts:=by cases s<;>exact ⟨_,rfl⟩
theorem yb {c:dw}{t:Option T}:∀(l:List Sy),(∀a∈l,(all a).length≤256∧c.call 21 [bf a] σ=.ret (hH (all a)) σ)→∀(F:List Sy) (x2:Option T) {k:PK aH} {r:cc},F.length+l.length * 256≤10000→
  (∀x2,k [t,some (hH (l.foldl (fun f a=>f++all a) F)),x2] σ=r)→cg (aM 2) Eg c (l.map bf) [t,some (hH F),x2] σ k=r:=by
 intro l
 induction l with
 |nil=>intro _ F x2 k r _ hk;exact hk x2
 |cons a l ih=>
  intro hl F x2 k r h1 hk
  obtain ⟨h2,h3⟩:=hl a (.head _)
  rw [List.length_cons] at h1
  have e:=ih (fun b hb=>hl b (.tail _ hb)) (F++all a) (some (bf a)) (by rw [List.length_append];lia) hk
  obtain ⟨ts,et⟩:=Be a
  rw [List.map_cons,et]
  rw [et] at h3 e
  exact ao h3 (mt (cf (by rw [bh];lia)) e)
theorem Cx (s:Sy):all s=(cq s).foldl (fun f a=>f++all a) [s]:=by cases s<;>rfl
theorem Cw:∀(n:Nat) (s:Sy),dep s≤n→dep s≤8→ai Ψ (n+1) 21 [bf s] σ=.ret (hH (all s)) σ:=by
 intro n
 induction n with
 |zero=>intro s h;exact absurd (fM s) (Nat.not_le.mpr (Nat.lt_succ_of_le h))
 |succ n ih=>
  intro s h h8
  have pl:(cq s).length≤2:=by cases s<;>exact Nat.le_of_ble_eq_true rfl
  have L:=yb (σ:=σ) (c:=⟨ai Ψ (n+1)⟩) (t:=some (bf s)) (cq s) (fun a ha=>⟨yc (Nat.le_trans (Nat.le_of_lt (c7 ha)) h8),ih a (Nat.le_of_lt_succ (Nat.lt_of_lt_of_le (c7 ha) h)) (Nat.le_trans (Nat.le_of_lt (c7 ha)) h8)⟩) [s] none (k:=fun ρ σ=>ae (au (pV 1)) af ⟨ai Ψ (n+1)⟩ ρ σ (kE 21)) (r:=.ret (hH (all s)) σ) (by show 1+_≤_;lia) fun x2=>by rw [Cx s];rfl
  cases s with
  |mark x=>exact m5 (mt (a:=.tup [.str x]) (by kernel_rfl) rfl)
  |_=>exact m5 (mt (a:=.tup ((cq _).map bf)) (by kernel_rfl) (ab rfl L))
end
section
variable {σ:Sg}
noncomputable abbrev wN:PS:=(ae (aw 3 (aW ah))
  (ae (bn (p2 fT (p2 aj (pV 2) (pC (.int 0))) (az (aa (pC (.str (ofString "next"))) (aa (pC (.str (ofString "till"))) (aa (pC (.str (ofString "always"))) ah)))))
  (ae (aw 3 (aW (aa (pV 2) ah)))
  af)
  (ae (bn (p2 bD (p2 aj (pV 2) (pC (.int 0))) (pC (.str (ofString "again"))))
  (ae (aw 3 (aW (aa (az (aa (pC (.str (ofString "till"))) (aa (az (aa (pC (.str (ofString "yes"))) ah)) (aa (p2 aj (pV 2) (pC (.int 1))) ah)))) (aa (az (aa (pC (.str (ofString "always"))) (aa (az (aa (pC (.str (ofString "till"))) (aa (az (aa (pC (.str (ofString "yes"))) ah)) (aa (p2 aj (pV 2) (pC (.int 1))) ah)))) ah))) ah))))
  af)
  af)
  af))
  (ae (aw 1 (p2 aC (pV 1) (ax (aL (pV 3)) (aM 4) (p2 eY (pV 4) (pV 1)) (pV 4))))
  af)))
theorem BR {c:dw}{t2:Option T}{t0:Option T}{f xs:List Sy}(hf:∀x∈f,dep x≤40)(hx:∀x∈xs,dep x≤40)(hl:f.length+xs.length≤20000){k:PK aH}{r:cc}(hk:k [t0,some (hH (ext f xs)),t2,some (hH xs),none] σ=r):
  ae (aw 1 (p2 aC (pV 1) (ax (aL (pV 3)) (aM 4) (p2 eY (pV 4) (pV 1)) (pV 4)))) af c [t0,some (hH f),t2,some (hH xs),none] σ k=r:=
 mE (i:=4) (fun _=>rfl) (fun _=>rfl) hf hx (mt (cf (e:=bf) (l:=f) (q:=xs.filter fun x=>!f.contains x) (o0 f xs hl)) hk)
theorem zA {c:dw}{t0 x3:Option T}{f:List Sy}{t:Sy}(hf:∀x∈f,dep x≤40)(ht:dep t≤30)(hl:f.length≤10000){k:PK aH}{r:cc}(hk:k [t0,some (hH (ext f (bR t))),some (bf t),some (hH (bR t)),none] σ=r):
  wN c [t0,some (hH f),some (bf t),x3,none] σ k=r:=by
 have hx:∀x∈bR t,dep x≤40:=fun x hx=>Nat.le_trans (ee (aZ.mpr ⟨t,i4 t,hx⟩)) (Nat.le_trans (Nat.succ_le_succ ht) (by decide))
 have ol:(bR t).length≤2:=by cases t<;>exact Nat.le_of_ble_eq_true rfl
 have E:=BR (c:=c) (t0:=t0) (t2:=some (bf t)) hf hx (by lia) hk
 cases t<;>exact E
theorem zB {c:dw}{t0:Option T}:∀(l:List Sy),(∀a∈l,dep a≤30)→∀(f:List Sy) (x2 x3:Option T) {k:PK aH} {r:cc},(∀x∈f,dep x≤40)→f.length+l.length * 2≤10000→
  (∀x2 x3,k [t0,some (hH (l.foldl (fun f t=>ext f (bR t)) f)),x2,x3,none] σ=r)→cg (aM 2) wN c (l.map bf) [t0,some (hH f),x2,x3,none] σ k=r:=by
 intro l
 induction l with
 |nil=>intro _ f x2 x3 k r _ _ hk;exact hk x2 x3
 |cons t l ih=>
  intro hl f x2 x3 k r hf h1 hk
  rw [List.length_cons] at h1
  have ht:=hl t (.head _)
  have ol:(bR t).length≤2:=by cases t<;>exact Nat.le_of_ble_eq_true rfl
  have el:=eE f (bR t)
  exact zA hf ht (by lia) (ih (fun a ha=>hl a (.tail _ ha)) _ _ _ (fun x hx=>(jc.mp hx).elim (hf x) fun q=>Nat.le_trans (ee (aZ.mpr ⟨t,i4 t,q⟩)) (Nat.le_trans (Nat.succ_le_succ ht) (by decide))) (by lia) hk)
theorem Dr {n:Nat}{s:Sy}(h:dep s≤n)(h8:dep s≤8):ai Ψ (n+2) 22 [bf s] σ=.ret (hH (lb s)) σ:=
 pM (ao (Cw n s h h8) (zB (all s) (fun a ha=>Nat.le_trans (uc ha) (Nat.le_trans h8 (by decide))) [] none none (fun _ h=>nomatch h) (by have:=yc h8;rw [List.length_nil];lia) fun _ _=>rfl))
theorem uO {s:Sy}(h:0 < (lb s).length):∃p∈cq s,aj (bf s) (.int (-1))=some (bf p):=by
 cases s with
 |mark |yes=>cases h
 |not a |next a |always a |again a=>exact ⟨a,.head _,rfl⟩
 |and a c |or a c |till a c=>exact ⟨c,.tail _ (.head _),rfl⟩
theorem Cb {s:Sy}(h8:dep s≤8)(hg:Gm s)(n:Nat):aY (fun t σ'=>σ'=σ∧∃s',t=bf s'∧dep s'≤dep s∧Gm s'∧(aq s').length≤2) (ai Ψ (n+12) 23 [bf s,.int 2] σ):=by
 have lp:∀(N:Nat) (s':Sy),dep s' < N→dep s'≤dep s→Gm s'→aY (fun t σ'=>σ'=σ∧∃s',t=bf s'∧dep s'≤dep s∧Gm s'∧(aq s').length≤2)
   (f7 (p2 rQ (p1 aI (am 22 (aa (pV 0) ah))) (pV 1)) (ae (aw 0 (p2 aj (pV 0) (p1 kG (pC (.int 1))))) af) ⟨ai Ψ (n+11)⟩ N [some (bf s'),some (.int 2)] σ fun ρ σ=>ae (au (pV 0)) af ⟨ai Ψ (n+11)⟩ ρ σ (kE 23)):=fun N=>by
  induction N with
  |zero=>intro s' h;cases h
  |succ N ih=>
   intro s' h hs g
   have L:=Dr (σ:=σ) (n:=n+9) (s:=s') (Nat.le_trans (Nat.le_trans hs h8) (by lia)) (Nat.le_trans hs h8)
   rw [lh]
   refine ig L (aB rfl (aB rfl (aB rfl (eu (fun q=>?_) fun q=>?_))))
   ·have q:2 < (lb s').length:=by have:=of_decide_eq_true q;rw [List.length_map] at this;lia
    obtain ⟨p,hp,e⟩:=uO (Nat.lt_trans (by decide) q)
    have d:=c7 hp
    exact dE e (ih p (by lia) (by lia) fun x hx=>g x (nh hp hx))
   ·have q:(lb s').length≤2:=by have:=of_decide_eq_false q;rw [List.length_map] at this;lia
    exact ck ⟨rfl,s',rfl,hs,g,BQ s'▸q⟩
 exact r8 (lp 40 s (by lia) (Nat.le_refl _) hg)
end
section
variable {M N:Mc} {f:Nat→Nat} {s:Sy} {p:Nat→Nat}
structure uf (M N:Mc) (f:Nat→Nat):Prop where
 fst:∀p∈M.firsts,f p∈N.firsts
 nxt:∀p,p < M.names.length→∀q∈M.road p,f q∈N.road (f p)
 mrk:∀p,p < M.names.length→N.mark (f p)=M.mark p
theorem EL.lt (O:M.Ok)(R:EL M p)(i:Nat):p i < M.names.length:=by
 induction i with
 |zero=>exact O.firsts.lt _ R.fst
 |succ i ih=>exact (cj O ih).lt _ (R.nxt i)
theorem uf.no (H:uf M N f)(O:M.Ok){K P R:List Kn}(B:CO M s K P R)(kp:Av N s):False:=by
 obtain ⟨p,r,_,h⟩:=t8 B
 have:=wV kp (p:=fun i=>f (p i)) ⟨H.fst _ r.fst,fun i=>H.nxt _ (r.lt O i) _ (r.nxt i)⟩
 rw [show (fun i=>N.mark (f (p i)))=fun i=>M.mark (p i) from funext fun i=>H.mrk _ (r.lt O i)] at this
 exact h this
theorem kQ.map {n m:Nat}{r:List Nat}(R:kQ n r){f:Nat→Nat}(inj:∀p,p < n→∀q,q < n→f p=f q→p=q)(lt:∀p,p < n→f p < m):kQ m (r.map f):=
 ⟨fun q=>R.ne (List.map_eq_nil_iff.mp q),List.pairwise_map.mpr (List.Pairwise.imp_of_mem (fun {a b} ha hb q e=>q (inj a (R.lt a ha) b (R.lt b hb) e)) R.nd),fun p hp=>let ⟨q,h1,h2⟩:=List.mem_map.mp hp;h2▸lt q (R.lt q h1)⟩
end
section
variable {M:Mc} {b:Int}
theorem jB {b:Int}{m p:Nat}(hp:p < m):vl b m (vl (-b) m p)=p:=by
 have hm:(0:Int) < m:=Int.ofNat_lt.mpr (Nat.lt_of_le_of_lt (Nat.zero_le _) hp)
 unfold vl
 rw [Int.fmod_eq_emod_of_nonneg _ (Int.le_of_lt hm),Int.fmod_eq_emod_of_nonneg _ (Int.le_of_lt hm),Int.toNat_of_nonneg (Int.emod_nonneg _ (Int.ne_of_gt hm)),Int.add_emod_emod,Int.add_neg_cancel_left,Int.emod_eq_of_lt (Int.natCast_nonneg p) (Int.ofNat_lt.mpr hp)]
 rfl
noncomputable def Mc.turn (M:Mc)(b:Int):Mc:=⟨(List.range M.names.length).map fun k=>M.mark (vl b M.names.length k),(List.range M.names.length).map fun k=>(M.road (vl b M.names.length k)).map (vl (-b) M.names.length),M.firsts.map (vl (-b) M.names.length)⟩
theorem dQ:(M.turn b).names.length=M.names.length:=by show (List.map _ _).length=_;rw [List.length_map,List.length_range]
theorem kR {α:Type}{f:Nat→α}{d:α}{n p:Nat}(h:p < n):(((List.range n).map f)[p]?).getD d=f p:=by rw [List.getElem?_map,List.getElem?_range h];rfl
theorem yF (O:M.Ok)(b:Int):(M.turn b).Ok:=by
 have mp:0 < M.names.length:=O.pos
 have rw':∀r,kQ M.names.length r→kQ M.names.length (r.map (vl (-b) M.names.length)):=fun r R=>R.map (fun p hp q hq e=>by rw [←jB (b:=b) hp,←jB (b:=b) hq,e]) fun p _=>gc mp
 refine ⟨dQ (M:=M)▸O.pos,dQ (M:=M)▸O.few,fun x hx=>?_,?_,fun r hr=>?_,?_⟩
 ·obtain ⟨k,_,rfl⟩:=List.mem_map.mp hx
  exact O.marks _ (List.mem_of_getElem? (fU (gc mp)))
 ·show (List.map _ _).length=_;rw [dQ,List.length_map,List.length_range]
 ·obtain ⟨k,_,rfl⟩:=List.mem_map.mp hr
  rw [dQ];exact rw' _ (cj O (gc mp))
 ·rw [dQ];exact rw' _ O.firsts
theorem yE (O:M.Ok)(b:Int):uf M (M.turn b) (vl (-b) M.names.length):=
 ⟨fun p hp=>List.mem_map_of_mem hp,fun p hp q hq=>by
  unfold Mc.road Mc.turn
  rw [kR (gc O.pos),jB hp];exact List.mem_map_of_mem hq,fun p hp=>by
  show (((List.range M.names.length).map _)[_]?).getD _=_
  rw [kR (gc O.pos),jB hp]⟩
theorem yG (O:M.Ok)(b:Int):uf (M.turn b) M (vl b M.names.length):=
 ⟨fun p hp=>by obtain ⟨q,h,rfl⟩:=List.mem_map.mp hp;rw [jB (O.firsts.lt q h)];exact h,fun p hp q hq=>by
  rw [dQ] at hp
  have hq:q∈(((List.range M.names.length).map fun k=>(M.road (vl b M.names.length k)).map (vl (-b) M.names.length))[p]?).getD []:=hq
  rw [kR hp] at hq
  obtain ⟨u,h,rfl⟩:=List.mem_map.mp hq
  rw [jB ((cj O (gc O.pos)).lt u h)];exact h,fun p hp=>by
  rw [dQ] at hp
  exact (kR (f:=fun k=>M.mark (vl b M.names.length k)) hp).symm⟩
noncomputable def jl (m a:Nat)(r:List Nat):List Nat:=r++List.replicate (if a∈r then 1 else 0) m
theorem je {m a p:Nat}{r:List Nat}:p∈jl m a r↔p∈r∨(p=m∧a∈r):=by
 unfold jl
 rw [List.mem_append,List.mem_replicate]
 by_cases h:a∈r
 ·rw [if_pos h];exact or_congr_right ⟨fun q=>⟨q.2,h⟩,fun q=>⟨Nat.one_ne_zero,q.1⟩⟩
 ·rw [if_neg h];exact or_congr_right ⟨fun q=>absurd rfl q.1,fun q=>absurd q.2 h⟩
noncomputable def Mc.dbl (M:Mc)(a:Nat):Mc:=⟨M.names++[M.mark a],M.roads.map (jl M.names.length a)++[jl M.names.length a (M.road a)],jl M.names.length a M.firsts⟩
theorem fN {a:Nat}:(M.dbl a).names.length=M.names.length+1:=List.length_append
theorem mz {m a:Nat}{r:List Nat}(R:kQ m r):kQ (m+1) (jl m a r):=
 ⟨fun q=>R.ne (List.append_eq_nil_iff.mp q).1,by
  refine List.nodup_append.mpr ⟨R.nd,?_,fun p hp q hq e=>?_⟩
  ·by_cases h:a∈r
   ·rw [if_pos h];exact List.pairwise_singleton _ _
   ·rw [if_neg h];exact .nil
  ·rw [List.eq_of_mem_replicate hq] at e;exact Nat.lt_irrefl _ (e▸R.lt p hp),fun p hp=>(je.mp hp).elim (fun h=>Nat.lt_succ_of_lt (R.lt p h)) fun h=>h.1▸Nat.lt_succ_self _⟩
theorem Ch (O:M.Ok)(h7:M.names.length≤7){a:Nat}(ha:a < M.names.length):(M.dbl a).Ok:=by
 refine ⟨fN (M:=M)▸Nat.succ_le_succ (Nat.zero_le _),fN (M:=M)▸Nat.succ_le_succ h7,fun x hx=>?_,?_,fun r hr=>?_,?_⟩
 ·exact (List.mem_append.mp hx).elim (O.marks x) fun h=>by cases List.mem_singleton.mp h;exact O.marks _ (List.mem_of_getElem? (fU ha))
 ·show List.length (_++_)=_;rw [fN,List.length_append,List.length_map,O.len];rfl
 ·rw [fN]
  rcases List.mem_append.mp hr with h |h
  ·obtain ⟨u,h',rfl⟩:=List.mem_map.mp h;exact mz (O.rows u h')
  ·cases List.mem_singleton.mp h;exact mz (cj O ha)
 ·rw [fN];exact mz O.firsts
theorem qU (O:M.Ok){a p:Nat}(hp:p < M.names.length):(M.dbl a).road p=jl M.names.length a (M.road p):=by
 unfold Mc.road Mc.dbl
 rw [List.getElem?_append_left (by rw [List.length_map,O.len];exact hp),List.getElem?_map,List.getElem?_eq_getElem (O.len▸hp)];rfl
theorem qV {a p:Nat}(hp:p < M.names.length):(M.dbl a).mark p=M.mark p:=by
 unfold Mc.mark Mc.dbl
 rw [List.getElem?_append_left hp]
theorem Cg (O:M.Ok)(a:Nat):uf M (M.dbl a) id:=
 ⟨fun p hp=>je.mpr (.inl hp),fun p hp q hq=>by show q∈(M.dbl a).road p;rw [qU O hp];exact je.mpr (.inl hq),fun p hp=>qV hp⟩
theorem Cj (O:M.Ok){a:Nat}(ha:a < M.names.length):uf (M.dbl a) M (fun p=>if p=M.names.length then a else p):=by
 have in':∀{r:List Nat} {q:Nat},kQ M.names.length r→q∈jl M.names.length a r→(if q=M.names.length then a else q)∈r:=fun {r q} R h=>by
  rcases je.mp h with h' | ⟨e,h'⟩
  ·rw [if_neg (Nat.ne_of_lt (R.lt q h'))];exact h'
  ·rw [if_pos e];exact h'
 have e1:(M.dbl a).road M.names.length=jl M.names.length a (M.road a):=by
  unfold Mc.road Mc.dbl
  rw [List.getElem?_append_right (by rw [List.length_map,O.len];exact Nat.le_refl _),List.length_map,O.len,Nat.sub_self];rfl
 have e2:(M.dbl a).mark M.names.length=M.mark a:=by
  show ((M.names++[M.mark a])[_]?).getD _=_
  rw [List.getElem?_append_right (Nat.le_refl _),Nat.sub_self];rfl
 refine ⟨fun p hp=>in' O.firsts hp,fun p hp q hq=>?_,fun p hp=>?_⟩
 ·show _∈M.road (if p=M.names.length then a else p)
  by_cases h:p=M.names.length
  ·rw [if_pos h];rw [h,e1] at hq;exact in' (cj O ha) hq
  ·rw [fN] at hp
   have hp:p < M.names.length:=Nat.lt_of_le_of_ne (Nat.le_of_lt_succ hp) h
   rw [if_neg h];rw [qU O hp] at hq;exact in' (cj O hp) hq
 ·show M.mark (if p=M.names.length then a else p)=_
  by_cases h:p=M.names.length
  ·rw [if_pos h,h,e2]
  ·rw [fN] at hp
   rw [if_neg h,qV (Nat.lt_of_le_of_ne (Nat.le_of_lt_succ hp) h)]
end
theorem vU {Q:T→Sg→Prop}{o o':cc}(h:o=o')(h2:aY Q o'):aY Q o:=by rw [h];exact h2
section
variable {σ:Sg} {M:Mc}
theorem gY:aI (.lst (M.names.map .str))=some (nT M.names.length):=by show some (T.int _)=_;rw [List.length_map]
theorem GM {l:List T}{a b r:cc}(hl:Nat.ble l.length 100=true)(h:a=r):(bif bS l.length then a else b)=r:=by
 rw [show bS l.length=true from Nat.ble_eq_true_of_le (Nat.le_trans (Nat.le_of_ble_eq_true hl) (by decide))];exact h
noncomputable abbrev tF (M:Mc)(b:Int)(a6 a7:Option T):aH:=[some (.tup M.fs),some (.int b),some (.lst (M.names.map .str)),some (.lst (M.roads.map aA)),some (aA M.firsts),some (nT M.names.length),a6,a7,none,none,none,none]
noncomputable def Et:PS:=aw 6 (ax (bG (aa (pV 5) ah)) (aM 8) av (p2 aj (pV 2) (p2 aV (p2 aC (pV 8) (pV 1)) (pV 5))))
noncomputable def Es:PS:=aw 7 (ax (bG (aa (pV 5) ah)) (aM 9) av (ax (aL (p2 aj (pV 3) (p2 aV (p2 aC (pV 9) (pV 1)) (pV 5)))) (aM 10) av (p2 aV (p2 cA (pV 10) (pV 1)) (pV 5))))
noncomputable def Er:PS:=au (az (aa (pV 6) (aa (pV 7) (aa (ax (aL (pV 4)) (aM 11) av (p2 aV (p2 cA (pV 11) (pV 1)) (pV 5))) ah))))
theorem CY:cG=ae (ew [2,3,4] (pV 0)) (ae (aw 5 (p1 aI (pV 2))) (ae Et (ae Es (ae Er af)))):=rfl
section
variable {b:Int} {c:dw} {κ:PK aH}
theorem CV (O:M.Ok):r5 [nT M.names.length]=some ((List.range M.names.length).map nT):=eH (Nat.le_trans O.few (by decide))
theorem CT (O:M.Ok)(k:Nat):aV (.int ((k:Int)+b)) (nT M.names.length)=some (nT (vl b M.names.length k)):=by rw [Int.add_comm];exact oA O.pos
theorem Fb (O:M.Ok)(p:Nat):aV (.int ((p:Int) - b)) (nT M.names.length)=some (nT (vl (-b) M.names.length p)):=by rw [Int.sub_eq_add_neg,Int.add_comm];exact oA O.pos
theorem CU (O:M.Ok){i:Nat}{ρ:aH}(h1:∀t,bC (ρ.set i (some t)) i=some t)(h2:∀t,bC (ρ.set i (some t)) 1=some (.int b))(h3:∀t,bC (ρ.set i (some t)) 5=some (nT M.names.length))(l:List Nat){κ:PK (List T)}:aX (aM i) av (p2 aV (p2 cA (pV i) (pV 1)) (pV 5)) c ρ (l.map nT) σ [] κ=κ ((l.map (vl (-b) M.names.length)).map nT) σ:=by
 refine aJ (e:=nT) (fun p=>nT (vl (-b) M.names.length p)) (fun p _=>⟨_,rfl,fun κ=>ab (h1 _) (ab (h2 _) (ab (sub_int _ _) (ab (h3 _) (ab (Fb O p) rfl))))⟩) ?_
 rw [List.map_map];rfl
theorem Ff (O:M.Ok):Et c (tF M b none none) σ κ=κ (tF M b (some (.lst ((M.turn b).names.map .str))) none) σ:=by
 unfold Et
 refine ab rfl (ab (CV O) (aJ (e:=nT) (fun k=>.str (M.mark (vl b M.names.length k))) (fun k _=>⟨_,rfl,fun κ=>ab rfl (ab rfl (ab rfl (ab (add_int _ _) (ab rfl (ab (CT O k) (ab (ba (e:=T.str) (a:=M.mark _) (fU (gc O.pos)) (O.lim (gc O.pos))) rfl))))))⟩) ?_))
 rw [show (M.turn b).names.map T.str=_ from List.map_map];rfl
theorem Fe (O:M.Ok){a6:Option T}:Es c (tF M b a6 none) σ κ=κ (tF M b a6 (some (.lst ((M.turn b).roads.map aA)))) σ:=by
 unfold Es
 refine ab rfl (ab (CV O) (aJ (e:=nT) (fun k=>aA ((M.road (vl b M.names.length k)).map (vl (-b) M.names.length))) (fun k _=>⟨_,rfl,fun κ=>ab rfl (ab rfl (ab rfl (ab (add_int _ _) (ab rfl (ab (CT O k) (ab (ba (e:=aA) (a:=M.road _) (fU (by rw [O.len];exact gc O.pos)) (O.lim (gc O.pos))) (ab rfl
  (CU O (fun _=>rfl) (fun _=>rfl) (fun _=>rfl) _))))))))⟩) ?_))
 rw [show (M.turn b).roads.map aA=_ from List.map_map];rfl
theorem Fc:cG c [some (.tup M.fs),some (.int b),none,none,none,none,none,none,none,none,none,none] σ κ=up (aI (.lst (M.names.map .str))) σ fun l σ=>ae Et (ae Es Er) c [some (.tup M.fs),some (.int b),some (.lst (M.names.map .str)),some (.lst (M.roads.map aA)),some (aA M.firsts),some l,none,none,none,none,none,none] σ κ:=by rw [CY];kernel_rfl
theorem Fd (O:M.Ok){x y:T}:Er c (tF M b (some x) (some y)) σ κ=.ret (.tup [x,y,aA (M.turn b).firsts]) σ:=by
 have e:Er c (tF M b (some x) (some y)) σ κ=aX (aM 11) av (p2 aV (p2 cA (pV 11) (pV 1)) (pV 5)) c (tF M b (some x) (some y)) (M.firsts.map nT) σ [] fun ys σ=>.ret (.tup [x,y,.lst ys]) σ:=by kernel_rfl
 exact e.trans (CU O (fun _=>rfl) (fun _=>rfl) (fun _=>rfl) M.firsts)
theorem uo (O:M.Ok)(b:Int)(n:Nat):ai Ψ (n+1) 64 [.tup M.fs,.int b] σ=.ret (.tup (M.turn b).fs) σ:=
 nO (Fc.trans (ab gY ((Ff O).trans ((Fe O).trans (Fd O)))))
end
theorem vW {m a:Nat}{r:List Nat}{b:Bool}(hb:b=decide (a∈r)):fw (.lst [nT m]) (.int (if b then 1 else 0))=some (.lst ((List.replicate (if a∈r then 1 else 0) m).map nT)):=by
 cases b with
 |true=>rw [if_pos (of_decide_eq_true hb.symm)];kernel_rfl
 |false=>rw [if_neg (of_decide_eq_false hb.symm)];kernel_rfl
theorem tW {m a:Nat}{r:List Nat}(hr:r.length≤1000):aC (aA r) (.lst ((List.replicate (if a∈r then 1 else 0) m).map nT))=some (aA (jl m a r)):=
 cf (e:=nT) (Nat.le_trans (Nat.add_le_add hr (by rw [List.length_replicate];by_cases h:a∈r<;>simp only [h,if_pos,if_neg]<;>decide:_≤1)) (by decide))
theorem yP {n:Nat}{r:List Nat}(R:kQ n r):r.length≤n:=by
 have:=aS (m:=List.range n) R.nd fun p hp=>List.mem_range.mpr (R.lt p hp)
 rw [List.length_range] at this;exact this
noncomputable def Gj:PE:=p2 aC (pV 7) (p2 fw (aW (aa (pV 5) ah)) (p1 ma (pB (p2 fT (pV 1) (pV 7)))))
noncomputable def Gg:PS:=ae (f6 6 df (p1 eZ (p2 aj (pV 6) (pV 1))))
  (ae (au (az (aa (p2 aC (pV 2) (aW (aa (p2 aj (pV 2) (pV 1)) ah))) (aa (pV 6) (aa (p2 aC (pV 4) (p2 fw (aW (aa (pV 5) ah)) (p1 ma (pB (p2 fT (pV 1) (pV 4)))))) ah)))))
  af)
theorem DN:cr=ae (ew [2,3,4] (pV 0)) (ae (aw 5 (p1 aI (pV 2))) (ae (aw 6 (ax (aL (pV 3)) (aM 7) av Gj)) Gg)):=rfl
noncomputable abbrev dF (M:Mc)(a m:Nat)(a6 a7:Option T):aH:=[some (.tup M.fs),some (nT a),some (.lst (M.names.map .str)),some (.lst (M.roads.map aA)),some (aA M.firsts),some (nT m),a6,a7]
section
variable {a m:Nat} {c:dw}
theorem Gf {κ:PK aH}:cr c [some (.tup M.fs),some (nT a),none,none,none,none,none,none] σ κ=up (aI (.lst (M.names.map .str))) σ fun l σ=>aX (aM 7) av Gj c ([some (.tup M.fs),some (nT a),some (.lst (M.names.map .str)),some (.lst (M.roads.map aA)),some (aA M.firsts),some l,none,none]) (M.roads.map aA) σ [] fun ys σ=>Gg c ([some (.tup M.fs),some (nT a),some (.lst (M.names.map .str)),some (.lst (M.roads.map aA)),some (aA M.firsts),some l,some (.lst ys),none]) σ κ:=by rw [DN];kernel_rfl
theorem Ge {κ:PK T}{x:T}{a6:Option T}:Gj c (dF M a m a6 (some x)) σ κ=up (fT (nT a) x) σ fun b σ=>up (fw (.lst [nT m]) (.int (if b then 1 else 0))) σ fun v σ=>up (aC x v) σ κ:=by kernel_rfl
theorem Gd {κ:PK aH}{L:List T}:Gg c (dF M a m (some (.lst L)) none) σ κ=up (aj (.lst L) (nT a)) σ fun x σ=>up (eZ x) σ fun v σ=>up (df (.lst L) v) σ fun r σ=>up (aj (.lst (M.names.map .str)) (nT a)) σ fun x σ=>up (aC (.lst (M.names.map .str)) (.lst [x])) σ fun y σ=>up (fT (nT a) (aA M.firsts)) σ fun b σ=>up (fw (.lst [nT m]) (.int (if b then 1 else 0))) σ fun v σ=>up (aC (aA M.firsts) v) σ fun f σ=>.ret (.tup [y,r,f]) σ:=by kernel_rfl
end
theorem sK (O:M.Ok){a:Nat}(ha:a < M.names.length)(n:Nat):ai Ψ (n+1) 65 [.tup M.fs,nT a] σ=.ret (.tup (M.dbl a).fs) σ:=by
 have l8:∀{r:List Nat},kQ M.names.length r→r.length≤1000:=fun R=>Nat.le_trans (yP R) (Nat.le_trans O.few (by decide))
 have mi:∀r:List Nat,fT (nT a) (aA r)=some (decide (a∈r)):=fun r=>g8.mem (by decide) trivial (fun _ _=>trivial) rfl
 refine m4 (Gf.trans (ab gY (aJ (e:=aA) (fun r=>aA (jl M.names.length a r)) (fun r hr=>⟨_,rfl,fun κ=>Ge.trans (ab (mi r) (ab (vW rfl) (ab (tW (l8 (O.rows r hr))) rfl)))⟩) (Gd.trans ?_))))
 refine ab (ba (e:=fun r=>aA (jl M.names.length a r)) (a:=M.road a) (fU (by rw [O.len];exact ha)) (O.lim ha)) (ab rfl (ab (cD (e:=fun r=>aA (jl M.names.length a r)) (M.road a) (Nat.lt_of_le_of_lt (by rw [O.len];exact O.few) (by decide))) (ab (ba (e:=T.str) (a:=M.mark a) (fU ha) (O.lim ha)) (ab (cf (e:=T.str) (q:=[M.mark a]) (Nat.le_trans (Nat.add_le_add_right O.few 1) (by decide))) (ab (mi M.firsts) (ab (vW rfl) (ab (tW (l8 O.firsts)) ?_)))))))
 show cc.ret (.tup _) σ=.ret (.tup [.lst _,.lst _,.lst _]) σ
 unfold Mc.dbl
 rw [List.map_append,List.map_append (l₁:=M.roads.map _),List.map_map (f:=jl M.names.length a),List.map_append (l₁:=M.roads)];rfl
structure nP (N M:Mc):Prop where
 ok:N.Ok
 nm:N.names=M.names
 fst:∀p∈N.firsts,p∈M.firsts
 nxt:∀p,∀q∈N.road p,q∈M.road p
theorem nP.hom {N M:Mc}(L:nP N M):uf N M id:=⟨L.fst,fun p _=>L.nxt p,fun p _=>by unfold Mc.mark;rw [L.nm];rfl⟩
theorem F6 (a c:Nat):rQ (.int a) (.int c)=some (decide ((a:Int) > c)):=rfl
noncomputable def CF:PS:=ae (bn (p2 rQ (p1 aI (p2 aj (pV 3) (pV 5))) (pC (.int 1)))
  (ae (au (az (aa (pV 2) (aa (p2 aC (p2 aC (p3 bi (pV 3) fS (p1 bN (pV 5))) (aW (aa (p3 bi (p2 aj (pV 3) (pV 5)) (p1 bN (pC (.int 1))) fS) ah))) (p3 bi (pV 3) (p1 bN (p2 aC (pV 5) (pC (.int 1)))) fS)) (aa (pV 4) ah)))))
  af)
  af)
  (ae (au (pV 0))
  af)
noncomputable abbrev sF (M:Mc)(c:Int)(a5:Option T):aH:=[some (.tup M.fs),some (.int c),some (.lst (M.names.map .str)),some (.lst (M.roads.map aA)),some (aA M.firsts),a5]
theorem BL {c:dw}{z:Int}{a:Nat}{κ:PK aH}{x:T}(h:aj (.lst (M.roads.map aA)) (nT a)=some x):CF c (sF M z (some (nT a))) σ κ=up (aI x) σ fun l σ=>up (rQ l (.int 1)) σ fun q σ=>bif q then (up (bi (.lst (M.roads.map aA)) none (some (a:Int))) σ fun p σ=>up (bi x (some 1) none) σ fun y σ=>up (aC p (.lst [y])) σ fun u σ=>up (bi (.lst (M.roads.map aA)) (some ((a+1:Nat):Int)) none) σ fun v σ=>up (aC u v) σ fun r σ=>.ret (.tup [.lst (M.names.map .str),r,aA M.firsts]) σ) else .ret (.tup M.fs) σ:=by
 have e:CF c (sF M z (some (nT a))) σ κ=up (aj (.lst (M.roads.map aA)) (nT a)) σ fun x σ=>up (aI x) σ fun l σ=>up (rQ l (.int 1)) σ fun q σ=>bif q then (up (bi (.lst (M.roads.map aA)) none (some (a:Int))) σ fun p σ=>up (aj (.lst (M.roads.map aA)) (nT a)) σ fun x σ=>up (bi x (some 1) none) σ fun y σ=>up (aC p (.lst [y])) σ fun u σ=>up (bi (.lst (M.roads.map aA)) (some ((a+1:Nat):Int)) none) σ fun v σ=>up (aC u v) σ fun r σ=>.ret (.tup [.lst (M.names.map .str),r,aA M.firsts]) σ) else .ret (.tup M.fs) σ:=by kernel_rfl
 rw [e,h];rfl
theorem qD {n:Nat}{r q:List Nat}(R:kQ n r)(ne:q≠[])(h:q.Sublist r):kQ n q:=⟨ne,R.nd.sublist h,fun p hp=>R.lt p (h.subset hp)⟩
theorem wD (O:M.Ok){a:Nat}(al:a < M.roads.length)(h2:1 < (M.road a).length):nP ⟨M.names,M.roads.set a ((M.road a).drop 1),M.firsts⟩ M:=by
 have Rd:kQ M.names.length ((M.road a).drop 1):=qD (cj O (O.len▸al)) (fun q=>by have:=congrArg List.length q;rw [List.length_drop] at this;exact absurd (Nat.sub_eq_zero_iff_le.mp this) (Nat.not_le.mpr h2)) (List.drop_sublist _ _)
 refine ⟨⟨O.pos,O.few,O.marks,(List.length_set ..).trans O.len,fun r hr=>(List.mem_or_eq_of_mem_set hr).elim (O.rows r) fun e=>e▸Rd,O.firsts⟩,rfl,fun _ h=>h,fun p q hq=>?_⟩
 have hq:q∈((M.roads.set a ((M.road a).drop 1))[p]?).getD []:=hq
 by_cases e:a=p
 ·rw [←e,List.getElem?_set_self al] at hq;rw [←e];exact List.mem_of_mem_drop hq
 ·rw [List.getElem?_set_ne e] at hq;exact hq
theorem wE (O:M.Ok){a:Nat}(al:a < M.names.length){c:dw}{z:Int}{κ:PK aH}:aY (fun t σ'=>σ'=σ∧∃N:Mc,t=.tup N.fs∧nP N M) (CF c (sF M z (some (nT a))) σ κ):=by
 have al':a < M.roads.length:=O.len▸al
 have lm:M.roads.length≤8:=O.len▸O.few
 have lt:(M.roads.take a).length≤8:=Nat.le_trans (List.length_take_le' ..) lm
 refine vU (BL (ba (e:=aA) (a:=M.road a) (fU al') (O.lim al))) (aB rfl (aB rfl (eu (fun h=>?_) fun _=>ck ⟨rfl,M,rfl,O,rfl,fun _ h=>h,fun _ _ h=>h⟩)))
 have h2:1 < (M.road a).length:=by have:=of_decide_eq_true h;rw [List.length_map] at this;exact Int.ofNat_lt.mp this
 refine aB (cL (e:=aA) (fO a M.roads)) (aB (cL (e:=nT) (mD (M.road a))) (aB (cf (e:=aA) (l:=M.roads.take a) (q:=[(M.road a).drop 1]) (Nat.le_trans (Nat.add_le_add_right lt 1) (by decide))) (aB (cL (e:=aA) (sL (b:=a+1) al')) (aB (cf (e:=aA) (q:=M.roads.drop (a+1)) ?_) (ck ⟨rfl,_,?_,wD O al' h2⟩)))))
 ·rw [List.length_append];exact Nat.le_trans (Nat.add_le_add (Nat.add_le_add_right lt 1) (Nat.le_trans (by rw [List.length_drop];exact Nat.sub_le _ _) lm)) (by decide)
 ·rw [List.set_eq_take_append_cons_drop,if_pos al',List.append_assoc];rfl
theorem Dp:dt=ae (ew [2,3,4] (pV 0)) (ae (aw 5 (p2 aV (p2 cb (pV 1) (pC (.int 2))) (p1 aI (pV 2)))) (ae (bn (ib (p2 bD (p2 aV (pV 1) (pC (.int 2))) (pC (.int 0))) (ib (p2 rQ (p1 aI (pV 4)) (pC (.int 1))) av)) (ae (au (az (aa (pV 2) (aa (pV 3) (aa (p3 bi (pV 4) fS (p1 bN (pC (.int 1)))) ah))))) af) af) CF)):=rfl
theorem zl {c:dw}{z:Int}{κ:PK aH}:dt c [some (.tup M.fs),some (.int z),none,none,none,none] σ κ=up (cb (.int z) (.int 2)) σ fun y σ=>up (aI (.lst (M.names.map .str))) σ fun l σ=>up (aV y l) σ fun a σ=>up (aV (.int z) (.int 2)) σ fun m σ=>up (bD m (.int 0)) σ fun q σ=>bif q then (up (rQ (.int ((M.firsts.map nT).length:Nat)) (.int 1)) σ fun q σ=>bif q then up (bi (aA M.firsts) none (some 1)) σ fun v σ=>.ret (.tup [.lst (M.names.map .str),.lst (M.roads.map aA),v]) σ else CF c (sF M z (some a)) σ κ) else CF c (sF M z (some a)) σ κ:=by rw [Dp];kernel_rfl
theorem zt (O:M.Ok)(c:Int)(n:Nat):aY (fun t σ'=>σ'=σ∧∃N:Mc,t=.tup N.fs∧nP N M) (ai Ψ (n+1) 66 [.tup M.fs,.int c] σ):=by
 obtain ⟨a,ha,al⟩:=eC (c.fdiv (2:Nat)) (n:=M.names.length) O.pos
 refine qs (vU zl (aB (bK c (k:=2) rfl) (aB gY (aB ha (aB (cC c (k:=2) (by decide)) (aB (d6 _ _) (eu (fun _=>aB rfl (eu (fun _=>?_) fun _=>wE O al)) fun _=>wE O al)))))))
 refine aB (cL (e:=nT) (fO 1 M.firsts)) (ck ⟨rfl,⟨M.names,M.roads,M.firsts.take 1⟩,rfl,⟨O.pos,O.few,O.marks,O.len,O.rows,qD O.firsts (fun q=>(List.take_eq_nil_iff.mp q).elim (fun e=>nomatch e) O.firsts.ne) (List.take_sublist _ _)⟩,rfl,fun p hp=>List.mem_of_mem_take hp,fun _ _ h=>h⟩)
end
end
end Mine.L10
section
set_option maxRecDepth 100000
namespace Mine.L10
noncomputable section
open PySem Ltl
section
variable {σ:Sg}
noncomputable def O8 (a b:Str):List Sy:=[.again (.mark a),.not (.again (.mark a)),.always (.or (.not (.mark a)) (.till .yes (.mark b))),.not (.always (.till .yes (.mark b))),.not (.always (.or (.not (.mark a)) (.till .yes (.mark b)))),.or (.again (.mark a)) (.next (.mark b)),.not (.and (.again (.mark a)) (.mark b)),.not (.till (.not (.mark a)) (.mark b))]
theorem tR {x:Str}(N:Nm x):Gm (.mark x):=fun z h=>by cases List.mem_singleton.mp h;exact ⟨N.m,N.ne⟩
theorem xi:Gm .yes:=fun z h=>nomatch List.mem_singleton.mp h
noncomputable def nb:Sy→Nat
 |.mark _=>0
 |.yes=>0
 |.not a=>nb a
 |.and a c=>nb a+nb c
 |.or a c=>nb a+nb c
 |.next a=>nb a+1
 |.till a c=>nb a+nb c+1
 |.always a=>nb a+1
 |.again a=>nb a+2
theorem xP:∀s:Sy,(aq s).length≤nb s:=by
 have e:∀{f xs:List Sy} {m n:Nat},f.length≤m→xs.length≤n→(ext f xs).length≤m+n:=fun h1 h2=>Nat.le_trans (eE _ _) (Nat.add_le_add h1 h2)
 have z:∀{xs:List Sy} {n:Nat},xs.length≤n→(ext [] xs).length≤n:=fun {xs n} h=>Nat.zero_add n▸e (f:=[]) (Nat.le_refl 0) h
 intro s
 induction s with
 |mark x=>exact Nat.le_refl 0
 |yes=>exact Nat.le_refl 0
 |not a ih=>exact e (n:=0) (z ih) (Nat.le_refl _)
 |and a c ih ih'=>exact e (n:=0) (e (z ih) ih') (Nat.le_refl _)
 |or a c ih ih'=>exact e (n:=0) (e (z ih) ih') (Nat.le_refl _)
 |next a ih=>exact e (z ih) (Nat.le_refl 1)
 |till a c ih ih'=>exact e (e (z ih) ih') (Nat.le_refl 1)
 |always a ih=>exact e (z ih) (Nat.le_refl 1)
 |again a ih=>exact e (z ih) (Nat.le_refl 2)
theorem Ei {a b:Str}(A:Nm a)(B:Nm b):∀q∈O8 a b,Gs q:=by
 have ga:=tR A
 have gb:=tR B
 have g1:=qa.gm ga
 have g2:=xS.gm (fk.gm ga) (jo.gm xi gb)
 have ok:∀{q:Sy},Nat.ble (dep q) 5=true→Nat.ble (nb q) 4=true→Gm q→Gs q:=fun h1 h2 g=>⟨Nat.le_of_ble_eq_true h1,Nat.le_trans (xP _) (Nat.le_of_ble_eq_true h2),g⟩
 exact List.forall_mem_cons.mpr ⟨ok rfl rfl g1,List.forall_mem_cons.mpr ⟨ok rfl rfl (fk.gm g1),List.forall_mem_cons.mpr ⟨ok rfl rfl (eW.gm g2),List.forall_mem_cons.mpr ⟨ok rfl rfl (fk.gm (eW.gm (jo.gm xi gb))),
  List.forall_mem_cons.mpr ⟨ok rfl rfl (fk.gm (eW.gm g2)),List.forall_mem_cons.mpr ⟨ok rfl rfl (xS.gm g1 (oE.gm gb)),List.forall_mem_cons.mpr ⟨ok rfl rfl (fk.gm (xT.gm g1 gb)),List.forall_mem_cons.mpr ⟨ok rfl rfl (fk.gm (jo.gm (fk.gm ga) gb)),fun _ h=>nomatch h⟩⟩⟩⟩⟩⟩⟩⟩
theorem AL {x y z:Str}(N:Ar x y z){i:Nat}(h:i < 3):∃a,aj (kC x y z) (nT i)=some (.str a)∧Nm a:=by
 match i,h with
 | 0,_=>exact ⟨x,rfl,N.a⟩
 | 1,_=>exact ⟨y,rfl,N.b⟩
 | 2,_=>exact ⟨z,rfl,N.c⟩
noncomputable def Bz:PS:=aw 2 (az (aa (pC (.str (ofString "mark"))) (aa (p2 aj (pV 1) (p2 aV (p2 cb (pV 0) (pC (.int 8))) (pC (.int 3)))) ah)))
noncomputable def By:PS:=aw 3 (az (aa (pC (.str (ofString "mark"))) (aa (p2 aj (pV 1) (p2 aV (p2 aC (p2 aC (p2 cb (pV 0) (pC (.int 8))) (pC (.int 1))) (p2 aV (p2 cb (pV 0) (pC (.int 24))) (pC (.int 2)))) (pC (.int 3)))) ah)))
noncomputable def Dl:PS:=(ae (aw 4 (az (aa (pC (.str (ofString "till"))) (aa (az (aa (pC (.str (ofString "yes"))) ah)) (aa (pV 3) ah)))))
  (ae (aw 5 (aW (aa (az (aa (pC (.str (ofString "again"))) (aa (pV 2) ah))) (aa (az (aa (pC (.str (ofString "not"))) (aa (az (aa (pC (.str (ofString "again"))) (aa (pV 2) ah))) ah))) (aa (az (aa (pC (.str (ofString "always"))) (aa (az (aa (pC (.str (ofString "or"))) (aa (az (aa (pC (.str (ofString "not"))) (aa (pV 2) ah))) (aa (pV 4) ah)))) ah))) (aa (az (aa (pC (.str (ofString "not"))) (aa (az (aa (pC (.str (ofString "always"))) (aa (pV 4) ah))) ah))) ah))))))
  (ae (aw 5 (p2 aC (pV 5) (aW (aa (az (aa (pC (.str (ofString "not"))) (aa (az (aa (pC (.str (ofString "always"))) (aa (az (aa (pC (.str (ofString "or"))) (aa (az (aa (pC (.str (ofString "not"))) (aa (pV 2) ah))) (aa (pV 4) ah)))) ah))) ah))) (aa (az (aa (pC (.str (ofString "or"))) (aa (az (aa (pC (.str (ofString "again"))) (aa (pV 2) ah))) (aa (az (aa (pC (.str (ofString "next"))) (aa (pV 3) ah))) ah)))) ah)))))
  (ae (au (p2 aj (p2 aC (pV 5) (aW (aa (az (aa (pC (.str (ofString "not"))) (aa (az (aa (pC (.str (ofString "and"))) (aa (az (aa (pC (.str (ofString "again"))) (aa (pV 2) ah))) (aa (pV 3) ah)))) ah))) (aa (az (aa (pC (.str (ofString "not"))) (aa (az (aa (pC (.str (ofString "till"))) (aa (az (aa (pC (.str (ofString "not"))) (aa (pV 2) ah))) (aa (pV 3) ah)))) ah))) ah)))) (p2 aV (pV 0) (pC (.int 8)))))
  af))))
theorem y0 {n:Nat}{c:Int}{x y z a b:Str}(κ:PK aH):Dl ⟨ai Ψ n⟩ [some (.int c),some (kC x y z),some (bf (.mark a)),some (bf (.mark b)),none,none] σ κ=up (aV (.int c) (.int 8)) σ fun i σ=>up (aj (.lst ((O8 a b).map bf)) i) σ fun v σ=>.ret v σ:=by kernel_rfl
theorem Dk {n i:Nat}{c:Int}{x y z a:Str}(hi:aV (.int (c.fdiv (8:Nat))) (.int (3:Nat))=some (nT i))(ea:aj (kC x y z) (nT i)=some (.str a))(κ:PK aH):Bz ⟨ai Ψ n⟩ [some (.int c),some (kC x y z),none,none,none,none] σ κ=κ [some (.int c),some (kC x y z),some (bf (.mark a)),none,none,none] σ:=by
 unfold Bz
 exact ab rfl (ab rfl (ab (bK c (k:=8) rfl) (ab hi (ab ea rfl))))
theorem Dj {n j:Nat}{c:Int}{x y z a b:Str}(hj:aV (.int (c.fdiv (8:Nat)+1+(c.fdiv (24:Nat)).fmod (2:Nat))) (.int (3:Nat))=some (nT j))(eb:aj (kC x y z) (nT j)=some (.str b))(κ:PK aH):By ⟨ai Ψ n⟩ [some (.int c),some (kC x y z),some (bf (.mark a)),none,none,none] σ κ=κ [some (.int c),some (kC x y z),some (bf (.mark a)),some (bf (.mark b)),none,none] σ:=by
 unfold By
 exact ab rfl (ab rfl (ab (bK c (k:=8) rfl) (ab (add_int _ _) (ab rfl (ab (bK c (k:=24) rfl) (ab (cC _ (k:=2) (by decide)) (ab (add_int _ _) (ab hj (ab eb rfl)))))))))
theorem Bx:cV=ae Bz (ae By Dl):=rfl
theorem wg {x y z:Str}(N:Ar x y z)(c:Int)(n:Nat):aY (fun t σ'=>σ'=σ∧∃s,t=bf s∧Gs s) (ai Ψ (n+1) 47 [.int c,kC x y z] σ):=by
 obtain ⟨i,hi,i3⟩:=eC (c.fdiv (8:Nat)) (n:=3) (by decide)
 obtain ⟨j,hj,j3⟩:=eC (c.fdiv (8:Nat)+1+(c.fdiv (24:Nat)).fmod (2:Nat)) (n:=3) (by decide)
 obtain ⟨k,hk,k8⟩:=eC c (n:=8) (by decide)
 obtain ⟨a,ea,A⟩:=AL N i3
 obtain ⟨b,eb,B⟩:=AL N j3
 have e:(O8 a b)[k]?=some (O8 a b)[k]:=List.getElem?_eq_getElem (show k < (O8 a b).length from k8)
 have run:cV ⟨ai Ψ n⟩ [some (.int c),some (kC x y z),none,none,none,none] σ (kE 47)=up (aV (.int c) (.int 8)) σ fun i σ=>up (aj (.lst ((O8 a b).map bf)) i) σ fun v σ=>.ret v σ:=by
  rw [Bx];exact (Dk hi ea _).trans ((Dj hj eb _).trans (y0 _))
 exact oP (vU run (aB hk (aB (ba (e:=bf) e (Nat.le_trans (Nat.le_of_lt k8) (by decide))) (ck ⟨rfl,_,rfl,Ei A B _ (List.mem_of_getElem? e)⟩))))
end
end
end Mine.L10
end
namespace Mine.L10
noncomputable section
open PySem Ltl
structure Wk (M:Mc) (s:Sy) (w r:List Nat):Prop where
 ne:0 < r.length
 lt:∀p∈w++r,p < M.names.length
 hd:∃a,(w++r).head?=some a∧a∈M.firsts
 nxt:∀i a b,(w++r++r.take 1)[i]?=some a→(w++r++r.take 1)[i+1]?=some b→b∈M.road a
 no:¬Sem (lw (w.map M.mark++r.map M.mark) w.length) s 0
 len:(w++r).length≤1000
section
variable {M N:Mc} {s:Sy} {w r:List Nat}
theorem nP.wk (L:nP N M)(W:Wk N s w r):Wk M s w r:=
 have e:N.mark=M.mark:=funext fun p=>by unfold Mc.mark;rw [L.nm]
 ⟨W.ne,fun p hp=>L.nm▸W.lt p hp,let ⟨a,h1,h2⟩:=W.hd;⟨a,h1,L.fst a h2⟩,fun i a b h1 h2=>L.nxt a b (W.nxt i a b h1 h2),e▸W.no,W.len⟩
theorem vt {l:List Kn}(h:du (th M s) l)(i a b:Nat)(ha:(l.map (·.p))[i]?=some a)(hb:(l.map (·.p))[i+1]?=some b):b∈M.road a:=by
 rw [List.getElem?_map] at ha hb
 obtain ⟨u,hu,rfl⟩:=Option.map_eq_some_iff.mp ha
 obtain ⟨v,hv,rfl⟩:=Option.map_eq_some_iff.mp hb
 exact (o5.mp (h i u v hu hv)).1
theorem jv.ring {α:Type}{th:α→List α}{S P R:List α}(L:jv th S P R):0 < R.length∧du th (P++R++R.take 1):=
 let ⟨c,y,hc,hy,hcy⟩:=L.back
 let ⟨_,e⟩:=List.head?_eq_some_iff.mp hc
 have tk:R.take 1=[c]:=e▸rfl
 have ly:(P++R).getLast?=some y:=by rw [List.getLast?_append,hy];rfl
 ⟨e▸Nat.succ_pos _,L.walk.app (tk▸du.one c) fun u v hu hv=>by rw [tk] at hv;rw [ly] at hu;rw [←Option.some.inj hu,←Option.some.inj hv];exact hcy⟩
theorem CQ {K P R:List Kn}(S:ue M s (st M s) K [])(B:CO M s K P R):Wk M s (P.map (·.p)) (R.map (·.p)):=
 have ⟨r0,wl⟩:=jv.ring B.lasso
 have e:(P.map (·.p))++R.map (·.p)=(P++R).map (·.p):=List.map_append.symm
 ⟨List.length_map (f:=fun k:Kn=>k.p)▸r0,fun p hp=>let ⟨k,h,q⟩:=List.mem_map.mp (e▸hp);q▸(fI.mp (S.sub k (by rw [List.append_nil];exact B.sub k h))).1,
  let ⟨a,h1,h2⟩:=B.lasso.hd;⟨a.p,by rw [e,List.head?_map,h1];rfl,(lV.mp h2).1⟩,by rw [e,←List.map_take,←List.map_append];exact vt wl,
  by
   obtain ⟨p,_,q,h⟩:=t8 B
   rw [List.length_map,List.map_map,List.map_map,←List.map_append,show (M.mark ∘ fun k:Kn=>k.p)=fun k=>M.mark k.p from rfl,←q]
   exact h,by rw [e,List.length_map];exact B.len⟩
end
noncomputable def Ep:PS:=ae (bn (eJ (cB (qE (p1 (dK .int) (pV 8)))) (eJ (qE (p1 (dK .bool) (pV 8))) (eJ (cB (i9 AO tE (pC (.int 0)) (pV 8) (p1 aI (pV 4)))) bL)))
  (ae (au (pC (.bool false)))
  af)
  af)
  af
noncomputable def E7:PS:=b8 (aL (az (aa (pV 2) (aa (pV 3) ah)))) (aM 7)
  (ae (bn (cB (qE (p1 (dK .list) (pV 7))))
  (ae (au (pC (.bool false)))
  af)
  af)
  (ae (b8 (aL (pV 7)) (aM 8) Ep)
  af))
noncomputable def E6:PS:=bn (eJ (p2 bD (pV 3) (aW ah)) (eJ (p2 eY (p2 aj (p2 aC (pV 2) (pV 3)) (pC (.int 0))) (pV 6)) bL))
  (ae (au (pC (.bool false)))
  af)
  af
noncomputable def E5:PS:=aw 9 (p2 aC (p2 aC (pV 2) (pV 3)) (p3 bi (pV 3) fS (p1 bN (pC (.int 1)))))
noncomputable def E4:PS:=bn (p2 fT (pC (.bool false)) (ax (bG (aa (p2 cA (p1 aI (pV 9)) (pC (.int 1))) ah)) (aM 10) av (pB (p2 fT (p2 aj (pV 9) (p2 aC (pV 10) (pC (.int 1)))) (p2 aj (pV 5) (p2 aj (pV 9) (pV 10)))))))
  (ae (au (pC (.bool false)))
  af)
  af
noncomputable def E3:PS:=au (gF (p2 aj (am 46 (aa (pV 1) (aa (ax (aL (pV 2)) (aM 11) av (p2 aj (pV 4) (pV 11))) (aa (ax (aL (pV 3)) (aM 12) av (p2 aj (pV 4) (pV 12))) ah)))) (pC (.int 0))))
theorem CR:bX=ae (ew [4,5,6] (pV 0)) (ae E7 (ae E6 (ae E5 (ae E4 (ae E3 af))))):=rfl
noncomputable abbrev wF (M:Mc)(s:Sy)(w r:List Nat)(x7 x8 x9:Option T):aH:=[some (.tup M.fs),some (bf s),some (aA w),some (aA r),some (.lst (M.names.map .str)),some (.lst (M.roads.map aA)),some (aA M.firsts),x7,x8,x9,none,none,none]
section
variable {M:Mc} {s:Sy} {w r:List Nat} {σ:Sg} {c:dw}
theorem EW {x7 x9:Option T}{p:Nat}(h:p < M.names.length){κ:PK aH}:Ep c (wF M s w r x7 (some (nT p)) x9) σ κ=κ (wF M s w r x7 (some (nT p)) x9) σ:=by
 have e:decide ((p:Int) < ((M.names.map T.str).length:Nat))=true:=decide_eq_true (by rw [List.length_map];exact Int.ofNat_lt.mpr h)
 show (bif !decide ((p:Int) < ((M.names.map T.str).length:Nat)) then _ else _)=_
 rw [e];rfl
theorem EV:∀(l:List Nat),(∀p∈l,p < M.names.length)→∀(x7 x8 x9:Option T) {κ:PK aH} {o:cc},(∀x8,κ (wF M s w r x7 x8 x9) σ=o)→cg (aM 8) Ep c (l.map nT) (wF M s w r x7 x8 x9) σ κ=o:=fun l=>by
 induction l with
 |nil=>exact fun _ x7 x8 x9 κ o hk=>hk x8
 |cons p l ih=>exact fun h x7 x8 x9 κ o hk=>kh rfl ((EW (h p (.head _))).trans (ih (fun q hq=>h q (.tail _ hq)) x7 _ x9 hk))
theorem xp {l:List T}{x y r:cc}(hl:Nat.ble l.length 100=true)(h:x=r):(bif bS l.length then x else y)=r:=by
 rw [show bS l.length=true from Nat.ble_eq_true_of_le (Nat.le_trans (Nat.le_of_ble_eq_true hl) (by decide))];exact h
theorem E2 (W:Wk M s w r){κ:PK aH}{o:cc}(hk:∀x7 x8,κ (wF M s w r x7 x8 none) σ=o):E7 c (wF M s w r none none none) σ κ=o:=by
 unfold E7
 have one:∀(l:List Nat),(∀p∈l,p < M.names.length)→∀{x7 x8:Option T} {ls:List T} {κ:PK aH} {o:cc},(∀x8,κ (wF M s w r (some (aA l)) x8 none) σ=o)→(ae (bn (cB (qE (p1 (dK .list) (pV 7)))) (ae (au (pC (.bool false))) af) af) (ae (b8 (aL (pV 7)) (aM 8) Ep) af)) c (wF M s w r (some (aA l)) x8 none) σ κ=o:=fun l hl {x7 x8 ls κ o} hk=>
  ab rfl (ab rfl (ab rfl (ay rfl (ab rfl (ab rfl (EV l hl _ _ _ hk))))))
 exact ab rfl (ab rfl (xp rfl (ab rfl (kh rfl (one w (x7:=none) (ls:=[]) (fun p hp=>W.lt p (List.mem_append_left _ hp)) fun x8=>kh rfl (one r (x7:=none) (ls:=[]) (fun p hp=>W.lt p (List.mem_append_right _ hp)) fun x8=>hk _ x8))))))
theorem E0 (W:Wk M s w r){x7 x8:Option T}{κ:PK aH}:E6 c (wF M s w r x7 x8 none) σ κ=κ (wF M s w r x7 x8 none) σ:=by
 obtain ⟨a,h1,h2⟩:=W.hd
 have e1:bD (aA r) (.lst [])=some false:=(g8.lst.is (by decide) (a:=r) (c:=[]) (fun _ _=>trivial) fun _ _=>trivial).trans (congrArg some (decide_eq_false fun q=>by have:=W.ne;rw [q] at this;cases this))
 have e2:aj (.lst ((w++r).map nT)) (.int 0)=some (nT a):=ba (e:=nT) (i:=0) (by rw [←List.head?_eq_getElem?];exact h1) (Nat.zero_le _)
 have e3:eY (nT a) (aA M.firsts)=some false:=(g8.nin (by decide) trivial (fun _ _=>trivial) rfl).trans (by rw [decide_eq_true h2];rfl)
 unfold E6
 exact ab rfl (xp rfl (ab e1 (ay rfl (ab rfl (ab rfl (ab (cf (e:=nT) (by rw [←List.length_append];exact Nat.le_trans W.len (by decide))) (ab e2 (ab rfl (ab e3 rfl)))))))))
theorem EZ (W:Wk M s w r){x7 x8:Option T}{κ:PK aH}:E5 c (wF M s w r x7 x8 none) σ κ=κ (wF M s w r x7 x8 (some (aA (w++r++r.take 1)))) σ:=by
 have l1:=W.len
 unfold E5
 exact ab rfl (ab rfl (ab (cf (e:=nT) (by rw [←List.length_append];exact Nat.le_trans l1 (by decide))) (ab rfl (ab rfl (ab (cL (e:=nT) (fO 1 r)) (ab (cf (e:=nT) (Nat.le_trans (Nat.add_le_add l1 (List.length_take_le 1 r)) (by decide))) rfl))))))
theorem EY (O:M.Ok)(W:Wk M s w r){x7 x8:Option T}{κ:PK aH}:E4 c (wF M s w r x7 x8 (some (aA (w++r++r.take 1)))) σ κ=κ (wF M s w r x7 x8 (some (aA (w++r++r.take 1)))) σ:=by
 obtain ⟨u,hu⟩:∃u,u=w++r++r.take 1:=⟨_,rfl⟩
 have nx:=W.nxt
 have lt:∀p∈u,p < M.names.length:=fun p hp=>(List.mem_append.mp (hu▸hp)).elim (W.lt p) fun h=>W.lt p (List.mem_append_right _ (List.mem_of_mem_take h))
 have ln:u.length≤1001:=by rw [hu,List.length_append];exact Nat.add_le_add W.len (List.length_take_le 1 r)
 rw [←hu] at nx ⊢
 have e1:cA (.int ((u.map nT).length:Nat)) (.int 1)=some (nT (u.length - 1)):=by
  rw [sub_int,List.length_map]
  show some (T.int ((u.length:Int) - (1:Nat)))=some (T.int ((u.length - 1:Nat):Int))
  rw [Int.ofNat_sub (by rw [hu,List.length_append,List.length_append];exact Nat.le_trans W.ne (Nat.le_trans (Nat.le_add_left _ _) (Nat.le_add_right _ _)))]
 have e2:r5 [nT (u.length - 1)]=some ((List.range (u.length - 1)).map nT):=eH (Nat.le_trans (Nat.sub_le _ _) (Nat.le_trans ln (by decide)))
 have e3:fT (.bool false) (.lst ((List.range (u.length - 1)).map fun _=>T.bool true))=some false:=(gN.mem (by decide) (a:=false) (l:=(List.range (u.length - 1)).map fun _=>true) trivial (fun _ _=>trivial) (by rw [List.map_map];rfl)).trans (congrArg some (decide_eq_false fun q=>nomatch (List.mem_map.mp q).choose_spec.2))
 unfold E4
 refine ab rfl (ab rfl (ab e1 (ab e2 (aJ (e:=nT) (fun _=>.bool true) (fun k hk=>⟨_,rfl,fun κ=>?_⟩) (ab e3 rfl)))))
 have hk:=List.mem_range.mp hk
 have hk:k+1 < u.length:=Nat.add_lt_of_lt_sub hk
 have hk':k < u.length:=Nat.lt_of_succ_lt hk
 have kl:k+1≤lim:=Nat.le_trans (Nat.le_of_lt hk) (Nat.le_trans ln (by decide))
 have h1:u[k]?=some u[k]:=List.getElem?_eq_getElem hk'
 have h2:u[k+1]?=some u[k+1]:=List.getElem?_eq_getElem hk
 have p1:=lt _ (List.mem_of_getElem? h1)
 exact ab rfl (ab rfl (ab (add_int _ _) (ab (ba (e:=nT) (i:=k+1) h2 kl) (ab rfl (ab rfl (ab rfl (ab (ba (e:=nT) h1 (Nat.le_of_succ_le kl)) (ab (ba (e:=aA) (a:=M.road u[k]) (fU (by rw [O.len];exact p1)) (O.lim p1))
  (ab ((g8.mem (by decide) trivial (fun _ _=>trivial) rfl).trans (congrArg some (decide_eq_true (nx k _ _ h1 h2)))) rfl)))))))))
theorem n8 (O:M.Ok){i:Nat}{ρ:aH}(h1:∀t,bC (ρ.set i (some t)) i=some t)(h2:∀t,bC (ρ.set i (some t)) 4=some (.lst (M.names.map .str)))(l:List Nat)(hl:∀p∈l,p < M.names.length){κ:PK (List T)}:aX (aM i) av (p2 aj (pV 4) (pV i)) c ρ (l.map nT) σ [] κ=κ ((l.map M.mark).map .str) σ:=by
 refine aJ (e:=nT) (fun p=>.str (M.mark p)) (fun p hp=>⟨_,rfl,fun κ=>ab (h2 _) (ab (h1 _) (ab (ba (e:=T.str) (a:=M.mark p) (fU (hl p hp)) (O.lim (hl p hp))) rfl))⟩) ?_
 rw [List.map_map];rfl
theorem EX (O:M.Ok)(W:Wk M s w r)(hd:dep s≤10){x7 x8 x9:Option T}{n:Nat}{κ:PK aH}:E3 ⟨ai Ψ (n+12)⟩ (wF M s w r x7 x8 x9) σ κ=.ret (.bool true) σ:=by
 have hn:(w.map M.mark++r.map M.mark).length≤1000:=by rw [←List.map_append,List.length_map];exact W.len
 have Z:=wx (σ:=σ) (w:=w.map M.mark) (r:=r.map M.mark) (by rw [List.length_map];exact W.ne) hn (n+10) s (Nat.le_trans hd (Nat.le_add_left _ _))
 have e:ej (w.map M.mark++r.map M.mark) (w.map M.mark).length s 0=false:=Bool.eq_false_iff.mpr fun h=>W.no (by have:=aU.mp h;rw [List.length_map] at this;exact this)
 have i0:aj (bT (w.map M.mark++r.map M.mark).length (ej (w.map M.mark++r.map M.mark) (w.map M.mark).length s)) (.int 0)=some (.bool false):=by
  rw [←e];exact eR (i:=0) (by rw [List.length_append,List.length_map,List.length_map];exact Nat.lt_of_lt_of_le W.ne (Nat.le_add_left _ _)) (Nat.le_trans hn (by decide))
 unfold E3
 exact ab rfl (ab rfl (ab rfl ((n8 O (fun _=>rfl) (fun _=>rfl) w fun p hp=>W.lt p (List.mem_append_left _ hp)).trans (ab rfl (ab rfl ((n8 O (fun _=>rfl) (fun _=>rfl) r fun p hp=>W.lt p (List.mem_append_right _ hp)).trans (ao Z (ab i0 (ab rfl rfl)))))))))
theorem s8 (O:M.Ok)(W:Wk M s w r)(hd:dep s≤10)(n:Nat):ai Ψ (n+13) 49 [.tup M.fs,bf s,aA w,aA r] σ=.ret (.bool true) σ:=by
 refine iF ?_
 rw [CR]
 exact ab rfl (ab rfl (E2 W fun x7 x8=>(E0 W).trans ((EZ W).trans ((EY O W).trans (EX O W hd)))))
end
end
end Mine.L10
namespace Mine.L10
noncomputable section
open PySem
noncomputable def FZ:PS:=(aw 2 (am 19 (aa (am 17 (aa (pV 0) (aa (pC (.int 0)) ah))) ah)))
noncomputable def FX:PS:=(aw 3 (am 25 (aa (pV 0) (aa (pV 1) (aa (pV 2) (aa (pC (.int 3)) ah))))))
noncomputable def FV:PS:=(aw 4 (am 23 (aa (am 20 (aa (pV 0) (aa (pV 1) (aa (pV 2) (aa (pC (.int 4)) ah))))) (aa (pC (.int 2)) ah))))
noncomputable def FR:PS:=(aw 5 (am 18 (aa (pV 0) (aa (pV 1) ah))))
noncomputable def FP:PS:=(bn (p2 bD (p2 aV (pV 5) (pC (.int 3))) (pC (.int 0)))
  (ae (aw 4 (am 47 (aa (p2 cb (pV 5) (pC (.int 3))) (aa (pV 2) ah))))
  af)
  af)
noncomputable def ED:PS:=(aw 5 (am 17 (aa (pV 0) (aa (pC (.int 1)) ah))))
noncomputable def EC:PS:=(aw 6 (aW (aa (am 64 (aa (pV 3) (aa (pV 5) ah))) (aa (am 65 (aa (pV 3) (aa (p2 aV (p2 cb (pV 5) (pC (.int 3))) (p1 aI (p2 aj (pV 3) (pC (.int 0))))) ah))) (aa (am 66 (aa (pV 3) (aa (p2 cb (pV 5) (pC (.int 9))) ah))) ah)))))
noncomputable def EB:PS:=(aw 7 (ax (aL (p2 aC (aW (aa (pV 3) ah)) (pV 6))) (aM 15) av (uE 0 1006 (aa (p2 aj (pV 15) (pC (.int 0))) (aa (p2 aj (pV 15) (pC (.int 1))) (aa (p2 aj (pV 15) (pC (.int 2))) ah))))))
noncomputable def EA:PS:=(aw 8 (ax (aL (pV 7)) (aM 16) av (am 43 (aa (pV 16) (aa (pV 4) ah)))))
noncomputable def Ez:PS:=(bn (eJ (p2 j8 (p2 aj (p2 aj (pV 8) (pC (.int 1))) (pC (.int 0))) (p2 aj (p2 aj (pV 8) (pC (.int 0))) (pC (.int 0)))) (eJ (p2 j8 (p2 aj (p2 aj (pV 8) (pC (.int 2))) (pC (.int 0))) (p2 aj (p2 aj (pV 8) (pC (.int 0))) (pC (.int 0)))) bL))
  (ae (au (pC (.bool false)))
  af)
  af)
noncomputable def zJ:PS:=(aw 9 (p2 aj (pV 8) (pC (.int 3))))
noncomputable def zI:PS:=(bn (ib (p2 bD (p2 aj (pV 9) (pC (.int 0))) (pC (.str (ofString "breaks")))) (ib (p2 bD (p2 aj (p2 aj (pV 8) (pC (.int 0))) (pC (.int 0))) (pC (.str (ofString "keeps")))) av))
  (ae (au (pC (.bool false)))
  af)
  af)
noncomputable def zH:PS:=(bn (ib (p2 bD (p2 aj (pV 9) (pC (.int 0))) (pC (.str (ofString "breaks")))) (ib (cB (qE (am 49 (aa (pV 3) (aa (pV 4) (aa (p2 aj (pV 9) (pC (.int 1))) (aa (p2 aj (pV 9) (pC (.int 2))) ah))))))) av))
  (ae (au (pC (.bool false)))
  af)
  af)
noncomputable def zG:PS:=(b8 (kb (p2 aC (aW (aa (pV 3) ah)) (pV 6))) (vn 10 11)
  (ae (bn (p2 bD (p2 aj (p2 aj (pV 8) (pV 10)) (pC (.int 0))) (pC (.str (ofString "breaks"))))
  (ae (ew [12,13] (p3 bi (p2 aj (pV 8) (pV 10)) (p1 bN (pC (.int 1))) fS))
  (ae (aw 14 (ax (aL (az (aa (pV 12) (aa (pV 13) ah)))) (aM 17) av (ax (aL (pV 17)) (aM 18) av (p2 aj (p2 aj (pV 11) (pC (.int 0))) (pV 18)))))
  (ae (bn (eJ (qE (am 56 (aa (pV 4) (aa (p2 aj (pV 14) (pC (.int 0))) (aa (p2 aj (pV 14) (pC (.int 1))) ah))))) (eJ (cB (qE (am 49 (aa (pV 11) (aa (pV 4) (aa (pV 12) (aa (pV 13) ah))))))) bL))
  (ae (au (pC (.bool false)))
  af)
  af)
  (ae (bn (p2 bD (pU 0 1008 (p2 aj (pV 7) (pV 10)) (aa (yW (p2 j8 (pV 12) (aW ah)) (p2 aj (pV 12) (pC (.int 0))) (p2 aj (pV 13) (pC (.int 0)))) ah)) (aW ah))
  (ae (au (pC (.bool false)))
  af)
  af)
  af))))
  af)
  af))
noncomputable def zE:PS:=(au (pB (p2 bD (am 43 (aa (p2 aj (pV 7) (pC (.int 0))) (aa (pV 4) ah))) (p2 aj (pV 8) (pC (.int 0))))))
theorem BW:tx=ae FZ (ae FX (ae FV (ae FR (ae FP (ae ED (ae EC (ae EB (ae EA (ae Ez (ae zJ (ae zI (ae zH (ae zG (ae zE af)))))))))))))):=rfl
noncomputable def FJ:PS:=(ae (bn (p2 bD (p2 aj (p2 aj (pV 8) (pV 10)) (pC (.int 0))) (pC (.str (ofString "breaks"))))
  (ae (ew [12,13] (p3 bi (p2 aj (pV 8) (pV 10)) (p1 bN (pC (.int 1))) fS))
  (ae (aw 14 (ax (aL (az (aa (pV 12) (aa (pV 13) ah)))) (aM 17) av (ax (aL (pV 17)) (aM 18) av (p2 aj (p2 aj (pV 11) (pC (.int 0))) (pV 18)))))
  (ae (bn (eJ (qE (am 56 (aa (pV 4) (aa (p2 aj (pV 14) (pC (.int 0))) (aa (p2 aj (pV 14) (pC (.int 1))) ah))))) (eJ (cB (qE (am 49 (aa (pV 11) (aa (pV 4) (aa (pV 12) (aa (pV 13) ah))))))) bL))
  (ae (au (pC (.bool false)))
  af)
  af)
  (ae (bn (p2 bD (pU 0 1008 (p2 aj (pV 7) (pV 10)) (aa (yW (p2 j8 (pV 12) (aW ah)) (p2 aj (pV 12) (pC (.int 0))) (p2 aj (pV 13) (pC (.int 0)))) ah)) (aW ah))
  (ae (au (pC (.bool false)))
  af)
  af)
  af))))
  af)
  af)
end
end Mine.L10
namespace Mine.L10
noncomputable section
open PySem Ltl
noncomputable def vd (b:Bool):T:=.str (bif b then ofString "breaks" else ofString "keeps")
structure jZ (M:Mc) (s:Sy) (b:Bool) (t:T):Prop where
 fm:∃l,t=.tup (vd b::l)∧(b=true→∃w r,l=[aA w,aA r]∧Wk M s w r)
 sf:Sf cQ t
 brk:b=true→∃K P R,CO M s K P R
 kp:b=false→Av M s
section
variable {M N:Mc} {s:Sy} {t t':T} {b b':Bool} {f g:Nat→Nat}
theorem v6 (P:List Kn):Da P=aA (P.map (·.p)):=congrArg T.lst (List.map_map (f:=fun k:Kn=>k.p) (g:=nT)).symm
theorem GW (J:EO M s t):∃b,jZ M s b t:=by
 have sr:∀l:List Nat,Sf 49 (aA l):=fun l=>vL (rY fun _ _=>oL)
 rcases J with ⟨X,rfl,sx,k⟩ | ⟨K,P,R,rfl,S,B⟩
 ·exact ⟨false,⟨_,rfl,fun h=>nomatch h⟩,oK (oM vK (oM (vL sx) Bp)),(fun h=>nomatch h),fun _=>k⟩
 ·rw [v6,v6]
  exact ⟨true,⟨_,rfl,fun _=>⟨_,_,rfl,CQ S B⟩⟩,oK (oM vK (oM (sr _) (oM (sr _) Bp))),fun _=>⟨K,P,R,B⟩,(fun h=>nomatch h)⟩
theorem jZ.le (H:uf M N f)(O:M.Ok)(T:jZ M s true t)(T':jZ N s false t'):False:=let ⟨_,_,_,B⟩:=T.brk rfl;H.no O B (T'.kp rfl)
theorem jZ.same (H:uf M N f)(H':uf N M g)(O:M.Ok)(O':N.Ok)(T:jZ M s b t)(T':jZ N s b' t'):b'=b:=by
 cases b<;>cases b'
 ·rfl
 ·exact (T'.le H' O' T).elim
 ·exact (T.le H O T').elim
 ·rfl
theorem jZ.i0 (T:jZ M s b t):aj t (.int 0)=some (vd b):=by
 obtain ⟨l,rfl,_⟩:=T.fm
 exact kX (e:=id) (l:=vd b::l) (i:=0) rfl (Nat.zero_le _) |> fun h=>by rw [List.map_id] at h;exact h
end
theorem Bh {a b c:T}:aj (.tup [a,b,c]) (.int 1)=some b:=kX (e:=id) (l:=[a,b,c]) (i:=1) rfl (by decide) |> fun h=>by rw [List.map_id] at h;exact h
theorem Bg {a b c:T}:aj (.tup [a,b,c]) (.int 2)=some c:=kX (e:=id) (l:=[a,b,c]) (i:=2) rfl (by decide) |> fun h=>by rw [List.map_id] at h;exact h
theorem yI {a b c:T}:bi (.tup [a,b,c]) (some 1) none=some (.tup [b,c]):=by kernel_rfl
inductive Gp (M:Mc) (s:Sy) (t:T):Prop
 |mk (w r:List Nat) (e1:aj t (.int 1)=some (aA w)) (e2:aj t (.int 2)=some (aA r)) (e3:bi t (some 1) none=some (.tup [aA w,aA r])) (W:Wk M s w r)
theorem jZ.w {M:Mc}{s:Sy}{t:T}(T:jZ M s true t):Gp M s t:=by
 obtain ⟨l,rfl,h⟩:=T.fm
 obtain ⟨w,r,rfl,W⟩:=h rfl
 exact ⟨w,r,Bh,Bg,yI,W⟩
theorem Ay:∀b:Bool,j8 (vd b) (vd b)=some false
 |true=>by kernel_rfl
 |false=>by kernel_rfl
theorem A9:∀b:Bool,bD (vd b) (.str (ofString "breaks"))=some b
 |true=>by kernel_rfl
 |false=>by kernel_rfl
theorem E9:∀b:Bool,bD (vd b) (.str (ofString "keeps"))=some (!b)
 |true=>by kernel_rfl
 |false=>by kernel_rfl
noncomputable abbrev kF (a0 a1 a2 a3 a4 a5 a6 a7 a8 a9 a10 a11 a12 a13 a14:Option T):aH:=[a0,a1,a2,a3,a4,a5,a6,a7,a8,a9,a10,a11,a12,a13,a14,none,none,none,none]
theorem Fv {o r:cc}{c:Nat}{sp:Int}{fs:List T}{k:PK T}(h:o=.ret .none ⟨sp,some (c,fs)⟩)(h2:k (.obj c fs) ⟨sp,none⟩=r):qA c o k=r:=by
 rw [h]
 unfold qA
 show (bif Nat.beq c c then k (.obj c fs) ⟨sp,none⟩ else .bad)=r
 rw [Nat.beq_refl];exact h2
section
variable {M M1 M2 M3:Mc} {s:Sy} {sp:Int} {n:Nat} {t0 t1 t2 t3:T} {b0 b3:Bool} {a0 a1 a2 a5 a6 a9:Option T} {Q:T→Sg→Prop} {κ:PK aH}
theorem FM (O:∀N∈[M,M1,M2,M3],N.Ok):EB ⟨ai Ψ (n+24)⟩ (kF a0 a1 a2 (some (.tup M.fs)) (some (bf s)) a5 (some (.lst [.tup M1.fs,.tup M2.fs,.tup M3.fs])) none none none none none none none none) ⟨sp,none⟩ κ
  =κ (kF a0 a1 a2 (some (.tup M.fs)) (some (bf s)) a5 (some (.lst [.tup M1.fs,.tup M2.fs,.tup M3.fs])) (some (.lst [M.t,M1.t,M2.t,M3.t])) none none none none none none none) ⟨sp,none⟩:=by
 unfold EB
 refine ab rfl (xp rfl (ab rfl (ab rfl (ab rfl (aJ (e:=fun M:Mc=>.tup M.fs) (l:=[M,M1,M2,M3]) Mc.t (fun N hN=>⟨_,rfl,fun κ=>?_⟩) rfl)))))
 exact ab rfl (ab rfl (ab rfl (ab rfl (ab rfl (ab rfl (Fv (zO (O N hN) (n+21)) rfl))))))
noncomputable abbrev gg (a0 a1 a2 a5 a9 a10 a11 a12 a13 a14:Option T)(s:Sy)(M M1 M2 M3:Mc)(t0 t1 t2 t3:T):aH:=kF a0 a1 a2 (some (.tup M.fs)) (some (bf s)) a5 (some (.lst [.tup M1.fs,.tup M2.fs,.tup M3.fs])) (some (.lst [M.t,M1.t,M2.t,M3.t])) (some (.lst [t0,t1,t2,t3])) a9 a10 a11 a12 a13 a14
theorem FL (h:∀x∈[(M,t0),(M1,t1),(M2,t2),(M3,t3)],ai Ψ (n+24) 43 [Mc.t x.1,bf s] ⟨sp,none⟩=.ret x.2 ⟨sp,none⟩):EA ⟨ai Ψ (n+24)⟩ (kF a0 a1 a2 (some (.tup M.fs)) (some (bf s)) a5 (some (.lst [.tup M1.fs,.tup M2.fs,.tup M3.fs])) (some (.lst [M.t,M1.t,M2.t,M3.t])) none none none none none none none) ⟨sp,none⟩ κ
  =κ (gg a0 a1 a2 a5 none none none none none none s M M1 M2 M3 t0 t1 t2 t3) ⟨sp,none⟩:=by
 unfold EA
 exact ab rfl (ab rfl (aJ (e:=fun x:Mc×T=>x.1.t) (l:=[(M,t0),(M1,t1),(M2,t2),(M3,t3)]) (fun x=>x.2) (fun x hx=>⟨_,rfl,fun κ=>ab rfl (ab rfl (ao (h x hx) rfl))⟩) rfl))
theorem FK (T0:jZ M s b0 t0)(T1:jZ M1 s b0 t1)(T2:jZ M2 s b0 t2){c:dw}{σ:Sg}:Ez c (gg a0 a1 a2 a5 a9 none none none none none s M M1 M2 M3 t0 t1 t2 t3) σ κ=κ (gg a0 a1 a2 a5 a9 none none none none none s M M1 M2 M3 t0 t1 t2 t3) σ:=by
 unfold Ez
 exact ab rfl (ab rfl (ab T1.i0 (ab rfl (ab rfl (ab T0.i0 (ab (Ay b0) (ay rfl (ab rfl (ab rfl (ab T2.i0 (ab rfl (ab rfl (ab T0.i0 (ab (Ay b0) rfl))))))))))))))
theorem Dy {c:dw}{σ:Sg}:zJ c (gg a0 a1 a2 a5 none none none none none none s M M1 M2 M3 t0 t1 t2 t3) σ κ=κ (gg a0 a1 a2 a5 (some t3) none none none none none s M M1 M2 M3 t0 t1 t2 t3) σ:=by
 unfold zJ
 exact ab rfl (ab rfl rfl)
theorem wR {c:dw}{σ:Sg}:zI c (gg a0 a1 a2 a5 (some t3) none none none none none s M M1 M2 M3 t0 t1 t2 t3) σ κ=up (aj t3 (.int 0)) σ fun x σ=>up (bD x (.str (ofString "breaks"))) σ fun q σ=>bif q then (up (aj t0 (.int 0)) σ fun x σ=>up (bD x (.str (ofString "keeps"))) σ fun q σ=>bif q then .ret (.bool false) σ else κ (gg a0 a1 a2 a5 (some t3) none none none none none s M M1 M2 M3 t0 t1 t2 t3) σ) else κ (gg a0 a1 a2 a5 (some t3) none none none none none s M M1 M2 M3 t0 t1 t2 t3) σ:=by kernel_rfl
theorem Dx (T0:jZ M s b0 t0)(T3:jZ M3 s b3 t3)(h:b3=true→b0=true){c:dw}{σ:Sg}:zI c (gg a0 a1 a2 a5 (some t3) none none none none none s M M1 M2 M3 t0 t1 t2 t3) σ κ=κ (gg a0 a1 a2 a5 (some t3) none none none none none s M M1 M2 M3 t0 t1 t2 t3) σ:=by
 refine wR.trans (ab T3.i0 (ab (A9 b3) ?_))
 cases b3 with
 |false=>rfl
 |true=>cases h rfl;exact cJ rfl (ab T0.i0 (ab (E9 true) rfl))
theorem wQ {c:dw}{σ:Sg}:zH c (gg a0 a1 a2 a5 (some t3) none none none none none s M M1 M2 M3 t0 t1 t2 t3) σ κ=up (aj t3 (.int 0)) σ fun x σ=>up (bD x (.str (ofString "breaks"))) σ fun q σ=>bif q then (up (aj t3 (.int 1)) σ fun w σ=>up (aj t3 (.int 2)) σ fun r σ=>nH (c.call 49 [.tup M.fs,bf s,w,r] σ) fun v σ=>up (cN v) σ fun b σ=>bif !b then .ret (.bool false) σ else κ (gg a0 a1 a2 a5 (some t3) none none none none none s M M1 M2 M3 t0 t1 t2 t3) σ) else κ (gg a0 a1 a2 a5 (some t3) none none none none none s M M1 M2 M3 t0 t1 t2 t3) σ:=by kernel_rfl
theorem Dw (O:M.Ok)(hd:dep s≤10)(L:nP M3 M)(T3:jZ M3 s b3 t3){σ:Sg}:zH ⟨ai Ψ (n+24)⟩ (gg a0 a1 a2 a5 (some t3) none none none none none s M M1 M2 M3 t0 t1 t2 t3) σ κ=κ (gg a0 a1 a2 a5 (some t3) none none none none none s M M1 M2 M3 t0 t1 t2 t3) σ:=by
 refine wQ.trans (ab T3.i0 (ab (A9 b3) ?_))
 cases b3 with
 |false=>rfl
 |true=>exact let ⟨_,_,e1,e2,_,W⟩:=T3.w;cJ rfl (ab e1 (ab e2 (ao (s8 O (L.wk W) hd (n+11)) rfl)))
end
theorem GH {a b:T}:aj (.lst [a,b]) (.int 0)=some a:=rfl
theorem GG {a b:T}:aj (.lst [a,b]) (.int 1)=some b:=rfl
noncomputable def FH:PS:=ew [12,13] (p3 bi (p2 aj (pV 8) (pV 10)) (p1 bN (pC (.int 1))) fS)
noncomputable def FF:PS:=aw 14 (ax (aL (az (aa (pV 12) (aa (pV 13) ah)))) (aM 17) av (ax (aL (pV 17)) (aM 18) av (p2 aj (p2 aj (pV 11) (pC (.int 0))) (pV 18))))
noncomputable def FC:PS:=bn (eJ (qE (am 56 (aa (pV 4) (aa (p2 aj (pV 14) (pC (.int 0))) (aa (p2 aj (pV 14) (pC (.int 1))) ah))))) (eJ (cB (qE (am 49 (aa (pV 11) (aa (pV 4) (aa (pV 12) (aa (pV 13) ah))))))) bL))
  (ae (au (pC (.bool false)))
  af)
  af
noncomputable def FA:PS:=bn (p2 bD (pU 0 1008 (p2 aj (pV 7) (pV 10)) (aa (yW (p2 j8 (pV 12) (aW ah)) (p2 aj (pV 12) (pC (.int 0))) (p2 aj (pV 13) (pC (.int 0)))) ah)) (aW ah))
  (ae (au (pC (.bool false)))
  af)
  af
theorem Dq:FJ=ae (bn (p2 bD (p2 aj (p2 aj (pV 8) (pV 10)) (pC (.int 0))) (pC (.str (ofString "breaks")))) (ae FH (ae FF (ae FC (ae FA af)))) af) af:=rfl
section
variable {M M1 M2 M3 N:Mc} {s:Sy} {σ:Sg} {n i:Nat} {t0 t1 t2 t3 t:T} {b:Bool} {w r:List Nat} {a0 a1 a2 a5 a9 x12 x13 x14:Option T} {κ:PK aH} {o:cc}
theorem tj (l:List Nat):bD (aA l) (.lst [])=some (decide (l=[])):=g8.lst.is (by decide) (a:=l) (c:=[]) (fun _ _=>trivial) fun _ _=>trivial
theorem qO {l:List Nat}(h:l≠[]):∃p∈l,aj (aA l) (.int 0)=some (nT p):=by
 cases l with
 |nil=>exact absurd rfl h
 |cons p l=>exact ⟨p,.head _,ba (e:=nT) (i:=0) rfl (Nat.zero_le _)⟩
theorem FG (e8:aj (.lst [t0,t1,t2,t3]) (nT i)=some t)(e3:bi t (some 1) none=some (.tup [aA w,aA r])){c:dw}{a11:Option T}:FH c (gg a0 a1 a2 a5 a9 (some (nT i)) a11 x12 x13 x14 s M M1 M2 M3 t0 t1 t2 t3) σ κ=κ (gg a0 a1 a2 a5 a9 (some (nT i)) a11 (some (aA w)) (some (aA r)) x14 s M M1 M2 M3 t0 t1 t2 t3) σ:=by
 unfold FH
 exact ab rfl (ab rfl (ab e8 (ab rfl (ab e3 (ab rfl rfl)))))
theorem FD (O:N.Ok)(W:Wk N s w r){c:dw}{a10:Option T}:FF c (gg a0 a1 a2 a5 a9 a10 (some (.tup N.fs)) (some (aA w)) (some (aA r)) x14 s M M1 M2 M3 t0 t1 t2 t3) σ κ=κ (gg a0 a1 a2 a5 a9 a10 (some (.tup N.fs)) (some (aA w)) (some (aA r)) (some (.lst [.lst ((w.map N.mark).map .str),.lst ((r.map N.mark).map .str)])) s M M1 M2 M3 t0 t1 t2 t3) σ:=by
 have inner:∀(l:List Nat),(∀p∈l,p < N.names.length)→∀(ρ:aH) {κ:PK (List T)} {o:cc},(∀t,bC (ρ.set 18 (some t)) 18=some t)→(∀t,bC (ρ.set 18 (some t)) 11=some (.tup N.fs))→κ ((l.map N.mark).map .str) σ=o→aX (aM 18) av (p2 aj (p2 aj (pV 11) (pC (.int 0))) (pV 18)) c ρ (l.map nT) σ [] κ=o:=fun l hl ρ κ o h1 h2 hκ=>by
  refine aJ (e:=nT) (fun p=>.str (N.mark p)) (fun p hp=>⟨_,rfl,fun κ=>ab (h2 _) (ab rfl (ab (h1 _) (ab (ba (e:=T.str) (a:=N.mark p) (fU (hl p hp)) (O.lim (hl p hp))) rfl)))⟩) ?_
  rw [←hκ,List.map_map];rfl
 unfold FF
 refine ab rfl (ab rfl (xp rfl (ab rfl (aJ (e:=aA) (l:=[w,r]) (fun l=>.lst ((l.map N.mark).map .str)) (fun l hl=>⟨_,rfl,fun κ=>ab rfl (ab rfl (inner l (fun p hp=>W.lt p ?_) _ (fun _=>rfl) (fun _=>rfl) rfl))⟩) rfl))))
 rcases List.mem_cons.mp hl with rfl |hl
 ·exact List.mem_append_left _ hp
 ·cases List.mem_singleton.mp hl;exact List.mem_append_right _ hp
theorem zq {c:dw}{a10 a11:Option T}{v w r A B:T}(h:a11=some v):FC c (gg a0 a1 a2 a5 a9 a10 a11 (some w) (some r) (some (.lst [A,B])) s M M1 M2 M3 t0 t1 t2 t3) σ κ=nH (c.call 56 [bf s,A,B] σ) fun u σ=>up (cN u) σ fun b σ=>bif b then .ret (.bool false) σ else nH (c.call 49 [v,bf s,w,r] σ) fun u σ=>up (cN u) σ fun b σ=>bif !b then .ret (.bool false) σ else κ (gg a0 a1 a2 a5 a9 a10 a11 (some w) (some r) (some (.lst [A,B])) s M M1 M2 M3 t0 t1 t2 t3) σ:=by cases h;kernel_rfl
theorem FB (O:N.Ok)(hd:dep s≤10)(W:Wk N s w r){a10:Option T}:FC ⟨ai Ψ (n+24)⟩ (gg a0 a1 a2 a5 a9 a10 (some (.tup N.fs)) (some (aA w)) (some (aA r)) (some (.lst [.lst ((w.map N.mark).map .str),.lst ((r.map N.mark).map .str)])) s M M1 M2 M3 t0 t1 t2 t3) σ κ
  =κ (gg a0 a1 a2 a5 a9 a10 (some (.tup N.fs)) (some (aA w)) (some (aA r)) (some (.lst [.lst ((w.map N.mark).map .str),.lst ((r.map N.mark).map .str)])) s M M1 M2 M3 t0 t1 t2 t3) σ:=by
 have e:ej (w.map N.mark++r.map N.mark) (w.map N.mark).length s 0=false:=Bool.eq_false_iff.mpr fun h=>W.no (by have:=aU.mp h;rw [List.length_map] at this;exact this)
 have H:=xf (σ:=σ) (w:=w.map N.mark) (r:=r.map N.mark) (by rw [List.length_map];exact W.ne) (by rw [←List.map_append,List.length_map];exact W.len) (s:=s) (Nat.le_trans hd (by decide)) n
 rw [e] at H
 exact (zq rfl).trans (ao H (ao (s8 O W hd (n+11)) rfl))
noncomputable def Fx (c:dw)(m:T)(κ:Sg→cc):PK T:=fun p σ=>nH (c.call 1008 [m,p] σ) fun v σ=>up (bD v (.lst [])) σ fun q σ=>bif q then .ret (.bool false) σ else κ σ
theorem zp {c:dw}{a11:Option T}{i w r:T}:FA c (gg a0 a1 a2 a5 a9 (some i) a11 (some w) (some r) x14 s M M1 M2 M3 t0 t1 t2 t3) σ κ=up (aj (.lst [M.t,M1.t,M2.t,M3.t]) i) σ fun m σ=>gd (Ed 0 m).isSome (up (j8 w (.lst [])) σ fun q σ=>bif q then up (aj w (.int 0)) σ (Fx c m (κ (gg a0 a1 a2 a5 a9 (some i) a11 (some w) (some r) x14 s M M1 M2 M3 t0 t1 t2 t3))) else up (aj r (.int 0)) σ (Fx c m (κ (gg a0 a1 a2 a5 a9 (some i) a11 (some w) (some r) x14 s M M1 M2 M3 t0 t1 t2 t3)))):=by kernel_rfl
theorem Fy (O:N.Ok)(W:Wk N s w r)(e7:aj (.lst [M.t,M1.t,M2.t,M3.t]) (nT i)=some N.t){a11:Option T}:FA ⟨ai Ψ (n+24)⟩ (gg a0 a1 a2 a5 a9 (some (nT i)) a11 (some (aA w)) (some (aA r)) x14 s M M1 M2 M3 t0 t1 t2 t3) σ κ=κ (gg a0 a1 a2 a5 a9 (some (nT i)) a11 (some (aA w)) (some (aA r)) x14 s M M1 M2 M3 t0 t1 t2 t3) σ:=by
 have fin:∀{p:Nat},p < N.names.length→bD (aA (N.road p)) (.lst [])=some false:=fun hp=>(tj _).trans (congrArg some (decide_eq_false (cj O hp).ne))
 have nw:j8 (aA w) (.lst [])=some (!decide (w=[])):=by rw [j8,tj];rfl
 refine zp.trans (ab e7 (ab nw ?_))
 have go:∀{p:Nat},p < N.names.length→Fx ⟨ai Ψ (n+24)⟩ N.t (κ (gg a0 a1 a2 a5 a9 (some (nT i)) a11 (some (aA w)) (some (aA r)) x14 s M M1 M2 M3 t0 t1 t2 t3)) (nT p) σ=κ (gg a0 a1 a2 a5 a9 (some (nT i)) a11 (some (aA w)) (some (aA r)) x14 s M M1 M2 M3 t0 t1 t2 t3) σ:=fun lp=>ao (qJ O lp (n+23)) (ab (fin lp) rfl)
 by_cases h:w=[]
 ·obtain ⟨p,hp,e⟩:=qO (l:=r) fun q=>by have:=W.ne;rw [q] at this;cases this
  rw [decide_eq_true h]
  exact ay rfl (ab e (go (W.lt p (List.mem_append_right _ hp))))
 ·obtain ⟨p,hp,e⟩:=qO h
  rw [decide_eq_false h]
  exact cJ rfl (ab e (go (W.lt p (List.mem_append_left _ hp))))
theorem Ey (O:N.Ok)(hd:dep s≤10)(T:jZ N s b t)(e8:aj (.lst [t0,t1,t2,t3]) (nT i)=some t)(e7:aj (.lst [M.t,M1.t,M2.t,M3.t]) (nT i)=some N.t)(hk:∀x12 x13 x14,κ (gg a0 a1 a2 a5 a9 (some (nT i)) (some (.tup N.fs)) x12 x13 x14 s M M1 M2 M3 t0 t1 t2 t3) σ=o):
  FJ ⟨ai Ψ (n+24)⟩ (gg a0 a1 a2 a5 a9 (some (nT i)) (some (.tup N.fs)) x12 x13 x14 s M M1 M2 M3 t0 t1 t2 t3) σ κ=o:=by
 rw [Dq]
 refine ab rfl (ab rfl (ab e8 (ab T.i0 (ab (A9 b) ?_))))
 cases b with
 |false=>exact ay rfl (hk _ _ _)
 |true=>exact let ⟨_,_,_,_,e3,W⟩:=T.w;cJ rfl ((FG e8 e3).trans ((FD O W).trans ((FB O hd W).trans ((Fy O W e7).trans (hk _ _ _)))))
end
section
variable {M M1 M2 M3:Mc} {s:Sy} {sp:Int} {n:Nat} {t0 t1 t2 t3:T} {b0 b1 b2 b3:Bool} {a0 a1 a2 a5 a9:Option T} {κ:PK aH} {o:cc} {σ:Sg}
theorem zF:zG=b8 (kb (p2 aC (aW (aa (pV 3) ah)) (pV 6))) (vn 10 11) FJ:=rfl
theorem Dv (O:M.Ok)(O1:M1.Ok)(O2:M2.Ok)(O3:M3.Ok)(hd:dep s≤10)(T0:jZ M s b0 t0)(T1:jZ M1 s b1 t1)(T2:jZ M2 s b2 t2)(T3:jZ M3 s b3 t3)(hk:∀x10 x11 x12 x13 x14,κ (gg a0 a1 a2 a5 a9 x10 x11 x12 x13 x14 s M M1 M2 M3 t0 t1 t2 t3) σ=o):zG ⟨ai Ψ (n+24)⟩ (gg a0 a1 a2 a5 a9 none none none none none s M M1 M2 M3 t0 t1 t2 t3) σ κ=o:=by
 rw [zF]
 exact ab rfl (xp rfl (ab rfl (ab rfl (ab rfl (kh rfl (Ey (i:=0) O hd T0 rfl rfl fun _ _ _=>kh rfl (Ey (i:=1) O1 hd T1 rfl rfl fun _ _ _=>kh rfl (Ey (i:=2) O2 hd T2 rfl rfl fun _ _ _=>kh rfl (Ey (i:=3) O3 hd T3 rfl rfl fun _ _ _=>hk _ _ _ _ _)))))))))
theorem Du (T0:jZ M s b0 t0)(h:ai Ψ (n+24) 43 [M.t,bf s] ⟨sp,none⟩=.ret t0 ⟨sp,none⟩){a10 a11 a12 a13 a14:Option T}:zE ⟨ai Ψ (n+24)⟩ (gg a0 a1 a2 a5 a9 a10 a11 a12 a13 a14 s M M1 M2 M3 t0 t1 t2 t3) ⟨sp,none⟩ κ=.ret (.bool true) ⟨sp,none⟩:=by
 unfold zE
 exact ab rfl (ab rfl (ab rfl (ao h (ab rfl (ab rfl (ab T0.sf.eq rfl))))))
noncomputable abbrev Dt:PS:=ae EB (ae EA (ae Ez (ae zJ (ae zI (ae zH (ae zG (ae zE af)))))))
inductive Jd (N:Mc) (s:Sy) (n:Nat) (sp:Int):Prop
 |mk (t:T) (b:Bool) (e:ai Ψ (n+24) 43 [N.t,bf s] ⟨sp,none⟩=.ret t ⟨sp,none⟩) (T:jZ N s b t)
theorem jd {N:Mc}(G:Gs s)(ON:N.Ok):Jd N s n sp:=by
 obtain ⟨t,_,e,rfl,J⟩:=uQ ON G (sp:=sp) n
 obtain ⟨b,T⟩:=GW J
 exact ⟨t,b,e,T⟩
theorem yR (O:M.Ok)(O1:M1.Ok)(O2:M2.Ok)(G:Gs s){f f' g g':Nat→Nat}(H1:uf M M1 f)(H1':uf M1 M f')(H2:uf M M2 g)(H2':uf M2 M g')(L:nP M3 M):
  Dt ⟨ai Ψ (n+24)⟩ (kF a0 a1 a2 (some (.tup M.fs)) (some (bf s)) a5 (some (.lst [.tup M1.fs,.tup M2.fs,.tup M3.fs])) none none none none none none none none) ⟨sp,none⟩ κ=.ret (.bool true) ⟨sp,none⟩:=by
 obtain ⟨t0,b0,e0,T0⟩:=jd (n:=n) (sp:=sp) G O
 obtain ⟨t1,b1,e1,T1⟩:=jd (n:=n) (sp:=sp) G O1
 obtain ⟨t2,b2,e2,T2⟩:=jd (n:=n) (sp:=sp) G O2
 obtain ⟨t3,b3,e3,T3⟩:=jd (n:=n) (sp:=sp) G L.ok
 have q1:b1=b0:=jZ.same H1 H1' O O1 T0 T1
 have q2:b2=b0:=jZ.same H2 H2' O O2 T0 T2
 have q3:b3=true→b0=true:=fun h=>by
  cases b0 with
  |true=>rfl
  |false=>cases h;exact (jZ.le L.hom L.ok T3 T0).elim
 have hd:dep s≤10:=Nat.le_trans G.dep (by decide)
 exact (FM (List.forall_mem_cons.mpr ⟨O,List.forall_mem_cons.mpr ⟨O1,List.forall_mem_cons.mpr ⟨O2,List.forall_mem_cons.mpr ⟨L.ok,fun _ h=>nomatch h⟩⟩⟩⟩)).trans ((FL (List.forall_mem_cons.mpr ⟨e0,List.forall_mem_cons.mpr ⟨e1,List.forall_mem_cons.mpr ⟨e2,List.forall_mem_cons.mpr ⟨e3,fun _ h=>nomatch h⟩⟩⟩⟩)).trans ((FK T0 (q1▸T1) (q2▸T2)).trans (Dy.trans ((Dx T0 T3 q3).trans ((Dw O hd L T3).trans (Dv O O1 O2 L.ok hd T0 T1 T2 T3 fun _ _ _ _ _=>Du T0 e0))))))
end
section
variable {M:Mc} {s:Sy} {sp:Int} {n:Nat} {a0 a1 a2:Option T} {κ:PK aH} {Q:T→Sg→Prop} {ns:List Int}
theorem zC {c:dw}{z:Int}{σ:Sg}:EC c (kF a0 a1 a2 (some (.tup M.fs)) (some (bf s)) (some (.int z)) none none none none none none none none none) σ κ=nH (c.call 64 [.tup M.fs,.int z] σ) fun x σ=>up (cb (.int z) (.int 3)) σ fun y σ=>up (aI (.lst (M.names.map .str))) σ fun l σ=>up (aV y l) σ fun a σ=>nH (c.call 65 [.tup M.fs,a] σ) fun v σ=>up (cb (.int z) (.int 9)) σ fun d σ=>nH (c.call 66 [.tup M.fs,d] σ) fun u σ=>κ (kF a0 a1 a2 (some (.tup M.fs)) (some (bf s)) (some (.int z)) (some (.lst [x,v,u])) none none none none none none none none) σ:=by kernel_rfl
theorem FN (O:M.Ok){z:Int}(h:∀a N,a < M.names.length→nP N M→aY Q (κ (kF a0 a1 a2 (some (.tup M.fs)) (some (bf s)) (some (.int z)) (some (.lst [.tup (M.turn z).fs,.tup (M.dbl a).fs,.tup N.fs])) none none none none none none none none) ⟨sp,none⟩)):
  aY Q (EC ⟨ai Ψ (n+24)⟩ (kF a0 a1 a2 (some (.tup M.fs)) (some (bf s)) (some (.int z)) none none none none none none none none none) ⟨sp,none⟩ κ):=by
 obtain ⟨a,ea,la⟩:=eC (z.fdiv (3:Nat)) (n:=M.names.length) O.pos
 refine vU zC (ig (uo O z (n+23)) (aB (bK z (k:=3) rfl) (aB gY (aB ea (ig (sK O la (n+23)) (aB (bK z (k:=9) rfl) (bM (zt O _ (n+23)) ?_)))))))
 rintro _ _ ⟨rfl,N,rfl,L⟩
 exact h a N la L
theorem BE (hn:ns.length≤63)(O:M.Ok)(h3:M.names.length≤3)(G:Gs s){a5:Option T}:aY (fun t _=>t=.bool true) ((ae ED (ae EC Dt)) ⟨ai Ψ (n+24)⟩ (kF (some (.scr ns)) a1 a2 (some (.tup M.fs)) (some (bf s)) a5 none none none none none none none none none) ⟨sp,none⟩ κ):=by
 obtain ⟨_,_,e,rfl,z,rfl⟩:=t6 (σ:=⟨sp,none⟩) hn 1 (n+23)
 have h5:∀κ:PK aH,ED ⟨ai Ψ (n+24)⟩ (kF (some (.scr ns)) a1 a2 (some (.tup M.fs)) (some (bf s)) a5 none none none none none none none none none) ⟨sp,none⟩ κ=κ (kF (some (.scr ns)) a1 a2 (some (.tup M.fs)) (some (bf s)) (some (.int z)) none none none none none none none none none) ⟨sp,none⟩:=fun κ=>by
  unfold ED
  exact ab rfl (ao e rfl)
 refine vU (h5 _) (FN O fun a N la L=>?_)
 exact ⟨_,_,yR O (yF O z) (Ch O (Nat.le_trans h3 (by decide)) la) G (yE O z) (yG O z) (Cg O a) (Cj O la) L,rfl⟩
theorem FY (hn:ns.length≤63){σ:Sg}(h:∀x y z,Ar x y z→aY Q (κ (kF (some (.scr ns)) a1 (some (kC x y z)) none none none none none none none none none none none none) σ)):aY Q (FZ ⟨ai Ψ (n+24)⟩ (kF (some (.scr ns)) a1 none none none none none none none none none none none none none) σ κ):=by
 unfold FZ
 refine aB rfl (bM (t6 hn 0 (n+23)) ?_)
 rintro _ _ ⟨rfl,c,rfl⟩
 refine bM (wp c (n+23)) ?_
 rintro _ _ ⟨rfl,x,y,z,rfl,N⟩
 exact h x y z N
theorem FW (hn:ns.length≤63){j:Nat}{x y z:Str}(N:Ar x y z)(h:∀(j':Nat) (M:Mc),M.Ok→M.names.length≤3→aY Q (κ (kF (some (.scr ns)) (some .spot) (some (kC x y z)) (some (.tup M.fs)) none none none none none none none none none none none) ⟨(j':Int),none⟩)):aY Q (FX ⟨ai Ψ (n+24)⟩ (kF (some (.scr ns)) (some .spot) (some (kC x y z)) none none none none none none none none none none none none) ⟨(j:Int),none⟩ κ):=by
 unfold FX
 refine aB rfl (aB rfl (aB rfl (bM (sw hn j (n+22) N (most:=3) (by decide) (by decide)) ?_)))
 rintro _ _ ⟨⟨j,rfl⟩,M,rfl,O,h3⟩
 exact h j M O h3
theorem FU (hn:ns.length≤63){j:Nat}{x y z:Str}(N:Ar x y z){a3:Option T}(h:∀(j':Nat) (s:Sy),Gs s→aY Q (κ (kF (some (.scr ns)) (some .spot) (some (kC x y z)) a3 (some (bf s)) none none none none none none none none none none) ⟨(j':Int),none⟩)):aY Q (FV ⟨ai Ψ (n+24)⟩ (kF (some (.scr ns)) (some .spot) (some (kC x y z)) a3 none none none none none none none none none none none) ⟨(j:Int),none⟩ κ):=by
 unfold FV
 refine aB rfl (aB rfl (aB rfl (bM (zj hn N 4 j (n+23) (by decide) (Nat.le_add_left 4 (n+19))) ?_)))
 rintro _ _ ⟨⟨j,rfl⟩,s,rfl,d,g⟩
 refine bM (Cb (Nat.le_trans d (by decide)) g (n+12)) ?_
 rintro _ _ ⟨rfl,s',rfl,d',g',b'⟩
 exact h j s' ⟨Nat.le_trans d' (Nat.le_trans d (by decide)),Nat.le_trans b' (by decide),g'⟩
theorem FQ (hn:ns.length≤63){j:Nat}{a2 a3 a4:Option T}(h:∀(j':Nat) (u:Int),aY Q (κ (kF (some (.scr ns)) (some .spot) a2 a3 a4 (some (.int u)) none none none none none none none none none) ⟨(j':Int),none⟩)):aY Q (FR ⟨ai Ψ (n+24)⟩ (kF (some (.scr ns)) (some .spot) a2 a3 a4 none none none none none none none none none none) ⟨(j:Int),none⟩ κ):=by
 unfold FR
 refine aB rfl (aB rfl (bM (jk hn j (n+23)) ?_))
 rintro _ _ ⟨rfl,u,rfl⟩
 exact h (j+1) u
theorem FO {σ:Sg}{x y z:Str}(N:Ar x y z){u:Int}(G:Gs s){a3:Option T}(h:∀s,Gs s→aY Q (κ (kF a0 a1 (some (kC x y z)) a3 (some (bf s)) (some (.int u)) none none none none none none none none none) σ)):aY Q (FP ⟨ai Ψ (n+24)⟩ (kF a0 a1 (some (kC x y z)) a3 (some (bf s)) (some (.int u)) none none none none none none none none none) σ κ):=by
 unfold FP
 refine aB rfl (aB (cC u (k:=3) (by decide)) (aB (d6 _ _) (eu (fun _=>?_) fun _=>h s G)))
 refine aB rfl (aB (bK u (k:=3) rfl) (aB rfl (bM (wg N _ (n+23)) ?_)))
 rintro _ _ ⟨rfl,q,rfl,Gq⟩
 exact h q Gq
theorem BV (hn:ns.length≤63)(n:Nat):aY (fun t _=>t=.bool true) (tx ⟨ai Ψ (n+24)⟩ (kF (some (.scr ns)) (some .spot) none none none none none none none none none none none none none) ⟨((2:Nat):Int),none⟩ κ):=by
 rw [BW]
 exact FY hn fun x y z N=>FW hn N fun j M O h3=>FU hn N fun j s G=>FQ hn fun j u=>FO N G fun s G=>BE hn O h3 G
end
end
end Mine.L10
namespace Mine.L10
noncomputable section
open PySem
noncomputable def depth:Nat:=16+24
theorem plain (ns:List Int)(h:ns.length≤63):∃s,tx ⟨ai Ψ depth⟩ (frame [.scr ns,.spot] 17) ⟨2,none⟩ (fun _ s=>.ret .none s)=.ret (.bool true) s:=by
 obtain ⟨_,s,e,rfl⟩:=BV h 16 (κ:=fun _ s=>.ret .none s)
 exact ⟨s,e⟩
end
end Mine.L10
end
open PySem PySem.W PyProof.Rows Mine Mine.L10
set_option maxRecDepth 100000
set_option maxHeartbeats 8000000
namespace Mine.L10
theorem xw:(defOf q PySem.Challenge.rw_uf020006_10.row.name).isSome=true:=by kernel_rfl
noncomputable def EI:DefRec:=((defOf q PySem.Challenge.rw_uf020006_10.row.name).get xw).1
theorem DR:defOf q PySem.Challenge.rw_uf020006_10.row.name=some (EI,[]):=by kernel_rfl
theorem DQ:PySem.Challenge.rw_uf020006_10.row.prog.theDef PySem.Challenge.rw_uf020006_10.row.name=some (EI.params,EI.body,EI.scope):=by kernel_rfl
end Mine.L10
theorem PySem.Challenge.cw_uf020006_10_holds : PySem.Challenge.rw_uf020006_10.Holds := by
 refine holds_law Fk fun sd=>?_
 refine holds_open (q:=q) (loose:=[]) (Xt:=Mine.L10.Xt) (XP:=XL q []) (Yf:=Hook.obs Hook.none) (Ya:=Hook.val Hook.none) (YP:=Hook.says Hook.none) (N:=4000) left (Hook.of _) (Hook.keeps _) (fun s e=>xl_of s (Bool.and_eq_true_iff.mp e).1) (fun mg h h' x k=>XL.keeps mg h h' x k) DR DQ (by kernel_rfl) (fun s e=>recFacts_of (Bool.and_eq_true_iff.mp e).2) (by rfl) sd G2 ⟨rfl,rfl,rfl,rfl,rfl,by decide+kernel⟩ ?hw ?hc
 case hw=>w_witness2
 intro w s₀ s₁ mg mb G Y fa o pm cd doc dV kV ho hd hcd hD hmg hg args vals as hpre hlay hrd hwl hlo
 clear Y ho hd hcd hD
 wrow_args hpre hlay hrd hwl hlo
 rename IntsAre _ _=>hI
 rename Heap.IsList _ _ _=>hL
 obtain ⟨σ,hc⟩:=(fun {vs:List Value} {ns:List Int} (_:IntsAre vs ns)=>Mine.L10.plain ns) hI (by omega)
 refine wpAny_mono (wO (pg:=PySem.Challenge.rw_uf020006_10.row.prog) (n:=Mine.L10.depth) (m:=17) (bd:=(sW ke 999).tail) F8 (fun f F e=>BZ e) G.T G.TE (Ac G.T) yM zw rfl rfl rfl rfl rfl (by decide+kernel) rfl rfl rfl BS ⟨by decide,by decide,rfl⟩ hmg hL hI (by omega) hc) (fun v s' q=>?_) fun _ _ q=>q.elim
 obtain ⟨rfl,h',tk,rfl,hk⟩:=q
 exact xg rf (by first |rfl |wrow_post) (.of_eq hg) hk
